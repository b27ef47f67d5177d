import PyProof.Rows.All
import Wide.All
import OpenK.AllK
import Wide.FinOn
import HandS.ForMost
import HandS.ForExc
import HandS.CallSlots
import HandS.IsInst
import HandS.Wide
import HandS.Deep
import HandS.TupAny
import HandS.Conv
import KE.KeyNested
import KE.KDictKeyed
import KE.GoesDict
import HandS.Nested
import HandS.Replace
import HandS.Zip
import HandS.Style
import HandS.Dict
import HandS.NoneIn
import HandS.ExcIs
import KE.RegKIsAll
import KE.KExcIs
import HandS.ExcField
import HandS.ExcInit
import HandS.SuiteRaise
import KE.KMinKey
import HandS.SortKw
import HandS.StrMore
import PyProof.StrLawsFrom
import KE.SortKeyHeap
import HandS.Keys
import HandS.Iter
import HandS.SetKeys
import KE.KDictList
import KE.KDictCopyH
import KE.KDictZip
import KE.KDictItemsList
import HandS.Strs
import HandS.WideBits
import KE.DataCmp
import HandS.Defaults
import HandS.SetFor
import PyProof.ReprRoads
import PyProof.ReprLen
import HandS.Rev
import HandS.SortInts
import HandS.TupSets
import HandS.FStr
import HandS.RaiseFrom
import HandS.ExcInitHot
import KE.GoesRaise
import HandS.Comp
import HandS.More
import KE.KTryMore
import HandS.TryElse
import PyProof.EqKinds
import KE.KDictLoop
import KE.KStateDown
import HandS.Base
import HandS.Call
import HandS.Ends
import HandS.Exc
import HandS.Head0
import HandS.Head1
import HandS.Head2
import HandS.HeadEnd
import HandS.HeadHook1
import HandS.HeadHook2
import PySem.Challenge.RW_slashwise_k25_forms_and_meanings_of_word
import HandS.EndTab
import KE.KNestM
set_option Elab.async false
set_option linter.all false
set_option maxRecDepth 100000
/-! M: defs as functions over plain data. D: data; W: a value (data, a mutable object by its number, a fresh list); O: a mutable object -/
namespace M
open PySem L2
/-- the world, for the texts' hashes -/
class HasW where
  w : World
  tabs : List NdefX.NTab
variable [HasW]
abbrev D := PyData
inductive W where
  | d (x : D)
  | obj (i : Nat)
  | fl (xs : List D)
  | ro (xs : List D)
  | pr (xs : List D) (i : Nat)
inductive O where
  | lst (xs : List D)
  | fz (xs : List D)
  | dct (kvs : List (Str × W))
  | lsw (ws : List W)
  | dcn (kvs : List (D × W))
  | dead
  | ins (c : Str) (fs : List (Str × W))
abbrev Mem := List O
abbrev Env := List (Option W)
structure Exn where
  cls : Str
  fs : List (Str × D)
inductive Res (α : Type) where
  | ok (a : α) (m : Mem)
  | err (e : Exn) (m : Mem)
  | bad
def Res.bind {α β : Type} (r : Res α) (k : α → Mem → Res β) : Res β :=
  match r with
  | .ok a m => k a m
  | .err e m => .err e m
  | .bad => .bad
@[simp] theorem Res.bind_ok {α β : Type} (a : α) (m : Mem) (k : α → Mem → Res β) : (Res.ok a m).bind k = k a m := rfl
@[simp] theorem Res.bind_err {α β : Type} (e : Exn) (m : Mem) (k : α → Mem → Res β) : (Res.err e m : Res α).bind k = .err e m := rfl
@[simp] theorem Res.bind_bad {α β : Type} (k : α → Mem → Res β) : (Res.bad : Res α).bind k = .bad := rfl
/-! ### data on the heap -/
def KL (K : PySem.W.Frag) (a : Addr) (xs : List V) : Prop :=
  ∃ (o : Obj) (its : Array Value) (n : Nat), K.lookup a = some o ∧ o.cls = .type "list" ∧ o.dict = none ∧ o.data = .seq its n ∧ its.size ≤ sizeLine ∧ Vals xs its.toList
def KT (K : PySem.W.Frag) (a : Addr) (xs : List V) : Prop :=
  ∃ (o : Obj) (its : Array Value) (n : Nat), K.lookup a = some o ∧ o.cls = .type "tuple" ∧ o.data = .seq its n ∧ its.size ≤ sizeLine ∧ Vals xs its.toList
def LsI (K : PySem.W.Frag) (lv : List Addr) (H : Hp) (a : Addr) (xs : List V) : Prop := (a ∉ lv ∧ Rd H a (.lst xs)) ∨ KL K a xs
def LsT (lv : List Addr) (H : Hp) (a : Addr) (xs : List V) : Prop := a ∉ lv ∧ H a = some (.lst xs)
def TpI (K : PySem.W.Frag) (lv : List Addr) (H : Hp) (a : Addr) (xs : List V) : Prop := (a ∉ lv ∧ H a = some (.tup xs)) ∨ KT K a xs
mutual
/-- data as a dict's key -/
def nkey : D → Option NestedKey
  | .none => some .none
  | .int i => some (.num i)
  | .str x => some (.text x)
  | .tuple ds => match nkeys ds with
    | some ks => some (.tup ks)
    | none => none
  | _ => none
def nkeys : List D → Option (List NestedKey)
  | [] => some []
  | d :: ds => match nkey d with
    | some k => match nkeys ds with
      | some ks => some (k :: ks)
      | none => none
    | none => none
end
mutual
def nD : D → Bool
  | .list ds => nDs ds
  | .tuple ds => nDs ds
  | .dict _ => false
  | _ => true
def nDs : List D → Bool
  | [] => true
  | d :: ds => nD d && nDs ds
end
mutual
theorem nD_of : ∀ {d : D}, d.canLay0 = true → nD d = true
  | .none, _ => rfl
  | .bool _, _ => rfl
  | .int _, _ => rfl
  | .str _, _ => rfl
  | .list ds, h => nDs_of (ds := ds) (by simpa [PyData.canLay0] using h)
  | .tuple ds, h => nDs_of (ds := ds) (by simpa [PyData.canLay0] using h)
  | .dict _, h => by simp [PyData.canLay0] at h
theorem nDs_of : ∀ {ds : List D}, PyData.canLayAll0 ds = true → nDs ds = true
  | [], _ => rfl
  | d :: ds, h => by
    simp only [PyData.canLayAll0, Bool.and_eq_true] at h
    simp only [nDs, Bool.and_eq_true]
    exact ⟨nD_of h.1, nDs_of h.2⟩
end
/-- what stands at a is the object o -/
def PinO (a : Addr) (o : Obj) : HO := .ext fun h => h.get? a = some o
omit [HasW] in
theorem pin_tbl (a : Addr) (o : Obj) : ∀ ps, PinO a o ≠ .tbl ps := fun ps z => by
  unfold PinO at z
  cases z
/-- a dict that is only read: no mutable thing, or the module's -/
def DctI (K : PySem.W.Frag) (lv : List Addr) (H : Hp) (a : Addr) (o : Obj) : Prop := (a ∉ lv ∧ H a = some (PinO a o)) ∨ K.lookup a = some o
structure DObj (a : Addr) (o : Obj) (es : List DictEntry) : Prop where
  ex : o.ExactDict
  dat : ∃ ea ep, o.data = .dict ea ep ∧ ea.toList = es
  len : es.length ≤ sizeLine
  sm : (a == sysModules) = false
/-- keys that are texts or whole numbers -/
def kof : D → Option Key
  | .str x => some (.inr x)
  | .int i => some (.inl i)
  | _ => none
mutual
inductive Rep (K : PySem.W.Frag) (lv : List Addr) (H : Hp) : V → D → Prop
  | non : Rep K lv H .non .none
  | bl (b : Bool) : Rep K lv H (.bl b) (.bool b)
  | int (i : Int) : Rep K lv H (.int i) (.int i)
  | str (x : Str) : Rep K lv H (.str x) (.str x)
  | lst {a : Addr} {xs : List V} {ds : List D} : LsT lv H a xs → Reps K lv H xs ds → Rep K lv H (.ref a) (.list ds)
  | tup {a : Addr} {xs : List V} {ds : List D} : TpI K lv H a xs → Reps K lv H xs ds → Rep K lv H (.ref a) (.tuple ds)
  | dct {a : Addr} {o : Obj} {es : List DictEntry} {kvs : List (D × D)} : DctI K lv H a o → DObj a o es → RepE K lv H es kvs → (kvs.map (·.1)).Nodup → Rep K lv H (.ref a) (.dict kvs)
inductive Reps (K : PySem.W.Frag) (lv : List Addr) (H : Hp) : List V → List D → Prop
  | nil : Reps K lv H [] []
  | cons {v : V} {vs : List V} {d : D} {ds : List D} : Rep K lv H v d → Reps K lv H vs ds → Reps K lv H (v :: vs) (d :: ds)
inductive RepE (K : PySem.W.Frag) (lv : List Addr) (H : Hp) : List DictEntry → List (D × D) → Prop
  | nil : RepE K lv H [] []
  | text {kd : D} {kk : Key} {kv : Value} {v : V} {u : Value} {d : D} {es : List DictEntry} {kvs : List (D × D)} : kof kd = some kk → keyIs kk kv = true → RelV v u → Rep K lv H v d → RepE K lv H es kvs → RepE K lv H (⟨keyH HasW.w kk, kv, u⟩ :: es) ((kd, d) :: kvs)
  | tup {k : D} {ks : List NestedKey} {b : Addr} {v : V} {u : Value} {d : D} {es : List DictEntry} {kvs : List (D × D)} : nkey k = some (.tup ks) → (NestedKey.tup ks).depth ≤ 8 → Rep K lv H (.ref b) k → RelV v u → Rep K lv H v d → RepE K lv H es kvs →
      RepE K lv H (⟨(NestedKey.tup ks).hash HasW.w, .ref b, u⟩ :: es) ((k, d) :: kvs)
end
/-- an entry's key -/
inductive KeyE (K : PySem.W.Frag) (lv : List Addr) (H : Hp) : DictEntry → D → Prop
  | text {kd : D} {kk : Key} {kv : Value} (u : Value) : kof kd = some kk → keyIs kk kv = true → KeyE K lv H ⟨keyH HasW.w kk, kv, u⟩ kd
  | tup {k : D} {ks : List NestedKey} {b : Addr} (u : Value) : nkey k = some (.tup ks) → (NestedKey.tup ks).depth ≤ 8 → Rep K lv H (.ref b) k → KeyE K lv H ⟨(NestedKey.tup ks).hash HasW.w, .ref b, u⟩ k
/-- a dict's entries, by keys and values -/
abbrev EntV (K : PySem.W.Frag) (lv : List Addr) (H : Hp) : List DictEntry → List (D × V) → Prop := Paired fun e p => KeyE K lv H e p.1 ∧ RelV p.2 e.val
/-- what was held is held -/
structure Mo (lv : List Addr) (H : Hp) (lv' : List Addr) (H' : Hp) : Prop where
  keep : ∀ a o, H a = some o → a ∉ lv → (∀ ps, o ≠ .tbl ps) → H' a = some o
  out : ∀ a o, H a = some o → a ∉ lv → a ∉ lv'
section
variable {K : PySem.W.Frag} {lv lv' : List Addr} {H H' : Hp}
theorem LsI.mono {a : Addr} {xs : List V} (h : LsI K lv H a xs) (m : Mo lv H lv' H') : LsI K lv' H' a xs := by
  rcases h with ⟨n, h | ⟨o, h⟩⟩ | h
  · exact .inl ⟨m.out _ _ h n, .inl (m.keep _ _ h n nofun)⟩
  · exact .inl ⟨m.out _ _ h n, .inr ⟨o, m.keep _ _ h n nofun⟩⟩
  · exact .inr h
theorem LsT.mono {a : Addr} {xs : List V} (h : LsT lv H a xs) (m : Mo lv H lv' H') : LsT lv' H' a xs := ⟨m.out _ _ h.2 h.1, m.keep _ _ h.2 h.1 nofun⟩
theorem LsT.sq {a : Addr} {xs : List V} (h : LsT lv H a xs) : SqL K H a xs := .inl (.inl h.2)
theorem TpI.mono {a : Addr} {xs : List V} (h : TpI K lv H a xs) (m : Mo lv H lv' H') : TpI K lv' H' a xs := by
  rcases h with ⟨n, h⟩ | h
  · exact .inl ⟨m.out _ _ h n, m.keep _ _ h n nofun⟩
  · exact .inr h
theorem LsI.sq {a : Addr} {xs : List V} (h : LsI K lv H a xs) : SqL K H a xs := by
  rcases h with ⟨_, h⟩ | h
  · exact .inl h
  · exact .inr h
theorem TpI.sq {a : Addr} {xs : List V} (h : TpI K lv H a xs) : SqT K H a xs := by
  rcases h with ⟨_, h⟩ | h
  · exact .inl (.inl h)
  · exact .inr h
mutual
theorem Rep.mono (m : Mo lv H lv' H') : ∀ {v : V} {d : D}, Rep K lv H v d → Rep K lv' H' v d
  | _, _, .non => .non
  | _, _, .bl b => .bl b
  | _, _, .int i => .int i
  | _, _, .str x => .str x
  | _, _, .lst h r => .lst (h.mono m) (Reps.mono m r)
  | _, _, .tup h r => .tup (h.mono m) (Reps.mono m r)
  | _, _, .dct h1 h3 r n => .dct (h1.imp (fun ⟨h1, h2⟩ => ⟨m.out _ _ h2 h1, m.keep _ _ h2 h1 (pin_tbl _ _)⟩) id) h3 (RepE.mono m r) n
theorem Reps.mono (m : Mo lv H lv' H') : ∀ {vs : List V} {ds : List D}, Reps K lv H vs ds → Reps K lv' H' vs ds
  | _, _, .nil => .nil
  | _, _, .cons h r => .cons (Rep.mono m h) (Reps.mono m r)
theorem RepE.mono (m : Mo lv H lv' H') : ∀ {es : List DictEntry} {kvs : List (D × D)}, RepE K lv H es kvs → RepE K lv' H' es kvs
  | _, _, .nil => .nil
  | _, _, .text a b q h r => .text a b q (Rep.mono m h) (RepE.mono m r)
  | _, _, .tup a b c q h r => .tup a b (Rep.mono m c) q (Rep.mono m h) (RepE.mono m r)
end
theorem KeyE.mono (m : Mo lv H lv' H') {e : DictEntry} {d : D} (h : KeyE K lv H e d) : KeyE K lv' H' e d := by
  cases h with
  | text u a b => exact .text u a b
  | tup u a b c => exact .tup u a b (Rep.mono m c)
theorem EntV.mono (m : Mo lv H lv' H') {es : List DictEntry} {kvs : List (D × V)} (h : EntV K lv H es kvs) : EntV K lv' H' es kvs := Paired.mono (fun _ _ z => ⟨z.1.mono m, z.2⟩) h
theorem RepE.of : ∀ {es : List DictEntry} {kvv : List (D × V)} {kvs : List (D × D)}, EntV K lv H es kvv → Paired (fun (p : D × V) (q : D × D) => p.1 = q.1 ∧ Rep K lv H p.2 q.2) kvv kvs → RepE K lv H es kvs
  | [], [], [], .nil, .nil => .nil
  | e :: es, p :: kvv, q :: kvs, .cons h t, .cons h' t' => by
    obtain ⟨k, d⟩ := q
    obtain ⟨k', v⟩ := p
    obtain ⟨rfl, h2⟩ := h'
    obtain ⟨h3, h4⟩ := h
    cases h3 with
    | text u a b => exact .text a b h4 h2 (RepE.of t t')
    | tup u a b c => exact .tup a b c h4 h2 (RepE.of t t')
mutual
theorem Rep.dp : ∀ {v : V} {d : D}, Rep K lv H v d → nD d = true → Dp K H v d
  | _, _, .non, _ => .non
  | _, _, .bl b, _ => .bl b
  | _, _, .int i, _ => .int i
  | _, _, .str x, _ => .str x
  | _, _, .lst h r, q => .lst h.sq (Reps.dp r q)
  | _, _, .tup h r, q => .tup h.sq (Reps.dp r q)
  | _, _, .dct _ _ _ _, q => by cases q
theorem Reps.dp : ∀ {vs : List V} {ds : List D}, Reps K lv H vs ds → nDs ds = true → DpAll K H vs ds
  | _, _, .nil, _ => .nil
  | _, _, .cons h r, q => by
    simp only [nDs, Bool.and_eq_true] at q
    exact .cons (Rep.dp h q.1) (Reps.dp r q.2)
end
theorem Reps.length : ∀ {vs : List V} {ds : List D}, Reps K lv H vs ds → vs.length = ds.length
  | _, _, .nil => rfl
  | _, _, .cons _ r => by rw [List.length_cons, List.length_cons, Reps.length r]
theorem Reps.append : ∀ {vs us : List V} {ds es : List D}, Reps K lv H vs ds → Reps K lv H us es → Reps K lv H (vs ++ us) (ds ++ es)
  | _, _, _, _, .nil, s => s
  | _, _, _, _, .cons h r, s => .cons h (Reps.append r s)
theorem Reps.get : ∀ {vs : List V} {ds : List D} {i : Nat} {d : D}, Reps K lv H vs ds → ds[i]? = some d → ∃ v, vs[i]? = some v ∧ Rep K lv H v d
  | _, _, _, _, .nil, e => by simp at e
  | _, _, 0, _, .cons h r, e => by simp at e; subst e; exact ⟨_, rfl, h⟩
  | _, _, i + 1, d, .cons h r, e => by
    obtain ⟨v, h1, h2⟩ := Reps.get (i := i) (d := d) r (by simpa using e)
    exact ⟨v, by simpa using h1, h2⟩
theorem Reps.get' : ∀ {vs : List V} {ds : List D} {i : Nat} {v : V}, Reps K lv H vs ds → vs[i]? = some v → ∃ d, ds[i]? = some d ∧ Rep K lv H v d
  | _, _, _, _, .nil, e => by simp at e
  | _, _, 0, _, .cons h r, e => by simp at e; subst e; exact ⟨_, rfl, h⟩
  | _, _, i + 1, d, .cons h r, e => by
    obtain ⟨v, h1, h2⟩ := Reps.get' (i := i) (v := d) r (by simpa using e)
    exact ⟨v, by simpa using h1, h2⟩
theorem Reps.take : ∀ {vs : List V} {ds : List D} (n : Nat), Reps K lv H vs ds → Reps K lv H (vs.take n) (ds.take n)
  | _, _, 0, _ => .nil
  | _, _, _ + 1, .nil => .nil
  | _, _, n + 1, .cons h r => .cons h (Reps.take n r)
theorem Reps.drop : ∀ {vs : List V} {ds : List D} (n : Nat), Reps K lv H vs ds → Reps K lv H (vs.drop n) (ds.drop n)
  | _, _, 0, r => r
  | _, _, _ + 1, .nil => .nil
  | _, _, n + 1, .cons h r => Reps.drop n r
theorem Reps.set {v : V} {d : D} (h : Rep K lv H v d) : ∀ {vs : List V} {ds : List D} (i : Nat), Reps K lv H vs ds → Reps K lv H (vs.set i v) (ds.set i d)
  | _, _, _, .nil => .nil
  | _, _, 0, .cons _ t => .cons h t
  | _, _, i + 1, .cons q t => .cons q (Reps.set h i t)
theorem Reps.eraseIdx : ∀ {vs : List V} {ds : List D} (i : Nat), Reps K lv H vs ds → Reps K lv H (vs.eraseIdx i) (ds.eraseIdx i)
  | _, _, _, .nil => .nil
  | _, _, 0, .cons _ t => t
  | _, _, i + 1, .cons q t => .cons q (Reps.eraseIdx i t)
theorem Reps.reverse : ∀ {vs : List V} {ds : List D}, Reps K lv H vs ds → Reps K lv H vs.reverse ds.reverse
  | _, _, .nil => .nil
  | _, _, .cons h r => by rw [List.reverse_cons, List.reverse_cons]; exact (Reps.reverse r).append (.cons h .nil)
theorem Reps.one {v : V} {d : D} (h : Rep K lv H v d) : Reps K lv H [v] [d] := .cons h .nil
theorem Reps.ints : ∀ (ns : List Int), Reps K lv H (ns.map V.int) (ns.map PyData.int)
  | [] => .nil
  | n :: ns => .cons (.int n) (Reps.ints ns)
theorem Reps.vstrs : ∀ {vs : List V} {ns : List Str}, Reps K lv H vs (ns.map PyData.str) → vs = ns.map V.str
  | [], [], _ => rfl
  | v :: vs, n :: ns, .cons h r => by cases h; rw [Reps.vstrs r]; rfl
theorem Reps.vbls : ∀ {vs : List V} {ns : List Bool}, Reps K lv H vs (ns.map PyData.bool) → vs = ns.map V.bl
  | [], [], _ => rfl
  | v :: vs, n :: ns, .cons h r => by cases h; rw [Reps.vbls r]; rfl
end
/-! ### the world: the objects' places; those that no data holds (objects that may change, fresh lists); the heap -/
structure Wd where
  io : List Addr
  lv : List Addr
  H : Hp
def RepW (K : PySem.W.Frag) (G : Wd) (v : V) : W → Prop
  | .d x => Rep K G.lv G.H v x
  | .obj i => ∃ a, G.io[i]? = some a ∧ v = .ref a
  | .fl _ => False
  | .ro ds => ∃ a vs, v = .ref a ∧ LsI K G.lv G.H a vs ∧ Reps K G.lv G.H vs ds
  | .pr xs i => ∃ p us a, v = .ref p ∧ TpI K G.lv G.H p (us ++ [.ref a]) ∧ Reps K G.lv G.H us xs ∧ G.io[i]? = some a
def RepR (K : PySem.W.Frag) (H0 : Hp) (G : Wd) (v : V) : W → Prop
  | .d x => Rep K G.lv G.H v x
  | .obj i => ∃ a, G.io[i]? = some a ∧ v = .ref a
  | .fl ds => ∃ p vs, v = .ref p ∧ H0 p = none ∧ p ∉ G.io ∧ p ∈ G.lv ∧ G.H p = some (.lst vs) ∧ Reps K G.lv G.H vs ds
  | .ro ds => ∃ a vs, v = .ref a ∧ LsI K G.lv G.H a vs ∧ Reps K G.lv G.H vs ds
  | .pr xs i => ∃ p us a, v = .ref p ∧ TpI K G.lv G.H p (us ++ [.ref a]) ∧ Reps K G.lv G.H us xs ∧ G.io[i]? = some a
def ORep (K : PySem.W.Frag) (G : Wd) (a : Addr) : O → Prop
  | .lst ds => a ∈ G.lv ∧ ∃ vs, G.H a = some (.lst vs) ∧ Reps K G.lv G.H vs ds
  | .fz ds => a ∉ G.lv ∧ ∃ vs, G.H a = some (.lst vs) ∧ Reps K G.lv G.H vs ds
  | .lsw ws => a ∈ G.lv ∧ ∃ vs, G.H a = some (.lst vs) ∧ Paired (RepW K G) vs ws
  | .dct kvs => a ∈ G.lv ∧ ∃ ks : List (Key × V), G.H a = some (.dK ks) ∧ Paired (fun (p : Key × V) (q : Str × W) => p.1 = Sum.inr q.1 ∧ RepW K G p.2 q.2) ks kvs
  | .dcn kvs => a ∈ G.lv ∧ ∃ (o : Obj) (es : List DictEntry) (kvv : List (D × V)), G.H a = some (PinO a o) ∧ DObj a o es ∧ EntV K G.lv G.H es kvv ∧ Paired (fun (p : D × V) (q : D × W) => p.1 = q.1 ∧ RepW K G p.2 q.2) kvv kvs ∧ (kvs.map (·.1)).Nodup
  | .dead => (∃ vs, G.H a = some (.lst vs)) ∨ ∃ o, G.H a = some (PinO a o)
  | .ins c fs => a ∈ G.lv ∧ ∃ (C dx : Addr) (vs : List (Str × V)), PySem.W.nsIn K mainGlobals c = some (some (.ref C)) ∧ G.H a = some (.ins C dx vs) ∧ Paired (fun (p : Str × V) (q : Str × W) => p.1 = q.1 ∧ RepW K G p.2 q.2) vs fs
def okW (n : Nat) : W → Bool
  | .obj j => decide (j < n)
  | .pr _ j => decide (j < n)
  | .fl _ => false
  | _ => true
def okO (n : Nat) : O → Bool
  | .dct kvs => kvs.all fun p => okW n p.2
  | .lsw ws => ws.all (okW n)
  | .dcn kvs => kvs.all fun p => okW n p.2
  | .ins _ fs => fs.all fun p => okW n p.2
  | _ => true
theorem okW.le {i n : Nat} {w : W} (h : okW i w = true) (hi : i ≤ n) : okW n w = true := by
  cases w with
  | obj j => have h : j < i := by simpa [okW] using h
             show decide (j < n) = true
             exact decide_eq_true (by omega)
  | pr x j => have h : j < i := by simpa [okW] using h
              show decide (j < n) = true
              exact decide_eq_true (by omega)
  | d _ => rfl
  | ro _ => rfl
  | fl _ => cases h
theorem okO.le {i n : Nat} {o : O} (h : okO i o = true) (hi : i ≤ n) : okO n o = true := by
  cases o with
  | lst _ => rfl
  | fz _ => rfl
  | dct kvs =>
    have h : kvs.all (fun p => okW i p.2) = true := h
    show kvs.all (fun p => okW n p.2) = true
    rw [List.all_eq_true] at h ⊢
    exact fun p hp => okW.le (h p hp) hi
  | lsw ws =>
    have h : ws.all (okW i) = true := h
    show ws.all (okW n) = true
    rw [List.all_eq_true] at h ⊢
    exact fun p hp => okW.le (h p hp) hi
  | dead => rfl
  | ins c kvs =>
    have h : kvs.all (fun p => okW i p.2) = true := h
    show kvs.all (fun p => okW n p.2) = true
    rw [List.all_eq_true] at h ⊢
    exact fun p hp => okW.le (h p hp) hi
  | dcn kvs =>
    have h : kvs.all (fun p => okW i p.2) = true := h
    show kvs.all (fun p => okW n p.2) = true
    rw [List.all_eq_true] at h ⊢
    exact fun p hp => okW.le (h p hp) hi
/-- the tables of code objects, and what they tell -/
def TbOk (G : Wd) : Prop := ∀ p ∈ HasW.tabs, p.1 ∉ G.lv ∧ ∃ ps : Array Value, G.H p.1 = some (.tbl ps) ∧ TriplesOk ps.toList ∧ ∀ (pos : Pos) (cv : Value), codeAmong pos ps.toList = some cv → ∃ c, cv = .ref c ∧ c ∉ G.lv ∧ G.H c = some (LamX.CodeO c (p.2 pos.line pos.col))
theorem TbOk.step {G G' : Wd} (h : TbOk G) (e : ∀ a o, G.H a = some o → a ∉ G.lv → G'.H a = some o) (l : ∀ a, G.H a ≠ none → a ∉ G.lv → a ∉ G'.lv) : TbOk G' := fun p hp => by
  obtain ⟨n1, ps, h1, h2, h3⟩ := h p hp
  refine ⟨l _ (by rw [h1]; simp) n1, ps, e _ _ h1 n1, h2, fun pos cv hc => ?_⟩
  obtain ⟨c, rfl, n2, h4⟩ := h3 pos cv hc
  exact ⟨c, rfl, l _ (by rw [h4]; simp) n2, e _ _ h4 n2⟩
theorem TbOk.tabs {G : Wd} (h : TbOk G) : NdefX.TabsN HasW.tabs G.H := fun p hp => by
  obtain ⟨_, ps, h1, h2, h3⟩ := h p hp
  refine ⟨ps, h1, h2, fun pos cv hc => ?_⟩
  obtain ⟨c, e, _, h4⟩ := h3 pos cv hc
  exact ⟨c, e, h4⟩
/-- what may change is no tuple and no table -/
def LvO (o : HO) : Prop := (∀ vs, o ≠ .tup vs) ∧ ∀ ps, o ≠ .tbl ps
omit [HasW] in
theorem lvo_pin (a : Addr) (o : Obj) : LvO (PinO a o) := ⟨(fun vs z => by unfold PinO at z; cases z), pin_tbl a o⟩
structure RelM (K : PySem.W.Frag) (G : Wd) (m : Mem) : Prop where
  dw : ∀ (i : Nat) (o : O), m[i]? = some o → okO m.length o = true
  len : G.io.length = m.length
  nd : G.io.Nodup
  lt : ∀ a ∈ G.lv, G.H a ≠ none
  it : ∀ a ∈ G.io, G.H a ≠ none
  ob : ∀ (i : Nat) (a : Addr) (o : O), G.io[i]? = some a → m[i]? = some o → ORep K G a o
  tb : TbOk G
  nt : ∀ a ∈ G.lv, ∀ o, G.H a = some o → LvO o
structure Le (G G' : Wd) : Prop where
  lt : ∀ a ∈ G.lv, G.H a ≠ none
  io : ∃ κ : List Addr, G'.io = G.io ++ κ ∧ ∀ a ∈ κ, G.H a = none
  lv : ∀ a ∈ G'.lv, a ∈ G.lv ∨ G.H a = none
  stay : ∀ a ∈ G.lv, a ∉ G.io → a ∈ G'.lv
  keep : ∀ a o, G.H a = some o → ¬ (a ∈ G.io ∧ a ∈ G.lv) → (∀ ps, o ≠ .tbl ps) → G'.H a = some o
  tr : ∀ a, G'.H a = none → G.H a = none
theorem Le.refl {K : PySem.W.Frag} {G : Wd} {m : Mem} (R : RelM K G m) : Le G G := ⟨R.lt, ⟨[], by simp, fun _ h => nomatch h⟩, fun _ h => .inl h, fun _ h _ => h, fun _ _ h _ _ => h, fun _ h => h⟩
theorem Le.nio {G G' : Wd} (a : Le G G') {c : Addr} (h : G.H c ≠ none) (n : c ∉ G.io) : c ∉ G'.io := by
  obtain ⟨κ, e, nk⟩ := a.io
  rw [e]
  intro z
  rcases List.mem_append.mp z with z | z
  · exact n z
  · exact h (nk _ z)
theorem Le.nlv {G G' : Wd} (a : Le G G') {c : Addr} (h : G.H c ≠ none) (n : c ∉ G.lv) : c ∉ G'.lv := fun z => by
  rcases a.lv c z with z | z
  · exact n z
  · exact h z
theorem Le.trans {G G1 G2 : Wd} (a : Le G G1) (b : Le G1 G2) : Le G G2 := by
  obtain ⟨κ1, e1, n1⟩ := a.io
  obtain ⟨κ2, e2, n2⟩ := b.io
  refine ⟨a.lt, ⟨κ1 ++ κ2, by rw [e2, e1, List.append_assoc], fun c hc => ?_⟩, fun c hc => ?_, fun c hc n => b.stay c (a.stay c hc n) (a.nio (a.lt c hc) n), fun c o h n nt => ?_, fun c h => a.tr c (b.tr c h)⟩
  · rcases List.mem_append.mp hc with h | h
    · exact n1 c h
    · exact a.tr c (n2 c h)
  · rcases b.lv c hc with h | h
    · exact a.lv c h
    · exact .inr (a.tr c h)
  · have hn : G.H c ≠ none := by rw [h]; simp
    refine b.keep c o (a.keep c o h n nt) (fun ⟨z1, z2⟩ => ?_) nt
    by_cases z : c ∈ G.io
    · exact n ⟨z, Classical.byContradiction fun q => a.nlv hn q z2⟩
    · exact a.nio hn z z1
theorem Le.mo {G G' : Wd} (a : Le G G') : Mo G.lv G.H G'.lv G'.H := ⟨fun c o h n nt => a.keep c o h (fun z => n z.2) nt, fun c o h n => a.nlv (by rw [h]; simp) n⟩
theorem Le.iget {G G' : Wd} (a : Le G G') {i : Nat} {c : Addr} (h : G.io[i]? = some c) : G'.io[i]? = some c := by
  obtain ⟨κ, e, _⟩ := a.io
  rw [e, List.getElem?_append_left (List.getElem?_eq_some_iff.mp h).1]; exact h
section
variable {K : PySem.W.Frag} {G G' : Wd} {H0 H1 : Hp}
theorem RepW.mono {v : V} {w : W} (h : RepW K G v w) (le : Le G G') : RepW K G' v w := by
  cases w with
  | d x => exact Rep.mono le.mo h
  | obj i => obtain ⟨a, h1, h2⟩ := h; exact ⟨a, le.iget h1, h2⟩
  | fl _ => exact h
  | ro ds => obtain ⟨a, vs, h1, h2, h3⟩ := h; exact ⟨a, vs, h1, h2.mono le.mo, h3.mono le.mo⟩
  | pr x i => obtain ⟨p, u, a, h1, h2, h3, h4⟩ := h; exact ⟨p, u, a, h1, h2.mono le.mo, h3.mono le.mo, le.iget h4⟩
theorem RepR.mono {v : V} {w : W} (h : RepR K H0 G v w) (le : Le G G') : RepR K H0 G' v w := by
  cases w with
  | d x => exact Rep.mono le.mo h
  | obj i => obtain ⟨a, h1, h2⟩ := h; exact ⟨a, le.iget h1, h2⟩
  | fl ds =>
    obtain ⟨p, vs, e, h0, h1, h2, h3, r⟩ := h
    have hp : G.H p ≠ none := by rw [h3]; simp
    exact ⟨p, vs, e, h0, le.nio hp h1, le.stay _ h2 h1, le.keep _ _ h3 (fun z => h1 z.1) nofun, Reps.mono le.mo r⟩
  | ro ds => obtain ⟨a, vs, h1, h2, h3⟩ := h; exact ⟨a, vs, h1, h2.mono le.mo, h3.mono le.mo⟩
  | pr x i => obtain ⟨p, u, a, h1, h2, h3, h4⟩ := h; exact ⟨p, u, a, h1, h2.mono le.mo, h3.mono le.mo, le.iget h4⟩
theorem RepR.weak {v : V} {w : W} (h : RepR K H1 G v w) (t : ∀ a, H1 a = none → H0 a = none) : RepR K H0 G v w := by
  cases w with
  | d x => exact h
  | obj i => exact h
  | fl ds => obtain ⟨p, vs, e, h0, r⟩ := h; exact ⟨p, vs, e, t p h0, r⟩
  | ro ds => exact h
  | pr _ _ => exact h
theorem RepW.r {v : V} {w : W} (h : RepW K G v w) : RepR K H0 G v w := by
  cases w with
  | d x => exact h
  | obj i => exact h
  | fl _ => exact False.elim h
  | ro ds => exact h
  | pr _ _ => exact h
theorem ORep.mono {a : Addr} {ob : O} (h : ORep K G a ob) (le : Le G G') (hl : a ∈ G.lv → a ∈ G'.lv) (hl2 : a ∉ G.lv → a ∉ G'.lv) (e : G'.H a = G.H a) : ORep K G' a ob := by
  cases ob with
  | lst ds => obtain ⟨h1, vs, h2, r⟩ := h; exact ⟨hl h1, vs, by rw [e]; exact h2, Reps.mono le.mo r⟩
  | fz ds => obtain ⟨h1, vs, h2, r⟩ := h; exact ⟨hl2 h1, vs, by rw [e]; exact h2, Reps.mono le.mo r⟩
  | dct kvs =>
    obtain ⟨h1, ks, h2, r⟩ := h
    exact ⟨hl h1, ks, by rw [e]; exact h2, Paired.mono (fun _ _ z => ⟨z.1, z.2.mono le⟩) r⟩
  | lsw ws => obtain ⟨h1, vs, h2, r⟩ := h; exact ⟨hl h1, vs, by rw [e]; exact h2, Paired.mono (fun _ _ z => z.mono le) r⟩
  | dcn kvs =>
    obtain ⟨h1, o, es, kvv, h2, h3, h4, r, n⟩ := h
    exact ⟨hl h1, o, es, kvv, by rw [e]; exact h2, h3, h4.mono le.mo, Paired.mono (fun _ _ z => ⟨z.1, z.2.mono le⟩) r, n⟩
  | dead => show (∃ vs, G'.H a = _) ∨ _; rw [e]; exact h
  | ins c kvs => obtain ⟨h1, C, dx, vs, h0, h2, r⟩ := h; exact ⟨hl h1, C, dx, vs, h0, by rw [e]; exact h2, Paired.mono (fun _ _ z => ⟨z.1, z.2.mono le⟩) r⟩
end
/-! ### worlds that grow -/
section
variable {K : PySem.W.Frag} {G G0 : Wd} {m : Mem} {p : Addr} {o : HO}
theorem upd_none {H : Hp} {a : Addr} (e : upd H p o a = none) : H a = none := by
  unfold upd at e
  split at e
  · cases e
  · exact e
theorem RelM.ne (R : RelM K G m) (h : G.H p = none) : p ∉ G.io ∧ p ∉ G.lv := ⟨fun z => R.it p z h, fun z => R.lt p z h⟩
/-- a new thing that is held as data -/
theorem Le.new (R : RelM K G m) (h : G.H p = none) : Le G ⟨G.io, G.lv, upd G.H p o⟩ :=
  ⟨R.lt, ⟨[], by simp, fun _ z => nomatch z⟩, fun _ z => .inl z, fun _ z _ => z, fun a u e _ _ => by show upd G.H p o a = _; rw [upd_ne (ne_of_none e h)]; exact e, fun a e => upd_none e⟩
theorem RelM.new (R : RelM K G m) (h : G.H p = none) : RelM K ⟨G.io, G.lv, upd G.H p o⟩ m := by
  have ne : ∀ a, G.H a ≠ none → a ≠ p := fun a z e => z (e ▸ h)
  refine ⟨R.dw, R.len, R.nd, fun a z => ?_, fun a z => ?_, fun i a ob e1 e2 => (R.ob i a ob e1 e2).mono (Le.new R h) (fun z => z) (fun z => z) ?_, R.tb.step (fun a u e _ => by show upd G.H p o a = _; rw [upd_ne (ne_of_none e h)]; exact e) fun a _ z => z, fun a z u e => R.nt a z u (by
    have e : upd G.H p o a = some u := e
    rw [upd_ne (ne a (R.lt a z))] at e; exact e)⟩
  · show upd G.H p o a ≠ none
    rw [upd_ne (ne a (R.lt a z))]; exact R.lt a z
  · show upd G.H p o a ≠ none
    rw [upd_ne (ne a (R.it a z))]; exact R.it a z
  · exact upd_ne (ne a (R.it a (List.mem_of_getElem? e1)))
/-- a new thing that no data holds -/
theorem Le.newL (R : RelM K G m) (h : G.H p = none) : Le G ⟨G.io, p :: G.lv, upd G.H p o⟩ :=
  ⟨R.lt, ⟨[], by simp, fun _ z => nomatch z⟩, fun a z => by
    rcases List.mem_cons.mp z with z | z
    · exact .inr (z ▸ h)
    · exact .inl z, fun _ z _ => List.mem_cons_of_mem _ z, fun a u e _ _ => by show upd G.H p o a = _; rw [upd_ne (ne_of_none e h)]; exact e, fun a e => upd_none e⟩
theorem RelM.newL (R : RelM K G m) (h : G.H p = none) (ho : LvO o := by first | exact ⟨nofun, nofun⟩ | exact lvo_pin _ _) : RelM K ⟨G.io, p :: G.lv, upd G.H p o⟩ m := by
  have ne : ∀ a, G.H a ≠ none → a ≠ p := fun a z e => z (e ▸ h)
  refine ⟨R.dw, R.len, R.nd, fun a z => ?_, fun a z => ?_, fun i a ob e1 e2 => (R.ob i a ob e1 e2).mono (Le.newL R h) (fun z => List.mem_cons_of_mem _ z) (fun z q => ?_) ?_, R.tb.step (fun a u e _ => by show upd G.H p o a = _; rw [upd_ne (ne_of_none e h)]; exact e) fun a e z q => by
    rcases List.mem_cons.mp q with q | q
    · exact e (q ▸ h)
    · exact z q, fun a z u e => by
    have e : upd G.H p o a = some u := e
    by_cases y : a = p
    · rw [y, upd_same] at e
      cases e
      exact ho
    · rw [upd_ne y] at e
      rcases List.mem_cons.mp z with z | z
      · exact absurd z y
      · exact R.nt a z u e⟩
  · show upd G.H p o a ≠ none
    rcases List.mem_cons.mp z with z | z
    · rw [z, upd_same]; simp
    · rw [upd_ne (ne a (R.lt a z))]; exact R.lt a z
  · show upd G.H p o a ≠ none
    rw [upd_ne (ne a (R.it a z))]; exact R.it a z
  · rcases List.mem_cons.mp q with q | q
    · exact R.it a (List.mem_of_getElem? e1) (q ▸ h)
    · exact z q
  · exact upd_ne (ne a (R.it a (List.mem_of_getElem? e1)))
/-- a fresh list becomes data -/
def Wd.drop (G : Wd) (p : Addr) : Wd := ⟨G.io, G.lv.filter (fun a => decide (a ≠ p)), G.H⟩
theorem mem_drop {a : Addr} : a ∈ (G.drop p).lv ↔ a ∈ G.lv ∧ a ≠ p := by
  show a ∈ G.lv.filter _ ↔ _
  rw [List.mem_filter]; simp
theorem Mo.drop : Mo G.lv G.H (G.drop p).lv (G.drop p).H := ⟨fun _ _ h _ _ => h, fun _ _ _ n z => n (mem_drop.mp z).1⟩
theorem Le.drop (le : Le G0 G) (h0 : G0.H p = none) : Le G0 (G.drop p) :=
  ⟨le.lt, le.io, fun a z => le.lv a (mem_drop.mp z).1, fun a z n => mem_drop.mpr ⟨le.stay a z n, fun e => le.lt a z (e ▸ h0)⟩, le.keep, le.tr⟩
theorem RepW.drop {v : V} {w : W} (h : RepW K G v w) : RepW K (G.drop p) v w := by
  cases w with
  | d x => exact Rep.mono Mo.drop h
  | obj i => exact h
  | fl _ => exact h
  | ro ds => obtain ⟨a, vs, h1, h2, h3⟩ := h; exact ⟨a, vs, h1, h2.mono Mo.drop, h3.mono Mo.drop⟩
  | pr x i => obtain ⟨p, u, a, h1, h2, h3, h4⟩ := h; exact ⟨p, u, a, h1, h2.mono Mo.drop, h3.mono Mo.drop, h4⟩
theorem RelM.drop (R : RelM K G m) (h : p ∉ G.io) : RelM K (G.drop p) m := by
  refine ⟨R.dw, R.len, R.nd, fun a z => R.lt a (mem_drop.mp z).1, R.it, fun i a ob e1 e2 => ?_, R.tb.step (fun _ _ e _ => e) fun a _ z q => z (mem_drop.mp q).1, fun a z => R.nt a (mem_drop.mp z).1⟩
  have q := R.ob i a ob e1 e2
  have ne : a ≠ p := fun e => h (e ▸ List.mem_of_getElem? e1)
  cases ob with
  | lst ds => obtain ⟨h1, vs, h2, r⟩ := q; exact ⟨mem_drop.mpr ⟨h1, ne⟩, vs, h2, Reps.mono Mo.drop r⟩
  | fz ds => obtain ⟨h1, vs, h2, r⟩ := q; exact ⟨fun z => h1 (mem_drop.mp z).1, vs, h2, Reps.mono Mo.drop r⟩
  | dct kvs => obtain ⟨h1, ks, h2, r⟩ := q; exact ⟨mem_drop.mpr ⟨h1, ne⟩, ks, h2, Paired.mono (fun _ _ z => ⟨z.1, z.2.drop⟩) r⟩
  | lsw ws => obtain ⟨h1, vs, h2, r⟩ := q; exact ⟨mem_drop.mpr ⟨h1, ne⟩, vs, h2, Paired.mono (fun _ _ z => z.drop) r⟩
  | dcn kvs =>
    obtain ⟨h1, o, es, kvv, h2, h3, h4, r, n⟩ := q
    exact ⟨mem_drop.mpr ⟨h1, ne⟩, o, es, kvv, h2, h3, h4.mono Mo.drop, Paired.mono (fun _ _ z => ⟨z.1, z.2.drop⟩) r, n⟩
  | dead => exact q
  | ins c kvs => obtain ⟨h1, C, dx, vs, h0, h2, r⟩ := q; exact ⟨mem_drop.mpr ⟨h1, ne⟩, C, dx, vs, h0, h2, Paired.mono (fun _ _ z => ⟨z.1, z.2.drop⟩) r⟩
theorem RepR.drop {v : V} {ds : List D} {H0 : Hp} {p : Addr} {vs : List V} (h3 : G.H p = some (.lst vs)) (r : Reps K G.lv G.H vs ds) : Rep K (G.drop p).lv (G.drop p).H (.ref p) (.list ds) :=
  .lst ⟨fun z => (mem_drop.mp z).2 rfl, h3⟩ (Reps.mono Mo.drop r)
/-- a fresh list becomes an object -/
def Wd.own (G : Wd) (p : Addr) : Wd := ⟨G.io ++ [p], G.lv, G.H⟩
theorem Le.own (le : Le G0 G) (h0 : G0.H p = none) : Le G0 (G.own p) := by
  obtain ⟨κ, e, nk⟩ := le.io
  refine ⟨le.lt, ⟨κ ++ [p], by show G.io ++ [p] = _; rw [e, List.append_assoc], fun a z => ?_⟩, le.lv, le.stay, le.keep, le.tr⟩
  rcases List.mem_append.mp z with z | z
  · exact nk a z
  · rw [List.mem_singleton.mp z]; exact h0
theorem RepW.own {v : V} {w : W} (h : RepW K G v w) : RepW K (G.own p) v w := by
  cases w with
  | d x => exact h
  | obj i =>
    obtain ⟨a, h1, h2⟩ := h
    exact ⟨a, by show (G.io ++ [p])[i]? = _; rw [List.getElem?_append_left (List.getElem?_eq_some_iff.mp h1).1]; exact h1, h2⟩
  | fl _ => exact h
  | ro ds => exact h
  | pr x i =>
    obtain ⟨q, u, a, h1, h2, h3, h4⟩ := h
    exact ⟨q, u, a, h1, h2, h3, by show (G.io ++ [p])[i]? = _; rw [List.getElem?_append_left (List.getElem?_eq_some_iff.mp h4).1]; exact h4⟩
theorem ORep.own {a : Addr} {ob : O} (q : ORep K G a ob) : ORep K (G.own p) a ob := by
  cases ob with
  | lst ds => exact q
  | fz ds => exact q
  | dct kvs => obtain ⟨h1, ks, h2, r⟩ := q; exact ⟨h1, ks, h2, Paired.mono (fun _ _ z => ⟨z.1, z.2.own⟩) r⟩
  | lsw ws => obtain ⟨h1, vs, h2, r⟩ := q; exact ⟨h1, vs, h2, Paired.mono (fun _ _ z => z.own) r⟩
  | dcn kvs =>
    obtain ⟨h1, o, es, kvv, h2, h3, h4, r, n⟩ := q
    exact ⟨h1, o, es, kvv, h2, h3, h4, Paired.mono (fun _ _ z => ⟨z.1, z.2.own⟩) r, n⟩
  | dead => exact q
  | ins c kvs => obtain ⟨h1, C, dx, vs, h0, h2, r⟩ := q; exact ⟨h1, C, dx, vs, h0, h2, Paired.mono (fun _ _ z => ⟨z.1, z.2.own⟩) r⟩
theorem RelM.own {ob : O} (R : RelM K G m) (h : p ∉ G.io) (ht : G.H p ≠ none) (ho : ORep K G p ob) (hd : okO m.length ob = true) : RelM K (G.own p) (m ++ [ob]) := by
  refine ⟨fun i o e => ?_, by show (G.io ++ [p]).length = _; rw [List.length_append, List.length_append, R.len]; rfl, ?_, R.lt, fun a z => ?_, fun i a o e1 e2 => ?_, R.tb.step (fun _ _ e _ => e) fun a _ z => z, R.nt⟩
  · by_cases hi : i < m.length
    · rw [List.getElem?_append_left hi] at e
      exact okO.le (R.dw i o e) (by simp)
    · have hl := (List.getElem?_eq_some_iff.mp e).1
      rw [List.length_append, List.length_singleton] at hl
      have ei : i = m.length := by omega
      subst ei
      rw [List.getElem?_append_right (Nat.le_refl _), Nat.sub_self] at e
      cases e
      exact okO.le hd (by simp)
  · show (G.io ++ [p]).Nodup
    rw [List.nodup_append]
    exact ⟨R.nd, by simp, fun a ha b hb e => h (by rw [← List.mem_singleton.mp hb, ← e]; exact ha)⟩
  · rcases List.mem_append.mp z with z | z
    · exact R.it a z
    · rw [List.mem_singleton.mp z]; exact ht
  · have e1 : (G.io ++ [p])[i]? = some a := e1
    by_cases hi : i < G.io.length
    · rw [List.getElem?_append_left hi] at e1
      rw [List.getElem?_append_left (by rw [← R.len]; exact hi)] at e2
      exact (R.ob i a o e1 e2).own
    · rw [List.getElem?_append_right (by omega)] at e1
      rw [List.getElem?_append_right (by rw [← R.len]; omega)] at e2
      have hj : i - G.io.length = 0 := by
        have := (List.getElem?_eq_some_iff.mp e1).1
        simp at this; omega
      rw [hj] at e1
      rw [← R.len, hj] at e2
      have e1' : p = a := by simpa using e1
      have e2' : ob = o := by simpa using e2
      subst e1' e2'
      exact ho.own
omit [HasW] in
theorem LvO.of {o : HO} (h1 : ∀ vs, o ≠ .tup vs) (h2 : ∀ ps, o ≠ .tbl ps) : LvO o := ⟨h1, h2⟩
theorem ORep.lvo {a : Addr} {ob : O} {u : HO} (q : ORep K G a ob) (hl : a ∈ G.lv) (e : G.H a = some u) : LvO u := by
  have go : ∀ v : HO, G.H a = some v → LvO v → LvO u := fun v h z => by rw [e] at h; cases h; exact z
  cases ob with
  | lst ds => obtain ⟨_, vs, h2, _⟩ := q; exact go _ h2 ⟨nofun, nofun⟩
  | fz ds => exact absurd hl q.1
  | dct kvs => obtain ⟨_, ks, h2, _⟩ := q; exact go _ h2 ⟨nofun, nofun⟩
  | lsw ws => obtain ⟨_, vs, h2, _⟩ := q; exact go _ h2 ⟨nofun, nofun⟩
  | dcn kvs => obtain ⟨_, o, es, kvv, h2, _⟩ := q; exact go _ h2 (lvo_pin _ _)
  | dead =>
    rcases q with ⟨vs, h2⟩ | ⟨o, h2⟩
    · exact go _ h2 ⟨nofun, nofun⟩
    · exact go _ h2 (lvo_pin _ _)
  | ins c fs => obtain ⟨_, C, dx, vs, _, h2, _⟩ := q; exact go _ h2 ⟨nofun, nofun⟩
/-- an object changes -/
theorem Le.mut {i : Nat} (R : RelM K G m) (h1 : G.io[i]? = some p) (h2 : p ∈ G.lv) : Le G ⟨G.io, G.lv, upd G.H p o⟩ :=
  ⟨R.lt, ⟨[], by simp, fun _ z => nomatch z⟩, fun _ z => .inl z, fun _ z _ => z, fun a u e n _ => by
    show upd G.H p o a = _
    rw [upd_ne (fun z => n (by rw [z]; exact ⟨List.mem_of_getElem? h1, h2⟩))]; exact e, fun a e => upd_none e⟩
theorem RelM.mut {i : Nat} {ob : O} (R : RelM K G m) (h1 : G.io[i]? = some p) (h2 : p ∈ G.lv) (ho : ORep K ⟨G.io, G.lv, upd G.H p o⟩ p ob) (hd : okO m.length ob = true) : RelM K ⟨G.io, G.lv, upd G.H p o⟩ (m.set i ob) := by
  have up : ∀ a, G.H a ≠ none → upd G.H p o a ≠ none := fun a z q => z (upd_none q)
  refine ⟨fun j u e => ?_, by rw [List.length_set]; exact R.len, R.nd, fun a z => up a (R.lt a z), fun a z => up a (R.it a z), fun j a u e1 e2 => ?_, R.tb.step (fun a u e n => by
    show upd G.H p o a = _
    rw [upd_ne (fun z => n (by rw [z]; exact h2))]; exact e) fun a _ z => z, fun a z u e => by
    have e : upd G.H p o a = some u := e
    by_cases y : a = p
    · rw [y, upd_same] at e
      cases e
      exact ho.lvo h2 upd_same
    · rw [upd_ne y] at e
      exact R.nt a z u e⟩
  · by_cases hj : i = j
    · subst hj
      have hl := (List.getElem?_eq_some_iff.mp e).1
      rw [List.length_set] at hl
      rw [List.getElem?_set_self hl] at e
      cases e
      rw [List.length_set]
      exact hd
    · rw [List.getElem?_set_ne hj] at e
      rw [List.length_set]
      exact R.dw j u e
  by_cases hj : j = i
  · subst hj
    rw [h1] at e1
    cases e1
    rw [List.getElem?_set_self (by rw [← R.len]; exact (List.getElem?_eq_some_iff.mp h1).1)] at e2
    cases e2
    exact ho
  · rw [List.getElem?_set_ne (fun z => hj z.symm)] at e2
    have na : a ≠ p := fun z => hj ((List.getElem?_inj (List.getElem?_eq_some_iff.mp e1).1 R.nd).mp (by rw [e1, h1, z]))
    exact (R.ob j a u e1 e2).mono (Le.mut R h1 h2) (fun z => z) (fun z => z) (upd_ne na)
/-- an object is frozen: data may hold it -/
theorem Rep.drop {v : V} {x : D} (h : Rep K G.lv G.H v x) : Rep K (G.drop p).lv (G.drop p).H v x := Rep.mono Mo.drop h
end
/-! ### slots -/
structure RelS (K : PySem.W.Frag) (G : Wd) (σ : St) (env : Env) : Prop where
  len : σ.length = env.length
  get : ∀ (i : Nat) (w : W), env[i]? = some (some w) → ∃ v, σ[i]? = some (some v) ∧ RepW K G v w
theorem RelS.mono {K : PySem.W.Frag} {G G' : Wd} {σ : St} {env : Env} (S : RelS K G σ env) (le : Le G G') : RelS K G' σ env :=
  ⟨S.len, fun i w e => let ⟨v, h1, h2⟩ := S.get i w e; ⟨v, h1, h2.mono le⟩⟩
theorem RelS.set {K : PySem.W.Frag} {G : Wd} {σ : St} {env : Env} {v : V} {w : W} {i : Nat} (S : RelS K G σ env) (h : RepW K G v w) : RelS K G (σ.set i (some v)) (env.set i (some w)) := by
  refine ⟨by rw [List.length_set, List.length_set]; exact S.len, fun j u e => ?_⟩
  by_cases hj : j = i
  · subst hj
    have hl : j < env.length := by
      have := (List.getElem?_eq_some_iff.mp e).1
      rwa [List.length_set] at this
    rw [List.getElem?_set_self hl] at e
    cases e
    exact ⟨v, by rw [List.getElem?_set_self (by rw [S.len]; exact hl)], h⟩
  · rw [List.getElem?_set_ne (fun z => hj z.symm)] at e
    obtain ⟨u', h1, h2⟩ := S.get j u e
    exact ⟨u', by rw [List.getElem?_set_ne (fun z => hj z.symm)]; exact h1, h2⟩
/-! ### ends -/
def ExRep (mg : Str → Option Value) (K : PySem.W.Frag) (G : Wd) (c : Value) (d : Option Addr) (e : Exn) : Prop :=
  mg e.cls = some c ∧ ((e.fs = [] ∧ d = none) ∨ ∃ dd fs, e.fs ≠ [] ∧ d = some dd ∧ G.H dd = some (.xd fs) ∧ dd ∉ G.io ∧ Paired (fun (p : Str × V) (q : Str × D) => p.1 = q.1 ∧ Rep K G.lv G.H p.2 q.2) fs e.fs)
def GPost {α β : Type} (X : Cx) (Wx : WX) (σ : St) (G : Wd) (rel : Hp → Wd → β → α → Prop) (r : Res α) (Q : β → Hp → Prop) : Prop :=
  match r with
  | .ok a m => ∀ v G', Le G G' → RelM X.K G' m → rel G.H G' v a → Q v G'.H
  | .err e m => ∀ c d G', Le G G' → RelM X.K G' m → ExRep X.mg X.K G' c d e → Wx c d σ G'.H
  | .bad => False
/-- a relation that may start earlier -/
def Weak {α β : Type} (rel : Hp → Wd → β → α → Prop) : Prop := ∀ H H1 G v a, (∀ p, H1 p = none → H p = none) → rel H1 G v a → rel H G v a
section
variable {X : Cx} {Wx : WX} {σ : St} {G G1 : Wd}
theorem GPost.later {α β : Type} {rel : Hp → Wd → β → α → Prop} (hw : Weak rel) {r : Res α} {Q : β → Hp → Prop} (h : GPost X Wx σ G rel r Q) (le : Le G G1) : GPost X Wx σ G1 rel r Q := by
  cases r with
  | ok a m => exact fun v G' l R q => h v G' (le.trans l) R (hw _ _ _ _ _ le.tr q)
  | err e m => exact fun c d G' l R q => h c d G' (le.trans l) R q
  | bad => exact h
theorem GPost.bind {α β α' β' : Type} {rel : Hp → Wd → β → α → Prop} {rel' : Hp → Wd → β' → α' → Prop} (hw : Weak rel') {r : Res α} {k : α → Mem → Res α'} {Q : β → Hp → Prop} {Q' : β' → Hp → Prop}
    (h : GPost X Wx σ G rel' (r.bind k) Q')
    (hk : ∀ a m v G1, Le G G1 → RelM X.K G1 m → rel G.H G1 v a → GPost X Wx σ G1 rel' (k a m) Q' → Q v G1.H) : GPost X Wx σ G rel r Q := by
  cases r with
  | ok a m => exact fun v G1 le R q => hk a m v G1 le R q (GPost.later hw h le)
  | err e m => exact h
  | bad => exact h
theorem weakR {K : PySem.W.Frag} : Weak (RepR K) := fun _ _ _ _ _ t h => h.weak t
def relEq {α : Type} : Hp → Wd → α → α → Prop := fun _ _ v a => v = a
theorem weakEq {α : Type} : Weak (relEq (α := α)) := fun _ _ _ _ _ _ h => h
def RepRs (K : PySem.W.Frag) (H0 : Hp) (G : Wd) (vs : List V) (ws : List W) : Prop := Paired (RepR K H0 G) vs ws
theorem RepRs.mono {K : PySem.W.Frag} {H0 : Hp} {G G' : Wd} {vs : List V} {ws : List W} (h : RepRs K H0 G vs ws) (le : Le G G') : RepRs K H0 G' vs ws := Paired.mono (fun _ _ z => z.mono le) h
end
/-! ### judgements -/
def ME (X : Cx) (Wx : WX) (e : Expr) (f : Env → Mem → Res W) : Prop :=
  ∃ t, PE X e t ∧ ∀ env m σ G Q, RelS X.K G σ env → RelM X.K G m → GPost X Wx σ G (RepR X.K) (f env m) Q → t σ G.H Q
def MT (X : Cx) (Wx : WX) (e : Expr) (f : Env → Mem → Res Bool) : Prop :=
  ∃ t, PT X e t ∧ ∀ env m σ G Q, RelS X.K G σ env → RelM X.K G m → GPost X Wx σ G relEq (f env m) Q → t σ G.H Q
def MP (X : Cx) (Wx : WX) (e : Expr) (f : Env → Mem → Res Bool) : Prop :=
  ∃ t, PW X e t ∧ ∀ env m σ G Q, RelS X.K G σ env → RelM X.K G m → GPost X Wx σ G relEq (f env m) Q → t σ G.H Q
def MA (X : Cx) (Wx : WX) (es : List Expr) (f : Env → Mem → Res (List W)) : Prop :=
  ∃ t, PA X es t ∧ ∀ env m σ G Q, RelS X.K G σ env → RelM X.K G m → GPost X Wx σ G (RepRs X.K) (f env m) Q → t σ G.H Q
inductive SRes where
  | nx (env : Env) (m : Mem)
  | bk (env : Env) (m : Mem)
  | ct (env : Env) (m : Mem)
  | rt (w : W) (m : Mem)
  | err (e : Exn) (env : Env) (m : Mem)
  | bad
def SPost (X : Cx) (Wx : WX) (G : Wd) (r : SRes) (E : Ends) : Prop :=
  match r with
  | .nx env m => ∀ σ' G', Le G G' → RelM X.K G' m → RelS X.K G' σ' env → E.nx σ' G'.H
  | .bk env m => ∀ σ' G', Le G G' → RelM X.K G' m → RelS X.K G' σ' env → E.bk σ' G'.H
  | .ct env m => ∀ σ' G', Le G G' → RelM X.K G' m → RelS X.K G' σ' env → E.ct σ' G'.H
  | .rt w m => ∀ v G', Le G G' → RelM X.K G' m → RepR X.K G.H G' v w → E.rt v G'.H
  | .err e env m => ∀ c d σ' G', Le G G' → RelM X.K G' m → RelS X.K G' σ' env → ExRep X.mg X.K G' c d e → Wx c d σ' G'.H
  | .bad => False
def MS (X : Cx) (Wx : WX) (st : Stmt) (f : Env → Mem → SRes) : Prop :=
  ∃ t, PS X st t ∧ ∀ env m σ G E, RelS X.K G σ env → RelM X.K G m → SPost X Wx G (f env m) E → t E σ G.H
def MB (X : Cx) (Wx : WX) (st : List Stmt) (f : Env → Mem → SRes) : Prop :=
  ∃ t, PSs X st t ∧ ∀ env m σ G E, RelS X.K G σ env → RelM X.K G m → SPost X Wx G (f env m) E → t E σ G.H
theorem SPost.later {X : Cx} {Wx : WX} {G G1 : Wd} {r : SRes} {E : Ends} (h : SPost X Wx G r E) (le : Le G G1) : SPost X Wx G1 r E := by
  cases r with
  | nx env m => exact fun σ' G' l R S => h σ' G' (le.trans l) R S
  | bk env m => exact fun σ' G' l R S => h σ' G' (le.trans l) R S
  | ct env m => exact fun σ' G' l R S => h σ' G' (le.trans l) R S
  | rt w m => exact fun v G' l R q => h v G' (le.trans l) R (q.weak le.tr)
  | err e env m => exact fun c d σ' G' l R S q => h c d σ' G' (le.trans l) R S q
  | bad => exact h
end M
set_option Elab.async false
set_option linter.all false
set_option maxRecDepth 100000
namespace M
open PySem L2
variable [HasW]
abbrev EF := Env → Mem → Res W
abbrev TF := Env → Mem → Res Bool
abbrev AF := Env → Mem → Res (List W)
abbrev SF := Env → Mem → SRes
/-! ### values seen -/
def asL (w : W) (m : Mem) : Option (List D) :=
  match w with
  | .d (.list ds) => some ds
  | .fl ds => some ds
  | .ro ds => some ds
  | .obj i => match m[i]? with
    | some (.lst ds) => some ds
    | some (.fz ds) => some ds
    | _ => none
  | _ => none
/-- a list that is tracked (not the script) -/
def asT (w : W) (m : Mem) : Option (List D) :=
  match w with
  | .ro _ => none
  | w => asL w m
def asD (w : W) (m : Mem) : Option D :=
  match w with
  | .d x => some x
  | w => (asL w m).map PyData.list
section
variable {K : PySem.W.Frag} {G : Wd} {m : Mem} {H0 : Hp} {v : V} {w : W}
theorem asT_sq (R : RelM K G m) (h : RepR K H0 G v w) {ds : List D} (e : asT w m = some ds) : ∃ a vs, v = .ref a ∧ G.H a = some (.lst vs) ∧ Reps K G.lv G.H vs ds := by
  cases w with
  | d x =>
    cases x with
    | list xs =>
      have e : xs = ds := by simpa [asT, asL] using e
      subst e
      cases h with
      | lst h r => exact ⟨_, _, rfl, h.2, r⟩
    | _ => simp [asT, asL] at e
  | fl xs =>
    have e : xs = ds := by simpa [asT, asL] using e
    subst e
    obtain ⟨p, vs, e, _, _, _, h3, r⟩ := h
    exact ⟨p, vs, e, h3, r⟩
  | ro xs => simp [asT] at e
  | obj i =>
    obtain ⟨a, h1, h2⟩ := h
    simp only [asT, asL] at e
    cases q : m[i]? with
    | none => rw [q] at e; cases e
    | some o =>
      rw [q] at e
      have ob := R.ob i a o h1 q
      cases o with
      | lst xs => cases e; obtain ⟨_, vs, h3, r⟩ := ob; exact ⟨a, vs, h2, h3, r⟩
      | fz xs => cases e; obtain ⟨_, vs, h3, r⟩ := ob; exact ⟨a, vs, h2, h3, r⟩
      | _ => cases e
  | pr x i => simp [asT, asL] at e
theorem asL_sq (R : RelM K G m) (h : RepR K H0 G v w) {ds : List D} (e : asL w m = some ds) : ∃ a vs, v = .ref a ∧ SqL K G.H a vs ∧ Reps K G.lv G.H vs ds := by
  cases w with
  | ro xs =>
    have e : xs = ds := by simpa [asL] using e
    subst e
    obtain ⟨a, vs, h1, h2, h3⟩ := h
    exact ⟨a, vs, h1, h2.sq, h3⟩
  | d x => obtain ⟨a, vs, h1, h2, h3⟩ := asT_sq (w := .d x) R h e; exact ⟨a, vs, h1, .of h2, h3⟩
  | fl x => obtain ⟨a, vs, h1, h2, h3⟩ := asT_sq (w := .fl x) R h e; exact ⟨a, vs, h1, .of h2, h3⟩
  | obj x => obtain ⟨a, vs, h1, h2, h3⟩ := asT_sq (w := .obj x) R h e; exact ⟨a, vs, h1, .of h2, h3⟩
  | pr x i => simp [asL] at e
theorem asD_dp (R : RelM K G m) (h : RepR K H0 G v w) {x : D} (e : asD w m = some x) (cl : nD x = true) : Dp K G.H v x := by
  have lst : ∀ ds, nD (.list ds) = true → asL w m = some ds → Dp K G.H v (.list ds) := fun ds cl e => by
    obtain ⟨a, vs, rfl, h2, h3⟩ := asL_sq R h e
    exact .lst h2 (h3.dp cl)
  have go : (asL w m).map PyData.list = some x → Dp K G.H v x := fun e => by
    cases q : asL w m with
    | none => rw [q] at e; cases e
    | some ds => rw [q] at e; cases e; exact lst ds cl q
  cases w with
  | pr y i => exact go e
  | d y => cases e; exact Rep.dp h cl
  | obj i => exact go e
  | fl i => exact go e
  | ro i => exact go e
end
section
variable {X : Cx} {Wx : WX}
/-- an end without a change -/
theorem fin {σ : St} {G : Wd} {m : Mem} {Q : VK} {w : W} {v : V} (R : RelM X.K G m) (h : GPost X Wx σ G (RepR X.K) (.ok w m) Q) (r : RepR X.K G.H G v w) : Q v G.H := h v G (Le.refl R) R r
theorem finD {σ : St} {G : Wd} {m : Mem} {Q : VK} {x : D} {v : V} (R : RelM X.K G m) (h : GPost X Wx σ G (RepR X.K) (.ok (.d x) m) Q) (r : Rep X.K G.lv G.H v x) : Q v G.H := h v G (Le.refl R) R r
/-- a new tuple -/
theorem finT {σ : St} {G : Wd} {m : Mem} {Q : VK} {ds : List D} {vs : List V} {p : Addr} (R : RelM X.K G m) (h : GPost X Wx σ G (RepR X.K) (.ok (.d (.tuple ds)) m) Q) (r : Reps X.K G.lv G.H vs ds) (hp : G.H p = none) : Q (.ref p) (upd G.H p (.tup vs)) := by
  have le : Le G ⟨G.io, G.lv, upd G.H p (.tup vs)⟩ := Le.new R hp
  exact h (.ref p) _ le (R.new hp) (Rep.tup (.inl ⟨(R.ne hp).2, upd_same⟩) (Reps.mono le.mo r))
/-- a new list -/
theorem finL {σ : St} {G : Wd} {m : Mem} {Q : VK} {ds : List D} {vs : List V} {p : Addr} (R : RelM X.K G m) (h : GPost X Wx σ G (RepR X.K) (.ok (.fl ds) m) Q) (r : Reps X.K G.lv G.H vs ds) (hp : G.H p = none) : Q (.ref p) (upd G.H p (.lst vs)) := by
  have le : Le G ⟨G.io, p :: G.lv, upd G.H p (.lst vs)⟩ := Le.newL R hp
  exact h (.ref p) _ le (R.newL hp) ⟨p, vs, rfl, hp, (R.ne hp).1, List.mem_cons_self, upd_same, Reps.mono le.mo r⟩
/-! ### names, constants -/
def eVar (i : Nat) (env : Env) (m : Mem) : Res W := match env[i]? with
  | some (some w) => .ok w m
  | _ => .bad
def eC (x : D) (_ : Env) (m : Mem) : Res W := .ok (.d x) m
theorem me_var (i : Nat) {x : Str} {pos : Pos} (hN : X.N[i]? = some x := by rfl) (hv : Vis X.env.scope x := by first | exact Or.inl rfl | exact Or.inr (Or.inl rfl) | exact Or.inr (Or.inr rfl)) (hd : (x == ("__debug__" : Str)) = false := by decide)
    (hcd : (x == ("__classdict__" : Str)) = false := by decide) : ME X Wx (.Name x pos) (eVar i) := by
  refine ⟨_, pe_var hN hv hd hcd, fun env m σ G Q S R h => ?_⟩
  unfold eVar at h
  cases e : env[i]? with
  | none => rw [e] at h; exact False.elim h
  | some o =>
    cases o with
    | none => rw [e] at h; exact False.elim h
    | some w =>
      rw [e] at h
      obtain ⟨v, h1, h2⟩ := S.get i w e
      exact ⟨v, h1, fin R h h2.r⟩
theorem me_int {i : Int} {j pos} : ME X Wx (.Constant (.int i) j pos) (eC (.int i)) := ⟨_, pe_int, fun env m σ G Q S R h => finD R h (.int i)⟩
theorem me_str {i : Str} {j pos} : ME X Wx (.Constant (.str i) j pos) (eC (.str i)) := ⟨_, pe_str, fun env m σ G Q S R h => finD R h (.str i)⟩
theorem me_bl {i : Bool} {j pos} : ME X Wx (.Constant (.bool i) j pos) (eC (.bool i)) := ⟨_, pe_bl, fun env m σ G Q S R h => finD R h (.bl i)⟩
theorem me_non {j pos} : ME X Wx (.Constant .none j pos) (eC .none) := ⟨_, pe_non, fun env m σ G Q S R h => finD R h .non⟩
/-! ### operators -/
def OpOk (X : Cx) (Wx : WX) (r : R2) (g : W → W → Mem → Res W) : Prop :=
  ∀ (σ : St) (G : Wd) (m : Mem) (v u : V) (x y : W) (H0 H1 : Hp) (Q : VK), RelM X.K G m → RepR X.K H0 G v x → RepR X.K H1 G u y → GPost X Wx σ G (RepR X.K) (g x y m) Q → r v u G.H Q
def eOp (g : W → W → Mem → Res W) (a b : EF) (env : Env) (m : Mem) : Res W := (a env m).bind fun x m1 => (b env m1).bind fun y m2 => g x y m2
theorem two {a b : Expr} {ta tb : TE} {fa fb : EF} {g : W → W → Mem → Res W} {r : R2} (hg : OpOk X Wx r g) (qa : ∀ env m σ G Q, RelS X.K G σ env → RelM X.K G m → GPost X Wx σ G (RepR X.K) (fa env m) Q → ta σ G.H Q)
    (qb : ∀ env m σ G Q, RelS X.K G σ env → RelM X.K G m → GPost X Wx σ G (RepR X.K) (fb env m) Q → tb σ G.H Q) (env : Env) (m : Mem) (σ : St) (G : Wd) (Q : VK) (S : RelS X.K G σ env) (R : RelM X.K G m)
    (h : GPost X Wx σ G (RepR X.K) (eOp g fa fb env m) Q) : tOp r ta tb σ G.H Q := by
  refine qa env m σ G _ S R (GPost.bind weakR h fun x m1 v G1 le1 R1 q1 h1 => ?_)
  refine qb env m1 σ G1 _ (S.mono le1) R1 (GPost.bind weakR h1 fun y m2 u G2 le2 R2 q2 h2 => ?_)
  exact hg σ G2 m2 v u x y _ _ Q R2 (q1.mono le2) q2 h2
theorem me_op {op : Operator} {r : R2} {g : W → W → Mem → Res W} {a b : Expr} {fa fb : EF} {pos : Pos} (ho : OpR X (binaryOp op) r) (hg : OpOk X Wx r g) (ha : ME X Wx a fa) (hb : ME X Wx b fb) : ME X Wx (.BinOp a op b pos) (eOp g fa fb) := by
  obtain ⟨ta, pa, qa⟩ := ha
  obtain ⟨tb, pb, qb⟩ := hb
  exact ⟨_, pe_op ho pa pb, fun env m σ G Q S R h => two (a := a) (b := b) hg qa qb env m σ G Q S R h⟩
theorem me_cmp {op : CmpOp} {r : R2} {g : W → W → Mem → Res W} {a b : Expr} {fa fb : EF} {pos : Pos} (ho : OpR X (compareOp op) r) (hg : OpOk X Wx r g) (ha : ME X Wx a fa) (hb : ME X Wx b fb) (hm : behindInMarks op b = false := by first | exact nomark _ | with_unfolding_all rfl) :
    ME X Wx (.Compare a [op] [b] pos) (eOp g fa fb) := by
  obtain ⟨ta, pa, qa⟩ := ha
  obtain ⟨tb, pb, qb⟩ := hb
  exact ⟨_, pe_cmpR ho pa pb hm, fun env m σ G Q S R h => two (a := a) (b := b) hg qa qb env m σ G Q S R h⟩
/-- a value as a bool -/
def tBool (f : EF) (env : Env) (m : Mem) : Res Bool := (f env m).bind fun w m1 => match w with
  | .d (.bool b) => .ok b m1
  | _ => .bad
theorem boolQ {σ : St} {G : Wd} {r : Res W} {Q : Bool → Hp → Prop} (h : GPost X Wx σ G relEq (r.bind fun w m1 => match w with | .d (.bool b) => .ok b m1 | _ => .bad) Q) : GPost X Wx σ G (RepR X.K) r (fun x H' => ∃ k, x = .bl k ∧ Q k H') := by
  refine GPost.bind weakEq h fun w m1 v G1 le1 R1 q1 h1 => ?_
  cases w with
  | d x =>
    cases x with
    | bool b => cases q1; exact ⟨b, rfl, h1 b G1 (Le.refl R1) R1 rfl⟩
    | _ => exact False.elim h1
  | _ => exact False.elim h1
theorem mt_cmp {op : CmpOp} {r : R2} {g : W → W → Mem → Res W} {a b : Expr} {fa fb : EF} {pos : Pos} (ho : OpR X (compareOp op) r) (hg : OpOk X Wx r g) (ha : ME X Wx a fa) (hb : ME X Wx b fb) (hm : behindInMarks op b = false := by first | exact nomark _ | with_unfolding_all rfl) :
    MT X Wx (.Compare a [op] [b] pos) (tBool (eOp g fa fb)) := by
  obtain ⟨ta, pa, qa⟩ := ha
  obtain ⟨tb, pb, qb⟩ := hb
  exact ⟨_, pt_cmpR ho pa pb hm, fun env m σ G Q S R h => two (a := a) (b := b) hg qa qb env m σ G _ S R (boolQ h)⟩
/-! ### tests -/
def truW (w : W) (m : Mem) : Option Bool :=
  match w with
  | .d .none => some false
  | .d (.bool b) => some b
  | .d (.int i) => some (i != 0)
  | .d (.str x) => if x.length ≤ sizeLine then some ((x.length : Int) != 0) else none
  | .d (.tuple ds) => some (!ds.isEmpty)
  | w => (asL w m).map fun ds => !ds.isEmpty
def tTru (f : EF) (env : Env) (m : Mem) : Res Bool := (f env m).bind fun w m1 => match truW w m1 with
  | some b => .ok b m1
  | none => .bad
theorem Reps.isEmpty {K : PySem.W.Frag} {lv : List Addr} {H : Hp} {vs : List V} {ds : List D} (r : Reps K lv H vs ds) : vs.isEmpty = ds.isEmpty := by cases r <;> rfl
theorem truW_ok {G : Wd} {m : Mem} {H0 : Hp} {v : V} {w : W} {b : Bool} (R : RelM X.K G m) (h : RepR X.K H0 G v w) (e : truW w m = some b) : TruV X.K v G.H b := by
  have lst : (asL w m).map (fun ds => !ds.isEmpty) = some b → TruV X.K v G.H b := fun e => by
    cases q : asL w m with
    | none => rw [q] at e; cases e
    | some ds =>
      rw [q] at e
      cases e
      obtain ⟨a, vs, rfl, h2, h3⟩ := asL_sq R h q
      exact .inl ⟨vs, h2, by rw [h3.isEmpty]⟩
  cases w with
  | d x =>
    cases x with
    | none => cases e; cases h; exact rfl
    | bool c => cases e; cases h; exact rfl
    | int i => cases e; cases h; exact rfl
    | str z =>
      cases h
      simp only [truW] at e
      split at e
      · rename_i hz
        cases e
        exact ⟨hz, rfl⟩
      · cases e
    | tuple ds =>
      cases e
      cases h with
      | tup h r => exact .inr (.inl ⟨_, h.sq, by rw [r.isEmpty]⟩)
    | list ds => exact lst e
    | dict kvs => exact lst e
  | obj i => exact lst e
  | fl i => exact lst e
  | ro i => exact lst e
  | pr x i => exact lst e
theorem mt_tru {a : Expr} {f : EF} (ha : ME X Wx a f) (he : ∀ whole, isTrue a X.env whole = (do let v ← whole; standAt a.pos; holding [v] (truthy v)) := by intro _; rfl) : MT X Wx a (tTru f) := by
  obtain ⟨ta, pa, qa⟩ := ha
  refine ⟨_, pt_truth pa he, fun env m σ G Q S R h => qa env m σ G _ S R (GPost.bind weakEq h fun w m1 v G1 le1 R1 q1 h1 => ?_)⟩
  cases e : truW w m1 with
  | none => rw [e] at h1; exact False.elim h1
  | some b => rw [e] at h1; exact ⟨b, truW_ok R1 q1 e, h1 b G1 (Le.refl R1) R1 rfl⟩
def tAndF (a b : TF) (env : Env) (m : Mem) : Res Bool := (a env m).bind fun x m1 => if x = true then b env m1 else .ok false m1
def tOrF (a b : TF) (env : Env) (m : Mem) : Res Bool := (a env m).bind fun x m1 => if x = true then .ok true m1 else b env m1
def tNotF (a : TF) (env : Env) (m : Mem) : Res Bool := (a env m).bind fun x m1 => .ok (!x) m1
theorem MP.mt {e : Expr} {f : TF} (h : MP X Wx e f) : MT X Wx e f := let ⟨t, p, q⟩ := h; ⟨t, p.pt, q⟩
theorem mp_and1 {a : Expr} {f : TF} {pos : Pos} (h : MT X Wx a f) : MP X Wx (.BoolOp .And [a] pos) f := let ⟨t, p, q⟩ := h; ⟨t, pw_and1 p, q⟩
theorem mp_or1 {a : Expr} {f : TF} {pos : Pos} (h : MT X Wx a f) : MP X Wx (.BoolOp .Or [a] pos) f := let ⟨t, p, q⟩ := h; ⟨t, pw_or1 p, q⟩
theorem mp_and {a b : Expr} {rest : List Expr} {f g : TF} {pos : Pos} (h : MT X Wx a f) (h' : MP X Wx (.BoolOp .And (b :: rest) pos) g) : MP X Wx (.BoolOp .And (a :: b :: rest) pos) (tAndF f g) := by
  obtain ⟨ta, pa, qa⟩ := h
  obtain ⟨tb, pb, qb⟩ := h'
  refine ⟨_, pw_and pa pb, fun env m σ G Q S R h => qa env m σ G _ S R (GPost.bind weakEq h fun b m1 v G1 le1 R1 q1 h1 => ?_)⟩
  rw [show v = b from q1]
  cases b with
  | true => exact iteT (qb env m1 σ G1 Q (S.mono le1) R1 h1)
  | false => exact iteF (h1 false G1 (Le.refl R1) R1 rfl)
theorem mp_or {a b : Expr} {rest : List Expr} {f g : TF} {pos : Pos} (h : MT X Wx a f) (h' : MP X Wx (.BoolOp .Or (b :: rest) pos) g) : MP X Wx (.BoolOp .Or (a :: b :: rest) pos) (tOrF f g) := by
  obtain ⟨ta, pa, qa⟩ := h
  obtain ⟨tb, pb, qb⟩ := h'
  refine ⟨_, pw_or pa pb, fun env m σ G Q S R h => qa env m σ G _ S R (GPost.bind weakEq h fun b m1 v G1 le1 R1 q1 h1 => ?_)⟩
  rw [show v = b from q1]
  cases b with
  | true => exact iteT (h1 true G1 (Le.refl R1) R1 rfl)
  | false => exact iteF (qb env m1 σ G1 Q (S.mono le1) R1 h1)
theorem mt_not {a : Expr} {f : TF} {pos : Pos} (h : MT X Wx a f) : MT X Wx (.UnaryOp .Not a pos) (tNotF f) := by
  obtain ⟨ta, pa, qa⟩ := h
  refine ⟨_, pt_not pa, fun env m σ G Q S R h => qa env m σ G _ S R (GPost.bind weakEq h fun b m1 v G1 le1 R1 q1 h1 => ?_)⟩
  rw [show v = b from q1]
  exact h1 (!b) G1 (Le.refl R1) R1 rfl
/-! .. as values -/
def eAnd (a b : EF) (env : Env) (m : Mem) : Res W := (tBool a env m).bind fun x m1 => if x = true then b env m1 else .ok (.d (.bool false)) m1
theorem me_one {op} {a : Expr} {f : EF} {pos : Pos} (h : ME X Wx a f) : ME X Wx (.BoolOp op [a] pos) f := let ⟨t, p, q⟩ := h; ⟨t, pe_one p, q⟩
theorem bind_bind {α β γ : Type} (r : Res α) (k : α → Mem → Res β) (k' : β → Mem → Res γ) : (r.bind k).bind k' = r.bind fun a m => (k a m).bind k' := by cases r <;> rfl
theorem me_and {a b : Expr} {rest : List Expr} {f g : EF} {pos : Pos} (h : ME X Wx a f) (h' : ME X Wx (.BoolOp .And (b :: rest) pos) g) : ME X Wx (.BoolOp .And (a :: b :: rest) pos) (eAnd f g) := by
  obtain ⟨ta, pa, qa⟩ := h
  obtain ⟨tb, pb, qb⟩ := h'
  refine ⟨_, pe_and pa pb, fun env m σ G Q S R h => ?_⟩
  unfold eAnd tBool at h
  rw [bind_bind] at h
  refine qa env m σ G _ S R (GPost.bind weakR h fun w m1 v G1 le1 R1 q1 h1 => ?_)
  cases w with
  | d x =>
    cases x with
    | bool c =>
      cases q1
      refine ⟨c, rfl, ?_⟩
      cases c with
      | true => exact iteT (qb env m1 σ G1 Q (S.mono le1) R1 h1)
      | false => exact iteF (finD R1 h1 (.bl false))
    | _ => exact False.elim h1
  | _ => exact False.elim h1
/-! ### fresh lists: as data, as objects -/
def eFrz (f : EF) (env : Env) (m : Mem) : Res W := (f env m).bind fun w m1 => match w with
  | .fl ds => .ok (.d (.list ds)) m1
  | w => .ok w m1
def eObj (f : EF) (env : Env) (m : Mem) : Res W := (f env m).bind fun w m1 => match w with
  | .fl ds => .ok (.obj m1.length) (m1 ++ [.lst ds])
  | w => .ok w m1
theorem GPost.bind0 {σ : St} {G : Wd} {α β α' β' : Type} {rel : Hp → Wd → β → α → Prop} {rel' : Hp → Wd → β' → α' → Prop} {r : Res α} {k : α → Mem → Res α'} {Q : β → Hp → Prop} {Q' : β' → Hp → Prop}
    (h : GPost X Wx σ G rel' (r.bind k) Q')
    (hk : ∀ a m v G1, Le G G1 → RelM X.K G1 m → rel G.H G1 v a → GPost X Wx σ G rel' (k a m) Q' → Q v G1.H) : GPost X Wx σ G rel r Q := by
  cases r with
  | ok a m => exact fun v G1 le R q => hk a m v G1 le R q h
  | err e m => exact h
  | bad => exact h
theorem GPost.bind1 {σ : St} {G G1 : Wd} {α β α' β' : Type} {rel : Hp → Wd → β → α → Prop} {rel' : Hp → Wd → β' → α' → Prop} {r : Res α} {k : α → Mem → Res α'} {Q : β → Hp → Prop} {Q' : β' → Hp → Prop}
    (h : GPost X Wx σ G rel' (r.bind k) Q') (le : Le G G1)
    (hk : ∀ a m v G2, Le G1 G2 → RelM X.K G2 m → rel G1.H G2 v a → GPost X Wx σ G rel' (k a m) Q' → Q v G2.H) : GPost X Wx σ G1 rel r Q := by
  cases r with
  | ok a m => exact fun v G2 l R q => hk a m v G2 l R q h
  | err e m => exact fun c d G' l R q => h c d G' (le.trans l) R q
  | bad => exact h
theorem frzQ {σ : St} {G : Wd} {Q : VK} {r : Res W} (h : GPost X Wx σ G (RepR X.K) (r.bind fun w m1 => match w with | .fl ds => .ok (.d (.list ds)) m1 | w => .ok w m1) Q) : GPost X Wx σ G (RepR X.K) r Q := by
  refine GPost.bind0 h fun w m1 v G1 le1 R1 q1 h1 => ?_
  cases w with
  | fl ds =>
    obtain ⟨p', vs, rfl, h0, n1, l1, e1, r1⟩ := q1
    exact h1 (.ref p') (G1.drop p') (le1.drop h0) (R1.drop n1) (RepR.drop (v := .ref p') (H0 := G.H) e1 r1)
  | d x => exact h1 v G1 le1 R1 q1
  | obj x => exact h1 v G1 le1 R1 q1
  | ro x => exact h1 v G1 le1 R1 q1
  | pr x i => exact h1 v G1 le1 R1 q1
theorem objQ {σ : St} {G : Wd} {Q : VK} {r : Res W} (h : GPost X Wx σ G (RepR X.K) (r.bind fun w m1 => match w with | .fl ds => .ok (.obj m1.length) (m1 ++ [.lst ds]) | w => .ok w m1) Q) : GPost X Wx σ G (RepR X.K) r Q := by
  refine GPost.bind0 h fun w m1 v G1 le1 R1 q1 h1 => ?_
  cases w with
  | fl ds =>
    obtain ⟨p', vs, rfl, h0, n1, l1, e1, r1⟩ := q1
    refine h1 (.ref p') (G1.own p') (le1.own h0) (R1.own n1 (by rw [e1]; simp) ⟨l1, vs, e1, r1⟩ rfl) ⟨p', ?_, rfl⟩
    show (G1.io ++ [p'])[m1.length]? = some p'
    rw [← R1.len]; simp
  | d x => exact h1 v G1 le1 R1 q1
  | obj x => exact h1 v G1 le1 R1 q1
  | ro x => exact h1 v G1 le1 R1 q1
  | pr x i => exact h1 v G1 le1 R1 q1
theorem me_frz {e : Expr} {f : EF} (h : ME X Wx e f) : ME X Wx e (eFrz f) := by
  obtain ⟨t, p, q⟩ := h
  exact ⟨t, p, fun env m σ G Q S R h => q env m σ G Q S R (frzQ h)⟩
theorem me_obj {e : Expr} {f : EF} (h : ME X Wx e f) : ME X Wx e (eObj f) := by
  obtain ⟨t, p, q⟩ := h
  exact ⟨t, p, fun env m σ G Q S R h => q env m σ G Q S R (objQ h)⟩
/-! ### argument lists, tuples, lists -/
def aNil (_ : Env) (m : Mem) : Res (List W) := .ok [] m
def aCons (a : EF) (r : AF) (env : Env) (m : Mem) : Res (List W) := (a env m).bind fun x m1 => (r env m1).bind fun xs m2 => .ok (x :: xs) m2
theorem ma_nil : MA X Wx [] aNil := ⟨_, pa_nil, fun env m σ G Q S R h => h [] G (Le.refl R) R .nil⟩
theorem ma_cons {e : Expr} {es : List Expr} {f : EF} {g : AF} (ha : ME X Wx e f) (hr : MA X Wx es g) (hs : starEach (e :: es) X.env = (false, eval e X.env) :: starEach es X.env := by rfl) : MA X Wx (e :: es) (aCons f g) := by
  obtain ⟨ta, pa, qa⟩ := ha
  obtain ⟨tr, pr, qr⟩ := hr
  refine ⟨_, pa_cons pa pr hs, fun env m σ G Q S R h => qa env m σ G _ S R (GPost.bind0 h fun x m1 v G1 le1 R1 q1 h1 => ?_)⟩
  refine qr env m1 σ G1 _ (S.mono le1) R1 (GPost.bind1 h1 le1 fun xs m2 vs G2 le2 R2 q2 h2 => ?_)
  exact h2 (v :: vs) G2 (le1.trans le2) R2 (.cons (q1.mono le2) (Paired.mono (fun _ _ z => z.weak le1.tr) q2))
/-- the data of a list of values -/
def asDs : List W → Option (List D)
  | [] => some []
  | .d x :: r => (asDs r).map (x :: ·)
  | _ :: _ => none
theorem asDs_reps {K : PySem.W.Frag} {H0 : Hp} {G : Wd} : ∀ {vs : List V} {ws : List W} {ds : List D}, RepRs K H0 G vs ws → asDs ws = some ds → Reps K G.lv G.H vs ds
  | _, [], ds, .nil, e => by cases e; exact .nil
  | _, .d x :: r, ds, .cons h t, e => by
    simp only [asDs] at e
    cases q : asDs r with
    | none => rw [q] at e; cases e
    | some es => rw [q] at e; cases e; exact .cons h (asDs_reps t q)
  | _, .obj _ :: _, _, .cons _ _, e => by cases e
  | _, .fl _ :: _, _, .cons _ _, e => by cases e
  | _, .ro _ :: _, _, .cons _ _, e => by cases e
def eTup (a : AF) (env : Env) (m : Mem) : Res W := (a env m).bind fun ws m1 => match asDs ws with
  | some ds => if ds.length ≤ sizeLine then .ok (.d (.tuple ds)) m1 else .bad
  | none => .bad
def eLst (a : AF) (env : Env) (m : Mem) : Res W := (a env m).bind fun ws m1 => match asDs ws with
  | some ds => if ds.length ≤ sizeLine then .ok (.fl ds) m1 else .bad
  | none => .bad
theorem me_tup {es : List Expr} {f : AF} {x1} {pos : Pos} (h : MA X Wx es f) : ME X Wx (.Tuple es x1 pos) (eTup f) := by
  obtain ⟨t, p, q⟩ := h
  refine ⟨_, pe_tup p, fun env m σ G Q S R h => q env m σ G _ S R (GPost.bind weakR h fun ws m1 vs G1 le1 R1 q1 h1 => ?_)⟩
  cases e : asDs ws with
  | none => rw [e] at h1; exact False.elim h1
  | some ds =>
    rw [e] at h1
    have r := asDs_reps q1 e
    by_cases hz : ds.length ≤ sizeLine
    · simp only [hz, if_true] at h1
      exact ⟨by rw [r.length]; exact hz, fun p hp => finT R1 h1 r hp⟩
    · simp only [hz, if_false] at h1
      exact False.elim h1
theorem me_lst {es : List Expr} {f : AF} {pos : Pos} (h : MA X Wx es f) : ME X Wx (.List es pos) (eLst f) := by
  obtain ⟨t, p, q⟩ := h
  refine ⟨_, pe_lst p, fun env m σ G Q S R h => q env m σ G _ S R (GPost.bind weakR h fun ws m1 vs G1 le1 R1 q1 h1 => ?_)⟩
  cases e : asDs ws with
  | none => rw [e] at h1; exact False.elim h1
  | some ds =>
    rw [e] at h1
    have r := asDs_reps q1 e
    by_cases hz : ds.length ≤ sizeLine
    · simp only [hz, if_true] at h1
      exact ⟨by rw [r.length]; exact hz, fun p hp => finL R1 h1 r hp⟩
    · simp only [hz, if_false] at h1
      exact False.elim h1
/-! ### calls of built-ins -/
def CallOk (X : Cx) (Wx : WX) (r : List V → Hp → VK → Prop) (g : List W → Mem → Res W) : Prop :=
  ∀ (σ : St) (G : Wd) (m : Mem) (vs : List V) (ws : List W) (H0 : Hp) (Q : VK), RelM X.K G m → RepRs X.K H0 G vs ws → GPost X Wx σ G (RepR X.K) (g ws m) Q → r vs G.H Q
def eCall (g : List W → Mem → Res W) (a : AF) (env : Env) (m : Mem) : Res W := (a env m).bind g
theorem me_callB {id : String} {x : Str} {p pos : Pos} {e : Expr} {es : List Expr} {r : List V → Hp → VK → Prop} {g : List W → Mem → Res W} {f : AF} (hc : CallR X (.builtin id) r) (hk : CallOk X Wx r g) (hg : Gl X x) (hm : X.mg x = none) (ha : MA X Wx (e :: es) f)
    (hv : bootBuiltins x = some (.builtin id) := by decide +kernel) (hn : x ≠ "__name__" := by decide) (hdb : (x == ("__debug__" : Str)) = false := by decide)
    (he : starEach (e :: es) X.env = (false, eval e X.env) :: starEach es X.env := by rfl) (hpl : (backTo pos (starEach es X.env)).any (·.1) = false := by rfl) : ME X Wx (.Call (.Name x p) (e :: es) [] pos) (eCall g f) := by
  obtain ⟨t, pa, qa⟩ := ha
  refine ⟨_, pe_callB hc hg hm hv pa hn hdb he hpl, fun env m σ G Q S R h => qa env m σ G _ S R (GPost.bind weakR h fun ws m1 vs G1 le1 R1 q1 h1 => ?_)⟩
  exact hk σ G1 m1 vs ws _ Q R1 q1 h1
theorem me_callTy {T : String} {x : Str} {p pos : Pos} {e : Expr} {es : List Expr} {r : List V → Hp → VK → Prop} {g : List W → Mem → Res W} {f : AF} (hc : CallR X (.type T) r) (hk : CallOk X Wx r g) (hg : Gl X x) (hm : X.mg x = none) (ha : MA X Wx (e :: es) f)
    (hv : bootBuiltins x = some (.type T) := by decide +kernel) (hn : x ≠ "__name__" := by decide) (hdb : (x == ("__debug__" : Str)) = false := by decide)
    (he : starEach (e :: es) X.env = (false, eval e X.env) :: starEach es X.env := by rfl) (hpl : (backTo pos (starEach es X.env)).any (·.1) = false := by rfl) : ME X Wx (.Call (.Name x p) (e :: es) [] pos) (eCall g f) := by
  obtain ⟨t, pa, qa⟩ := ha
  refine ⟨_, pe_callTy hc hg hm hv pa hn hdb he hpl, fun env m σ G Q S R h => qa env m σ G _ S R (GPost.bind weakR h fun ws m1 vs G1 le1 R1 q1 h1 => ?_)⟩
  exact hk σ G1 m1 vs ws _ Q R1 q1 h1
/-! ### subscripts -/
theorem me_ix {r : R2} {g : W → W → Mem → Res W} {a b : Expr} {fa fb : EF} {pos : Pos} (hr : IxR X r) (hg : OpOk X Wx r g) (ha : ME X Wx a fa) (hb : ME X Wx b fb) (hs : PlainIx b := by exact fun _ _ => rfl) : ME X Wx (.Subscript a b pos) (eOp g fa fb) := by
  obtain ⟨ta, pa, qa⟩ := ha
  obtain ⟨tb, pb, qb⟩ := hb
  exact ⟨_, pe_ix hr pa pb hs, fun env m σ G Q S R h => two (a := a) (b := b) hg qa qb env m σ G Q S R h⟩
/-! ### slices -/
abbrev OF := Env → Mem → Res (Option Int)
def MO (X : Cx) (Wx : WX) (e : Option Expr) (f : OF) : Prop :=
  ∃ t, PO X e t ∧ ∀ env m σ G Q, RelS X.K G σ env → RelM X.K G m → GPost X Wx σ G relEq (f env m) Q → t σ G.H Q
def oNone (_ : Env) (m : Mem) : Res (Option Int) := .ok none m
def oSome (f : EF) (env : Env) (m : Mem) : Res (Option Int) := (f env m).bind fun w m1 => match w with
  | .d (.int i) => .ok (some i) m1
  | _ => .bad
theorem mo_none : MO X Wx none oNone := ⟨_, po_none, fun env m σ G Q S R h => h none G (Le.refl R) R rfl⟩
theorem mo_some {e : Expr} {f : EF} (h : ME X Wx e f) : MO X Wx (some e) (oSome f) := by
  obtain ⟨t, p, q⟩ := h
  refine ⟨_, po_some p, fun env m σ G Q S R h => q env m σ G _ S R (GPost.bind weakEq h fun w m1 v G1 le1 R1 q1 h1 => ?_)⟩
  cases w with
  | d x =>
    cases x with
    | int i => cases q1; exact ⟨i, rfl, h1 (some i) G1 (Le.refl R1) R1 rfl⟩
    | _ => exact False.elim h1
  | _ => exact False.elim h1
def SlOk (X : Cx) (Wx : WX) (r : V → Option Int → Option Int → Hp → VK → Prop) (g : W → Option Int → Option Int → Mem → Res W) : Prop :=
  ∀ (σ : St) (G : Wd) (m : Mem) (v : V) (x : W) (lo hi : Option Int) (H0 : Hp) (Q : VK), RelM X.K G m → RepR X.K H0 G v x → GPost X Wx σ G (RepR X.K) (g x lo hi m) Q → r v lo hi G.H Q
def eSl (g : W → Option Int → Option Int → Mem → Res W) (a : EF) (lo hi : OF) (env : Env) (m : Mem) : Res W := (a env m).bind fun x m1 => (lo env m1).bind fun l m2 => (hi env m2).bind fun h m3 => g x l h m3
theorem me_slice {r : V → Option Int → Option Int → Hp → VK → Prop} {g : W → Option Int → Option Int → Mem → Res W} {e : Expr} {lo hi : Option Expr} {f : EF} {fl fh : OF} {p2 pos : Pos} (hr : SlR X r) (hg : SlOk X Wx r g) (he : ME X Wx e f) (hl : MO X Wx lo fl) (hh : MO X Wx hi fh) :
    ME X Wx (.Subscript e (.Slice lo hi none p2) pos) (eSl g f fl fh) := by
  obtain ⟨te, pe, qe⟩ := he
  obtain ⟨tl, pl, ql⟩ := hl
  obtain ⟨th, ph, qh⟩ := hh
  refine ⟨_, pe_slice hr pe pl ph, fun env m σ G Q S R h => qe env m σ G _ S R (GPost.bind weakR h fun x m1 v G1 le1 R1 q1 h1 => ?_)⟩
  refine ql env m1 σ G1 _ (S.mono le1) R1 (GPost.bind weakR h1 fun l m2 l' G2 le2 R2 q2 h2 => ?_)
  refine qh env m2 σ G2 _ ((S.mono le1).mono le2) R2 (GPost.bind weakR h2 fun k m3 k' G3 le3 R3 q3 h3 => ?_)
  have q2 : l' = l := q2
  have q3 : k' = k := q3
  rw [q2, q3]
  exact hg σ G3 m3 v x l k _ Q R3 (q1.mono (le2.trans le3)) h3
/-! ### methods of built-in types -/
end
end M
set_option Elab.async false
set_option linter.all false
set_option maxRecDepth 100000
namespace M
open PySem L2
variable [HasW]
section
variable {X : Cx} {Wx : WX}
/-! ### + -/
def addW (x y : W) (m : Mem) : Res W :=
  match x, y with
  | .d (.int i), .d (.int j) => .ok (.d (.int (i + j))) m
  | .d (.str a), .d (.str b) => if a.length + b.length ≤ sizeLine then .ok (.d (.str (a ++ b))) m else .bad
  | .d (.tuple a), .d (.tuple b) => if a.length + b.length ≤ sizeLine then .ok (.d (.tuple (a ++ b))) m else .bad
  | x, y => match asT x m, asT y m with
    | some a, some b => if a.length + b.length ≤ sizeLine then .ok (.fl (a ++ b)) m else .bad
    | _, _ => .bad
theorem Reps.nil_iff {K : PySem.W.Frag} {lv : List Addr} {H : Hp} {vs : List V} {ds : List D} (r : Reps K lv H vs ds) : vs = [] ↔ ds = [] := by
  cases r with
  | nil => simp
  | cons _ _ => simp
/-! ### ints -/
/-- a condition that no reduction opens -/
noncomputable def grd (p : Prop) : Bool := @decide p (Classical.propDecidable p)
theorem grd_iff {p : Prop} : grd p = true ↔ p := by
  unfold grd
  exact ⟨fun h => @of_decide_eq_true p (Classical.propDecidable p) h, fun h => @decide_eq_true p (Classical.propDecidable p) h⟩
theorem grd_t {p : Prop} (h : p) : grd p = true := grd_iff.mpr h
def intW (C : Int → Int → Bool) (g : Int → Int → D) (x y : W) (m : Mem) : Res W :=
  match x, y with
  | .d (.int i), .d (.int j) => if C i j = true then .ok (.d (g i j)) m else .bad
  | _, _ => .bad
theorem intW_ok {C : Int → Int → Bool} {P : Int → Int → Prop} {g : Int → Int → V} {g' : Int → Int → D} (hC : ∀ i j, C i j = true → P i j) (hg : ∀ i j K lv H, Rep K lv H (g i j) (g' i j)) : OpOk X Wx (rI P g) (intW C g') := by
  intro σ G m v u x y H0 H1 Q R rx ry h
  cases x with
  | d x =>
    cases x with
    | int i =>
      cases y with
      | d y =>
        cases y with
        | int j =>
          cases rx; cases ry
          simp only [intW] at h
          by_cases hz : C i j = true
          · simp only [hz, if_true] at h
            exact ⟨i, j, rfl, rfl, hC i j hz, finD R h (hg i j _ _ _)⟩
          · simp only [hz] at h
            exact False.elim h
        | _ => exact False.elim h
      | _ => exact False.elim h
    | _ => exact False.elim h
  | _ => exact False.elim h
def int0W (g : Int → Int → D) (x y : W) (m : Mem) : Res W :=
  match x, y with
  | .d (.int i), .d (.int j) => .ok (.d (g i j)) m
  | _, _ => .bad
theorem int0W_ok {g : Int → Int → V} {g' : Int → Int → D} (hg : ∀ i j K lv H, Rep K lv H (g i j) (g' i j)) : OpOk X Wx (rI0 g) (int0W g') := by
  intro σ G m v u x y H0 H1 Q R rx ry h
  cases x with
  | d x =>
    cases x with
    | int i =>
      cases y with
      | d y =>
        cases y with
        | int j => cases rx; cases ry; exact ⟨i, j, rfl, rfl, finD R h (hg i j _ _ _)⟩
        | _ => exact False.elim h
      | _ => exact False.elim h
    | _ => exact False.elim h
  | _ => exact False.elim h
def subW := int0W fun i j => .int (i - j)
theorem subW_ok : OpOk X Wx (rI0 fun i j => .int (i - j)) subW := int0W_ok fun _ _ _ _ _ => .int _
noncomputable def mulOk (i j : Int) : Bool := grd (((-(2 ^ 64) < i ∧ i < 2 ^ 64) ∨ (-(2 ^ 64) < j ∧ j < 2 ^ 64)) ∨ i.natAbs.log2 + j.natAbs.log2 < 1000000)
noncomputable def mulW := intW mulOk fun i j => .int (i * j)
theorem op_mulA : OpR X (binaryOp .Mult) (rI (fun i j => CMul i j ∨ CMulW i j) fun i j => .int (i * j)) := by
  intro pins s σ H x y v u Q I rx ry h
  obtain ⟨i, j, e1, e2, hc | hc, q⟩ := h
  · exact op_mul pins s σ H x y v u Q I rx ry ⟨i, j, e1, e2, hc, q⟩
  · exact op_mulW pins s σ H x y v u Q I rx ry ⟨i, j, e1, e2, hc, q⟩
theorem mulW_ok : OpOk X Wx (rI (fun i j => CMul i j ∨ CMulW i j) fun i j => .int (i * j)) mulW := intW_ok (fun i j h => by
  have h := grd_iff.mp h
  rcases h with (h | h) | h
  · exact .inl (.inl h)
  · exact .inl (.inr h)
  · exact .inr h) fun _ _ _ _ _ => .int _
noncomputable def divOk (_ j : Int) : Bool := grd (0 < j ∧ j.natAbs.log2 < 9000)
noncomputable def divW := intW divOk fun i j => .int (i / j)
theorem divW_ok : OpOk X Wx (rI CDivW fun i j => .int (i / j)) divW := intW_ok (fun i j h => by
  have h := grd_iff.mp h
  exact ⟨h.1, h.2⟩) fun _ _ _ _ _ => .int _
noncomputable def modOk (_ j : Int) : Bool := grd (0 < j)
noncomputable def modW := intW modOk fun i j => .int (i % j)
theorem modW_ok : OpOk X Wx (rI (fun _ j => 0 < j) fun i j => .int (i % j)) modW := intW_ok (fun i j h => grd_iff.mp h) fun _ _ _ _ _ => .int _
noncomputable def powOk (i j : Int) : Bool := grd (0 ≤ j ∧ j ≤ 1000000 ∧ i.natAbs < 2 ^ 64)
noncomputable def powW := intW powOk fun i j => .int (i ^ j.toNat)
theorem powW_ok : OpOk X Wx (rI CPow fun i j => .int (i ^ j.toNat)) powW := intW_ok (fun i j h => by
  exact grd_iff.mp h) fun _ _ _ _ _ => .int _
def ltW := int0W fun i j => .bool (decide (i < j))
def leW := int0W fun i j => .bool (decide (i ≤ j))
def gtW := int0W fun i j => .bool (decide (j < i))
def geW := int0W fun i j => .bool (decide (j ≤ i))
theorem ltW_ok : OpOk X Wx (rI0 fun i j => .bl (decide (i < j))) ltW := int0W_ok fun _ _ _ _ _ => .bl _
theorem gtW_ok : OpOk X Wx (rI0 fun i j => .bl (decide (j < i))) gtW := int0W_ok fun _ _ _ _ _ => .bl _
/-! ### ==, !=, in -/
def eqW (neg : Bool) (x y : W) (m : Mem) : Res W :=
  match asD x m, asD y m with
  | some a, some b => if (SeqAt.shaped a && SeqAt.shaped b) = true then .ok (.d (.bool (if neg then !PyData.eqv a b else PyData.eqv a b))) m else .bad
  | _, _ => .bad
theorem eqW_ok : OpOk X Wx (rEqD X.K) (eqW false) := by
  intro σ G m v u x y H0 H1 Q R rx ry h
  unfold eqW at h
  cases ex : asD x m with
  | none => rw [ex] at h; exact False.elim h
  | some a =>
    cases ey : asD y m with
    | none => rw [ex, ey] at h; exact False.elim h
    | some b =>
      rw [ex, ey] at h
      by_cases hz : (SeqAt.shaped a && SeqAt.shaped b) = true
      · simp only [hz, if_true] at h
        have hz' := Bool.and_eq_true_iff.mp hz
        exact ⟨a, b, asD_dp R rx ex (nD_of (SeqAt.canLay_of_shaped hz'.1)), asD_dp R ry ey (nD_of (SeqAt.canLay_of_shaped hz'.2)), hz'.1, hz'.2, finD R h (.bl _)⟩
      · simp only [hz] at h
        exact False.elim h
theorem neW_ok : OpOk X Wx (rNeD X.K) (eqW true) := by
  intro σ G m v u x y H0 H1 Q R rx ry h
  unfold eqW at h
  cases ex : asD x m with
  | none => rw [ex] at h; exact False.elim h
  | some a =>
    cases ey : asD y m with
    | none => rw [ex, ey] at h; exact False.elim h
    | some b =>
      rw [ex, ey] at h
      by_cases hz : (SeqAt.shaped a && SeqAt.shaped b) = true
      · simp only [hz, if_true] at h
        have hz' := Bool.and_eq_true_iff.mp hz
        exact ⟨a, b, asD_dp R rx ex (nD_of (SeqAt.canLay_of_shaped hz'.1)), asD_dp R ry ey (nD_of (SeqAt.canLay_of_shaped hz'.2)), hz'.1, hz'.2, finD R h (.bl _)⟩
      · simp only [hz] at h
        exact False.elim h
/-! ### in -/
def flatD : D → Bool
  | .none => true
  | .bool _ => true
  | .int _ => true
  | .str _ => true
  | _ => false
theorem flat_rep {K : PySem.W.Frag} {lv : List Addr} {H : Hp} {v : V} {x : D} (r : Rep K lv H v x) (f : flatD x = true) : flatV v = true := by
  cases r <;> first | rfl | (exact absurd f (by simp [flatD]))
theorem eqV_eqv {K : PySem.W.Frag} {lv : List Addr} {H : Hp} {v u : V} {x y : D} (r : Rep K lv H v x) (q : Rep K lv H u y) (f : flatD x = true) (g : flatD y = true) : eqV v u = PyData.eqv x y := by
  cases r <;> cases q <;> first | rfl | (exact absurd f (by simp [flatD])) | (exact absurd g (by simp [flatD])) | simp [eqV, PyData.eqv]
theorem flats {K : PySem.W.Frag} {lv : List Addr} {H : Hp} : ∀ {vs : List V} {ds : List D}, Reps K lv H vs ds → ds.all flatD = true → vs.all flatV = true
  | _, _, .nil, _ => rfl
  | _, _, .cons h r, f => by
    rw [List.all_cons, Bool.and_eq_true] at f ⊢
    exact ⟨flat_rep h f.1, flats r f.2⟩
theorem inV_any {K : PySem.W.Frag} {lv : List Addr} {H : Hp} {v : V} {x : D} (q : Rep K lv H v x) (fx : flatD x = true) : ∀ {vs : List V} {ds : List D}, Reps K lv H vs ds → ds.all flatD = true → inV v vs = ds.any fun z => PyData.eqv z x
  | _, _, .nil, _ => rfl
  | _, _, .cons h r, f => by
    rw [List.all_cons, Bool.and_eq_true] at f
    have e1 := eqV_eqv h q f.1 fx
    have e2 := inV_any q fx r f.2
    unfold inV at e2 ⊢
    rw [List.any_cons, List.any_cons, e1, e2]
def inS (a b : Str) : Bool := match a.cps.toList with
  | [c] => decide (c ∈ b.cps.toList)
  | _ => !(Builtin.Str.occurrences b a 0 b.length 1).isEmpty
def ngB (neg b : Bool) : Bool := if neg then !b else b
def inW (neg : Bool) (x y : W) (m : Mem) : Res W :=
  match x, y with
  | .d (.str a), .d (.str b) => .ok (.d (.bool (ngB neg (inS a b)))) m
  | .d x, .d (.tuple ds) => if (flatD x && ds.all flatD) = true then .ok (.d (.bool (ngB neg (ds.any fun z => PyData.eqv z x)))) m else .bad
  | x, y => match asD x m, asL y m with
    | some a, some ds => if (SeqAt.shaped a && SeqAt.shaped (.list ds)) = true then .ok (.d (.bool (ngB neg (ds.any fun z => PyData.eqv z a)))) m else .bad
    | _, _ => .bad
def rInA (K : PySem.W.Frag) (neg : Bool) : R2 := fun x y H Q =>
  (∃ i j, x = .str i ∧ y = .str j ∧ Q (.bl (ngB neg (inS i j))) H) ∨
  (∃ p xs, y = .ref p ∧ SqT K H p xs ∧ flatV x = true ∧ xs.all flatV = true ∧ Q (.bl (ngB neg (inV x xs))) H) ∨
  (∃ d ds, Dp K H x d ∧ Dp K H y (.list ds) ∧ SeqAt.shaped d = true ∧ SeqAt.shaped (.list ds) = true ∧ Q (.bl (ngB neg (ds.any fun z => PyData.eqv z d))) H)
theorem one_sign {a : Str} {c : Nat} (h : a.cps.toList = [c]) : a = ⟨#[c]⟩ := by
  cases a with
  | mk cps =>
    have : cps = #[c] := by
      apply Array.ext'
      simpa using h
    rw [this]
theorem op_inA (hu : X.A.units + 65 < cLine) : OpR X (compareOp .In) (rInA X.K false) := by
  intro pins s σ H x y v u Q I rx ry h
  rcases h with ⟨i, j, e1, e2, q⟩ | ⟨p, xs, e1, h1, h2, h3, q⟩ | ⟨d, ds, h1, h2, h3, h4, q⟩
  · have q : Q (.bl (inS i j)) H := q
    unfold inS at q
    split at q
    · rename_i c hc
      exact op_in_sign pins s σ H x y v u Q I rx ry ⟨c, j, by rw [e1, one_sign hc], e2, q⟩
    · exact op_in_str pins s σ H x y v u Q I rx ry ⟨i, j, e1, e2, q⟩
  · exact op_in_seq pins s σ H x y v u Q I rx ry ⟨p, xs, e1, .inr h1, h2, h3, q⟩
  · exact op_inD hu pins s σ H x y v u Q I rx ry ⟨d, ds, h1, h2, h3, h4, q⟩
theorem op_notInA (hu : X.A.units + 65 < cLine) : OpR X (compareOp .NotIn) (rInA X.K true) := by
  intro pins s σ H x y v u Q I rx ry h
  rcases h with ⟨i, j, e1, e2, q⟩ | ⟨p, xs, e1, h1, h2, h3, q⟩ | ⟨d, ds, h1, h2, h3, h4, q⟩
  · have q : Q (.bl (!inS i j)) H := q
    unfold inS at q
    split at q
    · rename_i c hc
      exact op_notIn_sign pins s σ H x y v u Q I rx ry ⟨c, j, by rw [e1, one_sign hc], e2, q⟩
    · exact op_notin_str pins s σ H x y v u Q I rx ry ⟨i, j, e1, e2, q⟩
  · exact op_notIn_seq pins s σ H x y v u Q I rx ry ⟨p, xs, e1, .inr h1, h2, h3, q⟩
  · exact op_notInD hu pins s σ H x y v u Q I rx ry ⟨d, ds, h1, h2, h3, h4, q⟩
theorem inL_ok {neg : Bool} {σ : St} {G : Wd} {m : Mem} {v u : V} {x y : W} {H0 H1 : Hp} {Q : VK} (R : RelM X.K G m) (rx : RepR X.K H0 G v x) (ry : RepR X.K H1 G u y)
    (h : GPost X Wx σ G (RepR X.K) (match asD x m, asL y m with | some a, some ds => if (SeqAt.shaped a && SeqAt.shaped (.list ds)) = true then .ok (.d (.bool (ngB neg (ds.any fun z => PyData.eqv z a)))) m else .bad | _, _ => .bad) Q) : rInA X.K neg v u G.H Q := by
  cases ex : asD x m with
  | none => rw [ex] at h; exact False.elim h
  | some a =>
    cases ey : asL y m with
    | none => rw [ex, ey] at h; exact False.elim h
    | some ds =>
      rw [ex, ey] at h
      by_cases hz : (SeqAt.shaped a && SeqAt.shaped (.list ds)) = true
      · simp only [hz, if_true] at h
        have hz' := Bool.and_eq_true_iff.mp hz
        obtain ⟨p, vs, rfl, h1, r1⟩ := asL_sq R ry ey
        exact .inr (.inr ⟨a, ds, asD_dp R rx ex (nD_of (SeqAt.canLay_of_shaped hz'.1)), .lst h1 (r1.dp (show nD (.list ds) = true from nD_of (SeqAt.canLay_of_shaped hz'.2))), hz'.1, hz'.2, finD R h (.bl _)⟩)
      · simp only [hz] at h
        exact False.elim h
theorem inT_ok {neg : Bool} {σ : St} {G : Wd} {m : Mem} {v u : V} {x : D} {ds : List D} {Q : VK} (R : RelM X.K G m) (rx : Rep X.K G.lv G.H v x) (ry : Rep X.K G.lv G.H u (.tuple ds))
    (h : GPost X Wx σ G (RepR X.K) (if (flatD x && ds.all flatD) = true then .ok (.d (.bool (ngB neg (ds.any fun z => PyData.eqv z x)))) m else .bad) Q) : rInA X.K neg v u G.H Q := by
  by_cases hz : (flatD x && ds.all flatD) = true
  · simp only [hz, if_true] at h
    have hz' := Bool.and_eq_true_iff.mp hz
    cases ry with
    | tup t r => exact .inr (.inl ⟨_, _, rfl, t.sq, flat_rep rx hz'.1, flats r hz'.2, by rw [inV_any rx hz'.1 r hz'.2]; exact finD R h (.bl _)⟩)
  · simp only [hz] at h
    exact False.elim h
theorem inW_ok {neg : Bool} : OpOk X Wx (rInA X.K neg) (inW neg) := by
  intro σ G m v u x y H0 H1 Q R rx ry h
  cases x with
  | d x =>
    cases y with
    | d y =>
      cases y with
      | str b =>
        cases x with
        | str a => cases rx; cases ry; exact .inl ⟨a, b, rfl, rfl, finD R h (.bl _)⟩
        | _ => exact inL_ok R rx ry h
      | tuple b => cases x <;> exact inT_ok R rx ry h
      | _ => cases x <;> exact inL_ok R rx ry h
    | _ => cases x <;> exact inL_ok R rx ry h
  | _ => cases y <;> exact inL_ok R rx ry h
/-! ### is None -/
def isNW (neg : Bool) (x y : W) (m : Mem) : Res W :=
  match y with
  | .d .none => match x with
    | .d .none => .ok (.d (.bool (ngB neg true))) m
    | _ => .ok (.d (.bool (ngB neg false))) m
  | _ => .bad
def rIsN (neg : Bool) : R2 := fun x y H Q => y = .non ∧ Q (.bl (ngB neg (decide (x = .non)))) H
theorem op_isA : OpR X (compareOp .Is) (rIsN false) := op_isN
theorem isNW_ok {neg : Bool} : OpOk X Wx (rIsN neg) (isNW neg) := by
  intro σ G m v u x y H0 H1 Q R rx ry h
  cases y with
  | d y =>
    cases y with
    | none =>
      cases ry
      refine ⟨rfl, ?_⟩
      have no : v ≠ .non → GPost X Wx σ G (RepR X.K) (.ok (.d (.bool (ngB neg false))) m) Q → Q (.bl (ngB neg (decide (v = .non)))) G.H := fun hv h => by
        rw [decide_eq_false hv]; exact finD R h (.bl _)
      cases x with
      | d x =>
        cases x with
        | none => cases rx; exact finD R h (.bl _)
        | _ => cases rx <;> exact no (by simp) h
      | obj i => obtain ⟨a, _, rfl⟩ := rx; exact no (by simp) h
      | fl i => obtain ⟨a, _, rfl, _⟩ := rx; exact no (by simp) h
      | ro i => obtain ⟨a, _, rfl, _⟩ := rx; exact no (by simp) h
      | pr i k => obtain ⟨a, _, _, rfl, _⟩ := rx; exact no (by simp) h
    | _ => exact False.elim h
  | _ => exact False.elim h
/-! ### items, slices -/
def ixW (x y : W) (m : Mem) : Res W :=
  match x, y with
  | .d (.str z), .d (.int i) => if z.length ≤ sizeLine then (match atI z.cps.toList i with | some c => .ok (.d (.str ⟨#[c]⟩)) m | none => .bad) else .bad
  | .d (.tuple ds), .d (.int i) => (match atI ds i with | some c => .ok (.d c) m | none => .bad)
  | x, .d (.int i) => (match asL x m with | some ds => (match atI ds i with | some c => .ok (.d c) m | none => .bad) | none => .bad)
  | _, _ => .bad
theorem Reps.atI {K : PySem.W.Frag} {lv : List Addr} {H : Hp} {vs : List V} {ds : List D} {i : Int} {c : D} (r : Reps K lv H vs ds) (e : L2.atI ds i = some c) : ∃ v, L2.atI vs i = some v ∧ Rep K lv H v c := by
  unfold L2.atI at e ⊢
  rw [r.length]
  cases q : ixN ds.length i with
  | none => rw [q] at e; cases e
  | some j =>
    rw [q] at e
    exact r.get e
theorem ixL_ok {σ : St} {G : Wd} {m : Mem} {v : V} {x : W} {i : Int} {H0 : Hp} {Q : VK} (R : RelM X.K G m) (rx : RepR X.K H0 G v x)
    (h : GPost X Wx σ G (RepR X.K) (match asL x m with | some ds => (match L2.atI ds i with | some c => .ok (.d c) m | none => .bad) | none => .bad) Q) : rIx X.K v (.int i) G.H Q := by
  cases ex : asL x m with
  | none => rw [ex] at h; exact False.elim h
  | some ds =>
    rw [ex] at h
    obtain ⟨p, vs, rfl, h1, r1⟩ := asL_sq R rx ex
    cases ea : L2.atI ds i with
    | none => simp only [ea] at h; exact False.elim h
    | some c =>
      simp only [ea] at h
      obtain ⟨w, h2, h3⟩ := r1.atI ea
      exact .inl ⟨p, vs, i, w, rfl, rfl, h1, h2, finD R h h3⟩
theorem ixW_ok : OpOk X Wx (rIx X.K) ixW := by
  intro σ G m v u x y H0 H1 Q R rx ry h
  cases y with
  | d y =>
    cases y with
    | int i =>
      cases ry
      cases x with
      | d x =>
        cases x with
        | str z =>
          cases rx
          simp only [ixW] at h
          by_cases hz : z.length ≤ sizeLine
          · simp only [hz, if_true] at h
            cases ea : L2.atI z.cps.toList i with
            | none => simp only [ea] at h; exact False.elim h
            | some c => simp only [ea] at h; exact .inr (.inr ⟨z, i, c, rfl, rfl, hz, ea, finD R h (.str _)⟩)
          · simp only [hz, if_false] at h; exact False.elim h
        | tuple ds =>
          simp only [ixW] at h
          cases rx with
          | @tup p vs _ t r =>
            cases ea : L2.atI ds i with
            | none => simp only [ea] at h; exact False.elim h
            | some c =>
              simp only [ea] at h
              obtain ⟨w, h2, h3⟩ := r.atI ea
              exact .inr (.inl ⟨p, vs, i, w, rfl, rfl, t.sq, h2, finD R h h3⟩)
        | _ => exact ixL_ok R rx h
      | _ => exact ixL_ok R rx h
    | _ => cases x <;> first | exact False.elim h | (rename_i x; cases x <;> exact False.elim h)
  | _ => cases x <;> first | exact False.elim h | (rename_i x; cases x <;> exact False.elim h)
def cutD (xs : List D) (lo hi : Option Int) : List D := (xs.drop (HT.sIx xs.length 0 lo)).take (HT.sIx xs.length xs.length hi - HT.sIx xs.length 0 lo)
theorem Reps.cut {K : PySem.W.Frag} {lv : List Addr} {H : Hp} {vs : List V} {ds : List D} (r : Reps K lv H vs ds) (lo hi : Option Int) : Reps K lv H (cutV vs lo hi) (cutD ds lo hi) := by
  unfold cutV cutD
  rw [r.length]
  exact (r.drop _).take _
def slW (x : W) (lo hi : Option Int) (m : Mem) : Res W :=
  match x with
  | .d (.str z) => if z.length ≤ sizeLine then .ok (.d (.str (cutS z lo hi))) m else .bad
  | .d (.tuple ds) => .ok (.d (.tuple (cutD ds lo hi))) m
  | x => match asL x m with
    | some ds => .ok (.fl (cutD ds lo hi)) m
    | none => .bad
def rSlAll (K : PySem.W.Frag) : V → Option Int → Option Int → Hp → VK → Prop := fun x lo hi H Q => rSlS x lo hi H Q ∨ (rSlA K x lo hi H Q ∨ rSlL K x lo hi H Q)
theorem sl_all : SlR X (rSlAll X.K) := SlR.or sl_str (SlR.or sl_tupA sl_list)
theorem slL_ok {σ : St} {G : Wd} {m : Mem} {v : V} {x : W} {lo hi : Option Int} {H0 : Hp} {Q : VK} (R : RelM X.K G m) (rx : RepR X.K H0 G v x)
    (h : GPost X Wx σ G (RepR X.K) (match asL x m with | some ds => .ok (.fl (cutD ds lo hi)) m | none => .bad) Q) : rSlAll X.K v lo hi G.H Q := by
  cases ex : asL x m with
  | none => rw [ex] at h; exact False.elim h
  | some ds =>
    rw [ex] at h
    obtain ⟨p, vs, rfl, h1, r1⟩ := asL_sq R rx ex
    exact .inr (.inr ⟨p, vs, rfl, h1, fun l hl => finL R h (r1.cut lo hi) hl⟩)
theorem slW_ok : SlOk X Wx (rSlAll X.K) slW := by
  intro σ G m v x lo hi H0 Q R rx h
  cases x with
  | d x =>
    cases x with
    | str z =>
      cases rx
      simp only [slW] at h
      by_cases hz : z.length ≤ sizeLine
      · simp only [hz, if_true] at h
        exact .inl ⟨z, rfl, hz, finD R h (.str _)⟩
      · simp only [hz, if_false] at h; exact False.elim h
    | tuple ds =>
      cases rx with
      | @tup p vs _ t r =>
        refine .inr (.inl ⟨p, vs, rfl, t.sq, fun e => ?_, fun e l hl => finT R h (r.cut lo hi) hl⟩)
        refine finD R h ?_
        have ec : cutD ds lo hi = ds := by
          unfold cutD
          rw [← r.length, e.1, e.2, r.length, Nat.sub_zero, List.drop_zero, List.take_length]
        rw [ec]
        exact .tup t r
    | _ => exact slL_ok R rx h
  | _ => exact slL_ok R rx h
end
end M
set_option Elab.async false
set_option linter.all false
set_option maxRecDepth 100000
namespace M
open PySem L2
variable [HasW]
section
variable {X : Cx} {Wx : WX}
/-! ### from expressions to statements -/
def eS {α : Type} (r : Res α) (env : Env) (k : α → Mem → SRes) : SRes := match r with
  | .ok a m => k a m
  | .err e m => .err e env m
  | .bad => .bad
@[simp] theorem eS_ok {α : Type} (a : α) (m : Mem) (env : Env) (k : α → Mem → SRes) : eS (.ok a m) env k = k a m := rfl
@[simp] theorem eS_err {α : Type} (e : Exn) (m : Mem) (env : Env) (k : α → Mem → SRes) : eS (.err e m) env k = .err e env m := rfl
@[simp] theorem eS_bad {α : Type} (env : Env) (k : α → Mem → SRes) : eS (.bad : Res α) env k = .bad := rfl
theorem SPost.ofE0 {α β : Type} {rel : Hp → Wd → β → α → Prop} {σ : St} {G : Wd} {env : Env} {r : Res α} {k : α → Mem → SRes} {E : Ends} {Q : β → Hp → Prop} (h : SPost X Wx G (eS r env k) E) (S : RelS X.K G σ env)
    (hk : ∀ a m v G1, Le G G1 → RelM X.K G1 m → rel G.H G1 v a → SPost X Wx G (k a m) E → Q v G1.H) : GPost X Wx σ G rel r Q := by
  cases r with
  | ok a m => exact fun v G1 le R q => hk a m v G1 le R q h
  | err e m => exact fun c d G' le R q => h c d σ G' le R (S.mono le) q
  | bad => exact h
theorem SPost.ofE {α β : Type} {rel : Hp → Wd → β → α → Prop} {σ : St} {G : Wd} {env : Env} {r : Res α} {k : α → Mem → SRes} {E : Ends} {Q : β → Hp → Prop} (h : SPost X Wx G (eS r env k) E) (S : RelS X.K G σ env)
    (hk : ∀ a m v G1, Le G G1 → RelM X.K G1 m → rel G.H G1 v a → SPost X Wx G1 (k a m) E → Q v G1.H) : GPost X Wx σ G rel r Q :=
  SPost.ofE0 h S fun a m v G1 le R q hq => hk a m v G1 le R q (hq.later le)
/-! ### blocks -/
def sNx (env : Env) (m : Mem) : SRes := .nx env m
def sSeq (a b : SF) (env : Env) (m : Mem) : SRes := match a env m with
  | .nx e m1 => b e m1
  | r => r
theorem mb_nil : MB X Wx [] sNx := ⟨_, pss_nil, fun env m σ G E S R h => h σ G (Le.refl R) R S⟩
theorem mb_one {st : Stmt} {f : SF} (h : MS X Wx st f) : MB X Wx [st] f := let ⟨t, p, q⟩ := h; ⟨t, pss_one p, q⟩
theorem mb_cons {st : Stmt} {rest : List Stmt} {f g : SF} (h : MS X Wx st f) (h' : MB X Wx rest g) : MB X Wx (st :: rest) (sSeq f g) := by
  obtain ⟨ta, pa, qa⟩ := h
  obtain ⟨tb, pb, qb⟩ := h'
  refine ⟨_, pss_cons pa pb, fun env m σ G E S R h => qa env m σ G _ S R ?_⟩
  unfold sSeq at h
  cases e : f env m with
  | nx e1 m1 => rw [e] at h; exact fun σ' G' le R' S' => qb e1 m1 σ' G' E S' R' (SPost.later h le)
  | bk e1 m1 => rw [e] at h; exact h
  | ct e1 m1 => rw [e] at h; exact h
  | rt w m1 => rw [e] at h; exact h
  | err x e1 m1 => rw [e] at h; exact h
  | bad => rw [e] at h; exact h
def sCt (env : Env) (m : Mem) : SRes := .ct env m
theorem ms_continue {pos : Pos} : MS X Wx (.Continue pos) sCt := ⟨_, ps_continue, fun env m σ G E S R h => h σ G (Le.refl R) R S⟩
def sDrop (f : EF) (env : Env) (m : Mem) : SRes := eS (f env m) env fun _ m1 => .nx env m1
theorem ms_expr {e : Expr} {f : EF} {pos : Pos} (h : ME X Wx e f) (hs : swapsWith e none pos.line X.env = pure false := by rfl) : MS X Wx (.Expr e pos) (sDrop f) := by
  obtain ⟨t, p, q⟩ := h
  exact ⟨_, ps_expr p hs, fun env m σ G E S R h => q env m σ G _ S R (SPost.ofE h S fun a m v G1 le R1 q1 h1 => h1 σ G1 (Le.refl R1) R1 (S.mono le))⟩
def sRet (f : EF) (env : Env) (m : Mem) : SRes := eS (f env m) env fun w m1 => .rt w m1
theorem ms_ret {e : Expr} {f : EF} {pos : Pos} (h : ME X Wx e f) : MS X Wx (.Return (some e) pos) (sRet f) := by
  obtain ⟨t, p, q⟩ := h
  exact ⟨_, ps_ret p, fun env m σ G E S R h => q env m σ G _ S R (SPost.ofE0 h S fun a m v G1 le R1 q1 h1 => h1 v G1 le R1 q1)⟩
def sIf (c : TF) (a b : SF) (env : Env) (m : Mem) : SRes := eS (c env m) env fun t m1 => if t = true then a env m1 else b env m1
theorem ms_if {c : Expr} {a b : List Stmt} {fc : TF} {fa fb : SF} {pos : Pos} (hc : MT X Wx c fc) (ha : MB X Wx a fa) (hb : MB X Wx b fb) : MS X Wx (.If c a b pos) (sIf fc fa fb) := by
  obtain ⟨tc, pc, qc⟩ := hc
  obtain ⟨ta, pa, qa⟩ := ha
  obtain ⟨tb, pb, qb⟩ := hb
  refine ⟨_, ps_if pc pa pb, fun env m σ G E S R h => qc env m σ G _ S R (SPost.ofE h S fun k m1 v G1 le R1 q1 h1 => ?_)⟩
  rw [show v = k from q1]
  cases k with
  | true => exact iteT (qa env m1 σ G1 E (S.mono le) R1 h1)
  | false => exact iteF (qb env m1 σ G1 E (S.mono le) R1 h1)
/-! ### targets -/
abbrev GF := W → Env → Option Env
/-- but for the slots is, the slots stay -/
structure Off (is : List Nat) (σ σ' : St) : Prop where
  len : σ'.length = σ.length
  get : ∀ j, j ∉ is → σ'[j]? = σ[j]?
theorem Off.refl (is : List Nat) (σ : St) : Off is σ σ := ⟨rfl, fun _ _ => rfl⟩
theorem Off.trans {is js : List Nat} {σ σ1 σ2 : St} (a : Off is σ σ1) (b : Off js σ1 σ2) : Off (is ++ js) σ σ2 :=
  ⟨b.len.trans a.len, fun j h => (b.get j fun z => h (List.mem_append_right _ z)).trans (a.get j fun z => h (List.mem_append_left _ z))⟩
def MG (X : Cx) (tg : Expr) (g : GF) (is : List Nat) : Prop :=
  ∃ t, PG X tg t ∧ ∀ w env env' σ (G : Wd) v (Q : St → Hp → Prop), RelS X.K G σ env → RepW X.K G v w → g w env = some env' → (∀ σ', Off is σ σ' → RelS X.K G σ' env' → Q σ' G.H) → t v σ G.H Q
def gSet (i : Nat) (w : W) (env : Env) : Option Env := some (env.set i (some w))
theorem Off.set {σ : St} {v : V} (i : Nat) : Off [i] σ (σ.set i (some v)) := ⟨List.length_set, fun j h => List.getElem?_set_ne fun z => h (by rw [z]; exact List.mem_singleton.mpr rfl)⟩
theorem mg_name (i : Nat) {x : Str} {pos : Pos} (hN : X.N.Nodup) (hi : X.N[i]? = some x := by rfl) (hx : Loc X.env.scope x := by first | exact .inl rfl | exact .inr rfl) (hf : X.fn x = true ∨ X.env.scope.names.lookup x = some .local := by first | exact .inl rfl | exact .inr rfl) : MG X (.Name x pos) (gSet i) [i] :=
  ⟨_, pg_name hN hi hx hf, fun w env env' σ G v Q S r e h => by cases e; exact h _ (Off.set i) (S.set r)⟩
abbrev GsF := List D → Env → Option Env
def MGs (X : Cx) (tg : List Expr) (g : GsF) (is : List Nat) : Prop :=
  ∃ t, PGs X tg t ∧ ∀ ds env env' σ (G : Wd) vs (Q : St → Hp → Prop), RelS X.K G σ env → Reps X.K G.lv G.H vs ds → g ds env = some env' → (∀ σ', Off is σ σ' → RelS X.K G σ' env' → Q σ' G.H) → t vs σ G.H Q
def gsNil (ds : List D) (env : Env) : Option Env := match ds with
  | [] => some env
  | _ :: _ => none
def gsCons (g : GF) (r : GsF) (ds : List D) (env : Env) : Option Env := match ds with
  | [] => none
  | d :: ds => (g (.d d) env).bind fun e => r ds e
theorem mgs_nil : MGs X [] gsNil [] := ⟨_, pgs_nil, fun ds env env' σ G vs Q S r e h => by
  cases r with
  | nil => cases e; exact ⟨rfl, h _ (Off.refl _ _) S⟩
  | cons _ _ => cases e⟩
theorem mgs_cons {e : Expr} {es : List Expr} {g : GF} {r : GsF} {is js : List Nat} (h1 : MG X e g is) (h2 : MGs X es r js) (hs : (assignEach (e :: es) X.env).map (·.2) = assign e X.env :: (assignEach es X.env).map (·.2) := by rfl) : MGs X (e :: es) (gsCons g r) (is ++ js) := by
  obtain ⟨t, p, q⟩ := h1
  obtain ⟨u, p2, q2⟩ := h2
  refine ⟨_, pgs_cons p p2 hs, fun ds env env' σ G vs Q S rr e h => ?_⟩
  cases rr with
  | nil => cases e
  | cons h0 r0 =>
    rename_i d ds'
    simp only [gsCons] at e
    cases q0 : g (.d d) env with
    | none => rw [q0] at e; cases e
    | some e1 =>
      rw [q0] at e
      exact ⟨_, _, rfl, q (.d d) env e1 σ G _ _ S h0 q0 fun σ' o1 S' => q2 ds' e1 env' σ' G _ Q S' r0 e fun σ2 o2 S2 => h σ2 (o1.trans o2) S2⟩
def gTupF (n : Nat) (r : GsF) (w : W) (env : Env) : Option Env := match w with
  | .d (.tuple ds) => if ds.length = n then r ds env else none
  | _ => none
theorem mg_tup {es : List Expr} {k : Nat} {r : GsF} {n : Nat} {is : List Nat} {pos : Pos} (hc : X.calm = true) (h : MGs X es r is) (hn : (assignEach es X.env).length = n := by rfl) (hst : (assignEach es X.env).findIdx? (·.1) = none := by rfl) : MG X (.Tuple es k pos) (gTupF n r) is := by
  obtain ⟨t, p, q⟩ := h
  refine ⟨_, pg_tup hc p hn hst, fun w env env' σ G v Q S rr e h => ?_⟩
  cases w with
  | d x =>
    cases x with
    | tuple ds =>
      simp only [gTupF] at e
      by_cases hz : ds.length = n
      · rw [if_pos hz] at e
        cases rr with
        | tup t1 r1 => exact ⟨_, _, rfl, t1.sq, by rw [r1.length]; exact hz, q ds env env' σ G _ Q S r1 e h⟩
      · rw [if_neg hz] at e; cases e
    | _ => cases e
  | _ => cases e
/-- target = e -/
def asgK (g : GF) (env : Env) (w : W) (m1 : Mem) : SRes := match w with
  | .fl _ => .bad
  | w => match g w env with
    | some e => .nx e m1
    | none => .bad
def sAsg (f : EF) (g : GF) (env : Env) (m : Mem) : SRes := eS (f env m) env fun w m1 => asgK g env w m1
theorem asgQ {g : GF} {t : TG} {is : List Nat} (q : ∀ w env env' σ (G : Wd) v (Q : St → Hp → Prop), RelS X.K G σ env → RepW X.K G v w → g w env = some env' → (∀ σ', Off is σ σ' → RelS X.K G σ' env' → Q σ' G.H) → t v σ G.H Q)
    {env : Env} {σ : St} {G G1 : Wd} {m1 : Mem} {w : W} {v : V} {E : Ends} {H0 : Hp} (S : RelS X.K G1 σ env) (R1 : RelM X.K G1 m1) (r : RepR X.K H0 G1 v w)
    (h : SPost X Wx G1 (asgK g env w m1) E) : t v σ G1.H E.nx := by
  have go : RepW X.K G1 v w → SPost X Wx G1 (match g w env with | some e => .nx e m1 | none => .bad) E → t v σ G1.H E.nx := fun r h => by
    cases e : g w env with
    | none => rw [e] at h; exact False.elim h
    | some e1 => rw [e] at h; exact q w env e1 σ G1 v _ S r e fun σ' _ S' => h σ' G1 (Le.refl R1) R1 S'
  cases w with
  | fl _ => exact False.elim h
  | d x => exact go r h
  | obj x => exact go r h
  | ro x => exact go r h
  | pr x i => exact go r h
theorem ms_asg {tg e : Expr} {f : EF} {g : GF} {is : List Nat} {pos : Pos} (he : ME X Wx e f) (hg : MG X tg g is) (hs : swapsWithSole [tg] e pos.line X.env = pure false := by rfl) (hw : swappedStores [tg] e X.env = pure none := by rfl)
    (h1 : (assignEach [tg] X.env).map (·.2) = [assign tg X.env] := by rfl) : MS X Wx (.Assign [tg] e pos) (sAsg f g) := by
  obtain ⟨t, p, q⟩ := he
  obtain ⟨u, p2, q2⟩ := hg
  exact ⟨_, ps_asg p p2 hs hw h1, fun env m σ G E S R h => q env m σ G _ S R (SPost.ofE h S fun w m1 v G1 le R1 q1 h1 => asgQ (G := G) q2 (S.mono le) R1 q1 h1)⟩
/-- name = e -/
theorem ms_set (i : Nat) {x : Str} {e : Expr} {f : EF} {pos pos' : Pos} (hN : X.N.Nodup) (he : ME X Wx e f) (hi : X.N[i]? = some x := by rfl) (hx : Loc X.env.scope x := by first | exact .inl rfl | exact .inr rfl) (hs : swapsWith e (some (.Name x pos')) pos.line X.env = pure false := by rfl)
    (hf : X.fn x = true ∨ X.env.scope.names.lookup x = some .local := by first | exact .inl rfl | exact .inr rfl) : MS X Wx (.Assign [.Name x pos'] e pos) (sAsg f (gSet i)) := by
  obtain ⟨t, p, q⟩ := he
  exact ⟨_, ps_set hN hi hx p hs hf, fun env m σ G E S R h => q env m σ G _ S R (SPost.ofE h S fun w m1 v G1 le R1 q1 h1 => asgQ (G := G) (g := gSet i) (t := gName i) (is := [i]) (fun w env env' σ G v Q S r e h => by cases e; exact h _ (Off.set i) (S.set r)) (S.mono le) R1 q1 h1)⟩
def addIW := int0W fun i j => .int (i + j)
/-! ### while -/
def whileM (c : TF) (b : SF) : Nat → Env → Mem → SRes
  | 0, _, _ => .bad
  | n + 1, env, m => eS (c env m) env fun t m1 => if t = true then (match b env m1 with
    | .nx e m2 => whileM c b n e m2
    | .ct e m2 => whileM c b n e m2
    | .bk e m2 => .nx e m2
    | r => r) else .nx env m1
theorem ms_while (n : Nat) {c : Expr} {body : List Stmt} {fc : TF} {fb : SF} {pos : Pos} (hp : PassesOwn (model X.prog X.w) X.A X.env X.xe) (hc : MT X Wx c fc) (hb : MB X Wx body fb) : MS X Wx (.While c body [] pos) (whileM fc fb n) := by
  obtain ⟨tc, pc, qc⟩ := hc
  obtain ⟨tb, pb, qb⟩ := hb
  refine ⟨_, ps_while hp pc pb, fun env m σ G E S R h => ?_⟩
  refine ⟨fun k σ' H' => ∃ env' m' G', G'.H = H' ∧ RelM X.K G' m' ∧ RelS X.K G' σ' env' ∧ SPost X Wx G' (whileM fc fb k env' m') E, ⟨n, env, m, G, rfl, R, S, h⟩, ?_⟩
  rintro k σ' H' ⟨env', m', G', rfl, R', S', h'⟩
  cases k with
  | zero => exact False.elim h'
  | succ k =>
    refine qc env' m' σ' G' _ S' R' (SPost.ofE h' S' fun b m1 v G1 le R1 q1 h1 => ?_)
    rw [show v = b from q1]
    cases b with
    | false => exact iteF (h1 σ' G1 (Le.refl R1) R1 (S'.mono le))
    | true =>
      refine iteT ⟨fun σ2 H2 => ∃ env' m' G', G'.H = H2 ∧ RelM X.K G' m' ∧ RelS X.K G' σ2 env' ∧ SPost X Wx G' (whileM fc fb k env' m') E, fun σ2 H2 z => ⟨k, Nat.lt_succ_self k, z⟩, ?_⟩
      refine qb env' m1 σ' G1 _ (S'.mono le) R1 ?_
      simp only [if_true] at h1
      cases e : fb env' m1 with
      | nx e1 m2 => rw [e] at h1; exact fun σ2 G2 le2 R2 S2 => ⟨e1, m2, G2, rfl, R2, S2, SPost.later h1 le2⟩
      | ct e1 m2 => rw [e] at h1; exact fun σ2 G2 le2 R2 S2 => ⟨e1, m2, G2, rfl, R2, S2, SPost.later h1 le2⟩
      | bk e1 m2 => rw [e] at h1; exact h1
      | rt w m2 => rw [e] at h1; exact h1
      | err x e1 m2 => rw [e] at h1; exact h1
      | bad => rw [e] at h1; exact h1
/-! ### what is walked -/
structure Its where
  xs : List W
  chk : Mem → Bool
def ItOk (K : PySem.W.Frag) (J : It) (I : Its) (G1 : Wd) : Prop := ∀ G2 m2, Le G1 G2 → RelM K G2 m2 → I.chk m2 = true → ∀ i, 
  (∀ w, I.xs[i]? = some w → J.go i G2.H ∧ ∀ x H', J.yld i G2.H x H' → ∃ G3, G3.H = H' ∧ Le G2 G3 ∧ RelM K G3 m2 ∧ RepW K G3 x w) ∧ (I.xs.length ≤ i → J.stop i G2.H)
def relI (K : PySem.W.Frag) : Hp → Wd → It → Its → Prop := fun _ G J I => ItOk K J I G
abbrev IF := Env → Mem → Res Its
def MI (X : Cx) (Wx : WX) (tg iter : Expr) (f : IF) : Prop :=
  ∃ wi, PI X tg iter wi ∧ ∀ env m σ G Q, RelS X.K G σ env → RelM X.K G m → GPost X Wx σ G (relI X.K) (f env m) Q → wi σ G.H Q
theorem weakI {K : PySem.W.Frag} : Weak (relI K) := fun _ _ _ _ _ _ h => h
def forM (chk : Mem → Bool) (b : W → SF) : List W → Env → Mem → SRes
  | [], env, m => if chk m = true then .nx env m else .bad
  | x :: r, env, m => if chk m = true then (match b x env m with
    | .nx e m1 => forM chk b r e m1
    | .ct e m1 => forM chk b r e m1
    | .bk e m1 => .nx e m1
    | r => r) else .bad
/-- the body behind the target -/
def sTg (g : GF) (b : SF) (w : W) (env : Env) (m : Mem) : SRes := match g w env with
  | some e => b e m
  | none => .bad
def sFor (it : IF) (g : GF) (b : SF) (env : Env) (m : Mem) : SRes := eS (it env m) env fun I m1 => forM I.chk (sTg g b) I.xs env m1
theorem ms_for {tg iter : Expr} {body : List Stmt} {fi : IF} {g : GF} {is : List Nat} {fb : SF} {pos : Pos} (hp : PassesOwn (model X.prog X.w) X.A X.env X.xe) (hc : X.calm = true) (hi : MI X Wx tg iter fi) (hg : MG X tg g is) (hb : MB X Wx body fb)
    (hs : ∀ x, foldedSetIterable iter X.env x = pure x := by intro _; rfl) : MS X Wx (.For tg iter body [] pos) (sFor fi g fb) := by
  obtain ⟨ti, pi, qi⟩ := hi
  obtain ⟨tg', pg, qg⟩ := hg
  obtain ⟨tb, pb, qb⟩ := hb
  refine ⟨_, ps_for hp hc pi pg pb hs, fun env m σ G E S R h => ?_⟩
  refine qi env m σ G _ S R (SPost.ofE h S fun I m1 J G1 le R1 hJ h1 => ?_)
  refine ⟨fun i k σ' H' => ∃ env' m' G', G'.H = H' ∧ k + i = I.xs.length ∧ Le G1 G' ∧ RelM X.K G' m' ∧ RelS X.K G' σ' env' ∧ SPost X Wx G' (forM I.chk (sTg g fb) (I.xs.drop i) env' m') E,
    ⟨I.xs.length, env, m1, G1, rfl, Nat.add_zero _, Le.refl R1, R1, S.mono le, h1⟩, ?_⟩
  rintro i k σ' H' ⟨env', m', G', rfl, hk, le', R', S', h'⟩
  cases ex : I.xs.drop i with
  | nil =>
    rw [ex] at h'
    have hl : I.xs.length ≤ i := List.drop_eq_nil_iff.mp ex
    by_cases hz : I.chk m' = true
    · simp only [forM, hz, if_true] at h'
      exact .inl ⟨(hJ G' m' le' R' hz i).2 hl, h' σ' G' (Le.refl R') R' S'⟩
    · simp only [forM, hz] at h'
      exact False.elim h'
  | cons w r =>
    rw [ex] at h'
    have hi : I.xs[i]? = some w := by
      have := congrArg (·[0]?) ex
      simpa using this
    have hr : I.xs.drop (i + 1) = r := by
      have := congrArg List.tail ex
      simpa using this
    by_cases hz : I.chk m' = true
    · simp only [forM, hz, if_true] at h'
      obtain ⟨go, yl⟩ := (hJ G' m' le' R' hz i).1 w hi
      have hlt : i < I.xs.length := (List.getElem?_eq_some_iff.mp hi).1
      refine .inr ⟨go, fun σ2 H2 => ∃ env' m' G', G'.H = H2 ∧ Le G1 G' ∧ RelM X.K G' m' ∧ RelS X.K G' σ2 env' ∧ SPost X Wx G' (forM I.chk (sTg g fb) r env' m') E, fun σ2 H2 ⟨e2, m2, G2, z1, z2, z3, z4, z5⟩ => ⟨k - 1, by omega, e2, m2, G2, z1, by omega, z2, z3, z4, by rw [hr]; exact z5⟩, fun x H3 hy => ?_⟩
      obtain ⟨G3, rfl, le3, R3, rw3⟩ := yl x H3 hy
      cases eg : g w env' with
      | none =>
        have hst : sTg g fb w env' m' = .bad := by simp only [sTg, eg]
        rw [hst] at h'
        exact False.elim h'
      | some e1 =>
        have hst : sTg g fb w env' m' = fb e1 m' := by simp only [sTg, eg]
        rw [hst] at h'
        refine qg w env' e1 σ' G3 x _ (S'.mono le3) rw3 eg fun σ4 _ S4 => ?_
        refine qb e1 m' σ4 G3 _ S4 R3 ?_
        have l4 : Le G1 G3 := le'.trans le3
        cases e : fb e1 m' with
        | nx e1 m2 => rw [e] at h'; exact fun σ2 G2 le2 R2 S2 => ⟨e1, m2, G2, rfl, l4.trans le2, R2, S2, SPost.later h' (le3.trans le2)⟩
        | ct e1 m2 => rw [e] at h'; exact fun σ2 G2 le2 R2 S2 => ⟨e1, m2, G2, rfl, l4.trans le2, R2, S2, SPost.later h' (le3.trans le2)⟩
        | bk e1 m2 => rw [e] at h'; exact SPost.later (r := .nx e1 m2) h' le3
        | rt w m2 => rw [e] at h'; exact SPost.later h' le3
        | err x e1 m2 => rw [e] at h'; exact SPost.later h' le3
        | bad => rw [e] at h'; exact h'
    · simp only [forM, hz] at h'
      exact False.elim h'
end
end M
set_option Elab.async false
set_option linter.all false
set_option maxRecDepth 100000
namespace M
open PySem L2
variable [HasW]
/-! ### data alike -/
section
variable {X : Cx} {Wx : WX}
/-! ### walking a list, a tuple, a text -/
def rWalk (K : PySem.W.Frag) (x : V) (H1 : Hp) (R : It → Hp → Prop) : Prop :=
  (∃ a, x = .ref a ∧ (∃ xs, SqL K H1 a xs) ∧ R (Itl K a) H1) ∨ (∃ a, x = .ref a ∧ (∃ xs, SqT K H1 a xs) ∧ R (Itt K a) H1) ∨ (∃ z, x = .str z ∧ R (L2.Its z) H1)
def iWalk (K : PySem.W.Frag) (tl : TE) : TI := fun σ H R => tl σ H fun x H1 => rWalk K x H1 R
theorem walk_it {pins : List (Addr × Obj)} {σ : St} {tg : Expr} {H1 : Hp} {s1 : Shared} {x : V} {v : Value} {R : It → Hp → Prop} (I1 : Inv X pins σ H1 s1) (r1 : RelV x v) (q1 : rWalk X.K x H1 R) : wpAny (model X.prog X.w) X.A (pyIter v) (PIE X pins σ tg R) X.xe s1 := by
  have hf : ∀ (b : Addr), b ∈ [s1.heap.objs.size] → FpOk X pins H1 b := fun b hb => by
    rw [List.mem_singleton.mp hb]
    exact I1.fpOk (Nat.le_refl _) (I1.hok.fresh (Nat.le_refl _))
  rcases q1 with ⟨a, rfl, ⟨xs, hq⟩, q⟩ | ⟨a, rfl, ⟨xs, hq⟩, q⟩ | ⟨z, rfl, q⟩
  · cases r1
    obtain ⟨its, rv, pl, hz⟩ := I1.list hq
    exact wpAny_pyIter_list pl.isList ⟨s1.heap.objs.size, [s1.heap.objs.size], _, _, H1, rfl, I1.kept (t' := s1.toks) (fun b o e => Heap.get?_push_of_some _ e), turn_list a _, ⟨_, Heap.get?_push_size _ rfl, rfl, rfl⟩, hf, q⟩
  · cases r1
    obtain ⟨its, rv, pl, hz⟩ := I1.tuple hq
    exact wpAny_pyIter_tuple (show s1.heap.IsTuple a its.toArray from pl) ⟨s1.heap.objs.size, [s1.heap.objs.size], _, _, H1, rfl, I1.kept (t' := s1.toks) (fun b o e => Heap.get?_push_of_some _ e), turn_tuple a _, ⟨_, Heap.get?_push_size _ rfl, rfl, rfl⟩, hf, q⟩
  · obtain ⟨t, rfl⟩ := r1
    cases ha : z.cps.all (· < 128) with
    | false => exact PySem.wpAny_pyIter_wide ha (pi_one (tk := s1.toks) I1 _ (turn_str _ z t "str_iterator" (.inr rfl)) ⟨_, Heap.get?_push_size _ rfl, rfl, rfl⟩ q)
    | true => exact PySem.wpAny_pyIter_ascii ha (pi_one (tk := s1.toks) I1 _ (turn_str _ z t "str_ascii_iterator" (.inl rfl)) ⟨_, Heap.get?_push_size _ rfl, rfl, rfl⟩ q)
theorem pi_walk {tg l : Expr} {tl : TE} (hl : PE X l tl) : PI X tg l (iWalk X.K tl) :=
  ⟨fun pins s σ H R I h => thn (hl.run pins s σ H _ I h) fun _ _ ⟨_, _, I1, r1, q1⟩ => walk_it I1 r1 q1⟩
def yesM (_ : Mem) : Bool := true
noncomputable def sameM (i : Nat) (ds : List D) (m : Mem) : Bool := match asL (.obj i) m with
  | some es => grd (ds = es)
  | none => false
def itsL (ds : List D) : Its := ⟨ds.map .d, yesM⟩
noncomputable def walkW (w : W) (m1 : Mem) : Res Its := match w with
  | .d (.tuple ds) => .ok (itsL ds) m1
  | .d (.str z) => .ok ⟨z.cps.toList.map fun c => .d (.str ⟨#[c]⟩), yesM⟩ m1
  | .d (.list ds) => .ok (itsL ds) m1
  | .fl ds => .ok (itsL ds) m1
  | .ro ds => .ok (itsL ds) m1
  | .obj i => match asL (.obj i) m1 with
    | some ds => .ok ⟨ds.map .d, sameM i ds⟩ m1
    | none => .bad
  | _ => .bad
noncomputable def iSeq (f : EF) (env : Env) (m : Mem) : Res Its := (f env m).bind walkW
theorem itL {K : PySem.W.Frag} {G1 : Wd} {a : Addr} {ds : List D} {chk : Mem → Bool} (h : ∀ G2 m2, Le G1 G2 → RelM K G2 m2 → chk m2 = true → ∃ vs, SqL K G2.H a vs ∧ Reps K G2.lv G2.H vs ds) : ItOk K (Itl K a) ⟨ds.map .d, chk⟩ G1 := by
  intro G2 m2 le R hz i
  obtain ⟨vs, hs, r⟩ := h G2 m2 le R hz
  refine ⟨fun w hw => ?_, fun hi => ⟨vs, hs, by rw [r.length]; simpa using hi⟩⟩
  have hw : (ds.map W.d)[i]? = some w := hw
  rw [List.getElem?_map] at hw
  cases e : ds[i]? with
  | none => rw [e] at hw; cases hw
  | some d =>
    rw [e] at hw
    cases hw
    obtain ⟨v, h1, h2⟩ := r.get e
    refine ⟨⟨vs, v, hs, h1⟩, fun x H' ⟨e1, e2⟩ => ⟨G2, e1.symm, Le.refl R, R, ?_⟩⟩
    have := e2 vs hs
    rw [h1] at this
    cases this
    exact h2
theorem itT {K : PySem.W.Frag} {G1 : Wd} {a : Addr} {ds : List D} {chk : Mem → Bool} (h : ∀ G2 m2, Le G1 G2 → RelM K G2 m2 → chk m2 = true → ∃ vs, SqT K G2.H a vs ∧ Reps K G2.lv G2.H vs ds) : ItOk K (Itt K a) ⟨ds.map .d, chk⟩ G1 := by
  intro G2 m2 le R hz i
  obtain ⟨vs, hs, r⟩ := h G2 m2 le R hz
  refine ⟨fun w hw => ?_, fun hi => ⟨vs, hs, by rw [r.length]; simpa using hi⟩⟩
  have hw : (ds.map W.d)[i]? = some w := hw
  rw [List.getElem?_map] at hw
  cases e : ds[i]? with
  | none => rw [e] at hw; cases hw
  | some d =>
    rw [e] at hw
    cases hw
    obtain ⟨v, h1, h2⟩ := r.get e
    refine ⟨⟨vs, v, hs, h1⟩, fun x H' ⟨e1, e2⟩ => ⟨G2, e1.symm, Le.refl R, R, ?_⟩⟩
    have := e2 vs hs
    rw [h1] at this
    cases this
    exact h2
theorem itStr {K : PySem.W.Frag} {G1 : Wd} {z : Str} : ItOk K (L2.Its z) ⟨z.cps.toList.map fun c => .d (.str ⟨#[c]⟩), yesM⟩ G1 := by
  intro G2 m2 le R hz i
  have ez : (z.cps.toList.map fun c => (W.d (.str ⟨#[c]⟩) : W)).length = z.cps.size := by simp
  refine ⟨fun w hw => ?_, fun hi => by
    have hi : (z.cps.toList.map fun c => (W.d (.str ⟨#[c]⟩) : W)).length ≤ i := hi
    rw [ez] at hi
    exact hi⟩
  have hw : (z.cps.toList.map fun c => (W.d (.str ⟨#[c]⟩) : W))[i]? = some w := hw
  rw [List.getElem?_map] at hw
  cases e : z.cps.toList[i]? with
  | none => rw [e] at hw; cases hw
  | some c =>
    rw [e] at hw
    cases hw
    refine ⟨by have := (List.getElem?_eq_some_iff.mp e).1; show i < z.cps.size; simpa using this, fun x H' ⟨e1, c', e2, e3⟩ => ⟨G2, e1.symm, Le.refl R, R, ?_⟩⟩
    rw [Array.getElem?_toList] at e
    rw [e] at e2
    cases e2
    rw [e3]
    exact .str _
theorem walkW_ok {σ : St} {G : Wd} {m : Mem} {v : V} {w : W} {H0 : Hp} {Q : It → Hp → Prop} (R : RelM X.K G m) (r : RepR X.K H0 G v w) (h : GPost X Wx σ G (relI X.K) (walkW w m) Q) : rWalk X.K v G.H Q := by
  cases w with
  | d x =>
    cases x with
    | tuple ds =>
      cases r with
      | tup t r => exact .inr (.inl ⟨_, rfl, ⟨_, t.sq⟩, h _ G (Le.refl R) R (itT fun G2 m2 le R2 _ => ⟨_, (t.mono le.mo).sq, r.mono le.mo⟩)⟩)
    | str z => cases r; exact .inr (.inr ⟨z, rfl, h _ G (Le.refl R) R itStr⟩)
    | list ds =>
      cases r with
      | lst t r => exact .inl ⟨_, rfl, ⟨_, t.sq⟩, h _ G (Le.refl R) R (itL fun G2 m2 le R2 _ => ⟨_, (t.mono le.mo).sq, r.mono le.mo⟩)⟩
    | _ => exact False.elim h
  | fl ds =>
    obtain ⟨p, vs, rfl, h0, h1, h2, h3, r⟩ := r
    exact .inl ⟨p, rfl, ⟨vs, .of h3⟩, h _ G (Le.refl R) R (itL fun G2 m2 le R2 _ => ⟨vs, .of (le.keep _ _ h3 (fun z => h1 z.1) nofun), r.mono le.mo⟩)⟩
  | pr x i => exact False.elim h
  | ro ds =>
    obtain ⟨p, vs, rfl, h1, r⟩ := r
    exact .inl ⟨p, rfl, ⟨vs, h1.sq⟩, h _ G (Le.refl R) R (itL fun G2 m2 le R2 _ => ⟨vs, (h1.mono le.mo).sq, r.mono le.mo⟩)⟩
  | obj i =>
    simp only [walkW] at h
    cases e : asL (.obj i) m with
    | none => rw [e] at h; exact False.elim h
    | some ds =>
      rw [e] at h
      obtain ⟨a, ha, rfl⟩ := id r
      obtain ⟨a', vs, e1, h1, _⟩ := asL_sq (w := .obj i) R r e
      cases e1
      refine .inl ⟨a, rfl, ⟨vs, h1⟩, h _ G (Le.refl R) R (itL fun G2 m2 le R2 hz => ?_)⟩
      unfold sameM at hz
      cases e2 : asL (.obj i) m2 with
      | none => rw [e2] at hz; cases hz
      | some es =>
        rw [e2] at hz
        have ee := grd_iff.mp hz
        subst ee
        obtain ⟨a2, vs2, e3, h3, r3⟩ := asL_sq (v := .ref a) (H0 := H0) (w := .obj i) R2 ⟨a, le.iget ha, rfl⟩ e2
        cases e3
        exact ⟨vs2, h3, r3⟩
theorem mi_seq {tg e : Expr} {f : EF} (h : ME X Wx e f) : MI X Wx tg e (iSeq f) := by
  obtain ⟨t, p, q⟩ := h
  exact ⟨_, pi_walk p, fun env m σ G Q S R h => q env m σ G _ S R (GPost.bind weakI h fun w m1 v G1 le1 R1 q1 h1 => walkW_ok R1 q1 h1)⟩
/-! ### range -/
def rngI (lo : Int) (n : Nat) : Its := ⟨(List.range n).map fun (k : Nat) => .d (.int (lo + (k : Int))), yesM⟩
theorem itR {K : PySem.W.Frag} {G1 : Wd} {lo : Int} {n : Nat} : ItOk K (Itr lo n) (rngI lo n) G1 := by
  intro G2 m2 le R hz i
  have ez : (rngI lo n).xs.length = n := by simp [rngI]
  refine ⟨fun w hw => ?_, fun hi => by rw [ez] at hi; exact hi⟩
  have hi : i < n := by
    have := (List.getElem?_eq_some_iff.mp hw).1
    rwa [ez] at this
  have hw : ((List.range n).map fun (k : Nat) => (W.d (.int (lo + (k : Int))) : W))[i]? = some w := hw
  rw [List.getElem?_map, List.getElem?_range hi] at hw
  cases hw
  refine ⟨hi, fun x H' ⟨e1, e2⟩ => ⟨G2, e1.symm, Le.refl R, R, ?_⟩⟩
  rw [e2]
  exact .int _
noncomputable def smallI (i : Int) : Bool := grd (-(2 ^ 62) ≤ i ∧ i < 2 ^ 62)
noncomputable def rng1 (ws : List W) (m : Mem) : Res Its := match ws with
  | [.d (.int j)] => if smallI j = true then .ok (rngI 0 j.toNat) m else .bad
  | _ => .bad
noncomputable def iRange1 (a : AF) (env : Env) (m : Mem) : Res Its := (a env m).bind rng1
theorem paired1 {α β : Type} {F : α → β → Prop} {vs : List α} {b : β} (h : Paired F vs [b]) : ∃ a, vs = [a] ∧ F a b := by
  cases h with
  | cons h t => cases t; exact ⟨_, rfl, h⟩
theorem mi_range1 {tg a : Expr} {f : AF} {p pos : Pos} (hg : Gl X "range") (hm : X.mg "range" = none) (ha : MA X Wx [a] f) (hs : starEach [a] X.env = [(false, eval a X.env)] := by rfl) : MI X Wx tg (.Call (.Name "range" p) [a] [] pos) (iRange1 f) := by
  obtain ⟨t, pa, q⟩ := ha
  refine ⟨_, pi_range1 hg hm pa hs, fun env m σ G Q S R h => q env m σ G _ S R (GPost.bind weakI h fun ws m1 vs G1 le1 R1 q1 h1 => ?_)⟩
  unfold rng1 at h1
  split at h1
  · rename_i j
    obtain ⟨v, rfl, r⟩ := paired1 q1
    cases r
    by_cases hz : smallI j = true
    · simp only [hz, if_true] at h1
      have hz := grd_iff.mp hz
      exact ⟨j, rfl, hz.1, hz.2, h1 _ G1 (Le.refl R1) R1 itR⟩
    · simp only [hz] at h1
      exact False.elim h1
  · exact False.elim h1
/-! ### enumerate, zip -/
theorem itPair {K : PySem.W.Frag} {G2 : Wd} {m2 : Mem} {T : Addr} {vs : List V} {ds : List D} (R : RelM K G2 m2) (hT : G2.H T = none) (r : Reps K G2.lv G2.H vs ds) :
    ∃ G3, G3.H = upd G2.H T (.tup vs) ∧ Le G2 G3 ∧ RelM K G3 m2 ∧ RepW K G3 (.ref T) (.d (.tuple ds)) := by
  have le : Le G2 ⟨G2.io, G2.lv, upd G2.H T (.tup vs)⟩ := Le.new R hT
  exact ⟨_, rfl, le, R.new hT, Rep.tup (.inl ⟨(R.ne hT).2, upd_same⟩) (Reps.mono le.mo r)⟩
/-- a list that stays: not an object -/
def asS (w : W) : Option (List D) := match w with
  | .d (.list ds) => some ds
  | .fl ds => some ds
  | .ro ds => some ds
  | _ => none
theorem asS_sq {G : Wd} {m : Mem} {v : V} {w : W} {H0 : Hp} {ds : List D} (R : RelM X.K G m) (r : RepR X.K H0 G v w) (e : asS w = some ds) : ∃ a vs, v = .ref a ∧ ∀ G2, Le G G2 → SqL X.K G2.H a vs ∧ Reps X.K G2.lv G2.H vs ds := by
  cases w with
  | d x =>
    cases x with
    | list es =>
      cases e
      cases r with
      | lst t r => exact ⟨_, _, rfl, fun G2 le => ⟨(t.mono le.mo).sq, r.mono le.mo⟩⟩
    | _ => cases e
  | fl es => cases e; obtain ⟨p, vs, rfl, h0, h1, h2, h3, r⟩ := r; exact ⟨p, vs, rfl, fun G2 le => ⟨.of (le.keep _ _ h3 (fun z => h1 z.1) nofun), r.mono le.mo⟩⟩
  | ro es => cases e; obtain ⟨p, vs, rfl, h1, r⟩ := r; exact ⟨p, vs, rfl, fun G2 le => ⟨(h1.mono le.mo).sq, r.mono le.mo⟩⟩
  | obj i => cases e
  | pr x i => cases e
def enumD (ds : List D) : List D := ds.zipIdx.map fun p => .tuple [.int (p.2 : Int), p.1]
def enumW (ws : List W) (m : Mem) : Res Its := match ws with
  | [w] => match asS w with
    | some ds => .ok (itsL (enumD ds)) m
    | none => .bad
  | _ => .bad
def iEnumF (a : AF) (env : Env) (m : Mem) : Res Its := (a env m).bind enumW
theorem mi_enum {e : Expr} {f : AF} {p pos tpos : Pos} {elts : List Expr} {kk : Nat} (hg : Gl X "enumerate") (hm : X.mg "enumerate" = none) (ha : MA X Wx [e] f) (hs : starEach [e] X.env = [(false, eval e X.env)] := by rfl) :
    MI X Wx (.Tuple elts kk tpos) (.Call (.Name "enumerate" p) [e] [] pos) (iEnumF f) := by
  obtain ⟨t, pa, q⟩ := ha
  refine ⟨_, pi_enum hg hm pa hs, fun env m σ G Q S R h => q env m σ G _ S R (GPost.bind weakI h fun ws m1 vs G1 le1 R1 q1 h1 => ?_)⟩
  unfold enumW at h1
  split at h1
  · rename_i w
    obtain ⟨v, rfl, r⟩ := paired1 q1
    cases e : asS w with
    | none => simp only [e] at h1; exact False.elim h1
    | some ds =>
      simp only [e] at h1
      obtain ⟨a, vs, rfl, hst⟩ := asS_sq R1 r e
      refine ⟨a, vs, rfl, (hst G1 (Le.refl R1)).1, h1 _ G1 (Le.refl R1) R1 ?_⟩
      intro G2 m2 le R2 hz i
      obtain ⟨hq, hr⟩ := hst G2 le
      refine ⟨fun w' hw => ?_, fun hi => ⟨vs, hq, by rw [hr.length]; simpa [itsL, enumD] using hi⟩⟩
      have hw : ((enumD ds).map W.d)[i]? = some w' := hw
      rw [List.getElem?_map] at hw
      unfold enumD at hw
      rw [List.getElem?_map, List.getElem?_zipIdx] at hw
      cases e2 : ds[i]? with
      | none => rw [e2] at hw; cases hw
      | some d =>
        rw [e2] at hw
        cases hw
        obtain ⟨v, g1, g2⟩ := hr.get e2
        refine ⟨⟨vs, v, hq, g1⟩, fun x H' ⟨T, y, ex, hT, eH, hy⟩ => ?_⟩
        have := hy vs hq
        rw [g1] at this
        cases this
        rw [ex, eH]
        have ei : ((0 + i : Nat) : Int) = ((i : Nat) : Int) := by rw [Nat.zero_add]
        show ∃ G3, G3.H = _ ∧ _ ∧ _ ∧ RepW X.K G3 (.ref T) (.d (.tuple [.int ((0 + i : Nat) : Int), d]))
        rw [ei]
        exact itPair R2 hT (.cons (.int _) (.cons g2 .nil))
  · exact False.elim h1
end
end M
set_option Elab.async false
set_option linter.all false
set_option maxRecDepth 100000
namespace M
open PySem L2
variable [HasW]
/-! ### a list that grows aside -/
section
variable {K : PySem.W.Frag} {G G0 : Wd} {m : Mem} {p : Addr} {o : HO}
theorem Mo.updL {lv : List Addr} {H : Hp} (h : p ∈ lv) : Mo lv H lv (upd H p o) := ⟨fun a u e n _ => by rw [upd_ne (fun z => n (by rw [z]; exact h))]; exact e, fun _ _ _ n => n⟩
theorem RepW.updL {v : V} {w : W} (h : RepW K G v w) (h1 : p ∈ G.lv) : RepW K ⟨G.io, G.lv, upd G.H p o⟩ v w := by
  cases w with
  | d x => exact Rep.mono (Mo.updL h1) h
  | obj i => exact h
  | fl _ => exact h
  | ro ds => obtain ⟨a, vs, e1, e2, e3⟩ := h; exact ⟨a, vs, e1, e2.mono (Mo.updL h1), e3.mono (Mo.updL h1)⟩
  | pr x i => obtain ⟨q, u, a, e1, e2, e3, e4⟩ := h; exact ⟨q, u, a, e1, e2.mono (Mo.updL h1), e3.mono (Mo.updL h1), e4⟩
theorem RelS.updL {σ : St} {env : Env} (S : RelS K G σ env) (h1 : p ∈ G.lv) : RelS K ⟨G.io, G.lv, upd G.H p o⟩ σ env :=
  ⟨S.len, fun i w e => let ⟨v, a, b⟩ := S.get i w e; ⟨v, a, b.updL h1⟩⟩
theorem RelM.updL (R : RelM K G m) (h1 : p ∈ G.lv) (h2 : p ∉ G.io) (ho : LvO o := by first | exact ⟨nofun, nofun⟩ | exact lvo_pin _ _) : RelM K ⟨G.io, G.lv, upd G.H p o⟩ m := by
  have up : ∀ a, G.H a ≠ none → upd G.H p o a ≠ none := fun a z q => z (upd_none q)
  refine ⟨R.dw, R.len, R.nd, fun a z => up a (R.lt a z), fun a z => up a (R.it a z), fun i a ob e1 e2 => ?_, R.tb.step (fun a u e n => by
    show upd G.H p o a = _
    rw [upd_ne (fun z => n (by rw [z]; exact h1))]; exact e) fun a _ z => z, fun a z u e => by
    have e : upd G.H p o a = some u := e
    by_cases y : a = p
    · rw [y, upd_same] at e
      cases e
      exact ho
    · rw [upd_ne y] at e
      exact R.nt a z u e⟩
  have q := R.ob i a ob e1 e2
  have ne : a ≠ p := fun e => h2 (e ▸ List.mem_of_getElem? e1)
  have ea : upd G.H p o a = G.H a := upd_ne ne
  cases ob with
  | lst ds => obtain ⟨z1, vs, z2, r⟩ := q; exact ⟨z1, vs, ea.trans z2, r.mono (Mo.updL h1)⟩
  | fz ds => obtain ⟨z1, vs, z2, r⟩ := q; exact ⟨z1, vs, ea.trans z2, r.mono (Mo.updL h1)⟩
  | dct kvs => obtain ⟨z1, ks, z2, r⟩ := q; exact ⟨z1, ks, ea.trans z2, Paired.mono (fun _ _ z => ⟨z.1, z.2.updL h1⟩) r⟩
  | lsw ws => obtain ⟨z1, vs, z2, r⟩ := q; exact ⟨z1, vs, ea.trans z2, Paired.mono (fun _ _ z => z.updL h1) r⟩
  | dcn kvs => obtain ⟨z1, o, es, kvv, z2, z3, z4, r, n⟩ := q; exact ⟨z1, o, es, kvv, ea.trans z2, z3, z4.mono (Mo.updL h1), Paired.mono (fun _ _ z => ⟨z.1, z.2.updL h1⟩) r, n⟩
  | dead => exact q.imp (fun ⟨vs, z⟩ => ⟨vs, ea.trans z⟩) (fun ⟨o', z⟩ => ⟨o', ea.trans z⟩)
  | ins c kvs => obtain ⟨z1, C, dx, vs, z0, z2, r⟩ := q; exact ⟨z1, C, dx, vs, z0, ea.trans z2, Paired.mono (fun _ _ z => ⟨z.1, z.2.updL h1⟩) r⟩
theorem Le.updF (le : Le G0 G) (h0 : G0.H p = none) : Le G0 ⟨G.io, G.lv, upd G.H p o⟩ :=
  ⟨le.lt, le.io, le.lv, le.stay, fun a u e n nt => by
    show upd G.H p o a = _
    rw [upd_ne (ne_of_none e h0)]; exact le.keep a u e n nt, fun a e => le.tr a (upd_none e)⟩
end
/-! ### readings that do not hang on the place -/
section
variable {X : Cx} {Wx : WX}
def cE (X : Cx) (Wx : WX) (f : EF) : TE := fun σ H Q => ∃ env m G, G.H = H ∧ RelS X.K G σ env ∧ RelM X.K G m ∧ GPost X Wx σ G (RepR X.K) (f env m) Q
def cT (X : Cx) (Wx : WX) (f : TF) : TT := fun σ H Q => ∃ env m G, G.H = H ∧ RelS X.K G σ env ∧ RelM X.K G m ∧ GPost X Wx σ G relEq (f env m) Q
def cG (X : Cx) (g : GF) (is : List Nat) : TG := fun v σ H Q => ∃ w env env' G, G.H = H ∧ RelS X.K G σ env ∧ RepW X.K G v w ∧ g w env = some env' ∧ ∀ σ', Off is σ σ' → RelS X.K G σ' env' → Q σ' G.H
theorem ME.pe {e : Expr} {f : EF} (h : ME X Wx e f) : PE X e (cE X Wx f) := by
  obtain ⟨t, p, q⟩ := h
  refine ⟨fun pins s σ H Q I ⟨env, m, G, eH, S, R, hq⟩ => ?_⟩
  subst eH
  exact p.run pins s σ G.H Q I (q env m σ G Q S R hq)
theorem MG.pg {e : Expr} {g : GF} {is : List Nat} (h : MG X e g is) : PG X e (cG X g is) := by
  obtain ⟨t, p, q⟩ := h
  refine ⟨fun pins s σ H v u Q I r ⟨w, env, env', G, eH, S, rr, eg, hq⟩ => ?_⟩
  subst eH
  exact p.run pins s σ G.H v u Q I r (q w env env' σ G v Q S rr eg hq)
def MTs (X : Cx) (Wx : WX) (es : List Expr) (f : TF) : Prop :=
  ∃ t, PTs X es t ∧ ∀ env m σ G Q, RelS X.K G σ env → RelM X.K G m → GPost X Wx σ G relEq (f env m) Q → t σ G.H Q
theorem MTs.pts {e : List Expr} {f : TF} (h : MTs X Wx e f) : PTs X e (cT X Wx f) := by
  obtain ⟨t, p, q⟩ := h
  refine ⟨fun pins s σ H Q I ⟨env, m, G, eH, S, R, hq⟩ => ?_⟩
  subst eH
  exact p.run pins s σ G.H Q I (q env m σ G Q S R hq)
def tYesF (_ : Env) (m : Mem) : Res Bool := .ok true m
theorem mts_nil : MTs X Wx [] tYesF := ⟨_, pts_nil, fun env m σ G Q S R h => h true G (Le.refl R) R rfl⟩
theorem mts_one {c : Expr} {f : TF} (h : MT X Wx c f) : MTs X Wx [c] f := let ⟨t, p, q⟩ := h; ⟨t, pts_one p, q⟩
/-! ### comprehensions -/
abbrev WF : WX := fun _ _ _ _ => False
def noErr {α : Type} (r : Res α) : Res α := match r with
  | .err _ _ => .bad
  | r => r
def wipeE (env : Env) : List Nat → Env
  | [] => env
  | v :: vs => (wipeE env vs).set v none
theorem wipe_get (σ : St) : ∀ (vs : List Nat) (j : Nat), (wipe σ vs)[j]? = if j ∈ vs then (σ[j]?).map (fun _ => none) else σ[j]?
  | [], j => by simp [wipe]
  | v :: vs, j => by
    unfold wipe
    by_cases hj : v = j
    · subst hj
      rw [List.getElem?_set]
      simp only [if_true, wipe_length, List.mem_cons, true_or, if_true]
      by_cases hv : v < σ.length
      · rw [if_pos hv, List.getElem?_eq_getElem hv]; rfl
      · rw [if_neg hv, List.getElem?_eq_none (by omega)]; rfl
    · rw [List.getElem?_set_ne hj, wipe_get σ vs j]
      have : (j ∈ v :: vs) ↔ j ∈ vs := by simp [List.mem_cons, Ne.symm hj]
      simp only [this]
theorem wipe_off {σ σ' : St} {is vs : List Nat} (h : Off is (wipe σ vs) σ') (hs : ∀ i ∈ is, i ∈ vs) : wipe σ' vs = wipe σ vs := by
  apply List.ext_getElem?
  intro j
  rw [wipe_get, wipe_get]
  by_cases hj : j ∈ vs
  · simp only [hj, if_true]
    have hl : σ'.length = σ.length := by rw [h.len, wipe_length]
    by_cases hz : j < σ.length
    · rw [List.getElem?_eq_getElem hz, List.getElem?_eq_getElem (by omega)]; rfl
    · rw [List.getElem?_eq_none (by omega), List.getElem?_eq_none (by omega)]
  · simp only [hj, if_false]
    rw [h.get j fun z => hj (hs j z), wipe_get]
    simp only [hj, if_false]
theorem RelS.wipe {K : PySem.W.Frag} {G : Wd} {σ : St} {env : Env} (S : RelS K G σ env) : ∀ vs : List Nat, RelS K G (wipe σ vs) (wipeE env vs)
  | [] => S
  | v :: vs => by
    have S' := RelS.wipe S vs
    refine ⟨by unfold L2.wipe wipeE; rw [List.length_set, List.length_set]; exact S'.len, fun i w e => ?_⟩
    unfold wipeE at e
    unfold L2.wipe
    by_cases hj : v = i
    · subst hj
      rw [List.getElem?_set] at e
      simp only [if_true] at e
      split at e <;> cases e
    · rw [List.getElem?_set_ne hj] at e ⊢
      exact S'.get i w e
def lcM (chk : Mem → Bool) (b : W → Mem → Res (Option D)) : List W → List D → Mem → Res W
  | [], acc, m => if chk m = true then .ok (.fl acc) m else .bad
  | x :: r, acc, m => if chk m = true then (b x m).bind fun o m1 => match o with
    | none => lcM chk b r acc m1
    | some d => if acc.length < sizeLine then lcM chk b r (acc ++ [d]) m1 else .bad
    else .bad
def lcB (g : GF) (ft : TF) (fe : EF) (env : Env) (x : W) (m : Mem) : Res (Option D) := match g x env with
  | none => .bad
  | some e => (noErr (ft e m)).bind fun t m1 => if t = true then (noErr (fe e m1)).bind fun w m2 => match w with
      | .d x => .ok (some x) m2
      | _ => .bad
    else .ok none m1
def eLc (fi : IF) (g : GF) (ft : TF) (fe : EF) (vs : List Nat) (env : Env) (m : Mem) : Res W := (fi env m).bind fun I m1 => lcM I.chk (lcB g ft fe (wipeE env vs)) I.xs [] m1
theorem lcQ {fi : IF} {g : GF} {is : List Nat} {ft : TF} {fe : EF} {vs : List Nat} {wi : TI} (hsub : ∀ i ∈ is, i ∈ vs) (qi : ∀ env m σ G Q, RelS X.K G σ env → RelM X.K G m → GPost X Wx σ G (relI X.K) (fi env m) Q → wi σ G.H Q)
    (env : Env) (m : Mem) (σ : St) (G : Wd) (Q : VK) (S : RelS X.K G σ env) (R : RelM X.K G m) (h : GPost X Wx σ G (RepR X.K) (eLc fi g ft fe vs env m) Q) : tLc wi (cG X g is) (cT X WF ft) (cE X WF fe) vs σ G.H Q := by
  refine qi env m σ G _ S R (GPost.bind0 h fun I m1 J G1 le1 R1 hJ h1 => ?_)
  intro A hA
  refine ⟨fun i k H' => ∃ m' G' acc av, G'.H = H' ∧ k + i = I.xs.length ∧ Le G1 G' ∧ RelM X.K G' m' ∧ A ∈ G'.lv ∧ A ∉ G'.io ∧ G'.H A = some (.lst av) ∧ Reps X.K G'.lv G'.H av acc ∧ GPost X Wx σ G (RepR X.K) (lcM I.chk (lcB g ft fe (wipeE env vs)) (I.xs.drop i) acc m') Q,
    ⟨I.xs.length, m1, ⟨G1.io, A :: G1.lv, upd G1.H A (.lst [])⟩, [], [], rfl, Nat.add_zero _, Le.newL R1 hA, R1.newL hA, List.mem_cons_self, (R1.ne hA).1, upd_same, .nil, h1⟩, ?_⟩
  rintro i k H' ⟨m', G', acc, av, rfl, hk, le', R', l1, l2, l3, l4, h'⟩
  cases ex : I.xs.drop i with
  | nil =>
    rw [ex] at h'
    have hl : I.xs.length ≤ i := List.drop_eq_nil_iff.mp ex
    by_cases hz : I.chk m' = true
    · simp only [lcM, hz, if_true] at h'
      exact .inl ⟨(hJ G' m' le' R' hz i).2 hl, h' (.ref A) G' (le1.trans le') R' ⟨A, av, rfl, le1.tr A hA, l2, l1, l3, l4⟩⟩
    · simp only [lcM, hz] at h'
      exact False.elim h'
  | cons w r =>
    rw [ex] at h'
    have hi : I.xs[i]? = some w := by
      have := congrArg (·[0]?) ex
      simpa using this
    have hr : I.xs.drop (i + 1) = r := by
      have := congrArg List.tail ex
      simpa using this
    by_cases hz : I.chk m' = true
    · simp only [lcM, hz, if_true] at h'
      obtain ⟨go, yl⟩ := (hJ G' m' le' R' hz i).1 w hi
      have hlt : i < I.xs.length := (List.getElem?_eq_some_iff.mp hi).1
      refine .inr ⟨go, fun H2 => ∃ m' G' acc av, G'.H = H2 ∧ Le G1 G' ∧ RelM X.K G' m' ∧ A ∈ G'.lv ∧ A ∉ G'.io ∧ G'.H A = some (.lst av) ∧ Reps X.K G'.lv G'.H av acc ∧ GPost X Wx σ G (RepR X.K) (lcM I.chk (lcB g ft fe (wipeE env vs)) r acc m') Q,
        fun H2 ⟨m2, G2, ac, a2, z1, z2, z3, z4, z5, z6, z7, z8⟩ => ⟨k - 1, by omega, m2, G2, ac, a2, z1, by omega, z2, z3, z4, z5, z6, z7, by rw [hr]; exact z8⟩, fun x H3 hy => ?_⟩
      obtain ⟨G3, rfl, le3, R3, rw3⟩ := yl x H3 hy
      have S3 : RelS X.K G3 (L2.wipe σ vs) (wipeE env vs) := ((S.mono le1).mono (le'.trans le3)).wipe vs
      cases eg : g w (wipeE env vs) with
      | none => simp only [lcB, eg] at h'; exact False.elim h'
      | some e1 =>
        simp only [lcB, eg] at h'
        refine ⟨w, _, e1, G3, rfl, S3, rw3, eg, fun σ4 o4 S4 => ⟨wipe_off o4 hsub, e1, m', G3, rfl, S4, R3, ?_⟩⟩
        cases et : ft e1 m' with
        | bad => rw [et] at h'; exact False.elim h'
        | err _ _ => rw [et] at h'; exact False.elim h'
        | ok t m4 =>
          rw [et] at h'
          intro t' G4 le4 R4 q4
          rw [show t' = t from q4]
          have le34 := le3.trans le4
          have k1 : A ∈ G4.lv := le34.stay _ l1 l2
          have k2 : A ∉ G4.io := le34.nio (by rw [l3]; simp) l2
          have k3 : G4.H A = some (.lst av) := le34.keep _ _ l3 (fun z => l2 z.1) nofun
          have k4 : Reps X.K G4.lv G4.H av acc := l4.mono le34.mo
          cases t with
          | false => exact iteF ⟨m4, G4, acc, av, rfl, le'.trans le34, R4, k1, k2, k3, k4, h'⟩
          | true =>
            refine iteT ⟨e1, m4, G4, rfl, S4.mono le4, R4, ?_⟩
            simp only [noErr, Res.bind_ok, if_true] at h'
            cases ee : fe e1 m4 with
            | bad => rw [ee] at h'; exact False.elim h'
            | err _ _ => rw [ee] at h'; exact False.elim h'
            | ok w5 m5 =>
              rw [ee] at h'
              intro v5 G5 le5 R5 q5
              cases w5 with
              | d x5 =>
                simp only [Res.bind_ok] at h'
                have c1 : A ∈ G5.lv := le5.stay _ k1 k2
                have c2 : A ∉ G5.io := le5.nio (by rw [k3]; simp) k2
                have c3 : G5.H A = some (.lst av) := le5.keep _ _ k3 (fun z => k2 z.1) nofun
                have c4 : Reps X.K G5.lv G5.H av acc := k4.mono le5.mo
                by_cases hs : acc.length < sizeLine
                · simp only [hs, if_true] at h'
                  refine ⟨av, c3, by rw [c4.length]; exact hs, m5, ⟨G5.io, G5.lv, upd G5.H A (.lst (av ++ [v5]))⟩, acc ++ [x5], av ++ [v5], rfl, (le'.trans (le34.trans le5)).updF hA, R5.updL c1 c2, c1, c2, upd_same, ?_, h'⟩
                  exact (c4.append (.one q5)).mono (Mo.updL c1)
                · simp only [hs, if_false] at h'
                  exact False.elim h'
              | _ => exact False.elim h'
    · simp only [lcM, hz] at h'
      exact False.elim h'
theorem me_lc {elt tg iter : Expr} {ifs : List Expr} {scope : Scope} {own : List (Str × Nat)} {pos : Pos} {fi : IF} {g : GF} {is : List Nat} {ft : TF} {fe : EF} (hc : X.calm = true) (hN : X.N.Nodup) (hi : MI X Wx tg iter fi) (ok : BlkOk X.N X.env.scope scope own)
    (hg : ∀ (s : Shared) (H : Hp) (C : Addr) (cl : List (Str × Addr)) (fp : List Addr), MG (X.blk s H scope (compEnvC scope cl C X.env) fp) tg g is) (ht : ∀ (s : Shared) (H : Hp) (C : Addr) (cl : List (Str × Addr)) (fp : List Addr), MTs (X.blk s H scope (compEnvC scope cl C X.env) fp) WF ifs ft)
    (he : ∀ (s : Shared) (H : Hp) (C : Addr) (cl : List (Str × Addr)) (fp : List Addr), ME (X.blk s H scope (compEnvC scope cl C X.env) fp) WF elt fe) (hsub : ∀ i ∈ is, i ∈ own.map (·.2) := by decide) (hs : ∀ x, foldedSetIterable iter X.env x = pure x := by intro _; rfl) :
    ME X Wx (.ListComp elt [⟨tg, iter, ifs, 0⟩] scope pos) (eLc fi g ft fe (own.map (·.2))) := by
  obtain ⟨wi, pi, qi⟩ := hi
  exact ⟨_, pe_lc (g := cG X g is) (tt := cT X WF ft) (te := cE X WF fe) hc hN pi ok (fun s H C cl fp => (hg s H C cl fp).pg) (fun s H C cl fp => (ht s H C cl fp).pts) (fun s H C cl fp => (he s H C cl fp).pe) hs, fun env m σ G Q S R h => lcQ hsub qi env m σ G Q S R h⟩
/-- name = [..] on one line -/
theorem ms_setLc (i : Nat) {y : Str} {py : Pos} {elt tg iter : Expr} {ifs : List Expr} {scope : Scope} {own : List (Str × Nat)} {pos spos : Pos} {fi : IF} {g : GF} {is : List Nat} {ft : TF} {fe : EF} {cv : EF → EF} (hcv : ∀ {t : TE} {f : EF}, (∀ env m σ G Q, RelS X.K G σ env → RelM X.K G m → GPost X Wx σ G (RepR X.K) (f env m) Q → t σ G.H Q) → ∀ env m σ G Q, RelS X.K G σ env → RelM X.K G m → GPost X Wx σ G (RepR X.K) (cv f env m) Q → t σ G.H Q)
    (hc : X.calm = true) (hN : X.N.Nodup) (hi : MI X Wx tg iter fi) (ok : BlkOk X.N X.env.scope scope own)
    (hg : ∀ (s : Shared) (H : Hp) (C : Addr) (cl : List (Str × Addr)) (fp : List Addr), MG (X.blk s H scope (compEnvC scope cl C X.env) fp) tg g is) (ht : ∀ (s : Shared) (H : Hp) (C : Addr) (cl : List (Str × Addr)) (fp : List Addr), MTs (X.blk s H scope (compEnvC scope cl C X.env) fp) WF ifs ft)
    (he : ∀ (s : Shared) (H : Hp) (C : Addr) (cl : List (Str × Addr)) (fp : List Addr), ME (X.blk s H scope (compEnvC scope cl C X.env) fp) WF elt fe)
    (hsw : swapsWith (.ListComp elt [⟨tg, iter, ifs, 0⟩] scope pos) (some (.Name y py)) spos.line X.env = pure true) (hy : X.N[i]? = some y := by rfl) (hyl : X.env.scope.names.lookup y = some .local := by rfl)
    (hsub : ∀ i ∈ is, i ∈ own.map (·.2) := by decide) (hs : ∀ x, foldedSetIterable iter X.env x = pure x := by intro _; rfl) :
    MS X Wx (.Assign [.Name y py] (.ListComp elt [⟨tg, iter, ifs, 0⟩] scope pos) spos) (sAsg (cv (eLc fi g ft fe (own.map (·.2)))) (gSet i)) := by
  obtain ⟨wi, pi, qi⟩ := hi
  refine ⟨_, ps_setLc (g := cG X g is) (tt := cT X WF ft) (te := cE X WF fe) hc hN hy hyl hsw pi ok (fun s H C cl fp => (hg s H C cl fp).pg) (fun s H C cl fp => (ht s H C cl fp).pts) (fun s H C cl fp => (he s H C cl fp).pe) hs, fun env m σ G E S R h => ?_⟩
  exact hcv (lcQ hsub qi) env m σ G _ S R (SPost.ofE h S fun w m1 v G1 le R1 q1 h1 => asgQ (G := G) (g := gSet i) (t := gName i) (is := [i]) (fun w env env' σ G v Q S r e h => by cases e; exact h _ (Off.set i) (S.set r)) (S.mono le) R1 q1 h1)
theorem cvFrz {t : TE} {f : EF} (h : ∀ env m σ G Q, RelS X.K G σ env → RelM X.K G m → GPost X Wx σ G (RepR X.K) (f env m) Q → t σ G.H Q) : ∀ env m σ G Q, RelS X.K G σ env → RelM X.K G m → GPost X Wx σ G (RepR X.K) (eFrz f env m) Q → t σ G.H Q :=
  fun env m σ G Q S R q => h env m σ G Q S R (frzQ q)
end
end M
set_option Elab.async false
set_option linter.all false
set_option maxRecDepth 100000
namespace M
open PySem L2
variable [HasW]
/-! ### what a def promises -/
def CPost (K : PySem.W.Frag) (mg : Str → Option Value) (G : Wd) (r : Res W) (Q : VK) (E : XK) : Prop :=
  match r with
  | .ok w m => ∀ v G', Le G G' → RelM K G' m → RepR K G.H G' v w → Q v G'.H
  | .err e m => ∀ c d G', Le G G' → RelM K G' m → ExRep mg K G' c d e → E c d G'.H
  | .bad => False
abbrev FF := List W → Mem → Res W
def SpM (K : PySem.W.Frag) (mg : Str → Option Value) (n : Nat) (F : FF) : Sp := fun vs H Q E => ∃ G ws m, G.H = H ∧ RelM K G m ∧ Paired (RepW K G) vs ws ∧ ws.length = n ∧ CPost K mg G (F ws m) Q E
/-! ### leaving a def: what it made goes -/
/-- what is seen of an object made behind n, as data; the objects that it is made of -/
def viewsM (f : W → Option (D × List Nat)) : List (D × W) → Option (List (D × D) × List Nat)
  | [] => some ([], [])
  | p :: r => match f p.2 with
    | some (d, js) => match viewsM f r with
      | some (ds, ks) => some ((p.1, d) :: ds, js ++ ks)
      | none => none
    | none => none
def viewM (n : Nat) (m : Mem) : Nat → W → Option (D × List Nat)
  | _, .d x => some (x, [])
  | 0, _ => none
  | f + 1, .obj j => if j < n then none else match m[j]? with
    | some (.lst ds) => some (.list ds, [j])
    | some (.dcn kvs) => match viewsM (viewM n m f) kvs with
      | some (ds, js) => some (.dict ds, j :: js)
      | none => none
    | _ => none
  | _, _ => none
def clM (n : Nat) (m : Mem) : Bool := (m.take n).all (okO n)
def finM (n : Nat) (w : W) (m : Mem) : Res W := if clM n m = true then (match w with
  | .obj j => if j < n then .ok (.obj j) (m.take n) else match m[j]? with
    | some (.lst ds) => .ok (.fl ds) (m.take n)
    | some (.fz ds) => .ok (.d (.list ds)) (m.take n)
    | some (.dcn _) => match viewM n m 4 (.obj j) with
      | some p => .ok (.d p.1) (m.take n)
      | none => .bad
    | _ => .bad
  | .pr _ _ => .bad
  | w => .ok w (m.take n)) else .bad
def Wd.cut (G' G : Wd) (kp : Option Addr) : Wd := ⟨G.io, G'.lv.filter (fun a => decide (a ∈ G.lv ∨ some a = kp)), G'.H⟩
section
variable {K : PySem.W.Frag} {mg : Str → Option Value} {G G' : Wd} {m m' : Mem} {kp : Option Addr}
theorem mem_cut {a : Addr} : a ∈ (G'.cut G kp).lv ↔ a ∈ G'.lv ∧ (a ∈ G.lv ∨ some a = kp) := by
  show a ∈ G'.lv.filter _ ↔ _
  rw [List.mem_filter]
  simp
theorem Mo.cut : Mo G'.lv G'.H (G'.cut G kp).lv (G'.cut G kp).H := ⟨fun _ _ h _ _ => h, fun _ _ _ n z => n (mem_cut.mp z).1⟩
theorem Le.cut (le : Le G G') : Le G (G'.cut G kp) :=
  ⟨le.lt, ⟨[], by simp [Wd.cut], fun _ z => nomatch z⟩, fun a z => le.lv a (mem_cut.mp z).1, fun a z n => mem_cut.mpr ⟨le.stay a z n, .inl z⟩, le.keep, le.tr⟩
theorem Le.ioTake (le : Le G G') {i : Nat} (h : i < G.io.length) : G'.io[i]? = G.io[i]? := by
  obtain ⟨κ, e, _⟩ := le.io
  rw [e, List.getElem?_append_left h]
theorem RepW.cut {v : V} {w : W} (h : RepW K G' v w) (le : Le G G') (ok : okW G.io.length w = true) : RepW K (G'.cut G kp) v w := by
  cases w with
  | d x => exact Rep.mono Mo.cut h
  | obj j =>
    obtain ⟨a, h1, h2⟩ := h
    have hj : j < G.io.length := by simpa [okW] using ok
    exact ⟨a, by show G.io[j]? = _; rw [← le.ioTake hj]; exact h1, h2⟩
  | fl _ => cases ok
  | ro ds => obtain ⟨a, vs, e1, e2, e3⟩ := h; exact ⟨a, vs, e1, e2.mono Mo.cut, e3.mono Mo.cut⟩
  | pr x j =>
    obtain ⟨q, u, a, e1, e2, e3, e4⟩ := h
    have hj : j < G.io.length := by simpa [okW] using ok
    exact ⟨q, u, a, e1, e2.mono Mo.cut, e3.mono Mo.cut, by show G.io[j]? = _; rw [← le.ioTake hj]; exact e4⟩
/-- what is seen stands as data in a world that lets go of it -/
theorem view_rep {n : Nat} {G1 : Wd} (R' : RelM K G' m') (mo : Mo G'.lv G'.H G1.lv G1.H) (hH : G1.H = G'.H) : ∀ (f : Nat) {w : W} {v : V} {d : D} {js : List Nat}, (∀ j ∈ js, ∀ a, G'.io[j]? = some a → a ∉ G1.lv) → RepW K G' v w → viewM n m' f w = some (d, js) → Rep K G1.lv G1.H v d := by
  have dd : ∀ {f : Nat} {x : D} {v : V} {d : D} {js : List Nat}, RepW K G' v (.d x) → viewM n m' f (.d x) = some (d, js) → Rep K G1.lv G1.H v d := by
    intro f x v d js h e
    have e : some (x, ([] : List Nat)) = some (d, js) := by
      cases f <;> exact e
    cases e
    exact Rep.mono mo h
  intro f
  induction f with
  | zero =>
    intro w v d js hd h e
    cases w with
    | d x => exact dd h e
    | _ => simp [viewM] at e
  | succ f ih =>
    intro w v d js hd h e
    cases w with
    | d x => exact dd h e
    | obj j =>
      simp only [viewM] at e
      split at e
      · cases e
      · obtain ⟨a, h1, rfl⟩ := h
        cases eo : m'[j]? with
        | none => rw [eo] at e; cases e
        | some o =>
          rw [eo] at e
          have q := R'.ob j a o h1 eo
          cases o with
          | lst ds =>
            cases e
            obtain ⟨z1, vs, z2, r⟩ := q
            exact .lst ⟨hd j (by simp) a h1, by rw [hH]; exact z2⟩ (r.mono mo)
          | dcn kvs =>
            obtain ⟨z1, o, es, kvv, z2, z3, z4, r, nd⟩ := q
            dsimp only at e
            cases ev : viewsM (viewM n m' f) kvs with
            | none => rw [ev] at e; cases e
            | some p =>
              obtain ⟨ds, ks⟩ := p
              rw [ev] at e
              cases e
              have go : ∀ {kvv : List (D × V)} {kvs : List (D × W)} {ds : List (D × D)} {ks : List Nat}, (∀ j ∈ ks, ∀ a, G'.io[j]? = some a → a ∉ G1.lv) → Paired (fun (p : D × V) (q : D × W) => p.1 = q.1 ∧ RepW K G' p.2 q.2) kvv kvs → viewsM (viewM n m' f) kvs = some (ds, ks) →
                  Paired (fun (p : D × V) (q : D × D) => p.1 = q.1 ∧ Rep K G1.lv G1.H p.2 q.2) kvv ds ∧ ds.map (·.1) = kvs.map (·.1) := by
                intro kvv kvs ds ks hk r
                induction r generalizing ds ks with
                | nil => intro e; cases e; exact ⟨.nil, rfl⟩
                | @cons p q ps qs hq t iht =>
                  intro e
                  simp only [viewsM] at e
                  split at e
                  · rename_i d1 j1 e1
                    split at e
                    · rename_i d2 j2 e2
                      cases e
                      obtain ⟨t1, t2⟩ := iht (fun j hj => hk j (List.mem_append_right _ hj)) e2
                      exact ⟨.cons ⟨hq.1, ih (fun j hj => hk j (List.mem_append_left _ hj)) hq.2 e1⟩ t1, by simp [t2]⟩
                    · cases e
                  · cases e
              obtain ⟨g1, g2⟩ := go (fun j hj => hd j (List.mem_cons_of_mem _ hj)) r ev
              exact .dct (.inl ⟨hd j List.mem_cons_self a h1, by rw [hH]; exact z2⟩) z3 (RepE.of (z4.mono mo) g1) (by rw [g2]; exact nd)
          | _ => cases e
    | _ => simp [viewM] at e
theorem view_ge {n : Nat} : ∀ (f : Nat) {w : W} {d : D} {js : List Nat}, viewM n m' f w = some (d, js) → ∀ j ∈ js, n ≤ j := by
  intro f
  induction f with
  | zero =>
    intro w d js e
    cases w with
    | d x => cases e; intro j hj; cases hj
    | _ => simp [viewM] at e
  | succ f ih =>
    intro w d js e
    cases w with
    | d x => cases e; intro j hj; cases hj
    | obj j =>
      simp only [viewM] at e
      split at e
      · cases e
      · rename_i hj
        cases eo : m'[j]? with
        | none => rw [eo] at e; cases e
        | some o =>
          rw [eo] at e
          cases o with
          | lst ds => cases e; intro k hk; rw [List.mem_singleton.mp hk]; omega
          | dcn kvs =>
            dsimp only at e
            cases ev : viewsM (viewM n m' f) kvs with
            | none => rw [ev] at e; cases e
            | some p =>
              obtain ⟨ds, ks⟩ := p
              rw [ev] at e
              cases e
              have go : ∀ (kvs : List (D × W)) (ds : List (D × D)) (ks : List Nat), viewsM (viewM n m' f) kvs = some (ds, ks) → ∀ j ∈ ks, n ≤ j := by
                intro kvs
                induction kvs with
                | nil => intro ds ks e; cases e; intro j hj; cases hj
                | cons p r ihr =>
                  intro ds ks e
                  simp only [viewsM] at e
                  split at e
                  · rename_i d1 j1 e1
                    split at e
                    · rename_i d2 j2 e2
                      cases e
                      intro j hj
                      rcases List.mem_append.mp hj with z | z
                      · exact ih e1 j z
                      · exact ihr _ _ e2 j z
                    · cases e
                  · cases e
              intro k hk
              rcases List.mem_cons.mp hk with rfl | hk
              · omega
              · exact go _ _ _ ev k hk
          | _ => cases e
    | _ => simp [viewM] at e
theorem paired_all {α β : Type} {F F' : α → β → Prop} {p : β → Bool} (hm : ∀ a b, p b = true → F a b → F' a b) : ∀ {l₁ : List α} {l₂ : List β}, Paired F l₁ l₂ → l₂.all p = true → Paired F' l₁ l₂
  | _, _, .nil, _ => .nil
  | _, _, .cons h t, e => by
    rw [List.all_cons, Bool.and_eq_true] at e
    exact .cons (hm _ _ e.1 h) (paired_all hm t e.2)
theorem RelM.cut (R : RelM K G m) (R' : RelM K G' m') (le : Le G G') (hc : clM m.length m' = true) : RelM K (G'.cut G kp) (m'.take m.length) := by
  have hn : G.io.length = m.length := R.len
  have hl : m.length ≤ m'.length := by
    obtain ⟨κ, e, _⟩ := le.io
    rw [← R'.len, e, List.length_append, hn]; omega
  have hcl : ∀ i o, (m'.take m.length)[i]? = some o → okO m.length o = true := fun i o e => List.all_eq_true.mp hc o (List.mem_of_getElem? e)
  refine ⟨fun i o e => by
      rw [List.length_take, Nat.min_eq_left hl]
      exact hcl i o e, by show G.io.length = _; rw [List.length_take, hn]; omega, R.nd, fun a z => R'.lt a (mem_cut.mp z).1, fun a z => fun e => R.it a z (le.tr a e), fun i a ob e1 e2 => ?_, R'.tb.step (fun _ _ e _ => e) fun a _ z q => z (mem_cut.mp q).1, fun a z => R'.nt a (mem_cut.mp z).1⟩
  have e1 : G.io[i]? = some a := e1
  have hi : i < G.io.length := (List.getElem?_eq_some_iff.mp e1).1
  have hok : okO m.length ob = true := hcl i ob e2
  rw [List.getElem?_take_of_lt (by omega)] at e2
  have q := R'.ob i a ob (by rw [le.ioTake hi]; exact e1) e2
  have lv' : a ∈ G'.lv → a ∈ (G'.cut G kp).lv := fun z => mem_cut.mpr ⟨z, .inl (by
    rcases le.lv a z with y | y
    · exact y
    · exact absurd y (R.it a (List.mem_of_getElem? e1)))⟩
  cases ob with
  | lst ds => obtain ⟨z1, vs, z2, r⟩ := q; exact ⟨lv' z1, vs, z2, r.mono Mo.cut⟩
  | fz ds => obtain ⟨z1, vs, z2, r⟩ := q; exact ⟨fun z => z1 (mem_cut.mp z).1, vs, z2, r.mono Mo.cut⟩
  | dct kvs =>
    obtain ⟨z1, ks, z2, r⟩ := q
    exact ⟨lv' z1, ks, z2, paired_all (fun a b hb z => ⟨z.1, z.2.cut le (by rw [hn]; exact hb)⟩) r hok⟩
  | lsw ws =>
    obtain ⟨z1, vs, z2, r⟩ := q
    exact ⟨lv' z1, vs, z2, paired_all (fun a b hb z => z.cut le (by rw [hn]; exact hb)) r hok⟩
  | dcn kvs =>
    obtain ⟨z1, o, es, kvv, z2, z3, z4, r, n⟩ := q
    exact ⟨lv' z1, o, es, kvv, z2, z3, z4.mono Mo.cut, paired_all (fun a b hb z => ⟨z.1, z.2.cut le (by rw [hn]; exact hb)⟩) r hok, n⟩
  | dead => exact q
  | ins c kvs =>
    obtain ⟨z1, C, dx, vs, z0, z2, r⟩ := q
    exact ⟨lv' z1, C, dx, vs, z0, z2, paired_all (fun a b hb z => ⟨z.1, z.2.cut le (by rw [hn]; exact hb)⟩) r hok⟩
theorem finM_ok {Q : VK} {E : XK} {w : W} {v : V} (R : RelM K G m) (R' : RelM K G' m') (le : Le G G') (r : RepR K G.H G' v w) (h : CPost K mg G (finM m.length w m') Q E) : Q v G'.H := by
  unfold finM at h
  by_cases hc : clM m.length m' = true
  · rw [if_pos hc] at h
    have hn : G.io.length = m.length := R.len
    cases w with
    | pr x i => exact False.elim h
    | d x => exact h v (G'.cut G none) le.cut (R.cut R' le hc) (Rep.mono Mo.cut r)
    | ro ds => exact h v (G'.cut G none) le.cut (R.cut R' le hc) (by obtain ⟨a, vs, e1, e2, e3⟩ := r; exact ⟨a, vs, e1, e2.mono Mo.cut, e3.mono Mo.cut⟩)
    | fl ds =>
      obtain ⟨p, vs, rfl, h0, h1, h2, h3, r⟩ := r
      refine h (.ref p) (G'.cut G (some p)) le.cut (R.cut R' le hc) ⟨p, vs, rfl, h0, fun z => R.it p z h0, mem_cut.mpr ⟨h2, .inr rfl⟩, h3, r.mono Mo.cut⟩
    | obj j =>
      obtain ⟨a, h1, rfl⟩ := r
      simp only at h
      by_cases hj : j < m.length
      · rw [if_pos hj] at h
        exact h (.ref a) (G'.cut G none) le.cut (R.cut R' le hc) ⟨a, by show G.io[j]? = _; rw [← le.ioTake (by omega)]; exact h1, rfl⟩
      · rw [if_neg hj] at h
        obtain ⟨κ, ek, nk⟩ := le.io
        have ha : a ∈ κ := by
          rw [ek, List.getElem?_append_right (by omega)] at h1
          exact List.mem_of_getElem? h1
        have h0 : G.H a = none := nk a ha
        cases eo : m'[j]? with
        | none => rw [eo] at h; exact False.elim h
        | some ob =>
          rw [eo] at h
          have q := R'.ob j a ob h1 eo
          cases ob with
          | lst ds =>
            obtain ⟨z1, vs, z2, r⟩ := q
            exact h (.ref a) (G'.cut G (some a)) le.cut (R.cut R' le hc) ⟨a, vs, rfl, h0, fun z => R.it a z h0, mem_cut.mpr ⟨z1, .inr rfl⟩, z2, r.mono Mo.cut⟩
          | fz ds =>
            obtain ⟨z1, vs, z2, r⟩ := q
            exact h (.ref a) (G'.cut G none) le.cut (R.cut R' le hc) (Rep.lst ⟨fun z => z1 (mem_cut.mp z).1, z2⟩ (r.mono Mo.cut))
          | dct kvs => exact False.elim h
          | lsw ws => exact False.elim h
          | dead => exact False.elim h
          | ins _ _ => exact False.elim h
          | dcn kvs =>
            dsimp only at h
            cases ev : viewM m.length m' 4 (.obj j) with
            | none => rw [ev] at h; exact False.elim h
            | some p =>
              obtain ⟨d, js⟩ := p
              rw [ev] at h
              refine h (.ref a) (G'.cut G none) le.cut (R.cut R' le hc) (view_rep R' Mo.cut rfl 4 (fun j hj b hb z => ?_) (w := .obj j) ⟨a, h1, rfl⟩ ev)
              have hjn := view_ge 4 ev j hj
              have hk : b ∈ κ := by
                rw [ek, List.getElem?_append_right (by omega)] at hb
                exact List.mem_of_getElem? hb
              rcases (mem_cut.mp z).2 with y | y
              · exact R.lt b y (nk b hk)
              · cases y
  · rw [if_neg hc] at h
    exact False.elim h
end
/-! ### a def by its body -/
def env0 (N : Nat) (ws : List W) : Env := ws.map some ++ List.replicate (N - ws.length) none
def runF (N : Nat) (g : SF) (ws : List W) (m : Mem) : Res W := match g (env0 N ws) m with
  | .rt w m' => finM m.length w m'
  | .nx _ m' => finM m.length (.d .none) m'
  | .err e _ m' => if clM m.length m' = true then .err e (m'.take m.length) else .bad
  | _ => .bad
/-- what it made stays -/
def runA (N : Nat) (g : SF) (ws : List W) (m : Mem) : Res W := match g (env0 N ws) m with
  | .rt w m' => .ok w m'
  | .nx _ m' => .ok (.d .none) m'
  | .err e _ m' => .err e m'
  | _ => .bad
theorem Paired.get {α β : Type} {F : α → β → Prop} : ∀ {l₁ : List α} {l₂ : List β} {i : Nat} {b : β}, Paired F l₁ l₂ → l₂[i]? = some b → ∃ a, l₁[i]? = some a ∧ F a b
  | _, _, _, _, .nil, e => by simp at e
  | _, _, 0, _, .cons h t, e => by simp at e; subst e; exact ⟨_, rfl, h⟩
  | _, _, i + 1, b, .cons h t, e => by
    obtain ⟨a, h1, h2⟩ := Paired.get (i := i) (b := b) t (by simpa using e)
    exact ⟨a, by simpa using h1, h2⟩
theorem RelS.start {K : PySem.W.Frag} {G : Wd} {N : List Str} {vs : List V} {ws : List W} (h : Paired (RepW K G) vs ws) : RelS K G (L2.start N vs) (env0 N.length ws) := by
  have hl := Paired.length h
  refine ⟨by unfold L2.start env0; simp [hl], fun i w e => ?_⟩
  unfold env0 at e
  by_cases hi : i < ws.length
  · rw [List.getElem?_append_left (by simpa using hi), List.getElem?_map] at e
    cases q : ws[i]? with
    | none => rw [q] at e; cases e
    | some u =>
      rw [q] at e
      cases e
      obtain ⟨v, h1, h2⟩ := Paired.get h q
      exact ⟨v, by unfold L2.start; rw [List.getElem?_append_left (by simp [hl]; exact hi), List.getElem?_map, h1]; rfl, h2⟩
  · rw [List.getElem?_append_right (by simpa using hi), List.getElem?_replicate] at e
    split at e <;> cases e
section
variable {P : Program} {w : World} {K : PySem.W.Frag} {mg : Str → Option Value} {base : Heap}
abbrev cxM (P : Program) (w : World) (K : PySem.W.Frag) (mg : Str → Option Value) (base : Heap) (N : List Str) (qual : Str) (scope : Scope) (f : Addr) (cd : Value) (A : Around) (outer : List PySem.Env) (s : Shared) (H : Hp) (E : XK) : Cx :=
  cxOf (L2.CX P w) P w K mg base N qual scope f cd A outer s H E
theorem okF {x qual : Str} {st : Stmt} {f : Addr} {fd : FuncData} {N ps : List Str} {k : Nat} {g : SF} (F : Fun K x qual st f fd) (S : FnScope N ps (defScope st))
    (hbody : ∀ (cdv : Value) (A : Around) (outer : List PySem.Env) (s : Shared) (H : Hp) (E : XK), Room k (A.deeper (PyProof.Rows.envOfC qual (defScope st) s.heap.objs.size f cdv)) →
      MB (cxM P w K mg base N qual (defScope st) f cdv A outer s H E) (fun c d _ H' => E c d H') (defBody st) g) : FnOk P w K mg base (L2.CX P w) (k + 1) f fd ps (SpM K mg ps.length (runF N.length g)) := by
  refine F.okX S (fun vs H Q E ⟨G, ws, m, _, _, h, hl, _⟩ => (Paired.length h).trans hl) fun cdv A outer s H vs Q E hr ⟨G, ws, m, eH, R, hp, hl, hq⟩ => ?_
  subst eH
  obtain ⟨t, p, q⟩ := hbody cdv A outer s G.H E hr
  refine ⟨t, p, q (env0 N.length ws) m (L2.start N vs) G _ (RelS.start hp) R ?_⟩
  unfold runF at hq
  cases e : g (env0 N.length ws) m with
  | rt w' m' => rw [e] at hq; exact fun v G' le R' r => finM_ok R R' le r hq
  | nx e1 m' => rw [e] at hq; exact fun σ' G' le R' S' => finM_ok (w := .d .none) (v := .non) R R' le Rep.non hq
  | bk e1 m' => rw [e] at hq; exact False.elim hq
  | ct e1 m' => rw [e] at hq; exact False.elim hq
  | err x e1 m' =>
    rw [e] at hq
    intro c d σ' G' le R' S' hx
    by_cases hc : clM m.length m' = true
    rotate_left
    · dsimp only at hq
      rw [if_neg hc] at hq
      exact False.elim hq
    dsimp only at hq
    rw [if_pos hc] at hq
    refine hq c d (G'.cut G none) le.cut (R.cut R' le hc) ⟨hx.1, ?_⟩
    rcases hx.2 with z | ⟨dd, fs, z0, z1, z2, z3, z4⟩
    · exact .inl z
    · refine .inr ⟨dd, fs, z0, z1, z2, fun z => z3 ?_, Paired.mono (fun _ _ z => ⟨z.1, Rep.mono Mo.cut z.2⟩) z4⟩
      obtain ⟨κ, ek, _⟩ := le.io
      rw [ek]
      exact List.mem_append_left _ z
  | bad => rw [e] at hq; exact False.elim hq
theorem okA {x qual : Str} {st : Stmt} {f : Addr} {fd : FuncData} {N ps : List Str} {k : Nat} {g : SF} (F : Fun K x qual st f fd) (S : FnScope N ps (defScope st))
    (hbody : ∀ (cdv : Value) (A : Around) (outer : List PySem.Env) (s : Shared) (H : Hp) (E : XK), Room k (A.deeper (PyProof.Rows.envOfC qual (defScope st) s.heap.objs.size f cdv)) →
      MB (cxM P w K mg base N qual (defScope st) f cdv A outer s H E) (fun c d _ H' => E c d H') (defBody st) g) : FnOk P w K mg base (L2.CX P w) (k + 1) f fd ps (SpM K mg ps.length (runA N.length g)) := by
  refine F.okX S (fun vs H Q E ⟨G, ws, m, _, _, h, hl, _⟩ => (Paired.length h).trans hl) fun cdv A outer s H vs Q E hr ⟨G, ws, m, eH, R, hp, hl, hq⟩ => ?_
  subst eH
  obtain ⟨t, p, q⟩ := hbody cdv A outer s G.H E hr
  refine ⟨t, p, q (env0 N.length ws) m (L2.start N vs) G _ (RelS.start hp) R ?_⟩
  unfold runA at hq
  cases e : g (env0 N.length ws) m with
  | rt w' m' => rw [e] at hq; exact hq
  | nx e1 m' => rw [e] at hq; exact fun σ' G' le R' S' => hq .non G' le R' Rep.non
  | bk e1 m' => rw [e] at hq; exact False.elim hq
  | ct e1 m' => rw [e] at hq; exact False.elim hq
  | err x e1 m' => rw [e] at hq; exact fun c d σ' G' le R' S' hx => hq c d G' le R' hx
  | bad => rw [e] at hq; exact False.elim hq
/-- nothing is asked of it -/
def badF (_ : List W) (_ : Mem) : Res W := .bad
theorem okBad {f : Addr} {fd : FuncData} {ps : List Str} {k n : Nat} : FnOk P w K mg base (L2.CX P w) k f fd ps (SpM K mg n badF) := by
  have no : ∀ vs H Q E, ¬ SpM K mg n badF vs H Q E := fun vs H Q E ⟨_, _, _, _, _, _, _, h⟩ => h
  exact ⟨fun vs H Q E h => absurd h (no vs H Q E), fun A outer s H args us vs Q E _ _ _ _ h => absurd h (no vs H Q E)⟩
end
/-! ### calls of defs -/
section
variable {X : Cx} {Wx : WX}
def noFl : List W → Bool
  | [] => true
  | .fl _ :: _ => false
  | _ :: r => noFl r
theorem noFl_rep {K : PySem.W.Frag} {H0 : Hp} {G : Wd} : ∀ {vs : List V} {ws : List W}, RepRs K H0 G vs ws → noFl ws = true → Paired (RepW K G) vs ws
  | _, _, .nil, _ => .nil
  | _, .d x :: _, .cons h t, e => .cons h (noFl_rep t e)
  | _, .obj x :: _, .cons h t, e => .cons h (noFl_rep t e)
  | _, .ro x :: _, .cons h t, e => .cons h (noFl_rep t e)
  | _, .pr x i :: _, .cons h t, e => .cons h (noFl_rep t e)
  | _, .fl x :: _, .cons h t, e => by cases e
def callM (F : FF) (ws : List W) (m : Mem) : Res W := if noFl ws = true then F ws m else .bad
def eCallF (F : FF) (a : AF) (env : Env) (m : Mem) : Res W := (a env m).bind fun ws m1 => callM F ws m1
theorem callM_ok {F : FF} {σ : St} {G : Wd} {m : Mem} {vs : List V} {ws : List W} {H0 : Hp} {Q : VK} {n : Nat} (R : RelM X.K G m) (r : RepRs X.K H0 G vs ws) (hn : ws.length = n) (h : GPost X Wx σ G (RepR X.K) (callM F ws m) Q) : SpM X.K X.mg n F vs G.H Q (WE Wx σ) := by
  unfold callM at h
  by_cases hz : noFl ws = true
  · rw [if_pos hz] at h
    refine ⟨G, ws, m, rfl, R, noFl_rep r hz, hn, ?_⟩
    cases e : F ws m with
    | ok w m' => rw [e] at h; exact h
    | err x m' => rw [e] at h; exact h
    | bad => rw [e] at h; exact h
  · rw [if_neg hz] at h
    exact False.elim h
theorem me_call {k n : Nat} {f : Addr} {fd : FuncData} {ps : List Str} {x : Str} {p pos : Pos} {e : Expr} {es : List Expr} {F : FF} {g : AF} (tk : Takes X Wx) (hF : FnOk X.prog X.w X.K X.mg X.base (L2.CX X.prog X.w) k f fd ps (SpM X.K X.mg n F)) (hr : Room k X.A) (hm : X.mg x = some (.ref f)) (hk : PySem.W.keepIn X.K (.ref f) = true)
    (hb : Binds X.K fd ps []) (hg : Gl X x) (ha : MA X Wx (e :: es) g) (hn : ∀ env m ws m', g env m = .ok ws m' → ws.length = n) (hdb : (x == ("__debug__" : Str)) = false := by decide) (he : starEach (e :: es) X.env = (false, eval e X.env) :: starEach es X.env := by rfl) (hpl : (backTo pos (starEach es X.env)).any (·.1) = false := by rfl) :
    ME X Wx (.Call (.Name x p) (e :: es) [] pos) (eCallF F g) := by
  obtain ⟨t, pa, qa⟩ := ha
  refine ⟨_, pe_callS hF hr hg hm hk hb (fun σ => passAt tk σ) pa hdb he hpl, fun env m σ G Q S R h => ?_⟩
  unfold eCallF at h
  cases ew : g env m with
  | ok ws m1 =>
    have hl := hn env m ws m1 ew
    rw [ew] at h
    refine qa env m σ G _ S R ?_
    rw [ew]
    exact fun vs G1 le1 R1 q1 => callM_ok R1 q1 hl (GPost.later weakR h le1)
  | err x m1 => rw [ew] at h; refine qa env m σ G _ S R ?_; rw [ew]; exact h
  | bad => rw [ew] at h; exact False.elim h
theorem aNil_len : ∀ env m ws m', aNil env m = .ok ws m' → ws.length = 0 := fun env m ws m' h => by cases h; rfl
theorem aCons_len {f : EF} {g : AF} {n : Nat} (h : ∀ env m ws m', g env m = .ok ws m' → ws.length = n) : ∀ env m ws m', aCons f g env m = .ok ws m' → ws.length = n + 1 := fun env m ws m' e => by
  unfold aCons at e
  cases e1 : f env m with
  | ok x m1 =>
    rw [e1] at e
    simp only [Res.bind_ok] at e
    cases e2 : g env m1 with
    | ok xs m2 =>
      rw [e2] at e
      cases e
      rw [List.length_cons, h env m1 xs _ e2]
    | err _ _ => rw [e2] at e; cases e
    | bad => rw [e2] at e; cases e
  | err _ _ => rw [e1] at e; cases e
  | bad => rw [e1] at e; cases e
/-! ### methods of built-in types -/
def isTyW (T : String) (w : W) (m : Mem) : Bool :=
  match w with
  | .d (.str _) => T == "str"
  | .obj i => match m[i]? with
    | some (.dct _) => T == "dict"
    | some (.dcn _) => false
    | some .dead => false
    | some (.ins _ _) => false
    | some _ => T == "list"
    | none => false
  | w => (asL w m).isSome && T == "list"
theorem isTyW_ok {T : String} {G : Wd} {m : Mem} {v : V} {w : W} {H0 : Hp} (R : RelM X.K G m) (r : RepR X.K H0 G v w) (h : isTyW T w m = true) : tyV X.K T v G.H := by
  have lst : (asL w m).isSome = true → T = "list" → tyV X.K T v G.H := fun e eT => by
    obtain ⟨ds, e⟩ := Option.isSome_iff_exists.mp e
    obtain ⟨a, vs, rfl, h1, _⟩ := asL_sq R r e
    exact .inl ⟨eT, vs, h1⟩
  have go : ((asL w m).isSome && T == "list") = true → tyV X.K T v G.H := fun z => by
    rw [Bool.and_eq_true] at z
    exact lst z.1 (by simpa using z.2)
  cases w with
  | d x =>
    cases x with
    | str z => cases r; show T = "str"; simpa [isTyW] using h
    | _ => exact go h
  | obj i =>
    obtain ⟨a, h1, rfl⟩ := id r
    simp only [isTyW] at h
    cases e : m[i]? with
    | none => rw [e] at h; cases h
    | some o =>
      rw [e] at h
      cases o with
      | lst ds => exact lst (by simp [asL, e]) (by simpa using h)
      | fz ds => exact lst (by simp [asL, e]) (by simpa using h)
      | dct kvs =>
        obtain ⟨_, ks, h2, _⟩ := R.ob i a _ h1 e
        exact .inr (.inr (.inl ⟨by simpa using h, .inl ⟨ks, h2⟩⟩))
      | lsw ws =>
        obtain ⟨_, vs, h2, _⟩ := R.ob i a _ h1 e
        exact .inl ⟨by simpa using h, vs, SqL.of h2⟩
      | dcn _ => cases h
      | dead => cases h
      | ins _ _ => cases h
  | fl _ => exact go h
  | ro _ => exact go h
  | pr _ _ => exact go h
def MtOk (X : Cx) (Wx : WX) (r : V → List V → Hp → VK → Prop) (g : W → List W → Mem → Res W) : Prop :=
  ∀ (σ : St) (G : Wd) (m : Mem) (v : V) (x : W) (vs : List V) (ws : List W) (H0 H1 : Hp) (Q : VK), RelM X.K G m → RepR X.K H0 G v x → RepRs X.K H1 G vs ws → GPost X Wx σ G (RepR X.K) (g x ws m) Q → r v vs G.H Q
def eMt (T : String) (g : W → List W → Mem → Res W) (a : EF) (b : AF) (env : Env) (m : Mem) : Res W := (a env m).bind fun x m1 => if isTyW T x m1 = true then (b env m1).bind fun ws m2 => g x ws m2 else .bad
theorem me_bm {T id : String} {o e : Expr} {es : List Expr} {name : Str} {apos cpos : Pos} {r : V → List V → Hp → VK → Prop} {g : W → List W → Mem → Res W} {fa : EF} {fb : AF} (pa : PlainAttrs T) (slot : Slot T name id) (hty : typeOf (.builtin id) = pure (.type "method_descriptor")) (hm : MtR X id r) (hk : MtOk X Wx r g) (ho : ME X Wx o fa) (ha : MA X Wx (e :: es) fb)
    (hbase : attributeBase o name X.env (eval o X.env) = eval o X.env := by rfl)
    (hfew : ((backTo cpos (starEach (e :: es) X.env)).all (fun x => !x.1) && (backToKw cpos (keywordEach [] X.env)).all (fun x => x.1.isSome) && decide ((e :: es).length + ([] : List Keyword).length + (if ([] : List Keyword).isEmpty then 0 else 1) < 30)) = true := by rfl)
    (hline : (apos.endLine == cpos.line) = true := by rfl) (hs : starEach (e :: es) X.env = (false, eval e X.env) :: starEach es X.env := by rfl) (hplain : (backTo cpos (starEach es X.env)).any (·.1) = false := by rfl) :
    ME X Wx (.Call (.Attribute o name apos) (e :: es) [] cpos) (eMt T g fa fb) := by
  obtain ⟨ta, po, qo⟩ := ho
  obtain ⟨tb, pb, qb⟩ := ha
  refine ⟨_, pe_bm pa slot hty hm po pb hbase hfew hline hs hplain, fun env m σ G Q S R h => qo env m σ G _ S R (GPost.bind weakR h fun x m1 v G1 le1 R1 q1 h1 => ?_)⟩
  by_cases hz : isTyW T x m1 = true
  · simp only [hz, if_true] at h1
    exact ⟨isTyW_ok R1 q1 hz, qb env m1 σ G1 _ (S.mono le1) R1 (GPost.bind weakR h1 fun ws m2 vs G2 le2 R2 q2 h2 => hk σ G2 m2 v x vs ws _ _ Q R2 (q1.mono le2) q2 h2)⟩
  · simp only [hz] at h1
    exact False.elim h1
def eMt0 (T : String) (g : W → List W → Mem → Res W) (a : EF) (env : Env) (m : Mem) : Res W := (a env m).bind fun x m1 => if isTyW T x m1 = true then g x [] m1 else .bad
theorem me_bm0 {T id : String} {o : Expr} {name : Str} {apos cpos : Pos} {r : V → List V → Hp → VK → Prop} {g : W → List W → Mem → Res W} {fa : EF} (pa : PlainAttrs T) (slot : Slot T name id) (hty : typeOf (.builtin id) = pure (.type "method_descriptor")) (hm : MtR X id r) (hk : MtOk X Wx r g) (ho : ME X Wx o fa)
    (hbase : attributeBase o name X.env (eval o X.env) = eval o X.env := by rfl) (hline : (apos.endLine == cpos.line) = true := by rfl) : ME X Wx (.Call (.Attribute o name apos) [] [] cpos) (eMt0 T g fa) := by
  obtain ⟨ta, po, qo⟩ := ho
  refine ⟨_, pe_bm0 pa slot hty hm po hbase hline, fun env m σ G Q S R h => qo env m σ G _ S R (GPost.bind weakR h fun x m1 v G1 le1 R1 q1 h1 => ?_)⟩
  by_cases hz : isTyW T x m1 = true
  · simp only [hz, if_true] at h1
    exact ⟨isTyW_ok R1 q1 hz, hk σ G1 m1 v x [] [] _ G1.H Q R1 q1 .nil h1⟩
  · simp only [hz] at h1
    exact False.elim h1
end
end M
set_option Elab.async false
set_option linter.all false
set_option maxRecDepth 100000
namespace M
open PySem L2
variable [HasW]
section
variable {X : Cx} {Wx : WX}
/-! ### built-in functions -/
def lenW (ws : List W) (m : Mem) : Res W := match ws with
  | [.d (.str z)] => if z.length ≤ sizeLine then .ok (.d (.int (z.length : Int))) m else .bad
  | [.d (.tuple ds)] => .ok (.d (.int (ds.length : Int))) m
  | [w] => match asL w m with
    | some ds => .ok (.d (.int (ds.length : Int))) m
    | none => .bad
  | _ => .bad
theorem lenW_ok : CallOk X Wx (fun xs H Q => ∃ x n, xs = [x] ∧ LenV X.K x H n ∧ Q (.int n) H) lenW := by
  intro σ G m vs ws H0 Q R r h
  unfold lenW at h
  split at h
  · rename_i z
    obtain ⟨v, rfl, r0⟩ := paired1 r
    cases r0
    split at h
    · rename_i hz
      exact ⟨_, z.length, rfl, (show _ ∧ _ from ⟨hz, rfl⟩), finD R h (.int _)⟩
    · exact False.elim h
  · rename_i ds
    obtain ⟨v, rfl, r0⟩ := paired1 r
    cases r0 with
    | tup t r => exact ⟨_, _, rfl, .inr ⟨_, t.sq, r.length.symm⟩, finD R h (.int _)⟩
  · rename_i w _ _
    obtain ⟨v, rfl, r0⟩ := paired1 r
    cases e : asL w m with
    | none => simp only [e] at h; exact False.elim h
    | some ds =>
      simp only [e] at h
      obtain ⟨a, us, rfl, h1, r1⟩ := asL_sq R r0 e
      exact ⟨_, _, rfl, .inl ⟨us, h1, r1.length.symm⟩, finD R h (.int _)⟩
  · exact False.elim h
def dBools : List D → Option (List Bool)
  | [] => some []
  | .bool i :: r => (dBools r).map (i :: ·)
  | _ :: _ => none
theorem dBools_map : ∀ {ds : List D} {ns : List Bool}, dBools ds = some ns → ds = ns.map PyData.bool
  | [], ns, e => by cases e; rfl
  | .bool i :: r, ns, e => by
    simp only [dBools] at e
    cases q : dBools r with
    | none => rw [q] at e; cases e
    | some es => rw [q] at e; cases e; rw [dBools_map q]; rfl
  | .none :: _, _, e => by cases e
  | .int _ :: _, _, e => by cases e
  | .str _ :: _, _, e => by cases e
  | .list _ :: _, _, e => by cases e
  | .tuple _ :: _, _, e => by cases e
  | .dict _ :: _, _, e => by cases e
@[simp] theorem dBools_bools : ∀ ns : List Bool, dBools (ns.map PyData.bool) = some ns
  | [] => rfl
  | n :: ns => by simp only [List.map_cons, dBools, dBools_bools ns]; rfl
def dStrs : List D → Option (List Str)
  | [] => some []
  | .str i :: r => (dStrs r).map (i :: ·)
  | _ :: _ => none
theorem dStrs_map : ∀ {ds : List D} {ns : List Str}, dStrs ds = some ns → ds = ns.map PyData.str
  | [], ns, e => by cases e; rfl
  | .str i :: r, ns, e => by
    simp only [dStrs] at e
    cases q : dStrs r with
    | none => rw [q] at e; cases e
    | some es => rw [q] at e; cases e; rw [dStrs_map q]; rfl
  | .none :: _, _, e => by cases e
  | .int _ :: _, _, e => by cases e
  | .bool _ :: _, _, e => by cases e
  | .list _ :: _, _, e => by cases e
  | .tuple _ :: _, _, e => by cases e
  | .dict _ :: _, _, e => by cases e
@[simp] theorem dStrs_strs : ∀ ns : List Str, dStrs (ns.map PyData.str) = some ns
  | [] => rfl
  | n :: ns => by simp only [List.map_cons, dStrs, dStrs_strs ns]; rfl
def lst1 {α : Type} (g : List D → Option α) (k : α → D) (ws : List W) (m : Mem) : Res W := match ws with
  | [w] => match (asL w m).bind g with
    | some ns => .ok (.d (k ns)) m
    | none => .bad
  | _ => .bad
theorem lst1_get {α : Type} {g : List D → Option α} {k : α → D} {σ : St} {G : Wd} {m : Mem} {vs : List V} {ws : List W} {H0 : Hp} {Q : VK} (R : RelM X.K G m) (r : RepRs X.K H0 G vs ws) (h : GPost X Wx σ G (RepR X.K) (lst1 g k ws m) Q) :
    ∃ a us ds ns, vs = [.ref a] ∧ SqL X.K G.H a us ∧ Reps X.K G.lv G.H us ds ∧ g ds = some ns ∧ GPost X Wx σ G (RepR X.K) (.ok (.d (k ns)) m) Q := by
  unfold lst1 at h
  split at h
  · rename_i w
    obtain ⟨v, rfl, r0⟩ := paired1 r
    cases e : asL w m with
    | none => simp only [e, Option.bind_none] at h; exact False.elim h
    | some ds =>
      simp only [e, Option.bind_some] at h
      obtain ⟨a, us, rfl, h1, r1⟩ := asL_sq R r0 e
      cases eg : g ds with
      | none => simp only [eg] at h; exact False.elim h
      | some ns => simp only [eg] at h; exact ⟨a, us, ds, ns, rfl, h1, r1, eg, h⟩
  · exact False.elim h
def allW := lst1 dBools fun ns => .bool (ns.all id)
theorem allW_ok : CallOk X Wx (rAll X.K) allW := by
  intro σ G m vs ws H0 Q R r h
  obtain ⟨a, us, ds, ns, rfl, h1, r1, eg, h⟩ := lst1_get R r h
  rw [dBools_map eg] at r1
  rw [r1.vbls] at h1
  exact ⟨a, ns, rfl, h1, finD R h (.bl _)⟩
def listW (ws : List W) (m : Mem) : Res W := match ws with
  | [.d (.tuple ds)] => .ok (.fl ds) m
  | [w] => match asL w m with
    | some ds => .ok (.fl ds) m
    | none => .bad
  | _ => .bad
theorem listW_ok : CallOk X Wx (fun xs H Q => ∃ p ys, xs = [.ref p] ∧ (SqL X.K H p ys ∨ SqT X.K H p ys) ∧ ∀ l, H l = none → Q (.ref l) (upd H l (.lst ys))) listW := by
  intro σ G m vs ws H0 Q R r h
  unfold listW at h
  split at h
  · obtain ⟨v, rfl, r0⟩ := paired1 r
    cases r0 with
    | tup t r => exact ⟨_, _, rfl, .inr t.sq, fun l hl => finL R h r hl⟩
  · rename_i w _
    obtain ⟨v, rfl, r0⟩ := paired1 r
    cases e : asL w m with
    | none => simp only [e] at h; exact False.elim h
    | some ds =>
      simp only [e] at h
      obtain ⟨a, us, rfl, h1, r1⟩ := asL_sq R r0 e
      exact ⟨a, us, rfl, .inl h1, fun l hl => finL R h r1 hl⟩
  · exact False.elim h
def tupleW (ws : List W) (m : Mem) : Res W := match ws with
  | [.d (.tuple ds)] => .ok (.d (.tuple ds)) m
  | [w] => match asL w m with
    | some ds => .ok (.d (.tuple ds)) m
    | none => .bad
  | _ => .bad
theorem tupleW_ok : CallOk X Wx (fun xs H Q => ∃ p ys, xs = [.ref p] ∧ ((SqL X.K H p ys ∧ ∀ l, H l = none → Q (.ref l) (upd H l (.tup ys))) ∨ (SqT X.K H p ys ∧ Q (.ref p) H))) tupleW := by
  intro σ G m vs ws H0 Q R r h
  unfold tupleW at h
  split at h
  · obtain ⟨v, rfl, r0⟩ := paired1 r
    cases r0 with
    | tup t r => exact ⟨_, _, rfl, .inr ⟨t.sq, finD R h (.tup t r)⟩⟩
  · rename_i w _
    obtain ⟨v, rfl, r0⟩ := paired1 r
    cases e : asL w m with
    | none => simp only [e] at h; exact False.elim h
    | some ds =>
      simp only [e] at h
      obtain ⟨a, us, rfl, h1, r1⟩ := asL_sq R r0 e
      exact ⟨a, us, rfl, .inl ⟨h1, fun l hl => finT R h r1 hl⟩⟩
  · exact False.elim h
/-! ### isinstance -/
inductive Tk where
  | non | bl | int | str | lst | tup | dct
def Tk.name : Tk → String
  | .non => "NoneType"
  | .bl => "bool"
  | .int => "int"
  | .str => "str"
  | .lst => "list"
  | .tup => "tuple"
  | .dct => "dict"
def Tk.sub : Tk → Tk → Bool
  | .non, .non => true
  | .bl, .bl => true
  | .bl, .int => true
  | .int, .int => true
  | .str, .str => true
  | .lst, .lst => true
  | .tup, .tup => true
  | .dct, .dct => true
  | _, _ => false
theorem Tk.kit : ∀ a b : Tk, kitB a.name b.name = some (a.sub b) := by
  intro a b
  cases a <;> cases b <;> decide +kernel
def tyW (w : W) (m : Mem) : Option Tk := match w with
  | .d .none => some .non
  | .d (.bool _) => some .bl
  | .d (.int _) => some .int
  | .d (.str _) => some .str
  | .d (.list _) => some .lst
  | .d (.tuple _) => some .tup
  | .fl _ => some .lst
  | .ro _ => some .lst
  | .obj i => match m[i]? with
    | some (.lst _) => some .lst
    | some (.fz _) => some .lst
    | some (.dct _) => some .dct
    | some (.lsw _) => some .lst
    | _ => none
  | _ => none
theorem SqL.tyx {K : PySem.W.Frag} {H : Hp} {a : Addr} {vs : List V} (h : SqL K H a vs) : TyX K H (.ref a) (.type "list") := by
  rcases h with (h | ⟨o, h⟩) | ⟨o, its, n, h1, h2, _⟩
  · exact .base (.lst h)
  · exact .base (.frz h)
  · exact .kList h1 h2
theorem tyW_ok {G : Wd} {m : Mem} {v : V} {w : W} {H0 : Hp} {t : Tk} (R : RelM X.K G m) (r : RepR X.K H0 G v w) (e : tyW w m = some t) : TyX X.K G.H v (.type t.name) := by
  cases w with
  | d x =>
    cases x with
    | none => cases r; cases e; exact .base .non
    | bool b => cases r; cases e; exact .base (.bl _)
    | int b => cases r; cases e; exact .base (.int _)
    | str b => cases r; cases e; exact .base (.str _)
    | list ds =>
      cases e
      cases r with
      | lst t r => exact .base (.lst t.2)
    | tuple ds =>
      cases e
      cases r with
      | tup t r =>
        rcases t with t | ⟨o, its, n, h1, h2, _⟩
        · exact .base (.tup t.2)
        · exact .kTuple h1 h2
    | dict _ => cases e
  | fl ds => cases e; obtain ⟨p, vs, rfl, _, _, _, h3, _⟩ := r; exact .base (.lst h3)
  | ro ds => cases e; obtain ⟨p, vs, rfl, h1, _⟩ := r; exact SqL.tyx h1.sq
  | obj i =>
    obtain ⟨a, h1, rfl⟩ := r
    simp only [tyW] at e
    cases eo : m[i]? with
    | none => rw [eo] at e; cases e
    | some o =>
      rw [eo] at e
      have q := R.ob i a o h1 eo
      cases o with
      | lst ds => cases e; obtain ⟨_, vs, h3, _⟩ := q; exact .base (.lst h3)
      | fz ds => cases e; obtain ⟨_, vs, h3, _⟩ := q; exact .base (.lst h3)
      | dct ds => cases e; obtain ⟨_, vs, h3, _⟩ := q; exact .base (.dK h3)
      | lsw ws => cases e; obtain ⟨_, vs, h3, _⟩ := q; exact .base (.lst h3)
      | dcn _ => cases e
      | dead => cases e
      | ins _ _ => cases e
  | pr _ _ => cases e
def eIsi (ts : List Tk) (f : EF) (env : Env) (m : Mem) : Res W := (f env m).bind fun w m1 => match tyW w m1 with
  | some t => .ok (.d (.bool (ts.any fun u => t.sub u))) m1
  | none => .bad
theorem me_isi (t : Tk) {e : Expr} {f : EF} {x : Str} {p p' pos : Pos} (hg : Gl X "isinstance") (hm : X.mg "isinstance" = none) (hgT : Gl X x) (hmT : X.mg x = none) (he : ME X Wx e f) (hx : bootBuiltins x = some (.type t.name) := by decide +kernel)
    (hn : x ≠ "__name__" := by decide) (hd : (x == ("__debug__" : Str)) = false := by decide)
    (h1 : starEach [e, .Name x p'] X.env = (false, eval e X.env) :: starEach [.Name x p'] X.env := by rfl) (hpl : (backTo pos (starEach [.Name x p'] X.env)).any (·.1) = false := by rfl) (h2 : starEach [.Name x p'] X.env = (false, eval (.Name x p') X.env) :: starEach [] X.env := by rfl) :
    ME X Wx (.Call (.Name "isinstance" p) [e, .Name x p'] [] pos) (eIsi [t] f) := by
  obtain ⟨te, pe, qe⟩ := he
  refine ⟨_, pe_callB call_isi hg hm (by decide +kernel) (pa_cons pe (pa_cons (pe_bltn (v := .ty t.name) hgT hmT hx rfl hn hd) pa_nil h2) h1) (by decide) (by decide) h1 hpl, fun env m σ G Q S R h => qe env m σ G _ S R (GPost.bind weakR h fun w m1 v G1 le1 R1 q1 h1 => ?_)⟩
  cases e : tyW w m1 with
  | none => simp only [e] at h1; exact False.elim h1
  | some t' =>
    simp only [e] at h1
    refine ⟨v, .ty t.name, .type t'.name, .type t.name, t'.sub t, rfl, .ty _, tyW_ok R1 q1 e, kit_ty (Tk.kit _ _), ?_⟩
    have h1 : GPost X Wx σ G1 (RepR X.K) (.ok (.d (.bool (t'.sub t || false))) m1) Q := h1
    rw [Bool.or_false] at h1
    exact finD R1 h1 (.bl _)
/-! ### methods of lists -/
theorem obj_mut {i : Nat} {ds es : List D} {σ : St} {G : Wd} {m : Mem} {Q : VK} {v : V} {vs us : List V} {x : D} (R : RelM X.K G m) (h1 : G.io[i]? = some a) (hl : a ∈ G.lv) (r : Reps X.K G.lv G.H us es) (rx : Rep X.K G.lv G.H v x) (h : GPost X Wx σ G (RepR X.K) (.ok (.d x) (m.set i (.lst es))) Q) : Q v (upd G.H a (.lst us)) := by
  have le : Le G ⟨G.io, G.lv, upd G.H a (.lst us)⟩ := Le.mut R h1 hl
  exact h v _ le (R.mut h1 hl ⟨hl, us, upd_same, r.mono le.mo⟩ rfl) (Rep.mono le.mo rx)
/-- an object that is a list -/
def asO (w : W) (m : Mem) : Option (Nat × List D) := match w with
  | .obj i => match m[i]? with
    | some (.lst ds) => some (i, ds)
    | _ => none
  | _ => none
theorem asO_get {G : Wd} {m : Mem} {v : V} {w : W} {H0 : Hp} {i : Nat} {ds : List D} (R : RelM X.K G m) (r : RepR X.K H0 G v w) (e : asO w m = some (i, ds)) : ∃ a vs, v = .ref a ∧ G.io[i]? = some a ∧ a ∈ G.lv ∧ G.H a = some (.lst vs) ∧ Reps X.K G.lv G.H vs ds := by
  cases w with
  | obj j =>
    obtain ⟨a, h1, rfl⟩ := r
    simp only [asO] at e
    cases eo : m[j]? with
    | none => rw [eo] at e; cases e
    | some o =>
      rw [eo] at e
      cases o with
      | lst es => cases e; obtain ⟨h2, vs, h3, h4⟩ := R.ob _ a _ h1 eo; exact ⟨a, vs, rfl, h1, h2, h3, h4⟩
      | fz es => cases e
      | _ => cases e
  | _ => cases e
def appendW (x : W) (ws : List W) (m : Mem) : Res W := match asO x m, ws with
  | some (i, ds), [.d y] => if ds.length < sizeLine then .ok (.d .none) (m.set i (.lst (ds ++ [y]))) else .bad
  | _, _ => .bad
theorem appendW_ok : MtOk X Wx rAppend appendW := by
  intro σ G m v x vs ws H0 H1 Q R rx rs h
  unfold appendW at h
  split at h
  · rename_i i ds y e
    obtain ⟨a, us, rfl, h1, h2, h3, h4⟩ := asO_get R rx e
    obtain ⟨u, rfl, ru⟩ := paired1 rs
    split at h
    · rename_i hz
      exact ⟨a, us, u, rfl, rfl, h3, by rw [h4.length]; exact hz, obj_mut (a := a) (ds := ds) (vs := us) R h1 h2 (h4.append (.one ru)) .non h⟩
    · exact False.elim h
  · exact False.elim h
noncomputable def popAtW (x : W) (ws : List W) (m : Mem) : Res W := match asO x m, ws with
  | some (i, ds), [.d (.int k)] => if grd (-(2 ^ 63) ≤ k ∧ k < 2 ^ 63) = true then (match seqIndex? k ds.length with
    | some j => match ds[j]? with
      | some y => .ok (.d y) (m.set i (.lst (ds.eraseIdx j)))
      | none => .bad
    | none => .bad) else .bad
  | _, _ => .bad
theorem popAtW_ok : MtOk X Wx rPopAt popAtW := by
  intro σ G m v x vs ws H0 H1 Q R rx rs h
  unfold popAtW at h
  split at h
  · rename_i i ds k e
    obtain ⟨a, us, rfl, h1, h2, h3, h4⟩ := asO_get R rx e
    obtain ⟨u, rfl, ru⟩ := paired1 rs
    cases ru
    split at h
    · rename_i hz
      have hz := grd_iff.mp hz
      cases ej : seqIndex? k ds.length with
      | none => simp only [ej] at h; exact False.elim h
      | some j =>
        simp only [ej] at h
        cases ey : ds[j]? with
        | none => simp only [ey] at h; exact False.elim h
        | some y =>
          simp only [ey] at h
          obtain ⟨u, g1, g2⟩ := h4.get ey
          exact ⟨a, us, k, j, u, rfl, rfl, h3, hz.1, hz.2, by rw [h4.length]; exact ej, g1, obj_mut (a := a) (ds := ds) (vs := us) R h1 h2 (h4.eraseIdx j) g2 h⟩
    · exact False.elim h
  · exact False.elim h
def clearW (x : W) (ws : List W) (m : Mem) : Res W := match asO x m, ws with
  | some (i, _), [] => .ok (.d .none) (m.set i (.lst []))
  | _, _ => .bad
theorem clearW_ok : MtOk X Wx rClear clearW := by
  intro σ G m v x vs ws H0 H1 Q R rx rs h
  unfold clearW at h
  split at h
  · rename_i i ds e
    obtain ⟨a, us, rfl, h1, h2, h3, h4⟩ := asO_get R rx e
    cases rs
    exact ⟨a, us, rfl, rfl, h3, obj_mut (a := a) (ds := ds) (vs := us) R h1 h2 .nil .non h⟩
  · exact False.elim h
/-! ### methods of texts -/
def joinW (x : W) (ws : List W) (m : Mem) : Res W := match x, ws with
  | .d (.str a), [w] => match (match w with | .d (.tuple ds) => some ds | w => asL w m).bind dStrs with
    | some ys => if (ys.map (·.length)).sum + ys.length * a.length ≤ 16777216 then .ok (.d (.str (Txt.join a ys))) m else .bad
    | none => .bad
  | _, _ => .bad
theorem joinW_ok : MtOk X Wx (fun x xs H Q => ∃ a p, ∃ ys : List Str, x = .str a ∧ xs = [.ref p] ∧ (SqL X.K H p (ys.map V.str) ∨ SqT X.K H p (ys.map V.str)) ∧ (ys.map (·.length)).sum + ys.length * a.length ≤ 16777216 ∧ Q (.str (Txt.join a ys)) H) joinW := by
  intro σ G m v x vs ws H0 H1 Q R rx rs h
  unfold joinW at h
  split at h
  · rename_i a w
    cases rx
    obtain ⟨u, rfl, ru⟩ := paired1 rs
    have go : ∀ (ds : List D) (p : Addr) (us : List V), (SqL X.K G.H p us ∨ SqT X.K G.H p us) → Reps X.K G.lv G.H us ds → u = .ref p → GPost X Wx σ G (RepR X.K) (match dStrs ds with | some ys => if (ys.map (·.length)).sum + ys.length * a.length ≤ 16777216 then .ok (.d (.str (Txt.join a ys))) m else .bad | none => .bad) Q →
        ∃ a' p, ∃ ys : List Str, V.str a = .str a' ∧ [u] = [.ref p] ∧ (SqL X.K G.H p (ys.map V.str) ∨ SqT X.K G.H p (ys.map V.str)) ∧ (ys.map (·.length)).sum + ys.length * a'.length ≤ 16777216 ∧ Q (.str (Txt.join a' ys)) G.H := fun ds p us h1 r1 e h => by
      cases es : dStrs ds with
      | none => rw [es] at h; exact False.elim h
      | some ys =>
        simp only [es] at h
        rw [dStrs_map es] at r1
        rw [r1.vstrs] at h1
        split at h
        · rename_i hz
          exact ⟨a, p, ys, rfl, by rw [e], h1, hz, finD R h (.str _)⟩
        · exact False.elim h
    have lst : GPost X Wx σ G (RepR X.K) (match (asL w m).bind dStrs with | some ys => if (ys.map (·.length)).sum + ys.length * a.length ≤ 16777216 then .ok (.d (.str (Txt.join a ys))) m else .bad | none => .bad) Q →
        ∃ a' p, ∃ ys : List Str, V.str a = .str a' ∧ [u] = [.ref p] ∧ (SqL X.K G.H p (ys.map V.str) ∨ SqT X.K G.H p (ys.map V.str)) ∧ (ys.map (·.length)).sum + ys.length * a'.length ≤ 16777216 ∧ Q (.str (Txt.join a' ys)) G.H := fun h => by
      cases e : asL w m with
      | none => rw [e] at h; exact False.elim h
      | some ds =>
        rw [e] at h
        obtain ⟨p, us, e1, h1, r1⟩ := asL_sq R ru e
        exact go ds p us (.inl h1) r1 e1 h
    cases w with
    | d x =>
      cases x with
      | tuple ds =>
        cases ru with
        | tup t r => exact go ds _ _ (.inr t.sq) r rfl h
      | _ => exact lst h
    | _ => exact lst h
  · exact False.elim h
def sindexW (x : W) (ws : List W) (m : Mem) : Res W := match x, ws with
  | .d (.str a), [.d (.str b)] => match Builtin.Str.occurrences a b 0 a.length 1 with
    | i :: _ => .ok (.d (.int (i : Int))) m
    | [] => .bad
  | _, _ => .bad
theorem sindexW_ok : MtOk X Wx (fun x xs H Q => ∃ a b i rest, x = .str a ∧ xs = [.str b] ∧ Builtin.Str.occurrences a b 0 a.length 1 = i :: rest ∧ Q (.int (i : Nat)) H) sindexW := by
  intro σ G m v x vs ws H0 H1 Q R rx rs h
  unfold sindexW at h
  split at h
  · rename_i a b
    cases rx
    obtain ⟨u, rfl, ru⟩ := paired1 rs
    cases ru
    split at h
    · rename_i i r e
      exact ⟨a, b, i, r, rfl, rfl, e, finD R h (.int _)⟩
    · exact False.elim h
  · exact False.elim h
/-! ### xs[i] = v -/
def sSetI (o i : EF) (f : EF) (env : Env) (m : Mem) : SRes := eS ((f env m).bind fun v m1 => (o env m1).bind fun x m2 => (i env m2).bind fun k m3 => match asO x m3, k, v with
  | some (j, ds), .d (.int k), .d y => (match ixN ds.length k with
    | some n => .ok () (m3.set j (.lst (ds.set n y)))
    | none => .bad)
  | _, _, _ => .bad) env fun _ m1 => .nx env m1
theorem ms_setI {o i e : Expr} {fo fi f : EF} {tpos pos : Pos} (ho : ME X Wx o fo) (hi : ME X Wx i fi) (he : ME X Wx e f)
    (ha : ∀ v, assign (.Subscript o i tpos) X.env v = (do
      let ov ← holding [v] (eval o X.env)
      let iv ← holding [v, ov] (eval i X.env)
      standAt tpos
      holding [v, ov, iv] (setItem ov iv v)
      release [v, ov, iv] []) := by intro _; rfl)
    (hs : swapsWithSole [.Subscript o i tpos] e pos.line X.env = pure false := by rfl) (hw : swappedStores [.Subscript o i tpos] e X.env = pure none := by rfl)
    (h1 : (assignEach [.Subscript o i tpos] X.env).map (·.2) = [assign (.Subscript o i tpos) X.env] := by rfl) : MS X Wx (.Assign [.Subscript o i tpos] e pos) (sSetI fo fi f) := by
  obtain ⟨to, po, qo⟩ := ho
  obtain ⟨ti, pi, qi⟩ := hi
  obtain ⟨t, p, q⟩ := he
  refine ⟨_, ps_asg p (pg_sub po pi set_list ha) hs hw h1, fun env m σ G E S R h => ?_⟩
  have h' : GPost X Wx σ G (fun _ _ (_ : Unit) (_ : Unit) => True) ((f env m).bind fun v m1 => (fo env m1).bind fun x m2 => (fi env m2).bind fun k m3 => match asO x m3, k, v with
      | some (j, ds), .d (.int k), .d y => (match ixN ds.length k with
        | some n => .ok () (m3.set j (.lst (ds.set n y)))
        | none => .bad)
      | _, _, _ => .bad) (fun _ H' => E.nx σ H') := SPost.ofE h S fun a m1 v G1 le R1 _ h1 => h1 σ G1 (Le.refl R1) R1 (S.mono le)
  have wk : Weak (fun (_ : Hp) (_ : Wd) (_ : Unit) (_ : Unit) => True) := fun _ _ _ _ _ _ _ => trivial
  refine q env m σ G _ S R (GPost.bind wk h' fun w m1 v G1 le1 R1 q1 h1 => ?_)
  refine qo env m1 σ G1 _ (S.mono le1) R1 (GPost.bind wk h1 fun x m2 u G2 le2 R2 q2 h2 => ?_)
  refine qi env m2 σ G2 _ ((S.mono le1).mono le2) R2 (GPost.bind wk h2 fun k m3 z G3 le3 R3 q3 h3 => ?_)
  split at h3
  · rename_i j ds kk y e
    obtain ⟨a, vs, e1, g1, g2, g3, g4⟩ := asO_get R3 (q2.mono le3) e
    cases q3
    cases en : ixN ds.length kk with
    | none => simp only [en] at h3; exact False.elim h3
    | some n =>
      simp only [en] at h3
      have rv : Rep X.K G3.lv G3.H v y := Rep.mono (le2.trans le3).mo q1
      have le : Le G3 ⟨G3.io, G3.lv, upd G3.H a (.lst (vs.set n v))⟩ := Le.mut R3 g1 g2
      refine ⟨a, vs, kk, n, e1, rfl, g3, by rw [g4.length]; exact en, ?_⟩
      exact h3 () _ le (R3.mut g1 g2 ⟨g2, _, upd_same, (g4.set rv n).mono le.mo⟩ rfl) trivial
  · exact False.elim h3
end
end M
set_option Elab.async false
set_option linter.all false
set_option maxRecDepth 100000
namespace M
open PySem L2
variable [HasW]
section
variable {X : Cx} {Wx : WX}
/-! ### - n -/
theorem hu65 {A : Around} {k : Nat} (hr : Room k A) : A.units + 65 < cLine := by have := hr.un; omega
theorem takesF : Takes X WF := takes0
/-! ### the law -/
theorem cx_no {P : Program} {w : World} {H : Hp} {s : Shared} {e : Value} {s' : Shared} (h : L2.CX P w [] H s (fun _ _ _ => False) e s') : False := by
  obtain ⟨_, _, _, _, _, _, _, _, _, _, _, _, z⟩ := h
  exact z
end
end M
set_option Elab.async false
set_option linter.all false
set_option maxRecDepth 100000
set_option maxHeartbeats 4000000
namespace M
open PySem PySem.Spec PyProof.Rows L2
/-! ### list.extend of a tuple, whichever the tuple's object is -/
end M
set_option Elab.async false
set_option linter.all false
set_option maxRecDepth 100000
set_option maxHeartbeats 4000000
namespace M
open PySem L2
variable [HasW]
/-! ### dicts with texts as keys -/
section
variable {K : PySem.W.Frag} {G : Wd}
abbrev DRel (K : PySem.W.Frag) (G : Wd) : List (Key × V) → List (Str × W) → Prop := Paired (fun (p : Key × V) (q : Str × W) => p.1 = Sum.inr q.1 ∧ RepW K G p.2 q.2)
theorem DRel.length {ks : List (Key × V)} {kvs : List (Str × W)} (r : DRel K G ks kvs) : ks.length = kvs.length := by
  induction r with
  | nil => rfl
  | cons _ _ ih => rw [List.length_cons, List.length_cons, ih]
end
end M
set_option Elab.async false
set_option linter.all false
set_option maxRecDepth 100000
/-! plain laws of the mirrors' operations -/
namespace M
open PySem L2
variable [HasW]
abbrev En := M.Env
/-! ### texts as lists of codes -/
def S (l : List Nat) : Str := ⟨l.toArray⟩
@[simp] theorem S_cps (l : List Nat) : (S l).cps.toList = l := rfl
@[simp] theorem S_len (l : List Nat) : (S l).length = l.length := rfl
@[simp] theorem S_app (a b : List Nat) : S a ++ S b = S (a ++ b) := by
  show Str.mk (a.toArray ++ b.toArray) = Str.mk (a ++ b).toArray
  rw [List.append_toArray]
theorem S_inj {a b : List Nat} : S a = S b ↔ a = b := ⟨fun h => by have := congrArg (fun x : Str => x.cps.toList) h; exact this, fun h => by rw [h]⟩
@[simp] theorem S_beq (a b : List Nat) : (S a == S b) = decide (a = b) := by
  by_cases h : a = b
  · subst h; simp
  · rw [decide_eq_false h]
    exact beq_eq_false_iff_ne.mpr fun z => h (S_inj.mp z)
def okC (l : List Nat) : Bool := l.all (· < 0x110000)
theorem strOk_S (l : List Nat) : PyData.strOk (S l) = okC l := by
  unfold PyData.strOk S okC
  simp
@[simp] theorem shaped_str (l : List Nat) : SeqAt.shaped (.str (S l)) = okC l := by
  show ((PyData.str (S l)).canLay0 && decide ((PyData.str (S l)).depth ≤ 64)) = _
  simp [PyData.canLay0, PyData.depth, strOk_S]
@[simp] theorem shaped_int (i : Int) : SeqAt.shaped (.int i) = true := by
  show ((PyData.int i).canLay0 && decide ((PyData.int i).depth ≤ 64)) = _
  simp [PyData.canLay0, PyData.depth]
@[simp] theorem shaped_bool (i : Bool) : SeqAt.shaped (.bool i) = true := by
  show ((PyData.bool i).canLay0 && decide ((PyData.bool i).depth ≤ 64)) = _
  simp [PyData.canLay0, PyData.depth]
@[simp] theorem shaped_none : SeqAt.shaped .none = true := by
  show (PyData.none.canLay0 && decide (PyData.none.depth ≤ 64)) = _
  simp [PyData.canLay0, PyData.depth]
@[simp] theorem shaped_nil : SeqAt.shaped (.list []) = true := by
  show ((PyData.list []).canLay0 && decide ((PyData.list []).depth ≤ 64)) = _
  simp [PyData.canLay0, PyData.canLayAll0, PyData.depth, PyData.depthAll]
@[simp] theorem eqv_str (a b : Str) : PyData.eqv (.str a) (.str b) = (a == b) := by simp [PyData.eqv]
@[simp] theorem eqv_int (a b : Int) : PyData.eqv (.int a) (.int b) = (a == b) := by simp [PyData.eqv]
@[simp] theorem eqv_bool (a b : Bool) : PyData.eqv (.bool a) (.bool b) = (a == b) := by simp [PyData.eqv]
theorem canLayAll0_ints : ∀ ns : List Int, PyData.canLayAll0 (ns.map PyData.int) = true
  | [] => by simp [PyData.canLayAll0]
  | n :: ns => by simp [PyData.canLayAll0, PyData.canLay0, canLayAll0_ints ns]
theorem depthAll_ints : ∀ ns : List Int, PyData.depthAll (ns.map PyData.int) = 0
  | [] => by simp [PyData.depthAll]
  | n :: ns => by simp [PyData.depthAll, PyData.depth, depthAll_ints ns]
@[simp] theorem shaped_ints (ns : List Int) : SeqAt.shaped (.list (ns.map PyData.int)) = true := by
  show ((PyData.list (ns.map PyData.int)).canLay0 && decide ((PyData.list (ns.map PyData.int)).depth ≤ 64)) = _
  simp [PyData.canLay0, PyData.depth, canLayAll0_ints, depthAll_ints]
/-! ### operations -/
section
variable {m : Mem}
@[simp] theorem addW_int (i j : Int) : addW (.d (.int i)) (.d (.int j)) m = .ok (.d (.int (i + j))) m := rfl
@[simp] theorem subW_int (i j : Int) : subW (.d (.int i)) (.d (.int j)) m = .ok (.d (.int (i - j))) m := rfl
theorem mulW_r {i j : Int} (h : -(2 ^ 64) < j) (h' : j < 2 ^ 64) : mulW (.d (.int i)) (.d (.int j)) m = .ok (.d (.int (i * j))) m := by
  have e : mulOk i j = true := grd_t (.inl (.inr ⟨h, h'⟩))
  show (if mulOk i j = true then _ else _) = _
  rw [if_pos e]
theorem divW_lit {i j : Int} (h : divOk 0 j = true) : divW (.d (.int i)) (.d (.int j)) m = .ok (.d (.int (i / j))) m := by
  show (if divOk i j = true then _ else _) = _
  rw [if_pos (show divOk i j = true from h)]
theorem modW_pos {i j : Int} (h : 0 < j) : modW (.d (.int i)) (.d (.int j)) m = .ok (.d (.int (i % j))) m := by
  show (if modOk i j = true then _ else _) = _
  rw [if_pos (show modOk i j = true from grd_t h)]
@[simp] theorem ltW_int (i j : Int) : ltW (.d (.int i)) (.d (.int j)) m = .ok (.d (.bool (decide (i < j)))) m := rfl
@[simp] theorem leW_int (i j : Int) : leW (.d (.int i)) (.d (.int j)) m = .ok (.d (.bool (decide (i ≤ j)))) m := rfl
@[simp] theorem gtW_int (i j : Int) : gtW (.d (.int i)) (.d (.int j)) m = .ok (.d (.bool (decide (j < i)))) m := rfl
@[simp] theorem geW_int (i j : Int) : geW (.d (.int i)) (.d (.int j)) m = .ok (.d (.bool (decide (j ≤ i)))) m := rfl
@[simp] theorem addIW_int (i j : Int) : addIW (.d (.int i)) (.d (.int j)) m = .ok (.d (.int (i + j))) m := rfl
@[simp] theorem eqW_int (n : Bool) (i j : Int) : eqW n (.d (.int i)) (.d (.int j)) m = .ok (.d (.bool (ngB n (decide (i = j))))) m := by
  unfold eqW asD
  simp only [shaped_int, Bool.and_self, if_true, eqv_int]
  rfl
theorem atI_of {α : Type} {xs : List α} {i : Int} (h0 : 0 ≤ i) : L2.atI xs i = xs[i.toNat]? := by
  unfold L2.atI ixN
  rw [if_pos h0]
  by_cases h : i < xs.length
  · rw [if_pos h]; rfl
  · rw [if_neg h, List.getElem?_eq_none (by omega)]; rfl
@[simp] theorem atI_cast {α : Type} (xs : List α) (k : Nat) : L2.atI xs (k : Int) = xs[k]? := by rw [atI_of (by omega)]; simp
@[simp] theorem atI_zero {α : Type} (xs : List α) : L2.atI xs 0 = xs[0]? := atI_cast xs 0
@[simp] theorem atI_one {α : Type} (xs : List α) : L2.atI xs 1 = xs[1]? := atI_cast xs 1
@[simp] theorem atI_two {α : Type} (xs : List α) : L2.atI xs 2 = xs[2]? := atI_cast xs 2
end
section
variable {m : Mem}
@[simp] theorem divW_s {i j : Int} (h : 0 < j) (h' : j < 18446744073709551616) : divW (.d (.int i)) (.d (.int j)) m = .ok (.d (.int (i / j))) m := by
  refine divW_lit ?_
  refine grd_t ⟨h, ?_⟩
  have h2 : j.natAbs < 2 ^ 64 := by omega
  have := PySem.Flt.log2_lt_of (show 0 < 64 by decide) h2
  omega
@[simp] theorem modW_s {i j : Int} (h : 0 < j) : modW (.d (.int i)) (.d (.int j)) m = .ok (.d (.int (i % j))) m := modW_pos h
@[simp] theorem mulW_s {i j : Int} (h : -18446744073709551616 < j) (h' : j < 18446744073709551616) : mulW (.d (.int i)) (.d (.int j)) m = .ok (.d (.int (i * j))) m := mulW_r (by omega) (by omega)
end
section
variable {m : Mem}
@[simp] theorem powW_s {i j : Int} (h : 0 ≤ j) (h' : j ≤ 1000000) (h2 : i.natAbs < 18446744073709551616) : powW (.d (.int i)) (.d (.int j)) m = .ok (.d (.int (i ^ j.toNat))) m := by
  have e : powOk i j = true := grd_t ⟨h, h', by omega⟩
  show (if powOk i j = true then _ else _) = _
  rw [if_pos e]
@[simp] theorem isTy_d_list (ds : List D) : isTyW "list" (.d (.list ds)) m = true := rfl
end
/-! ### cuts -/
@[simp] theorem sIx_none' (n d : Nat) : HT.sIx n d none = d := rfl
@[simp] theorem sIx_cast (n d k : Nat) : HT.sIx n d (some (k : Int)) = min k n := HT.sIx_nat n d k
theorem sIx_of {n d : Nat} {i : Int} (h : 0 ≤ i) : HT.sIx n d (some i) = min i.toNat n := by
  unfold HT.sIx
  dsimp only
  rw [if_neg (by omega)]
theorem cutD_take {xs : List D} {i : Int} (h : 0 ≤ i) : cutD xs none (some i) = xs.take i.toNat := by
  unfold cutD
  rw [sIx_none', sIx_of h, List.drop_zero, Nat.sub_zero, Nat.min_def]
  split
  · rfl
  · rw [List.take_length, List.take_of_length_le (by omega)]
theorem cutD_drop {xs : List D} {i : Int} (h : 0 ≤ i) : cutD xs (some i) none = xs.drop i.toNat := by
  unfold cutD
  rw [sIx_none', sIx_of h, Nat.min_def]
  split
  · exact List.take_of_length_le (by rw [List.length_drop]; omega)
  · rw [List.drop_eq_nil_of_le (by omega), List.drop_eq_nil_of_le (by omega)]
    simp
theorem cutD_mid {xs : List D} {i j : Int} (h : 0 ≤ i) (h' : 0 ≤ j) : cutD xs (some i) (some j) = (xs.take j.toNat).drop i.toNat := by
  unfold cutD
  rw [sIx_of h, sIx_of h']
  rw [List.drop_take]
  by_cases h1 : i.toNat ≤ xs.length
  · rw [Nat.min_eq_left h1]
    by_cases h2 : j.toNat ≤ xs.length
    · rw [Nat.min_eq_left h2]
    · rw [Nat.min_eq_right (by omega), List.take_of_length_le (by rw [List.length_drop]; omega), List.take_of_length_le (by rw [List.length_drop]; omega)]
  · rw [List.drop_eq_nil_of_le (by omega), List.drop_eq_nil_of_le (by omega)]
    simp
theorem cutS_S (l : List Nat) (lo hi : Option Int) : cutS (S l) lo hi = S ((l.drop (HT.sIx l.length 0 lo)).take (HT.sIx l.length l.length hi - HT.sIx l.length 0 lo)) := rfl
theorem cutS_take {l : List Nat} {i : Int} (h : 0 ≤ i) : cutS (S l) none (some i) = S (l.take i.toNat) := by
  rw [cutS_S, sIx_none', sIx_of h, List.drop_zero, Nat.sub_zero, Nat.min_def]
  split
  · rfl
  · rw [List.take_length, List.take_of_length_le (by omega)]
theorem cutS_drop {l : List Nat} {i : Int} (h : 0 ≤ i) : cutS (S l) (some i) none = S (l.drop i.toNat) := by
  rw [cutS_S, sIx_none', sIx_of h, Nat.min_def]
  split
  · rw [List.take_of_length_le (by rw [List.length_drop]; omega)]
  · rw [List.drop_eq_nil_of_le (by omega), List.drop_eq_nil_of_le (by omega)]
    simp
/-! ### join, index -/
theorem join_nil : ∀ ls : List (List Nat), Txt.join (S []) (ls.map S) = S ls.flatten := by
  have : ∀ ls : List (List Nat), Str.join (S []) (ls.map S) = S ls.flatten := by
    intro ls
    induction ls with
    | nil => rfl
    | cons a r ih =>
      cases r with
      | nil => show S a = S (List.flatten [a]); simp
      | cons b r => show S a ++ S [] ++ Str.join (S []) ((b :: r).map S) = _; rw [ih, S_app, S_app]; simp
  intro ls
  show Builtin.Str.glued (S []) (ls.map S) = _
  rw [StrLaws.glued_eq_join]
  exact this ls
/-! ### memory: a list of objects -/
@[simp] theorem mem_last (m : Mem) (o : O) : (m ++ [o])[m.length]? = some o := by simp
@[simp] theorem mem_set_last (m : Mem) (o p : O) : (m ++ [o]).set m.length p = m ++ [p] := by simp
@[simp] theorem mem_take (m : Mem) (l : List O) : (m ++ l).take m.length = m := by simp
/-! ### loops -/
@[simp] theorem rng_len (lo : Int) (n : Nat) : (rngI lo n).xs.length = n := by simp [rngI]
def stepOk (r : SRes) (Q : Env → Mem → Prop) : Prop := match r with
  | .nx e m => Q e m
  | .ct e m => Q e m
  | _ => False
@[simp] theorem stepOk_nx (e : Env) (m : Mem) (Q : Env → Mem → Prop) : stepOk (.nx e m) Q = Q e m := rfl
@[simp] theorem stepOk_ct (e : Env) (m : Mem) (Q : Env → Mem → Prop) : stepOk (.ct e m) Q = Q e m := rfl
def Res.wp {α : Type} (r : Res α) (Q : α → Mem → Prop) : Prop := match r with
  | .ok a m => Q a m
  | _ => False
@[simp] theorem Res.wp_ok {α : Type} (a : α) (m : Mem) (Q : α → Mem → Prop) : (Res.ok a m).wp Q = Q a m := rfl
/-! ### statement by statement -/
section
variable {Z : SRes → Prop} {a b : SF} {env e : En} {m m1 : Mem}
def outF (n : Nat) (r : SRes) : Res W := match r with
  | .rt w m' => finM n w m'
  | .nx _ m' => finM n (.d .none) m'
  | .err e _ m' => if clM n m' = true then .err e (m'.take n) else .bad
  | _ => .bad
end
/-! ### comprehensions -/
end M
set_option Elab.async false
set_option linter.all false
set_option maxRecDepth 100000
/-! M: exceptions -/
namespace M
open PySem L2
variable [HasW]
/-- an exception class of the program's own over ValueError, made with a text -/
structure XC (K : PySem.W.Frag) (mg : Str → Option Value) (x : Str) where
  C : Addr
  g : mg x = some (.ref C)
  q : PySem.W.excIn K C [.type "ValueError", .type "Exception", .type "BaseException", .type "object"] "ValueError.__new__" = true
  k : PySem.W.keepIn K (.ref C) = true
  b : PySem.W.subIn K (.ref C) (.type "BaseException") = some true
  t : PySem.W.typeIn K (.ref C) = some (.type "type")
def tabOf : List (Str × Bool) → Str → Option Bool
  | [], _ => none
  | (n, b) :: r, x => if x = n then some b else tabOf r x
inductive TabOk (K : PySem.W.Frag) (mg : Str → Option Value) (c : Value) : List (Str × Bool) → Prop
  | nil : TabOk K mg c []
  | cons {n : Str} {b : Bool} {cls : Value} {l : List (Str × Bool)} : mg n = some cls → PySem.W.exmOne K cls c = some b → TabOk K mg c l → TabOk K mg c ((n, b) :: l)
theorem tab_ok {K : PySem.W.Frag} {mg : Str → Option Value} {c : Value} : ∀ {l : List (Str × Bool)}, TabOk K mg c l → ∀ n b cls, tabOf l n = some b → mg n = some cls → PySem.W.exmOne K cls c = some b
  | _, .nil, n, b, cls, h, _ => by cases h
  | _, .cons (n := n') (b := b') g e t, n, b, cls, h, hm => by
    unfold tabOf at h
    by_cases q : n = n'
    · rw [if_pos q] at h
      cases h
      rw [q, g] at hm
      cases hm
      exact e
    · rw [if_neg q] at h
      exact tab_ok t n b cls h hm
section
variable {X : Cx} {Wx : WX}
def sRaise (x : Str) (env : Env) (m : Mem) : SRes := .err ⟨x, []⟩ env m
theorem ms_raise {x m : Str} {j : Nat} {p p2 pos pos' : Pos} (hc : X.calm = true) (tk : Takes X Wx) (c : XC X.K X.mg x) (hg : Gl X x) (hdb : (x == ("__debug__" : Str)) = false := by decide) :
    MS X Wx (.Raise (some (.Call (.Name x p) [.Constant (.str m) j p2] [] pos)) none pos') (sRaise x) :=
  ⟨_, ps_raise hc tk (pmk_own PySem.F.excBase_ValueError c.q c.g c.k (raises_own c.b c.t) hg hdb), fun env m σ G E S R h => h _ _ σ G (Le.refl R) R S ⟨c.g, .inl ⟨rfl, rfl⟩⟩⟩
/-- readings of blocks that do not hang on the place -/
def cB (X : Cx) (Wx : WX) (f : SF) : TS := fun E σ H => ∃ env m G, G.H = H ∧ RelS X.K G σ env ∧ RelM X.K G m ∧ SPost X Wx G (f env m) E
theorem MB.pss {st : List Stmt} {f : SF} (h : MB X Wx st f) : PSs X st (cB X Wx f) := by
  obtain ⟨t, p, q⟩ := h
  refine ⟨fun pins s σ H D I ⟨env, m, G, e, S, R, h⟩ => p.run pins s σ H D I ?_⟩
  subst e
  exact q env m σ G D S R h
def noErrS (r : SRes) : SRes := match r with
  | .err _ _ _ => .bad
  | r => r
end
end M
set_option Elab.async false
set_option linter.all false
set_option maxRecDepth 100000
/-! M: list + list, whichever lists; list * int -/
namespace M
open PySem L2 PyProof.Rows
variable [HasW]
section
variable {X : Cx} {Wx : WX}
def rCatS (K : PySem.W.Frag) : R2 := fun x y H Q => ∃ l b xs zs, x = .ref l ∧ y = .ref b ∧ SqL K H l xs ∧ SqL K H b zs ∧ xs.length + zs.length ≤ sizeLine ∧ ∀ p, H p = none → Q (.ref p) (upd H p (.lst (xs ++ zs)))
theorem op_catS : OpR X (binaryOp .Add) (rCatS X.K) := by
  intro pins s σ H x y v u Q I rx ry h
  obtain ⟨l, b, xs, zs, rfl, rfl, hH, hB, hz, q⟩ := h
  cases rx
  cases ry
  obtain ⟨its, r, ht, hz1⟩ := I.list hH
  obtain ⟨its2, r2, ht2, hz2⟩ := I.list hB
  have hlen := r.length
  have hlen2 := r2.length
  obtain ⟨⟨cls, dd, data, sl⟩, ho, hc, n, hd⟩ := id ht.isList
  obtain ⟨⟨cls2, dd2, data2, sl2⟩, ho2, hc2, n2, hd2⟩ := id ht2.isList
  simp only at hc hd hc2 hd2
  subst hc hd hc2 hd2
  have e : its.toArray ++ its2.toArray = (its ++ its2).toArray := by simp
  refine concat_meets ⟨_, ho, rfl⟩ ⟨_, ho2, rfl⟩ noFill_list_add seq_list_add PySem.F.slot_list_add PySem.F.entry_list_add (PySem.F.args_list_add_2 _ _) (list_addW l b its.toArray its2.toArray n n2 dd dd2 sl sl2 (by rw [List.size_toArray, List.size_toArray]; omega)) ⟨ho, ho2, ?_⟩
  rw [e]
  exact ⟨.ref _, _, I.lnew (t' := s.toks) (r.append r2) (by rw [List.length_append]; omega), rfl, q _ I.fresh⟩
def addAW (x y : W) (m : Mem) : Res W :=
  match x, y with
  | .d (.int i), .d (.int j) => .ok (.d (.int (i + j))) m
  | .d (.str a), .d (.str b) => if a.length + b.length ≤ sizeLine then .ok (.d (.str (a ++ b))) m else .bad
  | .d (.tuple a), .d (.tuple b) => if a.length + b.length ≤ sizeLine then .ok (.d (.tuple (a ++ b))) m else .bad
  | x, y => match asL x m, asL y m with
    | some a, some b => if a.length + b.length ≤ sizeLine then .ok (.fl (a ++ b)) m else .bad
    | _, _ => .bad
def rAddS (K : PySem.W.Frag) : R2 := fun x y H Q => (rI0 (fun i j => .int (i + j)) x y H Q ∨ (∃ i j, x = .str i ∧ y = .str j ∧ i.length + j.length ≤ sizeLine ∧ Q (.str (i ++ j)) H)) ∨ (rCatA K x y H Q ∨ rCatS K x y H Q)
theorem op_addS : OpR X (binaryOp .Add) (rAddS X.K) := (op_add.or op_add_str).or (op_catA.or op_catS)
theorem addLS_ok {σ : L2.St} {G : Wd} {m : Mem} {v u : V} {x y : W} {H0 H1 : Hp} {Q : VK} (R : RelM X.K G m) (rx : RepR X.K H0 G v x) (ry : RepR X.K H1 G u y)
    (h : GPost X Wx σ G (RepR X.K) (match asL x m, asL y m with | some a, some b => if a.length + b.length ≤ sizeLine then .ok (.fl (a ++ b)) m else .bad | _, _ => .bad) Q) : rAddS X.K v u G.H Q := by
  cases ex : asL x m with
  | none => rw [ex] at h; exact False.elim h
  | some a =>
    cases ey : asL y m with
    | none => rw [ex, ey] at h; exact False.elim h
    | some b =>
      rw [ex, ey] at h
      obtain ⟨p, vs, rfl, h1, r1⟩ := asL_sq R rx ex
      obtain ⟨q, us, rfl, h2, r2⟩ := asL_sq R ry ey
      by_cases hz : a.length + b.length ≤ sizeLine
      · simp only [hz, if_true] at h
        exact .inr (.inr ⟨p, q, vs, us, rfl, rfl, h1, h2, by rw [r1.length, r2.length]; exact hz, fun l hl => finL R h (r1.append r2) hl⟩)
      · simp only [hz, if_false] at h
        exact False.elim h
theorem addAW_ok : OpOk X Wx (rAddS X.K) addAW := by
  intro σ G m v u x y H0 H1 Q R rx ry h
  cases x with
  | d x =>
    cases y with
    | d y =>
      cases x with
      | int i =>
        cases y with
        | int j => cases rx; cases ry; exact .inl (.inl ⟨i, j, rfl, rfl, finD R h (.int _)⟩)
        | _ => exact addLS_ok R rx ry h
      | str a =>
        cases y with
        | str b =>
          cases rx; cases ry
          simp only [addAW] at h
          by_cases hz : a.length + b.length ≤ sizeLine
          · simp only [hz, if_true] at h
            exact .inl (.inr ⟨a, b, rfl, rfl, hz, finD R h (.str _)⟩)
          · simp only [hz, if_false] at h
            exact False.elim h
        | _ => exact addLS_ok R rx ry h
      | tuple a =>
        cases y with
        | tuple b =>
          simp only [addAW] at h
          by_cases hz : a.length + b.length ≤ sizeLine
          · simp only [hz, if_true] at h
            cases rx with
            | @tup p vs _ t1 r1 =>
              cases ry with
              | @tup q us _ t2 r2 =>
                refine .inr (.inl ⟨p, q, vs, us, rfl, rfl, t1.sq, t2.sq, by rw [r1.length, r2.length]; exact hz, fun e => ?_, fun e1 e2 => ?_, fun e1 e2 l hl => finT R h (r1.append r2) hl⟩)
                · have ea := r1.nil_iff.mp e
                  subst ea
                  exact finD R h (.tup t2 r2)
                · have eb := r2.nil_iff.mp e2
                  subst eb
                  rw [List.append_nil] at h
                  exact finD R h (.tup t1 r1)
          · simp only [hz, if_false] at h
            exact False.elim h
        | _ => exact addLS_ok R rx ry h
      | _ => exact addLS_ok R rx ry h
    | obj j => cases x <;> exact addLS_ok R rx ry h
    | fl j => cases x <;> exact addLS_ok R rx ry h
    | ro j => cases x <;> exact addLS_ok R rx ry h
    | pr j k => cases x <;> exact addLS_ok R rx ry h
  | obj i => exact addLS_ok R rx ry h
  | fl i => exact addLS_ok R rx ry h
  | ro i => exact addLS_ok R rx ry h
  | pr i k => exact addLS_ok R rx ry h
/-! list * int -/
noncomputable def repW (x y : W) (m : Mem) : Res W := match asT x m, y with
  | some ds, .d (.int k) => if grd (-(2 ^ 63) ≤ k ∧ k < 2 ^ 63 ∧ ds.length * k.toNat ≤ sizeLine) = true then .ok (.fl (List.replicate k.toNat ds).flatten) m else .bad
  | _, _ => .bad
theorem Reps.rep {K : PySem.W.Frag} {lv : List Addr} {H : Hp} {vs : List V} {ds : List D} (r : Reps K lv H vs ds) : ∀ n : Nat, Reps K lv H (List.replicate n vs).flatten (List.replicate n ds).flatten
  | 0 => .nil
  | n + 1 => by rw [List.replicate_succ, List.replicate_succ, List.flatten_cons, List.flatten_cons]; exact r.append (Reps.rep r n)
theorem repW_ok : OpOk X Wx rRep repW := by
  intro σ G m v u x y H0 H1 Q R rx ry h
  unfold repW at h
  split at h
  · rename_i ds k e
    obtain ⟨p, vs, rfl, h1, r1⟩ := asT_sq R rx e
    cases ry
    by_cases hg : grd (-(2 ^ 63) ≤ k ∧ k < 2 ^ 63 ∧ ds.length * k.toNat ≤ sizeLine) = true
    · rw [if_pos hg] at h
      obtain ⟨g1, g2, g3⟩ := grd_iff.mp hg
      exact ⟨p, k, vs, rfl, rfl, h1, g1, g2, by rw [r1.length]; exact g3, fun l hl => finL R h (r1.rep k.toNat) hl⟩
    · rw [if_neg hg] at h
      exact False.elim h
  · exact False.elim h
end
end M
set_option Elab.async false
set_option linter.all false
set_option maxRecDepth 100000
/-! P: defs as pure functions. PR: ends; PV: what a slot holds, by value; GV: a value or a slot's object -/
namespace M
open PySem L2
variable [HasW]
@[irreducible] def fuelW : Nat := 100000
@[irreducible] def fuelR : Nat := 40
theorem fuelR_eq : fuelR = 40 := by unfold fuelR; rfl
theorem fuelW_eq : fuelW = 100000 := by unfold fuelW; rfl
inductive PR (α : Type) where
  | ok (a : α)
  | err (e : Exn)
  | bad
def PR.bind {α β : Type} (r : PR α) (k : α → PR β) : PR β := match r with
  | .ok a => k a
  | .err e => .err e
  | .bad => .bad
@[simp] theorem PR.bind_ok {α β : Type} (a : α) (k : α → PR β) : (PR.ok a).bind k = k a := rfl
@[simp] theorem PR.bind_err {α β : Type} (e : Exn) (k : α → PR β) : (PR.err e : PR α).bind k = .err e := rfl
@[simp] theorem PR.bind_bad {α β : Type} (k : α → PR β) : (PR.bad : PR α).bind k = .bad := rfl
/-- the numbers' deck -/
structure Dk where
  bs : List D
  ns : List D
  ws : List D
/-- what an own dict holds: data, an own list, an own dict of data -/
inductive TV where
  | d (x : D)
  | l (xs : List D)
  | c (kvs : List (D × D))
inductive PV where
  | x
  | d (v : D)
  | b (xs : List D)
  | l (p : Bool) (xs : List D)
  | k (p : Bool) (q : Dk)
  | m (kvs : List (Str × D))
  | n (kvs : List (Str × D))
  | t (p : Bool) (kvs : List (D × TV))
  | u (kvs : List (D × D))
inductive GV where
  | v (x : D)
  | r (i : Nat)
def dk (a : Nat) (bs ws : List D) : List (Str × W) := [("basics", .d (.list bs)), ("names", .obj a), ("words", .d (.list ws))]
structure DkAt (m : Mem) (a b : Nat) (q : Dk) : Prop where
  ab : a = b + 1
  ca : m[a]? = some (.lst q.ns)
  cb : m[b]? = some (.ins "Draft" (dk a q.bs q.ws))
/-- an object speaks of these alone -/
def okJW (J : List Nat) : W → Bool
  | .obj j => J.contains j
  | .pr _ j => J.contains j
  | .fl _ => false
  | _ => true
def okJ (J : List Nat) : O → Bool
  | .dct kvs => kvs.all fun p => okJW J p.2
  | .lsw ws => ws.all (okJW J)
  | .dcn kvs => kvs.all fun p => okJW J p.2
  | .ins _ fs => fs.all fun p => okJW J p.2
  | _ => true
theorem okJW.le {J : List Nat} {n : Nat} {w : W} (h : okJW J w = true) (hj : ∀ j ∈ J, j < n) : okW n w = true := by
  cases w with
  | obj j => exact decide_eq_true (hj j (by simpa [okJW] using h))
  | pr x j => exact decide_eq_true (hj j (by simpa [okJW] using h))
  | d _ => rfl
  | ro _ => rfl
  | fl _ => cases h
theorem okJ.le {J : List Nat} {n : Nat} {o : O} (h : okJ J o = true) (hj : ∀ j ∈ J, j < n) : okO n o = true := by
  cases o with
  | dct kvs =>
    have h : kvs.all (fun p => okJW J p.2) = true := h
    show kvs.all (fun p => okW n p.2) = true
    rw [List.all_eq_true] at h ⊢
    exact fun p hp => okJW.le (h p hp) hj
  | lsw ws =>
    have h : ws.all (okJW J) = true := h
    show ws.all (okW n) = true
    rw [List.all_eq_true] at h ⊢
    exact fun p hp => okJW.le (h p hp) hj
  | dcn kvs =>
    have h : kvs.all (fun p => okJW J p.2) = true := h
    show kvs.all (fun p => okW n p.2) = true
    rw [List.all_eq_true] at h ⊢
    exact fun p hp => okJW.le (h p hp) hj
  | ins _ kvs =>
    have h : kvs.all (fun p => okJW J p.2) = true := h
    show kvs.all (fun p => okW n p.2) = true
    rw [List.all_eq_true] at h ⊢
    exact fun p hp => okJW.le (h p hp) hj
  | _ => rfl
def kvN (kvs : List (D × D)) : List (D × W) := kvs.map fun p => (p.1, .d p.2)
/-- what a dict holds: the places of its own lists and dicts -/
inductive ChAt (m : Mem) : List (D × W) → List (D × TV) → List Nat → Prop
  | nil : ChAt m [] [] []
  | d {k x : D} {kws : List (D × W)} {kvs : List (D × TV)} {ks : List Nat} : ChAt m kws kvs ks → ChAt m ((k, .d x) :: kws) ((k, .d x) :: kvs) ks
  | l {k : D} {i : Nat} {xs : List D} {kws : List (D × W)} {kvs : List (D × TV)} {ks : List Nat} : m[i]? = some (.lst xs) → i ∉ ks → ChAt m kws kvs ks → ChAt m ((k, .obj i) :: kws) ((k, .l xs) :: kvs) (i :: ks)
  | c {k : D} {i : Nat} {ys : List (D × D)} {kws : List (D × W)} {kvs : List (D × TV)} {ks : List Nat} : m[i]? = some (.dcn (kvN ys)) → i ∉ ks → ChAt m kws kvs ks → ChAt m ((k, .obj i) :: kws) ((k, .c ys) :: kvs) (i :: ks)
def TrAt (m : Mem) (j : Nat) (kvs : List (D × TV)) (ks : List Nat) : Prop := j ∉ ks ∧ ∃ kws, m[j]? = some (.dcn kws) ∧ ChAt m kws kvs ks
theorem ChAt.mem {m m' : Mem} {kws : List (D × W)} {kvs : List (D × TV)} {ks : List Nat} (h : ChAt m kws kvs ks) (hm : ∀ j ∈ ks, m'[j]? = m[j]?) : ChAt m' kws kvs ks := by
  induction h with
  | nil => exact .nil
  | d t ih => exact .d (ih hm)
  | l e n t ih => exact .l (by rw [hm _ List.mem_cons_self]; exact e) n (ih fun j hj => hm j (List.mem_cons_of_mem _ hj))
  | c e n t ih => exact .c (by rw [hm _ List.mem_cons_self]; exact e) n (ih fun j hj => hm j (List.mem_cons_of_mem _ hj))
theorem TrAt.mem {m m' : Mem} {j : Nat} {kvs : List (D × TV)} {ks : List Nat} (h : TrAt m j kvs ks) (hm : ∀ i ∈ j :: ks, m'[i]? = m[i]?) : TrAt m' j kvs ks := by
  obtain ⟨h1, kws, h2, h3⟩ := h
  exact ⟨h1, kws, by rw [hm j List.mem_cons_self]; exact h2, h3.mem fun i hi => hm i (List.mem_cons_of_mem _ hi)⟩
theorem ChAt.lt {m : Mem} {kws : List (D × W)} {kvs : List (D × TV)} {ks : List Nat} (h : ChAt m kws kvs ks) : ∀ j ∈ ks, j < m.length := by
  induction h with
  | nil => intro j hj; cases hj
  | d t ih => exact ih
  | l e n t ih =>
    intro j hj
    rcases List.mem_cons.mp hj with rfl | hj
    · exact (List.getElem?_eq_some_iff.mp e).1
    · exact ih j hj
  | c e n t ih =>
    intro j hj
    rcases List.mem_cons.mp hj with rfl | hj
    · exact (List.getElem?_eq_some_iff.mp e).1
    · exact ih j hj
theorem TrAt.lt {m : Mem} {j : Nat} {kvs : List (D × TV)} {ks : List Nat} (h : TrAt m j kvs ks) : ∀ i ∈ j :: ks, i < m.length := by
  obtain ⟨_, kws, h2, h3⟩ := h
  intro i hi
  rcases List.mem_cons.mp hi with rfl | hi
  · exact (List.getElem?_eq_some_iff.mp h2).1
  · exact h3.lt i hi
theorem ChAt.refs {m : Mem} {kws : List (D × W)} {kvs : List (D × TV)} {ks J : List Nat} (h : ChAt m kws kvs ks) (hJ : ∀ j ∈ ks, j ∈ J) : okJ J (.dcn kws) = true := by
  show kws.all (fun p => okJW J p.2) = true
  induction h with
  | nil => rfl
  | d t ih => rw [List.all_cons, ih hJ]; rfl
  | l e n t ih =>
    rw [List.all_cons, ih fun j hj => hJ j (List.mem_cons_of_mem _ hj)]
    have := hJ _ List.mem_cons_self
    simp [okJW, this]
  | c e n t ih =>
    rw [List.all_cons, ih fun j hj => hJ j (List.mem_cons_of_mem _ hj)]
    have := hJ _ List.mem_cons_self
    simp [okJW, this]
theorem okJ_kvN (J : List Nat) (kvs : List (D × D)) : okJ J (.dcn (kvN kvs)) = true := by
  simp [okJ, kvN, okJW]
theorem ChAt.okJ {m : Mem} {kws : List (D × W)} {kvs : List (D × TV)} {ks : List Nat} (h : ChAt m kws kvs ks) (J : List Nat) : ∀ j ∈ ks, ∀ o : O, m[j]? = some o → okJ J o = true := by
  induction h with
  | nil => intro j hj; cases hj
  | d t ih => exact ih
  | l e n t ih =>
    intro j hj o eo
    rcases List.mem_cons.mp hj with rfl | hj
    · rw [e] at eo; cases eo; rfl
    · exact ih j hj o eo
  | c e n t ih =>
    intro j hj o eo
    rcases List.mem_cons.mp hj with rfl | hj
    · rw [e] at eo; cases eo; exact okJ_kvN _ _
    · exact ih j hj o eo
theorem TrAt.okJ {m : Mem} {j : Nat} {kvs : List (D × TV)} {ks J : List Nat} (h : TrAt m j kvs ks) (hJ : ∀ i ∈ ks, i ∈ J) : ∀ i ∈ j :: ks, ∀ o : O, m[i]? = some o → okJ J o = true := by
  obtain ⟨_, kws, h2, h3⟩ := h
  intro i hi o eo
  rcases List.mem_cons.mp hi with rfl | hi
  · rw [h2] at eo; cases eo; exact h3.refs hJ
  · exact h3.okJ J i hi o eo
structure Fr where
  m0 : Mem
  pin : Nat → List Nat
/-- a dict of data in the memory -/
def kvW (kvs : List (Str × D)) : List (Str × W) := kvs.map fun p => (p.1, .d p.2)
/-- the key of an instance's class in its row of data: an instance of data is (insK, its class) and its fields -/
def insK : Str := Str.ofString "%ins"
/-- a dict, or an instance, of data -/
def mkO (kvs : List (Str × D)) : O := match kvs with
  | (k, .str c) :: r => if k = insK then .ins c (kvW r) else .dct (kvW ((k, .str c) :: r))
  | kvs => .dct (kvW kvs)
/-- a list that is only read: data, the script, an object of an outer def -/
def BW (fr : Fr) (w : W) (xs : List D) : Prop := w = .d (.list xs) ∨ w = .ro xs ∨ ∃ j, w = .obj j ∧ fr.m0[j]? = some (.lst xs) ∧ ∀ i, j ∉ fr.pin i
def SlotOk (fr : Fr) (m : Mem) (i : Nat) (js : List Nat) (e : Option (Option W)) : Option PV → Prop
  | none => js = []
  | some .x => js = []
  | some (.d v) => js = [] ∧ e = some (some (.d v))
  | some (.b xs) => js = [] ∧ ∃ w, e = some (some w) ∧ BW fr w xs
  | some (.l p xs) => ∃ j, js = [j] ∧ e = some (some (.obj j)) ∧ m[j]? = some (.lst xs) ∧ ((p = true ∧ fr.pin i = [j]) ∨ (p = false ∧ fr.m0.length ≤ j))
  | some (.k p q) => ∃ b a, js = [b, a] ∧ e = some (some (.obj b)) ∧ DkAt m a b q ∧ ((p = true ∧ fr.pin i = [b, a]) ∨ (p = false ∧ fr.m0.length ≤ b))
  | some (.m kvs) => ∃ j, js = [j, j] ∧ e = some (some (.obj j)) ∧ m[j]? = some (mkO kvs) ∧ fr.m0.length ≤ j
  | some (.n kvs) => js = [] ∧ ∃ j, e = some (some (.obj j)) ∧ fr.m0[j]? = some (mkO kvs) ∧ ∀ i, j ∉ fr.pin i
  | some (.t p kvs) => ∃ j ks, js = j :: j :: j :: ks ∧ e = some (some (.obj j)) ∧ TrAt m j kvs ks ∧ ((p = true ∧ fr.pin i = js) ∨ (p = false ∧ ∀ k ∈ js, fr.m0.length ≤ k))
  | some (.u kvs) => js = [] ∧ ∃ j, e = some (some (.obj j)) ∧ fr.m0[j]? = some (.dcn (kvN kvs)) ∧ ∀ i, j ∉ fr.pin i
structure Rel (fr : Fr) (ρ : List PV) (env : Env) (m : Mem) : Prop where
  pok : ∀ i j, j ∈ fr.pin i → j < fr.m0.length
  len : fr.m0.length ≤ m.length
  fix : ∀ j, j < fr.m0.length → (∀ i, j ∉ fr.pin i) → m[j]? = fr.m0[j]?
  c0 : ∀ (j : Nat) (o : O), fr.m0[j]? = some o → okO fr.m0.length o = true
  cp : ∀ (i j : Nat), j ∈ fr.pin i → ∀ o : O, m[j]? = some o → ∃ i', j ∈ fr.pin i' ∧ okJ (fr.pin i') o = true
  cn : ∀ (j : Nat) (o : O), fr.m0.length ≤ j → m[j]? = some o → okO m.length o = true
  el : env.length = ρ.length
  ex : ∃ J : Nat → List Nat, (∀ i i' j, j ∈ J i → j ∈ J i' → i = i') ∧ ∀ i, SlotOk fr m i (J i) env[i]? ρ[i]?
section
variable {fr : Fr} {ρ ρ' : List PV} {env env' : Env} {m m' : Mem}
theorem Rel.cpA (R : Rel fr ρ env m) (l : List O) : ∀ (i j : Nat), j ∈ fr.pin i → ∀ o : O, (m ++ l)[j]? = some o → ∃ i', j ∈ fr.pin i' ∧ okJ (fr.pin i') o = true := fun i j hj o e => by
  have := R.pok i j hj
  have := R.len
  rw [List.getElem?_append_left (by omega)] at e
  exact R.cp i j hj o e
theorem Rel.cnA (R : Rel fr ρ env m) {l : List O} (hl : ∀ o ∈ l, okO (m ++ l).length o = true) : ∀ (j : Nat) (o : O), fr.m0.length ≤ j → (m ++ l)[j]? = some o → okO (m ++ l).length o = true := fun j o hj e => by
  by_cases h : j < m.length
  · rw [List.getElem?_append_left h] at e
    exact okO.le (R.cn j o hj e) (by simp)
  · rw [List.getElem?_append_right (by omega)] at e
    exact hl o (List.mem_of_getElem? e)
theorem Rel.cpS (R : Rel fr ρ env m) (k : Nat) (ys : List D) : ∀ (i j : Nat), j ∈ fr.pin i → ∀ o : O, (m.set k (.lst ys))[j]? = some o → ∃ i', j ∈ fr.pin i' ∧ okJ (fr.pin i') o = true := fun i j hj o e => by
  by_cases h : k = j
  · subst h
    have hl := (List.getElem?_eq_some_iff.mp e).1
    rw [List.length_set] at hl
    rw [List.getElem?_set_self hl] at e
    cases e
    exact ⟨i, hj, rfl⟩
  · rw [List.getElem?_set_ne h] at e
    exact R.cp i j hj o e
theorem Rel.cnS (R : Rel fr ρ env m) (k : Nat) (ys : List D) : ∀ (j : Nat) (o : O), fr.m0.length ≤ j → (m.set k (.lst ys))[j]? = some o → okO (m.set k (.lst ys)).length o = true := fun j o hj e => by
  rw [List.length_set]
  by_cases h : k = j
  · subst h
    have hl := (List.getElem?_eq_some_iff.mp e).1
    rw [List.length_set] at hl
    rw [List.getElem?_set_self hl] at e
    cases e
    rfl
  · rw [List.getElem?_set_ne h] at e
    exact R.cn j o hj e
/-- what was there tells of nothing that is not -/
theorem Rel.cl (R : Rel fr ρ env m) : clM fr.m0.length m = true := by
  unfold clM
  rw [List.all_eq_true]
  intro o ho
  obtain ⟨j, e⟩ := List.getElem?_of_mem ho
  have hl := (List.getElem?_eq_some_iff.mp e).1
  rw [List.length_take] at hl
  rw [List.getElem?_take_of_lt (by omega)] at e
  by_cases hp : ∃ i, j ∈ fr.pin i
  · obtain ⟨i, hi⟩ := hp
    obtain ⟨i', _, h⟩ := R.cp i j hi o e
    exact okJ.le h fun j hj => R.pok i' j hj
  · exact R.c0 j o (by rw [← R.fix j (by omega) fun i hi => hp ⟨i, hi⟩]; exact e)
theorem Rel.cm (R : Rel fr ρ env m) : ∀ (j : Nat) (o : O), m[j]? = some o → okO m.length o = true := fun j o e => by
  have hl := R.len
  by_cases h : j < fr.m0.length
  · by_cases hp : ∃ i, j ∈ fr.pin i
    · obtain ⟨i, hi⟩ := hp
      obtain ⟨i', _, h⟩ := R.cp i j hi o e
      exact okJ.le h fun j hj => Nat.lt_of_lt_of_le (R.pok i' j hj) hl
    · exact okO.le (R.c0 j o (by rw [← R.fix j h fun i hi => hp ⟨i, hi⟩]; exact e)) hl
  · exact R.cn j o (by omega) e
theorem SlotOk.lt {i : Nat} {js : List Nat} {e : Option (Option W)} {v : Option PV} (h : SlotOk fr m i js e v) : ∀ j ∈ js, j < m.length := by
  intro j hj
  match v, h with
  | none, h => rw [show js = [] from h] at hj; cases hj
  | some .x, h => rw [show js = [] from h] at hj; cases hj
  | some (.d v), h => rw [h.1] at hj; cases hj
  | some (.b v), h => rw [h.1] at hj; cases hj
  | some (.l p xs), ⟨k, e1, e2, e3, _⟩ =>
    rw [e1] at hj
    rw [List.mem_singleton.mp hj]
    exact (List.getElem?_eq_some_iff.mp e3).1
  | some (.k p q), ⟨b, a, e1, e2, e3, _⟩ =>
    have hb := (List.getElem?_eq_some_iff.mp e3.cb).1
    have ha := (List.getElem?_eq_some_iff.mp e3.ca).1
    rw [e1] at hj
    rcases List.mem_cons.mp hj with rfl | hj
    · exact hb
    · rw [List.mem_singleton.mp hj]; exact ha
  | some (.m kvs), ⟨k, e1, e2, e3, _⟩ =>
    rw [e1] at hj
    have : j = k := by simpa using hj
    rw [this]
    exact (List.getElem?_eq_some_iff.mp e3).1
  | some (.n v), h => rw [h.1] at hj; cases hj
  | some (.u v), h => rw [h.1] at hj; cases hj
  | some (.t p kvs), ⟨k, ks, e1, e2, e3, _⟩ =>
    rw [e1] at hj
    exact e3.lt j (by simpa using hj)
/-- a slot's thing stands while its places stand -/
theorem SlotOk.mem {i : Nat} {js : List Nat} {e : Option (Option W)} {v : Option PV} (h : SlotOk fr m i js e v) (hm : ∀ j ∈ js, m'[j]? = m[j]?) : SlotOk fr m' i js e v := by
  match v, h with
  | none, h => exact h
  | some .x, h => exact h
  | some (.d v), h => exact h
  | some (.b v), h => exact h
  | some (.l p xs), ⟨k, e1, e2, e3, e4⟩ => exact ⟨k, e1, e2, by rw [hm k (by rw [e1]; exact List.mem_singleton.mpr rfl)]; exact e3, e4⟩
  | some (.k p q), ⟨b, a, e1, e2, e3, e4⟩ =>
    exact ⟨b, a, e1, e2, ⟨e3.ab, by rw [hm a (by rw [e1]; simp)]; exact e3.ca, by rw [hm b (by rw [e1]; simp)]; exact e3.cb⟩, e4⟩
  | some (.m kvs), ⟨k, e1, e2, e3, e4⟩ => exact ⟨k, e1, e2, by rw [hm k (by rw [e1]; simp)]; exact e3, e4⟩
  | some (.n v), h => exact h
  | some (.u v), h => exact h
  | some (.t p kvs), ⟨k, ks, e1, e2, e3, e4⟩ => exact ⟨k, ks, e1, e2, e3.mem fun i hi => hm i (by rw [e1]; simpa using hi), e4⟩
/-- where a slot's places lie: pinned, or behind the frame -/
theorem SlotOk.own {i : Nat} {js : List Nat} {e : Option (Option W)} {v : Option PV} (h : SlotOk fr m i js e v) : ∀ j ∈ js, j ∈ fr.pin i ∨ fr.m0.length ≤ j := by
  intro j hj
  match v, h with
  | none, h => rw [show js = [] from h] at hj; cases hj
  | some .x, h => rw [show js = [] from h] at hj; cases hj
  | some (.d v), h => rw [h.1] at hj; cases hj
  | some (.b v), h => rw [h.1] at hj; cases hj
  | some (.l p xs), ⟨k, e1, e2, e3, e4⟩ =>
    rw [e1] at hj
    have := List.mem_singleton.mp hj
    subst this
    rcases e4 with ⟨_, e4⟩ | ⟨_, e4⟩
    · exact .inl (by rw [e4]; exact List.mem_singleton.mpr rfl)
    · exact .inr e4
  | some (.k p q), ⟨b, a, e1, e2, e3, e4⟩ =>
    have := e3.ab
    rcases e4 with ⟨_, e4⟩ | ⟨_, e4⟩
    · exact .inl (by rw [e4, ← e1]; exact hj)
    · rw [e1] at hj
      rcases List.mem_cons.mp hj with rfl | hj
      · exact .inr e4
      · rw [List.mem_singleton.mp hj]; exact .inr (by omega)
  | some (.m kvs), ⟨k, e1, e2, e3, e4⟩ =>
    rw [e1] at hj
    have : j = k := by simpa using hj
    rw [this]
    exact .inr e4
  | some (.n v), h => rw [h.1] at hj; cases hj
  | some (.u v), h => rw [h.1] at hj; cases hj
  | some (.t p kvs), ⟨k, ks, e1, e2, e3, e4⟩ =>
    rcases e4 with ⟨_, e4⟩ | ⟨_, e4⟩
    · exact .inl (by rw [e4]; exact hj)
    · exact .inr (e4 j hj)
theorem SlotOk.nil (h : SlotOk fr m i js e none) : js = [] := h
/-- fewer things known; slots that nothing is known of may change -/
theorem Rel.sub (R : Rel fr ρ env m) (hl : ρ'.length = ρ.length) (he : env'.length = env.length) (h : ∀ (i : Nat) (v : PV), ρ'[i]? = some v → v = PV.x ∨ (ρ[i]? = some v ∧ env'[i]? = env[i]?)) : Rel fr ρ' env' m := by
  obtain ⟨J, hd, hs⟩ := R.ex
  refine ⟨R.pok, R.len, R.fix, R.c0, R.cp, R.cn, by rw [he, hl]; exact R.el, fun i => (match ρ'[i]? with | some .x => [] | _ => J i), fun i i' j h1 h2 => ?_, fun i => ?_⟩
  · refine hd i i' j ?_ ?_
    · dsimp only at h1
      split at h1
      · cases h1
      · exact h1
    · dsimp only at h2
      split at h2
      · cases h2
      · exact h2
  · dsimp only
    cases q : ρ'[i]? with
    | none =>
      have : ρ[i]? = none := by
        rw [List.getElem?_eq_none_iff] at q ⊢
        omega
      have z := hs i
      rw [this] at z
      exact z
    | some v =>
      rcases h i v q with rfl | ⟨h1, h2⟩
      · exact (rfl : ([] : List Nat) = [])
      · have z := hs i
        rw [h1, ← h2] at z
        cases v with
        | x => exact (rfl : ([] : List Nat) = [])
        | _ => exact z
/-- data in a slot -/
theorem Rel.setD (R : Rel fr ρ env m) (i : Nat) (x : D) : Rel fr (ρ.set i (.d x)) (env.set i (some (.d x))) m := by
  obtain ⟨J, hd, hs⟩ := R.ex
  refine ⟨R.pok, R.len, R.fix, R.c0, R.cp, R.cn, by simpa using R.el, fun k => if k = i then [] else J k, fun k k' j h1 h2 => ?_, fun k => ?_⟩
  · dsimp only at h1 h2
    by_cases hk : k = i
    · rw [if_pos hk] at h1; cases h1
    · by_cases hk' : k' = i
      · rw [if_pos hk'] at h2; cases h2
      · rw [if_neg hk] at h1; rw [if_neg hk'] at h2; exact hd k k' j h1 h2
  · dsimp only
    by_cases hk : k = i
    · subst hk
      rw [if_pos rfl]
      by_cases hl : k < ρ.length
      · rw [List.getElem?_set_self hl, List.getElem?_set_self (by rw [R.el]; exact hl)]
        exact ⟨rfl, rfl⟩
      · have e : (ρ.set k (.d x))[k]? = none := List.getElem?_eq_none (by simpa using hl)
        rw [e]
        exact (rfl : ([] : List Nat) = [])
    · rw [if_neg hk, List.getElem?_set_ne (Ne.symm hk), List.getElem?_set_ne (Ne.symm hk)]
      exact hs k
/-- a new list in a slot -/
theorem Rel.setL (R : Rel fr ρ env m) (i : Nat) (xs : List D) : Rel fr (ρ.set i (.l false xs)) (env.set i (some (.obj m.length))) (m ++ [.lst xs]) := by
  obtain ⟨J, hd, hs⟩ := R.ex
  have lt : ∀ k, ∀ j ∈ J k, j < m.length := fun k => (hs k).lt
  refine ⟨R.pok, by rw [List.length_append]; have := R.len; omega, fun j h1 h2 => by rw [List.getElem?_append_left (by have := R.len; omega)]; exact R.fix j h1 h2, R.c0, R.cpA _, R.cnA (fun o ho => by rw [List.mem_singleton.mp ho]; rfl), by simpa using R.el, fun k => if k = i then (if i < ρ.length then [m.length] else []) else J k, fun k k' j h1 h2 => ?_, fun k => ?_⟩
  · dsimp only at h1 h2
    by_cases hk : k = i
    · by_cases hk' : k' = i
      · rw [hk, hk']
      · rw [if_pos hk] at h1; rw [if_neg hk'] at h2
        have := lt k' j h2
        split at h1
        · rw [List.mem_singleton.mp h1] at this; omega
        · cases h1
    · by_cases hk' : k' = i
      · rw [if_neg hk] at h1; rw [if_pos hk'] at h2
        have := lt k j h1
        split at h2
        · rw [List.mem_singleton.mp h2] at this; omega
        · cases h2
      · rw [if_neg hk] at h1; rw [if_neg hk'] at h2; exact hd k k' j h1 h2
  · dsimp only
    by_cases hk : k = i
    · subst hk
      rw [if_pos rfl]
      by_cases hl : k < ρ.length
      · rw [List.getElem?_set_self hl, List.getElem?_set_self (by rw [R.el]; exact hl), if_pos hl]
        exact ⟨_, rfl, rfl, by simp, .inr ⟨rfl, R.len⟩⟩
      · have e : (ρ.set k (.l false xs))[k]? = none := List.getElem?_eq_none (by simpa using hl)
        rw [if_neg hl, e]
        exact (rfl : ([] : List Nat) = [])
    · rw [if_neg hk, List.getElem?_set_ne (Ne.symm hk), List.getElem?_set_ne (Ne.symm hk)]
      exact (hs k).mem fun j hj => List.getElem?_append_left (lt k j hj)
/-- a slot's list changes -/
theorem Rel.mutL (R : Rel fr ρ env m) {i : Nat} {p : Bool} {xs : List D} (h : ρ[i]? = some (.l p xs)) (ys : List D) : ∃ j, env[i]? = some (some (.obj j)) ∧ m[j]? = some (.lst xs) ∧ Rel fr (ρ.set i (.l p ys)) env (m.set j (.lst ys)) := by
  obtain ⟨J, hd, hs⟩ := R.ex
  have hi := hs i
  rw [h] at hi
  obtain ⟨j, e1, e2, e3, e4⟩ := hi
  have hj : j < m.length := (List.getElem?_eq_some_iff.mp e3).1
  refine ⟨j, e2, e3, R.pok, by rw [List.length_set]; exact R.len, fun k h1 h2 => ?_, R.c0, R.cpS _ _, R.cnS _ _, by rw [List.length_set]; exact R.el, J, hd, fun k => ?_⟩
  · rw [List.getElem?_set_ne]
    · exact R.fix k h1 h2
    · rintro rfl
      rcases e4 with ⟨_, e4⟩ | ⟨_, e4⟩
      · exact h2 i (by rw [e4]; simp)
      · omega
  · by_cases hk : k = i
    · subst hk
      have hl : k < ρ.length := (List.getElem?_eq_some_iff.mp h).1
      rw [List.getElem?_set_self hl]
      exact ⟨j, e1, e2, List.getElem?_set_self hj, e4⟩
    · rw [List.getElem?_set_ne (Ne.symm hk)]
      refine (hs k).mem fun j' hj' => List.getElem?_set_ne ?_
      rintro rfl
      exact hk (hd k i j hj' (by rw [e1]; simp))
theorem Rel.getL (R : Rel fr ρ env m) {i : Nat} {p : Bool} {xs : List D} (h : ρ[i]? = some (.l p xs)) : ∃ j, env[i]? = some (some (.obj j)) ∧ m[j]? = some (.lst xs) := by
  obtain ⟨J, hd, hs⟩ := R.ex
  have hi := hs i
  rw [h] at hi
  obtain ⟨j, e1, e2, e3, e4⟩ := hi
  exact ⟨j, e2, e3⟩
theorem Rel.getD (R : Rel fr ρ env m) {i : Nat} {x : D} (h : ρ[i]? = some (.d x)) : env[i]? = some (some (.d x)) := by
  obtain ⟨J, hd, hs⟩ := R.ex
  have hi := hs i
  rw [h] at hi
  exact hi.2
theorem Rel.getB (R : Rel fr ρ env m) {i : Nat} {xs : List D} (h : ρ[i]? = some (.b xs)) : ∃ w, env[i]? = some (some w) ∧ BW fr w xs := by
  obtain ⟨J, hd, hs⟩ := R.ex
  have hi := hs i
  rw [h] at hi
  exact hi.2
end
/-! ### masks -/
def wip : List Bool → List PV → List PV
  | true :: bs, _ :: r => .x :: wip bs r
  | false :: bs, v :: r => v :: wip bs r
  | [], r => r
  | _ :: _, [] => []
def isM (ms : List Bool) (i : Nat) : Bool := ms[i]?.getD false
theorem wip_length : ∀ (ms : List Bool) (ρ : List PV), (wip ms ρ).length = ρ.length
  | true :: bs, _ :: r => by simp [wip, wip_length bs r]
  | false :: bs, v :: r => by simp [wip, wip_length bs r]
  | [], r => by cases r <;> rfl
  | _ :: _, [] => by simp [wip]
theorem wip_get : ∀ (ms : List Bool) (ρ : List PV) (i : Nat), (wip ms ρ)[i]? = if isM ms i = true then ρ[i]?.map (fun _ => PV.x) else ρ[i]?
  | true :: bs, v :: r, 0 => by simp [wip, isM]
  | false :: bs, v :: r, 0 => by simp [wip, isM]
  | true :: bs, v :: r, i + 1 => by
    have := wip_get bs r i
    show (wip bs r)[i]? = _
    rw [this]
    rfl
  | false :: bs, v :: r, i + 1 => by
    have := wip_get bs r i
    show (wip bs r)[i]? = _
    rw [this]
    rfl
  | [], r, i => by cases r <;> simp [wip, isM]
  | b :: bs, [], i => by cases b <;> simp [wip]
structure Ag (ms : List Bool) (ρ ρ' : List PV) : Prop where
  len : ρ'.length = ρ.length
  get : ∀ i, isM ms i = false → ρ'[i]? = ρ[i]?
theorem Ag.refl (ms : List Bool) (ρ : List PV) : Ag ms ρ ρ := ⟨rfl, fun _ _ => rfl⟩
theorem Ag.trans {ms : List Bool} {ρ ρ1 ρ2 : List PV} (a : Ag ms ρ ρ1) (b : Ag ms ρ1 ρ2) : Ag ms ρ ρ2 := ⟨b.len.trans a.len, fun i h => (b.get i h).trans (a.get i h)⟩
theorem Ag.set {ms : List Bool} {ρ : List PV} {i : Nat} {v : PV} (h : isM ms i = true) : Ag ms ρ (ρ.set i v) := ⟨by simp, fun k hk => List.getElem?_set_ne (by rintro rfl; rw [h] at hk; cases hk)⟩
theorem Ag.wip {ms : List Bool} {ρ ρ' : List PV} (a : Ag ms ρ ρ') : wip ms ρ' = wip ms ρ := by
  apply List.ext_getElem?
  intro i
  rw [wip_get, wip_get]
  by_cases h : isM ms i = true
  · rw [if_pos h, if_pos h]
    by_cases hi : i < ρ.length
    · rw [List.getElem?_eq_getElem hi, List.getElem?_eq_getElem (by rw [a.len]; exact hi)]; rfl
    · have hl := a.len
      rw [List.getElem?_eq_none (show ρ.length ≤ i by omega), List.getElem?_eq_none (show ρ'.length ≤ i by omega)]
  · rw [if_neg h, if_neg h]
    exact a.get i (by simpa using h)
structure AgE (ms : List Bool) (env env' : Env) : Prop where
  len : env'.length = env.length
  get : ∀ i, isM ms i = false → env'[i]? = env[i]?
theorem AgE.refl (ms : List Bool) (ρ : Env) : AgE ms ρ ρ := ⟨rfl, fun _ _ => rfl⟩
theorem AgE.trans {ms : List Bool} {ρ ρ1 ρ2 : Env} (a : AgE ms ρ ρ1) (b : AgE ms ρ1 ρ2) : AgE ms ρ ρ2 := ⟨b.len.trans a.len, fun i h => (b.get i h).trans (a.get i h)⟩
theorem AgE.set {ms : List Bool} {ρ : Env} {i : Nat} {v : Option W} (h : isM ms i = true) : AgE ms ρ (ρ.set i v) := ⟨by simp, fun k hk => List.getElem?_set_ne (by rintro rfl; rw [h] at hk; cases hk)⟩
/-- what is known outside the mask -/
theorem Rel.wip {fr : Fr} {ρ : List PV} {env env' : Env} {m : Mem} {ms : List Bool} (R : Rel fr ρ env m) (a : AgE ms env env') : Rel fr (wip ms ρ) env' m := by
  refine R.sub (wip_length _ _) a.len fun i v h => ?_
  rw [wip_get] at h
  by_cases q : isM ms i = true
  · rw [if_pos q] at h
    cases z : ρ[i]? with
    | none => rw [z] at h; cases h
    | some u => rw [z] at h; cases h; exact .inl rfl
  · rw [if_neg q] at h
    exact .inr ⟨h, a.get i (by simpa using q)⟩
theorem wip_wip (ms : List Bool) (ρ : List PV) : Ag ms ρ (wip ms ρ) := ⟨wip_length _ _, fun i h => by rw [wip_get, if_neg (by rw [h]; simp)]⟩
/-! ### values -/
def VW (fr : Fr) (s : Nat) (w : W) (x : D) : Prop := match s with
  | 0 => w = .d x
  | 1 => match x with
    | .list ds => w = .fl ds
    | x => w = .d x
  | 2 => w = .d x ∨ ∃ ds, x = .list ds ∧ w = .fl ds
  | 4 => w = .d x ∨ ∃ ds, x = .list ds ∧ BW fr w ds
  | 7 => w = .d x ∨ ∃ ds, x = .list ds ∧ w = .fl ds
  | 8 => match x with
    | .list ds => w = .fl ds
    | x => w = .d x
  | _ => w = .d x ∨ ∃ ds, x = .list ds ∧ (w = .fl ds ∨ BW fr w ds)
def isO (s : Nat) : Bool := match s with
  | 3 => true
  | 4 => true
  | 7 => true
  | 8 => true
  | _ => false
def RVal (fr : Fr) (s : Nat) (env : Env) (w : W) : GV → Prop
  | .v x => VW fr s w x
  | .r i => isO s = true ∧ env[i]? = some (some w)
def up (s s' : Nat) : Bool := match s, s' with
  | 0, 2 => true
  | 0, 4 => true
  | 1, 2 => true
  | _, 3 => true
  | 0, 0 => true
  | 1, 1 => true
  | 2, 2 => true
  | 4, 4 => true
  | 0, 7 => true
  | 1, 7 => true
  | 2, 7 => true
  | 7, 7 => true
  | 1, 8 => true
  | 8, 8 => true
  | 8, 7 => true
  | _, _ => false
theorem VW.dfl {fr : Fr} {w : W} {x : D} (h : VW fr 1 w x) : VW fr 2 w x := by
  cases x with
  | list ds => exact .inr ⟨ds, rfl, h⟩
  | _ => exact .inl h
theorem VW.dfl8 {fr : Fr} {w : W} {x : D} (h : VW fr 8 w x) : VW fr 2 w x := by
  cases x with
  | list ds => exact .inr ⟨ds, rfl, h⟩
  | _ => exact .inl h
theorem VW.any {fr : Fr} {s : Nat} {w : W} {x : D} (h : VW fr s w x) : VW fr 3 w x := by
  match s, h with
  | 0, h => exact .inl h
  | 1, h =>
    rcases VW.dfl h with h | ⟨ds, e, h⟩
    · exact .inl h
    · exact .inr ⟨ds, e, .inl h⟩
  | 2, .inl h => exact .inl h
  | 2, .inr ⟨ds, e, h⟩ => exact .inr ⟨ds, e, .inl h⟩
  | 3, h => exact h
  | 4, .inl h => exact .inl h
  | 4, .inr ⟨ds, e, h⟩ => exact .inr ⟨ds, e, .inr h⟩
  | 5, h => exact h
  | 6, h => exact h
  | 7, .inl h => exact .inl h
  | 7, .inr ⟨ds, e, h⟩ => exact .inr ⟨ds, e, .inl h⟩
  | 8, h =>
    rcases VW.dfl8 h with h | ⟨ds, e, h⟩
    · exact .inl h
    · exact .inr ⟨ds, e, .inl h⟩
  | n + 9, h => exact h
theorem RVal.up {fr : Fr} {s s' : Nat} {env : Env} {w : W} {v : GV} (h : RVal fr s env w v) (u : M.up s s' = true) : RVal fr s' env w v := by
  unfold M.up at u
  split at u <;> first | cases u | skip
  · cases v with
    | v x => exact .inl h
    | r i => exact absurd h.1 (by decide)
  · cases v with
    | v x => exact .inl h
    | r i => exact absurd h.1 (by decide)
  · cases v with
    | v x => exact VW.dfl (fr := fr) h
    | r i => exact absurd h.1 (by decide)
  · cases v with
    | v x => exact VW.any h
    | r i => exact ⟨rfl, h.2⟩
  all_goals first
    | exact h
    | (cases v with
      | v x => first | exact .inl h | exact VW.dfl (fr := fr) h | exact VW.dfl8 (fr := fr) h | exact h
      | r i => first | exact absurd h.1 (by decide) | exact ⟨rfl, h.2⟩)
def gres (ρ : List PV) : GV → Option D
  | .v x => some x
  | .r i => match ρ[i]? with
    | some (.l _ xs) => some (.list xs)
    | _ => none
def See (m : Mem) (w : W) (x : D) : Prop := w = .d x ∨ ∃ ds, x = .list ds ∧ (w = .fl ds ∨ w = .ro ds ∨ ∃ j, w = .obj j ∧ m[j]? = some (.lst ds))
/-- an owned list, data, or a fresh one -/
def SeeN (m : Mem) (w : W) (x : D) : Prop := w = .d x ∨ ∃ ds, x = .list ds ∧ (w = .fl ds ∨ ∃ j, w = .obj j ∧ m[j]? = some (.lst ds))
theorem BW.see {fr : Fr} {ρ : List PV} {env : Env} {m : Mem} (R : Rel fr ρ env m) {w : W} {xs : List D} (h : BW fr w xs) : See m w (.list xs) := by
  rcases h with h | h | ⟨j, e, h1, h2⟩
  · exact .inl h
  · exact .inr ⟨xs, rfl, .inr (.inl h)⟩
  · exact .inr ⟨xs, rfl, .inr (.inr ⟨j, e, by rw [R.fix j (List.getElem?_eq_some_iff.mp h1).1 h2]; exact h1⟩)⟩
theorem Rel.see {fr : Fr} {ρ : List PV} {env : Env} {m : Mem} {s : Nat} {w : W} {v : GV} {x : D} (R : Rel fr ρ env m) (h : RVal fr s env w v) (e : gres ρ v = some x) : See m w x := by
  cases v with
  | v y =>
    cases e
    have h : VW fr s w x := h
    rcases VW.any h with z | ⟨ds, e, z | z⟩
    · exact .inl z
    · exact .inr ⟨ds, e, .inl z⟩
    · subst e; exact BW.see R z
  | r i =>
    have h2 := h.2
    simp only [gres] at e
    split at e
    · rename_i q
      cases e
      obtain ⟨j, e1, e2⟩ := R.getL q
      rw [e1] at h2
      cases h2
      exact .inr ⟨_, rfl, .inr (.inr ⟨j, rfl, e2⟩)⟩
    · cases e
theorem Rel.seeN {fr : Fr} {ρ : List PV} {env : Env} {m : Mem} {w : W} {v : GV} {x : D} (R : Rel fr ρ env m) (h : RVal fr 7 env w v) (e : gres ρ v = some x) : SeeN m w x := by
  cases v with
  | v y =>
    cases e
    rcases h with h | ⟨ds, e, h⟩
    · exact .inl h
    · exact .inr ⟨ds, e, .inl h⟩
  | r i =>
    have h2 := h.2
    simp only [gres] at e
    split at e
    · rename_i q
      cases e
      obtain ⟨j, e1, e2⟩ := R.getL q
      rw [e1] at h2
      cases h2
      exact .inr ⟨_, rfl, .inr ⟨j, rfl, e2⟩⟩
    · cases e
end M
set_option Elab.async false
set_option linter.all false
set_option maxRecDepth 100000
/-! P: operations -/
namespace M
open PySem L2
variable [HasW]
def Out (s : Nat) (m : Mem) (r : Res W) (p : PR D) : Prop := match p with
  | .ok z => ∃ w, r = .ok w m ∧ ∀ fr, VW fr s w z
  | .err e => r = .err e m
  | .bad => True
/-- li: 3 whatever stands there, 7 no list that is only read -/
def SeeL (li : Nat) (m : Mem) (w : W) (x : D) : Prop := if li = 7 then SeeN m w x else See m w x
def OpP (li s : Nat) (g : W → W → Mem → Res W) (p : D → D → PR D) : Prop := ∀ m w1 w2 x y, SeeL li m w1 x → SeeL li m w2 y → Out s m (g w1 w2 m) (p x y)
inductive Sees (m : Mem) : List W → List D → Prop
  | nil : Sees m [] []
  | cons {w : W} {x : D} {ws : List W} {xs : List D} : See m w x → Sees m ws xs → Sees m (w :: ws) (x :: xs)
def CaP (s : Nat) (g : List W → Mem → Res W) (p : List D → PR D) : Prop := ∀ m ws xs, Sees m ws xs → Out s m (g ws m) (p xs)
theorem see_flat {m : Mem} {w : W} {x : D} (h : See m w x) (hx : ∀ ds, x ≠ .list ds) : w = .d x := by
  rcases h with h | ⟨ds, e, _⟩
  · exact h
  · exact absurd e (hx ds)
theorem see_asL {m : Mem} {w : W} {ds : List D} (h : See m w (.list ds)) : asL w m = some ds := by
  rcases h with rfl | ⟨es, e, rfl | rfl | ⟨j, rfl, hj⟩⟩
  · rfl
  · cases e; rfl
  · cases e; rfl
  · cases e; simp [asL, hj]
theorem see_asD {m : Mem} {w : W} {x : D} (h : See m w x) : asD w m = some x := by
  rcases h with rfl | ⟨es, rfl, rfl | rfl | ⟨j, rfl, hj⟩⟩
  · rfl
  · rfl
  · rfl
  · simp [asD, asL, hj]
theorem see_asT {m : Mem} {w : W} {ds : List D} (h : SeeN m w (.list ds)) : asT w m = some ds := by
  rcases h with rfl | ⟨es, e, rfl | ⟨j, rfl, hj⟩⟩
  · rfl
  · cases e; rfl
  · cases e; simp [asT, asL, hj]
theorem seeN_flat {m : Mem} {w : W} {x : D} (h : SeeN m w x) (hx : ∀ ds, x ≠ .list ds) : w = .d x := by
  rcases h with h | ⟨ds, e, _⟩
  · exact h
  · exact absurd e (hx ds)
/-- a list is never seen as something else -/
theorem see_nd {m : Mem} {w : W} {ds : List D} (h : See m w (.list ds)) : ∀ x, w = .d x → x = .list ds := by
  intro x e
  subst e
  rcases h with h | ⟨es, e, h | h | ⟨j, h, hj⟩⟩
  · cases h; rfl
  · cases h
  · cases h
  · cases h
theorem out_d {m : Mem} {z : D} : Out 0 m (.ok (.d z) m) (.ok z) := ⟨_, rfl, fun _ => rfl⟩
noncomputable section
def intP (C : Int → Int → Bool) (g : Int → Int → D) (x y : D) : PR D := match x, y with
  | .int i, .int j => if C i j = true then .ok (g i j) else .bad
  | _, _ => .bad
theorem intP_ok {C : Int → Int → Bool} {g : Int → Int → D} : OpP 3 0 (intW C g) (intP C g) := by
  intro m w1 w2 x y h1 h2
  replace h1 : See m w1 x := h1
  replace h2 : See m w2 y := h2
  unfold intP
  split
  · rw [see_flat h1 (by intro ds e; cases e), see_flat h2 (by intro ds e; cases e)]
    simp only [intW]
    split
    · exact out_d
    · trivial
  · trivial
def int0P (g : Int → Int → D) (x y : D) : PR D := match x, y with
  | .int i, .int j => .ok (g i j)
  | _, _ => .bad
theorem int0P_ok {g : Int → Int → D} : OpP 3 0 (int0W g) (int0P g) := by
  intro m w1 w2 x y h1 h2
  replace h1 : See m w1 x := h1
  replace h2 : See m w2 y := h2
  unfold int0P
  split
  · rw [see_flat h1 (by intro ds e; cases e), see_flat h2 (by intro ds e; cases e)]
    exact out_d
  · trivial
def subP := int0P fun i j => .int (i - j)
def mulP := intP mulOk fun i j => .int (i * j)
def divP := intP divOk fun i j => .int (i / j)
def modP := intP modOk fun i j => .int (i % j)
def powP := intP powOk fun i j => .int (i ^ j.toNat)
def ltP := int0P fun i j => .bool (decide (i < j))
def leP := int0P fun i j => .bool (decide (i ≤ j))
def gtP := int0P fun i j => .bool (decide (j < i))
def geP := int0P fun i j => .bool (decide (j ≤ i))
def addIP := int0P fun i j => .int (i + j)
theorem subP_ok : OpP 3 0 subW subP := int0P_ok
theorem mulP_ok : OpP 3 0 mulW mulP := intP_ok
theorem divP_ok : OpP 3 0 divW divP := intP_ok
theorem modP_ok : OpP 3 0 modW modP := intP_ok
theorem powP_ok : OpP 3 0 powW powP := intP_ok
theorem ltP_ok : OpP 3 0 ltW ltP := int0P_ok
theorem gtP_ok : OpP 3 0 gtW gtP := int0P_ok
def addP (x y : D) : PR D := match x, y with
  | .int i, .int j => .ok (.int (i + j))
  | .str a, .str b => if a.length + b.length ≤ sizeLine then .ok (.str (a ++ b)) else .bad
  | .tuple a, .tuple b => if a.length + b.length ≤ sizeLine then .ok (.tuple (a ++ b)) else .bad
  | .list a, .list b => if a.length + b.length ≤ sizeLine then .ok (.list (a ++ b)) else .bad
  | _, _ => .bad
def eqP (neg : Bool) (x y : D) : PR D := if (SeqAt.shaped x && SeqAt.shaped y) = true then .ok (.bool (if neg then !PyData.eqv x y else PyData.eqv x y)) else .bad
theorem eqP_ok {neg : Bool} : OpP 3 0 (eqW neg) (eqP neg) := by
  intro m w1 w2 x y h1 h2
  unfold eqP eqW
  rw [see_asD h1, see_asD h2]
  dsimp only
  split
  · exact out_d
  · trivial
def inP (neg : Bool) (x y : D) : PR D := match x, y with
  | .str a, .str b => .ok (.bool (ngB neg (inS a b)))
  | x, .tuple ds => if (flatD x && ds.all flatD) = true then .ok (.bool (ngB neg (ds.any fun z => PyData.eqv z x))) else .bad
  | x, .list ds => if (SeqAt.shaped x && SeqAt.shaped (.list ds)) = true then .ok (.bool (ngB neg (ds.any fun z => PyData.eqv z x))) else .bad
  | _, _ => .bad
theorem inP_ok {neg : Bool} : OpP 3 0 (inW neg) (inP neg) := by
  intro m w1 w2 x y h1 h2
  replace h1 : See m w1 x := h1
  replace h2 : See m w2 y := h2
  unfold inP
  split
  · rw [see_flat h1 (by intro ds e; cases e), see_flat h2 (by intro ds e; cases e)]
    exact out_d
  · rw [see_flat h2 (by intro ds e; cases e)]
    split
    · rename_i h
      have hf : flatD x = true := by simp only [Bool.and_eq_true] at h; exact h.1
      rw [see_flat h1 (by intro ds e; subst e; cases hf)]
      simp only [inW]
      rw [if_pos h]
      exact out_d
    · trivial
  · rename_i ds
    split
    · rename_i h
      have e1 := see_asD h1
      have e2 := see_asL h2
      have e : inW neg w1 w2 m = .ok (.d (.bool (ngB neg (ds.any fun z => PyData.eqv z x)))) m := by
        have k2 := see_nd h2
        unfold inW
        split
        · rename_i b
          exact absurd (k2 _ rfl) (by intro z; cases z)
        · exact absurd (k2 _ rfl) (by intro z; cases z)
        · rw [e1, e2]
          dsimp only
          rw [if_pos h]
      rw [e]
      exact out_d
    · trivial
  · trivial
def isNP (neg : Bool) (x y : D) : PR D := match x, y with
  | .none, .none => .ok (.bool (ngB neg true))
  | _, .none => .ok (.bool (ngB neg false))
  | _, _ => .bad
theorem isNP_ok {neg : Bool} : OpP 3 0 (isNW neg) (isNP neg) := by
  intro m w1 w2 x y h1 h2
  replace h1 : See m w1 x := h1
  replace h2 : See m w2 y := h2
  unfold isNP
  split
  · rw [see_flat h1 (by intro ds e; cases e), see_flat h2 (by intro ds e; cases e)]
    exact out_d
  · rename_i hx
    rw [see_flat h2 (by intro ds e; cases e)]
    have : w1 ≠ .d .none := by
      rintro rfl
      rcases h1 with h | ⟨ds, e, h | h | ⟨j, h, _⟩⟩
      · cases h; exact hx rfl
      all_goals cases h
    have e : isNW neg w1 (.d .none) m = .ok (.d (.bool (ngB neg false))) m := by
      unfold isNW
      dsimp only
      split
      · exact absurd rfl this
      · rfl
    rw [e]
    exact out_d
  · trivial
def isBP (neg : Bool) (x y : D) : PR D := match x, y with
  | .bool a, .bool b => .ok (.bool (ngB neg (decide (a = b))))
  | _, _ => .bad
def ixP (x y : D) : PR D := match x, y with
  | .str z, .int i => if z.length ≤ sizeLine then (match L2.atI z.cps.toList i with | some c => .ok (.str ⟨#[c]⟩) | none => .bad) else .bad
  | .tuple ds, .int i => (match L2.atI ds i with | some c => .ok c | none => .bad)
  | .list ds, .int i => (match L2.atI ds i with | some c => .ok c | none => .bad)
  | _, _ => .bad
theorem ixP_ok : OpP 3 0 ixW ixP := by
  intro m w1 w2 x y h1 h2
  replace h1 : See m w1 x := h1
  replace h2 : See m w2 y := h2
  unfold ixP
  split
  · rw [see_flat h1 (by intro ds e; cases e), see_flat h2 (by intro ds e; cases e)]
    rename_i z i
    split
    · rename_i h
      simp only [ixW]
      rw [if_pos h]
      cases q : L2.atI z.cps.toList i with
      | none => trivial
      | some c => exact out_d
    · trivial
  · rename_i ds i
    rw [see_flat h1 (by intro ds e; cases e), see_flat h2 (by intro ds e; cases e)]
    simp only [ixW]
    cases q : L2.atI ds i with
    | none => trivial
    | some c => exact out_d
  · rename_i ds i
    rw [see_flat h2 (by intro ds e; cases e)]
    have e1 := see_asL h1
    have k1 := see_nd h1
    have e : ixW w1 (.d (.int i)) m = (match L2.atI ds i with | some c => .ok (.d c) m | none => .bad) := by
      unfold ixW
      split
      · exact absurd (k1 _ rfl) (by intro z; cases z)
      · exact absurd (k1 _ rfl) (by intro z; cases z)
      · rename_i q
        cases q
        rw [e1]
        rfl
      · rename_i q1 q2 q3
        first | exact absurd rfl (q3 i) | exact absurd rfl (q2 i) | exact absurd rfl (q1 i) | simp_all
    rw [e]
    cases q : L2.atI ds i with
    | none => trivial
    | some c => exact out_d
  · trivial
def slP (x : D) (lo hi : Option Int) : PR D := match x with
  | .str z => if z.length ≤ sizeLine then .ok (.str (cutS z lo hi)) else .bad
  | .tuple ds => .ok (.tuple (cutD ds lo hi))
  | .list ds => .ok (.list (cutD ds lo hi))
  | _ => .bad
theorem slP_ok (m : Mem) (w : W) (x : D) (lo hi : Option Int) (h : See m w x) : Out 1 m (slW w lo hi m) (slP x lo hi) := by
  unfold slP
  split
  · rw [see_flat h (by intro ds e; cases e)]
    split
    · rename_i q
      exact ⟨_, by simp only [slW]; rw [if_pos q], fun _ => rfl⟩
    · trivial
  · rw [see_flat h (by intro ds e; cases e)]
    exact ⟨_, rfl, fun _ => rfl⟩
  · rename_i ds
    have e1 := see_asL h
    have k1 := see_nd h
    have e : slW w lo hi m = .ok (.fl (cutD ds lo hi)) m := by
      unfold slW
      split
      · exact absurd (k1 _ rfl) (by intro z; cases z)
      · exact absurd (k1 _ rfl) (by intro z; cases z)
      · rw [e1]
    rw [e]
    exact ⟨_, rfl, fun _ => rfl⟩
  · trivial
end
end M
set_option Elab.async false
set_option linter.all false
set_option maxRecDepth 100000
/-! P: built-ins -/
namespace M
open PySem L2
variable [HasW]
noncomputable section
theorem sees1 {m : Mem} {ws : List W} {x : D} (h : Sees m ws [x]) : ∃ w, ws = [w] ∧ See m w x := by
  cases h with
  | cons h t => cases t with
    | nil => exact ⟨_, rfl, h⟩
def lenP (xs : List D) : PR D := match xs with
  | [.str z] => if z.length ≤ sizeLine then .ok (.int (z.length : Int)) else .bad
  | [.tuple ds] => .ok (.int (ds.length : Int))
  | [.list ds] => .ok (.int (ds.length : Int))
  | _ => .bad
theorem lenP_ok : CaP 0 lenW lenP := by
  intro m ws xs h
  unfold lenP
  split
  · obtain ⟨w, rfl, hw⟩ := sees1 h
    replace h := hw
    rw [see_flat h (by intro ds e; cases e)]
    split
    · rename_i q
      simp only [lenW]
      rw [if_pos q]
      exact out_d
    · trivial
  · obtain ⟨w, rfl, hw⟩ := sees1 h
    replace h := hw
    rw [see_flat h (by intro ds e; cases e)]
    exact out_d
  · rename_i ds
    obtain ⟨w, rfl, hw⟩ := sees1 h
    replace h := hw
    have e1 := see_asL h
    have k1 := see_nd h
    have e : lenW [w] m = .ok (.d (.int (ds.length : Int))) m := by
      rcases h with rfl | ⟨es, e, rfl | rfl | ⟨j, rfl, hj⟩⟩
      · rfl
      · cases e; rfl
      · cases e; rfl
      · simp only [lenW, e1]
    rw [e]
    exact out_d
  · trivial
def intP1 (xs : List D) : PR D := match xs with
  | [.int i] => .ok (.int i)
  | [.bool b] => .ok (.int (if b then 1 else 0))
  | _ => .bad
def lst1P {α : Type} (g : List D → Option α) (k : α → D) (xs : List D) : PR D := match xs with
  | [.list ds] => match g ds with
    | some ns => .ok (k ns)
    | none => .bad
  | _ => .bad
theorem lst1P_ok {α : Type} {g : List D → Option α} {k : α → D} : CaP 0 (lst1 g k) (lst1P g k) := by
  intro m ws xs h
  unfold lst1P
  split
  · rename_i ds
    obtain ⟨w, rfl, hw⟩ := sees1 h
    replace h := hw
    have e1 := see_asL h
    simp only [lst1, e1, Option.bind_some]
    cases g ds with
    | none => trivial
    | some ns => exact out_d
  · trivial
def allP := lst1P dBools fun ns => .bool (ns.all id)
theorem allP_ok : CaP 0 allW allP := lst1P_ok
def listP (xs : List D) : PR D := match xs with
  | [.tuple ds] => .ok (.list ds)
  | [.list ds] => .ok (.list ds)
  | _ => .bad
theorem listP_ok : CaP 1 listW listP := by
  intro m ws xs h
  unfold listP
  split
  · obtain ⟨w, rfl, hw⟩ := sees1 h
    replace h := hw
    rw [see_flat h (by intro ds e; cases e)]
    exact ⟨_, rfl, fun _ => rfl⟩
  · rename_i ds
    obtain ⟨w, rfl, hw⟩ := sees1 h
    replace h := hw
    have e1 := see_asL h
    have e : listW [w] m = .ok (.fl ds) m := by
      rcases h with rfl | ⟨es, e, rfl | rfl | ⟨j, rfl, hj⟩⟩
      · rfl
      · cases e; rfl
      · cases e; rfl
      · simp only [listW, e1]
    exact ⟨_, e, fun _ => rfl⟩
  · trivial
def tupleP (xs : List D) : PR D := match xs with
  | [.tuple ds] => .ok (.tuple ds)
  | [.list ds] => .ok (.tuple ds)
  | _ => .bad
theorem tupleP_ok : CaP 0 tupleW tupleP := by
  intro m ws xs h
  unfold tupleP
  split
  · obtain ⟨w, rfl, hw⟩ := sees1 h
    replace h := hw
    rw [see_flat h (by intro ds e; cases e)]
    exact out_d
  · rename_i ds
    obtain ⟨w, rfl, hw⟩ := sees1 h
    replace h := hw
    have e1 := see_asL h
    have e : tupleW [w] m = .ok (.d (.tuple ds)) m := by
      rcases h with rfl | ⟨es, e, rfl | rfl | ⟨j, rfl, hj⟩⟩
      · rfl
      · cases e; rfl
      · cases e; rfl
      · simp only [tupleW, e1]
    exact ⟨_, e, fun _ => rfl⟩
  · trivial
/-! methods of texts -/
def SmP (s : Nat) (g : W → List W → Mem → Res W) (p : Str → List D → PR D) : Prop := ∀ m x ws xs, Sees m ws xs → Out s m (g (.d (.str x)) ws m) (p x xs)
def joinP (a : Str) (xs : List D) : PR D := match xs with
  | [.tuple ds] => match dStrs ds with
    | some ys => if (ys.map (·.length)).sum + ys.length * a.length ≤ 16777216 then .ok (.str (Txt.join a ys)) else .bad
    | none => .bad
  | [.list ds] => match dStrs ds with
    | some ys => if (ys.map (·.length)).sum + ys.length * a.length ≤ 16777216 then .ok (.str (Txt.join a ys)) else .bad
    | none => .bad
  | _ => .bad
theorem joinP_ok : SmP 0 joinW joinP := by
  intro m x ws xs h
  unfold joinP
  split
  · rename_i ds
    obtain ⟨w, rfl, hw⟩ := sees1 h
    replace h := hw
    rw [see_flat h (by intro ds e; cases e)]
    simp only [joinW, Option.bind_some]
    cases dStrs ds with
    | none => trivial
    | some ys =>
      dsimp only
      split
      · exact out_d
      · trivial
  · rename_i ds
    obtain ⟨w, rfl, hw⟩ := sees1 h
    replace h := hw
    have e1 := see_asL h
    have e : joinW (.d (.str x)) [w] m = (match dStrs ds with
      | some ys => if (ys.map (·.length)).sum + ys.length * x.length ≤ 16777216 then .ok (.d (.str (Txt.join x ys))) m else .bad
      | none => .bad) := by
      rcases h with rfl | ⟨es, e, rfl | rfl | ⟨j, rfl, hj⟩⟩
      · rfl
      · cases e; rfl
      · cases e; rfl
      · simp only [joinW, e1, Option.bind_some]
        try rfl
    rw [e]
    cases dStrs ds with
    | none => trivial
    | some ys =>
      dsimp only
      split
      · exact out_d
      · trivial
  · trivial
def sindexP (a : Str) (xs : List D) : PR D := match xs with
  | [.str b] => match Builtin.Str.occurrences a b 0 a.length 1 with
    | i :: _ => .ok (.int (i : Int))
    | [] => .bad
  | _ => .bad
theorem sindexP_ok : SmP 0 sindexW sindexP := by
  intro m x ws xs h
  unfold sindexP
  split
  · rename_i b
    obtain ⟨w, rfl, hw⟩ := sees1 h
    replace h := hw
    rw [see_flat h (by intro ds e; cases e)]
    simp only [sindexW]
    cases Builtin.Str.occurrences x b 0 x.length 1 with
    | nil => trivial
    | cons i r => exact out_d
  · trivial
/-! types, truth -/
def tyP (x : D) : Option Tk := match x with
  | .none => some .non
  | .bool _ => some .bl
  | .int _ => some .int
  | .str _ => some .str
  | .list _ => some .lst
  | .tuple _ => some .tup
  | _ => none
theorem tyP_ok {m : Mem} {w : W} {x : D} {t : Tk} (h : See m w x) (e : tyP x = some t) : tyW w m = some t := by
  rcases h with rfl | ⟨ds, rfl, rfl | rfl | ⟨j, rfl, hj⟩⟩
  · cases x <;> exact e
  · exact e
  · exact e
  · simp only [tyW, hj]; exact e
def truP (x : D) : Option Bool := match x with
  | .none => some false
  | .bool b => some b
  | .int i => some (i != 0)
  | .str x => if x.length ≤ sizeLine then some ((x.length : Int) != 0) else none
  | .tuple ds => some (!ds.isEmpty)
  | .list ds => some (!ds.isEmpty)
  | _ => none
theorem truP_ok {m : Mem} {w : W} {x : D} {t : Bool} (h : See m w x) (e : truP x = some t) : truW w m = some t := by
  rcases h with rfl | ⟨ds, rfl, rfl | rfl | ⟨j, rfl, hj⟩⟩
  · cases x <;> exact e
  · exact e
  · exact e
  · simp only [truW, asL, hj, Option.map_some]; exact e
def negP (x : D) : PR D := match x with
  | .int i => .ok (.int (-i))
  | _ => .bad
/-! ### judgements -/
abbrev GEx := (γ : Type) → List PV → (GV → List PV → PR γ) → PR γ
def EPost (fr : Fr) (s : Nat) (ms : List Bool) (ρ : List PV) (env : Env) {γ : Type} (r : Res W) (p : PR γ) (K : GV → List PV → PR γ) : Prop :=
  (∃ w m' v ρ', r = .ok w m' ∧ Rel fr ρ' env m' ∧ RVal fr s env w v ∧ p = K v ρ' ∧ Ag ms ρ ρ') ∨ (∃ e m', r = .err e m' ∧ p = .err e ∧ Rel fr (wip ms ρ) env m')
def RE (s : Nat) (ms : List Bool) (f : EF) (g : GEx) : Prop := ∀ (γ : Type) (fr : Fr) (ρ : List PV) (env : Env) (m : Mem) (K : GV → List PV → PR γ), Rel fr ρ env m → g γ ρ K ≠ .bad → EPost fr s ms ρ env (f env m) (g γ ρ K) K
abbrev GTx := (γ : Type) → List PV → (Bool → List PV → PR γ) → PR γ
def TPost (fr : Fr) (ms : List Bool) (ρ : List PV) (env : Env) {γ : Type} (r : Res Bool) (p : PR γ) (K : Bool → List PV → PR γ) : Prop :=
  (∃ b m' ρ', r = .ok b m' ∧ Rel fr ρ' env m' ∧ p = K b ρ' ∧ Ag ms ρ ρ') ∨ (∃ e m', r = .err e m' ∧ p = .err e ∧ Rel fr (wip ms ρ) env m')
def RT (ms : List Bool) (f : TF) (g : GTx) : Prop := ∀ (γ : Type) (fr : Fr) (ρ : List PV) (env : Env) (m : Mem) (K : Bool → List PV → PR γ), Rel fr ρ env m → g γ ρ K ≠ .bad → TPost fr ms ρ env (f env m) (g γ ρ K) K
inductive RVals (fr : Fr) (env : Env) : List Nat → List W → List GV → Prop
  | nil : RVals fr env [] [] []
  | cons {s : Nat} {ss : List Nat} {w : W} {ws : List W} {v : GV} {vs : List GV} : RVal fr s env w v → RVals fr env ss ws vs → RVals fr env (s :: ss) (w :: ws) (v :: vs)
abbrev GAx := (γ : Type) → List PV → (List GV → List PV → PR γ) → PR γ
def APost (fr : Fr) (ss : List Nat) (ms : List Bool) (ρ : List PV) (env : Env) {γ : Type} (r : Res (List W)) (p : PR γ) (K : List GV → List PV → PR γ) : Prop :=
  (∃ ws m' vs ρ', r = .ok ws m' ∧ Rel fr ρ' env m' ∧ RVals fr env ss ws vs ∧ p = K vs ρ' ∧ Ag ms ρ ρ') ∨ (∃ e m', r = .err e m' ∧ p = .err e ∧ Rel fr (wip ms ρ) env m')
def RA (ss : List Nat) (ms : List Bool) (f : AF) (g : GAx) : Prop := ∀ (γ : Type) (fr : Fr) (ρ : List PV) (env : Env) (m : Mem) (K : List GV → List PV → PR γ), Rel fr ρ env m → g γ ρ K ≠ .bad → APost fr ss ms ρ env (f env m) (g γ ρ K) K
section
variable {s s' : Nat} {ms : List Bool} {f f' : EF} {g g' : GEx} {fr : Fr} {ρ ρ1 : List PV} {env : Env} {m : Mem}
theorem RE.up (h : RE s ms f g) (u : M.up s s' = true) : RE s' ms f g := by
  intro γ fr ρ env m K R nb
  rcases h γ fr ρ env m K R nb with ⟨w, m', v, ρ', h1, h2, h3, h4, h5⟩ | h
  · exact .inl ⟨w, m', v, ρ', h1, h2, h3.up u, h4, h5⟩
  · exact .inr h
theorem EPost.ok {γ : Type} {K : GV → List PV → PR γ} {w : W} {m' : Mem} {v : GV} {p : PR γ} (R : Rel fr ρ env m') (h : RVal fr s env w v) (hp : p = K v ρ) : EPost fr s ms ρ env (.ok w m') p K := .inl ⟨w, m', v, ρ, rfl, R, h, hp, Ag.refl _ _⟩
theorem EPost.later {γ : Type} {K : GV → List PV → PR γ} {r : Res W} {p : PR γ} (a : Ag ms ρ ρ1) (h : EPost fr s ms ρ1 env r p K) : EPost fr s ms ρ env r p K := by
  rcases h with ⟨w, m', v, ρ', h1, h2, h3, h4, h5⟩ | ⟨e, m', h1, h2, h3⟩
  · exact .inl ⟨w, m', v, ρ', h1, h2, h3, h4, a.trans h5⟩
  · exact .inr ⟨e, m', h1, h2, by rw [a.wip] at h3; exact h3⟩
/-- a step ahead -/
theorem EPost.bind {γ : Type} {K0 K : GV → List PV → PR γ} {r : Res W} {p : PR γ} {k : W → Mem → Res W} (nb : p ≠ .bad) (h : EPost fr s ms ρ env r p K0)
    (hk : ∀ w m' v ρ', Rel fr ρ' env m' → RVal fr s env w v → Ag ms ρ ρ' → K0 v ρ' ≠ .bad → EPost fr s' ms ρ' env (k w m') (K0 v ρ') K) : EPost fr s' ms ρ env (r.bind k) p K := by
  rcases h with ⟨w, m', v, ρ', h1, h2, h3, h4, h5⟩ | ⟨e, m', h1, h2, h3⟩
  · rw [h1, Res.bind_ok, h4]
    exact (hk w m' v ρ' h2 h3 h5 (by rw [← h4]; exact nb)).later h5
  · rw [h1, Res.bind_err]
    exact .inr ⟨e, m', rfl, h2, h3⟩
theorem EPost.bindT {γ : Type} {K0 : GV → List PV → PR γ} {K : Bool → List PV → PR γ} {r : Res W} {p : PR γ} {k : W → Mem → Res Bool} (nb : p ≠ .bad) (h : EPost fr s ms ρ env r p K0)
    (hk : ∀ w m' v ρ', Rel fr ρ' env m' → RVal fr s env w v → Ag ms ρ ρ' → K0 v ρ' ≠ .bad → ∃ b, k w m' = .ok b m' ∧ K0 v ρ' = K b ρ') : TPost fr ms ρ env (r.bind k) p K := by
  rcases h with ⟨w, m', v, ρ', h1, h2, h3, h4, h5⟩ | ⟨e, m', h1, h2, h3⟩
  · rw [h1, Res.bind_ok, h4]
    obtain ⟨b, e1, e2⟩ := hk w m' v ρ' h2 h3 h5 (by rw [← h4]; exact nb)
    exact .inl ⟨b, m', ρ', e1, h2, e2, h5⟩
  · rw [h1, Res.bind_err]
    exact .inr ⟨e, m', rfl, h2, h3⟩
theorem TPost.bindE {γ : Type} {K0 : Bool → List PV → PR γ} {K : GV → List PV → PR γ} {r : Res Bool} {p : PR γ} {k : Bool → Mem → Res W} (nb : p ≠ .bad) (h : TPost fr ms ρ env r p K0)
    (hk : ∀ b m' ρ', Rel fr ρ' env m' → Ag ms ρ ρ' → K0 b ρ' ≠ .bad → EPost fr s ms ρ' env (k b m') (K0 b ρ') K) : EPost fr s ms ρ env (r.bind k) p K := by
  rcases h with ⟨b, m', ρ', h1, h2, h4, h5⟩ | ⟨e, m', h1, h2, h3⟩
  · rw [h1, Res.bind_ok, h4]
    exact (hk b m' ρ' h2 h5 (by rw [← h4]; exact nb)).later h5
  · rw [h1, Res.bind_err]
    exact .inr ⟨e, m', rfl, h2, h3⟩
theorem TPost.later {γ : Type} {K : Bool → List PV → PR γ} {r : Res Bool} {p : PR γ} (a : Ag ms ρ ρ1) (h : TPost fr ms ρ1 env r p K) : TPost fr ms ρ env r p K := by
  rcases h with ⟨w, m', ρ', h1, h2, h4, h5⟩ | ⟨e, m', h1, h2, h3⟩
  · exact .inl ⟨w, m', ρ', h1, h2, h4, a.trans h5⟩
  · exact .inr ⟨e, m', h1, h2, by rw [a.wip] at h3; exact h3⟩
theorem TPost.bind {γ : Type} {K0 K : Bool → List PV → PR γ} {r : Res Bool} {p : PR γ} {k : Bool → Mem → Res Bool} (nb : p ≠ .bad) (h : TPost fr ms ρ env r p K0)
    (hk : ∀ b m' ρ', Rel fr ρ' env m' → Ag ms ρ ρ' → K0 b ρ' ≠ .bad → TPost fr ms ρ' env (k b m') (K0 b ρ') K) : TPost fr ms ρ env (r.bind k) p K := by
  rcases h with ⟨b, m', ρ', h1, h2, h4, h5⟩ | ⟨e, m', h1, h2, h3⟩
  · rw [h1, Res.bind_ok, h4]
    exact (hk b m' ρ' h2 h5 (by rw [← h4]; exact nb)).later h5
  · rw [h1, Res.bind_err]
    exact .inr ⟨e, m', rfl, h2, h3⟩
/-- the end of an operation -/
theorem EPost.out {γ : Type} {K : GV → List PV → PR γ} {r : Res W} {p : PR D} (R : Rel fr ρ env m) (o : Out s m r p) (nb : (p.bind fun z => K (.v z) ρ) ≠ .bad) : EPost fr s ms ρ env r (p.bind fun z => K (.v z) ρ) K := by
  cases p with
  | ok z =>
    obtain ⟨w, e, h⟩ := o
    rw [e]
    exact EPost.ok (v := .v z) R (h fr) rfl
  | err e =>
    have o : r = .err e m := o
    rw [o]
    exact .inr ⟨e, m, rfl, rfl, R.wip (AgE.refl _ _)⟩
  | bad => exact absurd rfl nb
end
end
end M
set_option Elab.async false
set_option linter.all false
set_option maxRecDepth 100000
/-! P: expressions -/
namespace M
open PySem L2
variable [HasW]
noncomputable section
section
variable {s s' : Nat} {ms : List Bool} {f f' fa fb : EF} {g g' ga gb : GEx}
def gVarD (i : Nat) : GEx := fun γ ρ K => match ρ[i]? with
  | some (.d x) => K (.v x) ρ
  | _ => .bad
theorem re_varD (i : Nat) : RE 0 ms (eVar i) (gVarD i) := by
  intro γ fr ρ env m K R nb
  unfold gVarD at nb ⊢
  split at nb
  · rename_i x h
    have e := R.getD h
    simp only [eVar, e]
    exact EPost.ok (v := .v x) R rfl rfl
  · exact absurd rfl nb
def gVarB (i : Nat) : GEx := fun γ ρ K => match ρ[i]? with
  | some (.b xs) => K (.v (.list xs)) ρ
  | _ => .bad
theorem re_varB (i : Nat) : RE 4 ms (eVar i) (gVarB i) := by
  intro γ fr ρ env m K R nb
  unfold gVarB at nb ⊢
  split at nb
  · rename_i xs h
    obtain ⟨w, e, hw⟩ := R.getB h
    simp only [eVar, e]
    exact EPost.ok (v := .v (.list xs)) R (.inr ⟨xs, rfl, hw⟩) rfl
  · exact absurd rfl nb
def gVarO (i : Nat) : GEx := fun γ ρ K => match ρ[i]? with
  | some (.l _ _) => K (.r i) ρ
  | some (.k _ _) => K (.r i) ρ
  | _ => .bad
theorem re_varO (i : Nat) (hs : isO s = true) : RE s ms (eVar i) (gVarO i) := by
  intro γ fr ρ env m K R nb
  unfold gVarO at nb ⊢
  split at nb
  · rename_i p xs h
    obtain ⟨j, e, _⟩ := R.getL h
    simp only [eVar, e]
    exact EPost.ok (v := .r i) R ⟨hs, e⟩ rfl
  · rename_i p q h
    obtain ⟨J, hd, hJ⟩ := R.ex
    have z := hJ i
    rw [h] at z
    obtain ⟨b, a, _, e, _⟩ := z
    simp only [eVar, e]
    exact EPost.ok (v := .r i) R ⟨hs, e⟩ rfl
  · exact absurd rfl nb
def gC (x : D) : GEx := fun γ ρ K => K (.v x) ρ
theorem re_c (x : D) : RE 0 ms (eC x) (gC x) := fun γ fr ρ env m K R nb => EPost.ok (v := .v x) R rfl rfl
def gOp (p : D → D → PR D) (a b : GEx) : GEx := fun γ ρ K => a γ ρ fun x ρ1 => b γ ρ1 fun y ρ2 => match gres ρ2 x, gres ρ2 y with
  | some x, some y => (p x y).bind fun z => K (.v z) ρ2
  | _, _ => .bad
theorem Rel.seeL {fr : Fr} {ρ : List PV} {env : Env} {m : Mem} {li : Nat} {w : W} {v : GV} {x : D} (R : Rel fr ρ env m) (hl : li = 3 ∨ li = 7) (h : RVal fr li env w v) (e : gres ρ v = some x) : SeeL li m w x := by
  rcases hl with rfl | rfl
  · exact R.see h e
  · exact R.seeN h e
theorem re_op {li : Nat} {o : W → W → Mem → Res W} {p : D → D → PR D} (hp : OpP li s o p) (ha : RE li ms fa ga) (hb : RE li ms fb gb) (hl : li = 3 ∨ li = 7 := by decide) : RE s ms (eOp o fa fb) (gOp p ga gb) := by
  intro γ fr ρ env m K R nb
  refine EPost.bind nb (ha γ fr ρ env m _ R nb) fun w m1 v ρ1 R1 h1 a1 nb1 => ?_
  refine EPost.bind nb1 (hb γ fr ρ1 env m1 _ R1 nb1) fun w2 m2 v2 ρ2 R2 h2 a2 nb2 => ?_
  cases e1 : gres ρ2 v with
  | none => rw [e1] at nb2; exact absurd rfl nb2
  | some x =>
    cases e2 : gres ρ2 v2 with
    | none => rw [e1, e2] at nb2; exact absurd rfl nb2
    | some y =>
      rw [e1, e2] at nb2
      exact EPost.out R2 (hp m2 w w2 x y (R2.seeL hl h1 e1) (R2.seeL hl h2 e2)) nb2
def ptb {γ : Type} (z : D) (k : Bool → PR γ) : PR γ := match z with
  | .bool t => k t
  | _ => .bad
def ptt {γ : Type} (z : D) (k : Bool → PR γ) : PR γ := match truP z with
  | some t => k t
  | none => .bad
def pti {γ : Type} (z : D) (k : Int → PR γ) : PR γ := match z with
  | .int t => k t
  | _ => .bad
def pts {γ : Type} (z : D) (k : Str → PR γ) : PR γ := match z with
  | .str t => k t
  | _ => .bad
def pisi {γ : Type} (ts : List Tk) (z : D) (k : D → PR γ) : PR γ := match tyP z with
  | some t => k (.bool (ts.any fun u => t.sub u))
  | none => .bad
@[simp] theorem ptb_bool {γ : Type} (t : Bool) (k : Bool → PR γ) : ptb (.bool t) k = k t := rfl
@[simp] theorem pti_int {γ : Type} (t : Int) (k : Int → PR γ) : pti (.int t) k = k t := rfl
@[simp] theorem pts_str {γ : Type} (t : Str) (k : Str → PR γ) : pts (.str t) k = k t := rfl
theorem ptb_ne {γ : Type} {z : D} {k : Bool → PR γ} (h : ptb z k ≠ .bad) : ∃ t, z = .bool t := by
  unfold ptb at h
  split at h
  · exact ⟨_, rfl⟩
  · exact absurd rfl h
theorem pti_ne {γ : Type} {z : D} {k : Int → PR γ} (h : pti z k ≠ .bad) : ∃ t, z = .int t := by
  unfold pti at h
  split at h
  · exact ⟨_, rfl⟩
  · exact absurd rfl h
theorem pts_ne {γ : Type} {z : D} {k : Str → PR γ} (h : pts z k ≠ .bad) : ∃ t, z = .str t := by
  unfold pts at h
  split at h
  · exact ⟨_, rfl⟩
  · exact absurd rfl h
/-- data that is no list -/
theorem RVal.flat {fr : Fr} {env : Env} {w : W} {x : D} (h : RVal fr s env w (.v x)) (hx : ∀ ds, x ≠ .list ds) : w = .d x := by
  have h : VW fr s w x := h
  rcases h.any with h | ⟨ds, e, _⟩
  · exact h
  · exact absurd e (hx ds)
/-! tests -/
def gBool (a : GEx) : GTx := fun γ ρ K => a γ ρ fun v ρ1 => match v with
  | .v z => ptb z fun t => K t ρ1
  | .r _ => .bad
theorem rt_bool (ha : RE 3 ms fa ga) : RT ms (tBool fa) (gBool ga) := by
  intro γ fr ρ env m K R nb
  refine EPost.bindT nb (ha γ fr ρ env m _ R nb) fun w m1 v ρ1 R1 h1 a1 nb1 => ?_
  cases v with
  | r i => exact absurd rfl nb1
  | v z =>
    obtain ⟨t, rfl⟩ := ptb_ne nb1
    rw [RVal.flat h1 (by intro ds e; cases e)]
    exact ⟨t, rfl, rfl⟩
def gTru (a : GEx) : GTx := fun γ ρ K => a γ ρ fun v ρ1 => match gres ρ1 v with
  | some z => ptt z fun t => K t ρ1
  | none => .bad
theorem rt_tru (ha : RE 3 ms fa ga) : RT ms (tTru fa) (gTru ga) := by
  intro γ fr ρ env m K R nb
  refine EPost.bindT nb (ha γ fr ρ env m _ R nb) fun w m1 v ρ1 R1 h1 a1 nb1 => ?_
  cases e1 : gres ρ1 v with
  | none => rw [e1] at nb1; exact absurd rfl nb1
  | some z =>
    rw [e1] at nb1
    dsimp only [ptt] at nb1 ⊢
    cases q : truP z with
    | none => rw [q] at nb1; exact absurd rfl nb1
    | some t =>
      rw [truP_ok (R1.see h1 e1) q]
      exact ⟨t, rfl, rfl⟩
variable {fp fq : TF} {gp gq : GTx}
def gtAnd (a b : GTx) : GTx := fun γ ρ K => a γ ρ fun t ρ1 => if t = true then b γ ρ1 K else K false ρ1
def gtOr (a b : GTx) : GTx := fun γ ρ K => a γ ρ fun t ρ1 => if t = true then K true ρ1 else b γ ρ1 K
def gtNot (a : GTx) : GTx := fun γ ρ K => a γ ρ fun t ρ1 => K (!t) ρ1
theorem TPost.ok {γ : Type} {fr : Fr} {ρ : List PV} {env : Env} {K : Bool → List PV → PR γ} {m' : Mem} {t : Bool} {p : PR γ} (R : Rel fr ρ env m') (hp : p = K t ρ) : TPost fr ms ρ env (.ok t m') p K := .inl ⟨t, m', ρ, rfl, R, hp, Ag.refl _ _⟩
theorem rt_and (ha : RT ms fp gp) (hb : RT ms fq gq) : RT ms (tAndF fp fq) (gtAnd gp gq) := by
  intro γ fr ρ env m K R nb
  refine TPost.bind nb (ha γ fr ρ env m _ R nb) fun t m1 ρ1 R1 a1 nb1 => ?_
  cases t with
  | true => rw [if_pos rfl] at nb1 ⊢; rw [if_pos rfl]; exact hb γ fr ρ1 env m1 K R1 nb1
  | false => rw [if_neg (by simp), if_neg (by simp)]; exact TPost.ok R1 rfl
theorem rt_or (ha : RT ms fp gp) (hb : RT ms fq gq) : RT ms (tOrF fp fq) (gtOr gp gq) := by
  intro γ fr ρ env m K R nb
  refine TPost.bind nb (ha γ fr ρ env m _ R nb) fun t m1 ρ1 R1 a1 nb1 => ?_
  cases t with
  | false => rw [if_neg (by simp)] at nb1 ⊢; rw [if_neg (by simp)]; exact hb γ fr ρ1 env m1 K R1 nb1
  | true => rw [if_pos rfl, if_pos rfl]; exact TPost.ok R1 rfl
theorem rt_not (ha : RT ms fp gp) : RT ms (tNotF fp) (gtNot gp) := by
  intro γ fr ρ env m K R nb
  refine TPost.bind nb (ha γ fr ρ env m _ R nb) fun t m1 ρ1 R1 a1 nb1 => ?_
  exact TPost.ok R1 rfl
def gAnd (a b : GEx) : GEx := fun γ ρ K => gBool a γ ρ fun t ρ1 => if t = true then b γ ρ1 K else K (.v (.bool false)) ρ1
theorem VW.bool {fr : Fr} (s : Nat) (b : Bool) : VW fr s (.d (.bool b)) (.bool b) := by
  unfold VW
  split <;> first | rfl | exact .inl rfl
theorem re_and (ha : RE 3 ms fa ga) (hb : RE s ms fb gb) : RE s ms (eAnd fa fb) (gAnd ga gb) := by
  intro γ fr ρ env m K R nb
  refine TPost.bindE nb (rt_bool ha γ fr ρ env m _ R nb) fun t m1 ρ1 R1 a1 nb1 => ?_
  cases t with
  | true => rw [if_pos rfl] at nb1 ⊢; rw [if_pos rfl]; exact hb γ fr ρ1 env m1 K R1 nb1
  | false => rw [if_neg (by simp), if_neg (by simp)]; exact EPost.ok (v := .v (.bool false)) R1 (VW.bool s false) rfl
def gIsi (ts : List Tk) (a : GEx) : GEx := fun γ ρ K => a γ ρ fun v ρ1 => match gres ρ1 v with
  | some z => pisi ts z fun t => K (.v t) ρ1
  | none => .bad
theorem re_isi {ts : List Tk} (ha : RE 3 ms fa ga) : RE 0 ms (eIsi ts fa) (gIsi ts ga) := by
  intro γ fr ρ env m K R nb
  refine EPost.bind nb (ha γ fr ρ env m _ R nb) fun w m1 v ρ1 R1 h1 a1 nb1 => ?_
  cases e1 : gres ρ1 v with
  | none => rw [e1] at nb1; exact absurd rfl nb1
  | some z =>
    rw [e1] at nb1
    dsimp only [pisi] at nb1 ⊢
    cases q : tyP z with
    | none => rw [q] at nb1; exact absurd rfl nb1
    | some t =>
      rw [tyP_ok (R1.see h1 e1) q]
      exact EPost.ok (v := .v (.bool _)) R1 rfl rfl
theorem re_frz (ha : RE 2 ms fa ga) : RE 0 ms (eFrz fa) ga := by
  intro γ fr ρ env m K R nb
  refine EPost.bind nb (ha γ fr ρ env m K R nb) fun w m1 v ρ1 R1 h1 a1 nb1 => ?_
  cases v with
  | r i => exact absurd h1.1 (by decide)
  | v z =>
    rcases h1 with rfl | ⟨ds, rfl, rfl⟩
    · exact EPost.ok (v := .v z) R1 rfl rfl
    · exact EPost.ok (v := .v (.list ds)) R1 rfl rfl
/-! argument lists -/
variable {ss : List Nat} {h : AF} {k : GAx}
def gaNil : GAx := fun γ ρ K => K [] ρ
def gaCons (a : GEx) (r : GAx) : GAx := fun γ ρ K => a γ ρ fun v ρ1 => r γ ρ1 fun vs ρ2 => K (v :: vs) ρ2
theorem ra_nil : RA [] ms aNil gaNil := fun γ fr ρ env m K R nb => .inl ⟨[], m, [], ρ, rfl, R, .nil, rfl, Ag.refl _ _⟩
theorem ra_cons (ha : RE s ms fa ga) (hr : RA ss ms h k) : RA (s :: ss) ms (aCons fa h) (gaCons ga k) := by
  intro γ fr ρ env m K R nb
  rcases ha γ fr ρ env m _ R nb with ⟨w, m1, v, ρ1, h1, R1, h3, h4, h5⟩ | ⟨e, m1, h1, h2, h3⟩
  · rcases hr γ fr ρ1 env m1 (fun vs ρ2 => K (v :: vs) ρ2) R1 (fun z => nb (h4.trans z)) with ⟨ws, m2, vs, ρ2, q1, R2, q3, q4, q5⟩ | ⟨e, m2, q1, q2, q3⟩
    · exact .inl ⟨w :: ws, m2, v :: vs, ρ2, by simp only [aCons, h1, q1, Res.bind_ok], R2, .cons h3 q3, h4.trans q4, h5.trans q5⟩
    · exact .inr ⟨e, m2, by simp only [aCons, h1, q1, Res.bind_ok, Res.bind_err], h4.trans q2, by rw [h5.wip] at q3; exact q3⟩
  · exact .inr ⟨e, m1, by simp only [aCons, h1, Res.bind_err], h2, h3⟩
theorem APost.bind {γ : Type} {fr : Fr} {ρ : List PV} {env : Env} {K0 : List GV → List PV → PR γ} {K : GV → List PV → PR γ} {r : Res (List W)} {p : PR γ} {kk : List W → Mem → Res W} (nb : p ≠ .bad) (h : APost fr ss ms ρ env r p K0)
    (hk : ∀ ws m' vs ρ', Rel fr ρ' env m' → RVals fr env ss ws vs → Ag ms ρ ρ' → K0 vs ρ' ≠ .bad → EPost fr s ms ρ' env (kk ws m') (K0 vs ρ') K) : EPost fr s ms ρ env (r.bind kk) p K := by
  rcases h with ⟨ws, m', vs, ρ', h1, h2, h3, h4, h5⟩ | ⟨e, m', h1, h2, h3⟩
  · rw [h1, Res.bind_ok, h4]
    exact (hk ws m' vs ρ' h2 h3 h5 (by rw [← h4]; exact nb)).later h5
  · rw [h1, Res.bind_err]
    exact .inr ⟨e, m', rfl, h2, h3⟩
def allZ : List Nat → Bool
  | [] => true
  | 0 :: r => allZ r
  | _ :: _ => false
def gvs : List GV → Option (List D)
  | [] => some []
  | .v x :: r => match gvs r with
    | some xs => some (x :: xs)
    | none => none
  | .r _ :: _ => none
theorem rvals_z {fr : Fr} {env : Env} : ∀ {ss : List Nat} {ws : List W} {vs : List GV}, RVals fr env ss ws vs → allZ ss = true → ∃ xs, gvs vs = some xs ∧ asDs ws = some xs ∧ xs.length = ss.length ∧ ws = xs.map .d
  | _, _, _, .nil, _ => ⟨[], rfl, rfl, rfl, rfl⟩
  | 0 :: ss, w :: ws, .v x :: vs, .cons h t, z => by
    obtain ⟨xs, e1, e2, e3, e4⟩ := rvals_z t z
    have h : w = .d x := h
    subst h
    exact ⟨x :: xs, by simp only [gvs, e1], by simp only [asDs, e2]; rfl, by simp [e3], by simp [e4]⟩
  | 0 :: ss, w :: ws, .r x :: vs, .cons h t, z => absurd h.1 (by decide)
  | (n + 1) :: ss, _, _, .cons h t, z => by cases z
def gTup (a : GAx) : GEx := fun γ ρ K => a γ ρ fun vs ρ1 => match gvs vs with
  | some ds => K (.v (.tuple ds)) ρ1
  | none => .bad
def gLst (a : GAx) : GEx := fun γ ρ K => a γ ρ fun vs ρ1 => match gvs vs with
  | some ds => K (.v (.list ds)) ρ1
  | none => .bad
theorem small_line {n : Nat} (h : n ≤ 64) : n ≤ sizeLine := Nat.le_trans h (by decide)
theorem re_tup (ha : RA ss ms h k) (hz : allZ ss = true := by rfl) (hl : ss.length ≤ 64 := by decide) : RE 0 ms (eTup h) (gTup k) := by
  intro γ fr ρ env m K R nb
  refine APost.bind nb (ha γ fr ρ env m _ R nb) fun ws m1 vs ρ1 R1 h1 a1 nb1 => ?_
  obtain ⟨xs, e1, e2, e3, e4⟩ := rvals_z h1 hz
  simp only [e1, e2]
  rw [if_pos (small_line (by omega))]
  exact EPost.ok (v := .v (.tuple xs)) R1 rfl rfl
theorem re_lst (ha : RA ss ms h k) (hz : allZ ss = true := by rfl) (hl : ss.length ≤ 64 := by decide) : RE 1 ms (eLst h) (gLst k) := by
  intro γ fr ρ env m K R nb
  refine APost.bind nb (ha γ fr ρ env m _ R nb) fun ws m1 vs ρ1 R1 h1 a1 nb1 => ?_
  obtain ⟨xs, e1, e2, e3, e4⟩ := rvals_z h1 hz
  simp only [e1, e2]
  rw [if_pos (small_line (by omega))]
  exact EPost.ok (v := .v (.list xs)) R1 rfl rfl
def gress (ρ : List PV) : List GV → Option (List D)
  | [] => some []
  | v :: r => match gres ρ v, gress ρ r with
    | some x, some xs => some (x :: xs)
    | _, _ => none
theorem rvals_see {fr : Fr} {ρ : List PV} {env : Env} {m : Mem} (R : Rel fr ρ env m) : ∀ {ss : List Nat} {ws : List W} {vs : List GV} {xs : List D}, RVals fr env ss ws vs → gress ρ vs = some xs → Sees m ws xs
  | _, _, _, xs, .nil, e => by cases e; exact .nil
  | _, _, v :: vs, xs, .cons h t, e => by
    simp only [gress] at e
    cases q : gres ρ v with
    | none => rw [q] at e; cases e
    | some y =>
      cases q2 : gress ρ vs with
      | none => rw [q, q2] at e; cases e
      | some ys =>
        rw [q, q2] at e
        cases e
        exact .cons (R.see h q) (rvals_see R t q2)
def gCa (p : List D → PR D) (a : GAx) : GEx := fun γ ρ K => a γ ρ fun vs ρ1 => match gress ρ1 vs with
  | some xs => (p xs).bind fun z => K (.v z) ρ1
  | none => .bad
theorem re_ca {o : List W → Mem → Res W} {p : List D → PR D} (hp : CaP s o p) (ha : RA ss ms h k) : RE s ms (eCall o h) (gCa p k) := by
  intro γ fr ρ env m K R nb
  refine APost.bind nb (ha γ fr ρ env m _ R nb) fun ws m1 vs ρ1 R1 h1 a1 nb1 => ?_
  cases e1 : gress ρ1 vs with
  | none => rw [e1] at nb1; exact absurd rfl nb1
  | some xs =>
    rw [e1] at nb1
    exact EPost.out R1 (hp m1 ws xs (rvals_see R1 h1 e1)) nb1
/-! slices -/
abbrev GOx := (γ : Type) → List PV → (Option Int → List PV → PR γ) → PR γ
def RO (ms : List Bool) (f : OF) (g : GOx) : Prop := ∀ (γ : Type) (fr : Fr) (ρ : List PV) (env : Env) (m : Mem) (K : Option Int → List PV → PR γ), Rel fr ρ env m → g γ ρ K ≠ .bad →
  (∃ b m' ρ', f env m = .ok b m' ∧ Rel fr ρ' env m' ∧ g γ ρ K = K b ρ' ∧ Ag ms ρ ρ') ∨ (∃ e m', f env m = .err e m' ∧ g γ ρ K = .err e ∧ Rel fr (wip ms ρ) env m')
def goNone : GOx := fun γ ρ K => K none ρ
def goSome (a : GEx) : GOx := fun γ ρ K => a γ ρ fun v ρ1 => match v with
  | .v z => pti z fun i => K (some i) ρ1
  | .r _ => .bad
theorem ro_none : RO ms oNone goNone := fun γ fr ρ env m K R nb => .inl ⟨none, m, ρ, rfl, R, rfl, Ag.refl _ _⟩
theorem ro_some (ha : RE 3 ms fa ga) : RO ms (oSome fa) (goSome ga) := by
  intro γ fr ρ env m K R nb
  rcases ha γ fr ρ env m _ R nb with ⟨w, m1, v, ρ1, h1, R1, h3, h4, h5⟩ | ⟨e, m1, h1, h2, h3⟩
  · have nb1 := nb
    rw [show goSome ga γ ρ K = _ from h4] at nb1
    cases v with
    | r i => exact absurd rfl nb1
    | v z =>
      obtain ⟨t, rfl⟩ := pti_ne nb1
      rw [RVal.flat h3 (by intro ds e; cases e)] at h1
      exact .inl ⟨some t, m1, ρ1, by simp only [oSome, h1, Res.bind_ok], R1, h4, h5⟩
  · exact .inr ⟨e, m1, by simp only [oSome, h1, Res.bind_err], h2, h3⟩
def gSl (a : GEx) (lo hi : GOx) : GEx := fun γ ρ K => a γ ρ fun v ρ1 => lo γ ρ1 fun l ρ2 => hi γ ρ2 fun h ρ3 => match gres ρ3 v with
  | some x => (slP x l h).bind fun z => K (.v z) ρ3
  | none => .bad
theorem re_sl {lo hi : OF} {gl gh : GOx} (ha : RE 3 ms fa ga) (hl : RO ms lo gl) (hh : RO ms hi gh) : RE 1 ms (eSl slW fa lo hi) (gSl ga gl gh) := by
  intro γ fr ρ env m K R nb
  refine EPost.bind nb (ha γ fr ρ env m _ R nb) fun w m1 v ρ1 R1 h1 a1 nb1 => ?_
  rcases hl γ fr ρ1 env m1 _ R1 nb1 with ⟨l, m2, ρ2, q1, R2, q3, q4⟩ | ⟨e, m2, q1, q2, q3⟩
  · rw [q1, Res.bind_ok, q3]
    have nb2 := nb1
    rw [q3] at nb2
    refine EPost.later q4 ?_
    rcases hh γ fr ρ2 env m2 _ R2 nb2 with ⟨r, m3, ρ3, z1, R3, z3, z4⟩ | ⟨e, m3, z1, z2, z3⟩
    · rw [z1, Res.bind_ok, z3]
      have nb3 := nb2
      rw [z3] at nb3
      refine EPost.later z4 ?_
      cases e1 : gres ρ3 v with
      | none => rw [e1] at nb3; exact absurd rfl nb3
      | some x =>
        rw [e1] at nb3
        exact EPost.out R3 (slP_ok m3 w x l r (R3.see h1 e1)) nb3
    · rw [z1, Res.bind_err]
      exact .inr ⟨e, m3, rfl, z2, z3⟩
  · rw [q1, Res.bind_err]
    exact .inr ⟨e, m2, rfl, q2, q3⟩
/-! methods of texts -/
def gSm (p : Str → List D → PR D) (a : GEx) (b : GAx) : GEx := fun γ ρ K => a γ ρ fun v ρ1 => match v with
  | .v z => pts z fun t => b γ ρ1 fun vs ρ2 => match gress ρ2 vs with
    | some xs => (p t xs).bind fun z => K (.v z) ρ2
    | none => .bad
  | .r _ => .bad
theorem re_sm {o : W → List W → Mem → Res W} {p : Str → List D → PR D} (hp : SmP s o p) (ha : RE 3 ms fa ga) (hb : RA ss ms h k) : RE s ms (eMt "str" o fa h) (gSm p ga k) := by
  intro γ fr ρ env m K R nb
  refine EPost.bind nb (ha γ fr ρ env m _ R nb) fun w m1 v ρ1 R1 h1 a1 nb1 => ?_
  cases v with
  | r i => exact absurd rfl nb1
  | v z =>
    obtain ⟨t, rfl⟩ := pts_ne nb1
    rw [RVal.flat h1 (by intro ds e; cases e)]
    rw [if_pos (by rfl)]
    refine APost.bind nb1 (hb γ fr ρ1 env m1 _ R1 nb1) fun ws m2 vs ρ2 R2 h2 a2 nb2 => ?_
    cases e1 : gress ρ2 vs with
    | none => rw [e1] at nb2; exact absurd rfl nb2
    | some xs =>
      rw [e1] at nb2
      exact EPost.out R2 (hp m2 t ws xs (rvals_see R2 h2 e1)) nb2
/-! methods of a slot's list -/
def MuP (zs : Bool) (o : W → List W → Mem → Res W) (p : List D → List D → PR (D × List D)) : Prop := (∀ xs ds e, p xs ds ≠ .err e) ∧ ∀ m j xs ws ds r, m[j]? = some (.lst xs) → Sees m ws ds → (zs = true → ws = ds.map .d) → p xs ds = .ok r → o (.obj j) ws m = .ok (.d r.1) (m.set j (.lst r.2))
def gMu (p : List D → List D → PR (D × List D)) (i : Nat) (b : GAx) : GEx := fun γ ρ K => match ρ[i]? with
  | some (.l _ _) => b γ ρ fun vs ρ1 => match gress ρ1 vs, ρ1[i]? with
    | some ds, some (.l p' xs) => (p xs ds).bind fun r => K (.v r.1) (ρ1.set i (.l p' r.2))
    | _, _ => .bad
  | _ => .bad
theorem gvs_gress {ρ : List PV} : ∀ {vs : List GV} {xs : List D}, gvs vs = some xs → gress ρ vs = some xs
  | [], xs, e => e
  | .v x :: r, xs, e => by
    simp only [gvs] at e
    cases q : gvs r with
    | none => rw [q] at e; cases e
    | some ys =>
      rw [q] at e
      simp only [gress, gres, gvs_gress (ρ := ρ) q]
      exact e
  | .r _ :: _, xs, e => by cases e
theorem re_mu {zs : Bool} {o : W → List W → Mem → Res W} {p : List D → List D → PR (D × List D)} (hp : MuP zs o p) (i : Nat) (hb : RA ss ms h k) (hz : (!zs || allZ ss) = true := by rfl) (hi : isM ms i = true := by rfl) : RE 0 ms (eMt "list" o (eVar i) h) (gMu p i k) := by
  intro γ fr ρ env m K R nb
  simp only [gMu] at nb ⊢
  cases q : ρ[i]? with
  | none => rw [q] at nb; exact absurd rfl nb
  | some v =>
    cases v with
    | l p0 xs0 =>
      rw [q] at nb
      dsimp only at nb ⊢
      obtain ⟨j, e, ej⟩ := R.getL q
      simp only [eMt, eVar, e, Res.bind_ok]
      rw [if_pos (by simp [isTyW, ej])]
      refine APost.bind nb (hb γ fr ρ env m _ R nb) fun ws m1 vs ρ1 R1 h1 a1 nb1 => ?_
      cases e1 : gress ρ1 vs with
      | none => rw [e1] at nb1; exact absurd rfl nb1
      | some ds =>
        cases q1 : ρ1[i]? with
        | none => rw [e1, q1] at nb1; exact absurd rfl nb1
        | some v1 =>
          cases v1 with
          | l p1 xs =>
            rw [e1, q1] at nb1
            dsimp only at nb1 ⊢
            obtain ⟨j', f1, f2⟩ := R1.getL q1
            rw [e] at f1
            cases f1
            have hz' : zs = true → ws = ds.map .d := fun z => by
              have hz : allZ ss = true := by rw [z] at hz; simpa using hz
              obtain ⟨xs', z1, z2, z3, z4⟩ := rvals_z h1 hz
              have := gvs_gress (ρ := ρ1) z1
              rw [e1] at this
              cases this
              exact z4
            cases r0 : p xs ds with
            | bad => rw [r0] at nb1; exact absurd rfl nb1
            | err e => exact absurd r0 (hp.1 xs ds e)
            | ok r =>
              have w := hp.2 m1 j xs ws ds r f2 (rvals_see R1 h1 e1) hz' r0
              rw [w]
              obtain ⟨j2, g1, g2, R2⟩ := R1.mutL q1 r.2
              rw [e] at g1
              cases g1
              exact .inl ⟨_, _, .v r.1, _, rfl, R2, rfl, rfl, Ag.set hi⟩
          | _ => rw [e1, q1] at nb1; exact absurd rfl nb1
    | _ => rw [q] at nb; exact absurd rfl nb
def appendP (xs ds : List D) : PR (D × List D) := match ds with
  | [y] => if xs.length < sizeLine then .ok (.none, xs ++ [y]) else .bad
  | _ => .bad
theorem appendP_ok : MuP true appendW appendP := by
  refine ⟨fun xs ds e z => ?_, fun m j xs ws ds r hj hs hz z => ?_⟩
  · unfold appendP at z
    split at z
    · split at z <;> cases z
    · cases z
  · rw [hz rfl]
    unfold appendP at z
    split at z
    · rename_i y
      by_cases q : xs.length < sizeLine
      · rw [if_pos q] at z
        cases z
        simp [appendW, asO, hj, q]
      · rw [if_neg q] at z; cases z
    · cases z
def popAtP (xs ds : List D) : PR (D × List D) := match ds with
  | [.int k] => if grd (-(2 ^ 63) ≤ k ∧ k < 2 ^ 63) = true then (match seqIndex? k xs.length with
    | some j => match xs[j]? with
      | some y => .ok (y, xs.eraseIdx j)
      | none => .bad
    | none => .bad) else .bad
  | _ => .bad
theorem popAtP_ok : MuP true popAtW popAtP := by
  refine ⟨fun xs ds e z => ?_, fun m j xs ws ds r hj hs hz z => ?_⟩
  · unfold popAtP at z
    split at z
    · split at z
      · split at z
        · split at z <;> cases z
        · cases z
      · cases z
    · cases z
  · rw [hz rfl]
    have e : asO (.obj j) m = some (j, xs) := by simp [asO, hj]
    unfold popAtP at z
    split at z
    · rename_i k
      by_cases q : grd (-(2 ^ 63) ≤ k ∧ k < 2 ^ 63) = true
      · rw [if_pos q] at z
        simp only [List.map_cons, List.map_nil, popAtW, e]
        rw [if_pos q]
        cases q1 : seqIndex? k xs.length with
        | none => simp only [q1] at z; cases z
        | some i =>
          simp only [q1] at z
          cases q2 : xs[i]? with
          | none => simp only [q2] at z; cases z
          | some y =>
            simp only [q2] at z
            cases z
            simp only [q1, q2]
      · rw [if_neg q] at z; cases z
    · cases z
def clearP (_ ds : List D) : PR (D × List D) := match ds with
  | [] => .ok (.none, [])
  | _ => .bad
end
end
end M
set_option Elab.async false
set_option linter.all false
set_option maxRecDepth 100000
/-! P: statements -/
namespace M
open PySem L2
variable [HasW]
noncomputable section
abbrev GSx := (γ : Type) → List PV → (List PV → PR γ) → (List PV → PR γ) → (List PV → PR γ) → (GV → List PV → PR γ) → PR γ
inductive SPo {γ : Type} (fr : Fr) (sr : Nat) (ms : List Bool) (ρ : List PV) (env : Env) (p : PR γ) (kn kb kc : List PV → PR γ) (kr : GV → List PV → PR γ) : SRes → Prop
  | nx (env' : Env) (m' : Mem) (ρ' : List PV) : Rel fr ρ' env' m' → p = kn ρ' → Ag ms ρ ρ' → AgE ms env env' → SPo fr sr ms ρ env p kn kb kc kr (.nx env' m')
  | bk (env' : Env) (m' : Mem) (ρ' : List PV) : Rel fr ρ' env' m' → p = kb ρ' → Ag ms ρ ρ' → AgE ms env env' → SPo fr sr ms ρ env p kn kb kc kr (.bk env' m')
  | ct (env' : Env) (m' : Mem) (ρ' : List PV) : Rel fr ρ' env' m' → p = kc ρ' → Ag ms ρ ρ' → AgE ms env env' → SPo fr sr ms ρ env p kn kb kc kr (.ct env' m')
  | rt (w : W) (m' : Mem) (v : GV) (ρ' : List PV) (env' : Env) : Rel fr ρ' env' m' → RVal fr sr env' w v → p = kr v ρ' → Ag ms ρ ρ' → SPo fr sr ms ρ env p kn kb kc kr (.rt w m')
  | err (e : Exn) (env' : Env) (m' : Mem) : Rel fr (wip ms ρ) env' m' → p = .err e → AgE ms env env' → SPo fr sr ms ρ env p kn kb kc kr (.err e env' m')
def RS (sr : Nat) (ms : List Bool) (f : SF) (g : GSx) : Prop := ∀ (γ : Type) (fr : Fr) (ρ : List PV) (env : Env) (m : Mem) (kn kb kc : List PV → PR γ) (kr : GV → List PV → PR γ), Rel fr ρ env m → g γ ρ kn kb kc kr ≠ .bad → SPo fr sr ms ρ env (g γ ρ kn kb kc kr) kn kb kc kr (f env m)
section
variable {s sr : Nat} {ms : List Bool} {f fa fb : EF} {g ga gb : GEx} {sa sb : SF} {xa xb : GSx} {fp : TF} {gp : GTx} {γ : Type} {fr : Fr} {ρ ρ1 : List PV} {env env1 : Env} {p : PR γ} {kn kb kc : List PV → PR γ} {kr : GV → List PV → PR γ}
theorem SPo.later {r : SRes} (a : Ag ms ρ ρ1) (b : AgE ms env env1) (h : SPo fr sr ms ρ1 env1 p kn kb kc kr r) : SPo fr sr ms ρ env p kn kb kc kr r := by
  cases h with
  | nx e m q h1 h2 h3 h4 => exact .nx e m q h1 h2 (a.trans h3) (b.trans h4)
  | bk e m q h1 h2 h3 h4 => exact .bk e m q h1 h2 (a.trans h3) (b.trans h4)
  | ct e m q h1 h2 h3 h4 => exact .ct e m q h1 h2 (a.trans h3) (b.trans h4)
  | rt w m v q e h1 h2 h3 h4 => exact .rt w m v q e h1 h2 h3 (a.trans h4)
  | err e v m h1 h2 h3 => exact .err e v m (by rw [a.wip] at h1; exact h1) h2 (b.trans h3)
def gsNx : GSx := fun γ ρ kn _ _ _ => kn ρ
def gsCt : GSx := fun γ ρ _ _ kc _ => kc ρ
theorem rs_nx : RS sr ms sNx gsNx := fun γ fr ρ env m kn kb kc kr R nb => .nx env m ρ R rfl (Ag.refl _ _) (AgE.refl _ _)
theorem rs_ct : RS sr ms sCt gsCt := fun γ fr ρ env m kn kb kc kr R nb => .ct env m ρ R rfl (Ag.refl _ _) (AgE.refl _ _)
def gsSeq (a b : GSx) : GSx := fun γ ρ kn kb kc kr => a γ ρ (fun ρ' => b γ ρ' kn kb kc kr) kb kc kr
theorem rs_seq (ha : RS sr ms sa xa) (hb : RS sr ms sb xb) : RS sr ms (sSeq sa sb) (gsSeq xa xb) := by
  intro γ fr ρ env m kn kb kc kr R nb
  have h := ha γ fr ρ env m (fun ρ' => xb γ ρ' kn kb kc kr) kb kc kr R nb
  have e : gsSeq xa xb γ ρ kn kb kc kr = xa γ ρ (fun ρ' => xb γ ρ' kn kb kc kr) kb kc kr := rfl
  rw [e] at nb ⊢
  unfold sSeq
  generalize sa env m = r at h
  cases h with
  | nx e1 m1 q h1 h2 h3 h4 =>
    rw [h2] at nb ⊢
    exact SPo.later h3 h4 (hb γ fr q e1 m1 kn kb kc kr h1 nb)
  | bk e1 m1 q h1 h2 h3 h4 => exact .bk e1 m1 q h1 h2 h3 h4
  | ct e1 m1 q h1 h2 h3 h4 => exact .ct e1 m1 q h1 h2 h3 h4
  | rt w m1 v q e1 h1 h2 h3 h4 => exact .rt w m1 v q e1 h1 h2 h3 h4
  | err x e1 m1 h1 h2 h3 => exact .err x e1 m1 h1 h2 h3
/-- an expression ahead -/
theorem EPost.stmt {K0 : GV → List PV → PR γ} {r : Res W} {k : W → Mem → SRes} (nb : p ≠ .bad) (h : EPost fr s ms ρ env r p K0)
    (hk : ∀ w m' v ρ', Rel fr ρ' env m' → RVal fr s env w v → Ag ms ρ ρ' → K0 v ρ' ≠ .bad → SPo fr sr ms ρ' env (K0 v ρ') kn kb kc kr (k w m')) : SPo fr sr ms ρ env p kn kb kc kr (eS r env k) := by
  rcases h with ⟨w, m', v, ρ', h1, h2, h3, h4, h5⟩ | ⟨e, m', h1, h2, h3⟩
  · rw [h1, eS_ok, h4]
    exact SPo.later h5 (AgE.refl _ _) (hk w m' v ρ' h2 h3 h5 (by rw [← h4]; exact nb))
  · rw [h1, eS_err]
    exact .err e env m' h3 h2 (AgE.refl _ _)
theorem TPost.stmt {K0 : Bool → List PV → PR γ} {r : Res Bool} {k : Bool → Mem → SRes} (nb : p ≠ .bad) (h : TPost fr ms ρ env r p K0)
    (hk : ∀ b m' ρ', Rel fr ρ' env m' → Ag ms ρ ρ' → K0 b ρ' ≠ .bad → SPo fr sr ms ρ' env (K0 b ρ') kn kb kc kr (k b m')) : SPo fr sr ms ρ env p kn kb kc kr (eS r env k) := by
  rcases h with ⟨b, m', ρ', h1, h2, h4, h5⟩ | ⟨e, m', h1, h2, h3⟩
  · rw [h1, eS_ok, h4]
    exact SPo.later h5 (AgE.refl _ _) (hk b m' ρ' h2 h5 (by rw [← h4]; exact nb))
  · rw [h1, eS_err]
    exact .err e env m' h3 h2 (AgE.refl _ _)
def gsIf (c : GTx) (a b : GSx) : GSx := fun γ ρ kn kb kc kr => c γ ρ fun t ρ1 => if t = true then a γ ρ1 kn kb kc kr else b γ ρ1 kn kb kc kr
theorem rs_if (hc : RT ms fp gp) (ha : RS sr ms sa xa) (hb : RS sr ms sb xb) : RS sr ms (sIf fp sa sb) (gsIf gp xa xb) := by
  intro γ fr ρ env m kn kb kc kr R nb
  refine TPost.stmt nb (hc γ fr ρ env m _ R nb) fun t m1 ρ1 R1 a1 nb1 => ?_
  cases t with
  | true => rw [if_pos rfl] at nb1 ⊢; rw [if_pos rfl]; exact ha γ fr ρ1 env m1 kn kb kc kr R1 nb1
  | false => rw [if_neg (by simp)] at nb1 ⊢; rw [if_neg (by simp)]; exact hb γ fr ρ1 env m1 kn kb kc kr R1 nb1
def gsRet (a : GEx) : GSx := fun γ ρ kn kb kc kr => a γ ρ kr
theorem rs_ret (ha : RE sr ms fa ga) : RS sr ms (sRet fa) (gsRet ga) := by
  intro γ fr ρ env m kn kb kc kr R nb
  refine EPost.stmt nb (ha γ fr ρ env m _ R nb) fun w m1 v ρ1 R1 h1 a1 nb1 => ?_
  exact .rt w m1 v ρ1 env R1 h1 rfl (Ag.refl _ _)
def gsDrop (a : GEx) : GSx := fun γ ρ kn kb kc kr => a γ ρ fun _ ρ1 => kn ρ1
theorem rs_drop (ha : RE s ms fa ga) : RS sr ms (sDrop fa) (gsDrop ga) := by
  intro γ fr ρ env m kn kb kc kr R nb
  refine EPost.stmt nb (ha γ fr ρ env m _ R nb) fun w m1 v ρ1 R1 h1 a1 nb1 => ?_
  exact .nx env m1 ρ1 R1 rfl (Ag.refl _ _) (AgE.refl _ _)
/-! targets -/
def ptup {γ : Type} (x : D) (k : List D → PR γ) : PR γ := match x with
  | .tuple ds => k ds
  | _ => .bad
def pcons {γ : Type} (ds : List D) (k : D → List D → PR γ) : PR γ := match ds with
  | d :: r => k d r
  | [] => .bad
def pnil {γ : Type} (ds : List D) (k : PR γ) : PR γ := match ds with
  | [] => k
  | _ :: _ => .bad
abbrev GTg := (γ : Type) → D → List PV → (List PV → PR γ) → PR γ
def RG (ms : List Bool) (g : GF) (k : GTg) : Prop := ∀ (γ : Type) (fr : Fr) (ρ : List PV) (env : Env) (m : Mem) (x : D) (K : List PV → PR γ), Rel fr ρ env m → k γ x ρ K ≠ .bad →
  ∃ env' ρ', g (.d x) env = some env' ∧ Rel fr ρ' env' m ∧ k γ x ρ K = K ρ' ∧ Ag ms ρ ρ' ∧ AgE ms env env'
def gtSet (i : Nat) : GTg := fun γ x ρ K => K (ρ.set i (.d x))
theorem rg_set (i : Nat) (hi : isM ms i = true := by rfl) : RG ms (gSet i) (gtSet i) := fun γ fr ρ env m x K R nb => ⟨_, _, rfl, R.setD i x, rfl, Ag.set hi, AgE.set hi⟩
abbrev GTs := (γ : Type) → List D → List PV → (List PV → PR γ) → PR γ
def RGs (ms : List Bool) (g : GsF) (k : GTs) (n : Nat) : Prop := ∀ (γ : Type) (fr : Fr) (ρ : List PV) (env : Env) (m : Mem) (x : List D) (K : List PV → PR γ), Rel fr ρ env m → k γ x ρ K ≠ .bad →
  ∃ env' ρ', x.length = n ∧ g x env = some env' ∧ Rel fr ρ' env' m ∧ k γ x ρ K = K ρ' ∧ Ag ms ρ ρ' ∧ AgE ms env env'
def gtsNil : GTs := fun γ ds ρ K => pnil ds (K ρ)
def gtsCons (t : GTg) (r : GTs) : GTs := fun γ ds ρ K => pcons ds fun d ds => t γ d ρ fun ρ1 => r γ ds ρ1 K
theorem rgs_nil : RGs ms gsNil gtsNil 0 := by
  intro γ fr ρ env m x K R nb
  cases x with
  | nil => exact ⟨env, ρ, rfl, rfl, R, rfl, Ag.refl _ _, AgE.refl _ _⟩
  | cons a b => exact absurd rfl nb
theorem rgs_cons {t : GF} {r : GsF} {gt : GTg} {gr : GTs} {n : Nat} (ht : RG ms t gt) (hr : RGs ms r gr n) : RGs ms (gsCons t r) (gtsCons gt gr) (n + 1) := by
  intro γ fr ρ env m x K R nb
  cases x with
  | nil => exact absurd rfl nb
  | cons a b =>
    have nb : gt γ a ρ (fun ρ1 => gr γ b ρ1 K) ≠ .bad := nb
    obtain ⟨e1, ρ1, h1, h2, h3, h4, h5⟩ := ht γ fr ρ env m a _ R nb
    obtain ⟨e2, ρ2, q0, q1, q2, q3, q4, q5⟩ := hr γ fr ρ1 e1 m b K h2 (fun z => nb (h3.trans z))
    exact ⟨e2, ρ2, by simp [q0], by simp only [gsCons, h1, Option.bind_some]; exact q1, q2, h3.trans q3, h4.trans q4, h5.trans q5⟩
def gtTup (r : GTs) : GTg := fun γ x ρ K => ptup x fun ds => r γ ds ρ K
theorem rg_tup {r : GsF} {gr : GTs} {n : Nat} (hr : RGs ms r gr n) : RG ms (gTupF n r) (gtTup gr) := by
  intro γ fr ρ env m x K R nb
  cases x with
  | tuple ds =>
    have nb : gr γ ds ρ K ≠ .bad := nb
    obtain ⟨e2, ρ2, q0, q1, q2, q3, q4, q5⟩ := hr γ fr ρ env m ds K R nb
    exact ⟨e2, ρ2, by simp only [gTupF]; rw [if_pos q0]; exact q1, q2, q3, q4, q5⟩
  | _ => exact absurd rfl nb
def gsAsg (a : GEx) (t : GTg) : GSx := fun γ ρ kn kb kc kr => a γ ρ fun v ρ1 => match v with
  | .v x => t γ x ρ1 kn
  | .r _ => .bad
theorem rs_asg {t : GF} {gt : GTg} (ha : RE 0 ms fa ga) (ht : RG ms t gt) : RS sr ms (sAsg fa t) (gsAsg ga gt) := by
  intro γ fr ρ env m kn kb kc kr R nb
  refine EPost.stmt nb (ha γ fr ρ env m _ R nb) fun w m1 v ρ1 R1 h1 a1 nb1 => ?_
  cases v with
  | r i => exact absurd rfl nb1
  | v x =>
    have h1 : w = .d x := h1
    subst h1
    obtain ⟨e1, ρ2, q1, q2, q3, q4, q5⟩ := ht γ fr ρ1 env m1 x kn R1 nb1
    simp only [asgK, q1]
    exact .nx e1 m1 ρ2 q2 q3 q4 q5
def ptl {γ : Type} (x : D) (k : List D → PR γ) : PR γ := match x with
  | .list ds => k ds
  | _ => .bad
@[simp] theorem ptl_list {γ : Type} (ds : List D) (k : List D → PR γ) : ptl (.list ds) k = k ds := rfl
@[simp] theorem ptup_tuple {γ : Type} (ds : List D) (k : List D → PR γ) : ptup (.tuple ds) k = k ds := rfl
@[simp] theorem pcons_cons {γ : Type} (d : D) (ds : List D) (k : D → List D → PR γ) : pcons (d :: ds) k = k d ds := rfl
@[simp] theorem pnil_nil {γ : Type} (k : PR γ) : pnil [] k = k := rfl
def gsAsgL (a : GEx) (i : Nat) : GSx := fun γ ρ kn kb kc kr => a γ ρ fun v ρ1 => match v with
  | .v x => ptl x fun xs => kn (ρ1.set i (.l false xs))
  | .r _ => .bad
theorem rs_asgL (i : Nat) (ha : RE 1 ms fa ga) (hi : isM ms i = true := by rfl) : RS sr ms (sAsg (eObj fa) (gSet i)) (gsAsgL ga i) := by
  intro γ fr ρ env m kn kb kc kr R nb
  have h := ha γ fr ρ env m _ R nb
  rcases h with ⟨w, m1, v, ρ1, h1, R1, h3, h4, h5⟩ | ⟨e, m1, h1, h2, h3⟩
  · have e0 : gsAsgL ga i γ ρ kn kb kc kr = _ := h4
    rw [e0] at nb ⊢
    cases v with
    | r i => exact absurd rfl nb
    | v x =>
      cases x with
      | list xs =>
        have h3 : w = .fl xs := h3
        subst h3
        simp only [sAsg, eObj, h1, Res.bind_ok, eS_ok, asgK, gSet]
        exact .nx _ _ (ρ1.set i (.l false xs)) (R1.setL i xs) rfl (h5.trans (Ag.set hi)) (AgE.set hi)
      | _ => exact absurd rfl nb
  · simp only [sAsg, eObj, h1, Res.bind_err, eS_err]
    exact .err e env m1 h3 h2 (AgE.refl _ _)
def gsSetI (i : Nat) (ix a : GEx) : GSx := fun γ ρ kn kb kc kr => a γ ρ fun v ρ1 => match ρ1[i]? with
  | some (.l _ _) => ix γ ρ1 fun u ρ2 => match v, u, ρ2[i]? with
    | .v y, .v z, some (.l p xs) => pti z fun k => match ixN xs.length k with
      | some n => kn (ρ2.set i (.l p (xs.set n y)))
      | none => .bad
    | _, _, _ => .bad
  | _ => .bad
theorem rs_setI (i : Nat) {fi : EF} {gi : GEx} (ha : RE 0 ms fa ga) (hx : RE 3 ms fi gi) (hi : isM ms i = true := by rfl) : RS sr ms (sSetI (eVar i) fi fa) (gsSetI i gi ga) := by
  intro γ fr ρ env m kn kb kc kr R nb
  rcases ha γ fr ρ env m _ R nb with ⟨w, m1, v, ρ1, h1, R1, h3, h4, h5⟩ | ⟨e1, m1, h1, h2, h3⟩
  · have e0 : gsSetI i gi ga γ ρ kn kb kc kr = _ := h4
    rw [e0] at nb ⊢
    dsimp only at nb ⊢
    cases q1 : ρ1[i]? with
    | none => rw [q1] at nb; exact absurd rfl nb
    | some v1 =>
      cases v1 with
      | l p1 xs1 =>
        rw [q1] at nb
        dsimp only at nb ⊢
        obtain ⟨j, ej, ej2⟩ := R1.getL q1
        rcases hx γ fr ρ1 env m1 _ R1 nb with ⟨w2, m2, v2, ρ2, z1, R2, z3, z4, z5⟩ | ⟨e2, m2, z1, z2, z3⟩
        · rw [z4] at nb ⊢
          dsimp only at nb ⊢
          cases v with
          | r k => exact absurd h3.1 (by decide)
          | v y =>
            have h3 : w = .d y := h3
            subst h3
            cases v2 with
            | r k => exact absurd rfl nb
            | v z =>
              cases q2 : ρ2[i]? with
              | none => rw [q2] at nb; exact absurd rfl nb
              | some u2 =>
                cases u2 with
                | l p2 xs =>
                  rw [q2] at nb
                  dsimp only at nb ⊢
                  obtain ⟨k, rfl⟩ := pti_ne nb
                  rw [pti_int] at nb ⊢
                  have := RVal.flat z3 (by intro ds e; cases e)
                  subst this
                  cases q3 : ixN xs.length k with
                  | none => rw [q3] at nb; exact absurd rfl nb
                  | some n =>
                    obtain ⟨j2, f1, f2, R3⟩ := R2.mutL q2 (xs.set n y)
                    have f1' := f1
                    rw [ej] at f1'
                    cases f1'
                    simp only [sSetI, h1, Res.bind_ok, eVar, ej, z1, asO, f2, q3, eS_ok]
                    exact .nx _ _ _ R3 rfl (h5.trans (z5.trans (Ag.set hi))) (AgE.refl _ _)
                | _ => rw [q2] at nb; exact absurd rfl nb
        · simp only [sSetI, h1, Res.bind_ok, eVar, ej, z1, Res.bind_err, eS_err]
          exact .err e2 env m2 (by rw [← h5.wip]; exact z3) z2 (AgE.refl _ _)
      | _ => rw [q1] at nb; exact absurd rfl nb
  · simp only [sSetI, h1, Res.bind_err, eS_err]
    exact .err e1 env m1 h3 h2 (AgE.refl _ _)
end
end
end M
set_option Elab.async false
set_option linter.all false
set_option maxRecDepth 100000
/-! P: loops, comprehensions -/
namespace M
open PySem L2
variable [HasW]
noncomputable section
inductive Kd where
  | d
  | l (p : Bool)
  | k (p : Bool)
  | m
  | t (p : Bool)
@[reducible] def St : List (Nat × Kd) → Type
  | [] => Unit
  | (_, .d) :: r => D × St r
  | (_, .l _) :: r => List D × St r
  | (_, .k _) :: r => Dk × St r
  | (_, .m) :: r => List (Str × D) × St r
  | (_, .t _) :: r => List (D × TV) × St r
def un : (ds : List (Nat × Kd)) → List PV → Option (St ds)
  | [], _ => some ()
  | (i, .d) :: r, ρ => match ρ[i]? with
    | some (.d x) => (match un r ρ with | some s => some (x, s) | none => none)
    | _ => none
  | (i, .l true) :: r, ρ => match ρ[i]? with
    | some (.l true x) => (match un r ρ with | some s => some (x, s) | none => none)
    | _ => none
  | (i, .l false) :: r, ρ => match ρ[i]? with
    | some (.l false x) => (match un r ρ with | some s => some (x, s) | none => none)
    | _ => none
  | (i, .k true) :: r, ρ => match ρ[i]? with
    | some (.k true x) => (match un r ρ with | some s => some (x, s) | none => none)
    | _ => none
  | (i, .k false) :: r, ρ => match ρ[i]? with
    | some (.k false x) => (match un r ρ with | some s => some (x, s) | none => none)
    | _ => none
  | (i, .m) :: r, ρ => match ρ[i]? with
    | some (.m x) => (match un r ρ with | some s => some (x, s) | none => none)
    | _ => none
  | (i, .t true) :: r, ρ => match ρ[i]? with
    | some (.t true x) => (match un r ρ with | some s => some (x, s) | none => none)
    | _ => none
  | (i, .t false) :: r, ρ => match ρ[i]? with
    | some (.t false x) => (match un r ρ with | some s => some (x, s) | none => none)
    | _ => none
def put : (ds : List (Nat × Kd)) → List PV → St ds → List PV
  | [], ρ, _ => ρ
  | (i, .d) :: r, ρ, s => put r (ρ.set i (.d s.1)) s.2
  | (i, .l p) :: r, ρ, s => put r (ρ.set i (.l p s.1)) s.2
  | (i, .k p) :: r, ρ, s => put r (ρ.set i (.k p s.1)) s.2
  | (i, .m) :: r, ρ, s => put r (ρ.set i (.m s.1)) s.2
  | (i, .t p) :: r, ρ, s => put r (ρ.set i (.t p s.1)) s.2
theorem put_length : ∀ (ds : List (Nat × Kd)) (ρ : List PV) (s : St ds), (put ds ρ s).length = ρ.length
  | [], ρ, _ => rfl
  | (i, .d) :: r, ρ, s => by simp [put, put_length r]
  | (i, .l p) :: r, ρ, s => by simp [put, put_length r]
  | (i, .k p) :: r, ρ, s => by simp [put, put_length r]
  | (i, .m) :: r, ρ, s => by simp [put, put_length r]
  | (i, .t p) :: r, ρ, s => by simp [put, put_length r]
/-- σ knows no more than ρ' -/
def Less (σ ρ' : List PV) : Prop := ∀ (i : Nat) (v : PV), σ[i]? = some v → v = PV.x ∨ ρ'[i]? = some v
theorem Less.set {σ ρ' : List PV} (h : Less σ ρ') {i : Nat} {v : PV} (e : ρ'[i]? = some v) : Less (σ.set i v) ρ' := by
  intro k u hk
  by_cases hi : k = i
  · subst hi
    have hl : k < σ.length := by
      have := (List.getElem?_eq_some_iff.mp hk).1
      simpa using this
    rw [List.getElem?_set_self hl] at hk
    cases hk
    exact .inr e
  · rw [List.getElem?_set_ne (Ne.symm hi)] at hk
    exact h k u hk
theorem put_less : ∀ (ds : List (Nat × Kd)) {σ ρ' : List PV} {s : St ds}, Less σ ρ' → un ds ρ' = some s → Less (put ds σ s) ρ'
  | [], σ, ρ', s, h, _ => h
  | (i, .d) :: r, σ, ρ', s, h, e => by
    simp only [un] at e
    split at e
    · rename_i x hx
      split at e
      · rename_i s' hs
        cases e
        exact put_less r (h.set hx) hs
      · cases e
    · cases e
  | (i, .l true) :: r, σ, ρ', s, h, e => by
    simp only [un] at e
    split at e
    · rename_i x hx
      split at e
      · rename_i s' hs
        cases e
        exact put_less r (h.set hx) hs
      · cases e
    · cases e
  | (i, .l false) :: r, σ, ρ', s, h, e => by
    simp only [un] at e
    split at e
    · rename_i x hx
      split at e
      · rename_i s' hs
        cases e
        exact put_less r (h.set hx) hs
      · cases e
    · cases e
  | (i, .k true) :: r, σ, ρ', s, h, e => by
    simp only [un] at e
    split at e
    · rename_i x hx
      split at e
      · rename_i s' hs
        cases e
        exact put_less r (h.set hx) hs
      · cases e
    · cases e
  | (i, .k false) :: r, σ, ρ', s, h, e => by
    simp only [un] at e
    split at e
    · rename_i x hx
      split at e
      · rename_i s' hs
        cases e
        exact put_less r (h.set hx) hs
      · cases e
    · cases e
  | (i, .m) :: r, σ, ρ', s, h, e => by
    simp only [un] at e
    split at e
    · rename_i x hx
      split at e
      · rename_i s' hs
        cases e
        exact put_less r (h.set hx) hs
      · cases e
    · cases e
  | (i, .t true) :: r, σ, ρ', s, h, e => by
    simp only [un] at e
    split at e
    · rename_i x hx
      split at e
      · rename_i s' hs
        cases e
        exact put_less r (h.set hx) hs
      · cases e
    · cases e
  | (i, .t false) :: r, σ, ρ', s, h, e => by
    simp only [un] at e
    split at e
    · rename_i x hx
      split at e
      · rename_i s' hs
        cases e
        exact put_less r (h.set hx) hs
      · cases e
    · cases e
def inM (ms : List Bool) : List (Nat × Kd) → Bool
  | [] => true
  | (i, _) :: r => isM ms i && inM ms r
def outM (ms : List Bool) : List (Nat × Kd) → Bool
  | [] => true
  | (i, _) :: r => !isM ms i && outM ms r
theorem put_ag {ms : List Bool} : ∀ (ds : List (Nat × Kd)) {ρ σ : List PV} {s : St ds}, Ag ms ρ σ → inM ms ds = true → Ag ms ρ (put ds σ s)
  | [], ρ, σ, s, h, _ => h
  | (i, .d) :: r, ρ, σ, s, h, e => by
    simp only [inM, Bool.and_eq_true] at e
    exact put_ag r (h.trans (Ag.set e.1)) e.2
  | (i, .l p) :: r, ρ, σ, s, h, e => by
    simp only [inM, Bool.and_eq_true] at e
    exact put_ag r (h.trans (Ag.set e.1)) e.2
  | (i, .t p) :: r, ρ, σ, s, h, e => by
    simp only [inM, Bool.and_eq_true] at e
    exact put_ag r (h.trans (Ag.set e.1)) e.2
  | (i, .k p) :: r, ρ, σ, s, h, e => by
    simp only [inM, Bool.and_eq_true] at e
    exact put_ag r (h.trans (Ag.set e.1)) e.2
  | (i, .m) :: r, ρ, σ, s, h, e => by
    simp only [inM, Bool.and_eq_true] at e
    exact put_ag r (h.trans (Ag.set e.1)) e.2
theorem wip_less {ms : List Bool} {ρ ρ' : List PV} (a : Ag ms ρ ρ') : Less (wip ms ρ) ρ' := by
  intro i v h
  rw [wip_get] at h
  by_cases q : isM ms i = true
  · rw [if_pos q] at h
    cases z : ρ[i]? with
    | none => rw [z] at h; cases h
    | some u => rw [z] at h; cases h; exact .inl rfl
  · rw [if_neg q] at h
    exact .inr (by rw [a.get i (by simpa using q)]; exact h)
/-- the state of a loop from what is known behind a turn -/
theorem Rel.shape {fr : Fr} {ρ1 ρ' : List PV} {env : Env} {m : Mem} {ms : List Bool} {ds : List (Nat × Kd)} {s : St ds} (R : Rel fr ρ' env m) (a : Ag ms ρ1 ρ') (e : un ds ρ' = some s) : Rel fr (put ds (M.wip ms ρ1) s) env m := by
  refine R.sub (by rw [put_length, wip_length, a.len]) rfl fun i v h => ?_
  rcases put_less ds (wip_less a) e i v h with h | h
  · exact .inl h
  · exact .inr ⟨h, rfl⟩
theorem shape_ag {ρ1 : List PV} {ms : List Bool} {ds : List (Nat × Kd)} (hd : inM ms ds = true) (s : St ds) : Ag ms ρ1 (put ds (wip ms ρ1) s) := put_ag ds (wip_wip ms ρ1) hd
/-! ### what is walked -/
abbrev GIx := (γ : Type) → List PV → (List D → Option Nat → List PV → PR γ) → PR γ
def ItC (fr : Fr) (ρ' : List PV) (env : Env) (I : Its) (src : Option Nat) : Prop := ∀ ρ2 env2 m2, Rel fr ρ2 env2 m2 → (∀ i, src = some i → ρ2[i]? = ρ'[i]? ∧ env2[i]? = env[i]?) → I.chk m2 = true
def RI (ms : List Bool) (f : IF) (g : GIx) : Prop := ∀ (γ : Type) (fr : Fr) (ρ : List PV) (env : Env) (m : Mem) (K : List D → Option Nat → List PV → PR γ), Rel fr ρ env m → g γ ρ K ≠ .bad →
  (∃ I m' xs src ρ', f env m = .ok I m' ∧ Rel fr ρ' env m' ∧ g γ ρ K = K xs src ρ' ∧ Ag ms ρ ρ' ∧ I.xs = xs.map .d ∧ ItC fr ρ' env I src) ∨ (∃ e m', f env m = .err e m' ∧ g γ ρ K = .err e ∧ Rel fr (wip ms ρ) env m')
def itemsP (x : D) : PR (List D) := match x with
  | .tuple ds => .ok ds
  | .list ds => .ok ds
  | .str z => .ok (z.cps.toList.map fun c => .str ⟨#[c]⟩)
  | _ => .bad
section
variable {s sr : Nat} {ms : List Bool} {f fa fb : EF} {g ga gb : GEx} {sa sb : SF} {xa xb : GSx} {fp : TF} {gp : GTx}
def giSeq (a : GEx) : GIx := fun γ ρ K => a γ ρ fun v ρ1 => match v with
  | .v x => (itemsP x).bind fun xs => K xs none ρ1
  | .r i => match ρ1[i]? with
    | some (.l _ xs) => K xs (some i) ρ1
    | _ => .bad
theorem ri_seq (ha : RE 3 ms fa ga) : RI ms (iSeq fa) (giSeq ga) := by
  intro γ fr ρ env m K R nb
  rcases ha γ fr ρ env m _ R nb with ⟨w, m1, v, ρ1, h1, R1, h3, h4, h5⟩ | ⟨e1, m1, h1, h2, h3⟩
  · have e0 : giSeq ga γ ρ K = _ := h4
    rw [e0] at nb ⊢
    dsimp only at nb ⊢
    simp only [iSeq, h1, Res.bind_ok]
    cases v with
    | r i =>
      have hw := h3.2
      cases q : ρ1[i]? with
      | none => simp only [q] at nb; exact absurd rfl nb
      | some u =>
        cases u with
        | l p xs =>
          simp only [q]
          obtain ⟨j, e1, e2⟩ := R1.getL q
          rw [e1] at hw
          cases hw
          have e3 : asL (.obj j) m1 = some xs := by simp [asL, e2]
          refine .inl ⟨⟨xs.map .d, sameM j xs⟩, m1, xs, some i, ρ1, by simp only [walkW, e3], R1, rfl, h5, rfl, fun ρ2 env2 m2 R2 hs => ?_⟩
          obtain ⟨hs1, hs2⟩ := hs i rfl
          rw [q] at hs1
          obtain ⟨j2, g1, g2⟩ := R2.getL hs1
          rw [hs2, e1] at g1
          cases g1
          simp only [sameM, asL, g2]
          exact grd_t trivial
        | _ => simp only [q] at nb; exact absurd rfl nb
    | v x =>
      have h3 : VW fr 3 w x := h3
      cases x with
      | tuple ds =>
        have := RVal.flat (s := 3) (env := env) (x := .tuple ds) h3 (by intro ds e; cases e)
        subst this
        exact .inl ⟨itsL ds, m1, ds, none, ρ1, rfl, R1, rfl, h5, rfl, fun _ _ _ _ _ => rfl⟩
      | str z =>
        have := RVal.flat (s := 3) (env := env) (x := .str z) h3 (by intro ds e; cases e)
        subst this
        exact .inl ⟨⟨z.cps.toList.map fun c => .d (.str ⟨#[c]⟩), yesM⟩, m1, z.cps.toList.map fun c => .str ⟨#[c]⟩, none, ρ1, rfl, R1, rfl, h5, by simp, fun _ _ _ _ _ => rfl⟩
      | list ds =>
        rcases h3 with rfl | ⟨es, e, rfl | rfl | rfl | ⟨j, rfl, hj, hp⟩⟩
        · exact .inl ⟨itsL ds, m1, ds, none, ρ1, rfl, R1, rfl, h5, rfl, fun _ _ _ _ _ => rfl⟩
        · cases e; exact .inl ⟨itsL ds, m1, ds, none, ρ1, rfl, R1, rfl, h5, rfl, fun _ _ _ _ _ => rfl⟩
        · cases e; exact .inl ⟨itsL ds, m1, ds, none, ρ1, rfl, R1, rfl, h5, rfl, fun _ _ _ _ _ => rfl⟩
        · cases e; exact .inl ⟨itsL ds, m1, ds, none, ρ1, rfl, R1, rfl, h5, rfl, fun _ _ _ _ _ => rfl⟩
        · cases e
          have hl := (List.getElem?_eq_some_iff.mp hj).1
          have e3 : asL (.obj j) m1 = some ds := by simp [asL, R1.fix j hl hp, hj]
          refine .inl ⟨⟨ds.map .d, sameM j ds⟩, m1, ds, none, ρ1, by simp only [walkW, e3], R1, rfl, h5, rfl, fun ρ2 env2 m2 R2 _ => ?_⟩
          simp only [sameM, asL, R2.fix j hl hp, hj]
          exact grd_t trivial
      | _ => exact absurd rfl nb
  · exact .inr ⟨e1, m1, by simp only [iSeq, h1, Res.bind_err], h2, h3⟩
def rng1P (xs : List D) : PR (List D) := match xs with
  | [.int j] => if smallI j = true then .ok ((List.range j.toNat).map fun (k : Nat) => .int (0 + (k : Int))) else .bad
  | _ => .bad
def ItP (o : List W → Mem → Res Its) (p : List D → PR (List D)) : Prop := (∀ xs e, p xs ≠ .err e) ∧ ∀ m ws ds xs, Sees m ws ds → p ds = .ok xs → ∃ I, o ws m = .ok I m ∧ I.xs = xs.map .d ∧ ∀ m2, I.chk m2 = true
theorem rng1P_ok : ItP rng1 rng1P := by
  refine ⟨fun xs e z => ?_, fun m ws ds xs h e => ?_⟩
  · unfold rng1P at z
    split at z
    · split at z <;> cases z
    · cases z
  · unfold rng1P at e
    split at e
    · rename_i j
      obtain ⟨w, rfl, hw⟩ := sees1 h
      rw [see_flat hw (by intro ds e; cases e)]
      by_cases q : smallI j = true
      · rw [if_pos q] at e
        cases e
        exact ⟨rngI 0 j.toNat, by simp only [rng1]; rw [if_pos q], by simp [rngI], fun _ => rfl⟩
      · rw [if_neg q] at e; cases e
    · cases e
/-- lists as they are (data or fresh), told by strict values -/
def ItZ (o : List W → Mem → Res Its) (p : List D → PR (List D)) : Prop := (∀ xs e, p xs ≠ .err e) ∧ ∀ m ds xs, p ds = .ok xs → ∃ I, o (ds.map .d) m = .ok I m ∧ I.xs = xs.map .d ∧ ∀ m2, I.chk m2 = true
def enumP (xs : List D) : PR (List D) := match xs with
  | [.list ds] => .ok (enumD ds)
  | _ => .bad
theorem enumP_ok : ItZ enumW enumP := by
  refine ⟨fun xs e z => ?_, fun m ds xs e => ?_⟩
  · unfold enumP at z
    split at z <;> cases z
  · unfold enumP at e
    split at e
    · cases e
      exact ⟨itsL (enumD _), rfl, rfl, fun _ => rfl⟩
    · cases e
def giCa (p : List D → PR (List D)) (a : GAx) : GIx := fun γ ρ K => a γ ρ fun vs ρ1 => match gress ρ1 vs with
  | some xs => (p xs).bind fun ys => K ys none ρ1
  | none => .bad
theorem ri_ca0 {o : List W → Mem → Res Its} {p : List D → PR (List D)} {ss : List Nat} {h : AF} {k : GAx} (he : ∀ xs e, p xs ≠ .err e) (hp : ∀ fr ρ env m ws vs ds xs, Rel fr ρ env m → RVals fr env ss ws vs → gress ρ vs = some ds → p ds = .ok xs → ∃ I, o ws m = .ok I m ∧ I.xs = xs.map .d ∧ ∀ m2, I.chk m2 = true) (ha : RA ss ms h k) : RI ms (fun env m => (h env m).bind o) (giCa p k) := by
  intro γ fr ρ env m K R nb
  rcases ha γ fr ρ env m _ R nb with ⟨ws, m1, vs, ρ1, h1, R1, h3, h4, h5⟩ | ⟨e1, m1, h1, h2, h3⟩
  · have e0 : giCa p k γ ρ K = _ := h4
    rw [e0] at nb ⊢
    dsimp only at nb ⊢
    cases q : gress ρ1 vs with
    | none => simp only [q] at nb; exact absurd rfl nb
    | some xs =>
      simp only [q] at nb ⊢
      cases r : p xs with
      | bad => rw [r] at nb; exact absurd rfl nb
      | err e => exact absurd r (he xs e)
      | ok ys =>
        obtain ⟨I, i1, i2, i3⟩ := hp fr ρ1 env m1 ws vs xs ys R1 h3 q r
        exact .inl ⟨I, m1, ys, none, ρ1, by simp only [h1, Res.bind_ok, i1], R1, rfl, h5, i2, fun _ _ m2 _ _ => i3 m2⟩
  · exact .inr ⟨e1, m1, by simp only [h1, Res.bind_err], h2, h3⟩
theorem ri_ca {o : List W → Mem → Res Its} {p : List D → PR (List D)} {ss : List Nat} {h : AF} {k : GAx} (hp : ItP o p) (ha : RA ss ms h k) : RI ms (fun env m => (h env m).bind o) (giCa p k) :=
  ri_ca0 hp.1 (fun fr ρ env m ws vs ds xs R h q e => hp.2 m ws ds xs (rvals_see R h q) e) ha
theorem ri_cz {o : List W → Mem → Res Its} {p : List D → PR (List D)} {ss : List Nat} {h : AF} {k : GAx} (hp : ItZ o p) (ha : RA ss ms h k) (hz : allZ ss = true := by rfl) : RI ms (fun env m => (h env m).bind o) (giCa p k) :=
  ri_ca0 hp.1 (fun fr ρ env m ws vs ds xs R h q e => by
    obtain ⟨xs', z1, z2, z3, z4⟩ := rvals_z h hz
    have := gvs_gress (ρ := ρ) z1
    rw [q] at this
    cases this
    rw [z4]
    exact hp.2 m ds xs e) ha
theorem ri_range1 {ss : List Nat} {h : AF} {k : GAx} (ha : RA ss ms h k) : RI ms (iRange1 h) (giCa rng1P k) := ri_ca rng1P_ok ha
theorem ri_enum {ss : List Nat} {h : AF} {k : GAx} (ha : RA ss ms h k) (hz : allZ ss = true := by rfl) : RI ms (iEnumF h) (giCa enumP k) := ri_cz enumP_ok ha hz
/-! ### for -/
def foldK {S γ : Type} (step : D → S → (S → PR γ) → (S → PR γ) → PR γ) : List D → S → (S → PR γ) → PR γ
  | [], s, k => k s
  | x :: xs, s, k => step x s (fun s' => foldK step xs s' k) k
def okSrc (ms : List Bool) : Option Nat → Bool
  | none => true
  | some i => !isM ms i
def unK {γ : Type} (ds : List (Nat × Kd)) (ρ : List PV) (k : St ds → PR γ) : PR γ := match un ds ρ with
  | some s => k s
  | none => .bad
theorem unK_ne {γ : Type} {ds : List (Nat × Kd)} {ρ : List PV} {k : St ds → PR γ} (h : unK ds ρ k ≠ .bad) : ∃ s, un ds ρ = some s ∧ unK ds ρ k = k s := by
  unfold unK at h ⊢
  cases q : un ds ρ with
  | none => rw [q] at h; exact absurd rfl h
  | some s => exact ⟨s, rfl, rfl⟩
def gsFor (ds : List (Nat × Kd)) (mb : List Bool) (gi : GIx) (t : GTg) (b : GSx) : GSx := fun γ ρ kn kb kc kr => gi γ ρ fun xs src ρ1 => match okSrc mb src with
  | true => unK ds ρ1 fun s0 => foldK (fun x s kn' kb' => t γ x (put ds (wip mb ρ1) s) fun ρ2 => b γ ρ2 (fun ρ3 => unK ds ρ3 kn') (fun ρ3 => unK ds ρ3 kb') (fun ρ3 => unK ds ρ3 kn') kr) xs s0 (fun s => kn (put ds (wip mb ρ1) s))
  | false => .bad
def subM : List Bool → List Bool → Bool
  | [], _ => true
  | true :: a, true :: b => subM a b
  | true :: _, _ => false
  | false :: a, _ :: b => subM a b
  | false :: a, [] => subM a []
theorem subM_get : ∀ {a b : List Bool}, subM a b = true → ∀ i, isM b i = false → isM a i = false
  | [], _, _, i, _ => rfl
  | true :: a, true :: b, h, 0, q => by cases q
  | true :: a, true :: b, h, i + 1, q => subM_get (a := a) (b := b) h i q
  | true :: _, false :: _, h, _, _ => by cases h
  | true :: _, [], h, _, _ => by cases h
  | false :: a, _ :: b, h, 0, q => rfl
  | false :: a, c :: b, h, i + 1, q => subM_get (a := a) (b := b) h i q
  | false :: a, [], h, 0, q => rfl
  | false :: a, [], h, i + 1, q => subM_get (a := a) (b := []) h i rfl
theorem Ag.sub {a b : List Bool} {ρ ρ' : List PV} (h : Ag a ρ ρ') (hs : subM a b = true) : Ag b ρ ρ' := ⟨h.len, fun i hi => h.get i (subM_get hs i hi)⟩
theorem AgE.sub {a b : List Bool} {ρ ρ' : Env} (h : AgE a ρ ρ') (hs : subM a b = true) : AgE b ρ ρ' := ⟨h.len, fun i hi => h.get i (subM_get hs i hi)⟩
theorem wip_sub {a b : List Bool} (hs : subM a b = true) {fr : Fr} {ρ : List PV} {env : Env} {m : Mem} (R : Rel fr (wip a ρ) env m) : Rel fr (wip b ρ) env m := by
  have z := R.wip (ms := b) (AgE.refl _ env)
  have e : wip b (wip a ρ) = wip b ρ := ((wip_wip a ρ).sub hs).wip
  rw [e] at z
  exact z
theorem rs_for {ds : List (Nat × Kd)} {mb : List Bool} {it : IF} {gi : GIx} {t : GF} {gt : GTg} (hi : RI ms it gi) (ht : RG mb t gt) (hb : RS sr mb sb xb) (hd : inM mb ds = true := by rfl) (hs : subM mb ms = true := by rfl) : RS sr ms (sFor it t sb) (gsFor ds mb gi gt xb) := by
  intro γ fr ρ env m kn kb kc kr R nb
  rcases hi γ fr ρ env m _ R nb with ⟨I, m1, xs, src, ρ1, h1, R1, h3, h4, h5, h6⟩ | ⟨e1, m1, h1, h2, h3⟩
  · have e0 : gsFor ds mb gi gt xb γ ρ kn kb kc kr = _ := h3
    rw [e0] at nb ⊢
    try dsimp only at nb ⊢
    cases ok : okSrc mb src with
    | false => rw [ok] at nb; exact absurd rfl nb
    | true =>
      rw [ok] at nb
      dsimp only at nb ⊢
      obtain ⟨s0, u0, u1⟩ := unK_ne nb
      rw [u1] at nb ⊢
      simp only [sFor, h1, eS_ok]
      rw [h5]
      refine SPo.later h4 (AgE.refl _ _) ?_
      have key : ∀ (xs : List D) (s : St ds) (env' : Env) (m' : Mem), Rel fr (put ds (wip mb ρ1) s) env' m' → AgE mb env env' →
          foldK (fun x s kn' kb' => gt γ x (put ds (wip mb ρ1) s) fun ρ2 => xb γ ρ2 (fun ρ3 => unK ds ρ3 kn') (fun ρ3 => unK ds ρ3 kb') (fun ρ3 => unK ds ρ3 kn') kr) xs s (fun s => kn (put ds (wip mb ρ1) s)) ≠ .bad →
          SPo fr sr ms ρ1 env (foldK (fun x s kn' kb' => gt γ x (put ds (wip mb ρ1) s) fun ρ2 => xb γ ρ2 (fun ρ3 => unK ds ρ3 kn') (fun ρ3 => unK ds ρ3 kb') (fun ρ3 => unK ds ρ3 kn') kr) xs s (fun s => kn (put ds (wip mb ρ1) s))) kn kb kc kr (forM I.chk (sTg t sb) (xs.map .d) env' m') := by
        intro xs
        induction xs with
        | nil =>
          intro s env' m' R' a' nb'
          have hc : I.chk m' = true := h6 _ env' m' R' fun i hi => by
            subst hi
            have hm : isM mb i = false := by simpa [okSrc] using ok
            exact ⟨(shape_ag hd s).get i hm, a'.get i hm⟩
          simp only [List.map_nil, forM, hc, if_true]
          exact .nx env' m' _ R' rfl ((shape_ag hd s).sub hs) (a'.sub hs)
        | cons x xs ih =>
          intro s env' m' R' a' nb'
          have hc : I.chk m' = true := h6 _ env' m' R' fun i hi => by
            subst hi
            have hm : isM mb i = false := by simpa [okSrc] using ok
            exact ⟨(shape_ag hd s).get i hm, a'.get i hm⟩
          simp only [List.map_cons, forM, hc, if_true]
          have eW : ∀ (step : D → St ds → (St ds → PR γ) → (St ds → PR γ) → PR γ) (k : St ds → PR γ), foldK step (x :: xs) s k = step x s (fun s' => foldK step xs s' k) k := fun _ _ => rfl
          rw [eW] at nb' ⊢
          obtain ⟨e2, ρ2, t1, t2, t3, t4, t5⟩ := ht γ fr _ env' m' x _ R' nb'
          rw [t3] at nb' ⊢
          simp only [sTg, t1]
          have hbb := hb γ fr ρ2 e2 m' _ _ _ kr t2 nb'
          have ag2 : Ag mb ρ1 ρ2 := (shape_ag hd s).trans t4
          have ae2 : AgE mb env e2 := a'.trans t5
          generalize sb e2 m' = r at hbb
          cases hbb with
          | nx e3 m3 ρ3 q1 q2 q3 q4 =>
            dsimp only
            rw [q2] at nb' ⊢
            obtain ⟨s', v1, v2⟩ := unK_ne nb'
            rw [v2] at nb' ⊢
            exact ih s' e3 m3 (q1.shape (ag2.trans q3) v1) (ae2.trans q4) nb'
          | ct e3 m3 ρ3 q1 q2 q3 q4 =>
            dsimp only
            rw [q2] at nb' ⊢
            obtain ⟨s', v1, v2⟩ := unK_ne nb'
            rw [v2] at nb' ⊢
            exact ih s' e3 m3 (q1.shape (ag2.trans q3) v1) (ae2.trans q4) nb'
          | bk e3 m3 ρ3 q1 q2 q3 q4 =>
            dsimp only
            rw [q2] at nb' ⊢
            obtain ⟨s', v1, v2⟩ := unK_ne nb'
            rw [v2] at nb' ⊢
            exact .nx e3 m3 _ (q1.shape (ag2.trans q3) v1) rfl ((shape_ag hd s').sub hs) ((ae2.trans q4).sub hs)
          | rt w m3 v ρ3 e3 q1 q2 q3 q4 => exact .rt w m3 v ρ3 e3 q1 q2 q3 ((ag2.trans q4).sub hs)
          | err ex e3 m3 q1 q2 q3 =>
            exact .err ex e3 m3 (by rw [ag2.wip] at q1; exact wip_sub hs q1) q2 ((ae2.trans q3).sub hs)
      exact key xs s0 env m1 (R1.shape (Ag.refl _ _) u0) (AgE.refl _ _) nb
  · simp only [sFor, h1, eS_err]
    exact .err e1 env m1 h3 h2 (AgE.refl _ _)
/-! ### while -/
def whileK {S γ : Type} (step : S → (S → PR γ) → (S → PR γ) → PR γ) : Nat → S → (S → PR γ) → PR γ
  | 0, _, _ => .bad
  | n + 1, s, k => step s (fun s' => whileK step n s' k) k
def gsWhile (ds : List (Nat × Kd)) (mb : List Bool) (c : GTx) (b : GSx) (n : Nat) : GSx := fun γ ρ kn kb kc kr => unK ds ρ fun s0 =>
  whileK (fun s kn' kb' => c γ (put ds (wip mb ρ) s) fun t ρ2 => if t = true then b γ ρ2 (fun ρ3 => unK ds ρ3 kn') (fun ρ3 => unK ds ρ3 kb') (fun ρ3 => unK ds ρ3 kn') kr else unK ds ρ2 kb') n s0 (fun s => kn (put ds (wip mb ρ) s))
theorem rs_while {ds : List (Nat × Kd)} {mb : List Bool} (n : Nat) (hc : RT mb fp gp) (hb : RS sr mb sb xb) (hd : inM mb ds = true := by rfl) (hs : subM mb ms = true := by rfl) : RS sr ms (whileM fp sb n) (gsWhile ds mb gp xb n) := by
  intro γ fr ρ1 env m kn kb kc kr R nb
  obtain ⟨s0, u0, u1⟩ := unK_ne nb
  rw [show gsWhile ds mb gp xb n γ ρ1 kn kb kc kr = _ from u1] at nb ⊢
  clear u1
  have key : ∀ (n : Nat) (s : St ds) (env' : Env) (m' : Mem), Rel fr (put ds (wip mb ρ1) s) env' m' → AgE mb env env' →
      whileK (fun s kn' kb' => gp γ (put ds (wip mb ρ1) s) fun t ρ2 => if t = true then xb γ ρ2 (fun ρ3 => unK ds ρ3 kn') (fun ρ3 => unK ds ρ3 kb') (fun ρ3 => unK ds ρ3 kn') kr else unK ds ρ2 kb') n s (fun s => kn (put ds (wip mb ρ1) s)) ≠ .bad →
      SPo fr sr ms ρ1 env (whileK (fun s kn' kb' => gp γ (put ds (wip mb ρ1) s) fun t ρ2 => if t = true then xb γ ρ2 (fun ρ3 => unK ds ρ3 kn') (fun ρ3 => unK ds ρ3 kb') (fun ρ3 => unK ds ρ3 kn') kr else unK ds ρ2 kb') n s (fun s => kn (put ds (wip mb ρ1) s))) kn kb kc kr (whileM fp sb n env' m') := by
    intro n
    induction n with
    | zero => intro s env' m' R' a' nb'; exact absurd rfl nb'
    | succ n ih =>
      intro s env' m' R' a' nb'
      have eW : ∀ (step : St ds → (St ds → PR γ) → (St ds → PR γ) → PR γ) (k : St ds → PR γ), whileK step (n + 1) s k = step s (fun s' => whileK step n s' k) k := fun _ _ => rfl
      rw [eW] at nb' ⊢
      rw [show whileM fp sb (n + 1) env' m' = eS (fp env' m') env' fun t m1 => if t = true then (match sb env' m1 with
        | .nx e m2 => whileM fp sb n e m2
        | .ct e m2 => whileM fp sb n e m2
        | .bk e m2 => .nx e m2
        | r => r) else .nx env' m1 from rfl]
      rcases hc γ fr _ env' m' _ R' nb' with ⟨t, m2, ρ2, c1, R2, c3, c4⟩ | ⟨ex, m2, c1, c2, c3⟩
      · rw [c1, eS_ok]
        rw [c3] at nb' ⊢
        dsimp only at nb' ⊢
        have ag2 : Ag mb ρ1 ρ2 := (shape_ag hd s).trans c4
        cases t with
        | false =>
          rw [if_neg (by simp)] at nb' ⊢
          rw [if_neg (by simp)]
          obtain ⟨s', v1, v2⟩ := unK_ne nb'
          rw [v2] at nb' ⊢
          exact .nx env' m2 _ (R2.shape ag2 v1) rfl ((shape_ag hd s').sub hs) (a'.sub hs)
        | true =>
          rw [if_pos rfl] at nb' ⊢
          rw [if_pos rfl]
          have hbb := hb γ fr ρ2 env' m2 _ _ _ kr R2 nb'
          generalize sb env' m2 = r at hbb
          cases hbb with
          | nx e3 m3 ρ3 q1 q2 q3 q4 =>
            dsimp only
            rw [q2] at nb' ⊢
            obtain ⟨s', v1, v2⟩ := unK_ne nb'
            rw [v2] at nb' ⊢
            exact ih s' e3 m3 (q1.shape (ag2.trans q3) v1) (a'.trans q4) nb'
          | ct e3 m3 ρ3 q1 q2 q3 q4 =>
            dsimp only
            rw [q2] at nb' ⊢
            obtain ⟨s', v1, v2⟩ := unK_ne nb'
            rw [v2] at nb' ⊢
            exact ih s' e3 m3 (q1.shape (ag2.trans q3) v1) (a'.trans q4) nb'
          | bk e3 m3 ρ3 q1 q2 q3 q4 =>
            dsimp only
            rw [q2] at nb' ⊢
            obtain ⟨s', v1, v2⟩ := unK_ne nb'
            rw [v2] at nb' ⊢
            exact .nx e3 m3 _ (q1.shape (ag2.trans q3) v1) rfl ((shape_ag hd s').sub hs) ((a'.trans q4).sub hs)
          | rt w m3 v ρ3 e3 q1 q2 q3 q4 => exact .rt w m3 v ρ3 e3 q1 q2 q3 ((ag2.trans q4).sub hs)
          | err ex e3 m3 q1 q2 q3 =>
            exact .err ex e3 m3 (by rw [ag2.wip] at q1; exact wip_sub hs q1) q2 ((a'.trans q3).sub hs)
      · rw [c1, eS_err]
        exact .err ex env' m2 (by rw [(shape_ag hd s).wip] at c3; exact wip_sub hs c3) c2 (a'.sub hs)
  exact key n s0 env m (R.shape (Ag.refl _ _) u0) (AgE.refl _ _) nb
end
end
end M
set_option Elab.async false
set_option linter.all false
set_option maxRecDepth 100000
/-! P: comprehensions, defs -/
namespace M
open PySem L2
variable [HasW]
noncomputable section
def lcN {α γ : Type} (r : PR α) (k : α → PR γ) : PR γ := match r with
  | .ok a => k a
  | _ => .bad
def lcO {γ : Type} (acc : List D) (o : Option D) (k : List D → PR γ) : PR γ := match o with
  | some y => if acc.length < sizeLine then k (acc ++ [y]) else .bad
  | none => k acc
@[simp] theorem lcN_ok {α γ : Type} (a : α) (k : α → PR γ) : lcN (.ok a) k = k a := rfl
@[simp] theorem lcO_none {γ : Type} (acc : List D) (k : List D → PR γ) : lcO acc none k = k acc := rfl
def lcK {S γ : Type} (b : D → S → PR (Option D × S)) : List D → S → List D → (List D → S → PR γ) → PR γ
  | [], s, acc, k => k acc s
  | x :: xs, s, acc, k => lcN (b x s) fun r => lcO acc r.1 fun acc' => lcK b xs r.2 acc' k
def gtYes : GTx := fun γ ρ K => K true ρ
theorem rt_yes {ms : List Bool} : RT ms tYesF gtYes := fun γ fr ρ env m K R nb => .inl ⟨true, m, ρ, rfl, R, rfl, Ag.refl _ _⟩
def endK (ds : List (Nat × Kd)) (v : GV) (ρ : List PV) : PR (Option D × St ds) := match v with
  | .v y => unK ds ρ fun s => .ok (some y, s)
  | .r _ => .bad
def gLc (ds : List (Nat × Kd)) (mb : List Bool) (gi : GIx) (t : GTg) (gt : GTx) (ge : GEx) : GEx := fun γ ρ K => gi γ ρ fun xs src ρ1 => match okSrc mb src with
  | true => unK ds ρ1 fun s0 => lcK (fun x s => t _ x (put ds (wip mb ρ1) s) fun ρ2 => gt _ ρ2 fun b ρ3 => if b = true then ge _ ρ3 fun v ρ4 => endK ds v ρ4 else unK ds ρ3 fun s' => .ok (none, s')) xs s0 [] fun acc s => K (.v (.list acc)) (put ds (wip mb ρ1) s)
  | false => .bad
theorem wipeE_get (env : Env) : ∀ (vs : List Nat) (j : Nat), j ∉ vs → (wipeE env vs)[j]? = env[j]?
  | [], j, _ => rfl
  | v :: vs, j, h => by
    show ((wipeE env vs).set v none)[j]? = _
    rw [List.getElem?_set_ne (fun z => h (by rw [z]; exact List.mem_cons_self))]
    exact wipeE_get env vs j fun z => h (List.mem_cons_of_mem _ z)
theorem wipeE_len (env : Env) : ∀ vs : List Nat, (wipeE env vs).length = env.length
  | [] => rfl
  | v :: vs => by
    show ((wipeE env vs).set v none).length = _
    rw [List.length_set]; exact wipeE_len env vs
def allIn (ms : List Bool) : List Nat → Bool
  | [] => true
  | i :: r => isM ms i && allIn ms r
theorem allIn_get {ms : List Bool} : ∀ {vs : List Nat}, allIn ms vs = true → ∀ i ∈ vs, isM ms i = true
  | [], _, i, h => nomatch h
  | v :: vs, h, i, hi => by
    simp only [allIn, Bool.and_eq_true] at h
    rcases List.mem_cons.mp hi with rfl | hi
    · exact h.1
    · exact allIn_get h.2 i hi
theorem outM_get {mt : List Bool} : ∀ {ds : List (Nat × Kd)} {σ : List PV} {s : St ds} {i : Nat}, outM mt ds = true → isM mt i = true → (put ds σ s)[i]? = σ[i]?
  | [], σ, s, i, _, _ => rfl
  | (k, .d) :: r, σ, s, i, h, hi => by
    simp only [outM, Bool.and_eq_true] at h
    show (put r (σ.set k (.d s.1)) s.2)[i]? = _
    rw [outM_get (ds := r) h.2 hi, List.getElem?_set_ne (by rintro rfl; rw [hi] at h; exact absurd h.1 (by simp))]
  | (k, .l p) :: r, σ, s, i, h, hi => by
    simp only [outM, Bool.and_eq_true] at h
    show (put r (σ.set k (.l p s.1)) s.2)[i]? = _
    rw [outM_get (ds := r) h.2 hi, List.getElem?_set_ne (by rintro rfl; rw [hi] at h; exact absurd h.1 (by simp))]
  | (k, .k p) :: r, σ, s, i, h, hi => by
    simp only [outM, Bool.and_eq_true] at h
    show (put r (σ.set k (.k p s.1)) s.2)[i]? = _
    rw [outM_get (ds := r) h.2 hi, List.getElem?_set_ne (by rintro rfl; rw [hi] at h; exact absurd h.1 (by simp))]
  | (k, .t p) :: r, σ, s, i, h, hi => by
    simp only [outM, Bool.and_eq_true] at h
    show (put r (σ.set k (.t p s.1)) s.2)[i]? = _
    rw [outM_get (ds := r) h.2 hi, List.getElem?_set_ne (by rintro rfl; rw [hi] at h; exact absurd h.1 (by simp))]
  | (k, .m) :: r, σ, s, i, h, hi => by
    simp only [outM, Bool.and_eq_true] at h
    show (put r (σ.set k (.m s.1)) s.2)[i]? = _
    rw [outM_get (ds := r) h.2 hi, List.getElem?_set_ne (by rintro rfl; rw [hi] at h; exact absurd h.1 (by simp))]
/-- slots of the mask mt are not known -/
theorem shape_x {ds : List (Nat × Kd)} {mb mt : List Bool} {ρ1 : List PV} {s : St ds} (ho : outM mt ds = true) (hs : subM mt mb = true) {i : Nat} {v : PV} (hi : isM mt i = true) (h : (put ds (wip mb ρ1) s)[i]? = some v) : v = .x := by
  rw [outM_get ho hi, wip_get] at h
  have hb : isM mb i = true := by
    cases q : isM mb i with
    | true => rfl
    | false => rw [subM_get hs i q] at hi; cases hi
  rw [if_pos hb] at h
  cases z : ρ1[i]? with
  | none => rw [z] at h; cases h
  | some u => rw [z] at h; cases h; rfl
section
variable {s : Nat} {ms : List Bool} {f fa fb fe : EF} {g ga gb ge : GEx} {ft : TF} {gt : GTx}
theorem re_lc {ds : List (Nat × Kd)} {mb mt : List Bool} {vs : List Nat} {it : IF} {gi : GIx} {t : GF} {gg : GTg} (hi : RI ms it gi) (ht : RG mt t gg) (hc : RT mb ft gt) (he : RE 0 mb fe ge) (hd : inM mb ds = true := by rfl) (ho : outM mt ds = true := by rfl) (hv : allIn mt vs = true := by rfl) (h1s : subM mt mb = true := by rfl) (hs : subM mb ms = true := by rfl) : RE 1 ms (eLc it t ft fe vs) (gLc ds mb gi gg gt ge) := by
  intro γ fr ρ env m K R nb
  rcases hi γ fr ρ env m _ R nb with ⟨I, m1, xs, src, ρ1, h1, R1, h3, h4, h5, h6⟩ | ⟨e1, m1, h1, h2, h3⟩
  · have e0 : gLc ds mb gi gg gt ge γ ρ K = _ := h3
    rw [e0] at nb ⊢
    try dsimp only at nb ⊢
    cases ok : okSrc mb src with
    | false => rw [ok] at nb; exact absurd rfl nb
    | true =>
      rw [ok] at nb
      dsimp only at nb ⊢
      obtain ⟨s0, u0, u1⟩ := unK_ne nb
      rw [u1] at nb ⊢
      simp only [eLc, h1, Res.bind_ok]
      rw [h5]
      refine EPost.later h4 ?_
      have back : ∀ (s : St ds) (m' : Mem), Rel fr (put ds (wip mb ρ1) s) (wipeE env vs) m' → Rel fr (put ds (wip mb ρ1) s) env m' := by
        intro s m' R'
        refine R'.sub rfl (wipeE_len env vs).symm fun i v h => ?_
        by_cases q : i ∈ vs
        · exact .inl (shape_x ho h1s (allIn_get hv i q) h)
        · exact .inr ⟨h, (wipeE_get env vs i q).symm⟩
      have key : ∀ (xs : List D) (s : St ds) (acc : List D) (m' : Mem), Rel fr (put ds (wip mb ρ1) s) (wipeE env vs) m' →
          lcK (fun x s => gg _ x (put ds (wip mb ρ1) s) fun ρ2 => gt _ ρ2 fun b ρ3 => if b = true then ge _ ρ3 fun v ρ4 => endK ds v ρ4 else unK ds ρ3 fun s' => .ok (none, s')) xs s acc (fun acc s => K (.v (.list acc)) (put ds (wip mb ρ1) s)) ≠ .bad →
          EPost fr 1 ms ρ1 env (lcM I.chk (lcB t ft fe (wipeE env vs)) (xs.map .d) acc m') (lcK (fun x s => gg _ x (put ds (wip mb ρ1) s) fun ρ2 => gt _ ρ2 fun b ρ3 => if b = true then ge _ ρ3 fun v ρ4 => endK ds v ρ4 else unK ds ρ3 fun s' => .ok (none, s')) xs s acc (fun acc s => K (.v (.list acc)) (put ds (wip mb ρ1) s))) K := by
        intro xs
        induction xs with
        | nil =>
          intro s acc m' R' nb'
          have hck : I.chk m' = true := h6 _ env m' (back s m' R') fun i hi => by
            subst hi
            have hm : isM mb i = false := by simpa [okSrc] using ok
            exact ⟨(shape_ag hd s).get i hm, rfl⟩
          simp only [List.map_nil, lcM, hck, if_true]
          exact .inl ⟨.fl acc, m', .v (.list acc), _, rfl, back s m' R', rfl, rfl, (shape_ag hd s).sub hs⟩
        | cons x xs ih =>
          intro s acc m' R' nb'
          have hck : I.chk m' = true := h6 _ env m' (back s m' R') fun i hi => by
            subst hi
            have hm : isM mb i = false := by simpa [okSrc] using ok
            exact ⟨(shape_ag hd s).get i hm, rfl⟩
          simp only [List.map_cons, lcM, hck, if_true]
          have eW : ∀ (b : D → St ds → PR (Option D × St ds)) (k : List D → St ds → PR γ), lcK b (x :: xs) s acc k = lcN (b x s) fun r => lcO acc r.1 fun acc' => lcK b xs r.2 acc' k := fun _ _ => rfl
          rw [eW] at nb' ⊢
          cases bx : (gg (Option D × St ds) x (put ds (wip mb ρ1) s) fun ρ2 => gt _ ρ2 fun b ρ3 => if b = true then ge _ ρ3 fun v ρ4 => endK ds v ρ4 else unK ds ρ3 fun s' => .ok (none, s')) with
          | bad => rw [bx] at nb'; exact absurd rfl nb'
          | err e => rw [bx] at nb'; exact absurd rfl nb'
          | ok r =>
            rw [bx] at nb'
            have nb1 : (gg (Option D × St ds) x (put ds (wip mb ρ1) s) fun ρ2 => gt _ ρ2 fun b ρ3 => if b = true then ge _ ρ3 fun v ρ4 => endK ds v ρ4 else unK ds ρ3 fun s' => .ok (none, s')) ≠ .bad := by rw [bx]; intro z; cases z
            obtain ⟨e2, ρ2, t1, t2, t3, t4, t5⟩ := ht _ fr _ _ m' x _ R' nb1
            rw [t3] at bx nb1
            try dsimp only at bx nb1
            have ag2 : Ag mb ρ1 ρ2 := (shape_ag hd s).trans (t4.sub h1s)
            have next : ∀ (ρ4 : List PV) (m4 : Mem) (s' : St ds), Rel fr ρ4 e2 m4 → Ag mb ρ1 ρ4 → un ds ρ4 = some s' → Rel fr (put ds (wip mb ρ1) s') (wipeE env vs) m4 := by
              intro ρ4 m4 s' R4 a4 u4
              refine (R4.shape a4 u4).sub rfl t5.len.symm fun i v h => ?_
              by_cases q : isM mt i = true
              · exact .inl (shape_x ho h1s q h)
              · exact .inr ⟨h, (t5.get i (by simpa using q)).symm⟩
            rcases hc _ fr ρ2 e2 m' _ t2 nb1 with ⟨b, m3, ρ3, c1, R3, c3, c4⟩ | ⟨ex, m3, c1, c2, c3⟩
            · rw [c3] at bx nb1
              dsimp only at bx nb1
              cases b with
              | false =>
                rw [if_neg (by simp)] at bx nb1
                obtain ⟨s', v1, v2⟩ := unK_ne nb1
                rw [v2] at bx
                cases bx
                rw [lcN_ok, lcO_none] at nb' ⊢
                simp only [lcB, t1, c1, noErr, Res.bind_ok, if_neg (show ¬ (false = true) by simp)]
                exact ih s' acc m3 (next ρ3 m3 s' R3 (ag2.trans c4) v1) nb'
              | true =>
                rw [if_pos rfl] at bx nb1
                rcases he _ fr ρ3 e2 m3 _ R3 nb1 with ⟨w, m4, v, ρ4, d1, R4, d3, d4, d5⟩ | ⟨ex, m4, d1, d2, d3⟩
                · rw [d4] at bx nb1
                  cases v with
                  | r i => exact absurd rfl nb1
                  | v y =>
                    have d3 : w = .d y := d3
                    subst d3
                    obtain ⟨s', v1, v2⟩ := unK_ne (show unK ds ρ4 (fun s => PR.ok (some y, s)) ≠ .bad from nb1)
                    have bx : PR.ok (some y, s') = PR.ok r := (Eq.symm v2).trans bx
                    cases bx
                    rw [lcN_ok] at nb' ⊢
                    simp only [lcO] at nb' ⊢
                    simp only [lcB, t1, c1, noErr, Res.bind_ok, if_true, d1]
                    by_cases hl : acc.length < sizeLine
                    · rw [if_pos hl] at nb' ⊢
                      rw [if_pos hl]
                      exact ih s' (acc ++ [y]) m4 (next ρ4 m4 s' R4 ((ag2.trans c4).trans d5) v1) nb'
                    · rw [if_neg hl] at nb'; exact absurd rfl nb'
                · rw [d2] at bx; cases bx
            · rw [c2] at bx; cases bx
      refine key xs s0 [] m1 ?_ nb
      refine (R1.shape (Ag.refl _ _) u0).sub rfl (wipeE_len env vs) fun i v h => ?_
      by_cases q : i ∈ vs
      · exact .inl (shape_x ho h1s (allIn_get hv i q) h)
      · exact .inr ⟨h, wipeE_get env vs i q⟩
  · exact .inr ⟨e1, m1, by simp only [eLc, h1, Res.bind_err], h2, h3⟩
end
end
end M
set_option Elab.async false
set_option linter.all false
set_option maxRecDepth 100000
/-! P: defs and their calls -/
namespace M
open PySem L2
variable [HasW]
noncomputable section
inductive PK where
  | d | b | l | k | n | t | u
inductive AV where
  | d (x : D)
  | b (xs : List D)
  | l (i : Nat) (xs : List D)
  | k (i : Nat) (q : Dk)
  | n (kvs : List (Str × D))
  | t (i : Nat) (kvs : List (D × TV))
  | u (kvs : List (D × D))
inductive UV where
  | l (xs : List D)
  | k (q : Dk)
  | t (kvs : List (D × TV))
abbrev GFn := (γ : Type) → List AV → (D → List (Nat × UV) → PR γ) → PR γ
/-- all of it data -/
def flatT : List (D × TV) → Option (List (D × D))
  | [] => some []
  | (k, .d x) :: r => match flatT r with
    | some s => some ((k, x) :: s)
    | none => none
  | _ :: _ => none
def avK {γ : Type} (ρ : List PV) : PK → GV → (AV → PR γ) → PR γ
  | .d, .v x, K => K (.d x)
  | .b, .v x, K => ptl x fun xs => K (.b xs)
  | .b, .r i, K => match ρ[i]? with
    | some (.l _ xs) => K (.b xs)
    | _ => .bad
  | .l, .r i, K => match ρ[i]? with
    | some (.l _ xs) => K (.l i xs)
    | _ => .bad
  | .k, .r i, K => match ρ[i]? with
    | some (.k _ q) => K (.k i q)
    | _ => .bad
  | .n, .r i, K => match ρ[i]? with
    | some (.m kvs) => K (.n kvs)
    | some (.n kvs) => K (.n kvs)
    | _ => .bad
  | .t, .r i, K => match ρ[i]? with
    | some (.t _ kvs) => K (.t i kvs)
    | _ => .bad
  | .u, .r i, K => match ρ[i]? with
    | some (.t _ kvs) => match flatT kvs with
      | some ys => K (.u ys)
      | none => .bad
    | some (.u kvs) => K (.u kvs)
    | _ => .bad
  | _, _, _ => .bad
def avsK {γ : Type} (ρ : List PV) : List PK → List GV → (List AV → PR γ) → PR γ
  | [], [], K => K []
  | k :: ks, v :: vs, K => avK ρ k v fun a => avsK ρ ks vs fun as => K (a :: as)
  | _, _, _ => .bad
def mrefs : List AV → List Nat
  | [] => []
  | .l i _ :: r => i :: mrefs r
  | .k i _ :: r => i :: mrefs r
  | .t i _ :: r => i :: mrefs r
  | _ :: r => mrefs r
/-- slots handed over to be changed -/
def grefs : List PK → List GV → List Nat
  | .l :: ks, .r i :: vs => i :: grefs ks vs
  | .k :: ks, .r i :: vs => i :: grefs ks vs
  | .t :: ks, .r i :: vs => i :: grefs ks vs
  | _ :: ks, _ :: vs => grefs ks vs
  | _, _ => []
/-- slots handed over to be read -/
def brefs : List PK → List GV → List Nat
  | .b :: ks, .r i :: vs => i :: brefs ks vs
  | .n :: ks, .r i :: vs => i :: brefs ks vs
  | .u :: ks, .r i :: vs => i :: brefs ks vs
  | _ :: ks, _ :: vs => brefs ks vs
  | _, _ => []
def nodupB : List Nat → Bool
  | [] => true
  | a :: r => !r.contains a && nodupB r
def refsOk (ms : List Bool) (ks : List PK) (vs : List GV) : Bool := allIn ms (grefs ks vs) && nodupB (grefs ks vs) && (brefs ks vs).all fun i => !(grefs ks vs).contains i
def upd1 (ρ : List PV) (i : Nat) : UV → List PV
  | .l xs => match ρ[i]? with
    | some (.l p _) => ρ.set i (.l p xs)
    | _ => ρ
  | .k q => match ρ[i]? with
    | some (.k p _) => ρ.set i (.k p q)
    | _ => ρ
  | .t q => match ρ[i]? with
    | some (.t p _) => ρ.set i (.t p q)
    | _ => ρ
def upds (ρ : List PV) : List (Nat × UV) → List PV
  | [] => ρ
  | (i, u) :: r => upds (upd1 ρ i u) r
def gCall (ms : List Bool) (ks : List PK) (F : GFn) (a : GAx) : GEx := fun γ ρ K => a γ ρ fun vs ρ1 => match refsOk ms ks vs with
  | true => avsK ρ1 ks vs fun avs => F γ avs fun x us => K (.v x) (upds ρ1 us)
  | false => .bad
/-! ### what a def promises -/
def ArgOk (m : Mem) (J : Nat → List Nat) (rs : List Nat) (w : W) : AV → Prop
  | .d x => w = .d x
  | .b xs => w = .d (.list xs) ∨ w = .ro xs ∨ ∃ j, w = .obj j ∧ m[j]? = some (.lst xs) ∧ ∀ i ∈ rs, j ∉ J i
  | .l i xs => ∃ j, w = .obj j ∧ J i = [j] ∧ m[j]? = some (.lst xs)
  | .k i q => ∃ b a, w = .obj b ∧ J i = [b, a] ∧ DkAt m a b q
  | .n kvs => ∃ j, w = .obj j ∧ m[j]? = some (mkO kvs) ∧ ∀ i ∈ rs, j ∉ J i
  | .t i kvs => ∃ j ks, w = .obj j ∧ J i = j :: j :: j :: ks ∧ TrAt m j kvs ks
  | .u kvs => ∃ j, w = .obj j ∧ m[j]? = some (.dcn (kvN kvs)) ∧ ∀ i ∈ rs, j ∉ J i
inductive ArgsOk (m : Mem) (J : Nat → List Nat) (rs : List Nat) : List W → List AV → Prop
  | nil : ArgsOk m J rs [] []
  | cons {w : W} {a : AV} {ws : List W} {as : List AV} : ArgOk m J rs w a → ArgsOk m J rs ws as → ArgsOk m J rs (w :: ws) (a :: as)
def Has (m : Mem) (J : Nat → List Nat) (i : Nat) : UV → Prop
  | .l xs => ∃ j, J i = [j] ∧ m[j]? = some (.lst xs)
  | .k q => ∃ b a, J i = [b, a] ∧ DkAt m a b q
  | .t kvs => ∃ j ks, J i = j :: j :: j :: ks ∧ TrAt m j kvs ks
structure Keep (m m' : Mem) (J : Nat → List Nat) (rs : List Nat) : Prop where
  len : m'.length = m.length
  get : ∀ j, (∀ i ∈ rs, j ∉ J i) → m'[j]? = m[j]?
  dn : ∀ i ∈ rs, ∀ j ∈ J i, ∀ o : O, m'[j]? = some o → okJ (J i) o = true
def SpG (F : FF) (s : Nat) (Q : GFn) : Prop := ∀ (γ : Type) (m : Mem) (ws : List W) (avs : List AV) (J : Nat → List Nat) (K : D → List (Nat × UV) → PR γ), (∀ (j : Nat) (o : O), m[j]? = some o → okO m.length o = true) → ArgsOk m J (mrefs avs) ws avs → (mrefs avs).Nodup → (∀ i ∈ mrefs avs, ∀ i' ∈ mrefs avs, ∀ j, j ∈ J i → j ∈ J i' → i = i') → Q γ avs K ≠ .bad →
  (∃ w m' x us, F ws m = .ok w m' ∧ (∀ fr, VW fr s w x) ∧ Q γ avs K = K x us ∧ us.map (·.1) = mrefs avs ∧ (∀ u ∈ us, Has m' J u.1 u.2) ∧ Keep m m' J (mrefs avs)) ∨ (∃ e m', F ws m = .err e m' ∧ Q γ avs K = .err e ∧ Keep m m' J (mrefs avs))
theorem nodupB_iff : ∀ {l : List Nat}, nodupB l = true → l.Nodup
  | [], _ => List.nodup_nil
  | a :: r, h => by
    simp only [nodupB, Bool.and_eq_true] at h
    exact List.nodup_cons.mpr ⟨by simpa using h.1, nodupB_iff h.2⟩
section
variable {s : Nat} {ms : List Bool} {fr : Fr} {ρ : List PV} {env : Env} {m m' : Mem}
/-- levels of the arguments: a value, or what is only read or handed over -/
def lvOk : List PK → List Nat → Bool
  | [], [] => true
  | .d :: ks, 0 :: ss => lvOk ks ss
  | .b :: ks, 4 :: ss => lvOk ks ss
  | .l :: ks, 4 :: ss => lvOk ks ss
  | .k :: ks, 4 :: ss => lvOk ks ss
  | .n :: ks, 4 :: ss => lvOk ks ss
  | .t :: ks, 4 :: ss => lvOk ks ss
  | .u :: ks, 4 :: ss => lvOk ks ss
  | _, _ => false
theorem flatT_ch {m : Mem} {kws : List (D × W)} {kvs : List (D × TV)} {ks : List Nat} (h : ChAt m kws kvs ks) : ∀ {ys : List (D × D)}, flatT kvs = some ys → kws = kvN ys := by
  induction h with
  | nil => intro ys e; cases e; rfl
  | d t ih =>
    intro ys e
    simp only [flatT] at e
    split at e
    · rename_i s es
      cases e
      rw [ih es]; rfl
    · cases e
  | l e n t ih => intro ys e; cases e
  | c e n t ih => intro ys e; cases e
theorem flatT_at {m : Mem} {j : Nat} {kvs : List (D × TV)} {ks : List Nat} {ys : List (D × D)} (e : flatT kvs = some ys) (h : TrAt m j kvs ks) : m[j]? = some (.dcn (kvN ys)) := by
  obtain ⟨_, kws, h2, h3⟩ := h
  rw [h2, flatT_ch h3 e]
theorem avs_ok (R : Rel fr ρ env m) {J : Nat → List Nat} (hd : ∀ i i' j, j ∈ J i → j ∈ J i' → i = i') (hJ : ∀ i, SlotOk fr m i (J i) env[i]? ρ[i]?) {γ : Type} : ∀ {ks : List PK} {ss : List Nat} {ws : List W} {vs : List GV} {K : List AV → PR γ}, lvOk ks ss = true → RVals fr env ss ws vs → avsK ρ ks vs K ≠ .bad →
    ∃ avs, avsK ρ ks vs K = K avs ∧ mrefs avs = grefs ks vs ∧ noFl ws = true ∧ ∀ rs, (∀ i ∈ brefs ks vs, i ∉ rs) → ArgsOk m J rs ws avs
  | [], [], [], [], K, _, .nil, nb => ⟨[], rfl, rfl, rfl, fun _ _ => .nil⟩
  | .d :: ks, 0 :: ss, w :: ws, .v x :: vs, K, hl, .cons h t, nb => by
    obtain ⟨avs, e1, e2, e4, e3⟩ := avs_ok R hd hJ (ks := ks) (K := fun as => K (.d x :: as)) hl t nb
    have h : w = .d x := h
    subst h
    exact ⟨.d x :: avs, e1, e2, e4, fun rs hr => .cons rfl (e3 rs hr)⟩
  | .d :: ks, 0 :: ss, w :: ws, .r i :: vs, K, hl, .cons h t, nb => absurd h.1 (by decide)
  | .b :: ks, 4 :: ss, w :: ws, .v x :: vs, K, hl, .cons h t, nb => by
    cases x with
    | list xs =>
      obtain ⟨avs, e1, e2, e4, e3⟩ := avs_ok R hd hJ (ks := ks) (K := fun as => K (.b xs :: as)) hl t nb
      rcases h with rfl | ⟨es, e, h⟩
      · exact ⟨.b xs :: avs, e1, e2, e4, fun rs hr => .cons (.inl rfl) (e3 rs hr)⟩
      · cases e
        rcases h with rfl | rfl | ⟨j, rfl, hj, hp⟩
        · exact ⟨.b xs :: avs, e1, e2, e4, fun rs hr => .cons (.inl rfl) (e3 rs hr)⟩
        · exact ⟨.b xs :: avs, e1, e2, e4, fun rs hr => .cons (.inr (.inl rfl)) (e3 rs hr)⟩
        · refine ⟨.b xs :: avs, e1, e2, e4, fun rs hr => .cons (.inr (.inr ⟨j, rfl, ?_, fun i hi hj' => ?_⟩)) (e3 rs hr)⟩
          · rw [R.fix j (List.getElem?_eq_some_iff.mp hj).1 hp]; exact hj
          · have hl := (List.getElem?_eq_some_iff.mp hj).1
            rcases (hJ i).own j hj' with z | z
            · exact hp i z
            · omega
    | _ => exact absurd rfl nb
  | .b :: ks, 4 :: ss, w :: ws, .r i :: vs, K, hl, .cons h t, nb => by
    have h2 := h.2
    simp only [avsK, avK] at nb ⊢
    cases q : ρ[i]? with
    | none => rw [q] at nb; exact absurd rfl nb
    | some u =>
      cases u with
      | l p xs =>
        rw [q] at nb
        dsimp only at nb ⊢
        obtain ⟨avs, e1, e2, e4, e3⟩ := avs_ok R hd hJ (ks := ks) (K := fun as => K (.b xs :: as)) hl t nb
        have z := hJ i
        rw [q] at z
        obtain ⟨j, z1, z2, z3, z4⟩ := z
        rw [z2] at h2
        cases h2
        refine ⟨.b xs :: avs, e1, e2, e4, fun rs hr => .cons (.inr (.inr ⟨j, rfl, z3, fun i' hi hj' => ?_⟩)) (e3 rs fun i' hi' => hr i' (List.mem_cons_of_mem _ hi'))⟩
        have := hd i i' j (by rw [z1]; simp) hj'
        subst this
        exact hr i (List.mem_cons_self) hi
      | _ => rw [q] at nb; exact absurd rfl nb
  | .l :: ks, 4 :: ss, w :: ws, .v x :: vs, K, hl, .cons h t, nb => absurd rfl nb
  | .l :: ks, 4 :: ss, w :: ws, .r i :: vs, K, hl, .cons h t, nb => by
    have h2 := h.2
    simp only [avsK, avK] at nb ⊢
    cases q : ρ[i]? with
    | none => rw [q] at nb; exact absurd rfl nb
    | some u =>
      cases u with
      | l p xs =>
        rw [q] at nb
        dsimp only at nb ⊢
        obtain ⟨avs, e1, e2, e4, e3⟩ := avs_ok R hd hJ (ks := ks) (K := fun as => K (.l i xs :: as)) hl t nb
        have z := hJ i
        rw [q] at z
        obtain ⟨j, z1, z2, z3, z4⟩ := z
        rw [z2] at h2
        cases h2
        exact ⟨.l i xs :: avs, e1, by simp [mrefs, grefs, e2], e4, fun rs hr => .cons ⟨j, rfl, z1, z3⟩ (e3 rs hr)⟩
      | _ => rw [q] at nb; exact absurd rfl nb
  | .k :: ks, 4 :: ss, w :: ws, .v x :: vs, K, hl, .cons h t, nb => absurd rfl nb
  | .k :: ks, 4 :: ss, w :: ws, .r i :: vs, K, hl, .cons h t, nb => by
    have h2 := h.2
    simp only [avsK, avK] at nb ⊢
    cases q : ρ[i]? with
    | none => rw [q] at nb; exact absurd rfl nb
    | some u =>
      cases u with
      | k p xs =>
        rw [q] at nb
        dsimp only at nb ⊢
        obtain ⟨avs, e1, e2, e4, e3⟩ := avs_ok R hd hJ (ks := ks) (K := fun as => K (.k i xs :: as)) hl t nb
        have z := hJ i
        rw [q] at z
        obtain ⟨b, a, z1, z2, z3, z4⟩ := z
        rw [z2] at h2
        cases h2
        exact ⟨.k i xs :: avs, e1, by simp [mrefs, grefs, e2], e4, fun rs hr => .cons ⟨b, a, rfl, z1, z3⟩ (e3 rs hr)⟩
      | _ => rw [q] at nb; exact absurd rfl nb
  | .n :: ks, 4 :: ss, w :: ws, .v x :: vs, K, hl, .cons h t, nb => absurd rfl nb
  | .n :: ks, 4 :: ss, w :: ws, .r i :: vs, K, hl, .cons h t, nb => by
    have h2 := h.2
    simp only [avsK, avK] at nb ⊢
    cases q : ρ[i]? with
    | none => rw [q] at nb; exact absurd rfl nb
    | some u =>
      cases u with
      | m kvs =>
        rw [q] at nb
        dsimp only at nb ⊢
        obtain ⟨avs, e1, e2, e4, e3⟩ := avs_ok R hd hJ (ks := ks) (K := fun as => K (.n kvs :: as)) hl t nb
        have z := hJ i
        rw [q] at z
        obtain ⟨j, z1, z2, z3, z4⟩ := z
        rw [z2] at h2
        cases h2
        refine ⟨.n kvs :: avs, e1, e2, e4, fun rs hr => .cons ⟨j, rfl, z3, fun i' hi hj' => ?_⟩ (e3 rs fun i' hi' => hr i' (List.mem_cons_of_mem _ hi'))⟩
        have := hd i i' j (by rw [z1]; simp) hj'
        subst this
        exact hr i (List.mem_cons_self) hi
      | n kvs =>
        rw [q] at nb
        dsimp only at nb ⊢
        obtain ⟨avs, e1, e2, e4, e3⟩ := avs_ok R hd hJ (ks := ks) (K := fun as => K (.n kvs :: as)) hl t nb
        have z := hJ i
        rw [q] at z
        obtain ⟨_, j, z2, z3, z4⟩ := z
        rw [z2] at h2
        cases h2
        have hl' := (List.getElem?_eq_some_iff.mp z3).1
        refine ⟨.n kvs :: avs, e1, e2, e4, fun rs hr => .cons ⟨j, rfl, by rw [R.fix j hl' z4]; exact z3, fun i' hi hj' => ?_⟩ (e3 rs fun i' hi' => hr i' (List.mem_cons_of_mem _ hi'))⟩
        rcases (hJ i').own j hj' with z | z
        · exact z4 i' z
        · omega
      | _ => rw [q] at nb; exact absurd rfl nb
  | .t :: ks, 4 :: ss, w :: ws, .v x :: vs, K, hl, .cons h t, nb => absurd rfl nb
  | .t :: ks, 4 :: ss, w :: ws, .r i :: vs, K, hl, .cons h t, nb => by
    have h2 := h.2
    simp only [avsK, avK] at nb ⊢
    cases q : ρ[i]? with
    | none => rw [q] at nb; exact absurd rfl nb
    | some u =>
      cases u with
      | t p xs =>
        rw [q] at nb
        dsimp only at nb ⊢
        obtain ⟨avs, e1, e2, e4, e3⟩ := avs_ok R hd hJ (ks := ks) (K := fun as => K (.t i xs :: as)) hl t nb
        have z := hJ i
        rw [q] at z
        obtain ⟨j, kk, z1, z2, z3, z4⟩ := z
        rw [z2] at h2
        cases h2
        exact ⟨.t i xs :: avs, e1, by simp [mrefs, grefs, e2], e4, fun rs hr => .cons ⟨j, kk, rfl, z1, z3⟩ (e3 rs hr)⟩
      | _ => rw [q] at nb; exact absurd rfl nb
  | .u :: ks, 4 :: ss, w :: ws, .v x :: vs, K, hl, .cons h t, nb => absurd rfl nb
  | .u :: ks, 4 :: ss, w :: ws, .r i :: vs, K, hl, .cons h t, nb => by
    have h2 := h.2
    simp only [avsK, avK] at nb ⊢
    cases q : ρ[i]? with
    | none => rw [q] at nb; exact absurd rfl nb
    | some u =>
      cases u with
      | t p kvs =>
        rw [q] at nb
        dsimp only at nb ⊢
        cases qf : flatT kvs with
        | none => rw [qf] at nb; exact absurd rfl nb
        | some ys =>
          rw [qf] at nb
          dsimp only at nb ⊢
          obtain ⟨avs, e1, e2, e4, e3⟩ := avs_ok R hd hJ (ks := ks) (K := fun as => K (.u ys :: as)) hl t nb
          have z := hJ i
          rw [q] at z
          obtain ⟨j, kk, z1, z2, z3, z4⟩ := z
          rw [z2] at h2
          cases h2
          refine ⟨.u ys :: avs, e1, e2, e4, fun rs hr => .cons ⟨j, rfl, flatT_at qf z3, fun i' hi hj' => ?_⟩ (e3 rs fun i' hi' => hr i' (List.mem_cons_of_mem _ hi'))⟩
          have := hd i i' j (by rw [z1]; simp) hj'
          subst this
          exact hr i (List.mem_cons_self) hi
      | u kvs =>
        rw [q] at nb
        dsimp only at nb ⊢
        obtain ⟨avs, e1, e2, e4, e3⟩ := avs_ok R hd hJ (ks := ks) (K := fun as => K (.u kvs :: as)) hl t nb
        have z := hJ i
        rw [q] at z
        obtain ⟨_, j, z2, z3, z4⟩ := z
        rw [z2] at h2
        cases h2
        have hl' := (List.getElem?_eq_some_iff.mp z3).1
        refine ⟨.u kvs :: avs, e1, e2, e4, fun rs hr => .cons ⟨j, rfl, by rw [R.fix j hl' z4]; exact z3, fun i' hi hj' => ?_⟩ (e3 rs fun i' hi' => hr i' (List.mem_cons_of_mem _ hi'))⟩
        rcases (hJ i').own j hj' with z | z
        · exact z4 i' z
        · omega
      | _ => rw [q] at nb; exact absurd rfl nb
theorem upd1_length (ρ : List PV) (i : Nat) (u : UV) : (upd1 ρ i u).length = ρ.length := by
  cases u with
  | l xs => simp only [upd1]; split <;> simp
  | k q => simp only [upd1]; split <;> simp
  | t q => simp only [upd1]; split <;> simp
theorem upd1_ne {i k : Nat} (u : UV) (h : k ≠ i) : (upd1 ρ i u)[k]? = ρ[k]? := by
  cases u with
  | l xs => simp only [upd1]; split <;> simp [List.getElem?_set_ne (Ne.symm h)]
  | k q => simp only [upd1]; split <;> simp [List.getElem?_set_ne (Ne.symm h)]
  | t q => simp only [upd1]; split <;> simp [List.getElem?_set_ne (Ne.symm h)]
theorem upds_length : ∀ (us : List (Nat × UV)) (ρ : List PV), (upds ρ us).length = ρ.length
  | [], ρ => rfl
  | (i, u) :: r, ρ => by simp only [upds]; rw [upds_length r, upd1_length]
theorem upds_ag : ∀ (us : List (Nat × UV)) {ρ0 ρ : List PV}, Ag ms ρ0 ρ → allIn ms (us.map (·.1)) = true → Ag ms ρ0 (upds ρ us)
  | [], ρ0, ρ, a, _ => a
  | (i, u) :: r, ρ0, ρ, a, h => by
    simp only [List.map_cons, allIn, Bool.and_eq_true] at h
    refine upds_ag r (a.trans ⟨upd1_length _ _ _, fun k hk => upd1_ne u ?_⟩) h.2
    rintro rfl
    rw [h.1] at hk; cases hk
def kindOk : UV → Option PV → Prop
  | .l _, some (.l _ _) => True
  | .k _, some (.k _ _) => True
  | .t _, some (.t _ _) => True
  | _, _ => False
theorem upds_slots {J : Nat → List Nat} {m' : Mem} : ∀ (us : List (Nat × UV)) {σ : List PV}, (us.map (·.1)).Nodup → (∀ u ∈ us, Has m' J u.1 u.2) → (∀ i, i ∉ us.map (·.1) → SlotOk fr m' i (J i) env[i]? σ[i]?) → (∀ i, i ∈ us.map (·.1) → SlotOk fr m i (J i) env[i]? σ[i]? ) →
    (∀ u ∈ us, kindOk u.2 σ[u.1]?) →
    ∀ i, SlotOk fr m' i (J i) env[i]? (upds σ us)[i]?
  | [], σ, _, _, h, _, _ => fun i => h i (by simp)
  | (k, u) :: r, σ, hn, hh, h1, h2, h3 => by
    simp only [List.map_cons, List.nodup_cons] at hn
    refine upds_slots r hn.2 (fun u hu => hh u (List.mem_cons_of_mem _ hu)) (fun i hi => ?_) (fun i hi => ?_) (fun v hv => ?_)
    · by_cases hk : i = k
      · subst hk
        have z := h2 i (by simp)
        have z3 := h3 (i, u) List.mem_cons_self
        have zh := hh (i, u) List.mem_cons_self
        cases u with
        | l xs =>
          cases q : σ[i]? with
          | none => rw [q] at z3; exact False.elim z3
          | some pv =>
            cases pv with
            | l p ys =>
              have hl : i < σ.length := (List.getElem?_eq_some_iff.mp q).1
              simp only [upd1, q]
              rw [List.getElem?_set_self hl]
              rw [q] at z
              obtain ⟨j, z1, z2, z3, z4⟩ := z
              obtain ⟨j', y1, y2⟩ := zh
              rw [z1] at y1
              cases y1
              exact ⟨j, z1, z2, y2, z4⟩
            | _ => rw [q] at z3; exact False.elim z3
        | k xs =>
          cases q : σ[i]? with
          | none => rw [q] at z3; exact False.elim z3
          | some pv =>
            cases pv with
            | k p ys =>
              have hl : i < σ.length := (List.getElem?_eq_some_iff.mp q).1
              simp only [upd1, q]
              rw [List.getElem?_set_self hl]
              rw [q] at z
              obtain ⟨b, a, z1, z2, z3, z4⟩ := z
              obtain ⟨b', a', y1, y2⟩ := zh
              rw [z1] at y1
              cases y1
              exact ⟨b, a, z1, z2, y2, z4⟩
            | _ => rw [q] at z3; exact False.elim z3
        | t xs =>
          cases q : σ[i]? with
          | none => rw [q] at z3; exact False.elim z3
          | some pv =>
            cases pv with
            | t p ys =>
              have hl : i < σ.length := (List.getElem?_eq_some_iff.mp q).1
              simp only [upd1, q]
              rw [List.getElem?_set_self hl]
              rw [q] at z
              obtain ⟨b, kk, z1, z2, z3, z4⟩ := z
              obtain ⟨b', kk', y1, y2⟩ := zh
              rw [z1] at y1
              cases y1
              exact ⟨b, kk, z1, z2, y2, z4⟩
            | _ => rw [q] at z3; exact False.elim z3
      · rw [upd1_ne u hk]
        exact h1 i (by simp only [List.map_cons, List.mem_cons, not_or]; exact ⟨hk, hi⟩)
    · have hk : i ≠ k := by rintro rfl; exact hn.1 hi
      rw [upd1_ne u hk]
      exact h2 i (List.mem_cons_of_mem _ hi)
    · have hk : v.1 ≠ k := by
        intro e
        exact hn.1 (by rw [← e]; exact List.mem_map_of_mem hv)
      rw [upd1_ne u hk]
      exact h3 v (List.mem_cons_of_mem _ hv)
end
end
end M
set_option Elab.async false
set_option linter.all false
set_option maxRecDepth 100000
/-! P: defs and their calls -/
namespace M
open PySem L2
variable [HasW]
noncomputable section
section
variable {s sr : Nat} {ms : List Bool} {fr : Fr} {ρ : List PV} {env : Env} {m m' : Mem}
theorem has_kind {J : Nat → List Nat} {i : Nat} {e : Option (Option W)} {v : Option PV} {u : UV} (h : SlotOk fr m i (J i) e v) (hh : Has m' J i u) : kindOk u v := by
  cases u with
  | l xs =>
    obtain ⟨j, hj, _⟩ := hh
    match v, h with
    | none, h => rw [show J i = [] from h] at hj; cases hj
    | some .x, h => rw [show J i = [] from h] at hj; cases hj
    | some (.d v), h => rw [h.1] at hj; cases hj
    | some (.b v), h => rw [h.1] at hj; cases hj
    | some (.l p xs), _ => trivial
    | some (.k p q), ⟨b, a, e1, _⟩ => rw [e1] at hj; cases hj
    | some (.m v), ⟨k, e1, _⟩ => rw [e1] at hj; cases hj
    | some (.n v), h => rw [h.1] at hj; cases hj
    | some (.u v), h => rw [h.1] at hj; cases hj
    | some (.t p v), ⟨k, ks, e1, _⟩ => rw [e1] at hj; cases hj
  | t xs =>
    obtain ⟨b', kk, hj, hk⟩ := hh
    match v, h with
    | none, h => rw [show J i = [] from h] at hj; cases hj
    | some .x, h => rw [show J i = [] from h] at hj; cases hj
    | some (.d v), h => rw [h.1] at hj; cases hj
    | some (.b v), h => rw [h.1] at hj; cases hj
    | some (.l p xs), ⟨j, e1, _⟩ => rw [e1] at hj; cases hj
    | some (.k p q), ⟨b, a, e1, _⟩ => rw [e1] at hj; cases hj
    | some (.m v), ⟨k, e1, _⟩ => rw [e1] at hj; cases hj
    | some (.n v), h => rw [h.1] at hj; cases hj
    | some (.u v), h => rw [h.1] at hj; cases hj
    | some (.t p v), _ => trivial
  | k xs =>
    obtain ⟨b', a', hj, hk⟩ := hh
    match v, h with
    | none, h => rw [show J i = [] from h] at hj; cases hj
    | some .x, h => rw [show J i = [] from h] at hj; cases hj
    | some (.d v), h => rw [h.1] at hj; cases hj
    | some (.b v), h => rw [h.1] at hj; cases hj
    | some (.l p xs), ⟨j, e1, _⟩ => rw [e1] at hj; cases hj
    | some (.k p q), _ => trivial
    | some (.m v), ⟨k, e1, _⟩ => rw [e1] at hj; cases hj; exact absurd hk.ab (by omega)
    | some (.n v), h => rw [h.1] at hj; cases hj
    | some (.u v), h => rw [h.1] at hj; cases hj
    | some (.t p v), ⟨k, ks, e1, _⟩ => rw [e1] at hj; cases hj
/-- a slot's places ahead of the frame are its pinned ones -/
theorem SlotOk.pinned {i : Nat} {js : List Nat} {e : Option (Option W)} {v : Option PV} (h : SlotOk fr m i js e v) : ∀ j ∈ js, j < fr.m0.length → fr.pin i = js := by
  intro j hj hl
  match v, h with
  | none, h => rw [show js = [] from h] at hj; cases hj
  | some .x, h => rw [show js = [] from h] at hj; cases hj
  | some (.d v), h => rw [h.1] at hj; cases hj
  | some (.b v), h => rw [h.1] at hj; cases hj
  | some (.l p xs), ⟨k, e1, e2, e3, e4⟩ =>
    rcases e4 with ⟨_, e4⟩ | ⟨_, e4⟩
    · rw [e4, e1]
    · rw [e1] at hj
      rw [List.mem_singleton.mp hj] at hl
      omega
  | some (.k p q), ⟨b, a, e1, e2, e3, e4⟩ =>
    have := e3.ab
    rcases e4 with ⟨_, e4⟩ | ⟨_, e4⟩
    · rw [e4, e1]
    · rw [e1] at hj
      rcases List.mem_cons.mp hj with rfl | hj
      · omega
      · rw [List.mem_singleton.mp hj] at hl; omega
  | some (.m kvs), ⟨k, e1, e2, e3, e4⟩ =>
    rw [e1] at hj
    have : j = k := by simpa using hj
    omega
  | some (.n v), h => rw [h.1] at hj; cases hj
  | some (.u v), h => rw [h.1] at hj; cases hj
  | some (.t p kvs), ⟨k, ks, e1, e2, e3, e4⟩ =>
    rcases e4 with ⟨_, e4⟩ | ⟨_, e4⟩
    · exact e4
    · have := e4 j hj; omega
theorem Rel.keep (R : Rel fr ρ env m) {J : Nat → List Nat} {rs : List Nat} (hJ : ∀ i, SlotOk fr m i (J i) env[i]? ρ[i]?) (k : Keep m m' J rs) : fr.m0.length ≤ m'.length ∧ (∀ j, j < fr.m0.length → (∀ i, j ∉ fr.pin i) → m'[j]? = fr.m0[j]?) ∧ (∀ (i j : Nat), j ∈ fr.pin i → ∀ o : O, m'[j]? = some o → ∃ i', j ∈ fr.pin i' ∧ okJ (fr.pin i') o = true) ∧ (∀ (j : Nat) (o : O), fr.m0.length ≤ j → m'[j]? = some o → okO m'.length o = true) := by
  have go : ∀ (j : Nat) (o : O), m'[j]? = some o → (∃ i ∈ rs, j ∈ J i ∧ okJ (J i) o = true) ∨ m[j]? = some o := fun j o e => by
    by_cases hp : ∃ i ∈ rs, j ∈ J i
    · obtain ⟨i, hi, hj⟩ := hp
      exact .inl ⟨i, hi, hj, k.dn i hi j hj o e⟩
    · exact .inr (by rw [← k.get j fun i hi hj => hp ⟨i, hi, hj⟩]; exact e)
  refine ⟨by rw [k.len]; exact R.len, fun j h1 h2 => ?_, fun i j hj o e => ?_, fun j o hj e => ?_⟩
  · rw [k.get j fun i hi hj => ?_]
    · exact R.fix j h1 h2
    · rcases (hJ i).own j hj with z | z
      · exact h2 i z
      · omega
  · rcases go j o e with ⟨i', _, hj', z⟩ | z
    · have hl := R.pok i j hj
      have e1 := (hJ i').pinned j hj' hl
      exact ⟨i', by rw [e1]; exact hj', by rw [e1]; exact z⟩
    · exact R.cp i j hj o z
  · have hl := (List.getElem?_eq_some_iff.mp e).1
    rcases go j o e with ⟨i', _, hj', z⟩ | z
    · exact okJ.le z fun j' hj2 => by rw [k.len]; exact (hJ i').lt j' hj2
    · rw [k.len]
      exact R.cn j o hj z
theorem re_call {F : FF} {ks : List PK} {ss : List Nat} {Q : GFn} {h : AF} {k : GAx} (hF : SpG F s Q) (ha : RA ss ms h k) (hl : lvOk ks ss = true := by rfl) : RE s ms (eCallF F h) (gCall ms ks Q k) := by
  intro γ fr ρ env m K R nb
  refine APost.bind nb (ha γ fr ρ env m _ R nb) fun ws m1 vs ρ1 R1 h1 a1 nb1 => ?_
  cases ok : refsOk ms ks vs with
  | false => rw [ok] at nb1; exact absurd rfl nb1
  | true =>
    rw [ok] at nb1
    dsimp only at nb1 ⊢
    obtain ⟨J, hd, hJ⟩ := R1.ex
    simp only [refsOk, Bool.and_eq_true] at ok
    obtain ⟨⟨ok1, ok2⟩, ok3⟩ := ok
    obtain ⟨avs, e1, e2, e4, e3⟩ := avs_ok R1 hd hJ hl h1 nb1
    rw [e1] at nb1 ⊢
    have hA := e3 (mrefs avs) (fun i hi hi' => by
      rw [e2] at hi'
      have := List.all_eq_true.mp ok3 i hi
      simp only [Bool.not_eq_true', List.contains_eq_mem, decide_eq_false_iff_not] at this
      exact this hi')
    simp only [callM, e4, if_true]
    rcases hF γ m1 ws avs J _ R1.cm hA (by rw [e2]; exact nodupB_iff ok2) (fun i _ i' _ j => hd i i' j) nb1 with ⟨w, m2, x, us, f1, f2, f3, f4, f5, f6⟩ | ⟨e, m2, f1, f2, f3⟩
    · rw [f1, f3]
      have ag : Ag ms ρ1 (upds ρ1 us) := upds_ag us (Ag.refl _ _) (by rw [f4, e2]; exact ok1)
      refine .inl ⟨w, m2, .v x, upds ρ1 us, rfl, ?_, f2 fr, rfl, ag⟩
      obtain ⟨k1, k2, k3, k4⟩ := R1.keep hJ f6
      refine ⟨R1.pok, k1, k2, R1.c0, k3, k4, by rw [upds_length]; exact R1.el, J, hd, ?_⟩
      refine upds_slots (m := m1) us (by rw [f4, e2]; exact nodupB_iff ok2) f5 (fun i hi => ?_) (fun i hi => hJ i) (fun u hu => has_kind (hJ u.1) (f5 u hu))
      refine (hJ i).mem fun j hj => f6.get j fun i' hi' hj' => ?_
      have := hd i i' j hj hj'
      subst this
      exact hi (by rw [f4]; exact hi')
    · rw [f1, f2]
      refine .inr ⟨e, m2, rfl, rfl, ?_⟩
      obtain ⟨k1, k2, k3, k4⟩ := R1.keep hJ f3
      refine ⟨R1.pok, k1, k2, R1.c0, k3, k4, by rw [wip_length]; exact R1.el, fun i => if isM ms i = true then [] else J i, fun i i' j h1 h2 => ?_, fun i => ?_⟩
      · dsimp only at h1 h2
        split at h1
        · cases h1
        · split at h2
          · cases h2
          · exact hd i i' j h1 h2
      · dsimp only
        rw [wip_get]
        by_cases q : isM ms i = true
        · rw [if_pos q, if_pos q]
          cases ρ1[i]? <;> exact (rfl : ([] : List Nat) = [])
        · rw [if_neg q, if_neg q]
          refine (hJ i).mem fun j hj => f3.get j fun i' hi' hj' => ?_
          have := hd i i' j hj hj'
          subst this
          rw [e2] at hi'
          exact q (allIn_get ok1 i hi')
/-! ### a def by its body -/
def initV : AV → PV
  | .d x => .d x
  | .b xs => .b xs
  | .l _ xs => .l true xs
  | .k _ q => .k true q
  | .n kvs => .n kvs
  | .t _ kvs => .t true kvs
  | .u kvs => .u kvs
def init0 (N : Nat) (avs : List AV) : List PV := avs.map initV ++ List.replicate (N - avs.length) .x
def aref : AV → Option Nat
  | .l i _ => some i
  | .k i _ => some i
  | .t i _ => some i
  | _ => none
theorem mrefs_fm : ∀ avs : List AV, mrefs avs = avs.filterMap aref
  | [] => rfl
  | .d _ :: r => by rw [List.filterMap_cons]; exact mrefs_fm r
  | .n _ :: r => by rw [List.filterMap_cons]; exact mrefs_fm r
  | .u _ :: r => by rw [List.filterMap_cons]; exact mrefs_fm r
  | .t _ _ :: r => by simp [mrefs, aref, mrefs_fm r]
  | .b _ :: r => by rw [List.filterMap_cons]; exact mrefs_fm r
  | .l _ _ :: r => by simp [mrefs, aref, mrefs_fm r]
  | .k _ _ :: r => by simp [mrefs, aref, mrefs_fm r]
theorem fm_inj {α β : Type} {f : α → Option β} : ∀ {l : List α} {a b : Nat} {x y : α} {i : β}, (l.filterMap f).Nodup → l[a]? = some x → l[b]? = some y → f x = some i → f y = some i → a = b
  | [], a, b, x, y, i, _, ha, _, _, _ => by simp at ha
  | z :: l, 0, 0, x, y, i, _, _, _, _, _ => rfl
  | z :: l, 0, b + 1, x, y, i, hn, ha, hb, hx, hy => by
    simp at ha
    subst ha
    rw [List.filterMap_cons, hx] at hn
    have := (List.nodup_cons.mp hn).1
    exact absurd (List.mem_filterMap.mpr ⟨y, List.mem_of_getElem? (by simpa using hb), hy⟩) this
  | z :: l, a + 1, 0, x, y, i, hn, ha, hb, hx, hy => by
    simp at hb
    subst hb
    rw [List.filterMap_cons, hy] at hn
    have := (List.nodup_cons.mp hn).1
    exact absurd (List.mem_filterMap.mpr ⟨x, List.mem_of_getElem? (by simpa using ha), hx⟩) this
  | z :: l, a + 1, b + 1, x, y, i, hn, ha, hb, hx, hy => by
    have hn' : (l.filterMap f).Nodup := by
      rw [List.filterMap_cons] at hn
      split at hn
      · exact hn
      · exact (List.nodup_cons.mp hn).2
    exact congrArg (· + 1) (fm_inj (l := l) hn' (by simpa using ha) (by simpa using hb) hx hy)
theorem ArgsOk.get {J : Nat → List Nat} {rs : List Nat} : ∀ {ws : List W} {avs : List AV} {a : Nat}, ArgsOk m J rs ws avs → (∀ v, avs[a]? = some v → ∃ w, ws[a]? = some w ∧ ArgOk m J rs w v)
  | _, _, _, .nil => by intro v h; simp at h
  | _, _, 0, .cons h t => by intro v e; simp at e; subst e; exact ⟨_, rfl, h⟩
  | _, _, a + 1, .cons h t => by
    intro v e
    obtain ⟨w, h1, h2⟩ := ArgsOk.get (a := a) t v (by simpa using e)
    exact ⟨w, by simpa using h1, h2⟩
theorem ArgsOk.len {J : Nat → List Nat} {rs : List Nat} : ∀ {ws : List W} {avs : List AV}, ArgsOk m J rs ws avs → ws.length = avs.length
  | _, _, .nil => rfl
  | _, _, .cons h t => by simp [t.len]
def pinOf (J : Nat → List Nat) (avs : List AV) (a : Nat) : List Nat := match (avs[a]?).bind aref with
  | some i => J i
  | none => []
theorem rel_init {N : Nat} {J : Nat → List Nat} {ws : List W} {avs : List AV} (hcl : ∀ (j : Nat) (o : O), m[j]? = some o → okO m.length o = true) (hA : ArgsOk m J (mrefs avs) ws avs) (hn : (mrefs avs).Nodup) (hd : ∀ i ∈ mrefs avs, ∀ i' ∈ mrefs avs, ∀ j, j ∈ J i → j ∈ J i' → i = i') : Rel ⟨m, pinOf J avs⟩ (init0 N avs) (env0 N ws) m := by
  have hl := hA.len
  have mem : ∀ {a : Nat} {i : Nat}, (avs[a]?).bind aref = some i → i ∈ mrefs avs := by
    intro a i h
    rw [mrefs_fm]
    cases q : avs[a]? with
    | none => rw [q] at h; cases h
    | some v => rw [q] at h; exact List.mem_filterMap.mpr ⟨v, List.mem_of_getElem? q, h⟩
  have lt : ∀ a j, j ∈ pinOf J avs a → j < m.length := by
    intro a j hj
    unfold pinOf at hj
    cases q : avs[a]? with
    | none => rw [q] at hj; cases hj
    | some v =>
      rw [q] at hj
      obtain ⟨w, h1, h2⟩ := hA.get v q
      cases v with
      | d x => cases hj
      | b x => cases hj
      | l i xs =>
        obtain ⟨k, e1, e2, e3⟩ := h2
        have hj : j ∈ J i := hj
        rw [e2] at hj
        rw [List.mem_singleton.mp hj]
        exact (List.getElem?_eq_some_iff.mp e3).1
      | k i q =>
        obtain ⟨b, a, e1, e2, e3⟩ := h2
        have hj : j ∈ J i := hj
        have hb := (List.getElem?_eq_some_iff.mp e3.cb).1
        have ha := (List.getElem?_eq_some_iff.mp e3.ca).1
        rw [e2] at hj
        rcases List.mem_cons.mp hj with rfl | hj
        · exact hb
        · rw [List.mem_singleton.mp hj]; exact ha
      | n kvs => cases hj
      | u kvs => cases hj
      | t i kvs =>
        obtain ⟨b, kk, e1, e2, e3⟩ := h2
        have hj : j ∈ J i := hj
        rw [e2] at hj
        exact e3.lt j (by simpa using hj)
  have cp : ∀ a j, j ∈ pinOf J avs a → ∀ o : O, m[j]? = some o → ∃ i', j ∈ pinOf J avs i' ∧ okJ (pinOf J avs i') o = true := by
    intro a j hj o eo
    refine ⟨a, hj, ?_⟩
    unfold pinOf at hj ⊢
    cases q : avs[a]? with
    | none => rw [q] at hj; cases hj
    | some v =>
      rw [q] at hj
      obtain ⟨w, h1, h2⟩ := hA.get v q
      cases v with
      | d x => cases hj
      | b x => cases hj
      | l i xs =>
        obtain ⟨k, e1, e2, e3⟩ := h2
        have hj : j ∈ J i := hj
        rw [e2] at hj
        rw [List.mem_singleton.mp hj] at eo
        rw [e3] at eo
        cases eo
        rfl
      | k i q =>
        obtain ⟨b, a, e1, e2, e3⟩ := h2
        have hj : j ∈ J i := hj
        show okJ (J i) o = true
        rw [e2] at hj ⊢
        rcases List.mem_cons.mp hj with rfl | hj
        · rw [e3.cb] at eo
          cases eo
          simp [okJ, dk, okJW]
        · rw [List.mem_singleton.mp hj, e3.ca] at eo
          cases eo
          rfl
      | n kvs => cases hj
      | u kvs => cases hj
      | t i kvs =>
        obtain ⟨b, kk, e1, e2, e3⟩ := h2
        have hj : j ∈ J i := hj
        show okJ (J i) o = true
        rw [e2] at hj ⊢
        exact e3.okJ (fun i hi => by simp [hi]) j (by simpa using hj) o eo
  refine ⟨lt, Nat.le_refl _, fun j _ _ => rfl, hcl, cp, fun j o hj e => (by rw [List.getElem?_eq_none hj] at e; cases e), ?_, pinOf J avs, fun a a' j h1 h2 => ?_, fun a => ?_⟩
  · simp [init0, env0, hl]
  · unfold pinOf at h1 h2
    cases q : (avs[a]?).bind aref with
    | none => rw [q] at h1; cases h1
    | some i =>
      cases q' : (avs[a']?).bind aref with
      | none => rw [q'] at h2; cases h2
      | some i' =>
        rw [q] at h1; rw [q'] at h2
        have := hd i (mem q) i' (mem q') j h1 h2
        subst this
        rw [mrefs_fm] at hn
        cases z : avs[a]? with
        | none => rw [z] at q; cases q
        | some v =>
          cases z' : avs[a']? with
          | none => rw [z'] at q'; cases q'
          | some v' =>
            rw [z] at q; rw [z'] at q'
            exact fm_inj hn z z' q q'
  · by_cases ha : a < avs.length
    · have e1 : (init0 N avs)[a]? = (avs[a]?).map initV := by
        unfold init0
        rw [List.getElem?_append_left (by simpa using ha), List.getElem?_map]
      have e2 : (env0 N ws)[a]? = (ws[a]?).map some := by
        unfold env0
        rw [List.getElem?_append_left (by simp [hl, ha]), List.getElem?_map]
      rw [e1, e2]
      cases q : avs[a]? with
      | none => rw [List.getElem?_eq_none_iff] at q; omega
      | some v =>
        obtain ⟨w, h1, h2⟩ := hA.get v q
        rw [h1]
        have ep : pinOf J avs a = match aref v with | some i => J i | none => [] := by unfold pinOf; rw [q]; rfl
        rw [ep]
        cases v with
        | d x => exact ⟨rfl, by rw [show w = .d x from h2]; rfl⟩
        | b xs =>
          refine ⟨rfl, w, rfl, ?_⟩
          rcases h2 with h | h | ⟨j, h, hj, hi⟩
          · exact .inl h
          · exact .inr (.inl h)
          · refine .inr (.inr ⟨j, h, hj, fun a' hj' => ?_⟩)
            have hj' : j ∈ pinOf J avs a' := hj'
            unfold pinOf at hj'
            cases q' : (avs[a']?).bind aref with
            | none => rw [q'] at hj'; cases hj'
            | some i' => rw [q'] at hj'; exact hi i' (mem q') hj'
        | l i xs =>
          obtain ⟨k, e1, e2, e3⟩ := h2
          subst e1
          exact ⟨k, e2, rfl, e3, .inl ⟨rfl, by show pinOf J avs a = _; rw [ep]; exact e2⟩⟩
        | k i xs =>
          obtain ⟨b, c, e1, e2, e3⟩ := h2
          subst e1
          exact ⟨b, c, e2, rfl, e3, .inl ⟨rfl, by show pinOf J avs a = _; rw [ep]; exact e2⟩⟩
        | t i xs =>
          obtain ⟨b, c, e1, e2, e3⟩ := h2
          subst e1
          exact ⟨b, c, e2, rfl, e3, .inl ⟨rfl, by show pinOf J avs a = _; rw [ep]⟩⟩
        | u kvs =>
          obtain ⟨j, h, hj, hi⟩ := h2
          subst h
          refine ⟨rfl, j, rfl, hj, fun a' hj' => ?_⟩
          have hj' : j ∈ pinOf J avs a' := hj'
          unfold pinOf at hj'
          cases q' : (avs[a']?).bind aref with
          | none => rw [q'] at hj'; cases hj'
          | some i' => rw [q'] at hj'; exact hi i' (mem q') hj'
        | n kvs =>
          obtain ⟨j, h, hj, hi⟩ := h2
          subst h
          refine ⟨rfl, j, rfl, hj, fun a' hj' => ?_⟩
          have hj' : j ∈ pinOf J avs a' := hj'
          unfold pinOf at hj'
          cases q' : (avs[a']?).bind aref with
          | none => rw [q'] at hj'; cases hj'
          | some i' => rw [q'] at hj'; exact hi i' (mem q') hj'
    · have ep : pinOf J avs a = [] := by
        unfold pinOf
        rw [List.getElem?_eq_none (by omega)]
        rfl
      rw [ep]
      have e1 : (init0 N avs)[a]? = some .x ∨ (init0 N avs)[a]? = none := by
        unfold init0
        rw [List.getElem?_append_right (by simpa using ha), List.getElem?_replicate]
        split
        · exact .inl rfl
        · exact .inr rfl
      rcases e1 with e1 | e1 <;> rw [e1] <;> exact (rfl : ([] : List Nat) = [])
/-- a dict frozen -/
def frzV : TV → D
  | .d x => x
  | .l xs => .list xs
  | .c kvs => .dict kvs
def frzT (kvs : List (D × TV)) : List (D × D) := kvs.map fun p => (p.1, frzV p.2)
theorem views_kvN {n : Nat} {m : Mem} {f : Nat} : ∀ kvs : List (D × D), viewsM (viewM n m f) (kvN kvs) = some (kvs, [])
  | [] => rfl
  | p :: r => by
    show viewsM (viewM n m f) ((p.1, .d p.2) :: kvN r) = _
    simp only [viewsM]
    rw [views_kvN r]
    cases f <;> rfl
theorem view_ch {n : Nat} {m : Mem} {kws : List (D × W)} {kvs : List (D × TV)} {ks : List Nat} (h : ChAt m kws kvs ks) (hn : ∀ j ∈ ks, n ≤ j) (f : Nat) : viewsM (viewM n m (f + 2)) kws = some (frzT kvs, ks) := by
  induction h with
  | nil => rfl
  | d t ih =>
    simp only [viewsM]
    rw [ih hn]
    rfl
  | @l k i xs kws kvs ks e nn t ih =>
    have hi := hn i List.mem_cons_self
    have e1 : viewM n m (f + 2) (.obj i) = some (.list xs, [i]) := by
      simp only [viewM, if_neg (Nat.not_lt.mpr hi), e]
    simp only [viewsM]
    rw [e1, ih fun j hj => hn j (List.mem_cons_of_mem _ hj)]
    rfl
  | @c k i ys kws kvs ks e nn t ih =>
    have hi := hn i List.mem_cons_self
    have e1 : viewM n m (f + 2) (.obj i) = some (.dict ys, [i]) := by
      simp only [viewM, if_neg (Nat.not_lt.mpr hi), e]
      rw [views_kvN]
    simp only [viewsM]
    rw [e1, ih fun j hj => hn j (List.mem_cons_of_mem _ hj)]
    rfl
theorem view_tr {n : Nat} {m : Mem} {j : Nat} {kvs : List (D × TV)} {ks : List Nat} (h : TrAt m j kvs ks) (hn : ∀ i ∈ j :: ks, n ≤ i) : viewM n m 4 (.obj j) = some (.dict (frzT kvs), j :: ks) := by
  obtain ⟨_, kws, h2, h3⟩ := h
  have hj := hn j List.mem_cons_self
  simp only [viewM, if_neg (Nat.not_lt.mpr hj), h2]
  have := view_ch h3 (fun i hi => hn i (List.mem_cons_of_mem _ hi)) 1
  rw [this]
/-- a body run on its own -/
def retK {τ : Type} (out : D → List PV → PR τ) (v : GV) (ρ : List PV) : PR τ := match v with
  | .v x => out x ρ
  | .r i => match ρ[i]? with
    | some (.l false xs) => out (.list xs) ρ
    | some (.t false kvs) => out (.dict (frzT kvs)) ρ
    | _ => .bad
def runG {τ : Type} (g : GSx) (ρ0 : List PV) (out : D → List PV → PR τ) : PR τ := g τ ρ0 (fun ρ => out .none ρ) (fun _ => .bad) (fun _ => .bad) (fun v ρ => retK out v ρ)
def Fin1 (m' : Mem) (J : Nat → List Nat) (avs : List AV) (ρ' : List PV) : Prop := (∀ (a i : Nat) xs xs', avs[a]? = some (.l i xs) → ρ'[a]? = some (.l true xs') → Has m' J i (.l xs')) ∧ (∀ (a i : Nat) q q', avs[a]? = some (.k i q) → ρ'[a]? = some (.k true q') → Has m' J i (.k q')) ∧ (∀ (a i : Nat) q q', avs[a]? = some (.t i q) → ρ'[a]? = some (.t true q') → Has m' J i (.t q'))
def lvRet (sr s : Nat) : Bool := match sr, s with
  | 7, 2 => true
  | 8, 1 => true
  | 0, 0 => true
  | _, _ => false
theorem fin_of {N : Nat} {J : Nat → List Nat} {ws : List W} {avs : List AV} {ρ' : List PV} {env' : Env} (hd : ∀ i ∈ mrefs avs, ∀ i' ∈ mrefs avs, ∀ j, j ∈ J i → j ∈ J i' → i = i') (R : Rel ⟨m, pinOf J avs⟩ ρ' env' m') : Fin1 (m'.take m.length) J avs ρ' ∧ Keep m (m'.take m.length) J (mrefs avs) := by
  have len : m.length ≤ m'.length := R.len
  refine ⟨⟨fun a i xs xs' ha hr => ?_, fun a i q q' ha hr => ?_, fun a i q q' ha hr => ?_⟩, ⟨by rw [List.length_take]; omega, fun j hj => ?_, fun i hi j hj o e => ?_⟩⟩
  · obtain ⟨J2, hd2, hJ2⟩ := R.ex
    have z := hJ2 a
    rw [hr] at z
    obtain ⟨j, z1, z2, z3, z4 | z4⟩ := z
    · have ep : pinOf J avs a = J i := by unfold pinOf; rw [ha]; rfl
      have z5 : J i = [j] := by rw [← ep]; exact z4.2
      have lt : j < m.length := R.pok a j (by show j ∈ pinOf J avs a; rw [ep, z5]; simp)
      exact ⟨j, z5, by rw [List.getElem?_take_of_lt lt]; exact z3⟩
    · exact absurd z4.1 (by simp)
  · obtain ⟨J2, hd2, hJ2⟩ := R.ex
    have z := hJ2 a
    rw [hr] at z
    obtain ⟨b, c, z1, z2, z3, z4 | z4⟩ := z
    · have ep : pinOf J avs a = J i := by unfold pinOf; rw [ha]; rfl
      have z5 : J i = [b, c] := by rw [← ep]; exact z4.2
      have lt : b < m.length := R.pok a b (by show b ∈ pinOf J avs a; rw [ep, z5]; simp)
      have lt2 : c < m.length := R.pok a c (by show c ∈ pinOf J avs a; rw [ep, z5]; simp)
      exact ⟨b, c, z5, z3.ab, by rw [List.getElem?_take_of_lt lt2]; exact z3.ca, by rw [List.getElem?_take_of_lt lt]; exact z3.cb⟩
    · exact absurd z4.1 (by simp)
  · obtain ⟨J2, hd2, hJ2⟩ := R.ex
    have z := hJ2 a
    rw [hr] at z
    obtain ⟨b, c, z1, z2, z3, z4 | z4⟩ := z
    · have ep : pinOf J avs a = J i := by unfold pinOf; rw [ha]; rfl
      have z5 : J i = b :: b :: b :: c := by rw [← ep, ← z1]; exact z4.2
      refine ⟨b, c, z5, z3.mem fun k hk => List.getElem?_take_of_lt (R.pok a k ?_)⟩
      show k ∈ pinOf J avs a
      rw [ep, z5]
      rcases List.mem_cons.mp hk with rfl | hk
      · simp
      · simp [hk]
    · exact absurd z4.1 (by simp)
  · by_cases h : j < m.length
    · rw [List.getElem?_take_of_lt h]
      refine R.fix j h fun a ha => ?_
      have ha : j ∈ pinOf J avs a := ha
      unfold pinOf at ha
      cases q : (avs[a]?).bind aref with
      | none => rw [q] at ha; cases ha
      | some i =>
        rw [q] at ha
        refine hj i ?_ ha
        rw [mrefs_fm]
        cases z : avs[a]? with
        | none => rw [z] at q; cases q
        | some v => rw [z] at q; exact List.mem_filterMap.mpr ⟨v, List.mem_of_getElem? z, q⟩
    · rw [List.getElem?_eq_none (by rw [List.length_take]; omega), List.getElem?_eq_none (by omega)]
  · rw [mrefs_fm] at hi
    obtain ⟨v, hv, hr⟩ := List.mem_filterMap.mp hi
    obtain ⟨a, ha⟩ := List.getElem?_of_mem hv
    have hl := (List.getElem?_eq_some_iff.mp e).1
    rw [List.length_take] at hl
    rw [List.getElem?_take_of_lt (by omega)] at e
    have hp : j ∈ pinOf J avs a := by
      unfold pinOf
      rw [ha]
      show j ∈ (match aref v with | some i => J i | none => [])
      rw [hr]
      exact hj
    obtain ⟨a', h1, h2⟩ := R.cp a j hp o e
    have h1 : j ∈ pinOf J avs a' := h1
    have h2 : okJ (pinOf J avs a') o = true := h2
    unfold pinOf at h1 h2
    cases q : (avs[a']?).bind aref with
    | none => rw [q] at h1; cases h1
    | some i' =>
      rw [q] at h1 h2
      have hm : i' ∈ mrefs avs := by
        rw [mrefs_fm]
        cases z : avs[a']? with
        | none => rw [z] at q; cases q
        | some v' => rw [z] at q; exact List.mem_filterMap.mpr ⟨v', List.mem_of_getElem? z, q⟩
      have hi0 : i ∈ mrefs avs := by rw [mrefs_fm]; exact hi
      have := hd i hi0 i' hm j hj h1
      subst this
      exact h2
theorem finM_d {n : Nat} {x : D} {m : Mem} (h : clM n m = true) : finM n (.d x) m = .ok (.d x) (m.take n) := by
  unfold finM
  rw [if_pos h]
theorem finM_fl {n : Nat} {x : List D} {m : Mem} (h : clM n m = true) : finM n (.fl x) m = .ok (.fl x) (m.take n) := by
  unfold finM
  rw [if_pos h]
theorem body_run {N : Nat} {f : SF} {g : GSx} (hb : RS sr ms f g) (hs : lvRet sr s = true) {J : Nat → List Nat} {ws : List W} {avs : List AV} (hcl : ∀ (j : Nat) (o : O), m[j]? = some o → okO m.length o = true) (hA : ArgsOk m J (mrefs avs) ws avs) (hn : (mrefs avs).Nodup) (hd : ∀ i ∈ mrefs avs, ∀ i' ∈ mrefs avs, ∀ j, j ∈ J i → j ∈ J i' → i = i') {τ : Type} {out : D → List PV → PR τ} (nb : runG g (init0 N avs) out ≠ .bad) :
    (∃ w m' x ρ', runF N f ws m = .ok w m' ∧ (∀ fr, VW fr s w x) ∧ runG g (init0 N avs) out = out x ρ' ∧ Fin1 m' J avs ρ' ∧ Keep m m' J (mrefs avs)) ∨ (∃ e m', runF N f ws m = .err e m' ∧ runG g (init0 N avs) out = .err e ∧ Keep m m' J (mrefs avs)) := by
  have R0 := rel_init (N := N) hcl hA hn hd
  have h := hb τ _ _ _ m (fun ρ => out .none ρ) (fun _ => .bad) (fun _ => .bad) (fun v ρ => retK out v ρ) R0 nb
  unfold runF
  have e0 : runG g (init0 N avs) out = g τ (init0 N avs) (fun ρ => out .none ρ) (fun _ => .bad) (fun _ => .bad) (fun v ρ => retK out v ρ) := rfl
  rw [e0] at nb ⊢
  generalize f (env0 N ws) m = r at h
  cases h with
  | nx e1 m1 ρ1 h1 h2 h3 h4 =>
    obtain ⟨f1, f2⟩ := fin_of (N := N) (ws := ws) hd h1
    refine .inl ⟨.d .none, m1.take m.length, .none, ρ1, finM_d h1.cl, fun fr => ?_, h2, f1, f2⟩
    unfold lvRet at hs
    split at hs
    · exact .inl rfl
    · rfl
    · rfl
    · cases hs
  | bk e1 m1 ρ1 h1 h2 h3 h4 => exact absurd h2 nb
  | ct e1 m1 ρ1 h1 h2 h3 h4 => exact absurd h2 nb
  | err e e1 m1 h1 h2 h3 =>
    obtain ⟨f1, f2⟩ := fin_of (N := N) (ws := ws) hd h1
    exact .inr ⟨e, _, if_pos h1.cl, h2, f2⟩
  | rt w m1 v ρ1 e1 h1 h2 h3 h4 =>
    obtain ⟨f1, f2⟩ := fin_of (N := N) (ws := ws) hd h1
    rw [h3] at nb ⊢
    cases v with
    | v x =>
      have e : finM m.length w m1 = .ok w (m1.take m.length) ∧ ∀ fr, VW fr s w x := by
        unfold lvRet at hs
        split at hs
        · rcases h2 with rfl | ⟨ds, rfl, rfl⟩
          · exact ⟨finM_d h1.cl, fun _ => .inl rfl⟩
          · exact ⟨finM_fl h1.cl, fun _ => .inr ⟨ds, rfl, rfl⟩⟩
        · cases x with
          | list ds =>
            have h2 : w = .fl ds := h2
            subst h2
            exact ⟨finM_fl h1.cl, fun _ => rfl⟩
          | none => have h2 : w = .d .none := h2; subst h2; exact ⟨finM_d h1.cl, fun _ => rfl⟩
          | bool y => have h2 : w = .d (.bool y) := h2; subst h2; exact ⟨finM_d h1.cl, fun _ => rfl⟩
          | int y => have h2 : w = .d (.int y) := h2; subst h2; exact ⟨finM_d h1.cl, fun _ => rfl⟩
          | str y => have h2 : w = .d (.str y) := h2; subst h2; exact ⟨finM_d h1.cl, fun _ => rfl⟩
          | tuple y => have h2 : w = .d (.tuple y) := h2; subst h2; exact ⟨finM_d h1.cl, fun _ => rfl⟩
          | dict y => have h2 : w = .d (.dict y) := h2; subst h2; exact ⟨finM_d h1.cl, fun _ => rfl⟩
        · have h2 : w = .d x := h2
          subst h2
          exact ⟨finM_d h1.cl, fun _ => rfl⟩
        · cases hs
      exact .inl ⟨w, _, x, ρ1, e.1, e.2, rfl, f1, f2⟩
    | r i =>
      simp only [retK] at nb ⊢
      cases q : ρ1[i]? with
      | none => rw [q] at nb; exact absurd rfl nb
      | some u =>
        cases u with
        | l p xs =>
          cases p with
          | true => rw [q] at nb; exact absurd rfl nb
          | false =>
            rw [q] at nb
            dsimp only at nb ⊢
            obtain ⟨J2, hd2, hJ2⟩ := h1.ex
            have z := hJ2 i
            rw [q] at z
            obtain ⟨j, z1, z2, z3, z4 | z4⟩ := z
            · exact absurd z4.1 (by simp)
            · have hw := h2.2
              rw [z2] at hw
              cases hw
              have hj : m.length ≤ j := z4.2
              have ef : finM m.length (.obj j) m1 = .ok (.fl xs) (m1.take m.length) := by
                simp only [finM]
                rw [if_pos h1.cl, if_neg (by omega), z3]
              refine .inl ⟨.fl xs, _, .list xs, ρ1, ef, fun fr => ?_, rfl, f1, f2⟩
              unfold lvRet at hs
              split at hs
              · exact .inr ⟨xs, rfl, rfl⟩
              · rfl
              · exact absurd h2.1 (by decide)
              · cases hs
        | t p kvs =>
          cases p with
          | true => rw [q] at nb; exact absurd rfl nb
          | false =>
            rw [q] at nb
            dsimp only at nb ⊢
            obtain ⟨J2, hd2, hJ2⟩ := h1.ex
            have z := hJ2 i
            rw [q] at z
            obtain ⟨j, kk, z1, z2, z3, z4 | z4⟩ := z
            · exact absurd z4.1 (by simp)
            · have hw := h2.2
              rw [z2] at hw
              cases hw
              have hj : ∀ k ∈ j :: kk, m.length ≤ k := fun k hk => z4.2 k (by rw [z1]; rcases List.mem_cons.mp hk with rfl | hk <;> simp [*])
              have hv := view_tr z3 hj
              obtain ⟨_, kws, z5, _⟩ := z3
              have ef : finM m.length (.obj j) m1 = .ok (.d (.dict (frzT kvs))) (m1.take m.length) := by
                simp only [finM]
                rw [if_pos h1.cl, if_neg (Nat.not_lt.mpr (hj j List.mem_cons_self)), z5]
                dsimp only
                rw [hv]
              refine .inl ⟨.d (.dict (frzT kvs)), _, .dict (frzT kvs), ρ1, ef, fun fr => ?_, rfl, f1, f2⟩
              unfold lvRet at hs
              split at hs
              · exact .inl rfl
              · rfl
              · rfl
              · cases hs
        | _ => rw [q] at nb; exact absurd rfl nb
def OutAt (avs : List AV) (ρ' : List PV) (i : Nat) : UV → Prop
  | .l xs' => ∃ (a : Nat) (xs : List D), avs[a]? = some (AV.l i xs) ∧ ρ'[a]? = some (PV.l true xs')
  | .k q' => ∃ (a : Nat) (q : Dk), avs[a]? = some (AV.k i q) ∧ ρ'[a]? = some (PV.k true q')
  | .t q' => ∃ (a : Nat) (q : List (D × TV)), avs[a]? = some (AV.t i q) ∧ ρ'[a]? = some (PV.t true q')
theorem sp_fin {N : Nat} {f : SF} {g : GSx} (hb : RS sr ms f g) (hs : lvRet sr s = true) {J : Nat → List Nat} {ws : List W} {avs : List AV} (hcl : ∀ (j : Nat) (o : O), m[j]? = some o → okO m.length o = true) (hA : ArgsOk m J (mrefs avs) ws avs) (hn : (mrefs avs).Nodup) (hd : ∀ i ∈ mrefs avs, ∀ i' ∈ mrefs avs, ∀ j, j ∈ J i → j ∈ J i' → i = i') {τ γ : Type} {out : D → List PV → PR τ} {P : PR τ} {K : D → List (Nat × UV) → PR γ} {res : τ → D} {us : τ → List (Nat × UV)}
    (hP : runG g (init0 N avs) out = P) (ho : ∀ x ρ', out x ρ' ≠ .bad → ∃ t, out x ρ' = .ok t ∧ res t = x ∧ (us t).map (·.1) = mrefs avs ∧ ∀ u ∈ us t, OutAt avs ρ' u.1 u.2) (nb : (P.bind fun r => K (res r) (us r)) ≠ .bad) :
    (∃ w m' x us', runF N f ws m = .ok w m' ∧ (∀ fr, VW fr s w x) ∧ (P.bind fun r => K (res r) (us r)) = K x us' ∧ us'.map (·.1) = mrefs avs ∧ (∀ u ∈ us', Has m' J u.1 u.2) ∧ Keep m m' J (mrefs avs)) ∨ (∃ e m', runF N f ws m = .err e m' ∧ (P.bind fun r => K (res r) (us r)) = .err e ∧ Keep m m' J (mrefs avs)) := by
  have nb1 : runG g (init0 N avs) out ≠ .bad := by
    rw [hP]
    rintro rfl
    exact nb rfl
  rcases body_run hb hs hcl hA hn hd nb1 with ⟨w, m', x, ρ', h1, h2, h3, h4, h5⟩ | ⟨e, m', h1, h2, h3⟩
  · rw [h3] at nb1
    obtain ⟨t, e1, e2, e3, e4⟩ := ho x ρ' nb1
    have eP : P = .ok t := by rw [← hP, h3, e1]
    subst eP
    refine .inl ⟨w, m', x, us t, h1, h2, by rw [PR.bind_ok, e2], e3, fun u hu => ?_, h5⟩
    have := e4 u hu
    obtain ⟨i, u⟩ := u
    cases u with
    | l xs' => obtain ⟨a, xs, z1, z2⟩ := this; exact h4.1 a i xs xs' z1 z2
    | k q' => obtain ⟨a, xs, z1, z2⟩ := this; exact h4.2.1 a i xs q' z1 z2
    | t q' => obtain ⟨a, xs, z1, z2⟩ := this; exact h4.2.2 a i xs q' z1 z2
  · have eP : P = .err e := by rw [← hP, h2]
    subst eP
    exact .inr ⟨e, m', h1, rfl, h3⟩
/-! what is handed back beside the value -/
def out0 (x : D) (_ : List PV) : PR D := .ok x
def outL (a : Nat) (x : D) (ρ : List PV) : PR (D × List D) := match ρ[a]? with
  | some (.l true xs) => .ok (x, xs)
  | _ => .bad
theorem out0_ok {avs : List AV} (h : mrefs avs = []) : ∀ x ρ', out0 x ρ' ≠ .bad → ∃ t, out0 x ρ' = .ok t ∧ id t = x ∧ ((fun (_ : D) => ([] : List (Nat × UV))) t).map (·.1) = mrefs avs ∧ ∀ u ∈ ((fun (_ : D) => ([] : List (Nat × UV))) t), OutAt avs ρ' u.1 u.2 := fun x ρ' _ => ⟨x, rfl, rfl, by rw [h]; rfl, fun u hu => nomatch hu⟩
theorem outL_ok {avs : List AV} {a i : Nat} {ys : List D} (h : mrefs avs = [i]) (ha : avs[a]? = some (.l i ys)) : ∀ x ρ', outL a x ρ' ≠ .bad → ∃ t, outL a x ρ' = .ok t ∧ Prod.fst t = x ∧ ((fun (t : D × List D) => [(i, UV.l t.2)]) t).map (·.1) = mrefs avs ∧ ∀ u ∈ ((fun (t : D × List D) => [(i, UV.l t.2)]) t), OutAt avs ρ' u.1 u.2 := by
  intro x ρ' nb
  unfold outL at nb ⊢
  split at nb
  · rename_i xs q
    refine ⟨(x, xs), rfl, rfl, by rw [h]; rfl, fun u hu => ?_⟩
    have := List.mem_singleton.mp hu
    subst this
    exact ⟨a, ys, ha, q⟩
  · exact absurd rfl nb
end
end
end M
set_option Elab.async false
set_option linter.all false
set_option maxRecDepth 100000
/-! P: the deck, more operations -/
namespace M
open PySem L2
variable [HasW]
noncomputable section
section
variable {s sr : Nat} {ms : List Bool} {fa fb : EF} {ga gb : GEx}
def addSP (x y : D) : PR D := match x, y with
  | .int i, .int j => .ok (.int (i + j))
  | .str a, .str b => if a.length + b.length ≤ sizeLine then .ok (.str (a ++ b)) else .bad
  | .tuple a, .tuple b => if a.length + b.length ≤ sizeLine then .ok (.tuple (a ++ b)) else .bad
  | _, _ => .bad
def pix {γ : Type} (xs : List D) (i : Int) (k : Nat → PR γ) : PR γ := match ixN xs.length i with
  | some n => k n
  | none => .bad
/-- an object handed over -/
theorem re_objV (i : Nat) (hs : isO s = true := by rfl) : RE s ms (eObj (eVar i)) (gVarO i) := by
  intro γ fr ρ env m K R nb
  unfold gVarO at nb ⊢
  split at nb
  · rename_i p xs h
    obtain ⟨j, e, _⟩ := R.getL h
    simp only [eObj, eVar, e, Res.bind_ok]
    exact EPost.ok (v := .r i) R ⟨hs, e⟩ rfl
  · rename_i p q h
    obtain ⟨J, hd, hJ⟩ := R.ex
    have z := hJ i
    rw [h] at z
    obtain ⟨b, a, _, e, _⟩ := z
    simp only [eObj, eVar, e, Res.bind_ok]
    exact EPost.ok (v := .r i) R ⟨hs, e⟩ rfl
  · exact absurd rfl nb
/-! ### the law -/
theorem law_of {F : FF} {Q : GFn} {P : List D → PR D} (h : SpG F 2 Q) (hQ : ∀ xs, Q D [.b xs] (fun x _ => .ok x) = (P xs).bind fun x => .ok x) (hP : ∀ ns : List Int, ns.length ≤ 63 → P (ns.map .int) = .ok (.bool true)) : ∀ ns : List Int, ns.length ≤ 63 → ∃ m, F [.ro (ns.map .int)] [] = .ok (.d (.bool true)) m := by
  intro ns hn
  have e : Q D [.b (ns.map .int)] (fun x _ => .ok x) = .ok (.bool true) := by rw [hQ, hP ns hn]; rfl
  rcases h D [] [.ro (ns.map .int)] [.b (ns.map .int)] (fun _ => []) (fun x _ => .ok x) (by simp) (.cons (.inr (.inl rfl)) .nil) (by simp [mrefs]) (by simp [mrefs]) (by rw [e]; intro z; cases z) with ⟨w, m', x, us, h1, h2, h3, _⟩ | ⟨ex, m', h1, h2, h3⟩
  · rw [e] at h3
    cases h3
    have hw : w = .d (.bool true) := by
      rcases h2 ⟨[], fun _ => []⟩ with h | ⟨ds, z, _⟩
      · exact h
      · cases z
    subst hw
    exact ⟨m', h1⟩
  · rw [e] at h2; cases h2
end
end
end M
set_option Elab.async false
set_option linter.all false
set_option maxRecDepth 100000
/-! P: laws of the operations, for the plain part -/
namespace M
open PySem L2
variable [HasW]
@[simp] theorem okC_nil : okC [] = true := rfl
@[simp] theorem okC_cons (c : Nat) (l : List Nat) : okC (c :: l) = (decide (c < 0x110000) && okC l) := rfl
section
variable {i j : Int} {n : Bool} {a b : List Nat} {x y : D} {ds es : List D}
@[simp] theorem addP_int : addP (.int i) (.int j) = .ok (.int (i + j)) := rfl
@[simp] theorem addSP_int : addSP (.int i) (.int j) = .ok (.int (i + j)) := rfl
@[simp] theorem addIP_int : addIP (.int i) (.int j) = .ok (.int (i + j)) := rfl
@[simp] theorem subP_int : subP (.int i) (.int j) = .ok (.int (i - j)) := rfl
@[simp] theorem negP_int : negP (.int i) = .ok (.int (-i)) := rfl
@[simp] theorem ltP_int : ltP (.int i) (.int j) = .ok (.bool (decide (i < j))) := rfl
@[simp] theorem leP_int : leP (.int i) (.int j) = .ok (.bool (decide (i ≤ j))) := rfl
@[simp] theorem gtP_int : gtP (.int i) (.int j) = .ok (.bool (decide (j < i))) := rfl
@[simp] theorem geP_int : geP (.int i) (.int j) = .ok (.bool (decide (j ≤ i))) := rfl
@[simp] theorem modP_s (h : 0 < j) : modP (.int i) (.int j) = .ok (.int (i % j)) := by
  show (if modOk i j = true then _ else _) = _
  rw [if_pos (show modOk i j = true from grd_t h)]
@[simp] theorem divP_s (h : 0 < j) (h' : j < 18446744073709551616) : divP (.int i) (.int j) = .ok (.int (i / j)) := by
  show (if divOk i j = true then _ else _) = _
  rw [if_pos]
  refine grd_t ⟨h, ?_⟩
  have h2 : j.natAbs < 2 ^ 64 := by omega
  have := PySem.Flt.log2_lt_of (show 0 < 64 by decide) h2
  omega
theorem mulP_s (h : -18446744073709551616 < j) (h' : j < 18446744073709551616) : mulP (.int i) (.int j) = .ok (.int (i * j)) := by
  show (if mulOk i j = true then _ else _) = _
  rw [if_pos (show mulOk i j = true from grd_t (.inl (.inr ⟨by omega, by omega⟩)))]
theorem powP_s (h : 0 ≤ j) (h' : j ≤ 1000000) (h2 : i.natAbs < 18446744073709551616) : powP (.int i) (.int j) = .ok (.int (i ^ j.toNat)) := by
  show (if powOk i j = true then _ else _) = _
  rw [if_pos (show powOk i j = true from grd_t ⟨h, h', by omega⟩)]
theorem addP_list (h : ds.length + es.length ≤ sizeLine) : addP (.list ds) (.list es) = .ok (.list (ds ++ es)) := by
  show (if _ then _ else _) = _
  rw [if_pos h]
theorem addP_str (h : a.length + b.length ≤ sizeLine) : addP (.str (S a)) (.str (S b)) = .ok (.str (S (a ++ b))) := by
  show (if (S a).length + (S b).length ≤ sizeLine then _ else _) = _
  rw [if_pos (show (S a).length + (S b).length ≤ sizeLine from h), S_app]
theorem addSP_str (h : a.length + b.length ≤ sizeLine) : addSP (.str (S a)) (.str (S b)) = .ok (.str (S (a ++ b))) := by
  show (if (S a).length + (S b).length ≤ sizeLine then _ else _) = _
  rw [if_pos (show (S a).length + (S b).length ≤ sizeLine from h), S_app]
@[simp] theorem eqP_int : eqP n (.int i) (.int j) = .ok (.bool (ngB n (decide (i = j)))) := by
  unfold eqP
  simp only [shaped_int, Bool.and_self, if_true, eqv_int]
  rfl
@[simp] theorem eqP_str (ha : okC a = true) (hb : okC b = true) : eqP n (.str (S a)) (.str (S b)) = .ok (.bool (ngB n (decide (a = b)))) := by
  unfold eqP
  simp only [shaped_str, ha, hb, Bool.and_self, if_true, eqv_str, S_beq]
  rfl
@[simp] theorem ngB_f (b : Bool) : ngB false b = b := rfl
@[simp] theorem ngB_t (b : Bool) : ngB true b = !b := rfl
theorem inP_list (h : (SeqAt.shaped x && SeqAt.shaped (.list ds)) = true) : inP n x (.list ds) = .ok (.bool (ngB n (ds.any fun z => PyData.eqv z x))) := by
  unfold inP
  split
  · rename_i e; cases e
  · rename_i e; cases e
  · rename_i e; cases e; rw [if_pos h]
  · rename_i q1 q2 q3; first | exact absurd rfl (q3 ds) | exact absurd rfl (q2 ds) | exact absurd rfl (q1 ds)
@[simp] theorem lenP_list : lenP [.list ds] = .ok (.int (ds.length : Int)) := rfl
@[simp] theorem lenP_tup : lenP [.tuple ds] = .ok (.int (ds.length : Int)) := rfl
theorem lenP_str (h : a.length ≤ sizeLine) : lenP [.str (S a)] = .ok (.int (a.length : Int)) := by
  show (if (S a).length ≤ sizeLine then _ else _) = _
  rw [if_pos (show (S a).length ≤ sizeLine from h)]; rfl
@[simp] theorem itemsP_list : itemsP (.list ds) = .ok ds := rfl
@[simp] theorem itemsP_tup : itemsP (.tuple ds) = .ok ds := rfl
@[simp] theorem isNP_nn : isNP n .none .none = .ok (.bool (ngB n true)) := rfl
@[simp] theorem isNP_tup : isNP n (.tuple ds) .none = .ok (.bool (ngB n false)) := rfl
@[simp] theorem isNP_list : isNP n (.list ds) .none = .ok (.bool (ngB n false)) := rfl
@[simp] theorem isNP_int : isNP n (.int i) .none = .ok (.bool (ngB n false)) := rfl
@[simp] theorem isNP_str (z : Str) : isNP n (.str z) .none = .ok (.bool (ngB n false)) := rfl
@[simp] theorem isBP_b (p q : Bool) : isBP n (.bool p) (.bool q) = .ok (.bool (ngB n (decide (p = q)))) := rfl
theorem ixP_tup {c : D} (h : L2.atI ds i = some c) : ixP (.tuple ds) (.int i) = .ok c := by
  show (match L2.atI ds i with | some c => PR.ok c | none => .bad) = _
  rw [h]
theorem ixP_list {c : D} (h : L2.atI ds i = some c) : ixP (.list ds) (.int i) = .ok c := by
  show (match L2.atI ds i with | some c => PR.ok c | none => .bad) = _
  rw [h]
theorem ixP_str {l : List Nat} {c : Nat} (hl : l.length ≤ sizeLine) (h : L2.atI l i = some c) : ixP (.str (S l)) (.int i) = .ok (.str (S [c])) := by
  show (if (S l).length ≤ sizeLine then (match L2.atI (S l).cps.toList i with | some c => PR.ok (PyData.str ⟨#[c]⟩) | none => .bad) else .bad) = _
  rw [if_pos (show (S l).length ≤ sizeLine from hl), S_cps, h]
  rfl
theorem slP_str {l : List Nat} {lo hi : Option Int} (h : l.length ≤ sizeLine) : slP (.str (S l)) lo hi = .ok (.str (cutS (S l) lo hi)) := by
  show (if (S l).length ≤ sizeLine then _ else _) = _
  rw [if_pos (show (S l).length ≤ sizeLine from h)]
@[simp] theorem slP_tup {lo hi : Option Int} : slP (.tuple ds) lo hi = .ok (.tuple (cutD ds lo hi)) := rfl
@[simp] theorem slP_list {lo hi : Option Int} : slP (.list ds) lo hi = .ok (.list (cutD ds lo hi)) := rfl
@[simp] theorem ixP_t0 (a : D) : ixP (.tuple (a :: ds)) (.int 0) = .ok a := ixP_tup (by simp)
@[simp] theorem ixP_t1 (a b : D) : ixP (.tuple (a :: b :: ds)) (.int 1) = .ok b := ixP_tup (by simp)
@[simp] theorem ixP_t2 (a b c : D) : ixP (.tuple (a :: b :: c :: ds)) (.int 2) = .ok c := ixP_tup (by simp)
@[simp] theorem ixP_l0 (a : D) : ixP (.list (a :: ds)) (.int 0) = .ok a := ixP_list (by simp)
@[simp] theorem ixP_l1 (a b : D) : ixP (.list (a :: b :: ds)) (.int 1) = .ok b := ixP_list (by simp)
@[simp] theorem intP1_b (b : Bool) : intP1 [.bool b] = .ok (.int (if b then 1 else 0)) := rfl
@[simp] theorem intP1_i : intP1 [.int i] = .ok (.int i) := rfl
@[simp] theorem appendP_s (y : D) (h : ds.length < sizeLine) : appendP ds [y] = .ok (.none, ds ++ [y]) := by
  show (if _ then _ else _) = _
  rw [if_pos h]
@[simp] theorem clearP_s : clearP ds [] = .ok (.none, []) := rfl
theorem rng1P_s (h : -1000000 ≤ j) (h' : j ≤ 1000000) : rng1P [.int j] = .ok ((List.range j.toNat).map fun (k : Nat) => .int (k : Int)) := by
  have e : smallI j = true := grd_t ⟨by omega, by omega⟩
  show (if smallI j = true then _ else _) = _
  rw [if_pos e]
  simp
@[simp] theorem pisi_b {γ : Type} (ts : List Tk) (b : Bool) (k : D → PR γ) : pisi ts (.bool b) k = k (.bool (ts.any fun u => Tk.bl.sub u)) := rfl
@[simp] theorem pisi_i {γ : Type} (ts : List Tk) (k : D → PR γ) : pisi ts (.int i) k = k (.bool (ts.any fun u => Tk.int.sub u)) := rfl
@[simp] theorem pisi_s {γ : Type} (ts : List Tk) (z : Str) (k : D → PR γ) : pisi ts (.str z) k = k (.bool (ts.any fun u => Tk.str.sub u)) := rfl
@[simp] theorem pisi_t {γ : Type} (ts : List Tk) (k : D → PR γ) : pisi ts (.tuple ds) k = k (.bool (ts.any fun u => Tk.tup.sub u)) := rfl
@[simp] theorem pisi_l {γ : Type} (ts : List Tk) (k : D → PR γ) : pisi ts (.list ds) k = k (.bool (ts.any fun u => Tk.lst.sub u)) := rfl
@[simp] theorem pisi_n {γ : Type} (ts : List Tk) (k : D → PR γ) : pisi ts .none k = k (.bool (ts.any fun u => Tk.non.sub u)) := rfl
@[simp] theorem ptt_b {γ : Type} (b : Bool) (k : Bool → PR γ) : ptt (.bool b) k = k b := rfl
end
/-! ### loops -/
section
variable {σ γ : Type}
@[simp] theorem foldK_nil (step : D → σ → (σ → PR γ) → (σ → PR γ) → PR γ) (s : σ) (k : σ → PR γ) : foldK step [] s k = k s := rfl
theorem foldK_cons (step : D → σ → (σ → PR γ) → (σ → PR γ) → PR γ) (x : D) (xs : List D) (s : σ) (k : σ → PR γ) : foldK step (x :: xs) s k = step x s (fun s' => foldK step xs s' k) k := rfl
theorem foldK_inv {step : D → σ → (σ → PR γ) → (σ → PR γ) → PR γ} (I : Nat → σ → Prop) : ∀ {xs : List D} {i : Nat} {s : σ} {k : σ → PR γ}, (∀ m x s, xs[m]? = some x → I (i + m) s → ∃ s', I (i + m + 1) s' ∧ ∀ kn kb, step x s kn kb = kn s') → I i s → ∃ s', I (i + xs.length) s' ∧ foldK step xs s k = k s'
  | [], i, s, k, _, h0 => ⟨s, h0, rfl⟩
  | x :: xs, i, s, k, h, h0 => by
    obtain ⟨s1, h1, h2⟩ := h 0 x s rfl h0
    obtain ⟨s2, h3, h4⟩ := foldK_inv (step := step) I (xs := xs) (i := i + 1) (s := s1) (k := k) (fun m y t hm ht => by
      obtain ⟨t', q1, q2⟩ := h (m + 1) y t (by simpa using hm) (by rw [show i + (m + 1) = i + 1 + m by omega]; exact ht)
      exact ⟨t', by rw [show i + 1 + m + 1 = i + (m + 1) + 1 by omega]; exact q1, q2⟩) h1
    exact ⟨s2, by rw [List.length_cons, show i + (xs.length + 1) = i + 1 + xs.length by omega]; exact h3, by rw [foldK_cons, h2]; exact h4⟩
end
end M
set_option Elab.async false
set_option linter.all false
set_option maxRecDepth 100000
/-! P: exceptions -/
namespace M
open PySem L2
variable [HasW]
noncomputable section
inductive TO (σ : Type) where
  | nx (s : σ)
  | rt (x : D) (s : σ)
def toK {σ γ : Type} (o : TO σ) (k : σ → PR γ) (r : D → σ → PR γ) : PR γ := match o with
  | .nx s => k s
  | .rt x s => r x s
@[simp] theorem toK_nx {σ γ : Type} (s : σ) (k : σ → PR γ) (r : D → σ → PR γ) : toK (.nx s) k r = k s := rfl
@[simp] theorem toK_rt {σ γ : Type} (x : D) (s : σ) (k : σ → PR γ) (r : D → σ → PR γ) : toK (.rt x s) k r = r x s := rfl
def tryK {σ γ : Type} (tab : Str → Option Bool) (b h : PR (TO σ)) (k : TO σ → PR γ) : PR γ := match b with
  | .ok o => k o
  | .err e => (match tab e.cls with
    | some true => lcN h k
    | some false => .err e
    | none => .bad)
  | .bad => .bad
@[simp] theorem tryK_ok {σ γ : Type} (tab : Str → Option Bool) (o : TO σ) (h : PR (TO σ)) (k : TO σ → PR γ) : tryK tab (.ok o) h k = k o := rfl
section
variable {s sr : Nat} {ms : List Bool}
def gsRaise (x : Str) : GSx := fun γ ρ kn kb kc kr => .err ⟨x, []⟩
theorem rs_raise (x : Str) : RS sr ms (sRaise x) (gsRaise x) := fun γ fr ρ env m kn kb kc kr R nb => .err ⟨x, []⟩ env m (R.wip (AgE.refl _ _)) rfl (AgE.refl _ _)
def endT (ds : List (Nat × Kd)) (v : GV) (ρ : List PV) : PR (TO (St ds)) := match v with
  | .v x => unK ds ρ fun s => .ok (.rt x s)
  | .r _ => .bad
def runT (ds : List (Nat × Kd)) (b : GSx) (ρ : List PV) : PR (TO (St ds)) := b (TO (St ds)) ρ (fun ρ3 => unK ds ρ3 fun s => .ok (.nx s)) (fun _ => .bad) (fun _ => .bad) (fun v ρ3 => endT ds v ρ3)
/-- what a part of a try comes to -/
theorem runT_ok {ds : List (Nat × Kd)} {mb : List Bool} {f : SF} {g : GSx} (h : RS sr mb f g) (hd : inM mb ds = true) {fr : Fr} {ρ ρ1 : List PV} {env : Env} {m : Mem} (R : Rel fr ρ env m) (a1 : Ag mb ρ1 ρ) (nb : runT ds g ρ ≠ .bad) :
    (∃ s env' m', runT ds g ρ = .ok (.nx s) ∧ f env m = .nx env' m' ∧ Rel fr (put ds (wip mb ρ1) s) env' m' ∧ AgE mb env env') ∨
    (∃ x s w env' m', runT ds g ρ = .ok (.rt x s) ∧ f env m = .rt w m' ∧ Rel fr (put ds (wip mb ρ1) s) env' m' ∧ RVal fr sr env' w (.v x)) ∨
    (∃ e env' m', runT ds g ρ = .err e ∧ f env m = .err e env' m' ∧ Rel fr (wip mb ρ1) env' m' ∧ AgE mb env env') := by
  have q := h (TO (St ds)) fr ρ env m (fun ρ3 => unK ds ρ3 fun s => .ok (.nx s)) (fun _ => .bad) (fun _ => .bad) (fun v ρ3 => endT ds v ρ3) R nb
  have e0 : runT ds g ρ = g (TO (St ds)) ρ (fun ρ3 => unK ds ρ3 fun s => .ok (.nx s)) (fun _ => .bad) (fun _ => .bad) (fun v ρ3 => endT ds v ρ3) := rfl
  rw [← e0] at q
  generalize f env m = r at q
  cases q with
  | nx e1 m1 ρ3 h1 h2 h3 h4 =>
    rw [h2] at nb
    obtain ⟨s', v1, v2⟩ := unK_ne nb
    exact .inl ⟨s', e1, m1, h2.trans v2, rfl, h1.shape (a1.trans h3) v1, h4⟩
  | bk e1 m1 ρ3 h1 h2 h3 h4 => exact absurd h2 nb
  | ct e1 m1 ρ3 h1 h2 h3 h4 => exact absurd h2 nb
  | rt w m1 v ρ3 e1 h1 h2 h3 h4 =>
    rw [h3] at nb
    cases v with
    | r i => exact absurd rfl nb
    | v x =>
      obtain ⟨s', v1, v2⟩ := unK_ne (show unK ds ρ3 (fun s => PR.ok (TO.rt x s)) ≠ .bad from nb)
      exact .inr (.inl ⟨x, s', w, e1, m1, h3.trans v2, rfl, h1.shape (a1.trans h4) v1, h2⟩)
  | err e e1 m1 h1 h2 h3 => exact .inr (.inr ⟨e, e1, m1, h2, rfl, by rw [a1.wip] at h1; exact h1, h3⟩)
end
end
end M
set_option Elab.async false
set_option linter.all false
set_option maxRecDepth 100000
/-! P: a new list handed over to a def that changes it -/
namespace M
open PySem L2
variable [HasW]
noncomputable section
theorem addAW_list {m : Mem} {w1 w2 : W} {a b : List D} (h1 : See m w1 (.list a)) (h2 : See m w2 (.list b)) : addAW w1 w2 m = if a.length + b.length ≤ sizeLine then .ok (.fl (a ++ b)) m else .bad := by
  have e1 := see_asL h1
  have e2 := see_asL h2
  rcases h1 with rfl | ⟨es, e, rfl | rfl | ⟨j, rfl, hj⟩⟩ <;> rcases h2 with rfl | ⟨fs, e', rfl | rfl | ⟨k, rfl, hk⟩⟩ <;> simp [addAW, e1, e2]
theorem addAP_ok : OpP 3 1 addAW addP := by
  intro m w1 w2 x y h1 h2
  replace h1 : See m w1 x := h1
  replace h2 : See m w2 y := h2
  unfold addP
  split
  · rw [see_flat h1 (by intro ds e; cases e), see_flat h2 (by intro ds e; cases e)]
    exact ⟨_, rfl, fun _ => rfl⟩
  · rw [see_flat h1 (by intro ds e; cases e), see_flat h2 (by intro ds e; cases e)]
    split
    · rename_i h; exact ⟨_, by simp only [addAW]; rw [if_pos h], fun _ => rfl⟩
    · trivial
  · rw [see_flat h1 (by intro ds e; cases e), see_flat h2 (by intro ds e; cases e)]
    split
    · rename_i h; exact ⟨_, by simp only [addAW]; rw [if_pos h], fun _ => rfl⟩
    · trivial
  · rw [addAW_list h1 h2]
    split
    · exact ⟨_, rfl, fun _ => rfl⟩
    · trivial
  · trivial
theorem addASP_ok : OpP 3 0 addAW addSP := by
  intro m w1 w2 x y h1 h2
  replace h1 : See m w1 x := h1
  replace h2 : See m w2 y := h2
  unfold addSP
  split
  · rw [see_flat h1 (by intro ds e; cases e), see_flat h2 (by intro ds e; cases e)]
    exact out_d
  · rw [see_flat h1 (by intro ds e; cases e), see_flat h2 (by intro ds e; cases e)]
    split
    · rename_i h
      simp only [addAW]
      rw [if_pos h]
      exact out_d
    · trivial
  · rw [see_flat h1 (by intro ds e; cases e), see_flat h2 (by intro ds e; cases e)]
    split
    · rename_i h
      simp only [addAW]
      rw [if_pos h]
      exact out_d
    · trivial
  · trivial
def repP (x y : D) : PR D := match x, y with
  | .list ds, .int k => if grd (-(2 ^ 63) ≤ k ∧ k < 2 ^ 63 ∧ ds.length * k.toNat ≤ sizeLine) = true then .ok (.list (List.replicate k.toNat ds).flatten) else .bad
  | _, _ => .bad
theorem repP_ok : OpP 7 1 repW repP := by
  intro m w1 w2 x y h1 h2
  replace h1 : SeeN m w1 x := h1
  replace h2 : SeeN m w2 y := h2
  unfold repP
  split
  · rename_i ds k
    rw [seeN_flat h2 (by intro ds e; cases e)]
    have e := see_asT h1
    simp only [repW, e]
    split
    · exact ⟨_, rfl, fun _ => rfl⟩
    · trivial
  · trivial
theorem repP_s {ds : List D} {k : Int} (h : 0 ≤ k) (h1 : k ≤ 1000000) (h2 : ds.length * k.toNat ≤ sizeLine) : repP (.list ds) (.int k) = .ok (.list (List.replicate k.toNat ds).flatten) := by
  show (if _ then _ else _) = _
  rw [if_pos (grd_t ⟨by omega, by omega, h2⟩)]
/-- no object is changed or made -/
def PuE (f : EF) : Prop := ∀ env m w m', f env m = .ok w m' → m' = m
def PuA (f : AF) : Prop := ∀ env m w m', f env m = .ok w m' → m' = m
def PuO (g : W → W → Mem → Res W) : Prop := ∀ x y m w m', g x y m = .ok w m' → m' = m
theorem pu_var (i : Nat) : PuE (eVar i) := by
  intro env m w m' h
  unfold eVar at h
  split at h
  · cases h; rfl
  · cases h
theorem pu_c (x : D) : PuE (eC x) := by intro env m w m' h; cases h; rfl
theorem pu_op {g : W → W → Mem → Res W} {a b : EF} (hg : PuO g) (ha : PuE a) (hb : PuE b) : PuE (eOp g a b) := by
  intro env m w m' h
  unfold eOp at h
  cases q : a env m with
  | ok x m1 =>
    rw [q, Res.bind_ok] at h
    cases q2 : b env m1 with
    | ok y m2 =>
      rw [q2, Res.bind_ok] at h
      rw [hg _ _ _ _ _ h, hb _ _ _ _ q2, ha _ _ _ _ q]
    | err e m2 => rw [q2] at h; cases h
    | bad => rw [q2] at h; cases h
  | err e m1 => rw [q] at h; cases h
  | bad => rw [q] at h; cases h
theorem pu_frz {a : EF} (ha : PuE a) : PuE (eFrz a) := by
  intro env m w m' h
  unfold eFrz at h
  cases q : a env m with
  | ok x m1 =>
    rw [q, Res.bind_ok] at h
    have := ha _ _ _ _ q
    subst this
    split at h <;> cases h <;> rfl
  | err e m1 => rw [q] at h; cases h
  | bad => rw [q] at h; cases h
theorem pua_nil : PuA aNil := by intro env m w m' h; cases h; rfl
theorem pua_cons {a : EF} {r : AF} (ha : PuE a) (hr : PuA r) : PuA (aCons a r) := by
  intro env m w m' h
  unfold aCons at h
  cases q : a env m with
  | ok x m1 =>
    rw [q, Res.bind_ok] at h
    cases q2 : r env m1 with
    | ok y m2 =>
      rw [q2, Res.bind_ok] at h
      cases h
      rw [hr _ _ _ _ q2, ha _ _ _ _ q]
    | err e m2 => rw [q2] at h; cases h
    | bad => rw [q2] at h; cases h
  | err e m1 => rw [q] at h; cases h
  | bad => rw [q] at h; cases h
theorem pu_ix : PuO ixW := by
  intro x y m w m' h
  unfold ixW at h
  repeat' (split at h)
  all_goals first | (cases h; done) | (cases h; rfl)
theorem pu_int {C : Int → Int → Bool} {g : Int → Int → D} : PuO (intW C g) := by
  intro x y m w m' h
  unfold intW at h
  repeat' (split at h)
  all_goals first | (cases h; done) | (cases h; rfl)
theorem pu_add : PuO addAW := by
  intro x y m w m' h
  unfold addAW at h
  repeat' (split at h)
  all_goals first | (cases h; done) | (cases h; rfl)
section
variable {s : Nat} {ms : List Bool} {fa : EF} {ga : GEx}
theorem Ag.nil {ρ ρ' : List PV} (a : Ag [] ρ ρ') : ρ' = ρ := by
  apply List.ext_getElem?
  intro i
  exact a.get i rfl
/-- more behind the memory -/
theorem SlotOk.app {fr : Fr} {m : Mem} {i : Nat} {js : List Nat} {e : Option (Option W)} {v : Option PV} (h : SlotOk fr m i js e v) (l : List O) : SlotOk fr (m ++ l) i js e v := h.mem fun j hj => List.getElem?_append_left (h.lt j hj)
theorem Rel.app {fr : Fr} {ρ : List PV} {env : Env} {m : Mem} (R : Rel fr ρ env m) (l : List O) (hl : ∀ o ∈ l, okO (m ++ l).length o = true) : Rel fr ρ env (m ++ l) := by
  obtain ⟨J, hd, hJ⟩ := R.ex
  have := R.len
  exact ⟨R.pok, by rw [List.length_append]; omega, fun j h1 h2 => by rw [List.getElem?_append_left (by omega)]; exact R.fix j h1 h2, R.c0, R.cpA l, R.cnA hl, R.el, J, hd, fun i => (hJ i).app l⟩
def gCallN (ms : List Bool) (ks : List PK) (F : GFn) (a : GEx) (b : GAx) : GEx := fun γ ρ K => a γ ρ fun v ρ1 => match v with
  | .v x => ptl x fun xs => b γ ρ1 fun vs ρ2 => match refsOk ms ks vs, ρ2[1000]? with
    | true, none => avsK ρ2 ks vs fun avs => F γ (.l 1000 xs :: avs) fun x us => K (.v x) (upds ρ2 us)
    | _, _ => .bad
  | .r _ => .bad
theorem ArgsOk.grow {m : Mem} {J J' : Nat → List Nat} {rs rs' : List Nat} (l : List O) (hr : ∀ j, j < m.length → (∀ i ∈ rs, j ∉ J i) → ∀ i ∈ rs', j ∉ J' i) : ∀ {ws : List W} {avs : List AV}, ArgsOk m J rs ws avs → (∀ i ∈ mrefs avs, J' i = J i) → ArgsOk (m ++ l) J' rs' ws avs
  | _, _, .nil, _ => .nil
  | w :: ws, a :: as, .cons h t, h1 => by
    refine .cons ?_ (ArgsOk.grow l hr t (fun i hi => h1 i (by cases a <;> simp [mrefs, hi])))
    cases a with
    | d x => exact h
    | b xs =>
      rcases h with h | h | ⟨j, e, q1, q2⟩
      · exact .inl h
      · exact .inr (.inl h)
      · have hl := (List.getElem?_eq_some_iff.mp q1).1
        exact .inr (.inr ⟨j, e, by rw [List.getElem?_append_left hl]; exact q1, hr j hl q2⟩)
    | l i xs =>
      obtain ⟨j, e, q1, q2⟩ := h
      exact ⟨j, e, by rw [h1 i (by simp [mrefs])]; exact q1, by rw [List.getElem?_append_left (List.getElem?_eq_some_iff.mp q2).1]; exact q2⟩
    | k i xs =>
      obtain ⟨b, a, e, q1, q2⟩ := h
      have hb := (List.getElem?_eq_some_iff.mp q2.cb).1
      have ha := (List.getElem?_eq_some_iff.mp q2.ca).1
      exact ⟨b, a, e, by rw [h1 i (by simp [mrefs])]; exact q1, q2.ab, by rw [List.getElem?_append_left ha]; exact q2.ca, by rw [List.getElem?_append_left hb]; exact q2.cb⟩
    | n kvs =>
      obtain ⟨j, e, q1, q2⟩ := h
      have hl := (List.getElem?_eq_some_iff.mp q1).1
      exact ⟨j, e, by rw [List.getElem?_append_left hl]; exact q1, hr j hl q2⟩
    | u kvs =>
      obtain ⟨j, e, q1, q2⟩ := h
      have hl := (List.getElem?_eq_some_iff.mp q1).1
      exact ⟨j, e, by rw [List.getElem?_append_left hl]; exact q1, hr j hl q2⟩
    | t i kvs =>
      obtain ⟨j, kk, e, q1, q2⟩ := h
      exact ⟨j, kk, e, by rw [h1 i (by simp [mrefs])]; exact q1, q2.mem fun k hk => List.getElem?_append_left (q2.lt k hk)⟩
theorem ArgsOk.some {m : Mem} {J : Nat → List Nat} {rs : List Nat} : ∀ {ws : List W} {avs : List AV}, ArgsOk m J rs ws avs → ∀ i ∈ mrefs avs, J i ≠ []
  | _, _, .nil, i, hi => nomatch hi
  | w :: ws, .d x :: as, .cons h t, i, hi => ArgsOk.some t i hi
  | w :: ws, .b x :: as, .cons h t, i, hi => ArgsOk.some t i hi
  | w :: ws, .n x :: as, .cons h t, i, hi => ArgsOk.some t i hi
  | w :: ws, .u x :: as, .cons h t, i, hi => ArgsOk.some t i hi
  | w :: ws, .t k x :: as, .cons h t, i, hi => by
    rcases List.mem_cons.mp hi with rfl | hi
    · obtain ⟨b, a, e, q1, q2⟩ := h; rw [q1]; simp
    · exact ArgsOk.some t i hi
  | w :: ws, .l k x :: as, .cons h t, i, hi => by
    rcases List.mem_cons.mp hi with rfl | hi
    · obtain ⟨j, e, q1, q2⟩ := h; rw [q1]; simp
    · exact ArgsOk.some t i hi
  | w :: ws, .k k x :: as, .cons h t, i, hi => by
    rcases List.mem_cons.mp hi with rfl | hi
    · obtain ⟨b, a, e, q1, q2⟩ := h; rw [q1]; simp
    · exact ArgsOk.some t i hi
theorem re_callN {F : FF} {ks : List PK} {ss : List Nat} {Q : GFn} {h : AF} {k : GAx} (hF : SpG F s Q) (ha : RE 1 ms fa ga) (hb : RA ss [] h k) (hp : PuA h) (hl : lvOk ks ss = true := by rfl) : RE s ms (eCallF F (aCons (eObj fa) h)) (gCallN ms ks Q ga k) := by
  intro γ fr ρ env m K R nb
  rcases ha γ fr ρ env m _ R nb with ⟨w, m1, v, ρ1, h1, R1, h3, h4, h5⟩ | ⟨e, m1, h1, h2, h3⟩
  · have e0 : gCallN ms ks Q ga k γ ρ K = _ := h4
    rw [e0] at nb ⊢
    dsimp only at nb ⊢
    refine EPost.later h5 ?_
    cases v with
    | r i => exact absurd rfl nb
    | v x =>
      cases x with
      | list xs =>
        have h3 : w = .fl xs := h3
        subst h3
        dsimp only at nb ⊢
        rw [ptl_list] at nb ⊢
        have eo : eObj fa env m = .ok (.obj m1.length) (m1 ++ [.lst xs]) := by simp only [eObj, h1, Res.bind_ok]
        have R2 := R1.app [.lst xs] (fun o ho => by rw [List.mem_singleton.mp ho]; rfl)
        rcases hb γ fr ρ1 env (m1 ++ [.lst xs]) _ R2 nb with ⟨ws, m3, vs, ρ2, q1, R3, q3, q4, q5⟩ | ⟨e, m3, q1, q2, q3⟩
        · have em := hp _ _ _ _ q1
          have er := q5.nil
          subst em er
          rw [q4] at nb ⊢
          dsimp only at nb ⊢
          cases ok : refsOk ms ks vs with
          | false => rw [ok] at nb; exact absurd rfl nb
          | true =>
            cases o1 : ρ2[1000]? with
            | some z => rw [ok, o1] at nb; exact absurd rfl nb
            | none =>
              rw [ok, o1] at nb
              dsimp only at nb ⊢
              obtain ⟨J, hd, hJ⟩ := R1.ex
              simp only [refsOk, Bool.and_eq_true] at ok
              obtain ⟨⟨ok1, ok2⟩, ok3⟩ := ok
              obtain ⟨avs, e1, e2, e4, e3⟩ := avs_ok R1 hd hJ hl q3 nb
              rw [e1] at nb ⊢
              have hA0 := e3 (mrefs avs) (fun i hi hi' => by
                rw [e2] at hi'
                have := List.all_eq_true.mp ok3 i hi
                simp only [Bool.not_eq_true', List.contains_eq_mem, decide_eq_false_iff_not] at this
                exact this hi')
              have j1000 : J 1000 = [] := by have := hJ 1000; rw [o1] at this; exact this
              have n1000 : ∀ i ∈ mrefs avs, i ≠ 1000 := fun i hi e => hA0.some i hi (by rw [e]; exact j1000)
              have lt : ∀ i, ∀ j ∈ J i, j < m1.length := fun i => (hJ i).lt
              obtain ⟨J', hJ'⟩ : ∃ J' : Nat → List Nat, J' = fun i => if i = 1000 then [m1.length] else J i := ⟨_, rfl⟩
              have j1 : J' 1000 = [m1.length] := by rw [hJ']; simp
              have j2 : ∀ i, i ≠ 1000 → J' i = J i := fun i hi => by rw [hJ']; simp [hi]
              have nd : (mrefs avs).Nodup := by rw [e2]; exact nodupB_iff ok2
              have hA : ArgsOk (m1 ++ [.lst xs]) J' (mrefs (.l 1000 xs :: avs)) (.obj m1.length :: ws) (.l 1000 xs :: avs) := by
                refine .cons ⟨m1.length, rfl, j1, by simp⟩ (hA0.grow [.lst xs] (fun j hj hn i hi => ?_) (fun i hi => j2 i (n1000 i hi)))
                rcases List.mem_cons.mp hi with rfl | hi
                · rw [j1]; simp; omega
                · rw [j2 i (n1000 i hi)]; exact hn i hi
              have hn : (mrefs (.l 1000 xs :: avs)).Nodup := List.nodup_cons.mpr ⟨fun z => n1000 _ z rfl, nd⟩
              have hd' : ∀ i ∈ mrefs (.l 1000 xs :: avs), ∀ i' ∈ mrefs (.l 1000 xs :: avs), ∀ j, j ∈ J' i → j ∈ J' i' → i = i' := by
                intro i hi i' hi' j hj hj'
                rcases List.mem_cons.mp hi with rfl | hi
                · rcases List.mem_cons.mp hi' with rfl | hi'
                  · rfl
                  · rw [j1] at hj
                    rw [j2 i' (n1000 i' hi')] at hj'
                    have := lt i' j hj'
                    have := List.mem_singleton.mp hj
                    omega
                · rcases List.mem_cons.mp hi' with rfl | hi'
                  · rw [j1] at hj'
                    rw [j2 i (n1000 i hi)] at hj
                    have := lt i j hj
                    have := List.mem_singleton.mp hj'
                    omega
                  · rw [j2 i (n1000 i hi)] at hj
                    rw [j2 i' (n1000 i' hi')] at hj'
                    exact hd i i' j hj hj'
              have efl : noFl (.obj m1.length :: ws) = true := e4
              simp only [eCallF, aCons, eo, q1, Res.bind_ok, callM, efl, if_true]
              -- what stays
              have stay : ∀ m4, Keep (m1 ++ [.lst xs]) m4 J' (mrefs (.l 1000 xs :: avs)) → ∀ j, j < m1.length → (∀ i ∈ mrefs avs, j ∉ J i) → m4[j]? = m1[j]? := by
                intro m4 kp j hj hn
                rw [kp.get j fun i hi => ?_, List.getElem?_append_left hj]
                rcases List.mem_cons.mp hi with rfl | hi
                · rw [j1]; simp; omega
                · rw [j2 i (n1000 i hi)]; exact hn i hi
              have fix : ∀ m4, Keep (m1 ++ [.lst xs]) m4 J' (mrefs (.l 1000 xs :: avs)) → fr.m0.length ≤ m4.length ∧ (∀ j, j < fr.m0.length → (∀ i, j ∉ fr.pin i) → m4[j]? = fr.m0[j]?) ∧ (∀ (i j : Nat), j ∈ fr.pin i → ∀ o : O, m4[j]? = some o → ∃ i', j ∈ fr.pin i' ∧ okJ (fr.pin i') o = true) ∧ (∀ (j : Nat) (o : O), fr.m0.length ≤ j → m4[j]? = some o → okO m4.length o = true) := by
                intro m4 kp
                have hlen := R1.len
                have go : ∀ (j : Nat) (o : O), m4[j]? = some o → (∃ i ∈ mrefs (.l 1000 xs :: avs), j ∈ J' i ∧ okJ (J' i) o = true) ∨ (m1 ++ [.lst xs])[j]? = some o := fun j o e => by
                  by_cases hp : ∃ i ∈ mrefs (.l 1000 xs :: avs), j ∈ J' i
                  · obtain ⟨i, hi, hj⟩ := hp
                    exact .inl ⟨i, hi, hj, kp.dn i hi j hj o e⟩
                  · exact .inr (by rw [← kp.get j fun i hi hj => hp ⟨i, hi, hj⟩]; exact e)
                refine ⟨by rw [kp.len, List.length_append]; omega, fun j g1 g2 => ?_, fun i j hj o e => ?_, fun j o hj e => ?_⟩
                · rw [stay m4 kp j (by omega) fun i hi hj => ?_]
                  · exact R1.fix j g1 g2
                  · rcases (hJ i).own j hj with z | z
                    · exact g2 i z
                    · omega
                · have hjl := R1.pok i j hj
                  rcases go j o e with ⟨i', hi', hj', z⟩ | z
                  · rcases List.mem_cons.mp hi' with rfl | hi'
                    · rw [j1] at hj'
                      have := List.mem_singleton.mp hj'
                      omega
                    · rw [j2 i' (n1000 i' hi')] at hj' z
                      have e1 := (hJ i').pinned j hj' hjl
                      exact ⟨i', by rw [e1]; exact hj', by rw [e1]; exact z⟩
                  · exact R2.cp i j hj o z
                · have hl := (List.getElem?_eq_some_iff.mp e).1
                  rcases go j o e with ⟨i', hi', hj', z⟩ | z
                  · refine okJ.le z fun j' hj2 => ?_
                    rw [kp.len, List.length_append]
                    rcases List.mem_cons.mp hi' with rfl | hi'
                    · rw [j1] at hj2
                      have := List.mem_singleton.mp hj2
                      simp; omega
                    · rw [j2 i' (n1000 i' hi')] at hj2
                      have := lt i' j' hj2
                      omega
                  · rw [kp.len]
                    exact R2.cn j o hj z
              rcases hF γ (m1 ++ [.lst xs]) _ (.l 1000 xs :: avs) J' _ R2.cm hA hn hd' nb with ⟨w', m4, x, us, f1, f2, f3, f4, f5, f6⟩ | ⟨e, m4, f1, f2, f3⟩
              · rw [f1, f3]
                cases us with
                | nil => cases f4
                | cons u0 us =>
                  obtain ⟨i0, u0⟩ := u0
                  simp only [List.map_cons, mrefs, List.cons.injEq] at f4
                  obtain ⟨rfl, f4⟩ := f4
                  have eu : upds ρ2 ((1000, u0) :: us) = upds ρ2 us := by
                    show upds (upd1 ρ2 1000 u0) us = _
                    have : upd1 ρ2 1000 u0 = ρ2 := by cases u0 <;> simp [upd1, o1]
                    rw [this]
                  rw [eu]
                  have ag : Ag ms ρ2 (upds ρ2 us) := upds_ag us (Ag.refl _ _) (by rw [f4, e2]; exact ok1)
                  refine .inl ⟨w', m4, .v x, upds ρ2 us, rfl, ?_, f2 fr, rfl, ag⟩
                  obtain ⟨k1, k2, k3, k4⟩ := fix m4 f6
                  have has : ∀ u ∈ us, Has m4 J u.1 u.2 := fun u hu => by
                    have z := f5 u (List.mem_cons_of_mem _ hu)
                    have hm : u.1 ∈ mrefs avs := by rw [← f4]; exact List.mem_map_of_mem hu
                    have ej := j2 u.1 (n1000 _ hm)
                    obtain ⟨i, u⟩ := u
                    cases u with
                    | l ys => obtain ⟨j, z1, z2⟩ := z; exact ⟨j, by rw [← ej]; exact z1, z2⟩
                    | k q => obtain ⟨b, a, z1, z2⟩ := z; exact ⟨b, a, by rw [← ej]; exact z1, z2⟩
                    | t q => obtain ⟨b, a, z1, z2⟩ := z; exact ⟨b, a, by rw [← ej]; exact z1, z2⟩
                  refine ⟨R1.pok, k1, k2, R1.c0, k3, k4, by rw [upds_length]; exact R1.el, J, hd, ?_⟩
                  refine upds_slots (m := m1) us (by rw [f4]; exact nd) has (fun i hi => ?_) (fun i hi => hJ i) (fun u hu => has_kind (hJ u.1) (has u hu))
                  refine (hJ i).mem fun j hj => stay m4 f6 j (lt i j hj) fun i' hi' hj' => ?_
                  have := hd i i' j hj hj'
                  subst this
                  exact hi (by rw [f4]; exact hi')
              · rw [f1, f2]
                refine .inr ⟨e, m4, rfl, rfl, ?_⟩
                obtain ⟨k1, k2, k3, k4⟩ := fix m4 f3
                refine ⟨R1.pok, k1, k2, R1.c0, k3, k4, by rw [wip_length]; exact R1.el, fun i => if isM ms i = true then [] else J i, fun i i' j h1 h2 => ?_, fun i => ?_⟩
                · dsimp only at h1 h2
                  split at h1
                  · cases h1
                  · split at h2
                    · cases h2
                    · exact hd i i' j h1 h2
                · dsimp only
                  rw [wip_get]
                  by_cases q : isM ms i = true
                  · rw [if_pos q, if_pos q]
                    cases ρ2[i]? <;> exact (rfl : ([] : List Nat) = [])
                  · rw [if_neg q, if_neg q]
                    refine (hJ i).mem fun j hj => stay m4 f3 j (lt i j hj) fun i' hi' hj' => ?_
                    have := hd i i' j hj hj'
                    subst this
                    rw [e2] at hi'
                    exact q (allIn_get ok1 i hi')
        · rw [q2]
          have ee : eCallF F (aCons (eObj fa) h) env m = .err e m3 := by simp only [eCallF, aCons, eo, q1, Res.bind_ok, Res.bind_err]
          rw [ee]
          exact .inr ⟨e, m3, rfl, rfl, by
            have : wip [] ρ1 = ρ1 := by cases ρ1 <;> rfl
            rw [this] at q3
            exact q3.wip (AgE.refl _ _)⟩
      | _ => exact absurd rfl nb
  · have ee : eCallF F (aCons (eObj fa) h) env m = .err e m1 := by simp only [eCallF, aCons, eObj, h1, Res.bind_err]
    rw [ee]
    exact .inr ⟨e, m1, rfl, h2, h3⟩
end
end
end M
set_option Elab.async false
set_option linter.all false
set_option maxRecDepth 100000
/-! P: further laws of the operations, for the plain part -/
namespace M
open PySem L2
variable [HasW]
theorem joinP_nil {ls : List (List Nat)} (hl : ls.flatten.length ≤ 16777216) : joinP (S []) [.list (ls.map fun l => .str (S l))] = .ok (.str (S ls.flatten)) := by
  have e : dStrs (ls.map fun l => .str (S l)) = some (ls.map S) := by
    have := dStrs_strs (ls.map S)
    rwa [List.map_map] at this
  have hz : ((ls.map S).map (·.length)).sum + (ls.map S).length * (S []).length ≤ 16777216 := by
    have e2 : ((ls.map S).map (·.length)).sum = ls.flatten.length := by
      rw [List.map_map, List.length_flatten]
      rfl
    rw [e2]
    simpa using hl
  unfold joinP
  dsimp only
  rw [e]
  show (if _ then _ else _) = _
  rw [if_pos hz, join_nil]
theorem sindexP_one {l : List Nat} {c i : Nat} (h : l[i]? = some c) (hu : ∀ k, k < i → l[k]? ≠ some c) : sindexP (S l) [.str (S [c])] = .ok (.int (i : Int)) := by
  have key : ∃ r, Builtin.Str.occurrences (S l) (S [c]) 0 (S l).length 1 = i :: r := by
    rcases StrLaws.occ_head (S l) (S [c]) 1 (Nat.le_refl _) with ⟨_, hn⟩ | ⟨j, r, e, ha, hn⟩
    · exact absurd ((StrLaws.subAt_one (S l) c i).mpr h) (hn i)
    · have hj : l[j]? = some c := (StrLaws.subAt_one (S l) c j).mp ha
      have hji : ¬ j < i := fun z => hu j z hj
      have hij : ¬ i < j := fun z => hn i z ((StrLaws.subAt_one (S l) c i).mpr h)
      have : j = i := by omega
      subst this
      exact ⟨r, e⟩
  obtain ⟨r, e⟩ := key
  unfold sindexP
  dsimp only
  rw [e]
theorem popAtP_0 {x : D} {xs : List D} : popAtP (x :: xs) [.int 0] = .ok (x, xs) := by
  unfold popAtP
  dsimp only
  rw [if_pos (grd_t (by decide))]
  simp [seqIndex?]
theorem eqP_ints {n : Bool} (xs ys : List Int) : eqP n (.list (xs.map .int)) (.list (ys.map .int)) = .ok (.bool (ngB n (decide (xs = ys)))) := by
  unfold eqP
  rw [shaped_ints, shaped_ints]
  have : PyData.eqv (.list (xs.map .int)) (.list (ys.map .int)) = decide (xs = ys) := by
    induction xs generalizing ys with
    | nil => cases ys <;> simp [PyData.eqv, PyData.eqvAll]
    | cons x xs ih =>
      cases ys with
      | nil => simp [PyData.eqv, PyData.eqvAll]
      | cons y ys =>
        have := ih ys
        simp only [PyData.eqv] at this
        simp [PyData.eqv, PyData.eqvAll, this, Bool.decide_and]
        rfl
  rw [this]
  rfl
section
variable {σ γ : Type}
theorem whileK_invU {step : σ → (σ → PR γ) → (σ → PR γ) → PR γ} (I : Nat → σ → Prop) (Z : σ → Prop) (h : ∀ m s, I m s → (∃ s', Z s' ∧ ∀ kn kb, step s kn kb = kb s') ∨ (∃ m' s', m' < m ∧ I m' s' ∧ ∀ kn kb, step s kn kb = kn s')) : ∀ {n m : Nat} {s : σ}, I m s → m < n → ∃ s', Z s' ∧ ∀ k, whileK step n s k = k s'
  | 0, m, s, _, hn => absurd hn (Nat.not_lt_zero _)
  | n + 1, m, s, hi, hn => by
    have e : ∀ k, whileK step (n + 1) s k = step s (fun s' => whileK step n s' k) k := fun _ => rfl
    rcases h m s hi with ⟨s', hz, q⟩ | ⟨m', s', hm, hi', q⟩
    · exact ⟨s', hz, fun k => by rw [e, q]⟩
    · obtain ⟨s2, h1, h2⟩ := whileK_invU (step := step) I Z h (n := n) hi' (by omega)
      exact ⟨s2, h1, fun k => by rw [e, q]; exact h2 k⟩
theorem foldK_invU {step : D → σ → (σ → PR γ) → (σ → PR γ) → PR γ} (I : Nat → σ → Prop) : ∀ {xs : List D} {i : Nat} {s : σ}, (∀ m x s, xs[m]? = some x → I (i + m) s → ∃ s', I (i + m + 1) s' ∧ ∀ kn kb, step x s kn kb = kn s') → I i s → ∃ s', I (i + xs.length) s' ∧ ∀ k, foldK step xs s k = k s'
  | [], i, s, _, h0 => ⟨s, h0, fun _ => rfl⟩
  | x :: xs, i, s, h, h0 => by
    obtain ⟨s1, h1, h2⟩ := h 0 x s rfl h0
    obtain ⟨s2, h3, h4⟩ := foldK_invU (step := step) I (xs := xs) (i := i + 1) (s := s1) (fun m y t hm ht => by
      obtain ⟨t', q1, q2⟩ := h (m + 1) y t (by simpa using hm) (by rw [show i + (m + 1) = i + 1 + m by omega]; exact ht)
      exact ⟨t', by rw [show i + 1 + m + 1 = i + (m + 1) + 1 by omega]; exact q1, q2⟩) h1
    exact ⟨s2, by rw [List.length_cons, show i + (xs.length + 1) = i + 1 + xs.length by omega]; exact h3, fun k => by rw [foldK_cons, h2]; exact h4 k⟩
theorem lcK_mapE {α : Type} {b : D → σ → PR (Option D × σ)} {e : α → D} {f : α → D} {s : σ} {k : List D → σ → PR γ} : ∀ {xs : List α} {acc : List D}, (∀ x ∈ xs, b (e x) s = .ok (some (f x), s)) → acc.length + xs.length ≤ sizeLine → lcK b (xs.map e) s acc k = k (acc ++ xs.map f) s
  | [], acc, _, _ => by simp [lcK]
  | x :: xs, acc, h, hl => by
    rw [List.length_cons] at hl
    have q : lcK b ((x :: xs).map e) s acc k = lcN (b (e x) s) fun r => lcO acc r.1 fun acc' => lcK b (xs.map e) r.2 acc' k := rfl
    rw [q, h x List.mem_cons_self, lcN_ok]
    show (if acc.length < sizeLine then _ else _) = _
    rw [if_pos (by omega), lcK_mapE (fun y hy => h y (List.mem_cons_of_mem _ hy)) (by rw [List.length_append, List.length_singleton]; omega)]
    simp
theorem lcK_fmE {α : Type} {b : D → σ → PR (Option D × σ)} {e : α → D} {f : α → Option D} {s : σ} {k : List D → σ → PR γ} : ∀ {xs : List α} {acc : List D}, (∀ x ∈ xs, b (e x) s = .ok (f x, s)) → acc.length + xs.length ≤ sizeLine → lcK b (xs.map e) s acc k = k (acc ++ xs.filterMap f) s
  | [], acc, _, _ => by simp [lcK]
  | x :: xs, acc, h, hl => by
    rw [List.length_cons] at hl
    have q0 : lcK b ((x :: xs).map e) s acc k = lcN (b (e x) s) fun r => lcO acc r.1 fun acc' => lcK b (xs.map e) r.2 acc' k := rfl
    rw [q0, h x List.mem_cons_self, lcN_ok]
    cases q : f x with
    | none =>
      show lcK b (xs.map e) s acc k = _
      rw [lcK_fmE (fun y hy => h y (List.mem_cons_of_mem _ hy)) (by omega), List.filterMap_cons, q]
    | some y =>
      show (if acc.length < sizeLine then _ else _) = _
      rw [if_pos (by omega), lcK_fmE (fun y hy => h y (List.mem_cons_of_mem _ hy)) (by rw [List.length_append, List.length_singleton]; omega), List.filterMap_cons, q]
      simp
end
end M
set_option Elab.async false
set_option linter.all false
set_option maxRecDepth 100000
/-! M: own classes without fields and without an own __init__: their instances made, their methods called -/
namespace M
open PySem L2
variable [HasW]
/-! ### methods over data -/
/-! ### a list unpacked into names -/
/-! ### a list the other way round: l[::-1] -/
def revW (ws : List W) (m : Mem) : Res W := match ws with
  | [w] => (match asL w m with
    | some ds => .ok (.fl ds.reverse) m
    | none => .bad)
  | _ => .bad
theorem me_rev {X : Cx} {Wx : WX} {e : Expr} {k : Nat} {p1 p2 p3 pos : Pos} {f : EF} (h : ME X Wx e f) : ME X Wx (.Subscript e (.Slice none none (some (.UnaryOp .USub (.Constant (.int 1) k p1) p2)) p3) pos) (eCall revW (aCons f aNil)) := by
  obtain ⟨t, pe, q⟩ := h
  refine ⟨_, pe_revL pe, fun env m σ G Q S R h => ?_⟩
  have e0 : eCall revW (aCons f aNil) env m = (f env m).bind fun x m1 => revW [x] m1 := by
    unfold eCall aCons
    cases f env m <;> rfl
  rw [e0] at h
  refine q env m σ G _ S R (GPost.bind weakR h fun w m1 v G1 le1 R1 r1 hh => ?_)
  unfold revW at hh
  dsimp only at hh
  cases ex : asL w m1 with
  | none => rw [ex] at hh; exact False.elim hh
  | some ds =>
    rw [ex] at hh
    obtain ⟨p, vs, rfl, h1, r2⟩ := asL_sq R1 r1 ex
    exact ⟨p, vs, rfl, h1, fun l hl => finL R1 hh r2.reverse hl⟩
def revP (xs : List D) : PR D := match xs with
  | [.list ds] => .ok (.list ds.reverse)
  | _ => .bad
theorem revP_ok : CaP 1 revW revP := by
  intro m ws xs h
  unfold revP
  split
  · rename_i ds
    obtain ⟨w, rfl, hw⟩ := sees1 h
    have e1 := see_asL hw
    refine ⟨_, ?_, fun _ => rfl⟩
    unfold revW
    dsimp only
    rw [e1]
  · trivial
/-! ### defs over data by a pure function: their mirrors and what they keep to -/
/-! ### the four rules -/
end M
set_option Elab.async false
set_option linter.all false
set_option maxRecDepth 100000
/-! M: judgements under a hypothesis on the slots; an exception caught by name -/
namespace M
open PySem L2
variable [HasW]
/-- what is known of the slots, and stays so -/
class JMono (J : L2.St → Hp → Prop) : Prop where
  mono : ∀ {K : PySem.W.Frag} {σ : L2.St} {G G' : Wd} {m : Mem}, RelM K G m → Le G G' → J σ G.H → J σ G'.H
def MEJ (X : Cx) (Wx : WX) (J : L2.St → Hp → Prop) (e : Expr) (f : EF) : Prop :=
  ∃ t, PE X e t ∧ ∀ env m σ G Q, RelS X.K G σ env → RelM X.K G m → J σ G.H → GPost X Wx σ G (RepR X.K) (f env m) Q → t σ G.H Q
def MTJ (X : Cx) (Wx : WX) (J : L2.St → Hp → Prop) (e : Expr) (f : TF) : Prop :=
  ∃ t, PT X e t ∧ ∀ env m σ G Q, RelS X.K G σ env → RelM X.K G m → J σ G.H → GPost X Wx σ G relEq (f env m) Q → t σ G.H Q
def MPJ (X : Cx) (Wx : WX) (J : L2.St → Hp → Prop) (e : Expr) (f : TF) : Prop :=
  ∃ t, PW X e t ∧ ∀ env m σ G Q, RelS X.K G σ env → RelM X.K G m → J σ G.H → GPost X Wx σ G relEq (f env m) Q → t σ G.H Q
def withJ (J : L2.St → Hp → Prop) (E : Ends) : Ends := { E with nx := fun σ H => J σ H → E.nx σ H }
def MSJ (X : Cx) (Wx : WX) (J : L2.St → Hp → Prop) (st : Stmt) (f : SF) : Prop :=
  ∃ t, PS X st t ∧ ∀ env m σ G E, RelS X.K G σ env → RelM X.K G m → J σ G.H → SPost X Wx G (f env m) (withJ J E) → t E σ G.H
def MBJ (X : Cx) (Wx : WX) (J : L2.St → Hp → Prop) (st : List Stmt) (f : SF) : Prop :=
  ∃ t, PSs X st t ∧ ∀ env m σ G E, RelS X.K G σ env → RelM X.K G m → J σ G.H → SPost X Wx G (f env m) (withJ J E) → t E σ G.H
section
variable {X : Cx} {Wx : WX} {J : L2.St → Hp → Prop} [JMono J]
theorem ME.j {e : Expr} {f : EF} (h : ME X Wx e f) : MEJ X Wx J e f := let ⟨t, p, q⟩ := h; ⟨t, p, fun env m σ G Q S R _ h => q env m σ G Q S R h⟩
theorem mej_one {op} {a : Expr} {f : EF} {pos : Pos} (h : MEJ X Wx J a f) : MEJ X Wx J (.BoolOp op [a] pos) f := let ⟨t, p, q⟩ := h; ⟨t, pe_one p, q⟩
theorem mej_and {a b : Expr} {rest : List Expr} {f g : EF} {pos : Pos} (h : MEJ X Wx J a f) (h' : MEJ X Wx J (.BoolOp .And (b :: rest) pos) g) : MEJ X Wx J (.BoolOp .And (a :: b :: rest) pos) (eAnd f g) := by
  obtain ⟨ta, pa, qa⟩ := h
  obtain ⟨tb, pb, qb⟩ := h'
  refine ⟨_, L2.pe_and pa pb, fun env m σ G Q S R j h => ?_⟩
  unfold eAnd tBool at h
  rw [bind_bind] at h
  refine qa env m σ G _ S R j (GPost.bind weakR h fun w m1 v G1 le1 R1 q1 h1 => ?_)
  cases w with
  | d x =>
    cases x with
    | bool c =>
      cases q1
      refine ⟨c, rfl, ?_⟩
      cases c with
      | true => exact iteT (qb env m1 σ G1 Q (S.mono le1) R1 (JMono.mono R le1 j) h1)
      | false => exact iteF (finD R1 h1 (.bl false))
    | _ => exact False.elim h1
  | _ => exact False.elim h1
theorem mtj_tru {a : Expr} {f : EF} (ha : MEJ X Wx J a f) (he : ∀ whole, isTrue a X.env whole = (do let v ← whole; standAt a.pos; holding [v] (truthy v)) := by intro _; rfl) : MTJ X Wx J a (tTru f) := by
  obtain ⟨ta, pa, qa⟩ := ha
  refine ⟨_, pt_truth pa he, fun env m σ G Q S R j h => qa env m σ G _ S R j (GPost.bind weakEq h fun w m1 v G1 le1 R1 q1 h1 => ?_)⟩
  cases e : truW w m1 with
  | none => rw [e] at h1; exact False.elim h1
  | some b => rw [e] at h1; exact ⟨b, truW_ok R1 q1 e, h1 b G1 (Le.refl R1) R1 rfl⟩
theorem MPJ.mt {e : Expr} {f : TF} (h : MPJ X Wx J e f) : MTJ X Wx J e f := let ⟨t, p, q⟩ := h; ⟨t, p.pt, q⟩
theorem mpj_and1 {a : Expr} {f : TF} {pos : Pos} (h : MTJ X Wx J a f) : MPJ X Wx J (.BoolOp .And [a] pos) f := let ⟨t, p, q⟩ := h; ⟨t, pw_and1 p, q⟩
theorem mpj_and {a b : Expr} {rest : List Expr} {f g : TF} {pos : Pos} (h : MTJ X Wx J a f) (h' : MPJ X Wx J (.BoolOp .And (b :: rest) pos) g) : MPJ X Wx J (.BoolOp .And (a :: b :: rest) pos) (tAndF f g) := by
  obtain ⟨ta, pa, qa⟩ := h
  obtain ⟨tb, pb, qb⟩ := h'
  refine ⟨_, pw_and pa pb, fun env m σ G Q S R j h => qa env m σ G _ S R j (GPost.bind weakEq h fun b m1 v G1 le1 R1 q1 h1 => ?_)⟩
  rw [show v = b from q1]
  cases b with
  | true => exact iteT (qb env m1 σ G1 Q (S.mono le1) R1 (JMono.mono R le1 j) h1)
  | false => exact iteF (h1 false G1 (Le.refl R1) R1 rfl)
theorem msj_set (i : Nat) {x : Str} {e : Expr} {f : EF} {pos pos' : Pos} (hN : X.N.Nodup) (hJ : ∀ σ v H, J σ H → J (σ.set i v) H) (he : MEJ X Wx J e f) (hi : X.N[i]? = some x := by rfl) (hx : Loc X.env.scope x := by first | exact .inl rfl | exact .inr rfl) (hs : swapsWith e (some (.Name x pos')) pos.line X.env = pure false := by rfl)
    (hf : X.fn x = true ∨ X.env.scope.names.lookup x = some .local := by first | exact .inl rfl | exact .inr rfl) : MSJ X Wx J (.Assign [.Name x pos'] e pos) (sAsg f (gSet i)) := by
  obtain ⟨t, p, q⟩ := he
  refine ⟨_, ps_set hN hi hx p hs hf, fun env m σ G E S R j h => q env m σ G _ S R j (SPost.ofE h S fun w m1 v G1 le R1 q1 h1 => ?_)⟩
  cases w with
  | fl _ => exact False.elim h1
  | d x => exact h1 (σ.set i (some v)) G1 (Le.refl R1) R1 ((S.mono le).set q1) (hJ _ _ _ (JMono.mono R le j))
  | obj x => exact h1 (σ.set i (some v)) G1 (Le.refl R1) R1 ((S.mono le).set q1) (hJ _ _ _ (JMono.mono R le j))
  | ro x => exact h1 (σ.set i (some v)) G1 (Le.refl R1) R1 ((S.mono le).set q1) (hJ _ _ _ (JMono.mono R le j))
  | pr x k => exact h1 (σ.set i (some v)) G1 (Le.refl R1) R1 ((S.mono le).set q1) (hJ _ _ _ (JMono.mono R le j))
theorem msj_ret {e : Expr} {f : EF} {pos : Pos} (h : MEJ X Wx J e f) : MSJ X Wx J (.Return (some e) pos) (sRet f) := by
  obtain ⟨t, p, q⟩ := h
  exact ⟨_, ps_ret p, fun env m σ G E S R j h => q env m σ G _ S R j (SPost.ofE0 h S fun a m v G1 le R1 q1 h1 => h1 v G1 le R1 q1)⟩
theorem mbj_nil : MBJ X Wx J [] sNx := ⟨_, pss_nil, fun env m σ G E S R j h => h σ G (Le.refl R) R S j⟩
theorem mbj_one {st : Stmt} {f : SF} (h : MSJ X Wx J st f) : MBJ X Wx J [st] f := let ⟨t, p, q⟩ := h; ⟨t, pss_one p, q⟩
theorem mbj_cons {st : Stmt} {rest : List Stmt} {f g : SF} (h : MSJ X Wx J st f) (h' : MBJ X Wx J rest g) : MBJ X Wx J (st :: rest) (sSeq f g) := by
  obtain ⟨ta, pa, qa⟩ := h
  obtain ⟨tb, pb, qb⟩ := h'
  refine ⟨_, pss_cons pa pb, fun env m σ G E S R j h => qa env m σ G _ S R j ?_⟩
  unfold sSeq at h
  cases e : f env m with
  | nx e1 m1 => rw [e] at h; exact fun σ' G' le R' S' j' => qb e1 m1 σ' G' E S' R' j' (SPost.later h le)
  | bk e1 m1 => rw [e] at h; exact h
  | ct e1 m1 => rw [e] at h; exact h
  | rt w m1 => rw [e] at h; exact h
  | err x e1 m1 => rw [e] at h; exact h
  | bad => rw [e] at h; exact h
theorem msj_if {c : Expr} {a b : List Stmt} {fc : TF} {fa fb : SF} {pos : Pos} (hc : MTJ X Wx J c fc) (ha : MBJ X Wx J a fa) (hb : MBJ X Wx J b fb) : MSJ X Wx J (.If c a b pos) (sIf fc fa fb) := by
  obtain ⟨tc, pc, qc⟩ := hc
  obtain ⟨ta, pa, qa⟩ := ha
  obtain ⟨tb, pb, qb⟩ := hb
  refine ⟨_, ps_if pc pa pb, fun env m σ G E S R j h => qc env m σ G _ S R j (SPost.ofE h S fun k m1 v G1 le R1 q1 h1 => ?_)⟩
  rw [show v = k from q1]
  cases k with
  | true => exact iteT (qa env m1 σ G1 E (S.mono le) R1 (JMono.mono R le j) h1)
  | false => exact iteF (qb env m1 σ G1 E (S.mono le) R1 (JMono.mono R le j) h1)
end
/-! ### an exception held by a slot: isinstance -/
abbrev Hd (i : Nat) (a : Addr) : L2.St → Hp → Prop := fun σ _ => σ[i]? = some (some (.ref a))
instance {i : Nat} {a : Addr} : JMono (Hd i a) := ⟨fun _ _ h => h⟩
theorem Hd.set {i k : Nat} {a : Addr} (h : k ≠ i) : ∀ (σ : L2.St) (v : Option V) (H : Hp), Hd i a σ H → Hd i a (σ.set k v) H := fun σ v H hh => by
  show (σ.set k v)[i]? = _
  rw [List.getElem?_set_ne h]
  exact hh
/-- the names of classes -/
structure PCl (X : Cx) (es : List Expr) (us : List Value) : Prop where
  ex : ∃ ta cs, PA X es ta ∧ Paired ClsV cs us ∧ ∀ σ H (Q : List V → Hp → Prop), Q cs H → ta σ H Q
theorem pcl_nil {X : Cx} : PCl X [] [] := ⟨_, [], pa_nil, .nil, fun _ _ _ h => h⟩
theorem pcl_own {X : Cx} {x : Str} {C : Addr} {p : Pos} {es : List Expr} {us : List Value} (hg : Gl X x) (hm : X.mg x = some (.ref C)) (h : PCl X es us) (hd : (x == ("__debug__" : Str)) = false := by decide) (hs : starEach (.Name x p :: es) X.env = (false, eval (.Name x p) X.env) :: starEach es X.env := by rfl) : PCl X (.Name x p :: es) (.ref C :: us) := by
  obtain ⟨ta, cs, pa, pc, q⟩ := h.ex
  exact ⟨_, .ref C :: cs, pa_cons (pe_glob (v := .ref C) hg hm rfl hd) pa hs, .cons (.own C) pc, fun σ H Q h => q σ H _ h⟩
theorem pcl_ty {X : Cx} {x : Str} {T : String} {p : Pos} {es : List Expr} {us : List Value} (hg : Gl X x) (hm : X.mg x = none) (h : PCl X es us) (hv : bootBuiltins x = some (.type T) := by decide +kernel) (hn : x ≠ "__name__" := by decide) (hd : (x == ("__debug__" : Str)) = false := by decide) (hs : starEach (.Name x p :: es) X.env = (false, eval (.Name x p) X.env) :: starEach es X.env := by rfl) : PCl X (.Name x p :: es) (.type T :: us) := by
  obtain ⟨ta, cs, pa, pc, q⟩ := h.ex
  exact ⟨_, .ty T :: cs, pa_cons (pe_bltn (v := .ty T) hg hm hv rfl hn hd) pa hs, .cons (.ty T) pc, fun σ H Q h => q σ H _ h⟩
/-- a table of classes: each one's answer among some classes -/
inductive TabI (K : PySem.W.Frag) (mg : Str → Option Value) (us : List Value) : List (Str × Bool) → Prop
  | nil : TabI K mg us []
  | cons {n : Str} {b : Bool} {D : Addr} {l : List (Str × Bool)} : mg n = some (.ref D) → ExcC K D → PySem.W.kitAny K (.ref D) us = some b → TabI K mg us l → TabI K mg us ((n, b) :: l)
theorem tab_is {K : PySem.W.Frag} {mg : Str → Option Value} {us : List Value} : ∀ {l : List (Str × Bool)}, TabI K mg us l → ∀ n b cls, tabOf l n = some b → mg n = some cls → ∃ D, cls = .ref D ∧ ExcC K D ∧ PySem.W.kitAny K (.ref D) us = some b
  | _, .nil, n, b, cls, h, _ => by cases h
  | _, .cons (n := n') (b := b') g c e t, n, b, cls, h, hm => by
    unfold tabOf at h
    by_cases q : n = n'
    · rw [if_pos q] at h
      cases h
      rw [q, g] at hm
      cases hm
      exact ⟨_, rfl, c, e⟩
    · rw [if_neg q] at h
      exact tab_is t n b cls h hm
theorem kitAny_one {K : PySem.W.Frag} {t u : Value} {b : Bool} (h : PySem.W.kitAny K t [u] = some b) : PySem.W.kitOne K t u = some b := by
  unfold PySem.W.kitAny at h
  cases q : PySem.W.kitOne K t u with
  | none => rw [q] at h; cases h
  | some c =>
    rw [q] at h
    cases c with
    | true => cases h; rfl
    | false => unfold PySem.W.kitAny at h; cases h; rfl
theorem pe_nev {X : Cx} {e : Expr} : PE X e (fun _ _ _ => False) := ⟨fun _ _ _ _ _ _ h => h.elim⟩
/-! ### try .. except C as e -/
def unS (i : Nat) : SRes → SRes
  | .nx env m => .nx (env.set i none) m
  | .bk env m => .bk (env.set i none) m
  | .ct env m => .ct (env.set i none) m
  | r => r
def sTryAs (i : Nat) (tab : Str → Option Bool) (fb : SF) (fs : Exn → SF) (env : Env) (m : Mem) : SRes := match fb env m with
  | .err e env' m' => (match tab e.cls with
    | some true => unS i (noErrS (fs e (env'.set i none) m'))
    | some false => .err e env' m'
    | none => .bad)
  | r => r
theorem RelS.setN {K : PySem.W.Frag} {G : Wd} {σ : L2.St} {env : Env} (S : RelS K G σ env) (i : Nat) (v : Option V) : RelS K G (σ.set i v) (env.set i none) := by
  refine ⟨by rw [List.length_set, List.length_set]; exact S.len, fun j w e => ?_⟩
  by_cases hj : i = j
  · subst hj
    by_cases hl : i < env.length
    · rw [List.getElem?_set_self hl] at e
      cases e
    · rw [List.getElem?_eq_none (by rw [List.length_set]; omega)] at e
      cases e
  · rw [List.getElem?_set_ne hj] at e
    obtain ⟨u, h1, h2⟩ := S.get j w e
    exact ⟨u, by rw [List.getElem?_set_ne hj]; exact h1, h2⟩
end M
set_option Elab.async false
set_option linter.all false
set_option maxRecDepth 100000
/-! P: an exception caught by name -/
namespace M
open PySem L2
variable [HasW]
/-! ### text * int -/
noncomputable section
def tryKE {σ γ : Type} (tab : Str → Option Bool) (b : PR (TO σ)) (h : Exn → PR (TO σ)) (k : TO σ → PR γ) : PR γ := match b with
  | .ok o => k o
  | .err e => (match tab e.cls with
    | some true => lcN (h e) k
    | some false => .err e
    | none => .bad)
  | .bad => .bad
@[simp] theorem tryKE_ok {σ γ : Type} (tab : Str → Option Bool) (o : TO σ) (h : Exn → PR (TO σ)) (k : TO σ → PR γ) : tryKE tab (.ok o) h k = k o := rfl
theorem tryKE_err {σ γ : Type} {tab : Str → Option Bool} {e : Exn} (ht : tab e.cls = some true) (h : Exn → PR (TO σ)) (k : TO σ → PR γ) : tryKE tab (.err e) h k = lcN (h e) k := by
  show (match tab e.cls with | some true => lcN (h e) k | some false => .err e | none => .bad) = _
  rw [ht]
theorem put_get : ∀ (ds : List (Nat × Kd)) (ρ : List PV) (s : St ds) (i : Nat), (ds.all fun p => p.1 != i) = true → (put ds ρ s)[i]? = ρ[i]?
  | [], ρ, s, i, _ => rfl
  | (k, .d) :: r, ρ, s, i, h => by
    simp only [List.all_cons, Bool.and_eq_true, bne_iff_ne] at h
    rw [put, put_get r _ _ i h.2, List.getElem?_set_ne h.1]
  | (k, .l p) :: r, ρ, s, i, h => by
    simp only [List.all_cons, Bool.and_eq_true, bne_iff_ne] at h
    rw [put, put_get r _ _ i h.2, List.getElem?_set_ne h.1]
  | (k, .k p) :: r, ρ, s, i, h => by
    simp only [List.all_cons, Bool.and_eq_true, bne_iff_ne] at h
    rw [put, put_get r _ _ i h.2, List.getElem?_set_ne h.1]
  | (k, .m) :: r, ρ, s, i, h => by
    simp only [List.all_cons, Bool.and_eq_true, bne_iff_ne] at h
    rw [put, put_get r _ _ i h.2, List.getElem?_set_ne h.1]
  | (k, .t p) :: r, ρ, s, i, h => by
    simp only [List.all_cons, Bool.and_eq_true, bne_iff_ne] at h
    rw [put, put_get r _ _ i h.2, List.getElem?_set_ne h.1]
section
variable {sr : Nat} {ms : List Bool}
/-- an unknown slot may be emptied -/
theorem Rel.drop1 {fr : Fr} {ρ : List PV} {env : Env} {m : Mem} (R : Rel fr ρ env m) (i : Nat) (h : ∀ v, ρ[i]? = some v → v = PV.x) : Rel fr ρ (env.set i none) m := by
  refine R.sub rfl (by simp) fun k v hv => ?_
  by_cases hk : i = k
  · subst hk
    exact .inl (h v hv)
  · exact .inr ⟨hv, List.getElem?_set_ne hk⟩
theorem wip_x {mb : List Bool} {ρ : List PV} {i : Nat} (h : isM mb i = true) : ∀ v, (wip mb ρ)[i]? = some v → v = PV.x := fun v hv => by
  rw [wip_get, if_pos h] at hv
  cases q : ρ[i]? with
  | none => rw [q] at hv; cases hv
  | some u => rw [q] at hv; exact (Option.some.inj hv).symm
end
end
end M
set_option Elab.async false
set_option linter.all false
set_option maxRecDepth 100000
/-! M: an exception caught by name and kept in another slot, for what stands behind the try -/
namespace M
open PySem L2
/-! ### isinstance and is None of what a slot keeps -/
/-! ### the try, and what stands behind -/
end M
set_option Elab.async false
set_option linter.all false
set_option maxRecDepth 100000
/-! P: a try whose exception is kept for what stands behind -/
namespace M
open PySem L2
variable [HasW]
noncomputable section
def tryKB {σ γ : Type} (tab : Str → Option Bool) (b : PR (TO σ)) (h : Exn → PR γ) (k : TO σ → PR γ) : PR γ := match b with
  | .ok o => k o
  | .err e => (match tab e.cls with
    | some true => h e
    | some false => .err e
    | none => .bad)
  | .bad => .bad
@[simp] theorem tryKB_ok {σ γ : Type} (tab : Str → Option Bool) (o : TO σ) (h : Exn → PR γ) (k : TO σ → PR γ) : tryKB tab (.ok o) h k = k o := rfl
end
end M
set_option Elab.async false
set_option linter.all false
set_option maxRecDepth 100000
/-! M: a kept exception that may have fields -/
namespace M
open PySem L2
variable [HasW]
/-- a slot holds the exception at a; its dict, if it has one, holds fs -/
def HdF (i : Nat) (a : Addr) (d : Option Addr) (fs : List (Str × V)) : L2.St → Hp → Prop := fun σ H => σ[i]? = some (some (.ref a)) ∧ ∀ dd, d = some dd → H dd = some (.xd fs)
theorem xd_out {K : PySem.W.Frag} {G : Wd} {m : Mem} {dd : Addr} {fs : List (Str × V)} (R : RelM K G m) (h : G.H dd = some (.xd fs)) : dd ∉ G.io := by
  intro z
  obtain ⟨i, hi⟩ := List.mem_iff_getElem?.mp z
  have hl : i < m.length := by rw [← R.len]; exact (List.getElem?_eq_some_iff.mp hi).1
  have ob := R.ob i dd _ hi (List.getElem?_eq_getElem hl)
  cases q : m[i] with
  | lst ds => rw [q] at ob; obtain ⟨_, vs, e, _⟩ := ob; rw [h] at e; cases e
  | fz ds => rw [q] at ob; obtain ⟨_, vs, e, _⟩ := ob; rw [h] at e; cases e
  | dct kvs => rw [q] at ob; obtain ⟨_, ks, e, _⟩ := ob; rw [h] at e; cases e
  | lsw ws => rw [q] at ob; obtain ⟨_, vs, e, _⟩ := ob; rw [h] at e; cases e
  | dcn kvs => rw [q] at ob; obtain ⟨_, o, _, _, e, _⟩ := ob; rw [h] at e; cases e
  | ins _ _ => rw [q] at ob; obtain ⟨_, C, dx, vs, _, e, _⟩ := ob; rw [h] at e; cases e
  | dead =>
    rw [q] at ob
    rcases ob with ⟨vs, e⟩ | ⟨o, e⟩
    · rw [h] at e; cases e
    · rw [h] at e; cases e
instance {i : Nat} {a : Addr} {d : Option Addr} {fs : List (Str × V)} : JMono (HdF i a d fs) := ⟨fun R le h => ⟨h.1, fun dd e => le.keep dd _ (h.2 dd e) (fun z => xd_out R (h.2 dd e) z.1) nofun⟩⟩
theorem HdF.set {i k : Nat} {a : Addr} {d : Option Addr} {fs : List (Str × V)} (h : k ≠ i) : ∀ (σ : L2.St) (v : Option V) (H : Hp), HdF i a d fs σ H → HdF i a d fs (σ.set k v) H := fun σ v H hh => ⟨by rw [List.getElem?_set_ne h]; exact hh.1, hh.2⟩
section
variable {Y : Cx} {Wx : WX} {a : Addr} {oe : Obj} {cls : Value} {d : Option Addr} {i : Nat} {n : Str} {p p1 p2 p3 pos : Pos} {e : Exn} {fs : List (Str × V)}
theorem instAtF (hp : (a, oe) ∈ Y.pn) {D : Addr} (hz : Zc (.ref D) d oe) (hf : ∃ vs, oe.data = .fields vs) {pins : List (Addr × Obj)} {σ : L2.St} {H : Hp} {s : Shared} (I : Inv Y pins σ H s) (hx : ∀ dd, d = some dd → H dd = some (.xd fs)) : ∃ od, PySem.W.InstAt s.heap a oe D od := by
  obtain ⟨fv, hv⟩ := hf
  have g := (I.pin (a, oe) (List.mem_append_left _ hp)).1
  cases d with
  | none => exact ⟨none, g, hz.1, by unfold PySem.W.notCls; rw [hv], by rw [hz.2]; trivial⟩
  | some dd =>
    have ho : ObjOk Y.prog Y.w H s.heap dd (.xd fs) := I.hok dd _ (hx dd rfl)
    obtain ⟨mA, hns, hr⟩ := ho
    obtain ⟨od, ho, hl⟩ := lookIn_ns hns
    exact ⟨some od, g, hz.1, by unfold PySem.W.notCls; rw [hv], by rw [hz.2]; exact ho⟩
theorem kitF {K : PySem.W.Frag} {D : Addr} (C : ExcC K D) {ox : Obj} {od : Option Obj} : PySem.W.KitX K (.ref a) (.ref D) (fun h => PySem.W.InstAt h a ox D od) :=
  PySem.W.kitx_exc (by obtain ⟨cd, hc, _⟩ := PySem.W.any_some C.hd; rw [hc]; rfl) C.hg C.hk C.hs C.ha C.hn C.ht C.hm
theorem call_is1F (hp : (a, oe) ∈ Y.pn) {D : Addr} (C : ExcC Y.K D) (hz : Zc (.ref D) d oe) (hf : ∃ vs, oe.data = .fields vs) : CallR Y (.builtin "isinstance")
    (fun xs H Q => ∃ (c : V) (cv : Value) (b : Bool), xs = [.ref a, c] ∧ (∀ u, RelV c u → u = cv) ∧ PySem.W.kitOne Y.K (.ref D) cv = some b ∧ (∀ dd, d = some dd → H dd = some (.xd fs)) ∧ Q (.bl b) H) := by
  intro pins s σ H xs vs Q I r h
  obtain ⟨c, cv, b, rfl, hcv, e, hx, q⟩ := h
  obtain _ | ⟨r1, rr⟩ := r
  obtain _ | ⟨r2, rr⟩ := rr
  cases rr
  cases r1
  have ec := hcv _ r2
  subst ec
  obtain ⟨od, J⟩ := instAtF hp hz hf I hx
  exact PySem.W.kia_one (kitF C) I.kIn J e (fun z => nomatch z) fun tk => ⟨.bl b, H, I.kept (t' := tk) fun _ _ z => z, rfl, q⟩
theorem call_isTF (hp : (a, oe) ∈ Y.pn) {D : Addr} (C : ExcC Y.K D) (hz : Zc (.ref D) d oe) (hf : ∃ vs, oe.data = .fields vs) : CallR Y (.builtin "isinstance")
    (fun xs H Q => ∃ (tp : Addr) (cs : List V) (us : List Value) (b : Bool), xs = [.ref a, .ref tp] ∧ H tp = some (.tup cs) ∧ Paired ClsV cs us ∧ PySem.W.kitAny Y.K (.ref D) us = some b ∧ (∀ dd, d = some dd → H dd = some (.xd fs)) ∧ Q (.bl b) H) := by
  intro pins s σ H xs vs Q I r h
  obtain ⟨tp, cs, us, b, rfl, hT, pc, e, hx, q⟩ := h
  obtain _ | ⟨r1, rr⟩ := r
  obtain _ | ⟨r2, rr⟩ := rr
  cases rr
  cases r1
  cases r2
  obtain ⟨_, its, rv, o, g1, g2, n, g3⟩ := (show ObjOk Y.prog Y.w H s.heap tp (.tup cs) from I.hok tp _ hT)
  have eu := ClsV.all pc rv
  subst eu
  have g4 : s.heap.get? tp = some ⟨.type "tuple", o.dict, .seq its.toArray n, o.slots⟩ := by
    rw [g1]
    cases o
    simp only at g2 g3
    rw [g2, g3]
  obtain ⟨od, J⟩ := instAtF hp hz hf I hx
  exact PySem.W.kia_tup (kitF C) I.kIn J g4 e (by intro z; cases z) fun tk => ⟨.bl b, H, I.kept (t' := tk) fun _ _ z => z, rfl, q⟩
/-- the answer by the class's name, with or without fields -/
def eTabF (tab : Str → Option Bool) (e : Exn) : EF := fun _ m => match tab e.cls with
  | some b => .ok (.d (.bool b)) m
  | none => .bad
theorem eTabF_no {l : List (Str × Bool)} {x : Expr} (h : tabOf l e.cls = none) {J : L2.St → Hp → Prop} : MEJ Y Wx J x (eTabF (tabOf l) e) := by
  refine ⟨_, pe_nev, fun env m σ G Q S R j hh => ?_⟩
  unfold eTabF at hh
  rw [h] at hh
  exact hh
theorem mej_is1F {x : Expr} {u : Value} {l : List (Str × Bool)} (hp : (a, oe) ∈ Y.pn) (hg : Gl Y "isinstance") (hm : Y.mg "isinstance" = none) (hN : Y.N[i]? = some n) (hv : Vis Y.env.scope n) (hc : PCl Y [x] [u]) (ht : TabI Y.K Y.mg [u] l) (hz : Zc cls d oe) (hf : ∃ vs, oe.data = .fields vs) (hm2 : Y.mg e.cls = some cls)
    (hdb : (n == ("__debug__" : Str)) = false := by decide) (hcd : (n == ("__classdict__" : Str)) = false := by decide) (h1 : starEach [.Name n p1, x] Y.env = (false, eval (.Name n p1) Y.env) :: starEach [x] Y.env := by rfl) (hpl : (backTo pos (starEach [x] Y.env)).any (·.1) = false := by rfl) :
    MEJ Y Wx (HdF i a d fs) (.Call (.Name "isinstance" p) [.Name n p1, x] [] pos) (eTabF (tabOf l) e) := by
  obtain ⟨ta, cs, pa, pc, q⟩ := hc.ex
  cases htb : tabOf l e.cls with
  | none => exact eTabF_no htb
  | some b =>
    obtain ⟨D, rfl, C, hk⟩ := tab_is ht _ b _ htb hm2
    refine ⟨_, pe_callB (call_is1F (fs := fs) hp C hz hf) hg hm (by decide +kernel) (pa_cons (pe_var hN hv hdb hcd) pa h1) (by decide) (by decide) h1 hpl, fun env m σ G Q S R j h => ?_⟩
    unfold eTabF at h
    rw [htb] at h
    refine ⟨_, j.1, q σ G.H _ ?_⟩
    obtain _ | ⟨k1, kr⟩ := pc
    cases kr
    exact ⟨_, u, b, rfl, fun w r => k1.eq r, kitAny_one hk, j.2, finD R h (.bl b)⟩
theorem mej_isTF {es : List Expr} {us : List Value} {l : List (Str × Bool)} {k : Nat} (hp : (a, oe) ∈ Y.pn) (hg : Gl Y "isinstance") (hm : Y.mg "isinstance" = none) (hN : Y.N[i]? = some n) (hv : Vis Y.env.scope n) (hc : PCl Y es us) (hl : us.length ≤ 1000) (ht : TabI Y.K Y.mg us l) (hz : Zc cls d oe) (hf : ∃ vs, oe.data = .fields vs) (hm2 : Y.mg e.cls = some cls)
    (hdb : (n == ("__debug__" : Str)) = false := by decide) (hcd : (n == ("__classdict__" : Str)) = false := by decide) (h1 : starEach [.Name n p1, .Tuple es k p2] Y.env = (false, eval (.Name n p1) Y.env) :: starEach [.Tuple es k p2] Y.env := by rfl) (hpl : (backTo pos (starEach [.Tuple es k p2] Y.env)).any (·.1) = false := by rfl)
    (h2 : starEach [.Tuple es k p2] Y.env = (false, eval (.Tuple es k p2) Y.env) :: starEach [] Y.env := by rfl) :
    MEJ Y Wx (HdF i a d fs) (.Call (.Name "isinstance" p) [.Name n p1, .Tuple es k p2] [] pos) (eTabF (tabOf l) e) := by
  obtain ⟨ta, cs, pa, pc, q⟩ := hc.ex
  cases htb : tabOf l e.cls with
  | none => exact eTabF_no htb
  | some b =>
    obtain ⟨D, rfl, C, hk⟩ := tab_is ht _ b _ htb hm2
    refine ⟨_, pe_callB (call_isTF (fs := fs) hp C hz hf) hg hm (by decide +kernel) (pa_cons (pe_var hN hv hdb hcd) (pa_cons (pe_tup pa) pa_nil h2) h1) (by decide) (by decide) h1 hpl, fun env m σ G Q S R j h => ?_⟩
    unfold eTabF at h
    rw [htb] at h
    refine ⟨_, j.1, q σ G.H _ ⟨by rw [Paired.length pc, sizeLine_eq]; omega, fun tp htp => ?_⟩⟩
    refine ⟨tp, cs, us, b, rfl, upd_same, pc, hk, fun dd e => ?_, h (.bl b) _ (Le.new R htp) (R.new htp) (.bl b)⟩
    have := j.2 dd e
    rw [upd_ne (fun z => by rw [z, htp] at this; cases this)]
    exact this
end
/-! ### a field of a kept exception -/
section
variable {Y : Cx} {Wx : WX} {a : Addr} {oe : Obj} {cls : Value} {d : Option Addr} {i : Nat} {n f : Str} {p1 pos : Pos} {e : Exn} {fs : List (Str × V)}
theorem pe_fldY {C : Addr} {x : Expr} {te : TE} (hp : (a, oe) ∈ Y.pn) (T : XfC Y.K C) (hno : PySem.W.findIn Y.K (.ref C) f = some none) (hz : Zc (.ref C) d oe) (hf : ∃ vs, oe.data = .fields vs) (he : PE Y x te) (hb : attributeBase x f Y.env (eval x Y.env) = eval x Y.env := by rfl) :
    PE Y (.Attribute x f pos) (fun σ H Q => te σ H fun z H1 => z = .ref a ∧ ∃ dd v, d = some dd ∧ H1 dd = some (.xd fs) ∧ fs.lookup f = some v ∧ Q v H1) := by
  refine ⟨fun pins s σ H Q I h => attr_of hb (thn (he.run pins s σ H _ I h) fun u s1 hh => ?_)⟩
  obtain ⟨z, H1, I1, rz, rfl, dd, v, rfl, hx, hl, q⟩ := hh
  obtain rfl : u = Value.ref a := rz
  obtain ⟨fv, hv⟩ := hf
  have g := (I1.pin (a, oe) (List.mem_append_left _ hp)).1
  have ho : ObjOk Y.prog Y.w H1 s1.heap dd (.xd fs) := I1.hok dd _ hx
  obtain ⟨mA, hns, hr⟩ := ho
  obtain ⟨od, go, gl⟩ := lookIn_ns hns
  obtain ⟨w, hw, rw_⟩ := RelO.some_of (v := v) (o := mA f) (by have := hr f; rw [hl] at this; exact this)
  have J : PySem.W.InstAt s1.heap a oe C (some od) := ⟨g, hz.1, by unfold PySem.W.notCls; rw [hv], by rw [hz.2]; exact go⟩
  have fo : PySem.W.findObj Y.K C (some od) f = some (.value w) := PySem.W.findObj_own T.hdC hno rfl (by rw [gl, hw])
  exact HandSPX.exc_get I1.kIn J T.ga T.gg T.exC fo (handed_of rw_) ⟨v, H1, I1.tok _, rw_, q⟩
/-- fields that no heap is asked for -/
def FlatFs (fs : List (Str × V)) (xs : List (Str × D)) : Prop := Paired (fun (p : Str × V) (q : Str × D) => p.1 = q.1 ∧ ∀ (K : PySem.W.Frag) (lv : List Addr) (H : Hp), Rep K lv H p.2 q.2) fs xs
theorem FlatFs.get {fs : List (Str × V)} {xs : List (Str × D)} (h : FlatFs fs xs) {x : D} (hl : xs.lookup f = some x) : ∃ v, fs.lookup f = some v ∧ ∀ (K : PySem.W.Frag) (lv : List Addr) (H : Hp), Rep K lv H v x := by
  induction h with
  | nil => cases hl
  | @cons p q ps qs hpq _ ih =>
    obtain ⟨pn, pv⟩ := p
    obtain ⟨qn, qv⟩ := q
    obtain ⟨e1, e2⟩ := hpq
    dsimp only at e1 e2
    subst e1
    rw [List.lookup_cons] at hl ⊢
    cases hb : f == pn with
    | true => rw [hb] at hl; cases hl; exact ⟨pv, rfl, e2⟩
    | false => rw [hb] at hl; exact ih hl
/-- the classes that have the field -/
inductive TabX (K : PySem.W.Frag) (mg : Str → Option Value) (f : Str) : List Str → Prop
  | nil : TabX K mg f []
  | cons {n : Str} {D : Addr} {l : List Str} : mg n = some (.ref D) → XfC K D → PySem.W.findIn K (.ref D) f = some none → TabX K mg f l → TabX K mg f (n :: l)
theorem TabX.get {K : PySem.W.Frag} {mg : Str → Option Value} {l : List Str} (h : TabX K mg f l) {n : Str} (hn : n ∈ l) : ∃ D, mg n = some (.ref D) ∧ XfC K D ∧ PySem.W.findIn K (.ref D) f = some none := by
  induction h with
  | nil => cases hn
  | cons h1 h2 h3 _ ih =>
    rcases List.mem_cons.mp hn with rfl | hn
    · exact ⟨_, h1, h2, h3⟩
    · exact ih hn
def eFld (l : List Str) (f : Str) (e : Exn) : EF := fun _ m => if l.contains e.cls = true then (match e.fs.lookup f with
  | some x => .ok (.d x) m
  | none => .bad) else .bad
theorem mej_fld {l : List Str} (hp : (a, oe) ∈ Y.pn) (ht : TabX Y.K Y.mg f l) (hN : Y.N[i]? = some n) (hv : Vis Y.env.scope n) (hz : Zc cls d oe) (hf : ∃ vs, oe.data = .fields vs) (hm2 : Y.mg e.cls = some cls) (hd : e.fs ≠ [] → ∃ dd, d = some dd) (hfl : FlatFs fs e.fs)
    (hdb : (n == ("__debug__" : Str)) = false := by decide) (hcd : (n == ("__classdict__" : Str)) = false := by decide) (hb : attributeBase (.Name n p1) f Y.env (eval (.Name n p1) Y.env) = eval (.Name n p1) Y.env := by rfl) : MEJ Y Wx (HdF i a d fs) (.Attribute (.Name n p1) f pos) (eFld l f e) := by
  by_cases hc : l.contains e.cls = true
  · obtain ⟨D, g1, g2, g3⟩ := ht.get (List.contains_iff_mem.mp hc)
    rw [hm2] at g1
    cases g1
    cases hl : e.fs.lookup f with
    | none =>
      refine ⟨_, pe_nev, fun env m σ G Q S R j h => ?_⟩
      unfold eFld at h
      rw [if_pos hc, hl] at h
      exact h
    | some x =>
      have hne : e.fs ≠ [] := fun z => by rw [z] at hl; cases hl
      obtain ⟨dd, rfl⟩ := hd hne
      obtain ⟨v, v1, v2⟩ := hfl.get hl
      refine ⟨_, pe_fldY (fs := fs) hp g2 g3 hz hf (pe_var hN hv hdb hcd) hb, fun env m σ G Q S R j h => ?_⟩
      unfold eFld at h
      rw [if_pos hc, hl] at h
      exact ⟨_, j.1, rfl, dd, v, rfl, j.2 dd rfl, v1, h v G (Le.refl R) R (v2 _ _ _)⟩
  · refine ⟨_, pe_nev, fun env m σ G Q S R j h => ?_⟩
    unfold eFld at h
    rw [if_neg hc] at h
    exact h
end
/-! ### the try, and what stands behind; exceptions with flat fields -/
def flatX : D → Bool
  | .none => true
  | .bool _ => true
  | .int _ => true
  | .str _ => true
  | _ => false
theorem flatX_rep {K : PySem.W.Frag} {lv : List Addr} {H : Hp} {v : V} {x : D} (h : flatX x = true) (r : Rep K lv H v x) : ∀ (K : PySem.W.Frag) (lv : List Addr) (H : Hp), Rep K lv H v x := by
  cases x with
  | none => cases r; exact fun _ _ _ => .non
  | bool b => cases r; exact fun _ _ _ => .bl b
  | int b => cases r; exact fun _ _ _ => .int b
  | str b => cases r; exact fun _ _ _ => .str b
  | _ => cases h
theorem flat_fs {K : PySem.W.Frag} {lv : List Addr} {H : Hp} {fs : List (Str × V)} {xs : List (Str × D)} (h : Paired (fun (p : Str × V) (q : Str × D) => p.1 = q.1 ∧ Rep K lv H p.2 q.2) fs xs) (ha : (xs.all fun q => flatX q.2) = true) : FlatFs fs xs := by
  induction h with
  | nil => exact .nil
  | @cons p q ps qs hpq _ ih =>
    rw [List.all_cons, Bool.and_eq_true] at ha
    exact .cons ⟨hpq.1, flatX_rep ha.1 hpq.2⟩ (ih ha.2)
end M
set_option Elab.async false
set_option linter.all false
set_option maxRecDepth 100000
/-! M: an own exception class with fields: its __init__, raise -/
namespace M
open PySem L2
variable [HasW]
section
variable {X : Cx} {e : Expr} {es : List Expr} {ta : TA} {p1 p2 pos : Pos} {x : Str} {C0 : Addr}
/-- what an own class that hands on ValueError's __init__ must say -/
structure InC (K : PySem.W.Frag) (C0 : Addr) : Prop where
  sp : PySem.W.specialIn K (.ref C0) "__getattribute__" = some (some (.builtin "type.__getattribute__"))
  rd : PySem.W.readsIn K C0 (.type "type") = true
  fd : PySem.W.findCls K (.ref C0) (.type "type") "__init__" = some (.val (.builtin "ValueError.__init__"))
/-- S.__init__(self, ..), S an own class without __init__ -/
theorem pe_oinit {pl : Sem Bool} (hg : Gl X x) (hm : X.mg x = some (.ref C0)) (hI : InC X.K C0) (ha : PA X (e :: es) ta) (hdb : (x == ("__debug__" : Str)) = false := by decide)
    (hc : eval (.Call (.Attribute (.Name x p1) "__init__" p2) (e :: es) [] pos) X.env = (do
      let ov ← eval (.Name x p1) X.env
      standAt p2.atName
      let (f, first) ← holding [ov] (getMethod ov "__init__" pl)
      callWith pos f first (backTo pos (starEach (e :: es) X.env)) (backToKw pos (keywordEach [] X.env))) := by rfl)
    (he : starEach (e :: es) X.env = (false, eval e X.env) :: starEach es X.env := by rfl) (hpl : (backTo pos (starEach es X.env)).any (·.1) = false := by rfl) :
    PE X (.Call (.Attribute (.Name x p1) "__init__" p2) (e :: es) [] pos) (tVeI X.K ta) := by
  refine ⟨fun pins s σ H Q I h => PySem.W.methodCall_KW (ld_glob I hg hm ?_ hdb) hc⟩
  refine PySem.W.method_cls I.kIn hI.sp (PySem.W.cls_value I.kIn hI.rd hI.fd (by decide +kernel) ?_)
  show wpAny _ _ (callWith pos (Value.builtin "ValueError.__init__") [] (backTo pos (starEach (e :: es) X.env)) []) _ _ _
  refine PyProof.Rows.callWith_method1 (thn (ha.run pos pins _ σ H _ (I.tok _) h) fun us s1 hq => ?_) he hpl
  obtain ⟨vs, H1, I1, r1, a, C, ws, rfl, hl, T, ea, q⟩ := hq
  obtain _ | ⟨ra, rr⟩ := r1
  cases ra
  have hn := Paired.length rr
  exact oinit_ok T I1 ea (by rw [sizeLine_eq]; omega) fun s' J => ⟨.non, H1, J, rfl, q⟩
end
/-! ### __init__ of a class with two fields, or one -/
section
variable {K : PySem.W.Frag} {C : Addr} {f1 f2 : Str} {z : Str}
def sp2 (C : Addr) (f1 f2 : Str) : Sp := fun vs H Q _ => ∃ a v1 v2, vs = [.ref a, v1, v2] ∧ H a = some (exo a C none) ∧ ∀ dx, H dx = none → dx ≠ a → Q .non (upd (upd (upd H dx (exd dx [(f1, v1)])) a (exo a C (some dx))) dx (exd dx [(f2, v2), (f1, v1)]))
def tInit2 (K : PySem.W.Frag) (z f1 f2 : Str) : TS := tSeq (tDrop (tVeI K (tCons (tVar 0) (tCons (tC (.str z)) tNil)))) (tSeq (tOst K f1 (tVar 0) (tVar 1)) (tOst K f2 (tVar 0) (tVar 2)))
theorem init2 (T : OexC K C) (h1 : PySem.W.findIn K (.ref C) f1 = some none) (h2 : PySem.W.findIn K (.ref C) f2 = some none) {σ : L2.St} {H : Hp} {D : Ends} {a : Addr} {v1 v2 : V} (s0 : σ[0]? = some (some (.ref a))) (s1 : σ[1]? = some (some v1)) (s2 : σ[2]? = some (some v2)) (ea : H a = some (exo a C none))
    (q : ∀ dx, H dx = none → dx ≠ a → D.nx σ (upd (upd (upd H dx (exd dx [(f1, v1)])) a (exo a C (some dx))) dx (exd dx [(f2, v2), (f1, v1)]))) : tInit2 K z f1 f2 D σ H :=
  ⟨.ref a, s0, a, C, [.str z], rfl, by simp, T, ea, v1, s1, .ref a, s0, a, C, rfl, T, h1, .inl ⟨ea, fun dx n ne => ⟨v2, s2, .ref a, s0, a, C, rfl, T, h2, .inr ⟨dx, [(f1, v1)], upd_same, by rw [upd_ne ne]; exact upd_same, by simp, q dx n ne⟩⟩⟩⟩
variable {P : Program} {w : World} {mg : Str → Option Value} {base : Heap}
theorem okI2 {x qual : Str} {st : Stmt} {f : Addr} {fd : FuncData} {n0 n1 n2 : Str} {k : Nat} (F : Fun K x qual st f fd) (S : FnScope [n0, n1, n2] [n0, n1, n2] (defScope st)) (T : OexC K C) (h1 : PySem.W.findIn K (.ref C) f1 = some none) (h2 : PySem.W.findIn K (.ref C) f2 = some none)
    (hbody : ∀ (cdv : Value) (A : Around) (outer : List PySem.Env) (s : Shared) (H : Hp) (E : XK), PSs (cxM P w K mg base [n0, n1, n2] qual (defScope st) f cdv A outer s H E) (defBody st) (tInit2 K z f1 f2)) : FnOk P w K mg base (L2.CX P w) (k + 1) f fd [n0, n1, n2] (sp2 C f1 f2) := by
  refine F.okX S (fun vs H Q E ⟨a, v1, v2, e, _⟩ => by rw [e]; rfl) fun cdv A outer s H vs Q E hr ⟨a, v1, v2, e, ea, q⟩ => ?_
  subst e
  exact ⟨_, hbody cdv A outer s H E, init2 T h1 h2 rfl rfl rfl ea q⟩
end
/-! ### raise C(x, y) -/
section
variable {X : Cx} {Wx : WX} {C : Addr} {f1 f2 : Str}
theorem heap2 {H : Hp} {a dx : Addr} {o1 o2 o3 o4 o : HO} (na : H a = none) (ne : dx ≠ a) : upd (del (upd (upd (upd (upd H a o1) dx o2) a o3) dx o4) a) dx o = upd H dx o := by
  funext b
  by_cases h1 : b = dx
  · subst h1; rw [upd_same, upd_same]
  · rw [upd_ne h1, upd_ne h1]
    by_cases h2 : b = a
    · subst h2; rw [del_same, na]
    · rw [del_ne h2, upd_ne h1, upd_ne h2, upd_ne h1, upd_ne h2]
def sRaise2 (x f1 f2 : Str) (g : AF) (env : Env) (m : Mem) : SRes := match g env m with
  | .ok [.d x1, .d x2] m1 => .err ⟨x, [(f2, x2), (f1, x1)]⟩ env m1
  | .err e m1 => .err e env m1
  | _ => .bad
theorem ms_raise2 {k : Nat} {fI : Addr} {fd : FuncData} {ps : List Str} {x : Str} {p pos pos' : Pos} {e : Expr} {es : List Expr} {g : AF} (hc : X.calm = true) (tk : Takes X Wx) (T : OexC X.K C) (iC : PySem.W.findIn X.K (.ref C) "__init__" = some (some (.ref fI))) (tI : PySem.W.typeIn X.K (.ref fI) = some (.type "function"))
    (F1 : FnOk X.prog X.w X.K X.mg X.base (L2.CX X.prog X.w) k fI fd ps (sp2 C f1 f2)) (hr : Room (k + 1) X.A) (hb : Binds X.K fd ps []) (hg : Gl X x) (hm : X.mg x = some (.ref C)) (ha : MA X Wx (e :: es) g)
    (hdb : (x == ("__debug__" : Str)) = false := by decide) (he : starEach (e :: es) X.env = (false, eval e X.env) :: starEach es X.env := by rfl) (hpl : (backTo pos (starEach es X.env)).any (·.1) = false := by rfl) :
    MS X Wx (.Raise (some (.Call (.Name x p) (e :: es) [] pos)) none pos') (sRaise2 x f1 f2 g) := by
  obtain ⟨t, pa, qa⟩ := ha
  refine ⟨_, ps_raise hc tk (pmk_oex T iC tI F1 hr hb .nil (passes_call tk fun _ _ _ _ z => z.elim) hg hm pa hdb he hpl), fun env m σ G E S R h => qa env m σ G _ S R ?_⟩
  unfold sRaise2 at h
  cases ew : g env m with
  | bad => rw [ew] at h; exact h
  | err y m1 => rw [ew] at h; exact fun c d G' le R' ex => h c d σ G' le R' (S.mono le) ex
  | ok ws m1 =>
    rw [ew] at h
    match ws, h with
    | [.d x1, .d x2], h =>
      intro vs G1 le1 R1 q1
      match vs, q1 with
      | [v1, v2], .cons r1 (.cons r2 .nil) =>
        refine ⟨by simp, fun a na => ⟨a, v1, v2, rfl, upd_same, fun dx n ne => ⟨rfl, dx, [(f2, v2), (f1, v1)], ?_, upd_same, ?_, ?_⟩⟩⟩
        · rw [upd_ne (Ne.symm ne)]; exact upd_same
        · rw [upd_ne ne] at n; exact n
        · have n2 : G1.H dx = none := by rw [upd_ne ne] at n; exact n
          rw [heap2 na ne]
          have le2 := Le.new (p := dx) (o := .xd [(f2, v2), (f1, v1)]) R1 n2
          exact h (.ref C) (some dx) σ ⟨G1.io, G1.lv, upd G1.H dx (.xd [(f2, v2), (f1, v1)])⟩ (le1.trans le2) (R1.new n2) (S.mono (le1.trans le2)) ⟨hm, .inr ⟨dx, [(f2, v2), (f1, v1)], by simp, rfl, upd_same, fun z => R1.it dx z n2, .cons ⟨rfl, RepR.mono (w := .d x2) r2 le2⟩ (.cons ⟨rfl, RepR.mono (w := .d x1) r1 le2⟩ .nil)⟩⟩
end
/-! ### what may be asked of a field -/
section
variable {X : Cx} {Wx : WX} {J : L2.St → Hp → Prop} [JMono J]
theorem mej_cmp {op : CmpOp} {r : R2} {g : W → W → Mem → Res W} {a b : Expr} {fa fb : EF} {pos : Pos} (ho : OpR X (compareOp op) r) (hg : OpOk X Wx r g) (ha : MEJ X Wx J a fa) (hb : MEJ X Wx J b fb) (hm : behindInMarks op b = false := by first | exact nomark _ | with_unfolding_all rfl) :
    MEJ X Wx J (.Compare a [op] [b] pos) (eOp g fa fb) := by
  obtain ⟨ta, pa, qa⟩ := ha
  obtain ⟨tb, pb, qb⟩ := hb
  refine ⟨_, pe_cmpR ho pa pb hm, fun env m σ G Q S R j h => ?_⟩
  refine qa env m σ G _ S R j (GPost.bind weakR h fun x m1 v G1 le1 R1 q1 h1 => ?_)
  refine qb env m1 σ G1 _ (S.mono le1) R1 (JMono.mono R le1 j) (GPost.bind weakR h1 fun y m2 u G2 le2 R2 q2 h2 => ?_)
  exact hg σ G2 m2 v u x y _ _ Q R2 (q1.mono le2) q2 h2
end
/-- an own exception class with fields -/
structure XW (K : PySem.W.Frag) (mg : Str → Option Value) (x : Str) where
  C : Addr
  g : mg x = some (.ref C)
  oex : OexC K C
  xf : XfC K C
  fI : Addr
  iC : PySem.W.findIn K (.ref C) "__init__" = some (some (.ref fI))
  tI : PySem.W.typeIn K (.ref fI) = some (.type "function")
end M
set_option Elab.async false
set_option linter.all false
set_option maxRecDepth 100000
/-! P: exceptions with fields -/
namespace M
open PySem L2
variable [HasW]
noncomputable section
section
variable {s sr : Nat} {ms : List Bool} {fa fb : EF} {ga gb : GEx}
def gTabF (tab : Str → Option Bool) (e : Exn) : GEx := fun γ ρ K => match tab e.cls with
  | some b => K (.v (.bool b)) ρ
  | none => .bad
def ptabF {γ : Type} (tab : Str → Option Bool) (e : Exn) (k : D → PR γ) : PR γ := match tab e.cls with
  | some b => k (.bool b)
  | none => .bad
def pfld {γ : Type} (l : List Str) (f : Str) (e : Exn) (k : D → PR γ) : PR γ := if l.contains e.cls = true then (match e.fs.lookup f with
  | some x => k x
  | none => .bad) else .bad
theorem re_tabF (tab : Str → Option Bool) (e : Exn) : RE 0 ms (eTabF tab e) (gTabF tab e) := by
  intro γ fr ρ env m K R nb
  unfold gTabF at nb ⊢
  unfold eTabF
  cases t : tab e.cls with
  | none => rw [t] at nb; exact absurd rfl nb
  | some b => exact EPost.ok (v := .v (.bool b)) R rfl rfl
def gFld (l : List Str) (f : Str) (e : Exn) : GEx := fun γ ρ K => if l.contains e.cls = true then (match e.fs.lookup f with
  | some x => K (.v x) ρ
  | none => .bad) else .bad
theorem re_fld (l : List Str) (f : Str) (e : Exn) : RE 0 ms (eFld l f e) (gFld l f e) := by
  intro γ fr ρ env m K R nb
  unfold gFld at nb ⊢
  unfold eFld
  by_cases h : l.contains e.cls = true
  · rw [if_pos h] at nb ⊢
    rw [if_pos h]
    cases t : e.fs.lookup f with
    | none => rw [t] at nb; exact absurd rfl nb
    | some x => exact EPost.ok (v := .v x) R rfl rfl
  · rw [if_neg h] at nb; exact absurd rfl nb
def gsRaise2 (x f1 f2 : Str) (ga gb : GEx) : GSx := fun γ ρ kn kb kc kr => ga γ ρ fun v1 ρ1 => gb γ ρ1 fun v2 ρ2 => match v1, v2 with
  | .v x1, .v x2 => .err ⟨x, [(f2, x2), (f1, x1)]⟩
  | _, _ => .bad
theorem rs_raise2 {x f1 f2 : Str} (ha : RE 0 ms fa ga) (hb : RE 0 ms fb gb) : RS sr ms (sRaise2 x f1 f2 (aCons fa (aCons fb aNil))) (gsRaise2 x f1 f2 ga gb) := by
  intro γ fr ρ env m kn kb kc kr R nb
  have e0 : gsRaise2 x f1 f2 ga gb γ ρ kn kb kc kr = ga γ ρ fun v1 ρ1 => gb γ ρ1 fun v2 ρ2 => match v1, v2 with
    | .v x1, .v x2 => .err ⟨x, [(f2, x2), (f1, x1)]⟩
    | _, _ => .bad := rfl
  rw [e0] at nb ⊢
  unfold sRaise2 aCons aNil
  rcases ha γ fr ρ env m _ R nb with ⟨w1, m1, v1, ρ1, e1, R1, h1, p1, a1⟩ | ⟨e, m1, e1, p1, R1⟩
  · rw [p1] at nb ⊢
    rw [e1]
    simp only [Res.bind_ok]
    dsimp only at nb ⊢
    rcases hb γ fr ρ1 env m1 _ R1 nb with ⟨w2, m2, v2, ρ2, e2, R2, h2, p2, a2⟩ | ⟨e, m2, e2, p2, R2⟩
    · rw [p2] at nb ⊢
      rw [e2]
      simp only [Res.bind_ok]
      dsimp only at nb ⊢
      cases v1 with
      | r i => exact absurd rfl nb
      | v x1 =>
        cases v2 with
        | r i => exact absurd rfl nb
        | v x2 =>
          have d1 : w1 = .d x1 := h1
          have d2 : w2 = .d x2 := h2
          subst d1
          subst d2
          exact SPo.later (a1.trans a2) (AgE.refl _ _) (.err _ env m2 (R2.wip (AgE.refl _ _)) rfl (AgE.refl _ _))
    · rw [p2, e2]
      exact SPo.later a1 (AgE.refl _ _) (.err e env m2 R2 rfl (AgE.refl _ _))
  · rw [p1, e1]
    exact .err e env m1 R1 rfl (AgE.refl _ _)
end
end
end M
set_option Elab.async false
set_option linter.all false
set_option maxRecDepth 100000
/-! M: lists of objects (lsw) -/
namespace M
open PySem L2
variable [HasW]
section
variable {X : Cx} {Wx : WX}
theorem paired_atI {α β : Type} {F : α → β → Prop} {l₁ : List α} {l₂ : List β} {i : Int} {b : β} (h : Paired F l₁ l₂) (e : L2.atI l₂ i = some b) : ∃ a, L2.atI l₁ i = some a ∧ F a b := by
  unfold L2.atI at e ⊢
  rw [Paired.length h]
  cases q : ixN l₂.length i with
  | none => rw [q] at e; cases e
  | some j =>
    rw [q] at e
    exact Paired.get h e
end
end M
set_option Elab.async false
set_option linter.all false
set_option maxRecDepth 100000
/-! M, P: max, min -/
namespace M
open PySem L2
variable [HasW]
section
variable {X : Cx} {Wx : WX}
def int2W (g : Int → Int → Int) (ws : List W) (m : Mem) : Res W := match ws with
  | [.d (.int i), .d (.int j)] => .ok (.d (.int (g i j))) m
  | _ => .bad
def maxI (i j : Int) : Int := if j > i then j else i
theorem int2W_ok {g : Int → Int → Int} : CallOk X Wx (fun xs H Q => ∃ i j, xs = [.int i, .int j] ∧ Q (.int (g i j)) H) (int2W g) := by
  intro σ G m vs ws H0 Q R r h
  unfold int2W at h
  split at h
  · rename_i i j
    cases r with
    | cons h1 t =>
      cases t with
      | cons h2 t =>
        cases t
        cases h1
        cases h2
        exact ⟨i, j, rfl, finD R h (.int _)⟩
  · exact False.elim h
def maxW2 := int2W maxI
theorem maxW2_ok : CallOk X Wx (fun xs H Q => ∃ i j, xs = [.int i, .int j] ∧ Q (.int (if j > i then j else i)) H) maxW2 := int2W_ok
end
def int2P (g : Int → Int → Int) (xs : List D) : PR D := match xs with
  | [.int i, .int j] => .ok (.int (g i j))
  | _ => .bad
theorem int2P_ok {g : Int → Int → Int} : CaP 0 (int2W g) (int2P g) := by
  intro m ws xs h
  unfold int2P
  split
  · rename_i i j
    cases h with
    | cons h1 t =>
      cases t with
      | cons h2 t =>
        cases t
        rcases h1 with rfl | ⟨ds, e, _⟩
        · rcases h2 with rfl | ⟨ds, e, _⟩
          · exact out_d
          · cases e
        · cases e
  · trivial
def maxP2 := int2P maxI
theorem maxP2_ok : CaP 0 maxW2 maxP2 := int2P_ok
end M
set_option Elab.async false
set_option linter.all false
set_option maxRecDepth 100000
/-! P: a new list handed over behind two values -/
namespace M
open PySem L2
end M
set_option Elab.async false
set_option linter.all false
set_option maxRecDepth 100000
set_option maxHeartbeats 4000000
namespace M
open PySem L2
/-! ### dicts with texts as keys: {}, k in d, d.get(k) -/
end M
set_option Elab.async false
set_option linter.all false
set_option maxRecDepth 100000
/-! P: dicts with texts as keys and data as values -/
namespace M
open PySem L2
end M
set_option Elab.async false
set_option linter.all false
set_option maxRecDepth 100000
/-! M: exceptions known to have no context; an except suite that raises; else -/
namespace M
open PySem L2
/-! ### else, where neither the body nor the suite ends by itself -/
end M
set_option Elab.async false
set_option linter.all false
set_option maxRecDepth 100000
/-! P: try / except x: raise x2 / else -/
namespace M
open PySem L2
variable [HasW]
noncomputable section
def tryXK {σ γ : Type} (tab : Str → Option Bool) (x2 : Str) (b : PR (TO σ)) (k : σ → PR γ) : PR γ := match b with
  | .ok (.nx s) => k s
  | .ok (.rt _ _) => .bad
  | .err e => (match tab e.cls with
    | some true => .err ⟨x2, []⟩
    | _ => .bad)
  | .bad => .bad
@[simp] theorem tryXK_ok {σ γ : Type} (tab : Str → Option Bool) (x2 : Str) (s : σ) (k : σ → PR γ) : tryXK tab x2 (.ok (.nx s)) k = k s := rfl
end
end M
set_option Elab.async false
set_option linter.all false
set_option maxRecDepth 100000
set_option maxHeartbeats 1000000
/-! M, P: max(list, default=d); int(text) -/
namespace M
open PySem L2
end M
set_option Elab.async false
set_option linter.all false
set_option maxRecDepth 100000
/-! M, P: text.find(sign, from) -/
namespace M
open PySem L2
end M
set_option Elab.async false
set_option linter.all false
set_option maxRecDepth 100000
set_option maxHeartbeats 1000000
/-! M, P: sorted(list, key=def) -/
namespace M
open PySem L2 PyProof.Rows PySem.W
variable [HasW]
def keysM (F : FF) : List D → Mem → Res (List D)
  | [], m => .ok [] m
  | d :: r, m => match F [.d d] m with
    | .ok (.d k) m1 => (keysM F r m1).bind fun ks m2 => .ok (k :: ks) m2
    | _ => .bad
def tupB : D → Bool
  | .tuple (_ :: _) => true
  | _ => false
def flatB : D → Bool
  | .none => false
  | .tuple _ => false
  | _ => true
def keysB (ks : List D) : Bool := (ks.all fun k => ks.all fun k' => alike k k') && (ks.all tupB || ks.all flatB) && ks.all fun k => decide (k.depth ≤ 100) && nD k
def sortByK (ks ds : List D) : List D := ((ks.zip ds).mergeSort (dataLe false fun p => p.1)).map (·.2)
theorem keysB_iff {ks : List D} (h : keysB ks = true) : AllAlike ks ∧ Sortable ks ∧ ∀ k ∈ ks, k.depth ≤ 100 ∧ nD k = true := by
  unfold keysB at h
  rw [Bool.and_eq_true, Bool.and_eq_true, Bool.or_eq_true] at h
  obtain ⟨⟨h1, h2⟩, h3⟩ := h
  refine ⟨fun d hd d' hd' => ?_, ?_, fun k hk => ?_⟩
  · exact List.all_eq_true.mp (List.all_eq_true.mp h1 d hd) d' hd'
  · rcases h2 with h2 | h2
    · refine .inl fun d hd => ?_
      have := List.all_eq_true.mp h2 d hd
      unfold tupB at this
      split at this
      · exact ⟨_, _, rfl⟩
      · cases this
    · refine .inr fun d hd => ?_
      have := List.all_eq_true.mp h2 d hd
      constructor
      · rintro rfl; cases this
      · rintro xs rfl; cases this
  · have := List.all_eq_true.mp h3 k hk
    rw [Bool.and_eq_true] at this
    exact ⟨of_decide_eq_true this.1, this.2⟩
theorem keysM_len {F : FF} : ∀ {ds : List D} {m : Mem} {ks : List D} {m' : Mem}, keysM F ds m = .ok ks m' → ks.length = ds.length
  | [], m, ks, m', h => by cases h; rfl
  | d :: r, m, ks, m', h => by
    unfold keysM at h
    split at h
    · cases e : keysM F r ‹Mem› with
      | ok ks2 m2 => rw [e] at h; cases h; rw [List.length_cons, List.length_cons, keysM_len e]
      | err _ _ => rw [e] at h; cases h
      | bad => rw [e] at h; cases h
    · cases h
theorem keysM_err {F : FF} : ∀ {ds : List D} {m : Mem} {e : Exn} {m' : Mem}, keysM F ds m ≠ .err e m'
  | [], m, e, m', h => by cases h
  | d :: r, m, e, m', h => by
    unfold keysM at h
    split at h
    · cases q : keysM F r ‹Mem› with
      | ok ks2 m2 => rw [q] at h; cases h
      | err _ _ => exact keysM_err q
      | bad => rw [q] at h; cases h
    · cases h
section
variable {X : Cx} {pins : List (Addr × Obj)} {σ : L2.St} {s : Shared} {F : FF} {f : Addr} {fd : FuncData} {ps : List Str} {k : Nat}
theorem vals_get {vs : List V} {us : List Value} (h : Vals vs us) : ∀ {i : Nat} {u : Value}, us[i]? = some u → ∃ v, vs[i]? = some v ∧ RelV v u := by
  induction h with
  | nil => intro i u e; simp at e
  | cons a t ih =>
    intro i u e
    cases i with
    | zero => simp at e; subst e; exact ⟨_, rfl, a⟩
    | succ i => obtain ⟨v, h1, h2⟩ := ih (i := i) (by simpa using e); exact ⟨v, by simpa using h1, h2⟩
theorem vals_snoc {vs : List V} {us : List Value} {v : V} {u : Value} (h : Vals vs us) (r : RelV v u) : Vals (vs ++ [v]) (us ++ [u]) := by
  induction h with
  | nil => exact .cons r .nil
  | cons a t ih => exact .cons a ih
/-- one key asked for -/
theorem key_turn (hF : FnOk X.prog X.w X.K X.mg X.base (L2.CX X.prog X.w) k f fd ps (SpM X.K X.mg 1 F)) (hr : Room k X.A.in1.in1) (hb : Binds X.K fd ps []) {G : Wd} {m m1 : Mem} {v : V} {u : Value} {d kd : D} (I : Inv X pins σ G.H s) (R : RelM X.K G m) (r : RelV v u) (rp : Rep X.K G.lv G.H v d) (e : F [.d d] m = .ok (.d kd) m1)
    {E : Value → Shared → Prop} : wpAny (model X.prog X.w) X.A.in1.in1 (call (.ref f) [u]) (fun w s' => ∃ v' G', Inv X pins σ G'.H s' ∧ Un (frs X.stack) [] G.H G'.H s.heap s'.heap ∧ Le G G' ∧ RelM X.K G' m1 ∧ RelV v' w ∧ Rep X.K G'.lv G'.H v' kd) E s := by
  have h : SpM X.K X.mg 1 F [v] G.H (fun v' H' => ∃ G', G'.H = H' ∧ Le G G' ∧ RelM X.K G' m1 ∧ Rep X.K G'.lv G'.H v' kd) (fun _ _ _ => False) := by
    refine ⟨G, [.d d], m, rfl, R, .cons rp .nil, rfl, ?_⟩
    rw [e]
    exact fun v' G' le R' q => ⟨G', rfl, le, R', q⟩
  have r2 : Vals [v] [u] := .cons r .nil
  have hl : ([u] ++ []).length = ps.length := by have := hF.len _ _ _ _ h; simpa using this
  refine wpAny_call (codeAny_mono (hF.run X.A.in1.in1 X.stack s G.H ⟨[u], []⟩ [u] [v] _ _ hr I.env0.in1.in1 (by simpa using hb s [u] I.kIn hl) r2 h) fun rr s' hq => ?_)
  cases rr with
  | error e =>
    obtain ⟨_, _, _, _, _, _, _, _, _, _, _, _, z⟩ := hq
    exact z.elim
  | ok fl =>
    cases fl with
    | ret w =>
      obtain ⟨v', H', os, bare, un, hok, rv, G', rfl, le, R', rp'⟩ := id hq
      obtain ⟨hh, g, dd, t, os'⟩ := s'
      obtain rfl : os' = s.os := os
      exact ⟨v', G', I.call (h' := hh) (g' := g) (d' := dd) (t' := t) (ch := []) un hok bare (fun b z => absurd z (by simp)), un, le, R', rv, rp'⟩
    | next => exact False.elim hq
    | brk => exact False.elim hq
    | cont => exact False.elim hq
theorem each_ofM {R : Value → D → Prop} {K : PySem.W.Frag} {lv : List Addr} {H : Hp} : ∀ {vs : List V} {us : List Value} {ds : List D}, (∀ v u d, d ∈ ds → RelV v u → Rep K lv H v d → R u d) → Vals vs us → Reps K lv H vs ds → EachIs R us ds
  | _, _, _, _, .nil, .nil => .nil
  | _, _, _, hR, .cons a t, .cons b r => .cons (hR _ _ _ List.mem_cons_self a b) (each_ofM (fun v u d hd => hR v u d (List.mem_cons_of_mem _ hd)) t r)
theorem each_zip {K : PySem.W.Frag} {lv : List Addr} {H : Hp} : ∀ {vs : List V} {us : List Value} {ds ks : List D}, Vals vs us → Reps K lv H vs ds → ks.length = ds.length → EachIs (fun u (p : D × D) => ∃ x, RelV x u ∧ Rep K lv H x p.2) us (ks.zip ds)
  | _, _, _, [], .nil, .nil, _ => .nil
  | _, _, _, k :: ks, .cons a t, .cons b r, h => .cons ⟨_, a, b⟩ (each_zip t r (by simpa using h))
  | _, _, _, [], .cons a t, .cons b r, h => by cases h
  | _, _, _, k :: ks, .nil, .nil, h => by cases h
theorem each_back {K : PySem.W.Frag} {lv : List Addr} {H : Hp} {us : List Value} {ps : List (D × D)} (h : EachIs (fun u (p : D × D) => ∃ x, RelV x u ∧ Rep K lv H x p.2) us ps) : ∃ xs : List V, Vals xs us ∧ Reps K lv H xs (ps.map (·.2)) := by
  induction h with
  | nil => exact ⟨[], .nil, .nil⟩
  | cons a t ih =>
    obtain ⟨x, h1, h2⟩ := a
    obtain ⟨xs, h3, h4⟩ := ih
    exact ⟨x :: xs, .cons h1 h3, .cons h2 h4⟩
theorem fp_frs {H : Hp} {b : Addr} {s : Shared} {H' : Hp} (I : Inv X pins σ H' s) (f : FpOk X pins H b) : b ∉ frs X.stack := fun z => by
  rcases List.mem_cons.mp (I.stkSub b z) with e | e
  · exact f.2.1 e
  · exact f.2.2.1 e
theorem fp_re {H H' : Hp} {b : Addr} (f : FpOk X pins H b) (h : H' b = none) : FpOk X pins H' b := ⟨h, f.2⟩
theorem sortK_rest (hF : FnOk X.prog X.w X.K X.mg X.base (L2.CX X.prog X.w) k f fd ps (SpM X.K X.mg 1 F)) (hr : Room k X.A.in1.in1) (hb : Binds X.K fd ps []) {a kS : Addr} {G : Wd} {m mf : Mem} {vs : List Value} {xs : List V} {ds ks : List D} {e1 : Nat}
    (I : Inv X pins σ G.H s) (R : RelM X.K G m) (fa : FpOk X pins G.H a) (fk : FpOk X pins G.H kS) (nk : s.heap.get? kS = some (seqObj "list" #[] 0)) (na : s.heap.get? a = some (seqObj "list" #[] e1)) (hka : kS ≠ a)
    (rv : Vals xs vs) (rp : Reps X.K G.lv G.H xs ds) (ek : keysM F ds m = .ok ks mf) (hB : keysB ks = true) (hZ : vs.length ≤ sizeLine) (hu : X.A.in1.in1.units + 100 < cLine) {P : PySem.Fin → Shared → Prop} {E : Value → Shared → Prop}
    (h : ∀ (xs' : List V) (G' : Wd) (s' : Shared), Le G G' → RelM X.K G' mf → a ∉ G'.io → a ∈ G'.lv → G'.H a = some (.lst xs') → Reps X.K G'.lv G'.H xs' (sortByK ks ds) → Inv X pins σ G'.H s' → P (.done (.ret .none)) s') :
    wpAny (model X.prog X.w) X.A.in1.in1 (ksk_rest a (.ref f) false vs.toArray e1 (.ref kS)) P E s := by
  obtain ⟨hal, hsk, hdp⟩ := keysB_iff hB
  have hkl := keysM_len ek
  have hdl : xs.length = ds.length := rp.length
  have hvl : xs.length = vs.length := rv.length
  unfold ksk_rest
  refine wpAny_bind (wpAny_rule ?_)
  first
    | rw [List.forIn_toArray]
    | (rw [← Array.forIn_toList]; simp only [List.toList_toArray])
    | rw [← Array.forIn_toList]
  refine wpAny_bind (ksk_fold (fun i s' => ∃ (G' : Wd) (m' : Mem) (kA : Array Value) (e : Nat) (kvs : List V), Inv X pins σ G'.H s' ∧ Le G G' ∧ RelM X.K G' m' ∧ G'.H a = none ∧ G'.H kS = none ∧ s'.heap.get? kS = some (seqObj "list" kA e) ∧ s'.heap.get? a = some (seqObj "list" #[] e1) ∧ Vals kvs kA.toList ∧ Reps X.K G'.lv G'.H kvs (ks.take i) ∧ keysM F (ds.drop i) m' = .ok (ks.drop i) mf) vs 0 s
    ⟨G, m, #[], 0, [], I, Le.refl R, R, fa.1, fk.1, nk, na, .nil, by rw [List.take_zero]; exact .nil, ek⟩ ?step ?done)
  case step =>
    rintro j x s' hx ⟨G', m', kA, e, kvs, I', le', R', ha0, hk0, nk', na', rk, rpk, ek'⟩
    simp only [Nat.zero_add] at rpk ek' ⊢
    have hj : j < vs.length := (List.getElem?_eq_some_iff.mp hx).1
    obtain ⟨v, hv, rvx⟩ := vals_get rv hx
    obtain ⟨d, hd, rpx⟩ := Reps.get' rp hv
    have ed : ds.drop j = d :: ds.drop (j + 1) := by
      obtain ⟨hl, hz⟩ := List.getElem?_eq_some_iff.mp hd
      rw [← hz]
      exact List.drop_eq_getElem_cons hl
    rw [ed] at ek'
    unfold keysM at ek'
    split at ek'
    · rename_i kd m1 eF
      cases er : keysM F (ds.drop (j + 1)) m1 with
      | ok ks2 m2 =>
        rw [er] at ek'
        have ek2 : Res.ok (kd :: ks2) m2 = .ok (ks.drop j) mf := ek'
        injection ek2 with q1 q2
        subst q2
        have hjk : j < ks.length := by omega
        have edk : ks.drop j = ks[j] :: ks.drop (j + 1) := List.drop_eq_getElem_cons hjk
        rw [edk] at q1
        injection q1 with q3 q4
        have hz : kA.size ≤ vs.length := by
          have h1 : kvs.length = kA.toList.length := rk.length
          have h2 := rpk.length
          have h3 : kA.toList.length = kA.size := Array.length_toList
          rw [List.length_take] at h2
          omega
        refine wpAny_bind (wpAny_attempt (wpAny_mono (key_turn hF hr hb I' R' rvx (rpx.mono le'.mo) eF (E := fun _ _ => False)) (fun w s'' he => ?_) fun _ _ hF => hF.elim))
        obtain ⟨v', G2, I2, un, le2, R2, rv2, rp2⟩ := he
        try dsimp only
        have a2 : s''.heap.get? a = some (seqObj "list" #[] e1) := un.keep a _ na' ha0 (fp_frs I' fa) (by simp)
        have k2 : s''.heap.get? kS = some (seqObj "list" kA e) := un.keep kS _ nk' hk0 (fp_frs I' fk) (by simp)
        have a0 : G2.H a = none := un.free a _ na' ha0 (by simp)
        have k0 : G2.H kS = none := un.free kS _ nk' hk0 (by simp)
        have s1 := Heap.SameBut.update s''.heap kS (Obj.mapSeq (·.push w))
        obtain ⟨c2, hc2⟩ : ∃ c2, (s''.heap.update kS (Obj.mapSeq (·.push w))).get? kS = some (seqObj "list" (kA.push w) c2) := ⟨_, get?_update_seq k2 (·.push w)⟩
        refine wpAny_bind (listUpdate_at k2 rfl ?_ (Nat.le_trans hz hZ) (Nat.le_trans (Nat.le_of_eq (Array.size_push ..)) (Nat.succ_le_succ (Nat.le_trans hz hZ))))
        obtain ⟨f1, f2, f3, f4, f5, f6⟩ := fk
        have I3 := I2.turned (t' := s''.toks) (it := kS) (h' := s''.heap.update kS (Obj.mapSeq (·.push w))) (fun b o hb e => (s1.2 b hb).trans e) k0 f2 f4 f5 f6
        have ek3 : ks.take (j + 1) = ks.take j ++ [kd] := by rw [List.take_add_one, List.getElem?_eq_getElem hjk, q3]; simp
        refine wpAny_pure ⟨rfl, G2, m1, kA.push w, c2, kvs ++ [v'], I3, le'.trans le2, R2, a0, k0, hc2, (s1.2 a hka.symm).trans a2, ?_, ?_, ?_⟩
        · rw [show (kA.push w).toList = kA.toList ++ [w] by simp]
          exact vals_snoc rk rv2
        · rw [ek3]
          exact (rpk.mono le2.mo).append (.one rp2)
        · rw [er, q4]
      | err _ _ => rw [er] at ek'; cases ek'
      | bad => rw [er] at ek'; cases ek'
    · cases ek'
  case done =>
    rintro s' ⟨G', m', kA, e, kvs, I', le', R', ha0, hk0, nk', na', rk, rpk, ek'⟩
    simp only [Nat.zero_add] at rpk ek'
    rw [List.take_of_length_le (by omega)] at rpk
    rw [List.drop_of_length_le (by omega), List.drop_of_length_le (by omega)] at ek'
    have ek2 : Res.ok ([] : List D) m' = .ok [] mf := ek'
    injection ek2 with _ q2
    subst q2
    have hsz : kA.size = vs.length := by
      have h1 : kvs.length = kA.toList.length := rk.length
      have h2 := rpk.length
      have h3 : kA.toList.length = kA.size := Array.length_toList
      omega
    have each : EachIs (fun u d => ∃ as, Reads s'.heap u d as) kA.toList ks := each_ofM (fun v u d hd r1 r2 => Dp.reads I' d v u (r2.dp (hdp d hd).2) r1) rk rpk
    try dsimp only
    refine wpAny_bind (listItems_at nk' rfl ?_)
    obtain ⟨h₁, g1, g2⟩ := restrict s'.heap fun b => decide (b ≠ kS)
    have gk : ∀ b, b ≠ kS → h₁.get? b = s'.heap.get? b := fun b hb => g1 b (decide_eq_true hb)
    have g0 : h₁.get? kS = none := g2 kS (decide_eq_false fun z => z rfl)
    have kp : KeepsBut a h₁ s'.heap := fun b o hb e => by
      by_cases hz : b = kS
      · rw [hz, g0] at e; cases e
      · rw [← gk b hz]; exact e
    refine keyH_end (b := false) (κ := dataKind s'.heap ks) (h₁ := h₁) kp g0 nk' na' hka (SortsAt.data each hal hsk (fun d hd => by have := (hdp d hd).1; omega)) hsz hZ fun h' tk c k3 n3 => ?_
    have eo := keyedOut_each (rev := false) (k := fun p : D × D => p.1) (bs := ks.zip ds) (vs := vs) (out := sortVals (dataKind s'.heap ks) false kA.toList vs) (by
      rw [List.map_fst_zip (by omega)]
      exact ⟨s'.heap, kA.toList, hal, rfl, each⟩) (each_zip rv (rp.mono le'.mo) hkl)
    obtain ⟨xs', rx, rpx⟩ := each_back eo
    have olen : xs'.length ≤ sizeLine := by
      have h1 := rx.length
      have h2 : (sortVals (dataKind s'.heap ks) false kA.toList vs).length = vs.length := sortVals_length false (by rw [Array.length_toList]; exact hsz)
      omega
    have I4 := I'.turnedL (t' := tk) (h' := h') (ch := [kS, a]) (fun b o hb e => by
      simp only [List.mem_cons, List.not_mem_nil, or_false, not_or] at hb
      exact k3 b o hb.2 (by rw [gk b hb.1]; exact e)) (fun b hb => by
      simp only [List.mem_cons, List.not_mem_nil, or_false] at hb
      rcases hb with rfl | rfl
      · exact fp_re fk hk0
      · exact fp_re fa ha0)
    have I5 := I4.take (t' := tk) (h' := h') (it := a) (o := .lst xs') (fun b ob _ e => e) (fp_re fa ha0) ⟨olen, _, c, rx, n3⟩
    exact h xs' ⟨G'.io, a :: G'.lv, upd G'.H a (.lst xs')⟩ _ (le'.trans (Le.newL R' ha0)) (R'.newL ha0) (R'.ne ha0).1 List.mem_cons_self upd_same (rpx.mono (Le.newL R' ha0).mo) I5
def rSortK (X : Cx) (F : FF) (f : Addr) : List V → List V → Hp → VK → Prop := fun vs zs H Q => ∃ (a0 : Addr) (xs : List V) (ds ks : List D) (G : Wd) (m mf : Mem), vs = [.ref a0] ∧ zs = [.ref f] ∧ G.H = H ∧ RelM X.K G m ∧ SqL X.K G.H a0 xs ∧ Reps X.K G.lv G.H xs ds ∧ keysM F ds m = .ok ks mf ∧ keysB ks = true ∧
  ∀ v G', Le G G' → RelM X.K G' mf → RepR X.K G.H G' v (.fl (sortByK ks ds)) → Q v G'.H
theorem crk_sortK (hF : FnOk X.prog X.w X.K X.mg X.base (L2.CX X.prog X.w) k f fd ps (SpM X.K X.mg 1 F)) (hr : Room k X.A.in1.in1) (hb : Binds X.K fd ps []) : L2.CallRK X (.builtin "sorted") [Str.ofString "key"] (rSortK X F f) := by
  intro pins s σ H vs zs us ws Q I r rz h
  obtain ⟨a0, xs, ds, ks, G, m, mf, rfl, rfl, rfl, R, hs, rp, ek, hB, hQ⟩ := h
  obtain rfl := Vals.ref1 r
  obtain rfl := Vals.ref1 rz
  obtain ⟨its, rv, hl, hz⟩ := I.list hs
  have hz' : its.length ≤ sizeLine := by have : xs.length = its.length := rv.length; omega
  refine sorted_of_sort hl.isList hz' (ksk_s1 _ _) (fun x => ksk_l1 _ _) fun E' => ?_
  show wpAny _ _ (Builtin.«list.sort» ⟨[.ref (s.heap.objs.size + 1)], [(Str.ofString "key", .ref f)]⟩) _ _ _
  rw [ksk_t1]
  have ho := copyHeap_at s.heap its
  obtain ⟨e1, ho1⟩ : ∃ e1, ((copyHeap s.heap its).update (s.heap.objs.size + 1) (Obj.mapSeq fun _ => (#[] : Array Value))).get? (s.heap.objs.size + 1) = some (seqObj "list" #[] e1) := ⟨_, get?_update_seq ho fun _ => #[]⟩
  have hsz0 : (copyHeap s.heap its).objs.size = s.heap.objs.size + 2 := by
    unfold copyHeap
    rw [size_push', Heap.size_update, size_push']
  have hkS : (((copyHeap s.heap its).update (s.heap.objs.size + 1) (Obj.mapSeq fun _ => (#[] : Array Value))).push (seqObj "tuple" its.toArray 0)).objs.size = s.heap.objs.size + 3 := by rw [size_push', Heap.size_update, hsz0]
  unfold ksk_tree
  refine wpAny_bind (listItems_at ho rfl ?_)
  refine wpAny_bind (listUpdate_at ho rfl ?_ (by rw [List.size_toArray]; exact hz') (Nat.zero_le _))
  refine wpAny_bind (seqEpoch_at ho1 rfl ?_)
  refine wpAny_bind (wpAny_newTuple ?_ (by show its.length ≤ _; exact hz'))
  refine wpAny_bind (wpAny_newList ?_ (Nat.zero_le _))
  refine wpAny_holding ?_
  have keep : ∀ b u, s.heap.get? b = some u → ((((copyHeap s.heap its).update (s.heap.objs.size + 1) (Obj.mapSeq fun _ => (#[] : Array Value))).push (seqObj "tuple" its.toArray 0)).push (seqObj "list" #[] 0)).get? b = some u := fun b u e => by
    refine Heap.get?_push_of_some _ (Heap.get?_push_of_some _ ?_)
    rw [Heap.get?_update_ne _ _ _ _ (Nat.ne_of_lt (Nat.lt_succ_of_lt (Heap.lt_size e)))]
    exact copyHeap_old e
  have I2 : Inv X pins σ G.H { s with heap := (((copyHeap s.heap its).update (s.heap.objs.size + 1) (Obj.mapSeq fun _ => (#[] : Array Value))).push (seqObj "tuple" its.toArray 0)).push (seqObj "list" #[] 0), toks := s.toks } := I.kept keep
  have fa : FpOk X pins G.H (s.heap.objs.size + 1) := I.fpOk (Nat.le_succ _) (I.hok.fresh (Nat.le_succ _))
  have fk : FpOk X pins G.H (s.heap.objs.size + 3) := I.fpOk (by omega) (I.hok.fresh (by omega))
  have hun := hr.un
  refine sortK_rest (kS := (((copyHeap s.heap its).update (s.heap.objs.size + 1) (Obj.mapSeq fun _ => (#[] : Array Value))).push (seqObj "tuple" its.toArray 0)).objs.size) hF hr hb I2 R fa (by rw [hkS]; exact fk) (Heap.get?_push_size _ rfl) (Heap.get?_push_of_some _ (Heap.get?_push_of_some _ ho1)) (by rw [hkS]; show ¬ (s.heap.objs.size + 3 = s.heap.objs.size + 1); omega) rv rp ek hB hz' (by omega) fun xs' G' s' le R' n1 n2 n3 n4 I' => ⟨rfl, ?_⟩
  exact ⟨.ref (s.heap.objs.size + 1), G'.H, I', rfl, hQ _ G' le R' ⟨s.heap.objs.size + 1, xs', rfl, fa.1, n1, n2, n3, n4⟩⟩
variable {Wx : WX}
def sortW (F : FF) (ws : List W) (m : Mem) : Res W := match ws with
  | [w] => match asL w m with
    | some ds => (keysM F ds m).bind fun ks m1 => if keysB ks = true then .ok (.fl (sortByK ks ds)) m1 else .bad
    | none => .bad
  | _ => .bad
theorem me_sortK {x : Str} {p pos kp kp2 : Pos} {e : Expr} {g : AF} (hF : FnOk X.prog X.w X.K X.mg X.base (L2.CX X.prog X.w) k f fd ps (SpM X.K X.mg 1 F)) (hr : Room (k + 2) X.A) (hm : X.mg x = some (.ref f)) (hb : Binds X.K fd ps []) (hg : Gl X x)
    (hs : Gl X "sorted") (hms : X.mg "sorted" = none) (ha : MA X Wx [e] g) (hdb : (x == ("__debug__" : Str)) = false := by decide)
    (he : backTo pos (starEach [e] X.env) = (false, eval e X.env) :: backTo pos (starEach [] X.env) := by rfl) (hpl : (backTo pos (starEach [e] X.env)).any (·.1) = false := by rfl) :
    ME X Wx (.Call (.Name "sorted" p) [e] [⟨some (Str.ofString "key"), .Name x kp, kp2⟩] pos) (eCall (sortW F) g) := by
  obtain ⟨t, pa, qa⟩ := ha
  have pc : PE X (.Name x kp) (tC (.ref f)) := pe_glob hg hm rfl hdb
  refine ⟨_, L2.pe_callBK (crk_sortK hF hr.in1.in1 hb) hs hms (by decide +kernel) pa (pk_cons pc pk_nil) (by decide) (by decide) he hpl, fun env m σ G Q S R h => qa env m σ G _ S R (GPost.bind weakR h fun ws m1 vs G1 le1 R1 q1 h1 => ?_)⟩
  unfold sortW at h1
  split at h1
  · rename_i w
    obtain ⟨v, rfl, r0⟩ := paired1 q1
    cases ea : asL w m1 with
    | none => simp only [ea] at h1; exact False.elim h1
    | some ds =>
      simp only [ea] at h1
      obtain ⟨a, us, rfl, g1, g2⟩ := asL_sq R1 r0 ea
      cases ek : keysM F ds m1 with
      | ok ks m2 =>
        rw [ek, Res.bind_ok] at h1
        by_cases hB : keysB ks = true
        · rw [if_pos hB] at h1
          exact ⟨a, us, ds, ks, G1, m1, m2, rfl, rfl, rfl, R1, g1, g2, ek, hB, fun v G' le R' q => h1 v G' le R' q⟩
        · rw [if_neg hB] at h1
          exact False.elim h1
      | err _ _ => exact absurd ek keysM_err
      | bad => rw [ek] at h1; exact False.elim h1
  · exact False.elim h1
end
/-! ### P level -/
theorem sp_key {F : FF} {sl : Nat} {G : GFn} (h : SpG F sl G) {m : Mem} {x d : D} (hcl : ∀ (j : Nat) (o : O), m[j]? = some o → okO m.length o = true) {P : PR D}
    (hW : ∀ (γ : Type) (K : D → List (Nat × UV) → PR γ), G γ [.d d] K = P.bind fun r => K r []) (hP : P = .ok x) : ∃ w, F [.d d] m = .ok w m ∧ ∀ fr, VW fr sl w x := by
  obtain ⟨K, hK⟩ : ∃ K : D → List (Nat × UV) → PR D, K = fun x _ => .ok x := ⟨_, rfl⟩
  have hg := hW _ K
  rw [hP, PR.bind_ok] at hg
  have hr : mrefs [AV.d d] = [] := rfl
  rcases h _ m [.d d] [.d d] (fun _ => []) K hcl (.cons rfl .nil) (by rw [hr]; simp) (fun i hi => by rw [hr] at hi; cases hi) (by rw [hg, hK]; intro z; cases z) with ⟨w, m', x', us, e1, e2, e3, e4, e5, e6⟩ | ⟨e, m', e1, e2, e3⟩
  · rw [hg, hK] at e3
    have e3 : x = x' := by injection e3
    subst e3
    have em : m' = m := List.ext_getElem? fun j => e6.get j fun i hi => by rw [hr] at hi; cases hi
    subst em
    exact ⟨w, e1, e2⟩
  · rw [hg, hK] at e2
    cases e2
noncomputable section
def nlB : D → Bool
  | .list _ => false
  | _ => true
def keysP (Pf : D → PR D) : List D → PR (List D)
  | [] => .ok []
  | d :: r => (Pf d).bind fun k => if nlB k = true then (keysP Pf r).bind fun ks => .ok (k :: ks) else .bad
def noEr {α : Type} (r : PR α) : PR α := match r with
  | .err _ => .bad
  | r => r
def sortKP (Pf : D → PR D) (xs : List D) : PR D := match xs with
  | [.list ds] => (noEr (keysP Pf ds)).bind fun ks => if keysB ks = true then .ok (.list (sortByK ks ds)) else .bad
  | _ => .bad
end
theorem keysP_ok {F : FF} {G : GFn} {Pf : D → PR D} (hF : SpG F 2 G) (hW : ∀ (γ : Type) (d : D) (K : D → List (Nat × UV) → PR γ), G γ [.d d] K = (Pf d).bind fun r => K r []) {m : Mem} (hcl : ∀ (j : Nat) (o : O), m[j]? = some o → okO m.length o = true) : ∀ {ds ks : List D}, keysP Pf ds = .ok ks → keysM F ds m = .ok ks m
  | [], ks, h => by cases h; rfl
  | d :: r, ks, h => by
    unfold keysP at h
    cases e : Pf d with
    | ok kd =>
      rw [e, PR.bind_ok] at h
      by_cases hn : nlB kd = true
      · rw [if_pos hn] at h
        cases e2 : keysP Pf r with
        | ok ks2 =>
          rw [e2, PR.bind_ok] at h
          cases h
          obtain ⟨w, q1, q2⟩ := sp_key hF hcl (fun γ K => hW γ d K) e
          have q2 := q2 ⟨[], fun _ => []⟩
          have hw : w = .d kd := by
            rcases q2 with q | ⟨ds, q, _⟩
            · exact q
            · rw [q] at hn; cases hn
          subst hw
          unfold keysM
          rw [q1]
          dsimp only
          rw [keysP_ok hF hW hcl e2]
          rfl
        | err _ => rw [e2] at h; cases h
        | bad => rw [e2] at h; cases h
      · rw [if_neg hn] at h; cases h
    | err _ => rw [e] at h; cases h
    | bad => rw [e] at h; cases h
theorem sortKP_ok {F : FF} {G : GFn} {Pf : D → PR D} (hF : SpG F 2 G) (hW : ∀ (γ : Type) (d : D) (K : D → List (Nat × UV) → PR γ), G γ [.d d] K = (Pf d).bind fun r => K r []) {m : Mem} (hcl : ∀ (j : Nat) (o : O), m[j]? = some o → okO m.length o = true) {ws : List W} {xs : List D} (h : Sees m ws xs) : Out 1 m (sortW F ws m) (sortKP Pf xs) := by
  unfold sortKP
  split
  · rename_i ds
    obtain ⟨w, rfl, hw⟩ := sees1 h
    have e1 := see_asL hw
    cases e : keysP Pf ds with
    | ok ks =>
      simp only [noEr, PR.bind_ok]
      by_cases hB : keysB ks = true
      · rw [if_pos hB]
        refine ⟨.fl (sortByK ks ds), ?_, fun fr => rfl⟩
        unfold sortW
        simp only [e1, keysP_ok hF hW hcl e, Res.bind_ok, if_pos hB]
      · rw [if_neg hB]; trivial
    | err _ => trivial
    | bad => trivial
  · trivial
theorem re_sortK {F : FF} {G : GFn} {Pf : D → PR D} {ss : List Nat} {ms : List Bool} {h : AF} {k : GAx} (hF : SpG F 2 G) (hW : ∀ (γ : Type) (d : D) (K : D → List (Nat × UV) → PR γ), G γ [.d d] K = (Pf d).bind fun r => K r []) (ha : RA ss ms h k) : RE 1 ms (eCall (sortW F) h) (gCa (sortKP Pf) k) := by
  intro γ fr ρ env m K R nb
  refine APost.bind nb (ha γ fr ρ env m _ R nb) fun ws m1 vs ρ1 R1 h1 a1 nb1 => ?_
  cases e1 : gress ρ1 vs with
  | none => rw [e1] at nb1; exact absurd rfl nb1
  | some xs =>
    rw [e1] at nb1
    exact EPost.out R1 (sortKP_ok hF hW R1.cm (rvals_see R1 h1 e1)) nb1
end M
set_option Elab.async false
set_option linter.all false
set_option maxRecDepth 100000
/-! M: dicts with data as keys -/
namespace M
open PySem L2 PySem.W PyProof.Rows
/-! ### keys -/
/-! ### look-ups -/
/-! ### the dict as the library's: texts as keys -/
end M
set_option Elab.async false
set_option linter.all false
set_option maxRecDepth 100000
set_option maxHeartbeats 1000000
/-! M: dicts with data as keys: the library's rules -/
namespace M
open PySem L2 PySem.W PyProof.Rows
variable [HasW]
def KDr (K : PySem.W.Frag) (lv : List Addr) (H : Hp) (a : Addr) (kvv : List (D × V)) : Prop :=
  ∃ o es, (H a = some (PinO a o) ∨ K.lookup a = some o) ∧ DObj a o es ∧ EntV K lv H es kvv ∧ (kvv.map (·.1)).Nodup
def KDw (K : PySem.W.Frag) (lv : List Addr) (H : Hp) (a : Addr) (kvv : List (D × V)) : Prop :=
  ∃ o es, H a = some (PinO a o) ∧ DObj a o es ∧ EntV K lv H es kvv ∧ (kvv.map (·.1)).Nodup
theorem KDw.r {K : PySem.W.Frag} {lv : List Addr} {H : Hp} {a : Addr} {kvv : List (D × V)} (h : KDw K lv H a kvv) : KDr K lv H a kvv := by
  obtain ⟨o, es, h1, h2⟩ := h
  exact ⟨o, es, .inl h1, h2⟩
end M
set_option Elab.async false
set_option linter.all false
set_option maxRecDepth 100000
set_option maxHeartbeats 1000000
/-! M: dicts with data as keys: operations -/
namespace M
open PySem L2 PySem.W PyProof.Rows
end M
set_option Elab.async false
set_option linter.all false
set_option maxRecDepth 100000
set_option maxHeartbeats 1000000
/-! M: dicts with data as keys: walks -/
namespace M
open PySem L2 PySem.W PyProof.Rows
end M
set_option Elab.async false
set_option linter.all false
set_option maxRecDepth 100000
set_option maxHeartbeats 1000000
/-! M: sorted(d, key=def), list(d.values()) -/
namespace M
open PySem L2 PySem.W PyProof.Rows
end M
set_option Elab.async false
set_option linter.all false
set_option maxRecDepth 100000
set_option maxHeartbeats 1000000
/-! M: list(d.values()); a dict frozen; pairs with an object; try that meets no exception -/
namespace M
open PySem L2 PySem.W PyProof.Rows
variable [HasW]
/-! ### list(d.values()) -/
/-! ### what is frozen: a dict and what it holds become data -/
theorem view_kind {n : Nat} {m : Mem} : ∀ (f : Nat) {w : W} {d : D} {js : List Nat}, viewM n m f w = some (d, js) → ∀ j ∈ js, (∃ ds, m[j]? = some (.lst ds)) ∨ ∃ kvs, m[j]? = some (.dcn kvs) := by
  intro f
  induction f with
  | zero =>
    intro w d js e
    cases w with
    | d x => cases e; intro j hj; cases hj
    | _ => simp [viewM] at e
  | succ f ih =>
    intro w d js e
    cases w with
    | d x => cases e; intro j hj; cases hj
    | obj j =>
      simp only [viewM] at e
      split at e
      · cases e
      · cases eo : m[j]? with
        | none => rw [eo] at e; cases e
        | some o =>
          rw [eo] at e
          cases o with
          | lst ds => cases e; intro k hk; rw [List.mem_singleton.mp hk]; exact .inl ⟨ds, eo⟩
          | dcn kvs =>
            dsimp only at e
            cases ev : viewsM (viewM n m f) kvs with
            | none => rw [ev] at e; cases e
            | some p =>
              obtain ⟨ds, ks⟩ := p
              rw [ev] at e
              cases e
              have go : ∀ (kvs : List (D × W)) (ds : List (D × D)) (ks : List Nat), viewsM (viewM n m f) kvs = some (ds, ks) → ∀ j ∈ ks, (∃ ds, m[j]? = some (.lst ds)) ∨ ∃ kvs, m[j]? = some (.dcn kvs) := by
                intro kvs
                induction kvs with
                | nil => intro ds ks e; cases e; intro j hj; cases hj
                | cons p r ihr =>
                  intro ds ks e
                  simp only [viewsM] at e
                  split at e
                  · rename_i d1 j1 e1
                    split at e
                    · rename_i d2 j2 e2
                      cases e
                      intro j hj
                      rcases List.mem_append.mp hj with z | z
                      · exact ih e1 j z
                      · exact ihr _ _ e2 j z
                    · cases e
                  · cases e
              intro k hk
              rcases List.mem_cons.mp hk with rfl | hk
              · exact .inr ⟨kvs, eo⟩
              · exact go _ _ _ ev k hk
          | _ => cases e
    | _ => simp [viewM] at e
def killM (js : List Nat) (m : Mem) : Mem := js.foldl (fun m j => m.set j .dead) m
theorem killM_len : ∀ (js : List Nat) (m : Mem), (killM js m).length = m.length
  | [], m => rfl
  | j :: js, m => by
    show (killM js (m.set j .dead)).length = _
    rw [killM_len js, List.length_set]
theorem killM_get : ∀ (js : List Nat) (m : Mem) (i : Nat), (i ∉ js → (killM js m)[i]? = m[i]?) ∧ (i ∈ js → i < m.length → (killM js m)[i]? = some .dead)
  | [], m, i => ⟨fun _ => rfl, fun h => by cases h⟩
  | j :: js, m, i => by
    obtain ⟨h1, h2⟩ := killM_get js (m.set j .dead) i
    refine ⟨fun h => ?_, fun h hl => ?_⟩
    · rw [List.mem_cons, not_or] at h
      show (killM js (m.set j .dead))[i]? = _
      rw [h1 h.2, List.getElem?_set_ne (fun z => h.1 z.symm)]
    · show (killM js (m.set j .dead))[i]? = _
      by_cases hi : i ∈ js
      · exact h2 hi (by rw [List.length_set]; exact hl)
      · rcases List.mem_cons.mp h with z | z
        · subst z
          rw [h1 hi, List.getElem?_set_self hl]
        · exact absurd z hi
def fzE (i : Nat) (env : Env) (m : Mem) : Option (Env × Mem) := match env[i]? with
  | some (some w) => match viewM 0 m 4 w with
    | some (d, js) => some (env.set i (some (.d d)), killM js m)
    | none => none
  | _ => none
def sFz (i : Nat) (g : SF) (env : Env) (m : Mem) : SRes := match fzE i env m with
  | some (e, m') => g e m'
  | none => .bad
section
variable {K : PySem.W.Frag}
open Classical in
noncomputable def Wd.kill (G : Wd) (js : List Nat) : Wd := ⟨G.io, G.lv.filter (fun a => decide (∀ j ∈ js, G.io[j]? ≠ some a)), G.H⟩
theorem mem_kill {G : Wd} {js : List Nat} {a : Addr} : a ∈ (G.kill js).lv ↔ a ∈ G.lv ∧ ∀ j ∈ js, G.io[j]? ≠ some a := by
  show a ∈ G.lv.filter _ ↔ _
  rw [List.mem_filter]; simp
theorem Le.kill {G : Wd} {m : Mem} (R : RelM K G m) (js : List Nat) : Le G (G.kill js) :=
  ⟨R.lt, ⟨[], by simp [Wd.kill], fun _ z => nomatch z⟩, fun a z => .inl (mem_kill.mp z).1, fun a z n => mem_kill.mpr ⟨z, fun j _ e => n (List.mem_of_getElem? e)⟩, fun _ _ e _ _ => e, fun _ e => e⟩
theorem RelM.kill {G : Wd} {m : Mem} {js : List Nat} (R : RelM K G m) (hk : ∀ j ∈ js, (∃ ds, m[j]? = some (.lst ds)) ∨ ∃ kvs, m[j]? = some (.dcn kvs)) : RelM K (G.kill js) (killM js m) := by
  refine ⟨fun i o e => ?_, by rw [killM_len]; exact R.len, R.nd, fun a z => R.lt a (mem_kill.mp z).1, R.it, fun i a o e1 e2 => ?_, R.tb.step (fun _ _ e _ => e) fun a _ z q => z (mem_kill.mp q).1, fun a z => R.nt a (mem_kill.mp z).1⟩
  · rw [killM_len]
    by_cases hi : i ∈ js
    · have hl := (List.getElem?_eq_some_iff.mp e).1
      rw [killM_len] at hl
      rw [(killM_get js m i).2 hi hl] at e
      cases e; rfl
    · rw [(killM_get js m i).1 hi] at e
      exact R.dw i o e
  · have e1 : G.io[i]? = some a := e1
    by_cases hi : i ∈ js
    · have hl := (List.getElem?_eq_some_iff.mp e2).1
      rw [killM_len] at hl
      rw [(killM_get js m i).2 hi hl] at e2
      cases e2
      rcases hk i hi with ⟨ds, e⟩ | ⟨kvs, e⟩
      · obtain ⟨_, vs, z, _⟩ := R.ob i a _ e1 e
        exact .inl ⟨vs, z⟩
      · obtain ⟨_, o, _, _, z, _⟩ := R.ob i a _ e1 e
        exact .inr ⟨o, z⟩
    · rw [(killM_get js m i).1 hi] at e2
      refine (R.ob i a o e1 e2).mono (Le.kill R js) (fun z => mem_kill.mpr ⟨z, fun j hj e => ?_⟩) (fun z y => z (mem_kill.mp y).1) rfl
      have : i = j := (List.getElem?_inj (List.getElem?_eq_some_iff.mp e1).1 R.nd).mp (by rw [e1, e])
      exact hi (this ▸ hj)
theorem RelS.kill {G : Wd} {m : Mem} {σ : L2.St} {env e' : Env} {m' : Mem} {i : Nat} (S : RelS K G σ env) (R : RelM K G m) (h : fzE i env m = some (e', m')) : ∃ G', Le G G' ∧ G'.H = G.H ∧ RelS K G' σ e' ∧ RelM K G' m' := by
  unfold fzE at h
  split at h
  · rename_i w ew
    split at h
    · rename_i d js ev
      cases h
      obtain ⟨v, h1, h2⟩ := S.get i w ew
      have rv : Rep K (G.kill js).lv (G.kill js).H v d := view_rep R (Le.kill R js).mo rfl 4 (fun j hj a ha z => (mem_kill.mp z).2 j hj ha) h2 ev
      refine ⟨G.kill js, Le.kill R js, rfl, ?_, R.kill (view_kind 4 ev)⟩
      have := (S.mono (Le.kill R js)).set (i := i) (v := v) (w := .d d) rv
      have hσ : σ.set i (some v) = σ := by
        apply List.ext_getElem?
        intro k
        by_cases hk : i = k
        · subst hk
          rw [List.getElem?_set_self (List.getElem?_eq_some_iff.mp h1).1, h1]
        · rw [List.getElem?_set_ne hk]
      rw [hσ] at this
      exact this
    · cases h
  · cases h
variable {X : Cx} {Wx : WX}
theorem mb_fz {st : List Stmt} {g : SF} (i : Nat) (h : MB X Wx st g) : MB X Wx st (sFz i g) := by
  obtain ⟨t, p, q⟩ := h
  refine ⟨t, p, fun env m σ G E S R h => ?_⟩
  unfold sFz at h
  cases e : fzE i env m with
  | none => rw [e] at h; exact False.elim h
  | some z =>
    obtain ⟨e', m'⟩ := z
    rw [e] at h
    obtain ⟨G', le, eH, S', R'⟩ := S.kill R e
    rw [← eH]
    exact q e' m' σ G' E S' R' (SPost.later h le)
/-! ### a try that meets no exception -/
/-! ### data and, at its end, an object: a tuple -/
def asPr : List W → Option (List D × Nat)
  | [.obj j] => some ([], j)
  | .d x :: r => match asPr r with
    | some (xs, j) => some (x :: xs, j)
    | none => none
  | _ => none
def ePrL (g : AF) (env : Env) (m : Mem) : Res W := (g env m).bind fun ws m2 => match asPr ws with
  | some (xs, j) => if xs.length < sizeLine then .ok (.pr xs j) m2 else .bad
  | none => .bad
theorem asPr_rep {G : Wd} {H0 : Hp} : ∀ {vs : List V} {ws : List W} {xs : List D} {j : Nat}, Paired (RepR X.K H0 G) vs ws → asPr ws = some (xs, j) → ∃ us a, vs = us ++ [.ref a] ∧ Reps X.K G.lv G.H us xs ∧ G.io[j]? = some a
  | _, _, _, _, .nil, e => by cases e
  | _, _, _, _, .cons (b := .obj j) h .nil, e => by
    cases e
    obtain ⟨a, g1, rfl⟩ := h
    exact ⟨[], a, rfl, .nil, g1⟩
  | _, _, _, _, .cons (b := .d x) h t, e => by
    unfold asPr at e
    split at e
    · rename_i xs j eq
      cases e
      obtain ⟨us, a, rfl, r, g⟩ := asPr_rep t eq
      exact ⟨_ :: us, a, rfl, .cons h r, g⟩
    · cases e
  | _, _, _, _, .cons (b := .obj j) h (.cons _ _), e => by cases e
  | _, _, _, _, .cons (b := .fl _) h t, e => by cases t <;> cases e
  | _, _, _, _, .cons (b := .ro _) h t, e => by cases t <;> cases e
  | _, _, _, _, .cons (b := .pr _ _) h t, e => by cases t <;> cases e
theorem me_prL {es : List Expr} {g : AF} {x1} {pos : Pos} (h : MA X Wx es g) : ME X Wx (.Tuple es x1 pos) (ePrL g) := by
  obtain ⟨t, p, q⟩ := h
  refine ⟨_, pe_tup p, fun env m σ G Q S R h => q env m σ G _ S R (GPost.bind weakR h fun ws m1 vs G1 le1 R1 q1 h1 => ?_)⟩
  cases e : asPr ws with
  | none => rw [e] at h1; exact False.elim h1
  | some z =>
    obtain ⟨xs, j⟩ := z
    rw [e] at h1
    obtain ⟨us, a, rfl, r1, g1⟩ := asPr_rep q1 e
    by_cases hz : xs.length < sizeLine
    · dsimp only at h1
      rw [if_pos hz] at h1
      refine ⟨by rw [List.length_append, r1.length]; exact hz, fun p hp => ?_⟩
      have le : Le G1 ⟨G1.io, G1.lv, upd G1.H p (.tup (us ++ [.ref a]))⟩ := Le.new R1 hp
      exact h1 (.ref p) _ le (R1.new hp) ⟨p, us, a, rfl, .inl ⟨(R1.ne hp).2, upd_same⟩, Reps.mono le.mo r1, g1⟩
    · dsimp only at h1
      rw [if_neg hz] at h1
      exact False.elim h1
end
end M
set_option Elab.async false
set_option linter.all false
set_option maxRecDepth 100000
set_option maxHeartbeats 1000000
/-! P: dicts with data as keys: places -/
namespace M
open PySem L2
variable [HasW]
noncomputable section
section
variable {m : Mem} {kws : List (D × W)} {kvs : List (D × TV)} {ks : List Nat}
theorem ChAt.keys (h : ChAt m kws kvs ks) : kws.map (·.1) = kvs.map (·.1) := by
  induction h with
  | nil => rfl
  | d t ih => rw [List.map_cons, List.map_cons, ih]
  | l e n t ih => rw [List.map_cons, List.map_cons, ih]
  | c e n t ih => rw [List.map_cons, List.map_cons, ih]
theorem ChAt.len (h : ChAt m kws kvs ks) : kws.length = kvs.length := by
  have := congrArg List.length h.keys
  simpa using this
inductive LkAt (m : Mem) (ks : List Nat) : Option W → Option TV → Prop
  | no : LkAt m ks none none
  | d (x : D) : LkAt m ks (some (.d x)) (some (.d x))
  | l {c : Nat} {xs : List D} : m[c]? = some (.lst xs) → c ∈ ks → LkAt m ks (some (.obj c)) (some (.l xs))
  | c {c : Nat} {ys : List (D × D)} : m[c]? = some (.dcn (kvN ys)) → c ∈ ks → LkAt m ks (some (.obj c)) (some (.c ys))
theorem LkAt.mono {ks' : List Nat} {a : Option W} {b : Option TV} (h : LkAt m ks a b) (hk : ∀ i ∈ ks, i ∈ ks') : LkAt m ks' a b := by
  cases h with
  | no => exact .no
  | d x => exact .d x
  | l e i => exact .l e (hk _ i)
  | c e i => exact .c e (hk _ i)
theorem ChAt.snoc {k : D} {w : W} {v : TV} {ls : List Nat} (h : ChAt m kws kvs ks) (h1 : ChAt m [(k, w)] [(k, v)] ls) (hd : ∀ i ∈ ls, i ∉ ks) : ChAt m (kws ++ [(k, w)]) (kvs ++ [(k, v)]) (ks ++ ls) := by
  induction h with
  | nil => exact h1
  | d t ih => exact .d (ih hd)
  | l e n t ih =>
    refine .l e (fun z => ?_) (ih fun i hi z => hd i hi (List.mem_cons_of_mem _ z))
    rcases List.mem_append.mp z with z | z
    · exact n z
    · exact hd _ z List.mem_cons_self
  | c e n t ih =>
    refine .c e (fun z => ?_) (ih fun i hi z => hd i hi (List.mem_cons_of_mem _ z))
    rcases List.mem_append.mp z with z | z
    · exact n z
    · exact hd _ z List.mem_cons_self
end
/-! ### the frame -/
section
variable {fr : Fr} {ρ : List PV} {env : Env} {m : Mem}
/-- an own dict frozen -/
theorem Rel.fz (R : Rel fr ρ env m) {i : Nat} {kvs : List (D × TV)} (h : ρ[i]? = some (.t false kvs)) : ∃ e' m', fzE i env m = some (e', m') ∧ e' = env.set i (some (.d (.dict (frzT kvs)))) ∧ Rel fr (ρ.set i (.d (.dict (frzT kvs)))) e' m' := by
  obtain ⟨J, hd, hJ⟩ := R.ex
  have hi := hJ i
  rw [h] at hi
  obtain ⟨j, ks, e1, e2, tr, e4 | e4⟩ := hi
  · exact absurd e4.1 (by simp)
  have hv := view_tr (n := 0) tr (fun _ _ => Nat.zero_le _)
  have hge : ∀ x ∈ j :: ks, fr.m0.length ≤ x := fun x hx => e4.2 x (by rw [e1]; rcases List.mem_cons.mp hx with rfl | hx <;> simp [*])
  have ef : fzE i env m = some (env.set i (some (.d (.dict (frzT kvs)))), killM (j :: ks) m) := by
    unfold fzE
    rw [e2]
    dsimp only
    rw [hv]
  refine ⟨_, _, ef, rfl, ?_⟩
  have kl := killM_len (j :: ks) m
  have kg := fun x => killM_get (j :: ks) m x
  have hl : i < ρ.length := (List.getElem?_eq_some_iff.mp h).1
  refine ⟨R.pok, by rw [kl]; exact R.len, fun x h1 h2 => ?_, R.c0, fun i' x hx o' eo => ?_, fun x o' hx eo => ?_, by simp [R.el], fun x => if x = i then [] else J x, fun x x' y h1 h2 => ?_, fun x => ?_⟩
  · rw [(kg x).1 fun z => by have := hge x z; omega]
    exact R.fix x h1 h2
  · rw [(kg x).1 fun z => by have := hge x z; have := R.pok i' x hx; omega] at eo
    exact R.cp i' x hx o' eo
  · rw [kl]
    by_cases z : x ∈ j :: ks
    · have hxl := (List.getElem?_eq_some_iff.mp eo).1
      rw [kl] at hxl
      rw [(kg x).2 z hxl] at eo
      cases eo; rfl
    · rw [(kg x).1 z] at eo
      exact R.cn x o' hx eo
  · dsimp only at h1 h2
    by_cases hx : x = i
    · rw [if_pos hx] at h1; cases h1
    · by_cases hx' : x' = i
      · rw [if_pos hx'] at h2; cases h2
      · rw [if_neg hx] at h1; rw [if_neg hx'] at h2; exact hd x x' y h1 h2
  · dsimp only
    by_cases hx : x = i
    · subst hx
      rw [if_pos rfl, List.getElem?_set_self hl, List.getElem?_set_self (by rw [R.el]; exact hl)]
      exact ⟨rfl, rfl⟩
    · rw [if_neg hx, List.getElem?_set_ne (Ne.symm hx), List.getElem?_set_ne (Ne.symm hx)]
      refine (hJ x).mem fun y hy => (kg y).1 fun z => ?_
      refine hx (hd x i y hy ?_)
      rw [e1]
      rcases List.mem_cons.mp z with rfl | z <;> simp [*]
end
end
end M
set_option Elab.async false
set_option linter.all false
set_option maxRecDepth 100000
set_option maxHeartbeats 1000000
/-! P: dicts with data as keys: operations -/
namespace M
open PySem L2
end M
set_option Elab.async false
set_option linter.all false
set_option maxRecDepth 100000
set_option maxHeartbeats 1000000
/-! P: own dicts -/
namespace M
open PySem L2
end M
set_option Elab.async false
set_option linter.all false
set_option maxRecDepth 100000
set_option maxHeartbeats 1000000
/-! P: own dicts: statements -/
namespace M
open PySem L2
variable [HasW]
noncomputable section
/-! what is pure -/
theorem pu_tup {a : AF} (ha : PuA a) : PuE (eTup a) := by
  intro env m w m' h
  unfold eTup at h
  cases q : a env m with
  | ok ws m1 =>
    rw [q, Res.bind_ok] at h
    have := ha _ _ _ _ q
    subst this
    split at h
    · split at h
      · cases h; rfl
      · cases h
    · cases h
  | err e m1 => rw [q] at h; cases h
  | bad => rw [q] at h; cases h
end
end M
set_option Elab.async false
set_option linter.all false
set_option maxRecDepth 100000
set_option maxHeartbeats 1000000
/-! P: a list in an own dict under a name -/
namespace M
open PySem L2
end M
set_option Elab.async false
set_option linter.all false
set_option maxRecDepth 100000
set_option maxHeartbeats 1000000
/-! P: a def that hands back a pair of data and a new own dict; try without exceptions -/
namespace M
open PySem L2
end M
set_option Elab.async false
set_option linter.all false
set_option maxRecDepth 100000
/-! P: try that meets no exception -/
namespace M
open PySem L2
variable [HasW]
noncomputable section
def tryNK {σ γ : Type} (b : PR (TO σ)) (k : σ → PR γ) (kr : D → σ → PR γ) : PR γ := match b with
  | .ok (.nx s) => k s
  | .ok (.rt x s) => kr x s
  | _ => .bad
@[simp] theorem tryNK_nx {σ γ : Type} (s : σ) (k : σ → PR γ) (kr : D → σ → PR γ) : tryNK (.ok (.nx s)) k kr = k s := rfl
@[simp] theorem tryNK_rt {σ γ : Type} (x : D) (s : σ) (k : σ → PR γ) (kr : D → σ → PR γ) : tryNK (.ok (.rt x s)) k kr = kr x s := rfl
end
end M
set_option Elab.async false
set_option linter.all false
/-! P: words of the generator -/
namespace M
open PySem L2
end M
set_option Elab.async false
set_option linter.all false
set_option maxRecDepth 100000
set_option maxHeartbeats 1000000
/-! M: list(zip(a, b)) -/
namespace M
open PySem L2 PySem.W PyProof.Rows
variable [HasW]
/-! ### the tuples as they are tracked -/
/-! ### P -/
noncomputable section
section
variable {s sr : Nat} {ms : List Bool} {fr : Fr} {ρ : List PV} {env : Env} {m : Mem}
/-- an own list frozen -/
theorem Rel.fzL (R : Rel fr ρ env m) {i : Nat} {xs : List D} (h : ρ[i]? = some (.l false xs)) : ∃ e' m', fzE i env m = some (e', m') ∧ e' = env.set i (some (.d (.list xs))) ∧ Rel fr (ρ.set i (.d (.list xs))) e' m' := by
  obtain ⟨J, hd, hJ⟩ := R.ex
  have hi := hJ i
  rw [h] at hi
  obtain ⟨j, e1, e2, e3, e4 | e4⟩ := hi
  · exact absurd e4.1 (by simp)
  have hge : ∀ x ∈ [j], fr.m0.length ≤ x := fun x hx => by rw [List.mem_singleton.mp hx]; exact e4.2
  have ef : fzE i env m = some (env.set i (some (.d (.list xs))), killM [j] m) := by
    unfold fzE
    rw [e2]
    simp only [viewM, Nat.not_lt_zero, if_false, e3]
  refine ⟨_, _, ef, rfl, ?_⟩
  have kl := killM_len [j] m
  have kg := fun x => killM_get [j] m x
  have hl : i < ρ.length := (List.getElem?_eq_some_iff.mp h).1
  refine ⟨R.pok, by rw [kl]; exact R.len, fun x h1 h2 => ?_, R.c0, fun i' x hx o' eo => ?_, fun x o' hx eo => ?_, by simp [R.el], fun x => if x = i then [] else J x, fun x x' y h1 h2 => ?_, fun x => ?_⟩
  · rw [(kg x).1 fun z => by have := hge x z; omega]
    exact R.fix x h1 h2
  · rw [(kg x).1 fun z => by have := hge x z; have := R.pok i' x hx; omega] at eo
    exact R.cp i' x hx o' eo
  · rw [kl]
    by_cases z : x ∈ [j]
    · have hxl := (List.getElem?_eq_some_iff.mp eo).1
      rw [kl] at hxl
      rw [(kg x).2 z hxl] at eo
      cases eo; rfl
    · rw [(kg x).1 z] at eo
      exact R.cn x o' hx eo
  · dsimp only at h1 h2
    by_cases hx : x = i
    · rw [if_pos hx] at h1; cases h1
    · by_cases hx' : x' = i
      · rw [if_pos hx'] at h2; cases h2
      · rw [if_neg hx] at h1; rw [if_neg hx'] at h2; exact hd x x' y h1 h2
  · dsimp only
    by_cases hx : x = i
    · subst hx
      rw [if_pos rfl, List.getElem?_set_self hl, List.getElem?_set_self (by rw [R.el]; exact hl)]
      exact ⟨rfl, rfl⟩
    · rw [if_neg hx, List.getElem?_set_ne (Ne.symm hx), List.getElem?_set_ne (Ne.symm hx)]
      refine (hJ x).mem fun y hy => (kg y).1 fun z => ?_
      refine hx (hd x i y hy ?_)
      rw [e1]
      exact z
def gsFzL (i : Nat) (x : GSx) : GSx := fun γ ρ kn kb kc kr => match ρ[i]? with
  | some (.l false xs) => x γ (ρ.set i (.d (.list xs))) kn kb kc kr
  | _ => .bad
theorem rs_fzL (i : Nat) {f : SF} {x : GSx} (h : RS sr ms f x) (hi : isM ms i = true := by rfl) : RS sr ms (sFz i f) (gsFzL i x) := by
  intro γ fr ρ env m kn kb kc kr R nb
  unfold gsFzL at nb ⊢
  split at nb
  · rename_i xs q
    obtain ⟨e', m', ef, ee, R'⟩ := R.fzL q
    unfold sFz
    rw [ef]
    dsimp only
    have := h γ fr _ e' m' kn kb kc kr R' nb
    exact SPo.later (Ag.set hi) (by rw [ee]; exact AgE.set hi) this
  · exact absurd rfl nb
end
end
end M
set_option Elab.async false
set_option linter.all false
set_option maxRecDepth 100000
set_option maxHeartbeats 1000000
/-! list.index of data -/
namespace M
open PySem L2
end M
set_option Elab.async false
set_option linter.all false
set_option maxRecDepth 100000
set_option maxHeartbeats 1000000
/-! tuple.index of texts; list.index of data in a list that is data -/
namespace M
open PySem L2
end M
set_option Elab.async false
set_option linter.all false
set_option maxRecDepth 100000
set_option maxHeartbeats 1000000
/-! zip over lists that are only read -/
namespace M
open PySem L2
end M
set_option Elab.async false
set_option linter.all false
set_option maxRecDepth 100000
set_option maxHeartbeats 1000000
/-! instances of the program's classes: made, fields read and stored, methods -/
namespace M
open PySem L2
variable [HasW]
/-- C is the class of that name -/
def Cln (K : PySem.W.Frag) (c : Str) (C : Addr) : Prop := PySem.W.nsIn K mainGlobals c = some (some (.ref C))
theorem Cln.inj {K : PySem.W.Frag} {c : Str} {C C' : Addr} (h : Cln K c C) (h' : PySem.W.nsIn K mainGlobals c = some (some (.ref C'))) : C' = C := by
  unfold Cln at h
  rw [h] at h'
  injection h' with h'
  injection h' with h'
  injection h' with h'
  exact h'.symm
end M
set_option Elab.async false
set_option linter.all false
set_option maxRecDepth 100000
set_option maxHeartbeats 1000000
/-! P: instances of data -/
namespace M
open PySem L2
variable [HasW]
noncomputable section
/-- the class and the fields of an instance -/
def insP (kvs : List (Str × D)) : Option (Str × List (Str × D)) := match kvs with
  | (k, .str c) :: r => if k = insK then some (c, r) else none
  | _ => none
@[simp] theorem insP_ins (c : Str) (fs : List (Str × D)) : insP ((insK, .str c) :: fs) = some (c, fs) := by simp [insP]
end
end M
set_option Elab.async false
set_option linter.all false
set_option maxRecDepth 100000
set_option maxHeartbeats 1000000
/-! divmod -/
namespace M
open PySem L2
end M
set_option Elab.async false
set_option linter.all false
set_option maxRecDepth 100000
set_option maxHeartbeats 1000000
/-! C(..).m(..) -/
namespace M
open PySem L2
end M
set_option Elab.async false
set_option linter.all false
set_option maxRecDepth 100000
set_option maxHeartbeats 1000000
/-! steps of an __init__ -/
namespace M
open PySem L2
end M
set_option Elab.async false
set_option linter.all false
set_option maxRecDepth 100000
set_option maxHeartbeats 1000000
/-! what an own dict holds is frozen, the dict itself stays -/
namespace M
open PySem L2
/-! P level -/
end M
set_option Elab.async false
set_option linter.all false
set_option maxRecDepth 100000
set_option maxHeartbeats 1000000
/-! data < data, list(d) of a frozen dict -/
namespace M
open PySem L2
end M
set_option Elab.async false
set_option linter.all false
set_option maxRecDepth 100000
set_option maxHeartbeats 1000000
/-! M and P: list(d), d a frozen dict; calls in which a default stands (a whole number) -/
namespace M
open PySem L2 PySem.W PyProof.Rows
variable [HasW]
/-! ### list(d) -/
/-! ### f(e, ..), where the last parameter has a default -/
theorem RepRs.app {K : PySem.W.Frag} {H0 : Hp} {G : Wd} : ∀ {vs : List V} {ws : List W} {us : List V} {zs : List W}, RepRs K H0 G vs ws → RepRs K H0 G us zs → RepRs K H0 G (vs ++ us) (ws ++ zs)
  | _, _, _, _, .nil, h => h
  | _, _, _, _, .cons a b, h => .cons a (RepRs.app b h)
/-! ### a def with defaults -/
section
variable {P : Program} {w : World} {K : PySem.W.Frag} {mg : Str → Option Value} {base : Heap}
/-- a def's body, from its mirror -/
theorem mb_run {X : Cx} {N : List Str} {body : List Stmt} {g : SF} {n : Nat} {E : XK} {vs : List V} {H : Hp} {Q : VK} (hK : X.K = K) (hmg : X.mg = mg) (hb : MB X (fun c d _ H' => E c d H') body g) (h : SpM K mg n (runF N.length g) vs H Q E) :
    ∃ t, PSs X body t ∧ t { nx := fun _ H' => Q .non H', rt := Q } (L2.start N vs) H := by
  subst hK hmg
  obtain ⟨G, ws, m, eH, R, hp, hl, hq⟩ := h
  subst eH
  obtain ⟨t, p, q⟩ := hb
  refine ⟨t, p, q (env0 N.length ws) m (L2.start N vs) G _ (RelS.start hp) R ?_⟩
  unfold runF at hq
  cases e : g (env0 N.length ws) m with
  | rt w' m' => rw [e] at hq; exact fun v G' le R' r => finM_ok R R' le r hq
  | nx e1 m' => rw [e] at hq; exact fun σ' G' le R' S' => finM_ok (w := .d .none) (v := .non) R R' le Rep.non hq
  | bk e1 m' => rw [e] at hq; exact False.elim hq
  | ct e1 m' => rw [e] at hq; exact False.elim hq
  | err x e1 m' =>
    rw [e] at hq
    intro c d σ' G' le R' S' hx
    by_cases hc : clM m.length m' = true
    rotate_left
    · dsimp only at hq
      rw [if_neg hc] at hq
      exact False.elim hq
    dsimp only at hq
    rw [if_pos hc] at hq
    refine hq c d (G'.cut G none) le.cut (R.cut R' le hc) ⟨hx.1, ?_⟩
    rcases hx.2 with z | ⟨dd, fs, z0, z1, z2, z3, z4⟩
    · exact .inl z
    · refine .inr ⟨dd, fs, z0, z1, z2, fun z => z3 ?_, Paired.mono (fun _ _ z => ⟨z.1, Rep.mono Mo.cut z.2⟩) z4⟩
      obtain ⟨κ, ek, _⟩ := le.io
      rw [ek]
      exact List.mem_append_left _ z
  | bad => rw [e] at hq; exact False.elim hq
theorem spM_len {n : Nat} {F : FF} : ∀ vs H Q E, SpM K mg n F vs H Q E → vs.length = n := fun vs H Q E ⟨_, _, _, _, _, h, hl, _⟩ => (Paired.length h).trans hl
end
/-! ### P -/
end M
set_option Elab.async false
set_option linter.all false
set_option maxRecDepth 100000
set_option maxHeartbeats 3200000
/-! M: set(list) of keys of any kind; repr of a tuple; defs that run while no repr is under way -/
namespace M
open PySem L2 PySem.W PyProof.Rows
/-! ### set(xs), xs a list -/
end M
set_option Elab.async false
set_option linter.all false
set_option maxRecDepth 100000
set_option maxHeartbeats 1000000
/-! M and P: repr of a tuple, len(set(texts)) -/
namespace M
open PySem L2 PySem.W PyProof.Rows
/-! ### repr(t) -/
/-! ### P -/
end M
set_option Elab.async false
set_option linter.all false
set_option maxRecDepth 100000
set_option maxHeartbeats 1000000
/-! M: defs that are called while no repr is under way; the end for such a law -/
namespace M
open PySem L2 PySem.W PyProof.Rows
variable [HasW]
structure FnG (P : Program) (w : World) (K : PySem.W.Frag) (mg : Str → Option Value) (base : Heap) (k : Nat) (f : Addr) (fd : FuncData) (ps : List Str) (sp : Sp) : Prop where
  len : ∀ vs H Q E, sp vs H Q E → vs.length = ps.length
  run : ∀ (A : Around) (outer : List PySem.Env) (s : Shared) (H : Hp) (args : Args) (us : List Value) (vs : List V) (Q : VK) (E : XK), Room k A → A.guards = some [] → Env0 P w K mg base A outer s H → BindsTo s fd args (ps.zip us) → Vals vs us → sp vs H Q E →
    codeAny (model P w) A (.call (.ref f) args) (CR (L2.CX P w) outer P w H s Q E) s
section
variable {P : Program} {w : World} {K : PySem.W.Frag} {mg : Str → Option Value} {base : Heap}
theorem FnG.imp {k : Nat} {f : Addr} {fd : FuncData} {ps : List Str} {sp sp2 : Sp} (F : FnG P w K mg base k f fd ps sp) (h : ∀ vs H Q E, sp2 vs H Q E → sp vs H Q E) : FnG P w K mg base k f fd ps sp2 where
  len := fun vs H Q E q => F.len vs H Q E (h vs H Q E q)
  run := fun A o s H args us vs Q E r g e b v q => F.run A o s H args us vs Q E r g e b v (h vs H Q E q)
end
end M
set_option Elab.async false
set_option linter.all false
set_option maxRecDepth 100000
set_option maxHeartbeats 1000000
/-! M and P: sorted(set(xs)), xs whole numbers -/
namespace M
open PySem L2 PySem.W PyProof.Rows
end M
set_option Elab.async false
set_option linter.all false
set_option maxRecDepth 100000
set_option maxHeartbeats 1000000
/-! M: functions handed over -/
namespace M
open PySem L2 PySem.W PyProof.Rows
variable [HasW]
/-! ### code objects are no pinned things -/
omit [HasW] in
theorem heap_sz : ∀ n : Nat, ∃ h : Heap, h.objs.size = n
  | 0 => ⟨{}, rfl⟩
  | n + 1 => by
    obtain ⟨h, e⟩ := heap_sz n
    exact ⟨h.push { cls := .none }, by rw [Heap.size_push, e]⟩
omit [HasW] in
theorem code_pin (c : Addr) (q : Str) (o : Obj) : LamX.CodeO c q ≠ PinO c o := by
  intro z
  unfold LamX.CodeO PinO at z
  have z := HO.ext.inj z
  obtain ⟨h, e⟩ := heap_sz c
  subst e
  have two : ∀ d : Option Addr, o = { cls := .none, dict := d, data := .fields #[.none, .str q 0] } := fun d => by
    have g : (h.push ({ cls := .none, dict := d, data := .fields #[.none, .str q 0] } : Obj)).get? h.objs.size = some { cls := .none, dict := d, data := .fields #[.none, .str q 0] } := Heap.get?_push_size _ rfl
    have p := congrFun z (h.push { cls := .none, dict := d, data := .fields #[.none, .str q 0] })
    have r := Eq.mp p ⟨_, _, 0, g, rfl, rfl⟩
    rw [g] at r
    exact (Option.some.inj r).symm
  have a := two none
  rw [two (some 0)] at a
  cases a
theorem obj_no {K : PySem.W.Frag} {G : Wd} {a : Addr} {ob : O} (q : ORep K G a ob) : ∃ o, G.H a = some o ∧ (∀ ps, o ≠ .tbl ps) ∧ ∀ x, o ≠ LamX.CodeO a x := by
  have n1 : ∀ (vs : List V) x, (HO.lst vs) ≠ LamX.CodeO a x := fun vs x z => by unfold LamX.CodeO at z; cases z
  cases ob with
  | lst ds => obtain ⟨_, vs, h2, _⟩ := q; exact ⟨_, h2, nofun, n1 _⟩
  | fz ds => obtain ⟨_, vs, h2, _⟩ := q; exact ⟨_, h2, nofun, n1 _⟩
  | lsw ds => obtain ⟨_, vs, h2, _⟩ := q; exact ⟨_, h2, nofun, n1 _⟩
  | dct kvs => obtain ⟨_, ks, h2, _⟩ := q; exact ⟨_, h2, nofun, fun x z => by unfold LamX.CodeO at z; cases z⟩
  | dcn kvs => obtain ⟨_, o, es, kvv, h2, _⟩ := q; exact ⟨_, h2, pin_tbl _ _, fun x z => code_pin _ _ _ z.symm⟩
  | dead =>
    rcases q with ⟨vs, h2⟩ | ⟨o, h2⟩
    · exact ⟨_, h2, nofun, n1 _⟩
    · exact ⟨_, h2, pin_tbl _ _, fun x z => code_pin _ _ _ z.symm⟩
  | ins c fs => obtain ⟨_, C, dx, vs, _, h2, _⟩ := q; exact ⟨_, h2, nofun, fun x z => by unfold LamX.CodeO at z; cases z⟩
theorem io_obj {K : PySem.W.Frag} {G : Wd} {m : Mem} (R : RelM K G m) {a : Addr} (h : a ∈ G.io) : ∃ o, G.H a = some o ∧ (∀ ps, o ≠ .tbl ps) ∧ ∀ x, o ≠ LamX.CodeO a x := by
  obtain ⟨i, hi⟩ := List.getElem?_of_mem h
  have hl : i < m.length := by rw [← R.len]; exact (List.getElem?_eq_some_iff.mp hi).1
  exact obj_no (R.ob i a _ hi (List.getElem?_eq_getElem hl))
theorem code_out {K : PySem.W.Frag} {G : Wd} {m : Mem} (R : RelM K G m) {c : Addr} {q : Str} (h : G.H c = some (LamX.CodeO c q)) : c ∉ G.io := fun z => by
  obtain ⟨o, h1, _, h3⟩ := io_obj R z
  rw [h] at h1
  cases h1
  exact h3 q rfl
theorem code_keep {K : PySem.W.Frag} {G G' : Wd} {m : Mem} (R : RelM K G m) (le : Le G G') {c : Addr} {q : Str} (h : G.H c = some (LamX.CodeO c q)) : G'.H c = some (LamX.CodeO c q) :=
  le.keep c _ h (fun z => code_out R h z.1) LamX.codeO_ne
/-! ### things of tuples, texts and whole numbers: held whatever may change -/
mutual
inductive RepT (K : PySem.W.Frag) (H : Hp) : V → D → Prop
  | non : RepT K H .non .none
  | bl (b : Bool) : RepT K H (.bl b) (.bool b)
  | int (i : Int) : RepT K H (.int i) (.int i)
  | str (x : Str) : RepT K H (.str x) (.str x)
  | tup {a : Addr} {xs : List V} {ds : List D} : H a = some (.tup xs) ∨ KT K a xs → RepTs K H xs ds → RepT K H (.ref a) (.tuple ds)
inductive RepTs (K : PySem.W.Frag) (H : Hp) : List V → List D → Prop
  | nil : RepTs K H [] []
  | cons {v : V} {vs : List V} {d : D} {ds : List D} : RepT K H v d → RepTs K H vs ds → RepTs K H (v :: vs) (d :: ds)
end
mutual
def tpB : D → Bool
  | .none => true
  | .bool _ => true
  | .int _ => true
  | .str _ => true
  | .tuple ds => tpsB ds
  | .list _ => false
  | .dict _ => false
def tpsB : List D → Bool
  | [] => true
  | d :: ds => tpB d && tpsB ds
end
section
variable {K : PySem.W.Frag} {H H' : Hp} {lv : List Addr}
mutual
theorem RepT.mono (m : ∀ a vs, H a = some (.tup vs) → H' a = some (.tup vs)) : ∀ {v : V} {d : D}, RepT K H v d → RepT K H' v d
  | _, _, .non => .non
  | _, _, .bl b => .bl b
  | _, _, .int i => .int i
  | _, _, .str x => .str x
  | _, _, .tup h r => .tup (h.imp (m _ _) id) (RepTs.mono m r)
theorem RepTs.mono (m : ∀ a vs, H a = some (.tup vs) → H' a = some (.tup vs)) : ∀ {v : List V} {d : List D}, RepTs K H v d → RepTs K H' v d
  | _, _, .nil => .nil
  | _, _, .cons h r => .cons (RepT.mono m h) (RepTs.mono m r)
end
mutual
theorem RepT.rep (n : ∀ a ∈ lv, ∀ o, H a = some o → LvO o) : ∀ {v : V} {d : D}, RepT K H v d → Rep K lv H v d
  | _, _, .non => .non
  | _, _, .bl b => .bl b
  | _, _, .int i => .int i
  | _, _, .str x => .str x
  | _, _, .tup h r => .tup (h.imp (fun e => ⟨fun z => (n _ z _ e).1 _ rfl, e⟩) id) (RepTs.rep n r)
theorem RepTs.rep (n : ∀ a ∈ lv, ∀ o, H a = some o → LvO o) : ∀ {v : List V} {d : List D}, RepTs K H v d → Reps K lv H v d
  | _, _, .nil => .nil
  | _, _, .cons h r => .cons (RepT.rep n h) (RepTs.rep n r)
end
mutual
theorem Rep.t : ∀ {v : V} {d : D}, tpB d = true → Rep K lv H v d → RepT K H v d
  | _, _, _, .non => .non
  | _, _, _, .bl b => .bl b
  | _, _, _, .int i => .int i
  | _, _, _, .str x => .str x
  | _, _, h, .tup a r => .tup (a.imp (fun z => z.2) id) (Reps.t (by simpa [tpB] using h) r)
  | _, _, h, .lst _ _ => nomatch h
  | _, _, h, .dct _ _ _ _ => nomatch h
theorem Reps.t : ∀ {v : List V} {d : List D}, tpsB d = true → Reps K lv H v d → RepTs K H v d
  | _, _, _, .nil => .nil
  | _, _, h, .cons a r => by
    simp only [tpsB, Bool.and_eq_true] at h
    exact .cons (Rep.t h.1 a) (Reps.t h.2 r)
end
end
theorem obj_nt {K : PySem.W.Frag} {G : Wd} {a : Addr} {ob : O} {vs : List V} (q : ORep K G a ob) : G.H a ≠ some (.tup vs) := by
  intro e
  have go : ∀ v : HO, G.H a = some v → v = .tup vs := fun v h => by rw [e] at h; cases h; rfl
  cases ob with
  | lst ds => obtain ⟨_, vs, h2, _⟩ := q; exact nomatch go _ h2
  | fz ds => obtain ⟨_, vs, h2, _⟩ := q; exact nomatch go _ h2
  | lsw ds => obtain ⟨_, vs, h2, _⟩ := q; exact nomatch go _ h2
  | dct kvs => obtain ⟨_, ks, h2, _⟩ := q; exact nomatch go _ h2
  | dcn kvs => obtain ⟨_, o, es, kvv, h2, _⟩ := q; exact absurd (go _ h2) ((lvo_pin _ _).1 _)
  | dead =>
    rcases q with ⟨vs, h2⟩ | ⟨o, h2⟩
    · exact nomatch go _ h2
    · exact absurd (go _ h2) ((lvo_pin _ _).1 _)
  | ins c fs => obtain ⟨_, C, dx, vs, _, h2, _⟩ := q; exact nomatch go _ h2
theorem tup_keep {K : PySem.W.Frag} {G G' : Wd} {m : Mem} (R : RelM K G m) (le : Le G G') : ∀ a vs, G.H a = some (.tup vs) → G'.H a = some (.tup vs) := fun a vs e => le.keep a _ e (fun z => by
  obtain ⟨i, hi⟩ := List.getElem?_of_mem z.1
  have hl : i < m.length := by rw [← R.len]; exact (List.getElem?_eq_some_iff.mp hi).1
  exact obj_nt (R.ob i a _ hi (List.getElem?_eq_getElem hl)) e) nofun
/-! ### the function in a slot; its code; what it captured -/
structure HCp (K : PySem.W.Frag) (c : Addr) (q : Str) (rs : List (V × D)) (H : Hp) : Prop where
  code : H c = some (LamX.CodeO c q)
  reps : ∀ p ∈ rs, RepT K H p.1 p.2
theorem hcp_keep {K K' : PySem.W.Frag} {G G' : Wd} {m : Mem} (R : RelM K' G m) (le : Le G G') {c : Addr} {q : Str} {rs : List (V × D)} (h : HCp K c q rs G.H) : HCp K c q rs G'.H := ⟨code_keep R le h.code, fun p hp => (h.reps p hp).mono (tup_keep R le)⟩
omit [HasW] in
theorem hcp0 {K : PySem.W.Frag} {c : Addr} {q : Str} {H : Hp} (h : H c = some (LamX.CodeO c q)) : HCp K c q [] H := ⟨h, nofun⟩
def JF (i : Nat) (f c : Addr) (q : Str) (K : PySem.W.Frag) (rs : List (V × D)) (σ : L2.St) (H : Hp) : Prop := σ[i]? = some (some (.ref f)) ∧ HCp K c q rs H
instance {i : Nat} {f c : Addr} {q : Str} {K : PySem.W.Frag} {rs : List (V × D)} : JMono (JF i f c q K rs) := ⟨fun R le h => ⟨h.1, hcp_keep R le h.2⟩⟩
/-- the function's object, and what it captured -/
structure FvAt (f : Addr) (ob : Obj) (cv : List (Addr × Obj)) (fr : List Addr) (h : Heap) (H : Hp) : Prop where
  at_ : ∀ p ∈ (f, ob) :: cv, h.get? p.1 = some p.2 ∧ H p.1 = none ∧ p.1 ∉ fr
omit [HasW] in
theorem FvAt.later {X : Cx} {pins : List (Addr × Obj)} {σ : L2.St} {H : Hp} {s : Shared} {f : Addr} {ob : Obj} {cv : List (Addr × Obj)} (I : Inv X pins σ H s) (hex : X.ex = []) (a : FvAt f ob cv X.fs X.s_0.heap X.H_0) : FvAt f ob cv (frs X.stack) s.heap H := ⟨fun p hp => by
  obtain ⟨h1, h2, h3⟩ := a.at_ p hp
  have nx : p.1 ∉ X.ex := by rw [hex]; simp
  refine ⟨I.base.keep _ _ h1 h2 h3 nx, I.base.free _ _ h1 h2 nx, fun z => ?_⟩
  rcases List.mem_cons.mp (I.stkSub _ z) with e | e
  · have l1 := Heap.lt_size h1
    have l2 := I.ok.above
    rw [e] at l1
    exact absurd (Nat.lt_of_lt_of_le l1 l2) (Nat.lt_irrefl _)
  · exact h3 e⟩
structure FvOk (P : Program) (w : World) (K : PySem.W.Frag) (mg : Str → Option Value) (base : Heap) (k : Nat) (f : Addr) (ob : Obj) (cv : List (Addr × Obj)) (c : Addr) (q : Str) (rs : List (V × D)) (n : Nat) (F : FF) : Prop where
  fn : ∃ od fd sl, ob = ⟨.type "function", od, .func fd, sl⟩
  run : ∀ (A : Around) (outer : List PySem.Env) (s : Shared) (H : Hp) (us : List Value) (vs : List V) (Q : VK) (E : XK), Room k A → Env0 P w K mg base A outer s H → FvAt f ob cv (frs outer) s.heap H → HCp K c q rs H → Vals vs us → SpM K mg n F vs H Q E →
    codeAny (model P w) A (.call (.ref f) ⟨us, []⟩) (CR (L2.CX P w) outer P w H s Q E) s
section
variable {X : Cx} {Wx : WX} {i k n : Nat} {f c g : Addr} {ob : Obj} {cv : List (Addr × Obj)} {q : Str} {rs : List (V × D)} {F : FF}
omit [HasW] in
theorem FvAt.fn {fr : List Addr} {h : Heap} {H : Hp} (a : FvAt f ob cv fr h H) (hf : ∃ od fd sl, ob = ⟨.type "function", od, .func fd, sl⟩) : PySem.W.FnAt f h := by
  obtain ⟨od, fd, sl, e⟩ := hf
  have := (a.at_ _ List.mem_cons_self).1
  exact ⟨.type "function", od, fd, sl, by rw [← e]; exact this⟩
end
/-! ### a def that is handed a function -/
structure MbOk (P : Program) (w : World) (K : PySem.W.Frag) (mg : Str → Option Value) (base : Heap) (k : Nat) (g : Addr) (fd : FuncData) (ps : List Str) (f : Addr) (ob : Obj) (cv : List (Addr × Obj)) (c : Addr) (q : Str) (rs : List (V × D)) (F : FF) : Prop where
  two : ps.length = 2
  run : ∀ (A : Around) (outer : List PySem.Env) (s : Shared) (H : Hp) (args : Args) (us : List Value) (v : V) (Q : VK) (E : XK), Room k A → Env0 P w K mg base A outer s H → FvAt f ob cv (frs outer) s.heap H → HCp K c q rs H → BindsTo s fd args (ps.zip us) → Vals [v, .ref f] us → SpM K mg 1 F [v] H Q E →
    codeAny (model P w) A (.call (.ref g) args) (CR (L2.CX P w) outer P w H s Q E) s
section
variable {P : Program} {w : World} {K : PySem.W.Frag} {mg : Str → Option Value} {base : Heap} {f c : Addr} {ob : Obj} {cv : List (Addr × Obj)} {q : Str} {rs : List (V × D)}
theorem MbOk.mono {j k : Nat} {g : Addr} {fd : FuncData} {ps : List Str} {F : FF} (M : MbOk P w K mg base j g fd ps f ob cv c q rs F) (h : j ≤ k) : MbOk P w K mg base k g fd ps f ob cv c q rs F :=
  ⟨M.two, fun A outer s H args us v Q E hr => M.run A outer s H args us v Q E (hr.mono h)⟩
end
section
variable {X : Cx} {Wx : WX} {i k : Nat} {f c g : Addr} {ob : Obj} {cv : List (Addr × Obj)} {q : Str} {rs : List (V × D)} {F : FF} {fd : FuncData} {ps : List Str}
/-! lists of arguments, tuples, targets -/
def MAJ (X : Cx) (Wx : WX) (J : L2.St → Hp → Prop) (es : List Expr) (f : AF) : Prop :=
  ∃ t, PA X es t ∧ ∀ env m σ G Q, RelS X.K G σ env → RelM X.K G m → J σ G.H → GPost X Wx σ G (RepRs X.K) (f env m) Q → t σ G.H Q
theorem MA.j {J : L2.St → Hp → Prop} {es : List Expr} {f : AF} (h : MA X Wx es f) : MAJ X Wx J es f := let ⟨t, p, q⟩ := h; ⟨t, p, fun env m σ G Q S R _ h => q env m σ G Q S R h⟩
theorem maj_cons {J : L2.St → Hp → Prop} [JMono J] {e : Expr} {es : List Expr} {f : EF} {g : AF} (ha : MEJ X Wx J e f) (hr : MAJ X Wx J es g) (hs : starEach (e :: es) X.env = (false, eval e X.env) :: starEach es X.env := by rfl) : MAJ X Wx J (e :: es) (aCons f g) := by
  obtain ⟨ta, pa, qa⟩ := ha
  obtain ⟨tr, pr, qr⟩ := hr
  refine ⟨_, pa_cons pa pr hs, fun env m σ G Q S R j h => qa env m σ G _ S R j (GPost.bind0 h fun x m1 v G1 le1 R1 q1 h1 => ?_)⟩
  refine qr env m1 σ G1 _ (S.mono le1) R1 (JMono.mono R le1 j) (GPost.bind1 h1 le1 fun xs m2 vs G2 le2 R2 q2 h2 => ?_)
  exact h2 (v :: vs) G2 (le1.trans le2) R2 (.cons (q1.mono le2) (Paired.mono (fun _ _ z => z.weak le1.tr) q2))
theorem mej_tup {J : L2.St → Hp → Prop} {es : List Expr} {f : AF} {x1} {pos : Pos} (h : MAJ X Wx J es f) : MEJ X Wx J (.Tuple es x1 pos) (eTup f) := by
  obtain ⟨t, p, q⟩ := h
  refine ⟨_, pe_tup p, fun env m σ G Q S R j h => q env m σ G _ S R j (GPost.bind weakR h fun ws m1 vs G1 le1 R1 q1 h1 => ?_)⟩
  cases e : asDs ws with
  | none => rw [e] at h1; exact False.elim h1
  | some ds =>
    rw [e] at h1
    have r := asDs_reps q1 e
    by_cases hz : ds.length ≤ sizeLine
    · simp only [hz, if_true] at h1
      exact ⟨by rw [r.length]; exact hz, fun p hp => finT R1 h1 r hp⟩
    · simp only [hz, if_false] at h1
      exact False.elim h1
end
/-! ### a lambda made -/
def TabsS (S : Addr → Prop) (H : Hp) : Prop := ∀ p ∈ HasW.tabs, S p.1 ∧ ∃ ps : Array Value, H p.1 = some (.tbl ps) ∧ TriplesOk ps.toList ∧ ∀ (pos : Pos) (cv : Value), codeAmong pos ps.toList = some cv → ∃ c, cv = .ref c ∧ S c ∧ H c = some (LamX.CodeO c (p.2 pos.line pos.col))
section
variable {X : Cx} {pins : List (Addr × Obj)} {σ : L2.St} {H : Hp} {s : Shared} {S : Addr → Prop}
theorem lam_make3 {nm : Nat → Nat → Str} {c P : Addr} {params : Arguments} {body : Expr} {scope : Scope} {pos : Pos} {E : Value → Shared → Prop} {Q : Value → Shared → Prop} (I : Inv X pins σ H s) (TB : LamX.TabB X.base X.mg c P) (hcode : X.env.code = .ref c)
    (hm : (P, nm) ∈ HasW.tabs) (hn : nm pos.line pos.col = X.env.qual ++ "<lambda>") (hu : ∀ p ∈ HasW.tabs, p.1 = P → p.2 = nm) (hT : TabsS S H) (hS : ∀ b, H b = none → S b) (hdef : defaultsOf params X.env = ([], [])) (hfree : ∀ y ∈ scope.names, y.2 = .free → ∃ c, X.env.cells.lookup y.1 = some c)
    (h : ∀ (f c' : Addr) (pm ctv : Value) (H1 : Hp) (s' : Shared), Inv X pins σ H1 s' → LamX.ExtN H H1 → (∀ b, H1 b = none → H b = none) → TabsS S H1 →
      s'.heap.get? f = some (PySem.W.kla_obj "<lambda>" (X.env.qual ++ "<lambda>") params body scope (cloFrom X.env.cells scope.names []) pm c' ctv) → H1 f = none → f ∉ frs X.stack → H1 c' = some (LamX.CodeO c' (X.env.qual ++ "<lambda>")) → Q (.ref f) s') :
    wpAny (model X.prog X.w) X.A (eval (.Lambda params body scope pos) X.env) Q E s := by
  obtain ⟨sP, ps, hP, ht, ha⟩ := hT _ hm
  refine PySem.W.kla_eval hdef ?_
  have bP : s.heap.BuiltinsAt X.mg P := TB.bm.keeps I.bk
  have hP' : s.heap.get? P = some { cls := .none, data := .fields ps } := I.hok P _ hP
  have nofr : ∀ f, s.heap.objs.size ≤ f → f ∉ frs X.stack := fun f hf z => by
    rcases List.mem_cons.mp (I.stkSub _ z) with e | e
    · have h1 := I.lt
      rw [← e] at h1
      exact Nat.lt_irrefl _ (Nat.lt_of_lt_of_le h1 hf)
    · exact I.nofs hf e
  cases hc : codeAmong pos ps.toList with
  | none =>
    refine PySem.W.kla_makeFunction (mg := X.mg) (c := c) (P := P) (ps := ps) (closure_ok hfree) I.ok.glob (I.mod.glob.keeps I.bk) hcode (TB.code.keeps I.bk) hP' ht hc TB.gP bP fun c' ctv h' tk hx hge hlt hrec htb => ?_
    obtain ⟨c2, oc, vs, t, e2, hoc, hd, hv⟩ := hrec
    cases e2
    have hsz : s.heap.objs.size ≤ h'.objs.size := Nat.le_trans hge (Nat.le_of_lt hlt)
    have nC : H c' = none := I.hok.fresh hge
    have I1 := LamX.inv_table (t' := tk) (more := #[rawInt pos.line, rawInt pos.col, .ref c']) (h' := h'.push (PySem.W.kla_obj "<lambda>" (X.env.qual ++ "<lambda>") params body scope (cloFrom X.env.cells scope.names []) ((X.mg "__name__").getD .none) c' ctv)) I hP
      (fun b o hb e => Heap.get?_push_of_some _ (hx b o hb e)) (Heap.get?_push_of_some _ htb) hge ⟨oc, vs, t, Heap.get?_push_of_some _ hoc, hd, hv⟩
    have hE : LamX.ExtN H (upd (upd H P (.tbl (ps ++ #[rawInt pos.line, rawInt pos.col, .ref c']))) c' (LamX.CodeO c' (X.env.qual ++ "<lambda>"))) := fun b o e n => by
      rw [upd_ne (ne_of_none e nC), upd_ne (fun z => n ps (Option.some.inj (e.symm.trans (by rw [z]; exact hP))))]
      exact e
    have eL : (ps ++ #[rawInt pos.line, rawInt pos.col, .ref c']).toList = ps.toList ++ [rawInt pos.line, rawInt pos.col, .ref c'] := by simp
    refine h h'.objs.size c' ((X.mg "__name__").getD .none) ctv _ _ I1 hE (fun b e => upd_none (upd_none e)) (fun p hp => ?_) (Heap.get?_push_size _ rfl) ?_ (nofr _ hsz) upd_same
    · by_cases hb : p.1 = P
      · rw [hu p hp hb, hb]
        refine ⟨sP, _, by rw [upd_ne (ne_of_none hP nC), upd_same], by rw [eL]; exact PySem.TriplesOk_snoc _ _ _ _ ht, fun p' cv hcv => ?_⟩
        rw [eL] at hcv
        rcases NdefX.among_app2 _ ht hcv with z | ⟨z, z1, z2⟩
        · obtain ⟨c0, e1, e2, e3⟩ := ha p' cv z
          exact ⟨c0, e1, e2, hE _ _ e3 LamX.codeO_ne⟩
        · refine ⟨c', z, hS _ nC, ?_⟩
          rw [← z1, ← z2, hn]
          exact upd_same
      · obtain ⟨sp, ps', a1, a2, a3⟩ := hT p hp
        refine ⟨sp, ps', by rw [upd_ne (ne_of_none a1 nC), upd_ne hb]; exact a1, a2, fun p' cv hcv => ?_⟩
        obtain ⟨c0, e1, e2, e3⟩ := a3 p' cv hcv
        exact ⟨c0, e1, e2, hE _ _ e3 LamX.codeO_ne⟩
    · have n1 : h'.objs.size ≠ c' := Nat.ne_of_gt hlt
      have n2 : h'.objs.size ≠ P := Nat.ne_of_gt (Nat.lt_of_lt_of_le (Heap.lt_size hP') hsz)
      rw [upd_ne n1, upd_ne n2]
      exact I.hok.fresh hsz
  | some cv =>
    obtain ⟨c', e, sC, hco⟩ := ha pos cv hc
    subst e
    have hco : H c' = some (LamX.CodeO c' (nm pos.line pos.col)) := hco
    rw [hn] at hco
    refine PySem.W.kla_makeFunctionHit (mg := X.mg) (c := c) (P := P) (ps := ps) (closure_ok hfree) I.ok.glob (I.mod.glob.keeps I.bk) hcode (TB.code.keeps I.bk) hP' ht hc bP fun ctv h' tk hx hsz => ?_
    have I1 : Inv X pins σ H { s with heap := h'.push (PySem.W.kla_obj "<lambda>" (X.env.qual ++ "<lambda>") params body scope (cloFrom X.env.cells scope.names []) ((X.mg "__name__").getD .none) c' ctv), toks := tk } := I.kept fun b o e => Heap.get?_push_of_some _ (hx b o e)
    exact h h'.objs.size c' ((X.mg "__name__").getD .none) ctv H _ I1 (LamX.ExtN.refl H) (fun _ e => e) hT (Heap.get?_push_size _ rfl) (I.hok.fresh hsz) (nofr _ hsz) hco
end
/-- what the making leaves, over the worlds -/
theorem world_made {K : PySem.W.Frag} {G : Wd} {m : Mem} {H2 : Hp} (R : RelM K G m) (e : LamX.ExtN G.H H2) (b : ∀ a, H2 a = none → G.H a = none) (t : TabsS (· ∉ G.lv) H2) : Le G ⟨G.io, G.lv, H2⟩ ∧ RelM K ⟨G.io, G.lv, H2⟩ m := by
  have le : Le G ⟨G.io, G.lv, H2⟩ := ⟨R.lt, ⟨[], by simp, fun _ h => nomatch h⟩, fun _ h => .inl h, fun _ h _ => h, fun a o h _ nt => e a o h nt, b⟩
  refine ⟨le, R.dw, R.len, R.nd, fun a h z => R.lt a h (b a z), fun a h z => R.it a h (b a z), fun i a o h1 h2 => ?_, t, fun a z u e2 => by
    have e2 : H2 a = some u := e2
    cases y : G.H a with
    | none => exact absurd y (R.lt a z)
    | some o =>
      have n := R.nt a z o y
      rw [e a o y n.2] at e2
      cases e2
      exact n⟩
  have q := R.ob i a o h1 h2
  obtain ⟨u, u1, u2, _⟩ := obj_no q
  exact q.mono le (fun z => z) (fun z => z) ((e a u u1 u2).trans u1.symm)
/-! ### its calls -/
section
variable {P : Program} {w : World} {K : PySem.W.Frag} {mg : Str → Option Value} {base : Heap}
theorem lam_fv {k : Nat} {f c : Addr} {q : Str} {params : Arguments} {body : Expr} {scope : Scope} {N ps : List Str} {fe : EF} {pm ctv : Value} (S : NdefX.NScope N ps [] scope)
    (hb : ∀ us : List Value, us.length = ps.length → bindArgs (PySem.W.kla_fn "<lambda>" q params body scope [] pm (.ref c) ctv) ⟨us, []⟩ = pure (ps.zip us))
    (hbody : ∀ (A : Around) (outer : List PySem.Env) (s : Shared) (H : Hp) (E : XK), ME (NdefX.ncx (L2.CX P w) P w K mg base N ⟨"<lambda>", q, params, [], scope, [], c⟩ f A outer s H E) (fun c d _ H' => E c d H') body fe) :
    FvOk P w K mg base (k + 1) f (PySem.W.kla_obj "<lambda>" q params body scope [] pm c ctv) [] c q [] ps.length (runF N.length (sRet fe)) := by
  refine ⟨⟨none, _, #[], rfl⟩, fun A outer s H us vs Q E hr e0 fa hc r hsp => ?_⟩
  have ho := (fa.at_ _ List.mem_cons_self).1
  have lim : s.heap.NoLimit := e0.mod.nolimit.keeps fun b o e => (e0.bs b o e).1
  have hl := spM_len _ _ _ _ hsp
  refine PySem.W.kla_callFunE hr.depth ho rfl S.co S.gen rfl (NdefX.codeO_at e0.hok hc.code) ?_
  rw [hb us (by rw [← r.length]; exact hl)]
  refine wpAny_pure (wpAny_newFunctionEnv S.nocell (fun ⟨n, _⟩ hy => S.par n (List.of_mem_zip hy).1) (fun h₁ hns hsb => ⟨lim.fresh _ hsb, ?_⟩) S.kind)
  have kp : ∀ b o, s.heap.get? b = some o → h₁.get? b = some o := fun b o e => hsb.extBut b o (Nat.ne_of_lt (Heap.lt_size e)) (Heap.get?_push_of_some _ e)
  obtain ⟨G, ws, m, eH, R, hp, hwl, hq⟩ := hsp
  subst eH
  obtain ⟨t, p, qq⟩ := hbody A outer s G.H E
  have C : NdefX.CellsAt ([] : List (Str × Addr)) [] [] s.heap G.H := ⟨rfl, nofun, nofun, nofun⟩
  have I : Inv (NdefX.ncx (L2.CX P w) P w K mg base N ⟨"<lambda>", q, params, [], scope, [], c⟩ f A outer s G.H E) [] (NdefX.startF N vs []) G.H { s with heap := h₁, toks := s.toks + (ps.zip us).length } := NdefX.inv_startN S hr.hd e0 hl r C hns kp
  have es : NdefX.startF N vs [] = L2.start N vs := by unfold NdefX.startF L2.start; simp
  rw [es] at I
  show codeAny _ _ (.expr body (NdefX.envF ⟨"<lambda>", q, params, [], scope, [], c⟩ f s.heap.objs.size)) _ _
  refine PySem.W.kla_codeExpr (wpAny_mono (p.run [] _ _ G.H (fun v H' => Q v H') I (qq (env0 N.length ws) m _ G _ (RelS.start hp) R ?_)) (fun v s' hq => ?_) fun e s' hq => hq)
  · unfold runF sRet eS at hq
    cases e : fe (env0 N.length ws) m with
    | ok w' m' => rw [e] at hq; exact fun v G' le R' r => finM_ok R R' le r hq
    | err x m' =>
      rw [e] at hq
      intro c d G' le R' hx
      dsimp only at hq
      by_cases hc : clM m.length m' = true
      rotate_left
      · rw [if_neg hc] at hq
        exact False.elim hq
      rw [if_pos hc] at hq
      refine hq c d (G'.cut G none) le.cut (R.cut R' le hc) ⟨hx.1, ?_⟩
      rcases hx.2 with z | ⟨dd, fs, z0, z1, z2, z3, z4⟩
      · exact .inl z
      · refine .inr ⟨dd, fs, z0, z1, z2, fun z => z3 ?_, Paired.mono (fun _ _ z => ⟨z.1, Rep.mono Mo.cut z.2⟩) z4⟩
        obtain ⟨κ, ek, _⟩ := le.io
        rw [ek]
        exact List.mem_append_left _ z
    | bad => rw [e] at hq; exact False.elim hq
  · obtain ⟨w', H', J', rv, q⟩ := hq
    exact ⟨w', H', J'.os, J'.bare, J'.base, J'.hok, rv, q⟩
end
/-! ### x(e, lambda ..) -/
/-! ### a def whose code object is told; the law's end -/
section
variable {P : Program} {w : World} {K : PySem.W.Frag} {mg : Str → Option Value} {base : Heap}
theorem okFC {x qual : Str} {st : Stmt} {f c : Addr} {fd : FuncData} {N ps : List Str} {k : Nat} {g : SF} (F : Fun K x qual st f fd) (hcode : fd.code = .ref c) (S : FnScope N ps (defScope st))
    (hbody : ∀ (A : Around) (outer : List PySem.Env) (s : Shared) (H : Hp) (E : XK), Room k (A.deeper (PyProof.Rows.envOfC qual (defScope st) s.heap.objs.size f (.ref c))) →
      MB (cxM P w K mg base N qual (defScope st) f (.ref c) A outer s H E) (fun c d _ H' => E c d H') (defBody st) g) : FnOk P w K mg base (L2.CX P w) (k + 1) f fd ps (SpM K mg ps.length (runF N.length g)) := by
  obtain ⟨oc, od, kV, doc, pm, an, cdv, ct, osl, rfl, lk, hcd⟩ := F.ex
  obtain rfl : cdv = .ref c := hcode
  exact fn_of lk hcd S spM_len fun A outer s H vs Q E hr hsp => mb_run rfl rfl (hbody A outer s H E hr) hsp
end
/-! ### a, b = x, y -/
end M
set_option Elab.async false
set_option linter.all false
set_option maxRecDepth 100000
set_option maxHeartbeats 1000000
/-! M, P: an inner def that captured two things, handed over -/
namespace M
open PySem L2 PySem.W PyProof.Rows
variable [HasW]
/-! ### the inner def's object made, untracked -/
/-! ### its calls -/
/-! ### the def that makes it and hands it over -/
/-- the function stands in a slot; the captured things in theirs -/
def JN (i : Nat) (f c : Addr) (q : Str) (K : PySem.W.Frag) (js : List Nat) (rs : List (V × D)) (σ : L2.St) (H : Hp) : Prop := JF i f c q K rs σ H ∧ js.map (NdefX.slotAt σ) = rs.map fun p => some p.1
instance {i : Nat} {f c : Addr} {q : Str} {K : PySem.W.Frag} {js : List Nat} {rs : List (V × D)} : JMono (JN i f c q K js rs) := ⟨fun R le h => ⟨JMono.mono (J := JF i f c q K rs) R le h.1, h.2⟩⟩
/-! ### the pure level -/
/-! ### tables of several makers; the law's end -/
section
variable {nm : Nat → Nat → Str} {cs : List (Addr × Addr)}
theorem tabsM_in (h : HasW.tabs = cs.map fun p => (p.2, nm)) {c P : Addr} (hm : (c, P) ∈ cs) : (P, nm) ∈ HasW.tabs := by rw [h]; exact List.mem_map.mpr ⟨(c, P), hm, rfl⟩
theorem tabsM_u (h : HasW.tabs = cs.map fun p => (p.2, nm)) {P : Addr} : ∀ p ∈ HasW.tabs, p.1 = P → p.2 = nm := fun p hp _ => by
  rw [h] at hp
  obtain ⟨q, _, rfl⟩ := List.mem_map.mp hp
  rfl
def spLawTs (K : PySem.W.Frag) (cs : List (Addr × Addr)) : Sp := fun vs H Q _ => ∃ (a : Addr) (ns : List Int), vs = [.ref a] ∧ SqL K H a (ns.map V.int) ∧ ns.length ≤ 63 ∧ (∀ p ∈ cs, H p.2 = some (.tbl #[])) ∧ ∀ H', Q (.bl true) H'
theorem law_impTs {P : Program} {w : World} {K : PySem.W.Frag} {mg : Str → Option Value} {base : Heap} {k : Nat} {f : Addr} {fd : FuncData} {x : Str} {F : FF} (h : FnOk P w K mg base (L2.CX P w) k f fd [x] (SpM K mg 1 F)) (hw : HasW.tabs = cs.map fun p => (p.2, nm))
    (ht : ∀ ns : List Int, ns.length ≤ 63 → ∃ m, F [.ro (ns.map .int)] [] = .ok (.d (.bool true)) m) : FnOk P w K mg base (L2.CX P w) k f fd [x] (spLawTs K cs) := by
  refine h.imp fun vs H Q E ⟨a, ns, e, hs, hl, hT, hq⟩ => ?_
  subst e
  obtain ⟨m, hm⟩ := ht ns hl
  refine ⟨⟨[], [], H⟩, [.ro (ns.map .int)], [], rfl, ⟨fun i o e => by simp at e, rfl, List.nodup_nil, fun _ z => (nomatch z), fun _ z => (nomatch z), fun i a o e1 e2 => by simp at e2, fun p hp => ?_, fun _ z => (nomatch z)⟩, .cons ⟨a, _, rfl, ?_, Reps.ints ns⟩ .nil, rfl, ?_⟩
  · rw [hw] at hp
    obtain ⟨q, hq, rfl⟩ := List.mem_map.mp hp
    exact ⟨nofun, #[], hT q hq, True.intro, fun pos cv hc => by
      have z : codeAmong pos [] = some cv := hc
      simp [codeAmong] at z⟩
  · rcases hs with h | h
    · exact .inl ⟨fun z => (nomatch z), h⟩
    · exact .inr h
  · rw [hm]
    intro v G' le R r
    cases r
    exact hq _
end
/-! ### list(range(n)) -/
/-! ### for x in reversed(xs), xs an own list -/
/-! ### sorted(xs), xs whole numbers -/
end M
set_option Elab.async false
set_option linter.all false
set_option maxRecDepth 100000
set_option maxHeartbeats 1000000
/-! P: d.get(k) of an own dict -/
namespace M
open PySem L2
end M
set_option Elab.async false
set_option linter.all false
set_option maxRecDepth 100000
set_option maxHeartbeats 1000000
/-! P: the Draft (for layers made by mkdr.py) -/
namespace M
open PySem L2
end M
set_option Elab.async false
set_option linter.all false
set_option maxRecDepth 100000
set_option maxHeartbeats 1000000
/-! M: sets of tuples, a text ahead in each (nested keys): the table of the set -/
namespace M
open PySem L2 PySem.W PyProof.Rows
section
variable {P : Program} {w : World}
/-- a key of a set: a tuple, a text ahead in it -/
def NIs (h : Heap) (k : NestedKey) (x : Addr) : Prop := NestedIs h k (.ref x) ∧ k.depth ≤ 8 ∧ ∃ y r, k = .tup (.text y :: r)
/-! ### the table -/
abbrev nhk (w : World) (k : NestedKey) : Int := NestedKey.hash w k
def rowsN (w : World) (L : List (Addr × NestedKey)) : List (Int × Value) := L.map fun p => (nhk w p.2, Value.ref p.1)
structure SetN (w : World) (h : Heap) (a : Addr) (L : List (Addr × NestedKey)) (es : Array (Int × Value)) (ep : Nat) (t : SetTable) : Prop where
  ob : ∃ o, h.get? a = some o ∧ o.ExactSet ∧ o.data = .set es ep t
  rows : es.toList = rowsN w L
  tab : L2.TabOk t (L.map fun p => nhk w p.2)
  nd : (L.map (·.2)).Nodup
  tup : ∀ p ∈ L, NIs h p.2 p.1
  room : L.length * 5 < t.mask * 3
  few : L.length < 64
theorem NIs.keep {h h' : Heap} {k : NestedKey} {x : Addr} (z : NIs h k x) (hk : ∀ (c : Addr) (o : Obj) (vs : Array Value) (n : Nat), h.get? c = some o → o.data = Data.seq vs n → h'.get? c = some o) : NIs h' k x := ⟨z.1.at hk, z.2⟩
section
variable {h : Heap} {a : Addr} {L : List (Addr × NestedKey)} {es : Array (Int × Value)} {ep : Nat} {t : SetTable}
theorem SetN.len (I : SetN w h a L es ep t) : es.size = L.length := by
  have := congrArg List.length I.rows
  simpa [rowsN] using this
theorem SetN.at (I : SetN w h a L es ep t) {i : Nat} {p : Addr × NestedKey} (e : L[i]? = some p) : es[i]? = some (nhk w p.2, .ref p.1) := by
  have : es.toList[i]? = some (nhk w p.2, .ref p.1) := by rw [I.rows, rowsN, List.getElem?_map, e]; rfl
  simpa using this
end
end
end M
set_option Elab.async false
set_option linter.all false
set_option maxRecDepth 100000
set_option maxHeartbeats 1000000
/-! M and P: len(set(xs)), xs texts, or tuples with a text ahead -/
namespace M
open PySem L2 PySem.W PyProof.Rows
/-! ### the keys of a list -/
end M
set_option Elab.async false
set_option linter.all false
set_option maxRecDepth 100000
/-! P: further things that change no object -/
namespace M
open PySem L2
variable [HasW]
theorem pu_call {g : List W → Mem → Res W} {a : AF} (hg : ∀ ws m w m', g ws m = .ok w m' → m' = m) (ha : PuA a) : PuE (eCall g a) := by
  intro env m w m' h
  unfold eCall at h
  cases q : a env m with
  | ok x m1 =>
    rw [q, Res.bind_ok] at h
    rw [hg _ _ _ _ h, ha _ _ _ _ q]
  | err e m1 => rw [q] at h; cases h
  | bad => rw [q] at h; cases h
end M
set_option Elab.async false
set_option linter.all false
set_option maxRecDepth 100000
set_option maxHeartbeats 1000000
/-! f-strings of texts -/
namespace M
open PySem L2
variable [HasW]
section
variable {X : Cx} {Wx : WX}
def strOk (w : W) (m : Mem) : Res W := match w with
  | .d (.str y) => if y.length ≤ sizeLine then .ok (.d (.str y)) m else .bad
  | _ => .bad
end
/-! ### a call without arguments -/
/-! ### try .. except C as e, with fields of e in the suite -/
def flE (e : Exn) : Bool := e.fs.all fun q => flatX q.2
def sFlat (e : Exn) (f : SF) : SF := fun env m => if flE e = true then f env m else .bad
section
variable {X : Cx} {Wx : WX}
def cAF (X : Cx) (i : Nat) (fs : Exn → SF) (a : Addr) (cls : Value) (d : Option Addr) : TS := fun E σ H => ∃ env m G e fl, G.H = H ∧ RelS X.K G σ env ∧ RelM X.K G m ∧ (∃ τ : L2.St, σ = τ.set i (some (.ref a))) ∧ (∀ dd, d = some dd → G.H dd = some (.xd fl)) ∧ FlatFs fl (Exn.fs e) ∧ (Exn.fs e ≠ [] → ∃ dd, d = some dd) ∧ X.mg (Exn.cls e) = some cls ∧ SPost X WF G (fs e env m) E
theorem ms_tryAsF {i : Nat} {x n : Str} {c : Value} {body suite : List Stmt} {b₀ : Stmt} {np pos pos' : Pos} {tab : Str → Option Bool} {fb : SF} {fs : Exn → SF} (hs : X.stack = X.env :: X.outer) (hf : X.env.frame = some X.env.locals) (hN : X.N.Nodup) (hi : X.N[i]? = some n) (hln : X.env.kindOf n = some .local) (hc : Names X x c) (tk : Takes X Wx)
    (htab : ∀ n b cls, tab n = some b → X.mg n = some cls → PySem.W.exmOne X.K cls c = some b)
    (hb : ∀ (W : WX) (pn : List (Addr × Obj)) (xe : Value → Shared → Prop), Takes (X.tr pn xe) W → PassesOwn (model X.prog X.w) X.A X.env xe → MB (X.tr pn xe) W body fb)
    (hsu : ∀ (a : Addr) (oe : Obj) (cls : Value) (d : Option Addr) (pn : List (Addr × Obj)) (e : Exn) (fl : List (Str × V)), Zc cls d oe → (∃ vs, oe.data = .fields vs) → (e.fs ≠ [] → ∃ dd, d = some dd) → FlatFs fl e.fs → X.mg e.cls = some cls → MBJ (X.suite a ((a, oe) :: pn)) WF (HdF i a d fl) (b₀ :: suite) (fs e)) :
    MS X Wx (.Try body [.ExceptHandler (some (.Name x np)) (some n) (b₀ :: suite) pos'] [] [] pos) (sTryAs i tab fb fun e => sFlat e (fs e)) := by
  have hpss : ∀ (a : Addr) (oe : Obj) (cls : Value) (d : Option Addr) (pn : List (Addr × Obj)), Zc cls d oe → (∃ vs, oe.data = .fields vs) → PSs (X.suite a ((a, oe) :: pn)) (b₀ :: suite) (cAF X i fs a cls d) := fun a oe cls d pn hz hv => by
    refine ⟨fun pins s σ H D I ⟨env, m, G, e, fl, eH, S, R, ⟨τ, ej⟩, h0, h1, h2, h3, h⟩ => ?_⟩
    have j : HdF i a d fl σ G.H := by
      have hl : i < σ.length := by rw [I.len]; exact (List.getElem?_eq_some_iff.mp hi).1
      rw [ej, List.length_set] at hl
      exact ⟨by rw [ej]; exact List.getElem?_set_self hl, h0⟩
    obtain ⟨t, p, q⟩ := hsu a oe cls d pn e fl hz hv h2 h1 h3
    subst eH
    refine p.run pins s σ G.H D I (q env m σ G D S R j ?_)
    cases r : fs e env m with
    | nx e2 m2 => rw [r] at h; exact fun σ' G' l R' S' _ => h σ' G' l R' S'
    | bk e2 m2 => rw [r] at h; exact h
    | ct e2 m2 => rw [r] at h; exact h
    | rt w2 m2 => rw [r] at h; exact h
    | err e2 v2 m2 => rw [r] at h; exact h
    | bad => rw [r] at h; exact h
  refine ⟨_, ps_try_as (i := i) (tb := fun W => cB X W fb) (ts := cAF X i fs) hs hf hN hi hln hc tk (fun W pn xe tk' po => (hb W pn xe tk' po).pss) hpss, fun env m σ G E S R h => ?_⟩
  refine ⟨env, m, G, rfl, S, R, ?_⟩
  unfold sTryAs at h
  cases q : fb env m with
  | nx e m1 => rw [q] at h; exact h
  | bk e m1 => rw [q] at h; exact h
  | ct e m1 => rw [q] at h; exact h
  | rt w m1 => rw [q] at h; exact h
  | bad => rw [q] at h; exact h
  | err e env' m1 =>
    rw [q] at h
    dsimp only at h
    intro c' d σ' G' le R' S' ex
    cases t : tab e.cls with
    | none => rw [t] at h; exact False.elim h
    | some b =>
      rw [t] at h
      refine ⟨b, htab _ b c' t ex.1, fun hb a ha => ?_, fun hb => ?_⟩
      · subst hb
        dsimp only at h
        by_cases hfl : flE e = true
        rotate_left
        · have e0 : sFlat e (fs e) (env'.set i none) m1 = .bad := if_neg hfl
          rw [e0] at h
          exact False.elim h
        have e0 : sFlat e (fs e) (env'.set i none) m1 = fs e (env'.set i none) m1 := if_pos hfl
        rw [e0] at h
        have post : SPost X WF G' (fs e (env'.set i none) m1) { nx := fun σ' H' => E.nx (σ'.set i none) H', rt := E.rt, bk := fun σ' H' => E.bk (σ'.set i none) H', ct := fun σ' H' => E.ct (σ'.set i none) H' } := by
          cases r : fs e (env'.set i none) m1 with
          | nx e2 m2 =>
            rw [r] at h
            exact fun σ2 G2 l2 R2 S2 => h (σ2.set i none) G2 (le.trans l2) R2 (S2.setN i none)
          | bk e2 m2 =>
            rw [r] at h
            exact fun σ2 G2 l2 R2 S2 => h (σ2.set i none) G2 (le.trans l2) R2 (S2.setN i none)
          | ct e2 m2 =>
            rw [r] at h
            exact fun σ2 G2 l2 R2 S2 => h (σ2.set i none) G2 (le.trans l2) R2 (S2.setN i none)
          | rt w2 m2 => rw [r] at h; exact SPost.later (X := X) (Wx := WF) (r := .rt w2 m2) h le
          | err e2 v2 m2 => rw [r] at h; exact False.elim h
          | bad => rw [r] at h; exact False.elim h
        rcases ex.2 with ⟨z1, z2⟩ | ⟨dd, fl, z0, z1, z2, _, z3⟩
        · refine ⟨env'.set i none, m1, G', e, [], rfl, S'.setN i _, R', ⟨_, rfl⟩, fun dd hd => ?_, by rw [z1]; exact .nil, fun hn => absurd z1 hn, ex.1, post⟩
          rw [z2] at hd
          cases hd
        · refine ⟨env'.set i none, m1, G', e, fl, rfl, S'.setN i _, R', ⟨_, rfl⟩, fun d2 hd => ?_, flat_fs z3 hfl, fun _ => ⟨dd, z1⟩, ex.1, post⟩
          rw [z1] at hd
          cases hd
          exact z2
      · subst hb
        exact h c' d σ' G' le R' S' ex
end
noncomputable section
section
variable {sr : Nat} {ms : List Bool}
def gsFlat (e : Exn) (g : GSx) : GSx := fun γ ρ kn kb kc kr => if flE e = true then g γ ρ kn kb kc kr else .bad
theorem rs_flat {e : Exn} {f : SF} {g : GSx} (h : RS sr ms f g) : RS sr ms (sFlat e f) (gsFlat e g) := by
  intro γ fr ρ env m kn kb kc kr R nb
  unfold gsFlat at nb ⊢
  unfold sFlat
  by_cases q : flE e = true
  · rw [if_pos q] at nb ⊢
    rw [if_pos q]
    exact h γ fr ρ env m kn kb kc kr R nb
  · rw [if_neg q] at nb
    exact absurd rfl nb
end
end
end M
set_option Elab.async false
set_option linter.all false
set_option maxRecDepth 100000
/-! a list comprehension whose element may raise -/
namespace L2
open PySem PySem.Spec PyProof.Rows
end L2
set_option Elab.async false
set_option linter.all false
set_option maxRecDepth 100000
/-! M, P: a list comprehension whose element may raise -/
namespace M
open PySem L2
end M
set_option Elab.async false
set_option linter.all false
set_option maxRecDepth 100000
/-! exceptions with fields: raised to a try whose suite raises; raised in such a suite -/
namespace M
open PySem L2
variable [HasW]
noncomputable section
/-- the suite's exception, out of a state -/
def errK {γ : Type} (p : PR Unit) : PR γ := match p with
  | .err e => .err e
  | _ => .bad
def tryYK {σ γ : Type} (tab : Str → Option Bool) (b : PR (TO σ)) (h : PR Unit) (k : σ → PR γ) : PR γ := match b with
  | .ok (.nx s) => k s
  | .ok (.rt _ _) => .bad
  | .err e => (match tab e.cls with
    | some true => errK h
    | _ => .bad)
  | .bad => .bad
@[simp] theorem tryYK_ok {σ γ : Type} (tab : Str → Option Bool) (h : PR Unit) (s : σ) (k : σ → PR γ) : tryYK tab (.ok (.nx s)) h k = k s := rfl
end
end M
set_option Elab.async false
set_option linter.all false
set_option maxRecDepth 100000
/-! a def called with the exception that is handled -/
namespace M
open PySem L2
variable [HasW]
structure FnE (P : Program) (w : World) (K : PySem.W.Frag) (mg : Str → Option Value) (base : Heap) (k : Nat) (f : Addr) (fd : FuncData) (ps : List Str) (sp : Addr × Obj → Sp) : Prop where
  run : ∀ (A : Around) (outer : List PySem.Env) (s : Shared) (H : Hp) (args : Args) (us : List Value) (vs : List V) (Q : VK) (E : XK) (p : Addr × Obj), L2H.RoomH k A → L2H.PinOk outer H s p → Env0 P w K mg base A outer s H → BindsTo s fd args (ps.zip us) → Vals vs us → vs.length = ps.length → sp p vs H Q E →
    codeAny (model P w) A (.call (.ref f) args) (CR (L2.CX P w) outer P w H s Q E) s
/-- what it promises: the answer by the exception -/
def spE (K : PySem.W.Frag) (mg : Str → Option Value) (F : Exn → FF) : Addr × Obj → Sp := fun p vs H Q E => ∃ (G : Wd) (m : Mem) (e : Exn) (cls : Value) (d : Option Addr) (fl : List (Str × V)), G.H = H ∧ RelM K G m ∧ vs = [.ref p.1] ∧ Zc cls d p.2 ∧ (∃ z, p.2.data = .fields z) ∧ (e.fs ≠ [] → ∃ dd, d = some dd) ∧ FlatFs fl e.fs ∧ (∀ dd, d = some dd → H dd = some (.xd fl)) ∧ mg e.cls = some cls ∧ CPost K mg G (F e [] m) Q E
section
variable {K : PySem.W.Frag} {P : Program} {w : World} {mg : Str → Option Value} {base : Heap}
theorem unH {k : Nat} {A : Around} (r : L2H.RoomH k A) : A.units + 64 < cLine := by have := r.un; omega
theorem okE {x qual : Str} {st : Stmt} {f : Addr} {fd : FuncData} {N : List Str} {n : Str} {k : Nat} {g : Exn → SF} (F : Fun K x qual st f fd) (S : FnScope N [n] (defScope st))
    (hbody : ∀ (cdv : Value) (A : Around) (outer : List PySem.Env) (s : Shared) (H : Hp) (E : XK) (a : Addr) (oe : Obj) (e : Exn) (cls : Value) (d : Option Addr) (fl : List (Str × V)), L2H.RoomH k (A.deeper (PyProof.Rows.envOfC qual (defScope st) s.heap.objs.size f cdv)) → Zc cls d oe → (∃ z, oe.data = .fields z) → (e.fs ≠ [] → ∃ dd, d = some dd) → FlatFs fl e.fs → mg e.cls = some cls →
      MBJ (L2H.cxH (L2.CX P w) P w K mg base N qual (defScope st) f cdv A outer s H E (a, oe)) (fun c d _ H' => E c d H') (HdF 0 a d fl) (defBody st) (g e)) : FnE P w K mg base (k + 1) f fd [n] (spE K mg fun e => runF N.length (g e)) := by
  obtain ⟨oc, od, kV, doc, pm, an, cdv, ct, osl, rfl, lk, hcd⟩ := F.ex
  refine ⟨fun A outer s H args us vs Q E p hr hpin e0 hb r hl hsp => ?_⟩
  obtain ⟨G, m, e, cls, d, fl, rfl, R, rfl, hz, hf, hd, hfl, hdd, hm, hq⟩ := hsp
  have kin : K.In s.heap := e0.mod.kin.keeps fun b o z => (e0.bs b o z).1
  have nolim : s.heap.NoLimit := e0.mod.nolimit.keeps fun b o z => (e0.bs b o z).1
  have hk : ∀ y ∈ [n].zip us, (defScope st).names.lookup y.1 = some .local ∨ ((defScope st).names.lookup y.1 = some .cell ∧ ((cellsFrom (s.heap.objs.size + 1) (defScope st).names []).lookup y.1).isSome = true) := fun ⟨z, v⟩ hy =>
    (S.par z (List.of_mem_zip hy).1).elim .inl fun q => .inr ⟨q, PySem.W.cellsFrom_some _ _ _ (.inl q)⟩
  refine codeAny_call_function hr.depth (kin _ _ lk) rfl S.co S.gen rfl (PySem.W.codeRec_of kin hcd) (hb _ _ _ _ ?_)
  refine wpAny_newFunctionEnv_cells S.kind hk fun env he s1 y => ?_
  subst he
  refine ⟨nolim.keeps y.toInCall.keep, codeAny_func ?_⟩
  obtain ⟨t, ht, hb2⟩ := hbody cdv A outer s G.H E p.1 p.2 e cls d fl (hr.deeper _) hz hf hd hfl hm
  have J0 := L2H.inv_startH (CX := L2.CX P w) (E := E) (f := f) (cd := cdv) (qual := qual) S hpin e0 hl r y
  have hN : 0 < N.length := by
    cases q : N with
    | nil =>
      have := S.pre
      rw [q] at this
      cases this
    | cons _ _ => simp
  have hj : HdF 0 p.1 d fl (L2.start N [.ref p.1]) G.H := ⟨rfl, hdd⟩
  have SS : RelS K G (L2.start N [.ref p.1]) (env0 N.length []) := by
    refine ⟨?_, fun i w z => ?_⟩
    · unfold L2.start env0
      simp
      omega
    · unfold env0 at z
      rw [List.map_nil, List.nil_append, List.getElem?_replicate] at z
      split at z <;> cases z
  refine wpAny_mono (ht.run [] s1 (L2.start N [.ref p.1]) G.H { nx := fun _ H' => Q .non H', rt := Q } J0 (hb2 (env0 N.length []) m _ G _ SS R hj ?_)) (fun fl2 s' hs => ?_) fun z s' hs => hs
  · unfold runF at hq
    dsimp only at hq
    cases eg : g e (env0 N.length []) m with
    | rt w' m' => rw [eg] at hq; exact fun v G' le R' r => finM_ok R R' le r hq
    | nx e1 m' => rw [eg] at hq; exact fun σ' G' le R' S' _ => finM_ok (w := .d .none) (v := .non) R R' le Rep.non hq
    | bk e1 m' => rw [eg] at hq; exact False.elim hq
    | ct e1 m' => rw [eg] at hq; exact False.elim hq
    | err x e1 m' =>
      rw [eg] at hq
      intro c d σ' G' le R' S' hx
      by_cases hc : clM m.length m' = true
      rotate_left
      · dsimp only at hq
        rw [if_neg hc] at hq
        exact False.elim hq
      dsimp only at hq
      rw [if_pos hc] at hq
      refine hq c d (G'.cut G none) le.cut (R.cut R' le hc) ⟨hx.1, ?_⟩
      rcases hx.2 with z | ⟨dd, fs, z0, z1, z2, z3, z4⟩
      · exact .inl z
      · refine .inr ⟨dd, fs, z0, z1, z2, fun z => z3 ?_, Paired.mono (fun _ _ z => ⟨z.1, Rep.mono Mo.cut z.2⟩) z4⟩
        obtain ⟨κ, ek, _⟩ := le.io
        rw [ek]
        exact List.mem_append_left _ z
    | bad => rw [eg] at hq; exact False.elim hq
  · cases fl2 with
    | ret u =>
      obtain ⟨v, σ', H', J, rv, q⟩ := hs
      exact ⟨v, H', J.os, J.bare, J.base, J.hok, rv, q⟩
    | next =>
      obtain ⟨σ', H', J, q⟩ := hs
      exact ⟨.non, H', J.os, J.bare, J.base, J.hok, rfl, q⟩
    | brk => obtain ⟨_, _, _, q⟩ := hs; exact False.elim q
    | cont => obtain ⟨_, _, _, q⟩ := hs; exact False.elim q
end
section
variable {Y : Cx} {Wx : WX} {a : Addr} {oe : Obj} {cls : Value} {d : Option Addr} {i : Nat} {n x : Str} {p p1 pos : Pos} {e : Exn} {fs : List (Str × V)}
theorem mej_callE {k : Nat} {f : Addr} {fd : FuncData} {n1 : Str} {F : Exn → FF} (tk : Takes Y Wx) (hp : (a, oe) ∈ Y.pn) (hF : FnE Y.prog Y.w Y.K Y.mg Y.base k f fd [n1] (spE Y.K Y.mg F)) (hr : L2H.RoomH k Y.A) (hm : Y.mg x = some (.ref f)) (hk : PySem.W.keepIn Y.K (.ref f) = true) (hb : Binds Y.K fd [n1] []) (hg : Gl Y x)
    (hN : Y.N[i]? = some n) (hv : Vis Y.env.scope n) (hz : Zc cls d oe) (hf : ∃ vs, oe.data = .fields vs) (hm2 : Y.mg e.cls = some cls) (hd : e.fs ≠ [] → ∃ dd, d = some dd) (hfl : FlatFs fs e.fs)
    (hdx : (x == ("__debug__" : Str)) = false := by decide) (hdb : (n == ("__debug__" : Str)) = false := by decide) (hcd : (n == ("__classdict__" : Str)) = false := by decide) (he : starEach [.Name n p1] Y.env = (false, eval (.Name n p1) Y.env) :: starEach [] Y.env := by rfl) (hpl : (backTo pos (starEach [] Y.env)).any (·.1) = false := by rfl) :
    MEJ Y Wx (HdF i a d fs) (.Call (.Name x p) [.Name n p1] [] pos) (eCallF (F e) aNil) := by
  refine ⟨fun σ H Q => tCons (tVar i) tNil σ H fun vs H1 => spE Y.K Y.mg F (a, oe) vs H1 Q (WE Wx σ), ⟨fun pins s σ H Q I h => ?_⟩, fun env m σ G Q S R j h => ?_⟩
  · refine wpAny_Call_Name_kw (ld_glob I hg hm ?_ hdx)
    refine PySem.W.callWith_K (h₀ := Y.base) I.ok.mod.kin hk (thn ((pa_cons (pe_var hN hv hdb hcd) pa_nil he).run pos pins s σ H _ I h) fun us s1 ⟨vs, H1, I1, r, q⟩ => ⟨I1.kIn, ?_⟩) he hpl
    have hl : vs.length = [n1].length := by
      obtain ⟨_, _, _, _, _, _, _, _, rfl, _⟩ := q
      rfl
    have b := hb s1 us I1.kIn (by rw [List.append_nil, ← r.length]; exact hl)
    rw [List.append_nil] at b
    have P1 := I1.pin (a, oe) (List.mem_append_left _ hp)
    have hpin : L2H.PinOk Y.stack H1 s1 (a, oe) := ⟨P1.1, P1.2.1, fun z => (List.mem_cons.mp (I1.stkSub a z)).elim P1.2.2.1 P1.2.2.2.1, P1.2.2.2.2⟩
    refine wpAny_call (codeAny_mono (hF.run Y.A Y.stack s1 H1 ⟨us, []⟩ us vs Q (WE Wx σ) (a, oe) hr hpin I1.env0 b r hl q) fun r s' hq => ?_)
    cases r with
    | error z => exact passAt tk σ pins H1 s1 z s' I1 hq
    | ok fl =>
      cases fl with
      | ret u => exact I1.after hq
      | next => exact False.elim hq
      | brk => exact False.elim hq
      | cont => exact False.elim hq
  · refine ⟨_, j.1, G, m, e, cls, d, fs, rfl, R, rfl, hz, hf, hd, hfl, j.2, hm2, ?_⟩
    have h : GPost Y Wx σ G (RepR Y.K) (F e [] m) Q := h
    cases q : F e [] m with
    | ok w1 m1 => rw [q] at h; exact h
    | err y m1 => rw [q] at h; exact h
    | bad => rw [q] at h; exact h
end
end M
set_option Elab.async false
set_option linter.all false
set_option maxRecDepth 100000
/-! list.insert -/
namespace M
open PySem L2
end M
set_option Elab.async false
set_option linter.all false
set_option maxRecDepth 100000
/-! list.count of data; lists of what is asked of a handled exception -/
namespace L2
open PySem PySem.Spec PyProof.Rows
end L2
namespace M
open PySem L2
end M
set_option Elab.async false
set_option linter.all false
set_option maxRecDepth 100000
set_option maxHeartbeats 1000000
/-! a try whose clause names two classes; its suite raises -/
set_option Elab.async false
set_option linter.all false
set_option maxRecDepth 100000
/-! try / except (A, B): a suite that raises / else; try / except C: a suite that ends / else -/
namespace M
open PySem L2
variable [HasW]
noncomputable section
def noErrP {γ : Type} (p : PR γ) : PR γ := match p with
  | .err _ => .bad
  | p => p
def tryEK {σ γ : Type} (tab : Str → Option Bool) (b : PR (TO σ)) (h : PR γ) (k : σ → PR γ) : PR γ := match b with
  | .ok (.nx s) => k s
  | .ok (.rt _ _) => .bad
  | .err e => (match tab e.cls with
    | some true => noErrP h
    | some false => .err e
    | none => .bad)
  | .bad => .bad
@[simp] theorem tryEK_ok {σ γ : Type} (tab : Str → Option Bool) (h : PR γ) (s : σ) (k : σ → PR γ) : tryEK tab (.ok (.nx s)) h k = k s := rfl
end
end M
set_option Elab.async false
set_option linter.all false
set_option maxRecDepth 100000
set_option maxHeartbeats 1000000
/-! an __init__ over data that raises -/
namespace M
open PySem L2
end M
set_option Elab.async false
set_option linter.all false
set_option maxRecDepth 100000
set_option maxHeartbeats 1000000
/-! an empty dict as data; it is in no list of tuples -/
namespace PySem.SeqAt
open AutoSeq1 (wpAny_loadPart')
open MeetsSeq
end PySem.SeqAt
namespace M
open PySem PySem.Spec PyProof.Rows L2
end M
set_option Elab.async false
set_option linter.all false
set_option maxRecDepth 100000
set_option maxHeartbeats 1000000
/-! try: if t: x = a else: x = b / except C as e: .. -/
namespace M
open PySem L2
variable [HasW]
noncomputable section
section
variable {s sr : Nat} {ms : List Bool}
/-- where it fails, all but mi is as before -/
def EK (mi : List Bool) (f : SF) (g : GSx) : Prop := ∀ (γ : Type) (fr : Fr) (ρ : List PV) (env : Env) (m : Mem) (kn kb kc : List PV → PR γ) (kr : GV → List PV → PR γ), Rel fr ρ env m → g γ ρ kn kb kc kr ≠ .bad → ∀ e e1 m1, f env m = .err e e1 m1 → Rel fr (wip mi ρ) e1 m1
theorem ek_asg {mi : List Bool} {k : Nat} {fe : EF} {ge : GEx} {gt : GTg} (he : RE 0 [] fe ge) : EK mi (sAsg fe (gSet k)) (gsAsg ge gt) := by
  intro γ fr ρ env m kn kb kc kr R nb e e1 m1 h
  rcases he γ fr ρ env m _ R nb with ⟨w, m2, v, ρ1, h1, h2, h3, h4, h5⟩ | ⟨e', m2, h1, h2, h3⟩
  · simp only [sAsg, h1, eS_ok, asgK, gSet] at h
    cases w <;> cases h
  · simp only [sAsg, h1, eS_err] at h
    cases h
    have h3 : Rel fr (wip [] ρ) env m1 := by first | exact h3 | exact h2
    exact wip_sub (a := []) (b := mi) rfl h3
theorem ek_if {mi : List Bool} {fp : TF} {gp : GTx} {sa sb : SF} {xa xb : GSx} (hc : RT [] fp gp) (ha : EK mi sa xa) (hb : EK mi sb xb) : EK mi (sIf fp sa sb) (gsIf gp xa xb) := by
  intro γ fr ρ env m kn kb kc kr R nb e e1 m1 h
  rcases hc γ fr ρ env m _ R nb with ⟨t, m2, ρ1, h1, R1, h3, h4⟩ | ⟨e', m2, h1, h2, h3⟩
  · have e0 : gsIf gp xa xb γ ρ kn kb kc kr = _ := h3
    rw [e0] at nb
    have hw : wip mi ρ1 = wip mi ρ := (Ag.sub (b := mi) h4 rfl).wip
    rw [← hw]
    unfold sIf at h
    rw [h1] at h
    cases t with
    | true => exact ha γ fr ρ1 env m2 kn kb kc kr R1 nb e e1 m1 h
    | false => exact hb γ fr ρ1 env m2 kn kb kc kr R1 nb e e1 m1 h
  · unfold sIf at h
    rw [h1] at h
    cases h
    exact wip_sub (a := []) (b := mi) rfl h3
/-- a body whose failure leaves more as it was than its end does -/
def gsTryAs3 (tab : Str → Option Bool) (ds : List (Nat × Kd)) (mi mb : List Bool) (b : GSx) (h : Exn → GSx) : GSx := fun γ ρ kn kb kc kr =>
  tryKE tab (runT ds b ρ) (fun e => runT ds (h e) (wip mi ρ)) fun o => toK o (fun s => kn (put ds (wip mb ρ) s)) (fun x s => kr (.v x) (put ds (wip mb ρ) s))
theorem rs_tryAs3 {i : Nat} {tab : Str → Option Bool} {ds : List (Nat × Kd)} {mi mb : List Bool} {fb : SF} {gb : GSx} {fs : Exn → SF} {gh : Exn → GSx} (hb : RS sr mb fb gb) (ek : EK mi fb gb) (hh : ∀ e, RS sr mb (fs e) (gh e)) (him : isM mi i = true := by rfl) (hmb : subM mi mb = true := by rfl) (hi : isM mb i = true := by rfl)
    (hni : (ds.all fun p => p.1 != i) = true := by rfl) (hd : inM mb ds = true := by rfl) (hs : subM mb ms = true := by rfl) : RS sr ms (sTryAs i tab fb fs) (gsTryAs3 tab ds mi mb gb gh) := by
  intro γ fr ρ env m kn kb kc kr R nb
  have e0 : gsTryAs3 tab ds mi mb gb gh γ ρ kn kb kc kr = tryKE tab (runT ds gb ρ) (fun e => runT ds (gh e) (wip mi ρ)) fun o => toK o (fun s => kn (put ds (wip mb ρ) s)) (fun x s => kr (.v x) (put ds (wip mb ρ) s)) := rfl
  rw [e0] at nb ⊢
  have nb1 : runT ds gb ρ ≠ .bad := fun z => nb (by rw [z]; rfl)
  have px : ∀ s v, (put ds (wip mb ρ) s)[i]? = some v → v = PV.x := fun s v hv => by
    rw [put_get ds _ s i hni] at hv
    exact wip_x hi v hv
  have ami : Ag mb ρ (wip mi ρ) := (wip_wip mi ρ).sub hmb
  unfold sTryAs
  rcases runT_ok hb hd R (Ag.refl _ _) nb1 with ⟨s, e1, m1, r1, r2, r3, r4⟩ | ⟨x, s, w, e1, m1, r1, r2, r3, r4⟩ | ⟨e, e1, m1, r1, r2, r3, r4⟩
  · rw [r1, r2, tryKE_ok, toK_nx]
    exact .nx e1 m1 _ r3 rfl ((shape_ag hd s).sub hs) (r4.sub hs)
  · rw [r1, r2, tryKE_ok, toK_rt]
    exact .rt w m1 (.v x) _ e1 r3 r4 rfl ((shape_ag hd s).sub hs)
  · have e2 : runT ds gb ρ = gb (TO (St ds)) ρ (fun ρ3 => unK ds ρ3 fun s => .ok (.nx s)) (fun _ => .bad) (fun _ => .bad) (fun v ρ3 => endT ds v ρ3) := rfl
    have nb3 := nb1
    rw [e2] at nb3
    have Rw : Rel fr (wip mi ρ) e1 m1 := ek (TO (St ds)) fr ρ env m _ _ _ _ R nb3 e e1 m1 r2
    rw [r1] at nb ⊢
    rw [r2]
    dsimp only
    cases t : tab e.cls with
    | none =>
      exfalso
      refine nb ?_
      show (match tab e.cls with | some true => lcN _ _ | some false => PR.err e | none => .bad) = _
      rw [t]
    | some b =>
      cases b with
      | false =>
        have ez : (tryKE tab (.err e) (fun e => runT ds (gh e) (wip mi ρ)) fun o => toK o (fun s => kn (put ds (wip mb ρ) s)) (fun x s => kr (.v x) (put ds (wip mb ρ) s))) = .err e := by
          show (match tab e.cls with | some true => lcN _ _ | some false => PR.err e | none => .bad) = _
          rw [t]
        rw [ez]
        exact .err e e1 m1 (wip_sub hs r3) rfl (r4.sub hs)
      | true =>
        rw [tryKE_err t] at nb ⊢
        have nb2 : runT ds (gh e) (wip mi ρ) ≠ .bad := fun z => nb (by rw [z]; rfl)
        have r3' : Rel fr (wip mi ρ) (e1.set i none) m1 := Rel.drop1 Rw i (wip_x him)
        dsimp only
        rcases runT_ok (hh e) hd r3' ami nb2 with ⟨s, e2, m2, q1, q2, q3, q4⟩ | ⟨x, s, w, e2, m2, q1, q2, q3, q4⟩ | ⟨e', e2, m2, q1, q2, q3, q4⟩
        · rw [q1, q2, lcN_ok, toK_nx]
          exact .nx (e2.set i none) m2 _ (Rel.drop1 q3 i (px s)) rfl ((shape_ag hd s).sub hs) (((r4.trans (AgE.set hi)).trans (q4.trans (AgE.set hi))).sub hs)
        · rw [q1, q2, lcN_ok, toK_rt]
          exact .rt w m2 (.v x) _ e2 q3 q4 rfl ((shape_ag hd s).sub hs)
        · rw [q1] at nb
          exact absurd rfl nb
end
end
end M
set_option Elab.async false
set_option linter.all false
set_option maxRecDepth 100000
set_option maxHeartbeats 1000000
/-! isinstance of a frozen dict -/
namespace M
open PySem L2
end M
set_option Elab.async false
set_option linter.all false
set_option maxRecDepth 100000
set_option maxHeartbeats 1000000
/-! M: sorted(x, key=lambda ..); tuples that hold an own list at their end -/
namespace M
open PySem L2 PySem.W PyProof.Rows
variable [HasW]
section
variable {X : Cx} {pins : List (Addr × Obj)} {σ : L2.St} {s : Shared} {F : FF} {f c : Addr} {ob : Obj} {q : Str} {k : Nat}
theorem key_turnL (hF : FvOk X.prog X.w X.K X.mg X.base k f ob [] c q [] 1 F) (hr : Room k X.A.in1.in1) {G : Wd} (fa : FvAt f ob [] (frs X.stack) s.heap G.H) (hc : HCp X.K c q [] G.H) {m m1 : Mem} {v : V} {u : Value} {d kd : D} (I : Inv X pins σ G.H s) (R : RelM X.K G m) (r : RelV v u) (rp : Rep X.K G.lv G.H v d) (e : F [.d d] m = .ok (.d kd) m1)
    {E : Value → Shared → Prop} : wpAny (model X.prog X.w) X.A.in1.in1 (call (.ref f) [u]) (fun w s' => ∃ v' G', Inv X pins σ G'.H s' ∧ Un (frs X.stack) [] G.H G'.H s.heap s'.heap ∧ Le G G' ∧ RelM X.K G' m1 ∧ RelV v' w ∧ Rep X.K G'.lv G'.H v' kd) E s := by
  have h : SpM X.K X.mg 1 F [v] G.H (fun v' H' => ∃ G', G'.H = H' ∧ Le G G' ∧ RelM X.K G' m1 ∧ Rep X.K G'.lv G'.H v' kd) (fun _ _ _ => False) := by
    refine ⟨G, [.d d], m, rfl, R, .cons rp .nil, rfl, ?_⟩
    rw [e]
    exact fun v' G' le R' q => ⟨G', rfl, le, R', q⟩
  have r2 : Vals [v] [u] := .cons r .nil
  refine wpAny_call (codeAny_mono (hF.run X.A.in1.in1 X.stack s G.H [u] [v] _ _ hr I.env0.in1.in1 fa hc r2 h) fun rr s' hq => ?_)
  cases rr with
  | error e =>
    obtain ⟨_, _, _, _, _, _, _, _, _, _, _, _, z⟩ := hq
    exact z.elim
  | ok fl =>
    cases fl with
    | ret w =>
      obtain ⟨v', H', os, bare, un, hok, rv, G', rfl, le, R', rp'⟩ := id hq
      obtain ⟨hh, g, dd, t, os'⟩ := s'
      obtain rfl : os' = s.os := os
      exact ⟨v', G', I.call (h' := hh) (g' := g) (d' := dd) (t' := t) (ch := []) un hok bare (fun b z => absurd z (by simp)), un, le, R', rv, rp'⟩
    | next => exact False.elim hq
    | brk => exact False.elim hq
    | cont => exact False.elim hq
theorem sortL_rest (hF : FvOk X.prog X.w X.K X.mg X.base k f ob [] c q [] 1 F) (hr : Room k X.A.in1.in1) (hfr : f ∉ frs X.stack) {a kS : Addr} {G : Wd} {m mf : Mem} {vs : List Value} {xs : List V} {ds ks : List D} {e1 : Nat}
    (I : Inv X pins σ G.H s) (R : RelM X.K G m) (fa : FpOk X pins G.H a) (fk : FpOk X pins G.H kS) (nk : s.heap.get? kS = some (seqObj "list" #[] 0)) (na : s.heap.get? a = some (seqObj "list" #[] e1)) (hka : kS ≠ a) (hfk : f ≠ kS) (nf : s.heap.get? f = some ob) (nf0 : G.H f = none) (hc : HCp X.K c q [] G.H)
    (rv : Vals xs vs) (rp : Reps X.K G.lv G.H xs ds) (ek : keysM F ds m = .ok ks mf) (hB : keysB ks = true) (hZ : vs.length ≤ sizeLine) (hu : X.A.in1.in1.units + 100 < cLine) {P : PySem.Fin → Shared → Prop} {E : Value → Shared → Prop}
    (h : ∀ (xs' : List V) (G' : Wd) (s' : Shared), Le G G' → RelM X.K G' mf → a ∉ G'.io → a ∈ G'.lv → G'.H a = some (.lst xs') → Reps X.K G'.lv G'.H xs' (sortByK ks ds) → Inv X pins σ G'.H s' → P (.done (.ret .none)) s') :
    wpAny (model X.prog X.w) X.A.in1.in1 (ksk_rest a (.ref f) false vs.toArray e1 (.ref kS)) P E s := by
  obtain ⟨hal, hsk, hdp⟩ := keysB_iff hB
  have hkl := keysM_len ek
  have hdl : xs.length = ds.length := rp.length
  have hvl : xs.length = vs.length := rv.length
  unfold ksk_rest
  refine wpAny_bind (wpAny_rule ?_)
  first
    | rw [List.forIn_toArray]
    | (rw [← Array.forIn_toList]; simp only [List.toList_toArray])
    | rw [← Array.forIn_toList]
  refine wpAny_bind (ksk_fold (fun i s' => ∃ (G' : Wd) (m' : Mem) (kA : Array Value) (e : Nat) (kvs : List V), Inv X pins σ G'.H s' ∧ Le G G' ∧ RelM X.K G' m' ∧ G'.H a = none ∧ G'.H kS = none ∧ s'.heap.get? kS = some (seqObj "list" kA e) ∧ s'.heap.get? a = some (seqObj "list" #[] e1) ∧ s'.heap.get? f = some ob ∧ G'.H f = none ∧ Vals kvs kA.toList ∧ Reps X.K G'.lv G'.H kvs (ks.take i) ∧ keysM F (ds.drop i) m' = .ok (ks.drop i) mf) vs 0 s
    ⟨G, m, #[], 0, [], I, Le.refl R, R, fa.1, fk.1, nk, na, nf, nf0, .nil, by rw [List.take_zero]; exact .nil, ek⟩ ?step ?done)
  case step =>
    rintro j x s' hx ⟨G', m', kA, e, kvs, I', le', R', ha0, hk0, nk', na', hf', hf0, rk, rpk, ek'⟩
    simp only [Nat.zero_add] at rpk ek' ⊢
    have hj : j < vs.length := (List.getElem?_eq_some_iff.mp hx).1
    obtain ⟨v, hv, rvx⟩ := vals_get rv hx
    obtain ⟨d, hd, rpx⟩ := Reps.get' rp hv
    have ed : ds.drop j = d :: ds.drop (j + 1) := by
      obtain ⟨hl, hz⟩ := List.getElem?_eq_some_iff.mp hd
      rw [← hz]
      exact List.drop_eq_getElem_cons hl
    rw [ed] at ek'
    unfold keysM at ek'
    split at ek'
    · rename_i kd m1 eF
      cases er : keysM F (ds.drop (j + 1)) m1 with
      | ok ks2 m2 =>
        rw [er] at ek'
        have ek2 : Res.ok (kd :: ks2) m2 = .ok (ks.drop j) mf := ek'
        injection ek2 with q1 q2
        subst q2
        have hjk : j < ks.length := by omega
        have edk : ks.drop j = ks[j] :: ks.drop (j + 1) := List.drop_eq_getElem_cons hjk
        rw [edk] at q1
        injection q1 with q3 q4
        have hz : kA.size ≤ vs.length := by
          have h1 : kvs.length = kA.toList.length := rk.length
          have h2 := rpk.length
          have h3 : kA.toList.length = kA.size := Array.length_toList
          rw [List.length_take] at h2
          omega
        refine wpAny_bind (wpAny_attempt (wpAny_mono (key_turnL hF hr ⟨fun p hp => by rw [List.mem_singleton.mp hp]; exact ⟨hf', hf0, hfr⟩⟩ (hcp_keep R le' hc) I' R' rvx (rpx.mono le'.mo) eF (E := fun _ _ => False)) (fun w s'' he => ?_) fun _ _ hF => hF.elim))
        obtain ⟨v', G2, I2, un, le2, R2, rv2, rp2⟩ := he
        try dsimp only
        have a2 : s''.heap.get? a = some (seqObj "list" #[] e1) := un.keep a _ na' ha0 (fp_frs I' fa) (by simp)
        have k2 : s''.heap.get? kS = some (seqObj "list" kA e) := un.keep kS _ nk' hk0 (fp_frs I' fk) (by simp)
        have f2' : s''.heap.get? f = some ob := un.keep f _ hf' hf0 hfr (by simp)
        have f0' : G2.H f = none := un.free f _ hf' hf0 (by simp)
        have a0 : G2.H a = none := un.free a _ na' ha0 (by simp)
        have k0 : G2.H kS = none := un.free kS _ nk' hk0 (by simp)
        have s1 := Heap.SameBut.update s''.heap kS (Obj.mapSeq (·.push w))
        obtain ⟨c2, hc2⟩ : ∃ c2, (s''.heap.update kS (Obj.mapSeq (·.push w))).get? kS = some (seqObj "list" (kA.push w) c2) := ⟨_, get?_update_seq k2 (·.push w)⟩
        refine wpAny_bind (listUpdate_at k2 rfl ?_ (Nat.le_trans hz hZ) (Nat.le_trans (Nat.le_of_eq (Array.size_push ..)) (Nat.succ_le_succ (Nat.le_trans hz hZ))))
        obtain ⟨f1, f2, f3, f4, f5, f6⟩ := fk
        have I3 := I2.turned (t' := s''.toks) (it := kS) (h' := s''.heap.update kS (Obj.mapSeq (·.push w))) (fun b o hb e => (s1.2 b hb).trans e) k0 f2 f4 f5 f6
        have ek3 : ks.take (j + 1) = ks.take j ++ [kd] := by rw [List.take_add_one, List.getElem?_eq_getElem hjk, q3]; simp
        refine wpAny_pure ⟨rfl, G2, m1, kA.push w, c2, kvs ++ [v'], I3, le'.trans le2, R2, a0, k0, hc2, (s1.2 a hka.symm).trans a2, (s1.2 f hfk).trans f2', f0', ?_, ?_, ?_⟩
        · rw [show (kA.push w).toList = kA.toList ++ [w] by simp]
          exact vals_snoc rk rv2
        · rw [ek3]
          exact (rpk.mono le2.mo).append (.one rp2)
        · rw [er, q4]
      | err _ _ => rw [er] at ek'; cases ek'
      | bad => rw [er] at ek'; cases ek'
    · cases ek'
  case done =>
    rintro s' ⟨G', m', kA, e, kvs, I', le', R', ha0, hk0, nk', na', hf', hf0, rk, rpk, ek'⟩
    simp only [Nat.zero_add] at rpk ek'
    rw [List.take_of_length_le (by omega)] at rpk
    rw [List.drop_of_length_le (by omega), List.drop_of_length_le (by omega)] at ek'
    have ek2 : Res.ok ([] : List D) m' = .ok [] mf := ek'
    injection ek2 with _ q2
    subst q2
    have hsz : kA.size = vs.length := by
      have h1 : kvs.length = kA.toList.length := rk.length
      have h2 := rpk.length
      have h3 : kA.toList.length = kA.size := Array.length_toList
      omega
    have each : EachIs (fun u d => ∃ as, Reads s'.heap u d as) kA.toList ks := each_ofM (fun v u d hd r1 r2 => Dp.reads I' d v u (r2.dp (hdp d hd).2) r1) rk rpk
    try dsimp only
    refine wpAny_bind (listItems_at nk' rfl ?_)
    obtain ⟨h₁, g1, g2⟩ := restrict s'.heap fun b => decide (b ≠ kS)
    have gk : ∀ b, b ≠ kS → h₁.get? b = s'.heap.get? b := fun b hb => g1 b (decide_eq_true hb)
    have g0 : h₁.get? kS = none := g2 kS (decide_eq_false fun z => z rfl)
    have kp : KeepsBut a h₁ s'.heap := fun b o hb e => by
      by_cases hz : b = kS
      · rw [hz, g0] at e; cases e
      · rw [← gk b hz]; exact e
    refine keyH_end (b := false) (κ := dataKind s'.heap ks) (h₁ := h₁) kp g0 nk' na' hka (SortsAt.data each hal hsk (fun d hd => by have := (hdp d hd).1; omega)) hsz hZ fun h' tk c k3 n3 => ?_
    have eo := keyedOut_each (rev := false) (k := fun p : D × D => p.1) (bs := ks.zip ds) (vs := vs) (out := sortVals (dataKind s'.heap ks) false kA.toList vs) (by
      rw [List.map_fst_zip (by omega)]
      exact ⟨s'.heap, kA.toList, hal, rfl, each⟩) (each_zip rv (rp.mono le'.mo) hkl)
    obtain ⟨xs', rx, rpx⟩ := each_back eo
    have olen : xs'.length ≤ sizeLine := by
      have h1 := rx.length
      have h2 : (sortVals (dataKind s'.heap ks) false kA.toList vs).length = vs.length := sortVals_length false (by rw [Array.length_toList]; exact hsz)
      omega
    have I4 := I'.turnedL (t' := tk) (h' := h') (ch := [kS, a]) (fun b o hb e => by
      simp only [List.mem_cons, List.not_mem_nil, or_false, not_or] at hb
      exact k3 b o hb.2 (by rw [gk b hb.1]; exact e)) (fun b hb => by
      simp only [List.mem_cons, List.not_mem_nil, or_false] at hb
      rcases hb with rfl | rfl
      · exact fp_re fk hk0
      · exact fp_re fa ha0)
    have I5 := I4.take (t' := tk) (h' := h') (it := a) (o := .lst xs') (fun b ob _ e => e) (fp_re fa ha0) ⟨olen, _, c, rx, n3⟩
    exact h xs' ⟨G'.io, a :: G'.lv, upd G'.H a (.lst xs')⟩ _ (le'.trans (Le.newL R' ha0)) (R'.newL ha0) (R'.ne ha0).1 List.mem_cons_self upd_same (rpx.mono (Le.newL R' ha0).mo) I5
/-- the call of sorted behind its arguments -/
theorem call_sortL (hF : FvOk X.prog X.w X.K X.mg X.base k f ob [] c q [] 1 F) (hr : Room k X.A.in1.in1) (hfr : f ∉ frs X.stack) {G : Wd} {m mf : Mem} {a0 : Addr} {xs : List V} {ds ks : List D} {u : Value} {Q : VK} (I : Inv X pins σ G.H s) (nf : s.heap.get? f = some ob) (nf0 : G.H f = none) (hc : HCp X.K c q [] G.H)
    (ru : RelV (.ref a0) u) (R : RelM X.K G m) (hs : SqL X.K G.H a0 xs) (rp : Reps X.K G.lv G.H xs ds) (ek : keysM F ds m = .ok ks mf) (hB : keysB ks = true)
    (hQ : ∀ v G', Le G G' → RelM X.K G' mf → RepR X.K G.H G' v (.fl (sortByK ks ds)) → Q v G'.H) : wpAny (model X.prog X.w) X.A (call (.builtin "sorted") [u] [(Str.ofString "key", .ref f)]) (EP X pins σ Q) X.xe s := by
  cases ru
  have hlf : f < s.heap.objs.size := Heap.lt_size nf
  obtain ⟨its, rv, hl, hz⟩ := I.list hs
  have hz' : its.length ≤ sizeLine := by have : xs.length = its.length := rv.length; omega
  refine sorted_of_sort hl.isList hz' (ksk_s1 _ _) (fun x => ksk_l1 _ _) fun E' => ?_
  show wpAny _ _ (Builtin.«list.sort» ⟨[.ref (s.heap.objs.size + 1)], [(Str.ofString "key", .ref f)]⟩) _ _ _
  rw [ksk_t1]
  have ho := copyHeap_at s.heap its
  obtain ⟨e1, ho1⟩ : ∃ e1, ((copyHeap s.heap its).update (s.heap.objs.size + 1) (Obj.mapSeq fun _ => (#[] : Array Value))).get? (s.heap.objs.size + 1) = some (seqObj "list" #[] e1) := ⟨_, get?_update_seq ho fun _ => #[]⟩
  have hsz0 : (copyHeap s.heap its).objs.size = s.heap.objs.size + 2 := by
    unfold copyHeap
    rw [size_push', Heap.size_update, size_push']
  have hkS : (((copyHeap s.heap its).update (s.heap.objs.size + 1) (Obj.mapSeq fun _ => (#[] : Array Value))).push (seqObj "tuple" its.toArray 0)).objs.size = s.heap.objs.size + 3 := by rw [size_push', Heap.size_update, hsz0]
  unfold ksk_tree
  refine wpAny_bind (listItems_at ho rfl ?_)
  refine wpAny_bind (listUpdate_at ho rfl ?_ (by rw [List.size_toArray]; exact hz') (Nat.zero_le _))
  refine wpAny_bind (seqEpoch_at ho1 rfl ?_)
  refine wpAny_bind (wpAny_newTuple ?_ (by show its.length ≤ _; exact hz'))
  refine wpAny_bind (wpAny_newList ?_ (Nat.zero_le _))
  refine wpAny_holding ?_
  have keep : ∀ b u, s.heap.get? b = some u → ((((copyHeap s.heap its).update (s.heap.objs.size + 1) (Obj.mapSeq fun _ => (#[] : Array Value))).push (seqObj "tuple" its.toArray 0)).push (seqObj "list" #[] 0)).get? b = some u := fun b u e => by
    refine Heap.get?_push_of_some _ (Heap.get?_push_of_some _ ?_)
    rw [Heap.get?_update_ne _ _ _ _ (Nat.ne_of_lt (Nat.lt_succ_of_lt (Heap.lt_size e)))]
    exact copyHeap_old e
  have I2 : Inv X pins σ G.H { s with heap := (((copyHeap s.heap its).update (s.heap.objs.size + 1) (Obj.mapSeq fun _ => (#[] : Array Value))).push (seqObj "tuple" its.toArray 0)).push (seqObj "list" #[] 0), toks := s.toks } := I.kept keep
  have fa : FpOk X pins G.H (s.heap.objs.size + 1) := I.fpOk (Nat.le_succ _) (I.hok.fresh (Nat.le_succ _))
  have fk : FpOk X pins G.H (s.heap.objs.size + 3) := I.fpOk (by omega) (I.hok.fresh (by omega))
  have hun := hr.un
  refine sortL_rest (kS := (((copyHeap s.heap its).update (s.heap.objs.size + 1) (Obj.mapSeq fun _ => (#[] : Array Value))).push (seqObj "tuple" its.toArray 0)).objs.size) hF hr hfr I2 R fa (by rw [hkS]; exact fk) (Heap.get?_push_size _ rfl) (Heap.get?_push_of_some _ (Heap.get?_push_of_some _ ho1)) (by rw [hkS]; show ¬ (s.heap.objs.size + 3 = s.heap.objs.size + 1); omega) (by rw [hkS]; exact Nat.ne_of_lt (Nat.lt_of_lt_of_le hlf (Nat.le_add_right _ 3))) (keep f ob nf) nf0 hc rv rp ek hB hz' (by omega) fun xs' G' s' le R' n1 n2 n3 n4 I' => ⟨rfl, ?_⟩
  exact ⟨.ref (s.heap.objs.size + 1), G'.H, I', rfl, hQ _ G' le R' ⟨s.heap.objs.size + 1, xs', rfl, fa.1, n1, n2, n3, n4⟩⟩
end
section
variable {X : Cx} {Wx : WX} {F : FF} {k : Nat} {c P : Addr}
theorem me_sortL {nm : Nat → Nat → Str} {p pos lpos kp2 : Pos} {e : Expr} {g : AF} {params : Arguments} {body : Expr} {scope : Scope}
    (hM : ∀ (f c' : Addr) (pm ctv : Value), FvOk X.prog X.w X.K X.mg X.base k f (PySem.W.kla_obj "<lambda>" (X.env.qual ++ "<lambda>") params body scope [] pm c' ctv) [] c' (X.env.qual ++ "<lambda>") [] 1 F) (hr : Room (k + 2) X.A)
    (hs : Gl X "sorted") (hms : X.mg "sorted" = none) (TB : LamX.TabB X.base X.mg c P) (hcode : X.env.code = .ref c) (hmT : (P, nm) ∈ HasW.tabs) (hn : nm lpos.line lpos.col = X.env.qual ++ "<lambda>") (hu : ∀ p ∈ HasW.tabs, p.1 = P → p.2 = nm)
    (ha : MA X Wx [e] g) (hdef : defaultsOf params X.env = ([], []) := by rfl) (hcl : cloFrom X.env.cells scope.names [] = [] := by rfl) (hfree : (scope.names.all fun y => !decide (y.2 = .free)) = true := by decide +kernel)
    (he : backTo pos (starEach [e] X.env) = (false, eval e X.env) :: backTo pos (starEach [] X.env) := by rfl) (hpl : (backTo pos (starEach [e] X.env)).any (·.1) = false := by rfl) :
    ME X Wx (.Call (.Name "sorted" p) [e] [⟨some (Str.ofString "key"), .Lambda params body scope lpos, kp2⟩] pos) (eCall (sortW F) g) := by
  have hfree : ∀ y ∈ scope.names, y.2 = .free → ∃ c, X.env.cells.lookup y.1 = some c := fun y hy q => by
    have := List.all_eq_true.mp hfree y hy
    rw [q] at this
    simp at this
  obtain ⟨t, pa, qa⟩ := ha
  refine ⟨fun σ H Q => t σ H fun vs H1 => ∃ S : Addr → Prop, TabsS S H1 ∧ (∀ b, H1 b = none → S b) ∧ ∀ (c' : Addr) (H2 : Hp), LamX.ExtN H1 H2 → (∀ b, H2 b = none → H1 b = none) → TabsS S H2 →
    ∃ (a0 : Addr) (xs : List V) (ds ks : List D) (G : Wd) (m mf : Mem), vs = [.ref a0] ∧ G.H = H2 ∧ RelM X.K G m ∧ SqL X.K G.H a0 xs ∧ Reps X.K G.lv G.H xs ds ∧ keysM F ds m = .ok ks mf ∧ keysB ks = true ∧ ∀ v G', Le G G' → RelM X.K G' mf → RepR X.K G.H G' v (.fl (sortByK ks ds)) → Q v G'.H,
    ⟨fun pins s σ H Q I h => ?_⟩, fun env m σ G Q S R h => ?_⟩
  · refine wpAny_Call_Name_kw (ld_blt I hs hms (by decide +kernel : bootBuiltins (Str.ofString "sorted") = some (.builtin "sorted")) ?_ (by decide) (by decide))
    refine PyProof.Rows.callWith_kw (thn (pa.run pos pins s σ H _ I h) fun us s1 ⟨vs, H1, I1, r1, S, hT, hS, hh⟩ => ?_) he hpl rfl rfl
    show wpAny _ _ (evalAll ((do let v ← eval (.Lambda params body scope lpos) X.env; standAt pos; pure v) :: [])) _ _ s1
    refine wpAny_evalAll_cons (wpAny_bind (lam_make3 I1 TB hcode hmT hn hu hT hS hdef hfree fun f c' pm ctv H2 s2 I2 eN bk T2 hf hfn hfr hco => wpAny_bind (wpAny_standAt (wpAny_pure (wpAny_evalAll_nil ?_)))))
    obtain ⟨a0, xs, ds, ks, G, m, mf, rfl, rfl, R, hs, rp, ek, hB, hQ⟩ := hh c' H2 eN bk T2
    rw [hcl] at hf
    obtain _ | ⟨r1, r2⟩ := r1
    cases r2
    exact call_sortL (hM f c' pm ctv) hr.in1.in1 hfr I2 hf hfn (hcp0 hco) r1 R hs rp ek hB hQ
  · refine qa env m σ G _ S R (GPost.bind weakR h fun ws m1 vs G1 le1 R1 q1 h1 => ⟨(· ∉ G1.lv), R1.tb, fun b hb => (R1.ne hb).2, fun c' H2 eN bk T2 => ?_⟩)
    obtain ⟨le2, R2⟩ := world_made R1 eN bk T2
    unfold sortW at h1
    split at h1
    · rename_i w
      obtain ⟨v, rfl, r0⟩ := paired1 q1
      cases ea : asL w m1 with
      | none => simp only [ea] at h1; exact False.elim h1
      | some ds =>
        simp only [ea] at h1
        obtain ⟨a, us, rfl, g1, g2⟩ := asL_sq R2 (r0.mono le2) ea
        cases ek : keysM F ds m1 with
        | ok ks m2 =>
          rw [ek, Res.bind_ok] at h1
          by_cases hB : keysB ks = true
          · rw [if_pos hB] at h1
            exact ⟨a, us, ds, ks, _, m1, m2, rfl, rfl, R2, g1, g2, ek, hB, fun v G' le R' q => h1 v G' (le2.trans le) R' (q.weak bk)⟩
          · rw [if_neg hB] at h1
            exact False.elim h1
        | err _ _ => exact absurd ek keysM_err
        | bad => rw [ek] at h1; exact False.elim h1
    · exact False.elim h1
end
/-! ### tuples with an own list at their end: seen as data, taken apart -/
def see (w : W) (m : Mem) : Option D := match w with
  | .pr xs j => match m[j]? with
    | some (.lst ds) => some (.tuple (xs ++ [.list ds]))
    | _ => none
  | w => asD w m
section
variable {X : Cx} {Wx : WX} {K : PySem.W.Frag} {G : Wd} {m : Mem} {H0 : Hp}
theorem nDs_app : ∀ {xs ys : List D}, nDs (xs ++ ys) = true → nDs xs = true ∧ nDs ys = true
  | [], ys, h => ⟨rfl, h⟩
  | x :: xs, ys, h => by
    rw [List.cons_append] at h
    simp only [nDs, Bool.and_eq_true] at h ⊢
    obtain ⟨h1, h2⟩ := nDs_app h.2
    exact ⟨⟨h.1, h1⟩, h2⟩
theorem dps_snoc {v : V} {d : D} {H : Hp} : ∀ {vs : List V} {ds : List D}, DpAll K H vs ds → Dp K H v d → DpAll K H (vs ++ [v]) (ds ++ [d])
  | _, _, .nil, h => .cons h .nil
  | _, _, .cons a t, h => .cons a (dps_snoc t h)
theorem see_dp {v : V} {w : W} (R : RelM K G m) (h : RepR K H0 G v w) {x : D} (e : see w m = some x) (cl : nD x = true) : Dp K G.H v x := by
  cases w with
  | pr xs j =>
    obtain ⟨p, us, a, rfl, ht, hr, hj⟩ := h
    unfold see at e
    split at e
    · rename_i _ xs' j' e0
      cases e0
      split at e
      · rename_i ds eo
        cases e
        obtain ⟨h1, vs, h2, r⟩ := R.ob _ _ _ hj eo
        have cl : nDs (xs ++ [.list ds]) = true := cl
        obtain ⟨c1, c2⟩ := nDs_app cl
        simp only [nDs, Bool.and_true] at c2
        exact .tup ht.sq (dps_snoc (hr.dp c1) (.lst (SqL.of h2) (r.dp c2)))
      · cases e
    · rename_i hh e0
      exact absurd rfl (e0 _ _)
  | d y => exact asD_dp (w := .d y) R h e cl
  | obj i => exact asD_dp (w := .obj i) R h e cl
  | fl i => exact asD_dp (w := .fl i) R h e cl
  | ro i => exact asD_dp (w := .ro i) R h e cl
def eqVW (neg : Bool) (x y : W) (m : Mem) : Res W :=
  match see x m, see y m with
  | some a, some b => if (SeqAt.shaped a && SeqAt.shaped b) = true then .ok (.d (.bool (if neg then !PyData.eqv a b else PyData.eqv a b))) m else .bad
  | _, _ => .bad
theorem neVW_ok : OpOk X Wx (rNeD X.K) (eqVW true) := by
  intro σ G m v u x y H0 H1 Q R rx ry h
  unfold eqVW at h
  cases ex : see x m with
  | none => rw [ex] at h; exact False.elim h
  | some a =>
    cases ey : see y m with
    | none => rw [ex, ey] at h; exact False.elim h
    | some b =>
      rw [ex, ey] at h
      by_cases hz : (SeqAt.shaped a && SeqAt.shaped b) = true
      · simp only [hz, if_true] at h
        have hz' := Bool.and_eq_true_iff.mp hz
        exact ⟨a, b, see_dp R rx ex (nD_of (SeqAt.canLay_of_shaped hz'.1)), see_dp R ry ey (nD_of (SeqAt.canLay_of_shaped hz'.2)), hz'.1, hz'.2, finD R h (.bl _)⟩
      · simp only [hz] at h
        exact False.elim h
/-- x[k]: of such a tuple too -/
def ixQ (x y : W) (m : Mem) : Res W := match x, y with
  | .pr xs j, .d (.int k) => match L2.atI (xs.map W.d ++ [W.obj j]) k with
    | some w => .ok w m
    | none => .bad
  | x, y => ixW x y m
theorem ixQ_ok : OpOk X Wx (rIx X.K) ixQ := by
  intro σ G m v u x y H0 H1 Q R rx ry h
  unfold ixQ at h
  split at h
  · rename_i xs j k
    obtain ⟨p, us, a, rfl, ht, hr, hj⟩ := rx
    cases ry
    have pr : Paired (RepW X.K G) (us ++ [.ref a]) (xs.map W.d ++ [W.obj j]) := by
      refine Paired.snoc ?_ ⟨a, hj, rfl⟩
      clear h ht
      induction xs generalizing us with
      | nil => cases hr; exact .nil
      | cons x xs ih => cases hr with | cons a b => exact .cons a (ih _ b)
    split at h
    · rename_i w ew
      obtain ⟨z, z1, z2⟩ := paired_atI pr ew
      exact .inr (.inl ⟨p, _, k, z, rfl, rfl, ht.sq, z1, h z G (Le.refl R) R z2.r⟩)
    · exact False.elim h
  · exact ixW_ok σ G m v u x y H0 H1 Q R rx ry h
end
end M
set_option Elab.async false
set_option linter.all false
set_option maxRecDepth 100000
set_option maxHeartbeats 1000000
/-! P: found = f(..); if found != e: return False; found[1].clear(), where f hands back a tuple with an own list -/
namespace M
open PySem L2
variable [HasW]
noncomputable section
def lastL : D → Option (D × List D)
  | .tuple [a, .list ds] => some (a, ds)
  | _ => none
def Opened (r ro : Res W) : Prop := match r with
  | .ok (.d z) m' => match lastL z with
    | some (a, ds) => ro = .ok (.pr [a] m'.length) (m' ++ [.lst ds])
    | none => ro = .ok (.d z) m'
  | .ok _ _ => True
  | .err e m' => ro = .err e m'
  | .bad => True
def borrowK {γ : Type} (z r : D) (yes no : PR γ) : PR γ := if (SeqAt.shaped z && SeqAt.shaped r) = true then (if PyData.eqv z r = true then (match lastL z with
  | some _ => yes
  | none => .bad) else no) else .bad
def pvd {γ : Type} (v : GV) (k : D → PR γ) : PR γ := match v with
  | .v x => k x
  | .r _ => .bad
def gsBorrow (i : Nat) (gc gr : GEx) : GSx := fun γ ρ kn kb kc kr => if i < ρ.length then gc γ ρ fun v ρ1 => pvd v fun z => gr γ (ρ1.set i .x) fun u _ => pvd u fun r => borrowK z r (kn (ρ1.set i .x)) (kr (.v (.bool false)) (ρ1.set i .x)) else .bad
theorem lastL_iff {z : D} {a : D} {ds : List D} (h : lastL z = some (a, ds)) : z = .tuple [a, .list ds] := by
  unfold lastL at h
  split at h
  · cases h; rfl
  · cases h
def borrowS (fo rhs : EF) (i : Nat) : SF := sSeq (sAsg fo (gSet i)) (sSeq (sIf (tBool (eOp (eqVW true) (eVar i) rhs)) (sRet (eC (.bool false))) sNx) (sDrop (eMt0 "list" clearW (eOp ixQ (eVar i) (eC (.int 1))))))
theorem rs_borrow {sr : Nat} {ms : List Bool} {f fo rhs : EF} {gc gr : GEx} (i : Nat) (hc : RE 0 ms f gc) (hr : RE 0 ms rhs gr) (ho : ∀ env m, Opened (f env m) (fo env m)) (hp : ∀ env m w m', rhs env m = .ok w m' → m' = m) (hs : sr = 7 ∨ sr = 8 ∨ sr = 2) (hi : isM ms i = true := by rfl) :
    RS sr ms (sSeq (sAsg fo (gSet i)) (sSeq (sIf (tBool (eOp (eqVW true) (eVar i) rhs)) (sRet (eC (.bool false))) sNx) (sDrop (eMt0 "list" clearW (eOp ixQ (eVar i) (eC (.int 1))))))) (gsBorrow i gc gr) := by
  intro γ fr ρ env m kn kb kc kr R nb
  show SPo fr sr ms ρ env _ kn kb kc kr (borrowS fo rhs i env m)
  by_cases hl : i < ρ.length
  rotate_left
  · unfold gsBorrow at nb; rw [if_neg hl] at nb; exact absurd rfl nb
  have e0 : gsBorrow i gc gr γ ρ kn kb kc kr = gc γ ρ fun v ρ1 => pvd v fun z => gr γ (ρ1.set i .x) fun u _ => pvd u fun r => borrowK z r (kn (ρ1.set i .x)) (kr (.v (.bool false)) (ρ1.set i .x)) := by
    unfold gsBorrow; rw [if_pos hl]
  rw [e0] at nb ⊢
  have o := ho env m
  rcases hc γ fr ρ env m _ R nb with ⟨w, m1, v, ρ1, h1, R1, h3, h4, h5⟩ | ⟨e, m1, h1, h2, h3⟩
  rotate_left
  · rw [h1] at o
    have o : fo env m = .err e m1 := o
    rw [h2]
    unfold borrowS sSeq sAsg
    rw [o, eS_err]
    exact .err e env m1 h3 rfl (AgE.refl _ _)
  rw [h4] at nb ⊢
  cases v with
  | r k => exact absurd rfl nb
  | v z =>
    have h3 : w = .d z := h3
    subst h3
    rw [h1] at o
    have nb : (gr γ (ρ1.set i .x) fun u _ => pvd u fun r => borrowK z r (kn (ρ1.set i .x)) (kr (.v (.bool false)) (ρ1.set i .x))) ≠ .bad := nb
    show SPo fr sr ms ρ env (gr γ (ρ1.set i .x) fun u _ => pvd u fun r => borrowK z r (kn (ρ1.set i .x)) (kr (.v (.bool false)) (ρ1.set i .x))) kn kb kc kr _
    have hle : i < env.length := by rw [R.el]; exact hl
    -- the world behind the call, whatever slot i holds
    have go : ∀ (w' : W) (mA : Mem), fo env m = .ok w' mA → (∀ ds, w' ≠ .fl ds) → Rel fr (ρ1.set i .x) (env.set i (some w')) mA → see w' mA = some z →
        (∀ a ds, lastL z = some (a, ds) → ∃ mB, sDrop (eMt0 "list" clearW (eOp ixQ (eVar i) (eC (.int 1)))) (env.set i (some w')) mA = .nx (env.set i (some w')) mB ∧ Rel fr (ρ1.set i .x) (env.set i (some w')) mB) →
        SPo fr sr ms ρ env (gr γ (ρ1.set i .x) fun u _ => pvd u fun r => borrowK z r (kn (ρ1.set i .x)) (kr (.v (.bool false)) (ρ1.set i .x))) kn kb kc kr (borrowS fo rhs i env m) := by
      intro w' mA ef nf RA hz hcl
      have eA : asgK (gSet i) env w' mA = .nx (env.set i (some w')) mA := by
        unfold asgK gSet
        cases w' with
        | fl ds => exact absurd rfl (nf ds)
        | _ => rfl
      have ev : eVar i (env.set i (some w')) mA = .ok w' mA := by
        unfold eVar
        rw [List.getElem?_set_self hle]
      have agA : Ag ms ρ (ρ1.set i .x) := h5.trans (Ag.set hi)
      have ageA : AgE ms env (env.set i (some w')) := AgE.set hi
      have e1 : borrowS fo rhs i env m = sSeq (sIf (tBool (eOp (eqVW true) (eVar i) rhs)) (sRet (eC (.bool false))) sNx) (sDrop (eMt0 "list" clearW (eOp ixQ (eVar i) (eC (.int 1))))) (env.set i (some w')) mA := by
        show sSeq (sAsg fo (gSet i)) _ env m = _
        unfold sSeq sAsg
        rw [ef, eS_ok, eA]
      rw [e1]
      rcases hr γ fr (ρ1.set i .x) (env.set i (some w')) mA _ RA nb with ⟨w2, m2, u, ρ2, g1, R2, g3, g4, g5⟩ | ⟨e, m2, g1, g2, g3⟩
      rotate_left
      · rw [g2]
        unfold sSeq sIf tBool eOp
        rw [ev, Res.bind_ok, g1, Res.bind_err, Res.bind_err, eS_err]
        exact .err e _ m2 (by rw [agA.wip] at g3; exact g3) rfl ageA
      have em : m2 = mA := hp _ _ _ _ g1
      subst em
      rw [g4] at nb ⊢
      cases u with
      | r k => exact absurd rfl nb
      | v r =>
        have g3 : w2 = .d r := g3
        subst g3
        have nb : borrowK z r (kn (ρ1.set i .x)) (kr (.v (.bool false)) (ρ1.set i .x)) ≠ .bad := nb
        show SPo fr sr ms ρ env (borrowK z r (kn (ρ1.set i .x)) (kr (.v (.bool false)) (ρ1.set i .x))) kn kb kc kr _
        unfold borrowK at nb ⊢
        by_cases hsh : (SeqAt.shaped z && SeqAt.shaped r) = true
        rotate_left
        · rw [if_neg hsh] at nb; exact absurd rfl nb
        rw [if_pos hsh] at nb ⊢
        have et : tBool (eOp (eqVW true) (eVar i) rhs) (env.set i (some w')) m2 = .ok (!PyData.eqv z r) m2 := by
          unfold tBool eOp
          rw [ev, Res.bind_ok, g1, Res.bind_ok]
          have er : see (.d r) m2 = some r := rfl
          unfold eqVW
          rw [hz, er]
          dsimp only
          rw [if_pos hsh, Res.bind_ok]
          rfl
        by_cases hq : PyData.eqv z r = true
        · rw [if_pos hq] at nb ⊢
          cases hL : lastL z with
          | none => rw [hL] at nb; exact absurd rfl nb
          | some p =>
            obtain ⟨a, ds⟩ := p
            obtain ⟨mB, k1, k2⟩ := hcl a ds hL
            have e2 : sSeq (sIf (tBool (eOp (eqVW true) (eVar i) rhs)) (sRet (eC (.bool false))) sNx) (sDrop (eMt0 "list" clearW (eOp ixQ (eVar i) (eC (.int 1))))) (env.set i (some w')) m2 = .nx (env.set i (some w')) mB := by
              unfold sSeq sIf
              rw [et, eS_ok, hq]
              exact k1
            rw [e2]
            exact .nx _ mB _ k2 rfl agA ageA
        · rw [if_neg hq]
          have hq : PyData.eqv z r = false := by simpa using hq
          have e2 : sSeq (sIf (tBool (eOp (eqVW true) (eVar i) rhs)) (sRet (eC (.bool false))) sNx) (sDrop (eMt0 "list" clearW (eOp ixQ (eVar i) (eC (.int 1))))) (env.set i (some w')) m2 = .rt (.d (.bool false)) m2 := by
            unfold sSeq sIf
            rw [et, eS_ok, hq]
            rfl
          rw [e2]
          refine .rt _ m2 (.v (.bool false)) (ρ1.set i .x) (env.set i (some w')) RA ?_ rfl agA
          rcases hs with rfl | rfl | rfl
          · exact .inl rfl
          · rfl
          · exact .inl rfl
    cases hL : lastL z with
    | none =>
      have o : fo env m = .ok (.d z) m1 := by
        unfold Opened at o
        simp only [hL] at o
        exact o
      refine go (.d z) m1 o (fun _ => nofun) ?_ rfl (fun a ds h => by rw [hL] at h; cases h)
      refine (R1.setD i z).sub (by simp) (by simp) fun k v hk => ?_
      by_cases hki : k = i
      · subst hki
        by_cases hk2 : k < ρ1.length
        · rw [List.getElem?_set_self hk2] at hk; cases hk; exact .inl rfl
        · rw [List.getElem?_eq_none (by simpa using hk2)] at hk; cases hk
      · rw [List.getElem?_set_ne (Ne.symm hki)] at hk
        exact .inr ⟨by rw [List.getElem?_set_ne (Ne.symm hki)]; exact hk, rfl⟩
    | some p =>
      obtain ⟨a, ds⟩ := p
      have o : fo env m = .ok (.pr [a] m1.length) (m1 ++ [.lst ds]) := by
        unfold Opened at o
        simp only [hL] at o
        exact o
      have ez := lastL_iff hL
      have rel : ∀ ys, Rel fr (ρ1.set i .x) (env.set i (some (.pr [a] m1.length))) (m1 ++ [.lst ys]) := fun ys => by
        refine (R1.setL i ys).sub (by simp) (by simp) fun k v hk => ?_
        by_cases hki : k = i
        · subst hki
          by_cases hk2 : k < ρ1.length
          · rw [List.getElem?_set_self hk2] at hk; cases hk; exact .inl rfl
          · rw [List.getElem?_eq_none (by simpa using hk2)] at hk; cases hk
        · rw [List.getElem?_set_ne (Ne.symm hki)] at hk
          exact .inr ⟨by rw [List.getElem?_set_ne (Ne.symm hki)]; exact hk, by rw [List.getElem?_set_ne (Ne.symm hki), List.getElem?_set_ne (Ne.symm hki)]⟩
      have at_ : (m1 ++ [O.lst ds])[m1.length]? = some (.lst ds) := by simp
      refine go (.pr [a] m1.length) (m1 ++ [.lst ds]) o (fun _ => nofun) (rel ds) ?_ (fun a' ds' h => ⟨m1 ++ [.lst []], ?_, rel []⟩)
      · unfold see
        dsimp only
        rw [at_, ez]
        rfl
      · have ev : eVar i (env.set i (some (.pr [a] m1.length))) (m1 ++ [.lst ds]) = .ok (.pr [a] m1.length) (m1 ++ [.lst ds]) := by
          unfold eVar
          rw [List.getElem?_set_self hle]
        have ex : eOp ixQ (eVar i) (eC (.int 1)) (env.set i (some (.pr [a] m1.length))) (m1 ++ [.lst ds]) = .ok (.obj m1.length) (m1 ++ [.lst ds]) := by
          unfold eOp
          rw [ev, Res.bind_ok]
          rfl
        unfold sDrop eMt0
        rw [ex, Res.bind_ok]
        have ty : isTyW "list" (.obj m1.length) (m1 ++ [O.lst ds]) = true := by
          unfold isTyW
          simp only [at_]
          rfl
        rw [if_pos ty]
        unfold clearW asO
        simp only [at_, eS_ok]
        congr 1
        simp
/-! ### no object is changed or made -/
theorem pu_list : ∀ (ws : List W) (m : Mem) (w : W) (m' : Mem), listW ws m = .ok w m' → m' = m := by
  intro ws m w m' h
  unfold listW at h
  split at h
  · cases h; rfl
  · split at h
    · cases h; rfl
    · cases h
  · cases h
theorem walkW_mem {w : W} {m m' : Mem} {I : Its} (h : walkW w m = .ok I m') : m' = m := by
  unfold walkW at h
  repeat' split at h
  all_goals first | (cases h; rfl) | cases h
theorem pu_comp {f fe : EF} {g : GF} {vs : List Nat} (hf : PuE f) (he : PuE fe) : PuE (eLc (iSeq f) g tYesF fe vs) := by
  intro env m w m' h
  unfold eLc iSeq at h
  cases q : f env m with
  | ok x m1 =>
    rw [q, Res.bind_ok] at h
    have e1 := hf _ _ _ _ q
    subst e1
    cases q2 : walkW x m1 with
    | ok I m2 =>
      rw [q2, Res.bind_ok] at h
      have e2 := walkW_mem q2
      subst e2
      clear q2 q
      have go : ∀ (xs : List W) (acc : List D) (m2 : Mem), lcM I.chk (lcB g tYesF fe (wipeE env vs)) xs acc m2 = .ok w m' → m' = m2 := by
        intro xs
        induction xs with
        | nil =>
          intro acc m2 h
          unfold lcM at h
          split at h
          · cases h; rfl
          · cases h
        | cons x r ih =>
          intro acc m2 h
          unfold lcM at h
          split at h
          · cases qb : lcB g tYesF fe (wipeE env vs) x m2 with
            | ok o m3 =>
              rw [qb, Res.bind_ok] at h
              have e3 : m3 = m2 := by
                unfold lcB at qb
                split at qb
                · cases qb
                · rename_i e eg
                  unfold tYesF noErr at qb
                  simp only [Res.bind_ok, if_true] at qb
                  cases qe : fe e m2 with
                  | ok y m4 =>
                    rw [qe] at qb
                    have e4 := he _ _ _ _ qe
                    subst e4
                    simp only [Res.bind_ok] at qb
                    split at qb
                    · cases qb; rfl
                    · cases qb
                  | err _ _ => rw [qe] at qb; cases qb
                  | bad => rw [qe] at qb; cases qb
              subst e3
              cases o with
              | none => exact ih _ _ h
              | some d =>
                dsimp only at h
                split at h
                · exact ih _ _ h
                · cases h
            | err _ _ => rw [qb] at h; cases h
            | bad => rw [qb] at h; cases h
          · cases h
      exact go _ _ _ h
    | err _ _ => rw [q2] at h; cases h
    | bad => rw [q2] at h; cases h
  | err _ _ => rw [q] at h; cases h
  | bad => rw [q] at h; cases h
end
end M
set_option Elab.async false
set_option linter.all false
set_option maxRecDepth 100000
set_option maxHeartbeats 2000000
/-! a head that writes little: facts of any kind on what the module's names reach, read off the top's run -/
set_option Elab.async false
set_option linter.all false
set_option maxRecDepth 100000
set_option maxHeartbeats 4000000
namespace K25
open PySem L2 M
variable [HasW]
def tab_SlashError : Str → Option Bool := tabOf [("NoWord", true), ("NoForm", true)]
def tl_0 : List (Str × Bool) := [("NoWord", false), ("NoForm", false)]
def tl_1 : List (Str × Bool) := [("NoWord", true), ("NoForm", true)]
def tl_2 : List (Str × Bool) := [("NoWord", false), ("NoForm", true)]
def tl_3 : List (Str × Bool) := [("NoWord", true), ("NoForm", false)]
theorem lt0 : Str.ofString "basic" = S [98, 97, 115, 105, 99] := by decide +kernel
theorem lt1 : Str.ofString ")" = S [41] := by decide +kernel
theorem lt2 : Str.ofString "(" = S [40] := by decide +kernel
theorem lt5 : Str.ofString "a" = S [97] := by decide +kernel
theorem lt6 : Str.ofString "n" = S [110] := by decide +kernel
theorem lt7 : Str.ofString "y" = S [121] := by decide +kernel
theorem lt8 : Str.ofString "" = S [] := by decide +kernel
theorem lt9 : Str.ofString "/" = S [47] := by decide +kernel
theorem lt10 : Str.ofString "\\" = S [92] := by decide +kernel
theorem lt11 : Str.ofString "of" = S [111, 102] := by decide +kernel
theorem lt12 : Str.ofString "name" = S [110, 97, 109, 101] := by decide +kernel
theorem lt13 : Str.ofString "bound" = S [98, 111, 117, 110, 100] := by decide +kernel
theorem lt14 : Str.ofString "fn" = S [102, 110] := by decide +kernel
theorem lt15 : Str.ofString "any" = S [97, 110, 121] := by decide +kernel
theorem lt16 : Str.ofString "wrong" = S [119, 114, 111, 110, 103] := by decide +kernel
theorem lt17 : Str.ofString "told" = S [116, 111, 108, 100] := by decide +kernel
theorem lt18 : Str.ofString "form" = S [102, 111, 114, 109] := by decide +kernel
theorem lt19 : Str.ofString "word" = S [119, 111, 114, 100] := by decide +kernel
theorem lt20 : Str.ofString "w" = S [119] := by decide +kernel
theorem lt21 : Str.ofString "abcdefgh" = S [97, 98, 99, 100, 101, 102, 103, 104] := by decide +kernel
noncomputable def J1_show_form (r_show_form : D → PR (D)) (form_7 : D) (right_8 : D) : PR (D) :=
    (ixP form_7 (.int 1)).bind fun z9 =>
    (r_show_form z9).bind fun z10 =>
    (ixP form_7 (.int 0)).bind fun z11 =>
    (addP z10 z11).bind fun z12 =>
    (addP z12 right_8).bind fun z13 =>
    .ok z13
noncomputable def B_show_form (r_show_form : D → PR (D)) (form : D) : PR (D) :=
    (ixP form (.int 0)).bind fun z1 =>
    ((eqP false) z1 (.str (Str.ofString "basic"))).bind fun z2 =>
    ptb z2 fun t3 => if t3 = true then ((ixP form (.int 1)).bind fun z4 =>
    .ok z4)
    else ((ixP form (.int 2)).bind fun z5 =>
    (r_show_form z5).bind fun z6 =>
    (ixP form (.int 2)).bind fun z14 =>
    (ixP z14 (.int 0)).bind fun z15 =>
    ((eqP true) z15 (.str (Str.ofString "basic"))).bind fun z16 =>
    ptb z16 fun t17 => if t17 = true then ((addSP (.str (Str.ofString "(")) z6).bind fun z18 =>
    (addSP z18 (.str (Str.ofString ")"))).bind fun z19 =>
    (J1_show_form r_show_form form z19))
    else ((J1_show_form r_show_form form z6)))
noncomputable def P_show_form : Nat → D → PR (D)
  | 0, _ => .bad
  | n + 1, a0 => B_show_form (P_show_form n) a0
noncomputable def C1_forms_of (word_4 : D) (x5 : D) (s6 : Unit) : PR (Option D × Unit) :=
    ptup x5 fun u7 => pcons u7 fun other_8 u9 => pcons u9 fun form_10 u11 => pcons u11 fun term_12 u13 => pnil u13 (((eqP false) other_8 word_4).bind fun z14 =>
    ptb z14 fun t15 => if t15 = true then (.ok (some form_10, ())) else .ok (none, ()))
noncomputable def P_forms_of (book : D) (word : D) : PR (D) :=
    (ixP book (.int 2)).bind fun z1 =>
    (itemsP z1).bind fun xs2 =>
    lcK (C1_forms_of word) xs2 () [] fun acc16 s17 =>
    ((eqP false) (.list acc16) (.list [])).bind fun z18 =>
    ptb z18 fun t19 => if t19 = true then (.err ⟨"NoWord", [("place", (.int 0)), ("word", word)]⟩)
    else ((sortKP (P_show_form fuelR) [(.list acc16)]).bind fun z20 =>
    .ok z20)
noncomputable def C1_term_of (word_7 : D) (form_8 : D) (x9 : D) (s10 : Unit) : PR (Option D × Unit) :=
    ptup x9 fun u11 => pcons u11 fun other_12 u13 => pcons u13 fun own_14 u15 => pcons u15 fun term_16 u17 => pnil u17 (((eqP false) other_12 word_7).bind fun z18 =>
    ptb z18 fun t19 => if t19 = true then (((eqP false) own_14 form_8).bind fun z20 =>
    ptb z20 fun t21 => if t21 = true then (.ok (some term_16, ())) else .ok (none, ())) else if false = true then (.ok (some term_16, ())) else .ok (none, ()))
noncomputable def P_term_of (book : D) (word : D) (form : D) : PR (D) :=
    (P_forms_of book word).bind fun z1 =>
    ((inP true) form z1).bind fun z2 =>
    ptb z2 fun t3 => if t3 = true then (.err ⟨"NoForm", []⟩)
    else ((ixP book (.int 2)).bind fun z4 =>
    (itemsP z4).bind fun xs5 =>
    lcK (C1_term_of word form) xs5 () [] fun acc22 s23 =>
    (ixP (.list acc22) (.int 0)).bind fun z24 =>
    .ok z24)
noncomputable def P__law_take (cells : List D) (many : D) : PR (D × List D) :=
    ((eqP false) (.list cells) (.list [])).bind fun z1 =>
    ptb z1 fun t2 => if t2 = true then (.ok ((.int 0), cells))
    else ((popAtP cells [(.int 0)]).bind fun z3 =>
    (modP z3.1 many).bind fun z4 =>
    .ok (z4, z3.2))
noncomputable def S3__law_names (letters_34 : D) (x42 : D) (s43 : D × List D × Unit) (kn44 : (D × List D × Unit) → PR (D)) (kb45 : (D × List D × Unit) → PR (D)) : PR (D) :=
    (modP s43.1 (.int 26)).bind fun z46 =>
    (ixP letters_34 z46).bind fun z47 =>
    (appendP s43.2.1 [z47]).bind fun z48 =>
    (divP s43.1 (.int 26)).bind fun z49 =>
    kn44 (z49, z48.2, ())
noncomputable def J6__law_names (kn75 : (List D × Unit) → PR (D)) (kb76 : (List D × Unit) → PR (D)) (letters_79 : D) (word_88 : List D) (t89 : Bool) : PR (D) :=
    if t89 = true then (((eqP false) (.list word_88) (.list [(.str (Str.ofString "a")), (.str (Str.ofString "n")), (.str (Str.ofString "y"))])).bind fun z90 =>
    ptb z90 fun t91 => if t91 = true then (kn75 ([(.str (Str.ofString "y")), (.str (Str.ofString "n")), (.str (Str.ofString "a"))], ()))
    else (pts letters_79 fun st92 => (ixP (.list word_88) (.int 0)).bind fun z93 =>
    (sindexP st92 [z93]).bind fun z94 =>
    (addSP z94 (.int 1)).bind fun z95 =>
    (modP z95 (.int 26)).bind fun z96 =>
    (ixP letters_79 z96).bind fun z97 =>
    pti (.int 0) fun i98 => pix word_88 i98 fun n99 =>
    kn75 ((List.set word_88 n99 z97), ())))
    else kb76 (word_88, ())
noncomputable def S5__law_names (letters_65 : D) (found_70 : List D) (s74 : List D × Unit) (kn75 : (List D × Unit) → PR (D)) (kb76 : (List D × Unit) → PR (D)) : PR (D) :=
    pts (.str (Str.ofString "")) fun st100 => (joinP st100 [(.list s74.1)]).bind fun z101 =>
    ((inP false) z101 (.list found_70)).bind fun z102 =>
    ptb z102 fun t103 => if t103 = true then (J6__law_names kn75 kb76 letters_65 s74.1 true) else (((eqP false) (.list s74.1) (.list [(.str (Str.ofString "a")), (.str (Str.ofString "n")), (.str (Str.ofString "y"))])).bind fun z104 =>
    ptb z104 fun t105 => (J6__law_names kn75 kb76 letters_65 s74.1 t105))
noncomputable def J4__law_names (fw : Nat) (kn18 : (D × List D × Unit) → PR (D)) (letters_53 : D) (number_57 : D) (found_58 : List D) (word_62 : List D) : PR (D) :=
    whileK (S5__law_names letters_53 found_58) fw (word_62, ()) fun s106 =>
    pts (.str (Str.ofString "")) fun st107 => (joinP st107 [(.list s106.1)]).bind fun z108 =>
    (appendP found_58 [z108]).bind fun z109 =>
    kn18 (number_57, z109.2, ())
noncomputable def J2__law_names (fw : Nat) (kn18 : (D × List D × Unit) → PR (D)) (letters_22 : D) (alike_23 : D) (at__25 : D) (number_26 : D) (found_27 : List D) (k__28 : D) (own_29 : D) (long_30 : D) : PR (D) :=
    (rng1P [long_30]).bind fun xs31 =>
    foldK (S3__law_names letters_22) xs31 (own_29, [], ()) fun s50 =>
    ptt alike_23 fun t110 => if t110 = true then (pts letters_22 fun st111 => (ixP (.list s50.2.1) at__25).bind fun z112 =>
    (sindexP st111 [z112]).bind fun z113 =>
    (addSP z113 k__28).bind fun z114 =>
    (modP z114 (.int 26)).bind fun z115 =>
    (ixP letters_22 z115).bind fun z116 =>
    pti at__25 fun i117 => pix s50.2.1 i117 fun n118 =>
    (J4__law_names fw kn18 letters_22 number_26 found_27 (List.set s50.2.1 n118 z116)))
    else ((J4__law_names fw kn18 letters_22 s50.1 found_27 s50.2.1))
noncomputable def S1__law_names (fw : Nat) (letters_12 : D) (alike_13 : D) (size_14 : D) (at__15 : D) (x16 : D) (s17 : D × List D × Unit) (kn18 : (D × List D × Unit) → PR (D)) (kb19 : (D × List D × Unit) → PR (D)) : PR (D) :=
    ptt alike_13 fun t119 => if (!t119) = true then ((modP s17.1 (.int 8)).bind fun z120 =>
    (addSP (.int 1) z120).bind fun z121 =>
    (divP s17.1 (.int 8)).bind fun z122 =>
    (J2__law_names fw kn18 letters_12 alike_13 at__15 s17.1 s17.2.1 x16 z122 z121))
    else ((J2__law_names fw kn18 letters_12 alike_13 at__15 s17.1 s17.2.1 x16 s17.1 size_14))
noncomputable def PF__law_names (fw : Nat) (cell : D) (many : D) : PR (D) :=
    (modP cell (.int 2)).bind fun z1 =>
    ((eqP false) z1 (.int 0)).bind fun z2 =>
    (divP cell (.int 2)).bind fun z3 =>
    (modP z3 (.int 8)).bind fun z4 =>
    (addSP (.int 1) z4).bind fun z5 =>
    (divP cell (.int 16)).bind fun z6 =>
    (modP z6 z5).bind fun z7 =>
    (divP cell (.int 128)).bind fun z8 =>
    (rng1P [many]).bind fun xs9 =>
    foldK (S1__law_names fw (.str (Str.ofString "abcdefghijklmnopqrstuvwxyz")) z2 z5 z7) xs9 (z8, [], ()) fun s123 =>
    .ok (.list s123.2.1)
noncomputable def P__law_names : D → D → PR (D) := PF__law_names fuelW
noncomputable def J1__law_form (r__law_form : List D → D → D → PR (D × List D)) (cells_3 : List D) (basics_4 : D) (left_5 : D) (first_6 : D) : PR (D × List D) :=
    (divP first_6 (.int 6)).bind fun z7 =>
    (subP left_5 (.int 1)).bind fun z8 =>
    (modP z7 z8).bind fun z9 =>
    (addSP (.int 1) z9).bind fun z10 =>
    (r__law_form cells_3 basics_4 z10).bind fun z11 =>
    (divP first_6 (.int 3)).bind fun z12 =>
    (modP z12 (.int 2)).bind fun z13 =>
    (ixP (.list [(.str (Str.ofString "/")), (.str (Str.ofString "\\"))]) z13).bind fun z14 =>
    (subP left_5 z10).bind fun z15 =>
    (r__law_form z11.2 basics_4 z15).bind fun z16 =>
    .ok ((.tuple [z14, z11.1, z16.1]), z16.2)
noncomputable def J2__law_form (r__law_form : List D → D → D → PR (D × List D)) (cells_19 : List D) (basics_20 : D) (left_21 : D) (first_22 : D) (t23 : Bool) : PR (D × List D) :=
    if t23 = true then ((divP first_22 (.int 3)).bind fun z24 =>
    (lenP [basics_20]).bind fun z25 =>
    (modP z24 z25).bind fun z26 =>
    (ixP basics_20 z26).bind fun z27 =>
    .ok ((.tuple [(.str (Str.ofString "basic")), z27]), cells_19))
    else ((J1__law_form r__law_form cells_19 basics_20 left_21 first_22))
noncomputable def B__law_form (r__law_form : List D → D → D → PR (D × List D)) (cells : List D) (basics : D) (left : D) : PR (D × List D) :=
    (powP (.int 10) (.int 12)).bind fun z1 =>
    (P__law_take cells z1).bind fun z2 =>
    (ltP left (.int 2)).bind fun z17 =>
    ptb z17 fun t18 => if t18 = true then (J2__law_form r__law_form z2.2 basics left z2.1 true) else ((modP z2.1 (.int 3)).bind fun z28 =>
    ((eqP false) z28 (.int 0)).bind fun z29 =>
    ptb z29 fun t30 => (J2__law_form r__law_form z2.2 basics left z2.1 t30))
noncomputable def P__law_form : Nat → List D → D → D → PR (D × List D)
  | 0, _, _, _ => .bad
  | n + 1, a0, a1, a2 => B__law_form (P__law_form n) a0 a1 a2
noncomputable def S1__law_spread (cell_5 : D) (x7 : D) (s8 : D × D × List D × Unit) (kn9 : (D × D × List D × Unit) → PR (D)) (kb10 : (D × D × List D × Unit) → PR (D)) : PR (D) :=
    (mulP s8.1 (.int 48271)).bind fun z11 =>
    (modP z11 (.int 2147483647)).bind fun z12 =>
    (powP (.int 10) (.int 12)).bind fun z13 =>
    (modP s8.2.1 z13).bind fun z14 =>
    (powP (.int 10) (.int 12)).bind fun z15 =>
    (divP s8.2.1 z15).bind fun z16 =>
    (mulP z12 (.int 69621)).bind fun z17 =>
    (modP z17 (.int 2147483629)).bind fun z18 =>
    (modP cell_5 (.int 2)).bind fun z19 =>
    (ixP (.list [z14, z18]) z19).bind fun z20 =>
    (appendP s8.2.2.1 [z20]).bind fun z21 =>
    kn9 (z12, z16, z21.2, ())
noncomputable def P__law_spread (cell : D) (many : D) : PR (D) :=
    (modP cell (.int 2147483646)).bind fun z1 =>
    (addSP z1 (.int 1)).bind fun z2 =>
    (divP cell (.int 2)).bind fun z3 =>
    (rng1P [many]).bind fun xs4 =>
    foldK (S1__law_spread cell) xs4 (z2, z3, [], ()) fun s22 =>
    .ok (.list s22.2.2.1)
noncomputable def B__law_kind (r__law_kind : D → PR (D)) (form_here : D) : PR (D) :=
    (ixP form_here (.int 0)).bind fun z1 =>
    ((eqP false) z1 (.str (Str.ofString "basic"))).bind fun z2 =>
    ptb z2 fun t3 => if t3 = true then ((ixP form_here (.int 1)).bind fun z4 =>
    .ok z4)
    else ((ixP form_here (.int 2)).bind fun z5 =>
    (r__law_kind z5).bind fun z6 =>
    (ixP form_here (.int 1)).bind fun z7 =>
    (r__law_kind z7).bind fun z8 =>
    .ok (.tuple [z6, z8]))
noncomputable def P__law_kind : Nat → D → PR (D)
  | 0, _ => .bad
  | n + 1, a0 => B__law_kind (P__law_kind n) a0
noncomputable def S1__law_wanted (s1 : D × List D × Unit) (kn2 : (D × List D × Unit) → PR (D)) (kb3 : (D × List D × Unit) → PR (D)) : PR (D) :=
    pisi [.str] s1.1 fun z4 =>
    ptt z4 fun t5 => if (!t5) = true then ((ixP s1.1 (.int 0)).bind fun z6 =>
    (appendP s1.2.1 [z6]).bind fun z7 =>
    (ixP s1.1 (.int 1)).bind fun z8 =>
    kn2 (z8, z7.2, ()))
    else kb3 (s1.1, s1.2.1, ())
noncomputable def PF__law_wanted (fw : Nat) (kind_here : D) : PR (D) :=
    whileK (S1__law_wanted) fw (kind_here, [], ()) fun s9 =>
    .ok (.tuple [(.list s9.2.1), s9.1])
noncomputable def P__law_wanted : D → PR (D) := PF__law_wanted fuelW
noncomputable def P__law_of_two (name : D) (kinds : D) (rest : D) (one : D) (other : D) : PR (D) :=
    (lenP [kinds]).bind fun z1 =>
    (ixP kinds one).bind fun z2 =>
    (ixP kinds other).bind fun z3 =>
    (subP z1 (.int 1)).bind fun z4 =>
    (subP z4 one).bind fun z5 =>
    (subP z1 (.int 1)).bind fun z6 =>
    (subP z6 other).bind fun z7 =>
    .ok (.tuple [(.tuple [(.str (Str.ofString "of")), (.tuple [(.str (Str.ofString "of")), (.tuple [(.str (Str.ofString "name")), name]), (.tuple [(.str (Str.ofString "bound")), z5])]), (.tuple [(.str (Str.ofString "bound")), z7])]), (.list [(.tuple [name, (.tuple [z2, (.tuple [z3, rest])])])])])
noncomputable def J3__law_body (rest_25 : D) (name_26 : D) (many_28 : D) (one_29 : D) (t30 : Bool) : PR (D) :=
    if t30 = true then ((subP many_28 (.int 1)).bind fun z31 =>
    (subP z31 one_29).bind fun z32 =>
    .ok (.tuple [(.tuple [(.str (Str.ofString "bound")), z32]), (.list [])]))
    else (.ok (.tuple [(.tuple [(.str (Str.ofString "name")), name_26]), (.list [(.tuple [name_26, rest_25])])]))
noncomputable def J2__law_body (kinds_10 : D) (rest_11 : D) (name_12 : D) (cell_13 : D) (many_14 : D) (one_15 : D) : PR (D) :=
    (gtP many_14 (.int 0)).bind fun z16 =>
    ptb z16 fun t17 => if t17 = true then ((ixP kinds_10 one_15).bind fun z18 =>
    ((eqP false) z18 rest_11).bind fun z19 =>
    ptb z19 fun t20 => if t20 = true then ((modP cell_13 (.int 4)).bind fun z21 =>
    ((eqP false) z21 (.int 2)).bind fun z22 =>
    ptb z22 fun t23 => (J3__law_body rest_11 name_12 many_14 one_15 t23)) else (J3__law_body rest_11 name_12 many_14 one_15 false)) else (J3__law_body rest_11 name_12 many_14 one_15 false)
noncomputable def J4__law_body (kinds_38 : D) (rest_39 : D) (name_40 : D) (cell_41 : D) (many_42 : D) (one_43 : D) (t44 : Bool) : PR (D) :=
    if t44 = true then ((subP many_42 (.int 1)).bind fun z45 =>
    (subP z45 one_43).bind fun z46 =>
    (ixP kinds_38 one_43).bind fun z47 =>
    .ok (.tuple [(.tuple [(.str (Str.ofString "of")), (.tuple [(.str (Str.ofString "name")), name_40]), (.tuple [(.str (Str.ofString "bound")), z46])]), (.list [(.tuple [name_40, (.tuple [z47, rest_39])])])]))
    else ((J2__law_body kinds_38 rest_39 name_40 cell_41 many_42 one_43))
noncomputable def J1__law_body (kinds_2 : D) (rest_3 : D) (name_4 : D) (cell_5 : D) (many_6 : D) : PR (D) :=
    (divP cell_5 (.int 4)).bind fun z7 =>
    (maxP2 [(.int 1), many_6]).bind fun z8 =>
    (modP z7 z8).bind fun z9 =>
    (gtP many_6 (.int 0)).bind fun z33 =>
    ptb z33 fun t34 => if t34 = true then ((modP cell_5 (.int 4)).bind fun z35 =>
    ((eqP false) z35 (.int 1)).bind fun z36 =>
    ptb z36 fun t37 => (J4__law_body kinds_2 rest_3 name_4 cell_5 many_6 z9 t37)) else (J4__law_body kinds_2 rest_3 name_4 cell_5 many_6 z9 false)
noncomputable def J5__law_body (kinds_53 : D) (rest_54 : D) (name_55 : D) (cell_56 : D) (many_57 : D) (t58 : Bool) : PR (D) :=
    if t58 = true then ((divP cell_56 (.int 4)).bind fun z59 =>
    (modP z59 many_57).bind fun z60 =>
    (addSP z60 (.int 1)).bind fun z61 =>
    (divP cell_56 (.int 32)).bind fun z62 =>
    (subP many_57 (.int 1)).bind fun z63 =>
    (modP z62 z63).bind fun z64 =>
    (addSP z61 z64).bind fun z65 =>
    (modP z65 many_57).bind fun z66 =>
    (P__law_of_two name_55 kinds_53 rest_54 z60 z66).bind fun z67 =>
    .ok z67)
    else ((J1__law_body kinds_53 rest_54 name_55 cell_56 many_57))
noncomputable def P__law_body (kinds : D) (rest : D) (name : D) (cell : D) : PR (D) :=
    (lenP [kinds]).bind fun z1 =>
    (gtP z1 (.int 1)).bind fun z48 =>
    ptb z48 fun t49 => if t49 = true then ((modP cell (.int 4)).bind fun z50 =>
    ((eqP false) z50 (.int 0)).bind fun z51 =>
    ptb z51 fun t52 => (J5__law_body kinds rest name cell z1 t52)) else (J5__law_body kinds rest name cell z1 false)
noncomputable def S1__law_meaning (rest_21 : D) (x23 : D) (s24 : D × Unit) (kn25 : (D × Unit) → PR (D)) (kb26 : (D × Unit) → PR (D)) : PR (D) :=
    kn25 ((.tuple [(.str (Str.ofString "of")), (.tuple [(.str (Str.ofString "fn")), rest_21, (.tuple [(.str (Str.ofString "bound")), (.int 0)])]), s24.1]), ())
noncomputable def S2__law_meaning (x36 : D) (s37 : D × Unit) (kn38 : (D × Unit) → PR (D)) (kb39 : (D × Unit) → PR (D)) : PR (D) :=
    kn38 ((.tuple [(.str (Str.ofString "fn")), x36, s37.1]), ())
noncomputable def P__law_meaning (form_here : D) (name : D) (cell : D) : PR (D) :=
    (P__law_kind fuelR form_here).bind fun z1 =>
    (P__law_wanted z1).bind fun z2 =>
    ptup z2 fun u3 => pcons u3 fun kinds_4 u5 => pcons u5 fun rest_6 u7 => pnil u7 ((P__law_body kinds_4 rest_6 name cell).bind fun z8 =>
    ptup z8 fun u9 => pcons u9 fun term_10 u11 => pcons u11 fun some__12 u13 => pnil u13 ((divP cell (.int 256)).bind fun z14 =>
    (modP z14 (.int 3)).bind fun z15 =>
    (rng1P [z15]).bind fun xs16 =>
    foldK (S1__law_meaning rest_6) xs16 (term_10, ()) fun s27 =>
    (revP [kinds_4]).bind fun z28 =>
    (itemsP z28).bind fun xs29 =>
    foldK (S2__law_meaning) xs29 (s27.1, ()) fun s40 =>
    .ok (.tuple [s40.1, some__12])))
noncomputable def J1__law_form_text (r__law_form_text : D → PR (D)) (form_here_7 : D) (right_8 : D) : PR (D) :=
    (ixP form_here_7 (.int 1)).bind fun z9 =>
    (r__law_form_text z9).bind fun z10 =>
    (ixP form_here_7 (.int 0)).bind fun z11 =>
    (addP z10 z11).bind fun z12 =>
    (addP z12 right_8).bind fun z13 =>
    .ok z13
noncomputable def B__law_form_text (r__law_form_text : D → PR (D)) (form_here : D) : PR (D) :=
    (ixP form_here (.int 0)).bind fun z1 =>
    ((eqP false) z1 (.str (Str.ofString "basic"))).bind fun z2 =>
    ptb z2 fun t3 => if t3 = true then ((ixP form_here (.int 1)).bind fun z4 =>
    .ok z4)
    else ((ixP form_here (.int 2)).bind fun z5 =>
    (r__law_form_text z5).bind fun z6 =>
    (ixP form_here (.int 2)).bind fun z14 =>
    (ixP z14 (.int 0)).bind fun z15 =>
    ((eqP true) z15 (.str (Str.ofString "basic"))).bind fun z16 =>
    ptb z16 fun t17 => if t17 = true then ((addSP (.str (Str.ofString "(")) z6).bind fun z18 =>
    (addSP z18 (.str (Str.ofString ")"))).bind fun z19 =>
    (J1__law_form_text r__law_form_text form_here z19))
    else ((J1__law_form_text r__law_form_text form_here z6)))
noncomputable def P__law_form_text : Nat → D → PR (D)
  | 0, _ => .bad
  | n + 1, a0 => B__law_form_text (P__law_form_text n) a0
noncomputable def C5__law_book (word_60 : D) (x61 : D) (s62 : Unit) : PR (Option D × Unit) :=
    (ixP x61 (.int 0)).bind fun z63 =>
    ((eqP false) z63 word_60).bind fun z64 =>
    ptb z64 fun t65 => if t65 = true then (.ok (some x61, ())) else .ok (none, ())
noncomputable def J6__law_book (kn32 : (D × List D × Unit) → PR (D)) (pool_70 : List D) (names_here_71 : D) (words_72 : List D) (k__74 : D) (cell_75 : D) (numbers_76 : D) (form_here_77 : D) (word_78 : D) : PR (D) :=
    (divP cell_75 (.int 2147483646)).bind fun z80 =>
    (powP (.int 10) (.int 9)).bind fun z81 =>
    (modP z80 z81).bind fun z82 =>
    (ixP numbers_76 (.int 1)).bind fun z83 =>
    (addSP z82 z83).bind fun z84 =>
    (subP (.int 25) k__74).bind fun z85 =>
    (ixP (.list pool_70) z85).bind fun z86 =>
    (P__law_meaning form_here_77 z86 z84).bind fun z87 =>
    ptup z87 fun u88 => pcons u88 fun term_89 u90 => pcons u90 fun some__91 u92 => pnil u92 ((addP names_here_71 some__91).bind fun z93 =>
    (appendP words_72 [(.tuple [word_78, form_here_77, term_89])]).bind fun z94 =>
    kn32 (z93, z94.2, ()))
noncomputable def J7__law_book (kn32 : (D × List D × Unit) → PR (D)) (pool_100 : List D) (names_here_101 : D) (words_102 : List D) (k__104 : D) (cell_105 : D) (numbers_106 : D) (form_here_107 : D) (word_108 : D) (t110 : Bool) : PR (D) :=
    if t110 = true then (kn32 (names_here_101, words_102, ()))
    else ((J6__law_book kn32 pool_100 names_here_101 words_102 k__104 cell_105 numbers_106 form_here_107 word_108))
noncomputable def C8__law_book (x124 : D) (s125 : Unit) : PR (Option D × Unit) :=
    (ixP x124 (.int 1)).bind fun z126 =>
    .ok (some z126, ())
noncomputable def S4__law_book (basics_27 : D) (pool_28 : List D) (x30 : D) (s31 : D × List D × Unit) (kn32 : (D × List D × Unit) → PR (D)) (kb33 : (D × List D × Unit) → PR (D)) : PR (D) :=
    ptup x30 fun u34 => pcons u34 fun k__35 u36 => pcons u36 fun cell_37 u38 => pnil u38 ((P__law_spread cell_37 (.int 14)).bind fun z39 =>
    pti (.int 2) fun i40 => (slP z39 (some i40) none).bind fun z41 =>
    ptl z41 fun xs42 => (ixP z39 (.int 0)).bind fun z43 =>
    (modP z43 (.int 6)).bind fun z44 =>
    (addSP (.int 1) z44).bind fun z45 =>
    (P__law_form fuelR xs42 basics_27 z45).bind fun z46 =>
    (ixP z39 (.int 1)).bind fun z47 =>
    (modP z47 (.int 5)).bind fun z48 =>
    (ixP (.list pool_28) z48).bind fun z49 =>
    lcK (C5__law_book z49) s31.2.1 () [] fun acc66 s67 =>
    (lenP [(.list acc66)]).bind fun z95 =>
    (gtP z95 (.int 7)).bind fun z96 =>
    ptb z96 fun t97 => if t97 = true then (J7__law_book kn32 pool_28 s31.1 s31.2.1 k__35 cell_37 z39 z46.1 z49 true) else ((itemsP (.list acc66)).bind fun xs111 =>
    lcK (C8__law_book) xs111 () [] fun acc127 s128 =>
    ((inP false) z46.1 (.list acc127)).bind fun z129 =>
    ptb z129 fun t130 => (J7__law_book kn32 pool_28 s31.1 s31.2.1 k__35 cell_37 z39 z46.1 z49 t130)))
noncomputable def J3__law_book (basics_20 : D) (pool_21 : List D) (names_here_22 : D) (words_23 : List D) (cells_24 : D) : PR (D) :=
    (enumP [cells_24]).bind fun xs25 =>
    foldK (S4__law_book basics_20 pool_21) xs25 (names_here_22, words_23, ()) fun s131 =>
    (tupleP [basics_20]).bind fun z132 =>
    (tupleP [s131.1]).bind fun z133 =>
    (tupleP [(.list s131.2.1)]).bind fun z134 =>
    .ok (.tuple [z132, z133, z134])
noncomputable def J2__law_book (script_13 : List D) (basics_14 : D) (pool_15 : List D) : PR (D) :=
    pti (.int 2) fun i16 => pti (.int 16) fun i17 => (slP (.list script_13) (some i16) (some i17)).bind fun z18 =>
    (ixP (.list script_13) (.int 0)).bind fun z135 =>
    (modP z135 (.int 8)).bind fun z136 =>
    ((eqP false) z136 (.int 5)).bind fun z137 =>
    ptb z137 fun t138 => if t138 = true then ((ixP (.list script_13) (.int 0)).bind fun z139 =>
    (P__law_spread z139 (.int 12)).bind fun z140 =>
    (addP z18 z140).bind fun z141 =>
    pti (.int 12) fun i142 => (slP z141 none (some i142)).bind fun z143 =>
    (J3__law_book basics_14 pool_15 (.list []) [] z143))
    else ((J3__law_book basics_14 pool_15 (.list []) [] z18))
noncomputable def J1__law_book (script_10 : List D) (basics_11 : D) (pool_12 : List D) : PR (D) :=
    (ixP (.list script_10) (.int 1)).bind fun z144 =>
    (divP z144 (.int 8)).bind fun z145 =>
    (modP z145 (.int 4)).bind fun z146 =>
    (gtP z146 (.int 1)).bind fun z147 =>
    ptb z147 fun t148 => if t148 = true then ((ixP (.list script_10) (.int 1)).bind fun z149 =>
    (divP z149 (.int 32)).bind fun z150 =>
    (modP z150 (.int 5)).bind fun z151 =>
    (subP (.int 25) z151).bind fun z152 =>
    pti z152 fun i153 => pix pool_12 i153 fun n154 =>
    (J2__law_book script_10 basics_11 (List.set pool_12 n154 (.str (Str.ofString "any")))))
    else ((J2__law_book script_10 basics_11 pool_12))
noncomputable def P__law_book (script : List D) : PR (D) :=
    (ixP (.list script) (.int 0)).bind fun z1 =>
    (ixP (.list script) (.int 1)).bind fun z2 =>
    (modP z2 (.int 8)).bind fun z3 =>
    (addSP (.int 1) z3).bind fun z4 =>
    (P__law_names z1 z4).bind fun z5 =>
    (ixP (.list script) (.int 1)).bind fun z6 =>
    (divP z6 (.int 8)).bind fun z7 =>
    (P__law_names z7 (.int 26)).bind fun z8 =>
    ptl z8 fun pool_9 =>
    (ixP (.list script) (.int 1)).bind fun z155 =>
    (divP z155 (.int 8)).bind fun z156 =>
    (modP z156 (.int 4)).bind fun z157 =>
    ((eqP false) z157 (.int 1)).bind fun z158 =>
    ptb z158 fun t159 => if t159 = true then ((ixP (.list script) (.int 1)).bind fun z160 =>
    (divP z160 (.int 32)).bind fun z161 =>
    (modP z161 (.int 5)).bind fun z162 =>
    pti z162 fun i163 => pix pool_9 i163 fun n164 =>
    (J1__law_book script z5 (List.set pool_9 n164 (.str (Str.ofString "any")))))
    else ((J1__law_book script z5 pool_9))
noncomputable def P__law_alone (e : Exn) : PR D :=
    ptabF (tabOf tl_0) e fun z1 =>
    ptt z1 fun t2 => if t2 = true then (.ok (.bool false))
    else (ptabF (tabOf tl_1) e fun z3 =>
    ptb z3 fun t4 => if t4 = true then (ptabF (tabOf tl_2) e fun z5 =>
    ptabF (tabOf tl_3) e fun z6 =>
    ((eqP true) z5 z6).bind fun z7 =>
    .ok z7) else .ok (.bool false))
noncomputable def J1__law_told (e5 : Exn) (told_here_13 : D) (t14 : Bool) : PR (TO (D × Unit)) :=
    if t14 = true then (.ok (.nx ((.tuple [(.str (Str.ofString "form")), .none]), ())))
    else ((P__law_alone e5).bind fun z15 =>
    ptt z15 fun t16 => if t16 = true then (pfld ["NoWord"] "word" e5 fun z17 =>
    pfld ["NoWord"] "place" e5 fun z18 =>
    .ok (.nx ((.tuple [(.str (Str.ofString "word")), (.tuple [z17, z18])]), ())))
    else (.ok (.nx (told_here_13, ()))))
noncomputable def P__law_told (book_here : D) (word : D) (form_here : D) : PR (D) :=
    tryKE tab_SlashError (((isNP false) form_here .none).bind fun z1 =>
    ptb z1 fun t2 => if t2 = true then ((P_forms_of book_here word).bind fun z3 =>
    .ok (.nx ((.tuple [(.str (Str.ofString "told")), z3]), ())))
    else ((P_term_of book_here word form_here).bind fun z4 =>
    .ok (.nx ((.tuple [(.str (Str.ofString "told")), z4]), ()))))
    (fun e5 => if flE e5 = true then ((P__law_alone e5).bind fun z6 =>
    ptt z6 fun t7 => if t7 = true then (ptabF (tabOf tl_2) e5 fun z8 =>
    ptt z8 fun t9 => (J1__law_told e5 (.tuple [(.str (Str.ofString "wrong")), .none]) t9)) else (J1__law_told e5 (.tuple [(.str (Str.ofString "wrong")), .none]) false)) else .bad) fun o19 => toK o19 (fun s20 => .ok s20.1) (fun x21 s22 => .ok x21)
noncomputable def P__law_holds__key (one : D) : PR (D) :=
    (ixP one (.int 0)).bind fun z1 =>
    .ok z1
noncomputable def C1__law_holds (word_4 : D) (x6 : D) (s7 : Unit) : PR (Option D × Unit) :=
    (ixP x6 (.int 0)).bind fun z8 =>
    ((eqP false) z8 word_4).bind fun z9 =>
    ptb z9 fun t10 => if t10 = true then (.ok (some x6, ())) else .ok (none, ())
noncomputable def C2__law_holds (x26 : D) (s27 : Unit) : PR (Option D × Unit) :=
    ptup x26 fun u28 => pcons u28 fun name_29 u30 => pcons u30 fun form_here_31 u32 => pcons u32 fun term_33 u34 => pnil u34 ((P__law_form_text fuelR form_here_31).bind fun z35 =>
    .ok (some (.tuple [z35, form_here_31, term_33]), ()))
noncomputable def C4__law_holds (x57 : D) (s58 : Unit) : PR (Option D × Unit) :=
    (ixP x57 (.int 1)).bind fun z59 =>
    .ok (some z59, ())
noncomputable def S3__law_holds (book_here_40 : D) (word_41 : D) (own_44 : D) (x45 : D) (s46 : Unit) (kn47 : (Unit) → PR (D)) (kb48 : (Unit) → PR (D)) : PR (D) :=
    (P__law_told book_here_40 word_41 .none).bind fun z49 =>
    (itemsP own_44).bind fun xs50 =>
    lcK (C4__law_holds) xs50 () [] fun acc60 s61 =>
    borrowK z49 (.tuple [(.str (Str.ofString "told")), (.list acc60)]) (kn47 ()) (.ok (.bool false))
noncomputable def S5__law_holds (book_here_64 : D) (word_65 : D) (x69 : D) (s70 : Unit) (kn71 : (Unit) → PR (D)) (kb72 : (Unit) → PR (D)) : PR (D) :=
    ptup x69 fun u73 => pcons u73 fun text_74 u75 => pcons u75 fun form_here_76 u77 => pcons u77 fun term_78 u79 => pnil u79 ((P__law_told book_here_64 word_65 form_here_76).bind fun z80 =>
    ((eqP true) z80 (.tuple [(.str (Str.ofString "told")), term_78])).bind fun z81 =>
    ptb z81 fun t82 => if t82 = true then (.ok (.bool false))
    else (kn71 ()))
noncomputable def C7__law_holds (x101 : D) (s102 : Unit) : PR (Option D × Unit) :=
    (ixP x101 (.int 1)).bind fun z103 =>
    .ok (some z103, ())
noncomputable def S6__law_holds (book_here_85 : D) (word_86 : D) (own_89 : D) (x90 : D) (s91 : Unit) (kn92 : (Unit) → PR (D)) (kb93 : (Unit) → PR (D)) : PR (D) :=
    (itemsP own_89).bind fun xs94 =>
    lcK (C7__law_holds) xs94 () [] fun acc104 s105 =>
    ((inP true) x90 (.list acc104)).bind fun z106 =>
    ptb z106 fun t107 => if t107 = true then ((P__law_told book_here_85 word_86 x90).bind fun z108 =>
    ((eqP true) z108 (.tuple [(.str (Str.ofString "form")), .none])).bind fun z109 =>
    ptb z109 fun t110 => if t110 = true then (.ok (.bool false))
    else (kn92 ())) else if false = true then (.ok (.bool false))
    else (kn92 ())
noncomputable def P__law_holds (book_here : D) (word : D) (forms : D) : PR (D) :=
    (ixP book_here (.int 2)).bind fun z1 =>
    (itemsP z1).bind fun xs2 =>
    lcK (C1__law_holds word) xs2 () [] fun acc11 s12 =>
    ((eqP false) (.list acc11) (.list [])).bind fun z13 =>
    ptb z13 fun t14 => if t14 = true then ((P__law_told book_here word .none).bind fun z15 =>
    ((eqP false) z15 (.tuple [(.str (Str.ofString "word")), (.tuple [word, (.int 0)])])).bind fun z16 =>
    ptb z16 fun t17 => if t17 = true then ((ixP forms (.int 0)).bind fun z18 =>
    (P__law_told book_here word z18).bind fun z19 =>
    ((eqP false) z19 (.tuple [(.str (Str.ofString "word")), (.tuple [word, (.int 0)])])).bind fun z20 =>
    .ok z20) else .ok (.bool false))
    else ((itemsP (.list acc11)).bind fun xs21 =>
    lcK (C2__law_holds) xs21 () [] fun acc36 s37 =>
    (sortKP (P__law_holds__key) [(.list acc36)]).bind fun z38 =>
    (rng1P [(.int 2)]).bind fun xs39 =>
    foldK (S3__law_holds book_here word z38) xs39 () fun s62 =>
    (itemsP z38).bind fun xs63 =>
    foldK (S5__law_holds book_here word) xs63 () fun s83 =>
    (itemsP forms).bind fun xs84 =>
    foldK (S6__law_holds book_here word z38) xs84 () fun s111 =>
    .ok (.bool true))
noncomputable def C1_law (x14 : D) (s15 : Unit) : PR (Option D × Unit) :=
    (ixP x14 (.int 0)).bind fun z16 =>
    .ok (some z16, ())
noncomputable def C2_law (x65 : D) (s66 : Unit) : PR (Option D × Unit) :=
    (ixP x65 (.int 1)).bind fun z67 =>
    .ok (some z67, ())
noncomputable def C3_law (book_here_73 : D) (forms_78 : D) (x79 : D) (s80 : Unit) : PR (Option D × Unit) :=
    (P__law_holds book_here_73 x79 forms_78).bind fun z81 =>
    .ok (some z81, ())
noncomputable def P_law (script : List D) : PR (D) :=
    pti (.int 40) fun i1 => (slP (.list script) none (some i1)).bind fun z2 =>
    (lenP [(.list script)]).bind fun z3 =>
    (subP (.int 3) z3).bind fun z4 =>
    (maxP2 [(.int 0), z4]).bind fun z5 =>
    (repP (.list [(.int 0)]) z5).bind fun z6 =>
    (addP z2 z6).bind fun z7 =>
    ptl z7 fun xs8 => (P__law_book xs8).bind fun z9 =>
    (ixP z9 (.int 2)).bind fun z10 =>
    (itemsP z10).bind fun xs11 =>
    lcK (C1_law) xs11 () [] fun acc17 s18 =>
    (addP (.list acc17) (.list [(.str (Str.ofString "w")), (.str (Str.ofString ""))])).bind fun z19 =>
    (ixP z7 (.int 2)).bind fun z20 =>
    (P__law_spread z20 (.int 16)).bind fun z21 =>
    (ixP z21 (.int 0)).bind fun z22 =>
    (lenP [z19]).bind fun z23 =>
    (modP z22 z23).bind fun z24 =>
    (ixP z19 z24).bind fun z25 =>
    (ixP z21 (.int 1)).bind fun z26 =>
    (lenP [z25]).bind fun z27 =>
    (addSP z27 (.int 1)).bind fun z28 =>
    (modP z26 z28).bind fun z29 =>
    pti (.int 8) fun i30 => (slP z19 none (some i30)).bind fun z31 =>
    pti z29 fun i32 => (slP z25 none (some i32)).bind fun z33 =>
    (ixP z21 (.int 2)).bind fun z34 =>
    (modP z34 (.int 8)).bind fun z35 =>
    (ixP (.str (Str.ofString "abcdefgh")) z35).bind fun z36 =>
    (addP z33 z36).bind fun z37 =>
    pti z29 fun i38 => (slP z25 (some i38) none).bind fun z39 =>
    (addP z37 z39).bind fun z40 =>
    pti z29 fun i41 => (slP z25 none (some i41)).bind fun z42 =>
    (addSP z29 (.int 1)).bind fun z43 =>
    pti z43 fun i44 => (slP z25 (some i44) none).bind fun z45 =>
    (addP z42 z45).bind fun z46 =>
    (addP z31 (.list [z40, z46, (.str (Str.ofString ""))])).bind fun z47 =>
    pti (.int 3) fun i48 => (slP z21 (some i48) none).bind fun z49 =>
    ptl z49 fun xs50 => (ixP z9 (.int 0)).bind fun z51 =>
    (listP [z51]).bind fun z52 =>
    (ixP z21 (.int 3)).bind fun z53 =>
    (modP z53 (.int 6)).bind fun z54 =>
    (addSP (.int 1) z54).bind fun z55 =>
    (P__law_form fuelR xs50 z52 z55).bind fun z56 =>
    (ixP z9 (.int 2)).bind fun z57 =>
    (itemsP z57).bind fun xs58 =>
    lcK (C2_law) xs58 () [] fun acc68 s69 =>
    (addP (.list [z56.1]) (.list acc68)).bind fun z70 =>
    (itemsP z47).bind fun xs71 =>
    lcK (C3_law z9 z70) xs71 () [] fun acc82 s83 =>
    (allP [(.list acc82)]).bind fun z84 =>
    .ok z84
end K25
set_option Elab.async false
set_option linter.all false
set_option maxRecDepth 100000
set_option maxHeartbeats 4000000
namespace K25
open PySem L2 M
variable [HasW]
noncomputable def m_show_form (r_show_form : FF) : SF :=
    (sSeq (sIf (tBool (eOp (eqW false) (eOp ixW (eVar 0) (eC (.int 0))) (eC (.str (Str.ofString "basic"))))) (sRet (eOp ixW (eVar 0) (eC (.int 1)))) sNx)
    (sSeq (sAsg (eFrz (eCallF r_show_form (aCons (eOp ixW (eVar 0) (eC (.int 2))) aNil))) (gSet 1))
    (sSeq (sIf (tBool (eOp (eqW true) (eOp ixW (eOp ixW (eVar 0) (eC (.int 2))) (eC (.int 0))) (eC (.str (Str.ofString "basic"))))) (sAsg (eOp addAW (eOp addAW (eC (.str (Str.ofString "("))) (eVar 1)) (eC (.str (Str.ofString ")")))) (gSet 1)) sNx)
    (sRet (eOp addAW (eOp addAW (eCallF r_show_form (aCons (eOp ixW (eVar 0) (eC (.int 1))) aNil)) (eOp ixW (eVar 0) (eC (.int 0)))) (eVar 1))))))
noncomputable def F_show_form : Nat → FF
  | 0 => badF
  | n + 1 => runF 2 (m_show_form (F_show_form n))
noncomputable def m_forms_of : SF :=
    (sSeq (sAsg (eFrz (eLc (iSeq (eOp ixW (eVar 0) (eC (.int 2)))) (gTupF 3 (gsCons (gSet 3) (gsCons (gSet 4) (gsCons (gSet 5) gsNil)))) (tBool (eOp (eqW false) (eVar 3) (eVar 1))) (eVar 4) [3, 4, 5])) (gSet 2))
    (sSeq (sIf (tBool (eOp (eqW false) (eVar 2) (eLst aNil))) (sRaise2 "NoWord" "word" "place" (aCons (eVar 1) (aCons (eC (.int 0)) aNil))) sNx)
    (sRet (eCall (sortW (F_show_form 40)) (aCons (eVar 2) aNil)))))
noncomputable def F_forms_of : FF := runF 6 m_forms_of
noncomputable def m_term_of : SF :=
    (sSeq (sIf (tBool (eOp (inW true) (eVar 2) (eCallF F_forms_of (aCons (eVar 0) (aCons (eVar 1) aNil))))) (sRaise "NoForm") sNx)
    (sRet (eOp ixW (eLc (iSeq (eOp ixW (eVar 0) (eC (.int 2)))) (gTupF 3 (gsCons (gSet 3) (gsCons (gSet 4) (gsCons (gSet 5) gsNil)))) (tAndF (tBool (eOp (eqW false) (eVar 3) (eVar 1))) (tBool (eOp (eqW false) (eVar 4) (eVar 2)))) (eVar 5) [3, 4, 5]) (eC (.int 0)))))
noncomputable def F_term_of : FF := runF 6 m_term_of
noncomputable def m__law_take : SF :=
    (sSeq (sIf (tBool (eOp (eqW false) (eVar 0) (eLst aNil))) (sRet (eC (.int 0))) sNx)
    (sRet (eOp modW (eMt "list" popAtW (eVar 0) (aCons (eC (.int 0)) aNil)) (eVar 1))))
noncomputable def F__law_take : FF := runF 2 m__law_take
noncomputable def b1__law_names : SF :=
    (sSeq (sDrop (eMt "list" appendW (eVar 11) (aCons (eOp ixW (eVar 2) (eOp modW (eVar 9) (eC (.int 26)))) aNil)))
    (sAsg (eOp divW (eVar 9) (eC (.int 26))) (gSet 9)))
noncomputable def b2__law_names : SF :=
    (sIf (tBool (eOp (eqW false) (eVar 11) (eLst (aCons (eC (.str (Str.ofString "a"))) (aCons (eC (.str (Str.ofString "n"))) (aCons (eC (.str (Str.ofString "y"))) aNil)))))) (sAsg (eObj (eLst (aCons (eC (.str (Str.ofString "y"))) (aCons (eC (.str (Str.ofString "n"))) (aCons (eC (.str (Str.ofString "a"))) aNil))))) (gSet 11)) (sSetI (eVar 11) (eC (.int 0)) (eOp ixW (eVar 2) (eOp modW (eOp addAW (eMt "str" sindexW (eVar 2) (aCons (eOp ixW (eVar 11) (eC (.int 0))) aNil)) (eC (.int 1))) (eC (.int 26))))))
noncomputable def b3__law_names : SF :=
    (sSeq (sAsg (eVar 6) (gSet 9))
    (sSeq (sAsg (eVar 4) (gSet 10))
    (sSeq (sIf (tNotF (tTru (eVar 3))) (sSeq (sAsg (eOp addAW (eC (.int 1)) (eOp modW (eVar 6) (eC (.int 8)))) (gSet 10))
    (sAsg (eOp divW (eVar 6) (eC (.int 8))) (gSet 9))) sNx)
    (sSeq (sAsg (eObj (eLst aNil)) (gSet 11))
    (sSeq (sFor (iRange1 (aCons (eVar 10) aNil)) (gSet 12) b1__law_names)
    (sSeq (sIf (tTru (eVar 3)) (sSetI (eVar 11) (eVar 5) (eOp ixW (eVar 2) (eOp modW (eOp addAW (eMt "str" sindexW (eVar 2) (aCons (eOp ixW (eVar 11) (eVar 5)) aNil)) (eVar 8)) (eC (.int 26))))) (sAsg (eVar 9) (gSet 6)))
    (sSeq (whileM (tOrF (tBool (eOp (inW false) (eMt "str" joinW (eC (.str (Str.ofString ""))) (aCons (eVar 11) aNil)) (eVar 7))) (tBool (eOp (eqW false) (eVar 11) (eLst (aCons (eC (.str (Str.ofString "a"))) (aCons (eC (.str (Str.ofString "n"))) (aCons (eC (.str (Str.ofString "y"))) aNil))))))) b2__law_names fuelW)
    (sDrop (eMt "list" appendW (eVar 7) (aCons (eMt "str" joinW (eC (.str (Str.ofString ""))) (aCons (eVar 11) aNil)) aNil))))))))))
noncomputable def m__law_names : SF :=
    (sSeq (sAsg (eC (.str (Str.ofString "abcdefghijklmnopqrstuvwxyz"))) (gSet 2))
    (sSeq (sAsg (eOp (eqW false) (eOp modW (eVar 0) (eC (.int 2))) (eC (.int 0))) (gSet 3))
    (sSeq (sAsg (eOp addAW (eC (.int 1)) (eOp modW (eOp divW (eVar 0) (eC (.int 2))) (eC (.int 8)))) (gSet 4))
    (sSeq (sAsg (eOp modW (eOp divW (eVar 0) (eC (.int 16))) (eVar 4)) (gSet 5))
    (sSeq (sAsg (eOp divW (eVar 0) (eC (.int 128))) (gSet 6))
    (sSeq (sAsg (eObj (eLst aNil)) (gSet 7))
    (sSeq (sFor (iRange1 (aCons (eVar 1) aNil)) (gSet 8) b3__law_names)
    (sRet (eVar 7)))))))))
noncomputable def F__law_names : FF := runF 13 m__law_names
noncomputable def m__law_form (r__law_form : FF) : SF :=
    (sSeq (sAsg (eFrz (eCallF F__law_take (aCons (eObj (eVar 0)) (aCons (eOp powW (eC (.int 10)) (eC (.int 12))) aNil)))) (gSet 3))
    (sSeq (sIf (tOrF (tBool (eOp ltW (eVar 2) (eC (.int 2)))) (tBool (eOp (eqW false) (eOp modW (eVar 3) (eC (.int 3))) (eC (.int 0))))) (sRet (eTup (aCons (eC (.str (Str.ofString "basic"))) (aCons (eOp ixW (eVar 1) (eOp modW (eOp divW (eVar 3) (eC (.int 3))) (eCall lenW (aCons (eVar 1) aNil)))) aNil)))) sNx)
    (sSeq (sAsg (eOp addAW (eC (.int 1)) (eOp modW (eOp divW (eVar 3) (eC (.int 6))) (eOp subW (eVar 2) (eC (.int 1))))) (gSet 4))
    (sSeq (sAsg (eFrz (eCallF r__law_form (aCons (eObj (eVar 0)) (aCons (eVar 1) (aCons (eVar 4) aNil))))) (gSet 5))
    (sRet (eTup (aCons (eOp ixW (eLst (aCons (eC (.str (Str.ofString "/"))) (aCons (eC (.str (Str.ofString "\\"))) aNil))) (eOp modW (eOp divW (eVar 3) (eC (.int 3))) (eC (.int 2)))) (aCons (eVar 5) (aCons (eFrz (eCallF r__law_form (aCons (eObj (eVar 0)) (aCons (eVar 1) (aCons (eOp subW (eVar 2) (eVar 4)) aNil))))) aNil)))))))))
noncomputable def F__law_form : Nat → FF
  | 0 => badF
  | n + 1 => runF 6 (m__law_form (F__law_form n))
noncomputable def b1__law_spread : SF :=
    (sSeq (sAsg (eOp modW (eOp mulW (eVar 2) (eC (.int 48271))) (eC (.int 2147483647))) (gSet 2))
    (sSeq (sAsg (eOp modW (eVar 3) (eOp powW (eC (.int 10)) (eC (.int 12)))) (gSet 6))
    (sSeq (sAsg (eOp divW (eVar 3) (eOp powW (eC (.int 10)) (eC (.int 12)))) (gSet 3))
    (sDrop (eMt "list" appendW (eVar 4) (aCons (eOp ixW (eLst (aCons (eVar 6) (aCons (eOp modW (eOp mulW (eVar 2) (eC (.int 69621))) (eC (.int 2147483629))) aNil))) (eOp modW (eVar 0) (eC (.int 2)))) aNil))))))
noncomputable def m__law_spread : SF :=
    (sSeq (sAsg (eOp addAW (eOp modW (eVar 0) (eC (.int 2147483646))) (eC (.int 1))) (gSet 2))
    (sSeq (sAsg (eOp divW (eVar 0) (eC (.int 2))) (gSet 3))
    (sSeq (sAsg (eObj (eLst aNil)) (gSet 4))
    (sSeq (sFor (iRange1 (aCons (eVar 1) aNil)) (gSet 5) b1__law_spread)
    (sRet (eVar 4))))))
noncomputable def F__law_spread : FF := runF 7 m__law_spread
noncomputable def m__law_kind (r__law_kind : FF) : SF :=
    (sSeq (sIf (tBool (eOp (eqW false) (eOp ixW (eVar 0) (eC (.int 0))) (eC (.str (Str.ofString "basic"))))) (sRet (eOp ixW (eVar 0) (eC (.int 1)))) sNx)
    (sRet (eTup (aCons (eFrz (eCallF r__law_kind (aCons (eOp ixW (eVar 0) (eC (.int 2))) aNil))) (aCons (eFrz (eCallF r__law_kind (aCons (eOp ixW (eVar 0) (eC (.int 1))) aNil))) aNil)))))
noncomputable def F__law_kind : Nat → FF
  | 0 => badF
  | n + 1 => runF 1 (m__law_kind (F__law_kind n))
noncomputable def b1__law_wanted : SF :=
    (sSeq (sDrop (eMt "list" appendW (eVar 1) (aCons (eOp ixW (eVar 0) (eC (.int 0))) aNil)))
    (sAsg (eOp ixW (eVar 0) (eC (.int 1))) (gSet 0)))
noncomputable def m__law_wanted : SF :=
    (sSeq (sAsg (eObj (eLst aNil)) (gSet 1))
    (sSeq (whileM (tNotF (tTru (eIsi [.str] (eVar 0)))) b1__law_wanted fuelW)
    (sFz 1 (sRet (eTup (aCons (eVar 1) (aCons (eVar 0) aNil)))))))
noncomputable def F__law_wanted : FF := runF 2 m__law_wanted
noncomputable def m__law_of_two : SF :=
    (sSeq (sAsg (eCall lenW (aCons (eVar 1) aNil)) (gSet 5))
    (sSeq (sAsg (eTup (aCons (eOp ixW (eVar 1) (eVar 3)) (aCons (eTup (aCons (eOp ixW (eVar 1) (eVar 4)) (aCons (eVar 2) aNil))) aNil))) (gSet 6))
    (sSeq (sAsg (eTup (aCons (eC (.str (Str.ofString "of"))) (aCons (eTup (aCons (eC (.str (Str.ofString "name"))) (aCons (eVar 0) aNil))) (aCons (eTup (aCons (eC (.str (Str.ofString "bound"))) (aCons (eOp subW (eOp subW (eVar 5) (eC (.int 1))) (eVar 3)) aNil))) aNil)))) (gSet 7))
    (sRet (eTup (aCons (eTup (aCons (eC (.str (Str.ofString "of"))) (aCons (eVar 7) (aCons (eTup (aCons (eC (.str (Str.ofString "bound"))) (aCons (eOp subW (eOp subW (eVar 5) (eC (.int 1))) (eVar 4)) aNil))) aNil)))) (aCons (eFrz (eLst (aCons (eTup (aCons (eVar 0) (aCons (eVar 6) aNil))) aNil))) aNil)))))))
noncomputable def F__law_of_two : FF := runF 8 m__law_of_two
noncomputable def m__law_body : SF :=
    (sSeq (sAsg (eCall lenW (aCons (eVar 0) aNil)) (gSet 4))
    (sSeq (sIf (tAndF (tBool (eOp gtW (eVar 4) (eC (.int 1)))) (tBool (eOp (eqW false) (eOp modW (eVar 3) (eC (.int 4))) (eC (.int 0))))) (sSeq (sAsg (eOp modW (eOp divW (eVar 3) (eC (.int 4))) (eVar 4)) (gSet 5))
    (sSeq (sAsg (eOp modW (eOp addAW (eOp addAW (eVar 5) (eC (.int 1))) (eOp modW (eOp divW (eVar 3) (eC (.int 32))) (eOp subW (eVar 4) (eC (.int 1))))) (eVar 4)) (gSet 6))
    (sRet (eCallF F__law_of_two (aCons (eVar 2) (aCons (eVar 0) (aCons (eVar 1) (aCons (eVar 5) (aCons (eVar 6) aNil))))))))) sNx)
    (sSeq (sAsg (eOp modW (eOp divW (eVar 3) (eC (.int 4))) (eCall maxW2 (aCons (eC (.int 1)) (aCons (eVar 4) aNil)))) (gSet 5))
    (sSeq (sIf (tAndF (tBool (eOp gtW (eVar 4) (eC (.int 0)))) (tBool (eOp (eqW false) (eOp modW (eVar 3) (eC (.int 4))) (eC (.int 1))))) (sRet (eTup (aCons (eTup (aCons (eC (.str (Str.ofString "of"))) (aCons (eTup (aCons (eC (.str (Str.ofString "name"))) (aCons (eVar 2) aNil))) (aCons (eTup (aCons (eC (.str (Str.ofString "bound"))) (aCons (eOp subW (eOp subW (eVar 4) (eC (.int 1))) (eVar 5)) aNil))) aNil)))) (aCons (eFrz (eLst (aCons (eTup (aCons (eVar 2) (aCons (eTup (aCons (eOp ixW (eVar 0) (eVar 5)) (aCons (eVar 1) aNil))) aNil))) aNil))) aNil)))) sNx)
    (sSeq (sIf (tAndF (tBool (eOp gtW (eVar 4) (eC (.int 0)))) (tAndF (tBool (eOp (eqW false) (eOp ixW (eVar 0) (eVar 5)) (eVar 1))) (tBool (eOp (eqW false) (eOp modW (eVar 3) (eC (.int 4))) (eC (.int 2)))))) (sRet (eTup (aCons (eTup (aCons (eC (.str (Str.ofString "bound"))) (aCons (eOp subW (eOp subW (eVar 4) (eC (.int 1))) (eVar 5)) aNil))) (aCons (eFrz (eLst aNil)) aNil)))) sNx)
    (sRet (eTup (aCons (eTup (aCons (eC (.str (Str.ofString "name"))) (aCons (eVar 2) aNil))) (aCons (eFrz (eLst (aCons (eTup (aCons (eVar 2) (aCons (eVar 1) aNil))) aNil))) aNil)))))))))
noncomputable def F__law_body : FF := runF 7 m__law_body
noncomputable def b1__law_meaning : SF :=
    (sAsg (eTup (aCons (eC (.str (Str.ofString "of"))) (aCons (eTup (aCons (eC (.str (Str.ofString "fn"))) (aCons (eVar 4) (aCons (eTup (aCons (eC (.str (Str.ofString "bound"))) (aCons (eC (.int 0)) aNil))) aNil)))) (aCons (eVar 5) aNil)))) (gSet 5))
noncomputable def b2__law_meaning : SF :=
    (sAsg (eTup (aCons (eC (.str (Str.ofString "fn"))) (aCons (eVar 8) (aCons (eVar 5) aNil)))) (gSet 5))
noncomputable def m__law_meaning : SF :=
    (sSeq (sAsg (eFrz (eCallF F__law_wanted (aCons (eFrz (eCallF (F__law_kind 40) (aCons (eVar 0) aNil))) aNil))) (gTupF 2 (gsCons (gSet 3) (gsCons (gSet 4) gsNil))))
    (sSeq (sAsg (eFrz (eCallF F__law_body (aCons (eVar 3) (aCons (eVar 4) (aCons (eVar 1) (aCons (eVar 2) aNil)))))) (gTupF 2 (gsCons (gSet 5) (gsCons (gSet 6) gsNil))))
    (sSeq (sFor (iRange1 (aCons (eOp modW (eOp divW (eVar 2) (eC (.int 256))) (eC (.int 3))) aNil)) (gSet 7) b1__law_meaning)
    (sSeq (sFor (iSeq (eCall revW (aCons (eVar 3) aNil))) (gSet 8) b2__law_meaning)
    (sRet (eTup (aCons (eVar 5) (aCons (eVar 6) aNil))))))))
noncomputable def F__law_meaning : FF := runF 9 m__law_meaning
noncomputable def m__law_form_text (r__law_form_text : FF) : SF :=
    (sSeq (sIf (tBool (eOp (eqW false) (eOp ixW (eVar 0) (eC (.int 0))) (eC (.str (Str.ofString "basic"))))) (sRet (eOp ixW (eVar 0) (eC (.int 1)))) sNx)
    (sSeq (sAsg (eFrz (eCallF r__law_form_text (aCons (eOp ixW (eVar 0) (eC (.int 2))) aNil))) (gSet 1))
    (sSeq (sIf (tBool (eOp (eqW true) (eOp ixW (eOp ixW (eVar 0) (eC (.int 2))) (eC (.int 0))) (eC (.str (Str.ofString "basic"))))) (sAsg (eOp addAW (eOp addAW (eC (.str (Str.ofString "("))) (eVar 1)) (eC (.str (Str.ofString ")")))) (gSet 1)) sNx)
    (sRet (eOp addAW (eOp addAW (eCallF r__law_form_text (aCons (eOp ixW (eVar 0) (eC (.int 1))) aNil)) (eOp ixW (eVar 0) (eC (.int 0)))) (eVar 1))))))
noncomputable def F__law_form_text : Nat → FF
  | 0 => badF
  | n + 1 => runF 2 (m__law_form_text (F__law_form_text n))
noncomputable def b1__law_book : SF :=
    (sSeq (sAsg (eFrz (eCallF F__law_spread (aCons (eVar 7) (aCons (eC (.int 14)) aNil)))) (gSet 8))
    (sSeq (sAsg (eFrz (eCallF (F__law_form 40) (aCons (eObj (eSl slW (eVar 8) (oSome (eC (.int 2))) oNone)) (aCons (eVar 1) (aCons (eOp addAW (eC (.int 1)) (eOp modW (eOp ixW (eVar 8) (eC (.int 0))) (eC (.int 6)))) aNil))))) (gSet 9))
    (sSeq (sAsg (eOp ixW (eVar 2) (eOp modW (eOp ixW (eVar 8) (eC (.int 1))) (eC (.int 5)))) (gSet 10))
    (sSeq (sAsg (eFrz (eLc (iSeq (eVar 4)) (gSet 12) (tBool (eOp (eqW false) (eOp ixW (eVar 12) (eC (.int 0))) (eVar 10))) (eVar 12) [12])) (gSet 11))
    (sSeq (sIf (tOrF (tBool (eOp gtW (eCall lenW (aCons (eVar 11) aNil)) (eC (.int 7)))) (tBool (eOp (inW false) (eVar 9) (eLc (iSeq (eVar 11)) (gSet 12) tYesF (eOp ixW (eVar 12) (eC (.int 1))) [12])))) sCt sNx)
    (sSeq (sAsg (eOp addAW (eOp modW (eOp divW (eVar 7) (eC (.int 2147483646))) (eOp powW (eC (.int 10)) (eC (.int 9)))) (eOp ixW (eVar 8) (eC (.int 1)))) (gSet 13))
    (sSeq (sAsg (eFrz (eCallF F__law_meaning (aCons (eVar 9) (aCons (eOp ixW (eVar 2) (eOp subW (eC (.int 25)) (eVar 6))) (aCons (eVar 13) aNil))))) (gTupF 2 (gsCons (gSet 14) (gsCons (gSet 15) gsNil))))
    (sSeq (sAsg (eFrz (eOp addAW (eVar 3) (eVar 15))) (gSet 3))
    (sDrop (eMt "list" appendW (eVar 4) (aCons (eTup (aCons (eVar 10) (aCons (eVar 9) (aCons (eVar 14) aNil)))) aNil)))))))))))
noncomputable def m__law_book : SF :=
    (sSeq (sAsg (eFrz (eCallF F__law_names (aCons (eOp ixW (eVar 0) (eC (.int 0))) (aCons (eOp addAW (eC (.int 1)) (eOp modW (eOp ixW (eVar 0) (eC (.int 1))) (eC (.int 8)))) aNil)))) (gSet 1))
    (sSeq (sAsg (eObj (eCallF F__law_names (aCons (eOp divW (eOp ixW (eVar 0) (eC (.int 1))) (eC (.int 8))) (aCons (eC (.int 26)) aNil)))) (gSet 2))
    (sSeq (sIf (tBool (eOp (eqW false) (eOp modW (eOp divW (eOp ixW (eVar 0) (eC (.int 1))) (eC (.int 8))) (eC (.int 4))) (eC (.int 1)))) (sSetI (eVar 2) (eOp modW (eOp divW (eOp ixW (eVar 0) (eC (.int 1))) (eC (.int 32))) (eC (.int 5))) (eC (.str (Str.ofString "any")))) sNx)
    (sSeq (sIf (tBool (eOp gtW (eOp modW (eOp divW (eOp ixW (eVar 0) (eC (.int 1))) (eC (.int 8))) (eC (.int 4))) (eC (.int 1)))) (sSetI (eVar 2) (eOp subW (eC (.int 25)) (eOp modW (eOp divW (eOp ixW (eVar 0) (eC (.int 1))) (eC (.int 32))) (eC (.int 5)))) (eC (.str (Str.ofString "any")))) sNx)
    (sSeq (sAsg (eFrz (eLst aNil)) (gSet 3))
    (sSeq (sAsg (eObj (eLst aNil)) (gSet 4))
    (sSeq (sAsg (eFrz (eSl slW (eVar 0) (oSome (eC (.int 2))) (oSome (eC (.int 16))))) (gSet 5))
    (sSeq (sIf (tBool (eOp (eqW false) (eOp modW (eOp ixW (eVar 0) (eC (.int 0))) (eC (.int 8))) (eC (.int 5)))) (sAsg (eFrz (eSl slW (eOp addAW (eVar 5) (eCallF F__law_spread (aCons (eOp ixW (eVar 0) (eC (.int 0))) (aCons (eC (.int 12)) aNil)))) oNone (oSome (eC (.int 12))))) (gSet 5)) sNx)
    (sSeq (sFor (iEnumF (aCons (eVar 5) aNil)) (gTupF 2 (gsCons (gSet 6) (gsCons (gSet 7) gsNil))) b1__law_book)
    (sRet (eTup (aCons (eCall tupleW (aCons (eVar 1) aNil)) (aCons (eCall tupleW (aCons (eVar 3) aNil)) (aCons (eCall tupleW (aCons (eVar 4) aNil)) aNil))))))))))))))
noncomputable def F__law_book : FF := runF 16 m__law_book
noncomputable def m__law_alone (e : Exn) : SF :=
    (sSeq (sIf (tTru (eTabF (tabOf tl_0) e)) (sRet (eC (.bool false))) sNx) (sRet (eAnd (eTabF (tabOf tl_1) e) (eOp (eqW true) (eTabF (tabOf tl_2) e) (eTabF (tabOf tl_3) e)))))
noncomputable def F__law_alone (e : Exn) : FF := runF 1 (m__law_alone e)
noncomputable def m__law_told : SF :=
    (sSeq (sAsg (eTup (aCons (eC (.str (Str.ofString "wrong"))) (aCons (eC .none) aNil))) (gSet 3))
    (sSeq (sTryAs 4 tab_SlashError (sIf (tBool (eOp (isNW false) (eVar 2) (eC .none))) (sAsg (eTup (aCons (eC (.str (Str.ofString "told"))) (aCons (eFrz (eCallF F_forms_of (aCons (eVar 0) (aCons (eVar 1) aNil)))) aNil))) (gSet 3)) (sAsg (eTup (aCons (eC (.str (Str.ofString "told"))) (aCons (eFrz (eCallF F_term_of (aCons (eVar 0) (aCons (eVar 1) (aCons (eVar 2) aNil))))) aNil))) (gSet 3))) (fun e => sFlat e (sIf (tAndF (tTru (eCallF (F__law_alone e) aNil)) (tTru (eTabF (tabOf tl_2) e))) (sAsg (eTup (aCons (eC (.str (Str.ofString "form"))) (aCons (eC .none) aNil))) (gSet 3)) (sIf (tTru (eCallF (F__law_alone e) aNil)) (sAsg (eTup (aCons (eC (.str (Str.ofString "word"))) (aCons (eTup (aCons (eFld ["NoWord"] "word" e) (aCons (eFld ["NoWord"] "place" e) aNil))) aNil))) (gSet 3)) sNx))))
    (sRet (eVar 3))))
noncomputable def F__law_told : FF := runF 5 m__law_told
noncomputable def m__law_told__o : SF :=
    (sSeq (sAsg (eTup (aCons (eC (.str (Str.ofString "wrong"))) (aCons (eC .none) aNil))) (gSet 3))
    (sSeq (sTryAs 4 tab_SlashError (sIf (tBool (eOp (isNW false) (eVar 2) (eC .none))) (sAsg (ePrL (aCons (eC (.str (Str.ofString "told"))) (aCons (eObj (eCallF F_forms_of (aCons (eVar 0) (aCons (eVar 1) aNil)))) aNil))) (gSet 3)) (sAsg (eTup (aCons (eC (.str (Str.ofString "told"))) (aCons (eFrz (eCallF F_term_of (aCons (eVar 0) (aCons (eVar 1) (aCons (eVar 2) aNil))))) aNil))) (gSet 3))) (fun e => sFlat e (sIf (tAndF (tTru (eCallF (F__law_alone e) aNil)) (tTru (eTabF (tabOf tl_2) e))) (sAsg (eTup (aCons (eC (.str (Str.ofString "form"))) (aCons (eC .none) aNil))) (gSet 3)) (sIf (tTru (eCallF (F__law_alone e) aNil)) (sAsg (eTup (aCons (eC (.str (Str.ofString "word"))) (aCons (eTup (aCons (eFld ["NoWord"] "word" e) (aCons (eFld ["NoWord"] "place" e) aNil))) aNil))) (gSet 3)) sNx))))
    (sRet (eVar 3))))
noncomputable def F__law_told__o : FF := runA 5 m__law_told__o
noncomputable def m__law_holds__key : SF :=
    (sRet (eOp ixW (eVar 0) (eC (.int 0))))
noncomputable def F__law_holds__key : FF := runF 1 m__law_holds__key
noncomputable def b1__law_holds : SF :=
    (sSeq (sAsg (eFrz (eCallF F__law_told__o (aCons (eVar 0) (aCons (eVar 1) (aCons (eC .none) aNil))))) (gSet 11))
    (sSeq (sIf (tBool (eOp (eqVW true) (eVar 11) (eTup (aCons (eC (.str (Str.ofString "told"))) (aCons (eFrz (eLc (iSeq (eVar 6)) (gSet 12) tYesF (eOp ixW (eVar 12) (eC (.int 1))) [12])) aNil))))) (sRet (eC (.bool false))) sNx)
    (sDrop (eMt0 "list" clearW (eOp ixQ (eVar 11) (eC (.int 1)))))))
noncomputable def b2__law_holds : SF :=
    (sIf (tBool (eOp (eqW true) (eCallF F__law_told (aCons (eVar 0) (aCons (eVar 1) (aCons (eVar 8) aNil)))) (eTup (aCons (eC (.str (Str.ofString "told"))) (aCons (eVar 9) aNil))))) (sRet (eC (.bool false))) sNx)
noncomputable def b3__law_holds : SF :=
    (sIf (tAndF (tBool (eOp (inW true) (eVar 8) (eLc (iSeq (eVar 6)) (gSet 12) tYesF (eOp ixW (eVar 12) (eC (.int 1))) [12]))) (tBool (eOp (eqW true) (eCallF F__law_told (aCons (eVar 0) (aCons (eVar 1) (aCons (eVar 8) aNil)))) (eTup (aCons (eC (.str (Str.ofString "form"))) (aCons (eC .none) aNil)))))) (sRet (eC (.bool false))) sNx)
noncomputable def m__law_holds : SF :=
    (sSeq (sAsg (eFrz (eLc (iSeq (eOp ixW (eVar 0) (eC (.int 2)))) (gSet 4) (tBool (eOp (eqW false) (eOp ixW (eVar 4) (eC (.int 0))) (eVar 1))) (eVar 4) [4])) (gSet 3))
    (sSeq (sIf (tBool (eOp (eqW false) (eVar 3) (eLst aNil))) (sSeq (sAsg (eTup (aCons (eC (.str (Str.ofString "word"))) (aCons (eTup (aCons (eVar 1) (aCons (eC (.int 0)) aNil))) aNil))) (gSet 5))
    (sRet (eAnd (eOp (eqW false) (eCallF F__law_told (aCons (eVar 0) (aCons (eVar 1) (aCons (eC .none) aNil)))) (eVar 5)) (eOp (eqW false) (eCallF F__law_told (aCons (eVar 0) (aCons (eVar 1) (aCons (eOp ixW (eVar 2) (eC (.int 0))) aNil)))) (eVar 5))))) sNx)
    (sSeq (sAsg (eFrz (eCall (sortW F__law_holds__key) (aCons (eLc (iSeq (eVar 3)) (gTupF 3 (gsCons (gSet 7) (gsCons (gSet 8) (gsCons (gSet 9) gsNil)))) tYesF (eTup (aCons (eFrz (eCallF (F__law_form_text 40) (aCons (eVar 8) aNil))) (aCons (eVar 8) (aCons (eVar 9) aNil)))) [7, 8, 9]) aNil))) (gSet 6))
    (sSeq (sFor (iRange1 (aCons (eC (.int 2)) aNil)) (gSet 10) b1__law_holds)
    (sSeq (sFor (iSeq (eVar 6)) (gTupF 3 (gsCons (gSet 13) (gsCons (gSet 8) (gsCons (gSet 9) gsNil)))) b2__law_holds)
    (sSeq (sFor (iSeq (eVar 2)) (gSet 8) b3__law_holds)
    (sRet (eC (.bool true)))))))))
noncomputable def F__law_holds : FF := runF 14 m__law_holds
noncomputable def m_law : SF :=
    (sSeq (sAsg (eFrz (eOp addAW (eSl slW (eVar 0) oNone (oSome (eC (.int 40)))) (eOp repW (eLst (aCons (eC (.int 0)) aNil)) (eCall maxW2 (aCons (eC (.int 0)) (aCons (eOp subW (eC (.int 3)) (eCall lenW (aCons (eVar 0) aNil))) aNil)))))) (gSet 0))
    (sSeq (sAsg (eFrz (eCallF F__law_book (aCons (eVar 0) aNil))) (gSet 1))
    (sSeq (sAsg (eFrz (eOp addAW (eLc (iSeq (eOp ixW (eVar 1) (eC (.int 2)))) (gSet 3) tYesF (eOp ixW (eVar 3) (eC (.int 0))) [3]) (eLst (aCons (eC (.str (Str.ofString "w"))) (aCons (eC (.str (Str.ofString ""))) aNil))))) (gSet 2))
    (sSeq (sAsg (eFrz (eCallF F__law_spread (aCons (eOp ixW (eVar 0) (eC (.int 2))) (aCons (eC (.int 16)) aNil)))) (gSet 4))
    (sSeq (sAsg (eOp ixW (eVar 2) (eOp modW (eOp ixW (eVar 4) (eC (.int 0))) (eCall lenW (aCons (eVar 2) aNil)))) (gSet 5))
    (sSeq (sAsg (eOp modW (eOp ixW (eVar 4) (eC (.int 1))) (eOp addAW (eCall lenW (aCons (eVar 5) aNil)) (eC (.int 1)))) (gSet 6))
    (sSeq (sAsg (eFrz (eOp addAW (eSl slW (eVar 2) oNone (oSome (eC (.int 8)))) (eLst (aCons (eFrz (eOp addAW (eOp addAW (eSl slW (eVar 5) oNone (oSome (eVar 6))) (eOp ixW (eC (.str (Str.ofString "abcdefgh"))) (eOp modW (eOp ixW (eVar 4) (eC (.int 2))) (eC (.int 8))))) (eSl slW (eVar 5) (oSome (eVar 6)) oNone))) (aCons (eFrz (eOp addAW (eSl slW (eVar 5) oNone (oSome (eVar 6))) (eSl slW (eVar 5) (oSome (eOp addAW (eVar 6) (eC (.int 1)))) oNone))) (aCons (eC (.str (Str.ofString ""))) aNil)))))) (gSet 2))
    (sSeq (sAsg (eFrz (eOp addAW (eLst (aCons (eFrz (eCallF (F__law_form 40) (aCons (eObj (eSl slW (eVar 4) (oSome (eC (.int 3))) oNone)) (aCons (eFrz (eCall listW (aCons (eOp ixW (eVar 1) (eC (.int 0))) aNil))) (aCons (eOp addAW (eC (.int 1)) (eOp modW (eOp ixW (eVar 4) (eC (.int 3))) (eC (.int 6)))) aNil))))) aNil)) (eLc (iSeq (eOp ixW (eVar 1) (eC (.int 2)))) (gSet 3) tYesF (eOp ixW (eVar 3) (eC (.int 1))) [3]))) (gSet 7))
    (sRet (eCall allW (aCons (eLc (iSeq (eVar 2)) (gSet 8) tYesF (eFrz (eCallF F__law_holds (aCons (eVar 1) (aCons (eVar 8) (aCons (eVar 7) aNil))))) [8]) aNil)))))))))))
noncomputable def F_law : FF := runF 9 m_law
end K25
set_option Elab.async false
set_option linter.all false
set_option maxRecDepth 100000
set_option maxHeartbeats 4000000
namespace K25
open PySem L2 M
variable [HasW]
theorem runF_len {N : Nat} {g : SF} {ws : List W} {m m' : Mem} {w : W} (h : runF N g ws m = .ok w m') : m'.length ≤ m.length := by
  have fin : ∀ w2 m2, finM m.length w2 m2 = .ok w m' → m'.length ≤ m.length := fun w2 m2 h => by
    unfold finM at h
    repeat' split at h
    all_goals first
      | (cases h; rw [List.length_take]; exact Nat.min_le_left _ _)
      | cases h
  unfold runF at h
  split at h
  · exact fin _ _ h
  · exact fin _ _ h
  · split at h <;> cases h
  · cases h
theorem runF_lenE {N : Nat} {g : SF} {ws : List W} {m m' : Mem} {e : Exn} (h : runF N g ws m = .err e m') : m'.length ≤ m.length := by
  have fin : ∀ w2 m2, finM m.length w2 m2 = .err e m' → m'.length ≤ m.length := fun w2 m2 h => by
    unfold finM at h
    repeat' split at h
    all_goals cases h
  unfold runF at h
  split at h
  · exact fin _ _ h
  · exact fin _ _ h
  · split at h
    · cases h; rw [List.length_take]; exact Nat.min_le_left _ _
    · cases h
  · cases h
theorem sAsg_rt {f : EF} {g : GF} {env : M.Env} {m m' : Mem} {w : W} : sAsg f g env m ≠ .rt w m' := by
  intro h
  unfold sAsg at h
  cases e : f env m with
  | ok x m1 =>
    rw [e, eS_ok] at h
    unfold asgK at h
    split at h
    · cases h
    · split at h <;> cases h
  | err _ _ => rw [e] at h; cases h
  | bad => rw [e] at h; cases h
theorem runF_fl {N : Nat} {g : SF} {ws : List W} {m m' : Mem} {w : W} (h : runF N g ws m = .ok w m') (hg : ∀ w2 m2, g (env0 N ws) m = .rt w2 m2 → ∃ ds, w2 = .fl ds) (hn : ∀ e m2, g (env0 N ws) m ≠ .nx e m2) : ∃ ds, w = .fl ds := by
  unfold runF at h
  split at h
  · rename_i w2 m2 e
    obtain ⟨ds, rfl⟩ := hg _ _ e
    unfold finM at h
    split at h
    · cases h; exact ⟨ds, rfl⟩
    · cases h
  · rename_i e; exact absurd e (hn _ _)
  · split at h <;> cases h
  · cases h
theorem sRet_nx {f : EF} {env e : M.Env} {m m' : Mem} : sRet f env m ≠ .nx e m' := by
  intro h
  unfold sRet at h
  cases q : f env m with
  | ok x m1 => rw [q, eS_ok] at h; cases h
  | err _ _ => rw [q] at h; cases h
  | bad => rw [q] at h; cases h
theorem sSeq_nx {a b : SF} {env e : M.Env} {m m' : Mem} (hb : ∀ env m e m', b env m ≠ .nx e m') : sSeq a b env m ≠ .nx e m' := by
  intro h
  unfold sSeq at h
  split at h
  · exact hb _ _ _ _ h
  · rename_i hh; exact hh _ _ h
theorem sSeq_rt {a b : SF} {env : M.Env} {m m' : Mem} {w : W} {Q : W → Prop} (ha : ∀ env m w m', a env m = .rt w m' → Q w) (hb : ∀ env m w m', b env m = .rt w m' → Q w) (h : sSeq a b env m = .rt w m') : Q w := by
  unfold sSeq at h
  split at h
  · exact hb _ _ _ _ h
  · exact ha _ _ _ _ h
theorem forms_fl {ws : List W} {m m' : Mem} {w : W} (h : F_forms_of ws m = .ok w m') : ∃ ds, w = .fl ds := by
  unfold F_forms_of at h
  refine runF_fl h (fun w2 m2 e => ?_) (fun e m2 => ?_)
  · unfold m_forms_of at e
    refine sSeq_rt (Q := fun w => ∃ ds, w = .fl ds) (fun _ _ _ _ z => absurd z sAsg_rt) (fun env m w m' z => sSeq_rt (Q := fun w => ∃ ds, w = .fl ds) (fun env m w m' z => ?_) (fun env m w m' z => ?_) z) e
    · exfalso
      unfold sIf at z
      cases q : tBool (eOp (eqW false) (eVar 2) (eLst aNil)) env m with
      | ok t m1 =>
        rw [q, eS_ok] at z
        cases t with
        | true =>
          rw [if_pos rfl] at z
          unfold sRaise2 at z
          repeat' split at z
          all_goals cases z
        | false => cases z
      | err _ _ => rw [q] at z; cases z
      | bad => rw [q] at z; cases z
    · unfold sRet eCall at z
      cases q : aCons (eVar 2) aNil env m with
      | ok ws m1 =>
        rw [q, Res.bind_ok] at z
        cases q2 : sortW (F_show_form 40) ws m1 with
        | ok w3 m3 =>
          rw [q2, eS_ok] at z
          cases z
          unfold sortW at q2
          split at q2
          · split at q2
            · rename_i ds _
              cases q3 : keysM (F_show_form 40) ds m1 with
              | ok ks m4 =>
                rw [q3, Res.bind_ok] at q2
                split at q2
                · cases q2; exact ⟨_, rfl⟩
                · cases q2
              | err _ _ => rw [q3] at q2; cases q2
              | bad => rw [q3] at q2; cases q2
            · cases q2
          · cases q2
        | err _ _ => rw [q2] at z; cases z
        | bad => rw [q2] at z; cases z
      | err _ _ => rw [q] at z; cases z
      | bad => rw [q] at z; cases z
  · unfold m_forms_of
    exact sSeq_nx fun _ _ _ _ => sSeq_nx fun _ _ _ _ => sRet_nx
noncomputable def suite : Exn → SF := (fun e => sFlat e (sIf (tAndF (tTru (eCallF (F__law_alone e) aNil)) (tTru (eTabF (tabOf tl_2) e))) (sAsg (eTup (aCons (eC (.str (Str.ofString "form"))) (aCons (eC .none) aNil))) (gSet 3)) (sIf (tTru (eCallF (F__law_alone e) aNil)) (sAsg (eTup (aCons (eC (.str (Str.ofString "word"))) (aCons (eTup (aCons (eFld ["NoWord"] "word" e) (aCons (eFld ["NoWord"] "place" e) aNil))) aNil))) (gSet 3)) sNx)))
/-- what the suite leaves -/
def Fine (n : Nat) : SRes → Prop
  | .nx env m => m.length ≤ n ∧ (env[3]? = some none ∨ env[3]? = none ∨ ∃ z, env[3]? = some (some (.d z)) ∧ lastL z = none)
  | .err _ _ m => m.length ≤ n
  | .rt _ _ => False
  | .bk _ _ => True
  | .ct _ _ => True
  | .bad => True
theorem alone_len {e : Exn} {env : M.Env} {m m' : Mem} {w : W} (h : eCallF (F__law_alone e) aNil env m = .ok w m') : m'.length ≤ m.length := by
  unfold eCallF aNil at h
  rw [Res.bind_ok] at h
  unfold callM at h
  split at h
  · unfold F__law_alone at h; exact runF_len h
  · cases h
theorem asg_fine {f : EF} {env : M.Env} {m : Mem} {n : Nat} (hf : ∀ w m', f env m = .ok w m' → m'.length ≤ n ∧ ∃ z, w = .d z ∧ lastL z = none) (hm : ∀ e m', f env m = .err e m' → m'.length ≤ n) : Fine n (sAsg f (gSet 3) env m) := by
  unfold sAsg
  cases e : f env m with
  | ok w m' =>
    obtain ⟨h1, z, rfl, h2⟩ := hf _ _ e
    rw [eS_ok]
    unfold asgK gSet
    refine ⟨h1, ?_⟩
    by_cases hl : 3 < env.length
    · exact .inr (.inr ⟨z, by rw [List.getElem?_set_self hl], h2⟩)
    · exact .inr (.inl (by rw [List.getElem?_eq_none]; rw [List.length_set]; omega))
  | err x m' => rw [eS_err]; exact hm _ _ e
  | bad => exact True.intro
theorem alone_lenE {e x : Exn} {env : M.Env} {m m' : Mem} (h : eCallF (F__law_alone e) aNil env m = .err x m') : m'.length ≤ m.length := by
  unfold eCallF aNil at h
  rw [Res.bind_ok] at h
  unfold callM at h
  split at h
  · unfold F__law_alone at h; exact runF_lenE h
  · cases h
theorem tru_len {e : Exn} {env : M.Env} {m m' : Mem} {b : Bool} (h : tTru (eCallF (F__law_alone e) aNil) env m = .ok b m') : m'.length ≤ m.length := by
  unfold tTru at h
  cases q : eCallF (F__law_alone e) aNil env m with
  | ok w m1 =>
    rw [q, Res.bind_ok] at h
    split at h
    · cases h; exact alone_len q
    · cases h
  | err _ _ => rw [q] at h; cases h
  | bad => rw [q] at h; cases h
theorem tru_lenE {e x : Exn} {env : M.Env} {m m' : Mem} (h : tTru (eCallF (F__law_alone e) aNil) env m = .err x m') : m'.length ≤ m.length := by
  unfold tTru at h
  cases q : eCallF (F__law_alone e) aNil env m with
  | ok w m1 =>
    rw [q, Res.bind_ok] at h
    split at h <;> cases h
  | err _ _ => rw [q] at h; cases h; exact alone_lenE q
  | bad => rw [q] at h; cases h
def P3 (env : M.Env) : Prop := env[3]? = some none ∨ env[3]? = none ∨ ∃ z, env[3]? = some (some (.d z)) ∧ lastL z = none
theorem suite_fine {e : Exn} {env : M.Env} {m : Mem} {n : Nat} (hn : m.length ≤ n) (h3 : P3 env) : Fine n (suite e env m) := by
  unfold suite sFlat
  split
  · unfold sIf
    generalize hq : tAndF (tTru (eCallF (F__law_alone e) aNil)) _ env m = r
    cases r with
    | bad => exact True.intro
    | err x m2 =>
      rw [eS_err]
      unfold tAndF at hq
      cases q : tTru (eCallF (F__law_alone e) aNil) env m with
      | ok t m3 =>
        rw [q, Res.bind_ok] at hq
        split at hq
        · unfold tTru eTabF at hq
          split at hq
          · rw [Res.bind_ok] at hq
            split at hq <;> cases hq
          · cases hq
        · cases hq
      | err y m3 => rw [q] at hq; cases hq; exact Nat.le_trans (tru_lenE q) hn
      | bad => rw [q] at hq; cases hq
    | ok t m2 =>
      rw [eS_ok]
      have l2 : m2.length ≤ n := by
        unfold tAndF at hq
        cases q : tTru (eCallF (F__law_alone e) aNil) env m with
        | ok t m3 =>
          have := tru_len q
          rw [q, Res.bind_ok] at hq
          split at hq
          · unfold tTru eTabF at hq
            split at hq
            · rw [Res.bind_ok] at hq
              split at hq
              · cases hq; omega
              · cases hq
            · cases hq
          · cases hq; omega
        | err y m3 => rw [q] at hq; cases hq
        | bad => rw [q] at hq; cases hq
      split
      · refine asg_fine (fun w m' h => ?_) (fun x m' h => ?_)
        · cases h; exact ⟨l2, _, rfl, rfl⟩
        · cases h
      · generalize hq2 : tTru (eCallF (F__law_alone e) aNil) env m2 = r2
        cases r2 with
        | bad => exact True.intro
        | err x m3 => rw [eS_err]; exact Nat.le_trans (tru_lenE hq2) l2
        | ok t m3 =>
          rw [eS_ok]
          have l3 : m3.length ≤ n := Nat.le_trans (tru_len hq2) l2
          split
          · refine asg_fine (fun w m' h => ?_) (fun x m' h => ?_)
            · unfold eTup aCons aNil eC eFld at h
              simp only [Res.bind_ok] at h
              split at h
              · split at h
                · split at h
                  · cases (show (Res.ok (W.d (.tuple [.str (Str.ofString "word"), .tuple [_, _]])) m3 : Res W) = .ok w m' from h)
                    exact ⟨l3, _, rfl, rfl⟩
                  · cases h
                · cases h
              · cases h
            · unfold eTup aCons aNil eC eFld at h
              simp only [Res.bind_ok] at h
              split at h
              · split at h
                · split at h
                  · cases (show (Res.ok (W.d (.tuple [.str (Str.ofString "word"), .tuple [_, _]])) m3 : Res W) = .err x m' from h)
                  · cases h
                · cases h
              · cases h
          · exact ⟨l3, h3⟩
  · exact True.intro
noncomputable def dBody : SF := (sIf (tBool (eOp (isNW false) (eVar 2) (eC .none))) (sAsg (eTup (aCons (eC (.str (Str.ofString "told"))) (aCons (eFrz (eCallF F_forms_of (aCons (eVar 0) (aCons (eVar 1) aNil)))) aNil))) (gSet 3)) (sAsg (eTup (aCons (eC (.str (Str.ofString "told"))) (aCons (eFrz (eCallF F_term_of (aCons (eVar 0) (aCons (eVar 1) (aCons (eVar 2) aNil))))) aNil))) (gSet 3)))
noncomputable def oBody : SF := (sIf (tBool (eOp (isNW false) (eVar 2) (eC .none))) (sAsg (ePrL (aCons (eC (.str (Str.ofString "told"))) (aCons (eObj (eCallF F_forms_of (aCons (eVar 0) (aCons (eVar 1) aNil)))) aNil))) (gSet 3)) (sAsg (eTup (aCons (eC (.str (Str.ofString "told"))) (aCons (eFrz (eCallF F_term_of (aCons (eVar 0) (aCons (eVar 1) (aCons (eVar 2) aNil))))) aNil))) (gSet 3)))
def env1 (w0 w1 : W) : M.Env := [some w0, some w1, some (.d .none), some (.d (.tuple [.str (Str.ofString "wrong"), .none])), none]
theorem told_eq (w0 w1 : W) (m : Mem) : m__law_told (env0 5 [w0, w1, .d .none]) m = sSeq (sTryAs 4 tab_SlashError dBody suite) (sRet (eVar 3)) (env1 w0 w1) m := rfl
theorem toldo_eq (w0 w1 : W) (m : Mem) : m__law_told__o (env0 5 [w0, w1, .d .none]) m = sSeq (sTryAs 4 tab_SlashError oBody suite) (sRet (eVar 3)) (env1 w0 w1) m := rfl
theorem fine_no {n : Nat} {r : SRes} (h : Fine n r) : Fine n (unS 4 (noErrS r)) := by
  cases r with
  | nx env m =>
    refine ⟨h.1, ?_⟩
    have e : (env.set 4 none)[3]? = env[3]? := List.getElem?_set_ne (by decide)
    rw [e]
    exact h.2
  | rt w m => exact h
  | err e env m => exact True.intro
  | bk env m => exact True.intro
  | ct env m => exact True.intro
  | bad => exact True.intro
noncomputable def outF (n : Nat) : SRes → Res W
  | .rt w m' => finM n w m'
  | .nx _ m' => finM n (.d .none) m'
  | .err e _ m' => if clM n m' = true then .err e (m'.take n) else .bad
  | _ => .bad
noncomputable def outA : SRes → Res W
  | .rt w m' => .ok w m'
  | .nx _ m' => .ok (.d .none) m'
  | .err e _ m' => .err e m'
  | _ => .bad
noncomputable def last3 : SRes → SRes
  | .nx env m => sRet (eVar 3) env m
  | r => r
theorem same_opened {n : Nat} {r : SRes} (h : Fine n r) : Opened (outF n (last3 r)) (outA (last3 r)) := by
  cases r with
  | nx env m =>
    obtain ⟨hl, h3⟩ := h
    have bad : env[3]? = some none ∨ env[3]? = none → Opened (outF n (last3 (.nx env m))) (outA (last3 (.nx env m))) := fun h => by
      have e : last3 (.nx env m) = .bad := by
        unfold last3 sRet eVar
        dsimp only
        rcases h with h | h <;> rw [h] <;> rfl
      rw [e]; exact True.intro
    rcases h3 with h3 | h3 | ⟨z, h3, h4⟩
    · exact bad (.inl h3)
    · exact bad (.inr h3)
    · have e : last3 (.nx env m) = .rt (.d z) m := by
        unfold last3 sRet eVar
        dsimp only
        rw [h3]; rfl
      rw [e]
      show Opened (finM n (.d z) m) (.ok (.d z) m)
      unfold finM
      split
      · dsimp only
        rw [List.take_of_length_le hl]
        unfold Opened
        simp only [h4]
      · exact True.intro
  | rt w m => exact h.elim
  | err e env m =>
    have hl : m.length ≤ n := h
    show Opened (if clM n m = true then .err e (m.take n) else .bad) (.err e m)
    split
    · rw [List.take_of_length_le hl]; rfl
    · exact True.intro
  | bk env m => exact True.intro
  | ct env m => exact True.intro
  | bad => exact True.intro
theorem told_F (w0 w1 : W) (m : Mem) : F__law_told [w0, w1, .d .none] m = outF m.length (last3 (sTryAs 4 tab_SlashError dBody suite (env1 w0 w1) m)) := by
  show runF 5 m__law_told [w0, w1, .d .none] m = _
  unfold runF
  rw [told_eq]
  unfold sSeq
  cases sTryAs 4 tab_SlashError dBody suite (env1 w0 w1) m <;> rfl
theorem told_O (w0 w1 : W) (m : Mem) : F__law_told__o [w0, w1, .d .none] m = outA (last3 (sTryAs 4 tab_SlashError oBody suite (env1 w0 w1) m)) := by
  show runA 5 m__law_told__o [w0, w1, .d .none] m = _
  unfold runA
  rw [toldo_eq]
  unfold sSeq
  cases sTryAs 4 tab_SlashError oBody suite (env1 w0 w1) m <;> rfl
noncomputable def dTup : EF := eTup (aCons (eC (.str (Str.ofString "told"))) (aCons (eFrz (eCallF F_forms_of (aCons (eVar 0) (aCons (eVar 1) aNil)))) aNil))
noncomputable def oTup : EF := ePrL (aCons (eC (.str (Str.ofString "told"))) (aCons (eObj (eCallF F_forms_of (aCons (eVar 0) (aCons (eVar 1) aNil)))) aNil))
section
variable {C : EF} {env : M.Env} {m m1 : Mem} {t : D} {e : Exn} {ds : List D}
theorem tupD_bad (h : C env m = .bad) : eTup (aCons (eC t) (aCons (eFrz C) aNil)) env m = .bad := by
  unfold eTup aCons eFrz eC aNil; rw [Res.bind_ok, h]; rfl
theorem tupD_err (h : C env m = .err e m1) : eTup (aCons (eC t) (aCons (eFrz C) aNil)) env m = .err e m1 := by
  unfold eTup aCons eFrz eC aNil; rw [Res.bind_ok, h]; rfl
theorem tupD_fl (h : C env m = .ok (.fl ds) m1) : eTup (aCons (eC t) (aCons (eFrz C) aNil)) env m = .ok (.d (.tuple [t, .list ds])) m1 := by
  unfold eTup aCons eFrz eC aNil; rw [Res.bind_ok, h]; rfl
theorem tupO_err (h : C env m = .err e m1) : ePrL (aCons (eC t) (aCons (eObj C) aNil)) env m = .err e m1 := by
  unfold ePrL aCons eObj eC aNil; rw [Res.bind_ok, h]; rfl
theorem tupO_fl (h : C env m = .ok (.fl ds) m1) : ePrL (aCons (eC t) (aCons (eObj C) aNil)) env m = .ok (.pr [t] m1.length) (m1 ++ [.lst ds]) := by
  unfold ePrL aCons eObj eC aNil; rw [Res.bind_ok, h]; rfl
end
theorem d_eq (w0 w1 : W) (m : Mem) : dBody (env1 w0 w1) m = sAsg dTup (gSet 3) (env1 w0 w1) m := rfl
theorem o_eq (w0 w1 : W) (m : Mem) : oBody (env1 w0 w1) m = sAsg oTup (gSet 3) (env1 w0 w1) m := rfl
theorem call_eq (w0 w1 : W) (m : Mem) : eCallF F_forms_of (aCons (eVar 0) (aCons (eVar 1) aNil)) (env1 w0 w1) m = callM F_forms_of [w0, w1] m := rfl
theorem opened_core (w0 w1 : W) (m : Mem) : Opened (F__law_told [w0, w1, .d .none] m) (F__law_told__o [w0, w1, .d .none] m) := by
  rw [told_F, told_O]
  cases hc : callM F_forms_of [w0, w1] m with
  | bad =>
    have e : sTryAs 4 tab_SlashError dBody suite (env1 w0 w1) m = .bad := by
      unfold sTryAs
      rw [d_eq]
      unfold sAsg dTup
      rw [tupD_bad ((call_eq w0 w1 m).trans hc)]
      rfl
    rw [e]
    exact True.intro
  | err e m1 =>
    have e1 : dBody (env1 w0 w1) m = .err e (env1 w0 w1) m1 := by
      rw [d_eq]
      unfold sAsg dTup
      rw [tupD_err ((call_eq w0 w1 m).trans hc)]
      rfl
    have e2 : oBody (env1 w0 w1) m = .err e (env1 w0 w1) m1 := by
      rw [o_eq]
      unfold sAsg oTup
      rw [tupO_err ((call_eq w0 w1 m).trans hc)]
      rfl
    have hl : m1.length ≤ m.length := by
      unfold callM at hc
      split at hc
      · unfold F_forms_of at hc; exact runF_lenE hc
      · cases hc
    have e3 : sTryAs 4 tab_SlashError oBody suite (env1 w0 w1) m = sTryAs 4 tab_SlashError dBody suite (env1 w0 w1) m := by
      unfold sTryAs
      rw [e1, e2]
    rw [e3]
    refine same_opened ?_
    unfold sTryAs
    rw [e1]
    dsimp only
    split
    · exact fine_no (suite_fine hl (.inr (.inr ⟨_, rfl, rfl⟩)))
    · exact hl
    · exact True.intro
  | ok w m1 =>
    have h : F_forms_of [w0, w1] m = .ok w m1 := by
      unfold callM at hc
      split at hc
      · exact hc
      · cases hc
    obtain ⟨ds, rfl⟩ := forms_fl h
    have hl : m1.length ≤ m.length := by unfold F_forms_of at h; exact runF_len h
    have e1 : sTryAs 4 tab_SlashError dBody suite (env1 w0 w1) m = .nx ((env1 w0 w1).set 3 (some (.d (.tuple [.str (Str.ofString "told"), .list ds])))) m1 := by
      unfold sTryAs
      rw [d_eq]
      unfold sAsg dTup
      rw [tupD_fl ((call_eq w0 w1 m).trans hc)]
      rfl
    have e2 : sTryAs 4 tab_SlashError oBody suite (env1 w0 w1) m = .nx ((env1 w0 w1).set 3 (some (.pr [.str (Str.ofString "told")] m1.length))) (m1 ++ [.lst ds]) := by
      unfold sTryAs
      rw [o_eq]
      unfold sAsg oTup
      rw [tupO_fl ((call_eq w0 w1 m).trans hc)]
      rfl
    rw [e1, e2]
    show Opened (finM m.length (.d (.tuple [.str (Str.ofString "told"), .list ds])) m1) (.ok (.pr [.str (Str.ofString "told")] m1.length) (m1 ++ [.lst ds]))
    unfold finM
    split
    · dsimp only
      rw [List.take_of_length_le hl]
      rfl
    · exact True.intro
theorem outF_nofl {n : Nat} {r : SRes} {ds : List D} {m2 : Mem} (h : Fine n r ∨ ∃ env m z, r = .nx env m ∧ env[3]? = some (some (.d z))) : outF n (last3 r) ≠ .ok (.fl ds) m2 := by
  intro q
  have bad : ∀ env m, (env[3]? = some none ∨ env[3]? = none) → outF n (last3 (.nx env m)) = .bad := fun env m h => by
    have e : last3 (.nx env m) = .bad := by
      unfold last3 sRet eVar
      dsimp only
      rcases h with h | h <;> rw [h] <;> rfl
    rw [e]; rfl
  have good : ∀ (env : M.Env) m z, env[3]? = some (some (.d z)) → outF n (last3 (.nx env m)) ≠ .ok (.fl ds) m2 := fun env m z h3 q => by
    have e : last3 (.nx env m) = .rt (.d z) m := by
      unfold last3 sRet eVar
      dsimp only
      rw [h3]; rfl
    rw [e] at q
    have q : finM n (.d z) m = .ok (.fl ds) m2 := q
    unfold finM at q
    split at q <;> cases q
  rcases h with h | ⟨env, m, z, rfl, h3⟩
  · cases r with
    | nx env m =>
      obtain ⟨_, h3⟩ := h
      rcases h3 with h3 | h3 | ⟨z, h3, _⟩
      · rw [bad env m (.inl h3)] at q; cases q
      · rw [bad env m (.inr h3)] at q; cases q
      · exact good env m z h3 q
    | rt w m => exact h.elim
    | err e env m =>
      have q : (if clM n m = true then Res.err e (m.take n) else .bad : Res W) = .ok (.fl ds) m2 := q
      split at q <;> cases q
    | bk env m => cases q
    | ct env m => cases q
    | bad => cases q
  · exact good env m z h3 q
theorem told_nofl (w0 w1 : W) (m : Mem) {ds : List D} {m2 : Mem} : F__law_told [w0, w1, .d .none] m ≠ .ok (.fl ds) m2 := by
  rw [told_F]
  cases hc : callM F_forms_of [w0, w1] m with
  | bad =>
    have e : sTryAs 4 tab_SlashError dBody suite (env1 w0 w1) m = .bad := by
      unfold sTryAs
      rw [d_eq]
      unfold sAsg dTup
      rw [tupD_bad ((call_eq w0 w1 m).trans hc)]
      rfl
    rw [e]
    nofun
  | err e m1 =>
    have e1 : dBody (env1 w0 w1) m = .err e (env1 w0 w1) m1 := by
      rw [d_eq]
      unfold sAsg dTup
      rw [tupD_err ((call_eq w0 w1 m).trans hc)]
      rfl
    refine outF_nofl (.inl ?_)
    have hl : m1.length ≤ m.length := by
      unfold callM at hc
      split at hc
      · unfold F_forms_of at hc; exact runF_lenE hc
      · cases hc
    unfold sTryAs
    rw [e1]
    dsimp only
    split
    · exact fine_no (suite_fine hl (.inr (.inr ⟨_, rfl, rfl⟩)))
    · exact hl
    · exact True.intro
  | ok w m1 =>
    have h : F_forms_of [w0, w1] m = .ok w m1 := by
      unfold callM at hc
      split at hc
      · exact hc
      · cases hc
    obtain ⟨ds', rfl⟩ := forms_fl h
    have e1 : sTryAs 4 tab_SlashError dBody suite (env1 w0 w1) m = .nx ((env1 w0 w1).set 3 (some (.d (.tuple [.str (Str.ofString "told"), .list ds'])))) m1 := by
      unfold sTryAs
      rw [d_eq]
      unfold sAsg dTup
      rw [tupD_fl ((call_eq w0 w1 m).trans hc)]
      rfl
    exact outF_nofl (.inr ⟨_, _, _, e1, rfl⟩)
theorem opened__law_told__o : ∀ (env : M.Env) (m : Mem), Opened (eFrz (eCallF F__law_told (aCons (eVar 0) (aCons (eVar 1) (aCons (eC .none) aNil)))) env m) (eFrz (eCallF F__law_told__o (aCons (eVar 0) (aCons (eVar 1) (aCons (eC .none) aNil)))) env m) := by
  intro env m
  cases q0 : eVar 0 env m with
  | bad =>
    unfold eFrz eCallF aCons
    rw [q0]; exact True.intro
  | err e m1 =>
    exfalso
    unfold eVar at q0
    split at q0 <;> cases q0
  | ok w0 m0 =>
    have e0 : m0 = m := by unfold eVar at q0; split at q0 <;> cases q0; rfl
    subst e0
    cases q1 : eVar 1 env m0 with
    | bad =>
      unfold eFrz eCallF aCons
      rw [q0, Res.bind_ok, q1]; exact True.intro
    | err e m1 =>
      exfalso
      unfold eVar at q1
      split at q1 <;> cases q1
    | ok w1 m1 =>
      have e1 : m1 = m0 := by unfold eVar at q1; split at q1 <;> cases q1; rfl
      subst e1
      have ea : aCons (eVar 0) (aCons (eVar 1) (aCons (eC .none) aNil)) env m1 = .ok [w0, w1, .d .none] m1 := by
        unfold aCons
        rw [q0, Res.bind_ok, q1]
        rfl
      unfold eFrz eCallF
      rw [ea, Res.bind_ok, Res.bind_ok]
      unfold callM
      split
      · have o := opened_core w0 w1 m1
        cases r : F__law_told [w0, w1, .d .none] m1 with
        | bad => exact True.intro
        | err e m2 => rw [r] at o; have o : F__law_told__o [w0, w1, .d .none] m1 = .err e m2 := o; rw [o]; rfl
        | ok w m2 =>
          rw [r] at o
          cases w with
          | d z =>
            rw [Res.bind_ok]
            unfold Opened at o ⊢
            cases hL : lastL z with
            | none => simp only [hL] at o ⊢; rw [o]; rfl
            | some p => obtain ⟨a, ds⟩ := p; simp only [hL] at o ⊢; rw [o]; rfl
          | fl ds =>
            exact absurd r (told_nofl w0 w1 m1)
          | obj j => exact True.intro
          | ro ds => exact True.intro
          | pr xs j => exact True.intro
      · exact True.intro
end K25
set_option Elab.async false
set_option linter.all false
set_option maxRecDepth 100000
set_option maxHeartbeats 4000000
namespace K25
open PySem L2 M
variable [HasW]
noncomputable def g_show_form (w_show_form : GFn) : GSx :=
    (gsSeq (gsIf (gBool (gOp (eqP false) (gOp ixP (gVarD 0) (gC (.int 0))) (gC (.str (Str.ofString "basic"))))) (gsRet (gOp ixP (gVarD 0) (gC (.int 1)))) gsNx)
    (gsSeq (gsAsg (gCall [false, true] [.d] w_show_form (gaCons (gOp ixP (gVarD 0) (gC (.int 2))) gaNil)) (gtSet 1))
    (gsSeq (gsIf (gBool (gOp (eqP true) (gOp ixP (gOp ixP (gVarD 0) (gC (.int 2))) (gC (.int 0))) (gC (.str (Str.ofString "basic"))))) (gsAsg (gOp addSP (gOp addSP (gC (.str (Str.ofString "("))) (gVarD 1)) (gC (.str (Str.ofString ")")))) (gtSet 1)) gsNx)
    (gsRet (gOp addP (gOp addP (gCall [false, true] [.d] w_show_form (gaCons (gOp ixP (gVarD 0) (gC (.int 1))) gaNil)) (gOp ixP (gVarD 0) (gC (.int 0)))) (gVarD 1))))))
noncomputable def W_show_form (n : Nat) : GFn := fun γ avs K => match avs with
  | [.d a0] => (P_show_form n a0).bind fun r => K r []
  | _ => .bad
theorem e_show_form (n : Nat) (a0 : D) : runG (g_show_form (W_show_form n)) (init0 2 [.d a0]) out0 = B_show_form (P_show_form n) a0 := by kernel_rfl
theorem rs_show_form {n : Nat} (ih_show_form : SpG (F_show_form n) 2 (W_show_form n)) : RS 7 [false, true] (m_show_form (F_show_form n)) (g_show_form (W_show_form n)) :=
    (rs_seq (rs_if (rt_bool (RE.up (s' := 3) (re_op eqP_ok (RE.up (s' := 3) (re_op ixP_ok (RE.up (s' := 3) (re_varD 0) rfl) (RE.up (s' := 3) (re_c (.int 0)) rfl)) rfl) (RE.up (s' := 3) (re_c (.str (Str.ofString "basic"))) rfl)) rfl)) (rs_ret (RE.up (s' := 7) (re_op ixP_ok (RE.up (s' := 3) (re_varD 0) rfl) (RE.up (s' := 3) (re_c (.int 1)) rfl)) rfl)) rs_nx)
    (rs_seq (rs_asg (re_frz (re_call (ks := [.d]) ih_show_form (ra_cons (re_op ixP_ok (RE.up (s' := 3) (re_varD 0) rfl) (RE.up (s' := 3) (re_c (.int 2)) rfl)) ra_nil))) (rg_set 1))
    (rs_seq (rs_if (rt_bool (RE.up (s' := 3) (re_op eqP_ok (RE.up (s' := 3) (re_op ixP_ok (RE.up (s' := 3) (re_op ixP_ok (RE.up (s' := 3) (re_varD 0) rfl) (RE.up (s' := 3) (re_c (.int 2)) rfl)) rfl) (RE.up (s' := 3) (re_c (.int 0)) rfl)) rfl) (RE.up (s' := 3) (re_c (.str (Str.ofString "basic"))) rfl)) rfl)) (rs_asg (re_op addASP_ok (RE.up (s' := 3) (re_op addASP_ok (RE.up (s' := 3) (re_c (.str (Str.ofString "("))) rfl) (RE.up (s' := 3) (re_varD 1) rfl)) rfl) (RE.up (s' := 3) (re_c (.str (Str.ofString ")"))) rfl)) (rg_set 1)) rs_nx)
    (rs_ret (RE.up (s' := 7) (re_op addAP_ok (RE.up (s' := 3) (re_op addAP_ok (RE.up (s' := 3) (re_call (ks := [.d]) ih_show_form (ra_cons (re_op ixP_ok (RE.up (s' := 3) (re_varD 0) rfl) (RE.up (s' := 3) (re_c (.int 1)) rfl)) ra_nil)) rfl) (RE.up (s' := 3) (re_op ixP_ok (RE.up (s' := 3) (re_varD 0) rfl) (RE.up (s' := 3) (re_c (.int 0)) rfl)) rfl)) rfl) (RE.up (s' := 3) (re_varD 1) rfl)) rfl)))))
theorem ss_show_form {n : Nat} (ih_show_form : SpG (F_show_form n) 2 (W_show_form n)) : SpG (F_show_form (n + 1)) 2 (W_show_form (n + 1)) := by
  intro γ m ws avs J K hcl hA hn hd nb
  unfold W_show_form at nb ⊢
  split at nb
  · rename_i a0
    exact sp_fin (s := 2) (N := 2) (res := id) (us := fun _ => []) (rs_show_form ih_show_form) rfl hcl hA hn hd (e_show_form n a0) (out0_ok rfl) nb
  · exact absurd rfl nb
theorem sp_show_form : ∀ n : Nat, SpG (F_show_form n) 2 (W_show_form n)
  | 0 => by
    intro γ m ws avs J K hcl hA hn hd nb
    exfalso
    unfold W_show_form at nb
    split at nb
    · exact nb rfl
    · exact nb rfl
  | n + 1 => ss_show_form (sp_show_form n)
noncomputable def g_forms_of : GSx :=
    (gsSeq (gsAsg (gLc [] [false, false, false, true, true, true] (giSeq (gOp ixP (gVarD 0) (gC (.int 2)))) (gtTup (gtsCons (gtSet 3) (gtsCons (gtSet 4) (gtsCons (gtSet 5) gtsNil)))) (gBool (gOp (eqP false) (gVarD 3) (gVarD 1))) (gVarD 4)) (gtSet 2))
    (gsSeq (gsIf (gBool (gOp (eqP false) (gVarD 2) (gLst gaNil))) (gsRaise2 "NoWord" "word" "place" (gVarD 1) (gC (.int 0))) gsNx)
    (gsRet (gCa (sortKP (P_show_form fuelR)) (gaCons (gVarD 2) gaNil)))))
noncomputable def W_forms_of : GFn := fun γ avs K => match avs with
  | [.d a0, .d a1] => (P_forms_of a0 a1).bind fun r => K r []
  | _ => .bad
theorem e_forms_of (a0 : D) (a1 : D) : runG (g_forms_of) (init0 6 [.d a0, .d a1]) out0 = P_forms_of a0 a1 := by kernel_rfl
theorem rs_forms_of : RS 7 [false, false, true, true, true, true] m_forms_of (g_forms_of) :=
    (rs_seq (rs_asg (re_frz (RE.up (s' := 2) (re_lc (ds := []) (mb := [false, false, false, true, true, true]) (mt := [false, false, false, true, true, true]) (ri_seq (RE.up (s' := 3) (re_op ixP_ok (RE.up (s' := 3) (re_varD 0) rfl) (RE.up (s' := 3) (re_c (.int 2)) rfl)) rfl)) (rg_tup (rgs_cons (rg_set 3) (rgs_cons (rg_set 4) (rgs_cons (rg_set 5) rgs_nil)))) (rt_bool (RE.up (s' := 3) (re_op eqP_ok (RE.up (s' := 3) (re_varD 3) rfl) (RE.up (s' := 3) (re_varD 1) rfl)) rfl)) (re_varD 4)) rfl)) (rg_set 2))
    (rs_seq (rs_if (rt_bool (RE.up (s' := 3) (re_op eqP_ok (RE.up (s' := 3) (re_varD 2) rfl) (RE.up (s' := 3) (re_lst ra_nil) rfl)) rfl)) (rs_raise2 (re_varD 1) (re_c (.int 0))) rs_nx)
    (rs_ret (RE.up (s' := 7) (re_sortK (sp_show_form 40) (fun γ d K => by rw [fuelR_eq]; rfl) (ra_cons (RE.up (s' := 3) (re_varD 2) rfl) ra_nil)) rfl))))
theorem sp_forms_of : SpG F_forms_of 2 W_forms_of := by
  intro γ m ws avs J K hcl hA hn hd nb
  unfold W_forms_of at nb ⊢
  split at nb
  · rename_i a0 a1
    exact sp_fin (s := 2) (N := 6) (res := id) (us := fun _ => []) rs_forms_of rfl hcl hA hn hd (e_forms_of a0 a1) (out0_ok rfl) nb
  · exact absurd rfl nb
noncomputable def g_term_of : GSx :=
    (gsSeq (gsIf (gBool (gOp (inP true) (gVarD 2) (gCall [false, false, false, true, true, true] [.d, .d] W_forms_of (gaCons (gVarD 0) (gaCons (gVarD 1) gaNil))))) (gsRaise "NoForm") gsNx)
    (gsRet (gOp ixP (gLc [] [false, false, false, true, true, true] (giSeq (gOp ixP (gVarD 0) (gC (.int 2)))) (gtTup (gtsCons (gtSet 3) (gtsCons (gtSet 4) (gtsCons (gtSet 5) gtsNil)))) (gtAnd (gBool (gOp (eqP false) (gVarD 3) (gVarD 1))) (gBool (gOp (eqP false) (gVarD 4) (gVarD 2)))) (gVarD 5)) (gC (.int 0)))))
noncomputable def W_term_of : GFn := fun γ avs K => match avs with
  | [.d a0, .d a1, .d a2] => (P_term_of a0 a1 a2).bind fun r => K r []
  | _ => .bad
theorem e_term_of (a0 : D) (a1 : D) (a2 : D) : runG (g_term_of) (init0 6 [.d a0, .d a1, .d a2]) out0 = P_term_of a0 a1 a2 := by kernel_rfl
theorem rs_term_of : RS 7 [false, false, false, true, true, true] m_term_of (g_term_of) :=
    (rs_seq (rs_if (rt_bool (RE.up (s' := 3) (re_op inP_ok (RE.up (s' := 3) (re_varD 2) rfl) (RE.up (s' := 3) (re_call (ks := [.d, .d]) sp_forms_of (ra_cons (re_varD 0) (ra_cons (re_varD 1) ra_nil))) rfl)) rfl)) (rs_raise "NoForm") rs_nx)
    (rs_ret (RE.up (s' := 7) (re_op ixP_ok (RE.up (s' := 3) (re_lc (ds := []) (mb := [false, false, false, true, true, true]) (mt := [false, false, false, true, true, true]) (ri_seq (RE.up (s' := 3) (re_op ixP_ok (RE.up (s' := 3) (re_varD 0) rfl) (RE.up (s' := 3) (re_c (.int 2)) rfl)) rfl)) (rg_tup (rgs_cons (rg_set 3) (rgs_cons (rg_set 4) (rgs_cons (rg_set 5) rgs_nil)))) (rt_and (rt_bool (RE.up (s' := 3) (re_op eqP_ok (RE.up (s' := 3) (re_varD 3) rfl) (RE.up (s' := 3) (re_varD 1) rfl)) rfl)) (rt_bool (RE.up (s' := 3) (re_op eqP_ok (RE.up (s' := 3) (re_varD 4) rfl) (RE.up (s' := 3) (re_varD 2) rfl)) rfl))) (re_varD 5)) rfl) (RE.up (s' := 3) (re_c (.int 0)) rfl)) rfl)))
theorem sp_term_of : SpG F_term_of 2 W_term_of := by
  intro γ m ws avs J K hcl hA hn hd nb
  unfold W_term_of at nb ⊢
  split at nb
  · rename_i a0 a1 a2
    exact sp_fin (s := 2) (N := 6) (res := id) (us := fun _ => []) rs_term_of rfl hcl hA hn hd (e_term_of a0 a1 a2) (out0_ok rfl) nb
  · exact absurd rfl nb
noncomputable def g__law_take : GSx :=
    (gsSeq (gsIf (gBool (gOp (eqP false) (gVarO 0) (gLst gaNil))) (gsRet (gC (.int 0))) gsNx)
    (gsRet (gOp modP (gMu popAtP 0 (gaCons (gC (.int 0)) gaNil)) (gVarD 1))))
noncomputable def W__law_take : GFn := fun γ avs K => match avs with
  | [.l i0 a0, .d a1] => (P__law_take a0 a1).bind fun r => K r.1 [(i0, .l r.2)]
  | _ => .bad
theorem e__law_take (a0 : List D) (i0 : Nat) (a1 : D) : runG (g__law_take) (init0 2 [.l i0 a0, .d a1]) (outL 0) = P__law_take a0 a1 := by kernel_rfl
theorem rs__law_take : RS 7 [true, false] m__law_take (g__law_take) :=
    (rs_seq (rs_if (rt_bool (RE.up (s' := 3) (re_op eqP_ok (re_varO (s := 3) 0 rfl) (RE.up (s' := 3) (re_lst ra_nil) rfl)) rfl)) (rs_ret (RE.up (s' := 7) (re_c (.int 0)) rfl)) rs_nx)
    (rs_ret (RE.up (s' := 7) (re_op modP_ok (RE.up (s' := 3) (re_mu popAtP_ok 0 (ra_cons (re_c (.int 0)) ra_nil)) rfl) (RE.up (s' := 3) (re_varD 1) rfl)) rfl)))
theorem sp__law_take : SpG F__law_take 2 W__law_take := by
  intro γ m ws avs J K hcl hA hn hd nb
  unfold W__law_take at nb ⊢
  split at nb
  · rename_i i0 a0 a1
    exact sp_fin (s := 2) (N := 2) (res := Prod.fst) (us := fun r => [(i0, .l r.2)]) rs__law_take rfl hcl hA hn hd (e__law_take a0 i0 a1) (outL_ok (a := 0) rfl rfl) nb
  · exact absurd rfl nb
noncomputable def g__law_names (fw : Nat) : GSx :=
    (gsSeq (gsAsg (gC (.str (Str.ofString "abcdefghijklmnopqrstuvwxyz"))) (gtSet 2))
    (gsSeq (gsAsg (gOp (eqP false) (gOp modP (gVarD 0) (gC (.int 2))) (gC (.int 0))) (gtSet 3))
    (gsSeq (gsAsg (gOp addSP (gC (.int 1)) (gOp modP (gOp divP (gVarD 0) (gC (.int 2))) (gC (.int 8)))) (gtSet 4))
    (gsSeq (gsAsg (gOp modP (gOp divP (gVarD 0) (gC (.int 16))) (gVarD 4)) (gtSet 5))
    (gsSeq (gsAsg (gOp divP (gVarD 0) (gC (.int 128))) (gtSet 6))
    (gsSeq (gsAsgL (gLst gaNil) 7)
    (gsSeq (gsFor [(6, .d), (7, .l false)] [false, false, false, false, false, false, true, true, true, true, true, true, true] (giCa rng1P (gaCons (gVarD 1) gaNil)) (gtSet 8) (gsSeq (gsAsg (gVarD 6) (gtSet 9))
    (gsSeq (gsAsg (gVarD 4) (gtSet 10))
    (gsSeq (gsIf (gtNot (gTru (gVarD 3))) (gsSeq (gsAsg (gOp addSP (gC (.int 1)) (gOp modP (gVarD 6) (gC (.int 8)))) (gtSet 10))
    (gsAsg (gOp divP (gVarD 6) (gC (.int 8))) (gtSet 9))) gsNx)
    (gsSeq (gsAsgL (gLst gaNil) 11)
    (gsSeq (gsFor [(9, .d), (11, .l false)] [false, false, false, false, false, false, false, false, false, true, false, true, true] (giCa rng1P (gaCons (gVarD 10) gaNil)) (gtSet 12) (gsSeq (gsDrop (gMu appendP 11 (gaCons (gOp ixP (gVarD 2) (gOp modP (gVarD 9) (gC (.int 26)))) gaNil)))
    (gsAsg (gOp divP (gVarD 9) (gC (.int 26))) (gtSet 9))))
    (gsSeq (gsIf (gTru (gVarD 3)) (gsSetI 11 (gVarD 5) (gOp ixP (gVarD 2) (gOp modP (gOp addSP (gSm sindexP (gVarD 2) (gaCons (gOp ixP (gVarO 11) (gVarD 5)) gaNil)) (gVarD 8)) (gC (.int 26))))) (gsAsg (gVarD 9) (gtSet 6)))
    (gsSeq (gsWhile [(11, .l false)] [false, false, false, false, false, false, false, false, false, false, false, true, false] (gtOr (gBool (gOp (inP false) (gSm joinP (gC (.str (Str.ofString ""))) (gaCons (gVarO 11) gaNil)) (gVarO 7))) (gBool (gOp (eqP false) (gVarO 11) (gLst (gaCons (gC (.str (Str.ofString "a"))) (gaCons (gC (.str (Str.ofString "n"))) (gaCons (gC (.str (Str.ofString "y"))) gaNil))))))) (gsIf (gBool (gOp (eqP false) (gVarO 11) (gLst (gaCons (gC (.str (Str.ofString "a"))) (gaCons (gC (.str (Str.ofString "n"))) (gaCons (gC (.str (Str.ofString "y"))) gaNil)))))) (gsAsgL (gLst (gaCons (gC (.str (Str.ofString "y"))) (gaCons (gC (.str (Str.ofString "n"))) (gaCons (gC (.str (Str.ofString "a"))) gaNil)))) 11) (gsSetI 11 (gC (.int 0)) (gOp ixP (gVarD 2) (gOp modP (gOp addSP (gSm sindexP (gVarD 2) (gaCons (gOp ixP (gVarO 11) (gC (.int 0))) gaNil)) (gC (.int 1))) (gC (.int 26)))))) fw)
    (gsDrop (gMu appendP 7 (gaCons (gSm joinP (gC (.str (Str.ofString ""))) (gaCons (gVarO 11) gaNil)) gaNil)))))))))))
    (gsRet (gVarO 7)))))))))
noncomputable def W__law_names : GFn := fun γ avs K => match avs with
  | [.d a0, .d a1] => (P__law_names a0 a1).bind fun r => K r []
  | _ => .bad
theorem e__law_names (fw : Nat) (a0 : D) (a1 : D) : runG (g__law_names fw) (init0 13 [.d a0, .d a1]) out0 = PF__law_names fw a0 a1 := by kernel_rfl
theorem rs__law_names : RS 8 [false, false, true, true, true, true, true, true, true, true, true, true, true] m__law_names (g__law_names fuelW) :=
    (rs_seq (rs_asg (re_c (.str (Str.ofString "abcdefghijklmnopqrstuvwxyz"))) (rg_set 2))
    (rs_seq (rs_asg (re_op eqP_ok (RE.up (s' := 3) (re_op modP_ok (RE.up (s' := 3) (re_varD 0) rfl) (RE.up (s' := 3) (re_c (.int 2)) rfl)) rfl) (RE.up (s' := 3) (re_c (.int 0)) rfl)) (rg_set 3))
    (rs_seq (rs_asg (re_op addASP_ok (RE.up (s' := 3) (re_c (.int 1)) rfl) (RE.up (s' := 3) (re_op modP_ok (RE.up (s' := 3) (re_op divP_ok (RE.up (s' := 3) (re_varD 0) rfl) (RE.up (s' := 3) (re_c (.int 2)) rfl)) rfl) (RE.up (s' := 3) (re_c (.int 8)) rfl)) rfl)) (rg_set 4))
    (rs_seq (rs_asg (re_op modP_ok (RE.up (s' := 3) (re_op divP_ok (RE.up (s' := 3) (re_varD 0) rfl) (RE.up (s' := 3) (re_c (.int 16)) rfl)) rfl) (RE.up (s' := 3) (re_varD 4) rfl)) (rg_set 5))
    (rs_seq (rs_asg (re_op divP_ok (RE.up (s' := 3) (re_varD 0) rfl) (RE.up (s' := 3) (re_c (.int 128)) rfl)) (rg_set 6))
    (rs_seq (rs_asgL 7 (re_lst ra_nil))
    (rs_seq (rs_for (ds := [(6, .d), (7, .l false)]) (mb := [false, false, false, false, false, false, true, true, true, true, true, true, true]) (ri_range1 (ra_cons (RE.up (s' := 3) (re_varD 1) rfl) ra_nil)) (rg_set 8) (rs_seq (rs_asg (re_varD 6) (rg_set 9))
    (rs_seq (rs_asg (re_varD 4) (rg_set 10))
    (rs_seq (rs_if (rt_not (rt_tru (RE.up (s' := 3) (re_varD 3) rfl))) (rs_seq (rs_asg (re_op addASP_ok (RE.up (s' := 3) (re_c (.int 1)) rfl) (RE.up (s' := 3) (re_op modP_ok (RE.up (s' := 3) (re_varD 6) rfl) (RE.up (s' := 3) (re_c (.int 8)) rfl)) rfl)) (rg_set 10))
    (rs_asg (re_op divP_ok (RE.up (s' := 3) (re_varD 6) rfl) (RE.up (s' := 3) (re_c (.int 8)) rfl)) (rg_set 9))) rs_nx)
    (rs_seq (rs_asgL 11 (re_lst ra_nil))
    (rs_seq (rs_for (ds := [(9, .d), (11, .l false)]) (mb := [false, false, false, false, false, false, false, false, false, true, false, true, true]) (ri_range1 (ra_cons (RE.up (s' := 3) (re_varD 10) rfl) ra_nil)) (rg_set 12) (rs_seq (rs_drop (RE.up (s' := 3) (re_mu appendP_ok 11 (ra_cons (re_op ixP_ok (RE.up (s' := 3) (re_varD 2) rfl) (RE.up (s' := 3) (re_op modP_ok (RE.up (s' := 3) (re_varD 9) rfl) (RE.up (s' := 3) (re_c (.int 26)) rfl)) rfl)) ra_nil)) rfl))
    (rs_asg (re_op divP_ok (RE.up (s' := 3) (re_varD 9) rfl) (RE.up (s' := 3) (re_c (.int 26)) rfl)) (rg_set 9))))
    (rs_seq (rs_if (rt_tru (RE.up (s' := 3) (re_varD 3) rfl)) (rs_setI 11 (re_op ixP_ok (RE.up (s' := 3) (re_varD 2) rfl) (RE.up (s' := 3) (re_op modP_ok (RE.up (s' := 3) (re_op addASP_ok (RE.up (s' := 3) (re_sm sindexP_ok (RE.up (s' := 3) (re_varD 2) rfl) (ra_cons (re_op ixP_ok (re_varO (s := 3) 11 rfl) (RE.up (s' := 3) (re_varD 5) rfl)) ra_nil)) rfl) (RE.up (s' := 3) (re_varD 8) rfl)) rfl) (RE.up (s' := 3) (re_c (.int 26)) rfl)) rfl)) (RE.up (s' := 3) (re_varD 5) rfl)) (rs_asg (re_varD 9) (rg_set 6)))
    (rs_seq (rs_while (ds := [(11, .l false)]) (mb := [false, false, false, false, false, false, false, false, false, false, false, true, false]) fuelW (rt_or (rt_bool (RE.up (s' := 3) (re_op inP_ok (RE.up (s' := 3) (re_sm joinP_ok (RE.up (s' := 3) (re_c (.str (Str.ofString ""))) rfl) (ra_cons (re_varO (s := 3) 11 rfl) ra_nil)) rfl) (re_varO (s := 3) 7 rfl)) rfl)) (rt_bool (RE.up (s' := 3) (re_op eqP_ok (re_varO (s := 3) 11 rfl) (RE.up (s' := 3) (re_lst (ra_cons (re_c (.str (Str.ofString "a"))) (ra_cons (re_c (.str (Str.ofString "n"))) (ra_cons (re_c (.str (Str.ofString "y"))) ra_nil)))) rfl)) rfl))) (rs_if (rt_bool (RE.up (s' := 3) (re_op eqP_ok (re_varO (s := 3) 11 rfl) (RE.up (s' := 3) (re_lst (ra_cons (re_c (.str (Str.ofString "a"))) (ra_cons (re_c (.str (Str.ofString "n"))) (ra_cons (re_c (.str (Str.ofString "y"))) ra_nil)))) rfl)) rfl)) (rs_asgL 11 (re_lst (ra_cons (re_c (.str (Str.ofString "y"))) (ra_cons (re_c (.str (Str.ofString "n"))) (ra_cons (re_c (.str (Str.ofString "a"))) ra_nil))))) (rs_setI 11 (re_op ixP_ok (RE.up (s' := 3) (re_varD 2) rfl) (RE.up (s' := 3) (re_op modP_ok (RE.up (s' := 3) (re_op addASP_ok (RE.up (s' := 3) (re_sm sindexP_ok (RE.up (s' := 3) (re_varD 2) rfl) (ra_cons (re_op ixP_ok (re_varO (s := 3) 11 rfl) (RE.up (s' := 3) (re_c (.int 0)) rfl)) ra_nil)) rfl) (RE.up (s' := 3) (re_c (.int 1)) rfl)) rfl) (RE.up (s' := 3) (re_c (.int 26)) rfl)) rfl)) (RE.up (s' := 3) (re_c (.int 0)) rfl))))
    (rs_drop (RE.up (s' := 3) (re_mu appendP_ok 7 (ra_cons (re_sm joinP_ok (RE.up (s' := 3) (re_c (.str (Str.ofString ""))) rfl) (ra_cons (re_varO (s := 3) 11 rfl) ra_nil)) ra_nil)) rfl))))))))))
    (rs_ret (re_varO (s := 8) 7 rfl)))))))))
theorem sp__law_names : SpG F__law_names 1 W__law_names := by
  intro γ m ws avs J K hcl hA hn hd nb
  unfold W__law_names at nb ⊢
  split at nb
  · rename_i a0 a1
    exact sp_fin (s := 1) (N := 13) (res := id) (us := fun _ => []) rs__law_names rfl hcl hA hn hd (e__law_names fuelW a0 a1) (out0_ok rfl) nb
  · exact absurd rfl nb
noncomputable def g__law_form (w__law_form : GFn) : GSx :=
    (gsSeq (gsAsg (gCall [true, false, false, true, true, true] [.l, .d] W__law_take (gaCons (gVarO 0) (gaCons (gOp powP (gC (.int 10)) (gC (.int 12))) gaNil))) (gtSet 3))
    (gsSeq (gsIf (gtOr (gBool (gOp ltP (gVarD 2) (gC (.int 2)))) (gBool (gOp (eqP false) (gOp modP (gVarD 3) (gC (.int 3))) (gC (.int 0))))) (gsRet (gTup (gaCons (gC (.str (Str.ofString "basic"))) (gaCons (gOp ixP (gVarD 1) (gOp modP (gOp divP (gVarD 3) (gC (.int 3))) (gCa lenP (gaCons (gVarD 1) gaNil)))) gaNil)))) gsNx)
    (gsSeq (gsAsg (gOp addSP (gC (.int 1)) (gOp modP (gOp divP (gVarD 3) (gC (.int 6))) (gOp subP (gVarD 2) (gC (.int 1))))) (gtSet 4))
    (gsSeq (gsAsg (gCall [true, false, false, true, true, true] [.l, .d, .d] w__law_form (gaCons (gVarO 0) (gaCons (gVarD 1) (gaCons (gVarD 4) gaNil)))) (gtSet 5))
    (gsRet (gTup (gaCons (gOp ixP (gLst (gaCons (gC (.str (Str.ofString "/"))) (gaCons (gC (.str (Str.ofString "\\"))) gaNil))) (gOp modP (gOp divP (gVarD 3) (gC (.int 3))) (gC (.int 2)))) (gaCons (gVarD 5) (gaCons (gCall [true, false, false, true, true, true] [.l, .d, .d] w__law_form (gaCons (gVarO 0) (gaCons (gVarD 1) (gaCons (gOp subP (gVarD 2) (gVarD 4)) gaNil)))) gaNil)))))))))
noncomputable def W__law_form (n : Nat) : GFn := fun γ avs K => match avs with
  | [.l i0 a0, .d a1, .d a2] => (P__law_form n a0 a1 a2).bind fun r => K r.1 [(i0, .l r.2)]
  | _ => .bad
theorem e__law_form (n : Nat) (a0 : List D) (i0 : Nat) (a1 : D) (a2 : D) : runG (g__law_form (W__law_form n)) (init0 6 [.l i0 a0, .d a1, .d a2]) (outL 0) = B__law_form (P__law_form n) a0 a1 a2 := by kernel_rfl
theorem rs__law_form {n : Nat} (ih__law_form : SpG (F__law_form n) 2 (W__law_form n)) : RS 7 [true, false, false, true, true, true] (m__law_form (F__law_form n)) (g__law_form (W__law_form n)) :=
    (rs_seq (rs_asg (re_frz (re_call (ks := [.l, .d]) sp__law_take (ra_cons (re_objV (s := 4) 0) (ra_cons (re_op powP_ok (RE.up (s' := 3) (re_c (.int 10)) rfl) (RE.up (s' := 3) (re_c (.int 12)) rfl)) ra_nil)))) (rg_set 3))
    (rs_seq (rs_if (rt_or (rt_bool (RE.up (s' := 3) (re_op ltP_ok (RE.up (s' := 3) (re_varD 2) rfl) (RE.up (s' := 3) (re_c (.int 2)) rfl)) rfl)) (rt_bool (RE.up (s' := 3) (re_op eqP_ok (RE.up (s' := 3) (re_op modP_ok (RE.up (s' := 3) (re_varD 3) rfl) (RE.up (s' := 3) (re_c (.int 3)) rfl)) rfl) (RE.up (s' := 3) (re_c (.int 0)) rfl)) rfl))) (rs_ret (RE.up (s' := 7) (re_tup (ra_cons (re_c (.str (Str.ofString "basic"))) (ra_cons (re_op ixP_ok (RE.up (s' := 3) (re_varD 1) rfl) (RE.up (s' := 3) (re_op modP_ok (RE.up (s' := 3) (re_op divP_ok (RE.up (s' := 3) (re_varD 3) rfl) (RE.up (s' := 3) (re_c (.int 3)) rfl)) rfl) (RE.up (s' := 3) (re_ca lenP_ok (ra_cons (RE.up (s' := 3) (re_varD 1) rfl) ra_nil)) rfl)) rfl)) ra_nil))) rfl)) rs_nx)
    (rs_seq (rs_asg (re_op addASP_ok (RE.up (s' := 3) (re_c (.int 1)) rfl) (RE.up (s' := 3) (re_op modP_ok (RE.up (s' := 3) (re_op divP_ok (RE.up (s' := 3) (re_varD 3) rfl) (RE.up (s' := 3) (re_c (.int 6)) rfl)) rfl) (RE.up (s' := 3) (re_op subP_ok (RE.up (s' := 3) (re_varD 2) rfl) (RE.up (s' := 3) (re_c (.int 1)) rfl)) rfl)) rfl)) (rg_set 4))
    (rs_seq (rs_asg (re_frz (re_call (ks := [.l, .d, .d]) ih__law_form (ra_cons (re_objV (s := 4) 0) (ra_cons (re_varD 1) (ra_cons (re_varD 4) ra_nil))))) (rg_set 5))
    (rs_ret (RE.up (s' := 7) (re_tup (ra_cons (re_op ixP_ok (RE.up (s' := 3) (re_lst (ra_cons (re_c (.str (Str.ofString "/"))) (ra_cons (re_c (.str (Str.ofString "\\"))) ra_nil))) rfl) (RE.up (s' := 3) (re_op modP_ok (RE.up (s' := 3) (re_op divP_ok (RE.up (s' := 3) (re_varD 3) rfl) (RE.up (s' := 3) (re_c (.int 3)) rfl)) rfl) (RE.up (s' := 3) (re_c (.int 2)) rfl)) rfl)) (ra_cons (re_varD 5) (ra_cons (re_frz (re_call (ks := [.l, .d, .d]) ih__law_form (ra_cons (re_objV (s := 4) 0) (ra_cons (re_varD 1) (ra_cons (re_op subP_ok (RE.up (s' := 3) (re_varD 2) rfl) (RE.up (s' := 3) (re_varD 4) rfl)) ra_nil))))) ra_nil)))) rfl))))))
theorem ss__law_form {n : Nat} (ih__law_form : SpG (F__law_form n) 2 (W__law_form n)) : SpG (F__law_form (n + 1)) 2 (W__law_form (n + 1)) := by
  intro γ m ws avs J K hcl hA hn hd nb
  unfold W__law_form at nb ⊢
  split at nb
  · rename_i i0 a0 a1 a2
    exact sp_fin (s := 2) (N := 6) (res := Prod.fst) (us := fun r => [(i0, .l r.2)]) (rs__law_form ih__law_form) rfl hcl hA hn hd (e__law_form n a0 i0 a1 a2) (outL_ok (a := 0) rfl rfl) nb
  · exact absurd rfl nb
theorem sp__law_form : ∀ n : Nat, SpG (F__law_form n) 2 (W__law_form n)
  | 0 => by
    intro γ m ws avs J K hcl hA hn hd nb
    exfalso
    unfold W__law_form at nb
    split at nb
    · exact nb rfl
    · exact nb rfl
  | n + 1 => ss__law_form (sp__law_form n)
noncomputable def g__law_spread : GSx :=
    (gsSeq (gsAsg (gOp addSP (gOp modP (gVarD 0) (gC (.int 2147483646))) (gC (.int 1))) (gtSet 2))
    (gsSeq (gsAsg (gOp divP (gVarD 0) (gC (.int 2))) (gtSet 3))
    (gsSeq (gsAsgL (gLst gaNil) 4)
    (gsSeq (gsFor [(2, .d), (3, .d), (4, .l false)] [false, false, true, true, true, true, true] (giCa rng1P (gaCons (gVarD 1) gaNil)) (gtSet 5) (gsSeq (gsAsg (gOp modP (gOp mulP (gVarD 2) (gC (.int 48271))) (gC (.int 2147483647))) (gtSet 2))
    (gsSeq (gsAsg (gOp modP (gVarD 3) (gOp powP (gC (.int 10)) (gC (.int 12)))) (gtSet 6))
    (gsSeq (gsAsg (gOp divP (gVarD 3) (gOp powP (gC (.int 10)) (gC (.int 12)))) (gtSet 3))
    (gsDrop (gMu appendP 4 (gaCons (gOp ixP (gLst (gaCons (gVarD 6) (gaCons (gOp modP (gOp mulP (gVarD 2) (gC (.int 69621))) (gC (.int 2147483629))) gaNil))) (gOp modP (gVarD 0) (gC (.int 2)))) gaNil)))))))
    (gsRet (gVarO 4))))))
noncomputable def W__law_spread : GFn := fun γ avs K => match avs with
  | [.d a0, .d a1] => (P__law_spread a0 a1).bind fun r => K r []
  | _ => .bad
theorem e__law_spread (a0 : D) (a1 : D) : runG (g__law_spread) (init0 7 [.d a0, .d a1]) out0 = P__law_spread a0 a1 := by kernel_rfl
theorem rs__law_spread : RS 7 [false, false, true, true, true, true, true] m__law_spread (g__law_spread) :=
    (rs_seq (rs_asg (re_op addASP_ok (RE.up (s' := 3) (re_op modP_ok (RE.up (s' := 3) (re_varD 0) rfl) (RE.up (s' := 3) (re_c (.int 2147483646)) rfl)) rfl) (RE.up (s' := 3) (re_c (.int 1)) rfl)) (rg_set 2))
    (rs_seq (rs_asg (re_op divP_ok (RE.up (s' := 3) (re_varD 0) rfl) (RE.up (s' := 3) (re_c (.int 2)) rfl)) (rg_set 3))
    (rs_seq (rs_asgL 4 (re_lst ra_nil))
    (rs_seq (rs_for (ds := [(2, .d), (3, .d), (4, .l false)]) (mb := [false, false, true, true, true, true, true]) (ri_range1 (ra_cons (RE.up (s' := 3) (re_varD 1) rfl) ra_nil)) (rg_set 5) (rs_seq (rs_asg (re_op modP_ok (RE.up (s' := 3) (re_op mulP_ok (RE.up (s' := 3) (re_varD 2) rfl) (RE.up (s' := 3) (re_c (.int 48271)) rfl)) rfl) (RE.up (s' := 3) (re_c (.int 2147483647)) rfl)) (rg_set 2))
    (rs_seq (rs_asg (re_op modP_ok (RE.up (s' := 3) (re_varD 3) rfl) (RE.up (s' := 3) (re_op powP_ok (RE.up (s' := 3) (re_c (.int 10)) rfl) (RE.up (s' := 3) (re_c (.int 12)) rfl)) rfl)) (rg_set 6))
    (rs_seq (rs_asg (re_op divP_ok (RE.up (s' := 3) (re_varD 3) rfl) (RE.up (s' := 3) (re_op powP_ok (RE.up (s' := 3) (re_c (.int 10)) rfl) (RE.up (s' := 3) (re_c (.int 12)) rfl)) rfl)) (rg_set 3))
    (rs_drop (RE.up (s' := 3) (re_mu appendP_ok 4 (ra_cons (re_op ixP_ok (RE.up (s' := 3) (re_lst (ra_cons (re_varD 6) (ra_cons (re_op modP_ok (RE.up (s' := 3) (re_op mulP_ok (RE.up (s' := 3) (re_varD 2) rfl) (RE.up (s' := 3) (re_c (.int 69621)) rfl)) rfl) (RE.up (s' := 3) (re_c (.int 2147483629)) rfl)) ra_nil))) rfl) (RE.up (s' := 3) (re_op modP_ok (RE.up (s' := 3) (re_varD 0) rfl) (RE.up (s' := 3) (re_c (.int 2)) rfl)) rfl)) ra_nil)) rfl))))))
    (rs_ret (re_varO (s := 7) 4 rfl))))))
theorem sp__law_spread : SpG F__law_spread 2 W__law_spread := by
  intro γ m ws avs J K hcl hA hn hd nb
  unfold W__law_spread at nb ⊢
  split at nb
  · rename_i a0 a1
    exact sp_fin (s := 2) (N := 7) (res := id) (us := fun _ => []) rs__law_spread rfl hcl hA hn hd (e__law_spread a0 a1) (out0_ok rfl) nb
  · exact absurd rfl nb
noncomputable def g__law_kind (w__law_kind : GFn) : GSx :=
    (gsSeq (gsIf (gBool (gOp (eqP false) (gOp ixP (gVarD 0) (gC (.int 0))) (gC (.str (Str.ofString "basic"))))) (gsRet (gOp ixP (gVarD 0) (gC (.int 1)))) gsNx)
    (gsRet (gTup (gaCons (gCall [false] [.d] w__law_kind (gaCons (gOp ixP (gVarD 0) (gC (.int 2))) gaNil)) (gaCons (gCall [false] [.d] w__law_kind (gaCons (gOp ixP (gVarD 0) (gC (.int 1))) gaNil)) gaNil)))))
noncomputable def W__law_kind (n : Nat) : GFn := fun γ avs K => match avs with
  | [.d a0] => (P__law_kind n a0).bind fun r => K r []
  | _ => .bad
theorem e__law_kind (n : Nat) (a0 : D) : runG (g__law_kind (W__law_kind n)) (init0 1 [.d a0]) out0 = B__law_kind (P__law_kind n) a0 := by kernel_rfl
theorem rs__law_kind {n : Nat} (ih__law_kind : SpG (F__law_kind n) 2 (W__law_kind n)) : RS 7 [false] (m__law_kind (F__law_kind n)) (g__law_kind (W__law_kind n)) :=
    (rs_seq (rs_if (rt_bool (RE.up (s' := 3) (re_op eqP_ok (RE.up (s' := 3) (re_op ixP_ok (RE.up (s' := 3) (re_varD 0) rfl) (RE.up (s' := 3) (re_c (.int 0)) rfl)) rfl) (RE.up (s' := 3) (re_c (.str (Str.ofString "basic"))) rfl)) rfl)) (rs_ret (RE.up (s' := 7) (re_op ixP_ok (RE.up (s' := 3) (re_varD 0) rfl) (RE.up (s' := 3) (re_c (.int 1)) rfl)) rfl)) rs_nx)
    (rs_ret (RE.up (s' := 7) (re_tup (ra_cons (re_frz (re_call (ks := [.d]) ih__law_kind (ra_cons (re_op ixP_ok (RE.up (s' := 3) (re_varD 0) rfl) (RE.up (s' := 3) (re_c (.int 2)) rfl)) ra_nil))) (ra_cons (re_frz (re_call (ks := [.d]) ih__law_kind (ra_cons (re_op ixP_ok (RE.up (s' := 3) (re_varD 0) rfl) (RE.up (s' := 3) (re_c (.int 1)) rfl)) ra_nil))) ra_nil))) rfl)))
theorem ss__law_kind {n : Nat} (ih__law_kind : SpG (F__law_kind n) 2 (W__law_kind n)) : SpG (F__law_kind (n + 1)) 2 (W__law_kind (n + 1)) := by
  intro γ m ws avs J K hcl hA hn hd nb
  unfold W__law_kind at nb ⊢
  split at nb
  · rename_i a0
    exact sp_fin (s := 2) (N := 1) (res := id) (us := fun _ => []) (rs__law_kind ih__law_kind) rfl hcl hA hn hd (e__law_kind n a0) (out0_ok rfl) nb
  · exact absurd rfl nb
theorem sp__law_kind : ∀ n : Nat, SpG (F__law_kind n) 2 (W__law_kind n)
  | 0 => by
    intro γ m ws avs J K hcl hA hn hd nb
    exfalso
    unfold W__law_kind at nb
    split at nb
    · exact nb rfl
    · exact nb rfl
  | n + 1 => ss__law_kind (sp__law_kind n)
noncomputable def g__law_wanted (fw : Nat) : GSx :=
    (gsSeq (gsAsgL (gLst gaNil) 1)
    (gsSeq (gsWhile [(0, .d), (1, .l false)] [true, true] (gtNot (gTru (gIsi [.str] (gVarD 0)))) (gsSeq (gsDrop (gMu appendP 1 (gaCons (gOp ixP (gVarD 0) (gC (.int 0))) gaNil)))
    (gsAsg (gOp ixP (gVarD 0) (gC (.int 1))) (gtSet 0))) fw)
    (gsFzL 1 (gsRet (gTup (gaCons (gVarD 1) (gaCons (gVarD 0) gaNil)))))))
noncomputable def W__law_wanted : GFn := fun γ avs K => match avs with
  | [.d a0] => (P__law_wanted a0).bind fun r => K r []
  | _ => .bad
theorem e__law_wanted (fw : Nat) (a0 : D) : runG (g__law_wanted fw) (init0 2 [.d a0]) out0 = PF__law_wanted fw a0 := by kernel_rfl
theorem rs__law_wanted : RS 7 [true, true] m__law_wanted (g__law_wanted fuelW) :=
    (rs_seq (rs_asgL 1 (re_lst ra_nil))
    (rs_seq (rs_while (ds := [(0, .d), (1, .l false)]) (mb := [true, true]) fuelW (rt_not (rt_tru (RE.up (s' := 3) (re_isi (RE.up (s' := 3) (re_varD 0) rfl)) rfl))) (rs_seq (rs_drop (RE.up (s' := 3) (re_mu appendP_ok 1 (ra_cons (re_op ixP_ok (RE.up (s' := 3) (re_varD 0) rfl) (RE.up (s' := 3) (re_c (.int 0)) rfl)) ra_nil)) rfl))
    (rs_asg (re_op ixP_ok (RE.up (s' := 3) (re_varD 0) rfl) (RE.up (s' := 3) (re_c (.int 1)) rfl)) (rg_set 0))))
    (rs_fzL 1 (rs_ret (RE.up (s' := 7) (re_tup (ra_cons (re_varD 1) (ra_cons (re_varD 0) ra_nil))) rfl)))))
theorem sp__law_wanted : SpG F__law_wanted 2 W__law_wanted := by
  intro γ m ws avs J K hcl hA hn hd nb
  unfold W__law_wanted at nb ⊢
  split at nb
  · rename_i a0
    exact sp_fin (s := 2) (N := 2) (res := id) (us := fun _ => []) rs__law_wanted rfl hcl hA hn hd (e__law_wanted fuelW a0) (out0_ok rfl) nb
  · exact absurd rfl nb
noncomputable def g__law_of_two : GSx :=
    (gsSeq (gsAsg (gCa lenP (gaCons (gVarD 1) gaNil)) (gtSet 5))
    (gsSeq (gsAsg (gTup (gaCons (gOp ixP (gVarD 1) (gVarD 3)) (gaCons (gTup (gaCons (gOp ixP (gVarD 1) (gVarD 4)) (gaCons (gVarD 2) gaNil))) gaNil))) (gtSet 6))
    (gsSeq (gsAsg (gTup (gaCons (gC (.str (Str.ofString "of"))) (gaCons (gTup (gaCons (gC (.str (Str.ofString "name"))) (gaCons (gVarD 0) gaNil))) (gaCons (gTup (gaCons (gC (.str (Str.ofString "bound"))) (gaCons (gOp subP (gOp subP (gVarD 5) (gC (.int 1))) (gVarD 3)) gaNil))) gaNil)))) (gtSet 7))
    (gsRet (gTup (gaCons (gTup (gaCons (gC (.str (Str.ofString "of"))) (gaCons (gVarD 7) (gaCons (gTup (gaCons (gC (.str (Str.ofString "bound"))) (gaCons (gOp subP (gOp subP (gVarD 5) (gC (.int 1))) (gVarD 4)) gaNil))) gaNil)))) (gaCons (gLst (gaCons (gTup (gaCons (gVarD 0) (gaCons (gVarD 6) gaNil))) gaNil)) gaNil)))))))
noncomputable def W__law_of_two : GFn := fun γ avs K => match avs with
  | [.d a0, .d a1, .d a2, .d a3, .d a4] => (P__law_of_two a0 a1 a2 a3 a4).bind fun r => K r []
  | _ => .bad
theorem e__law_of_two (a0 : D) (a1 : D) (a2 : D) (a3 : D) (a4 : D) : runG (g__law_of_two) (init0 8 [.d a0, .d a1, .d a2, .d a3, .d a4]) out0 = P__law_of_two a0 a1 a2 a3 a4 := by kernel_rfl
theorem rs__law_of_two : RS 7 [false, false, false, false, false, true, true, true] m__law_of_two (g__law_of_two) :=
    (rs_seq (rs_asg (re_ca lenP_ok (ra_cons (RE.up (s' := 3) (re_varD 1) rfl) ra_nil)) (rg_set 5))
    (rs_seq (rs_asg (re_tup (ra_cons (re_op ixP_ok (RE.up (s' := 3) (re_varD 1) rfl) (RE.up (s' := 3) (re_varD 3) rfl)) (ra_cons (re_tup (ra_cons (re_op ixP_ok (RE.up (s' := 3) (re_varD 1) rfl) (RE.up (s' := 3) (re_varD 4) rfl)) (ra_cons (re_varD 2) ra_nil))) ra_nil))) (rg_set 6))
    (rs_seq (rs_asg (re_tup (ra_cons (re_c (.str (Str.ofString "of"))) (ra_cons (re_tup (ra_cons (re_c (.str (Str.ofString "name"))) (ra_cons (re_varD 0) ra_nil))) (ra_cons (re_tup (ra_cons (re_c (.str (Str.ofString "bound"))) (ra_cons (re_op subP_ok (RE.up (s' := 3) (re_op subP_ok (RE.up (s' := 3) (re_varD 5) rfl) (RE.up (s' := 3) (re_c (.int 1)) rfl)) rfl) (RE.up (s' := 3) (re_varD 3) rfl)) ra_nil))) ra_nil)))) (rg_set 7))
    (rs_ret (RE.up (s' := 7) (re_tup (ra_cons (re_tup (ra_cons (re_c (.str (Str.ofString "of"))) (ra_cons (re_varD 7) (ra_cons (re_tup (ra_cons (re_c (.str (Str.ofString "bound"))) (ra_cons (re_op subP_ok (RE.up (s' := 3) (re_op subP_ok (RE.up (s' := 3) (re_varD 5) rfl) (RE.up (s' := 3) (re_c (.int 1)) rfl)) rfl) (RE.up (s' := 3) (re_varD 4) rfl)) ra_nil))) ra_nil)))) (ra_cons (re_frz (RE.up (s' := 2) (re_lst (ra_cons (re_tup (ra_cons (re_varD 0) (ra_cons (re_varD 6) ra_nil))) ra_nil)) rfl)) ra_nil))) rfl)))))
theorem sp__law_of_two : SpG F__law_of_two 2 W__law_of_two := by
  intro γ m ws avs J K hcl hA hn hd nb
  unfold W__law_of_two at nb ⊢
  split at nb
  · rename_i a0 a1 a2 a3 a4
    exact sp_fin (s := 2) (N := 8) (res := id) (us := fun _ => []) rs__law_of_two rfl hcl hA hn hd (e__law_of_two a0 a1 a2 a3 a4) (out0_ok rfl) nb
  · exact absurd rfl nb
noncomputable def g__law_body : GSx :=
    (gsSeq (gsAsg (gCa lenP (gaCons (gVarD 0) gaNil)) (gtSet 4))
    (gsSeq (gsIf (gtAnd (gBool (gOp gtP (gVarD 4) (gC (.int 1)))) (gBool (gOp (eqP false) (gOp modP (gVarD 3) (gC (.int 4))) (gC (.int 0))))) (gsSeq (gsAsg (gOp modP (gOp divP (gVarD 3) (gC (.int 4))) (gVarD 4)) (gtSet 5))
    (gsSeq (gsAsg (gOp modP (gOp addSP (gOp addSP (gVarD 5) (gC (.int 1))) (gOp modP (gOp divP (gVarD 3) (gC (.int 32))) (gOp subP (gVarD 4) (gC (.int 1))))) (gVarD 4)) (gtSet 6))
    (gsRet (gCall [false, false, false, false, true, true, true] [.d, .d, .d, .d, .d] W__law_of_two (gaCons (gVarD 2) (gaCons (gVarD 0) (gaCons (gVarD 1) (gaCons (gVarD 5) (gaCons (gVarD 6) gaNil))))))))) gsNx)
    (gsSeq (gsAsg (gOp modP (gOp divP (gVarD 3) (gC (.int 4))) (gCa maxP2 (gaCons (gC (.int 1)) (gaCons (gVarD 4) gaNil)))) (gtSet 5))
    (gsSeq (gsIf (gtAnd (gBool (gOp gtP (gVarD 4) (gC (.int 0)))) (gBool (gOp (eqP false) (gOp modP (gVarD 3) (gC (.int 4))) (gC (.int 1))))) (gsRet (gTup (gaCons (gTup (gaCons (gC (.str (Str.ofString "of"))) (gaCons (gTup (gaCons (gC (.str (Str.ofString "name"))) (gaCons (gVarD 2) gaNil))) (gaCons (gTup (gaCons (gC (.str (Str.ofString "bound"))) (gaCons (gOp subP (gOp subP (gVarD 4) (gC (.int 1))) (gVarD 5)) gaNil))) gaNil)))) (gaCons (gLst (gaCons (gTup (gaCons (gVarD 2) (gaCons (gTup (gaCons (gOp ixP (gVarD 0) (gVarD 5)) (gaCons (gVarD 1) gaNil))) gaNil))) gaNil)) gaNil)))) gsNx)
    (gsSeq (gsIf (gtAnd (gBool (gOp gtP (gVarD 4) (gC (.int 0)))) (gtAnd (gBool (gOp (eqP false) (gOp ixP (gVarD 0) (gVarD 5)) (gVarD 1))) (gBool (gOp (eqP false) (gOp modP (gVarD 3) (gC (.int 4))) (gC (.int 2)))))) (gsRet (gTup (gaCons (gTup (gaCons (gC (.str (Str.ofString "bound"))) (gaCons (gOp subP (gOp subP (gVarD 4) (gC (.int 1))) (gVarD 5)) gaNil))) (gaCons (gLst gaNil) gaNil)))) gsNx)
    (gsRet (gTup (gaCons (gTup (gaCons (gC (.str (Str.ofString "name"))) (gaCons (gVarD 2) gaNil))) (gaCons (gLst (gaCons (gTup (gaCons (gVarD 2) (gaCons (gVarD 1) gaNil))) gaNil)) gaNil)))))))))
noncomputable def W__law_body : GFn := fun γ avs K => match avs with
  | [.d a0, .d a1, .d a2, .d a3] => (P__law_body a0 a1 a2 a3).bind fun r => K r []
  | _ => .bad
theorem e__law_body (a0 : D) (a1 : D) (a2 : D) (a3 : D) : runG (g__law_body) (init0 7 [.d a0, .d a1, .d a2, .d a3]) out0 = P__law_body a0 a1 a2 a3 := by kernel_rfl
theorem rs__law_body : RS 7 [false, false, false, false, true, true, true] m__law_body (g__law_body) :=
    (rs_seq (rs_asg (re_ca lenP_ok (ra_cons (RE.up (s' := 3) (re_varD 0) rfl) ra_nil)) (rg_set 4))
    (rs_seq (rs_if (rt_and (rt_bool (RE.up (s' := 3) (re_op gtP_ok (RE.up (s' := 3) (re_varD 4) rfl) (RE.up (s' := 3) (re_c (.int 1)) rfl)) rfl)) (rt_bool (RE.up (s' := 3) (re_op eqP_ok (RE.up (s' := 3) (re_op modP_ok (RE.up (s' := 3) (re_varD 3) rfl) (RE.up (s' := 3) (re_c (.int 4)) rfl)) rfl) (RE.up (s' := 3) (re_c (.int 0)) rfl)) rfl))) (rs_seq (rs_asg (re_op modP_ok (RE.up (s' := 3) (re_op divP_ok (RE.up (s' := 3) (re_varD 3) rfl) (RE.up (s' := 3) (re_c (.int 4)) rfl)) rfl) (RE.up (s' := 3) (re_varD 4) rfl)) (rg_set 5))
    (rs_seq (rs_asg (re_op modP_ok (RE.up (s' := 3) (re_op addASP_ok (RE.up (s' := 3) (re_op addASP_ok (RE.up (s' := 3) (re_varD 5) rfl) (RE.up (s' := 3) (re_c (.int 1)) rfl)) rfl) (RE.up (s' := 3) (re_op modP_ok (RE.up (s' := 3) (re_op divP_ok (RE.up (s' := 3) (re_varD 3) rfl) (RE.up (s' := 3) (re_c (.int 32)) rfl)) rfl) (RE.up (s' := 3) (re_op subP_ok (RE.up (s' := 3) (re_varD 4) rfl) (RE.up (s' := 3) (re_c (.int 1)) rfl)) rfl)) rfl)) rfl) (RE.up (s' := 3) (re_varD 4) rfl)) (rg_set 6))
    (rs_ret (RE.up (s' := 7) (re_call (ks := [.d, .d, .d, .d, .d]) sp__law_of_two (ra_cons (re_varD 2) (ra_cons (re_varD 0) (ra_cons (re_varD 1) (ra_cons (re_varD 5) (ra_cons (re_varD 6) ra_nil)))))) rfl)))) rs_nx)
    (rs_seq (rs_asg (re_op modP_ok (RE.up (s' := 3) (re_op divP_ok (RE.up (s' := 3) (re_varD 3) rfl) (RE.up (s' := 3) (re_c (.int 4)) rfl)) rfl) (RE.up (s' := 3) (re_ca maxP2_ok (ra_cons (RE.up (s' := 3) (re_c (.int 1)) rfl) (ra_cons (RE.up (s' := 3) (re_varD 4) rfl) ra_nil))) rfl)) (rg_set 5))
    (rs_seq (rs_if (rt_and (rt_bool (RE.up (s' := 3) (re_op gtP_ok (RE.up (s' := 3) (re_varD 4) rfl) (RE.up (s' := 3) (re_c (.int 0)) rfl)) rfl)) (rt_bool (RE.up (s' := 3) (re_op eqP_ok (RE.up (s' := 3) (re_op modP_ok (RE.up (s' := 3) (re_varD 3) rfl) (RE.up (s' := 3) (re_c (.int 4)) rfl)) rfl) (RE.up (s' := 3) (re_c (.int 1)) rfl)) rfl))) (rs_ret (RE.up (s' := 7) (re_tup (ra_cons (re_tup (ra_cons (re_c (.str (Str.ofString "of"))) (ra_cons (re_tup (ra_cons (re_c (.str (Str.ofString "name"))) (ra_cons (re_varD 2) ra_nil))) (ra_cons (re_tup (ra_cons (re_c (.str (Str.ofString "bound"))) (ra_cons (re_op subP_ok (RE.up (s' := 3) (re_op subP_ok (RE.up (s' := 3) (re_varD 4) rfl) (RE.up (s' := 3) (re_c (.int 1)) rfl)) rfl) (RE.up (s' := 3) (re_varD 5) rfl)) ra_nil))) ra_nil)))) (ra_cons (re_frz (RE.up (s' := 2) (re_lst (ra_cons (re_tup (ra_cons (re_varD 2) (ra_cons (re_tup (ra_cons (re_op ixP_ok (RE.up (s' := 3) (re_varD 0) rfl) (RE.up (s' := 3) (re_varD 5) rfl)) (ra_cons (re_varD 1) ra_nil))) ra_nil))) ra_nil)) rfl)) ra_nil))) rfl)) rs_nx)
    (rs_seq (rs_if (rt_and (rt_bool (RE.up (s' := 3) (re_op gtP_ok (RE.up (s' := 3) (re_varD 4) rfl) (RE.up (s' := 3) (re_c (.int 0)) rfl)) rfl)) (rt_and (rt_bool (RE.up (s' := 3) (re_op eqP_ok (RE.up (s' := 3) (re_op ixP_ok (RE.up (s' := 3) (re_varD 0) rfl) (RE.up (s' := 3) (re_varD 5) rfl)) rfl) (RE.up (s' := 3) (re_varD 1) rfl)) rfl)) (rt_bool (RE.up (s' := 3) (re_op eqP_ok (RE.up (s' := 3) (re_op modP_ok (RE.up (s' := 3) (re_varD 3) rfl) (RE.up (s' := 3) (re_c (.int 4)) rfl)) rfl) (RE.up (s' := 3) (re_c (.int 2)) rfl)) rfl)))) (rs_ret (RE.up (s' := 7) (re_tup (ra_cons (re_tup (ra_cons (re_c (.str (Str.ofString "bound"))) (ra_cons (re_op subP_ok (RE.up (s' := 3) (re_op subP_ok (RE.up (s' := 3) (re_varD 4) rfl) (RE.up (s' := 3) (re_c (.int 1)) rfl)) rfl) (RE.up (s' := 3) (re_varD 5) rfl)) ra_nil))) (ra_cons (re_frz (RE.up (s' := 2) (re_lst ra_nil) rfl)) ra_nil))) rfl)) rs_nx)
    (rs_ret (RE.up (s' := 7) (re_tup (ra_cons (re_tup (ra_cons (re_c (.str (Str.ofString "name"))) (ra_cons (re_varD 2) ra_nil))) (ra_cons (re_frz (RE.up (s' := 2) (re_lst (ra_cons (re_tup (ra_cons (re_varD 2) (ra_cons (re_varD 1) ra_nil))) ra_nil)) rfl)) ra_nil))) rfl)))))))
theorem sp__law_body : SpG F__law_body 2 W__law_body := by
  intro γ m ws avs J K hcl hA hn hd nb
  unfold W__law_body at nb ⊢
  split at nb
  · rename_i a0 a1 a2 a3
    exact sp_fin (s := 2) (N := 7) (res := id) (us := fun _ => []) rs__law_body rfl hcl hA hn hd (e__law_body a0 a1 a2 a3) (out0_ok rfl) nb
  · exact absurd rfl nb
noncomputable def g__law_meaning : GSx :=
    (gsSeq (gsAsg (gCall [false, false, false, true, true, true, true, true, true] [.d] W__law_wanted (gaCons (gCall [false, false, false, true, true, true, true, true, true] [.d] (W__law_kind 40) (gaCons (gVarD 0) gaNil)) gaNil)) (gtTup (gtsCons (gtSet 3) (gtsCons (gtSet 4) gtsNil))))
    (gsSeq (gsAsg (gCall [false, false, false, true, true, true, true, true, true] [.d, .d, .d, .d] W__law_body (gaCons (gVarD 3) (gaCons (gVarD 4) (gaCons (gVarD 1) (gaCons (gVarD 2) gaNil))))) (gtTup (gtsCons (gtSet 5) (gtsCons (gtSet 6) gtsNil))))
    (gsSeq (gsFor [(5, .d)] [false, false, false, false, false, true, false, true, false] (giCa rng1P (gaCons (gOp modP (gOp divP (gVarD 2) (gC (.int 256))) (gC (.int 3))) gaNil)) (gtSet 7) (gsAsg (gTup (gaCons (gC (.str (Str.ofString "of"))) (gaCons (gTup (gaCons (gC (.str (Str.ofString "fn"))) (gaCons (gVarD 4) (gaCons (gTup (gaCons (gC (.str (Str.ofString "bound"))) (gaCons (gC (.int 0)) gaNil))) gaNil)))) (gaCons (gVarD 5) gaNil)))) (gtSet 5)))
    (gsSeq (gsFor [(5, .d)] [false, false, false, false, false, true, false, false, true] (giSeq (gCa revP (gaCons (gVarD 3) gaNil))) (gtSet 8) (gsAsg (gTup (gaCons (gC (.str (Str.ofString "fn"))) (gaCons (gVarD 8) (gaCons (gVarD 5) gaNil)))) (gtSet 5)))
    (gsRet (gTup (gaCons (gVarD 5) (gaCons (gVarD 6) gaNil))))))))
noncomputable def W__law_meaning : GFn := fun γ avs K => match avs with
  | [.d a0, .d a1, .d a2] => (P__law_meaning a0 a1 a2).bind fun r => K r []
  | _ => .bad
theorem e__law_meaning (a0 : D) (a1 : D) (a2 : D) : runG (g__law_meaning) (init0 9 [.d a0, .d a1, .d a2]) out0 = P__law_meaning a0 a1 a2 := by kernel_rfl
theorem rs__law_meaning : RS 7 [false, false, false, true, true, true, true, true, true] m__law_meaning (g__law_meaning) :=
    (rs_seq (rs_asg (re_frz (re_call (ks := [.d]) sp__law_wanted (ra_cons (re_frz (re_call (ks := [.d]) (sp__law_kind 40) (ra_cons (re_varD 0) ra_nil))) ra_nil))) (rg_tup (rgs_cons (rg_set 3) (rgs_cons (rg_set 4) rgs_nil))))
    (rs_seq (rs_asg (re_frz (re_call (ks := [.d, .d, .d, .d]) sp__law_body (ra_cons (re_varD 3) (ra_cons (re_varD 4) (ra_cons (re_varD 1) (ra_cons (re_varD 2) ra_nil)))))) (rg_tup (rgs_cons (rg_set 5) (rgs_cons (rg_set 6) rgs_nil))))
    (rs_seq (rs_for (ds := [(5, .d)]) (mb := [false, false, false, false, false, true, false, true, false]) (ri_range1 (ra_cons (RE.up (s' := 3) (re_op modP_ok (RE.up (s' := 3) (re_op divP_ok (RE.up (s' := 3) (re_varD 2) rfl) (RE.up (s' := 3) (re_c (.int 256)) rfl)) rfl) (RE.up (s' := 3) (re_c (.int 3)) rfl)) rfl) ra_nil)) (rg_set 7) (rs_asg (re_tup (ra_cons (re_c (.str (Str.ofString "of"))) (ra_cons (re_tup (ra_cons (re_c (.str (Str.ofString "fn"))) (ra_cons (re_varD 4) (ra_cons (re_tup (ra_cons (re_c (.str (Str.ofString "bound"))) (ra_cons (re_c (.int 0)) ra_nil))) ra_nil)))) (ra_cons (re_varD 5) ra_nil)))) (rg_set 5)))
    (rs_seq (rs_for (ds := [(5, .d)]) (mb := [false, false, false, false, false, true, false, false, true]) (ri_seq (RE.up (s' := 3) (re_ca revP_ok (ra_cons (RE.up (s' := 3) (re_varD 3) rfl) ra_nil)) rfl)) (rg_set 8) (rs_asg (re_tup (ra_cons (re_c (.str (Str.ofString "fn"))) (ra_cons (re_varD 8) (ra_cons (re_varD 5) ra_nil)))) (rg_set 5)))
    (rs_ret (RE.up (s' := 7) (re_tup (ra_cons (re_varD 5) (ra_cons (re_varD 6) ra_nil))) rfl))))))
theorem sp__law_meaning : SpG F__law_meaning 2 W__law_meaning := by
  intro γ m ws avs J K hcl hA hn hd nb
  unfold W__law_meaning at nb ⊢
  split at nb
  · rename_i a0 a1 a2
    exact sp_fin (s := 2) (N := 9) (res := id) (us := fun _ => []) rs__law_meaning rfl hcl hA hn hd (e__law_meaning a0 a1 a2) (out0_ok rfl) nb
  · exact absurd rfl nb
noncomputable def g__law_form_text (w__law_form_text : GFn) : GSx :=
    (gsSeq (gsIf (gBool (gOp (eqP false) (gOp ixP (gVarD 0) (gC (.int 0))) (gC (.str (Str.ofString "basic"))))) (gsRet (gOp ixP (gVarD 0) (gC (.int 1)))) gsNx)
    (gsSeq (gsAsg (gCall [false, true] [.d] w__law_form_text (gaCons (gOp ixP (gVarD 0) (gC (.int 2))) gaNil)) (gtSet 1))
    (gsSeq (gsIf (gBool (gOp (eqP true) (gOp ixP (gOp ixP (gVarD 0) (gC (.int 2))) (gC (.int 0))) (gC (.str (Str.ofString "basic"))))) (gsAsg (gOp addSP (gOp addSP (gC (.str (Str.ofString "("))) (gVarD 1)) (gC (.str (Str.ofString ")")))) (gtSet 1)) gsNx)
    (gsRet (gOp addP (gOp addP (gCall [false, true] [.d] w__law_form_text (gaCons (gOp ixP (gVarD 0) (gC (.int 1))) gaNil)) (gOp ixP (gVarD 0) (gC (.int 0)))) (gVarD 1))))))
noncomputable def W__law_form_text (n : Nat) : GFn := fun γ avs K => match avs with
  | [.d a0] => (P__law_form_text n a0).bind fun r => K r []
  | _ => .bad
theorem e__law_form_text (n : Nat) (a0 : D) : runG (g__law_form_text (W__law_form_text n)) (init0 2 [.d a0]) out0 = B__law_form_text (P__law_form_text n) a0 := by kernel_rfl
theorem rs__law_form_text {n : Nat} (ih__law_form_text : SpG (F__law_form_text n) 2 (W__law_form_text n)) : RS 7 [false, true] (m__law_form_text (F__law_form_text n)) (g__law_form_text (W__law_form_text n)) :=
    (rs_seq (rs_if (rt_bool (RE.up (s' := 3) (re_op eqP_ok (RE.up (s' := 3) (re_op ixP_ok (RE.up (s' := 3) (re_varD 0) rfl) (RE.up (s' := 3) (re_c (.int 0)) rfl)) rfl) (RE.up (s' := 3) (re_c (.str (Str.ofString "basic"))) rfl)) rfl)) (rs_ret (RE.up (s' := 7) (re_op ixP_ok (RE.up (s' := 3) (re_varD 0) rfl) (RE.up (s' := 3) (re_c (.int 1)) rfl)) rfl)) rs_nx)
    (rs_seq (rs_asg (re_frz (re_call (ks := [.d]) ih__law_form_text (ra_cons (re_op ixP_ok (RE.up (s' := 3) (re_varD 0) rfl) (RE.up (s' := 3) (re_c (.int 2)) rfl)) ra_nil))) (rg_set 1))
    (rs_seq (rs_if (rt_bool (RE.up (s' := 3) (re_op eqP_ok (RE.up (s' := 3) (re_op ixP_ok (RE.up (s' := 3) (re_op ixP_ok (RE.up (s' := 3) (re_varD 0) rfl) (RE.up (s' := 3) (re_c (.int 2)) rfl)) rfl) (RE.up (s' := 3) (re_c (.int 0)) rfl)) rfl) (RE.up (s' := 3) (re_c (.str (Str.ofString "basic"))) rfl)) rfl)) (rs_asg (re_op addASP_ok (RE.up (s' := 3) (re_op addASP_ok (RE.up (s' := 3) (re_c (.str (Str.ofString "("))) rfl) (RE.up (s' := 3) (re_varD 1) rfl)) rfl) (RE.up (s' := 3) (re_c (.str (Str.ofString ")"))) rfl)) (rg_set 1)) rs_nx)
    (rs_ret (RE.up (s' := 7) (re_op addAP_ok (RE.up (s' := 3) (re_op addAP_ok (RE.up (s' := 3) (re_call (ks := [.d]) ih__law_form_text (ra_cons (re_op ixP_ok (RE.up (s' := 3) (re_varD 0) rfl) (RE.up (s' := 3) (re_c (.int 1)) rfl)) ra_nil)) rfl) (RE.up (s' := 3) (re_op ixP_ok (RE.up (s' := 3) (re_varD 0) rfl) (RE.up (s' := 3) (re_c (.int 0)) rfl)) rfl)) rfl) (RE.up (s' := 3) (re_varD 1) rfl)) rfl)))))
theorem ss__law_form_text {n : Nat} (ih__law_form_text : SpG (F__law_form_text n) 2 (W__law_form_text n)) : SpG (F__law_form_text (n + 1)) 2 (W__law_form_text (n + 1)) := by
  intro γ m ws avs J K hcl hA hn hd nb
  unfold W__law_form_text at nb ⊢
  split at nb
  · rename_i a0
    exact sp_fin (s := 2) (N := 2) (res := id) (us := fun _ => []) (rs__law_form_text ih__law_form_text) rfl hcl hA hn hd (e__law_form_text n a0) (out0_ok rfl) nb
  · exact absurd rfl nb
theorem sp__law_form_text : ∀ n : Nat, SpG (F__law_form_text n) 2 (W__law_form_text n)
  | 0 => by
    intro γ m ws avs J K hcl hA hn hd nb
    exfalso
    unfold W__law_form_text at nb
    split at nb
    · exact nb rfl
    · exact nb rfl
  | n + 1 => ss__law_form_text (sp__law_form_text n)
noncomputable def g__law_book : GSx :=
    (gsSeq (gsAsg (gCall [false, true, true, true, true, true, true, true, true, true, true, true, true, true, true, true] [.d, .d] W__law_names (gaCons (gOp ixP (gVarB 0) (gC (.int 0))) (gaCons (gOp addSP (gC (.int 1)) (gOp modP (gOp ixP (gVarB 0) (gC (.int 1))) (gC (.int 8)))) gaNil))) (gtSet 1))
    (gsSeq (gsAsgL (gCall [false, true, true, true, true, true, true, true, true, true, true, true, true, true, true, true] [.d, .d] W__law_names (gaCons (gOp divP (gOp ixP (gVarB 0) (gC (.int 1))) (gC (.int 8))) (gaCons (gC (.int 26)) gaNil))) 2)
    (gsSeq (gsIf (gBool (gOp (eqP false) (gOp modP (gOp divP (gOp ixP (gVarB 0) (gC (.int 1))) (gC (.int 8))) (gC (.int 4))) (gC (.int 1)))) (gsSetI 2 (gOp modP (gOp divP (gOp ixP (gVarB 0) (gC (.int 1))) (gC (.int 32))) (gC (.int 5))) (gC (.str (Str.ofString "any")))) gsNx)
    (gsSeq (gsIf (gBool (gOp gtP (gOp modP (gOp divP (gOp ixP (gVarB 0) (gC (.int 1))) (gC (.int 8))) (gC (.int 4))) (gC (.int 1)))) (gsSetI 2 (gOp subP (gC (.int 25)) (gOp modP (gOp divP (gOp ixP (gVarB 0) (gC (.int 1))) (gC (.int 32))) (gC (.int 5)))) (gC (.str (Str.ofString "any")))) gsNx)
    (gsSeq (gsAsg (gLst gaNil) (gtSet 3))
    (gsSeq (gsAsgL (gLst gaNil) 4)
    (gsSeq (gsAsg (gSl (gVarB 0) (goSome (gC (.int 2))) (goSome (gC (.int 16)))) (gtSet 5))
    (gsSeq (gsIf (gBool (gOp (eqP false) (gOp modP (gOp ixP (gVarB 0) (gC (.int 0))) (gC (.int 8))) (gC (.int 5)))) (gsAsg (gSl (gOp addP (gVarD 5) (gCall [false, true, true, true, true, true, true, true, true, true, true, true, true, true, true, true] [.d, .d] W__law_spread (gaCons (gOp ixP (gVarB 0) (gC (.int 0))) (gaCons (gC (.int 12)) gaNil)))) goNone (goSome (gC (.int 12)))) (gtSet 5)) gsNx)
    (gsSeq (gsFor [(3, .d), (4, .l false)] [false, false, false, true, true, false, true, true, true, true, true, true, true, true, true, true] (giCa enumP (gaCons (gVarD 5) gaNil)) (gtTup (gtsCons (gtSet 6) (gtsCons (gtSet 7) gtsNil))) (gsSeq (gsAsg (gCall [false, false, false, true, true, false, true, true, true, true, true, true, true, true, true, true] [.d, .d] W__law_spread (gaCons (gVarD 7) (gaCons (gC (.int 14)) gaNil))) (gtSet 8))
    (gsSeq (gsAsg (gCallN [false, false, false, true, true, false, true, true, true, true, true, true, true, true, true, true] [.d, .d] (W__law_form 40) (gSl (gVarD 8) (goSome (gC (.int 2))) goNone) (gaCons (gVarD 1) (gaCons (gOp addSP (gC (.int 1)) (gOp modP (gOp ixP (gVarD 8) (gC (.int 0))) (gC (.int 6)))) gaNil))) (gtSet 9))
    (gsSeq (gsAsg (gOp ixP (gVarO 2) (gOp modP (gOp ixP (gVarD 8) (gC (.int 1))) (gC (.int 5)))) (gtSet 10))
    (gsSeq (gsAsg (gLc [] [false, false, false, false, false, false, false, false, false, false, false, false, true, false, false, false] (giSeq (gVarO 4)) (gtSet 12) (gBool (gOp (eqP false) (gOp ixP (gVarD 12) (gC (.int 0))) (gVarD 10))) (gVarD 12)) (gtSet 11))
    (gsSeq (gsIf (gtOr (gBool (gOp gtP (gCa lenP (gaCons (gVarD 11) gaNil)) (gC (.int 7)))) (gBool (gOp (inP false) (gVarD 9) (gLc [] [false, false, false, false, false, false, false, false, false, false, false, false, true, false, false, false] (giSeq (gVarD 11)) (gtSet 12) gtYes (gOp ixP (gVarD 12) (gC (.int 1))))))) gsCt gsNx)
    (gsSeq (gsAsg (gOp addSP (gOp modP (gOp divP (gVarD 7) (gC (.int 2147483646))) (gOp powP (gC (.int 10)) (gC (.int 9)))) (gOp ixP (gVarD 8) (gC (.int 1)))) (gtSet 13))
    (gsSeq (gsAsg (gCall [false, false, false, true, true, false, true, true, true, true, true, true, true, true, true, true] [.d, .d, .d] W__law_meaning (gaCons (gVarD 9) (gaCons (gOp ixP (gVarO 2) (gOp subP (gC (.int 25)) (gVarD 6))) (gaCons (gVarD 13) gaNil)))) (gtTup (gtsCons (gtSet 14) (gtsCons (gtSet 15) gtsNil))))
    (gsSeq (gsAsg (gOp addP (gVarD 3) (gVarD 15)) (gtSet 3))
    (gsDrop (gMu appendP 4 (gaCons (gTup (gaCons (gVarD 10) (gaCons (gVarD 9) (gaCons (gVarD 14) gaNil)))) gaNil))))))))))))
    (gsRet (gTup (gaCons (gCa tupleP (gaCons (gVarD 1) gaNil)) (gaCons (gCa tupleP (gaCons (gVarD 3) gaNil)) (gaCons (gCa tupleP (gaCons (gVarO 4) gaNil)) gaNil))))))))))))))
noncomputable def W__law_book : GFn := fun γ avs K => match avs with
  | [.b a0] => (P__law_book a0).bind fun r => K r []
  | _ => .bad
theorem e__law_book (a0 : List D) : runG (g__law_book) (init0 16 [.b a0]) out0 = P__law_book a0 := by kernel_rfl
theorem rs__law_book : RS 7 [false, true, true, true, true, true, true, true, true, true, true, true, true, true, true, true] m__law_book (g__law_book) :=
    (rs_seq (rs_asg (re_frz (RE.up (s' := 2) (re_call (ks := [.d, .d]) sp__law_names (ra_cons (re_op ixP_ok (RE.up (s' := 3) (re_varB 0) rfl) (RE.up (s' := 3) (re_c (.int 0)) rfl)) (ra_cons (re_op addASP_ok (RE.up (s' := 3) (re_c (.int 1)) rfl) (RE.up (s' := 3) (re_op modP_ok (RE.up (s' := 3) (re_op ixP_ok (RE.up (s' := 3) (re_varB 0) rfl) (RE.up (s' := 3) (re_c (.int 1)) rfl)) rfl) (RE.up (s' := 3) (re_c (.int 8)) rfl)) rfl)) ra_nil))) rfl)) (rg_set 1))
    (rs_seq (rs_asgL 2 (re_call (ks := [.d, .d]) sp__law_names (ra_cons (re_op divP_ok (RE.up (s' := 3) (re_op ixP_ok (RE.up (s' := 3) (re_varB 0) rfl) (RE.up (s' := 3) (re_c (.int 1)) rfl)) rfl) (RE.up (s' := 3) (re_c (.int 8)) rfl)) (ra_cons (re_c (.int 26)) ra_nil))))
    (rs_seq (rs_if (rt_bool (RE.up (s' := 3) (re_op eqP_ok (RE.up (s' := 3) (re_op modP_ok (RE.up (s' := 3) (re_op divP_ok (RE.up (s' := 3) (re_op ixP_ok (RE.up (s' := 3) (re_varB 0) rfl) (RE.up (s' := 3) (re_c (.int 1)) rfl)) rfl) (RE.up (s' := 3) (re_c (.int 8)) rfl)) rfl) (RE.up (s' := 3) (re_c (.int 4)) rfl)) rfl) (RE.up (s' := 3) (re_c (.int 1)) rfl)) rfl)) (rs_setI 2 (re_c (.str (Str.ofString "any"))) (RE.up (s' := 3) (re_op modP_ok (RE.up (s' := 3) (re_op divP_ok (RE.up (s' := 3) (re_op ixP_ok (RE.up (s' := 3) (re_varB 0) rfl) (RE.up (s' := 3) (re_c (.int 1)) rfl)) rfl) (RE.up (s' := 3) (re_c (.int 32)) rfl)) rfl) (RE.up (s' := 3) (re_c (.int 5)) rfl)) rfl)) rs_nx)
    (rs_seq (rs_if (rt_bool (RE.up (s' := 3) (re_op gtP_ok (RE.up (s' := 3) (re_op modP_ok (RE.up (s' := 3) (re_op divP_ok (RE.up (s' := 3) (re_op ixP_ok (RE.up (s' := 3) (re_varB 0) rfl) (RE.up (s' := 3) (re_c (.int 1)) rfl)) rfl) (RE.up (s' := 3) (re_c (.int 8)) rfl)) rfl) (RE.up (s' := 3) (re_c (.int 4)) rfl)) rfl) (RE.up (s' := 3) (re_c (.int 1)) rfl)) rfl)) (rs_setI 2 (re_c (.str (Str.ofString "any"))) (RE.up (s' := 3) (re_op subP_ok (RE.up (s' := 3) (re_c (.int 25)) rfl) (RE.up (s' := 3) (re_op modP_ok (RE.up (s' := 3) (re_op divP_ok (RE.up (s' := 3) (re_op ixP_ok (RE.up (s' := 3) (re_varB 0) rfl) (RE.up (s' := 3) (re_c (.int 1)) rfl)) rfl) (RE.up (s' := 3) (re_c (.int 32)) rfl)) rfl) (RE.up (s' := 3) (re_c (.int 5)) rfl)) rfl)) rfl)) rs_nx)
    (rs_seq (rs_asg (re_frz (RE.up (s' := 2) (re_lst ra_nil) rfl)) (rg_set 3))
    (rs_seq (rs_asgL 4 (re_lst ra_nil))
    (rs_seq (rs_asg (re_frz (RE.up (s' := 2) (re_sl (RE.up (s' := 3) (re_varB 0) rfl) (ro_some (RE.up (s' := 3) (re_c (.int 2)) rfl)) (ro_some (RE.up (s' := 3) (re_c (.int 16)) rfl))) rfl)) (rg_set 5))
    (rs_seq (rs_if (rt_bool (RE.up (s' := 3) (re_op eqP_ok (RE.up (s' := 3) (re_op modP_ok (RE.up (s' := 3) (re_op ixP_ok (RE.up (s' := 3) (re_varB 0) rfl) (RE.up (s' := 3) (re_c (.int 0)) rfl)) rfl) (RE.up (s' := 3) (re_c (.int 8)) rfl)) rfl) (RE.up (s' := 3) (re_c (.int 5)) rfl)) rfl)) (rs_asg (re_frz (RE.up (s' := 2) (re_sl (RE.up (s' := 3) (re_op addAP_ok (RE.up (s' := 3) (re_varD 5) rfl) (RE.up (s' := 3) (re_call (ks := [.d, .d]) sp__law_spread (ra_cons (re_op ixP_ok (RE.up (s' := 3) (re_varB 0) rfl) (RE.up (s' := 3) (re_c (.int 0)) rfl)) (ra_cons (re_c (.int 12)) ra_nil))) rfl)) rfl) ro_none (ro_some (RE.up (s' := 3) (re_c (.int 12)) rfl))) rfl)) (rg_set 5)) rs_nx)
    (rs_seq (rs_for (ds := [(3, .d), (4, .l false)]) (mb := [false, false, false, true, true, false, true, true, true, true, true, true, true, true, true, true]) (ri_enum (ra_cons (re_varD 5) ra_nil)) (rg_tup (rgs_cons (rg_set 6) (rgs_cons (rg_set 7) rgs_nil))) (rs_seq (rs_asg (re_frz (re_call (ks := [.d, .d]) sp__law_spread (ra_cons (re_varD 7) (ra_cons (re_c (.int 14)) ra_nil)))) (rg_set 8))
    (rs_seq (rs_asg (re_frz (re_callN (ks := [.d, .d]) (sp__law_form 40) (re_sl (RE.up (s' := 3) (re_varD 8) rfl) (ro_some (RE.up (s' := 3) (re_c (.int 2)) rfl)) ro_none) (ra_cons (re_varD 1) (ra_cons (re_op addASP_ok (RE.up (s' := 3) (re_c (.int 1)) rfl) (RE.up (s' := 3) (re_op modP_ok (RE.up (s' := 3) (re_op ixP_ok (RE.up (s' := 3) (re_varD 8) rfl) (RE.up (s' := 3) (re_c (.int 0)) rfl)) rfl) (RE.up (s' := 3) (re_c (.int 6)) rfl)) rfl)) ra_nil)) (pua_cons (pu_var 1) (pua_cons (pu_op pu_add (pu_c _) (pu_op pu_int (pu_op pu_ix (pu_var 8) (pu_c _)) (pu_c _))) pua_nil)))) (rg_set 9))
    (rs_seq (rs_asg (re_op ixP_ok (re_varO (s := 3) 2 rfl) (RE.up (s' := 3) (re_op modP_ok (RE.up (s' := 3) (re_op ixP_ok (RE.up (s' := 3) (re_varD 8) rfl) (RE.up (s' := 3) (re_c (.int 1)) rfl)) rfl) (RE.up (s' := 3) (re_c (.int 5)) rfl)) rfl)) (rg_set 10))
    (rs_seq (rs_asg (re_frz (RE.up (s' := 2) (re_lc (ds := []) (mb := [false, false, false, false, false, false, false, false, false, false, false, false, true, false, false, false]) (mt := [false, false, false, false, false, false, false, false, false, false, false, false, true, false, false, false]) (ri_seq (re_varO (s := 3) 4 rfl)) (rg_set 12) (rt_bool (RE.up (s' := 3) (re_op eqP_ok (RE.up (s' := 3) (re_op ixP_ok (RE.up (s' := 3) (re_varD 12) rfl) (RE.up (s' := 3) (re_c (.int 0)) rfl)) rfl) (RE.up (s' := 3) (re_varD 10) rfl)) rfl)) (re_varD 12)) rfl)) (rg_set 11))
    (rs_seq (rs_if (rt_or (rt_bool (RE.up (s' := 3) (re_op gtP_ok (RE.up (s' := 3) (re_ca lenP_ok (ra_cons (RE.up (s' := 3) (re_varD 11) rfl) ra_nil)) rfl) (RE.up (s' := 3) (re_c (.int 7)) rfl)) rfl)) (rt_bool (RE.up (s' := 3) (re_op inP_ok (RE.up (s' := 3) (re_varD 9) rfl) (RE.up (s' := 3) (re_lc (ds := []) (mb := [false, false, false, false, false, false, false, false, false, false, false, false, true, false, false, false]) (mt := [false, false, false, false, false, false, false, false, false, false, false, false, true, false, false, false]) (ri_seq (RE.up (s' := 3) (re_varD 11) rfl)) (rg_set 12) rt_yes (re_op ixP_ok (RE.up (s' := 3) (re_varD 12) rfl) (RE.up (s' := 3) (re_c (.int 1)) rfl))) rfl)) rfl))) rs_ct rs_nx)
    (rs_seq (rs_asg (re_op addASP_ok (RE.up (s' := 3) (re_op modP_ok (RE.up (s' := 3) (re_op divP_ok (RE.up (s' := 3) (re_varD 7) rfl) (RE.up (s' := 3) (re_c (.int 2147483646)) rfl)) rfl) (RE.up (s' := 3) (re_op powP_ok (RE.up (s' := 3) (re_c (.int 10)) rfl) (RE.up (s' := 3) (re_c (.int 9)) rfl)) rfl)) rfl) (RE.up (s' := 3) (re_op ixP_ok (RE.up (s' := 3) (re_varD 8) rfl) (RE.up (s' := 3) (re_c (.int 1)) rfl)) rfl)) (rg_set 13))
    (rs_seq (rs_asg (re_frz (re_call (ks := [.d, .d, .d]) sp__law_meaning (ra_cons (re_varD 9) (ra_cons (re_op ixP_ok (re_varO (s := 3) 2 rfl) (RE.up (s' := 3) (re_op subP_ok (RE.up (s' := 3) (re_c (.int 25)) rfl) (RE.up (s' := 3) (re_varD 6) rfl)) rfl)) (ra_cons (re_varD 13) ra_nil))))) (rg_tup (rgs_cons (rg_set 14) (rgs_cons (rg_set 15) rgs_nil))))
    (rs_seq (rs_asg (re_frz (RE.up (s' := 2) (re_op addAP_ok (RE.up (s' := 3) (re_varD 3) rfl) (RE.up (s' := 3) (re_varD 15) rfl)) rfl)) (rg_set 3))
    (rs_drop (RE.up (s' := 3) (re_mu appendP_ok 4 (ra_cons (re_tup (ra_cons (re_varD 10) (ra_cons (re_varD 9) (ra_cons (re_varD 14) ra_nil)))) ra_nil)) rfl)))))))))))
    (rs_ret (RE.up (s' := 7) (re_tup (ra_cons (re_ca tupleP_ok (ra_cons (RE.up (s' := 3) (re_varD 1) rfl) ra_nil)) (ra_cons (re_ca tupleP_ok (ra_cons (RE.up (s' := 3) (re_varD 3) rfl) ra_nil)) (ra_cons (re_ca tupleP_ok (ra_cons (re_varO (s := 3) 4 rfl) ra_nil)) ra_nil)))) rfl)))))))))))
theorem sp__law_book : SpG F__law_book 2 W__law_book := by
  intro γ m ws avs J K hcl hA hn hd nb
  unfold W__law_book at nb ⊢
  split at nb
  · rename_i a0
    exact sp_fin (s := 2) (N := 16) (res := id) (us := fun _ => []) rs__law_book rfl hcl hA hn hd (e__law_book a0) (out0_ok rfl) nb
  · exact absurd rfl nb
noncomputable def g__law_alone (e : Exn) : GSx :=
    (gsSeq (gsIf (gTru (gTabF (tabOf tl_0) e)) (gsRet (gC (.bool false))) gsNx)
    (gsRet (gAnd (gTabF (tabOf tl_1) e) (gOp (eqP true) (gTabF (tabOf tl_2) e) (gTabF (tabOf tl_3) e)))))
noncomputable def W__law_alone (e : Exn) : GFn := fun γ avs K => match avs with
  | [] => (P__law_alone e).bind fun r => K r []
  | _ => .bad
theorem e__law_alone (e : Exn) : runG (g__law_alone e) (init0 1 []) out0 = P__law_alone e := by kernel_rfl
theorem rs__law_alone (e : Exn) : RS 7 [false] (m__law_alone e) (g__law_alone e) :=
    (rs_seq (rs_if (rt_tru (RE.up (s' := 3) (re_tabF (tabOf tl_0) e) rfl)) (rs_ret (RE.up (s' := 7) (re_c (.bool false)) rfl)) rs_nx)
    (rs_ret (RE.up (s' := 7) (re_and (RE.up (s' := 3) (re_tabF (tabOf tl_1) e) rfl) (re_op eqP_ok (RE.up (s' := 3) (re_tabF (tabOf tl_2) e) rfl) (RE.up (s' := 3) (re_tabF (tabOf tl_3) e) rfl))) rfl)))
theorem sp__law_alone (e : Exn) : SpG (F__law_alone e) 2 (W__law_alone e) := by
  intro γ m ws avs J K hcl hA hn hd nb
  unfold W__law_alone at nb ⊢
  split at nb
  · skip
    exact sp_fin (s := 2) (N := 1) (res := id) (us := fun _ => []) (rs__law_alone e) rfl hcl hA hn hd (e__law_alone e) (out0_ok rfl) nb
  · exact absurd rfl nb
noncomputable def g__law_told : GSx :=
    (gsSeq (gsAsg (gTup (gaCons (gC (.str (Str.ofString "wrong"))) (gaCons (gC .none) gaNil))) (gtSet 3))
    (gsSeq (gsTryAs3 tab_SlashError [(3, .d)] [false, false, false, false, true] [false, false, false, true, true] (gsIf (gBool (gOp (isNP false) (gVarD 2) (gC .none))) (gsAsg (gTup (gaCons (gC (.str (Str.ofString "told"))) (gaCons (gCall [false, false, false, true, true] [.d, .d] W_forms_of (gaCons (gVarD 0) (gaCons (gVarD 1) gaNil))) gaNil))) (gtSet 3)) (gsAsg (gTup (gaCons (gC (.str (Str.ofString "told"))) (gaCons (gCall [false, false, false, true, true] [.d, .d, .d] W_term_of (gaCons (gVarD 0) (gaCons (gVarD 1) (gaCons (gVarD 2) gaNil)))) gaNil))) (gtSet 3))) (fun e => gsFlat e (gsIf (gtAnd (gTru (gCall [false, false, false, true, true] [] (W__law_alone e) gaNil)) (gTru (gTabF (tabOf tl_2) e))) (gsAsg (gTup (gaCons (gC (.str (Str.ofString "form"))) (gaCons (gC .none) gaNil))) (gtSet 3)) (gsIf (gTru (gCall [false, false, false, true, true] [] (W__law_alone e) gaNil)) (gsAsg (gTup (gaCons (gC (.str (Str.ofString "word"))) (gaCons (gTup (gaCons (gFld ["NoWord"] "word" e) (gaCons (gFld ["NoWord"] "place" e) gaNil))) gaNil))) (gtSet 3)) gsNx))))
    (gsRet (gVarD 3))))
noncomputable def W__law_told : GFn := fun γ avs K => match avs with
  | [.d a0, .d a1, .d a2] => (P__law_told a0 a1 a2).bind fun r => K r []
  | _ => .bad
theorem e__law_told (a0 : D) (a1 : D) (a2 : D) : runG (g__law_told) (init0 5 [.d a0, .d a1, .d a2]) out0 = P__law_told a0 a1 a2 := by kernel_rfl
theorem rs__law_told : RS 7 [false, false, false, true, true] m__law_told (g__law_told) :=
    (rs_seq (rs_asg (re_tup (ra_cons (re_c (.str (Str.ofString "wrong"))) (ra_cons (re_c .none) ra_nil))) (rg_set 3))
    (rs_seq (rs_tryAs3 (i := 4) (tab := tab_SlashError) (ds := [(3, .d)]) (mi := [false, false, false, false, true]) (mb := [false, false, false, true, true]) (fs := fun e => sFlat e (sIf (tAndF (tTru (eCallF (F__law_alone e) aNil)) (tTru (eTabF (tabOf tl_2) e))) (sAsg (eTup (aCons (eC (.str (Str.ofString "form"))) (aCons (eC .none) aNil))) (gSet 3)) (sIf (tTru (eCallF (F__law_alone e) aNil)) (sAsg (eTup (aCons (eC (.str (Str.ofString "word"))) (aCons (eTup (aCons (eFld ["NoWord"] "word" e) (aCons (eFld ["NoWord"] "place" e) aNil))) aNil))) (gSet 3)) sNx))) (gh := fun e => gsFlat e (gsIf (gtAnd (gTru (gCall [false, false, false, true, true] [] (W__law_alone e) gaNil)) (gTru (gTabF (tabOf tl_2) e))) (gsAsg (gTup (gaCons (gC (.str (Str.ofString "form"))) (gaCons (gC .none) gaNil))) (gtSet 3)) (gsIf (gTru (gCall [false, false, false, true, true] [] (W__law_alone e) gaNil)) (gsAsg (gTup (gaCons (gC (.str (Str.ofString "word"))) (gaCons (gTup (gaCons (gFld ["NoWord"] "word" e) (gaCons (gFld ["NoWord"] "place" e) gaNil))) gaNil))) (gtSet 3)) gsNx))) (rs_if (rt_bool (RE.up (s' := 3) (re_op isNP_ok (RE.up (s' := 3) (re_varD 2) rfl) (RE.up (s' := 3) (re_c .none) rfl)) rfl)) (rs_asg (re_tup (ra_cons (re_c (.str (Str.ofString "told"))) (ra_cons (re_frz (re_call (ks := [.d, .d]) sp_forms_of (ra_cons (re_varD 0) (ra_cons (re_varD 1) ra_nil)))) ra_nil))) (rg_set 3)) (rs_asg (re_tup (ra_cons (re_c (.str (Str.ofString "told"))) (ra_cons (re_frz (re_call (ks := [.d, .d, .d]) sp_term_of (ra_cons (re_varD 0) (ra_cons (re_varD 1) (ra_cons (re_varD 2) ra_nil))))) ra_nil))) (rg_set 3))) (ek_if (rt_bool (RE.up (s' := 3) (re_op isNP_ok (RE.up (s' := 3) (re_varD 2) rfl) (RE.up (s' := 3) (re_c .none) rfl)) rfl)) (ek_asg (re_tup (ra_cons (re_c (.str (Str.ofString "told"))) (ra_cons (re_frz (re_call (ks := [.d, .d]) sp_forms_of (ra_cons (re_varD 0) (ra_cons (re_varD 1) ra_nil)))) ra_nil)))) (ek_asg (re_tup (ra_cons (re_c (.str (Str.ofString "told"))) (ra_cons (re_frz (re_call (ks := [.d, .d, .d]) sp_term_of (ra_cons (re_varD 0) (ra_cons (re_varD 1) (ra_cons (re_varD 2) ra_nil))))) ra_nil))))) (fun e => rs_flat (rs_if (rt_and (rt_tru (RE.up (s' := 3) (re_call (ks := []) (sp__law_alone e) ra_nil) rfl)) (rt_tru (RE.up (s' := 3) (re_tabF (tabOf tl_2) e) rfl))) (rs_asg (re_tup (ra_cons (re_c (.str (Str.ofString "form"))) (ra_cons (re_c .none) ra_nil))) (rg_set 3)) (rs_if (rt_tru (RE.up (s' := 3) (re_call (ks := []) (sp__law_alone e) ra_nil) rfl)) (rs_asg (re_tup (ra_cons (re_c (.str (Str.ofString "word"))) (ra_cons (re_tup (ra_cons (re_fld ["NoWord"] "word" e) (ra_cons (re_fld ["NoWord"] "place" e) ra_nil))) ra_nil))) (rg_set 3)) rs_nx))))
    (rs_ret (RE.up (s' := 7) (re_varD 3) rfl))))
theorem sp__law_told : SpG F__law_told 2 W__law_told := by
  intro γ m ws avs J K hcl hA hn hd nb
  unfold W__law_told at nb ⊢
  split at nb
  · rename_i a0 a1 a2
    exact sp_fin (s := 2) (N := 5) (res := id) (us := fun _ => []) rs__law_told rfl hcl hA hn hd (e__law_told a0 a1 a2) (out0_ok rfl) nb
  · exact absurd rfl nb
noncomputable def g__law_holds__key : GSx :=
    (gsRet (gOp ixP (gVarD 0) (gC (.int 0))))
noncomputable def W__law_holds__key : GFn := fun γ avs K => match avs with
  | [.d a0] => (P__law_holds__key a0).bind fun r => K r []
  | _ => .bad
theorem e__law_holds__key (a0 : D) : runG (g__law_holds__key) (init0 1 [.d a0]) out0 = P__law_holds__key a0 := by kernel_rfl
theorem rs__law_holds__key : RS 7 [false] m__law_holds__key (g__law_holds__key) :=
    (rs_ret (RE.up (s' := 7) (re_op ixP_ok (RE.up (s' := 3) (re_varD 0) rfl) (RE.up (s' := 3) (re_c (.int 0)) rfl)) rfl))
theorem sp__law_holds__key : SpG F__law_holds__key 2 W__law_holds__key := by
  intro γ m ws avs J K hcl hA hn hd nb
  unfold W__law_holds__key at nb ⊢
  split at nb
  · rename_i a0
    exact sp_fin (s := 2) (N := 1) (res := id) (us := fun _ => []) rs__law_holds__key rfl hcl hA hn hd (e__law_holds__key a0) (out0_ok rfl) nb
  · exact absurd rfl nb
noncomputable def g__law_holds : GSx :=
    (gsSeq (gsAsg (gLc [] [false, false, false, false, true, false, false, false, false, false, false, false, false, false] (giSeq (gOp ixP (gVarD 0) (gC (.int 2)))) (gtSet 4) (gBool (gOp (eqP false) (gOp ixP (gVarD 4) (gC (.int 0))) (gVarD 1))) (gVarD 4)) (gtSet 3))
    (gsSeq (gsIf (gBool (gOp (eqP false) (gVarD 3) (gLst gaNil))) (gsSeq (gsAsg (gTup (gaCons (gC (.str (Str.ofString "word"))) (gaCons (gTup (gaCons (gVarD 1) (gaCons (gC (.int 0)) gaNil))) gaNil))) (gtSet 5))
    (gsRet (gAnd (gOp (eqP false) (gCall [false, false, false, true, true, true, true, true, true, true, true, true, true, true] [.d, .d, .d] W__law_told (gaCons (gVarD 0) (gaCons (gVarD 1) (gaCons (gC .none) gaNil)))) (gVarD 5)) (gOp (eqP false) (gCall [false, false, false, true, true, true, true, true, true, true, true, true, true, true] [.d, .d, .d] W__law_told (gaCons (gVarD 0) (gaCons (gVarD 1) (gaCons (gOp ixP (gVarD 2) (gC (.int 0))) gaNil)))) (gVarD 5))))) gsNx)
    (gsSeq (gsAsg (gCa (sortKP (P__law_holds__key)) (gaCons (gLc [] [false, false, false, false, false, false, false, true, true, true, false, false, false, false] (giSeq (gVarD 3)) (gtTup (gtsCons (gtSet 7) (gtsCons (gtSet 8) (gtsCons (gtSet 9) gtsNil)))) gtYes (gTup (gaCons (gCall [false, false, false, false, false, false, false, true, true, true, false, false, false, false] [.d] (W__law_form_text 40) (gaCons (gVarD 8) gaNil)) (gaCons (gVarD 8) (gaCons (gVarD 9) gaNil))))) gaNil)) (gtSet 6))
    (gsSeq (gsFor [] [false, false, false, false, false, false, false, false, false, false, true, true, true, false] (giCa rng1P (gaCons (gC (.int 2)) gaNil)) (gtSet 10) (gsBorrow 11 (gCall [false, false, false, false, false, false, false, false, false, false, true, true, true, false] [.d, .d, .d] W__law_told (gaCons (gVarD 0) (gaCons (gVarD 1) (gaCons (gC .none) gaNil)))) (gTup (gaCons (gC (.str (Str.ofString "told"))) (gaCons (gLc [] [false, false, false, false, false, false, false, false, false, false, false, false, true, false] (giSeq (gVarD 6)) (gtSet 12) gtYes (gOp ixP (gVarD 12) (gC (.int 1)))) gaNil)))))
    (gsSeq (gsFor [] [false, false, false, false, false, false, false, false, true, true, false, false, false, true] (giSeq (gVarD 6)) (gtTup (gtsCons (gtSet 13) (gtsCons (gtSet 8) (gtsCons (gtSet 9) gtsNil)))) (gsIf (gBool (gOp (eqP true) (gCall [false, false, false, false, false, false, false, false, true, true, false, false, false, true] [.d, .d, .d] W__law_told (gaCons (gVarD 0) (gaCons (gVarD 1) (gaCons (gVarD 8) gaNil)))) (gTup (gaCons (gC (.str (Str.ofString "told"))) (gaCons (gVarD 9) gaNil))))) (gsRet (gC (.bool false))) gsNx))
    (gsSeq (gsFor [] [false, false, false, false, false, false, false, false, true, false, false, false, true, false] (giSeq (gVarD 2)) (gtSet 8) (gsIf (gtAnd (gBool (gOp (inP true) (gVarD 8) (gLc [] [false, false, false, false, false, false, false, false, false, false, false, false, true, false] (giSeq (gVarD 6)) (gtSet 12) gtYes (gOp ixP (gVarD 12) (gC (.int 1)))))) (gBool (gOp (eqP true) (gCall [false, false, false, false, false, false, false, false, true, false, false, false, true, false] [.d, .d, .d] W__law_told (gaCons (gVarD 0) (gaCons (gVarD 1) (gaCons (gVarD 8) gaNil)))) (gTup (gaCons (gC (.str (Str.ofString "form"))) (gaCons (gC .none) gaNil)))))) (gsRet (gC (.bool false))) gsNx))
    (gsRet (gC (.bool true)))))))))
noncomputable def W__law_holds : GFn := fun γ avs K => match avs with
  | [.d a0, .d a1, .d a2] => (P__law_holds a0 a1 a2).bind fun r => K r []
  | _ => .bad
theorem e__law_holds (a0 : D) (a1 : D) (a2 : D) : runG (g__law_holds) (init0 14 [.d a0, .d a1, .d a2]) out0 = P__law_holds a0 a1 a2 := by kernel_rfl
theorem rs__law_holds : RS 7 [false, false, false, true, true, true, true, true, true, true, true, true, true, true] m__law_holds (g__law_holds) :=
    (rs_seq (rs_asg (re_frz (RE.up (s' := 2) (re_lc (ds := []) (mb := [false, false, false, false, true, false, false, false, false, false, false, false, false, false]) (mt := [false, false, false, false, true, false, false, false, false, false, false, false, false, false]) (ri_seq (RE.up (s' := 3) (re_op ixP_ok (RE.up (s' := 3) (re_varD 0) rfl) (RE.up (s' := 3) (re_c (.int 2)) rfl)) rfl)) (rg_set 4) (rt_bool (RE.up (s' := 3) (re_op eqP_ok (RE.up (s' := 3) (re_op ixP_ok (RE.up (s' := 3) (re_varD 4) rfl) (RE.up (s' := 3) (re_c (.int 0)) rfl)) rfl) (RE.up (s' := 3) (re_varD 1) rfl)) rfl)) (re_varD 4)) rfl)) (rg_set 3))
    (rs_seq (rs_if (rt_bool (RE.up (s' := 3) (re_op eqP_ok (RE.up (s' := 3) (re_varD 3) rfl) (RE.up (s' := 3) (re_lst ra_nil) rfl)) rfl)) (rs_seq (rs_asg (re_tup (ra_cons (re_c (.str (Str.ofString "word"))) (ra_cons (re_tup (ra_cons (re_varD 1) (ra_cons (re_c (.int 0)) ra_nil))) ra_nil))) (rg_set 5))
    (rs_ret (RE.up (s' := 7) (re_and (RE.up (s' := 3) (re_op eqP_ok (RE.up (s' := 3) (re_call (ks := [.d, .d, .d]) sp__law_told (ra_cons (re_varD 0) (ra_cons (re_varD 1) (ra_cons (re_c .none) ra_nil)))) rfl) (RE.up (s' := 3) (re_varD 5) rfl)) rfl) (re_op eqP_ok (RE.up (s' := 3) (re_call (ks := [.d, .d, .d]) sp__law_told (ra_cons (re_varD 0) (ra_cons (re_varD 1) (ra_cons (re_op ixP_ok (RE.up (s' := 3) (re_varD 2) rfl) (RE.up (s' := 3) (re_c (.int 0)) rfl)) ra_nil)))) rfl) (RE.up (s' := 3) (re_varD 5) rfl))) rfl))) rs_nx)
    (rs_seq (rs_asg (re_frz (RE.up (s' := 2) (re_sortK sp__law_holds__key (fun γ d K => rfl) (ra_cons (RE.up (s' := 3) (re_lc (ds := []) (mb := [false, false, false, false, false, false, false, true, true, true, false, false, false, false]) (mt := [false, false, false, false, false, false, false, true, true, true, false, false, false, false]) (ri_seq (RE.up (s' := 3) (re_varD 3) rfl)) (rg_tup (rgs_cons (rg_set 7) (rgs_cons (rg_set 8) (rgs_cons (rg_set 9) rgs_nil)))) rt_yes (re_tup (ra_cons (re_frz (re_call (ks := [.d]) (sp__law_form_text 40) (ra_cons (re_varD 8) ra_nil))) (ra_cons (re_varD 8) (ra_cons (re_varD 9) ra_nil))))) rfl) ra_nil)) rfl)) (rg_set 6))
    (rs_seq (rs_for (ds := []) (mb := [false, false, false, false, false, false, false, false, false, false, true, true, true, false]) (ri_range1 (ra_cons (RE.up (s' := 3) (re_c (.int 2)) rfl) ra_nil)) (rg_set 10) (rs_borrow 11 (re_frz (re_call (ks := [.d, .d, .d]) sp__law_told (ra_cons (re_varD 0) (ra_cons (re_varD 1) (ra_cons (re_c .none) ra_nil))))) (re_tup (ra_cons (re_c (.str (Str.ofString "told"))) (ra_cons (re_frz (RE.up (s' := 2) (re_lc (ds := []) (mb := [false, false, false, false, false, false, false, false, false, false, false, false, true, false]) (mt := [false, false, false, false, false, false, false, false, false, false, false, false, true, false]) (ri_seq (RE.up (s' := 3) (re_varD 6) rfl)) (rg_set 12) rt_yes (re_op ixP_ok (RE.up (s' := 3) (re_varD 12) rfl) (RE.up (s' := 3) (re_c (.int 1)) rfl))) rfl)) ra_nil))) opened__law_told__o (pu_tup (pua_cons (pu_c _) (pua_cons (pu_frz (pu_comp (pu_var 6) (pu_op pu_ix (pu_var 12) (pu_c _)))) pua_nil))) (by decide)))
    (rs_seq (rs_for (ds := []) (mb := [false, false, false, false, false, false, false, false, true, true, false, false, false, true]) (ri_seq (RE.up (s' := 3) (re_varD 6) rfl)) (rg_tup (rgs_cons (rg_set 13) (rgs_cons (rg_set 8) (rgs_cons (rg_set 9) rgs_nil)))) (rs_if (rt_bool (RE.up (s' := 3) (re_op eqP_ok (RE.up (s' := 3) (re_call (ks := [.d, .d, .d]) sp__law_told (ra_cons (re_varD 0) (ra_cons (re_varD 1) (ra_cons (re_varD 8) ra_nil)))) rfl) (RE.up (s' := 3) (re_tup (ra_cons (re_c (.str (Str.ofString "told"))) (ra_cons (re_varD 9) ra_nil))) rfl)) rfl)) (rs_ret (RE.up (s' := 7) (re_c (.bool false)) rfl)) rs_nx))
    (rs_seq (rs_for (ds := []) (mb := [false, false, false, false, false, false, false, false, true, false, false, false, true, false]) (ri_seq (RE.up (s' := 3) (re_varD 2) rfl)) (rg_set 8) (rs_if (rt_and (rt_bool (RE.up (s' := 3) (re_op inP_ok (RE.up (s' := 3) (re_varD 8) rfl) (RE.up (s' := 3) (re_lc (ds := []) (mb := [false, false, false, false, false, false, false, false, false, false, false, false, true, false]) (mt := [false, false, false, false, false, false, false, false, false, false, false, false, true, false]) (ri_seq (RE.up (s' := 3) (re_varD 6) rfl)) (rg_set 12) rt_yes (re_op ixP_ok (RE.up (s' := 3) (re_varD 12) rfl) (RE.up (s' := 3) (re_c (.int 1)) rfl))) rfl)) rfl)) (rt_bool (RE.up (s' := 3) (re_op eqP_ok (RE.up (s' := 3) (re_call (ks := [.d, .d, .d]) sp__law_told (ra_cons (re_varD 0) (ra_cons (re_varD 1) (ra_cons (re_varD 8) ra_nil)))) rfl) (RE.up (s' := 3) (re_tup (ra_cons (re_c (.str (Str.ofString "form"))) (ra_cons (re_c .none) ra_nil))) rfl)) rfl))) (rs_ret (RE.up (s' := 7) (re_c (.bool false)) rfl)) rs_nx))
    (rs_ret (RE.up (s' := 7) (re_c (.bool true)) rfl))))))))
theorem sp__law_holds : SpG F__law_holds 2 W__law_holds := by
  intro γ m ws avs J K hcl hA hn hd nb
  unfold W__law_holds at nb ⊢
  split at nb
  · rename_i a0 a1 a2
    exact sp_fin (s := 2) (N := 14) (res := id) (us := fun _ => []) rs__law_holds rfl hcl hA hn hd (e__law_holds a0 a1 a2) (out0_ok rfl) nb
  · exact absurd rfl nb
noncomputable def g_law : GSx :=
    (gsSeq (gsAsg (gOp addP (gSl (gVarB 0) goNone (goSome (gC (.int 40)))) (gOp repP (gLst (gaCons (gC (.int 0)) gaNil)) (gCa maxP2 (gaCons (gC (.int 0)) (gaCons (gOp subP (gC (.int 3)) (gCa lenP (gaCons (gVarB 0) gaNil))) gaNil))))) (gtSet 0))
    (gsSeq (gsAsg (gCall [true, true, true, true, true, true, true, true, true] [.b] W__law_book (gaCons (gVarD 0) gaNil)) (gtSet 1))
    (gsSeq (gsAsg (gOp addP (gLc [] [false, false, false, true, false, false, false, false, false] (giSeq (gOp ixP (gVarD 1) (gC (.int 2)))) (gtSet 3) gtYes (gOp ixP (gVarD 3) (gC (.int 0)))) (gLst (gaCons (gC (.str (Str.ofString "w"))) (gaCons (gC (.str (Str.ofString ""))) gaNil)))) (gtSet 2))
    (gsSeq (gsAsg (gCall [true, true, true, true, true, true, true, true, true] [.d, .d] W__law_spread (gaCons (gOp ixP (gVarD 0) (gC (.int 2))) (gaCons (gC (.int 16)) gaNil))) (gtSet 4))
    (gsSeq (gsAsg (gOp ixP (gVarD 2) (gOp modP (gOp ixP (gVarD 4) (gC (.int 0))) (gCa lenP (gaCons (gVarD 2) gaNil)))) (gtSet 5))
    (gsSeq (gsAsg (gOp modP (gOp ixP (gVarD 4) (gC (.int 1))) (gOp addSP (gCa lenP (gaCons (gVarD 5) gaNil)) (gC (.int 1)))) (gtSet 6))
    (gsSeq (gsAsg (gOp addP (gSl (gVarD 2) goNone (goSome (gC (.int 8)))) (gLst (gaCons (gOp addP (gOp addP (gSl (gVarD 5) goNone (goSome (gVarD 6))) (gOp ixP (gC (.str (Str.ofString "abcdefgh"))) (gOp modP (gOp ixP (gVarD 4) (gC (.int 2))) (gC (.int 8))))) (gSl (gVarD 5) (goSome (gVarD 6)) goNone)) (gaCons (gOp addP (gSl (gVarD 5) goNone (goSome (gVarD 6))) (gSl (gVarD 5) (goSome (gOp addSP (gVarD 6) (gC (.int 1)))) goNone)) (gaCons (gC (.str (Str.ofString ""))) gaNil))))) (gtSet 2))
    (gsSeq (gsAsg (gOp addP (gLst (gaCons (gCallN [true, true, true, true, true, true, true, true, true] [.d, .d] (W__law_form 40) (gSl (gVarD 4) (goSome (gC (.int 3))) goNone) (gaCons (gCa listP (gaCons (gOp ixP (gVarD 1) (gC (.int 0))) gaNil)) (gaCons (gOp addSP (gC (.int 1)) (gOp modP (gOp ixP (gVarD 4) (gC (.int 3))) (gC (.int 6)))) gaNil))) gaNil)) (gLc [] [false, false, false, true, false, false, false, false, false] (giSeq (gOp ixP (gVarD 1) (gC (.int 2)))) (gtSet 3) gtYes (gOp ixP (gVarD 3) (gC (.int 1))))) (gtSet 7))
    (gsRet (gCa allP (gaCons (gLc [] [false, false, false, false, false, false, false, false, true] (giSeq (gVarD 2)) (gtSet 8) gtYes (gCall [false, false, false, false, false, false, false, false, true] [.d, .d, .d] W__law_holds (gaCons (gVarD 1) (gaCons (gVarD 8) (gaCons (gVarD 7) gaNil))))) gaNil)))))))))))
noncomputable def W_law : GFn := fun γ avs K => match avs with
  | [.b a0] => (P_law a0).bind fun r => K r []
  | _ => .bad
theorem e_law (a0 : List D) : runG (g_law) (init0 9 [.b a0]) out0 = P_law a0 := by kernel_rfl
theorem rs_law : RS 7 [true, true, true, true, true, true, true, true, true] m_law (g_law) :=
    (rs_seq (rs_asg (re_frz (RE.up (s' := 2) (re_op addAP_ok (RE.up (s' := 3) (re_sl (RE.up (s' := 3) (re_varB 0) rfl) ro_none (ro_some (RE.up (s' := 3) (re_c (.int 40)) rfl))) rfl) (RE.up (s' := 3) (re_op repP_ok (RE.up (s' := 7) (re_lst (ra_cons (re_c (.int 0)) ra_nil)) rfl) (RE.up (s' := 7) (re_ca maxP2_ok (ra_cons (RE.up (s' := 3) (re_c (.int 0)) rfl) (ra_cons (RE.up (s' := 3) (re_op subP_ok (RE.up (s' := 3) (re_c (.int 3)) rfl) (RE.up (s' := 3) (re_ca lenP_ok (ra_cons (RE.up (s' := 3) (re_varB 0) rfl) ra_nil)) rfl)) rfl) ra_nil))) rfl)) rfl)) rfl)) (rg_set 0))
    (rs_seq (rs_asg (re_frz (re_call (ks := [.b]) sp__law_book (ra_cons (RE.up (s' := 4) (re_varD 0) rfl) ra_nil))) (rg_set 1))
    (rs_seq (rs_asg (re_frz (RE.up (s' := 2) (re_op addAP_ok (RE.up (s' := 3) (re_lc (ds := []) (mb := [false, false, false, true, false, false, false, false, false]) (mt := [false, false, false, true, false, false, false, false, false]) (ri_seq (RE.up (s' := 3) (re_op ixP_ok (RE.up (s' := 3) (re_varD 1) rfl) (RE.up (s' := 3) (re_c (.int 2)) rfl)) rfl)) (rg_set 3) rt_yes (re_op ixP_ok (RE.up (s' := 3) (re_varD 3) rfl) (RE.up (s' := 3) (re_c (.int 0)) rfl))) rfl) (RE.up (s' := 3) (re_lst (ra_cons (re_c (.str (Str.ofString "w"))) (ra_cons (re_c (.str (Str.ofString ""))) ra_nil))) rfl)) rfl)) (rg_set 2))
    (rs_seq (rs_asg (re_frz (re_call (ks := [.d, .d]) sp__law_spread (ra_cons (re_op ixP_ok (RE.up (s' := 3) (re_varD 0) rfl) (RE.up (s' := 3) (re_c (.int 2)) rfl)) (ra_cons (re_c (.int 16)) ra_nil)))) (rg_set 4))
    (rs_seq (rs_asg (re_op ixP_ok (RE.up (s' := 3) (re_varD 2) rfl) (RE.up (s' := 3) (re_op modP_ok (RE.up (s' := 3) (re_op ixP_ok (RE.up (s' := 3) (re_varD 4) rfl) (RE.up (s' := 3) (re_c (.int 0)) rfl)) rfl) (RE.up (s' := 3) (re_ca lenP_ok (ra_cons (RE.up (s' := 3) (re_varD 2) rfl) ra_nil)) rfl)) rfl)) (rg_set 5))
    (rs_seq (rs_asg (re_op modP_ok (RE.up (s' := 3) (re_op ixP_ok (RE.up (s' := 3) (re_varD 4) rfl) (RE.up (s' := 3) (re_c (.int 1)) rfl)) rfl) (RE.up (s' := 3) (re_op addASP_ok (RE.up (s' := 3) (re_ca lenP_ok (ra_cons (RE.up (s' := 3) (re_varD 5) rfl) ra_nil)) rfl) (RE.up (s' := 3) (re_c (.int 1)) rfl)) rfl)) (rg_set 6))
    (rs_seq (rs_asg (re_frz (RE.up (s' := 2) (re_op addAP_ok (RE.up (s' := 3) (re_sl (RE.up (s' := 3) (re_varD 2) rfl) ro_none (ro_some (RE.up (s' := 3) (re_c (.int 8)) rfl))) rfl) (RE.up (s' := 3) (re_lst (ra_cons (re_frz (RE.up (s' := 2) (re_op addAP_ok (RE.up (s' := 3) (re_op addAP_ok (RE.up (s' := 3) (re_sl (RE.up (s' := 3) (re_varD 5) rfl) ro_none (ro_some (RE.up (s' := 3) (re_varD 6) rfl))) rfl) (RE.up (s' := 3) (re_op ixP_ok (RE.up (s' := 3) (re_c (.str (Str.ofString "abcdefgh"))) rfl) (RE.up (s' := 3) (re_op modP_ok (RE.up (s' := 3) (re_op ixP_ok (RE.up (s' := 3) (re_varD 4) rfl) (RE.up (s' := 3) (re_c (.int 2)) rfl)) rfl) (RE.up (s' := 3) (re_c (.int 8)) rfl)) rfl)) rfl)) rfl) (RE.up (s' := 3) (re_sl (RE.up (s' := 3) (re_varD 5) rfl) (ro_some (RE.up (s' := 3) (re_varD 6) rfl)) ro_none) rfl)) rfl)) (ra_cons (re_frz (RE.up (s' := 2) (re_op addAP_ok (RE.up (s' := 3) (re_sl (RE.up (s' := 3) (re_varD 5) rfl) ro_none (ro_some (RE.up (s' := 3) (re_varD 6) rfl))) rfl) (RE.up (s' := 3) (re_sl (RE.up (s' := 3) (re_varD 5) rfl) (ro_some (RE.up (s' := 3) (re_op addASP_ok (RE.up (s' := 3) (re_varD 6) rfl) (RE.up (s' := 3) (re_c (.int 1)) rfl)) rfl)) ro_none) rfl)) rfl)) (ra_cons (re_c (.str (Str.ofString ""))) ra_nil)))) rfl)) rfl)) (rg_set 2))
    (rs_seq (rs_asg (re_frz (RE.up (s' := 2) (re_op addAP_ok (RE.up (s' := 3) (re_lst (ra_cons (re_frz (re_callN (ks := [.d, .d]) (sp__law_form 40) (re_sl (RE.up (s' := 3) (re_varD 4) rfl) (ro_some (RE.up (s' := 3) (re_c (.int 3)) rfl)) ro_none) (ra_cons (re_frz (RE.up (s' := 2) (re_ca listP_ok (ra_cons (RE.up (s' := 3) (re_op ixP_ok (RE.up (s' := 3) (re_varD 1) rfl) (RE.up (s' := 3) (re_c (.int 0)) rfl)) rfl) ra_nil)) rfl)) (ra_cons (re_op addASP_ok (RE.up (s' := 3) (re_c (.int 1)) rfl) (RE.up (s' := 3) (re_op modP_ok (RE.up (s' := 3) (re_op ixP_ok (RE.up (s' := 3) (re_varD 4) rfl) (RE.up (s' := 3) (re_c (.int 3)) rfl)) rfl) (RE.up (s' := 3) (re_c (.int 6)) rfl)) rfl)) ra_nil)) (pua_cons (pu_frz (pu_call pu_list (pua_cons (pu_op pu_ix (pu_var 1) (pu_c _)) pua_nil))) (pua_cons (pu_op pu_add (pu_c _) (pu_op pu_int (pu_op pu_ix (pu_var 4) (pu_c _)) (pu_c _))) pua_nil)))) ra_nil)) rfl) (RE.up (s' := 3) (re_lc (ds := []) (mb := [false, false, false, true, false, false, false, false, false]) (mt := [false, false, false, true, false, false, false, false, false]) (ri_seq (RE.up (s' := 3) (re_op ixP_ok (RE.up (s' := 3) (re_varD 1) rfl) (RE.up (s' := 3) (re_c (.int 2)) rfl)) rfl)) (rg_set 3) rt_yes (re_op ixP_ok (RE.up (s' := 3) (re_varD 3) rfl) (RE.up (s' := 3) (re_c (.int 1)) rfl))) rfl)) rfl)) (rg_set 7))
    (rs_ret (RE.up (s' := 7) (re_ca allP_ok (ra_cons (RE.up (s' := 3) (re_lc (ds := []) (mb := [false, false, false, false, false, false, false, false, true]) (mt := [false, false, false, false, false, false, false, false, true]) (ri_seq (RE.up (s' := 3) (re_varD 2) rfl)) (rg_set 8) rt_yes (re_frz (re_call (ks := [.d, .d, .d]) sp__law_holds (ra_cons (re_varD 1) (ra_cons (re_varD 8) (ra_cons (re_varD 7) ra_nil)))))) rfl) ra_nil)) rfl))))))))))
theorem sp_law : SpG F_law 2 W_law := by
  intro γ m ws avs J K hcl hA hn hd nb
  unfold W_law at nb ⊢
  split at nb
  · rename_i a0
    exact sp_fin (s := 2) (N := 9) (res := id) (us := fun _ => []) rs_law rfl hcl hA hn hd (e_law a0) (out0_ok rfl) nb
  · exact absurd rfl nb
theorem law_true (hP : ∀ ns : List Int, ns.length ≤ 63 → P_law (ns.map .int) = .ok (.bool true)) : ∀ ns : List Int, ns.length ≤ 63 → ∃ m, F_law [.ro (ns.map .int)] [] = .ok (.d (.bool true)) m :=
  law_of sp_law (fun _ => rfl) hP
end K25
set_option Elab.async false
set_option linter.all false
set_option maxRecDepth 100000
set_option maxHeartbeats 1000000
namespace K25
open PySem L2 M
variable [HasW]
structure isW (w : List Nat) : Prop where
  lo : 1 ≤ w.length
  hi : w.length ≤ 8
  ab : ∀ c ∈ w, 97 ≤ c ∧ c ≤ 122
def abc : List Nat := (List.range 26).map (· + 97)
theorem abc_eq : Str.ofString "abcdefghijklmnopqrstuvwxyz" = S abc := by decide +kernel
theorem abc_len : abc.length = 26 := rfl
theorem abc_get {k : Nat} (h : k < 26) : abc[k]? = some (k + 97) := by
  unfold abc
  rw [List.getElem?_map, List.getElem?_range h]
  rfl
theorem ab_at {i : Int} (h0 : 0 ≤ i) (h1 : i < 26) : L2.atI abc i = some (i.toNat + 97) := by
  rw [atI_of h0]
  exact abc_get (by omega)
theorem okC_ab {w : List Nat} (h : ∀ c ∈ w, 97 ≤ c ∧ c ≤ 122) : okC w = true := by
  unfold okC
  rw [List.all_eq_true]
  intro c hc
  have := h c hc
  exact decide_eq_true (by omega)
def sts (ws : List (List Nat)) : List D := ws.map fun w => .str (S w)
theorem pigeon {α : Type} [DecidableEq α] (f : Nat → α) : ∀ (l : List α) (s : List Nat), s.Nodup → (∀ i ∈ s, ∀ j ∈ s, f i = f j → i = j) → l.length < s.length → ∃ j ∈ s, f j ∉ l
  | [], s, _, _, h => by
    cases s with
    | nil => simp at h
    | cons a r => exact ⟨a, List.mem_cons_self, by simp⟩
  | a :: t, s, nd, inj, h => by
    by_cases ha : ∃ j ∈ s, f j = a
    · obtain ⟨j, hj, e⟩ := ha
      obtain ⟨k, hk, hn⟩ := pigeon f t (s.erase j) (nd.erase j) (fun x hx y hy => inj x (List.mem_of_mem_erase hx) y (List.mem_of_mem_erase hy)) (by
        rw [List.length_erase_of_mem hj]
        simp at h
        omega)
      have hks := List.mem_of_mem_erase hk
      refine ⟨k, hks, fun z => ?_⟩
      rcases List.mem_cons.mp z with z | z
      · have : k = j := inj k hks j hj (z.trans e.symm)
        subst this
        exact (List.Nodup.not_mem_erase nd) hk
      · exact hn z
    · obtain ⟨k, hk, hn⟩ := pigeon f t s nd inj (by simp at h; omega)
      refine ⟨k, hk, fun z => ?_⟩
      rcases List.mem_cons.mp z with z | z
      · exact ha ⟨k, hk, z⟩
      · exact hn z
theorem canLayAll0_sts : ∀ {ws : List (List Nat)}, (∀ w ∈ ws, okC w = true) → PyData.canLayAll0 (sts ws) = true
  | [], _ => by simp [sts, PyData.canLayAll0]
  | w :: ws, h => by
    have := canLayAll0_sts (ws := ws) fun u hu => h u (List.mem_cons_of_mem _ hu)
    unfold sts at this
    simp [sts, PyData.canLayAll0, PyData.canLay0, strOk_S, h w List.mem_cons_self, this]
theorem depthAll_sts : ∀ ws : List (List Nat), PyData.depthAll (sts ws) = 0
  | [] => by simp [sts, PyData.depthAll]
  | w :: ws => by
    have := depthAll_sts ws
    unfold sts at this
    simp [sts, PyData.depthAll, PyData.depth, this]
theorem shaped_sts {ws : List (List Nat)} (h : ∀ w ∈ ws, okC w = true) : SeqAt.shaped (.list (sts ws)) = true := by
  show ((PyData.list (sts ws)).canLay0 && decide ((PyData.list (sts ws)).depth ≤ 64)) = _
  simp [PyData.canLay0, PyData.depth, canLayAll0_sts h, depthAll_sts]
theorem any_sts (w : List Nat) (ws : List (List Nat)) : ((sts ws).any fun z => PyData.eqv z (.str (S w))) = decide (w ∈ ws) := by
  rw [Bool.eq_iff_iff, List.any_eq_true]
  unfold sts
  constructor
  · rintro ⟨x, hx, e⟩
    obtain ⟨u, hu, rfl⟩ := List.mem_map.mp hx
    have e : u = w := by simpa using e
    rw [← e]
    exact decide_eq_true hu
  · intro h
    exact ⟨_, List.mem_map.mpr ⟨w, of_decide_eq_true h, rfl⟩, by simp⟩
theorem isW.okC {w : List Nat} (h : isW w) : okC w = true := okC_ab h.ab
/-! ### words from the deck -/
def anyL : List Nat := [97, 110, 121]
/-! ### names, as the laws of books draw them -/
theorem ix_ab {i : Int} (h0 : 0 ≤ i) (h1 : i < 26) : ixP (.str (S abc)) (.int i) = .ok (.str (S [i.toNat + 97])) :=
  ixP_str (by rw [abc_len, sizeLine_eq]; decide) (ab_at h0 h1)
theorem inP_sts {w : List Nat} {ws : List (List Nat)} (h : okC w = true) (hw : ∀ w ∈ ws, okC w = true) : inP false (.str (S w)) (.list (sts ws)) = .ok (.bool (decide (w ∈ ws))) := by
  rw [inP_list (by rw [shaped_str, h, shaped_sts hw]; rfl), ngB_f, any_sts]
theorem sts_snoc (ws : List (List Nat)) (w : List Nat) : sts ws ++ [.str (S w)] = sts (ws ++ [w]) := by simp [sts]
theorem sts_len (ws : List (List Nat)) : (sts ws).length = ws.length := by simp [sts]
def lts (w : List Nat) : List D := w.map fun c => .str (S [c])
theorem lts_len (w : List Nat) : (lts w).length = w.length := by simp [lts]
theorem lts_sts (w : List Nat) : lts w = sts (w.map fun c => [c]) := by simp [lts, sts]
theorem join_lts {w : List Nat} (h : w.length ≤ 1000) : joinP (S []) [.list (lts w)] = .ok (.str (S w)) := by
  have hf : ∀ w : List Nat, (w.map fun c => [c]).flatten = w := by
    intro w
    induction w with
    | nil => rfl
    | cons c w ih => rw [List.map_cons, List.flatten_cons, ih]; rfl
  have := joinP_nil (ls := w.map fun c => [c]) (by rw [hf]; omega)
  rw [hf, List.map_map] at this
  exact this
theorem eqvAll_sts : ∀ ws vs : List (List Nat), PyData.eqvAll (sts ws) (sts vs) = decide (ws = vs)
  | [], [] => by simp [sts, PyData.eqvAll]
  | [], v :: vs => by simp [sts, PyData.eqvAll]
  | w :: ws, [] => by simp [sts, PyData.eqvAll]
  | w :: ws, v :: vs => by
    have ih := eqvAll_sts ws vs
    have e1 : sts (w :: ws) = .str (S w) :: sts ws := rfl
    have e2 : sts (v :: vs) = .str (S v) :: sts vs := rfl
    rw [e1, e2, PyData.eqvAll, ih, eqv_str, S_beq]
    simp [Bool.decide_and]
theorem eqP_sts {n : Bool} {ws vs : List (List Nat)} (h : ∀ w ∈ ws, okC w = true) (h' : ∀ w ∈ vs, okC w = true) : eqP n (.list (sts ws)) (.list (sts vs)) = .ok (.bool (ngB n (decide (ws = vs)))) := by
  unfold eqP
  rw [shaped_sts h, shaped_sts h']
  have : PyData.eqv (.list (sts ws)) (.list (sts vs)) = decide (ws = vs) := by rw [PyData.eqv, eqvAll_sts]
  rw [this]
  cases n <;> rfl
theorem eq_any {v : List Nat} (h : ∀ c ∈ v, 97 ≤ c ∧ c ≤ 122) : eqP false (.list (lts v)) (.list [.str (S [97]), .str (S [110]), .str (S [121])]) = .ok (.bool (decide (v = anyL))) := by
  have e : ([.str (S [97]), .str (S [110]), .str (S [121])] : List D) = sts ([97, 110, 121].map fun c => [c]) := rfl
  rw [lts_sts, e, eqP_sts (fun w hw => by
    obtain ⟨c, hc, rfl⟩ := List.mem_map.mp hw
    exact okC_ab fun d hd => by rw [List.mem_singleton.mp hd]; exact h c hc) (by decide)]
  have : (v.map (fun c => [c]) = [97, 110, 121].map fun c => [c]) ↔ v = anyL := by
    constructor
    · intro z
      exact List.map_inj_right (fun a b q => by simpa using q) |>.mp z
    · intro z; rw [z]; rfl
  simp only [ngB_f, this]
/-- the next try -/
def nxw (w : List Nat) : List Nat := if w = anyL then [121, 110, 97] else match w with
  | [] => []
  | c :: p => (97 + (c - 97 + 1) % 26) :: p
def sq : Nat → List Nat → List Nat
  | 0, w => w
  | j + 1, w => sq j (nxw w)
theorem sq_succ : ∀ (j : Nat) (w : List Nat), sq (j + 1) w = nxw (sq j w)
  | 0, w => rfl
  | j + 1, w => sq_succ j (nxw w)
theorem sq_add : ∀ (i j : Nat) (w : List Nat), sq (i + j) w = sq j (sq i w)
  | 0, j, w => by rw [Nat.zero_add]; rfl
  | i + 1, j, w => by rw [show i + 1 + j = (i + j) + 1 by omega]; exact sq_add i j (nxw w)
theorem isW_nxw {w : List Nat} (h : isW w) : isW (nxw w) := by
  unfold nxw
  split
  · exact ⟨by decide, by decide, by decide⟩
  · cases w with
    | nil => have := h.lo; simp at this
    | cons c p =>
      refine ⟨by simp, h.hi, fun d hd => ?_⟩
      rcases List.mem_cons.mp hd with rfl | hd
      · omega
      · exact h.ab d (List.mem_cons_of_mem _ hd)
theorem isW_sq : ∀ (j : Nat) {w : List Nat}, isW w → isW (sq j w)
  | 0, _, h => h
  | j + 1, _, h => isW_sq j (isW_nxw h)
def fam (c : Nat) (p : List Nat) (j : Nat) : List Nat := (97 + (c - 97 + j) % 26) :: p
theorem nxw_fam {c : Nat} {p : List Nat} {j : Nat} (h : fam c p j ≠ anyL) : nxw (fam c p j) = fam c p (j + 1) := by
  unfold nxw
  rw [if_neg h]
  unfold fam
  simp only
  congr 1
  omega
theorem sq_fam {c : Nat} {p : List Nat} (hc : 97 ≤ c ∧ c ≤ 122) : ∀ j, (∀ i, i < j → fam c p i ≠ anyL) → sq j (c :: p) = fam c p j
  | 0, _ => by
    show c :: p = _
    unfold fam
    congr 1
    omega
  | j + 1, h => by rw [sq_succ, sq_fam hc j fun i hi => h i (by omega), nxw_fam (h j (by omega))]
theorem free1 {c : Nat} {p : List Nat} {found : List (List Nat)} (hc : 97 ≤ c ∧ c ≤ 122) (hp : p ≠ [110, 121]) (hl : found.length < 26) : ∃ J, J < 26 ∧ sq J (c :: p) ∉ found ∧ sq J (c :: p) ≠ anyL := by
  have ne : ∀ i, fam c p i ≠ anyL := fun i h => by
    unfold fam anyL at h
    exact hp (List.cons.inj h).2
  obtain ⟨j, hj, hn⟩ := pigeon (fam c p) found (List.range 26) List.nodup_range (fun i hi j hj e => by
    have hi := List.mem_range.mp hi
    have hj := List.mem_range.mp hj
    unfold fam at e
    have := (List.cons.inj e).1
    omega) (by simpa using hl)
  refine ⟨j, List.mem_range.mp hj, ?_⟩
  rw [sq_fam hc j fun i _ => ne i]
  exact ⟨hn, ne j⟩
theorem freeJ {w : List Nat} (h : isW w) {found : List (List Nat)} (hl : found.length < 26) : ∃ J, J ≤ 60 ∧ sq J w ∉ found ∧ sq J w ≠ anyL := by
  cases w with
  | nil => have := h.lo; simp at this
  | cons c p =>
    have hc := h.ab c List.mem_cons_self
    by_cases hp : p = [110, 121]
    · subst hp
      have hk : ∃ k0, k0 ≤ 26 ∧ (∀ i, i < k0 → fam c [110, 121] i ≠ anyL) ∧ fam c [110, 121] k0 = anyL := by
        refine ⟨(123 - c) % 26, by omega, fun i hi z => ?_, ?_⟩
        · unfold fam anyL at z
          have := (List.cons.inj z).1
          omega
        · unfold fam anyL
          congr 1
          omega
      obtain ⟨k0, k1, k2, k3⟩ := hk
      have e1 : sq (k0 + 1) (c :: [110, 121]) = [121, 110, 97] := by
        rw [sq_succ, sq_fam hc k0 k2, k3]
        rfl
      obtain ⟨J, j1, j2, j3⟩ := free1 (c := 121) (p := [110, 97]) (found := found) (by decide) (by decide) hl
      refine ⟨k0 + 1 + J, by omega, ?_⟩
      rw [sq_add, e1]
      exact ⟨j2, j3⟩
    · obtain ⟨J, j1, j2⟩ := free1 hc hp hl
      exact ⟨J, by omega, j2⟩
theorem lett_ix {c : Nat} (hc : 97 ≤ c ∧ c ≤ 122) : sindexP (S abc) [.str (S [c])] = .ok (.int ((c - 97 : Nat) : Int)) := by
  obtain ⟨q, rfl⟩ : ∃ q, c = q + 97 := ⟨c - 97, by omega⟩
  rw [show q + 97 - 97 = q by omega]
  exact sindexP_one (by rw [abc_get (by omega)]) (fun k hk => by rw [abc_get (by omega)]; simp; omega)
theorem lett_nx {c k : Nat} : ixP (.str (S abc)) (.int ((((c - 97 : Nat) : Int) + (k : Int)) % 26)) = .ok (.str (S [97 + (c - 97 + k) % 26])) := by
  rw [ix_ab (by omega) (by omega)]
  congr 4
  omega
theorem ix_lts {v : List Nat} {i c : Nat} (h : v[i]? = some c) : ixP (.list (lts v)) (.int (i : Int)) = .ok (.str (S [c])) := by
  refine ixP_list ?_
  rw [atI_cast]
  unfold lts
  rw [List.getElem?_map, h]
  rfl
theorem pix_at {γ : Type} {xs : List D} {i : Nat} (h : i < xs.length) (k : Nat → PR γ) : pix xs (i : Int) k = k i := by
  have : ixN xs.length (i : Int) = some i := by
    unfold ixN
    simp
    omega
  unfold pix
  rw [this]
theorem set_lts (v : List Nat) (i c : Nat) : (lts v).set i (.str (S [c])) = lts (v.set i c) := by
  unfold lts
  rw [List.map_set]
theorem J6_ok {v : List Nat} (hv : isW v) (kn kb : List D × Unit → PR D) : J6__law_names kn kb (.str (S abc)) (lts v) true = kn (lts (nxw v), ()) := by
  unfold J6__law_names
  simp only [if_true, lt0, lt1, lt2, lt5, lt6, lt7, lt8, lt9, lt10, lt11, lt12, lt13, lt14, lt15, lt16, lt17, lt18, lt19, lt20, lt21, eq_any hv.ab, PR.bind_ok, ptb_bool]
  by_cases h : v = anyL
  · simp only [h, decide_true, if_true, nxw]
    rfl
  · cases v with
    | nil => have := hv.lo; simp at this
    | cons c p =>
      have hc := hv.ab c List.mem_cons_self
      have e0 : ixP (.list (lts (c :: p))) (.int 0) = .ok (.str (S [c])) := ix_lts (i := 0) rfl
      have e1 := lett_nx (c := c) (k := 1)
      rw [show ((1 : Nat) : Int) = 1 from rfl] at e1
      have e2 : ∀ k : Nat → PR D, pix (lts (c :: p)) 0 k = k 0 := fun k => pix_at (i := 0) (by simp [lts]) k
      simp only [h, decide_false, Bool.false_eq_true, if_false, pts_str, e0, PR.bind_ok, lett_ix hc, addSP_int, modP_s (show (0 : Int) < 26 by decide), e1, pti_int, e2, set_lts]
      unfold nxw
      rw [if_neg h]
      rfl
theorem nm_loop {w : List Nat} (hw : isW w) {found : List (List Nat)} (hf : ∀ w ∈ found, isW w) (hl : found.length < 26) : ∃ v, isW v ∧ v ∉ found ∧ v ≠ anyL ∧ ∀ k : List D × Unit → PR D, whileK (S5__law_names (.str (S abc)) (sts found)) fuelW (lts w, ()) k = k (lts v, ()) := by
  obtain ⟨J, hJ60, hJ1, hJ2⟩ := freeJ hw hl
  have okf : ∀ w ∈ found, okC w = true := fun w hw => (hf w hw).okC
  obtain ⟨s', ⟨v, h1, h2, h3, rfl⟩, h4⟩ := whileK_invU (γ := D) (step := S5__law_names (.str (S abc)) (sts found)) (n := fuelW) (m := J) (s := (lts w, ()))
    (fun m t => ∃ j, j + m = J ∧ t = (lts (sq j w), ()))
    (fun t => ∃ v, isW v ∧ v ∉ found ∧ v ≠ anyL ∧ t = (lts v, ()))
    (fun m t ht => by
      obtain ⟨j, hj, rfl⟩ := ht
      have hv := isW_sq j hw
      have hhi := hv.hi
      have hin := inP_sts hv.okC okf
      have hjn := join_lts (w := sq j w) (by omega)
      have next : (sq j w ∈ found ∨ sq j w = anyL) → ∃ m' s', m' < m ∧ (∃ j, j + m' = J ∧ s' = (lts (sq j w), ())) ∧ (lts (nxw (sq j w)), ()) = s' := fun hz => by
        have hm : 0 < m := by
          rcases Nat.eq_zero_or_pos m with z | z
          · exfalso
            have : j = J := by omega
            subst this
            exact hz.elim hJ1 hJ2
          · exact z
        exact ⟨m - 1, _, by omega, ⟨j + 1, by omega, rfl⟩, by rw [sq_succ]⟩
      by_cases h : sq j w ∈ found
      · obtain ⟨m', s', a, b, rfl⟩ := next (.inl h)
        refine .inr ⟨m', _, a, b, fun kn kb => ?_⟩
        simp only [S5__law_names, lt0, lt1, lt2, lt5, lt6, lt7, lt8, lt9, lt10, lt11, lt12, lt13, lt14, lt15, lt16, lt17, lt18, lt19, lt20, lt21, pts_str, hjn, PR.bind_ok, hin, h, decide_true, ptb_bool, if_true, J6_ok hv]
      · by_cases h' : sq j w = anyL
        · obtain ⟨m', s', a, b, rfl⟩ := next (.inr h')
          refine .inr ⟨m', _, a, b, fun kn kb => ?_⟩
          simp only [S5__law_names, lt0, lt1, lt2, lt5, lt6, lt7, lt8, lt9, lt10, lt11, lt12, lt13, lt14, lt15, lt16, lt17, lt18, lt19, lt20, lt21, pts_str, hjn, PR.bind_ok, hin, h, decide_false, ptb_bool, Bool.false_eq_true, if_false, eq_any hv.ab]
          simp only [h', decide_true]
          rw [h'] at hv
          exact J6_ok hv kn kb
        · refine .inl ⟨_, ⟨_, hv, h, h', rfl⟩, fun kn kb => ?_⟩
          simp only [S5__law_names, lt0, lt1, lt2, lt5, lt6, lt7, lt8, lt9, lt10, lt11, lt12, lt13, lt14, lt15, lt16, lt17, lt18, lt19, lt20, lt21, pts_str, hjn, PR.bind_ok, hin, h, decide_false, ptb_bool, Bool.false_eq_true, if_false, eq_any hv.ab, h', J6__law_names])
    ⟨0, by omega, rfl⟩ (by rw [fuelW_eq]; omega)
  exact ⟨v, h1, h2, h3, h4⟩
theorem nm_word (o : Int) (n : Nat) (hn : n ≤ 100) : ∃ (w : List Nat) (o' : Int), w.length = n ∧ (∀ c ∈ w, 97 ≤ c ∧ c ≤ 122) ∧ ∀ k : D × List D × Unit → PR D, foldK (S3__law_names (.str (S abc))) ((List.range n).map fun (k : Nat) => PyData.int (k : Int)) (.int o, [], ()) k = k (.int o', lts w, ()) := by
  obtain ⟨s', ⟨w, o', rfl, h1, h2⟩, h3⟩ := foldK_invU (γ := D) (step := S3__law_names (.str (S abc))) (xs := (List.range n).map fun (k : Nat) => PyData.int (k : Int)) (i := 0) (s := (.int o, [], ()))
    (fun i s => ∃ (w : List Nat) (o' : Int), s = (.int o', lts w, ()) ∧ w.length = i ∧ ∀ c ∈ w, 97 ≤ c ∧ c ≤ 122)
    (fun m x s hx => by
      rintro ⟨w, o', rfl, hl, hc⟩
      have hm : m < n := by
        have := (List.getElem?_eq_some_iff.mp hx).1
        simpa using this
      have q0 := Int.emod_nonneg o' (show (26 : Int) ≠ 0 by decide)
      have q1 := Int.emod_lt_of_pos o' (show (0 : Int) < 26 by decide)
      refine ⟨(.int (o' / 26), lts (w ++ [(o' % 26).toNat + 97]), ()), ⟨_, _, rfl, by rw [List.length_append, List.length_singleton, hl], fun c hc' => ?_⟩, fun kn kb => ?_⟩
      · rcases List.mem_append.mp hc' with h | h
        · exact hc c h
        · rw [List.mem_singleton.mp h]; omega
      · have e : lts w ++ [.str (S [(o' % 26).toNat + 97])] = lts (w ++ [(o' % 26).toNat + 97]) := by simp [lts]
        simp only [S3__law_names, modP_s (show (0 : Int) < 26 by decide), PR.bind_ok, ix_ab q0 q1, appendP_s _ (show (lts w).length < sizeLine by rw [sizeLine_eq, lts_len]; omega), divP_s (show (0 : Int) < 26 by decide) (by decide), e])
    ⟨[], o, rfl, rfl, fun c hc => by cases hc⟩
  exact ⟨w, o', by simpa using h1, h2, h3⟩
theorem nm_fin {w : List Nat} (hw : isW w) {found : List (List Nat)} (hf : ∀ w ∈ found, isW w) (hl : found.length < 26) : ∃ v, isW v ∧ v ∉ found ∧ v ≠ anyL ∧ ∀ (nb : D) (kn : D × List D × Unit → PR D), J4__law_names fuelW kn (.str (S abc)) nb (sts found) (lts w) = kn (nb, sts (found ++ [v]), ()) := by
  obtain ⟨v, v1, v2, v3, v4⟩ := nm_loop hw hf hl
  have hhi := v1.hi
  refine ⟨v, v1, v2, v3, fun nb kn => ?_⟩
  unfold J4__law_names
  rw [v4]
  simp only [lt0, lt1, lt2, lt5, lt6, lt7, lt8, lt9, lt10, lt11, lt12, lt13, lt14, lt15, lt16, lt17, lt18, lt19, lt20, lt21, pts_str, join_lts (w := v) (by omega), PR.bind_ok, appendP_s _ (show (sts found).length < sizeLine by rw [sizeLine_eq, sts_len]; omega), sts_snoc]
theorem P_names (c : Int) (n : Nat) (hn : n ≤ 26) : ∃ ws, ws.length = n ∧ (∀ w ∈ ws, isW w) ∧ anyL ∉ ws ∧ ws.Nodup ∧ P__law_names (.int c) (.int (n : Int)) = .ok (.list (sts ws)) := by
  show ∃ ws, ws.length = n ∧ (∀ w ∈ ws, isW w) ∧ anyL ∉ ws ∧ ws.Nodup ∧ PF__law_names fuelW (.int c) (.int (n : Int)) = .ok (.list (sts ws))
  obtain ⟨sz, hsz⟩ : ∃ sz : Nat, 1 + c / 2 % 8 = (sz : Int) := ⟨(1 + c / 2 % 8).toNat, by omega⟩
  have hs8 : 1 ≤ sz ∧ sz ≤ 8 := by omega
  obtain ⟨a, ha⟩ : ∃ a : Nat, c / 16 % (sz : Int) = (a : Int) := ⟨(c / 16 % (sz : Int)).toNat, by
    have := Int.emod_nonneg (c / 16) (show (sz : Int) ≠ 0 by omega)
    omega⟩
  have ha8 : a < sz := by
    have := Int.emod_lt_of_pos (c / 16) (show 0 < (sz : Int) by omega)
    omega
  obtain ⟨s', ⟨nb, ws, rfl, h1, h2, h3, h4⟩, h5⟩ := foldK_inv (step := S1__law_names fuelW (.str (S abc)) (.bool (decide (c % 2 = 0))) (.int (sz : Int)) (.int (a : Int))) (xs := (List.range n).map fun (k : Nat) => PyData.int (k : Int)) (i := 0) (s := (.int (c / 128), sts [], ())) (k := fun s123 => .ok (.list s123.2.1))
    (fun i s => ∃ (nb : Int) (ws : List (List Nat)), s = (.int nb, sts ws, ()) ∧ ws.length = i ∧ (∀ w ∈ ws, isW w) ∧ anyL ∉ ws ∧ ws.Nodup)
    (fun m x s hx => by
      rintro ⟨nb, ws, rfl, hl, hw, hA, hN⟩
      have hm : m < n := by
        have := (List.getElem?_eq_some_iff.mp hx).1
        simpa using this
      have hx2 : x = .int (m : Int) := by
        rw [List.getElem?_map, List.getElem?_range hm] at hx
        simpa using hx.symm
      subst hx2
      have hl26 : ws.length < 26 := by omega
      have done : ∀ (nb' : Int) (v : List Nat), isW v → v ∉ ws → v ≠ anyL → ∃ (nb2 : Int) (ws2 : List (List Nat)), ((.int nb', sts (ws ++ [v]), ()) : D × List D × Unit) = (.int nb2, sts ws2, ()) ∧ ws2.length = 0 + m + 1 ∧ (∀ w ∈ ws2, isW w) ∧ anyL ∉ ws2 ∧ ws2.Nodup := fun nb' v v1 v2 v3 => by
        refine ⟨nb', ws ++ [v], rfl, by rw [List.length_append, List.length_singleton]; omega, fun w hw' => ?_, fun z => ?_, ?_⟩
        · rcases List.mem_append.mp hw' with h | h
          · exact hw w h
          · rw [List.mem_singleton.mp h]; exact v1
        · rcases List.mem_append.mp z with h | h
          · exact hA h
          · exact v3 (List.mem_singleton.mp h).symm
        · rw [List.nodup_append]
          exact ⟨hN, by simp, fun x hx y hy e => by rw [List.mem_singleton.mp hy] at e; subst e; exact v2 hx⟩
      by_cases hal : c % 2 = 0
      · obtain ⟨w, o', w1, w2, w3⟩ := nm_word nb sz (by omega)
        obtain ⟨d, hd⟩ : ∃ d, w[a]? = some d := ⟨w[a]'(by omega), List.getElem?_eq_getElem (by omega)⟩
        have hdc := w2 d (List.mem_of_getElem? hd)
        have hw1 : isW (w.set a (97 + (d - 97 + m) % 26)) := ⟨by rw [List.length_set]; omega, by rw [List.length_set]; omega, fun e he => by
          rcases List.mem_or_eq_of_mem_set he with h | h
          · exact w2 e h
          · omega⟩
        obtain ⟨v, v1, v2, v3, v4⟩ := nm_fin hw1 hw hl26
        refine ⟨_, done nb v v1 v2 v3, fun kn kb => ?_⟩
        have hp : ∀ k : Nat → PR D, pix (lts w) (a : Int) k = k a := fun k => pix_at (by rw [lts_len]; omega) k
        simp only [S1__law_names, hal, decide_true, ptt_b, Bool.not_true, Bool.false_eq_true, if_false, J2__law_names, rng1P_s (show -1000000 ≤ (sz : Int) by omega) (by omega), PR.bind_ok, Int.toNat_natCast, w3, if_true, pts_str, ix_lts hd, lett_ix hdc, addSP_int, modP_s (show (0 : Int) < 26 by decide), lett_nx, pti_int, hp, set_lts, v4]
      · obtain ⟨lg, hlg⟩ : ∃ lg : Nat, 1 + nb % 8 = (lg : Int) := ⟨(1 + nb % 8).toNat, by omega⟩
        obtain ⟨w, o', w1, w2, w3⟩ := nm_word (nb / 8) lg (by omega)
        obtain ⟨v, v1, v2, v3, v4⟩ := nm_fin (w := w) ⟨by omega, by omega, w2⟩ hw hl26
        refine ⟨_, done o' v v1 v2 v3, fun kn kb => ?_⟩
        simp only [S1__law_names, hal, decide_false, ptt_b, Bool.not_false, Bool.false_eq_true, if_true, if_false, modP_s (show (0 : Int) < 8 by decide), PR.bind_ok, addSP_int, hlg, divP_s (show (0 : Int) < 8 by decide) (by decide), J2__law_names, rng1P_s (show -1000000 ≤ (lg : Int) by omega) (by omega), Int.toNat_natCast, w3, v4])
    ⟨_, [], rfl, rfl, fun w hw => (by cases hw), (by intro h; cases h), List.nodup_nil⟩
  refine ⟨ws, by simpa using h1, h2, h3, h4, ?_⟩
  unfold PF__law_names
  simp only [modP_s (show (0 : Int) < 2 by decide), PR.bind_ok, eqP_int, ngB_f, divP_s (show (0 : Int) < 2 by decide) (by decide), modP_s (show (0 : Int) < 8 by decide), addSP_int, hsz, divP_s (show (0 : Int) < 16 by decide) (by decide), modP_s (show 0 < (sz : Int) by omega), ha, divP_s (show (0 : Int) < 128 by decide) (by decide), rng1P_s (show -1000000 ≤ (n : Int) by omega) (by omega), Int.toNat_natCast, abc_eq]
  exact h5
end K25
set_option Elab.async false
set_option linter.all false
set_option maxRecDepth 100000
set_option maxHeartbeats 1000000
namespace K25
open PySem L2 M
variable [HasW]
/-! ### forms -/
inductive Fm where
  | b (w : List Nat)
  | n (s : Bool) (x y : Fm)
def slash (s : Bool) : List Nat := if s then [92] else [47]
def enc : Fm → D
  | .b w => .tuple [.str (S [98, 97, 115, 105, 99]), .str (S w)]
  | .n s x y => .tuple [.str (S (slash s)), enc x, enc y]
def Fm.size : Fm → Nat
  | .b _ => 1
  | .n _ x y => x.size + y.size
def Fm.wf : Fm → Prop
  | .b w => isW w
  | .n _ x y => x.wf ∧ y.wf
theorem Fm.size_pos : ∀ f : Fm, 1 ≤ f.size
  | .b _ => Nat.le_refl _
  | .n _ x y => by have := x.size_pos; show 1 ≤ x.size + y.size; omega
/-- the first thing of a form -/
def hdF : Fm → List Nat
  | .b _ => [98, 97, 115, 105, 99]
  | .n s _ _ => slash s
@[simp] theorem ixF0 (f : Fm) : ixP (enc f) (.int 0) = .ok (.str (S (hdF f))) := by cases f <;> simp [enc, hdF]
@[simp] theorem ixF1 (s : Bool) (x y : Fm) : ixP (enc (.n s x y)) (.int 1) = .ok (enc x) := by simp [enc]
@[simp] theorem ixF2 (s : Bool) (x y : Fm) : ixP (enc (.n s x y)) (.int 2) = .ok (enc y) := by simp [enc]
@[simp] theorem ixFb (w : List Nat) : ixP (enc (.b w)) (.int 1) = .ok (.str (S w)) := by simp [enc]
theorem okC_hdF (f : Fm) : okC (hdF f) = true := by
  cases f with
  | b w => exact (by decide : okC [98, 97, 115, 105, 99] = true)
  | n s x y => exact (by cases s <;> decide : okC (slash s) = true)
@[simp] theorem hdF_b (w : List Nat) : hdF (.b w) = [98, 97, 115, 105, 99] := rfl
@[simp] theorem hdF_n (s : Bool) (x y : Fm) : hdF (.n s x y) = slash s := rfl
@[simp] theorem slash_t : slash true = [92] := rfl
@[simp] theorem slash_f : slash false = [47] := rfl
theorem slash_ne (s : Bool) : ¬ slash s = [98, 97, 115, 105, 99] := by cases s <;> decide
theorem okC_slash (s : Bool) : okC (slash s) = true := by cases s <;> decide
def Fm.isB : Fm → Bool
  | .b _ => true
  | .n .. => false
@[simp] theorem isB_b (w : List Nat) : (Fm.b w).isB = true := rfl
@[simp] theorem isB_n (s : Bool) (x y : Fm) : (Fm.n s x y).isB = false := rfl
theorem eq_hd (n : Bool) (f : Fm) : eqP n (.str (S (hdF f))) (.str (S [98, 97, 115, 105, 99])) = .ok (.bool (ngB n f.isB)) := by
  rw [eqP_str (okC_hdF f) (by decide)]
  cases f with
  | b w => simp [Fm.isB]
  | n s x y => simp [Fm.isB, slash_ne]
/-! ### forms as data: alike, laid -/
def Fm.beq : Fm → Fm → Bool
  | .b w, .b v => decide (w = v)
  | .n s x y, .n t u v => decide (s = t) && Fm.beq x u && Fm.beq y v
  | _, _ => false
theorem Fm.beq_iff : ∀ f g : Fm, Fm.beq f g = true ↔ f = g
  | .b w, .b v => by simp [Fm.beq]
  | .b w, .n t x y => by simp [Fm.beq]
  | .n t x y, .b w => by simp [Fm.beq]
  | .n s x y, .n t u v => by
    have h1 := Fm.beq_iff x u
    have h2 := Fm.beq_iff y v
    simp [Fm.beq, h1, h2, and_assoc]
instance : DecidableEq Fm := fun f g => decidable_of_iff (Fm.beq f g = true) (Fm.beq_iff f g)
theorem shaped_iff {d : D} : SeqAt.shaped d = true ↔ d.canLay0 = true ∧ d.depth ≤ 64 := by
  show (d.canLay0 && decide (d.depth ≤ 64)) = true ↔ _
  simp
theorem eqv_tup (xs ys : List D) : PyData.eqv (.tuple xs) (.tuple ys) = PyData.eqvAll xs ys := by rw [PyData.eqv]
theorem eqvAll_cc (x y : D) (xs ys : List D) : PyData.eqvAll (x :: xs) (y :: ys) = (PyData.eqv x y && PyData.eqvAll xs ys) := by rw [PyData.eqvAll]
theorem eqvAll_nn : PyData.eqvAll [] [] = true := by rw [PyData.eqvAll]
theorem basic_sl (s : Bool) : decide ([98, 97, 115, 105, 99] = slash s) = false := by cases s <;> rfl
theorem sl_basic (s : Bool) : decide (slash s = [98, 97, 115, 105, 99]) = false := by cases s <;> rfl
theorem sl_sl (s t : Bool) : decide (slash s = slash t) = decide (s = t) := by cases s <;> cases t <;> rfl
theorem eqv_enc : ∀ f g : Fm, PyData.eqv (enc f) (enc g) = decide (f = g)
  | .b w, .b v => by simp only [enc, eqv_tup, eqvAll_cc, eqvAll_nn, eqv_str, S_beq, Bool.and_true, decide_true, Bool.true_and, Fm.b.injEq]
  | .b w, .n t x y => by simp only [enc, eqv_tup, eqvAll_cc, eqv_str, S_beq, basic_sl, Bool.false_and, reduceCtorEq, decide_false]
  | .n t x y, .b w => by simp only [enc, eqv_tup, eqvAll_cc, eqv_str, S_beq, sl_basic, Bool.false_and, reduceCtorEq, decide_false]
  | .n t x y, .n t' x' y' => by
    simp only [enc, eqv_tup, eqvAll_cc, eqvAll_nn, eqv_str, S_beq, sl_sl, eqv_enc x x', eqv_enc y y', Bool.and_true, Fm.n.injEq, Bool.decide_and]
theorem lay_enc : ∀ f : Fm, f.wf → (enc f).canLay0 = true
  | .b w, h => by
    have := isW.okC h
    simp [enc, PyData.canLay0, PyData.canLayAll0, strOk_S, this]
  | .n s x y, h => by
    have h1 := lay_enc x h.1
    have h2 := lay_enc y h.2
    have := okC_slash s
    simp [enc, PyData.canLay0, PyData.canLayAll0, strOk_S, this, h1, h2]
theorem depth_enc : ∀ f : Fm, (enc f).depth ≤ f.size
  | .b w => by simp [enc, PyData.depth, PyData.depthAll, Fm.size]
  | .n s x y => by
    have h1 := depth_enc x
    have h2 := depth_enc y
    have p1 := x.size_pos
    have p2 := y.size_pos
    simp only [enc, PyData.depth, PyData.depthAll, Fm.size]
    omega
theorem shaped_enc {f : Fm} (h : f.wf) (hs : f.size ≤ 64) : SeqAt.shaped (enc f) = true := shaped_iff.mpr ⟨lay_enc f h, by have := depth_enc f; omega⟩
theorem eqP_enc {n : Bool} {f g : Fm} (hf : f.wf) (hg : g.wf) (h1 : f.size ≤ 64) (h2 : g.size ≤ 64) : eqP n (enc f) (enc g) = .ok (.bool (ngB n (decide (f = g)))) := by
  unfold eqP
  rw [shaped_enc hf h1, shaped_enc hg h2, eqv_enc]
  cases n <;> rfl
/-! ### kinds of forms -/
def kdD : Fm → D
  | .b w => .str (S w)
  | .n _ x y => .tuple [kdD y, kdD x]
theorem P_lkind : ∀ (n : Nat) (f : Fm), f.size ≤ n → P__law_kind n (enc f) = .ok (kdD f)
  | 0, f, h => by have := f.size_pos; omega
  | n + 1, .b w, h => by
    show B__law_kind (P__law_kind n) (enc (.b w)) = _
    unfold B__law_kind
    simp only [ixF0, PR.bind_ok, lt0, lt1, lt2, lt5, lt6, lt7, lt8, lt9, lt10, lt11, lt12, lt13, lt14, lt15, lt16, lt17, lt18, lt19, lt20, lt21, eq_hd, ptb_bool, ngB_f, isB_b, if_true, ixFb, kdD]
  | n + 1, .n s x y, h => by
    have px := x.size_pos
    have py := y.size_pos
    have h : x.size + y.size ≤ n + 1 := h
    show B__law_kind (P__law_kind n) (enc (.n s x y)) = _
    unfold B__law_kind
    simp only [ixF0, PR.bind_ok, lt0, lt1, lt2, lt5, lt6, lt7, lt8, lt9, lt10, lt11, lt12, lt13, lt14, lt15, lt16, lt17, lt18, lt19, lt20, lt21, eq_hd, ptb_bool, ngB_f, isB_n, Bool.false_eq_true, if_false, ixF1, ixF2, P_lkind n x (by omega), P_lkind n y (by omega), kdD]
/-! ### forms of books -/
theorem eqP_ints0 (n : Bool) (xs : List Int) : eqP n (.list (xs.map .int)) (.list []) = .ok (.bool (ngB n (decide (xs = [])))) := by
  have := eqP_ints (n := n) xs []
  rwa [List.map_nil] at this
theorem pw12 : powP (.int 10) (.int 12) = .ok (.int 1000000000000) := by
  rw [powP_s (by decide) (by decide) (by decide)]
  rfl
theorem pw9 : powP (.int 10) (.int 9) = .ok (.int 1000000000) := by
  rw [powP_s (by decide) (by decide) (by decide)]
  rfl
theorem sts_get {ws : List (List Nat)} {i : Nat} (h : i < ws.length) : ixP (.list (sts ws)) (.int (i : Int)) = .ok (.str (S (ws[i]))) := by
  refine ixP_list ?_
  rw [atI_cast]
  unfold sts
  rw [List.getElem?_map, List.getElem?_eq_getElem h]
  rfl
theorem sts_at {ws : List (List Nat)} {i : Int} (h : 0 ≤ i) (h' : i < ws.length) : ∃ w ∈ ws, ixP (.list (sts ws)) (.int i) = .ok (.str (S w)) := by
  have hl : i.toNat < ws.length := by omega
  refine ⟨ws[i.toNat], List.getElem_mem hl, ?_⟩
  have := sts_get hl
  rwa [show ((i.toNat : Nat) : Int) = i by omega] at this
theorem slashL_at {i : Int} (h : i = 0 ∨ i = 1) : ∃ s : Bool, ixP (.list [.str (S [47]), .str (S [92])]) (.int i) = .ok (.str (S (slash s))) := by
  rcases h with rfl | rfl
  · exact ⟨false, ixP_list (by simp)⟩
  · exact ⟨true, ixP_list (by simp)⟩
/-- the basic ones of a form -/
def bsF : Fm → List (List Nat)
  | .b w => [w]
  | .n _ x y => bsF x ++ bsF y
theorem bsF_wf {ws : List (List Nat)} (hw : ∀ w ∈ ws, isW w) : ∀ {f : Fm}, (∀ w ∈ bsF f, w ∈ ws) → f.wf
  | .b w, h => hw w (h w List.mem_cons_self)
  | .n _ x y, h => ⟨bsF_wf hw fun w hx => h w (List.mem_append_left _ hx), bsF_wf hw fun w hx => h w (List.mem_append_right _ hx)⟩
/-! ### books: numbers and forms drawn -/
theorem P_take (cs : List Int) {k : Int} (hk : 0 < k) : ∃ (c : Int) (r : List Int), 0 ≤ c ∧ c < k ∧ P__law_take (cs.map .int) (.int k) = .ok (.int c, r.map .int) := by
  unfold P__law_take
  simp only [eqP_ints0, PR.bind_ok, ngB_f, ptb_bool]
  cases cs with
  | nil =>
    refine ⟨0, [], by omega, hk, ?_⟩
    simp
  | cons c r =>
    refine ⟨c % k, r, Int.emod_nonneg _ (by omega), Int.emod_lt_of_pos _ hk, ?_⟩
    simp only [reduceCtorEq, decide_false, Bool.false_eq_true, if_false, List.map_cons, popAtP_0, PR.bind_ok, modP_s hk]
theorem P_form {ws : List (List Nat)} (hl : 0 < ws.length) : ∀ (n most : Nat), 1 ≤ most → most ≤ n → ∀ (cs : List Int),
    ∃ (f : Fm) (cs' : List Int), (∀ w ∈ bsF f, w ∈ ws) ∧ f.size ≤ most ∧ P__law_form n (cs.map .int) (.list (sts ws)) (.int (most : Int)) = .ok (enc f, cs'.map .int)
  | 0, most, h, h', _ => by omega
  | n + 1, most, hm1, hmn, cs => by
    obtain ⟨c, r', c0, c1, hT⟩ := P_take cs (k := 1000000000000) (by decide)
    show ∃ (f : Fm) (cs' : List Int), (∀ w ∈ bsF f, w ∈ ws) ∧ f.size ≤ most ∧ B__law_form (P__law_form n) (cs.map .int) (.list (sts ws)) (.int (most : Int)) = .ok (enc f, cs'.map .int)
    unfold B__law_form
    simp only [pw12, hT, PR.bind_ok, ltP_int, eqP_int, ngB_f, ptb_bool, modP_s (show (0 : Int) < 3 by decide)]
    have yes : ∃ (f : Fm) (cs' : List Int), (∀ w ∈ bsF f, w ∈ ws) ∧ f.size ≤ most ∧ J2__law_form (P__law_form n) (r'.map .int) (.list (sts ws)) (.int (most : Int)) (.int c) true = .ok (enc f, cs'.map .int) := by
      obtain ⟨w, hwm, hat⟩ := sts_at (ws := ws) (i := c / 3 % (ws.length : Int)) (Int.emod_nonneg _ (by omega)) (Int.emod_lt_of_pos _ (by omega))
      refine ⟨.b w, r', fun v hv => by rw [List.mem_singleton.mp hv]; exact hwm, by show 1 ≤ most; exact hm1, ?_⟩
      simp only [J2__law_form, if_true, divP_s (show (0 : Int) < 3 by decide) (by decide), PR.bind_ok, lenP_list, sts_len, modP_s (show 0 < (ws.length : Int) by omega), hat, lt0, lt1, lt2, lt5, lt6, lt7, lt8, lt9, lt10, lt11, lt12, lt13, lt14, lt15, lt16, lt17, lt18, lt19, lt20, lt21, enc]
    by_cases h1 : most < 2
    · have h3 : (most : Int) < 2 := by omega
      simp only [h3, decide_true, if_true]
      exact yes
    · have h3 : ¬ ((most : Int) < 2) := by omega
      simp only [h3, decide_false, Bool.false_eq_true, if_false]
      by_cases h2 : c % 3 = 0
      · simp only [h2, decide_true]
        exact yes
      · obtain ⟨s, hs⟩ : ∃ s : Nat, 1 + c / 6 % ((most : Int) - 1) = (s : Int) := ⟨(1 + c / 6 % ((most : Int) - 1)).toNat, by
          have := Int.emod_nonneg (c / 6) (show (most : Int) - 1 ≠ 0 by omega)
          omega⟩
        have hsb : 1 ≤ s ∧ s ≤ most - 1 := by
          have h5 := Int.emod_nonneg (c / 6) (show (most : Int) - 1 ≠ 0 by omega)
          have h6 := Int.emod_lt_of_pos (c / 6) (show 0 < (most : Int) - 1 by omega)
          omega
        obtain ⟨f1, c1, on1, sz1, hF1⟩ := P_form hl n s hsb.1 (by omega) r'
        obtain ⟨f2, c2, on2, sz2, hF2⟩ := P_form hl n (most - s) (by omega) (by omega) c1
        have e4 : (most : Int) - (s : Int) = ((most - s : Nat) : Int) := by omega
        obtain ⟨t, ht⟩ := slashL_at (i := c / 3 % 2) (by omega)
        refine ⟨.n t f1 f2, c2, fun w hw => (List.mem_append.mp hw).elim (on1 w) (on2 w), by show f1.size + f2.size ≤ most; omega, ?_⟩
        simp only [h2, decide_false, J2__law_form, Bool.false_eq_true, if_false, J1__law_form, divP_s (show (0 : Int) < 6 by decide) (by decide), PR.bind_ok, subP_int, modP_s (show 0 < (most : Int) - 1 by omega), addSP_int, hs, hF1, divP_s (show (0 : Int) < 3 by decide) (by decide), modP_s (show (0 : Int) < 2 by decide), lt0, lt1, lt2, lt5, lt6, lt7, lt8, lt9, lt10, lt11, lt12, lt13, lt14, lt15, lt16, lt17, lt18, lt19, lt20, lt21, ht, e4, hF2, enc]
theorem P_spread (c : Int) (n : Nat) (hn : n ≤ 100) : ∃ xs : List Int, xs.length = n ∧ P__law_spread (.int c) (.int (n : Int)) = .ok (.list (xs.map .int)) := by
  unfold P__law_spread
  simp only [modP_s (show (0 : Int) < 2147483646 by decide), PR.bind_ok, addSP_int, divP_s (show (0 : Int) < 2 by decide) (by decide), rng1P_s (show -1000000 ≤ (n : Int) by omega) (show (n : Int) ≤ 1000000 by omega), Int.toNat_natCast]
  obtain ⟨s', ⟨a, b, xs, rfl, h1⟩, h3⟩ := foldK_inv (step := S1__law_spread (.int c)) (xs := (List.range n).map fun (k : Nat) => PyData.int (k : Int)) (i := 0) (s := (.int (c % 2147483646 + 1), .int (c / 2), [], ())) (k := fun s22 => .ok (.list s22.2.2.1))
    (fun i s => ∃ (a b : Int) (xs : List Int), s = (.int a, .int b, xs.map .int, ()) ∧ xs.length = i)
    (fun m x s hx => by
      rintro ⟨a, b, xs, rfl, hl⟩
      have hm : m < n := by
        have := (List.getElem?_eq_some_iff.mp hx).1
        simpa using this
      obtain ⟨z, hz⟩ : ∃ z : Int, ixP (.list [.int (b % 1000000000000), .int (a * 48271 % 2147483647 * 69621 % 2147483629)]) (.int (c % 2)) = .ok (.int z) := by
        rcases (show c % 2 = 0 ∨ c % 2 = 1 by omega) with e | e
        · exact ⟨b % 1000000000000, by rw [e]; exact ixP_l0 _⟩
        · exact ⟨a * 48271 % 2147483647 * 69621 % 2147483629, by rw [e]; exact ixP_l1 _ _⟩
      refine ⟨(.int (a * 48271 % 2147483647), .int (b / 1000000000000), (xs ++ [z]).map .int, ()), ⟨_, _, _, rfl, by rw [List.length_append, List.length_singleton, hl]⟩, fun kn kb => ?_⟩
      simp only [S1__law_spread, mulP_s (show (-18446744073709551616 : Int) < 48271 by decide) (by decide), PR.bind_ok, modP_s (show (0 : Int) < 2147483647 by decide), pw12, modP_s (show (0 : Int) < 1000000000000 by decide), divP_s (show (0 : Int) < 1000000000000 by decide) (by decide), mulP_s (show (-18446744073709551616 : Int) < 69621 by decide) (by decide), modP_s (show (0 : Int) < 2147483629 by decide), modP_s (show (0 : Int) < 2 by decide), hz, appendP_s _ (show (xs.map PyData.int).length < sizeLine by rw [sizeLine_eq, List.length_map]; omega), List.map_append, List.map_cons, List.map_nil])
    ⟨_, _, [], rfl, rfl⟩
  exact ⟨xs, by simpa using h1, h3⟩
/-! ### forms shown -/
def wrap (y : Fm) (t : List Nat) : List Nat := if y.isB then t else 40 :: (t ++ [41])
def textL : Fm → List Nat
  | .b w => w
  | .n s x y => textL x ++ slash s ++ wrap y (textL y)
theorem slash_len (s : Bool) : (slash s).length = 1 := by cases s <;> rfl
theorem wrap_len (y : Fm) (t : List Nat) : (wrap y t).length ≤ t.length + 2 := by
  unfold wrap
  split <;> simp
theorem text_len : ∀ {f : Fm}, f.wf → (textL f).length + 3 ≤ 11 * f.size
  | .b w, h => by
    have := isW.hi h
    show w.length + 3 ≤ 11 * 1
    omega
  | .n s x y, h => by
    have hx := text_len h.1
    have hy := text_len h.2
    have h3 := wrap_len y (textL y)
    have h4 := slash_len s
    show (textL x ++ slash s ++ wrap y (textL y)).length + 3 ≤ 11 * (x.size + y.size)
    rw [List.length_append, List.length_append]
    omega
theorem okC_app {a b : List Nat} (ha : okC a = true) (hb : okC b = true) : okC (a ++ b) = true := by
  unfold okC at *
  rw [List.all_append, ha, hb]
  rfl
theorem P_show : ∀ (n : Nat) (f : Fm), f.size ≤ n → f.size ≤ 1000 → f.wf → P_show_form n (enc f) = .ok (.str (S (textL f)))
  | 0, f, h, _, _ => by have := f.size_pos; omega
  | n + 1, .b w, h, _, hw => by
    show B_show_form (P_show_form n) (enc (.b w)) = _
    unfold B_show_form
    simp only [ixF0, PR.bind_ok, lt0, lt1, lt2, lt5, lt6, lt7, lt8, lt9, lt10, lt11, lt12, lt13, lt14, lt15, lt16, lt17, lt18, lt19, lt20, lt21, eq_hd, ptb_bool, ngB_f, isB_b, isB_n, if_true, ixFb, textL]
  | n + 1, .n s x y, h, hs, hw => by
    have px := x.size_pos
    have py := y.size_pos
    have h : x.size + y.size ≤ n + 1 := h
    have hs : x.size + y.size ≤ 1000 := hs
    have ix := P_show n x (by omega) (by omega) hw.1
    have iy := P_show n y (by omega) (by omega) hw.2
    have lx := text_len hw.1
    have ly := text_len hw.2
    have lw := wrap_len y (textL y)
    have ls := slash_len s
    have a1 : addP (.str (S (textL x))) (.str (S (slash s))) = .ok (.str (S (textL x ++ slash s))) := addP_str (by rw [sizeLine_eq]; omega)
    have a2 : addP (.str (S (textL x ++ slash s))) (.str (S (wrap y (textL y)))) = .ok (.str (S (textL x ++ slash s ++ wrap y (textL y)))) := addP_str (by rw [sizeLine_eq, List.length_append]; omega)
    have a3 : addSP (.str (S [40])) (.str (S (textL y))) = .ok (.str (S ([40] ++ textL y))) := addSP_str (by rw [sizeLine_eq, List.length_singleton]; omega)
    have a4 : addSP (.str (S ([40] ++ textL y))) (.str (S [41])) = .ok (.str (S ([40] ++ textL y ++ [41]))) := addSP_str (by rw [sizeLine_eq, List.length_append, List.length_singleton, List.length_singleton]; omega)
    show B_show_form (P_show_form n) (enc (.n s x y)) = _
    unfold B_show_form
    simp only [ixF0, PR.bind_ok, lt0, lt1, lt2, lt5, lt6, lt7, lt8, lt9, lt10, lt11, lt12, lt13, lt14, lt15, lt16, lt17, lt18, lt19, lt20, lt21, eq_hd, ptb_bool, ngB_f, isB_b, isB_n, Bool.false_eq_true, if_false, ixF2, iy, ngB_t]
    cases hy : y.isB with
    | true =>
      have e : wrap y (textL y) = textL y := by simp [wrap, hy]
      rw [e] at a2
      simp only [hy, Bool.not_true, Bool.false_eq_true, if_false, J1_show_form, ixF1, PR.bind_ok, ix, ixF0, hdF_n, a1, a2, textL, e]
    | false =>
      have e : wrap y (textL y) = [40] ++ textL y ++ [41] := by simp [wrap, hy]
      rw [e] at a2
      simp only [Bool.not_false, if_true, a3, a4, J1_show_form, ixF1, PR.bind_ok, ix, ixF0, hdF_n, a1, a2, textL, e]
end K25
set_option Elab.async false
set_option linter.all false
set_option maxRecDepth 100000
set_option maxHeartbeats 1000000
namespace K25
open PySem L2 M
variable [HasW]
namespace TM
/-! ### kinds and terms -/
inductive Ki where
  | b (w : List Nat)
  | p (x y : Ki)
deriving DecidableEq
def encK : Ki → D
  | .b w => .str (S w)
  | .p x y => .tuple [encK x, encK y]
def wd : Ki → Nat
  | .b _ => 1
  | .p x y => wd x + wd y
def dp : Ki → Nat
  | .b _ => 0
  | .p x y => max (dp x) (dp y) + 1
def Ki.wf : Ki → Prop
  | .b w => isW w
  | .p x y => x.wf ∧ y.wf
theorem wd_pos : ∀ k : Ki, 1 ≤ wd k
  | .b _ => Nat.le_refl _
  | .p x y => by have := wd_pos x; show 1 ≤ wd x + wd y; omega
theorem lay_K : ∀ k : Ki, k.wf → (encK k).canLay0 = true
  | .b w, h => by
    have := isW.okC h
    simp [encK, PyData.canLay0, strOk_S, this]
  | .p x y, h => by
    have h1 := lay_K x h.1
    have h2 := lay_K y h.2
    simp [encK, PyData.canLay0, PyData.canLayAll0, h1, h2]
theorem depth_K : ∀ k : Ki, (encK k).depth ≤ dp k
  | .b w => by simp [encK, PyData.depth]
  | .p x y => by
    have h1 := depth_K x
    have h2 := depth_K y
    simp only [encK, PyData.depth, PyData.depthAll, dp]
    omega
theorem shaped_K {k : Ki} (h : k.wf) (hd : dp k ≤ 60) : SeqAt.shaped (encK k) = true := by
  have := depth_K k
  show ((encK k).canLay0 && decide ((encK k).depth ≤ 64)) = true
  rw [lay_K k h, decide_eq_true (by omega)]
  rfl
theorem eqv_K : ∀ k l : Ki, PyData.eqv (encK k) (encK l) = decide (k = l)
  | .b w, .b v => by simp [encK]
  | .b w, .p x y => by simp [encK, PyData.eqv]
  | .p x y, .b v => by simp [encK, PyData.eqv]
  | .p x y, .p u v => by
    have h1 := eqv_K x u
    have h2 := eqv_K y v
    simp [encK, PyData.eqv, PyData.eqvAll, h1, h2, Bool.decide_and]
theorem eqP_K {n : Bool} {k l : Ki} (hk : k.wf) (hl : l.wf) (h1 : dp k ≤ 60) (h2 : dp l ≤ 60) : eqP n (encK k) (encK l) = .ok (.bool (ngB n (decide (k = l)))) := by
  unfold eqP
  rw [shaped_K hk h1, shaped_K hl h2, eqv_K]
  cases n <;> rfl
def kiF : Fm → Ki
  | .b w => .b w
  | .n _ x y => .p (kiF y) (kiF x)
inductive Tm where
  | nm (w : List Nat)
  | lf (n : Nat) (f : Fm)
  | bd (n : Nat)
  | fn (k : Ki) (t : Tm)
  | of (f a : Tm)
def sNm : List Nat := [110, 97, 109, 101]
def sLf : List Nat := [108, 101, 97, 102]
def sBd : List Nat := [98, 111, 117, 110, 100]
def sFn : List Nat := [102, 110]
def sOf : List Nat := [111, 102]
def encT : Tm → D
  | .nm w => .tuple [.str (S sNm), .str (S w)]
  | .lf n f => .tuple [.str (S sLf), .int (n : Int), enc f]
  | .bd n => .tuple [.str (S sBd), .int (n : Int)]
  | .fn k t => .tuple [.str (S sFn), encK k, encT t]
  | .of f a => .tuple [.str (S sOf), encT f, encT a]
def hdT : Tm → List Nat
  | .nm _ => sNm
  | .lf _ _ => sLf
  | .bd _ => sBd
  | .fn _ _ => sFn
  | .of _ _ => sOf
def Tm.dep : Tm → Nat
  | .fn _ t => t.dep + 1
  | .of f a => max f.dep a.dep + 1
  | _ => 0
def Tm.size : Tm → Nat
  | .fn _ t => t.size + 1
  | .of f a => f.size + a.size + 1
  | _ => 1
def Tm.wf : Tm → Prop
  | .nm w => isW w
  | .lf n f => n < 10 ∧ f.wf ∧ f.size ≤ 12
  | .bd _ => True
  | .fn k t => k.wf ∧ dp k ≤ 9 ∧ t.wf
  | .of f a => f.wf ∧ a.wf
@[simp] theorem ixT0 (t : Tm) : ixP (encT t) (.int 0) = .ok (.str (S (hdT t))) := by cases t <;> simp [encT, hdT]
@[simp] theorem ixTn (w : List Nat) : ixP (encT (.nm w)) (.int 1) = .ok (.str (S w)) := by simp [encT]
@[simp] theorem ixTb (n : Nat) : ixP (encT (.bd n)) (.int 1) = .ok (.int (n : Int)) := by simp [encT]
@[simp] theorem ixTf1 (k : Ki) (t : Tm) : ixP (encT (.fn k t)) (.int 1) = .ok (encK k) := by simp [encT]
@[simp] theorem ixTf2 (k : Ki) (t : Tm) : ixP (encT (.fn k t)) (.int 2) = .ok (encT t) := by simp [encT]
@[simp] theorem ixTo1 (f a : Tm) : ixP (encT (.of f a)) (.int 1) = .ok (encT f) := by simp [encT]
@[simp] theorem ixTo2 (f a : Tm) : ixP (encT (.of f a)) (.int 2) = .ok (encT a) := by simp [encT]
@[simp] theorem ixTl1 (n : Nat) (f : Fm) : ixP (encT (.lf n f)) (.int 1) = .ok (.int (n : Int)) := by simp [encT]
@[simp] theorem ixTl2 (n : Nat) (f : Fm) : ixP (encT (.lf n f)) (.int 2) = .ok (enc f) := by simp [encT]
@[simp] theorem hd_fn (k : Ki) (t : Tm) : hdT (.fn k t) = sFn := rfl
@[simp] theorem hd_of (f a : Tm) : hdT (.of f a) = sOf := rfl
@[simp] theorem hd_bd (n : Nat) : hdT (.bd n) = sBd := rfl
@[simp] theorem hd_nm (w : List Nat) : hdT (.nm w) = sNm := rfl
@[simp] theorem hd_lf (n : Nat) (f : Fm) : hdT (.lf n f) = sLf := rfl
/-- how many bound ones belong to the fn that is so many out -/
def occ : Nat → Tm → Nat
  | l, .bd n => if n = l then 1 else 0
  | l, .fn _ t => occ (l + 1) t
  | l, .of f a => occ l f + occ l a
  | _, _ => 0
/-- to each fn at most so many -/
def spr (u : Nat) : Tm → Prop
  | .fn _ t => occ 0 t ≤ u ∧ spr u t
  | .of f a => spr u f ∧ spr u a
  | _ => True
/-- the kind of a term among names and fns (the nearest first) -/
def kT (ns : List (List Nat × Ki)) : List Ki → Tm → Option Ki
  | _, .nm w => ns.lookup w
  | _, .lf _ f => some (kiF f)
  | ar, .bd n => ar[n]?
  | ar, .fn k t => (kT ns (k :: ar) t).map (.p k)
  | ar, .of f a => match kT ns ar f, kT ns ar a with
    | some (.p x y), some z => if x = z then some y else none
    | _, _ => none
/-- names that come behind change no kind -/
theorem lookup_pre {α β : Type} [BEq α] : ∀ {l l' : List (α × β)} {k : α} {v : β}, l <+: l' → l.lookup k = some v → l'.lookup k = some v
  | [], _, _, _, _, h => by cases h
  | (a, b) :: l, l', k, v, ⟨r, e⟩, h => by
    subst e
    rw [List.cons_append, List.lookup_cons] at *
    cases q : k == a with
    | true => rw [q] at h; exact h
    | false =>
      rw [q] at h
      exact lookup_pre ⟨r, rfl⟩ h
theorem kT_pre {ns ns' : List (List Nat × Ki)} (hp : ns <+: ns') : ∀ (t : Tm) (ar : List Ki) (k : Ki), kT ns ar t = some k → kT ns' ar t = some k
  | .nm _, _, _, h => lookup_pre hp h
  | .lf _ _, _, _, h => h
  | .bd n, ar, k, h => h
  | .fn j t, ar, k, h => by
    unfold kT at h ⊢
    cases e : kT ns (j :: ar) t with
    | none => rw [e] at h; cases h
    | some z => rw [e] at h; rw [kT_pre hp t (j :: ar) z e]; exact h
  | .of f a, ar, k, h => by
    unfold kT at h ⊢
    split at h
    · rename_i x y z e1 e2
      rw [kT_pre hp f ar _ e1, kT_pre hp a ar _ e2]
      exact h
    · cases h
/-- how deep it may grow, each fn's bound ones standing once at most -/
def isFnB : Tm → Bool
  | .fn _ _ => true
  | _ => false
def phi : Tm → Nat
  | .fn _ t => phi t + 1
  | .of f a => if isFnB f = true then max (phi f - 1 + phi a) (max (phi f + 1) (phi a + 1)) else phi f + phi a + 1
  | _ => 0
def ph : Nat → Nat
  | 0 => 0
  | d + 1 => max (2 * ph d + 1) (ph d + 2)
def phB (n : Nat) : Nat := if n % 2 = 0 then ph (n / 2) else ph (n / 2) + 1
/-- signs that open something, weighed -/
def wT : Tm → Nat
  | .fn _ t => 3 + wT t
  | .of f a => 2 + wT f + wT a
  | _ => 0
def wh : Nat → Nat
  | 0 => 0
  | d + 1 => 2 * wh d + 5
def wB (n : Nat) : Nat := if n % 2 = 0 then wh (n / 2) else wh (n / 2) + 3
theorem wB_e {n : Nat} (h : n % 2 = 0) : wB n = wh (n / 2) := if_pos h
theorem wB_o {n : Nat} (h : n % 2 = 0) : wB (n + 1) = wh (n / 2) + 3 := by
  unfold wB
  rw [if_neg (by omega), show (n + 1) / 2 = n / 2 by omega]
theorem wB_ee {n : Nat} (h : n % 2 = 0) : wB (n + 2) = 2 * wh (n / 2) + 5 := by
  unfold wB
  rw [if_pos (by omega), show (n + 2) / 2 = n / 2 + 1 by omega]
  rfl
theorem wB_succ (n : Nat) : wB n ≤ wB (n + 1) := by
  by_cases h : n % 2 = 0
  · rw [wB_e h, wB_o h]; omega
  · obtain ⟨m, rfl⟩ : ∃ m, n = m + 1 := ⟨n - 1, by omega⟩
    have hm : m % 2 = 0 := by omega
    rw [wB_o hm, show m + 1 + 1 = m + 2 from rfl, wB_ee hm]
    omega
theorem wB_mono {n m : Nat} (h : n ≤ m) : wB n ≤ wB m := by
  obtain ⟨k, rfl⟩ := Nat.exists_eq_add_of_le h
  have : ∀ k, wB n ≤ wB (n + k) := fun k => by
    induction k with
    | zero => exact Nat.le_refl _
    | succ k ih => exact Nat.le_trans ih (wB_succ (n + k))
  exact this k
def bnd (t : Tm) (n : Nat) : Prop := t.dep ≤ n ∧ phi t ≤ phB n ∧ (n % 2 = 1 → isFnB t = true) ∧ wT t ≤ wB n
theorem phB_e {n : Nat} (h : n % 2 = 0) : phB n = ph (n / 2) := if_pos h
theorem phB_o {n : Nat} (h : n % 2 = 0) : phB (n + 1) = ph (n / 2) + 1 := by
  unfold phB
  rw [if_neg (by omega), show (n + 1) / 2 = n / 2 by omega]
theorem phB_ee {n : Nat} (h : n % 2 = 0) : phB (n + 2) = max (2 * ph (n / 2) + 1) (ph (n / 2) + 2) := by
  unfold phB
  rw [if_pos (by omega), show (n + 2) / 2 = n / 2 + 1 by omega]
  rfl
theorem phB_succ (n : Nat) : phB n + 1 ≤ phB (n + 1) := by
  by_cases h : n % 2 = 0
  · rw [phB_e h, phB_o h]; omega
  · obtain ⟨m, rfl⟩ : ∃ m, n = m + 1 := ⟨n - 1, by omega⟩
    have hm : m % 2 = 0 := by omega
    rw [phB_o hm, show m + 1 + 1 = m + 2 from rfl, phB_ee hm]
    omega
theorem phB_mono {n m : Nat} (h : n ≤ m) : phB n ≤ phB m := by
  obtain ⟨k, rfl⟩ := Nat.exists_eq_add_of_le h
  have : ∀ k, phB n ≤ phB (n + k) := fun k => by
    induction k with
    | zero => exact Nat.le_refl _
    | succ k ih => exact Nat.le_trans ih (Nat.le_trans (Nat.le_succ _) (phB_succ (n + k)))
  exact this k
theorem bnd.up {t : Tm} {n m : Nat} (h : bnd t n) (hm : n ≤ m) (he : m % 2 = 0) : bnd t m := ⟨Nat.le_trans h.1 hm, Nat.le_trans h.2.1 (phB_mono hm), fun z => by omega, Nat.le_trans h.2.2.2 (wB_mono hm)⟩
/-! ### names in kinds, terms that may be written, names with kinds (as in kindr, tread, lterm0: for laws that lack the readers) -/
def bsK : Ki → List (List Nat)
  | .b w => [w]
  | .p x y => bsK x ++ bsK y
def rdT : Tm → Prop
  | .nm w => isW w
  | .lf _ _ => False
  | .bd n => n ≤ 99
  | .fn k t => k.wf ∧ wd k ≤ 12 ∧ rdT t
  | .of f a => rdT f ∧ rdT a
def nmK (p : List Nat × Ki) : D := .tuple [.str (S p.1), encK p.2]
theorem dp_lt : ∀ k : Ki, dp k < wd k
  | .b _ => Nat.one_pos
  | .p x y => by
    have h1 := dp_lt x
    have h2 := dp_lt y
    show max (dp x) (dp y) + 1 < wd x + wd y
    omega
theorem wk_succ {σ γ : Type} (step : σ → (σ → PR γ) → (σ → PR γ) → PR γ) (N : Nat) (s : σ) (k : σ → PR γ) : whileK step (N + 1) s k = step s (fun s' => whileK step N s' k) k := rfl
/-! ### kinds, where there may be none -/
theorem kiF_ok : ∀ f : Fm, f.wf → (kiF f).wf ∧ dp (kiF f) ≤ f.size
  | .b w, h => ⟨h, Nat.zero_le _⟩
  | .n s x y, h => by
    obtain ⟨h1, h2⟩ := kiF_ok x h.1
    obtain ⟨h3, h4⟩ := kiF_ok y h.2
    have := x.size_pos
    have := y.size_pos
    refine ⟨⟨h3, h1⟩, ?_⟩
    simp only [kiF, dp, Fm.size]
    omega
/-! ### meanings -/
theorem kd_ki : ∀ f : Fm, kdD f = encK (kiF f)
  | .b w => rfl
  | .n s x y => by simp only [kdD, kiF, encK, kd_ki x, kd_ki y]
/-- the names in the kinds of a term's fns -/
def bsT : Tm → List (List Nat)
  | .fn k t => bsK k ++ bsT t
  | .of f a => bsT f ++ bsT a
  | _ => []
/-- a meaning of a form's kind, by the names that are there -/
structure Mng (B : List (List Nat)) (ns : List (List Nat × Ki)) (k : Ki) (t : Tm) : Prop where
  kd : kT ns [] t = some k
  sp : spr 1 t
  dp : t.dep ≤ 12
  sz : t.size ≤ 30
  rd : rdT t
  wf : t.wf
  bs : ∀ w ∈ bsT t, w ∈ B
theorem Mng.mono {B : List (List Nat)} {ns ns' : List (List Nat × Ki)} {k : Ki} {t : Tm} (h : Mng B ns k t) (hm : kT ns' [] t = some k) : Mng B ns' k t := ⟨hm, h.sp, h.dp, h.sz, h.rd, h.wf, h.bs⟩
/-! ### fns around a term -/
def wrT (ks : List Ki) (t : Tm) : Tm := ks.foldr .fn t
theorem wrT_kT {ns : List (List Nat × Ki)} {t : Tm} {L : Ki} : ∀ (ks ar : List Ki), kT ns (ks.reverse ++ ar) t = some L → kT ns ar (wrT ks t) = some (ks.foldr Ki.p L)
  | [], ar, h => h
  | k :: ks, ar, h => by
    rw [List.reverse_cons, List.append_assoc] at h
    have ih := wrT_kT ks (k :: ar) h
    show (kT ns (k :: ar) (wrT ks t)).map (Ki.p k) = _
    rw [ih]
    rfl
theorem wrT_occ {t : Tm} : ∀ (ks : List Ki) (i : Nat), occ i (wrT ks t) = occ (i + ks.length) t
  | [], i => rfl
  | k :: ks, i => by
    show occ (i + 1) (wrT ks t) = _
    rw [wrT_occ ks (i + 1), List.length_cons]
    congr 1
    omega
theorem wrT_spr {t : Tm} (h1 : ∀ i, occ i t ≤ 1) (h2 : spr 1 t) : ∀ ks : List Ki, spr 1 (wrT ks t)
  | [] => h2
  | k :: ks => ⟨by
    show occ 0 (wrT ks t) ≤ 1
    rw [wrT_occ]; exact h1 _, wrT_spr h1 h2 ks⟩
theorem wrT_wf {t : Tm} (h : t.wf) : ∀ ks : List Ki, (∀ k ∈ ks, k.wf ∧ dp k ≤ 9) → (wrT ks t).wf
  | [], _ => h
  | k :: ks, hk => ⟨(hk k List.mem_cons_self).1, (hk k List.mem_cons_self).2, wrT_wf h ks fun z hz => hk z (List.mem_cons_of_mem _ hz)⟩
theorem wrT_num {t : Tm} : ∀ ks : List Ki, (wrT ks t).dep = t.dep + ks.length ∧ (wrT ks t).size = t.size + ks.length ∧ phi (wrT ks t) = phi t + ks.length
  | [] => ⟨rfl, rfl, rfl⟩
  | k :: ks => by
    obtain ⟨a, b, c⟩ := wrT_num (t := t) ks
    refine ⟨?_, ?_, ?_⟩
    · show (wrT ks t).dep + 1 = _; rw [a, List.length_cons]; omega
    · show (wrT ks t).size + 1 = _; rw [b, List.length_cons]; omega
    · show phi (wrT ks t) + 1 = _; rw [c, List.length_cons]; omega
end TM
end K25
set_option Elab.async false
set_option linter.all false
set_option maxRecDepth 100000
set_option maxHeartbeats 1000000
namespace K25
open PySem L2 M
variable [HasW]
namespace TM
/-! ### what kinds want -/
/-- what a kind wants, and what it is then -/
def arK : Ki → List Ki
  | .b _ => []
  | .p x y => x :: arK y
def reK : Ki → List Nat
  | .b w => w
  | .p _ y => reK y
theorem ar_re : ∀ k : Ki, (arK k).foldr Ki.p (.b (reK k)) = k
  | .b _ => rfl
  | .p x y => by show Ki.p x ((arK y).foldr Ki.p (.b (reK y))) = _; rw [ar_re y]
theorem arK_len : ∀ k : Ki, (arK k).length + 1 ≤ wd k
  | .b _ => Nat.le_refl _
  | .p x y => by
    have := arK_len y
    have := wd_pos x
    show (arK y).length + 1 + 1 ≤ wd x + wd y
    omega
theorem arK_ok : ∀ k : Ki, k.wf → isW (reK k) ∧ reK k ∈ bsK k ∧ ∀ x ∈ arK k, x.wf ∧ wd x + 1 ≤ wd k ∧ ∀ w ∈ bsK x, w ∈ bsK k
  | .b w, h => ⟨h, List.mem_cons_self, nofun⟩
  | .p x y, h => by
    obtain ⟨h1, h2, h3⟩ := arK_ok y h.2
    have p1 := wd_pos x
    have p2 := wd_pos y
    refine ⟨h1, List.mem_append_right _ h2, fun z hz => ?_⟩
    rcases List.mem_cons.mp hz with rfl | hz
    · exact ⟨h.1, by show wd z + 1 ≤ wd z + wd y; omega, fun w hw => List.mem_append_left _ hw⟩
    · obtain ⟨a, b, c⟩ := h3 z hz
      exact ⟨a, by show wd z + 1 ≤ wd x + wd y; omega, fun w hw => List.mem_append_right _ (c w hw)⟩
theorem wanted_go : ∀ (k : Ki) (N : Nat) (acc : List Ki) (K : D × List D × Unit → PR D), acc.length + wd k ≤ 1000 → wd k ≤ N → whileK S1__law_wanted N (encK k, acc.map encK, ()) K = K (.str (S (reK k)), (acc ++ arK k).map encK, ())
  | k, 0, _, _, _, h => by have := wd_pos k; omega
  | .b w, N + 1, acc, K, h1, h2 => by
    rw [wk_succ]
    unfold S1__law_wanted
    dsimp only
    rw [show encK (.b w) = .str (S w) from rfl, pisi_s, show ([Tk.str].any fun u => Tk.str.sub u) = true by decide, ptt_b, if_neg (by simp), show arK (.b w) = [] from rfl, List.append_nil]
    rfl
  | .p x y, N + 1, acc, K, h1, h2 => by
    have px := wd_pos x
    have py := wd_pos y
    have h1 : acc.length + (wd x + wd y) ≤ 1000 := h1
    have h2 : wd x + wd y ≤ N + 1 := h2
    rw [wk_succ]
    unfold S1__law_wanted
    dsimp only
    rw [show encK (.p x y) = .tuple [encK x, encK y] from rfl, pisi_t, show ([Tk.str].any fun u => Tk.tup.sub u) = false by decide, ptt_b, if_pos (by simp), ixP_t0, PR.bind_ok, appendP_s _ (by rw [sizeLine_eq, List.length_map]; omega), PR.bind_ok, ixP_t1, PR.bind_ok]
    have ih := wanted_go y N (acc ++ [x]) K (by rw [List.length_append, List.length_singleton]; omega) (by omega)
    rw [List.map_append, List.append_assoc] at ih
    exact ih
theorem P_wanted {k : Ki} (h : wd k ≤ 900) : P__law_wanted (encK k) = .ok (.tuple [.list ((arK k).map encK), .str (S (reK k))]) := by
  show PF__law_wanted fuelW (encK k) = _
  unfold PF__law_wanted
  have := wanted_go k fuelW [] (fun s9 => .ok (.tuple [(.list s9.2.1), s9.1])) (by simp; omega) (by rw [fuelW_eq]; omega)
  rw [List.map_nil] at this
  rw [this, List.nil_append]
theorem rev_at {ks : List Ki} {i : Nat} (h : i < ks.length) : ks.reverse[ks.length - 1 - i]? = some (ks[i]) := by
  rw [List.getElem?_reverse (by omega), show ks.length - 1 - (ks.length - 1 - i) = i by omega, List.getElem?_eq_getElem h]
theorem ks_at {ks : List Ki} {i : Nat} (h : i < ks.length) : ixP (.list (ks.map encK)) (.int (i : Int)) = .ok (encK (ks[i])) := by
  refine ixP_list ?_
  rw [atI_cast, List.getElem?_map, List.getElem?_eq_getElem h]
  rfl
theorem wrT_rd {t : Tm} (h : rdT t) : ∀ ks : List Ki, (∀ k ∈ ks, k.wf ∧ wd k ≤ 12) → rdT (wrT ks t)
  | [], _ => h
  | k :: ks, hk => ⟨(hk k List.mem_cons_self).1, (hk k List.mem_cons_self).2, wrT_rd h ks fun z hz => hk z (List.mem_cons_of_mem _ hz)⟩
theorem wrT_bs {B : List (List Nat)} {t : Tm} (h : ∀ w ∈ bsT t, w ∈ B) : ∀ ks : List Ki, (∀ k ∈ ks, ∀ w ∈ bsK k, w ∈ B) → ∀ w ∈ bsT (wrT ks t), w ∈ B
  | [], _ => h
  | k :: ks, hk => fun w hw => by
    rcases List.mem_append.mp hw with hw | hw
    · exact hk k List.mem_cons_self w hw
    · exact wrT_bs h ks (fun z hz => hk z (List.mem_cons_of_mem _ hz)) w hw
/-! ### meanings drawn, as the laws of books draw them -/
/-- what stands within -/
structure Bdy (B : List (List Nat)) (ks : List Ki) (r nm : List Nat) (t : Tm) (o : List Ki) : Prop where
  le : o.length ≤ 1
  kt : ∀ ns : List (List Nat × Ki), (∀ k ∈ o, ns.lookup nm = some k) → kT ns ks.reverse t = some (.b r)
  oc : ∀ i, occ i t ≤ 1
  sp : spr 1 t
  dp : t.dep ≤ 2
  sz : t.size ≤ 5
  rd : isW nm → rdT t
  wf : t.wf
  bs : bsT t = []
  ok : ∀ k ∈ o, k.wf ∧ wd k ≤ 11 ∧ ∀ w ∈ bsK k, w ∈ B
theorem P_body {B : List (List Nat)} {ks : List Ki} {r nm : List Nat} (hk : ∀ x ∈ ks, x.wf ∧ wd x ≤ 5 ∧ ∀ w ∈ bsK x, w ∈ B) (hr : isW r) (hB : r ∈ B) (hnm : isW nm) (hl : ks.length ≤ 90) (c : Int) :
    ∃ (t : Tm) (o : List Ki), Bdy B ks r nm t o ∧ P__law_body (.list (ks.map encK)) (.str (S r)) (.str (S nm)) (.int c) = .ok (.tuple [encT t, .list (o.map fun k => nmK (nm, k))]) := by
  have el : lenP [.list (ks.map encK)] = .ok (.int (ks.length : Int)) := by rw [lenP_list, List.length_map]
  have nmc : Bdy B ks r nm (.nm nm) [.b r] := ⟨by simp, fun ns h => h _ (by simp), fun i => by simp [occ], trivial, by simp [Tm.dep], by simp [Tm.size], fun h => h, hnm, rfl, fun k hk => by
    rw [List.mem_singleton.mp hk]
    exact ⟨hr, by simp [wd], fun w hw => by rw [List.mem_singleton.mp hw]; exact hB⟩⟩
  have nme : (.tuple [(.tuple [(.str (S [110, 97, 109, 101])), (.str (S nm))]), (.list [(.tuple [(.str (S nm)), (.str (S r))])])] : D) = .tuple [encT (.nm nm), .list (([.b r] : List Ki).map fun k => nmK (nm, k))] := rfl
  have sub1 : ∀ i : Nat, i < ks.length → ((ks.length : Int) - 1 - (i : Int)) = ((ks.length - 1 - i : Nat) : Int) := fun i h => by omega
  have kdp : ∀ i (h : i < ks.length), dp ks[i] ≤ 5 := fun i h => by
    have := dp_lt ks[i]
    have := (hk _ (List.getElem_mem h)).2.1
    omega
  have J1 : ∃ (t : Tm) (o : List Ki), Bdy B ks r nm t o ∧ J1__law_body (.list (ks.map encK)) (.str (S r)) (.str (S nm)) (.int c) (.int (ks.length : Int)) = .ok (.tuple [encT t, .list (o.map fun k => nmK (nm, k))]) := by
    have hmx : maxP2 [.int 1, .int (ks.length : Int)] = .ok (.int ((max 1 ks.length : Nat) : Int)) := by
      show PR.ok (PyData.int (maxI 1 (ks.length : Int))) = _
      unfold maxI
      congr 2
      split <;> omega
    have hmp : (0 : Int) < ((max 1 ks.length : Nat) : Int) := by omega
    obtain ⟨i, hi⟩ : ∃ i : Nat, c / 4 % ((max 1 ks.length : Nat) : Int) = (i : Int) := ⟨(c / 4 % ((max 1 ks.length : Nat) : Int)).toNat, by
      have := Int.emod_nonneg (c / 4) (show ((max 1 ks.length : Nat) : Int) ≠ 0 by omega)
      omega⟩
    have hib : i < max 1 ks.length := by
      have := Int.emod_lt_of_pos (c / 4) hmp
      omega
    have J3f : J3__law_body (.str (S r)) (.str (S nm)) (.int (ks.length : Int)) (.int (i : Int)) false = .ok (.tuple [encT (.nm nm), .list (([.b r] : List Ki).map fun k => nmK (nm, k))]) := by
      unfold J3__law_body
      rw [if_neg (by simp)]
      simp only [lt0, lt1, lt2, lt5, lt6, lt7, lt8, lt9, lt10, lt11, lt12, lt13, lt14, lt15, lt16, lt17, lt18, lt19, lt20, lt21]
      rfl
    have J2 : ∃ (t : Tm) (o : List Ki), Bdy B ks r nm t o ∧ J2__law_body (.list (ks.map encK)) (.str (S r)) (.str (S nm)) (.int c) (.int (ks.length : Int)) (.int (i : Int)) = .ok (.tuple [encT t, .list (o.map fun k => nmK (nm, k))]) := by
      unfold J2__law_body
      simp only [gtP_int, PR.bind_ok, ptb_bool]
      by_cases h0 : 0 < ks.length
      · have hil : i < ks.length := by omega
        have hki := hk _ (List.getElem_mem hil)
        have e := eqP_K (n := false) (k := ks[i]) (l := .b r) hki.1 hr (by have := kdp i hil; omega) (by simp [dp])
        rw [if_pos (by simpa using h0), ks_at hil, PR.bind_ok, show (PyData.str (S r)) = encK (.b r) from rfl, e, PR.bind_ok, ngB_f, ptb_bool]
        by_cases he : ks[i] = .b r
        · rw [if_pos (by simpa using he), modP_s (by decide), PR.bind_ok, eqP_int, PR.bind_ok, ngB_f, ptb_bool]
          by_cases h2 : c % 4 = 2
          · refine ⟨.bd (ks.length - 1 - i), [], ⟨by simp, fun ns _ => ?_, fun j => by simp only [occ]; split <;> omega, trivial, by simp [Tm.dep], by simp [Tm.size], fun _ => by show ks.length - 1 - i ≤ 99; omega, trivial, rfl, nofun⟩, ?_⟩
            · show ks.reverse[ks.length - 1 - i]? = _
              rw [rev_at hil, he]
            · unfold J3__law_body
              rw [if_pos (by simpa using h2), subP_int, PR.bind_ok, subP_int, PR.bind_ok, sub1 i hil]
              simp only [lt0, lt1, lt2, lt5, lt6, lt7, lt8, lt9, lt10, lt11, lt12, lt13, lt14, lt15, lt16, lt17, lt18, lt19, lt20, lt21]
              rfl
          · rw [decide_eq_false h2]
            exact ⟨_, _, nmc, J3f⟩
        · rw [if_neg (by simpa using he)]
          exact ⟨_, _, nmc, J3f⟩
      · rw [if_neg (by simpa using h0)]
        exact ⟨_, _, nmc, J3f⟩
    have J4f : ∃ (t : Tm) (o : List Ki), Bdy B ks r nm t o ∧ J4__law_body (.list (ks.map encK)) (.str (S r)) (.str (S nm)) (.int c) (.int (ks.length : Int)) (.int (i : Int)) false = .ok (.tuple [encT t, .list (o.map fun k => nmK (nm, k))]) := by
      unfold J4__law_body
      rw [if_neg (by simp)]
      exact J2
    unfold J1__law_body
    rw [divP_s (by decide) (by decide), PR.bind_ok, hmx, PR.bind_ok, modP_s hmp, PR.bind_ok, hi, gtP_int, PR.bind_ok, ptb_bool]
    by_cases h0 : 0 < ks.length
    · have hil : i < ks.length := by omega
      rw [if_pos (by simpa using h0), modP_s (by decide), PR.bind_ok, eqP_int, PR.bind_ok, ngB_f, ptb_bool]
      by_cases h1 : c % 4 = 1
      · have hki := hk _ (List.getElem_mem hil)
        refine ⟨.of (.nm nm) (.bd (ks.length - 1 - i)), [.p ks[i] (.b r)], ⟨by simp, fun ns h => ?_, fun j => by simp only [occ]; split <;> omega, ⟨trivial, trivial⟩, by simp [Tm.dep], by simp [Tm.size], fun h => ⟨h, by show ks.length - 1 - i ≤ 99; omega⟩, ⟨hnm, trivial⟩, rfl, fun k hk' => ?_⟩, ?_⟩
        · have a1 : kT ns ks.reverse (.nm nm) = some (.p ks[i] (.b r)) := h _ (by simp)
          have a2 : kT ns ks.reverse (.bd (ks.length - 1 - i)) = some ks[i] := rev_at hil
          simp only [kT] at a1 a2 ⊢
          rw [a1, a2]
          simp
        · rw [List.mem_singleton.mp hk']
          refine ⟨⟨hki.1, hr⟩, by show wd ks[i] + 1 ≤ 11; omega, fun w hw => ?_⟩
          rcases List.mem_append.mp hw with hw | hw
          · exact hki.2.2 w hw
          · rw [List.mem_singleton.mp hw]; exact hB
        · unfold J4__law_body
          rw [decide_eq_true h1, if_pos rfl, subP_int, PR.bind_ok, subP_int, PR.bind_ok, ks_at hil, PR.bind_ok, sub1 i hil]
          simp only [lt0, lt1, lt2, lt5, lt6, lt7, lt8, lt9, lt10, lt11, lt12, lt13, lt14, lt15, lt16, lt17, lt18, lt19, lt20, lt21]
          rfl
      · rw [decide_eq_false h1]
        exact J4f
    · rw [if_neg (by simpa using h0)]
      exact J4f
  have J5f : ∃ (t : Tm) (o : List Ki), Bdy B ks r nm t o ∧ J5__law_body (.list (ks.map encK)) (.str (S r)) (.str (S nm)) (.int c) (.int (ks.length : Int)) false = .ok (.tuple [encT t, .list (o.map fun k => nmK (nm, k))]) := by
    unfold J5__law_body
    rw [if_neg (by simp)]
    exact J1
  unfold P__law_body
  rw [el, PR.bind_ok, gtP_int, PR.bind_ok, ptb_bool]
  by_cases h1 : 1 < ks.length
  · rw [if_pos (decide_eq_true (by omega)), modP_s (by decide), PR.bind_ok, eqP_int, PR.bind_ok, ngB_f, ptb_bool]
    by_cases h0 : c % 4 = 0
    · obtain ⟨i, hi⟩ : ∃ i : Nat, c / 4 % (ks.length : Int) = (i : Int) := ⟨(c / 4 % (ks.length : Int)).toNat, by
        have := Int.emod_nonneg (c / 4) (show (ks.length : Int) ≠ 0 by omega)
        omega⟩
      have hil : i < ks.length := by
        have := Int.emod_lt_of_pos (c / 4) (show (0 : Int) < (ks.length : Int) by omega)
        omega
      obtain ⟨e, he⟩ : ∃ e : Nat, c / 32 % ((ks.length : Int) - 1) = (e : Int) := ⟨(c / 32 % ((ks.length : Int) - 1)).toNat, by
        have := Int.emod_nonneg (c / 32) (show (ks.length : Int) - 1 ≠ 0 by omega)
        omega⟩
      have hel : e + 1 < ks.length := by
        have := Int.emod_lt_of_pos (c / 32) (show (0 : Int) < (ks.length : Int) - 1 by omega)
        omega
      obtain ⟨j, hj, hjl, hij⟩ : ∃ j : Nat, ((i : Int) + 1 + (e : Int)) % (ks.length : Int) = (j : Int) ∧ j < ks.length ∧ i ≠ j := by
        refine ⟨(i + 1 + e) % ks.length, rfl, Nat.mod_lt _ (by omega), ?_⟩
        by_cases q : i + 1 + e < ks.length
        · rw [Nat.mod_eq_of_lt q]; omega
        · rw [Nat.mod_eq_sub_mod (by omega), Nat.mod_eq_of_lt (by omega)]; omega
      have hki := hk _ (List.getElem_mem hil)
      have hkj := hk _ (List.getElem_mem hjl)
      refine ⟨.of (.of (.nm nm) (.bd (ks.length - 1 - i))) (.bd (ks.length - 1 - j)), [.p ks[i] (.p ks[j] (.b r))], ⟨by simp, fun ns h => ?_, fun m => ?_, ⟨⟨trivial, trivial⟩, trivial⟩, by simp [Tm.dep], by simp [Tm.size], fun h => ⟨⟨h, by show ks.length - 1 - i ≤ 99; omega⟩, by show ks.length - 1 - j ≤ 99; omega⟩, ⟨⟨hnm, trivial⟩, trivial⟩, rfl, fun k hk' => ?_⟩, ?_⟩
      · have a1 : kT ns ks.reverse (.nm nm) = some (.p ks[i] (.p ks[j] (.b r))) := h _ (by simp)
        have a2 : kT ns ks.reverse (.bd (ks.length - 1 - i)) = some ks[i] := rev_at hil
        have a3 : kT ns ks.reverse (.bd (ks.length - 1 - j)) = some ks[j] := rev_at hjl
        simp only [kT] at a1 a2 a3 ⊢
        rw [a1, a2]
        simp [a3]
      · simp only [occ]
        split <;> split <;> omega
      · rw [List.mem_singleton.mp hk']
        refine ⟨⟨hki.1, hkj.1, hr⟩, by show wd ks[i] + (wd ks[j] + 1) ≤ 11; omega, fun w hw => ?_⟩
        rcases List.mem_append.mp hw with hw | hw
        · exact hki.2.2 w hw
        · rcases List.mem_append.mp hw with hw | hw
          · exact hkj.2.2 w hw
          · rw [List.mem_singleton.mp hw]; exact hB
      · unfold J5__law_body P__law_of_two
        rw [decide_eq_true h0, if_pos rfl, divP_s (by decide) (by decide), PR.bind_ok, modP_s (by omega), PR.bind_ok, hi, addSP_int, PR.bind_ok, divP_s (by decide) (by decide), PR.bind_ok, subP_int, PR.bind_ok, modP_s (by omega), PR.bind_ok, he, addSP_int, PR.bind_ok, modP_s (by omega), PR.bind_ok, hj, el, PR.bind_ok, ks_at hil, PR.bind_ok, ks_at hjl, PR.bind_ok, subP_int, PR.bind_ok, subP_int, PR.bind_ok, PR.bind_ok, subP_int, PR.bind_ok, sub1 i hil, sub1 j hjl, PR.bind_ok]
        simp only [lt0, lt1, lt2, lt5, lt6, lt7, lt8, lt9, lt10, lt11, lt12, lt13, lt14, lt15, lt16, lt17, lt18, lt19, lt20, lt21]
        rfl
    · rw [decide_eq_false h0]
      exact J5f
  · rw [if_neg (by simp; omega)]
    exact J5f
/-- fns of one bound one ahead -/
def wrp (r : List Nat) : Nat → Tm → Tm
  | 0, t => t
  | n + 1, t => .of (.fn (.b r) (.bd 0)) (wrp r n t)
theorem wrp_occ (r : List Nat) (t : Tm) (i : Nat) : ∀ n, occ i (wrp r n t) = occ i t
  | 0 => rfl
  | n + 1 => by
    show occ (i + 1) (.bd 0) + occ i (wrp r n t) = _
    rw [wrp_occ r t i n]
    simp [occ]
theorem wrp_spr {r : List Nat} {t : Tm} (h : spr 1 t) : ∀ n, spr 1 (wrp r n t)
  | 0 => h
  | n + 1 => ⟨⟨by simp [occ], trivial⟩, wrp_spr h n⟩
theorem wrp_kT {ns : List (List Nat × Ki)} {ar : List Ki} {r : List Nat} {t : Tm} (h : kT ns ar t = some (.b r)) : ∀ n, kT ns ar (wrp r n t) = some (.b r)
  | 0 => h
  | n + 1 => by
    have ih := wrp_kT h n
    show (match kT ns ar (.fn (.b r) (.bd 0)), kT ns ar (wrp r n t) with
      | some (.p x y), some z => if x = z then some y else none
      | _, _ => none) = _
    rw [ih, show kT ns ar (.fn (.b r) (.bd 0)) = some (.p (.b r) (.b r)) from rfl]
    simp
theorem wrp_num (r : List Nat) (t : Tm) : ∀ n, (wrp r n t).dep ≤ t.dep + n + 1 ∧ (wrp r n t).size = t.size + 3 * n
  | 0 => ⟨by show t.dep ≤ _; omega, rfl⟩
  | n + 1 => by
    obtain ⟨a, b⟩ := wrp_num r t n
    refine ⟨?_, ?_⟩
    · show max 1 (wrp r n t).dep + 1 ≤ _; omega
    · show 2 + (wrp r n t).size + 1 = _; omega
theorem wrp_rd {r : List Nat} (hr : isW r) {t : Tm} (h : rdT t) : ∀ n, rdT (wrp r n t)
  | 0 => h
  | n + 1 => ⟨⟨hr, by simp [wd], by simp [rdT]⟩, wrp_rd hr h n⟩
theorem wrp_wf {r : List Nat} (hr : isW r) {t : Tm} (h : t.wf) : ∀ n, (wrp r n t).wf
  | 0 => h
  | n + 1 => ⟨⟨hr, by simp [dp], trivial⟩, wrp_wf hr h n⟩
theorem wrp_bs {r : List Nat} {B : List (List Nat)} (hB : r ∈ B) {t : Tm} (h : ∀ w ∈ bsT t, w ∈ B) : ∀ n, ∀ w ∈ bsT (wrp r n t), w ∈ B
  | 0 => h
  | n + 1 => fun w hw => by
    rcases List.mem_append.mp hw with hw | hw
    · have hw : w ∈ [r] := by simpa [bsT, bsK] using hw
      rw [List.mem_singleton.mp hw]; exact hB
    · exact wrp_bs hB h n w hw
theorem wrp_out (r : List Nat) (t : Tm) : ∀ n, wrp r n (.of (.fn (.b r) (.bd 0)) t) = wrp r (n + 1) t
  | 0 => rfl
  | n + 1 => by show Tm.of _ (wrp r n _) = Tm.of _ (wrp r (n + 1) t); rw [wrp_out r t n]
theorem S1_mean_go {r : List Nat} : ∀ (xs : List D) (t : Tm) (K : D × Unit → PR D), foldK (S1__law_meaning (.str (S r))) xs (encT t, ()) K = K (encT (wrp r xs.length t), ())
  | [], t, K => rfl
  | x :: xs, t, K => by
    have st : ∀ kn kb, S1__law_meaning (.str (S r)) x (encT t, ()) kn kb = kn (encT (.of (.fn (.b r) (.bd 0)) t), ()) := fun kn kb => by
      unfold S1__law_meaning
      simp only [lt0, lt1, lt2, lt5, lt6, lt7, lt8, lt9, lt10, lt11, lt12, lt13, lt14, lt15, lt16, lt17, lt18, lt19, lt20, lt21]
      rfl
    rw [foldK_cons, st, S1_mean_go xs, wrp_out]
    rfl
theorem S2_mean_go : ∀ (l : List Ki) (t : Tm) (K : D × Unit → PR D), foldK S2__law_meaning (l.map encK) (encT t, ()) K = K (encT (l.foldl (fun b k => .fn k b) t), ())
  | [], t, K => rfl
  | k :: l, t, K => by
    have st : ∀ kn kb, S2__law_meaning (encK k) (encT t, ()) kn kb = kn (encT (.fn k t), ()) := fun kn kb => by
      unfold S2__law_meaning
      simp only [lt0, lt1, lt2, lt5, lt6, lt7, lt8, lt9, lt10, lt11, lt12, lt13, lt14, lt15, lt16, lt17, lt18, lt19, lt20, lt21]
      rfl
    rw [List.map_cons, foldK_cons, st, S2_mean_go l]
    rfl
theorem P_meaning {B : List (List Nat)} {f : Fm} {nm : List Nat} (hB : ∀ w ∈ bsF f, w ∈ B) (hw : f.wf) (hs : f.size ≤ 6) (hnm : isW nm) (c : Int) :
    ∃ (t : Tm) (o : List Ki), o.length ≤ 1 ∧ (∀ k ∈ o, k.wf ∧ wd k ≤ 11 ∧ ∀ w ∈ bsK k, w ∈ B) ∧ (∀ ns : List (List Nat × Ki), (∀ k ∈ o, ns.lookup nm = some k) → Mng B ns (kiF f) t) ∧
      P__law_meaning (enc f) (.str (S nm)) (.int c) = .ok (.tuple [encT t, .list (o.map fun k => nmK (nm, k))]) := by
  have hbk : ∀ g : Fm, bsK (kiF g) ⊆ bsF g := fun g => by
    induction g with
    | b w => exact fun _ h => h
    | n s x y ihx ihy =>
      intro w h
      rcases List.mem_append.mp h with h | h
      · exact List.mem_append_right _ (ihy h)
      · exact List.mem_append_left _ (ihx h)
  have hwd : ∀ g : Fm, wd (kiF g) = g.size := fun g => by
    induction g with
    | b w => rfl
    | n s x y ihx ihy => show wd (kiF y) + wd (kiF x) = x.size + y.size; omega
  have hkw := (kiF_ok f hw).1
  have hwf := hwd f
  obtain ⟨r1, r2, r3⟩ := arK_ok (kiF f) hkw
  have hal := arK_len (kiF f)
  have hks : ∀ x ∈ arK (kiF f), x.wf ∧ wd x ≤ 5 ∧ ∀ w ∈ bsK x, w ∈ B := fun x hx => by
    obtain ⟨a, b, c⟩ := r3 x hx
    exact ⟨a, by omega, fun w hw => hB w (hbk f (c w hw))⟩
  have hrB : reK (kiF f) ∈ B := hB _ (hbk f r2)
  obtain ⟨t, o, hb, e⟩ := P_body (nm := nm) hks r1 hrB hnm (by omega) c
  obtain ⟨m, hm⟩ : ∃ m : Nat, c / 256 % 3 = (m : Int) := ⟨(c / 256 % 3).toNat, by omega⟩
  have hm3 : m ≤ 2 := by omega
  obtain ⟨n1, n2⟩ := wrp_num (reK (kiF f)) t m
  obtain ⟨q1, q2, _⟩ := wrT_num (t := wrp (reK (kiF f)) m t) (arK (kiF f))
  have hd := hb.dp
  have hz := hb.sz
  refine ⟨wrT (arK (kiF f)) (wrp (reK (kiF f)) m t), o, hb.le, hb.ok, fun ns hns => ⟨?_, ?_, by omega, by omega, ?_, ?_, ?_⟩, ?_⟩
  · have := wrT_kT (ns := ns) (arK (kiF f)) [] (t := wrp (reK (kiF f)) m t) (L := .b (reK (kiF f))) (by rw [List.append_nil]; exact wrp_kT (hb.kt ns hns) m)
    rw [this, ar_re]
  · exact wrT_spr (fun i => by rw [wrp_occ]; exact hb.oc i) (wrp_spr hb.sp m) _
  · exact wrT_rd (wrp_rd r1 (hb.rd hnm) m) _ fun k hk => ⟨(hks k hk).1, by have := (hks k hk).2.1; omega⟩
  · exact wrT_wf (wrp_wf r1 hb.wf m) _ fun k hk => ⟨(hks k hk).1, by have := (hks k hk).2.1; have := dp_lt k; omega⟩
  · exact wrT_bs (wrp_bs hrB (by rw [hb.bs]; exact nofun) m) _ fun k hk => (hks k hk).2.2
  · unfold P__law_meaning
    rw [P_lkind fuelR f (by rw [fuelR_eq]; omega), PR.bind_ok, kd_ki, P_wanted (by omega), PR.bind_ok, ptup_tuple, pcons_cons, pcons_cons, pnil_nil, e, PR.bind_ok, ptup_tuple, pcons_cons, pcons_cons, pnil_nil, divP_s (by decide) (by decide), PR.bind_ok, modP_s (by decide), PR.bind_ok, hm, rng1P_s (by omega) (by omega), PR.bind_ok, S1_mean_go, show revP [.list ((arK (kiF f)).map encK)] = .ok (.list ((arK (kiF f)).map encK).reverse) from rfl, PR.bind_ok, itemsP_list, PR.bind_ok, ← List.map_reverse, S2_mean_go, List.foldl_reverse, List.length_map, List.length_range, Int.toNat_natCast]
    rfl
end TM
end K25
set_option Elab.async false
set_option linter.all false
set_option maxRecDepth 100000
set_option maxHeartbeats 1000000
namespace K25
open PySem L2 M
variable [HasW]
/-! ### books -/
theorem tupleP_l (ds : List D) (h : ds.length ≤ sizeLine) : tupleP [.list ds] = .ok (.tuple ds) := by
  unfold tupleP
  simp [h]
abbrev Tp := (List Nat × Fm) × TM.Tm
def trD (q : Tp) : D := .tuple [.str (S q.1.1), enc q.1.2, TM.encT q.2]
def bkD (bs : List (List Nat)) (ns : List (List Nat × TM.Ki)) (Q : List Tp) : D := .tuple [.tuple (sts bs), .tuple (ns.map TM.nmK), .tuple (Q.map trD)]
theorem lay_encs : ∀ {l : List Fm}, (∀ f ∈ l, f.wf ∧ f.size ≤ 12) → PyData.canLayAll0 (l.map enc) = true ∧ PyData.depthAll (l.map enc) ≤ 12
  | [], _ => ⟨by simp [PyData.canLayAll0], by simp [PyData.depthAll]⟩
  | f :: l, h => by
    obtain ⟨a, b⟩ := lay_encs (l := l) fun z hz => h z (List.mem_cons_of_mem _ hz)
    have hf := h f List.mem_cons_self
    have c := lay_enc f hf.1
    have d := depth_enc f
    exact ⟨by simp [PyData.canLayAll0, a, c], by simp only [List.map_cons, PyData.depthAll]; omega⟩
theorem inP_encs {n : Bool} {f : Fm} {l : List Fm} (hf : f.wf ∧ f.size ≤ 12) (h : ∀ g ∈ l, g.wf ∧ g.size ≤ 12) : inP n (enc f) (.list (l.map enc)) = .ok (.bool (ngB n (decide (f ∈ l)))) := by
  obtain ⟨a, b⟩ := lay_encs h
  have c := lay_enc f hf.1
  have d := depth_enc f
  have hs := hf.2
  rw [inP_list (by rw [shaped_iff.mpr ⟨c, by omega⟩, shaped_iff.mpr ⟨by simpa [PyData.canLay0] using a, by simp only [PyData.depth]; omega⟩]; rfl)]
  congr 3
  rw [List.any_map]
  clear a b
  induction l with
  | nil => simp
  | cons g l ih =>
    rw [List.any_cons, ih (fun z hz => h z (List.mem_cons_of_mem _ hz))]
    simp only [Function.comp, eqv_enc, List.mem_cons, Bool.decide_or]
    congr 1
    simp [eq_comm]
theorem fm_if {α β : Type} (p : α → Bool) (g : α → β) : ∀ l : List α, l.filterMap (fun z => if p z = true then some (g z) else none) = (l.filter p).map g
  | [] => rfl
  | a :: l => by
    have ih := fm_if p g l
    by_cases h : p a = true
    · simp [List.filterMap_cons, List.filter_cons, h, ih]
    · simp [List.filterMap_cons, List.filter_cons, h, ih]
theorem nd_at {α : Type} {l : List α} (h : l.Nodup) {i j : Nat} {x : α} (hi : l[i]? = some x) (hj : l[j]? = some x) : i = j := by
  exact (List.getElem?_inj (List.getElem?_eq_some_iff.mp hi).1 h).mp (hi.trans hj.symm)
theorem look_mem {ns : List (List Nat × TM.Ki)} : ∀ {x : List Nat × TM.Ki}, (ns.map (·.1)).Nodup → x ∈ ns → ns.lookup x.1 = some x.2 := by
  induction ns with
  | nil => intro x _ h; cases h
  | cons y ns ih =>
    intro x hn h
    rw [List.map_cons, List.nodup_cons] at hn
    obtain ⟨v, l⟩ := y
    rw [List.lookup_cons]
    rcases List.mem_cons.mp h with rfl | h
    · simp
    · have : ¬ x.1 = v := fun z => hn.1 (by
        have := List.mem_map_of_mem (f := fun p : List Nat × TM.Ki => p.1) h
        rw [z] at this
        exact this)
      rw [beq_eq_false_iff_ne.mpr this]
      exact ih hn.2 h
theorem enum_at {cs : List Int} {m : Nat} {x : D} (h : (enumD (cs.map PyData.int))[m]? = some x) : ∃ c : Int, m < cs.length ∧ x = .tuple [.int (m : Int), .int c] := by
  unfold enumD at h
  rw [List.getElem?_map, List.getElem?_zipIdx, List.getElem?_map] at h
  cases e : cs[m]? with
  | none => rw [e] at h; cases h
  | some c =>
    rw [e] at h
    have h : PyData.tuple [.int ((0 + m : Nat) : Int), .int c] = x := by simpa using h
    exact ⟨c, (List.getElem?_eq_some_iff.mp e).1, by rw [← h, Nat.zero_add]⟩
theorem nd_set {α : Type} {l : List α} {a : α} (h : l.Nodup) (ha : a ∉ l) : ∀ i, (l.set i a).Nodup := by
  induction l with
  | nil => intro i; simp
  | cons x l ih =>
    intro i
    rw [List.nodup_cons] at h
    have ha1 : ¬ a = x := fun z => ha (by rw [z]; exact List.mem_cons_self)
    have ha2 : a ∉ l := fun z => ha (List.mem_cons_of_mem _ z)
    cases i with
    | zero => rw [List.set_cons_zero, List.nodup_cons]; exact ⟨ha2, h.2⟩
    | succ i =>
      rw [List.set_cons_succ, List.nodup_cons]
      refine ⟨fun z => ?_, ih h.2 ha2 i⟩
      rcases List.mem_or_eq_of_mem_set z with z | z
      · exact h.1 z
      · exact ha1 z.symm
theorem isW_any : isW anyL := ⟨by decide, by decide, by decide⟩
theorem set_sts (ws : List (List Nat)) (k : Nat) (w : List Nat) : (sts ws).set k (.str (S w)) = sts (ws.set k w) := by
  unfold sts
  rw [List.map_set]
/-! ### books drawn -/
structure BkI (bs pool : List (List Nat)) (i : Nat) (ns : List (List Nat × TM.Ki)) (Q : List Tp) : Prop where
  nl : ns.length ≤ i
  ql : Q.length ≤ i
  np : ∀ x ∈ ns, ∃ j, j < i ∧ pool[25 - j]? = some x.1
  nw : ∀ x ∈ ns, x.2.wf ∧ TM.wd x.2 ≤ 11 ∧ ∀ w ∈ TM.bsK x.2, w ∈ bs
  nd : (ns.map (·.1)).Nodup
  qw : ∀ z ∈ Q, isW z.1.1 ∧ (∀ w ∈ bsF z.1.2, w ∈ bs) ∧ z.1.2.size ≤ 6 ∧ TM.Mng bs ns (TM.kiF z.1.2) z.2
  qd : (Q.map (·.1)).Nodup
  q8 : ∀ w, (Q.filter fun z => z.1.1 = w).length ≤ 8
theorem BkI.up {bs pool : List (List Nat)} {i : Nat} {ns : List (List Nat × TM.Ki)} {Q : List Tp} (h : BkI bs pool i ns Q) : BkI bs pool (i + 1) ns Q :=
  ⟨Nat.le_succ_of_le h.nl, Nat.le_succ_of_le h.ql, fun x hx => (h.np x hx).imp fun j hj => ⟨Nat.lt_succ_of_lt hj.1, hj.2⟩, h.nw, h.nd, h.qw, h.qd, h.q8⟩
theorem BkI.add {bs pool : List (List Nat)} {i : Nat} {ns : List (List Nat × TM.Ki)} {Q : List Tp} (h : BkI bs pool i ns Q) (hi : i < 26) (hpn : pool.Nodup) {w nm : List Nat} {f : Fm} {t : TM.Tm} {o : List TM.Ki} (hnm : pool[25 - i]? = some nm) (hl : pool.length = 26)
    (hw : isW w) (hf : ∀ v ∈ bsF f, v ∈ bs) (hs : f.size ≤ 6) (ho : o.length ≤ 1) (hok : ∀ k ∈ o, k.wf ∧ TM.wd k ≤ 11 ∧ ∀ w ∈ TM.bsK k, w ∈ bs) (hM : ∀ ns : List (List Nat × TM.Ki), (∀ k ∈ o, ns.lookup nm = some k) → TM.Mng bs ns (TM.kiF f) t)
    (h7 : (Q.filter fun z => z.1.1 = w).length ≤ 7) (hno : f ∉ (Q.filter fun z => z.1.1 = w).map fun z => z.1.2) : BkI bs pool (i + 1) (ns ++ o.map fun k => (nm, k)) (Q ++ [((w, f), t)]) := by
  have hnd : ((ns ++ o.map fun k => (nm, k)).map (·.1)).Nodup := by
    rw [List.map_append, List.nodup_append]
    refine ⟨h.nd, ?_, fun a ha b hb => ?_⟩
    · match o, ho with
      | [], _ => simp
      | [k], _ => simp
    · obtain ⟨x, hx, rfl⟩ := List.mem_map.mp ha
      obtain ⟨j, j1, j2⟩ := h.np x hx
      have hb : b = nm := by
        rw [List.map_map] at hb
        obtain ⟨k, _, rfl⟩ := List.mem_map.mp hb
        rfl
      intro z
      rw [z, hb] at j2
      have := nd_at hpn j2 hnm
      omega
  have pre : ns <+: ns ++ o.map fun k => (nm, k) := List.prefix_append _ _
  refine ⟨?_, ?_, fun x hx => ?_, fun x hx => ?_, hnd, fun z hz => ?_, ?_, fun v => ?_⟩
  · rw [List.length_append, List.length_map]; have := h.nl; omega
  · rw [List.length_append, List.length_singleton]; have := h.ql; omega
  · rcases List.mem_append.mp hx with hx | hx
    · exact (h.np x hx).imp fun j hj => ⟨Nat.lt_succ_of_lt hj.1, hj.2⟩
    · obtain ⟨k, _, rfl⟩ := List.mem_map.mp hx
      exact ⟨i, Nat.lt_succ_self i, hnm⟩
  · rcases List.mem_append.mp hx with hx | hx
    · exact h.nw x hx
    · obtain ⟨k, hk, rfl⟩ := List.mem_map.mp hx
      exact hok k hk
  · rcases List.mem_append.mp hz with hz | hz
    · obtain ⟨a, b, c, d⟩ := h.qw z hz
      exact ⟨a, b, c, d.mono (TM.kT_pre pre _ _ _ d.kd)⟩
    · rw [List.mem_singleton.mp hz]
      exact ⟨hw, hf, hs, hM _ fun k hk => look_mem (x := (nm, k)) hnd (List.mem_append_right _ (List.mem_map_of_mem (f := fun k => (nm, k)) hk))⟩
  · rw [List.map_append, List.nodup_append]
    refine ⟨h.qd, by simp, fun a ha b hb e => hno ?_⟩
    have hb : b = (w, f) := by simpa using hb
    obtain ⟨z, hz, rfl⟩ := List.mem_map.mp ha
    rw [hb] at e
    exact List.mem_map.mpr ⟨z, List.mem_filter.mpr ⟨hz, by simp [e]⟩, by rw [e]⟩
  · rw [List.filter_append, List.length_append]
    by_cases hv : w = v
    · subst hv
      have : ([((w, f), t)].filter fun z : Tp => z.1.1 = w).length ≤ 1 := List.length_filter_le _ _
      omega
    · have : ([((w, f), t)].filter fun z : Tp => z.1.1 = v).length = 0 := by simp [hv]
      have := h.q8 v
      omega
theorem told_ok {Q : List Tp} {w : List Nat} (hw : isW w) (hQ : ∀ z ∈ Q, isW z.1.1) (hl : Q.length ≤ 1000) (k : List D → Unit → PR D) : lcK (C5__law_book (.str (S w))) (Q.map trD) () [] k = k ((Q.filter fun z => z.1.1 = w).map trD) () := by
  rw [lcK_fmE (f := fun z : Tp => if decide (z.1.1 = w) = true then some (trD z) else none) (fun z hz => by
    unfold C5__law_book
    rw [show ixP (trD z) (.int 0) = .ok (.str (S z.1.1)) from ixP_t0 _, PR.bind_ok, eqP_str (hQ z hz).okC hw.okC, PR.bind_ok, ngB_f, ptb_bool]
    split <;> rfl) (by rw [sizeLine_eq]; simp only [List.length_nil]; omega), List.nil_append, fm_if]
theorem forms_ok {Q : List Tp} (hl : Q.length ≤ 1000) (k : List D → Unit → PR D) : lcK C8__law_book (Q.map trD) () [] k = k ((Q.map fun z => z.1.2).map enc) () := by
  rw [lcK_mapE (f := fun z : Tp => enc z.1.2) (fun z hz => by
    unfold C8__law_book
    rw [show ixP (trD z) (.int 1) = .ok (enc z.1.2) from ixP_t1 _ _, PR.bind_ok]) (by rw [sizeLine_eq]; simp only [List.length_nil]; omega), List.nil_append, List.map_map]
  rfl
theorem book_step {bs pool : List (List Nat)} (hb : ∀ w ∈ bs, isW w) (hb0 : 0 < bs.length) (hp : ∀ w ∈ pool, isW w) (hpn : pool.Nodup) (hpl : pool.length = 26) {i : Nat} (hi : i < 14) {ns : List (List Nat × TM.Ki)} {Q : List Tp} (I : BkI bs pool i ns Q) (c : Int) :
    ∃ (ns' : List (List Nat × TM.Ki)) (Q' : List Tp), BkI bs pool (i + 1) ns' Q' ∧ ∀ kn kb, S4__law_book (.list (sts bs)) (sts pool) (.tuple [.int (i : Int), .int c]) (.list (ns.map TM.nmK), Q.map trD, ()) kn kb = kn (.list (ns'.map TM.nmK), Q'.map trD, ()) := by
  obtain ⟨xs, x1, x2⟩ := P_spread c 14 (by omega)
  obtain ⟨a, b, r, rfl⟩ : ∃ a b r, xs = a :: b :: r := by
    match xs, x1 with
    | a :: b :: r, _ => exact ⟨a, b, r, rfl⟩
  obtain ⟨m, hm⟩ : ∃ m : Nat, 1 + a % 6 = (m : Int) := ⟨(1 + a % 6).toNat, by omega⟩
  obtain ⟨f, r', f1, f2, f3⟩ := P_form hb0 fuelR m (by omega) (by rw [fuelR_eq]; omega) r
  obtain ⟨w, hw, w2⟩ := sts_at (ws := pool) (i := b % 5) (by omega) (by rw [hpl]; omega)
  have hww := hp w hw
  have hfw := bsF_wf hb f1
  have hql := I.ql
  have hQ : ∀ z ∈ Q, isW z.1.1 := fun z hz => (I.qw z hz).1
  have hfl := List.length_filter_le (fun z : Tp => decide (z.1.1 = w)) Q
  have hfm : ∀ g ∈ (Q.filter fun z => z.1.1 = w).map fun z => z.1.2, g.wf ∧ g.size ≤ 12 := fun g hg => by
    obtain ⟨z, hz, rfl⟩ := List.mem_map.mp hg
    obtain ⟨_, q2, q3, _⟩ := I.qw z (List.mem_filter.mp hz).1
    exact ⟨bsF_wf hb q2, by omega⟩
  have pre : ∀ kn kb, S4__law_book (.list (sts bs)) (sts pool) (.tuple [.int (i : Int), .int c]) (.list (ns.map TM.nmK), Q.map trD, ()) kn kb = J7__law_book kn (sts pool) (.list (ns.map TM.nmK)) (Q.map trD) (.int (i : Int)) (.int c) (.list ((a :: b :: r).map .int)) (enc f) (.str (S w)) (decide (7 < (Q.filter fun z => z.1.1 = w).length) || decide (f ∈ (Q.filter fun z => z.1.1 = w).map fun z => z.1.2)) := fun kn kb => by
    unfold S4__law_book
    rw [ptup_tuple, pcons_cons, pcons_cons, pnil_nil, show (14 : Int) = ((14 : Nat) : Int) from rfl, x2, PR.bind_ok, pti_int, slP_list, PR.bind_ok, cutD_drop (by decide), ptl_list]
    rw [show ((a :: b :: r).map PyData.int).drop (2 : Int).toNat = r.map .int from rfl, show ixP (.list ((a :: b :: r).map PyData.int)) (.int 0) = .ok (.int a) from ixP_l0 _, PR.bind_ok, modP_s (by decide), PR.bind_ok, addSP_int, PR.bind_ok, hm, f3, PR.bind_ok, show ixP (.list ((a :: b :: r).map PyData.int)) (.int 1) = .ok (.int b) from ixP_l1 _ _, PR.bind_ok, modP_s (by decide), PR.bind_ok, w2, PR.bind_ok]
    dsimp only
    rw [told_ok hww hQ (by omega), lenP_list, PR.bind_ok, gtP_int, PR.bind_ok, ptb_bool, List.length_map]
    by_cases h7 : 7 < (Q.filter fun z => decide (z.1.1 = w)).length
    · rw [if_pos (decide_eq_true (by omega)), decide_eq_true h7, Bool.true_or]
    · rw [if_neg (by simp; omega), itemsP_list, PR.bind_ok, forms_ok (by omega), inP_encs ⟨hfw, by omega⟩ hfm, PR.bind_ok, ngB_f, ptb_bool, decide_eq_false h7, Bool.false_or]
  by_cases hskip : (decide (7 < (Q.filter fun z => z.1.1 = w).length) || decide (f ∈ (Q.filter fun z => z.1.1 = w).map fun z => z.1.2)) = true
  · refine ⟨ns, Q, I.up, fun kn kb => ?_⟩
    rw [pre, hskip]
    unfold J7__law_book
    rw [if_pos rfl]
  · rw [Bool.not_eq_true] at hskip
    have hsk := hskip
    rw [Bool.or_eq_false_iff, decide_eq_false_iff_not, decide_eq_false_iff_not] at hsk
    have hlt : 25 - i < pool.length := by omega
    have hnm : pool[25 - i]? = some (pool[25 - i]) := List.getElem?_eq_getElem hlt
    obtain ⟨t, o, o1, o2, o3, o4⟩ := TM.P_meaning (nm := pool[25 - i]) f1 hfw (by omega) (hp _ (List.getElem_mem hlt)) (c / 2147483646 % 1000000000 + b)
    refine ⟨_, _, I.add (by omega) hpn hnm hpl hww f1 (by omega) o1 o2 o3 (by omega) hsk.2, fun kn kb => ?_⟩
    have hix := sts_get hlt
    have e25 : (25 : Int) - (i : Int) = ((25 - i : Nat) : Int) := by omega
    have hnl := I.nl
    rw [pre, hskip]
    unfold J7__law_book
    rw [if_neg (by simp)]
    unfold J6__law_book
    rw [divP_s (by decide) (by decide), PR.bind_ok, pw9, PR.bind_ok, modP_s (by decide), PR.bind_ok, show ixP (.list ((a :: b :: r).map PyData.int)) (.int 1) = .ok (.int b) from ixP_l1 _ _, PR.bind_ok, addSP_int, PR.bind_ok, subP_int, PR.bind_ok, e25, hix, PR.bind_ok, o4, PR.bind_ok, ptup_tuple, pcons_cons, pcons_cons, pnil_nil, addP_list (by rw [sizeLine_eq, List.length_map, List.length_map]; omega), PR.bind_ok, appendP_s _ (by rw [sizeLine_eq, List.length_map]; omega), PR.bind_ok]
    dsimp only
    rw [List.map_append, List.map_append, List.map_map]
    rfl
theorem J3_book {bs pool : List (List Nat)} (hb : ∀ w ∈ bs, isW w) (hb0 : 0 < bs.length) (hb8 : bs.length ≤ 8) (hp : ∀ w ∈ pool, isW w) (hpn : pool.Nodup) (hpl : pool.length = 26) {cs : List Int} (hc : cs.length ≤ 14) :
    ∃ (ns : List (List Nat × TM.Ki)) (Q : List Tp), BkI bs pool 14 ns Q ∧ J3__law_book (.list (sts bs)) (sts pool) (.list []) [] (.list (cs.map .int)) = .ok (bkD bs ns Q) := by
  obtain ⟨s', ⟨ns, Q, rfl, I⟩, hk⟩ := foldK_invU (γ := D) (step := S4__law_book (.list (sts bs)) (sts pool)) (fun i st => ∃ (ns : List (List Nat × TM.Ki)) (Q : List Tp), st = (.list (ns.map TM.nmK), Q.map trD, ()) ∧ BkI bs pool i ns Q) (xs := enumD (cs.map .int)) (i := 0) (s := (.list [], [], ()))
    (fun m x s hx => by
      rintro ⟨ns, Q, rfl, I⟩
      obtain ⟨c, hm, rfl⟩ := enum_at hx
      rw [Nat.zero_add] at I ⊢
      obtain ⟨ns', Q', I', e⟩ := book_step hb hb0 hp hpn hpl (by omega) I c
      exact ⟨_, ⟨ns', Q', rfl, I'⟩, e⟩)
    ⟨[], [], rfl, ⟨Nat.le_refl _, Nat.le_refl _, nofun, nofun, List.nodup_nil, nofun, List.nodup_nil, fun w => by simp⟩⟩
  have hlen : (enumD (cs.map PyData.int)).length = cs.length := by simp [enumD]
  rw [hlen, Nat.zero_add] at I
  have up : ∀ j, cs.length ≤ j → BkI bs pool j ns Q := fun j hj => by
    induction hj with
    | refl => exact I
    | step _ ih => exact ih.up
  refine ⟨ns, Q, up 14 hc, ?_⟩
  have hnl := I.nl
  have hql := I.ql
  unfold J3__law_book
  rw [show enumP [.list (cs.map PyData.int)] = .ok (enumD (cs.map .int)) from rfl, PR.bind_ok, hk]
  dsimp only
  rw [tupleP_l _ (by rw [sizeLine_eq]; simp [sts]; omega), PR.bind_ok, tupleP_l _ (by rw [sizeLine_eq, List.length_map]; omega), PR.bind_ok, tupleP_l _ (by rw [sizeLine_eq, List.length_map]; omega), PR.bind_ok]
  rfl
/-- the pool, with any in it or not -/
structure PlOk (pool p : List (List Nat)) : Prop where
  len : p.length = 26
  w : ∀ w ∈ p, isW w
  nd : p.Nodup
  ten : p[10]? = pool[10]?
theorem PlOk.set {pool p : List (List Nat)} (h : PlOk pool p) (ha : anyL ∉ p) {k : Nat} (hk : k ≠ 10) : PlOk pool (p.set k anyL) := by
  refine ⟨by rw [List.length_set]; exact h.len, fun w hw => ?_, nd_set h.nd ha k, ?_⟩
  · rcases List.mem_or_eq_of_mem_set hw with hw | rfl
    · exact h.w w hw
    · exact isW_any
  · rw [List.getElem?_set_ne hk]
    exact h.ten
theorem J2_book {bs pool p : List (List Nat)} (hb : ∀ w ∈ bs, isW w) (hb0 : 0 < bs.length) (hb8 : bs.length ≤ 8) (hp : PlOk pool p) (s0 s1 : Int) (r : List Int) :
    ∃ (ns : List (List Nat × TM.Ki)) (Q : List Tp), BkI bs p 14 ns Q ∧ J2__law_book ((s0 :: s1 :: r).map .int) (.list (sts bs)) (sts p) = .ok (bkD bs ns Q) := by
  have e0 : ixP (.list ((s0 :: s1 :: r).map PyData.int)) (.int 0) = .ok (.int s0) := ixP_l0 _
  have ec : cutD ((s0 :: s1 :: r).map PyData.int) (some 2) (some 16) = (r.take 14).map .int := by
    rw [cutD_mid (by decide) (by decide)]
    simp
  have l14 : (r.take 14).length ≤ 14 := by rw [List.length_take]; omega
  unfold J2__law_book
  rw [pti_int, pti_int, slP_list, PR.bind_ok, ec, e0, PR.bind_ok, modP_s (by decide), PR.bind_ok, eqP_int, PR.bind_ok, ngB_f, ptb_bool]
  by_cases h5 : s0 % 8 = 5
  · obtain ⟨xs, x1, x2⟩ := P_spread s0 12 (by omega)
    have x2 : P__law_spread (.int s0) (.int 12) = .ok (.list (xs.map .int)) := x2
    obtain ⟨ns, Q, I, e⟩ := J3_book hb hb0 hb8 hp.w hp.nd hp.len (cs := (r.take 14 ++ xs).take 12) (by rw [List.length_take]; omega)
    refine ⟨ns, Q, I, ?_⟩
    rw [if_pos (by simpa using h5), PR.bind_ok, x2, PR.bind_ok, addP_list (by rw [sizeLine_eq, List.length_map, List.length_map]; omega), PR.bind_ok, pti_int, slP_list, PR.bind_ok, cutD_take (by decide), ← e]
    simp
  · obtain ⟨ns, Q, I, e⟩ := J3_book hb hb0 hb8 hp.w hp.nd hp.len (cs := r.take 14) l14
    refine ⟨ns, Q, I, ?_⟩
    rw [if_neg (by simpa using h5), e]
theorem J1_book {bs pool p : List (List Nat)} (hb : ∀ w ∈ bs, isW w) (hb0 : 0 < bs.length) (hb8 : bs.length ≤ 8) (hp : PlOk pool p) (s0 s1 : Int) (r : List Int) (ha : 1 < s1 / 8 % 4 → anyL ∉ p) :
    ∃ (p' : List (List Nat)) (ns : List (List Nat × TM.Ki)) (Q : List Tp), PlOk pool p' ∧ BkI bs p' 14 ns Q ∧ J1__law_book ((s0 :: s1 :: r).map .int) (.list (sts bs)) (sts p) = .ok (bkD bs ns Q) := by
  have e1 : ixP (.list ((s0 :: s1 :: r).map PyData.int)) (.int 1) = .ok (.int s1) := ixP_l1 _ _
  unfold J1__law_book
  rw [e1, PR.bind_ok, divP_s (by decide) (by decide), PR.bind_ok, modP_s (by decide), PR.bind_ok, gtP_int, PR.bind_ok, ptb_bool]
  by_cases h : 1 < s1 / 8 % 4
  · obtain ⟨k, hk⟩ : ∃ k : Nat, 25 - s1 / 32 % 5 = (k : Int) := ⟨(25 - s1 / 32 % 5).toNat, by omega⟩
    have hp' := hp.set (ha h) (k := k) (by omega)
    obtain ⟨ns, Q, I, e⟩ := J2_book hb hb0 hb8 hp' s0 s1 r
    refine ⟨_, ns, Q, hp', I, ?_⟩
    rw [if_pos (by simpa using h), PR.bind_ok, divP_s (by decide) (by decide), PR.bind_ok, modP_s (by decide), PR.bind_ok, subP_int, PR.bind_ok, hk, pti_int, pix_at (by rw [sts_len, hp.len]; omega), show Str.ofString "any" = S anyL by decide +kernel, set_sts]
    exact e
  · obtain ⟨ns, Q, I, e⟩ := J2_book hb hb0 hb8 hp s0 s1 r
    refine ⟨_, ns, Q, hp, I, ?_⟩
    rw [if_neg (by simpa using h), e]
theorem P_lbook (s0 s1 : Int) (r : List Int) : ∃ (bs pool p : List (List Nat)) (ns : List (List Nat × TM.Ki)) (Q : List Tp), 1 ≤ bs.length ∧ bs.length ≤ 8 ∧ (∀ w ∈ bs, isW w) ∧ bs.Nodup ∧ anyL ∉ bs ∧ pool.length = 26 ∧ (∀ w ∈ pool, isW w) ∧ P__law_names (.int (s1 / 8)) (.int 26) = .ok (.list (sts pool)) ∧ PlOk pool p ∧ BkI bs p 14 ns Q ∧ P__law_book ((s0 :: s1 :: r).map .int) = .ok (bkD bs ns Q) := by
  have e0 : ixP (.list ((s0 :: s1 :: r).map PyData.int)) (.int 0) = .ok (.int s0) := ixP_l0 _
  have e1 : ixP (.list ((s0 :: s1 :: r).map PyData.int)) (.int 1) = .ok (.int s1) := ixP_l1 _ _
  obtain ⟨m, hm⟩ : ∃ m : Nat, 1 + s1 % 8 = (m : Int) := ⟨(1 + s1 % 8).toNat, by omega⟩
  obtain ⟨bs, b1, b2, b3, b4, b5⟩ := P_names s0 m (by omega)
  obtain ⟨pool, p1, p2, p3, p4, p5⟩ := P_names (s1 / 8) 26 (by omega)
  have p5 : P__law_names (.int (s1 / 8)) (.int 26) = .ok (.list (sts pool)) := p5
  have hpo : PlOk pool pool := ⟨p1, p2, p4, rfl⟩
  suffices h : ∃ (p : List (List Nat)) (ns : List (List Nat × TM.Ki)) (Q : List Tp), PlOk pool p ∧ BkI bs p 14 ns Q ∧ P__law_book ((s0 :: s1 :: r).map .int) = .ok (bkD bs ns Q) by
    obtain ⟨p, ns, Q, q1, q2, q3⟩ := h
    exact ⟨bs, pool, p, ns, Q, by omega, by omega, b2, b4, b3, p1, p2, p5, q1, q2, q3⟩
  unfold P__law_book
  rw [e0, PR.bind_ok, e1, PR.bind_ok, modP_s (by decide), PR.bind_ok, addSP_int, PR.bind_ok, hm, b5, PR.bind_ok, PR.bind_ok, divP_s (by decide) (by decide), PR.bind_ok, p5, PR.bind_ok, ptl_list, PR.bind_ok, divP_s (by decide) (by decide), PR.bind_ok, modP_s (by decide), PR.bind_ok, eqP_int, PR.bind_ok, ngB_f, ptb_bool]
  by_cases h : s1 / 8 % 4 = 1
  · obtain ⟨k, hk⟩ : ∃ k : Nat, s1 / 32 % 5 = (k : Int) := ⟨(s1 / 32 % 5).toNat, by omega⟩
    have hp' := hpo.set p3 (k := k) (by omega)
    obtain ⟨p, ns, Q, q1, q2, q3⟩ := J1_book (r := r) b2 (by omega) (by omega) hp' s0 s1 (fun z => by omega)
    refine ⟨p, ns, Q, q1, q2, ?_⟩
    rw [if_pos (by simpa using h), PR.bind_ok, divP_s (by decide) (by decide), PR.bind_ok, modP_s (by decide), PR.bind_ok, hk, pti_int, pix_at (by rw [sts_len, p1]; omega), show Str.ofString "any" = S anyL by decide +kernel, set_sts]
    exact q3
  · obtain ⟨p, ns, Q, q1, q2, q3⟩ := J1_book (r := r) b2 (by omega) (by omega) hpo s0 s1 (fun _ => p3)
    refine ⟨p, ns, Q, q1, q2, ?_⟩
    rw [if_neg (by simpa using h)]
    exact q3
end K25
set_option Elab.async false
set_option linter.all false
set_option maxRecDepth 100000
set_option maxHeartbeats 1000000
namespace K25
open PySem L2 M
variable [HasW]
/-! ### data are like themselves -/
mutual
theorem eqv_self : ∀ d : D, d.canLay0 = true → PyData.eqv d d = true
  | .none, _ => by simp [PyData.eqv]
  | .bool a, _ => by simp [PyData.eqv]
  | .int a, _ => by simp [PyData.eqv]
  | .str a, _ => by simp [PyData.eqv]
  | .list a, h => by
    have := eqvAll_self a (by simpa [PyData.canLay0] using h)
    simpa [PyData.eqv] using this
  | .tuple a, h => by
    have := eqvAll_self a (by simpa [PyData.canLay0] using h)
    simpa [PyData.eqv] using this
  | .dict a, h => by simp [PyData.canLay0] at h
theorem eqvAll_self : ∀ ds : List D, PyData.canLayAll0 ds = true → PyData.eqvAll ds ds = true
  | [], _ => by simp [PyData.eqvAll]
  | d :: ds, h => by
    simp only [PyData.canLayAll0, Bool.and_eq_true] at h
    simp [PyData.eqvAll, eqv_self d h.1, eqvAll_self ds h.2]
end
theorem eqP_self {n : Bool} {d : D} (h : SeqAt.shaped d = true) : eqP n d d = .ok (.bool (ngB n true)) := by
  unfold eqP
  rw [h, eqv_self d (shaped_iff.mp h).1]
  cases n <;> rfl
/-! ### sorted by a key -/
theorem keysP_map {α : Type} {Pf : D → PR D} {e key : α → D} : ∀ {xs : List α}, (∀ x ∈ xs, Pf (e x) = .ok (key x)) → (∀ x ∈ xs, nlB (key x) = true) → keysP Pf (xs.map e) = .ok (xs.map key)
  | [], _, _ => rfl
  | x :: xs, h, hn => by
    rw [List.map_cons, List.map_cons, keysP, h x List.mem_cons_self, PR.bind_ok, if_pos (hn x List.mem_cons_self), keysP_map (fun y hy => h y (List.mem_cons_of_mem _ hy)) (fun y hy => hn y (List.mem_cons_of_mem _ hy)), PR.bind_ok]
theorem zip_maps {α β γ : Type} (f : α → β) (g : α → γ) : ∀ xs : List α, (xs.map f).zip (xs.map g) = xs.map fun x => (f x, g x)
  | [] => rfl
  | x :: xs => by rw [List.map_cons, List.map_cons, List.map_cons, List.zip_cons_cons, zip_maps f g xs]
theorem sortKP_map {α : Type} {Pf : D → PR D} {e key : α → D} {xs : List α} (h : ∀ x ∈ xs, Pf (e x) = .ok (key x)) (hn : ∀ x ∈ xs, nlB (key x) = true) (hB : keysB (xs.map key) = true) {r : α → α → Bool} (hr : ∀ a ∈ xs, ∀ b ∈ xs, r a b = !PySem.W.dataLt (key b) (key a)) : sortKP Pf [.list (xs.map e)] = .ok (.list ((xs.mergeSort r).map e)) := by
  unfold sortKP
  dsimp only
  rw [keysP_map h hn]
  unfold noEr
  dsimp only
  rw [PR.bind_ok, if_pos hB]
  unfold sortByK
  rw [zip_maps, ← List.map_mergeSort (r := r) (fun a ha b hb => hr a ha b hb), List.map_map]
  rfl
theorem keysB_str {α : Type} (k : α → Str) (xs : List α) : keysB (xs.map fun x => .str (k x)) = true := by
  unfold keysB
  simp only [List.all_map, Bool.and_eq_true, List.all_eq_true, Bool.or_eq_true, Function.comp]
  refine ⟨⟨fun x _ y _ => ?_, .inr fun x _ => rfl⟩, fun x _ => ⟨?_, rfl⟩⟩
  · simp [PySem.W.alike]
  · simp [PyData.depth]
namespace TM
/-! ### how deep a term's data is (as in tsame2, for laws without the comparing def) -/
theorem lay_T : ∀ t : Tm, t.wf → (encT t).canLay0 = true
  | .nm w, h => by
    have := isW.okC h
    simp [encT, PyData.canLay0, PyData.canLayAll0, strOk_S, this, show okC sNm = true by decide]
  | .lf n f, h => by
    have := lay_enc f h.2.1
    simp [encT, PyData.canLay0, PyData.canLayAll0, strOk_S, this, show okC sLf = true by decide]
  | .bd n, h => by simp [encT, PyData.canLay0, PyData.canLayAll0, strOk_S, show okC sBd = true by decide]
  | .fn k t, h => by
    have h1 := lay_K k h.1
    have h2 := lay_T t h.2.2
    simp [encT, PyData.canLay0, PyData.canLayAll0, strOk_S, h1, h2, show okC sFn = true by decide]
  | .of f a, h => by
    have h1 := lay_T f h.1
    have h2 := lay_T a h.2
    simp [encT, PyData.canLay0, PyData.canLayAll0, strOk_S, h1, h2, show okC sOf = true by decide]
theorem depth_rd : ∀ t : Tm, rdT t → (encT t).depth ≤ t.dep + 12
  | .nm w, h => by simp [encT, PyData.depth, PyData.depthAll]
  | .lf _ _, h => h.elim
  | .bd n, h => by simp [encT, PyData.depth, PyData.depthAll]
  | .fn k t, h => by
    have h1 := depth_K k
    have h2 := dp_lt k
    have h3 := h.2.1
    have h4 := depth_rd t h.2.2
    simp only [encT, PyData.depth, PyData.depthAll, Tm.dep]
    omega
  | .of f a, h => by
    have h1 := depth_rd f h.1
    have h2 := depth_rd a h.2
    simp only [encT, PyData.depth, PyData.depthAll, Tm.dep]
    omega
end TM
/-! ### k25: a word's forms, its term by a form -/
structure RowsOk (Q : List Tp) : Prop where
  l : Q.length ≤ 40
  w : ∀ z ∈ Q, okC z.1.1 = true
  f : ∀ z ∈ Q, z.1.2.wf ∧ z.1.2.size ≤ 6
  t : ∀ z ∈ Q, (TM.encT z.2).canLay0 = true ∧ (TM.encT z.2).depth ≤ 30
  d : (Q.map (·.1)).Nodup
theorem lay_map {α : Type} {e : α → D} {n : Nat} : ∀ {l : List α}, (∀ z ∈ l, (e z).canLay0 = true ∧ (e z).depth ≤ n) → PyData.canLayAll0 (l.map e) = true ∧ PyData.depthAll (l.map e) ≤ n
  | [], _ => ⟨rfl, Nat.zero_le _⟩
  | z :: l, h => by
    have h1 := h z List.mem_cons_self
    have h2 := lay_map (l := l) fun y hy => h y (List.mem_cons_of_mem _ hy)
    refine ⟨?_, ?_⟩
    · simp only [List.map_cons, PyData.canLayAll0, h1.1, h2.1, Bool.and_self]
    · simp only [List.map_cons, PyData.depthAll]
      omega
theorem shaped_map {α : Type} {e : α → D} {n : Nat} {l : List α} (h : ∀ z ∈ l, (e z).canLay0 = true ∧ (e z).depth ≤ n) (hn : n ≤ 60) : SeqAt.shaped (.list (l.map e)) = true := by
  have := lay_map h
  refine shaped_iff.mpr ⟨?_, ?_⟩
  · simpa [PyData.canLay0] using this.1
  · simp only [PyData.depth]; omega
theorem eqP_nil {xs : List D} (h : SeqAt.shaped (.list xs) = true) : eqP false (.list xs) (.list []) = .ok (.bool (decide (xs = []))) := by
  have e : PyData.eqv (.list xs) (.list []) = decide (xs = []) := by
    cases xs with
    | nil => rfl
    | cons x xs => simp [PyData.eqv, PyData.eqvAll]
  unfold eqP
  rw [h, e]
  rfl
theorem enc_lay {f : Fm} (h : f.wf ∧ f.size ≤ 6) : (enc f).canLay0 = true ∧ (enc f).depth ≤ 6 := ⟨lay_enc f h.1, Nat.le_trans (depth_enc f) h.2⟩
def dueL (Q : List Tp) (w : List Nat) : List Tp := Q.filter fun z => decide (z.1.1 = w)
def leT (a b : Tp) : Bool := !PySem.W.dataLt (.str (S (textL b.1.2))) (.str (S (textL a.1.2)))
def srtT (Q : List Tp) : List Tp := Q.mergeSort leT
section
variable {bs : List (List Nat)} {ns : List (List Nat × TM.Ki)} {Q : List Tp} {w : List Nat}
theorem rows_at : ixP (bkD bs ns Q) (.int 2) = .ok (.tuple (Q.map trD)) := ixP_t2 _ _ _
theorem due_mem {z : Tp} (h : z ∈ dueL Q w) : z ∈ Q ∧ z.1.1 = w := by
  unfold dueL at h
  rw [List.mem_filter] at h
  exact ⟨h.1, of_decide_eq_true h.2⟩
theorem srt_mem {z : Tp} {R : List Tp} : z ∈ srtT R ↔ z ∈ R := (List.mergeSort_perm R leT).mem_iff
theorem P_forms (H : RowsOk Q) (hw : okC w = true) : P_forms_of (bkD bs ns Q) (.str (S w)) = if dueL Q w = [] then .err ⟨"NoWord", [("place", .int 0), ("word", .str (S w))]⟩ else .ok (.list ((srtT (dueL Q w)).map fun z => enc z.1.2)) := by
  unfold P_forms_of
  rw [rows_at, PR.bind_ok, itemsP_tup, PR.bind_ok, lcK_fmE (f := fun z : Tp => if decide (z.1.1 = w) = true then some (enc z.1.2) else none) (fun z hz => by
    unfold C1_forms_of trD
    dsimp only [ptup, pcons, pnil]
    rw [eqP_str (H.w z hz) hw, PR.bind_ok, ngB_f, ptb_bool]
    split <;> rfl) (by have := H.l; rw [sizeLine_eq]; simp only [List.length_nil]; omega), List.nil_append, fm_if]
  have hl : ∀ z ∈ dueL Q w, (enc z.1.2).canLay0 = true ∧ (enc z.1.2).depth ≤ 6 := fun z hz => enc_lay (H.f z (due_mem hz).1)
  have e1 : eqP false (.list ((dueL Q w).map fun z => enc z.1.2)) (.list []) = .ok (.bool (decide ((dueL Q w).map (fun z => enc z.1.2) = []))) := eqP_nil (shaped_map hl (by decide))
  have e1 : eqP false (.list ((Q.filter fun z => decide (z.1.1 = w)).map fun z => enc z.1.2)) (.list []) = .ok (.bool (decide ((dueL Q w).map (fun z => enc z.1.2) = []))) := e1
  rw [e1, PR.bind_ok, ptb_bool]
  by_cases h : dueL Q w = []
  · rw [if_pos h, h]
    rfl
  · rw [if_neg h, if_neg (by simpa using h)]
    have := sortKP_map (Pf := P_show_form fuelR) (e := fun z : Tp => enc z.1.2) (key := fun z : Tp => .str (S (textL z.1.2))) (xs := dueL Q w) (fun z hz => by
      have h1 := H.f z (due_mem hz).1
      exact P_show fuelR z.1.2 (by rw [fuelR_eq]; omega) (by omega) h1.1) (fun _ _ => rfl) (keysB_str (fun z : Tp => S (textL z.1.2)) _) (r := leT) (fun _ _ _ _ => rfl)
    have : sortKP (P_show_form fuelR) [.list ((Q.filter fun z => decide (z.1.1 = w)).map fun z => enc z.1.2)] = .ok (.list ((srtT (dueL Q w)).map fun z => enc z.1.2)) := this
    rw [this]
    rfl
end
end K25
set_option Elab.async false
set_option linter.all false
set_option maxRecDepth 100000
set_option maxHeartbeats 1000000
namespace K25
open PySem L2 M
variable [HasW]
/-! ### k25: what is told -/
def noW (w : List Nat) : Exn := ⟨"NoWord", [("place", .int 0), ("word", .str (S w))]⟩
def noF : Exn := ⟨"NoForm", []⟩
def sTold : D := .str (Str.ofString "told")
def sWord : D := .str (Str.ofString "word")
def sForm : D := .str (Str.ofString "form")
theorem told_noW (w : List Nat) (k : TO (D × Unit) → PR D) : tryKE tab_SlashError (.err (noW w)) (fun e5 => if flE e5 = true then ((P__law_alone e5).bind fun z6 =>
    ptt z6 fun t7 => if t7 = true then (ptabF (tabOf tl_2) e5 fun z8 =>
    ptt z8 fun t9 => (J1__law_told e5 (.tuple [(.str (Str.ofString "wrong")), .none]) t9)) else (J1__law_told e5 (.tuple [(.str (Str.ofString "wrong")), .none]) false)) else .bad) k = k (.nx (.tuple [sWord, .tuple [.str (S w), .int 0]], ())) := by rfl
theorem told_noF (k : TO (D × Unit) → PR D) : tryKE tab_SlashError (.err noF) (fun e5 => if flE e5 = true then ((P__law_alone e5).bind fun z6 =>
    ptt z6 fun t7 => if t7 = true then (ptabF (tabOf tl_2) e5 fun z8 =>
    ptt z8 fun t9 => (J1__law_told e5 (.tuple [(.str (Str.ofString "wrong")), .none]) t9)) else (J1__law_told e5 (.tuple [(.str (Str.ofString "wrong")), .none]) false)) else .bad) k = k (.nx (.tuple [sForm, .none], ())) := by rfl
section
variable {bs : List (List Nat)} {ns : List (List Nat × TM.Ki)} {Q : List Tp} {w : List Nat}
theorem told_none (H : RowsOk Q) (hw : okC w = true) : P__law_told (bkD bs ns Q) (.str (S w)) .none = if dueL Q w = [] then .ok (.tuple [sWord, .tuple [.str (S w), .int 0]]) else .ok (.tuple [sTold, .list ((srtT (dueL Q w)).map fun z => enc z.1.2)]) := by
  unfold P__law_told
  rw [show isNP false (.none : D) .none = .ok (.bool true) from rfl, PR.bind_ok, ptb_bool, if_pos rfl, P_forms H hw]
  by_cases h : dueL Q w = []
  · rw [if_pos h, if_pos h]
    exact told_noW w _
  · rw [if_neg h, if_neg h]
    rfl
theorem filt_one {α β : Type} [DecidableEq α] {l : List (α × β)} (hd : (l.map (·.1)).Nodup) : ∀ {z : α × β}, z ∈ l → l.filter (fun y => decide (y.1 = z.1)) = [z] := by
  induction l with
  | nil => intro z h; cases h
  | cons x l ih =>
    intro z h
    rw [List.map_cons, List.nodup_cons] at hd
    rcases List.mem_cons.mp h with rfl | h
    · rw [List.filter_cons_of_pos (by simp)]
      congr 1
      rw [List.filter_eq_nil_iff]
      intro y hy e
      exact hd.1 (by rw [← of_decide_eq_true e]; exact List.mem_map_of_mem hy)
    · rw [List.filter_cons_of_neg (by
        intro e
        exact hd.1 (by rw [of_decide_eq_true e]; exact List.mem_map_of_mem h))]
      exact ih hd.2 h
theorem C1_term (H : RowsOk Q) (hw : okC w = true) {g : Fm} (hg : g.wf ∧ g.size ≤ 6) (k : List D → Unit → PR D) : lcK (C1_term_of (.str (S w)) (enc g)) (Q.map trD) () [] k = k ((Q.filter fun z => decide (z.1 = (w, g))).map fun z => TM.encT z.2) () := by
  rw [lcK_fmE (f := fun z : Tp => if decide (z.1 = (w, g)) = true then some (TM.encT z.2) else none) (fun z hz => by
    unfold C1_term_of trD
    dsimp only [ptup, pcons, pnil]
    have h1 := H.f z hz
    rw [eqP_str (H.w z hz) hw, PR.bind_ok, ngB_f, ptb_bool]
    by_cases e1 : z.1.1 = w
    · rw [if_pos (by simpa using e1), eqP_enc h1.1 hg.1 (by omega) (by omega), PR.bind_ok, ngB_f, ptb_bool]
      by_cases e2 : z.1.2 = g
      · rw [if_pos (by simpa using e2), if_pos (by rw [← e1, ← e2]; simp)]
      · rw [if_neg (by simpa using e2), if_neg (by intro q; exact e2 (by rw [of_decide_eq_true q]))]
    · rw [if_neg (by simpa using e1), if_neg (by decide), if_neg (by intro q; exact e1 (by rw [of_decide_eq_true q]))]) (by have := H.l; rw [sizeLine_eq]; simp only [List.length_nil]; omega), List.nil_append, fm_if]
theorem term_in (H : RowsOk Q) (hw : okC w = true) (hne : dueL Q w ≠ []) {g : Fm} (hg : g.wf ∧ g.size ≤ 6) : P_term_of (bkD bs ns Q) (.str (S w)) (enc g) = if g ∈ (dueL Q w).map (fun z => z.1.2) then (lcK (C1_term_of (.str (S w)) (enc g)) (Q.map trD) () [] fun acc22 s23 => (ixP (.list acc22) (.int 0)).bind fun z24 => .ok z24) else .err noF := by
  unfold P_term_of
  rw [P_forms H hw, if_neg hne, PR.bind_ok]
  have e : ((srtT (dueL Q w)).map fun z : Tp => enc z.1.2) = ((srtT (dueL Q w)).map fun z : Tp => z.1.2).map enc := by rw [List.map_map]; rfl
  rw [e, inP_encs ⟨hg.1, by omega⟩ (fun f hf => by
    obtain ⟨z, hz, rfl⟩ := List.mem_map.mp hf
    have := H.f z (due_mem (srt_mem.mp hz)).1
    exact ⟨this.1, by omega⟩), PR.bind_ok, ptb_bool]
  have iff : g ∈ (srtT (dueL Q w)).map (fun z : Tp => z.1.2) ↔ g ∈ (dueL Q w).map (fun z : Tp => z.1.2) := by
    simp only [List.mem_map, srt_mem]
  by_cases h : g ∈ (dueL Q w).map (fun z : Tp => z.1.2)
  · rw [if_pos h, decide_eq_true (iff.mpr h), if_neg (by decide), rows_at, PR.bind_ok, itemsP_tup, PR.bind_ok]
  · rw [if_neg h, decide_eq_false (fun q => h (iff.mp q)), if_pos (by decide)]
    rfl
theorem told_form (H : RowsOk Q) (hw : okC w = true) {z : Tp} (hz : z ∈ dueL Q w) : P__law_told (bkD bs ns Q) (.str (S w)) (enc z.1.2) = .ok (.tuple [sTold, TM.encT z.2]) := by
  have hq := due_mem hz
  have hf := H.f z hq.1
  have e : P_term_of (bkD bs ns Q) (.str (S w)) (enc z.1.2) = .ok (TM.encT z.2) := by
    rw [term_in H hw (List.ne_nil_of_mem hz) hf, if_pos (List.mem_map_of_mem hz), C1_term H hw hf]
    have : (w, z.1.2) = z.1 := by rw [← hq.2]
    rw [this, filt_one H.d hq.1]
    rfl
  unfold P__law_told
  have ei : isNP false (enc z.1.2) .none = .ok (.bool false) := by cases z.1.2 <;> rfl
  rw [ei, PR.bind_ok, ptb_bool, if_neg (by decide), e]
  rfl
theorem told_other (H : RowsOk Q) (hw : okC w = true) (hne : dueL Q w ≠ []) {g : Fm} (hg : g.wf ∧ g.size ≤ 6) (hn : g ∉ (dueL Q w).map (fun z => z.1.2)) : P__law_told (bkD bs ns Q) (.str (S w)) (enc g) = .ok (.tuple [sForm, .none]) := by
  unfold P__law_told
  have ei : isNP false (enc g) .none = .ok (.bool false) := by cases g <;> rfl
  rw [ei, PR.bind_ok, ptb_bool, if_neg (by decide), term_in H hw hne hg, if_neg hn]
  exact told_noF _
theorem told_away (H : RowsOk Q) (hw : okC w = true) (he : dueL Q w = []) {g : Fm} : P__law_told (bkD bs ns Q) (.str (S w)) (enc g) = .ok (.tuple [sWord, .tuple [.str (S w), .int 0]]) := by
  unfold P__law_told
  have ei : isNP false (enc g) .none = .ok (.bool false) := by cases g <;> rfl
  rw [ei, PR.bind_ok, ptb_bool, if_neg (by decide)]
  unfold P_term_of
  rw [P_forms H hw, if_pos he]
  exact told_noW w _
end
end K25
set_option Elab.async false
set_option linter.all false
set_option maxRecDepth 100000
set_option maxHeartbeats 1000000
namespace K25
open PySem L2 M
variable [HasW]
/-! ### the law's own texts of forms -/
theorem P_lft : ∀ (n : Nat) (f : Fm), f.size ≤ n → f.size ≤ 1000 → f.wf → P__law_form_text n (enc f) = .ok (.str (S (textL f)))
  | 0, f, h, _, _ => by have := f.size_pos; omega
  | n + 1, .b w, h, _, hw => by
    show B__law_form_text (P__law_form_text n) (enc (.b w)) = _
    unfold B__law_form_text
    simp only [ixF0, PR.bind_ok, lt0, lt1, lt2, lt5, lt6, lt7, lt8, lt9, lt10, lt11, lt12, lt13, lt14, lt15, lt16, lt17, lt18, lt19, lt20, lt21, eq_hd, ptb_bool, ngB_f, isB_b, isB_n, if_true, ixFb, textL]
  | n + 1, .n s x y, h, hs, hw => by
    have px := x.size_pos
    have py := y.size_pos
    have h : x.size + y.size ≤ n + 1 := h
    have hs : x.size + y.size ≤ 1000 := hs
    have ix := P_lft n x (by omega) (by omega) hw.1
    have iy := P_lft n y (by omega) (by omega) hw.2
    have lx := text_len hw.1
    have ly := text_len hw.2
    have lw := wrap_len y (textL y)
    have ls := slash_len s
    have a1 : addP (.str (S (textL x))) (.str (S (slash s))) = .ok (.str (S (textL x ++ slash s))) := addP_str (by rw [sizeLine_eq]; omega)
    have a2 : addP (.str (S (textL x ++ slash s))) (.str (S (wrap y (textL y)))) = .ok (.str (S (textL x ++ slash s ++ wrap y (textL y)))) := addP_str (by rw [sizeLine_eq, List.length_append]; omega)
    have a3 : addSP (.str (S [40])) (.str (S (textL y))) = .ok (.str (S ([40] ++ textL y))) := addSP_str (by rw [sizeLine_eq, List.length_singleton]; omega)
    have a4 : addSP (.str (S ([40] ++ textL y))) (.str (S [41])) = .ok (.str (S ([40] ++ textL y ++ [41]))) := addSP_str (by rw [sizeLine_eq, List.length_append, List.length_singleton, List.length_singleton]; omega)
    show B__law_form_text (P__law_form_text n) (enc (.n s x y)) = _
    unfold B__law_form_text
    simp only [ixF0, PR.bind_ok, lt0, lt1, lt2, lt5, lt6, lt7, lt8, lt9, lt10, lt11, lt12, lt13, lt14, lt15, lt16, lt17, lt18, lt19, lt20, lt21, eq_hd, ptb_bool, ngB_f, isB_b, isB_n, Bool.false_eq_true, if_false, ixF2, iy, ngB_t]
    cases hy : y.isB with
    | true =>
      have e : wrap y (textL y) = textL y := by simp [wrap, hy]
      rw [e] at a2
      simp only [hy, Bool.not_true, Bool.false_eq_true, if_false, J1__law_form_text, ixF1, PR.bind_ok, ix, ixF0, hdF_n, a1, a2, textL, e]
    | false =>
      have e : wrap y (textL y) = [40] ++ textL y ++ [41] := by simp [wrap, hy]
      rw [e] at a2
      simp only [Bool.not_false, if_true, a3, a4, J1__law_form_text, ixF1, PR.bind_ok, ix, ixF0, hdF_n, a1, a2, textL, e]
/-! ### k25: one word -/
theorem foldK_unit {γ : Type} {step : D → Unit → (Unit → PR γ) → (Unit → PR γ) → PR γ} {k : Unit → PR γ} : ∀ {xs : List D}, (∀ x ∈ xs, ∀ kn kb, step x () kn kb = kn ()) → foldK step xs () k = k ()
  | [], _ => rfl
  | x :: xs, h => by
    rw [foldK_cons, h x List.mem_cons_self, foldK_unit fun y hy => h y (List.mem_cons_of_mem _ hy)]
def ownD (z : Tp) : D := .tuple [.str (S (textL z.1.2)), enc z.1.2, TM.encT z.2]
theorem sh_tup2 {a b : D} (ha : a.canLay0 = true) (hb : b.canLay0 = true) (da : a.depth ≤ 50) (db : b.depth ≤ 50) : SeqAt.shaped (.tuple [a, b]) = true := by
  refine shaped_iff.mpr ⟨?_, ?_⟩
  · simp [PyData.canLay0, PyData.canLayAll0, ha, hb]
  · simp only [PyData.depth, PyData.depthAll]; omega
theorem told_lay : sTold.canLay0 = true ∧ sTold.depth ≤ 50 := by decide +kernel
theorem word_lay : sWord.canLay0 = true ∧ sWord.depth ≤ 50 := by decide +kernel
theorem form_lay : sForm.canLay0 = true ∧ sForm.depth ≤ 50 := by decide +kernel
section
variable {bs : List (List Nat)} {ns : List (List Nat × TM.Ki)} {Q : List Tp} {w : List Nat}
theorem tr_lay (H : RowsOk Q) {z : Tp} (hz : z ∈ Q) : (trD z).canLay0 = true ∧ (trD z).depth ≤ 40 := by
  have h1 := enc_lay (H.f z hz)
  have h2 := H.t z hz
  have h3 := H.w z hz
  unfold trD
  refine ⟨?_, ?_⟩
  · simp [PyData.canLay0, PyData.canLayAll0, h1.1, h2.1, strOk_S, h3]
  · simp only [PyData.depth, PyData.depthAll]; omega
theorem away_eq (hw : okC w = true) : eqP false (.tuple [sWord, .tuple [.str (S w), .int 0]]) (.tuple [sWord, .tuple [.str (S w), .int 0]]) = .ok (.bool true) := by
  rw [eqP_self (sh_tup2 word_lay.1 (by simp [PyData.canLay0, PyData.canLayAll0, strOk_S, hw]) word_lay.2 (by simp [PyData.depth, PyData.depthAll]))]
  rfl
theorem holds_ok (H : RowsOk Q) (hw : okC w = true) {gs : List Fm} (hg : ∀ g ∈ gs, g.wf ∧ g.size ≤ 6) (hn : gs ≠ []) : P__law_holds (bkD bs ns Q) (.str (S w)) (.list (gs.map enc)) = .ok (.bool true) := by
  unfold P__law_holds
  rw [rows_at, PR.bind_ok, itemsP_tup, PR.bind_ok, lcK_fmE (f := fun z : Tp => if decide (z.1.1 = w) = true then some (trD z) else none) (fun z hz => by
    unfold C1__law_holds
    rw [show ixP (trD z) (.int 0) = .ok (.str (S z.1.1)) from ixP_t0 _, PR.bind_ok, eqP_str (H.w z hz) hw, PR.bind_ok, ngB_f, ptb_bool]
    split <;> rfl) (by have := H.l; rw [sizeLine_eq]; simp only [List.length_nil]; omega), List.nil_append, fm_if]
  rw [show (Q.filter fun z => decide (z.1.1 = w)) = dueL Q w from rfl, eqP_nil (shaped_map (fun z hz => tr_lay H (due_mem hz).1) (by decide)), PR.bind_ok, ptb_bool]
  by_cases he : dueL Q w = []
  · rw [if_pos (by rw [he]; rfl), told_none H hw, if_pos he, PR.bind_ok]
    have ea := away_eq hw
    unfold sWord at ea
    rw [show (PyData.tuple [sWord, .tuple [.str (S w), .int 0]]) = .tuple [.str (Str.ofString "word"), .tuple [.str (S w), .int 0]] from rfl, ea, PR.bind_ok, ptb_bool, if_pos rfl]
    cases gs with
    | nil => exact absurd rfl hn
    | cons g gs =>
      rw [show ixP (.list ((g :: gs).map enc)) (.int 0) = .ok (enc g) from ixP_l0 _, PR.bind_ok, told_away H hw he, PR.bind_ok, show (PyData.tuple [sWord, .tuple [.str (S w), .int 0]]) = .tuple [.str (Str.ofString "word"), .tuple [.str (S w), .int 0]] from rfl, ea]
      rfl
  · have hl40 : (dueL Q w).length ≤ 40 := Nat.le_trans (List.length_filter_le _ _) H.l
    have sl : (srtT (dueL Q w)).length = (dueL Q w).length := List.length_mergeSort _
    rw [if_neg (by simpa using he), itemsP_list, PR.bind_ok, lcK_mapE (f := ownD) (fun z hz => by
      have hf := H.f z (due_mem hz).1
      unfold C2__law_holds trD
      dsimp only [ptup, pcons, pnil]
      rw [P_lft fuelR z.1.2 (by rw [fuelR_eq]; omega) (by omega) hf.1]
      rfl) (by rw [sizeLine_eq]; simp only [List.length_nil]; omega), List.nil_append]
    rw [sortKP_map (Pf := P__law_holds__key) (e := ownD) (key := fun z : Tp => .str (S (textL z.1.2))) (fun z _ => by
      unfold P__law_holds__key
      rw [show ixP (ownD z) (.int 0) = .ok (.str (S (textL z.1.2))) from ixP_t0 _]
      rfl) (fun _ _ => rfl) (keysB_str (fun z : Tp => S (textL z.1.2)) _) (r := leT) (fun _ _ _ _ => rfl), PR.bind_ok]
    rw [show (dueL Q w).mergeSort leT = srtT (dueL Q w) from rfl]
    obtain ⟨xs, hx⟩ : ∃ xs, rng1P [.int 2] = .ok xs := ⟨_, rng1P_s (by decide : (-1000000 : Int) ≤ 2) (by decide)⟩
    rw [hx, PR.bind_ok]
    have hC4 : ∀ k : List D → Unit → PR D, lcK C4__law_holds ((srtT (dueL Q w)).map ownD) () [] k = k ((srtT (dueL Q w)).map fun z => enc z.1.2) () := fun k => by
      rw [lcK_mapE (f := fun z : Tp => enc z.1.2) (fun z _ => by
        unfold C4__law_holds
        rw [show ixP (ownD z) (.int 1) = .ok (enc z.1.2) from ixP_t1 _ _]
        rfl) (by rw [sizeLine_eq]; simp only [List.length_nil]; omega), List.nil_append]
    have hC7 : ∀ k : List D → Unit → PR D, lcK C7__law_holds ((srtT (dueL Q w)).map ownD) () [] k = k ((srtT (dueL Q w)).map fun z => enc z.1.2) () := fun k => by
      rw [lcK_mapE (f := fun z : Tp => enc z.1.2) (fun z _ => by
        unfold C7__law_holds
        rw [show ixP (ownD z) (.int 1) = .ok (enc z.1.2) from ixP_t1 _ _]
        rfl) (by rw [sizeLine_eq]; simp only [List.length_nil]; omega), List.nil_append]
    have shL : SeqAt.shaped (.tuple [sTold, .list ((srtT (dueL Q w)).map fun z => enc z.1.2)]) = true := by
      have := lay_map (e := fun z : Tp => enc z.1.2) (n := 6) (l := srtT (dueL Q w)) fun z hz => enc_lay (H.f z (due_mem (srt_mem.mp hz)).1)
      exact sh_tup2 told_lay.1 (by simpa [PyData.canLay0] using this.1) told_lay.2 (by simp only [PyData.depth]; omega)
    rw [foldK_unit (fun x _ kn kb => by
      unfold S3__law_holds
      rw [told_none H hw, if_neg he, PR.bind_ok, itemsP_list, PR.bind_ok, hC4]
      unfold borrowK
      rw [show (PyData.tuple [(.str (Str.ofString "told")), (.list ((srtT (dueL Q w)).map fun z => enc z.1.2))]) = .tuple [sTold, .list ((srtT (dueL Q w)).map fun z => enc z.1.2)] from rfl, if_pos (by rw [shL]; rfl), if_pos (eqv_self _ (shaped_iff.mp shL).1)]
      rfl)]
    rw [itemsP_list, PR.bind_ok, foldK_unit (fun x hx kn kb => by
      obtain ⟨z, hz, rfl⟩ := List.mem_map.mp hx
      have hz := srt_mem.mp hz
      unfold S5__law_holds ownD
      dsimp only [ptup, pcons, pnil]
      rw [told_form H hw hz, PR.bind_ok, show (PyData.tuple [(.str (Str.ofString "told")), TM.encT z.2]) = .tuple [sTold, TM.encT z.2] from rfl, eqP_self (by
        have := H.t z (due_mem hz).1
        exact sh_tup2 told_lay.1 this.1 told_lay.2 (by omega))]
      rfl)]
    rw [itemsP_list, PR.bind_ok, foldK_unit (fun x hx kn kb => by
      obtain ⟨g, hgm, rfl⟩ := List.mem_map.mp hx
      have hgw := hg g hgm
      unfold S6__law_holds
      have e : ((srtT (dueL Q w)).map fun z : Tp => enc z.1.2) = ((srtT (dueL Q w)).map fun z : Tp => z.1.2).map enc := by rw [List.map_map]; rfl
      rw [itemsP_list, PR.bind_ok, hC7, e, inP_encs ⟨hgw.1, by omega⟩ (fun f hf => by
        obtain ⟨z, hz, rfl⟩ := List.mem_map.mp hf
        have := H.f z (due_mem (srt_mem.mp hz)).1
        exact ⟨this.1, by omega⟩), PR.bind_ok, ptb_bool]
      by_cases h : g ∈ (srtT (dueL Q w)).map (fun z : Tp => z.1.2)
      · rw [decide_eq_true h]; rfl
      · rw [decide_eq_false h, if_pos (by decide), told_other H hw he hgw (fun q => h (by
          obtain ⟨z, hz, e⟩ := List.mem_map.mp q
          exact List.mem_map.mpr ⟨z, srt_mem.mpr hz, e⟩)), PR.bind_ok, show (PyData.tuple [(.str (Str.ofString "form")), .none]) = .tuple [sForm, .none] from rfl, eqP_self (sh_tup2 form_lay.1 rfl form_lay.2 (by decide))]
        rfl)]
end
end K25
set_option Elab.async false
set_option linter.all false
set_option maxRecDepth 100000
set_option maxHeartbeats 1000000
namespace K25
open PySem L2 M
variable [HasW]
/-! ### k25: the law -/
theorem script3 (ns : List Int) : ∃ (s0 s1 s2 : Int) (r : List Int), ((slP (.list (ns.map .int)) none (some 40)).bind fun z2 => (lenP [(.list (ns.map PyData.int))]).bind fun z3 => (subP (.int 3) z3).bind fun z4 => (maxP2 [(.int 0), z4]).bind fun z5 => (repP (.list [(.int 0)]) z5).bind fun z6 => addP z2 z6) = .ok (.list ((s0 :: s1 :: s2 :: r).map PyData.int)) := by
  match ns with
  | [] => exact ⟨0, 0, 0, [], by
      rw [slP_list, PR.bind_ok, cutD_take (by decide), lenP_list, PR.bind_ok, subP_int, PR.bind_ok, show maxP2 [(.int 0), .int (3 - (((([] : List Int).map PyData.int).length : Nat) : Int))] = .ok (.int 3) from rfl, PR.bind_ok, repP_s (by decide) (by decide) (by rw [sizeLine_eq]; decide), PR.bind_ok, addP_list (by rw [sizeLine_eq]; decide)]
      rfl⟩
  | [a] => exact ⟨a, 0, 0, [], by
      rw [slP_list, PR.bind_ok, cutD_take (by decide), lenP_list, PR.bind_ok, subP_int, PR.bind_ok, show maxP2 [(.int 0), .int (3 - (((([a] : List Int).map PyData.int).length : Nat) : Int))] = .ok (.int 2) from rfl, PR.bind_ok, repP_s (by decide) (by decide) (by rw [sizeLine_eq]; decide), PR.bind_ok, addP_list (by rw [sizeLine_eq]; simp)]
      rfl⟩
  | [a, b] => exact ⟨a, b, 0, [], by
      rw [slP_list, PR.bind_ok, cutD_take (by decide), lenP_list, PR.bind_ok, subP_int, PR.bind_ok, show maxP2 [(.int 0), .int (3 - (((([a, b] : List Int).map PyData.int).length : Nat) : Int))] = .ok (.int 1) from rfl, PR.bind_ok, repP_s (by decide) (by decide) (by rw [sizeLine_eq]; decide), PR.bind_ok, addP_list (by rw [sizeLine_eq]; simp)]
      rfl⟩
  | a :: b :: c :: r => exact ⟨a, b, c, r.take 37, by
      have hm : maxP2 [(.int 0), .int (3 - (((((a :: b :: c :: r) : List Int).map PyData.int).length : Nat) : Int))] = .ok (.int 0) := by
        show PR.ok (PyData.int (maxI 0 _)) = _
        unfold maxI
        rw [if_neg (by simp; omega)]
      rw [slP_list, PR.bind_ok, cutD_take (by decide), lenP_list, PR.bind_ok, subP_int, PR.bind_ok, hm, PR.bind_ok, repP_s (by decide) (by decide) (by rw [sizeLine_eq]; decide), PR.bind_ok, addP_list (by rw [sizeLine_eq, List.length_take]; simp; omega)]
      simp⟩
theorem slTk {l : List Nat} (h : l.length < 9000) (i : Nat) : slP (.str (S l)) none (some (i : Int)) = .ok (.str (S (l.take i))) := by
  rw [slP_str (by rw [sizeLine_eq]; omega), cutS_take (by omega), Int.toNat_natCast]
theorem slDr {l : List Nat} (h : l.length < 9000) (i : Nat) : slP (.str (S l)) (some (i : Int)) none = .ok (.str (S (l.drop i))) := by
  rw [slP_str (by rw [sizeLine_eq]; omega), cutS_drop (by omega), Int.toNat_natCast]
theorem rowsOk {bs p : List (List Nat)} {ns : List (List Nat × TM.Ki)} {Q : List Tp} (hb : ∀ w ∈ bs, isW w) (I : BkI bs p 14 ns Q) : RowsOk Q where
  l := Nat.le_trans I.ql (by decide)
  w := fun z hz => (I.qw z hz).1.okC
  f := fun z hz => ⟨bsF_wf hb (I.qw z hz).2.1, (I.qw z hz).2.2.1⟩
  t := fun z hz => by
    have M := (I.qw z hz).2.2.2
    refine ⟨TM.lay_T z.2 M.wf, ?_⟩
    have := TM.depth_rd z.2 M.rd
    have := M.dp
    omega
  d := I.qd
theorem okC_tk {l : List Nat} (h : okC l = true) (i : Nat) : okC (l.take i) = true := by
  unfold okC at h ⊢
  rw [List.all_eq_true] at h ⊢
  exact fun x hx => h x (List.mem_of_mem_take hx)
theorem okC_dr {l : List Nat} (h : okC l = true) (i : Nat) : okC (l.drop i) = true := by
  unfold okC at h ⊢
  rw [List.all_eq_true] at h ⊢
  exact fun x hx => h x (List.mem_of_mem_drop hx)
theorem abc_s : Str.ofString "abcdefgh" = S [97, 98, 99, 100, 101, 102, 103, 104] := by decide +kernel
theorem abc_at {i : Int} (h : 0 ≤ i) (h' : i < 8) : ∃ c : Nat, okC [c] = true ∧ ixP (.str (Str.ofString "abcdefgh")) (.int i) = .ok (.str (S [c])) := by
  have : i = 0 ∨ i = 1 ∨ i = 2 ∨ i = 3 ∨ i = 4 ∨ i = 5 ∨ i = 6 ∨ i = 7 := by omega
  rcases this with rfl | rfl | rfl | rfl | rfl | rfl | rfl | rfl
  · exact ⟨97, by decide, by rw [abc_s]; exact ixP_str (by rw [sizeLine_eq]; decide) rfl⟩
  · exact ⟨98, by decide, by rw [abc_s]; exact ixP_str (by rw [sizeLine_eq]; decide) rfl⟩
  · exact ⟨99, by decide, by rw [abc_s]; exact ixP_str (by rw [sizeLine_eq]; decide) rfl⟩
  · exact ⟨100, by decide, by rw [abc_s]; exact ixP_str (by rw [sizeLine_eq]; decide) rfl⟩
  · exact ⟨101, by decide, by rw [abc_s]; exact ixP_str (by rw [sizeLine_eq]; decide) rfl⟩
  · exact ⟨102, by decide, by rw [abc_s]; exact ixP_str (by rw [sizeLine_eq]; decide) rfl⟩
  · exact ⟨103, by decide, by rw [abc_s]; exact ixP_str (by rw [sizeLine_eq]; decide) rfl⟩
  · exact ⟨104, by decide, by rw [abc_s]; exact ixP_str (by rw [sizeLine_eq]; decide) rfl⟩
theorem allP_all {α : Type} (l : List α) : allP [.list (l.map fun _ => PyData.bool true)] = .ok (.bool true) := by
  have d : dBools (l.map fun _ => PyData.bool true) = some (l.map fun _ => true) := by
    induction l with
    | nil => rfl
    | cons a l ih => rw [List.map_cons, dBools, ih]; rfl
  show lst1P _ _ _ = _
  unfold lst1P
  simp only [d]
  simp
theorem ix_int {xs : List Int} {k : Nat} {x : Int} (h : xs[k]? = some x) : ixP (.list (xs.map .int)) (.int (k : Int)) = .ok (.int x) := by
  refine ixP_list ?_
  rw [atI_cast, List.getElem?_map, h]
  rfl
theorem sts_app (a b : List (List Nat)) : sts (a ++ b) = sts a ++ sts b := by unfold sts; rw [List.map_append]
theorem law_P : ∀ ns : List Int, ns.length ≤ 63 → P_law (ns.map .int) = .ok (.bool true) := by
  intro ns _
  obtain ⟨s0, s1, s2, r, hs⟩ := script3 ns
  obtain ⟨bs, pool, p, ns0, Q, b1, b2, b3, b4, b5, b6, b7, b8, b9, b10, b11⟩ := P_lbook s0 s1 (s2 :: r)
  have H := rowsOk b3 b10
  have key : ∀ K : D → PR D, ((slP (.list (ns.map .int)) none (some 40)).bind fun z2 => (lenP [(.list (ns.map PyData.int))]).bind fun z3 => (subP (.int 3) z3).bind fun z4 => (maxP2 [(.int 0), z4]).bind fun z5 => (repP (.list [(.int 0)]) z5).bind fun z6 => (addP z2 z6).bind K) = K (.list ((s0 :: s1 :: s2 :: r).map PyData.int)) := fun K => by
    have assoc : ∀ (a : PR D) (f : D → PR D), (a.bind f).bind K = a.bind fun x => (f x).bind K := fun a f => by cases a <;> rfl
    have := congrArg (fun x => PR.bind x K) hs
    simp only [assoc, PR.bind_ok] at this
    exact this
  obtain ⟨xs, hx, hsp⟩ := P_spread s2 16 (by decide)
  obtain ⟨x0, x1, x2, x3, xr, rfl⟩ : ∃ x0 x1 x2 x3 xr, xs = x0 :: x1 :: x2 :: x3 :: xr := by
    match xs, hx with
    | x0 :: x1 :: x2 :: x3 :: xr, _ => exact ⟨x0, x1, x2, x3, xr, rfl⟩
  have hl14 := b10.ql
  obtain ⟨ws, hws⟩ : ∃ ws : List (List Nat), ws = Q.map (fun z => z.1.1) ++ [[119], []] := ⟨_, rfl⟩
  have hwl : ws.length = Q.length + 2 := by rw [hws]; simp
  have hwo : ∀ w ∈ ws, okC w = true ∧ w.length ≤ 8 := fun w hw => by
    rw [hws] at hw
    rcases List.mem_append.mp hw with h | h
    · obtain ⟨z, hz, rfl⟩ := List.mem_map.mp h
      have := (b10.qw z hz).1
      exact ⟨this.okC, this.hi⟩
    · rcases List.mem_cons.mp h with rfl | h
      · decide
      · rw [List.mem_singleton.mp h]; decide
  unfold P_law
  rw [pti_int, key, ptl_list, b11, PR.bind_ok, rows_at, PR.bind_ok, itemsP_tup, PR.bind_ok, lcK_mapE (f := fun z : Tp => .str (S z.1.1)) (fun z _ => by
    unfold C1_law
    rw [show ixP (trD z) (.int 0) = .ok (.str (S z.1.1)) from ixP_t0 _]
    rfl) (by rw [sizeLine_eq]; simp only [List.length_nil]; omega), List.nil_append]
  have e19 : addP (.list (Q.map fun z => PyData.str (S z.1.1))) (.list [(.str (Str.ofString "w")), (.str (Str.ofString ""))]) = .ok (.list (sts ws)) := by
    rw [addP_list (by rw [sizeLine_eq]; simp; omega), hws, sts_app, show Str.ofString "w" = S [119] by decide +kernel, show Str.ofString "" = S [] by decide +kernel]
    unfold sts
    rw [List.map_map]
    rfl
  rw [e19, PR.bind_ok, show ixP (.list ((s0 :: s1 :: s2 :: r).map PyData.int)) (.int 2) = .ok (.int s2) from ix_int (k := 2) rfl, PR.bind_ok]
  have hsp : P__law_spread (.int s2) (.int 16) = .ok (.list ((x0 :: x1 :: x2 :: x3 :: xr).map .int)) := hsp
  rw [hsp, PR.bind_ok, show ixP (.list ((x0 :: x1 :: x2 :: x3 :: xr).map PyData.int)) (.int 0) = .ok (.int x0) from ix_int (k := 0) rfl, PR.bind_ok, lenP_list, PR.bind_ok, sts_len, modP_s (by omega), PR.bind_ok]
  obtain ⟨w, hw, ew⟩ := sts_at (ws := ws) (i := x0 % (ws.length : Int)) (Int.emod_nonneg _ (by omega)) (Int.emod_lt_of_pos _ (by omega))
  obtain ⟨ow, lw⟩ := hwo w hw
  rw [ew, PR.bind_ok, show ixP (.list ((x0 :: x1 :: x2 :: x3 :: xr).map PyData.int)) (.int 1) = .ok (.int x1) from ix_int (k := 1) rfl, PR.bind_ok, lenP_str (by rw [sizeLine_eq]; omega), PR.bind_ok, addSP_int, PR.bind_ok, modP_s (by omega), PR.bind_ok, pti_int]
  obtain ⟨at', hat⟩ : ∃ a : Nat, x1 % ((w.length : Int) + 1) = (a : Int) := ⟨(x1 % ((w.length : Int) + 1)).toNat, by have := Int.emod_nonneg x1 (show (w.length : Int) + 1 ≠ 0 by omega); omega⟩
  have hal : at' ≤ w.length := by have := Int.emod_lt_of_pos x1 (show (0 : Int) < (w.length : Int) + 1 by omega); omega
  rw [hat, slP_list, PR.bind_ok, cutD_take (by decide), pti_int, slTk (by omega), PR.bind_ok, show ixP (.list ((x0 :: x1 :: x2 :: x3 :: xr).map PyData.int)) (.int 2) = .ok (.int x2) from ix_int (k := 2) rfl, PR.bind_ok, modP_s (by decide), PR.bind_ok]
  obtain ⟨c, oc, ec⟩ := abc_at (i := x2 % 8) (by omega) (by omega)
  have lt : (w.take at').length ≤ 8 := by rw [List.length_take]; omega
  have ld : ∀ k, (w.drop k).length ≤ 8 := fun k => by rw [List.length_drop]; omega
  rw [ec, PR.bind_ok, addP_str (by rw [sizeLine_eq]; simp only [List.length_cons, List.length_nil]; omega), PR.bind_ok, pti_int, slDr (by omega), PR.bind_ok, addP_str (by have := ld at'; rw [sizeLine_eq, List.length_append]; simp only [List.length_cons, List.length_nil]; omega), PR.bind_ok, pti_int, slTk (by omega), PR.bind_ok, addSP_int, PR.bind_ok, pti_int,
    show ((at' : Int) + 1) = ((at' + 1 : Nat) : Int) by omega, slDr (by omega), PR.bind_ok, addP_str (by have := ld (at' + 1); rw [sizeLine_eq]; omega), PR.bind_ok]
  obtain ⟨vs, hvs⟩ : ∃ vs : List (List Nat), vs = ws.take 8 ++ [w.take at' ++ [c] ++ w.drop at', w.take at' ++ w.drop (at' + 1), []] := ⟨_, rfl⟩
  have hvo : ∀ v ∈ vs, okC v = true := fun v hv => by
    rw [hvs] at hv
    rcases List.mem_append.mp hv with h | h
    · exact (hwo v (List.mem_of_mem_take h)).1
    · simp only [List.mem_cons, List.not_mem_nil, or_false] at h
      rcases h with rfl | rfl | rfl
      · exact okC_app (okC_app (okC_tk ow _) oc) (okC_dr ow _)
      · exact okC_app (okC_tk ow _) (okC_dr ow _)
      · decide
  have hvl : vs.length ≤ 11 := by
    have := List.length_take_le 8 ws
    rw [hvs, List.length_append]
    simp only [List.length_cons, List.length_nil]
    omega
  have e47 : addP (.list ((sts ws).take (8 : Int).toNat)) (.list [(.str (S (w.take at' ++ [c] ++ w.drop at'))), (.str (S (w.take at' ++ w.drop (at' + 1)))), (.str (Str.ofString ""))]) = .ok (.list (sts vs)) := by
    rw [addP_list (by have := List.length_take_le 8 (sts ws); rw [sizeLine_eq]; simp only [List.length_cons, List.length_nil]; show (List.take 8 (sts ws)).length + 3 ≤ _; omega), hvs, sts_app, show Str.ofString "" = S [] by decide +kernel]
    unfold sts
    rw [← List.map_take]
    rfl
  rw [e47, PR.bind_ok, pti_int, slP_list, PR.bind_ok, cutD_drop (by decide), ptl_list, show ixP (bkD bs ns0 Q) (.int 0) = .ok (.tuple (sts bs)) from ixP_t0 _, PR.bind_ok, show listP [.tuple (sts bs)] = .ok (.list (sts bs)) from rfl, PR.bind_ok,
    show ixP (.list ((x0 :: x1 :: x2 :: x3 :: xr).map PyData.int)) (.int 3) = .ok (.int x3) from ix_int (k := 3) rfl, PR.bind_ok, modP_s (by decide), PR.bind_ok, addSP_int, PR.bind_ok]
  obtain ⟨m, hm⟩ : ∃ m : Nat, 1 + x3 % 6 = (m : Int) := ⟨(1 + x3 % 6).toNat, by omega⟩
  obtain ⟨f, cs', fb, fsz, ef⟩ := P_form (ws := bs) (by omega) fuelR m (by omega) (by rw [fuelR_eq]; omega) (x3 :: xr)
  have ef : P__law_form fuelR (((x0 :: x1 :: x2 :: x3 :: xr).map PyData.int).drop (3 : Int).toNat) (.list (sts bs)) (.int (m : Int)) = .ok (enc f, cs'.map .int) := ef
  rw [hm, ef, PR.bind_ok, PR.bind_ok, itemsP_tup, PR.bind_ok, lcK_mapE (f := fun z : Tp => enc z.1.2) (fun z _ => by
    unfold C2_law
    rw [show ixP (trD z) (.int 1) = .ok (enc z.1.2) from ixP_t1 _ _]
    rfl) (by rw [sizeLine_eq]; simp only [List.length_nil]; omega), List.nil_append]
  have e70 : addP (.list [enc f]) (.list (Q.map fun z : Tp => enc z.1.2)) = .ok (.list ((f :: Q.map fun z : Tp => z.1.2).map enc)) := by
    rw [addP_list (by rw [sizeLine_eq]; simp; omega)]
    simp
  show ((addP (.list [enc f]) (.list (Q.map fun z : Tp => enc z.1.2))).bind _) = _
  rw [e70, PR.bind_ok, itemsP_list, PR.bind_ok]
  unfold sts
  rw [lcK_mapE (f := fun _ : List Nat => PyData.bool true) (fun v hv => by
    unfold C3_law
    rw [holds_ok H (hvo v hv) (fun g hg => by
      rcases List.mem_cons.mp hg with rfl | h
      · exact ⟨bsF_wf b3 fb, by omega⟩
      · obtain ⟨z, hz, rfl⟩ := List.mem_map.mp h
        exact H.f z hz) (by simp)]
    rfl) (by rw [sizeLine_eq]; simp only [List.length_nil]; omega), List.nil_append, allP_all]
  rfl
end K25
set_option Elab.async false
set_option linter.all false
set_option maxRecDepth 100000
set_option maxHeartbeats 4000000
namespace K25
open PySem L2 M
variable [HasW]
def top (i : Nat) : Stmt := PySem.Challenge.pw_slashwise_k25_forms_and_meanings_of_word.main.body.getD i (.Pass ⟨0, 0, 0, 0⟩)
def qLam : Str := (Str.ofString "_law_holds" ++ ".<locals>.") ++ "<lambda>"
def nmL (_ _ : Nat) : Str := qLam
set_option genInjectivity false
set_option genSizeOf false
structure Txt (K : PySem.W.Frag) (mg : Str → Option Value) (base : Heap) where
  ad_show_form : Addr
  fd_show_form : FuncData
  fn_show_form : Fun K "show_form" "show_form" (top 12) ad_show_form fd_show_form
  bn_show_form : Binds K fd_show_form ["form"] []
  gl_show_form : mg "show_form" = some (.ref ad_show_form)
  ad_forms_of : Addr
  fd_forms_of : FuncData
  fn_forms_of : Fun K "forms_of" "forms_of" (top 14) ad_forms_of fd_forms_of
  bn_forms_of : Binds K fd_forms_of ["book", "word"] []
  gl_forms_of : mg "forms_of" = some (.ref ad_forms_of)
  ad_term_of : Addr
  fd_term_of : FuncData
  fn_term_of : Fun K "term_of" "term_of" (top 15) ad_term_of fd_term_of
  bn_term_of : Binds K fd_term_of ["book", "word", "form"] []
  gl_term_of : mg "term_of" = some (.ref ad_term_of)
  ad__law_take : Addr
  fd__law_take : FuncData
  fn__law_take : Fun K "_law_take" "_law_take" (top 17) ad__law_take fd__law_take
  bn__law_take : Binds K fd__law_take ["_law_cells", "_law_many"] []
  gl__law_take : mg "_law_take" = some (.ref ad__law_take)
  ad__law_names : Addr
  fd__law_names : FuncData
  fn__law_names : Fun K "_law_names" "_law_names" (top 18) ad__law_names fd__law_names
  bn__law_names : Binds K fd__law_names ["_law_cell", "_law_many"] []
  gl__law_names : mg "_law_names" = some (.ref ad__law_names)
  ad__law_form : Addr
  fd__law_form : FuncData
  fn__law_form : Fun K "_law_form" "_law_form" (top 19) ad__law_form fd__law_form
  bn__law_form : Binds K fd__law_form ["_law_cells", "_law_basics", "_law_left"] []
  gl__law_form : mg "_law_form" = some (.ref ad__law_form)
  ad__law_spread : Addr
  fd__law_spread : FuncData
  fn__law_spread : Fun K "_law_spread" "_law_spread" (top 20) ad__law_spread fd__law_spread
  bn__law_spread : Binds K fd__law_spread ["_law_cell", "_law_many"] []
  gl__law_spread : mg "_law_spread" = some (.ref ad__law_spread)
  ad__law_kind : Addr
  fd__law_kind : FuncData
  fn__law_kind : Fun K "_law_kind" "_law_kind" (top 21) ad__law_kind fd__law_kind
  bn__law_kind : Binds K fd__law_kind ["_law_form_here"] []
  gl__law_kind : mg "_law_kind" = some (.ref ad__law_kind)
  ad__law_wanted : Addr
  fd__law_wanted : FuncData
  fn__law_wanted : Fun K "_law_wanted" "_law_wanted" (top 22) ad__law_wanted fd__law_wanted
  bn__law_wanted : Binds K fd__law_wanted ["_law_kind_here"] []
  gl__law_wanted : mg "_law_wanted" = some (.ref ad__law_wanted)
  ad__law_of_two : Addr
  fd__law_of_two : FuncData
  fn__law_of_two : Fun K "_law_of_two" "_law_of_two" (top 23) ad__law_of_two fd__law_of_two
  bn__law_of_two : Binds K fd__law_of_two ["_law_name", "_law_kinds", "_law_rest", "_law_one", "_law_other"] []
  gl__law_of_two : mg "_law_of_two" = some (.ref ad__law_of_two)
  ad__law_body : Addr
  fd__law_body : FuncData
  fn__law_body : Fun K "_law_body" "_law_body" (top 24) ad__law_body fd__law_body
  bn__law_body : Binds K fd__law_body ["_law_kinds", "_law_rest", "_law_name", "_law_cell"] []
  gl__law_body : mg "_law_body" = some (.ref ad__law_body)
  ad__law_meaning : Addr
  fd__law_meaning : FuncData
  fn__law_meaning : Fun K "_law_meaning" "_law_meaning" (top 25) ad__law_meaning fd__law_meaning
  bn__law_meaning : Binds K fd__law_meaning ["_law_form_here", "_law_name", "_law_cell"] []
  gl__law_meaning : mg "_law_meaning" = some (.ref ad__law_meaning)
  ad__law_form_text : Addr
  fd__law_form_text : FuncData
  fn__law_form_text : Fun K "_law_form_text" "_law_form_text" (top 27) ad__law_form_text fd__law_form_text
  bn__law_form_text : Binds K fd__law_form_text ["_law_form_here"] []
  gl__law_form_text : mg "_law_form_text" = some (.ref ad__law_form_text)
  ad__law_book : Addr
  fd__law_book : FuncData
  fn__law_book : Fun K "_law_book" "_law_book" (top 29) ad__law_book fd__law_book
  bn__law_book : Binds K fd__law_book ["_law_script"] []
  gl__law_book : mg "_law_book" = some (.ref ad__law_book)
  ad__law_alone : Addr
  fd__law_alone : FuncData
  fn__law_alone : Fun K "_law_alone" "_law_alone" (top 31) ad__law_alone fd__law_alone
  bn__law_alone : Binds K fd__law_alone ["_law_e"] []
  gl__law_alone : mg "_law_alone" = some (.ref ad__law_alone)
  ad__law_told : Addr
  fd__law_told : FuncData
  fn__law_told : Fun K "_law_told" "_law_told" (top 32) ad__law_told fd__law_told
  bn__law_told : Binds K fd__law_told ["_law_book_here", "_law_word", "_law_form_here"] []
  gl__law_told : mg "_law_told" = some (.ref ad__law_told)
  ad__law_holds : Addr
  fd__law_holds : FuncData
  fn__law_holds : Fun K "_law_holds" "_law_holds" (top 33) ad__law_holds fd__law_holds
  bn__law_holds : Binds K fd__law_holds ["_law_book_here", "_law_word", "_law_forms"] []
  gl__law_holds : mg "_law_holds" = some (.ref ad__law_holds)
  ad_law : Addr
  fd_law : FuncData
  fn_law : Fun K "law" "law" (top 34) ad_law fd_law
  bn_law : Binds K fd_law ["_law_script"] []
  gl_law : mg "law" = some (.ref ad_law)
  z_ValueError : mg "ValueError" = none
  z_all : mg "all" = none
  z_enumerate : mg "enumerate" = none
  z_isinstance : mg "isinstance" = none
  z_len : mg "len" = none
  z_list : mg "list" = none
  z_max : mg "max" = none
  z_range : mg "range" = none
  z_sorted : mg "sorted" = none
  z_str : mg "str" = none
  z_tuple : mg "tuple" = none
  xc_SlashError : XC K mg "SlashError"
  xc_NoForm : XC K mg "NoForm"
  xc_NoWord : XW K mg "NoWord"
  fdi_NoWord : FuncData
  fni_NoWord : Fun K "__init__" "NoWord.__init__" (inClass (top 9) 0) xc_NoWord.fI fdi_NoWord
  bi_NoWord : Binds K fdi_NoWord ["self", "word", "place"] []
  nf_NoWord_word : PySem.W.findIn K (.ref xc_NoWord.C) "word" = some none
  nf_NoWord_place : PySem.W.findIn K (.ref xc_NoWord.C) "place" = some none
  in_SlashError : InC K xc_SlashError.C
  cn_Twice : Addr
  cng_Twice : mg "Twice" = some (.ref cn_Twice)
  cn_NoTerm : Addr
  cng_NoTerm : mg "NoTerm" = some (.ref cn_NoTerm)
  cn_NoRow : Addr
  cng_NoRow : mg "NoRow" = some (.ref cn_NoRow)
  cn_NoReading : Addr
  cng_NoReading : mg "NoReading" = some (.ref cn_NoReading)
  cn_NoKind : Addr
  cng_NoKind : mg "NoKind" = some (.ref cn_NoKind)
  cn_NoBasic : Addr
  cng_NoBasic : mg "NoBasic" = some (.ref cn_NoBasic)
  cn_Misfit : Addr
  cng_Misfit : mg "Misfit" = some (.ref cn_Misfit)
  cn_NoForm : Addr
  cng_NoForm : mg "NoForm" = some (.ref cn_NoForm)
  cn_NoWord : Addr
  cng_NoWord : mg "NoWord" = some (.ref cn_NoWord)
  ec_NoWord : ExcC K xc_NoWord.C
  xi_NoWord_0 : PySem.W.kitAny K (.ref xc_NoWord.C) [.ref cn_Misfit, .ref cn_NoBasic, .ref cn_NoKind, .ref cn_NoReading, .ref cn_NoRow, .ref cn_NoTerm, .ref cn_Twice] = some false
  xi_NoWord_1 : PySem.W.kitAny K (.ref xc_NoWord.C) [.type "ValueError"] = some true
  xi_NoWord_2 : PySem.W.kitAny K (.ref xc_NoWord.C) [.ref cn_NoForm] = some false
  xi_NoWord_3 : PySem.W.kitAny K (.ref xc_NoWord.C) [.ref cn_NoWord] = some true
  ec_NoForm : ExcC K xc_NoForm.C
  xi_NoForm_0 : PySem.W.kitAny K (.ref xc_NoForm.C) [.ref cn_Misfit, .ref cn_NoBasic, .ref cn_NoKind, .ref cn_NoReading, .ref cn_NoRow, .ref cn_NoTerm, .ref cn_Twice] = some false
  xi_NoForm_1 : PySem.W.kitAny K (.ref xc_NoForm.C) [.type "ValueError"] = some true
  xi_NoForm_2 : PySem.W.kitAny K (.ref xc_NoForm.C) [.ref cn_NoForm] = some true
  xi_NoForm_3 : PySem.W.kitAny K (.ref xc_NoForm.C) [.ref cn_NoWord] = some false
  xm_NoWord_SlashError : PySem.W.exmOne K (.ref xc_NoWord.C) (.ref xc_SlashError.C) = some true
  xm_NoForm_SlashError : PySem.W.exmOne K (.ref xc_NoForm.C) (.ref xc_SlashError.C) = some true
  cu_s : Addr
  pu_s : Addr
  cod_s : fd__law_holds.code = .ref cu_s
  tb_s : LamX.TabB base mg cu_s pu_s
  hw : HasW.tabs = [(cu_s, pu_s)].map fun p => (p.2, nmL)
section
variable {P : Program} {K : PySem.W.Frag} {mg : Str → Option Value} {base : Heap}
theorem sci_NoWord : FnScope ["self", "word", "place"] ["self", "word", "place"] (defScope (inClass (top 9) 0)) := ⟨rfl, rfl, rfl, by decide +kernel, rfl, by decide +kernel, by decide +kernel⟩
theorem oki_NoWord (T : Txt K mg base) {k : Nat} : FnOk P HasW.w K mg base (L2.CX P HasW.w) (k + 1) T.xc_NoWord.fI T.fdi_NoWord ["self", "word", "place"] (sp2 T.xc_NoWord.C "word" "place") :=
  okI2 T.fni_NoWord sci_NoWord T.xc_NoWord.oex T.nf_NoWord_word T.nf_NoWord_place fun cdv A outer s H E => pss_cons (ps_expr (pe_oinit (by rfl) T.xc_SlashError.g T.in_SlashError (pa_cons (pv 0) (pa_cons pe_str pa_nil)))) (pss_cons (ps_ost (pv 0) (pv 1)) (pss_one (ps_ost (pv 0) (pv 2))))
abbrev N_show_form : List Str := ["form", "right"]
theorem sc_show_form : FnScope N_show_form ["form"] (defScope (top 12)) := ⟨rfl, rfl, rfl, by decide +kernel, rfl, by decide +kernel, by decide +kernel⟩
theorem st_show_form (T : Txt K mg base) {n : Nat} (ih_show_form : FnOk P HasW.w K mg base (L2.CX P HasW.w) (n + 0) T.ad_show_form T.fd_show_form ["form"] (SpM K mg 1 (F_show_form n))) : FnOk P HasW.w K mg base (L2.CX P HasW.w) (n + 0 + 1) T.ad_show_form T.fd_show_form ["form"] (SpM K mg 1 (F_show_form (n + 1))) :=
  okF T.fn_show_form sc_show_form fun cdv A outer s H E hr =>
    (mb_cons (ms_if (mt_cmp (op_eqD hr.units) eqW_ok (me_ix ix_seq ixW_ok (me_var 0) me_int) me_str) (mb_one (ms_ret (me_ix ix_seq ixW_ok (me_var 0) me_int))) mb_nil)
    (mb_cons (ms_set 1 sc_show_form.nd (me_frz (me_call (takes_of rfl rfl rfl rfl) ih_show_form hr T.gl_show_form T.fn_show_form.kp T.bn_show_form (by rfl) (ma_cons (me_ix ix_seq ixW_ok (me_var 0) me_int) ma_nil) (aCons_len aNil_len))))
    (mb_cons (ms_if (mt_cmp (op_neD hr.units) neW_ok (me_ix ix_seq ixW_ok (me_ix ix_seq ixW_ok (me_var 0) me_int) me_int) me_str) (mb_one (ms_set 1 sc_show_form.nd (me_op op_addS addAW_ok (me_op op_addS addAW_ok me_str (me_var 1)) me_str))) mb_nil)
    (mb_one (ms_ret (me_op op_addS addAW_ok (me_op op_addS addAW_ok (me_call (takes_of rfl rfl rfl rfl) ih_show_form hr T.gl_show_form T.fn_show_form.kp T.bn_show_form (by rfl) (ma_cons (me_ix ix_seq ixW_ok (me_var 0) me_int) ma_nil) (aCons_len aNil_len)) (me_ix ix_seq ixW_ok (me_var 0) me_int)) (me_var 1)))))))
theorem ok_show_form (T : Txt K mg base) : ∀ n : Nat, FnOk P HasW.w K mg base (L2.CX P HasW.w) (n + 0) T.ad_show_form T.fd_show_form ["form"] (SpM K mg 1 (F_show_form n))
  | 0 => okBad
  | n + 1 => (st_show_form T (ok_show_form T n)).mono (by omega)
abbrev N_forms_of : List Str := ["book", "word", "found", "other", "form", "term"]
theorem sc_forms_of : FnScope N_forms_of ["book", "word"] (defScope (top 14)) := ⟨rfl, rfl, rfl, by decide +kernel, rfl, by decide +kernel, by decide +kernel⟩
theorem ok_forms_of (T : Txt K mg base) : FnOk P HasW.w K mg base (L2.CX P HasW.w) (43) T.ad_forms_of T.fd_forms_of ["book", "word"] (SpM K mg 2 F_forms_of) :=
  okF T.fn_forms_of sc_forms_of fun cdv A outer s H E hr =>
    (mb_cons (ms_setLc 2 (own := [("other", 3), ("form", 4), ("term", 5)]) (cv := eFrz) cvFrz rfl sc_forms_of.nd (mi_seq (me_ix ix_seq ixW_ok (me_var 0) me_int)) (blkOk_by (own := [("other", 3), ("form", 4), ("term", 5)]) (N := N_forms_of) (sc := defScope (top 14)) (by decide +kernel)) (fun _ _ _ _ _ => (mg_tup rfl (mgs_cons (mg_name 3 sc_forms_of.nd) (mgs_cons (mg_name 4 sc_forms_of.nd) (mgs_cons (mg_name 5 sc_forms_of.nd) mgs_nil))))) (fun _ _ _ _ _ => (mts_one (mt_cmp (op_eqD hr.units) eqW_ok (me_var 3) (me_var 1)))) (fun _ _ _ _ _ => (me_var 4)) (sw_true rfl rfl rfl (by decide +kernel)))
    (mb_cons (ms_if (mt_cmp (op_eqD hr.units) eqW_ok (me_var 2) (me_lst ma_nil)) (mb_one (ms_raise2 rfl (takes_of rfl rfl rfl rfl) T.xc_NoWord.oex T.xc_NoWord.iC T.xc_NoWord.tI (oki_NoWord (k := 0) T) (hr.mono (by decide)) T.bi_NoWord (by rfl) T.xc_NoWord.g (ma_cons (me_var 1) (ma_cons me_int ma_nil)))) mb_nil)
    (mb_one (ms_ret (me_sortK (ok_show_form T 40) (hr.mono (by decide)) T.gl_show_form T.bn_show_form (by rfl) (by rfl) T.z_sorted (ma_cons (me_var 2) ma_nil))))))
abbrev N_term_of : List Str := ["book", "word", "form", "other", "own", "term"]
theorem sc_term_of : FnScope N_term_of ["book", "word", "form"] (defScope (top 15)) := ⟨rfl, rfl, rfl, by decide +kernel, rfl, by decide +kernel, by decide +kernel⟩
theorem ok_term_of (T : Txt K mg base) : FnOk P HasW.w K mg base (L2.CX P HasW.w) (44) T.ad_term_of T.fd_term_of ["book", "word", "form"] (SpM K mg 3 F_term_of) :=
  okF T.fn_term_of sc_term_of fun cdv A outer s H E hr =>
    (mb_cons (ms_if (mt_cmp (op_notInA (hu65 hr)) inW_ok (me_var 2) (me_call (takes_of rfl rfl rfl rfl) (ok_forms_of T) (hr.mono (by decide)) T.gl_forms_of T.fn_forms_of.kp T.bn_forms_of (by rfl) (ma_cons (me_var 0) (ma_cons (me_var 1) ma_nil)) (aCons_len (aCons_len aNil_len)))) (mb_one (ms_raise rfl (takes_of rfl rfl rfl rfl) T.xc_NoForm (by rfl))) mb_nil)
    (mb_one (ms_ret (me_ix ix_seq ixW_ok (me_lc (own := [("other", 3), ("own", 4), ("term", 5)]) rfl sc_term_of.nd (mi_seq (me_ix ix_seq ixW_ok (me_var 0) me_int)) (blkOk_by (own := [("other", 3), ("own", 4), ("term", 5)]) (N := N_term_of) (sc := defScope (top 15)) (by decide +kernel)) (fun _ _ _ _ _ => (mg_tup rfl (mgs_cons (mg_name 3 sc_term_of.nd) (mgs_cons (mg_name 4 sc_term_of.nd) (mgs_cons (mg_name 5 sc_term_of.nd) mgs_nil))))) (fun _ _ _ _ _ => (mts_one (MP.mt (mp_and (mt_cmp (op_eqD hr.units) eqW_ok (me_var 3) (me_var 1)) (mp_and1 (mt_cmp (op_eqD hr.units) eqW_ok (me_var 4) (me_var 2))))))) (fun _ _ _ _ _ => (me_var 5))) me_int))))
abbrev N__law_take : List Str := ["_law_cells", "_law_many"]
theorem sc__law_take : FnScope N__law_take ["_law_cells", "_law_many"] (defScope (top 17)) := ⟨rfl, rfl, rfl, by decide +kernel, rfl, by decide +kernel, by decide +kernel⟩
theorem ok__law_take (T : Txt K mg base) : FnOk P HasW.w K mg base (L2.CX P HasW.w) (1) T.ad__law_take T.fd__law_take ["_law_cells", "_law_many"] (SpM K mg 2 F__law_take) :=
  okF T.fn__law_take sc__law_take fun cdv A outer s H E hr =>
    (mb_cons (ms_if (mt_cmp (op_eqD hr.units) eqW_ok (me_var 0) (me_lst ma_nil)) (mb_one (ms_ret me_int)) mb_nil)
    (mb_one (ms_ret (me_op op_mod modW_ok (me_bm PySem.F.plainAttrs_list PySem.F.slot_list_pop PySem.F.type_list_pop mt_popAt popAtW_ok (me_var 0) (ma_cons me_int ma_nil)) (me_var 1)))))
abbrev N__law_names : List Str := ["_law_cell", "_law_many", "_law_letters", "_law_alike", "_law_size", "_law_at", "_law_number", "_law_found", "_law_k", "_law_own", "_law_long", "_law_word", "_law_j"]
theorem sc__law_names : FnScope N__law_names ["_law_cell", "_law_many"] (defScope (top 18)) := ⟨rfl, rfl, rfl, by decide +kernel, rfl, by decide +kernel, by decide +kernel⟩
theorem ok__law_names (T : Txt K mg base) : FnOk P HasW.w K mg base (L2.CX P HasW.w) (1) T.ad__law_names T.fd__law_names ["_law_cell", "_law_many"] (SpM K mg 2 F__law_names) :=
  okF T.fn__law_names sc__law_names fun cdv A outer s H E hr =>
    (mb_cons (ms_set 2 sc__law_names.nd me_str)
    (mb_cons (ms_set 3 sc__law_names.nd (me_cmp (op_eqD hr.units) eqW_ok (me_op op_mod modW_ok (me_var 0) me_int) me_int))
    (mb_cons (ms_set 4 sc__law_names.nd (me_op op_addS addAW_ok me_int (me_op op_mod modW_ok (me_op op_fdivW divW_ok (me_var 0) me_int) me_int)))
    (mb_cons (ms_set 5 sc__law_names.nd (me_op op_mod modW_ok (me_op op_fdivW divW_ok (me_var 0) me_int) (me_var 4)))
    (mb_cons (ms_set 6 sc__law_names.nd (me_op op_fdivW divW_ok (me_var 0) me_int))
    (mb_cons (ms_set 7 sc__law_names.nd (me_obj (me_lst ma_nil)))
    (mb_cons (ms_for (passes_of rfl) rfl (mi_range1 (by rfl) T.z_range (ma_cons (me_var 1) ma_nil)) (mg_name 8 sc__law_names.nd) (mb_cons (ms_set 9 sc__law_names.nd (me_var 6))
    (mb_cons (ms_set 10 sc__law_names.nd (me_var 4))
    (mb_cons (ms_if (mt_not (mt_tru (me_var 3))) (mb_cons (ms_set 10 sc__law_names.nd (me_op op_addS addAW_ok me_int (me_op op_mod modW_ok (me_var 6) me_int)))
    (mb_one (ms_set 9 sc__law_names.nd (me_op op_fdivW divW_ok (me_var 6) me_int)))) mb_nil)
    (mb_cons (ms_set 11 sc__law_names.nd (me_obj (me_lst ma_nil)))
    (mb_cons (ms_for (passes_of rfl) rfl (mi_range1 (by rfl) T.z_range (ma_cons (me_var 10) ma_nil)) (mg_name 12 sc__law_names.nd) (mb_cons (ms_expr (me_bm PySem.F.plainAttrs_list PySem.F.slot_list_append PySem.F.type_list_append mt_append appendW_ok (me_var 11) (ma_cons (me_ix ix_seq ixW_ok (me_var 2) (me_op op_mod modW_ok (me_var 9) me_int)) ma_nil)))
    (mb_one (ms_set 9 sc__law_names.nd (me_op op_fdivW divW_ok (me_var 9) me_int)))))
    (mb_cons (ms_if (mt_tru (me_var 3)) (mb_one (ms_setI (me_var 11) (me_var 5) (me_ix ix_seq ixW_ok (me_var 2) (me_op op_mod modW_ok (me_op op_addS addAW_ok (me_bm PySem.F.plainAttrs_str PySem.F.slot_str_index PySem.F.type_str_index mt_sindex sindexW_ok (me_var 2) (ma_cons (me_ix ix_seq ixW_ok (me_var 11) (me_var 5)) ma_nil)) (me_var 8)) me_int)))) (mb_one (ms_set 6 sc__law_names.nd (me_var 9))))
    (mb_cons (ms_while fuelW (passes_of rfl) (MP.mt (mp_or (mt_cmp (op_inA (hu65 hr)) inW_ok (me_bm PySem.F.plainAttrs_str PySem.F.slot_str_join PySem.F.type_str_join mt_join joinW_ok me_str (ma_cons (me_var 11) ma_nil)) (me_var 7)) (mp_or1 (mt_cmp (op_eqD hr.units) eqW_ok (me_var 11) (me_lst (ma_cons me_str (ma_cons me_str (ma_cons me_str ma_nil)))))))) (mb_one (ms_if (mt_cmp (op_eqD hr.units) eqW_ok (me_var 11) (me_lst (ma_cons me_str (ma_cons me_str (ma_cons me_str ma_nil))))) (mb_one (ms_set 11 sc__law_names.nd (me_obj (me_lst (ma_cons me_str (ma_cons me_str (ma_cons me_str ma_nil))))))) (mb_one (ms_setI (me_var 11) me_int (me_ix ix_seq ixW_ok (me_var 2) (me_op op_mod modW_ok (me_op op_addS addAW_ok (me_bm PySem.F.plainAttrs_str PySem.F.slot_str_index PySem.F.type_str_index mt_sindex sindexW_ok (me_var 2) (ma_cons (me_ix ix_seq ixW_ok (me_var 11) me_int) ma_nil)) me_int) me_int)))))))
    (mb_one (ms_expr (me_bm PySem.F.plainAttrs_list PySem.F.slot_list_append PySem.F.type_list_append mt_append appendW_ok (me_var 7) (ma_cons (me_bm PySem.F.plainAttrs_str PySem.F.slot_str_join PySem.F.type_str_join mt_join joinW_ok me_str (ma_cons (me_var 11) ma_nil)) ma_nil))))))))))))
    (mb_one (ms_ret (me_var 7))))))))))
abbrev N__law_form : List Str := ["_law_cells", "_law_basics", "_law_left", "_law_first", "_law_own", "_law_one"]
theorem sc__law_form : FnScope N__law_form ["_law_cells", "_law_basics", "_law_left"] (defScope (top 19)) := ⟨rfl, rfl, rfl, by decide +kernel, rfl, by decide +kernel, by decide +kernel⟩
theorem st__law_form (T : Txt K mg base) {n : Nat} (ih__law_form : FnOk P HasW.w K mg base (L2.CX P HasW.w) (n + 1) T.ad__law_form T.fd__law_form ["_law_cells", "_law_basics", "_law_left"] (SpM K mg 3 (F__law_form n))) : FnOk P HasW.w K mg base (L2.CX P HasW.w) (n + 1 + 1) T.ad__law_form T.fd__law_form ["_law_cells", "_law_basics", "_law_left"] (SpM K mg 3 (F__law_form (n + 1))) :=
  okF T.fn__law_form sc__law_form fun cdv A outer s H E hr =>
    (mb_cons (ms_set 3 sc__law_form.nd (me_frz (me_call (takes_of rfl rfl rfl rfl) (ok__law_take T) (hr.mono (by omega)) T.gl__law_take T.fn__law_take.kp T.bn__law_take (by rfl) (ma_cons (me_obj (me_var 0)) (ma_cons (me_op op_pow powW_ok me_int me_int) ma_nil)) (aCons_len (aCons_len aNil_len)))))
    (mb_cons (ms_if (MP.mt (mp_or (mt_cmp op_lt ltW_ok (me_var 2) me_int) (mp_or1 (mt_cmp (op_eqD hr.units) eqW_ok (me_op op_mod modW_ok (me_var 3) me_int) me_int)))) (mb_one (ms_ret (me_tup (ma_cons me_str (ma_cons (me_ix ix_seq ixW_ok (me_var 1) (me_op op_mod modW_ok (me_op op_fdivW divW_ok (me_var 3) me_int) (me_callB call_len lenW_ok (by rfl) T.z_len (ma_cons (me_var 1) ma_nil)))) ma_nil))))) mb_nil)
    (mb_cons (ms_set 4 sc__law_form.nd (me_op op_addS addAW_ok me_int (me_op op_mod modW_ok (me_op op_fdivW divW_ok (me_var 3) me_int) (me_op op_sub subW_ok (me_var 2) me_int))))
    (mb_cons (ms_set 5 sc__law_form.nd (me_frz (me_call (takes_of rfl rfl rfl rfl) ih__law_form hr T.gl__law_form T.fn__law_form.kp T.bn__law_form (by rfl) (ma_cons (me_obj (me_var 0)) (ma_cons (me_var 1) (ma_cons (me_var 4) ma_nil))) (aCons_len (aCons_len (aCons_len aNil_len))))))
    (mb_one (ms_ret (me_tup (ma_cons (me_ix ix_seq ixW_ok (me_lst (ma_cons me_str (ma_cons me_str ma_nil))) (me_op op_mod modW_ok (me_op op_fdivW divW_ok (me_var 3) me_int) me_int)) (ma_cons (me_var 5) (ma_cons (me_frz (me_call (takes_of rfl rfl rfl rfl) ih__law_form hr T.gl__law_form T.fn__law_form.kp T.bn__law_form (by rfl) (ma_cons (me_obj (me_var 0)) (ma_cons (me_var 1) (ma_cons (me_op op_sub subW_ok (me_var 2) (me_var 4)) ma_nil))) (aCons_len (aCons_len (aCons_len aNil_len))))) ma_nil))))))))))
theorem ok__law_form (T : Txt K mg base) : ∀ n : Nat, FnOk P HasW.w K mg base (L2.CX P HasW.w) (n + 1) T.ad__law_form T.fd__law_form ["_law_cells", "_law_basics", "_law_left"] (SpM K mg 3 (F__law_form n))
  | 0 => okBad
  | n + 1 => (st__law_form T (ok__law_form T n)).mono (by omega)
abbrev N__law_spread : List Str := ["_law_cell", "_law_many", "_law_number", "_law_own", "_law_found", "_law_k", "_law_digit"]
theorem sc__law_spread : FnScope N__law_spread ["_law_cell", "_law_many"] (defScope (top 20)) := ⟨rfl, rfl, rfl, by decide +kernel, rfl, by decide +kernel, by decide +kernel⟩
theorem ok__law_spread (T : Txt K mg base) : FnOk P HasW.w K mg base (L2.CX P HasW.w) (1) T.ad__law_spread T.fd__law_spread ["_law_cell", "_law_many"] (SpM K mg 2 F__law_spread) :=
  okF T.fn__law_spread sc__law_spread fun cdv A outer s H E hr =>
    (mb_cons (ms_set 2 sc__law_spread.nd (me_op op_addS addAW_ok (me_op op_mod modW_ok (me_var 0) me_int) me_int))
    (mb_cons (ms_set 3 sc__law_spread.nd (me_op op_fdivW divW_ok (me_var 0) me_int))
    (mb_cons (ms_set 4 sc__law_spread.nd (me_obj (me_lst ma_nil)))
    (mb_cons (ms_for (passes_of rfl) rfl (mi_range1 (by rfl) T.z_range (ma_cons (me_var 1) ma_nil)) (mg_name 5 sc__law_spread.nd) (mb_cons (ms_set 2 sc__law_spread.nd (me_op op_mod modW_ok (me_op op_mulA mulW_ok (me_var 2) me_int) me_int))
    (mb_cons (ms_set 6 sc__law_spread.nd (me_op op_mod modW_ok (me_var 3) (me_op op_pow powW_ok me_int me_int)))
    (mb_cons (ms_set 3 sc__law_spread.nd (me_op op_fdivW divW_ok (me_var 3) (me_op op_pow powW_ok me_int me_int)))
    (mb_one (ms_expr (me_bm PySem.F.plainAttrs_list PySem.F.slot_list_append PySem.F.type_list_append mt_append appendW_ok (me_var 4) (ma_cons (me_ix ix_seq ixW_ok (me_lst (ma_cons (me_var 6) (ma_cons (me_op op_mod modW_ok (me_op op_mulA mulW_ok (me_var 2) me_int) me_int) ma_nil))) (me_op op_mod modW_ok (me_var 0) me_int)) ma_nil))))))))
    (mb_one (ms_ret (me_var 4)))))))
abbrev N__law_kind : List Str := ["_law_form_here"]
theorem sc__law_kind : FnScope N__law_kind ["_law_form_here"] (defScope (top 21)) := ⟨rfl, rfl, rfl, by decide +kernel, rfl, by decide +kernel, by decide +kernel⟩
theorem st__law_kind (T : Txt K mg base) {n : Nat} (ih__law_kind : FnOk P HasW.w K mg base (L2.CX P HasW.w) (n + 0) T.ad__law_kind T.fd__law_kind ["_law_form_here"] (SpM K mg 1 (F__law_kind n))) : FnOk P HasW.w K mg base (L2.CX P HasW.w) (n + 0 + 1) T.ad__law_kind T.fd__law_kind ["_law_form_here"] (SpM K mg 1 (F__law_kind (n + 1))) :=
  okF T.fn__law_kind sc__law_kind fun cdv A outer s H E hr =>
    (mb_cons (ms_if (mt_cmp (op_eqD hr.units) eqW_ok (me_ix ix_seq ixW_ok (me_var 0) me_int) me_str) (mb_one (ms_ret (me_ix ix_seq ixW_ok (me_var 0) me_int))) mb_nil)
    (mb_one (ms_ret (me_tup (ma_cons (me_frz (me_call (takes_of rfl rfl rfl rfl) ih__law_kind hr T.gl__law_kind T.fn__law_kind.kp T.bn__law_kind (by rfl) (ma_cons (me_ix ix_seq ixW_ok (me_var 0) me_int) ma_nil) (aCons_len aNil_len))) (ma_cons (me_frz (me_call (takes_of rfl rfl rfl rfl) ih__law_kind hr T.gl__law_kind T.fn__law_kind.kp T.bn__law_kind (by rfl) (ma_cons (me_ix ix_seq ixW_ok (me_var 0) me_int) ma_nil) (aCons_len aNil_len))) ma_nil))))))
theorem ok__law_kind (T : Txt K mg base) : ∀ n : Nat, FnOk P HasW.w K mg base (L2.CX P HasW.w) (n + 0) T.ad__law_kind T.fd__law_kind ["_law_form_here"] (SpM K mg 1 (F__law_kind n))
  | 0 => okBad
  | n + 1 => (st__law_kind T (ok__law_kind T n)).mono (by omega)
abbrev N__law_wanted : List Str := ["_law_kind_here", "_law_some"]
theorem sc__law_wanted : FnScope N__law_wanted ["_law_kind_here"] (defScope (top 22)) := ⟨rfl, rfl, rfl, by decide +kernel, rfl, by decide +kernel, by decide +kernel⟩
theorem ok__law_wanted (T : Txt K mg base) : FnOk P HasW.w K mg base (L2.CX P HasW.w) (1) T.ad__law_wanted T.fd__law_wanted ["_law_kind_here"] (SpM K mg 1 F__law_wanted) :=
  okF T.fn__law_wanted sc__law_wanted fun cdv A outer s H E hr =>
    (mb_cons (ms_set 1 sc__law_wanted.nd (me_obj (me_lst ma_nil)))
    (mb_cons (ms_while fuelW (passes_of rfl) (mt_not (mt_tru (me_isi .str (by rfl) T.z_isinstance (by rfl) T.z_str (me_var 0)))) (mb_cons (ms_expr (me_bm PySem.F.plainAttrs_list PySem.F.slot_list_append PySem.F.type_list_append mt_append appendW_ok (me_var 1) (ma_cons (me_ix ix_seq ixW_ok (me_var 0) me_int) ma_nil)))
    (mb_one (ms_set 0 sc__law_wanted.nd (me_ix ix_seq ixW_ok (me_var 0) me_int)))))
    (mb_fz 1 (mb_one (ms_ret (me_tup (ma_cons (me_var 1) (ma_cons (me_var 0) ma_nil))))))))
abbrev N__law_of_two : List Str := ["_law_name", "_law_kinds", "_law_rest", "_law_one", "_law_other", "_law_many", "_law_kind_here", "_law_first"]
theorem sc__law_of_two : FnScope N__law_of_two ["_law_name", "_law_kinds", "_law_rest", "_law_one", "_law_other"] (defScope (top 23)) := ⟨rfl, rfl, rfl, by decide +kernel, rfl, by decide +kernel, by decide +kernel⟩
theorem ok__law_of_two (T : Txt K mg base) : FnOk P HasW.w K mg base (L2.CX P HasW.w) (1) T.ad__law_of_two T.fd__law_of_two ["_law_name", "_law_kinds", "_law_rest", "_law_one", "_law_other"] (SpM K mg 5 F__law_of_two) :=
  okF T.fn__law_of_two sc__law_of_two fun cdv A outer s H E hr =>
    (mb_cons (ms_set 5 sc__law_of_two.nd (me_callB call_len lenW_ok (by rfl) T.z_len (ma_cons (me_var 1) ma_nil)))
    (mb_cons (ms_set 6 sc__law_of_two.nd (me_tup (ma_cons (me_ix ix_seq ixW_ok (me_var 1) (me_var 3)) (ma_cons (me_tup (ma_cons (me_ix ix_seq ixW_ok (me_var 1) (me_var 4)) (ma_cons (me_var 2) ma_nil))) ma_nil))))
    (mb_cons (ms_set 7 sc__law_of_two.nd (me_tup (ma_cons me_str (ma_cons (me_tup (ma_cons me_str (ma_cons (me_var 0) ma_nil))) (ma_cons (me_tup (ma_cons me_str (ma_cons (me_op op_sub subW_ok (me_op op_sub subW_ok (me_var 5) me_int) (me_var 3)) ma_nil))) ma_nil)))))
    (mb_one (ms_ret (me_tup (ma_cons (me_tup (ma_cons me_str (ma_cons (me_var 7) (ma_cons (me_tup (ma_cons me_str (ma_cons (me_op op_sub subW_ok (me_op op_sub subW_ok (me_var 5) me_int) (me_var 4)) ma_nil))) ma_nil)))) (ma_cons (me_frz (me_lst (ma_cons (me_tup (ma_cons (me_var 0) (ma_cons (me_var 6) ma_nil))) ma_nil))) ma_nil))))))))
abbrev N__law_body : List Str := ["_law_kinds", "_law_rest", "_law_name", "_law_cell", "_law_many", "_law_one", "_law_other"]
theorem sc__law_body : FnScope N__law_body ["_law_kinds", "_law_rest", "_law_name", "_law_cell"] (defScope (top 24)) := ⟨rfl, rfl, rfl, by decide +kernel, rfl, by decide +kernel, by decide +kernel⟩
theorem ok__law_body (T : Txt K mg base) : FnOk P HasW.w K mg base (L2.CX P HasW.w) (2) T.ad__law_body T.fd__law_body ["_law_kinds", "_law_rest", "_law_name", "_law_cell"] (SpM K mg 4 F__law_body) :=
  okF T.fn__law_body sc__law_body fun cdv A outer s H E hr =>
    (mb_cons (ms_set 4 sc__law_body.nd (me_callB call_len lenW_ok (by rfl) T.z_len (ma_cons (me_var 0) ma_nil)))
    (mb_cons (ms_if (MP.mt (mp_and (mt_cmp op_gt gtW_ok (me_var 4) me_int) (mp_and1 (mt_cmp (op_eqD hr.units) eqW_ok (me_op op_mod modW_ok (me_var 3) me_int) me_int)))) (mb_cons (ms_set 5 sc__law_body.nd (me_op op_mod modW_ok (me_op op_fdivW divW_ok (me_var 3) me_int) (me_var 4)))
    (mb_cons (ms_set 6 sc__law_body.nd (me_op op_mod modW_ok (me_op op_addS addAW_ok (me_op op_addS addAW_ok (me_var 5) me_int) (me_op op_mod modW_ok (me_op op_fdivW divW_ok (me_var 3) me_int) (me_op op_sub subW_ok (me_var 4) me_int))) (me_var 4)))
    (mb_one (ms_ret (me_call (takes_of rfl rfl rfl rfl) (ok__law_of_two T) (hr.mono (by decide)) T.gl__law_of_two T.fn__law_of_two.kp T.bn__law_of_two (by rfl) (ma_cons (me_var 2) (ma_cons (me_var 0) (ma_cons (me_var 1) (ma_cons (me_var 5) (ma_cons (me_var 6) ma_nil))))) (aCons_len (aCons_len (aCons_len (aCons_len (aCons_len aNil_len)))))))))) mb_nil)
    (mb_cons (ms_set 5 sc__law_body.nd (me_op op_mod modW_ok (me_op op_fdivW divW_ok (me_var 3) me_int) (me_callB (call_max2 rfl) maxW2_ok (by rfl) T.z_max (ma_cons me_int (ma_cons (me_var 4) ma_nil)))))
    (mb_cons (ms_if (MP.mt (mp_and (mt_cmp op_gt gtW_ok (me_var 4) me_int) (mp_and1 (mt_cmp (op_eqD hr.units) eqW_ok (me_op op_mod modW_ok (me_var 3) me_int) me_int)))) (mb_one (ms_ret (me_tup (ma_cons (me_tup (ma_cons me_str (ma_cons (me_tup (ma_cons me_str (ma_cons (me_var 2) ma_nil))) (ma_cons (me_tup (ma_cons me_str (ma_cons (me_op op_sub subW_ok (me_op op_sub subW_ok (me_var 4) me_int) (me_var 5)) ma_nil))) ma_nil)))) (ma_cons (me_frz (me_lst (ma_cons (me_tup (ma_cons (me_var 2) (ma_cons (me_tup (ma_cons (me_ix ix_seq ixW_ok (me_var 0) (me_var 5)) (ma_cons (me_var 1) ma_nil))) ma_nil))) ma_nil))) ma_nil))))) mb_nil)
    (mb_cons (ms_if (MP.mt (mp_and (mt_cmp op_gt gtW_ok (me_var 4) me_int) (mp_and (mt_cmp (op_eqD hr.units) eqW_ok (me_ix ix_seq ixW_ok (me_var 0) (me_var 5)) (me_var 1)) (mp_and1 (mt_cmp (op_eqD hr.units) eqW_ok (me_op op_mod modW_ok (me_var 3) me_int) me_int))))) (mb_one (ms_ret (me_tup (ma_cons (me_tup (ma_cons me_str (ma_cons (me_op op_sub subW_ok (me_op op_sub subW_ok (me_var 4) me_int) (me_var 5)) ma_nil))) (ma_cons (me_frz (me_lst ma_nil)) ma_nil))))) mb_nil)
    (mb_one (ms_ret (me_tup (ma_cons (me_tup (ma_cons me_str (ma_cons (me_var 2) ma_nil))) (ma_cons (me_frz (me_lst (ma_cons (me_tup (ma_cons (me_var 2) (ma_cons (me_var 1) ma_nil))) ma_nil))) ma_nil))))))))))
abbrev N__law_meaning : List Str := ["_law_form_here", "_law_name", "_law_cell", "_law_kinds", "_law_rest", "_law_term", "_law_some", "_law_k", "_law_kind_here"]
theorem sc__law_meaning : FnScope N__law_meaning ["_law_form_here", "_law_name", "_law_cell"] (defScope (top 25)) := ⟨rfl, rfl, rfl, by decide +kernel, rfl, by decide +kernel, by decide +kernel⟩
theorem ok__law_meaning (T : Txt K mg base) : FnOk P HasW.w K mg base (L2.CX P HasW.w) (41) T.ad__law_meaning T.fd__law_meaning ["_law_form_here", "_law_name", "_law_cell"] (SpM K mg 3 F__law_meaning) :=
  okF T.fn__law_meaning sc__law_meaning fun cdv A outer s H E hr =>
    (mb_cons (ms_asg (me_frz (me_call (takes_of rfl rfl rfl rfl) (ok__law_wanted T) (hr.mono (by decide)) T.gl__law_wanted T.fn__law_wanted.kp T.bn__law_wanted (by rfl) (ma_cons (me_frz (me_call (takes_of rfl rfl rfl rfl) (ok__law_kind T 40) (hr.mono (by decide)) T.gl__law_kind T.fn__law_kind.kp T.bn__law_kind (by rfl) (ma_cons (me_var 0) ma_nil) (aCons_len aNil_len))) ma_nil) (aCons_len aNil_len))) (mg_tup rfl (mgs_cons (mg_name 3 sc__law_meaning.nd) (mgs_cons (mg_name 4 sc__law_meaning.nd) mgs_nil))))
    (mb_cons (ms_asg (me_frz (me_call (takes_of rfl rfl rfl rfl) (ok__law_body T) (hr.mono (by decide)) T.gl__law_body T.fn__law_body.kp T.bn__law_body (by rfl) (ma_cons (me_var 3) (ma_cons (me_var 4) (ma_cons (me_var 1) (ma_cons (me_var 2) ma_nil)))) (aCons_len (aCons_len (aCons_len (aCons_len aNil_len)))))) (mg_tup rfl (mgs_cons (mg_name 5 sc__law_meaning.nd) (mgs_cons (mg_name 6 sc__law_meaning.nd) mgs_nil))))
    (mb_cons (ms_for (passes_of rfl) rfl (mi_range1 (by rfl) T.z_range (ma_cons (me_op op_mod modW_ok (me_op op_fdivW divW_ok (me_var 2) me_int) me_int) ma_nil)) (mg_name 7 sc__law_meaning.nd) (mb_one (ms_set 5 sc__law_meaning.nd (me_tup (ma_cons me_str (ma_cons (me_tup (ma_cons me_str (ma_cons (me_var 4) (ma_cons (me_tup (ma_cons me_str (ma_cons me_int ma_nil))) ma_nil)))) (ma_cons (me_var 5) ma_nil)))))))
    (mb_cons (ms_for (passes_of rfl) rfl (mi_seq (me_rev (me_var 3))) (mg_name 8 sc__law_meaning.nd) (mb_one (ms_set 5 sc__law_meaning.nd (me_tup (ma_cons me_str (ma_cons (me_var 8) (ma_cons (me_var 5) ma_nil)))))))
    (mb_one (ms_ret (me_tup (ma_cons (me_var 5) (ma_cons (me_var 6) ma_nil)))))))))
abbrev N__law_form_text : List Str := ["_law_form_here", "_law_right"]
theorem sc__law_form_text : FnScope N__law_form_text ["_law_form_here"] (defScope (top 27)) := ⟨rfl, rfl, rfl, by decide +kernel, rfl, by decide +kernel, by decide +kernel⟩
theorem st__law_form_text (T : Txt K mg base) {n : Nat} (ih__law_form_text : FnOk P HasW.w K mg base (L2.CX P HasW.w) (n + 0) T.ad__law_form_text T.fd__law_form_text ["_law_form_here"] (SpM K mg 1 (F__law_form_text n))) : FnOk P HasW.w K mg base (L2.CX P HasW.w) (n + 0 + 1) T.ad__law_form_text T.fd__law_form_text ["_law_form_here"] (SpM K mg 1 (F__law_form_text (n + 1))) :=
  okF T.fn__law_form_text sc__law_form_text fun cdv A outer s H E hr =>
    (mb_cons (ms_if (mt_cmp (op_eqD hr.units) eqW_ok (me_ix ix_seq ixW_ok (me_var 0) me_int) me_str) (mb_one (ms_ret (me_ix ix_seq ixW_ok (me_var 0) me_int))) mb_nil)
    (mb_cons (ms_set 1 sc__law_form_text.nd (me_frz (me_call (takes_of rfl rfl rfl rfl) ih__law_form_text hr T.gl__law_form_text T.fn__law_form_text.kp T.bn__law_form_text (by rfl) (ma_cons (me_ix ix_seq ixW_ok (me_var 0) me_int) ma_nil) (aCons_len aNil_len))))
    (mb_cons (ms_if (mt_cmp (op_neD hr.units) neW_ok (me_ix ix_seq ixW_ok (me_ix ix_seq ixW_ok (me_var 0) me_int) me_int) me_str) (mb_one (ms_set 1 sc__law_form_text.nd (me_op op_addS addAW_ok (me_op op_addS addAW_ok me_str (me_var 1)) me_str))) mb_nil)
    (mb_one (ms_ret (me_op op_addS addAW_ok (me_op op_addS addAW_ok (me_call (takes_of rfl rfl rfl rfl) ih__law_form_text hr T.gl__law_form_text T.fn__law_form_text.kp T.bn__law_form_text (by rfl) (ma_cons (me_ix ix_seq ixW_ok (me_var 0) me_int) ma_nil) (aCons_len aNil_len)) (me_ix ix_seq ixW_ok (me_var 0) me_int)) (me_var 1)))))))
theorem ok__law_form_text (T : Txt K mg base) : ∀ n : Nat, FnOk P HasW.w K mg base (L2.CX P HasW.w) (n + 0) T.ad__law_form_text T.fd__law_form_text ["_law_form_here"] (SpM K mg 1 (F__law_form_text n))
  | 0 => okBad
  | n + 1 => (st__law_form_text T (ok__law_form_text T n)).mono (by omega)
abbrev N__law_book : List Str := ["_law_script", "_law_basics", "_law_pool", "_law_names_here", "_law_words", "_law_cells", "_law_k", "_law_cell", "_law_numbers", "_law_form_here", "_law_word", "_law_told_here", "_law_row", "_law_rest", "_law_term", "_law_some"]
theorem sc__law_book : FnScope N__law_book ["_law_script"] (defScope (top 29)) := ⟨rfl, rfl, rfl, by decide +kernel, rfl, by decide +kernel, by decide +kernel⟩
theorem ok__law_book (T : Txt K mg base) : FnOk P HasW.w K mg base (L2.CX P HasW.w) (42) T.ad__law_book T.fd__law_book ["_law_script"] (SpM K mg 1 F__law_book) :=
  okF T.fn__law_book sc__law_book fun cdv A outer s H E hr =>
    (mb_cons (ms_set 1 sc__law_book.nd (me_frz (me_call (takes_of rfl rfl rfl rfl) (ok__law_names T) (hr.mono (by decide)) T.gl__law_names T.fn__law_names.kp T.bn__law_names (by rfl) (ma_cons (me_ix ix_seq ixW_ok (me_var 0) me_int) (ma_cons (me_op op_addS addAW_ok me_int (me_op op_mod modW_ok (me_ix ix_seq ixW_ok (me_var 0) me_int) me_int)) ma_nil)) (aCons_len (aCons_len aNil_len)))))
    (mb_cons (ms_set 2 sc__law_book.nd (me_obj (me_call (takes_of rfl rfl rfl rfl) (ok__law_names T) (hr.mono (by decide)) T.gl__law_names T.fn__law_names.kp T.bn__law_names (by rfl) (ma_cons (me_op op_fdivW divW_ok (me_ix ix_seq ixW_ok (me_var 0) me_int) me_int) (ma_cons me_int ma_nil)) (aCons_len (aCons_len aNil_len)))))
    (mb_cons (ms_if (mt_cmp (op_eqD hr.units) eqW_ok (me_op op_mod modW_ok (me_op op_fdivW divW_ok (me_ix ix_seq ixW_ok (me_var 0) me_int) me_int) me_int) me_int) (mb_one (ms_setI (me_var 2) (me_op op_mod modW_ok (me_op op_fdivW divW_ok (me_ix ix_seq ixW_ok (me_var 0) me_int) me_int) me_int) me_str)) mb_nil)
    (mb_cons (ms_if (mt_cmp op_gt gtW_ok (me_op op_mod modW_ok (me_op op_fdivW divW_ok (me_ix ix_seq ixW_ok (me_var 0) me_int) me_int) me_int) me_int) (mb_one (ms_setI (me_var 2) (me_op op_sub subW_ok me_int (me_op op_mod modW_ok (me_op op_fdivW divW_ok (me_ix ix_seq ixW_ok (me_var 0) me_int) me_int) me_int)) me_str)) mb_nil)
    (mb_cons (ms_set 3 sc__law_book.nd (me_frz (me_lst ma_nil)))
    (mb_cons (ms_set 4 sc__law_book.nd (me_obj (me_lst ma_nil)))
    (mb_cons (ms_set 5 sc__law_book.nd (me_frz (me_slice sl_all slW_ok (me_var 0) (mo_some me_int) (mo_some me_int))))
    (mb_cons (ms_if (mt_cmp (op_eqD hr.units) eqW_ok (me_op op_mod modW_ok (me_ix ix_seq ixW_ok (me_var 0) me_int) me_int) me_int) (mb_one (ms_set 5 sc__law_book.nd (me_frz (me_slice sl_all slW_ok (me_op op_addS addAW_ok (me_var 5) (me_call (takes_of rfl rfl rfl rfl) (ok__law_spread T) (hr.mono (by decide)) T.gl__law_spread T.fn__law_spread.kp T.bn__law_spread (by rfl) (ma_cons (me_ix ix_seq ixW_ok (me_var 0) me_int) (ma_cons me_int ma_nil)) (aCons_len (aCons_len aNil_len)))) mo_none (mo_some me_int))))) mb_nil)
    (mb_cons (ms_for (passes_of rfl) rfl (mi_enum (by rfl) T.z_enumerate (ma_cons (me_var 5) ma_nil)) (mg_tup rfl (mgs_cons (mg_name 6 sc__law_book.nd) (mgs_cons (mg_name 7 sc__law_book.nd) mgs_nil))) (mb_cons (ms_set 8 sc__law_book.nd (me_frz (me_call (takes_of rfl rfl rfl rfl) (ok__law_spread T) (hr.mono (by decide)) T.gl__law_spread T.fn__law_spread.kp T.bn__law_spread (by rfl) (ma_cons (me_var 7) (ma_cons me_int ma_nil)) (aCons_len (aCons_len aNil_len)))))
    (mb_cons (ms_set 9 sc__law_book.nd (me_frz (me_call (takes_of rfl rfl rfl rfl) (ok__law_form T 40) (hr.mono (by decide)) T.gl__law_form T.fn__law_form.kp T.bn__law_form (by rfl) (ma_cons (me_obj (me_slice sl_all slW_ok (me_var 8) (mo_some me_int) mo_none)) (ma_cons (me_var 1) (ma_cons (me_op op_addS addAW_ok me_int (me_op op_mod modW_ok (me_ix ix_seq ixW_ok (me_var 8) me_int) me_int)) ma_nil))) (aCons_len (aCons_len (aCons_len aNil_len))))))
    (mb_cons (ms_set 10 sc__law_book.nd (me_ix ix_seq ixW_ok (me_var 2) (me_op op_mod modW_ok (me_ix ix_seq ixW_ok (me_var 8) me_int) me_int)))
    (mb_cons (ms_setLc 11 (own := [("_law_row", 12)]) (cv := eFrz) cvFrz rfl sc__law_book.nd (mi_seq (me_var 4)) (blkOk_by (own := [("_law_row", 12)]) (N := N__law_book) (sc := defScope (top 29)) (by decide +kernel)) (fun _ _ _ _ _ => (mg_name 12 sc__law_book.nd)) (fun _ _ _ _ _ => (mts_one (mt_cmp (op_eqD hr.units) eqW_ok (me_ix ix_seq ixW_ok (me_var 12) me_int) (me_var 10)))) (fun _ _ _ _ _ => (me_var 12)) (sw_true rfl rfl rfl (by decide +kernel)))
    (mb_cons (ms_if (MP.mt (mp_or (mt_cmp op_gt gtW_ok (me_callB call_len lenW_ok (by rfl) T.z_len (ma_cons (me_var 11) ma_nil)) me_int) (mp_or1 (mt_cmp (op_inA (hu65 hr)) inW_ok (me_var 9) (me_lc (own := [("_law_row", 12)]) rfl sc__law_book.nd (mi_seq (me_var 11)) (blkOk_by (own := [("_law_row", 12)]) (N := N__law_book) (sc := defScope (top 29)) (by decide +kernel)) (fun _ _ _ _ _ => (mg_name 12 sc__law_book.nd)) (fun _ _ _ _ _ => mts_nil) (fun _ _ _ _ _ => (me_ix ix_seq ixW_ok (me_var 12) me_int))))))) (mb_one ms_continue) mb_nil)
    (mb_cons (ms_set 13 sc__law_book.nd (me_op op_addS addAW_ok (me_op op_mod modW_ok (me_op op_fdivW divW_ok (me_var 7) me_int) (me_op op_pow powW_ok me_int me_int)) (me_ix ix_seq ixW_ok (me_var 8) me_int)))
    (mb_cons (ms_asg (me_frz (me_call (takes_of rfl rfl rfl rfl) (ok__law_meaning T) (hr.mono (by decide)) T.gl__law_meaning T.fn__law_meaning.kp T.bn__law_meaning (by rfl) (ma_cons (me_var 9) (ma_cons (me_ix ix_seq ixW_ok (me_var 2) (me_op op_sub subW_ok me_int (me_var 6))) (ma_cons (me_var 13) ma_nil))) (aCons_len (aCons_len (aCons_len aNil_len))))) (mg_tup rfl (mgs_cons (mg_name 14 sc__law_book.nd) (mgs_cons (mg_name 15 sc__law_book.nd) mgs_nil))))
    (mb_cons (ms_set 3 sc__law_book.nd (me_frz (me_op op_addS addAW_ok (me_var 3) (me_var 15))))
    (mb_one (ms_expr (me_bm PySem.F.plainAttrs_list PySem.F.slot_list_append PySem.F.type_list_append mt_append appendW_ok (me_var 4) (ma_cons (me_tup (ma_cons (me_var 10) (ma_cons (me_var 9) (ma_cons (me_var 14) ma_nil)))) ma_nil)))))))))))))
    (mb_one (ms_ret (me_tup (ma_cons (me_callTy call_tuple_of tupleW_ok (by rfl) T.z_tuple (ma_cons (me_var 1) ma_nil)) (ma_cons (me_callTy call_tuple_of tupleW_ok (by rfl) T.z_tuple (ma_cons (me_var 3) ma_nil)) (ma_cons (me_callTy call_tuple_of tupleW_ok (by rfl) T.z_tuple (ma_cons (me_var 4) ma_nil)) ma_nil)))))))))))))))
abbrev N__law_alone : List Str := ["_law_e"]
theorem sc__law_alone : FnScope N__law_alone ["_law_e"] (defScope (top 31)) := ⟨rfl, rfl, rfl, by decide +kernel, rfl, by decide +kernel, by decide +kernel⟩
theorem ok__law_alone (T : Txt K mg base) : FnE P HasW.w K mg base (1) T.ad__law_alone T.fd__law_alone ["_law_e"] (spE K mg fun e => F__law_alone e) :=
  okE (N := N__law_alone) (k := 0) (g := m__law_alone) T.fn__law_alone sc__law_alone fun cdv A outer s H E a oe e cls d fl hr hz hf hd hfl hm2 =>
    (mbj_cons (msj_if (mtj_tru (mej_isTF (i := 0) (l := tl_0) List.mem_cons_self (by rfl) T.z_isinstance rfl (.inl rfl) (pcl_own (by rfl) T.cng_Misfit (pcl_own (by rfl) T.cng_NoBasic (pcl_own (by rfl) T.cng_NoKind (pcl_own (by rfl) T.cng_NoReading (pcl_own (by rfl) T.cng_NoRow (pcl_own (by rfl) T.cng_NoTerm (pcl_own (by rfl) T.cng_Twice pcl_nil))))))) (by simp) (.cons T.xc_NoWord.g T.ec_NoWord T.xi_NoWord_0 (.cons T.xc_NoForm.g T.ec_NoForm T.xi_NoForm_0 .nil)) hz hf hm2)) (mbj_one (msj_ret (ME.j me_bl))) mbj_nil) (mbj_one (msj_ret (mej_and (mej_is1F (i := 0) (l := tl_1) List.mem_cons_self (by rfl) T.z_isinstance rfl (.inl rfl) (pcl_ty (by rfl) T.z_ValueError pcl_nil) (.cons T.xc_NoWord.g T.ec_NoWord T.xi_NoWord_1 (.cons T.xc_NoForm.g T.ec_NoForm T.xi_NoForm_1 .nil)) hz hf hm2) (mej_one (mej_cmp (op_neD (unH hr)) neW_ok (mej_is1F (i := 0) (l := tl_2) List.mem_cons_self (by rfl) T.z_isinstance rfl (.inl rfl) (pcl_own (by rfl) T.cng_NoForm pcl_nil) (.cons T.xc_NoWord.g T.ec_NoWord T.xi_NoWord_2 (.cons T.xc_NoForm.g T.ec_NoForm T.xi_NoForm_2 .nil)) hz hf hm2) (mej_is1F (i := 0) (l := tl_3) List.mem_cons_self (by rfl) T.z_isinstance rfl (.inl rfl) (pcl_own (by rfl) T.cng_NoWord pcl_nil) (.cons T.xc_NoWord.g T.ec_NoWord T.xi_NoWord_3 (.cons T.xc_NoForm.g T.ec_NoForm T.xi_NoForm_3 .nil)) hz hf hm2)))))))
abbrev N__law_told : List Str := ["_law_book_here", "_law_word", "_law_form_here", "_law_told_here", "_law_e"]
theorem sc__law_told : FnScope N__law_told ["_law_book_here", "_law_word", "_law_form_here"] (defScope (top 32)) := ⟨rfl, rfl, rfl, by decide +kernel, rfl, by decide +kernel, by decide +kernel⟩
theorem ok__law_told (T : Txt K mg base) : FnOk P HasW.w K mg base (L2.CX P HasW.w) (45) T.ad__law_told T.fd__law_told ["_law_book_here", "_law_word", "_law_form_here"] (SpM K mg 3 F__law_told) :=
  okF T.fn__law_told sc__law_told fun cdv A outer s H E hr =>
    (mb_cons (ms_set 3 sc__law_told.nd (me_tup (ma_cons me_str (ma_cons me_non ma_nil))))
    (mb_cons (ms_tryAsF (i := 4) (tab := tab_SlashError) (fs := fun e => (sIf (tAndF (tTru (eCallF (F__law_alone e) aNil)) (tTru (eTabF (tabOf tl_2) e))) (sAsg (eTup (aCons (eC (.str (Str.ofString "form"))) (aCons (eC .none) aNil))) (gSet 3)) (sIf (tTru (eCallF (F__law_alone e) aNil)) (sAsg (eTup (aCons (eC (.str (Str.ofString "word"))) (aCons (eTup (aCons (eFld ["NoWord"] "word" e) (aCons (eFld ["NoWord"] "place" e) aNil))) aNil))) (gSet 3)) sNx))) rfl rfl sc__law_told.nd rfl rfl ⟨by rfl, by decide, .inl T.xc_SlashError.g⟩ (takes_of rfl rfl rfl rfl) (tab_ok (.cons T.xc_NoWord.g T.xm_NoWord_SlashError (.cons T.xc_NoForm.g T.xm_NoForm_SlashError .nil))) (fun W pn xe tk po => (mb_one (ms_if (mt_cmp op_isA isNW_ok (me_var 2) me_non) (mb_one (ms_set 3 sc__law_told.nd (me_tup (ma_cons me_str (ma_cons (me_frz (me_call tk (ok_forms_of T) (hr.mono (by decide)) T.gl_forms_of T.fn_forms_of.kp T.bn_forms_of (by rfl) (ma_cons (me_var 0) (ma_cons (me_var 1) ma_nil)) (aCons_len (aCons_len aNil_len)))) ma_nil))))) (mb_one (ms_set 3 sc__law_told.nd (me_tup (ma_cons me_str (ma_cons (me_frz (me_call tk (ok_term_of T) (hr.mono (by decide)) T.gl_term_of T.fn_term_of.kp T.bn_term_of (by rfl) (ma_cons (me_var 0) (ma_cons (me_var 1) (ma_cons (me_var 2) ma_nil))) (aCons_len (aCons_len (aCons_len aNil_len))))) ma_nil)))))))) (fun a oe cls d pn e fs hz hf hd hfl hm2 => (mbj_one (msj_if (MPJ.mt (mpj_and (mtj_tru (mej_callE (i := 4) takesF List.mem_cons_self (ok__law_alone T) (L2H.roomH_mark (hr.mono (by decide)) _) T.gl__law_alone T.fn__law_alone.kp T.bn__law_alone (by rfl) rfl (.inl rfl) hz hf hm2 hd hfl)) (mpj_and1 (mtj_tru (mej_is1F (i := 4) (l := tl_2) List.mem_cons_self (by rfl) T.z_isinstance rfl (.inl rfl) (pcl_own (by rfl) T.cng_NoForm pcl_nil) (.cons T.xc_NoWord.g T.ec_NoWord T.xi_NoWord_2 (.cons T.xc_NoForm.g T.ec_NoForm T.xi_NoForm_2 .nil)) hz hf hm2))))) (mbj_one (msj_set 3 sc__law_told.nd (HdF.set (k := 3) (i := 4) (by decide)) (ME.j (me_tup (ma_cons me_str (ma_cons me_non ma_nil)))))) (mbj_one (msj_if (mtj_tru (mej_callE (i := 4) takesF List.mem_cons_self (ok__law_alone T) (L2H.roomH_mark (hr.mono (by decide)) _) T.gl__law_alone T.fn__law_alone.kp T.bn__law_alone (by rfl) rfl (.inl rfl) hz hf hm2 hd hfl)) (mbj_one (msj_set 3 sc__law_told.nd (HdF.set (k := 3) (i := 4) (by decide)) (mej_tup (maj_cons (ME.j me_str) (maj_cons (mej_tup (maj_cons (mej_fld (i := 4) (l := ["NoWord"]) List.mem_cons_self (.cons T.xc_NoWord.g T.xc_NoWord.xf T.nf_NoWord_word .nil) rfl (.inl rfl) hz hf hm2 hd hfl) (maj_cons (mej_fld (i := 4) (l := ["NoWord"]) List.mem_cons_self (.cons T.xc_NoWord.g T.xc_NoWord.xf T.nf_NoWord_place .nil) rfl (.inl rfl) hz hf hm2 hd hfl) (MA.j ma_nil)))) (MA.j ma_nil)))))) mbj_nil))))))
    (mb_one (ms_ret (me_var 3)))))
abbrev N__law_told__o : List Str := ["_law_book_here", "_law_word", "_law_form_here", "_law_told_here", "_law_e"]
theorem sc__law_told__o : FnScope N__law_told__o ["_law_book_here", "_law_word", "_law_form_here"] (defScope (top 32)) := ⟨rfl, rfl, rfl, by decide +kernel, rfl, by decide +kernel, by decide +kernel⟩
theorem ok__law_told__o (T : Txt K mg base) : FnOk P HasW.w K mg base (L2.CX P HasW.w) (45) T.ad__law_told T.fd__law_told ["_law_book_here", "_law_word", "_law_form_here"] (SpM K mg 3 F__law_told__o) :=
  okA T.fn__law_told sc__law_told__o fun cdv A outer s H E hr =>
    (mb_cons (ms_set 3 sc__law_told__o.nd (me_tup (ma_cons me_str (ma_cons me_non ma_nil))))
    (mb_cons (ms_tryAsF (i := 4) (tab := tab_SlashError) (fs := fun e => (sIf (tAndF (tTru (eCallF (F__law_alone e) aNil)) (tTru (eTabF (tabOf tl_2) e))) (sAsg (eTup (aCons (eC (.str (Str.ofString "form"))) (aCons (eC .none) aNil))) (gSet 3)) (sIf (tTru (eCallF (F__law_alone e) aNil)) (sAsg (eTup (aCons (eC (.str (Str.ofString "word"))) (aCons (eTup (aCons (eFld ["NoWord"] "word" e) (aCons (eFld ["NoWord"] "place" e) aNil))) aNil))) (gSet 3)) sNx))) rfl rfl sc__law_told__o.nd rfl rfl ⟨by rfl, by decide, .inl T.xc_SlashError.g⟩ (takes_of rfl rfl rfl rfl) (tab_ok (.cons T.xc_NoWord.g T.xm_NoWord_SlashError (.cons T.xc_NoForm.g T.xm_NoForm_SlashError .nil))) (fun W pn xe tk po => (mb_one (ms_if (mt_cmp op_isA isNW_ok (me_var 2) me_non) (mb_one (ms_set 3 sc__law_told__o.nd (me_prL (ma_cons me_str (ma_cons (me_obj (me_call tk (ok_forms_of T) (hr.mono (by decide)) T.gl_forms_of T.fn_forms_of.kp T.bn_forms_of (by rfl) (ma_cons (me_var 0) (ma_cons (me_var 1) ma_nil)) (aCons_len (aCons_len aNil_len)))) ma_nil))))) (mb_one (ms_set 3 sc__law_told__o.nd (me_tup (ma_cons me_str (ma_cons (me_frz (me_call tk (ok_term_of T) (hr.mono (by decide)) T.gl_term_of T.fn_term_of.kp T.bn_term_of (by rfl) (ma_cons (me_var 0) (ma_cons (me_var 1) (ma_cons (me_var 2) ma_nil))) (aCons_len (aCons_len (aCons_len aNil_len))))) ma_nil)))))))) (fun a oe cls d pn e fs hz hf hd hfl hm2 => (mbj_one (msj_if (MPJ.mt (mpj_and (mtj_tru (mej_callE (i := 4) takesF List.mem_cons_self (ok__law_alone T) (L2H.roomH_mark (hr.mono (by decide)) _) T.gl__law_alone T.fn__law_alone.kp T.bn__law_alone (by rfl) rfl (.inl rfl) hz hf hm2 hd hfl)) (mpj_and1 (mtj_tru (mej_is1F (i := 4) (l := tl_2) List.mem_cons_self (by rfl) T.z_isinstance rfl (.inl rfl) (pcl_own (by rfl) T.cng_NoForm pcl_nil) (.cons T.xc_NoWord.g T.ec_NoWord T.xi_NoWord_2 (.cons T.xc_NoForm.g T.ec_NoForm T.xi_NoForm_2 .nil)) hz hf hm2))))) (mbj_one (msj_set 3 sc__law_told__o.nd (HdF.set (k := 3) (i := 4) (by decide)) (ME.j (me_tup (ma_cons me_str (ma_cons me_non ma_nil)))))) (mbj_one (msj_if (mtj_tru (mej_callE (i := 4) takesF List.mem_cons_self (ok__law_alone T) (L2H.roomH_mark (hr.mono (by decide)) _) T.gl__law_alone T.fn__law_alone.kp T.bn__law_alone (by rfl) rfl (.inl rfl) hz hf hm2 hd hfl)) (mbj_one (msj_set 3 sc__law_told__o.nd (HdF.set (k := 3) (i := 4) (by decide)) (mej_tup (maj_cons (ME.j me_str) (maj_cons (mej_tup (maj_cons (mej_fld (i := 4) (l := ["NoWord"]) List.mem_cons_self (.cons T.xc_NoWord.g T.xc_NoWord.xf T.nf_NoWord_word .nil) rfl (.inl rfl) hz hf hm2 hd hfl) (maj_cons (mej_fld (i := 4) (l := ["NoWord"]) List.mem_cons_self (.cons T.xc_NoWord.g T.xc_NoWord.xf T.nf_NoWord_place .nil) rfl (.inl rfl) hz hf hm2 hd hfl) (MA.j ma_nil)))) (MA.j ma_nil)))))) mbj_nil))))))
    (mb_one (ms_ret (me_var 3)))))
abbrev N__law_holds__key : List Str := ["_law_one"]
abbrev N__law_holds : List Str := ["_law_book_here", "_law_word", "_law_forms", "_law_due", "_law_row", "_law_away", "_law_own", "_law_name", "_law_form_here", "_law_term", "_law_turn", "_law_found", "_law_one", "_law_text"]
theorem sc__law_holds : FnScope N__law_holds ["_law_book_here", "_law_word", "_law_forms"] (defScope (top 33)) := ⟨rfl, rfl, rfl, by decide +kernel, rfl, by decide +kernel, by decide +kernel⟩
theorem ok__law_holds (T : Txt K mg base) : FnOk P HasW.w K mg base (L2.CX P HasW.w) (46) T.ad__law_holds T.fd__law_holds ["_law_book_here", "_law_word", "_law_forms"] (SpM K mg 3 F__law_holds) :=
  okFC T.fn__law_holds T.cod_s sc__law_holds fun A outer s H E hr =>
    (mb_cons (ms_setLc 3 (own := [("_law_row", 4)]) (cv := eFrz) cvFrz rfl sc__law_holds.nd (mi_seq (me_ix ix_seq ixW_ok (me_var 0) me_int)) (blkOk_by (own := [("_law_row", 4)]) (N := N__law_holds) (sc := defScope (top 33)) (by decide +kernel)) (fun _ _ _ _ _ => (mg_name 4 sc__law_holds.nd)) (fun _ _ _ _ _ => (mts_one (mt_cmp (op_eqD hr.units) eqW_ok (me_ix ix_seq ixW_ok (me_var 4) me_int) (me_var 1)))) (fun _ _ _ _ _ => (me_var 4)) (sw_true rfl rfl rfl (by decide +kernel)))
    (mb_cons (ms_if (mt_cmp (op_eqD hr.units) eqW_ok (me_var 3) (me_lst ma_nil)) (mb_cons (ms_set 5 sc__law_holds.nd (me_tup (ma_cons me_str (ma_cons (me_tup (ma_cons (me_var 1) (ma_cons me_int ma_nil))) ma_nil))))
    (mb_one (ms_ret (me_and (me_cmp (op_eqD hr.units) eqW_ok (me_call (takes_of rfl rfl rfl rfl) (ok__law_told T) (hr.mono (by decide)) T.gl__law_told T.fn__law_told.kp T.bn__law_told (by rfl) (ma_cons (me_var 0) (ma_cons (me_var 1) (ma_cons me_non ma_nil))) (aCons_len (aCons_len (aCons_len aNil_len)))) (me_var 5)) (me_one (me_cmp (op_eqD hr.units) eqW_ok (me_call (takes_of rfl rfl rfl rfl) (ok__law_told T) (hr.mono (by decide)) T.gl__law_told T.fn__law_told.kp T.bn__law_told (by rfl) (ma_cons (me_var 0) (ma_cons (me_var 1) (ma_cons (me_ix ix_seq ixW_ok (me_var 2) me_int) ma_nil))) (aCons_len (aCons_len (aCons_len aNil_len)))) (me_var 5))))))) mb_nil)
    (mb_cons (ms_set 6 sc__law_holds.nd (me_frz (me_sortL (k := 1) (nm := nmL) (fun f c' pm ctv => (lam_fv (k := 0) (N := N__law_holds__key) (ps := ["_law_one"]) (by exact NdefX.nscope_by (by decide +kernel)) (by intro us h; match us, h with | [_], _ => rfl) (fun A outer s H E => (me_ix ix_seq ixW_ok (me_var 0) me_int)))) (hr.mono (by decide)) (by rfl) T.z_sorted T.tb_s rfl (tabsM_in (c := T.cu_s) T.hw List.mem_cons_self) (by kernel_rfl) (tabsM_u T.hw) (ma_cons (me_lc (own := [("_law_name", 7), ("_law_form_here", 8), ("_law_term", 9)]) rfl sc__law_holds.nd (mi_seq (me_var 3)) (blkOk_by (own := [("_law_name", 7), ("_law_form_here", 8), ("_law_term", 9)]) (N := N__law_holds) (sc := defScope (top 33)) (by decide +kernel)) (fun _ _ _ _ _ => (mg_tup rfl (mgs_cons (mg_name 7 sc__law_holds.nd) (mgs_cons (mg_name 8 sc__law_holds.nd) (mgs_cons (mg_name 9 sc__law_holds.nd) mgs_nil))))) (fun _ _ _ _ _ => mts_nil) (fun _ _ _ _ _ => (me_tup (ma_cons (me_frz (me_call takesF (ok__law_form_text T 40) (hr.mono (by decide)) T.gl__law_form_text T.fn__law_form_text.kp T.bn__law_form_text (by rfl) (ma_cons (me_var 8) ma_nil) (aCons_len aNil_len))) (ma_cons (me_var 8) (ma_cons (me_var 9) ma_nil)))))) ma_nil))))
    (mb_cons (ms_for (passes_of rfl) rfl (mi_range1 (by rfl) T.z_range (ma_cons me_int ma_nil)) (mg_name 10 sc__law_holds.nd) (mb_cons (ms_set 11 sc__law_holds.nd (me_frz (me_call (takes_of rfl rfl rfl rfl) (ok__law_told__o T) (hr.mono (by decide)) T.gl__law_told T.fn__law_told.kp T.bn__law_told (by rfl) (ma_cons (me_var 0) (ma_cons (me_var 1) (ma_cons me_non ma_nil))) (aCons_len (aCons_len (aCons_len aNil_len))))))
    (mb_cons (ms_if (mt_cmp (op_neD hr.units) neVW_ok (me_var 11) (me_tup (ma_cons me_str (ma_cons (me_frz (me_lc (own := [("_law_one", 12)]) rfl sc__law_holds.nd (mi_seq (me_var 6)) (blkOk_by (own := [("_law_one", 12)]) (N := N__law_holds) (sc := defScope (top 33)) (by decide +kernel)) (fun _ _ _ _ _ => (mg_name 12 sc__law_holds.nd)) (fun _ _ _ _ _ => mts_nil) (fun _ _ _ _ _ => (me_ix ix_seq ixW_ok (me_var 12) me_int)))) ma_nil)))) (mb_one (ms_ret me_bl)) mb_nil)
    (mb_one (ms_expr (me_bm0 PySem.F.plainAttrs_list PySem.F.slot_list_clear PySem.F.type_list_clear mt_clear clearW_ok (me_ix ix_seq ixQ_ok (me_var 11) me_int)))))))
    (mb_cons (ms_for (passes_of rfl) rfl (mi_seq (me_var 6)) (mg_tup rfl (mgs_cons (mg_name 13 sc__law_holds.nd) (mgs_cons (mg_name 8 sc__law_holds.nd) (mgs_cons (mg_name 9 sc__law_holds.nd) mgs_nil)))) (mb_one (ms_if (mt_cmp (op_neD hr.units) neW_ok (me_call (takes_of rfl rfl rfl rfl) (ok__law_told T) (hr.mono (by decide)) T.gl__law_told T.fn__law_told.kp T.bn__law_told (by rfl) (ma_cons (me_var 0) (ma_cons (me_var 1) (ma_cons (me_var 8) ma_nil))) (aCons_len (aCons_len (aCons_len aNil_len)))) (me_tup (ma_cons me_str (ma_cons (me_var 9) ma_nil)))) (mb_one (ms_ret me_bl)) mb_nil)))
    (mb_cons (ms_for (passes_of rfl) rfl (mi_seq (me_var 2)) (mg_name 8 sc__law_holds.nd) (mb_one (ms_if (MP.mt (mp_and (mt_cmp (op_notInA (hu65 hr)) inW_ok (me_var 8) (me_lc (own := [("_law_one", 12)]) rfl sc__law_holds.nd (mi_seq (me_var 6)) (blkOk_by (own := [("_law_one", 12)]) (N := N__law_holds) (sc := defScope (top 33)) (by decide +kernel)) (fun _ _ _ _ _ => (mg_name 12 sc__law_holds.nd)) (fun _ _ _ _ _ => mts_nil) (fun _ _ _ _ _ => (me_ix ix_seq ixW_ok (me_var 12) me_int)))) (mp_and1 (mt_cmp (op_neD hr.units) neW_ok (me_call (takes_of rfl rfl rfl rfl) (ok__law_told T) (hr.mono (by decide)) T.gl__law_told T.fn__law_told.kp T.bn__law_told (by rfl) (ma_cons (me_var 0) (ma_cons (me_var 1) (ma_cons (me_var 8) ma_nil))) (aCons_len (aCons_len (aCons_len aNil_len)))) (me_tup (ma_cons me_str (ma_cons me_non ma_nil))))))) (mb_one (ms_ret me_bl)) mb_nil)))
    (mb_one (ms_ret me_bl))))))))
abbrev N_law : List Str := ["_law_script", "_law_book_here", "_law_words", "_law_row", "_law_numbers", "_law_other", "_law_at", "_law_forms", "_law_word"]
theorem sc_law : FnScope N_law ["_law_script"] (defScope (top 34)) := ⟨rfl, rfl, rfl, by decide +kernel, rfl, by decide +kernel, by decide +kernel⟩
theorem ok_law (T : Txt K mg base) : FnOk P HasW.w K mg base (L2.CX P HasW.w) (47) T.ad_law T.fd_law ["_law_script"] (SpM K mg 1 F_law) :=
  okF T.fn_law sc_law fun cdv A outer s H E hr =>
    (mb_cons (ms_set 0 sc_law.nd (me_frz (me_op op_addS addAW_ok (me_slice sl_all slW_ok (me_var 0) mo_none (mo_some me_int)) (me_op op_rep repW_ok (me_lst (ma_cons me_int ma_nil)) (me_callB (call_max2 rfl) maxW2_ok (by rfl) T.z_max (ma_cons me_int (ma_cons (me_op op_sub subW_ok me_int (me_callB call_len lenW_ok (by rfl) T.z_len (ma_cons (me_var 0) ma_nil))) ma_nil)))))))
    (mb_cons (ms_set 1 sc_law.nd (me_frz (me_call (takes_of rfl rfl rfl rfl) (ok__law_book T) (hr.mono (by decide)) T.gl__law_book T.fn__law_book.kp T.bn__law_book (by rfl) (ma_cons (me_var 0) ma_nil) (aCons_len aNil_len))))
    (mb_cons (ms_set 2 sc_law.nd (me_frz (me_op op_addS addAW_ok (me_lc (own := [("_law_row", 3)]) rfl sc_law.nd (mi_seq (me_ix ix_seq ixW_ok (me_var 1) me_int)) (blkOk_by (own := [("_law_row", 3)]) (N := N_law) (sc := defScope (top 34)) (by decide +kernel)) (fun _ _ _ _ _ => (mg_name 3 sc_law.nd)) (fun _ _ _ _ _ => mts_nil) (fun _ _ _ _ _ => (me_ix ix_seq ixW_ok (me_var 3) me_int))) (me_lst (ma_cons me_str (ma_cons me_str ma_nil))))))
    (mb_cons (ms_set 4 sc_law.nd (me_frz (me_call (takes_of rfl rfl rfl rfl) (ok__law_spread T) (hr.mono (by decide)) T.gl__law_spread T.fn__law_spread.kp T.bn__law_spread (by rfl) (ma_cons (me_ix ix_seq ixW_ok (me_var 0) me_int) (ma_cons me_int ma_nil)) (aCons_len (aCons_len aNil_len)))))
    (mb_cons (ms_set 5 sc_law.nd (me_ix ix_seq ixW_ok (me_var 2) (me_op op_mod modW_ok (me_ix ix_seq ixW_ok (me_var 4) me_int) (me_callB call_len lenW_ok (by rfl) T.z_len (ma_cons (me_var 2) ma_nil)))))
    (mb_cons (ms_set 6 sc_law.nd (me_op op_mod modW_ok (me_ix ix_seq ixW_ok (me_var 4) me_int) (me_op op_addS addAW_ok (me_callB call_len lenW_ok (by rfl) T.z_len (ma_cons (me_var 5) ma_nil)) me_int)))
    (mb_cons (ms_set 2 sc_law.nd (me_frz (me_op op_addS addAW_ok (me_slice sl_all slW_ok (me_var 2) mo_none (mo_some me_int)) (me_lst (ma_cons (me_frz (me_op op_addS addAW_ok (me_op op_addS addAW_ok (me_slice sl_all slW_ok (me_var 5) mo_none (mo_some (me_var 6))) (me_ix ix_seq ixW_ok me_str (me_op op_mod modW_ok (me_ix ix_seq ixW_ok (me_var 4) me_int) me_int))) (me_slice sl_all slW_ok (me_var 5) (mo_some (me_var 6)) mo_none))) (ma_cons (me_frz (me_op op_addS addAW_ok (me_slice sl_all slW_ok (me_var 5) mo_none (mo_some (me_var 6))) (me_slice sl_all slW_ok (me_var 5) (mo_some (me_op op_addS addAW_ok (me_var 6) me_int)) mo_none))) (ma_cons me_str ma_nil)))))))
    (mb_cons (ms_set 7 sc_law.nd (me_frz (me_op op_addS addAW_ok (me_lst (ma_cons (me_frz (me_call (takes_of rfl rfl rfl rfl) (ok__law_form T 40) (hr.mono (by decide)) T.gl__law_form T.fn__law_form.kp T.bn__law_form (by rfl) (ma_cons (me_obj (me_slice sl_all slW_ok (me_var 4) (mo_some me_int) mo_none)) (ma_cons (me_frz (me_callTy call_list_of listW_ok (by rfl) T.z_list (ma_cons (me_ix ix_seq ixW_ok (me_var 1) me_int) ma_nil))) (ma_cons (me_op op_addS addAW_ok me_int (me_op op_mod modW_ok (me_ix ix_seq ixW_ok (me_var 4) me_int) me_int)) ma_nil))) (aCons_len (aCons_len (aCons_len aNil_len))))) ma_nil)) (me_lc (own := [("_law_row", 3)]) rfl sc_law.nd (mi_seq (me_ix ix_seq ixW_ok (me_var 1) me_int)) (blkOk_by (own := [("_law_row", 3)]) (N := N_law) (sc := defScope (top 34)) (by decide +kernel)) (fun _ _ _ _ _ => (mg_name 3 sc_law.nd)) (fun _ _ _ _ _ => mts_nil) (fun _ _ _ _ _ => (me_ix ix_seq ixW_ok (me_var 3) me_int))))))
    (mb_one (ms_ret (me_callB (cr_all rfl) allW_ok (by rfl) T.z_all (ma_cons (me_lc (own := [("_law_word", 8)]) rfl sc_law.nd (mi_seq (me_var 2)) (blkOk_by (own := [("_law_word", 8)]) (N := N_law) (sc := defScope (top 34)) (by decide +kernel)) (fun _ _ _ _ _ => (mg_name 8 sc_law.nd)) (fun _ _ _ _ _ => mts_nil) (fun _ _ _ _ _ => (me_frz (me_call takesF (ok__law_holds T) (hr.mono (by decide)) T.gl__law_holds T.fn__law_holds.kp T.bn__law_holds (by rfl) (ma_cons (me_var 1) (ma_cons (me_var 8) (ma_cons (me_var 7) ma_nil))) (aCons_len (aCons_len (aCons_len aNil_len))))))) ma_nil))))))))))))
end
omit [HasW] in
theorem all_mk {l : PySem.W.OpenLaw} {w : World} {K : PySem.W.Frag} {h : Heap} {mg : Str → Option Value} {fa : Addr}
    {f1 : Addr} {od1 an1 : Option Addr} {sl1 : Array (Option Value)} {oc1 kV1 dc1 pm1 cd1 ct1 : Value}
    {f2 : Addr} {od2 an2 : Option Addr} {sl2 : Array (Option Value)} {oc2 kV2 dc2 pm2 cd2 ct2 : Value}
    {f3 : Addr} {od3 an3 : Option Addr} {sl3 : Array (Option Value)} {oc3 kV3 dc3 pm3 cd3 ct3 : Value}
    {f4 : Addr} {od4 an4 : Option Addr} {sl4 : Array (Option Value)} {oc4 kV4 dc4 pm4 cd4 ct4 : Value}
    {f5 : Addr} {od5 an5 : Option Addr} {sl5 : Array (Option Value)} {oc5 kV5 dc5 pm5 cd5 ct5 : Value}
    {f6 : Addr} {od6 an6 : Option Addr} {sl6 : Array (Option Value)} {oc6 kV6 dc6 pm6 cd6 ct6 : Value}
    {f7 : Addr} {od7 an7 : Option Addr} {sl7 : Array (Option Value)} {oc7 kV7 dc7 pm7 cd7 ct7 : Value}
    {f8 : Addr} {od8 an8 : Option Addr} {sl8 : Array (Option Value)} {oc8 kV8 dc8 pm8 cd8 ct8 : Value}
    {f9 : Addr} {od9 an9 : Option Addr} {sl9 : Array (Option Value)} {oc9 kV9 dc9 pm9 cd9 ct9 : Value}
    {f10 : Addr} {od10 an10 : Option Addr} {sl10 : Array (Option Value)} {oc10 kV10 dc10 pm10 cd10 ct10 : Value}
    {f11 : Addr} {od11 an11 : Option Addr} {sl11 : Array (Option Value)} {oc11 kV11 dc11 pm11 cd11 ct11 : Value}
    {f12 : Addr} {od12 an12 : Option Addr} {sl12 : Array (Option Value)} {oc12 kV12 dc12 pm12 cd12 ct12 : Value}
    {f13 : Addr} {od13 an13 : Option Addr} {sl13 : Array (Option Value)} {oc13 kV13 dc13 pm13 cd13 ct13 : Value}
    {f14 : Addr} {od14 an14 : Option Addr} {sl14 : Array (Option Value)} {oc14 kV14 dc14 pm14 cd14 ct14 : Value}
    {f15 : Addr} {od15 an15 : Option Addr} {sl15 : Array (Option Value)} {oc15 kV15 dc15 pm15 cd15 ct15 : Value}
    {f16 : Addr} {od16 an16 : Option Addr} {sl16 : Array (Option Value)} {oc16 kV16 dc16 pm16 cd16 ct16 : Value}
    {cu_s pu_s : Addr} {f17 : Addr} {od17 an17 : Option Addr} {sl17 : Array (Option Value)} {oc17 kV17 dc17 pm17 ct17 : Value}
    {f18 : Addr} {od18 an18 : Option Addr} {sl18 : Array (Option Value)} {oc18 kV18 dc18 pm18 cd18 ct18 : Value}
    {x_NoWord : Addr}
    {x_SlashError : Addr}
    {x_NoForm : Addr}
    {f19 : Addr} {od19 an19 : Option Addr} {sl19 : Array (Option Value)} {oc19 kV19 dc19 pm19 cd19 ct19 : Value}
    {nm19 qn19 : Str} {NN19 : Addr} {bs19 : List Value} {sn19 : List Str} {sub19 : List Value} {ab19 : Bool} {col19 : Option Bool} {dd19 : Option Addr} {m019 m119 m219 m319 m519 : Option Value}
    {n_Twice : Addr}
    {n_NoTerm : Addr}
    {n_NoRow : Addr}
    {n_NoReading : Addr}
    {n_NoKind : Addr}
    {n_NoBasic : Addr}
    {n_Misfit : Addr}
    {n_NoForm : Addr}
    {n_NoWord : Addr}
    (Y_s : h.get? pu_s = some { cls := .none, data := .fields #[] }) (X : K.In h) (G : h.Ns mainGlobals mg) (hfa : mg "law" = some (.ref fa))
    (a1 : PySem.W.nsIn K mainGlobals "show_form" = some (some (.ref f1))) (l1 : K.lookup f1 = some ⟨oc1, od1, .func (PySem.W.fnOf "show_form" "show_form" (defArgs (top 12)) (defBody (top 12)) (defScope (top 12)) .none kV1 dc1 pm1 an1 cd1 ct1), sl1⟩) (c1 : PySem.W.codeIn K cd1 "show_form" = true) (k1 : PySem.W.keepIn K (.ref f1) = true)
    (a2 : PySem.W.nsIn K mainGlobals "forms_of" = some (some (.ref f2))) (l2 : K.lookup f2 = some ⟨oc2, od2, .func (PySem.W.fnOf "forms_of" "forms_of" (defArgs (top 14)) (defBody (top 14)) (defScope (top 14)) .none kV2 dc2 pm2 an2 cd2 ct2), sl2⟩) (c2 : PySem.W.codeIn K cd2 "forms_of" = true) (k2 : PySem.W.keepIn K (.ref f2) = true)
    (a3 : PySem.W.nsIn K mainGlobals "term_of" = some (some (.ref f3))) (l3 : K.lookup f3 = some ⟨oc3, od3, .func (PySem.W.fnOf "term_of" "term_of" (defArgs (top 15)) (defBody (top 15)) (defScope (top 15)) .none kV3 dc3 pm3 an3 cd3 ct3), sl3⟩) (c3 : PySem.W.codeIn K cd3 "term_of" = true) (k3 : PySem.W.keepIn K (.ref f3) = true)
    (a4 : PySem.W.nsIn K mainGlobals "_law_take" = some (some (.ref f4))) (l4 : K.lookup f4 = some ⟨oc4, od4, .func (PySem.W.fnOf "_law_take" "_law_take" (defArgs (top 17)) (defBody (top 17)) (defScope (top 17)) .none kV4 dc4 pm4 an4 cd4 ct4), sl4⟩) (c4 : PySem.W.codeIn K cd4 "_law_take" = true) (k4 : PySem.W.keepIn K (.ref f4) = true)
    (a5 : PySem.W.nsIn K mainGlobals "_law_names" = some (some (.ref f5))) (l5 : K.lookup f5 = some ⟨oc5, od5, .func (PySem.W.fnOf "_law_names" "_law_names" (defArgs (top 18)) (defBody (top 18)) (defScope (top 18)) .none kV5 dc5 pm5 an5 cd5 ct5), sl5⟩) (c5 : PySem.W.codeIn K cd5 "_law_names" = true) (k5 : PySem.W.keepIn K (.ref f5) = true)
    (a6 : PySem.W.nsIn K mainGlobals "_law_form" = some (some (.ref f6))) (l6 : K.lookup f6 = some ⟨oc6, od6, .func (PySem.W.fnOf "_law_form" "_law_form" (defArgs (top 19)) (defBody (top 19)) (defScope (top 19)) .none kV6 dc6 pm6 an6 cd6 ct6), sl6⟩) (c6 : PySem.W.codeIn K cd6 "_law_form" = true) (k6 : PySem.W.keepIn K (.ref f6) = true)
    (a7 : PySem.W.nsIn K mainGlobals "_law_spread" = some (some (.ref f7))) (l7 : K.lookup f7 = some ⟨oc7, od7, .func (PySem.W.fnOf "_law_spread" "_law_spread" (defArgs (top 20)) (defBody (top 20)) (defScope (top 20)) .none kV7 dc7 pm7 an7 cd7 ct7), sl7⟩) (c7 : PySem.W.codeIn K cd7 "_law_spread" = true) (k7 : PySem.W.keepIn K (.ref f7) = true)
    (a8 : PySem.W.nsIn K mainGlobals "_law_kind" = some (some (.ref f8))) (l8 : K.lookup f8 = some ⟨oc8, od8, .func (PySem.W.fnOf "_law_kind" "_law_kind" (defArgs (top 21)) (defBody (top 21)) (defScope (top 21)) .none kV8 dc8 pm8 an8 cd8 ct8), sl8⟩) (c8 : PySem.W.codeIn K cd8 "_law_kind" = true) (k8 : PySem.W.keepIn K (.ref f8) = true)
    (a9 : PySem.W.nsIn K mainGlobals "_law_wanted" = some (some (.ref f9))) (l9 : K.lookup f9 = some ⟨oc9, od9, .func (PySem.W.fnOf "_law_wanted" "_law_wanted" (defArgs (top 22)) (defBody (top 22)) (defScope (top 22)) .none kV9 dc9 pm9 an9 cd9 ct9), sl9⟩) (c9 : PySem.W.codeIn K cd9 "_law_wanted" = true) (k9 : PySem.W.keepIn K (.ref f9) = true)
    (a10 : PySem.W.nsIn K mainGlobals "_law_of_two" = some (some (.ref f10))) (l10 : K.lookup f10 = some ⟨oc10, od10, .func (PySem.W.fnOf "_law_of_two" "_law_of_two" (defArgs (top 23)) (defBody (top 23)) (defScope (top 23)) .none kV10 dc10 pm10 an10 cd10 ct10), sl10⟩) (c10 : PySem.W.codeIn K cd10 "_law_of_two" = true) (k10 : PySem.W.keepIn K (.ref f10) = true)
    (a11 : PySem.W.nsIn K mainGlobals "_law_body" = some (some (.ref f11))) (l11 : K.lookup f11 = some ⟨oc11, od11, .func (PySem.W.fnOf "_law_body" "_law_body" (defArgs (top 24)) (defBody (top 24)) (defScope (top 24)) .none kV11 dc11 pm11 an11 cd11 ct11), sl11⟩) (c11 : PySem.W.codeIn K cd11 "_law_body" = true) (k11 : PySem.W.keepIn K (.ref f11) = true)
    (a12 : PySem.W.nsIn K mainGlobals "_law_meaning" = some (some (.ref f12))) (l12 : K.lookup f12 = some ⟨oc12, od12, .func (PySem.W.fnOf "_law_meaning" "_law_meaning" (defArgs (top 25)) (defBody (top 25)) (defScope (top 25)) .none kV12 dc12 pm12 an12 cd12 ct12), sl12⟩) (c12 : PySem.W.codeIn K cd12 "_law_meaning" = true) (k12 : PySem.W.keepIn K (.ref f12) = true)
    (a13 : PySem.W.nsIn K mainGlobals "_law_form_text" = some (some (.ref f13))) (l13 : K.lookup f13 = some ⟨oc13, od13, .func (PySem.W.fnOf "_law_form_text" "_law_form_text" (defArgs (top 27)) (defBody (top 27)) (defScope (top 27)) .none kV13 dc13 pm13 an13 cd13 ct13), sl13⟩) (c13 : PySem.W.codeIn K cd13 "_law_form_text" = true) (k13 : PySem.W.keepIn K (.ref f13) = true)
    (a14 : PySem.W.nsIn K mainGlobals "_law_book" = some (some (.ref f14))) (l14 : K.lookup f14 = some ⟨oc14, od14, .func (PySem.W.fnOf "_law_book" "_law_book" (defArgs (top 29)) (defBody (top 29)) (defScope (top 29)) .none kV14 dc14 pm14 an14 cd14 ct14), sl14⟩) (c14 : PySem.W.codeIn K cd14 "_law_book" = true) (k14 : PySem.W.keepIn K (.ref f14) = true)
    (a15 : PySem.W.nsIn K mainGlobals "_law_alone" = some (some (.ref f15))) (l15 : K.lookup f15 = some ⟨oc15, od15, .func (PySem.W.fnOf "_law_alone" "_law_alone" (defArgs (top 31)) (defBody (top 31)) (defScope (top 31)) .none kV15 dc15 pm15 an15 cd15 ct15), sl15⟩) (c15 : PySem.W.codeIn K cd15 "_law_alone" = true) (k15 : PySem.W.keepIn K (.ref f15) = true)
    (a16 : PySem.W.nsIn K mainGlobals "_law_told" = some (some (.ref f16))) (l16 : K.lookup f16 = some ⟨oc16, od16, .func (PySem.W.fnOf "_law_told" "_law_told" (defArgs (top 32)) (defBody (top 32)) (defScope (top 32)) .none kV16 dc16 pm16 an16 cd16 ct16), sl16⟩) (c16 : PySem.W.codeIn K cd16 "_law_told" = true) (k16 : PySem.W.keepIn K (.ref f16) = true)
    (a17 : PySem.W.nsIn K mainGlobals "_law_holds" = some (some (.ref f17))) (l17 : K.lookup f17 = some ⟨oc17, od17, .func (PySem.W.fnOf "_law_holds" "_law_holds" (defArgs (top 33)) (defBody (top 33)) (defScope (top 33)) .none kV17 dc17 pm17 an17 (.ref cu_s) ct17), sl17⟩) (c17 : PySem.W.codeIn K (.ref cu_s) "_law_holds" = true) (k17 : PySem.W.keepIn K (.ref f17) = true)
    (a18 : PySem.W.nsIn K mainGlobals "law" = some (some (.ref f18))) (l18 : K.lookup f18 = some ⟨oc18, od18, .func (PySem.W.fnOf "law" "law" (defArgs (top 34)) (defBody (top 34)) (defScope (top 34)) .none kV18 dc18 pm18 an18 cd18 ct18), sl18⟩) (c18 : PySem.W.codeIn K cd18 "law" = true) (k18 : PySem.W.keepIn K (.ref f18) = true)
    (z_ValueError : PySem.W.nsIn K mainGlobals "ValueError" = some none)
    (z_all : PySem.W.nsIn K mainGlobals "all" = some none)
    (z_enumerate : PySem.W.nsIn K mainGlobals "enumerate" = some none)
    (z_isinstance : PySem.W.nsIn K mainGlobals "isinstance" = some none)
    (z_len : PySem.W.nsIn K mainGlobals "len" = some none)
    (z_list : PySem.W.nsIn K mainGlobals "list" = some none)
    (z_max : PySem.W.nsIn K mainGlobals "max" = some none)
    (z_range : PySem.W.nsIn K mainGlobals "range" = some none)
    (z_sorted : PySem.W.nsIn K mainGlobals "sorted" = some none)
    (z_str : PySem.W.nsIn K mainGlobals "str" = some none)
    (z_tuple : PySem.W.nsIn K mainGlobals "tuple" = some none)
    (xg_NoWord : PySem.W.nsIn K mainGlobals "NoWord" = some (some (.ref x_NoWord)))
    (xl_NoWord : K.lookup x_NoWord = some (excClassObj nm19 qn19 x_NoWord NN19 bs19 [.ref x_SlashError, .type "ValueError", .type "Exception", .type "BaseException", .type "object"] true sn19 sub19 ab19 col19 dd19 m019 m119 m219 m319 m519 "ValueError.__new__"))
    (xsa_NoWord : PySem.W.findIn K (.ref x_NoWord) "__setattr__" = some (some (.builtin "object.__setattr__")))
    (xb_NoWord : PySem.W.subIn K (.ref x_NoWord) (.type "BaseException") = some true)
    (xt_NoWord : PySem.W.typeIn K (.ref x_NoWord) = some (.type "type"))
    (xk_NoWord : PySem.W.keepIn K (.ref x_NoWord) = true)
    (xga_NoWord : PySem.W.findIn K (.ref x_NoWord) "__getattribute__" = some (some (.builtin "BaseException.__getattribute__")))
    (xgg_NoWord : PySem.W.findIn K (.ref x_NoWord) "__getattr__" = some none)
    (xhd_NoWord : PySem.W.hasDictIn K x_NoWord = true)
    (xiC_NoWord : PySem.W.findIn K (.ref x_NoWord) "__init__" = some (some (.ref f19)))
    (xtI_NoWord : PySem.W.typeIn K (.ref f19) = some (.type "function"))
    (xil_NoWord : K.lookup f19 = some ⟨oc19, od19, .func (PySem.W.fnOf "__init__" "NoWord.__init__" (defArgs (inClass (top 9) 0)) (defBody (inClass (top 9) 0)) (defScope (inClass (top 9) 0)) .none kV19 dc19 pm19 an19 cd19 ct19), sl19⟩)
    (xic_NoWord : PySem.W.codeIn K cd19 "NoWord.__init__" = true)
    (xik_NoWord : PySem.W.keepIn K (.ref f19) = true)
    (xn_word_NoWord : PySem.W.findIn K (.ref x_NoWord) "word" = some none)
    (xn_place_NoWord : PySem.W.findIn K (.ref x_NoWord) "place" = some none)
    (xg_SlashError : PySem.W.nsIn K mainGlobals "SlashError" = some (some (.ref x_SlashError))) (xq_SlashError : PySem.W.excIn K x_SlashError [.type "ValueError", .type "Exception", .type "BaseException", .type "object"] "ValueError.__new__" = true) (xk_SlashError : PySem.W.keepIn K (.ref x_SlashError) = true) (xb_SlashError : PySem.W.subIn K (.ref x_SlashError) (.type "BaseException") = some true) (xt_SlashError : PySem.W.typeIn K (.ref x_SlashError) = some (.type "type"))
    (xg_NoForm : PySem.W.nsIn K mainGlobals "NoForm" = some (some (.ref x_NoForm))) (xq_NoForm : PySem.W.excIn K x_NoForm [.type "ValueError", .type "Exception", .type "BaseException", .type "object"] "ValueError.__new__" = true) (xk_NoForm : PySem.W.keepIn K (.ref x_NoForm) = true) (xb_NoForm : PySem.W.subIn K (.ref x_NoForm) (.type "BaseException") = some true) (xt_NoForm : PySem.W.typeIn K (.ref x_NoForm) = some (.type "type"))
    (in0_SlashError : PySem.W.specialIn K (.ref x_SlashError) "__getattribute__" = some (some (.builtin "type.__getattribute__")))
    (in1_SlashError : PySem.W.readsIn K x_SlashError (.type "type") = true)
    (in2_SlashError : PySem.W.findCls K (.ref x_SlashError) (.type "type") "__init__" = some (.val (.builtin "ValueError.__init__")))
    (ng_Twice : PySem.W.nsIn K mainGlobals "Twice" = some (some (.ref n_Twice)))
    (ng_NoTerm : PySem.W.nsIn K mainGlobals "NoTerm" = some (some (.ref n_NoTerm)))
    (ng_NoRow : PySem.W.nsIn K mainGlobals "NoRow" = some (some (.ref n_NoRow)))
    (ng_NoReading : PySem.W.nsIn K mainGlobals "NoReading" = some (some (.ref n_NoReading)))
    (ng_NoKind : PySem.W.nsIn K mainGlobals "NoKind" = some (some (.ref n_NoKind)))
    (ng_NoBasic : PySem.W.nsIn K mainGlobals "NoBasic" = some (some (.ref n_NoBasic)))
    (ng_Misfit : PySem.W.nsIn K mainGlobals "Misfit" = some (some (.ref n_Misfit)))
    (ng_NoForm : PySem.W.nsIn K mainGlobals "NoForm" = some (some (.ref n_NoForm)))
    (ng_NoWord : PySem.W.nsIn K mainGlobals "NoWord" = some (some (.ref n_NoWord)))
    (ec0_NoWord : PySem.W.findIn K (.ref x_NoWord) "__getattribute__" = some (some (.builtin "BaseException.__getattribute__")))
    (ec1_NoWord : PySem.W.findIn K (.ref x_NoWord) "__getattr__" = some none)
    (ec2_NoWord : PySem.W.subIn K (.ref x_NoWord) (.type "BaseException") = some true)
    (ec3_NoWord : PySem.W.hasDictIn K x_NoWord = true)
    (ec4_NoWord : PySem.W.findIn K (.ref x_NoWord) "__class__" = some (some (.builtin "object.__class__")))
    (ec5_NoWord : PySem.W.specialIn K (.builtin "object.__class__") "__get__" = some (some (.builtin "getset_descriptor.__get__")))
    (ec6_NoWord : PySem.W.takesIn K (.builtin "object.__class__") = some true)
    (ec7_NoWord : PySem.W.mroIn K x_NoWord (.type "object") = some true)
    (xi_NoWord_0 : PySem.W.kitAny K (.ref x_NoWord) [.ref n_Misfit, .ref n_NoBasic, .ref n_NoKind, .ref n_NoReading, .ref n_NoRow, .ref n_NoTerm, .ref n_Twice] = some false)
    (xi_NoWord_1 : PySem.W.kitAny K (.ref x_NoWord) [.type "ValueError"] = some true)
    (xi_NoWord_2 : PySem.W.kitAny K (.ref x_NoWord) [.ref n_NoForm] = some false)
    (xi_NoWord_3 : PySem.W.kitAny K (.ref x_NoWord) [.ref n_NoWord] = some true)
    (ec0_NoForm : PySem.W.findIn K (.ref x_NoForm) "__getattribute__" = some (some (.builtin "BaseException.__getattribute__")))
    (ec1_NoForm : PySem.W.findIn K (.ref x_NoForm) "__getattr__" = some none)
    (ec2_NoForm : PySem.W.subIn K (.ref x_NoForm) (.type "BaseException") = some true)
    (ec3_NoForm : PySem.W.hasDictIn K x_NoForm = true)
    (ec4_NoForm : PySem.W.findIn K (.ref x_NoForm) "__class__" = some (some (.builtin "object.__class__")))
    (ec5_NoForm : PySem.W.specialIn K (.builtin "object.__class__") "__get__" = some (some (.builtin "getset_descriptor.__get__")))
    (ec6_NoForm : PySem.W.takesIn K (.builtin "object.__class__") = some true)
    (ec7_NoForm : PySem.W.mroIn K x_NoForm (.type "object") = some true)
    (xi_NoForm_0 : PySem.W.kitAny K (.ref x_NoForm) [.ref n_Misfit, .ref n_NoBasic, .ref n_NoKind, .ref n_NoReading, .ref n_NoRow, .ref n_NoTerm, .ref n_Twice] = some false)
    (xi_NoForm_1 : PySem.W.kitAny K (.ref x_NoForm) [.type "ValueError"] = some true)
    (xi_NoForm_2 : PySem.W.kitAny K (.ref x_NoForm) [.ref n_NoForm] = some true)
    (xi_NoForm_3 : PySem.W.kitAny K (.ref x_NoForm) [.ref n_NoWord] = some false)
    (xm_NoWord_SlashError : PySem.W.exmOne K (.ref x_NoWord) (.ref x_SlashError) = some true)
    (xm_NoForm_SlashError : PySem.W.exmOne K (.ref x_NoForm) (.ref x_SlashError) = some true)
    (hs_c : PySem.W.codeHdIn K cu_s pu_s = true)
    (hs_p : K.lookup pu_s = none) :
    LamX.LawAtS l w K (L2.CX l.prog w) 47 63 "_law_script" mg fa h := by
  have e := hfa.symm.trans (PySem.W.mg_of X G a18)
  cases e
  letI : HasW := ⟨w, ([(cu_s, pu_s)] : List (Addr × Addr)).map fun p => (p.2, nmL)⟩
  refine ⟨PySem.W.fnOf "law" "law" (defArgs (top 34)) (defBody (top 34)) (defScope (top 34)) .none kV18 dc18 pm18 an18 cd18 ct18, [(cu_s, pu_s)], spLawTs K [(cu_s, pu_s)], fun p hp => ?_, fun p hp => ?_, fun p hp => ?_, fun s v => .of_eq rfl, fun H a ns hl _ hT hS => ⟨a, ns, rfl, hS, hl, hT, fun _ => rfl⟩, fun base _ _ tb => ?_⟩
  · rw [List.mem_singleton.mp hp]; exact Y_s
  · rw [List.mem_singleton.mp hp]; exact hs_p
  · rw [List.mem_singleton.mp hp]; exact PySem.W.codeHd_of_K X hs_c
  let T : Txt K mg base := {
    ad_show_form := f1, fd_show_form := PySem.W.fnOf "show_form" "show_form" (defArgs (top 12)) (defBody (top 12)) (defScope (top 12)) .none kV1 dc1 pm1 an1 cd1 ct1, fn_show_form := fun_mk (st := (top 12)) l1 c1 k1, bn_show_form := (fun_mk (st := (top 12)) l1 c1 k1).binds (ps := ["form"]) fun _ _ _ _ _ _ us hl => (match us, hl with | [_], _ => rfl), gl_show_form := PySem.W.mg_of X G a1,
    ad_forms_of := f2, fd_forms_of := PySem.W.fnOf "forms_of" "forms_of" (defArgs (top 14)) (defBody (top 14)) (defScope (top 14)) .none kV2 dc2 pm2 an2 cd2 ct2, fn_forms_of := fun_mk (st := (top 14)) l2 c2 k2, bn_forms_of := (fun_mk (st := (top 14)) l2 c2 k2).binds (ps := ["book", "word"]) fun _ _ _ _ _ _ us hl => (match us, hl with | [_, _], _ => rfl), gl_forms_of := PySem.W.mg_of X G a2,
    ad_term_of := f3, fd_term_of := PySem.W.fnOf "term_of" "term_of" (defArgs (top 15)) (defBody (top 15)) (defScope (top 15)) .none kV3 dc3 pm3 an3 cd3 ct3, fn_term_of := fun_mk (st := (top 15)) l3 c3 k3, bn_term_of := (fun_mk (st := (top 15)) l3 c3 k3).binds (ps := ["book", "word", "form"]) fun _ _ _ _ _ _ us hl => (match us, hl with | [_, _, _], _ => rfl), gl_term_of := PySem.W.mg_of X G a3,
    ad__law_take := f4, fd__law_take := PySem.W.fnOf "_law_take" "_law_take" (defArgs (top 17)) (defBody (top 17)) (defScope (top 17)) .none kV4 dc4 pm4 an4 cd4 ct4, fn__law_take := fun_mk (st := (top 17)) l4 c4 k4, bn__law_take := (fun_mk (st := (top 17)) l4 c4 k4).binds (ps := ["_law_cells", "_law_many"]) fun _ _ _ _ _ _ us hl => (match us, hl with | [_, _], _ => rfl), gl__law_take := PySem.W.mg_of X G a4,
    ad__law_names := f5, fd__law_names := PySem.W.fnOf "_law_names" "_law_names" (defArgs (top 18)) (defBody (top 18)) (defScope (top 18)) .none kV5 dc5 pm5 an5 cd5 ct5, fn__law_names := fun_mk (st := (top 18)) l5 c5 k5, bn__law_names := (fun_mk (st := (top 18)) l5 c5 k5).binds (ps := ["_law_cell", "_law_many"]) fun _ _ _ _ _ _ us hl => (match us, hl with | [_, _], _ => rfl), gl__law_names := PySem.W.mg_of X G a5,
    ad__law_form := f6, fd__law_form := PySem.W.fnOf "_law_form" "_law_form" (defArgs (top 19)) (defBody (top 19)) (defScope (top 19)) .none kV6 dc6 pm6 an6 cd6 ct6, fn__law_form := fun_mk (st := (top 19)) l6 c6 k6, bn__law_form := (fun_mk (st := (top 19)) l6 c6 k6).binds (ps := ["_law_cells", "_law_basics", "_law_left"]) fun _ _ _ _ _ _ us hl => (match us, hl with | [_, _, _], _ => rfl), gl__law_form := PySem.W.mg_of X G a6,
    ad__law_spread := f7, fd__law_spread := PySem.W.fnOf "_law_spread" "_law_spread" (defArgs (top 20)) (defBody (top 20)) (defScope (top 20)) .none kV7 dc7 pm7 an7 cd7 ct7, fn__law_spread := fun_mk (st := (top 20)) l7 c7 k7, bn__law_spread := (fun_mk (st := (top 20)) l7 c7 k7).binds (ps := ["_law_cell", "_law_many"]) fun _ _ _ _ _ _ us hl => (match us, hl with | [_, _], _ => rfl), gl__law_spread := PySem.W.mg_of X G a7,
    ad__law_kind := f8, fd__law_kind := PySem.W.fnOf "_law_kind" "_law_kind" (defArgs (top 21)) (defBody (top 21)) (defScope (top 21)) .none kV8 dc8 pm8 an8 cd8 ct8, fn__law_kind := fun_mk (st := (top 21)) l8 c8 k8, bn__law_kind := (fun_mk (st := (top 21)) l8 c8 k8).binds (ps := ["_law_form_here"]) fun _ _ _ _ _ _ us hl => (match us, hl with | [_], _ => rfl), gl__law_kind := PySem.W.mg_of X G a8,
    ad__law_wanted := f9, fd__law_wanted := PySem.W.fnOf "_law_wanted" "_law_wanted" (defArgs (top 22)) (defBody (top 22)) (defScope (top 22)) .none kV9 dc9 pm9 an9 cd9 ct9, fn__law_wanted := fun_mk (st := (top 22)) l9 c9 k9, bn__law_wanted := (fun_mk (st := (top 22)) l9 c9 k9).binds (ps := ["_law_kind_here"]) fun _ _ _ _ _ _ us hl => (match us, hl with | [_], _ => rfl), gl__law_wanted := PySem.W.mg_of X G a9,
    ad__law_of_two := f10, fd__law_of_two := PySem.W.fnOf "_law_of_two" "_law_of_two" (defArgs (top 23)) (defBody (top 23)) (defScope (top 23)) .none kV10 dc10 pm10 an10 cd10 ct10, fn__law_of_two := fun_mk (st := (top 23)) l10 c10 k10, bn__law_of_two := (fun_mk (st := (top 23)) l10 c10 k10).binds (ps := ["_law_name", "_law_kinds", "_law_rest", "_law_one", "_law_other"]) fun _ _ _ _ _ _ us hl => (match us, hl with | [_, _, _, _, _], _ => rfl), gl__law_of_two := PySem.W.mg_of X G a10,
    ad__law_body := f11, fd__law_body := PySem.W.fnOf "_law_body" "_law_body" (defArgs (top 24)) (defBody (top 24)) (defScope (top 24)) .none kV11 dc11 pm11 an11 cd11 ct11, fn__law_body := fun_mk (st := (top 24)) l11 c11 k11, bn__law_body := (fun_mk (st := (top 24)) l11 c11 k11).binds (ps := ["_law_kinds", "_law_rest", "_law_name", "_law_cell"]) fun _ _ _ _ _ _ us hl => (match us, hl with | [_, _, _, _], _ => rfl), gl__law_body := PySem.W.mg_of X G a11,
    ad__law_meaning := f12, fd__law_meaning := PySem.W.fnOf "_law_meaning" "_law_meaning" (defArgs (top 25)) (defBody (top 25)) (defScope (top 25)) .none kV12 dc12 pm12 an12 cd12 ct12, fn__law_meaning := fun_mk (st := (top 25)) l12 c12 k12, bn__law_meaning := (fun_mk (st := (top 25)) l12 c12 k12).binds (ps := ["_law_form_here", "_law_name", "_law_cell"]) fun _ _ _ _ _ _ us hl => (match us, hl with | [_, _, _], _ => rfl), gl__law_meaning := PySem.W.mg_of X G a12,
    ad__law_form_text := f13, fd__law_form_text := PySem.W.fnOf "_law_form_text" "_law_form_text" (defArgs (top 27)) (defBody (top 27)) (defScope (top 27)) .none kV13 dc13 pm13 an13 cd13 ct13, fn__law_form_text := fun_mk (st := (top 27)) l13 c13 k13, bn__law_form_text := (fun_mk (st := (top 27)) l13 c13 k13).binds (ps := ["_law_form_here"]) fun _ _ _ _ _ _ us hl => (match us, hl with | [_], _ => rfl), gl__law_form_text := PySem.W.mg_of X G a13,
    ad__law_book := f14, fd__law_book := PySem.W.fnOf "_law_book" "_law_book" (defArgs (top 29)) (defBody (top 29)) (defScope (top 29)) .none kV14 dc14 pm14 an14 cd14 ct14, fn__law_book := fun_mk (st := (top 29)) l14 c14 k14, bn__law_book := (fun_mk (st := (top 29)) l14 c14 k14).binds (ps := ["_law_script"]) fun _ _ _ _ _ _ us hl => (match us, hl with | [_], _ => rfl), gl__law_book := PySem.W.mg_of X G a14,
    ad__law_alone := f15, fd__law_alone := PySem.W.fnOf "_law_alone" "_law_alone" (defArgs (top 31)) (defBody (top 31)) (defScope (top 31)) .none kV15 dc15 pm15 an15 cd15 ct15, fn__law_alone := fun_mk (st := (top 31)) l15 c15 k15, bn__law_alone := (fun_mk (st := (top 31)) l15 c15 k15).binds (ps := ["_law_e"]) fun _ _ _ _ _ _ us hl => (match us, hl with | [_], _ => rfl), gl__law_alone := PySem.W.mg_of X G a15,
    ad__law_told := f16, fd__law_told := PySem.W.fnOf "_law_told" "_law_told" (defArgs (top 32)) (defBody (top 32)) (defScope (top 32)) .none kV16 dc16 pm16 an16 cd16 ct16, fn__law_told := fun_mk (st := (top 32)) l16 c16 k16, bn__law_told := (fun_mk (st := (top 32)) l16 c16 k16).binds (ps := ["_law_book_here", "_law_word", "_law_form_here"]) fun _ _ _ _ _ _ us hl => (match us, hl with | [_, _, _], _ => rfl), gl__law_told := PySem.W.mg_of X G a16,
    ad__law_holds := f17, fd__law_holds := PySem.W.fnOf "_law_holds" "_law_holds" (defArgs (top 33)) (defBody (top 33)) (defScope (top 33)) .none kV17 dc17 pm17 an17 (.ref cu_s) ct17, fn__law_holds := fun_mk (st := (top 33)) l17 c17 k17, bn__law_holds := (fun_mk (st := (top 33)) l17 c17 k17).binds (ps := ["_law_book_here", "_law_word", "_law_forms"]) fun _ _ _ _ _ _ us hl => (match us, hl with | [_, _, _], _ => rfl), gl__law_holds := PySem.W.mg_of X G a17,
    ad_law := _, fd_law := PySem.W.fnOf "law" "law" (defArgs (top 34)) (defBody (top 34)) (defScope (top 34)) .none kV18 dc18 pm18 an18 cd18 ct18, fn_law := fun_mk (st := (top 34)) l18 c18 k18, bn_law := (fun_mk (st := (top 34)) l18 c18 k18).binds (ps := ["_law_script"]) fun _ _ _ _ _ _ us hl => (match us, hl with | [_], _ => rfl), gl_law := PySem.W.mg_of X G a18,
    cu_s := cu_s, pu_s := pu_s, cod_s := rfl, tb_s := tb (cu_s, pu_s) List.mem_cons_self,
    hw := rfl,
    z_ValueError := PySem.W.mg_none_of X G z_ValueError,
    z_all := PySem.W.mg_none_of X G z_all,
    z_enumerate := PySem.W.mg_none_of X G z_enumerate,
    z_isinstance := PySem.W.mg_none_of X G z_isinstance,
    z_len := PySem.W.mg_none_of X G z_len,
    z_list := PySem.W.mg_none_of X G z_list,
    z_max := PySem.W.mg_none_of X G z_max,
    z_range := PySem.W.mg_none_of X G z_range,
    z_sorted := PySem.W.mg_none_of X G z_sorted,
    z_str := PySem.W.mg_none_of X G z_str,
    z_tuple := PySem.W.mg_none_of X G z_tuple,
    xc_NoWord := ⟨x_NoWord, PySem.W.mg_of X G xg_NoWord, ⟨⟨_, _, _, _, _, _, _, _, _, _, _, _, _, _, _, xl_NoWord, rfl⟩, xsa_NoWord, xb_NoWord, xt_NoWord, xk_NoWord⟩, ⟨xga_NoWord, xgg_NoWord, xb_NoWord, xhd_NoWord⟩, f19, xiC_NoWord, xtI_NoWord⟩,
    fdi_NoWord := PySem.W.fnOf "__init__" "NoWord.__init__" (defArgs (inClass (top 9) 0)) (defBody (inClass (top 9) 0)) (defScope (inClass (top 9) 0)) .none kV19 dc19 pm19 an19 cd19 ct19, fni_NoWord := fun_mk (st := (inClass (top 9) 0)) xil_NoWord xic_NoWord xik_NoWord, bi_NoWord := (fun_mk (st := (inClass (top 9) 0)) xil_NoWord xic_NoWord xik_NoWord).binds (ps := ["self", "word", "place"]) fun _ _ _ _ _ _ us hl => (match us, hl with | [_, _, _], _ => rfl),
    nf_NoWord_word := xn_word_NoWord,
    nf_NoWord_place := xn_place_NoWord,
    xc_SlashError := ⟨x_SlashError, PySem.W.mg_of X G xg_SlashError, xq_SlashError, xk_SlashError, xb_SlashError, xt_SlashError⟩,
    xc_NoForm := ⟨x_NoForm, PySem.W.mg_of X G xg_NoForm, xq_NoForm, xk_NoForm, xb_NoForm, xt_NoForm⟩,
    in_SlashError := ⟨in0_SlashError, in1_SlashError, in2_SlashError⟩,
    cn_Twice := n_Twice, cng_Twice := PySem.W.mg_of X G ng_Twice,
    cn_NoTerm := n_NoTerm, cng_NoTerm := PySem.W.mg_of X G ng_NoTerm,
    cn_NoRow := n_NoRow, cng_NoRow := PySem.W.mg_of X G ng_NoRow,
    cn_NoReading := n_NoReading, cng_NoReading := PySem.W.mg_of X G ng_NoReading,
    cn_NoKind := n_NoKind, cng_NoKind := PySem.W.mg_of X G ng_NoKind,
    cn_NoBasic := n_NoBasic, cng_NoBasic := PySem.W.mg_of X G ng_NoBasic,
    cn_Misfit := n_Misfit, cng_Misfit := PySem.W.mg_of X G ng_Misfit,
    cn_NoForm := n_NoForm, cng_NoForm := PySem.W.mg_of X G ng_NoForm,
    cn_NoWord := n_NoWord, cng_NoWord := PySem.W.mg_of X G ng_NoWord,
    ec_NoWord := ⟨ec0_NoWord, ec1_NoWord, ec2_NoWord, ec3_NoWord, ec4_NoWord, ec5_NoWord, ec6_NoWord, ec7_NoWord⟩,
    xi_NoWord_0 := xi_NoWord_0,
    xi_NoWord_1 := xi_NoWord_1,
    xi_NoWord_2 := xi_NoWord_2,
    xi_NoWord_3 := xi_NoWord_3,
    ec_NoForm := ⟨ec0_NoForm, ec1_NoForm, ec2_NoForm, ec3_NoForm, ec4_NoForm, ec5_NoForm, ec6_NoForm, ec7_NoForm⟩,
    xi_NoForm_0 := xi_NoForm_0,
    xi_NoForm_1 := xi_NoForm_1,
    xi_NoForm_2 := xi_NoForm_2,
    xi_NoForm_3 := xi_NoForm_3,
    xm_NoWord_SlashError := xm_NoWord_SlashError,
    xm_NoForm_SlashError := xm_NoForm_SlashError }
  exact law_impTs (ok_law T) rfl (law_true law_P)
end K25
open PySem PySem.W PyProof.Rows
set_option maxRecDepth 100000 in
set_option maxHeartbeats 0 in
theorem PySem.Challenge.cw_slashwise_k25_forms_and_meanings_of_word_holds : PySem.Challenge.rw_slashwise_k25_forms_and_meanings_of_word.Holds := by
  w_on; o_law; k_head; (case hw => w_witness2)
  k_fill
  refine LamX.walk_ofTs (l := PySem.Challenge.rw_slashwise_k25_forms_and_meanings_of_word) (n := 63) (k := 47) (x := "_law_script") (CX := fun w => L2.CX PySem.Challenge.rw_slashwise_k25_forms_and_meanings_of_word.prog w) rfl (by decide) rfl ⟨rfl, by decide, by decide⟩ (fun w h Y => PySem.W.km_in_of Y) ?F (fun w _ _ _ _ h => @M.cx_no ⟨w, []⟩ _ _ _ _ _ _ h)
  case F =>
    intro w mg fa h Y KX G hmg
    refine' K25.all_mk (PySem.W.km_tabs_of Y _ List.mem_cons_self) KX G hmg ?a1 ?l1 ?c1 ?k1 ?a2 ?l2 ?c2 ?k2 ?a3 ?l3 ?c3 ?k3 ?a4 ?l4 ?c4 ?k4 ?a5 ?l5 ?c5 ?k5 ?a6 ?l6 ?c6 ?k6 ?a7 ?l7 ?c7 ?k7 ?a8 ?l8 ?c8 ?k8 ?a9 ?l9 ?c9 ?k9 ?a10 ?l10 ?c10 ?k10 ?a11 ?l11 ?c11 ?k11 ?a12 ?l12 ?c12 ?k12 ?a13 ?l13 ?c13 ?k13 ?a14 ?l14 ?c14 ?k14 ?a15 ?l15 ?c15 ?k15 ?a16 ?l16 ?c16 ?k16 ?a17 ?l17 ?c17 ?k17 ?a18 ?l18 ?c18 ?k18 ?z_ValueError ?z_all ?z_enumerate ?z_isinstance ?z_len ?z_list ?z_max ?z_range ?z_sorted ?z_str ?z_tuple ?xg_NoWord ?xl_NoWord ?xsa_NoWord ?xb_NoWord ?xt_NoWord ?xk_NoWord ?xga_NoWord ?xgg_NoWord ?xhd_NoWord ?xiC_NoWord ?xtI_NoWord ?xil_NoWord ?xic_NoWord ?xik_NoWord ?xn_word_NoWord ?xn_place_NoWord ?xg_SlashError ?xq_SlashError ?xk_SlashError ?xb_SlashError ?xt_SlashError ?xg_NoForm ?xq_NoForm ?xk_NoForm ?xb_NoForm ?xt_NoForm ?in0_SlashError ?in1_SlashError ?in2_SlashError ?ng_Twice ?ng_NoTerm ?ng_NoRow ?ng_NoReading ?ng_NoKind ?ng_NoBasic ?ng_Misfit ?ng_NoForm ?ng_NoWord ?ec0_NoWord ?ec1_NoWord ?ec2_NoWord ?ec3_NoWord ?ec4_NoWord ?ec5_NoWord ?ec6_NoWord ?ec7_NoWord ?xi_NoWord_0 ?xi_NoWord_1 ?xi_NoWord_2 ?xi_NoWord_3 ?ec0_NoForm ?ec1_NoForm ?ec2_NoForm ?ec3_NoForm ?ec4_NoForm ?ec5_NoForm ?ec6_NoForm ?ec7_NoForm ?xi_NoForm_0 ?xi_NoForm_1 ?xi_NoForm_2 ?xi_NoForm_3 ?xm_NoWord_SlashError ?xm_NoForm_SlashError ?hs_c ?hs_p
    (case a1 => k_is)
    (case l1 => k_is)
    (case c1 => k_is)
    (case k1 => k_is)
    (case a2 => k_is)
    (case l2 => k_is)
    (case c2 => k_is)
    (case k2 => k_is)
    (case a3 => k_is)
    (case l3 => k_is)
    (case c3 => k_is)
    (case k3 => k_is)
    (case a4 => k_is)
    (case l4 => k_is)
    (case c4 => k_is)
    (case k4 => k_is)
    (case a5 => k_is)
    (case l5 => k_is)
    (case c5 => k_is)
    (case k5 => k_is)
    (case a6 => k_is)
    (case l6 => k_is)
    (case c6 => k_is)
    (case k6 => k_is)
    (case a7 => k_is)
    (case l7 => k_is)
    (case c7 => k_is)
    (case k7 => k_is)
    (case a8 => k_is)
    (case l8 => k_is)
    (case c8 => k_is)
    (case k8 => k_is)
    (case a9 => k_is)
    (case l9 => k_is)
    (case c9 => k_is)
    (case k9 => k_is)
    (case a10 => k_is)
    (case l10 => k_is)
    (case c10 => k_is)
    (case k10 => k_is)
    (case a11 => k_is)
    (case l11 => k_is)
    (case c11 => k_is)
    (case k11 => k_is)
    (case a12 => k_is)
    (case l12 => k_is)
    (case c12 => k_is)
    (case k12 => k_is)
    (case a13 => k_is)
    (case l13 => k_is)
    (case c13 => k_is)
    (case k13 => k_is)
    (case a14 => k_is)
    (case l14 => k_is)
    (case c14 => k_is)
    (case k14 => k_is)
    (case a15 => k_is)
    (case l15 => k_is)
    (case c15 => k_is)
    (case k15 => k_is)
    (case a16 => k_is)
    (case l16 => k_is)
    (case c16 => k_is)
    (case k16 => k_is)
    (case a17 => k_is)
    (case l17 => k_is)
    (case c17 => k_is)
    (case k17 => k_is)
    (case a18 => k_is)
    (case l18 => k_is)
    (case c18 => k_is)
    (case k18 => k_is)
    (case z_ValueError => k_is)
    (case z_all => k_is)
    (case z_enumerate => k_is)
    (case z_isinstance => k_is)
    (case z_len => k_is)
    (case z_list => k_is)
    (case z_max => k_is)
    (case z_range => k_is)
    (case z_sorted => k_is)
    (case z_str => k_is)
    (case z_tuple => k_is)
    (case xg_NoWord => k_is)
    (case xl_NoWord => k_is)
    (case xsa_NoWord => k_is)
    (case xb_NoWord => k_is)
    (case xt_NoWord => k_is)
    (case xk_NoWord => k_is)
    (case xga_NoWord => k_is)
    (case xgg_NoWord => k_is)
    (case xhd_NoWord => k_is)
    (case xiC_NoWord => k_is)
    (case xtI_NoWord => k_is)
    (case xil_NoWord => k_is)
    (case xic_NoWord => k_is)
    (case xik_NoWord => k_is)
    (case xn_word_NoWord => k_is)
    (case xn_place_NoWord => k_is)
    (case xg_SlashError => k_is)
    (case xq_SlashError => k_exc)
    (case xk_SlashError => k_is)
    (case xb_SlashError => k_is)
    (case xt_SlashError => k_is)
    (case xg_NoForm => k_is)
    (case xq_NoForm => k_exc)
    (case xk_NoForm => k_is)
    (case xb_NoForm => k_is)
    (case xt_NoForm => k_is)
    (case in0_SlashError => k_is)
    (case in1_SlashError => k_is)
    (case in2_SlashError => k_is)
    (case ng_Twice => k_is)
    (case ng_NoTerm => k_is)
    (case ng_NoRow => k_is)
    (case ng_NoReading => k_is)
    (case ng_NoKind => k_is)
    (case ng_NoBasic => k_is)
    (case ng_Misfit => k_is)
    (case ng_NoForm => k_is)
    (case ng_NoWord => k_is)
    (case ec0_NoWord => k_is)
    (case ec1_NoWord => k_is)
    (case ec2_NoWord => k_is)
    (case ec3_NoWord => k_is)
    (case ec4_NoWord => k_is)
    (case ec5_NoWord => k_is)
    (case ec6_NoWord => k_is)
    (case ec7_NoWord => k_is)
    (case xi_NoWord_0 => kit_is)
    (case xi_NoWord_1 => kit_is)
    (case xi_NoWord_2 => kit_is)
    (case xi_NoWord_3 => kit_is)
    (case ec0_NoForm => k_is)
    (case ec1_NoForm => k_is)
    (case ec2_NoForm => k_is)
    (case ec3_NoForm => k_is)
    (case ec4_NoForm => k_is)
    (case ec5_NoForm => k_is)
    (case ec6_NoForm => k_is)
    (case ec7_NoForm => k_is)
    (case xi_NoForm_0 => kit_is)
    (case xi_NoForm_1 => kit_is)
    (case xi_NoForm_2 => kit_is)
    (case xi_NoForm_3 => kit_is)
    (case xm_NoWord_SlashError => kts_exm)
    (case xm_NoForm_SlashError => kts_exm)
    (case hs_c => kernel_rfl)
    (case hs_p => kernel_rfl)
