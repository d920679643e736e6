import PyProof.Rows.All
import Wide.All
import OpenK.AllK
import Wide.FinOn
import HandS.ForMost
import HandS.Exc
import HandS.ExcOwn
import HandS.WordsExc
import HandS.Lambda
import HandS.SortInts
import HandS.Wide
import HandS.IsInst
import HandS.Flow
import PyProof.StrBlock2
import HandS.Defaults
import HandS.ExcCtx
import HandS.HotCalls
import HandS.HeadHook1
import HandS.Strs
import HandS.Text
import HandS.More
import HandS.ExcIs
import HandS.TryOnly
import HandS.Style
import HandS.TupAny
import HandS.HeadHook4
import HandS.EndTab
import HandS.SetFor
import HandS.TupSets
import HandS.Small
import KE.KStateDown
import HandS.HeadWalk
import HandS.SetKeys
import HandS.WideBits
import HandS.AnyAll
import HandS.DictEq
import HandS.DeepEq
import HandS.Deep
import HandS.TupLe
import HandS.NoneIn
import HandS.Conv
import HandS.CallRecv
import HandS.Head0
import HandS.Head1
import HandS.Head2
import HandS.HeadEnd
import HandS.HeadHook2
import HandS.HeadHook3
import HandS.NestedK
import PySem.Challenge.RW_votewood_k31_whole_all_seen
set_option Elab.async false
set_option linter.all false
set_option maxRecDepth 100000
set_option maxHeartbeats 2000000
set_option autoImplicit false
/-! DL1: data without addresses, abstract objects, how they stand in HandS's abstract heap. -/
namespace DL
open PySem PySem.Spec L2

/-- plain data; ref: an object that may change (kept in G) -/
inductive D where
  | non | bl (b : Bool) | int (i : Int) | str (x : Str) | ref (a : Addr)
  | lst (xs : List D) | frl (xs : List D) | tup (xs : List D) | dct (kvs : List (Key × D))
/-- an object that may change -/
inductive MO where
  | ins (C : Addr) (fs : List (Str × D)) | dct (kvs : List (Key × D)) | lst (xs : List D)
inductive Res where
  | val (d : D) | exc (C : Addr)
/-- a local name's slot -/
inductive Slot where
  | no | dat (d : D) | own (o : MO)
structure G where
  get : Addr → Option MO
  lk : Addr → Bool
  tl : Addr → Bool

mutual
inductive Rep (K : PySem.W.Frag) (S : Hp) : V → D → Prop
  | non : Rep K S .non .non
  | bl (b : Bool) : Rep K S (.bl b) (.bl b)
  | int (i : Int) : Rep K S (.int i) (.int i)
  | str (x : Str) : Rep K S (.str x) (.str x)
  | ref (a : Addr) : Rep K S (.ref a) (.ref a)
  | lst {a : Addr} {vs : List V} {ds : List D} : S a = some (.lst vs) → Reps K S vs ds → Rep K S (.ref a) (.lst ds)
  | frl {a : Addr} {vs : List V} {ds : List D} : SqL K S a vs → Reps K S vs ds → Rep K S (.ref a) (.frl ds)
  | tup {a : Addr} {vs : List V} {ds : List D} : SqT K S a vs → Reps K S vs ds → Rep K S (.ref a) (.tup ds)
  | dct {a : Addr} {vs : List (Key × V)} {ds : List (Key × D)} : S a = some (.dK vs) → RepK K S vs ds → Rep K S (.ref a) (.dct ds)
inductive Reps (K : PySem.W.Frag) (S : Hp) : List V → List D → Prop
  | nil : Reps K S [] []
  | cons {v : V} {vs : List V} {d : D} {ds : List D} : Rep K S v d → Reps K S vs ds → Reps K S (v :: vs) (d :: ds)
inductive RepK (K : PySem.W.Frag) (S : Hp) : List (Key × V) → List (Key × D) → Prop
  | nil : RepK K S [] []
  | cons {k : Key} {v : V} {vs : List (Key × V)} {d : D} {ds : List (Key × D)} : Rep K S v d → RepK K S vs ds → RepK K S ((k, v) :: vs) ((k, d) :: ds)
end
inductive RepF (K : PySem.W.Frag) (S : Hp) : List (Str × V) → List (Str × D) → Prop
  | nil : RepF K S [] []
  | cons {k : Str} {v : V} {vs : List (Str × V)} {d : D} {ds : List (Str × D)} : Rep K S v d → RepF K S vs ds → RepF K S ((k, v) :: vs) ((k, d) :: ds)
inductive RepMO (K : PySem.W.Frag) (S : Hp) : HO → MO → Prop
  | ins {C dx : Addr} {vs : List (Str × V)} {fs : List (Str × D)} : RepF K S vs fs → RepMO K S (.ins C dx vs) (.ins C fs)
  | dct {vs : List (Key × V)} {ds : List (Key × D)} : RepK K S vs ds → RepMO K S (.dK vs) (.dct ds)
  | lst {vs : List V} {ds : List D} : Reps K S vs ds → RepMO K S (.lst vs) (.lst ds)

section
variable {K : PySem.W.Frag} {S S' : Hp}
theorem rd_mono (h : ∀ a o, S a = some o → S' a = some o) {a : Addr} {u : HO} (x : Rd S a u) : Rd S' a u := by
  rcases x with x | ⟨o, x⟩
  · exact .inl (h _ _ x)
  · exact .inr ⟨o, h _ _ x⟩
theorem sql_mono (h : ∀ a o, S a = some o → S' a = some o) {a : Addr} {u : List V} (x : SqL K S a u) : SqL K S' a u := by
  rcases x with x | x
  · exact .inl (rd_mono h x)
  · exact .inr x
theorem sqt_mono (h : ∀ a o, S a = some o → S' a = some o) {a : Addr} {u : List V} (x : SqT K S a u) : SqT K S' a u := by
  rcases x with x | x
  · exact .inl (rd_mono h x)
  · exact .inr x
mutual
theorem Rep.mono (h : ∀ a o, S a = some o → S' a = some o) : ∀ {v : V} {d : D}, Rep K S v d → Rep K S' v d
  | _, _, .non => .non
  | _, _, .bl b => .bl b
  | _, _, .int i => .int i
  | _, _, .str x => .str x
  | _, _, .ref a => .ref a
  | _, _, .lst x y => .lst (h _ _ x) (Reps.mono h y)
  | _, _, .frl x y => .frl (sql_mono h x) (Reps.mono h y)
  | _, _, .tup x y => .tup (sqt_mono h x) (Reps.mono h y)
  | _, _, .dct x y => .dct (h _ _ x) (RepK.mono h y)
theorem Reps.mono (h : ∀ a o, S a = some o → S' a = some o) : ∀ {v : List V} {d : List D}, Reps K S v d → Reps K S' v d
  | _, _, .nil => .nil
  | _, _, .cons x y => .cons (Rep.mono h x) (Reps.mono h y)
theorem RepK.mono (h : ∀ a o, S a = some o → S' a = some o) : ∀ {v : List (Key × V)} {d : List (Key × D)}, RepK K S v d → RepK K S' v d
  | _, _, .nil => .nil
  | _, _, .cons x y => .cons (Rep.mono h x) (RepK.mono h y)
end
theorem RepF.mono (h : ∀ a o, S a = some o → S' a = some o) : ∀ {v : List (Str × V)} {d : List (Str × D)}, RepF K S v d → RepF K S' v d
  | _, _, .nil => .nil
  | _, _, .cons x y => .cons (x.mono h) (RepF.mono h y)
theorem RepMO.mono (h : ∀ a o, S a = some o → S' a = some o) : ∀ {v : HO} {d : MO}, RepMO K S v d → RepMO K S' v d
  | _, _, .ins x => .ins (x.mono h)
  | _, _, .dct x => .dct (x.mono h)
  | _, _, .lst x => .lst (x.mono h)
theorem Reps.length : ∀ {v : List V} {d : List D}, Reps K S v d → v.length = d.length
  | _, _, .nil => rfl
  | _, _, .cons _ y => by simp [Reps.length y]
theorem RepK.length : ∀ {v : List (Key × V)} {d : List (Key × D)}, RepK K S v d → v.length = d.length
  | _, _, .nil => rfl
  | _, _, .cons _ y => by simp [RepK.length y]
theorem RepF.length : ∀ {v : List (Str × V)} {d : List (Str × D)}, RepF K S v d → v.length = d.length
  | _, _, .nil => rfl
  | _, _, .cons _ y => by simp [RepF.length y]
theorem Reps.get : ∀ {v : List V} {d : List D} {i : Nat} {x : D}, Reps K S v d → d[i]? = some x → ∃ y, v[i]? = some y ∧ Rep K S y x
  | _, _, _, _, .nil, e => by simp at e
  | _, _, 0, _, .cons r _, e => by simp at e; subst e; exact ⟨_, rfl, r⟩
  | _, _, i + 1, x, .cons _ t, e => by
    obtain ⟨u, h1, h2⟩ := Reps.get (i := i) (x := x) t (by simpa using e)
    exact ⟨u, by simpa using h1, h2⟩
theorem Reps.get' : ∀ {v : List V} {d : List D} {i : Nat} {x : V}, Reps K S v d → v[i]? = some x → ∃ y, d[i]? = some y ∧ Rep K S x y
  | _, _, _, _, .nil, e => by simp at e
  | _, _, 0, _, .cons r _, e => by simp at e; subst e; exact ⟨_, rfl, r⟩
  | _, _, i + 1, x, .cons _ t, e => by
    obtain ⟨u, h1, h2⟩ := Reps.get' (i := i) (x := x) t (by simpa using e)
    exact ⟨u, by simpa using h1, h2⟩
theorem Reps.append : ∀ {v v' : List V} {d d' : List D}, Reps K S v d → Reps K S v' d' → Reps K S (v ++ v') (d ++ d')
  | _, _, _, _, .nil, s => s
  | _, _, _, _, .cons r t, s => .cons r (Reps.append t s)
theorem Reps.take : ∀ {v : List V} {d : List D} (n : Nat), Reps K S v d → Reps K S (v.take n) (d.take n)
  | _, _, 0, _ => .nil
  | _, _, _ + 1, .nil => .nil
  | _, _, n + 1, .cons r t => .cons r (Reps.take n t)
theorem Reps.drop : ∀ {v : List V} {d : List D} (n : Nat), Reps K S v d → Reps K S (v.drop n) (d.drop n)
  | _, _, 0, r => r
  | _, _, _ + 1, .nil => .nil
  | _, _, n + 1, .cons _ t => Reps.drop n t
theorem Reps.reverse : ∀ {v : List V} {d : List D}, Reps K S v d → Reps K S v.reverse d.reverse
  | _, _, .nil => .nil
  | _, _, .cons r t => by
    rw [List.reverse_cons, List.reverse_cons]
    exact (Reps.reverse t).append (.cons r .nil)
theorem Reps.ints : ∀ {v : List V} {ns : List Int}, Reps K S v (ns.map D.int) → v = ns.map V.int
  | [], [], _ => rfl
  | [], _ :: _, h => by cases h
  | _ :: _, [], h => by cases h
  | _ :: _, n :: ns, h => by
    cases h with
    | cons a b => cases a; rw [List.map_cons, Reps.ints b]
theorem Reps.strs : ∀ {v : List V} {ns : List Str}, Reps K S v (ns.map D.str) → v = ns.map V.str
  | [], [], _ => rfl
  | [], _ :: _, h => by cases h
  | _ :: _, [], h => by cases h
  | _ :: _, n :: ns, h => by
    cases h with
    | cons a b => cases a; rw [List.map_cons, Reps.strs b]
theorem Reps.bls : ∀ {v : List V} {ns : List Bool}, Reps K S v (ns.map D.bl) → v = ns.map V.bl
  | [], [], _ => rfl
  | [], _ :: _, h => by cases h
  | _ :: _, [], h => by cases h
  | _ :: _, n :: ns, h => by
    cases h with
    | cons a b => cases a; rw [List.map_cons, Reps.bls b]
theorem reps_ints : ∀ ns : List Int, Reps K S (ns.map V.int) (ns.map D.int)
  | [] => .nil
  | n :: ns => .cons (.int n) (reps_ints ns)
theorem reps_strs : ∀ ns : List Str, Reps K S (ns.map V.str) (ns.map D.str)
  | [] => .nil
  | n :: ns => .cons (.str n) (reps_strs ns)
theorem RepF.lookup : ∀ {v : List (Str × V)} {d : List (Str × D)} {k : Str} {x : D}, RepF K S v d → d.lookup k = some x → ∃ y, v.lookup k = some y ∧ Rep K S y x
  | _, _, _, _, .nil, e => by simp at e
  | _, _, k, x, .cons (k := k') (v := v) (vs := vs) (d := d) (ds := ds) r t, e => by
    rw [List.lookup_cons] at e ⊢
    cases hb : k == k' with
    | true => rw [hb] at e; cases e; exact ⟨_, rfl, r⟩
    | false => rw [hb] at e; exact RepF.lookup t e
theorem RepF.lookup_none : ∀ {v : List (Str × V)} {d : List (Str × D)} {k : Str}, RepF K S v d → d.lookup k = none → v.lookup k = none
  | _, _, _, .nil, e => rfl
  | _, _, k, .cons (k := k') (v := v) (vs := vs) (d := d) (ds := ds) r t, e => by
    rw [List.lookup_cons] at e ⊢
    cases hb : k == k' with
    | true => rw [hb] at e; cases e
    | false => rw [hb] at e; exact RepF.lookup_none t e
/-- a field set, in the data -/
def putD (f : Str) (v : D) : List (Str × D) → List (Str × D)
  | [] => [(f, v)]
  | (g, w) :: r => if g = f then (g, v) :: r else (g, w) :: putD f v r
theorem RepF.put : ∀ {v : List (Str × V)} {d : List (Str × D)} {k : Str} {x : D} {y : V}, RepF K S v d → Rep K S y x → RepF K S (putF k y v) (putD k x d)
  | _, _, _, _, _, .nil, h => .cons h .nil
  | _, _, k, x, y, .cons (k := k') r t, h => by
    unfold putF putD
    by_cases e : k' = k
    · rw [if_pos e, if_pos e]; exact .cons h t
    · rw [if_neg e, if_neg e]; exact .cons r (RepF.put t h)
/-! dicts of data -/
def dfind (kvs : List (Key × D)) (k : Key) : Option D := (kvs.find? fun kv => decide (kv.1 = k)).map (·.2)
def dput (kvs : List (Key × D)) (k : Key) (v : D) : List (Key × D) :=
  if (kvs.any fun kv => decide (kv.1 = k)) = true then kvs.map (fun kv => if kv.1 = k then (kv.1, v) else kv) else kvs ++ [(k, v)]
def ddrop (kvs : List (Key × D)) (k : Key) : List (Key × D) := kvs.filter fun kv => decide (kv.1 ≠ k)
theorem RepK.find : ∀ {v : List (Key × V)} {d : List (Key × D)} {k : Key}, RepK K S v d → (∀ x, dfind d k = some x → ∃ y, valV v k = some y ∧ Rep K S y x) ∧ (dfind d k = none → valV v k = none)
  | _, _, _, .nil => ⟨fun x e => by simp [dfind] at e, fun _ => rfl⟩
  | _, _, k, .cons (k := k') r t => by
    obtain ⟨i1, i2⟩ := RepK.find (k := k) t
    unfold dfind valV at *
    rw [List.find?_cons, List.find?_cons]
    by_cases e : k' = k
    · simp only [e, decide_true]
      exact ⟨fun x h => by cases h; exact ⟨_, rfl, r⟩, fun h => by cases h⟩
    · simp only [e, decide_false]
      exact ⟨i1, i2⟩
theorem RepK.find_some {v : List (Key × V)} {d : List (Key × D)} {k : Key} {x : D} (h : RepK K S v d) (e : dfind d k = some x) : ∃ y, valV v k = some y ∧ Rep K S y x := (RepK.find h).1 x e
theorem RepK.find_none {v : List (Key × V)} {d : List (Key × D)} {k : Key} (h : RepK K S v d) (e : dfind d k = none) : valV v k = none := (RepK.find h).2 e
theorem RepK.isSome {v : List (Key × V)} {d : List (Key × D)} {k : Key} (h : RepK K S v d) : (valV v k).isSome = (dfind d k).isSome := by
  cases e : dfind d k with
  | none => rw [h.find_none e]; rfl
  | some x => obtain ⟨y, e', _⟩ := h.find_some e; rw [e']; rfl
theorem RepK.drop : ∀ {v : List (Key × V)} {d : List (Key × D)} {k : Key}, RepK K S v d → RepK K S (dropK v k) (ddrop d k)
  | _, _, _, .nil => .nil
  | _, _, k, .cons (k := k') r t => by
    have i := RepK.drop (k := k) t
    unfold dropK ddrop at *
    rw [List.filter_cons, List.filter_cons]
    by_cases e : k' = k
    · simp only [e, ne_eq, not_true, decide_false, if_neg Bool.false_ne_true]; exact i
    · simp only [e, ne_eq, not_false_iff, decide_true, if_true]; exact .cons r i
theorem RepK.append : ∀ {v v' : List (Key × V)} {d d' : List (Key × D)}, RepK K S v d → RepK K S v' d' → RepK K S (v ++ v') (d ++ d')
  | _, _, _, _, .nil, s => s
  | _, _, _, _, .cons r t, s => .cons r (RepK.append t s)
theorem RepK.any : ∀ {v : List (Key × V)} {d : List (Key × D)} {k : Key}, RepK K S v d → (v.any fun kv => decide (kv.1 = k)) = (d.any fun kv => decide (kv.1 = k))
  | _, _, _, .nil => rfl
  | _, _, k, .cons r t => by rw [List.any_cons, List.any_cons, RepK.any t]
theorem RepK.set : ∀ {v : List (Key × V)} {d : List (Key × D)} {k : Key} {x : D} {y : V}, RepK K S v d → Rep K S y x → RepK K S (v.map fun kv => if kv.1 = k then (kv.1, y) else kv) (d.map fun kv => if kv.1 = k then (kv.1, x) else kv)
  | _, _, _, _, _, .nil, _ => .nil
  | _, _, k, x, y, .cons (k := k') r t, h => by
    rw [List.map_cons, List.map_cons]
    by_cases e : k' = k
    · rw [if_pos e, if_pos e]; exact .cons h (RepK.set t h)
    · rw [if_neg e, if_neg e]; exact .cons r (RepK.set t h)
theorem RepK.put {v : List (Key × V)} {d : List (Key × D)} {k : Key} {x : D} {y : V} (h : RepK K S v d) (r : Rep K S y x) : RepK K S (putK v k y) (dput d k x) := by
  unfold putK dput
  rw [h.any (k := k)]
  split
  · exact h.set r
  · exact h.append (.cons r .nil)
theorem RepK.keys : ∀ {v : List (Key × V)} {d : List (Key × D)}, RepK K S v d → v.map (·.1) = d.map (·.1)
  | _, _, .nil => rfl
  | _, _, .cons _ t => by rw [List.map_cons, List.map_cons, RepK.keys t]
theorem RepK.get : ∀ {v : List (Key × V)} {d : List (Key × D)} {i : Nat} {k : Key} {x : V}, RepK K S v d → v[i]? = some (k, x) → ∃ y, d[i]? = some (k, y) ∧ Rep K S x y
  | _, _, _, _, _, .nil, e => by simp at e
  | _, _, 0, _, _, .cons r _, e => by simp at e; obtain ⟨rfl, rfl⟩ := e; exact ⟨_, rfl, r⟩
  | _, _, i + 1, k, x, .cons _ t, e => by
    obtain ⟨u, h1, h2⟩ := RepK.get (i := i) (k := k) (x := x) t (by simpa using e)
    exact ⟨u, by simpa using h1, h2⟩
end
end DL

set_option Elab.async false
set_option linter.all false
set_option maxRecDepth 100000
set_option maxHeartbeats 2000000
set_option autoImplicit false
/-! DL2: the state that data and abstract objects describe; judgements; names, operators, calls. -/
namespace DL
open PySem PySem.Spec L2

/-- S: what stands still (plain data); g: what may change -/
structure HOK (K : PySem.W.Frag) (T : List (Addr × Str)) (g : G) (S H : Hp) : Prop where
  sub : ∀ a o, S a = some o → H a = some o ∨ (g.tl a = true ∧ (∃ vs, o = .dK vs) ∧ ∃ od, H a = some (.frz od o))
  obj : ∀ a o, g.get a = some o → ∃ ho, RepMO K S ho o ∧ (H a = some ho ∨ (g.lk a = true ∧ (∃ vs, ho = .dK vs) ∧ ∃ od, H a = some (.frz od ho)))
  sep : ∀ a o, g.get a = some o → S a = none
  tab : LamX.Tabs T H
  ntb : ∀ a ps, S a ≠ some (.tbl ps)
/-- nothing that is tracked stands there (a code object's table at most) -/
def Fre (H : Hp) (a : Addr) : Prop := ∀ o, H a = some o → ∃ ps, o = HO.tbl ps
theorem Fre.of {H : Hp} {a : Addr} (h : H a = none) : Fre H a := fun o e => by rw [h] at e; cases e
theorem Fre.no {H : Hp} {a : Addr} {o : HO} (f : Fre H a) (e : H a = some o) (n : ∀ ps, o ≠ .tbl ps) : False := by
  obtain ⟨ps, q⟩ := f o e
  exact n ps q
theorem Fre.old {H H' : Hp} (m : ∀ a o, H a = some o → (∀ ps, o ≠ .tbl ps) → ∃ o', H' a = some o' ∧ ∀ ps, o' ≠ .tbl ps) (a : Addr) (f : Fre H' a) : Fre H a := fun o e => by
  by_cases h : ∃ ps, o = HO.tbl ps
  · exact h
  · obtain ⟨o', e', n⟩ := m a o e (fun ps z => h ⟨ps, z⟩)
    exact (f.no e' n).elim
structure Ext (K : PySem.W.Frag) (T : List (Addr × Str)) (g : G) (S H : Hp) (g' : G) (S' H' : Hp) : Prop where
  ok : HOK K T g' S' H'
  mono : ∀ a o, S a = some o → S' a = some o
  new : ∀ a, S' a ≠ none → S a ≠ none ∨ Fre H a
  fr : ∀ a o, H a = some o → g.get a = none → (∀ ps, o ≠ .tbl ps) → H' a = some o
  frz : ∀ a o u, H a = some (.frz o u) → H' a = some (.frz o u)
  there : ∀ a, Fre H' a → Fre H a
  gnew : ∀ a, g'.get a ≠ none → g.get a ≠ none ∨ Fre H a
  gold : ∀ a, g.get a ≠ none → g'.get a ≠ none
  lk : g'.lk = g.lk
  tl : g'.tl = g.tl
section
variable {K : PySem.W.Frag} {T : List (Addr × Str)} {g g1 g2 : G} {S S1 S2 H H1 H2 : Hp}
theorem Ext.refl (h : HOK K T g S H) : Ext K T g S H g S H := ⟨h, fun _ _ e => e, fun _ e => .inl e, fun _ _ e _ _ => e, fun _ _ _ e => e, fun _ e => e, fun _ e => .inl e, fun _ e => e, rfl, rfl⟩
theorem Ext.trans (a : Ext K T g S H g1 S1 H1) (b : Ext K T g1 S1 H1 g2 S2 H2) : Ext K T g S H g2 S2 H2 where
  ok := b.ok
  mono := fun x o e => b.mono x o (a.mono x o e)
  new := fun x e => by
    rcases b.new x e with z | z
    · exact a.new x z
    · exact .inr (a.there x z)
  fr := fun x o e n t => by
    refine b.fr x o (a.fr x o e n t) ?_ t
    cases q : g1.get x with
    | none => rfl
    | some u =>
      rcases a.gnew x (by rw [q]; simp) with z | z
      · exact absurd n z
      · exact (z.no e t).elim
  frz := fun x o u e => b.frz x o u (a.frz x o u e)
  there := fun x e => a.there x (b.there x e)
  gnew := fun x e => by
    rcases b.gnew x e with z | z
    · exact a.gnew x z
    · exact .inr (a.there x z)
  gold := fun x e => b.gold x (a.gold x e)
  lk := b.lk.trans a.lk
  tl := b.tl.trans a.tl
theorem Rep.rdL (h : HOK K T g S H) {v : V} {ds : List D} (r : Rep K S v (.lst ds)) : ∃ a vs, v = .ref a ∧ SqL K H a vs ∧ Reps K S vs ds := by
  cases r with
  | lst x y =>
    rcases h.sub _ _ x with e | ⟨_, _, od, e⟩
    · exact ⟨_, _, rfl, .inl (.inl e), y⟩
    · exact ⟨_, _, rfl, .inl (.inr ⟨od, e⟩), y⟩
theorem HOK.rd (h : HOK K T g S H) {a : Addr} {u : HO} (x : Rd S a u) : Rd H a u := by
  rcases x with x | ⟨o, x⟩
  · rcases h.sub _ _ x with e | ⟨_, _, od, e⟩
    · exact .inl e
    · exact .inr ⟨od, e⟩
  · rcases h.sub _ _ x with e | ⟨_, m, od, e⟩
    · exact .inr ⟨o, e⟩
    · obtain ⟨_, z⟩ := m; cases z
theorem HOK.sql (h : HOK K T g S H) {a : Addr} {u : List V} (x : SqL K S a u) : SqL K H a u := by
  rcases x with x | x
  · exact .inl (h.rd x)
  · exact .inr x
theorem HOK.sqt (h : HOK K T g S H) {a : Addr} {u : List V} (x : SqT K S a u) : SqT K H a u := by
  rcases x with x | x
  · exact .inl (h.rd x)
  · exact .inr x
/-- an address that is free in H is free in S and g -/
theorem HOK.freeS (h : HOK K T g S H) {p : Addr} (e : H p = none) : S p = none := by
  cases q : S p with
  | none => rfl
  | some o =>
    rcases h.sub _ _ q with z | ⟨_, _, _, z⟩ <;> rw [e] at z <;> cases z
theorem HOK.freeG (h : HOK K T g S H) {p : Addr} (e : H p = none) : g.get p = none := by
  cases q : g.get p with
  | none => rfl
  | some o =>
    obtain ⟨_, _, z | ⟨_, _, _, z⟩⟩ := h.obj _ _ q <;> rw [e] at z <;> cases z
/-- a new object that stands still -/
theorem HOK.new (h : HOK K T g S H) {p : Addr} {o : HO} (e : H p = none) (nt : ∀ ps, o ≠ .tbl ps) : Ext K T g S H g (upd S p o) (upd H p o) := by
  have sm : ∀ a u, S a = some u → upd S p o a = some u := fun a u q => by rw [upd_ne (ne_of_none q (h.freeS e))]; exact q
  have hm : ∀ a u, H a = some u → upd H p o a = some u := fun a u q => by rw [upd_ne (ne_of_none q e)]; exact q
  refine ⟨⟨fun a u q => ?_, fun a u q => ?_, fun a u q => ?_, h.tab.ext hm, fun a ps q => ?_⟩, sm, fun a q => ?_, fun a u q _ _ => hm a u q, fun a u v q => hm a _ q, Fre.old fun a u q n => ⟨u, hm a u q, n⟩, fun a q => .inl q, fun a q => q, rfl, rfl⟩
  · by_cases z : a = p
    · subst z; rw [upd_same] at q ⊢; exact .inl q
    · rw [upd_ne z] at q ⊢; exact h.sub a u q
  · obtain ⟨ho, r, z⟩ := h.obj a u q
    refine ⟨ho, r.mono sm, ?_⟩
    rcases z with z | ⟨l, dk, od, z⟩
    · exact .inl (hm _ _ z)
    · exact .inr ⟨l, dk, od, hm _ _ z⟩
  · have ne : a ≠ p := fun z => by subst z; rw [h.freeG e] at q; cases q
    rw [upd_ne ne]; exact h.sep a u q
  · by_cases z : a = p
    · subst z; rw [upd_same] at q; exact nt ps (Option.some.inj q)
    · rw [upd_ne z] at q; exact h.ntb a ps q
  · by_cases z : a = p
    · subst z; exact .inr (.of e)
    · rw [upd_ne z] at q; exact .inl q
end
/-- what the names hold; U: the addresses that were free at the def's entry -/
structure EnvOk (K : PySem.W.Frag) (U : Addr → Prop) (g : G) (S H : Hp) (env : List Slot) (σ : St) : Prop where
  len : σ.length = env.length
  dat : ∀ (i : Nat) (d : D), env[i]? = some (.dat d) → ∃ v, σ[i]? = some (some v) ∧ Rep K S v d
  own : ∀ (i : Nat) (o : MO), env[i]? = some (.own o) → ∃ p ho, σ[i]? = some (some (.ref p)) ∧ H p = some ho ∧ RepMO K S ho o ∧ S p = none ∧ g.get p = none ∧ U p ∧ ∀ (j : Nat) (o' : MO), env[j]? = some (.own o') → σ[j]? = some (some (.ref p)) → j = i
theorem repMO_ntb {K : PySem.W.Frag} {S : Hp} {ho : HO} {o : MO} (r : RepMO K S ho o) : ∀ ps, ho ≠ .tbl ps := fun ps z => by subst z; cases r
theorem EnvOk.ext {K : PySem.W.Frag} {T : List (Addr × Str)} {U : Addr → Prop} {g g' : G} {S H S' H' : Hp} {env : List Slot} {σ : St} (n : EnvOk K U g S H env σ) (e : Ext K T g S H g' S' H') : EnvOk K U g' S' H' env σ := by
  refine ⟨n.len, fun i d q => ?_, fun i o q => ?_⟩
  · obtain ⟨v, h1, h2⟩ := n.dat i d q
    exact ⟨v, h1, h2.mono e.mono⟩
  · obtain ⟨p, ho, h1, h2, h3, h4, h5, h6, h7⟩ := n.own i o q
    refine ⟨p, ho, h1, e.fr _ _ h2 h5 (repMO_ntb h3), h3.mono e.mono, ?_, ?_, h6, h7⟩
    · cases z : S' p with
      | none => rfl
      | some u =>
        rcases e.new p (by rw [z]; simp) with w | w
        · exact absurd h4 w
        · exact (w.no h2 (repMO_ntb h3)).elim
    · cases z : g'.get p with
      | none => rfl
      | some u =>
        rcases e.gnew p (by rw [z]; simp) with w | w
        · exact absurd h5 w
        · exact (w.no h2 (repMO_ntb h3)).elim

/-! ### the weakest readings -/
def TSem (X : Cx) (e : Expr) : TE := fun σ H Q => ∀ (pins : List (Addr × Obj)) (s : Shared), Inv X pins σ H s → wpAny (model X.prog X.w) X.A (eval e X.env) (EP X pins σ Q) X.xe s
def TSemA (X : Cx) (es : List Expr) : TA := fun σ H Q => ∀ (pos : Pos) (pins : List (Addr × Obj)) (s : Shared), Inv X pins σ H s → wpAny (model X.prog X.w) X.A (spliced (backTo pos (starEach es X.env))) (AP X pins σ Q) X.xe s
section
variable {X : Cx} {e : Expr} {es : List Expr} {t : TE} {ta : TA} {σ : St} {H : Hp}
theorem pe_sem : PE X e (TSem X e) := ⟨fun pins s _ _ _ I h => h pins s I⟩
theorem pa_sem : PA X es (TSemA X es) := ⟨fun pos pins s _ _ _ I h => h pos pins s I⟩
theorem sem_of (h : PE X e t) {Q : VK} (q : t σ H Q) : TSem X e σ H Q := fun pins s I => h.run pins s σ H Q I q
theorem semA_of (h : PA X es ta) {Q : List V → Hp → Prop} (q : ta σ H Q) : TSemA X es σ H Q := fun pos pins s I => h.run pos pins s σ H Q I q
end

/-! ### judgements -/
abbrev Env' := List Slot
abbrev KR := Res → G → Prop
abbrev Tr := Env' → G → KR → Prop
structure PM (X : Cx) (T : List (Addr × Str)) (EX : XK) (e : Expr) (R : Tr) : Prop where
  run : ∀ {U : Addr → Prop} {σ : St} {H : Hp} {g : G} {S : Hp} {env : Env'} {Q : VK} {Kt : KR}, R env g Kt → HOK X.K T g S H → EnvOk X.K U g S H env σ →
    (∀ d g' v H' S', Kt (.val d) g' → Ext X.K T g S H g' S' H' → Rep X.K S' v d → Q v H') → (∀ C g' H' S', Kt (.exc C) g' → Ext X.K T g S H g' S' H' → EX (.ref C) none H') → TSem X e σ H Q
abbrev KA := Except Addr (List D) → G → Prop
abbrev TrA := Env' → G → KA → Prop
structure PMA (X : Cx) (T : List (Addr × Str)) (EX : XK) (es : List Expr) (R : TrA) : Prop where
  run : ∀ {U : Addr → Prop} {σ : St} {H : Hp} {g : G} {S : Hp} {env : Env'} {Q : List V → Hp → Prop} {Kt : KA}, R env g Kt → HOK X.K T g S H → EnvOk X.K U g S H env σ →
    (∀ ds g' vs H' S', Kt (.ok ds) g' → Ext X.K T g S H g' S' H' → Reps X.K S' vs ds → Q vs H') → (∀ C g' H' S', Kt (.error C) g' → Ext X.K T g S H g' S' H' → EX (.ref C) none H') → TSemA X es σ H Q

/-- behind a value -/
def onV (Kt : KR) (k : D → G → Prop) : KR := fun r g => match r with
  | .val d => k d g
  | .exc C => Kt (.exc C) g
@[simp] theorem onV_val {Kt : KR} {k : D → G → Prop} {d : D} {g : G} : onV Kt k (.val d) g = k d g := rfl
@[simp] theorem onV_exc {Kt : KR} {k : D → G → Prop} {C : Addr} {g : G} : onV Kt k (.exc C) g = Kt (.exc C) g := rfl
def onA (Kt : KR) (k : List D → G → Prop) : KA := fun r g => match r with
  | .ok ds => k ds g
  | .error C => Kt (.exc C) g

/-- a test: its values are bools -/
def TSemT (X : Cx) (e : Expr) : TT := fun σ H Q => ∀ (pins : List (Addr × Obj)) (s : Shared), Inv X pins σ H s → wpAny (model X.prog X.w) X.A (isTrue e X.env (eval e X.env)) (TP X pins σ Q) X.xe s
def TSemW (X : Cx) (e : Expr) : TT := fun σ H Q => ∀ (whole : Sem Value) (pins : List (Addr × Obj)) (s : Shared), Inv X pins σ H s → wpAny (model X.prog X.w) X.A (isTrue e X.env whole) (TP X pins σ Q) X.xe s
theorem pt_sem {X : Cx} {e : Expr} : PT X e (TSemT X e) := ⟨fun pins s _ _ _ I h => h pins s I⟩
theorem pw_sem {X : Cx} {e : Expr} : PW X e (TSemW X e) := ⟨fun w pins s _ _ _ I h => h w pins s I⟩
theorem semT_of {X : Cx} {e : Expr} {t : TT} {σ : St} {H : Hp} (h : PT X e t) {Q : Bool → Hp → Prop} (q : t σ H Q) : TSemT X e σ H Q := fun pins s I => h.run pins s σ H Q I q
theorem semW_of {X : Cx} {e : Expr} {t : TT} {σ : St} {H : Hp} (h : PW X e t) {Q : Bool → Hp → Prop} (q : t σ H Q) : TSemW X e σ H Q := fun w pins s I => h.run w pins s σ H Q I q
structure PMT (X : Cx) (T : List (Addr × Str)) (EX : XK) (e : Expr) (R : Tr) : Prop where
  run : ∀ {U : Addr → Prop} {σ : St} {H : Hp} {g : G} {S : Hp} {env : Env'} {Q : Bool → Hp → Prop} {Kt : Bool → G → Prop} {Kx : Addr → G → Prop}, R env g (fun r g' => match r with | .val (.bl b) => Kt b g' | .exc C => Kx C g' | _ => False) → HOK X.K T g S H → EnvOk X.K U g S H env σ →
    (∀ b g' H' S', Kt b g' → Ext X.K T g S H g' S' H' → Q b H') → (∀ C g' H' S', Kx C g' → Ext X.K T g S H g' S' H' → EX (.ref C) none H') → TSemT X e σ H Q
structure PMW (X : Cx) (T : List (Addr × Str)) (EX : XK) (e : Expr) (R : Tr) : Prop where
  run : ∀ {U : Addr → Prop} {σ : St} {H : Hp} {g : G} {S : Hp} {env : Env'} {Q : Bool → Hp → Prop} {Kt : Bool → G → Prop} {Kx : Addr → G → Prop}, R env g (fun r g' => match r with | .val (.bl b) => Kt b g' | .exc C => Kx C g' | _ => False) → HOK X.K T g S H → EnvOk X.K U g S H env σ →
    (∀ b g' H' S', Kt b g' → Ext X.K T g S H g' S' H' → Q b H') → (∀ C g' H' S', Kx C g' → Ext X.K T g S H g' S' H' → EX (.ref C) none H') → TSemW X e σ H Q

section
variable {X : Cx} {T : List (Addr × Str)} {EX : XK} {e a b c : Expr} {es : List Expr} {R A1 A2 A3 : Tr} {RA : TrA}
/-! names, constants -/
def rVar (i : Nat) : Tr := fun env g Kt => ∃ d, env[i]? = some (.dat d) ∧ Kt (.val d) g
theorem pm_var (i : Nat) {x : Str} {pos : Pos} (hN : X.N[i]? = some x := by rfl) (hv : Vis X.env.scope x := by first | exact Or.inl rfl | exact Or.inr (Or.inl rfl) | exact Or.inr (Or.inr rfl)) (hd : (x == ("__debug__" : Str)) = false := by decide)
    (hcd : (x == ("__classdict__" : Str)) = false := by decide) : PM X T EX (.Name x pos) (rVar i) := by
  refine ⟨fun {U σ H g S env Q Kt} h ok en hv' hx => sem_of (pe_var hN hv hd hcd) ?_⟩
  obtain ⟨d, h1, h2⟩ := h
  obtain ⟨v, e1, e2⟩ := en.dat i d h1
  exact ⟨v, e1, hv' d g v H S h2 (Ext.refl ok) e2⟩
def rC (d : D) : Tr := fun _ g Kt => Kt (.val d) g
theorem pm_c {v : V} {d : D} (h : PE X e (tC v)) (r : ∀ S, Rep X.K S v d) : PM X T EX e (rC d) := by
  refine ⟨fun {U σ H g S env Q Kt} h' ok en hv hx => sem_of h ?_⟩
  exact hv d g v H S h' (Ext.refl ok) (r S)
theorem pm_int {i j pos} : PM X T EX (.Constant (.int i) j pos) (rC (.int i)) := pm_c pe_int fun _ => .int i
theorem pm_bl {i j pos} : PM X T EX (.Constant (.bool i) j pos) (rC (.bl i)) := pm_c pe_bl fun _ => .bl i
theorem pm_str {i j pos} : PM X T EX (.Constant (.str i) j pos) (rC (.str i)) := pm_c pe_str fun _ => .str i
theorem pm_non {j pos} : PM X T EX (.Constant .none j pos) (rC .non) := pm_c pe_non fun _ => .non
theorem pm_gint {x : Str} {i : Int} {pos : Pos} (hg : Gl X x) (hm : ∃ t, X.mg x = some (.int i t)) (hd : (x == ("__debug__" : Str)) = false := by decide) : PM X T EX (.Name x pos) (rC (.int i)) := by
  obtain ⟨t, h⟩ := hm
  exact pm_c (v := .int i) (pe_glob hg h (show RelV (.int i) (.int i t) from ⟨t, rfl⟩) hd) fun _ => .int i
theorem pm_gstr {x i : Str} {pos : Pos} (hg : Gl X x) (hm : ∃ t, X.mg x = some (.str i t)) (hd : (x == ("__debug__" : Str)) = false := by decide) : PM X T EX (.Name x pos) (rC (.str i)) := by
  obtain ⟨t, h⟩ := hm
  exact pm_c (v := .str i) (pe_glob hg h (show RelV (.str i) (.str i t) from ⟨t, rfl⟩) hd) fun _ => .str i

/-! two operands by values -/
def V2 (K : PySem.W.Frag) (T : List (Addr × Str)) (r : R2) (f : G → D → D → Option D) : Prop := ∀ {g : G} {S H : Hp} {x y : V} {d1 d2 d : D} {Q : VK}, HOK K T g S H → Rep K S x d1 → Rep K S y d2 → f g d1 d2 = some d →
  (∀ v H' S', Ext K T g S H g S' H' → Rep K S' v d → Q v H') → r x y H Q
def rBin (f : G → D → D → Option D) (A1 A2 : Tr) : Tr := fun env g Kt => A1 env g (onV Kt fun d1 g1 => A2 env g1 (onV Kt fun d2 g2 => ∃ d, f g2 d1 d2 = some d ∧ Kt (.val d) g2))
theorem pm_bin {r : R2} {f : G → D → D → Option D} (mk : PE X e (tOp r (TSem X a) (TSem X b))) (hf : V2 X.K T r f) (ha : PM X T EX a A1) (hb : PM X T EX b A2) : PM X T EX e (rBin f A1 A2) := by
  refine ⟨fun {U σ H g S env Q Kt} h ok en hv hx => sem_of mk ?_⟩
  show TSem X a σ H fun x H1 => TSem X b σ H1 fun y H2 => r x y H2 Q
  refine ha.run h ok en (fun d1 g1 v1 H1 S1 k1 e1 r1 => ?_) (fun C g' H' S' k e => hx C g' H' S' k e)
  refine hb.run k1 e1.ok (en.ext e1) (fun d2 g2 v2 H2 S2 k2 e2 r2 => ?_) (fun C g' H' S' k e => hx C g' H' S' k (e1.trans e))
  obtain ⟨d, hd, k⟩ := k2
  exact hf e2.ok (r1.mono e2.mono) r2 hd fun v H' S' e r => hv d g2 v H' S' k ((e1.trans e2).trans e) r
theorem pm_op {op : Operator} {r : R2} {f : G → D → D → Option D} {pos : Pos} (ho : OpR X (binaryOp op) r) (hf : V2 X.K T r f) (ha : PM X T EX a A1) (hb : PM X T EX b A2) : PM X T EX (.BinOp a op b pos) (rBin f A1 A2) := pm_bin (pe_op ho pe_sem pe_sem) hf ha hb
theorem pm_cmp {op : CmpOp} {r : R2} {f : G → D → D → Option D} {pos : Pos} (ho : OpR X (compareOp op) r) (hf : V2 X.K T r f) (hm : behindInMarks op b = false) (ha : PM X T EX a A1) (hb : PM X T EX b A2) : PM X T EX (.Compare a [op] [b] pos) (rBin f A1 A2) := pm_bin (pe_cmpR ho pe_sem pe_sem hm) hf ha hb

/-! one operand by values -/
def V1 (K : PySem.W.Frag) (T : List (Addr × Str)) (r : V → Hp → VK → Prop) (f : G → D → Option D) : Prop := ∀ {g : G} {S H : Hp} {x : V} {d1 d : D} {Q : VK}, HOK K T g S H → Rep K S x d1 → f g d1 = some d →
  (∀ v H' S', Ext K T g S H g S' H' → Rep K S' v d → Q v H') → r x H Q
def rUn (f : G → D → Option D) (A1 : Tr) : Tr := fun env g Kt => A1 env g (onV Kt fun d1 g1 => ∃ d, f g1 d1 = some d ∧ Kt (.val d) g1)
theorem pm_un {r : V → Hp → VK → Prop} {f : G → D → Option D} (mk : PE X e (tUn r (TSem X a))) (hf : V1 X.K T r f) (ha : PM X T EX a A1) : PM X T EX e (rUn f A1) := by
  refine ⟨fun {U σ H g S env Q Kt} h ok en hv hx => sem_of mk ?_⟩
  show TSem X a σ H fun x H1 => r x H1 Q
  refine ha.run h ok en (fun d1 g1 v1 H1 S1 k1 e1 r1 => ?_) (fun C g' H' S' k e => hx C g' H' S' k e)
  obtain ⟨d, hd, k⟩ := k1
  exact hf e1.ok r1 hd fun v H' S' e r => hv d g1 v H' S' k (e1.trans e) r

/-! tests -/
theorem pmt_val (ha : PM X T EX a A1) (he : ∀ whole, isTrue a X.env whole = (do let v ← whole; standAt a.pos; holding [v] (truthy v)) := by intro _; rfl) : PMT X T EX a A1 := by
  refine ⟨fun {U σ H g S env Q Kt Kx} h ok en hv hx => semT_of (pt_val pe_sem he) ?_⟩
  refine ha.run h ok en (fun d g' v H' S' k e r => ?_) (fun C g' H' S' k e => hx C g' H' S' k e)
  cases d with
  | bl b => cases r; exact ⟨b, rfl, hv b g' H' S' k e⟩
  | _ => exact k.elim
theorem pmw_t (ha : PMW X T EX a A1) : PMT X T EX a A1 := ⟨fun h ok en hv hx => semT_of pw_sem.pt (ha.run h ok en hv hx)⟩
/-! truth, and, or, not, if-else -/
def rAnd (A1 A2 : Tr) : Tr := fun env g Kt => A1 env g (onV Kt fun d1 g1 => ∃ b, d1 = .bl b ∧ if b = true then A2 env g1 Kt else Kt (.val (.bl false)) g1)
def rOr (A1 A2 : Tr) : Tr := fun env g Kt => A1 env g (onV Kt fun d1 g1 => ∃ b, d1 = .bl b ∧ if b = true then Kt (.val (.bl true)) g1 else A2 env g1 Kt)
def rNot (A1 : Tr) : Tr := fun env g Kt => A1 env g (onV Kt fun d1 g1 => ∃ b, d1 = .bl b ∧ Kt (.val (.bl (!b))) g1)
theorem pm_one {op : BoolOp} {pos : Pos} (ha : PM X T EX a R) : PM X T EX (.BoolOp op [a] pos) R := ⟨fun h ok en hv hx => sem_of (pe_one pe_sem) (ha.run h ok en hv hx)⟩
theorem pm_and {rest : List Expr} {pos : Pos} (ha : PM X T EX a A1) (hb : PM X T EX (.BoolOp .And (b :: rest) pos) A2) : PM X T EX (.BoolOp .And (a :: b :: rest) pos) (rAnd A1 A2) := by
  refine ⟨fun {U σ H g S env Q Kt} h ok en hv hx => sem_of (pe_and pe_sem pe_sem) ?_⟩
  refine ha.run h ok en (fun d1 g1 v1 H1 S1 k1 e1 r1 => ?_) (fun C g' H' S' k e => hx C g' H' S' k e)
  obtain ⟨c, rfl, k⟩ := k1
  cases r1
  refine ⟨c, rfl, ?_⟩
  cases c with
  | true => exact hb.run k e1.ok (en.ext e1) (fun d g' v H' S' k e r => hv d g' v H' S' k (e1.trans e) r) fun C g' H' S' k e => hx C g' H' S' k (e1.trans e)
  | false => exact hv _ g1 _ H1 S1 k e1 (.bl false)
theorem pm_or {rest : List Expr} {pos : Pos} (ha : PM X T EX a A1) (hb : PM X T EX (.BoolOp .Or (b :: rest) pos) A2) : PM X T EX (.BoolOp .Or (a :: b :: rest) pos) (rOr A1 A2) := by
  refine ⟨fun {U σ H g S env Q Kt} h ok en hv hx => sem_of (pe_or pe_sem pe_sem) ?_⟩
  refine ha.run h ok en (fun d1 g1 v1 H1 S1 k1 e1 r1 => ?_) (fun C g' H' S' k e => hx C g' H' S' k e)
  obtain ⟨c, rfl, k⟩ := k1
  cases r1
  refine ⟨c, rfl, ?_⟩
  cases c with
  | true => exact hv _ g1 _ H1 S1 k e1 (.bl true)
  | false => exact hb.run k e1.ok (en.ext e1) (fun d g' v H' S' k e r => hv d g' v H' S' k (e1.trans e) r) fun C g' H' S' k e => hx C g' H' S' k (e1.trans e)
theorem pm_not {pos : Pos} (ha : PM X T EX a A1) : PM X T EX (.UnaryOp .Not a pos) (rNot A1) := by
  refine ⟨fun {U σ H g S env Q Kt} h ok en hv hx => sem_of (pe_not pe_sem) ?_⟩
  refine ha.run h ok en (fun d1 g1 v1 H1 S1 k1 e1 r1 => ?_) (fun C g' H' S' k e => hx C g' H' S' k e)
  obtain ⟨c, rfl, k⟩ := k1
  cases r1
  exact ⟨c, rfl, hv _ g1 _ H1 S1 k e1 (.bl _)⟩
theorem pmw_and1 {pos : Pos} (ha : PMT X T EX a A1) : PMW X T EX (.BoolOp .And [a] pos) A1 := ⟨fun h ok en hv hx => semW_of (pw_and1 pt_sem) (ha.run h ok en hv hx)⟩
theorem pmw_or1 {pos : Pos} (ha : PMT X T EX a A1) : PMW X T EX (.BoolOp .Or [a] pos) A1 := ⟨fun h ok en hv hx => semW_of (pw_or1 pt_sem) (ha.run h ok en hv hx)⟩
/-- what the bool readings hand on -/
def onB (Kt : KR) (k : Bool → G → Prop) : KR := fun r g => match r with
  | .val (.bl b) => k b g
  | .exc C => Kt (.exc C) g
  | _ => False
def rAndT (R1 R2 : Tr) : Tr := fun env g Kt => R1 env g (onB Kt fun b g1 => if b = true then R2 env g1 Kt else Kt (.val (.bl false)) g1)
def rOrT (R1 R2 : Tr) : Tr := fun env g Kt => R1 env g (onB Kt fun b g1 => if b = true then Kt (.val (.bl true)) g1 else R2 env g1 Kt)
def rNotT (R1 : Tr) : Tr := fun env g Kt => R1 env g (onB Kt fun b g1 => Kt (.val (.bl (!b))) g1)
theorem pmw_and {rest : List Expr} {pos : Pos} (ha : PMT X T EX a A1) (hb : PMW X T EX (.BoolOp .And (b :: rest) pos) A2) : PMW X T EX (.BoolOp .And (a :: b :: rest) pos) (rAndT A1 A2) := by
  refine ⟨fun {U σ H g S env Q Kt Kx} h ok en hv hx => semW_of (pw_and pt_sem pw_sem) ?_⟩
  refine ha.run h ok en (fun c g1 H1 S1 k e1 => ?_) (fun C g' H' S' k e => hx C g' H' S' k e)
  cases c with
  | true => exact hb.run k e1.ok (en.ext e1) (fun b g' H' S' k e => hv b g' H' S' k (e1.trans e)) fun C g' H' S' k e => hx C g' H' S' k (e1.trans e)
  | false => exact hv false g1 H1 S1 k e1
theorem pmw_or {rest : List Expr} {pos : Pos} (ha : PMT X T EX a A1) (hb : PMW X T EX (.BoolOp .Or (b :: rest) pos) A2) : PMW X T EX (.BoolOp .Or (a :: b :: rest) pos) (rOrT A1 A2) := by
  refine ⟨fun {U σ H g S env Q Kt Kx} h ok en hv hx => semW_of (pw_or pt_sem pw_sem) ?_⟩
  refine ha.run h ok en (fun c g1 H1 S1 k e1 => ?_) (fun C g' H' S' k e => hx C g' H' S' k e)
  cases c with
  | true => exact hv true g1 H1 S1 k e1
  | false => exact hb.run k e1.ok (en.ext e1) (fun b g' H' S' k e => hv b g' H' S' k (e1.trans e)) fun C g' H' S' k e => hx C g' H' S' k (e1.trans e)
theorem pmt_not {pos : Pos} (ha : PMT X T EX a A1) : PMT X T EX (.UnaryOp .Not a pos) (rNotT A1) := by
  refine ⟨fun {U σ H g S env Q Kt Kx} h ok en hv hx => semT_of (pt_not pt_sem) ?_⟩
  exact ha.run h ok en (fun c g1 H1 S1 k e1 => hv (!c) g1 H1 S1 k e1) (fun C g' H' S' k e => hx C g' H' S' k e)
def rIfE (A1 A2 A3 : Tr) : Tr := fun env g Kt => A1 env g (onB Kt fun b g1 => if b = true then A2 env g1 Kt else A3 env g1 Kt)
theorem pm_ifE {pos : Pos} (ht : PMT X T EX c A1) (ha : PM X T EX a A2) (hb : PM X T EX b A3) : PM X T EX (.IfExp c a b pos) (rIfE A1 A2 A3) := by
  refine ⟨fun {U σ H g S env Q Kt} h ok en hv hx => sem_of (pe_ifExp pt_sem pe_sem pe_sem) ?_⟩
  refine ht.run (Kt := fun b g1 => if b = true then A2 env g1 Kt else A3 env g1 Kt) (Kx := fun C g' => Kt (.exc C) g') h ok en (fun k g1 H1 S1 k' e1 => ?_) (fun C g' H' S' k e => hx C g' H' S' k e)
  cases k with
  | true => exact ha.run k' e1.ok (en.ext e1) (fun d g' v H' S' k e r => hv d g' v H' S' k (e1.trans e) r) fun C g' H' S' k e => hx C g' H' S' k (e1.trans e)
  | false => exact hb.run k' e1.ok (en.ext e1) (fun d g' v H' S' k e r => hv d g' v H' S' k (e1.trans e) r) fun C g' H' S' k e => hx C g' H' S' k (e1.trans e)

/-! argument lists, displays -/
def rNil : TrA := fun _ g Kt => Kt (.ok []) g
def rCons (R : Tr) (RA : TrA) : TrA := fun env g Kt => R env g fun r g1 => match r with
  | .val d => RA env g1 fun rs g2 => match rs with
    | .ok ds => Kt (.ok (d :: ds)) g2
    | .error C => Kt (.error C) g2
  | .exc C => Kt (.error C) g1
theorem pma_nil : PMA X T EX [] rNil := ⟨fun {U σ H g S env Q Kt} h ok en hv hx => semA_of pa_nil (hv [] g [] H S h (Ext.refl ok) .nil)⟩
theorem pma_cons (ha : PM X T EX a R) (hr : PMA X T EX es RA) (hs : starEach (a :: es) X.env = (false, eval a X.env) :: starEach es X.env := by rfl) : PMA X T EX (a :: es) (rCons R RA) := by
  refine ⟨fun {U σ H g S env Q Kt} h ok en hv hx => semA_of (pa_cons pe_sem pa_sem hs) ?_⟩
  refine ha.run h ok en (fun d1 g1 v1 H1 S1 k1 e1 r1 => ?_) (fun C g' H' S' k e => hx C g' H' S' k e)
  refine hr.run k1 e1.ok (en.ext e1) (fun ds g2 vs H2 S2 k2 e2 r2 => ?_) (fun C g' H' S' k e => hx C g' H' S' k (e1.trans e))
  exact hv _ g2 _ H2 S2 k2 (e1.trans e2) (.cons (r1.mono e2.mono) r2)
def rTup (RA : TrA) : Tr := fun env g Kt => RA env g (onA Kt fun ds g1 => ds.length ≤ 1000 ∧ Kt (.val (.tup ds)) g1)
def rLst (RA : TrA) : Tr := fun env g Kt => RA env g (onA Kt fun ds g1 => ds.length ≤ 1000 ∧ Kt (.val (.lst ds)) g1)
theorem sz {n : Nat} (h : n ≤ 100000) : n ≤ sizeLine := Nat.le_trans h (by decide)
theorem szlt {n : Nat} (h : n < 100000) : n < sizeLine := Nat.lt_of_lt_of_le h (by decide)
theorem pm_tup {x1 : Nat} {pos : Pos} (ha : PMA X T EX es RA) : PM X T EX (.Tuple es x1 pos) (rTup RA) := by
  refine ⟨fun {U σ H g S env Q Kt} h ok en hv hx => sem_of (pe_tup pa_sem) ?_⟩
  refine ha.run h ok en (fun ds g1 vs H1 S1 k1 e1 r1 => ?_) (fun C g' H' S' k e => hx C g' H' S' k e)
  refine ⟨sz (by rw [r1.length]; have := k1.1; omega), fun p hp => ?_⟩
  have e2 := e1.ok.new (o := .tup vs) hp (fun ps z => by cases z)
  exact hv _ g1 _ _ _ k1.2 (e1.trans e2) (.tup (.inl (.inl upd_same)) (r1.mono e2.mono))
theorem pm_lst {pos : Pos} (ha : PMA X T EX es RA) : PM X T EX (.List es pos) (rLst RA) := by
  refine ⟨fun {U σ H g S env Q Kt} h ok en hv hx => sem_of (pe_lst pa_sem) ?_⟩
  refine ha.run h ok en (fun ds g1 vs H1 S1 k1 e1 r1 => ?_) (fun C g' H' S' k e => hx C g' H' S' k e)
  refine ⟨sz (by rw [r1.length]; have := k1.1; omega), fun p hp => ?_⟩
  have e2 := e1.ok.new (o := .lst vs) hp (fun ps z => by cases z)
  exact hv _ g1 _ _ _ k1.2 (e1.trans e2) (.lst upd_same (r1.mono e2.mono))

/-! calls of built-ins by values -/
def VA (K : PySem.W.Frag) (T : List (Addr × Str)) (r : List V → Hp → VK → Prop) (f : G → List D → Option D) : Prop := ∀ {g : G} {S H : Hp} {xs : List V} {ds : List D} {d : D} {Q : VK}, HOK K T g S H → Reps K S xs ds → f g ds = some d →
  (∀ v H' S', Ext K T g S H g S' H' → Rep K S' v d → Q v H') → r xs H Q
def rCB (f : G → List D → Option D) (RA : TrA) : Tr := fun env g Kt => RA env g (onA Kt fun ds g1 => ∃ d, f g1 ds = some d ∧ Kt (.val d) g1)
theorem pm_cb {r : List V → Hp → VK → Prop} {f : G → List D → Option D} (mk : PE X e (tCB r (TSemA X es))) (hf : VA X.K T r f) (ha : PMA X T EX es RA) : PM X T EX e (rCB f RA) := by
  refine ⟨fun {U σ H g S env Q Kt} h ok en hv hx => sem_of mk ?_⟩
  refine ha.run h ok en (fun ds g1 vs H1 S1 k1 e1 r1 => ?_) (fun C g' H' S' k e => hx C g' H' S' k e)
  obtain ⟨d, hd, k⟩ := k1
  exact hf e1.ok r1 hd fun v H' S' e r => hv d g1 v H' S' k (e1.trans e) r
theorem pm_callB {x : Str} {p pos : Pos} {id : String} {r : List V → Hp → VK → Prop} {f : G → List D → Option D} (hc : CallR X (.builtin id) r) (hf : VA X.K T r f) (hg : Gl X x) (hm : X.mg x = none) (hv : bootBuiltins x = some (.builtin id)) (ha : PMA X T EX (a :: es) RA)
    (hn : x ≠ "__name__" := by decide) (hd : (x == ("__debug__" : Str)) = false := by decide) (he : starEach (a :: es) X.env = (false, eval a X.env) :: starEach es X.env := by rfl) (hpl : (backTo pos (starEach es X.env)).any (·.1) = false := by rfl) :
    PM X T EX (.Call (.Name x p) (a :: es) [] pos) (rCB f RA) := pm_cb (pe_callB hc hg hm hv pa_sem hn hd he hpl) hf ha
end
end DL

set_option Elab.async false
set_option linter.all false
set_option maxRecDepth 100000
set_option maxHeartbeats 2000000
set_option autoImplicit false
/-! DL3: operators and built-ins on data. -/
namespace DL
open PySem PySem.Spec L2
section
variable {K : PySem.W.Frag} {T : List (Addr × Str)} {g : G} {S H : Hp}

/-! flat data as values -/
def toV : D → Option V
  | .non => some .non
  | .bl b => some (.bl b)
  | .int i => some (.int i)
  | .str x => some (.str x)
  | _ => none
theorem toV_rep {v u : V} {d : D} (r : Rep K S v d) (e : toV d = some u) : v = u := by
  cases r <;> simp [toV] at e <;> exact e
theorem toV_flat {u : V} {d : D} (e : toV d = some u) : flatV u = true := by
  cases d <;> simp [toV] at e <;> subst e <;> rfl
def toVs : List D → Option (List V)
  | [] => some []
  | d :: r => (toV d).bind fun v => (toVs r).map (v :: ·)
theorem toVs_rep : ∀ {vs us : List V} {ds : List D}, Reps K S vs ds → toVs ds = some us → vs = us ∧ us.all flatV = true
  | _, _, [], .nil, e => by simp [toVs] at e; subst e; exact ⟨rfl, rfl⟩
  | _, us, d :: ds, .cons r t, e => by
    unfold toVs at e
    cases h : toV d with
    | none => rw [h] at e; cases e
    | some u =>
      rw [h] at e
      cases h2 : toVs ds with
      | none => rw [h2] at e; cases e
      | some ws =>
        rw [h2] at e
        simp at e
        subst e
        obtain ⟨e1, e2⟩ := toVs_rep t h2
        rw [toV_rep r h, e1]
        exact ⟨rfl, by rw [List.all_cons, toV_flat h, e2]; rfl⟩
@[simp] theorem toVs_ints : ∀ ns : List Int, toVs (ns.map D.int) = some (ns.map V.int)
  | [] => rfl
  | n :: ns => by simp [toVs, toV, toVs_ints ns]
@[simp] theorem toVs_strs : ∀ ns : List Str, toVs (ns.map D.str) = some (ns.map V.str)
  | [] => rfl
  | n :: ns => by simp [toVs, toV, toVs_strs ns]

/-! data as HandS's nested data -/
mutual
def py : D → Option PyData
  | .non => some .none
  | .bl b => some (.bool b)
  | .int i => some (.int i)
  | .str x => some (.str x)
  | .lst xs => (pys xs).map .list
  | .frl xs => (pys xs).map .list
  | .tup xs => (pys xs).map .tuple
  | .ref _ => none
  | .dct _ => none
def pys : List D → Option (List PyData)
  | [] => some []
  | d :: r => match py d, pys r with
    | some x, some xs => some (x :: xs)
    | _, _ => none
end
mutual
theorem py_rep (ok : HOK K T g S H) : ∀ {v : V} {d : D} {x : PyData}, Rep K S v d → py d = some x → Dp K H v x
  | _, .non, _, .non, e => by simp [py] at e; subst e; exact .non
  | _, .bl _, _, .bl _, e => by simp [py] at e; subst e; exact .bl _
  | _, .int _, _, .int _, e => by simp [py] at e; subst e; exact .int _
  | _, .str _, _, .str _, e => by simp [py] at e; subst e; exact .str _
  | _, .lst ds, _, .lst s r, e => by
    simp only [py] at e
    cases h : pys ds with
    | none => rw [h] at e; cases e
    | some xs => rw [h] at e; cases e; exact .lst (ok.sql (.inl (.inl s))) (pys_rep ok r h)
  | _, .frl ds, _, .frl s r, e => by
    simp only [py] at e
    cases h : pys ds with
    | none => rw [h] at e; cases e
    | some xs => rw [h] at e; cases e; exact .lst (ok.sql s) (pys_rep ok r h)
  | _, .tup ds, _, .tup s r, e => by
    simp only [py] at e
    cases h : pys ds with
    | none => rw [h] at e; cases e
    | some xs => rw [h] at e; cases e; exact .tup (ok.sqt s) (pys_rep ok r h)
  | _, .ref _, _, .ref _, e => by simp [py] at e
  | _, .dct _, _, .dct _ _, e => by simp [py] at e
theorem pys_rep (ok : HOK K T g S H) : ∀ {vs : List V} {ds : List D} {xs : List PyData}, Reps K S vs ds → pys ds = some xs → DpAll K H vs xs
  | _, [], _, .nil, e => by simp [pys] at e; subst e; exact .nil
  | _, d :: ds, _, .cons r t, e => by
    simp only [pys] at e
    cases h : py d with
    | none => rw [h] at e; cases e
    | some x =>
      rw [h] at e
      cases h2 : pys ds with
      | none => rw [h2] at e; cases e
      | some xs => rw [h2] at e; cases e; exact .cons (py_rep ok r h) (pys_rep ok t h2)
end

/-! == and != -/
def eqP (a b : D) : Option Bool := match py a, py b with
  | some x, some y => if (SeqAt.shaped x && SeqAt.shaped y) = true then some (PyData.eqv x y) else none
  | _, _ => none
def eqB (a b : D) : Option Bool := match toV a, toV b with
  | some x, some y => if scal x y = true then some (decide (x = y)) else eqP a b
  | _, _ => eqP a b
def eqF (_ : G) (a b : D) : Option D := (eqB a b).map .bl
def neF (_ : G) (a b : D) : Option D := (eqB a b).map fun k => .bl (!k)
theorem eqP_some {a b : D} {k : Bool} (h : eqP a b = some k) : ∃ x y, py a = some x ∧ py b = some y ∧ SeqAt.shaped x = true ∧ SeqAt.shaped y = true ∧ k = PyData.eqv x y := by
  unfold eqP at h
  split at h
  · rename_i x y hx hy
    split at h
    · rename_i hs
      rw [Bool.and_eq_true] at hs
      cases h
      exact ⟨x, y, hx, hy, hs.1, hs.2, rfl⟩
    · cases h
  · cases h
theorem eqB_cases {a b : D} {k : Bool} (h : eqB a b = some k) : (∃ x y, toV a = some x ∧ toV b = some y ∧ scal x y = true ∧ k = decide (x = y)) ∨ eqP a b = some k := by
  unfold eqB at h
  split at h
  · rename_i x y hx hy
    split at h
    · rename_i hs; cases h; exact .inl ⟨x, y, hx, hy, hs, rfl⟩
    · exact .inr h
  · exact .inr h
def rEqA (K : PySem.W.Frag) : R2 := fun x y H Q => rEq x y H Q ∨ rEqD K x y H Q
def rNeA (K : PySem.W.Frag) : R2 := fun x y H Q => rNe x y H Q ∨ rNeD K x y H Q
theorem v2_eq : V2 K T (rEqA K) eqF := by
  intro g S H x y d1 d2 d Q ok r1 r2 e hq
  unfold eqF at e
  cases h : eqB d1 d2 with
  | none => rw [h] at e; cases e
  | some k =>
    rw [h] at e; cases e
    rcases eqB_cases h with ⟨u, w, h1, h2, h3, rfl⟩ | h
    · refine .inl ?_
      rw [toV_rep r1 h1, toV_rep r2 h2]
      exact ⟨h3, hq _ H S (Ext.refl ok) (.bl _)⟩
    · obtain ⟨a, b, h1, h2, h3, h4, rfl⟩ := eqP_some h
      exact .inr ⟨a, b, py_rep ok r1 h1, py_rep ok r2 h2, h3, h4, hq _ H S (Ext.refl ok) (.bl _)⟩
theorem v2_ne : V2 K T (rNeA K) neF := by
  intro g S H x y d1 d2 d Q ok r1 r2 e hq
  unfold neF at e
  cases h : eqB d1 d2 with
  | none => rw [h] at e; cases e
  | some k =>
    rw [h] at e; cases e
    rcases eqB_cases h with ⟨u, w, h1, h2, h3, rfl⟩ | h
    · refine .inl ?_
      rw [toV_rep r1 h1, toV_rep r2 h2]
      exact ⟨h3, hq _ H S (Ext.refl ok) (.bl _)⟩
    · obtain ⟨a, b, h1, h2, h3, h4, rfl⟩ := eqP_some h
      exact .inr ⟨a, b, py_rep ok r1 h1, py_rep ok r2 h2, h3, h4, hq _ H S (Ext.refl ok) (.bl _)⟩
@[simp] theorem eqF_ii {i j : Int} : eqF g (.int i) (.int j) = some (.bl (decide (i = j))) := by simp [eqF, eqB, toV, scal]
@[simp] theorem neF_ii {i j : Int} : neF g (.int i) (.int j) = some (.bl (!decide (i = j))) := by simp [neF, eqB, toV, scal]
@[simp] theorem eqF_ss {i j : Str} : eqF g (.str i) (.str j) = some (.bl (decide (i = j))) := by simp [eqF, eqB, toV, scal]
@[simp] theorem neF_ss {i j : Str} : neF g (.str i) (.str j) = some (.bl (!decide (i = j))) := by simp [neF, eqB, toV, scal]
@[simp] theorem eqF_bb {i j : Bool} : eqF g (.bl i) (.bl j) = some (.bl (decide (i = j))) := by simp [eqF, eqB, toV, scal]
@[simp] theorem neF_bb {i j : Bool} : neF g (.bl i) (.bl j) = some (.bl (!decide (i = j))) := by simp [neF, eqB, toV, scal]
@[simp] theorem pys_ints : ∀ ns : List Int, pys (ns.map D.int) = some (ns.map PyData.int)
  | [] => by simp [pys]
  | n :: ns => by simp [pys, py, pys_ints ns]

/-! arithmetic -/
def addF (_ : G) : D → D → Option D
  | .int i, .int j => some (.int (i + j))
  | .str x, .str y => if x.length + y.length ≤ 100000 then some (.str (x ++ y)) else none
  | _, _ => none
def rAddA : R2 := fun x y H Q => rI0 (fun i j => .int (i + j)) x y H Q ∨ ∃ i j, x = .str i ∧ y = .str j ∧ i.length + j.length ≤ sizeLine ∧ Q (.str (i ++ j)) H
theorem HOK.lst_at (ok : HOK K T g S H) {a : Addr} (ht : g.tl a = false) {o : HO} (h : S a = some o) : H a = some o := by
  rcases ok.sub _ _ h with e | ⟨z, _⟩
  · exact e
  · rw [ht] at z; cases z
theorem v2_add : V2 K T rAddA addF := by
  intro g S H x y d1 d2 d Q ok r1 r2 e hq
  cases d1 with
  | int i =>
    cases d2 with
    | int j =>
      cases r1; cases r2
      simp only [addF, Option.some.injEq] at e
      subst e
      exact .inl ⟨i, j, rfl, rfl, hq _ H S (Ext.refl ok) (.int _)⟩
    | _ => simp [addF] at e
  | str i =>
    cases d2 with
    | str j =>
      cases r1; cases r2
      simp only [addF] at e
      split at e
      · rename_i hl
        cases e
        exact .inr ⟨i, j, rfl, rfl, sz hl, hq _ H S (Ext.refl ok) (.str _)⟩
      · cases e
    | _ => simp [addF] at e
  | _ => simp [addF] at e
def subF (_ : G) : D → D → Option D
  | .int i, .int j => some (.int (i - j))
  | _, _ => none
theorem v2_int {r : Int → Int → V} {f : G → D → D → Option D} {F : Int → Int → D} (h1 : ∀ g i j, f g (.int i) (.int j) = some (F i j)) (h2 : ∀ g a b, (∀ i j, ¬ (a = .int i ∧ b = .int j)) → f g a b = none) (h3 : ∀ S i j, Rep K S (r i j) (F i j)) : V2 K T (rI0 r) f := by
  intro g S H x y d1 d2 d Q ok r1 r2 e hq
  by_cases z : ∃ i j, d1 = .int i ∧ d2 = .int j
  · obtain ⟨i, j, rfl, rfl⟩ := z
    cases r1; cases r2
    rw [h1] at e; cases e
    exact ⟨i, j, rfl, rfl, hq _ H S (Ext.refl ok) (h3 S i j)⟩
  · rw [h2 g d1 d2 (fun i j q => z ⟨i, j, q⟩)] at e; cases e
theorem v2_intC {C : Int → Int → Prop} {r : Int → Int → V} {f : G → D → D → Option D} {F : Int → Int → D} (h1 : ∀ g i j d, f g (.int i) (.int j) = some d → C i j ∧ d = F i j) (h2 : ∀ g a b, (∀ i j, ¬ (a = .int i ∧ b = .int j)) → f g a b = none) (h3 : ∀ S i j, Rep K S (r i j) (F i j)) : V2 K T (rI C r) f := by
  intro g S H x y d1 d2 d Q ok r1 r2 e hq
  by_cases z : ∃ i j, d1 = .int i ∧ d2 = .int j
  · obtain ⟨i, j, rfl, rfl⟩ := z
    cases r1; cases r2
    obtain ⟨c, rfl⟩ := h1 g i j d e
    exact ⟨i, j, rfl, rfl, c, hq _ H S (Ext.refl ok) (h3 S i j)⟩
  · rw [h2 g d1 d2 (fun i j q => z ⟨i, j, q⟩)] at e; cases e
theorem v2_sub : V2 K T (rI0 fun i j => .int (i - j)) subF := v2_int (F := fun i j => .int (i - j)) (fun _ _ _ => rfl) (fun _ a b h => by cases a <;> cases b <;> first | rfl | exact absurd ⟨rfl, rfl⟩ (h _ _)) fun _ _ _ => .int _
/-- a product: the second factor below 2^64 -/
def mulF (_ : G) : D → D → Option D
  | .int i, .int j => if -(2 ^ 64) < j ∧ j < 2 ^ 64 then some (.int (i * j)) else if i.natAbs < 2 ^ 2000 ∧ j.natAbs < 2 ^ 2000 then some (.int (i * j)) else none
  | .str x, .int n => if x.length = 1 ∧ 0 ≤ n ∧ n ≤ 1000 then some (.str (Txt.mul x n)) else none
  | _, _ => none
def modF (_ : G) : D → D → Option D
  | .int i, .int j => if 0 < j then some (.int (i % j)) else none
  | _, _ => none
def divF (_ : G) : D → D → Option D
  | .int i, .int j => if 0 < j ∧ j.natAbs < 2 ^ 200 then some (.int (i / j)) else none
  | _, _ => none
def powF (_ : G) : D → D → Option D
  | .int i, .int j => if 0 ≤ j ∧ j ≤ 1000 ∧ i.natAbs < 2 ^ 64 then some (.int (i ^ j.toNat)) else none
  | _, _ => none
theorem v2_mod : V2 K T (rI (fun _ j => 0 < j) fun i j => .int (i % j)) modF := v2_intC (F := fun i j => .int (i % j)) (fun _ i j d e => by simp only [modF] at e; split at e; cases e; exact ⟨by assumption, rfl⟩; cases e) (fun _ a b h => by cases a <;> cases b <;> first | rfl | exact absurd ⟨rfl, rfl⟩ (h _ _)) fun _ _ _ => .int _
theorem v2_div : V2 K T (rI CDivW fun i j => .int (i / j)) divF := v2_intC (F := fun i j => .int (i / j)) (fun _ i j d e => by simp only [divF] at e; split at e; rename_i h; cases e; exact ⟨wide_div h.1 h.2 (by decide) (by decide), rfl⟩; cases e) (fun _ a b h => by cases a <;> cases b <;> first | rfl | exact absurd ⟨rfl, rfl⟩ (h _ _)) fun _ _ _ => .int _
theorem v2_pow : V2 K T (rI CPow fun i j => .int (i ^ j.toNat)) powF := v2_intC (F := fun i j => .int (i ^ j.toNat)) (fun _ i j d e => by simp only [powF] at e; split at e; rename_i h; cases e; exact ⟨⟨h.1, by omega, h.2.2⟩, rfl⟩; cases e) (fun _ a b h => by cases a <;> cases b <;> first | rfl | exact absurd ⟨rfl, rfl⟩ (h _ _)) fun _ _ _ => .int _
def ltF (_ : G) : D → D → Option D
  | .int i, .int j => some (.bl (decide (i < j)))
  | _, _ => none
def leF (_ : G) : D → D → Option D
  | .int i, .int j => some (.bl (decide (i ≤ j)))
  | .str i, .str j => some (.bl (!decide (j.cps.toList < i.cps.toList)))
  | _, _ => none
def gtF (_ : G) : D → D → Option D
  | .int i, .int j => some (.bl (decide (j < i)))
  | _, _ => none
def geF (_ : G) : D → D → Option D
  | .int i, .int j => some (.bl (decide (j ≤ i)))
  | _, _ => none
theorem v2_lt : V2 K T (rI0 fun i j => .bl (decide (i < j))) ltF := v2_int (F := fun i j => .bl (decide (i < j))) (fun _ _ _ => rfl) (fun _ a b h => by cases a <;> cases b <;> first | rfl | exact absurd ⟨rfl, rfl⟩ (h _ _)) fun _ _ _ => .bl _
theorem v2_gt : V2 K T (rI0 fun i j => .bl (decide (j < i))) gtF := v2_int (F := fun i j => .bl (decide (j < i))) (fun _ _ _ => rfl) (fun _ a b h => by cases a <;> cases b <;> first | rfl | exact absurd ⟨rfl, rfl⟩ (h _ _)) fun _ _ _ => .bl _
theorem v2_ge : V2 K T (rI0 fun i j => .bl (decide (j ≤ i))) geF := v2_int (F := fun i j => .bl (decide (j ≤ i))) (fun _ _ _ => rfl) (fun _ a b h => by cases a <;> cases b <;> first | rfl | exact absurd ⟨rfl, rfl⟩ (h _ _)) fun _ _ _ => .bl _
def rLeA : R2 := fun x y H Q => rI0 (fun i j => .bl (decide (i ≤ j))) x y H Q ∨ ∃ i j, x = .str i ∧ y = .str j ∧ Q (.bl (!decide (j.cps.toList < i.cps.toList))) H
theorem v2_le : V2 K T rLeA leF := by
  intro g S H x y d1 d2 d Q ok r1 r2 e hq
  cases d1 with
  | int i =>
    cases d2 with
    | int j => cases r1; cases r2; cases e; exact .inl ⟨i, j, rfl, rfl, hq _ H S (Ext.refl ok) (.bl _)⟩
    | _ => simp [leF] at e
  | str i =>
    cases d2 with
    | str j => cases r1; cases r2; cases e; exact .inr ⟨i, j, rfl, rfl, hq _ H S (Ext.refl ok) (.bl _)⟩
    | _ => simp [leF] at e
  | _ => simp [leF] at e
def isNon : D → Bool
  | .non => true
  | _ => false
def isNF (_ : G) (a b : D) : Option D := match b with
  | .non => some (.bl (isNon a))
  | _ => none
def notNF (_ : G) (a b : D) : Option D := match b with
  | .non => some (.bl (!isNon a))
  | _ => none
theorem v2_isN : V2 K T (fun x y H Q => y = .non ∧ Q (.bl (decide (x = .non))) H) isNF := by
  intro g S H x y d1 d2 d Q ok r1 r2 e hq
  cases d2 <;> simp only [isNF] at e <;> cases e
  cases r2
  have : (decide (x = V.non)) = isNon d1 := by cases r1 <;> rfl
  rw [this]
  exact ⟨rfl, hq _ H S (Ext.refl ok) (.bl _)⟩
theorem v2_notN : V2 K T (fun x y H Q => y = .non ∧ Q (.bl (!decide (x = .non))) H) notNF := by
  intro g S H x y d1 d2 d Q ok r1 r2 e hq
  cases d2 <;> simp only [notNF] at e <;> cases e
  cases r2
  have : (decide (x = V.non)) = isNon d1 := by cases r1 <;> rfl
  rw [this]
  exact ⟨rfl, hq _ H S (Ext.refl ok) (.bl _)⟩
/-! in a list, a tuple of flat items; one sign in a text -/
def items (d : D) : Option (List D) := match d with
  | .lst xs => some xs
  | .frl xs => some xs
  | .tup xs => some xs
  | _ => none
def inB (a b : D) : Option Bool := match b with
  | .str z => match a with
    | .str x => match x.cps.toList with
      | [c] => some (decide (c ∈ z.cps.toList))
      | _ => none
    | _ => none
  | b => match toV a, (items b).bind toVs with
    | some x, some xs => some (inV x xs)
    | _, _ => none
def inF (_ : G) (a b : D) : Option D := (inB a b).map .bl
def niF (_ : G) (a b : D) : Option D := (inB a b).map fun k => .bl (!k)
theorem items_rep (ok : HOK K T g S H) {v : V} {d : D} {ds : List D} (r : Rep K S v d) (e : items d = some ds) : ∃ p vs, v = .ref p ∧ (SqL K H p vs ∨ SqT K H p vs) ∧ Reps K S vs ds := by
  cases r <;> simp [items] at e <;> subst e
  · rename_i x y; exact ⟨_, _, rfl, .inl (ok.sql (.inl (.inl x))), y⟩
  · rename_i x y; exact ⟨_, _, rfl, .inl (ok.sql x), y⟩
  · rename_i x y; exact ⟨_, _, rfl, .inr (ok.sqt x), y⟩
def rInA (K : PySem.W.Frag) (neg : Bool) : R2 := fun x y H Q => rIn K neg x y H Q ∨ ∃ (c : Nat) (z : Str), x = .str ⟨#[c]⟩ ∧ y = .str z ∧ Q (.bl (if neg then !decide (c ∈ z.cps.toList) else decide (c ∈ z.cps.toList))) H
theorem one_sign {x : Str} {c : Nat} (h : x.cps.toList = [c]) : x = ⟨#[c]⟩ := by
  obtain ⟨⟨l⟩⟩ := x
  simp at h
  subst h
  rfl
theorem inB_cases (ok : HOK K T g S H) {x y : V} {d1 d2 : D} {k : Bool} (r1 : Rep K S x d1) (r2 : Rep K S y d2) (h : inB d1 d2 = some k) : (∃ p xs, y = .ref p ∧ (SqL K H p xs ∨ SqT K H p xs) ∧ flatV x = true ∧ xs.all flatV = true ∧ k = inV x xs) ∨ ∃ (c : Nat) (z : Str), x = .str ⟨#[c]⟩ ∧ y = .str z ∧ k = decide (c ∈ z.cps.toList) := by
  have gen : (match toV d1, (items d2).bind toVs with | some x, some xs => some (inV x xs) | _, _ => none) = some k → (∃ p xs, y = .ref p ∧ (SqL K H p xs ∨ SqT K H p xs) ∧ flatV x = true ∧ xs.all flatV = true ∧ k = inV x xs) := by
    intro h
    split at h
    · rename_i u us hu hus
      cases h
      obtain ⟨ds, h1, h2⟩ := Option.bind_eq_some_iff.mp hus
      obtain ⟨p, vs, rfl, h3, h4⟩ := items_rep ok r2 h1
      obtain ⟨rfl, h5⟩ := toVs_rep h4 h2
      rw [toV_rep r1 hu]
      exact ⟨p, _, rfl, h3, toV_flat hu, h5, rfl⟩
    · cases h
  cases d2 with
  | str z =>
    cases r2
    cases d1 with
    | str w =>
      cases r1
      simp only [inB] at h
      split at h
      · rename_i c hc
        cases h
        exact .inr ⟨c, z, by rw [one_sign hc], rfl, rfl⟩
      · cases h
    | _ => simp [inB] at h
  | _ => exact .inl (gen h)
theorem v2_in : V2 K T (rInA K false) inF := by
  intro g S H x y d1 d2 d Q ok r1 r2 e hq
  unfold inF at e
  cases h : inB d1 d2 with
  | none => rw [h] at e; cases e
  | some k =>
    rw [h] at e; cases e
    rcases inB_cases ok r1 r2 h with ⟨p, xs, rfl, h1, h2, h3, rfl⟩ | ⟨c, z, rfl, rfl, rfl⟩
    · exact .inl ⟨p, xs, rfl, h1, h2, h3, hq _ H S (Ext.refl ok) (.bl _)⟩
    · exact .inr ⟨c, z, rfl, rfl, hq _ H S (Ext.refl ok) (.bl _)⟩
theorem v2_ni : V2 K T (rInA K true) niF := by
  intro g S H x y d1 d2 d Q ok r1 r2 e hq
  unfold niF at e
  cases h : inB d1 d2 with
  | none => rw [h] at e; cases e
  | some k =>
    rw [h] at e; cases e
    rcases inB_cases ok r1 r2 h with ⟨p, xs, rfl, h1, h2, h3, rfl⟩ | ⟨c, z, rfl, rfl, rfl⟩
    · exact .inl ⟨p, xs, rfl, h1, h2, h3, hq _ H S (Ext.refl ok) (.bl _)⟩
    · exact .inr ⟨c, z, rfl, rfl, hq _ H S (Ext.refl ok) (.bl _)⟩
/-! an item -/
def ixF (_ : G) (a b : D) : Option D := match b with
  | .int i => match a with
    | .str z => if z.length ≤ 100000 then (atI z.cps.toList i).map fun c => .str ⟨#[c]⟩ else none
    | a => (items a).bind fun xs => atI xs i
  | _ => none
theorem reps_atI {vs : List V} {ds : List D} (r : Reps K S vs ds) {i : Int} {d : D} (e : atI ds i = some d) : ∃ v, atI vs i = some v ∧ Rep K S v d := by
  unfold atI at e ⊢
  rw [r.length]
  obtain ⟨j, h1, h2⟩ := Option.bind_eq_some_iff.mp e
  rw [h1]
  exact r.get h2
theorem v2_ix : V2 K T (rIx K) ixF := by
  intro g S H x y d1 d2 d Q ok r1 r2 e hq
  cases d2 with
  | int i =>
    cases r2
    have gen : ((items d1).bind fun xs => atI xs i) = some d → rIx K x (.int i) H Q := fun e => by
      obtain ⟨ds, h1, h2⟩ := Option.bind_eq_some_iff.mp e
      obtain ⟨p, vs, rfl, h3, h4⟩ := items_rep ok r1 h1
      obtain ⟨v, h5, h6⟩ := reps_atI h4 h2
      rcases h3 with h3 | h3
      · exact .inl ⟨p, vs, i, v, rfl, rfl, h3, h5, hq v H S (Ext.refl ok) h6⟩
      · exact .inr (.inl ⟨p, vs, i, v, rfl, rfl, h3, h5, hq v H S (Ext.refl ok) h6⟩)
    cases d1 with
    | str z =>
      cases r1
      simp only [ixF] at e
      split at e
      · rename_i hl
        obtain ⟨c, h1, rfl⟩ := Option.map_eq_some_iff.mp e
        exact .inr (.inr ⟨z, i, c, rfl, rfl, sz hl, h1, hq _ H S (Ext.refl ok) (.str _)⟩)
      · cases e
    | _ => exact gen e
  | _ => simp [ixF] at e
/-! dicts -/
def asDict (g : G) (d : D) : Option (List (Key × D)) := match d with
  | .dct kvs => some kvs
  | .ref a => match g.get a with
    | some (.dct kvs) => some kvs
    | _ => none
  | _ => none
def keyOf : D → Option Key
  | .int i => some (.inl i)
  | .str x => some (.inr x)
  | _ => none
theorem keyOf_rep {v : V} {d : D} {k : Key} (r : Rep K S v d) (e : keyOf d = some k) : v = kV k := by
  cases r <;> simp [keyOf] at e <;> subst e <;> rfl
theorem asDict_rep (ok : HOK K T g S H) {v : V} {d : D} {kvs : List (Key × D)} (r : Rep K S v d) (e : asDict g d = some kvs) : ∃ p vs, v = .ref p ∧ Rd H p (.dK vs) ∧ RepK K S vs kvs := by
  cases r <;> simp [asDict] at e
  · rename_i a
    split at e
    · rename_i kvs' h
      cases e
      obtain ⟨ho, r, z⟩ := ok.obj _ _ h
      cases r with
      | dct r =>
        rcases z with z | ⟨_, _, od, z⟩
        · exact ⟨_, _, rfl, .inl z, r⟩
        · exact ⟨_, _, rfl, .inr ⟨od, z⟩, r⟩
    · cases e
  · rename_i a vs x y
    subst e
    exact ⟨_, _, rfl, ok.rd (.inl x), y⟩
def dgetF (g : G) (a b : D) : Option D := (asDict g a).bind fun kvs => (keyOf b).bind fun k => dfind kvs k
def dinB (g : G) (a b : D) : Option Bool := (asDict g b).bind fun kvs => (keyOf a).map fun k => (dfind kvs k).isSome
end
section
variable {X : Cx} {T : List (Addr × Str)} {EX : XK} {a b c : Expr} {A1 A2 A3 : Tr}
theorem op_eqA (hu : X.A.units + 64 < cLine) : OpR X (compareOp .Eq) (rEqA X.K) := op_eq.or (op_eqD hu)
theorem op_neA (hu : X.A.units + 64 < cLine) : OpR X (compareOp .NotEq) (rNeA X.K) := op_ne.or (op_neD hu)
theorem op_addA : OpR X (binaryOp .Add) rAddA := op_add.or op_add_str
theorem op_leA : OpR X (compareOp .LtE) rLeA := op_le.or op_le_str
theorem op_inA : OpR X (compareOp .In) (rInA X.K false) := op_in_seq.or op_in_sign
theorem op_niA : OpR X (compareOp .NotIn) (rInA X.K true) := op_notIn_seq.or op_notIn_sign
/-- a product of any size that fits; a sign repeated -/
def rMulA : R2 := fun x y H Q => rI IntMulOk (fun i j => .int (i * j)) x y H Q ∨ ∃ (z : Str) (n : Int), x = .str z ∧ y = .int n ∧ MulOk z n ∧ Q (.str (Txt.mul z n)) H
theorem op_mulA : OpR X (binaryOp .Mult) rMulA := by
  refine OpR.or (opI fun _ _ _ _ _ _ _ hc q => PyProof.Rows.mul_int q hc) ?_
  intro pins s σ H x y v u Q I rx ry h
  obtain ⟨z, n, rfl, rfl, hok, q⟩ := h
  obtain ⟨t, rfl⟩ := rx
  obtain ⟨t', rfl⟩ := ry
  exact SB.mul hok fun t2 k => ⟨.str _, H, I.tok _, ⟨t2, rfl⟩, q⟩
theorem mulOk_one {x : Str} {n : Int} (h1 : x.length = 1) (h2 : 0 ≤ n) (h3 : n ≤ 1000) : MulOk x n := by
  refine ⟨by simp; omega, fun _ _ => ?_, fun _ _ => ?_⟩
  · rw [h1]
    intro z
    have : (1 : Int) ≤ (2 ^ 63 - 1) / n := by
      rw [Int.le_ediv_iff_mul_le (by omega)]
      omega
    omega
  · rw [h1]
    show decide (_ > sizeLine) = false
    exact decide_eq_false (by have : sizeLine = 16777216 := by decide
                              omega)
theorem intMulOk_wide {i j : Int} (h1 : i.natAbs < 2 ^ 2000) (h2 : j.natAbs < 2 ^ 2000) : IntMulOk i j := (wide_mul h1 h2 (by decide) (by decide) (by decide)).ok
theorem v2_mul {K : PySem.W.Frag} : V2 K T rMulA mulF := by
  intro g S H x y d1 d2 d Q ok r1 r2 e hq
  cases d1 with
  | int i =>
    cases d2 with
    | int j =>
      cases r1; cases r2
      simp only [mulF] at e
      split at e
      · rename_i h; cases e
        exact .inl ⟨i, j, rfl, rfl, CMul.ok (.inr h), hq _ H S (Ext.refl ok) (.int _)⟩
      · split at e
        · rename_i h; cases e
          exact .inl ⟨i, j, rfl, rfl, intMulOk_wide h.1 h.2, hq _ H S (Ext.refl ok) (.int _)⟩
        · cases e
    | _ => simp [mulF] at e
  | str z =>
    cases d2 with
    | int n =>
      cases r1; cases r2
      simp only [mulF] at e
      split at e
      · rename_i h; cases e
        exact .inr ⟨z, n, rfl, rfl, mulOk_one h.1 h.2.1 h.2.2, hq _ H S (Ext.refl ok) (.str _)⟩
      · cases e
    | _ => simp [mulF] at e
  | _ => simp [mulF] at e
end
end DL

set_option Elab.async false
set_option linter.all false
set_option maxRecDepth 100000
set_option maxHeartbeats 2000000
set_option autoImplicit false
/-! DL4: attributes, dicts, calls, comprehensions. -/
namespace DL
open PySem PySem.Spec L2
section
variable {K : PySem.W.Frag} {T : List (Addr × Str)} {g : G} {S H : Hp}
theorem HOK.ins (ok : HOK K T g S H) {a C : Addr} {fs : List (Str × D)} (h : g.get a = some (.ins C fs)) : ∃ dx vs, H a = some (.ins C dx vs) ∧ RepF K S vs fs := by
  obtain ⟨ho, r, z⟩ := ok.obj _ _ h
  cases r with
  | ins r =>
    rcases z with z | ⟨_, ⟨_, z⟩, _⟩
    · exact ⟨_, _, z, r⟩
    · cases z
/-- an object that is not locked, as it stands -/
theorem HOK.dctF (ok : HOK K T g S H) {a : Addr} {kvs : List (Key × D)} (h : g.get a = some (.dct kvs)) (hl : g.lk a = false) : ∃ vs, H a = some (.dK vs) ∧ RepK K S vs kvs := by
  obtain ⟨ho, r, z⟩ := ok.obj _ _ h
  cases r with
  | dct r =>
    rcases z with z | ⟨z, _⟩
    · exact ⟨_, z, r⟩
    · rw [hl] at z; cases z
theorem HOK.lstF (ok : HOK K T g S H) {a : Addr} {ds : List D} (h : g.get a = some (.lst ds)) : ∃ vs, H a = some (.lst vs) ∧ Reps K S vs ds := by
  obtain ⟨ho, r, z⟩ := ok.obj _ _ h
  cases r with
  | lst r =>
    rcases z with z | ⟨_, ⟨_, z⟩, _⟩
    · exact ⟨_, z, r⟩
    · cases z
def G.set (g : G) (a : Addr) (o : MO) : G := { g with get := fun b => if b = a then some o else g.get b }
@[simp] theorem G.set_same {g : G} {a : Addr} {o : MO} : (g.set a o).get a = some o := if_pos rfl
theorem G.set_ne {g : G} {a b : Addr} {o : MO} (h : b ≠ a) : (g.set a o).get b = g.get b := if_neg h
@[simp] theorem G.set_lk {g : G} {a : Addr} {o : MO} : (g.set a o).lk = g.lk := rfl
@[simp] theorem G.set_tl {g : G} {a : Addr} {o : MO} : (g.set a o).tl = g.tl := rfl
theorem tabs_upd {H : Hp} {p : Addr} {u o : HO} (t : LamX.Tabs T H) (h : H p = some u) (n1 : ∀ ps, u ≠ .tbl ps) (n2 : ∀ φ, u ≠ .ext φ) : LamX.Tabs T (upd H p o) := fun q hq => by
  obtain ⟨ps, h1, h2, h3⟩ := t q hq
  refine ⟨ps, by rw [upd_ne (ne_of h1 h (fun z => n1 ps z.symm))]; exact h1, h2, fun pos cv hc => ?_⟩
  obtain ⟨c, e, hc⟩ := h3 pos cv hc
  exact ⟨c, e, by rw [upd_ne (ne_of hc h (fun z => n2 _ z.symm))]; exact hc⟩
theorem repMO_nex {ho : HO} {o : MO} (r : RepMO K S ho o) : ∀ φ, ho ≠ .ext φ := fun φ z => by subst z; cases r
/-- an abstract object is changed -/
theorem HOK.set (ok : HOK K T g S H) {a : Addr} {o o' : MO} {ho ho' : HO} (h : g.get a = some o) (hh : H a = some ho) (hr : RepMO K S ho o) (hf : ∀ od u, ho ≠ .frz od u) (r : RepMO K S ho' o') : Ext K T g S H (g.set a o') S (upd H a ho') := by
  have sn : ∀ b u, S b = some u → b ≠ a := fun b u e z => by subst z; rw [ok.sep _ _ h] at e; cases e
  refine ⟨⟨fun b u e => ?_, fun b u e => ?_, fun b u e => ?_, tabs_upd ok.tab hh (repMO_ntb hr) (repMO_nex hr), ok.ntb⟩, fun _ _ e => e, fun _ e => .inl e, fun b u e n _ => ?_, fun b u v e => ?_, Fre.old fun b u e nt => ?_, fun b e => ?_, fun b e => ?_, rfl, rfl⟩
  · rw [upd_ne (sn b u e)]; exact ok.sub b u e
  · by_cases z : b = a
    · subst z
      rw [G.set_same] at e; cases e
      exact ⟨_, r, .inl upd_same⟩
    · rw [G.set_ne z] at e
      rw [upd_ne z]
      exact ok.obj b u e
  · by_cases z : b = a
    · subst z; exact ok.sep _ _ h
    · rw [G.set_ne z] at e; exact ok.sep b u e
  · have z : b ≠ a := fun z => by subst z; rw [h] at n; cases n
    rw [upd_ne z]; exact e
  · have z : b ≠ a := fun z => by subst z; rw [hh] at e; exact hf _ _ (Option.some.inj e)
    rw [upd_ne z]; exact e
  · by_cases z : b = a
    · subst z; exact ⟨ho', upd_same, repMO_ntb r⟩
    · exact ⟨u, by rw [upd_ne z]; exact e, nt⟩
  · by_cases z : b = a
    · subst z; rw [h]; simp
    · rw [G.set_ne z] at e; exact .inl e
  · by_cases z : b = a
    · subst z; rw [G.set_same]; simp
    · rw [G.set_ne z]; exact e
/-- a new abstract object -/
theorem HOK.add (ok : HOK K T g S H) {a : Addr} {o' : MO} {ho' : HO} (h : H a = none) (r : RepMO K S ho' o') : Ext K T g S H (g.set a o') S (upd H a ho') := by
  have sn : ∀ b u, S b = some u → b ≠ a := fun b u e z => by subst z; rw [ok.freeS h] at e; cases e
  have hn : ∀ b u, H b = some u → b ≠ a := fun b u e => ne_of_none e h
  have gn : ∀ b u, g.get b = some u → b ≠ a := fun b u e z => by subst z; rw [ok.freeG h] at e; cases e
  refine ⟨⟨fun b u e => ?_, fun b u e => ?_, fun b u e => ?_, ok.tab.ext fun b u e => by rw [upd_ne (hn b u e)]; exact e, ok.ntb⟩, fun _ _ e => e, fun _ e => .inl e, fun b u e n _ => ?_, fun b u v e => ?_, Fre.old fun b u e nt => ?_, fun b e => ?_, fun b e => ?_, rfl, rfl⟩
  · rw [upd_ne (sn b u e)]; exact ok.sub b u e
  · by_cases z : b = a
    · subst z
      rw [G.set_same] at e; cases e
      exact ⟨_, r, .inl upd_same⟩
    · rw [G.set_ne z] at e
      rw [upd_ne z]
      exact ok.obj b u e
  · by_cases z : b = a
    · subst z; exact ok.freeS h
    · rw [G.set_ne z] at e; exact ok.sep b u e
  · rw [upd_ne (hn b u e)]; exact e
  · rw [upd_ne (hn b _ e)]; exact e
  · exact ⟨u, by rw [upd_ne (hn b u e)]; exact e, nt⟩
  · by_cases z : b = a
    · subst z; exact .inr (.of h)
    · rw [G.set_ne z] at e; exact .inl e
  · by_cases z : b = a
    · subst z; rw [G.set_same]; simp
    · rw [G.set_ne z]; exact e
end
section
variable {X : Cx} {T : List (Addr × Str)} {EX : XK} {e a b c o : Expr} {es : List Expr} {A1 A2 A3 : Tr} {RA : TrA}
/-! attributes of instances -/
/-- what the class at C is like for the attribute f -/
structure At (K : PySem.W.Frag) (C : Addr) (f : Str) : Prop where
  cl : Cls K C
  no : NoAttr K C f
def rFld (C0 : Addr) (f : Str) (A : Tr) : Tr := fun env g Kt => A env g (onV Kt fun d g1 => ∃ a fs v, d = .ref a ∧ g1.get a = some (.ins C0 fs) ∧ fs.lookup f = some v ∧ Kt (.val v) g1)
theorem pm_fld {C0 : Addr} {f : Str} {pos : Pos} (at_ : At X.K C0 f) (ha : PM X T EX a A1) (hb : attributeBase a f X.env (eval a X.env) = eval a X.env := by rfl) : PM X T EX (.Attribute a f pos) (rFld C0 f A1) := by
  refine ⟨fun {U σ H g S env Q Kt} h ok en hv hx => sem_of (pe_fld pe_sem hb) ?_⟩
  refine ha.run h ok en (fun d g1 v H1 S1 k e r => ?_) (fun C g' H' S' k e => hx C g' H' S' k e)
  obtain ⟨p, fs, x, rfl, hg, hl, k⟩ := k
  cases r
  obtain ⟨dx, vs, h1, h2⟩ := e.ok.ins hg
  obtain ⟨y, h3, h4⟩ := h2.lookup hl
  exact ⟨p, C0, dx, vs, y, rfl, h1, at_.cl, at_.no, h3, hv x g1 y H1 S1 k e h4⟩
/-! d[k], k in d, d.get(k, x) -/
def rDGet (A1 A2 : Tr) : Tr := fun env g Kt => A1 env g (onV Kt fun d g1 => A2 env g1 (onV Kt fun k g2 => ∃ v, dgetF g2 d k = some v ∧ Kt (.val v) g2))
theorem pm_dget {pos : Pos} (hu : X.A.units + 1 < cLine) (ha : PM X T EX o A1) (hb : PM X T EX a A2) (hs : NoSl a) : PM X T EX (.Subscript o a pos) (rDGet A1 A2) := by
  refine ⟨fun {U σ H g S env Q Kt} h ok en hv hx => sem_of (pe_dget hu pe_sem pe_sem hs) ?_⟩
  refine ha.run h ok en (fun d1 g1 v1 H1 S1 k1 e1 r1 => ?_) (fun C g' H' S' k e => hx C g' H' S' k e)
  refine hb.run k1 e1.ok (en.ext e1) (fun d2 g2 v2 H2 S2 k2 e2 r2 => ?_) (fun C g' H' S' k e => hx C g' H' S' k (e1.trans e))
  obtain ⟨v, hd, k⟩ := k2
  obtain ⟨kvs, h1, h2⟩ := Option.bind_eq_some_iff.mp hd
  obtain ⟨key, h3, h4⟩ := Option.bind_eq_some_iff.mp h2
  obtain ⟨p, vs, rfl, h5, h6⟩ := asDict_rep e2.ok (r1.mono e2.mono) h1
  obtain ⟨y, h7, h8⟩ := h6.find_some h4
  exact ⟨p, y, rfl, .inl ⟨vs, key, h5, keyOf_rep r2 h3, h7.symm⟩, hv v g2 y H2 S2 k (e1.trans e2) h8⟩
def rDIn (neg : Bool) (A1 A2 : Tr) : Tr := fun env g Kt => A1 env g (onV Kt fun k g1 => A2 env g1 (onV Kt fun d g2 => ∃ b, dinB g2 k d = some b ∧ Kt (.val (.bl (if neg then !b else b))) g2))
theorem pm_din {pos : Pos} (hu : X.A.units + 1 < cLine) (ha : PM X T EX a A1) (hb : PM X T EX o A2) (hm : behindInMarks .In o = false := by rfl) : PM X T EX (.Compare a [.In] [o] pos) (rDIn false A1 A2) := by
  refine ⟨fun {U σ H g S env Q Kt} h ok en hv hx => sem_of (pe_cmp (pc_din hu pe_sem pe_sem) hm) ?_⟩
  refine ha.run h ok en (fun d1 g1 v1 H1 S1 k1 e1 r1 => ?_) (fun C g' H' S' k e => hx C g' H' S' k e)
  refine hb.run k1 e1.ok (en.ext e1) (fun d2 g2 v2 H2 S2 k2 e2 r2 => ?_) (fun C g' H' S' k e => hx C g' H' S' k (e1.trans e))
  obtain ⟨q, hd, k⟩ := k2
  obtain ⟨kvs, h1, h2⟩ := Option.bind_eq_some_iff.mp hd
  obtain ⟨key, h3, rfl⟩ := Option.map_eq_some_iff.mp h2
  obtain ⟨p, vs, rfl, h5, h6⟩ := asDict_rep e2.ok r2 h1
  refine ⟨p, valV vs key, rfl, .inl ⟨vs, key, h5, keyOf_rep r1 h3, rfl⟩, ?_⟩
  rw [h6.isSome]
  exact hv _ g2 _ H2 S2 k (e1.trans e2) (.bl _)
theorem pm_dni {pos : Pos} (hu : X.A.units + 1 < cLine) (ha : PM X T EX a A1) (hb : PM X T EX o A2) (hm : behindInMarks .NotIn o = false := by rfl) : PM X T EX (.Compare a [.NotIn] [o] pos) (rDIn true A1 A2) := by
  refine ⟨fun {U σ H g S env Q Kt} h ok en hv hx => sem_of (pe_cmp (pc_dnotin hu pe_sem pe_sem) hm) ?_⟩
  refine ha.run h ok en (fun d1 g1 v1 H1 S1 k1 e1 r1 => ?_) (fun C g' H' S' k e => hx C g' H' S' k e)
  refine hb.run k1 e1.ok (en.ext e1) (fun d2 g2 v2 H2 S2 k2 e2 r2 => ?_) (fun C g' H' S' k e => hx C g' H' S' k (e1.trans e))
  obtain ⟨q, hd, k⟩ := k2
  obtain ⟨kvs, h1, h2⟩ := Option.bind_eq_some_iff.mp hd
  obtain ⟨key, h3, rfl⟩ := Option.map_eq_some_iff.mp h2
  obtain ⟨p, vs, rfl, h5, h6⟩ := asDict_rep e2.ok r2 h1
  refine ⟨p, valV vs key, rfl, .inl ⟨vs, key, h5, keyOf_rep r1 h3, rfl⟩, ?_⟩
  rw [h6.isSome]
  exact hv _ g2 _ H2 S2 k (e1.trans e2) (.bl _)

/-! what a def promises, on data: spec ds g Kt: from arguments ds at g, what is wanted behind -/
abbrev SpD := List D → G → KR → Prop
def spD (K : PySem.W.Frag) (T : List (Addr × Str)) (n : Nat) (spec : SpD) : Sp := fun vs H Q E => ∃ g S ds Kt, vs.length = n ∧ HOK K T g S H ∧ Reps K S vs ds ∧ spec ds g Kt ∧
  (∀ d g' v H' S', Kt (.val d) g' → Ext K T g S H g' S' H' → Rep K S' v d → Q v H') ∧ (∀ C g' H' S', Kt (.exc C) g' → Ext K T g S H g' S' H' → E (.ref C) none H')
/-- a def of the module by its name -/
structure Cal (P : Program) (w : World) (K : PySem.W.Frag) (mg : Str → Option Value) (base : Heap) (T : List (Addr × Str)) (k : Nat) (x : Str) (n : Nat) (spec : SpD) : Prop where
  ex : ∃ f fd ps, FnOk P w K mg base (L2N.CX P w) k f fd ps (spD K T n spec) ∧ mg x = some (.ref f) ∧ PySem.W.keepIn K (.ref f) = true ∧ Binds K fd ps []
/-- a method of the class at C -/
structure Mtd (P : Program) (w : World) (K : PySem.W.Frag) (mg : Str → Option Value) (base : Heap) (T : List (Addr × Str)) (k : Nat) (C : Addr) (m : Str) (n : Nat) (spec : SpD) : Prop where
  ex : ∃ f fd ps, FnOk P w K mg base (L2N.CX P w) k f fd ps (spD K T n spec) ∧ Meth K C m f ∧ Binds K fd ps []
  cl : Cls K C
/-- a class that is made by its name -/
structure Mak (P : Program) (w : World) (K : PySem.W.Frag) (mg : Str → Option Value) (base : Heap) (T : List (Addr × Str)) (k : Nat) (x : Str) (C : Addr) (n : Nat) (spec : SpD) : Prop where
  ex : ∃ f fd ps, FnOk P w K mg base (L2N.CX P w) k f fd ps (spD K T n spec) ∧ mg x = some (.ref C) ∧ Mk K C f ∧ Binds K fd ps []
abbrev Pas (X : Cx) (EX : XK) : Prop := Passes (L2N.CX X.prog X.w) X EX
def rCall (n : Nat) (spec : SpD) (RA : TrA) : Tr := fun env g Kt => RA env g (onA Kt fun ds g1 => ds.length = n ∧ spec ds g1 Kt)
theorem spD_mk {K : PySem.W.Frag} {g g1 : G} {S H S1 H1 : Hp} {n : Nat} {spec : SpD} {vs : List V} {ds : List D} {Kt : KR} {Q : VK} (e1 : Ext K T g S H g1 S1 H1) (r : Reps K S1 vs ds) (hn : ds.length = n) (hs : spec ds g1 Kt)
    (hv : ∀ d g' v H' S', Kt (.val d) g' → Ext K T g S H g' S' H' → Rep K S' v d → Q v H') (hx : ∀ C g' H' S', Kt (.exc C) g' → Ext K T g S H g' S' H' → EX (.ref C) none H') : spD K T n spec vs H1 Q EX :=
  ⟨g1, S1, ds, Kt, r.length.trans hn, e1.ok, r, hs, fun d g' v H' S' k e rr => hv d g' v H' S' k (e1.trans e) rr, fun C g' H' S' k e => hx C g' H' S' k (e1.trans e)⟩
theorem pm_call {j k n : Nat} {x : Str} {spec : SpD} {p pos : Pos} (c : Cal X.prog X.w X.K X.mg X.base T k x n spec) (hr : Room j X.A) (hk : k ≤ j) (hg : Gl X x) (hx0 : Pas X EX) (ha : PMA X T EX (a :: es) RA)
    (hd : (x == ("__debug__" : Str)) = false := by decide) (he : starEach (a :: es) X.env = (false, eval a X.env) :: starEach es X.env := by rfl) (hpl : (backTo pos (starEach es X.env)).any (·.1) = false := by rfl) :
    PM X T EX (.Call (.Name x p) (a :: es) [] pos) (rCall n spec RA) := by
  obtain ⟨f, fd, ps, F, hm, hkp, hb⟩ := c.ex
  refine ⟨fun {U σ H g S env Q Kt} h ok en hv hx => sem_of (pe_call (F.mono hk) hr hg hm hkp hb .nil hx0 pa_sem hd he hpl) ?_⟩
  refine ha.run h ok en (fun ds g1 vs H1 S1 k1 e1 r1 => ?_) (fun C g' H' S' k e => hx C g' H' S' k e)
  show spD X.K T n spec (vs ++ []) H1 Q EX
  rw [List.append_nil]
  exact spD_mk e1 r1 k1.1 k1.2 hv hx
theorem pm_call0 {j k : Nat} {x : Str} {spec : SpD} {p pos : Pos} (c : Cal X.prog X.w X.K X.mg X.base T k x 0 spec) (hr : Room j X.A) (hk : k ≤ j) (hg : Gl X x) (hx0 : Pas X EX)
    (hd : (x == ("__debug__" : Str)) = false := by decide) : PM X T EX (.Call (.Name x p) [] [] pos) (fun _ g Kt => spec [] g Kt) := by
  obtain ⟨f, fd, ps, F, hm, hkp, hb⟩ := c.ex
  refine ⟨fun {U σ H g S env Q Kt} h ok en hv hx => sem_of (pe_call0 (F.mono hk) hr hg hm hkp hb .nil hx0 hd) ?_⟩
  show spD X.K T 0 spec ([] ++ []) H Q EX
  exact spD_mk (Ext.refl ok) .nil rfl h hv hx
/-- no field of that name -/
def noFld (m : Str) (fs : List (Str × D)) : Prop := fs.lookup m = none
@[simp] theorem noFld_nil {m : Str} : noFld m [] := rfl
@[simp] theorem noFld_cons {m k : Str} {v : D} {fs : List (Str × D)} : noFld m ((k, v) :: fs) ↔ m ≠ k ∧ noFld m fs := by
  unfold noFld
  rw [List.lookup_cons]
  by_cases h : m = k
  · subst h; simp
  · rw [show (m == k) = false by simp [h]]
    exact ⟨fun z => ⟨h, z⟩, fun z => z.2⟩
def rMth (C : Addr) (m : Str) (n : Nat) (spec : SpD) (A : Tr) (RA : TrA) : Tr := fun env g Kt => A env g (onV Kt fun d g1 => ∃ a fs, d = .ref a ∧ g1.get a = some (.ins C fs) ∧ noFld m fs ∧
  RA env g1 (onA Kt fun ds g2 => ds.length + 1 = n ∧ spec (.ref a :: ds) g2 Kt))
theorem pm_meth {j k n : Nat} {C : Addr} {m : Str} {spec : SpD} {apos pos : Pos} {pl : Sem Bool} (c : Mtd X.prog X.w X.K X.mg X.base T k C m n spec) (hr : Room j X.A) (hk : k ≤ j) (hx0 : Pas X EX) (ho : PM X T EX o A1) (ha : PMA X T EX (a :: es) RA)
    (hst : starEach (a :: es) X.env = (false, eval a X.env) :: starEach es X.env := by rfl) (hpl : (backTo pos (starEach es X.env)).any (·.1) = false := by rfl)
    (ht : eval (.Call (.Attribute o m apos) (a :: es) [] pos) X.env = (do
      let ov ← eval o X.env
      standAt apos.atName
      let (f, first) ← holding [ov] (getMethod ov m pl)
      callWith pos f first (backTo pos (starEach (a :: es) X.env)) (backToKw pos (keywordEach [] X.env))) := by rfl) :
    PM X T EX (.Call (.Attribute o m apos) (a :: es) [] pos) (rMth C m n spec A1 RA) := by
  obtain ⟨f, fd, ps, F, hm, hb⟩ := c.ex
  refine ⟨fun {U σ H g S env Q Kt} h ok en hv hx => sem_of (pe_meth pe_sem c.cl hm (F.mono hk) hr hb .nil hx0 pa_sem hst hpl ht) ?_⟩
  refine ho.run h ok en (fun d0 g0 v0 H0 S0 k0 e0 r0 => ?_) (fun C g' H' S' k e => hx C g' H' S' k e)
  obtain ⟨p, fs, rfl, hg, hl, k0⟩ := k0
  cases r0
  obtain ⟨dx, vs, h1, h2⟩ := e0.ok.ins hg
  refine ⟨p, dx, vs, rfl, h1, h2.lookup_none hl, ?_⟩
  refine ha.run k0 e0.ok (en.ext e0) (fun ds g1 vs H1 S1 k1 e1 r1 => ?_) (fun C g' H' S' k e => hx C g' H' S' k (e0.trans e))
  show spD X.K T n spec (.ref p :: (vs ++ [])) H1 Q EX
  rw [List.append_nil]
  exact spD_mk (e0.trans e1) (.cons (.ref p) r1) (by simpa using k1.1) k1.2 hv hx
theorem pm_meth0 {j k n : Nat} {C : Addr} {m : Str} {spec : SpD} {apos pos : Pos} {pl : Sem Bool} (c : Mtd X.prog X.w X.K X.mg X.base T k C m n spec) (hr : Room j X.A) (hk : k ≤ j) (hx0 : Pas X EX) (ho : PM X T EX o A1)
    (ht : eval (.Call (.Attribute o m apos) [] [] pos) X.env = (do
      let ov ← eval o X.env
      standAt apos.atName
      let (f, first) ← holding [ov] (getMethod ov m pl)
      callWith pos f first (backTo pos (starEach [] X.env)) (backToKw pos (keywordEach [] X.env))) := by rfl) :
    PM X T EX (.Call (.Attribute o m apos) [] [] pos) (rMth C m n spec A1 rNil) := by
  obtain ⟨f, fd, ps, F, hm, hb⟩ := c.ex
  refine ⟨fun {U σ H g S env Q Kt} h ok en hv hx => sem_of (pe_meth0 pe_sem c.cl hm (F.mono hk) hr hb .nil hx0 ht) ?_⟩
  refine ho.run h ok en (fun d0 g0 v0 H0 S0 k0 e0 r0 => ?_) (fun C g' H' S' k e => hx C g' H' S' k e)
  obtain ⟨p, fs, rfl, hg, hl, k0⟩ := k0
  cases r0
  obtain ⟨dx, vs, h1, h2⟩ := e0.ok.ins hg
  refine ⟨p, dx, vs, rfl, h1, h2.lookup_none hl, ?_⟩
  show spD X.K T n spec (.ref p :: ([] ++ [])) H0 Q EX
  exact spD_mk e0 (.cons (.ref p) .nil) (by simpa using k0.1) k0.2 hv hx
/-- a new instance -/
theorem HOK.made {K : PySem.W.Frag} {g : G} {S H : Hp} (ok : HOK K T g S H) {x dx C : Addr} (h1 : H x = none) (h2 : H dx = none) (h3 : dx ≠ x) : Ext K T g S H (g.set x (.ins C [])) S (upd (upd H dx (.own x)) x (.ins C dx [])) := by
  have hd : ∀ b u, H b = some u → b ≠ dx := fun b u e => ne_of_none e h2
  have e0 : HOK K T g S (upd H dx (.own x)) := by
    refine ⟨fun b u e => ?_, fun b u e => ?_, ok.sep, ok.tab.ext fun b u e => by rw [upd_ne (hd b u e)]; exact e, ok.ntb⟩
    · rcases ok.sub b u e with z | ⟨z1, z2, od, z3⟩
      · exact .inl (by rw [upd_ne (hd _ _ z)]; exact z)
      · exact .inr ⟨z1, z2, od, by rw [upd_ne (hd _ _ z3)]; exact z3⟩
    · obtain ⟨ho, r, z⟩ := ok.obj b u e
      refine ⟨ho, r, ?_⟩
      rcases z with z | ⟨z1, z2, od, z3⟩
      · exact .inl (by rw [upd_ne (hd _ _ z)]; exact z)
      · exact .inr ⟨z1, z2, od, by rw [upd_ne (hd _ _ z3)]; exact z3⟩
  have e1 := e0.add (a := x) (o' := .ins C []) (ho' := .ins C dx []) (by rw [upd_ne (Ne.symm h3)]; exact h1) (.ins .nil)
  have old : ∀ b u, H b = some u → upd (upd H dx (.own x)) x (.ins C dx []) b = some u := fun b u e => by rw [upd_ne (ne_of_none e h1), upd_ne (hd b u e)]; exact e
  refine ⟨e1.ok, fun _ _ e => e, fun _ e => .inl e, fun b u e _ _ => old b u e, fun b u v e => old b _ e, Fre.old fun b u e nt => ⟨u, old b u e, nt⟩, fun b e => ?_, e1.gold, rfl, rfl⟩
  · rcases e1.gnew b e with z | z
    · exact .inl z
    · refine .inr ?_
      by_cases w : b = dx
      · subst w; exact .of h2
      · intro o e; exact z o (by rw [upd_ne w]; exact e)
def rMake (C : Addr) (n : Nat) (spec : SpD) (RA : TrA) : Tr := fun env g Kt => RA env g (onA Kt fun ds g1 => ds.length + 1 = n ∧ ∀ x, g1.get x = none → spec (.ref x :: ds) (g1.set x (.ins C [])) fun r g2 => match r with
  | .val d => d = .non ∧ Kt (.val (.ref x)) g2
  | .exc C => Kt (.exc C) g2)
theorem rep_non {K : PySem.W.Frag} {S : Hp} {v : V} (r : Rep K S v .non) : v = .non := by cases r; rfl
theorem pm_make {j k n : Nat} {x : Str} {C : Addr} {spec : SpD} {p pos : Pos} (c : Mak X.prog X.w X.K X.mg X.base T k x C n spec) (hr : Room j X.A) (hk : k + 1 ≤ j) (hg : Gl X x) (hx0 : Pas X EX) (ha : PMA X T EX (a :: es) RA)
    (hd : (x == ("__debug__" : Str)) = false := by decide) (he : starEach (a :: es) X.env = (false, eval a X.env) :: starEach es X.env := by rfl) (hpl : (backTo pos (starEach es X.env)).any (·.1) = false := by rfl) :
    PM X T EX (.Call (.Name x p) (a :: es) [] pos) (rMake C n spec RA) := by
  obtain ⟨f, fd, ps, F, hm, hM, hb⟩ := c.ex
  refine ⟨fun {U σ H g S env Q Kt} h ok en hv hx => sem_of (pe_make hM F (hr.mono hk) hg hm hb .nil hx0 pa_sem hd he hpl) ?_⟩
  refine ha.run h ok en (fun ds g1 vs H1 S1 k1 e1 r1 => ?_) (fun C g' H' S' k e => hx C g' H' S' k e)
  intro y dy ny ndy ne
  show spD X.K T n spec (.ref y :: (vs ++ [])) _ _ EX
  rw [List.append_nil]
  have e2 := e1.ok.made (C := C) ny ndy ne
  refine spD_mk (e1.trans e2) (.cons (.ref y) r1) (by simpa using k1.1) (k1.2 y (e1.ok.freeG ny)) (fun d g' v H' S' k e r => ?_) hx
  obtain ⟨rfl, k⟩ := k
  exact ⟨rep_non r, hv _ g' _ H' S' k e (.ref y)⟩
theorem pm_make0 {j k : Nat} {x : Str} {C : Addr} {spec : SpD} {p pos : Pos} (c : Mak X.prog X.w X.K X.mg X.base T k x C 1 spec) (hr : Room j X.A) (hk : k + 1 ≤ j) (hg : Gl X x) (hx0 : Pas X EX)
    (hd : (x == ("__debug__" : Str)) = false := by decide) : PM X T EX (.Call (.Name x p) [] [] pos) (rMake C 1 spec rNil) := by
  obtain ⟨f, fd, ps, F, hm, hM, hb⟩ := c.ex
  refine ⟨fun {U σ H g S env Q Kt} h ok en hv hx => sem_of (pe_make0 hM F (hr.mono hk) hg hm hb .nil hx0 hd) ?_⟩
  intro y dy ny ndy ne
  show spD X.K T 1 spec (.ref y :: ([] ++ [])) _ _ EX
  have e2 := ok.made (C := C) ny ndy ne
  refine spD_mk e2 (.cons (.ref y) .nil) rfl (h.2 y (ok.freeG ny)) (fun d g' v H' S' k e r => ?_) hx
  obtain ⟨rfl, k⟩ := k
  exact ⟨rep_non r, hv _ g' _ H' S' k e (.ref y)⟩
/-! {} as a value: a new object -/
def rDNew : Tr := fun _ g Kt => ∀ p, g.get p = none → Kt (.val (.ref p)) (g.set p (.dct []))
theorem pm_dnew {pos : Pos} : PM X T EX (.Dict [] [] pos) rDNew := by
  refine ⟨fun {U σ H g S env Q Kt} h ok en hv hx => sem_of pe_dnewK ?_⟩
  intro p hp
  exact hv _ _ _ _ S (h p (ok.freeG hp)) (ok.add hp (.dct .nil)) (.ref p)
/-! d.pop(k), d.pop(k, None), changes the object at a -/
def rPop1 (A1 A2 : Tr) : Tr := fun env g Kt => A1 env g (onV Kt fun d g1 => ∃ a kvs1, d = .ref a ∧ g1.get a = some (.dct kvs1) ∧ A2 env g1 (onV Kt fun k g2 => ∃ kvs key v, g2.get a = some (.dct kvs) ∧ g2.lk a = false ∧ keyOf k = some key ∧ dfind kvs key = some v ∧ Kt (.val v) (g2.set a (.dct (ddrop kvs key)))))
theorem isD_of {K : PySem.W.Frag} {g : G} {S H : Hp} (ok : HOK K T g S H) {a : Addr} {kvs : List (Key × D)} (h : g.get a = some (.dct kvs)) : IsD H a := by
  obtain ⟨p, vs, e, h1, _⟩ := asDict_rep (d := .ref a) (kvs := kvs) ok (Rep.ref a) (by simp [asDict, h])
  cases e
  exact .inl ⟨vs, h1⟩
theorem pm_pop1 {apos pos : Pos} (m : M1 X o "pop" apos a pos) (ho : PM X T EX o A1) (ha : PM X T EX a A2) : PM X T EX (.Call (.Attribute o "pop" apos) [a] [] pos) (rPop1 A1 A2) := by
  refine ⟨fun {U σ H g S env Q Kt} h ok en hv hx => sem_of (pe_dpop1 pe_sem pe_sem m) ?_⟩
  refine ho.run h ok en (fun d1 g1 v1 H1 S1 k1 e1 r1 => ?_) (fun C g' H' S' k e => hx C g' H' S' k e)
  obtain ⟨p, kvs1, rfl, h1, k1⟩ := k1
  cases r1
  refine ⟨p, rfl, isD_of e1.ok h1, ?_⟩
  refine ha.run k1 e1.ok (en.ext e1) (fun d2 g2 v2 H2 S2 k2 e2 r2 => ?_) (fun C g' H' S' k e => hx C g' H' S' k (e1.trans e))
  obtain ⟨kvs, key, v, h2, hl, h3, h4, k⟩ := k2
  obtain ⟨vs, h5, h6⟩ := e2.ok.dctF h2 hl
  obtain ⟨y, h7, h8⟩ := h6.find_some h4
  have e3 := e2.ok.set (o' := .dct (ddrop kvs key)) (ho' := .dK (dropK vs key)) h2 h5 (.dct h6) (fun _ _ z => by cases z) (.dct (h6.drop (k := key)))
  exact ⟨vs, key, y, h5, keyOf_rep r2 h3, h7, hv v _ y _ S2 k ((e1.trans e2).trans e3) h8⟩
def rPop2 (A1 A2 A3 : Tr) : Tr := fun env g Kt => A1 env g (onV Kt fun d g1 => ∃ a kvs1, d = .ref a ∧ g1.get a = some (.dct kvs1) ∧ A2 env g1 (onV Kt fun k g2 => A3 env g2 (onV Kt fun x g3 => ∃ kvs key, g3.get a = some (.dct kvs) ∧ g3.lk a = false ∧ keyOf k = some key ∧
  (∀ v, dfind kvs key = some v → Kt (.val v) (g3.set a (.dct (ddrop kvs key)))) ∧ (dfind kvs key = none → Kt (.val x) g3))))
theorem pm_pop2 {apos pos : Pos} (m : M2 X o "pop" apos a b pos) (ho : PM X T EX o A1) (ha : PM X T EX a A2) (hb : PM X T EX b A3) : PM X T EX (.Call (.Attribute o "pop" apos) [a, b] [] pos) (rPop2 A1 A2 A3) := by
  refine ⟨fun {U σ H g S env Q Kt} h ok en hv hx => sem_of (pe_dpop2 pe_sem pe_sem pe_sem m) ?_⟩
  refine ho.run h ok en (fun d1 g1 v1 H1 S1 k1 e1 r1 => ?_) (fun C g' H' S' k e => hx C g' H' S' k e)
  obtain ⟨p, kvs1, rfl, h1, k1⟩ := k1
  cases r1
  refine ⟨p, rfl, isD_of e1.ok h1, ?_⟩
  refine ha.run k1 e1.ok (en.ext e1) (fun d2 g2 v2 H2 S2 k2 e2 r2 => ?_) (fun C g' H' S' k e => hx C g' H' S' k (e1.trans e))
  refine hb.run k2 e2.ok (en.ext (e1.trans e2)) (fun d3 g3 v3 H3 S3 k3 e3 r3 => ?_) (fun C g' H' S' k e => hx C g' H' S' k ((e1.trans e2).trans e))
  obtain ⟨kvs, key, h2, hl, h3, h4, k⟩ := k3
  obtain ⟨vs, h5, h6⟩ := e3.ok.dctF h2 hl
  have e4 := e3.ok.set (o' := .dct (ddrop kvs key)) (ho' := .dK (dropK vs key)) h2 h5 (.dct h6) (fun _ _ z => by cases z) (.dct (h6.drop (k := key)))
  refine ⟨vs, key, h5, keyOf_rep (r2.mono e3.mono) h3, fun v q => ?_, fun q => ?_⟩
  · cases w : dfind kvs key with
    | none => rw [h6.find_none w] at q; cases q
    | some x =>
      obtain ⟨y, h7, h8⟩ := h6.find_some w
      rw [h7] at q; cases q
      exact hv x _ v _ S3 (h4 x w) (((e1.trans e2).trans e3).trans e4) h8
  · cases w : dfind kvs key with
    | none => exact hv d3 g3 v3 H3 S3 (k w) ((e1.trans e2).trans e3) r3
    | some x =>
      obtain ⟨y, h7, h8⟩ := h6.find_some w
      rw [h7] at q; cases q
def rGet2 (A1 A2 A3 : Tr) : Tr := fun env g Kt => A1 env g (onV Kt fun d g1 => ∃ kvs1, asDict g1 d = some kvs1 ∧ A2 env g1 (onV Kt fun k g2 => A3 env g2 (onV Kt fun x g3 => ∃ kvs key, asDict g3 d = some kvs ∧ keyOf k = some key ∧ Kt (.val ((dfind kvs key).getD x)) g3)))
theorem pm_get2 {apos pos : Pos} (hu : X.A.units + 1 < cLine) (m : M2 X o "get" apos a b pos) (ho : PM X T EX o A1) (ha : PM X T EX a A2) (hb : PM X T EX b A3) : PM X T EX (.Call (.Attribute o "get" apos) [a, b] [] pos) (rGet2 A1 A2 A3) := by
  refine ⟨fun {U σ H g S env Q Kt} h ok en hv hx => sem_of (pe_dget2 hu pe_sem pe_sem pe_sem m) ?_⟩
  refine ho.run h ok en (fun d1 g1 v1 H1 S1 k1 e1 r1 => ?_) (fun C g' H' S' k e => hx C g' H' S' k e)
  obtain ⟨kvs1, h1, k1⟩ := k1
  obtain ⟨p, vs1, rfl, h1', _⟩ := asDict_rep e1.ok r1 h1
  refine ⟨p, rfl, .inl ⟨vs1, h1'⟩, ?_⟩
  refine ha.run k1 e1.ok (en.ext e1) (fun d2 g2 v2 H2 S2 k2 e2 r2 => ?_) (fun C g' H' S' k e => hx C g' H' S' k (e1.trans e))
  refine hb.run k2 e2.ok (en.ext (e1.trans e2)) (fun d3 g3 v3 H3 S3 k3 e3 r3 => ?_) (fun C g' H' S' k e => hx C g' H' S' k ((e1.trans e2).trans e))
  obtain ⟨kvs, key, h2, h3, k⟩ := k3
  obtain ⟨q, vs, e, h5, h6⟩ := asDict_rep e3.ok (r1.mono (e2.trans e3).mono) h2
  cases e
  refine ⟨valV vs key, .inl ⟨vs, key, h5, keyOf_rep (r2.mono e3.mono) h3, rfl⟩, ?_⟩
  cases w : dfind kvs key with
  | none =>
    rw [w] at k
    rw [h6.find_none w]
    exact hv d3 g3 v3 H3 S3 k ((e1.trans e2).trans e3) r3
  | some x =>
    rw [w] at k
    obtain ⟨y, h7, h8⟩ := h6.find_some w
    rw [h7]
    exact hv x g3 y H3 S3 k ((e1.trans e2).trans e3) h8
/-! lists joined -/
def rCatD (A1 A2 : Tr) : Tr := fun env g Kt => A1 env g (onV Kt fun d1 g1 => A2 env g1 (onV Kt fun d2 g2 => ∃ xs ys, d1 = .lst xs ∧ d2 = .lst ys ∧ (∀ a, g2.tl a = false) ∧ xs.length + ys.length ≤ 100000 ∧ Kt (.val (.lst (xs ++ ys))) g2))
theorem pm_cat {pos : Pos} (ha : PM X T EX a A1) (hb : PM X T EX b A2) : PM X T EX (.BinOp a .Add b pos) (rCatD A1 A2) := by
  refine ⟨fun {U σ H g S env Q Kt} h ok en hv hx => sem_of (pe_op op_cat pe_sem pe_sem) ?_⟩
  refine ha.run h ok en (fun d1 g1 v1 H1 S1 k1 e1 r1 => ?_) (fun C g' H' S' k e => hx C g' H' S' k e)
  refine hb.run k1 e1.ok (en.ext e1) (fun d2 g2 v2 H2 S2 k2 e2 r2 => ?_) (fun C g' H' S' k e => hx C g' H' S' k (e1.trans e))
  obtain ⟨xs, ys, rfl, rfl, ht, hl, k⟩ := k2
  cases r1 with
  | @lst a1 vs1 _ s1 q1 =>
    cases r2 with
    | @lst a2 vs2 _ s2 q2 =>
      have q1' := q1.mono e2.mono
      refine ⟨a1, a2, vs1, vs2, rfl, rfl, e2.ok.lst_at (ht _) (e2.mono _ _ s1), e2.ok.lst_at (ht _) s2, sz (by rw [q1.length, q2.length]; exact hl), fun p hp => ?_⟩
      have e3 := e2.ok.new (o := .lst (vs1 ++ vs2)) hp (fun ps z => by cases z)
      exact hv _ g2 _ _ _ k ((e1.trans e2).trans e3) (.lst upd_same ((q1'.mono e3.mono).append (q2.mono e3.mono)))
/-! lists joined: a list in S is not frozen -/
theorem HOK.lst_is {K : PySem.W.Frag} {g : G} {S H : Hp} (ok : HOK K T g S H) {a : Addr} {vs : List V} (h : S a = some (.lst vs)) : H a = some (.lst vs) := by
  rcases ok.sub _ _ h with e | ⟨_, ⟨_, z⟩, _⟩
  · exact e
  · cases z
def rCatW (A1 A2 : Tr) : Tr := fun env g Kt => A1 env g (onV Kt fun d1 g1 => A2 env g1 (onV Kt fun d2 g2 => ∃ xs ys, d1 = .lst xs ∧ d2 = .lst ys ∧ xs.length + ys.length ≤ 100000 ∧ Kt (.val (.lst (xs ++ ys))) g2))
theorem pm_catW {pos : Pos} (ha : PM X T EX a A1) (hb : PM X T EX b A2) : PM X T EX (.BinOp a .Add b pos) (rCatW A1 A2) := by
  refine ⟨fun {U σ H g S env Q Kt} h ok en hv hx => sem_of (pe_op op_cat pe_sem pe_sem) ?_⟩
  refine ha.run h ok en (fun d1 g1 v1 H1 S1 k1 e1 r1 => ?_) (fun C g' H' S' k e => hx C g' H' S' k e)
  refine hb.run k1 e1.ok (en.ext e1) (fun d2 g2 v2 H2 S2 k2 e2 r2 => ?_) (fun C g' H' S' k e => hx C g' H' S' k (e1.trans e))
  obtain ⟨xs, ys, rfl, rfl, hl, k⟩ := k2
  cases r1 with
  | @lst a1 vs1 _ s1 q1 =>
    cases r2 with
    | @lst a2 vs2 _ s2 q2 =>
      have q1' := q1.mono e2.mono
      refine ⟨a1, a2, vs1, vs2, rfl, rfl, e2.ok.lst_is (e2.mono _ _ s1), e2.ok.lst_is s2, sz (by rw [q1.length, q2.length]; exact hl), fun p hp => ?_⟩
      have e3 := e2.ok.new (o := .lst (vs1 ++ vs2)) hp (fun ps z => by cases z)
      exact hv _ g2 _ _ _ k ((e1.trans e2).trans e3) (.lst upd_same ((q1'.mono e3.mono).append (q2.mono e3.mono)))
end
end DL

set_option Elab.async false
set_option linter.all false
set_option maxRecDepth 100000
set_option maxHeartbeats 2000000
set_option autoImplicit false
/-! DL5: own objects, locks, paths, comprehensions. -/
namespace DL
open PySem PySem.Spec L2
section
variable {K : PySem.W.Frag} {T : List (Addr × Str)} {g g' : G} {S H S' H' : Hp}
/-! an object of one's own, outside S and g -/
theorem HOK.lay (ok : HOK K T g S H) {p : Addr} {o : HO} (hp : H p = none) : Ext K T g S H g S (upd H p o) := by
  have hm : ∀ a u, H a = some u → upd H p o a = some u := fun a u q => by rw [upd_ne (ne_of_none q hp)]; exact q
  refine ⟨⟨fun a u q => ?_, fun a u q => ?_, ok.sep, ok.tab.ext hm, ok.ntb⟩, fun _ _ e => e, fun _ e => .inl e, fun a u q _ _ => hm a u q, fun a u v q => hm a _ q, Fre.old fun a u q n => ⟨u, hm a u q, n⟩, fun a q => .inl q, fun a q => q, rfl, rfl⟩
  · rcases ok.sub a u q with z | ⟨z1, z2, od, z3⟩
    · exact .inl (hm _ _ z)
    · exact .inr ⟨z1, z2, od, hm _ _ z3⟩
  · obtain ⟨ho, r, z⟩ := ok.obj a u q
    refine ⟨ho, r, ?_⟩
    rcases z with z | ⟨z1, z2, od, z3⟩
    · exact .inl (hm _ _ z)
    · exact .inr ⟨z1, z2, od, hm _ _ z3⟩
theorem Ext.own (e : Ext K T g S H g' S' H') {p : Addr} {o ho : HO} (hp : Fre H p) (sp : S' p = none) (gp : g'.get p = none) (hh : H' p = some ho) (n1 : ∀ ps, ho ≠ .tbl ps) (n2 : ∀ φ, ho ≠ .ext φ) : Ext K T g S H g' S' (upd H' p o) := by
  have old : ∀ a u, H a = some u → (∀ ps, u ≠ .tbl ps) → a ≠ p := fun a u q n z => by subst z; exact (hp.no q n).elim
  refine ⟨⟨fun a u q => ?_, fun a u q => ?_, e.ok.sep, tabs_upd e.ok.tab hh n1 n2, e.ok.ntb⟩, e.mono, e.new, fun a u q n t => ?_, fun a u v q => ?_, fun a q => ?_, e.gnew, e.gold, e.lk, e.tl⟩
  · have z : a ≠ p := fun z => by subst z; rw [sp] at q; cases q
    rw [upd_ne z]; exact e.ok.sub a u q
  · have z : a ≠ p := fun z => by subst z; rw [gp] at q; cases q
    rw [upd_ne z]; exact e.ok.obj a u q
  · rw [upd_ne (old a u q t)]; exact e.fr a u q n t
  · rw [upd_ne (old a _ q (fun _ z => by cases z))]; exact e.frz a u v q
  · by_cases z : a = p
    · subst z; exact hp
    · exact e.there a fun o w => q o (by rw [upd_ne z]; exact w)
theorem Ext.freeze (e : Ext K T g S H g' S' H') {p : Addr} {ho : HO} (hp : Fre H p) (sp : S' p = none) (gp : g'.get p = none) (hh : H' p = some ho) (n1 : ∀ ps, ho ≠ .tbl ps) : Ext K T g S H g' (upd S' p ho) H' := by
  have sm : ∀ a u, S' a = some u → upd S' p ho a = some u := fun a u q => by rw [upd_ne (ne_of_none q sp)]; exact q
  refine ⟨⟨fun a u q => ?_, fun a u q => ?_, fun a u q => ?_, e.ok.tab, fun a ps q => ?_⟩, fun a u q => sm a u (e.mono a u q), fun a q => ?_, e.fr, e.frz, e.there, e.gnew, e.gold, e.lk, e.tl⟩
  · by_cases z : a = p
    · subst z; rw [upd_same] at q; rw [← q]; exact .inl hh
    · rw [upd_ne z] at q; exact e.ok.sub a u q
  · obtain ⟨h1, r, z⟩ := e.ok.obj a u q
    exact ⟨h1, r.mono sm, z⟩
  · have z : a ≠ p := fun z => by subst z; rw [gp] at q; cases q
    rw [upd_ne z]; exact e.ok.sep a u q
  · by_cases z : a = p
    · subst z; rw [upd_same] at q; exact n1 ps (Option.some.inj q)
    · rw [upd_ne z] at q; exact e.ok.ntb a ps q
  · by_cases z : a = p
    · subst z; exact .inr hp
    · rw [upd_ne z] at q; exact e.new a q
/-- what is one's own stays so -/
theorem Ext.mine (e : Ext K T g S H g' S' H') {p : Addr} {ho : HO} (sp : S p = none) (gp : g.get p = none) (hh : H p = some ho) (n1 : ∀ ps, ho ≠ .tbl ps) : S' p = none ∧ g'.get p = none ∧ H' p = some ho := by
  refine ⟨?_, ?_, e.fr p ho hh gp n1⟩
  · cases z : S' p with
    | none => rfl
    | some u =>
      rcases e.new p (by rw [z]; simp) with w | w
      · exact absurd sp w
      · exact (w.no hh n1).elim
  · cases z : g'.get p with
    | none => rfl
    | some u =>
      rcases e.gnew p (by rw [z]; simp) with w | w
      · exact absurd gp w
      · exact (w.no hh n1).elim

/-! locks -/
def G.lock (g : G) (d : Addr) : G := { g with lk := fun b => if b = d then true else g.lk b }
def G.tlock (g : G) (d : Addr) : G := { g with tl := fun b => if b = d then true else g.tl b }
@[simp] theorem G.lock_get {g : G} {d : Addr} : (g.lock d).get = g.get := rfl
@[simp] theorem G.tlock_get {g : G} {d : Addr} : (g.tlock d).get = g.get := rfl
theorem HOK.lock (ok : HOK K T g S H) {d : Addr} {kvs : List (Key × D)} {vs : List (Key × V)} {od : Obj} (h : g.get d = some (.dct kvs)) (hh : H d = some (.dK vs)) (r : RepK K S vs kvs) : HOK K T (g.lock d) S (upd H d (.frz od (.dK vs))) := by
  refine ⟨fun a u q => ?_, fun a u q => ?_, ok.sep, tabs_upd ok.tab hh (fun _ z => by cases z) (fun _ z => by cases z), ok.ntb⟩
  · have z : a ≠ d := fun z => by subst z; rw [ok.sep _ _ h] at q; cases q
    rw [upd_ne z]; exact ok.sub a u q
  · by_cases z : a = d
    · subst z
      have q' : g.get a = some u := q
      rw [h] at q'; cases q'
      exact ⟨_, .dct r, .inr ⟨by simp [G.lock], ⟨_, rfl⟩, od, upd_same⟩⟩
    · rw [upd_ne z]
      obtain ⟨h1, r1, z1⟩ := ok.obj a u q
      refine ⟨h1, r1, ?_⟩
      rcases z1 with z1 | ⟨z1, z2⟩
      · exact .inl z1
      · exact .inr ⟨by simp [G.lock, z, z1], z2⟩
theorem HOK.unlock (ok : HOK K T g S H) {d : Addr} {kvs : List (Key × D)} {vs : List (Key × V)} {od : Obj} (h : g.get d = some (.dct kvs)) (hl : g.lk d = false) (hh : H d = some (.dK vs)) (r : RepK K S vs kvs)
    (e : Ext K T (g.lock d) S (upd H d (.frz od (.dK vs))) (g.lock d) S' H') : H' d = some (.frz od (.dK vs)) ∧ Ext K T g S H g S' (upd H' d (.dK vs)) := by
  have hd : H' d = some (.frz od (.dK vs)) := e.frz d od _ upd_same
  have old : ∀ a u, H a = some u → g.get a = none → (∀ ps, u ≠ .tbl ps) → upd H' d (.dK vs) a = some u := fun a u q n t => by
    have z : a ≠ d := fun z => by subst z; rw [h] at n; cases n
    rw [upd_ne z]
    exact e.fr a u (by rw [upd_ne z]; exact q) n t
  refine ⟨hd, ⟨fun a u q => ?_, fun a u q => ?_, e.ok.sep, tabs_upd e.ok.tab hd (fun _ z => by cases z) (fun _ z => by cases z), e.ok.ntb⟩, e.mono, fun a q => ?_, old, fun a u v q => ?_, fun a q => ?_, fun a q => .inl q, fun a q => q, rfl, rfl⟩
  · have z : a ≠ d := fun z => by subst z; rw [e.ok.sep _ _ h] at q; cases q
    rw [upd_ne z]; exact e.ok.sub a u q
  · by_cases z : a = d
    · subst z
      rw [h] at q; cases q
      exact ⟨_, .dct (r.mono e.mono), .inl upd_same⟩
    · rw [upd_ne z]
      obtain ⟨h1, r1, z1⟩ := e.ok.obj a u q
      refine ⟨h1, r1, ?_⟩
      rcases z1 with z1 | ⟨z1, z2⟩
      · exact .inl z1
      · exact .inr ⟨by simpa [G.lock, z] using z1, z2⟩
  · rcases e.new a q with w | w
    · exact .inl w
    · refine .inr fun o q2 => ?_
      by_cases z : a = d
      · subst z; exact (w.no upd_same (fun _ z => by cases z)).elim
      · exact w o (by rw [upd_ne z]; exact q2)
  · have z : a ≠ d := fun z => by subst z; rw [hh] at q; cases q
    rw [upd_ne z]; exact e.frz a u v (by rw [upd_ne z]; exact q)
  · by_cases z : a = d
    · subst z; exact (q.no upd_same (fun _ z => by cases z)).elim
    · intro o w
      exact e.there a (fun o' w' => q o' (by rw [upd_ne z]; exact w')) o (by rw [upd_ne z]; exact w)
theorem HOK.tlock (ok : HOK K T g S H) {d : Addr} {vs : List (Key × V)} {od : Obj} (h : S d = some (.dK vs)) (hh : H d = some (.dK vs)) : HOK K T (g.tlock d) S (upd H d (.frz od (.dK vs))) := by
  refine ⟨fun a u q => ?_, fun a u q => ?_, ok.sep, tabs_upd ok.tab hh (fun _ z => by cases z) (fun _ z => by cases z), ok.ntb⟩
  · by_cases z : a = d
    · subst z
      rw [h] at q; cases q
      exact .inr ⟨by simp [G.tlock], ⟨_, rfl⟩, od, upd_same⟩
    · rw [upd_ne z]
      rcases ok.sub a u q with w | ⟨w1, w2⟩
      · exact .inl w
      · exact .inr ⟨by simp [G.tlock, z, w1], w2⟩
  · have z : a ≠ d := fun z => by subst z; rw [ok.sep _ _ q] at h; cases h
    rw [upd_ne z]; exact ok.obj a u q
theorem HOK.untlock (ok : HOK K T g S H) {d : Addr} {vs : List (Key × V)} {od : Obj} (h : S d = some (.dK vs)) (hl : g.tl d = false) (hh : H d = some (.dK vs))
    (e : Ext K T (g.tlock d) S (upd H d (.frz od (.dK vs))) (g.tlock d) S' H') : H' d = some (.frz od (.dK vs)) ∧ Ext K T g S H g S' (upd H' d (.dK vs)) := by
  have hd : H' d = some (.frz od (.dK vs)) := e.frz d od _ upd_same
  have gd : g.get d = none := by
    cases q : g.get d with
    | none => rfl
    | some u => rw [ok.sep _ _ q] at h; cases h
  refine ⟨hd, ⟨fun a u q => ?_, fun a u q => ?_, e.ok.sep, tabs_upd e.ok.tab hd (fun _ z => by cases z) (fun _ z => by cases z), e.ok.ntb⟩, e.mono, fun a q => ?_, fun a u q n t => ?_, fun a u v q => ?_, fun a q => ?_, fun a q => .inl q, fun a q => q, rfl, rfl⟩
  · by_cases z : a = d
    · subst z
      rw [e.mono _ _ h] at q
      rw [upd_same, ← q]
      exact .inl rfl
    · rw [upd_ne z]
      rcases e.ok.sub a u q with w | ⟨w1, w2⟩
      · exact .inl w
      · exact .inr ⟨by simpa [G.tlock, z] using w1, w2⟩
  · have z : a ≠ d := fun z => by subst z; rw [show g.get a = some u from q] at gd; cases gd
    rw [upd_ne z]; exact e.ok.obj a u q
  · rcases e.new a q with w | w
    · exact .inl w
    · refine .inr fun o q2 => ?_
      by_cases z : a = d
      · subst z; exact (w.no upd_same (fun _ z => by cases z)).elim
      · exact w o (by rw [upd_ne z]; exact q2)
  · by_cases z : a = d
    · subst z; rw [hh] at q; cases q; exact upd_same
    · rw [upd_ne z]; exact e.fr a u (by rw [upd_ne z]; exact q) n t
  · have z : a ≠ d := fun z => by subst z; rw [hh] at q; cases q
    rw [upd_ne z]; exact e.frz a u v (by rw [upd_ne z]; exact q)
  · by_cases z : a = d
    · subst z; exact (q.no upd_same (fun _ z => by cases z)).elim
    · intro o w
      exact e.there a (fun o' w' => q o' (by rw [upd_ne z]; exact w')) o (by rw [upd_ne z]; exact w)
end

/-! paths: expressions that only look -/
abbrev PF := Env' → (Addr → Option MO) → Option D
structure PP (X : Cx) (T : List (Addr × Str)) (e : Expr) (p : PF) : Prop where
  run : ∀ {U : Addr → Prop} {σ : St} {H : Hp} {g : G} {S : Hp} {env : Env'} {Q : VK} {d : D}, p env g.get = some d → HOK X.K T g S H → EnvOk X.K U g S H env σ → (∀ v, Rep X.K S v d → Q v H) → TSem X e σ H Q
section
variable {X : Cx} {T : List (Addr × Str)} {EX : XK} {e a b c o : Expr} {p p2 : PF}
def fVar (i : Nat) : PF := fun env _ => match env[i]? with
  | some (.dat d) => some d
  | _ => none
theorem pp_var (i : Nat) {x : Str} {pos : Pos} (hN : X.N[i]? = some x := by rfl) (hv : Vis X.env.scope x := by first | exact Or.inl rfl | exact Or.inr (Or.inl rfl) | exact Or.inr (Or.inr rfl)) (hd : (x == ("__debug__" : Str)) = false := by decide)
    (hcd : (x == ("__classdict__" : Str)) = false := by decide) : PP X T (.Name x pos) (fVar i) := by
  refine ⟨fun {U σ H g S env Q d} h ok en hv' => sem_of (pe_var hN hv hd hcd) ?_⟩
  have h1 : env[i]? = some (.dat d) := by
    unfold fVar at h
    split at h
    · rename_i z; cases h; exact z
    · cases h
  obtain ⟨v, e1, e2⟩ := en.dat i d h1
  exact ⟨v, e1, hv' v e2⟩
def fFld (C0 : Addr) (f : Str) (p : PF) : PF := fun env g => (p env g).bind fun d => match d with
  | .ref a => match g a with
    | some (.ins C fs) => if C = C0 then fs.lookup f else none
    | _ => none
  | _ => none
theorem pp_fld {C0 : Addr} {f : Str} {pos : Pos} (at_ : At X.K C0 f) (ha : PP X T a p) (hb : attributeBase a f X.env (eval a X.env) = eval a X.env := by rfl) : PP X T (.Attribute a f pos) (fFld C0 f p) := by
  refine ⟨fun {U σ H g S env Q d} h ok en hv => sem_of (pe_fld pe_sem hb) ?_⟩
  obtain ⟨d0, h0, h1⟩ := Option.bind_eq_some_iff.mp h
  refine ha.run h0 ok en fun v r => ?_
  cases d0 with
  | ref a =>
    cases r
    simp only at h1
    split at h1
    · rename_i C fs hg
      split at h1
      · rename_i hC
        subst hC
        obtain ⟨dx, vs, h2, h3⟩ := ok.ins hg
        obtain ⟨y, h4, h5⟩ := h3.lookup h1
        exact ⟨a, C, dx, vs, y, rfl, h2, at_.cl, at_.no, h4, hv y h5⟩
      · cases h1
    · cases h1
  | _ => cases h1
def fKey (k : D) : PF := fun _ _ => some k
theorem pp_str {x j pos} : PP X T (.Constant (.str x) j pos) (fKey (.str x)) := ⟨fun {U σ H g S env Q d} h ok en hv => sem_of pe_str (by cases h; exact hv _ (.str x))⟩
theorem pp_int {x j pos} : PP X T (.Constant (.int x) j pos) (fKey (.int x)) := ⟨fun {U σ H g S env Q d} h ok en hv => sem_of pe_int (by cases h; exact hv _ (.int x))⟩
def asDictG (g : Addr → Option MO) (d : D) : Option (List (Key × D)) := match d with
  | .dct kvs => some kvs
  | .ref a => match g a with
    | some (.dct kvs) => some kvs
    | _ => none
  | _ => none
theorem asDictG_eq (g : G) (d : D) : asDictG g.get d = asDict g d := by cases d <;> rfl
def fGet (p p2 : PF) : PF := fun env g => (p env g).bind fun d => (p2 env g).bind fun k => (asDictG g d).bind fun kvs => (keyOf k).bind fun k => dfind kvs k
theorem pp_dget {pos : Pos} (hu : X.A.units + 1 < cLine) (ha : PP X T o p) (hb : PP X T a p2) (hs : NoSl a) : PP X T (.Subscript o a pos) (fGet p p2) := by
  refine ⟨fun {U σ H g S env Q d} h ok en hv => sem_of (pe_dget hu pe_sem pe_sem hs) ?_⟩
  obtain ⟨d1, h1, h⟩ := Option.bind_eq_some_iff.mp h
  obtain ⟨d2, h2, h⟩ := Option.bind_eq_some_iff.mp h
  obtain ⟨kvs, h3, h⟩ := Option.bind_eq_some_iff.mp h
  obtain ⟨key, h4, h5⟩ := Option.bind_eq_some_iff.mp h
  rw [asDictG_eq] at h3
  refine ha.run h1 ok en fun v1 r1 => hb.run h2 ok en fun v2 r2 => ?_
  obtain ⟨q, vs, rfl, h6, h7⟩ := asDict_rep ok r1 h3
  obtain ⟨y, h8, h9⟩ := h7.find_some h5
  exact ⟨q, y, rfl, .inl ⟨vs, key, h6, keyOf_rep r2 h4, h8.symm⟩, hv y h9⟩
theorem pm_path (h : PP X T e p) : PM X T EX e (fun env g Kt => ∃ d, p env g.get = some d ∧ Kt (.val d) g) := by
  refine ⟨fun {U σ H g S env Q Kt} ⟨d, h1, h2⟩ ok en hv hx => h.run h1 ok en fun v r => hv d g v H S h2 (Ext.refl ok) r⟩
end

/-! slots -/
section
variable {K : PySem.W.Frag} {T : List (Addr × Str)} {U : Addr → Prop} {g : G} {S H : Hp} {env : Env'} {σ : St}
theorem EnvOk.dat' (n : EnvOk K U g S H env σ) (i : Nat) {v : V} {d : D} (r : Rep K S v d) : EnvOk K U g S H (env.set i (.dat d)) (σ.set i (some v)) := by
  refine ⟨by simp [n.len], fun j d' q => ?_, fun j o q => ?_⟩
  · by_cases h : j = i
    · subst h
      have hl : j < env.length := by
        have := (List.getElem?_eq_some_iff.mp q).1
        simpa using this
      rw [List.getElem?_set_self hl] at q
      cases q
      exact ⟨v, List.getElem?_set_self (by rw [n.len]; exact hl), r⟩
    · rw [List.getElem?_set_ne (Ne.symm h)] at q ⊢
      exact n.dat j d' q
  · by_cases h : j = i
    · subst h
      have hl : j < env.length := by
        have := (List.getElem?_eq_some_iff.mp q).1
        simpa using this
      rw [List.getElem?_set_self hl] at q
      cases q
    · rw [List.getElem?_set_ne (Ne.symm h)] at q
      obtain ⟨p, ho, h1, h2, h3, h4, h5, h6, h7⟩ := n.own j o q
      refine ⟨p, ho, by rw [List.getElem?_set_ne (Ne.symm h)]; exact h1, h2, h3, h4, h5, h6, fun k o' q1 q2 => ?_⟩
      by_cases hk : k = i
      · subst hk
        have hl : k < env.length := by
          have := (List.getElem?_eq_some_iff.mp q1).1
          simpa using this
        rw [List.getElem?_set_self hl] at q1; cases q1
      · rw [List.getElem?_set_ne (Ne.symm hk)] at q1 q2
        exact h7 k o' q1 q2
theorem EnvOk.no' (n : EnvOk K U g S H env σ) (i : Nat) {v : Option V} : EnvOk K U g S H (env.set i .no) (σ.set i v) := by
  refine ⟨by simp [n.len], fun j d' q => ?_, fun j o q => ?_⟩
  · by_cases h : j = i
    · subst h
      have hl : j < env.length := by
        have := (List.getElem?_eq_some_iff.mp q).1
        simpa using this
      rw [List.getElem?_set_self hl] at q
      cases q
    · rw [List.getElem?_set_ne (Ne.symm h)] at q ⊢
      exact n.dat j d' q
  · by_cases h : j = i
    · subst h
      have hl : j < env.length := by
        have := (List.getElem?_eq_some_iff.mp q).1
        simpa using this
      rw [List.getElem?_set_self hl] at q
      cases q
    · rw [List.getElem?_set_ne (Ne.symm h)] at q
      obtain ⟨p, ho, h1, h2, h3, h4, h5, h6, h7⟩ := n.own j o q
      refine ⟨p, ho, by rw [List.getElem?_set_ne (Ne.symm h)]; exact h1, h2, h3, h4, h5, h6, fun k o' q1 q2 => ?_⟩
      by_cases hk : k = i
      · subst hk
        have hl : k < env.length := by
          have := (List.getElem?_eq_some_iff.mp q1).1
          simpa using this
        rw [List.getElem?_set_self hl] at q1; cases q1
      · rw [List.getElem?_set_ne (Ne.symm hk)] at q1 q2
        exact h7 k o' q1 q2
end

/-- a reading by the data's reading -/
structure RD (X : Cx) (T : List (Addr × Str)) (EX : XK) (t : TE) (R : Tr) : Prop where
  run : ∀ {U : Addr → Prop} {σ : St} {H : Hp} {g : G} {S : Hp} {env : Env'} {Q : VK} {Kt : KR}, R env g Kt → HOK X.K T g S H → EnvOk X.K U g S H env σ →
    (∀ d g' v H' S', Kt (.val d) g' → Ext X.K T g S H g' S' H' → Rep X.K S' v d → Q v H') → (∀ C g' H' S', Kt (.exc C) g' → Ext X.K T g S H g' S' H' → EX (.ref C) none H') → t σ H Q
theorem pm_rd {X : Cx} {T : List (Addr × Str)} {EX : XK} {e : Expr} {t : TE} {R : Tr} (h : PE X e t) (r : RD X T EX t R) : PM X T EX e R := ⟨fun h1 h2 h3 h4 h5 => sem_of h (r.run h1 h2 h3 h4 h5)⟩
/-! comprehensions -/
section
variable {X : Cx} {T : List (Addr × Str)} {EX : XK} {elt : Expr} {ifs : List Expr} {scope : Scope} {i : Nat} {Rt Re Ri : Tr}
def TSemTs (X : Cx) (ifs : List Expr) : TT := fun σ H Q => ∀ (pins : List (Addr × Obj)) (s : Shared), Inv X pins σ H s →
  wpAny (model X.prog X.w) X.A (forIn ifs true fun c r => if r = true then do let ok ← isTrue c X.env (eval c X.env); pure (ForInStep.yield ok) else pure (ForInStep.yield r)) (TP X pins σ Q) X.xe s
structure PMTs (X : Cx) (T : List (Addr × Str)) (EX : XK) (ifs : List Expr) (R : Tr) : Prop where
  run : ∀ {U : Addr → Prop} {σ : St} {H : Hp} {g : G} {S : Hp} {env : Env'} {Q : Bool → Hp → Prop} {Kt : Bool → G → Prop} {Kx : Addr → G → Prop}, R env g (fun r g' => match r with | .val (.bl b) => Kt b g' | .exc C => Kx C g' | _ => False) → HOK X.K T g S H → EnvOk X.K U g S H env σ →
    (∀ b g' H' S', Kt b g' → Ext X.K T g S H g' S' H' → Q b H') → (∀ C g' H' S', Kx C g' → Ext X.K T g S H g' S' H' → EX (.ref C) none H') → TSemTs X ifs σ H Q
theorem pmts_nil : PMTs X T EX [] (rC (.bl true)) := ⟨fun {U σ H g S env Q Kt Kx} h ok en hv hx pins s I => pts_nil.run pins s σ H Q I (hv true g H S h (Ext.refl ok))⟩
theorem pmts_one {c : Expr} {R : Tr} (h : PMT X T EX c R) : PMTs X T EX [c] R := ⟨fun {U σ H g S env Q Kt Kx} h' ok en hv hx pins s I => (pts_one pt_sem).run pins s σ H Q I (h.run h' ok en hv hx)⟩
def TBlkT (X : Cx) (scope : Scope) (ifs : List Expr) : TT := fun σ H Q => ∀ (s : Shared) (H0 : Hp) (C : Addr) (cl : List (Str × Addr)) (fp : List Addr), TSemTs (X.blk s H0 scope (compEnvC scope cl C X.env) fp) ifs σ H Q
def TBlk (X : Cx) (scope : Scope) (e : Expr) : TE := fun σ H Q => ∀ (s : Shared) (H0 : Hp) (C : Addr) (cl : List (Str × Addr)) (fp : List Addr), TSem (X.blk s H0 scope (compEnvC scope cl C X.env) fp) e σ H Q
abbrev BlkT (X : Cx) (T : List (Addr × Str)) (scope : Scope) (ifs : List Expr) (R : Tr) : Prop := ∀ (s : Shared) (H : Hp) (C : Addr) (cl : List (Str × Addr)) (fp : List Addr), PMTs (X.blk s H scope (compEnvC scope cl C X.env) fp) T E0 ifs R
abbrev BlkE (X : Cx) (T : List (Addr × Str)) (scope : Scope) (e : Expr) (R : Tr) : Prop := ∀ (s : Shared) (H : Hp) (C : Addr) (cl : List (Str × Addr)) (fp : List Addr), PM (X.blk s H scope (compEnvC scope cl C X.env) fp) T E0 e R
/-- one turn, on data: kept with a value, or not -/
def turnR (Rt Re : Tr) (g : G) (env : Env') (out : Option D) : Prop := Rt env g fun r g2 => g2 = g ∧ match r with
  | .val (.bl true) => Re env g fun r g3 => g3 = g ∧ match r with
    | .val y => out = some y
    | _ => False
  | .val (.bl false) => out = none
  | _ => False
theorem lc_gen {J : It} {ds : List D} {h : D → Option D} {σ : St} {env : Env'} {g1 : G} {S1 H1 : Hp} {p : Addr} {Q : VK} {U : Addr → Prop} (ok : HOK X.K T g1 S1 H1) (hp : H1 p = none) (en : EnvOk X.K U g1 S1 H1 env σ) (hl : ds.length < 100000)
    (hst : ∀ k S' H', Ext X.K T g1 S1 H1 g1 S' H' → (k < ds.length → J.go k H') ∧ (k = ds.length → J.stop k H') ∧ ∀ x H2, k < ds.length → J.yld k H' x H2 → H2 = H' ∧ ∃ d, ds[k]? = some d ∧ Rep X.K S1 x d)
    (ht : ∀ d ∈ ds, turnR Rt Re g1 (env.set i (.dat d)) (h d)) (hT : BlkT X T scope ifs Rt) (hE : BlkE X T scope elt Re)
    (hd : ∀ S' H', Ext X.K T g1 S1 H1 g1 S' H' → Rep X.K S' (.ref p) (.lst (ds.filterMap h)) → Q (.ref p) H') :
    ∃ W : Nat → Nat → Hp → Prop, (∃ m, W 0 m (upd H1 p (.lst []))) ∧ ∀ k m H, W k m H →
      (J.stop k H ∧ Q (.ref p) H) ∨ (J.go k H ∧ ∃ Nx : Hp → Prop, (∀ H', Nx H' → ∃ m', m' < m ∧ W (k + 1) m' H') ∧ ∀ x H', J.yld k H x H' → gName i x (wipe σ [i]) H' fun σ2 H2 => wipe σ2 [i] = wipe σ [i] ∧ TBlkT X scope ifs σ2 H2 fun b H3 =>
        if b = true then TBlk X scope elt σ2 H3 fun y H4 => ∃ acc, H4 p = some (.lst acc) ∧ acc.length < sizeLine ∧ Nx (upd H4 p (.lst (acc ++ [y]))) else Nx H3) := by
  let St : Nat → Hp → Prop := fun k H => ∃ S' acc, Ext X.K T g1 S1 H1 g1 S' H ∧ S' p = none ∧ H p = some (.lst acc) ∧ Reps X.K S' acc ((ds.take k).filterMap h)
  have gp := ok.freeG hp
  have sp := ok.freeS hp
  refine ⟨fun k m H => m = ds.length - k ∧ k ≤ ds.length ∧ St k H, ⟨_, rfl, Nat.zero_le _, S1, [], ok.lay hp, sp, upd_same, .nil⟩, ?_⟩
  rintro k m H ⟨rfl, hk, S', acc, e, s0, hh, hr⟩
  obtain ⟨j1, j2, j3⟩ := hst k S' H e
  by_cases hlt : k < ds.length
  · refine .inr ⟨j1 hlt, St (k + 1), fun H' s => ⟨ds.length - (k + 1), by omega, rfl, hlt, s⟩, fun x H' hy => ?_⟩
    obtain ⟨rfl, d, hd1, hd2⟩ := j3 x H' hlt hy
    have hmem : d ∈ ds := List.mem_of_getElem? hd1
    have tk : ds.take (k + 1) = ds.take k ++ [d] := by rw [List.take_add_one, hd1]; rfl
    have en' : EnvOk X.K U g1 S' H' (env.set i (.dat d)) ((wipe σ [i]).set i (some x)) := by
      have z := (en.ext e).dat' i (hd2.mono e.mono)
      have w : (wipe σ [i]).set i (some x) = σ.set i (some x) := by unfold wipe; simp [wipe]
      rw [w]; exact z
    refine ⟨by unfold wipe; simp [wipe], fun s H0 C cl fp => ?_⟩
    have turn := ht d hmem
    unfold turnR at turn
    refine (hT s H0 C cl fp).run (Kt := fun b g2 => g2 = g1 ∧ if b = true then Re (env.set i (.dat d)) g1 (fun r g3 => g3 = g1 ∧ match r with | .val y => h d = some y | _ => False) else h d = none) (Kx := fun _ _ => False) (?_) e.ok en' (fun b g2 H3 S3 kb e3 => ?_) (fun _ _ _ _ z _ => z.elim)
    · refine cast (congrArg (Rt (env.set i (.dat d)) g1) ?_) turn
      funext r g2
      cases r with
      | exc C => simp
      | val v =>
        cases v with
        | bl b => cases b <;> simp
        | _ => simp
    · obtain ⟨rfl, kb⟩ := kb
      obtain ⟨s3, _, h3⟩ := e3.mine s0 gp hh (fun _ z => by cases z)
      have e13 := e.trans e3
      cases b with
      | false =>
        rw [if_neg Bool.false_ne_true] at kb ⊢
        refine ⟨S3, acc, e13, s3, h3, ?_⟩
        rw [tk, List.filterMap_append]
        simp only [List.filterMap_cons, kb, List.filterMap_nil, List.append_nil]
        exact hr.mono e3.mono
      | true =>
        rw [if_pos rfl] at kb ⊢
        intro s H0 C cl fp
        refine (hE s H0 C cl fp).run kb e3.ok (en'.ext e3) (fun y g4 v H4 S4 k4 e4 r4 => ?_) (fun _ _ _ _ z _ => z.2.elim)
        obtain ⟨rfl, k4⟩ := k4
        obtain ⟨s4, _, h4⟩ := e4.mine s3 gp h3 (fun _ z => by cases z)
        refine ⟨acc, h4, szlt ?_, S4, acc ++ [v], (e13.trans e4).own (.of hp) s4 gp h4 (fun _ z => by cases z) (fun _ z => by cases z), s4, upd_same, ?_⟩
        · rw [hr.length]
          have := List.length_filterMap_le h (ds.take k)
          rw [List.length_take] at this
          omega
        · rw [tk, List.filterMap_append]
          simp only [List.filterMap_cons, k4, List.filterMap_nil]
          exact (hr.mono (e3.trans e4).mono).append (.cons r4 .nil)
  · have ek : k = ds.length := by omega
    subst ek
    refine .inl ⟨j2 rfl, hd (upd S' p (.lst acc)) H (e.freeze (.of hp) s0 gp hh (fun _ z => by cases z)) (.lst upd_same ?_)⟩
    rw [List.take_length] at hr
    exact hr.mono fun a u q => by rw [upd_ne (ne_of_none q s0)]; exact q
/-- the data of a comprehension's end -/
def lcR (i : Nat) (Rt Re : Tr) (ds : List D) (env : Env') (gb : G) (g : G) (Kt : KR) : Prop := ds.length < 100000 ∧ ∃ h : D → Option D, (∀ d ∈ ds, turnR Rt Re gb (env.set i (.dat d)) (h d)) ∧ Kt (.val (.lst (ds.filterMap h))) g
def notTup : D → Prop
  | .tup _ => False
  | _ => True
def rLcL (i : Nat) (Ri Rt Re : Tr) : Tr := fun env g Kt => Ri env g (onV Kt fun d g1 => ∃ ds, items d = some ds ∧ notTup d ∧ lcR i Rt Re ds env g1 g1 Kt)
theorem itemsL {K : PySem.W.Frag} {S : Hp} {v : V} {d : D} {ds : List D} (r : Rep K S v d) (h : items d = some ds) (nt : notTup d) : ∃ a vs, v = .ref a ∧ SqL K S a vs ∧ Reps K S vs ds := by
  cases r with
  | lst x y => simp [items] at h; subst h; exact ⟨_, _, rfl, .inl (.inl x), y⟩
  | frl x y => simp [items] at h; subst h; exact ⟨_, _, rfl, x, y⟩
  | tup x y => exact nt.elim
  | _ => simp [items] at h
theorem itl_st {K : PySem.W.Frag} {g1 : G} {S1 H1 : Hp} {a : Addr} {vs : List V} {ds : List D} (hq : SqL K S1 a vs) (hr : Reps K S1 vs ds) : ∀ k S' H', Ext K T g1 S1 H1 g1 S' H' → (k < ds.length → (Itl K a).go k H') ∧ (k = ds.length → (Itl K a).stop k H') ∧ ∀ x H2, k < ds.length → (Itl K a).yld k H' x H2 → H2 = H' ∧ ∃ d, ds[k]? = some d ∧ Rep K S1 x d := fun k S' H' e => by
  have hq' : SqL K H' a vs := e.ok.sql (sql_mono e.mono hq)
  have hl := hr.length
  refine ⟨fun hk => ⟨vs, vs[k]'(by omega), hq', by simp⟩, fun hk => ⟨vs, hq', by omega⟩, fun x H2 _ y => ?_⟩
  obtain ⟨e1, y⟩ := y
  obtain ⟨d, h1, h2⟩ := hr.get' (y vs hq')
  exact ⟨e1, d, h1, h2⟩
theorem rd_lcL {iter : Expr} (hi : PM X T EX iter Ri) (hT : BlkT X T scope ifs Rt) (hE : BlkE X T scope elt Re) : RD X T EX (tLc (iList X.K (TSem X iter)) (gName i) (TBlkT X scope ifs) (TBlk X scope elt) [i]) (rLcL i Ri Rt Re) := by
  refine ⟨fun {U σ H g S env Q Kt} h okh en hv hx => ?_⟩
  refine hi.run h okh en (fun d g1 v1 H1 S1 k1 e1 r1 => ?_) (fun C g' H' S' k e => hx C g' H' S' k e)
  obtain ⟨ds, hd, nt, hl, h, ht, k⟩ := k1
  obtain ⟨a, vs, rfl, hq, hr⟩ := itemsL r1 hd nt
  refine ⟨a, rfl, ⟨vs, e1.ok.sql hq⟩, fun p hp => ?_⟩
  exact lc_gen e1.ok hp (en.ext e1) hl (itl_st hq hr) ht hT hE fun S' H' e r => hv _ g1 _ H' S' k (e1.trans e) r
theorem pm_lcL {x : Str} {px pos : Pos} {iter : Expr} (hc : X.calm = true) (hN : X.N.Nodup) (hi : PM X T EX iter Ri) (ok : BlkOk X.N X.env.scope scope [(x, i)])
    (hg : ∀ (s : Shared) (H : Hp) (C : Addr) (cl : List (Str × Addr)) (fp : List Addr), PG (X.blk s H scope (compEnvC scope cl C X.env) fp) (.Name x px) (gName i)) (hT : BlkT X T scope ifs Rt) (hE : BlkE X T scope elt Re)
    (hs : ∀ x, foldedSetIterable iter X.env x = pure x := by intro _; rfl) : PM X T EX (.ListComp elt [⟨.Name x px, iter, ifs, 0⟩] scope pos) (rLcL i Ri Rt Re) :=
  pm_rd (pe_lc (own := [(x, i)]) (tt := TBlkT X scope ifs) (te := TBlk X scope elt) hc hN (pi_list pe_sem) ok hg (fun s H C cl fp => ⟨fun pins s' σ H Q I hw => hw s _ C cl fp pins s' I⟩) (fun s H C cl fp => ⟨fun pins s' σ H Q I hw => hw s _ C cl fp pins s' I⟩) hs) (rd_lcL hi hT hE)
theorem itt_st {K : PySem.W.Frag} {g1 : G} {S1 H1 : Hp} {a : Addr} {vs : List V} {ds : List D} (hq : SqT K S1 a vs) (hr : Reps K S1 vs ds) : ∀ k S' H', Ext K T g1 S1 H1 g1 S' H' → (k < ds.length → (Itt K a).go k H') ∧ (k = ds.length → (Itt K a).stop k H') ∧ ∀ x H2, k < ds.length → (Itt K a).yld k H' x H2 → H2 = H' ∧ ∃ d, ds[k]? = some d ∧ Rep K S1 x d := fun k S' H' e => by
  have hq' : SqT K H' a vs := e.ok.sqt (sqt_mono e.mono hq)
  have hl := hr.length
  refine ⟨fun hk => ⟨vs, vs[k]'(by omega), hq', by simp⟩, fun hk => ⟨vs, hq', by omega⟩, fun x H2 _ y => ?_⟩
  obtain ⟨e1, y⟩ := y
  obtain ⟨d, h1, h2⟩ := hr.get' (y vs hq')
  exact ⟨e1, d, h1, h2⟩
def rLcT (i : Nat) (Ri Rt Re : Tr) : Tr := fun env g Kt => Ri env g (onV Kt fun d g1 => ∃ ds, d = .tup ds ∧ lcR i Rt Re ds env g1 g1 Kt)
theorem rd_lcT {iter : Expr} (hi : PM X T EX iter Ri) (hT : BlkT X T scope ifs Rt) (hE : BlkE X T scope elt Re) : RD X T EX (tLc (iTup X.K (TSem X iter)) (gName i) (TBlkT X scope ifs) (TBlk X scope elt) [i]) (rLcT i Ri Rt Re) := by
  refine ⟨fun {U σ H g S env Q Kt} h okh en hv hx => ?_⟩
  refine hi.run h okh en (fun d g1 v1 H1 S1 k1 e1 r1 => ?_) (fun C g' H' S' k e => hx C g' H' S' k e)
  obtain ⟨ds, rfl, hl, h, ht, k⟩ := k1
  cases r1 with
  | @tup a vs _ hq hr =>
    refine ⟨a, rfl, ⟨vs, e1.ok.sqt hq⟩, fun p hp => ?_⟩
    exact lc_gen e1.ok hp (en.ext e1) hl (itt_st hq hr) ht hT hE fun S' H' e r => hv _ g1 _ H' S' k (e1.trans e) r
theorem pm_lcT {x : Str} {px pos : Pos} {iter : Expr} (hc : X.calm = true) (hN : X.N.Nodup) (hi : PM X T EX iter Ri) (ok : BlkOk X.N X.env.scope scope [(x, i)])
    (hg : ∀ (s : Shared) (H : Hp) (C : Addr) (cl : List (Str × Addr)) (fp : List Addr), PG (X.blk s H scope (compEnvC scope cl C X.env) fp) (.Name x px) (gName i)) (hT : BlkT X T scope ifs Rt) (hE : BlkE X T scope elt Re)
    (hs : ∀ x, foldedSetIterable iter X.env x = pure x := by intro _; rfl) : PM X T EX (.ListComp elt [⟨.Name x px, iter, ifs, 0⟩] scope pos) (rLcT i Ri Rt Re) :=
  pm_rd (pe_lc (own := [(x, i)]) (tt := TBlkT X scope ifs) (te := TBlk X scope elt) hc hN (pi_tup pe_sem) ok hg (fun s H C cl fp => ⟨fun pins s' σ H Q I hw => hw s _ C cl fp pins s' I⟩) (fun s H C cl fp => ⟨fun pins s' σ H Q I hw => hw s _ C cl fp pins s' I⟩) hs) (rd_lcT hi hT hE)
/-! over the keys of a dict, which is locked meanwhile -/
def keyD : Key → D
  | .inl i => .int i
  | .inr x => .str x
theorem rep_keyD {K : PySem.W.Frag} {S : Hp} (k : Key) : Rep K S (kV k) (keyD k) := by
  cases k
  · exact .int _
  · exact .str _
def rLcK (i : Nat) (p : PF) (Rt Re : Tr) : Tr := fun env g Kt => ∃ a kvs, p env g.get = some (.ref a) ∧ g.get a = some (.dct kvs) ∧ g.lk a = false ∧ lcR i Rt Re (kvs.map fun kv => keyD kv.1) env (g.lock a) g Kt
theorem itk_st {K : PySem.W.Frag} {g1 : G} {S1 H1 : Hp} {d : Addr} {od : Obj} {vs : List (Key × V)} {kvs : List (Key × D)} (hh : H1 d = some (.frz od (.dK vs))) (hr : RepK K S1 vs kvs) : ∀ k S' H', Ext K T g1 S1 H1 g1 S' H' →
    (k < (kvs.map fun kv => keyD kv.1).length → (Itk d od vs).go k H') ∧ (k = (kvs.map fun kv => keyD kv.1).length → (Itk d od vs).stop k H') ∧ ∀ x H2, k < (kvs.map fun kv => keyD kv.1).length → (Itk d od vs).yld k H' x H2 → H2 = H' ∧ ∃ z, (kvs.map fun kv => keyD kv.1)[k]? = some z ∧ Rep K S1 x z := fun k S' H' e => by
  have h' := e.frz _ _ _ hh
  have hl := hr.length
  rw [List.length_map]
  refine ⟨fun hk => ⟨h', by omega⟩, fun hk => ⟨h', by omega⟩, fun x H2 _ y => ?_⟩
  obtain ⟨e1, ky, v, h1, rfl⟩ := y
  obtain ⟨z, h2, h3⟩ := hr.get h1
  exact ⟨e1, keyD ky, by rw [List.getElem?_map, h2]; rfl, rep_keyD ky⟩
theorem rd_lcK {iter : Expr} {p : PF} (hi : PP X T iter p) (hT : BlkT X T scope ifs Rt) (hE : BlkE X T scope elt Re) : RD X T EX (tLockE (tLc (iKeys (TSem X iter)) (gName i) (TBlkT X scope ifs) (TBlk X scope elt) [i])) (rLcK i p Rt Re) := by
  refine ⟨fun {U σ H g S env Q Kt} h okh en hv hx => ?_⟩
  obtain ⟨a, kvs, h1, hga, hl, hlen, hf, ht, kk⟩ := h
  obtain ⟨vs, hh, hr⟩ := okh.dctF hga hl
  refine ⟨a, .dK vs, hh, trivial, fun od => ?_⟩
  have ok1 := okh.lock (od := od) hga hh hr
  have en1 : EnvOk X.K U (g.lock a) S (upd H a (.frz od (.dK vs))) env σ := by
    refine ⟨en.len, en.dat, fun j o q => ?_⟩
    obtain ⟨p', ho, q1, q2, q3, q4, q5, q6, q7⟩ := en.own j o q
    have ne : p' ≠ a := fun z => by subst z; rw [hga] at q5; cases q5
    exact ⟨p', ho, q1, by rw [upd_ne ne]; exact q2, q3, q4, q5, q6, q7⟩
  refine hi.run (g := g.lock a) h1 ok1 en1 fun v r => ?_
  cases r
  refine ⟨a, od, rfl, .inl ⟨vs, upd_same, fun D hD => ?_⟩⟩
  refine lc_gen (Q := fun v H' => H' a = some (.frz od (.dK vs)) ∧ Q v (upd H' a (.dK vs))) ok1 hD en1 hlen (itk_st upd_same hr) ht hT hE fun S' H' e r => ?_
  obtain ⟨f1, f2⟩ := okh.unlock hga hl hh hr e
  exact ⟨f1, hv _ g _ _ S' kk f2 r⟩
theorem pm_lcK {x : Str} {px pos : Pos} {iter : Expr} {p : PF} (hc : X.calm = true) (hN : X.N.Nodup) (hi : PP X T iter p) (ok : BlkOk X.N X.env.scope scope [(x, i)])
    (hg : ∀ (s : Shared) (H : Hp) (C : Addr) (cl : List (Str × Addr)) (fp : List Addr), PG (X.blk s H scope (compEnvC scope cl C X.env) fp) (.Name x px) (gName i)) (hT : BlkT X T scope ifs Rt) (hE : BlkE X T scope elt Re)
    (hs : ∀ x, foldedSetIterable iter X.env x = pure x := by intro _; rfl) : PM X T EX (.ListComp elt [⟨.Name x px, iter, ifs, 0⟩] scope pos) (rLcK i p Rt Re) :=
  pm_rd (pe_lock (pe_lc (own := [(x, i)]) (tt := TBlkT X scope ifs) (te := TBlk X scope elt) hc hN (pi_keys pe_sem) ok hg (fun s H C cl fp => ⟨fun pins s' σ H Q I hw => hw s _ C cl fp pins s' I⟩) (fun s H C cl fp => ⟨fun pins s' σ H Q I hw => hw s _ C cl fp pins s' I⟩) hs)) (rd_lcK hi hT hE)
/-! over a range, a text -/
def rangeD (n : Nat) : List D := (List.range n).map fun (k : Nat) => D.int (k : Int)
@[simp] theorem rangeD_length (n : Nat) : (rangeD n).length = n := by simp [rangeD]
theorem rangeD_get {n k : Nat} (h : k < n) : (rangeD n)[k]? = some (.int (k : Int)) := by simp [rangeD, h]
def rLcR (i : Nat) (A Rt Re : Tr) : Tr := fun env g Kt => A env g (onV Kt fun d g1 => ∃ n : Int, d = .int n ∧ 0 ≤ n ∧ n ≤ 90000 ∧ lcR i Rt Re (rangeD n.toNat) env g1 g1 Kt)
theorem itr_st {K : PySem.W.Frag} {g1 : G} {S1 H1 : Hp} {n : Nat} : ∀ k S' H', Ext K T g1 S1 H1 g1 S' H' → (k < (rangeD n).length → (Itr 0 n).go k H') ∧ (k = (rangeD n).length → (Itr 0 n).stop k H') ∧
    ∀ x H2, k < (rangeD n).length → (Itr 0 n).yld k H' x H2 → H2 = H' ∧ ∃ d, (rangeD n)[k]? = some d ∧ Rep K S1 x d := fun k S' H' e => by
  rw [rangeD_length]
  refine ⟨fun h => h, fun h => Nat.le_of_eq h.symm, fun x H2 hk y => ?_⟩
  obtain ⟨e1, rfl⟩ := y
  refine ⟨e1, _, rangeD_get hk, ?_⟩
  rw [Int.zero_add]
  exact .int _
theorem rd_lcR {a : Expr} {A : Tr} (ha : PM X T EX a A) (hT : BlkT X T scope ifs Rt) (hE : BlkE X T scope elt Re) : RD X T EX (tLc (iRng1 (tCons (TSem X a) tNil)) (gName i) (TBlkT X scope ifs) (TBlk X scope elt) [i]) (rLcR i A Rt Re) := by
  refine ⟨fun {U σ H g S env Q Kt} h okh en hv hx => ?_⟩
  refine ha.run h okh en (fun d g1 v1 H1 S1 k1 e1 r1 => ?_) (fun C g' H' S' k e => hx C g' H' S' k e)
  obtain ⟨n, rfl, h0, hn, hl, hf, ht, k⟩ := k1
  cases r1
  refine ⟨n, rfl, by omega, by omega, fun p hp => ?_⟩
  exact lc_gen e1.ok hp (en.ext e1) hl itr_st ht hT hE fun S' H' e r => hv _ g1 _ H' S' k (e1.trans e) r
theorem pm_lcR {x : Str} {px pos p p2 : Pos} {a : Expr} {A : Tr} (hc : X.calm = true) (hN : X.N.Nodup) (hgr : Gl X "range") (hmr : X.mg "range" = none) (ha : PM X T EX a A) (ok : BlkOk X.N X.env.scope scope [(x, i)])
    (hg : ∀ (s : Shared) (H : Hp) (C : Addr) (cl : List (Str × Addr)) (fp : List Addr), PG (X.blk s H scope (compEnvC scope cl C X.env) fp) (.Name x px) (gName i)) (hT : BlkT X T scope ifs Rt) (hE : BlkE X T scope elt Re)
    (hst : starEach [a] X.env = [(false, eval a X.env)] := by rfl) (hs : ∀ x, foldedSetIterable (.Call (.Name "range" p) [a] [] p2) X.env x = pure x := by intro _; rfl) : PM X T EX (.ListComp elt [⟨.Name x px, .Call (.Name "range" p) [a] [] p2, ifs, 0⟩] scope pos) (rLcR i A Rt Re) :=
  pm_rd (pe_lc (own := [(x, i)]) (tt := TBlkT X scope ifs) (te := TBlk X scope elt) hc hN (pi_range1 hgr hmr (pa_cons pe_sem pa_nil hst) hst) ok hg (fun s H C cl fp => ⟨fun pins s' σ H Q I hw => hw s _ C cl fp pins s' I⟩) (fun s H C cl fp => ⟨fun pins s' σ H Q I hw => hw s _ C cl fp pins s' I⟩) hs) (rd_lcR ha hT hE)
def signsD (x : Str) : List D := x.cps.toList.map fun c => D.str ⟨#[c]⟩
def rLcS (i : Nat) (A Rt Re : Tr) : Tr := fun env g Kt => A env g (onV Kt fun d g1 => ∃ x : Str, d = .str x ∧ lcR i Rt Re (signsD x) env g1 g1 Kt)
theorem its_st {K : PySem.W.Frag} {g1 : G} {S1 H1 : Hp} {z : Str} : ∀ k S' H', Ext K T g1 S1 H1 g1 S' H' → (k < (signsD z).length → (Its z).go k H') ∧ (k = (signsD z).length → (Its z).stop k H') ∧
    ∀ x H2, k < (signsD z).length → (Its z).yld k H' x H2 → H2 = H' ∧ ∃ d, (signsD z)[k]? = some d ∧ Rep K S1 x d := fun k S' H' e => by
  have hl : (signsD z).length = z.cps.size := by simp [signsD]
  rw [hl]
  refine ⟨fun h => h, fun h => Nat.le_of_eq h.symm, fun x H2 hk y => ?_⟩
  obtain ⟨e1, c, hc, rfl⟩ := y
  refine ⟨e1, .str ⟨#[c]⟩, ?_, .str _⟩
  unfold signsD
  rw [List.getElem?_map, Array.getElem?_toList, hc]
  rfl
theorem rd_lcS {iter : Expr} (hi : PM X T EX iter Ri) (hT : BlkT X T scope ifs Rt) (hE : BlkE X T scope elt Re) : RD X T EX (tLc (iStr (TSem X iter)) (gName i) (TBlkT X scope ifs) (TBlk X scope elt) [i]) (rLcS i Ri Rt Re) := by
  refine ⟨fun {U σ H g S env Q Kt} h okh en hv hx => ?_⟩
  refine hi.run h okh en (fun d g1 v1 H1 S1 k1 e1 r1 => ?_) (fun C g' H' S' k e => hx C g' H' S' k e)
  obtain ⟨z, rfl, hl, hf, ht, k⟩ := k1
  cases r1
  refine ⟨z, rfl, fun p hp => ?_⟩
  exact lc_gen e1.ok hp (en.ext e1) hl its_st ht hT hE fun S' H' e r => hv _ g1 _ H' S' k (e1.trans e) r
theorem pm_lcS {x : Str} {px pos : Pos} {iter : Expr} (hc : X.calm = true) (hN : X.N.Nodup) (hi : PM X T EX iter Ri) (ok : BlkOk X.N X.env.scope scope [(x, i)])
    (hg : ∀ (s : Shared) (H : Hp) (C : Addr) (cl : List (Str × Addr)) (fp : List Addr), PG (X.blk s H scope (compEnvC scope cl C X.env) fp) (.Name x px) (gName i)) (hT : BlkT X T scope ifs Rt) (hE : BlkE X T scope elt Re)
    (hs : ∀ x, foldedSetIterable iter X.env x = pure x := by intro _; rfl) : PM X T EX (.ListComp elt [⟨.Name x px, iter, ifs, 0⟩] scope pos) (rLcS i Ri Rt Re) :=
  pm_rd (pe_lc (own := [(x, i)]) (tt := TBlkT X scope ifs) (te := TBlk X scope elt) hc hN (pi_str pe_sem) ok hg (fun s H C cl fp => ⟨fun pins s' σ H Q I hw => hw s _ C cl fp pins s' I⟩) (fun s H C cl fp => ⟨fun pins s' σ H Q I hw => hw s _ C cl fp pins s' I⟩) hs) (rd_lcS hi hT hE)
end
end DL

set_option Elab.async false
set_option linter.all false
set_option maxRecDepth 100000
set_option maxHeartbeats 2000000
set_option autoImplicit false
/-! DL6: statements, loops, a def's body. -/
namespace DL
open PySem PySem.Spec L2
/-- what is wanted behind a statement, on data -/
structure Dn where
  nx : Env' → G → Prop
  rt : D → G → Prop
  ex : Addr → G → Prop
  bk : Env' → G → Prop := fun _ _ => False
  ct : Env' → G → Prop := fun _ _ => False
abbrev TW := Dn → Env' → G → Prop
def TSemS (X : Cx) (st : Stmt) : TS := fun D σ H => ∀ (pins : List (Addr × Obj)) (s : Shared), Inv X pins σ H s → wpAny (model X.prog X.w) X.A (exec st X.env) (SP X pins D) X.xe s
def TSemB (X : Cx) (st : List Stmt) : TS := fun D σ H => ∀ (pins : List (Addr × Obj)) (s : Shared), Inv X pins σ H s → wpAny (model X.prog X.w) X.A (execs st X.env) (SP X pins D) X.xe s
section
variable {X : Cx} {st : Stmt} {sts : List Stmt} {t : TS} {D : Ends} {σ : St} {H : Hp}
theorem ps_sem : PS X st (TSemS X st) := ⟨fun pins s _ _ _ I h => h pins s I⟩
theorem pss_sem : PSs X sts (TSemB X sts) := ⟨fun pins s _ _ _ I h => h pins s I⟩
theorem semS_of (h : PS X st t) (q : t D σ H) : TSemS X st D σ H := fun pins s I => h.run pins s σ H D I q
theorem semB_of (h : PSs X sts t) (q : t D σ H) : TSemB X sts D σ H := fun pins s I => h.run pins s σ H D I q
end
abbrev UF (H0 : Hp) : Addr → Prop := fun p => Fre H0 p
/-- what follows, in the heap, from what follows on data; g0 S0 H0: the def's entry -/
structure Lk (K : PySem.W.Frag) (T : List (Addr × Str)) (EX : XK) (g0 : G) (S0 H0 : Hp) (dn : Dn) (D : Ends) : Prop where
  nx : ∀ env g S σ H, dn.nx env g → Ext K T g0 S0 H0 g S H → EnvOk K (UF H0) g S H env σ → D.nx σ H
  bk : ∀ env g S σ H, dn.bk env g → Ext K T g0 S0 H0 g S H → EnvOk K (UF H0) g S H env σ → D.bk σ H
  ct : ∀ env g S σ H, dn.ct env g → Ext K T g0 S0 H0 g S H → EnvOk K (UF H0) g S H env σ → D.ct σ H
  rt : ∀ d g S v H, dn.rt d g → Ext K T g0 S0 H0 g S H → Rep K S v d → D.rt v H
  ex : ∀ C g S H, dn.ex C g → Ext K T g0 S0 H0 g S H → EX (.ref C) none H
structure PX (X : Cx) (T : List (Addr × Str)) (EX : XK) (st : Stmt) (w : TW) : Prop where
  run : ∀ {g0 : G} {S0 H0 : Hp} {σ : St} {H : Hp} {g : G} {S : Hp} {env : Env'} {D : Ends} {dn : Dn}, w dn env g → Ext X.K T g0 S0 H0 g S H → EnvOk X.K (UF H0) g S H env σ → Lk X.K T EX g0 S0 H0 dn D → TSemS X st D σ H
structure PXs (X : Cx) (T : List (Addr × Str)) (EX : XK) (st : List Stmt) (w : TW) : Prop where
  run : ∀ {g0 : G} {S0 H0 : Hp} {σ : St} {H : Hp} {g : G} {S : Hp} {env : Env'} {D : Ends} {dn : Dn}, w dn env g → Ext X.K T g0 S0 H0 g S H → EnvOk X.K (UF H0) g S H env σ → Lk X.K T EX g0 S0 H0 dn D → TSemB X st D σ H
/-- behind an expression, in a statement -/
def onD (dn : Dn) (k : D → G → Prop) : KR := fun r g => match r with
  | .val d => k d g
  | .exc C => dn.ex C g
@[simp] theorem onD_val {dn : Dn} {k : D → G → Prop} {d : D} {g : G} : onD dn k (.val d) g = k d g := rfl
@[simp] theorem onD_exc {dn : Dn} {k : D → G → Prop} {C : Addr} {g : G} : onD dn k (.exc C) g = dn.ex C g := rfl
section
variable {X : Cx} {T : List (Addr × Str)} {EX : XK} {e a b c o : Expr} {st : Stmt} {sts ss1 ss2 : List Stmt} {A1 A2 A3 : Tr} {w w1 w2 : TW} {pos : Pos}
/-! blocks -/
def wNil : TW := fun dn env g => dn.nx env g
def wSeq (w1 w2 : TW) : TW := fun dn env g => w1 { dn with nx := fun env g => w2 dn env g } env g
theorem pxs_nil : PXs X T EX [] wNil := ⟨fun {g0 S0 H0 σ H g S env D dn} h e n l => semB_of pss_nil (l.nx env g S σ H h e n)⟩
theorem pxs_cons (h1 : PX X T EX st w1) (h2 : PXs X T EX sts w2) : PXs X T EX (st :: sts) (wSeq w1 w2) := by
  refine ⟨fun {g0 S0 H0 σ H g S env D dn} h e n l => semB_of (pss_cons ps_sem pss_sem) ?_⟩
  exact h1.run (D := { D with nx := TSemB X sts D }) h e n ⟨fun env g S σ H q e n => h2.run q e n l, l.bk, l.ct, l.rt, l.ex⟩
theorem pxs_one (h1 : PX X T EX st w1) : PXs X T EX [st] w1 := ⟨fun {g0 S0 H0 σ H g S env D dn} h e n l => semB_of (pss_one ps_sem) (h1.run h e n l)⟩
theorem px_doc {x j p p'} : PX X T EX (.Expr (.Constant (.str x) j p) p') wNil := ⟨fun {g0 S0 H0 σ H g S env D dn} h e n l => semS_of ps_doc (l.nx env g S σ H h e n)⟩
theorem px_pass : PX X T EX (.Pass pos) wNil := ⟨fun {g0 S0 H0 σ H g S env D dn} h e n l => semS_of ps_pass (l.nx env g S σ H h e n)⟩
def wCont : TW := fun dn env g => dn.ct env g
theorem px_continue : PX X T EX (.Continue pos) wCont := ⟨fun {g0 S0 H0 σ H g S env D dn} h e n l => semS_of ps_continue (l.ct env g S σ H h e n)⟩
/-! return -/
def wRet (A : Tr) : TW := fun dn env g => A env g (onD dn fun d g1 => dn.rt d g1)
theorem px_ret (ha : PM X T EX a A1) : PX X T EX (.Return (some a) pos) (wRet A1) := by
  refine ⟨fun {g0 S0 H0 σ H g S env D dn} h e n l => semS_of (ps_ret pe_sem) ?_⟩
  exact ha.run h e.ok n (fun d g1 v H1 S1 k e1 r => l.rt d g1 S1 v H1 k (e.trans e1) r) (fun C g' H' S' k e1 => l.ex C g' S' H' k (e.trans e1))
def wRetN : TW := fun dn _ g => dn.rt .non g
theorem px_retN : PX X T EX (.Return none pos) wRetN := ⟨fun {g0 S0 H0 σ H g S env D dn} h e n l => semS_of ps_retN (l.rt .non g S .non H h e .non)⟩
/-! an expression alone -/
def wExp (A : Tr) : TW := fun dn env g => A env g (onD dn fun _ g1 => dn.nx env g1)
theorem px_exp (ha : PM X T EX a A1) (hs : swapsWith a none pos.line X.env = pure false := by rfl) : PX X T EX (.Expr a pos) (wExp A1) := by
  refine ⟨fun {g0 S0 H0 σ H g S env D dn} h e n l => semS_of (ps_expr pe_sem hs) ?_⟩
  exact ha.run h e.ok n (fun d g1 v H1 S1 k e1 r => l.nx env g1 S1 σ H1 k (e.trans e1) (n.ext e1)) (fun C g' H' S' k e1 => l.ex C g' S' H' k (e.trans e1))
/-! name = value -/
def wAsg (i : Nat) (A : Tr) : TW := fun dn env g => A env g (onD dn fun d g1 => dn.nx (env.set i (.dat d)) g1)
theorem px_asg {i : Nat} {x : Str} {pos' : Pos} (hN : X.N.Nodup) (hi : X.N[i]? = some x) (hx : Loc X.env.scope x) (ha : PM X T EX a A1) (hs : swapsWith a (some (.Name x pos')) pos.line X.env = pure false := by rfl)
    (hf : X.fn x = true ∨ X.env.scope.names.lookup x = some .local := by first | exact .inl rfl | exact .inr rfl | assumption) : PX X T EX (.Assign [.Name x pos'] a pos) (wAsg i A1) := by
  refine ⟨fun {g0 S0 H0 σ H g S env D dn} h e n l => semS_of (ps_set hN hi hx pe_sem hs hf) ?_⟩
  exact ha.run h e.ok n (fun d g1 v H1 S1 k e1 r => l.nx _ g1 S1 _ H1 k (e.trans e1) ((n.ext e1).dat' i r)) (fun C g' H' S' k e1 => l.ex C g' S' H' k (e.trans e1))
/-- name = a comprehension on one line, the name a local: the rule gives a statement's reading -/
theorem px_asgLc {i : Nat} {pos' : Pos} {x : Str} {t : TE} (hp : PS X (.Assign [.Name x pos'] a pos) (tAsg (TSem X a) (gName i))) (ha : PM X T EX a A1) : PX X T EX (.Assign [.Name x pos'] a pos) (wAsg i A1) := by
  refine ⟨fun {g0 S0 H0 σ H g S env D dn} h e n l => semS_of hp ?_⟩
  exact ha.run h e.ok n (fun d g1 v H1 S1 k e1 r => l.nx _ g1 S1 _ H1 k (e.trans e1) ((n.ext e1).dat' i r)) (fun C g' H' S' k e1 => l.ex C g' S' H' k (e.trans e1))
/-- a new list, a new dict of one's own -/
def wNewL (i : Nat) : TW := fun dn env g => dn.nx (env.set i (.own (.lst []))) g
def wNewD (i : Nat) : TW := fun dn env g => dn.nx (env.set i (.own (.dct []))) g
theorem EnvOk.own' {K : PySem.W.Frag} {g0 g : G} {S0 H0 S H : Hp} {env : Env'} {σ : St} (n : EnvOk K (UF H0) g S H env σ) (e : Ext K T g0 S0 H0 g S H) (i : Nat) {p : Addr} {ho : HO} {o : MO} (hp : H p = none) (r : RepMO K S ho o) (hi : i < env.length) :
    Ext K T g0 S0 H0 g S (upd H p ho) ∧ EnvOk K (UF H0) g S (upd H p ho) (env.set i (.own o)) (σ.set i (some (.ref p))) := by
  have e1 := e.ok.lay (o := ho) hp
  have n1 := n.ext e1
  have up : Fre H0 p := e.there p (.of hp)
  refine ⟨e.trans e1, by simp [n.len], fun j d q => ?_, fun j o' q => ?_⟩
  · by_cases h : j = i
    · subst h; rw [List.getElem?_set_self hi] at q; cases q
    · rw [List.getElem?_set_ne (Ne.symm h)] at q ⊢; exact n1.dat j d q
  · by_cases h : j = i
    · subst h
      rw [List.getElem?_set_self hi] at q; cases q
      refine ⟨p, ho, List.getElem?_set_self (by rw [n.len]; exact hi), upd_same, r, e.ok.freeS hp, e.ok.freeG hp, up, fun k o2 q1 q2 => ?_⟩
      by_cases hk : k = j
      · exact hk
      · rw [List.getElem?_set_ne (Ne.symm hk)] at q1 q2
        obtain ⟨p2, ho2, m1, m2, _⟩ := n.own k o2 q1
        rw [m1] at q2; cases q2
        rw [hp] at m2; cases m2
    · rw [List.getElem?_set_ne (Ne.symm h)] at q
      obtain ⟨p2, ho2, m1, m2, m3, m4, m5, m6, m7⟩ := n1.own j o' q
      obtain ⟨p3, ho3, m1', m2', _⟩ := n.own j o' q
      rw [m1] at m1'; cases m1'
      refine ⟨p2, ho2, by rw [List.getElem?_set_ne (Ne.symm h)]; exact m1, m2, m3, m4, m5, m6, fun k o2 q1 q2 => ?_⟩
      by_cases hk : k = i
      · subst hk
        rw [List.getElem?_set_self (by rw [n.len]; exact hi)] at q2
        cases q2
        rw [hp] at m2'; cases m2'
      · rw [List.getElem?_set_ne (Ne.symm hk)] at q1 q2
        exact m7 k o2 q1 q2
theorem px_newL {i : Nat} {x : Str} {pos' p2 : Pos} (hN : X.N.Nodup) (hi : X.N[i]? = some x) (hx : Loc X.env.scope x) (hs : swapsWith (.List [] p2) (some (.Name x pos')) pos.line X.env = pure false := by rfl)
    (hf : X.fn x = true ∨ X.env.scope.names.lookup x = some .local := by first | exact .inl rfl | exact .inr rfl | assumption) : PX X T EX (.Assign [.Name x pos'] (.List [] p2) pos) (fun dn env g => i < env.length ∧ wNewL i dn env g) := by
  refine ⟨fun {g0 S0 H0 σ H g S env D dn} h e n l => semS_of (ps_set hN hi hx (pe_lst pa_nil) hs hf) ?_⟩
  refine ⟨Nat.zero_le _, fun p hp => ?_⟩
  obtain ⟨e1, n1⟩ := n.own' e i (o := .lst []) hp (.lst .nil) h.1
  exact l.nx _ g S _ _ h.2 e1 n1
theorem px_newD {i : Nat} {x : Str} {pos' p2 : Pos} (hN : X.N.Nodup) (hi : X.N[i]? = some x) (hx : Loc X.env.scope x) (hs : swapsWith (.Dict [] [] p2) (some (.Name x pos')) pos.line X.env = pure false := by rfl)
    (hf : X.fn x = true ∨ X.env.scope.names.lookup x = some .local := by first | exact .inl rfl | exact .inr rfl | assumption) : PX X T EX (.Assign [.Name x pos'] (.Dict [] [] p2) pos) (fun dn env g => i < env.length ∧ wNewD i dn env g) := by
  refine ⟨fun {g0 S0 H0 σ H g S env D dn} h e n l => semS_of (ps_set hN hi hx pe_dnewK hs hf) ?_⟩
  intro p hp
  obtain ⟨e1, n1⟩ := n.own' e i (o := .dct []) hp (.dct .nil) h.1
  exact l.nx _ g S _ _ h.2 e1 n1
/-! if -/
def wIf (A : Tr) (w1 w2 : TW) : TW := fun dn env g => A env g fun r g1 => match r with
  | .val (.bl b) => if b = true then w1 dn env g1 else w2 dn env g1
  | .exc C => dn.ex C g1
  | _ => False
theorem px_if (hc : PMT X T EX c A1) (h1 : PXs X T EX ss1 w1) (h2 : PXs X T EX ss2 w2) : PX X T EX (.If c ss1 ss2 pos) (wIf A1 w1 w2) := by
  refine ⟨fun {g0 S0 H0 σ H g S env D dn} h e n l => semS_of (ps_if pt_sem pss_sem pss_sem) ?_⟩
  refine hc.run (Kt := fun b g1 => if b = true then w1 dn env g1 else w2 dn env g1) (Kx := fun C g1 => dn.ex C g1) h e.ok n (fun k g1 H1 S1 q e1 => ?_) (fun C g' H' S' k e1 => l.ex C g' S' H' k (e.trans e1))
  cases k with
  | true => exact h1.run q (e.trans e1) (n.ext e1) l
  | false => exact h2.run q (e.trans e1) (n.ext e1) l
/-! while: W by a measure -/
def wWhile (A : Tr) (w : TW) : TW := fun dn env g => ∃ W : Nat → Env' → G → Prop, (∃ m, W m env g) ∧ ∀ m env g, W m env g → A env g fun r g1 => match r with
  | .val (.bl b) => if b = true then w { dn with nx := fun e g => ∃ m', m' < m ∧ W m' e g, ct := fun e g => ∃ m', m' < m ∧ W m' e g, bk := dn.nx } env g1 else dn.nx env g1
  | .exc C => dn.ex C g1
  | _ => False
theorem px_while (hp : PassesOwn (model X.prog X.w) X.A X.env X.xe) (hc : PMT X T EX c A1) (hb : PXs X T EX sts w1) : PX X T EX (.While c sts [] pos) (wWhile A1 w1) := by
  refine ⟨fun {g0 S0 H0 σ H g S env D dn} h e n l => semS_of (ps_while hp pt_sem pss_sem) ?_⟩
  obtain ⟨W, ⟨m0, w0⟩, turn⟩ := h
  refine ⟨fun m σ H => ∃ env g S, W m env g ∧ Ext X.K T g0 S0 H0 g S H ∧ EnvOk X.K (UF H0) g S H env σ, ⟨m0, env, g, S, w0, e, n⟩, ?_⟩
  rintro m σ H ⟨env, g, S, wm, e, n⟩
  refine hc.run (Kt := fun b g1 => if b = true then w1 { dn with nx := fun e g => ∃ m', m' < m ∧ W m' e g, ct := fun e g => ∃ m', m' < m ∧ W m' e g, bk := dn.nx } env g1 else dn.nx env g1) (Kx := fun C g1 => dn.ex C g1) (turn m env g wm) e.ok n (fun k g1 H1 S1 q e1 => ?_) (fun C g' H' S' k e1 => l.ex C g' S' H' k (e.trans e1))
  cases k with
  | true =>
    refine ⟨fun σ' H' => ∃ m', m' < m ∧ ∃ env g S, W m' env g ∧ Ext X.K T g0 S0 H0 g S H' ∧ EnvOk X.K (UF H0) g S H' env σ', fun σ' H' q => q, ?_⟩
    exact hb.run q (e.trans e1) (n.ext e1) ⟨fun env g S σ H ⟨m', a, b⟩ e n => ⟨m', a, env, g, S, b, e, n⟩, l.nx, fun env g S σ H ⟨m', a, b⟩ e n => ⟨m', a, env, g, S, b, e, n⟩, l.rt, l.ex⟩
  | false => exact l.nx env g1 S1 σ H1 q (e.trans e1) (n.ext e1)
/-! for over the items of a list, a tuple, the numbers of a range, the signs of a text -/
def forR (i : Nat) (w : TW) (ds : List D) (dn : Dn) (env : Env') (g : G) : Prop := ∃ Pv : Nat → Env' → G → Prop, Pv 0 env g ∧ (∀ k d env g, ds[k]? = some d → Pv k env g → w { dn with nx := Pv (k + 1), ct := Pv (k + 1), bk := dn.nx } (env.set i (.dat d)) g) ∧ ∀ env g, Pv ds.length env g → dn.nx env g
theorem Ext.rebase {K : PySem.W.Frag} {g0 g1 : G} {S0 H0 S1 H1 : Hp} (e : Ext K T g0 S0 H0 g1 S1 H1) : Ext K T g0 S1 H0 g1 S1 H1 := ⟨e.ok, fun _ _ z => z, fun _ z => .inl z, e.fr, e.frz, e.there, e.gnew, e.gold, e.lk, e.tl⟩
theorem Ext.unbase {K : PySem.W.Frag} {g0 g1 g : G} {S0 H0 S1 H1 S H : Hp} (a : Ext K T g0 S0 H0 g1 S1 H1) (b : Ext K T g0 S1 H0 g S H) : Ext K T g0 S0 H0 g S H :=
  ⟨b.ok, fun x o z => b.mono x o (a.mono x o z), fun x z => (b.new x z).elim (fun q => a.new x q) .inr, b.fr, b.frz, b.there, b.gnew, b.gold, b.lk, b.tl⟩
theorem for_gen {J : It} {ds : List D} {i : Nat} {dn : Dn} {D : Ends} {g0 g1 : G} {S0 H0 S1 H1 : Hp} {env : Env'} {σ : St} {body : List Stmt} (e1 : Ext X.K T g0 S0 H0 g1 S1 H1) (en : EnvOk X.K (UF H0) g1 S1 H1 env σ) (l : Lk X.K T EX g0 S0 H0 dn D) (hb : PXs X T EX body w)
    (hst : ∀ k g' S' H', Ext X.K T g0 S1 H0 g' S' H' → (k < ds.length → J.go k H') ∧ (k = ds.length → J.stop k H') ∧ ∀ x H2, k < ds.length → J.yld k H' x H2 → H2 = H' ∧ ∃ d, ds[k]? = some d ∧ Rep X.K S1 x d)
    (h : forR i w ds dn env g1) : ∃ W : Nat → Nat → St → Hp → Prop, (∃ m, W 0 m σ H1) ∧ ∀ k m σ H, W k m σ H →
      (J.stop k H ∧ D.nx σ H) ∨ (J.go k H ∧ ∃ N : St → Hp → Prop, (∀ σ' H', N σ' H' → ∃ m', m' < m ∧ W (k + 1) m' σ' H') ∧ ∀ x H', J.yld k H x H' → gName i x σ H' fun σ2 H2 => TSemB X body { D with nx := N, ct := N, bk := D.nx } σ2 H2) := by
  obtain ⟨Pv, p0, ps, pd⟩ := h
  let St' : Nat → St → Hp → Prop := fun k σ H => ∃ env g S, Pv k env g ∧ Ext X.K T g0 S1 H0 g S H ∧ EnvOk X.K (UF H0) g S H env σ
  refine ⟨fun k m σ H => m = ds.length - k ∧ k ≤ ds.length ∧ St' k σ H, ⟨_, rfl, Nat.zero_le _, env, g1, S1, p0, e1.rebase, en⟩, ?_⟩
  rintro k m σ H ⟨rfl, hk, env, g, S, pk, e, n⟩
  obtain ⟨j1, j2, j3⟩ := hst k g S H e
  by_cases hlt : k < ds.length
  · refine .inr ⟨j1 hlt, St' (k + 1), fun σ' H' s => ⟨ds.length - (k + 1), by omega, rfl, hlt, s⟩, fun x H' hy => ?_⟩
    obtain ⟨rfl, d, hd1, hd2⟩ := j3 x H' hlt hy
    exact hb.run (ps k d env g hd1 pk) e (n.dat' i (hd2.mono e.mono)) ⟨fun env g S σ H q e n => ⟨env, g, S, q, e, n⟩, fun env g S σ H q e n => l.nx env g S σ H q (e1.unbase e) n, fun env g S σ H q e n => ⟨env, g, S, q, e, n⟩,
      fun d g S v H q e r => l.rt d g S v H q (e1.unbase e) r, fun C g S H q e => l.ex C g S H q (e1.unbase e)⟩
  · have ek : k = ds.length := by omega
    subst ek
    exact .inl ⟨j2 rfl, l.nx env g S σ H (pd env g pk) (e1.unbase e) n⟩
def wForL (i : Nat) (A : Tr) (w : TW) : TW := fun dn env g => A env g (onD dn fun d g1 => ∃ ds, items d = some ds ∧ notTup d ∧ forR i w ds dn env g1)
theorem px_forL {i : Nat} {x : Str} {px : Pos} {iter : Expr} {body : List Stmt} (hp : PassesOwn (model X.prog X.w) X.A X.env X.xe) (hc : X.calm = true) (hi : PM X T EX iter A1) (hg : PG X (.Name x px) (gName i)) (hb : PXs X T EX body w)
    (hs : ∀ x, foldedSetIterable iter X.env x = pure x := by intro _; rfl) : PX X T EX (.For (.Name x px) iter body [] pos) (wForL i A1 w) := by
  refine ⟨fun {g0 S0 H0 σ H g S env D dn} h e n l => semS_of (ps_for hp hc (pi_list pe_sem) hg pss_sem hs) ?_⟩
  refine hi.run h e.ok n (fun d g1 v1 H1 S1 k e1 r1 => ?_) (fun C g' H' S' k e1 => l.ex C g' S' H' k (e.trans e1))
  obtain ⟨ds, hd, nt, hf⟩ := k
  obtain ⟨a, vs, rfl, hq, hr⟩ := itemsL r1 hd nt
  refine ⟨a, rfl, ⟨vs, e1.ok.sql hq⟩, ?_⟩
  refine for_gen (e.trans e1) (n.ext e1) l hb (fun k g' S' H' e2 => ?_) hf
  have hq' : SqL X.K H' a vs := e2.ok.sql (sql_mono e2.mono hq)
  have hl := hr.length
  refine ⟨fun hk => ⟨vs, vs[k]'(by omega), hq', by simp⟩, fun hk => ⟨vs, hq', by omega⟩, fun x H2 _ y => ?_⟩
  obtain ⟨e3, y⟩ := y
  obtain ⟨d, h1, h2⟩ := hr.get' (y vs hq')
  exact ⟨e3, d, h1, h2⟩
def wForT (i : Nat) (A : Tr) (w : TW) : TW := fun dn env g => A env g (onD dn fun d g1 => ∃ ds, d = .tup ds ∧ forR i w ds dn env g1)
theorem px_forT {i : Nat} {x : Str} {px : Pos} {iter : Expr} {body : List Stmt} (hp : PassesOwn (model X.prog X.w) X.A X.env X.xe) (hc : X.calm = true) (hi : PM X T EX iter A1) (hg : PG X (.Name x px) (gName i)) (hb : PXs X T EX body w)
    (hs : ∀ x, foldedSetIterable iter X.env x = pure x := by intro _; rfl) : PX X T EX (.For (.Name x px) iter body [] pos) (wForT i A1 w) := by
  refine ⟨fun {g0 S0 H0 σ H g S env D dn} h e n l => semS_of (ps_for hp hc (pi_tup pe_sem) hg pss_sem hs) ?_⟩
  refine hi.run h e.ok n (fun d g1 v1 H1 S1 k e1 r1 => ?_) (fun C g' H' S' k e1 => l.ex C g' S' H' k (e.trans e1))
  obtain ⟨ds, rfl, hf⟩ := k
  cases r1 with
  | @tup a vs _ hq hr =>
    refine ⟨a, rfl, ⟨vs, e1.ok.sqt hq⟩, ?_⟩
    refine for_gen (e.trans e1) (n.ext e1) l hb (fun k g' S' H' e2 => ?_) hf
    have hq' : SqT X.K H' a vs := e2.ok.sqt (sqt_mono e2.mono hq)
    have hl := hr.length
    refine ⟨fun hk => ⟨vs, vs[k]'(by omega), hq', by simp⟩, fun hk => ⟨vs, hq', by omega⟩, fun x H2 _ y => ?_⟩
    obtain ⟨e3, y⟩ := y
    obtain ⟨d, h1, h2⟩ := hr.get' (y vs hq')
    exact ⟨e3, d, h1, h2⟩
def wForR (i : Nat) (A : Tr) (w : TW) : TW := fun dn env g => A env g (onD dn fun d g1 => ∃ n : Int, d = .int n ∧ -(2 ^ 62) ≤ n ∧ n < 2 ^ 62 ∧ forR i w (rangeD n.toNat) dn env g1)
theorem px_forR {i : Nat} {x : Str} {px p p2 : Pos} {body : List Stmt} (hp : PassesOwn (model X.prog X.w) X.A X.env X.xe) (hc : X.calm = true) (hgr : Gl X "range") (hmr : X.mg "range" = none) (ha : PM X T EX a A1) (hg : PG X (.Name x px) (gName i)) (hb : PXs X T EX body w)
    (hst : starEach [a] X.env = [(false, eval a X.env)] := by rfl) (hs : ∀ x, foldedSetIterable (.Call (.Name "range" p) [a] [] p2) X.env x = pure x := by intro _; rfl) : PX X T EX (.For (.Name x px) (.Call (.Name "range" p) [a] [] p2) body [] pos) (wForR i A1 w) := by
  refine ⟨fun {g0 S0 H0 σ H g S env D dn} h e n l => semS_of (ps_for hp hc (pi_range1 hgr hmr (pa_cons pe_sem pa_nil hst) hst) hg pss_sem hs) ?_⟩
  refine ha.run h e.ok n (fun d g1 v1 H1 S1 k e1 r1 => ?_) (fun C g' H' S' k e1 => l.ex C g' S' H' k (e.trans e1))
  obtain ⟨n', rfl, h0, hn, hf⟩ := k
  cases r1
  refine ⟨n', rfl, h0, hn, ?_⟩
  refine for_gen (e.trans e1) (n.ext e1) l hb (fun k g' S' H' e2 => ?_) hf
  rw [rangeD_length]
  refine ⟨fun h => h, fun h => Nat.le_of_eq h.symm, fun x H2 hk y => ?_⟩
  obtain ⟨e3, rfl⟩ := y
  refine ⟨e3, _, rangeD_get hk, ?_⟩
  rw [Int.zero_add]
  exact .int _
/-! o.f = value -/
def wSetF (C0 : Addr) (f : Str) (Ao Av : Tr) : TW := fun dn env g => Av env g (onD dn fun v g1 => Ao env g1 (onD dn fun d g2 => ∃ a fs, d = .ref a ∧ g2.get a = some (.ins C0 fs) ∧ fs.length < 1000 ∧ dn.nx env (g2.set a (.ins C0 (putD f v fs)))))
theorem px_setF {C0 : Addr} {f : Str} {pos' : Pos} (at_ : At X.K C0 f) (ho : PM X T EX o A1) (hv : PM X T EX a A2) (hs : swapsWith a (some (.Attribute o f pos')) pos.line X.env = pure false := by rfl) : PX X T EX (.Assign [.Attribute o f pos'] a pos) (wSetF C0 f A1 A2) := by
  refine ⟨fun {g0 S0 H0 σ H g S env D dn} h e n l => semS_of (ps_fld pe_sem pe_sem hs) ?_⟩
  refine hv.run h e.ok n (fun d g1 v1 H1 S1 k e1 r1 => ?_) (fun C g' H' S' k e1 => l.ex C g' S' H' k (e.trans e1))
  refine ho.run k e1.ok (n.ext e1) (fun d2 g2 v2 H2 S2 k2 e2 r2 => ?_) (fun C g' H' S' k e2 => l.ex C g' S' H' k ((e.trans e1).trans e2))
  obtain ⟨p, fs, rfl, hg, hl, k⟩ := k2
  cases r2
  obtain ⟨dx, vs, h1, h2⟩ := e2.ok.ins hg
  have e3 := e2.ok.set (o' := .ins C0 (putD f d fs)) (ho' := .ins C0 dx (putF f v1 vs)) hg h1 (.ins h2) (fun _ _ z => by cases z) (.ins (h2.put (r1.mono e2.mono)))
  exact ⟨p, C0, dx, vs, rfl, h1, at_.cl, at_.no, by rw [h2.length]; exact hl, l.nx env _ S2 σ _ k (((e.trans e1).trans e2).trans e3) (n.ext ((e1.trans e2).trans e3))⟩
/-! d[k] = value: an object; a dict of one's own -/
def wPut (Ad Ak Av : Tr) : TW := fun dn env g => Av env g (onD dn fun v g1 => Ad env g1 (onD dn fun d g2 => Ak env g2 (onD dn fun k g3 => ∃ a kvs key, d = .ref a ∧ g3.get a = some (.dct kvs) ∧ g3.lk a = false ∧ keyOf k = some key ∧ kvs.length < 100000 ∧ dn.nx env (g3.set a (.dct (dput kvs key v))))))
theorem px_put {pos' : Pos} (hu : X.A.units + 1 < cLine) (hd : PM X T EX o A1) (hk : PM X T EX b A2) (hv : PM X T EX a A3) (hs : swapsWith a (some (.Subscript o b pos')) pos.line X.env = pure false := by rfl) : PX X T EX (.Assign [.Subscript o b pos'] a pos) (wPut A1 A2 A3) := by
  refine ⟨fun {g0 S0 H0 σ H g S env D dn} h e n l => semS_of (ps_dput hu pe_sem pe_sem pe_sem hs) ?_⟩
  refine hv.run h e.ok n (fun d g1 v1 H1 S1 k e1 r1 => ?_) (fun C g' H' S' k e1 => l.ex C g' S' H' k (e.trans e1))
  refine hd.run k e1.ok (n.ext e1) (fun d2 g2 v2 H2 S2 k2 e2 r2 => ?_) (fun C g' H' S' k e2 => l.ex C g' S' H' k ((e.trans e1).trans e2))
  refine hk.run k2 e2.ok (n.ext (e1.trans e2)) (fun d3 g3 v3 H3 S3 k3 e3 r3 => ?_) (fun C g' H' S' k e3 => l.ex C g' S' H' k (((e.trans e1).trans e2).trans e3))
  obtain ⟨p, kvs, key, rfl, hg, hl, hkey, hlen, k⟩ := k3
  cases r2
  obtain ⟨vs, h1, h2⟩ := e3.ok.dctF hg hl
  have e4 := e3.ok.set (o' := .dct (dput kvs key d)) (ho' := .dK (putK vs key v1)) hg h1 (.dct h2) (fun _ _ z => by cases z) (.dct (h2.put (r1.mono (e2.trans e3).mono)))
  exact ⟨p, _, rfl, .inl ⟨vs, key, h1, keyOf_rep r3 hkey, szlt (by rw [h2.length]; exact hlen), rfl⟩, l.nx env _ S3 σ _ k ((((e.trans e1).trans e2).trans e3).trans e4) (n.ext (((e1.trans e2).trans e3).trans e4))⟩
end
end DL

set_option Elab.async false
set_option linter.all false
set_option maxRecDepth 100000
set_option maxHeartbeats 2000000
set_option autoImplicit false
/-! DL7: own lists and dicts, raise, a def's promise by its body. -/
namespace DL
open PySem PySem.Spec L2
section
variable {K : PySem.W.Frag} {T : List (Addr × Str)} {U : Addr → Prop} {g : G} {S H : Hp} {env : Env'} {σ : St}
theorem EnvOk.lt (n : EnvOk K U g S H env σ) {i : Nat} {s : Slot} (h : env[i]? = some s) : i < env.length := (List.getElem?_eq_some_iff.mp h).1
/-- an own object is changed -/
theorem EnvOk.ownSet (n : EnvOk K U g S H env σ) {i : Nat} {o o' : MO} {p : Addr} {ho' : HO} (hi : env[i]? = some (.own o)) (hp : σ[i]? = some (some (.ref p))) (r : RepMO K S ho' o') : EnvOk K U g S (upd H p ho') (env.set i (.own o')) σ := by
  have hl := n.lt hi
  obtain ⟨p', ho, a1, a2, a3, a4, a5, a6, a7⟩ := n.own i o hi
  rw [hp] at a1; cases a1
  refine ⟨by simp [n.len], fun j d q => ?_, fun j o2 q => ?_⟩
  · by_cases h : j = i
    · subst h; rw [List.getElem?_set_self hl] at q; cases q
    · rw [List.getElem?_set_ne (Ne.symm h)] at q; exact n.dat j d q
  · by_cases h : j = i
    · subst h
      rw [List.getElem?_set_self hl] at q; cases q
      refine ⟨p, ho', hp, upd_same, r, a4, a5, a6, fun k o3 q1 q2 => ?_⟩
      by_cases hk : k = j
      · exact hk
      · rw [List.getElem?_set_ne (Ne.symm hk)] at q1; exact a7 k o3 q1 q2
    · rw [List.getElem?_set_ne (Ne.symm h)] at q
      obtain ⟨p2, ho2, m1, m2, m3, m4, m5, m6, m7⟩ := n.own j o2 q
      have ne : p2 ≠ p := fun z => by subst z; exact h (m7 i o hi hp).symm
      refine ⟨p2, ho2, m1, by rw [upd_ne ne]; exact m2, m3, m4, m5, m6, fun k o3 q1 q2 => ?_⟩
      by_cases hk : k = i
      · subst hk; exact m7 k o hi q2
      · rw [List.getElem?_set_ne (Ne.symm hk)] at q1; exact m7 k o3 q1 q2
def frzD : MO → Option D
  | .lst ds => some (.lst ds)
  | .dct kvs => some (.dct kvs)
  | .ins _ _ => none
theorem EnvOk.freeze {g0 : G} {S0 H0 : Hp} (n : EnvOk K (UF H0) g S H env σ) (e : Ext K T g0 S0 H0 g S H) {i : Nat} {o : MO} {d : D} (hi : env[i]? = some (.own o)) (hd : frzD o = some d) :
    ∃ S', Ext K T g0 S0 H0 g S' H ∧ EnvOk K (UF H0) g S' H (env.set i (.dat d)) σ := by
  obtain ⟨p, ho, a1, a2, a3, a4, a5, a6, a7⟩ := n.own i o hi
  have hl := n.lt hi
  have sm : ∀ a u, S a = some u → upd S p ho a = some u := fun a u q => by rw [upd_ne (ne_of_none q a4)]; exact q
  refine ⟨upd S p ho, e.freeze a6 a4 a5 a2 (repMO_ntb a3), by simp [n.len], fun j d' q => ?_, fun j o2 q => ?_⟩
  · by_cases h : j = i
    · subst h
      rw [List.getElem?_set_self hl] at q; cases q
      refine ⟨.ref p, a1, ?_⟩
      cases a3 with
      | ins _ => cases hd
      | dct r => cases hd; exact .dct upd_same (r.mono sm)
      | lst r => cases hd; exact .lst upd_same (r.mono sm)
    · rw [List.getElem?_set_ne (Ne.symm h)] at q
      obtain ⟨v, h1, h2⟩ := n.dat j d' q
      exact ⟨v, h1, h2.mono sm⟩
  · by_cases h : j = i
    · subst h; rw [List.getElem?_set_self hl] at q; cases q
    · rw [List.getElem?_set_ne (Ne.symm h)] at q
      obtain ⟨p2, ho2, m1, m2, m3, m4, m5, m6, m7⟩ := n.own j o2 q
      have ne : p2 ≠ p := fun z => by subst z; exact h (m7 i o hi a1).symm
      refine ⟨p2, ho2, m1, m2, m3.mono sm, by rw [upd_ne ne]; exact m4, m5, m6, fun k o3 q1 q2 => ?_⟩
      by_cases hk : k = i
      · subst hk; rw [List.getElem?_set_self hl] at q1; cases q1
      · rw [List.getElem?_set_ne (Ne.symm hk)] at q1; exact m7 k o3 q1 q2
end
section
variable {X : Cx} {T : List (Addr × Str)} {EX : XK} {e a b c o : Expr} {st : Stmt} {sts ss1 ss2 : List Stmt} {A1 A2 A3 : Tr} {w w1 w2 : TW} {pos : Pos}
/-- an own object is one's own no more: from here on it stands still -/
def wFrz (i : Nat) (w : TW) : TW := fun dn env g => ∃ o d, env[i]? = some (.own o) ∧ frzD o = some d ∧ w dn (env.set i (.dat d)) g
theorem pxs_frz (i : Nat) (h : PXs X T EX sts w) : PXs X T EX sts (wFrz i w) := by
  refine ⟨fun {g0 S0 H0 σ H g S env D dn} ⟨o, d, h1, h2, h3⟩ e n l => ?_⟩
  obtain ⟨S', e', n'⟩ := n.freeze e h1 h2
  exact h.run h3 e' n' l
/-! x.append(e), x.insert(k, e), x[k] = e; x one's own -/
def wApp (i : Nat) (A : Tr) : TW := fun dn env g => ∃ ds, env[i]? = some (.own (.lst ds)) ∧ A env g (onD dn fun v g1 => ds.length < 100000 ∧ dn.nx (env.set i (.own (.lst (ds ++ [v])))) g1)
theorem px_app {i : Nat} {apos cpos : Pos} (hp : ∀ to te, PE X o to → PE X a te → PE X (.Call (.Attribute o "append" apos) [a] [] cpos) (tBM X.K "list" rAppend to (tCons te tNil))) (ho : PE X o (tVar i)) (ha : PM X T EX a A1)
    (hs : swapsWith (.Call (.Attribute o "append" apos) [a] [] cpos) none pos.line X.env = pure false := by rfl) : PX X T EX (.Expr (.Call (.Attribute o "append" apos) [a] [] cpos) pos) (wApp i A1) := by
  refine ⟨fun {g0 S0 H0 σ H g S env D dn} h e n l => semS_of (ps_expr (hp _ _ ho pe_sem) hs) ?_⟩
  obtain ⟨ds, hi, h⟩ := h
  obtain ⟨p, ho', a1, a2, a3, a4, a5, a6, a7⟩ := n.own i _ hi
  cases a3 with
  | @lst vs _ hr =>
    refine ⟨.ref p, a1, .inl ⟨rfl, _, .inl (.inl a2)⟩, ?_⟩
    refine ha.run h e.ok n (fun d g1 v1 H1 S1 k e1 r1 => ?_) (fun C g' H' S' k e1 => l.ex C g' S' H' k (e.trans e1))
    have n1 := n.ext e1
    obtain ⟨p', ho1, b1, b2, b3, b4, b5, b6, b7⟩ := n1.own i _ hi
    rw [a1] at b1; cases b1
    obtain ⟨m1, m2, m3⟩ := e1.mine a4 a5 a2 (fun _ z => by cases z)
    have r' : RepMO X.K S1 (.lst (vs ++ [v1])) (.lst (ds ++ [d])) := .lst ((hr.mono e1.mono).append (.cons r1 .nil))
    refine ⟨p, vs, v1, rfl, rfl, m3, szlt (by rw [hr.length]; exact k.1), l.nx _ g1 S1 σ _ k.2 ((e.trans e1).own a6 m1 m2 m3 (fun _ z => by cases z) (fun _ z => by cases z)) (n1.ownSet hi a1 r')⟩
def wIns (i : Nat) (A1 A2 : Tr) : TW := fun dn env g => ∃ ds, env[i]? = some (.own (.lst ds)) ∧ A1 env g (onD dn fun k g1 => A2 env g1 (onD dn fun v g2 => ∃ n : Int, k = .int n ∧ 0 ≤ n ∧ n < 2 ^ 63 ∧ ds.length < 100000 ∧ dn.nx (env.set i (.own (.lst (ds.take n.toNat ++ [v] ++ ds.drop n.toNat)))) g2))
theorem px_ins {i : Nat} {apos cpos : Pos} (hp : ∀ to te tf, PE X o to → PE X a te → PE X b tf → PE X (.Call (.Attribute o "insert" apos) [a, b] [] cpos) (tBM X.K "list" (fun x vs H Q => ∃ (l : Addr) (xs : List V) (i : Int) (y : V), x = .ref l ∧ vs = [.int i, y] ∧ H l = some (.lst xs) ∧ xs.length < sizeLine ∧ 0 ≤ i ∧ i < 2 ^ 63 ∧
    Q .non (upd H l (.lst (xs.take i.toNat ++ [y] ++ xs.drop i.toNat)))) to (tCons te (tCons tf tNil)))) (ho : PE X o (tVar i)) (ha : PM X T EX a A1) (hb : PM X T EX b A2)
    (hs : swapsWith (.Call (.Attribute o "insert" apos) [a, b] [] cpos) none pos.line X.env = pure false := by rfl) : PX X T EX (.Expr (.Call (.Attribute o "insert" apos) [a, b] [] cpos) pos) (wIns i A1 A2) := by
  refine ⟨fun {g0 S0 H0 σ H g S env D dn} h e n l => semS_of (ps_expr (hp _ _ _ ho pe_sem pe_sem) hs) ?_⟩
  obtain ⟨ds, hi, h⟩ := h
  obtain ⟨p, ho', a1, a2, a3, a4, a5, a6, a7⟩ := n.own i _ hi
  cases a3 with
  | @lst vs _ hr =>
    refine ⟨.ref p, a1, .inl ⟨rfl, _, .inl (.inl a2)⟩, ?_⟩
    refine ha.run h e.ok n (fun d g1 v1 H1 S1 k e1 r1 => ?_) (fun C g' H' S' k e1 => l.ex C g' S' H' k (e.trans e1))
    refine hb.run k e1.ok (n.ext e1) (fun d2 g2 v2 H2 S2 k2 e2 r2 => ?_) (fun C g' H' S' k e2 => l.ex C g' S' H' k ((e.trans e1).trans e2))
    obtain ⟨z, rfl, h0, h63, hlen, k⟩ := k2
    cases r1
    have e12 := e1.trans e2
    have n2 := n.ext e12
    obtain ⟨m1, m2, m3⟩ := e12.mine a4 a5 a2 (fun _ z => by cases z)
    have hr2 := hr.mono e12.mono
    have r' : RepMO X.K S2 (.lst (vs.take z.toNat ++ [v2] ++ vs.drop z.toNat)) (.lst (ds.take z.toNat ++ [d2] ++ ds.drop z.toNat)) := .lst (((hr2.take _).append (.cons r2 .nil)).append (hr2.drop _))
    refine ⟨p, vs, z, v2, rfl, rfl, m3, szlt (by rw [hr.length]; exact hlen), h0, h63, l.nx _ g2 S2 σ _ k ((e.trans e12).own a6 m1 m2 m3 (fun _ z => by cases z) (fun _ z => by cases z)) (n2.ownSet hi a1 r')⟩
def wPutO (i : Nat) (Ak Av : Tr) : TW := fun dn env g => Av env g (onD dn fun v g1 => ∃ kvs, env[i]? = some (.own (.dct kvs)) ∧ Ak env g1 (onD dn fun k g2 => ∃ key, keyOf k = some key ∧ kvs.length < 100000 ∧ dn.nx (env.set i (.own (.dct (dput kvs key v)))) g2))
theorem px_putO {i : Nat} {pos' : Pos} (hu : X.A.units + 1 < cLine) (ho : PE X o (tVar i)) (hk : PM X T EX b A2) (hv : PM X T EX a A3) (hs : swapsWith a (some (.Subscript o b pos')) pos.line X.env = pure false := by rfl) : PX X T EX (.Assign [.Subscript o b pos'] a pos) (wPutO i A2 A3) := by
  refine ⟨fun {g0 S0 H0 σ H g S env D dn} h e n l => semS_of (ps_dput hu ho pe_sem pe_sem hs) ?_⟩
  refine hv.run h e.ok n (fun d g1 v1 H1 S1 k e1 r1 => ?_) (fun C g' H' S' k e1 => l.ex C g' S' H' k (e.trans e1))
  obtain ⟨kvs, hi, k⟩ := k
  have n1 := n.ext e1
  obtain ⟨p, ho', a1, a2, a3, a4, a5, a6, a7⟩ := n1.own i _ hi
  cases a3 with
  | @dct vs _ hr =>
    refine ⟨.ref p, a1, ?_⟩
    refine hk.run k e1.ok n1 (fun d2 g2 v2 H2 S2 k2 e2 r2 => ?_) (fun C g' H' S' k e2 => l.ex C g' S' H' k ((e.trans e1).trans e2))
    obtain ⟨key, hkey, hlen, k⟩ := k2
    obtain ⟨m1, m2, m3⟩ := e2.mine a4 a5 a2 (fun _ z => by cases z)
    have r' : RepMO X.K S2 (.dK (putK vs key v1)) (.dct (dput kvs key d)) := .dct ((hr.mono e2.mono).put (r1.mono e2.mono))
    exact ⟨p, _, rfl, .inl ⟨vs, key, m3, keyOf_rep r2 hkey, szlt (by rw [hr.length]; exact hlen), rfl⟩, l.nx _ g2 S2 σ _ k (((e.trans e1).trans e2).own a6 m1 m2 m3 (fun _ z => by cases z) (fun _ z => by cases z)) ((n1.ext e2).ownSet hi a1 r')⟩
/-! len of an own list, an item of it -/
def rLenO (i : Nat) : Tr := fun env g Kt => ∃ ds, env[i]? = some (.own (.lst ds)) ∧ Kt (.val (.int (ds.length : Int))) g
theorem pm_lenO {i : Nat} {x : Str} {p : Pos} (ho : PE X a (tVar i)) (hg : Gl X "len") (hm : X.mg "len" = none) (he : starEach [a] X.env = [(false, eval a X.env)] := by rfl) : PM X T EX (.Call (.Name "len" p) [a] [] pos) (rLenO i) := by
  refine ⟨fun {U σ H g S env Q Kt} ⟨ds, hi, k⟩ ok en hv hx => sem_of (pe_callB call_len_seq hg hm PySem.boot_len (pa_cons ho pa_nil he) (by decide) (by decide) he) ?_⟩
  obtain ⟨p, ho', a1, a2, a3, a4, a5, a6, a7⟩ := en.own i _ hi
  cases a3 with
  | @lst vs _ hr =>
    refine ⟨.ref p, a1, p, vs, rfl, .inl (.inl (.inl a2)), ?_⟩
    rw [hr.length]
    exact hv _ g _ H S k (Ext.refl ok) (.int _)
def rIxO (i : Nat) (A : Tr) : Tr := fun env g Kt => ∃ ds, env[i]? = some (.own (.lst ds)) ∧ A env g (onV Kt fun d g1 => ∃ n v, d = .int n ∧ atI ds n = some v ∧ Kt (.val v) g1)
theorem pm_ixO {i : Nat} (ho : PE X a (tVar i)) (hb : PM X T EX b A1) (hs : PlainIx b) : PM X T EX (.Subscript a b pos) (rIxO i A1) := by
  refine ⟨fun {U σ H g S env Q Kt} ⟨ds, hi, h⟩ ok en hv hx => sem_of (pe_ix ix_list ho pe_sem hs) ?_⟩
  obtain ⟨p, ho', a1, a2, a3, a4, a5, a6, a7⟩ := en.own i _ hi
  cases a3 with
  | @lst vs _ hr =>
    refine ⟨.ref p, a1, ?_⟩
    refine hb.run h ok en (fun d g1 v1 H1 S1 k1 e1 r1 => ?_) (fun C g' H' S' k e => hx C g' H' S' k e)
    obtain ⟨n, v, rfl, hat, k⟩ := k1
    cases r1
    obtain ⟨m1, m2, m3⟩ := e1.mine a4 a5 a2 (fun _ z => by cases z)
    obtain ⟨y, h1, h2⟩ := reps_atI (hr.mono e1.mono) hat
    exact ⟨p, vs, n, y, rfl, rfl, .inl (.inl m3), h1, hv v g1 y H1 S1 k e1 h2⟩
/-! raise -/
/-- an exception class of the module's own -/
structure Exc (K : PySem.W.Frag) (mg : Str → Option Value) (x : Str) (C : Addr) : Prop where
  xi : PySem.W.excIn K C He.veBase "ValueError.__new__" = true
  gl : mg x = some (.ref C)
  k : PySem.W.keepIn K (.ref C) = true
  b : PySem.W.subIn K (.ref C) (.type "BaseException") = some true
  t : PySem.W.typeIn K (.ref C) = some (.type "type")
def wRaise (C : Addr) : TW := fun dn _ g => dn.ex C g
theorem px_raise {x m : Str} {C : Addr} {j : Nat} {p p2 p3 : Pos} (ex : Exc X.K X.mg x C) (hc : X.calm = true) (tk : L2N.Takes X (fun cls d _ H => EX cls d H)) (hg : Gl X x) (hdb : (x == ("__debug__" : Str)) = false := by decide) :
    PX X T EX (.Raise (some (.Call (.Name x p) [.Constant (.str m) j p2] [] p3)) none pos) (wRaise C) := by
  refine ⟨fun {g0 S0 H0 σ H g S env D dn} h e n l => semS_of (L2N.ps_raise hc tk (L2N.pmk_own PySem.F.excBase_ValueError ex.xi ex.gl ex.k (raises_own ex.b ex.t) hg hdb)) ?_⟩
  exact l.ex C g S H h e
end
/-! a def keeps its promise -/
def startD (m : Nat) (ds : List D) : Env' := ds.map Slot.dat ++ List.replicate (m - ds.length) Slot.no
theorem env_start {K : PySem.W.Frag} {g : G} {S H : Hp} {U : Addr → Prop} {N : List Str} {vs : List V} {ds : List D} (r : Reps K S vs ds) : EnvOk K U g S H (startD N.length ds) (L2.start N vs) := by
  have hl := r.length
  unfold startD L2.start
  refine ⟨by simp [hl], fun i d q => ?_, fun i o q => ?_⟩
  · by_cases h : i < ds.length
    · rw [List.getElem?_append_left (by simpa using h), List.getElem?_map] at q
      rw [List.getElem?_append_left (by simp [hl]; exact h), List.getElem?_map]
      cases z : ds[i]? with
      | none => rw [z] at q; cases q
      | some x =>
        rw [z] at q; cases q
        obtain ⟨y, h1, h2⟩ := r.get z
        exact ⟨y, by rw [h1]; rfl, h2⟩
    · rw [List.getElem?_append_right (by simpa using h), List.getElem?_replicate] at q
      split at q <;> cases q
  · by_cases h : i < ds.length
    · rw [List.getElem?_append_left (by simpa using h), List.getElem?_map] at q
      cases z : ds[i]? with
      | none => rw [z] at q; cases q
      | some x => rw [z] at q; cases q
    · rw [List.getElem?_append_right (by simpa using h), List.getElem?_replicate] at q
      split at q <;> cases q
/-- what is wanted behind a def's body -/
def endD (Kt : KR) : Dn := ⟨fun _ g => Kt (.val .non) g, fun d g => Kt (.val d) g, fun C g => Kt (.exc C) g, fun _ _ => False, fun _ _ => False⟩
/-- the body of a def, in whatever context it is called -/
abbrev Body (P : Program) (w : World) (K : PySem.W.Frag) (mg : Str → Option Value) (base : Heap) (T : List (Addr × Str)) (N : List Str) (qual : Str) (scope : Scope) (f : Addr) (k : Nat) (body : List Stmt) (t : TW) : Prop :=
  ∀ (cdv : Value) (A : Around) (outer : List Env) (s : Shared) (H : Hp) (E : XK), Room k (A.deeper (PyProof.Rows.envOfC qual scope s.heap.objs.size f cdv)) → PXs (cxOf (L2N.CX P w) P w K mg base N qual scope f cdv A outer s H E) T E body t
section
variable {P : Program} {w : World} {K : PySem.W.Frag} {mg : Str → Option Value} {base : Heap} {T : List (Addr × Str)}
theorem fnD {name qual : Str} {params : Arguments} {body : List Stmt} {scope : Scope} {f : Addr} {fd : FuncData} {N ps : List Str} {k : Nat} {spec : SpD} (F : FunD K name qual params body scope [] [] f fd) (S : FnScope N ps scope)
    (h : ∃ t : TW, Body P w K mg base T N qual scope f k body t ∧ ∀ ds g Kt, ds.length = ps.length → spec ds g Kt → t (endD Kt) (startD N.length ds) g) : FnOk P w K mg base (L2N.CX P w) (k + 1) f fd ps (spD K T ps.length spec) := by
  obtain ⟨t, hb, hs⟩ := h
  refine F.ok S (fun vs H Q E ⟨g, Sx, ds, Kt, hl, _⟩ => hl) (fun cdv A outer s H vs Q E hr hsp => ?_)
  obtain ⟨g, Sx, ds, Kt, hl, ok, r, sp, hv, hx⟩ := hsp
  refine ⟨_, pss_sem, ?_⟩
  refine (hb cdv A outer s H E hr).run (hs ds g Kt (by rw [← r.length]; exact hl) sp) (Ext.refl ok) (env_start r) ⟨fun env g' S' σ' H' q e n => hv .non g' .non H' S' q e .non, fun _ _ _ _ _ q _ _ => q.elim, fun _ _ _ _ _ q _ _ => q.elim, fun d g' S' v H' q e r => hv d g' v H' S' q e r, fun C g' S' H' q e => hx C g' H' S' q e⟩
theorem pas_body {N : List Str} {qual : Str} {scope : Scope} {f : Addr} {cdv : Value} {A : Around} {outer : List Env} {s : Shared} {H : Hp} {E : XK} : Pas (cxOf (L2N.CX P w) P w K mg base N qual scope f cdv A outer s H E) E :=
  L2N.passes_call (W := fun cls d _ H => E cls d H) (L2N.takes_of rfl rfl rfl rfl) (fun _ _ _ _ h => h)
theorem tk_body {N : List Str} {qual : Str} {scope : Scope} {f : Addr} {cdv : Value} {A : Around} {outer : List Env} {s : Shared} {H : Hp} {E : XK} : L2N.Takes (cxOf (L2N.CX P w) P w K mg base N qual scope f cdv A outer s H E) (fun cls d _ H => E cls d H) := L2N.takes_of rfl rfl rfl rfl
theorem po_body {N : List Str} {qual : Str} {scope : Scope} {f : Addr} {cdv : Value} {A : Around} {outer : List Env} {s : Shared} {H : Hp} {E : XK} :
    PassesOwn (model P w) (cxOf (L2N.CX P w) P w K mg base N qual scope f cdv A outer s H E).A (cxOf (L2N.CX P w) P w K mg base N qual scope f cdv A outer s H E).env (cxOf (L2N.CX P w) P w K mg base N qual scope f cdv A outer s H E).xe := passes_of (X := cxOf (L2N.CX P w) P w K mg base N qual scope f cdv A outer s H E) rfl
end
end DL

set_option Elab.async false
set_option linter.all false
set_option maxRecDepth 100000
set_option maxHeartbeats 2000000
set_option autoImplicit false
/-! DL8: built-ins on data. -/
namespace DL
open PySem PySem.Spec L2
section
variable {K : PySem.W.Frag} {T : List (Addr × Str)} {g : G} {S H : Hp}
theorem Reps.one {v : List V} {d : D} (r : Reps K S v [d]) : ∃ x, v = [x] ∧ Rep K S x d := by
  cases r with
  | cons a b => cases b; exact ⟨_, rfl, a⟩
theorem Reps.two {v : List V} {d e : D} (r : Reps K S v [d, e]) : ∃ x y, v = [x, y] ∧ Rep K S x d ∧ Rep K S y e := by
  cases r with
  | cons a b => cases b with | cons b c => cases c; exact ⟨_, _, rfl, a, b⟩
def intsOf : List D → Option (List Int)
  | [] => some []
  | .int i :: r => (intsOf r).map (i :: ·)
  | _ => none
theorem intsOf_some : ∀ {ds : List D} {ns : List Int}, intsOf ds = some ns → ds = ns.map D.int
  | [], ns, h => by simp [intsOf] at h; subst h; rfl
  | d :: r, ns, h => by
    cases d with
    | int i =>
      simp only [intsOf] at h
      obtain ⟨ms, h1, rfl⟩ := Option.map_eq_some_iff.mp h
      rw [intsOf_some h1]; rfl
    | _ => simp [intsOf] at h
@[simp] theorem intsOf_map : ∀ ns : List Int, intsOf (ns.map D.int) = some ns
  | [] => rfl
  | n :: ns => by simp [intsOf, intsOf_map ns]
def strsOf : List D → Option (List Str)
  | [] => some []
  | .str i :: r => (strsOf r).map (i :: ·)
  | _ => none
theorem strsOf_some : ∀ {ds : List D} {ns : List Str}, strsOf ds = some ns → ds = ns.map D.str
  | [], ns, h => by simp [strsOf] at h; subst h; rfl
  | d :: r, ns, h => by
    cases d with
    | str i =>
      simp only [strsOf] at h
      obtain ⟨ms, h1, rfl⟩ := Option.map_eq_some_iff.mp h
      rw [strsOf_some h1]; rfl
    | _ => simp [strsOf] at h
@[simp] theorem strsOf_map : ∀ ns : List Str, strsOf (ns.map D.str) = some ns
  | [] => rfl
  | n :: ns => by simp [strsOf, strsOf_map ns]
def blsOf : List D → Option (List Bool)
  | [] => some []
  | .bl i :: r => (blsOf r).map (i :: ·)
  | _ => none
theorem blsOf_some : ∀ {ds : List D} {ns : List Bool}, blsOf ds = some ns → ds = ns.map D.bl
  | [], ns, h => by simp [blsOf] at h; subst h; rfl
  | d :: r, ns, h => by
    cases d with
    | bl i =>
      simp only [blsOf] at h
      obtain ⟨ms, h1, rfl⟩ := Option.map_eq_some_iff.mp h
      rw [blsOf_some h1]; rfl
    | _ => simp [blsOf] at h
@[simp] theorem blsOf_map : ∀ ns : List Bool, blsOf (ns.map D.bl) = some ns
  | [] => rfl
  | n :: ns => by simp [blsOf, blsOf_map ns]
/-- a list that is no tuple -/
def litems (d : D) : Option (List D) := match d with
  | .lst xs => some xs
  | .frl xs => some xs
  | _ => none
theorem litems_rep (ok : HOK K T g S H) {v : V} {d : D} {ds : List D} (r : Rep K S v d) (e : litems d = some ds) : ∃ p vs, v = .ref p ∧ SqL K H p vs ∧ Reps K S vs ds := by
  cases r <;> simp [litems] at e <;> subst e
  · rename_i x y; exact ⟨_, _, rfl, ok.sql (.inl (.inl x)), y⟩
  · rename_i x y; exact ⟨_, _, rfl, ok.sql x, y⟩

/-! len -/
def lenF (g : G) (ds : List D) : Option D := match ds with
  | [.str x] => if x.length ≤ 100000 then some (.int (x.length : Int)) else none
  | [d] => match items d with
    | some xs => some (.int (xs.length : Int))
    | none => (asDict g d).map fun kvs => .int (kvs.length : Int)
  | _ => none
def rLenA (K : PySem.W.Frag) : List V → Hp → VK → Prop := fun xs H Q => (∃ z, xs = [.str z] ∧ z.length ≤ sizeLine ∧ Q (.int z.length) H) ∨ (∃ p ys, xs = [.ref p] ∧ (SqL K H p ys ∨ SqT K H p ys) ∧ Q (.int ys.length) H) ∨ ∃ a kvs, xs = [V.ref a] ∧ Rd H a (.dK kvs) ∧ Q (.int kvs.length) H
theorem va_len : VA K T (rLenA K) lenF := by
  intro g S H xs ds d Q ok r e hq
  cases ds with
  | nil => simp [lenF] at e
  | cons d0 r0 =>
    cases r0 with
    | cons _ _ => cases d0 <;> simp [lenF] at e
    | nil =>
      obtain ⟨x, rfl, rx⟩ := r.one
      have gen : (match items d0 with | some xs => some (D.int (xs.length : Int)) | none => (asDict g d0).map fun kvs => .int (kvs.length : Int)) = some d → rLenA K [x] H Q := fun e => by
        cases h : items d0 with
        | some ys =>
          rw [h] at e; cases e
          obtain ⟨p, vs, rfl, h1, h2⟩ := items_rep ok rx h
          refine .inr (.inl ⟨p, vs, rfl, h1, ?_⟩)
          rw [h2.length]
          exact hq _ H S (Ext.refl ok) (.int _)
        | none =>
          rw [h] at e
          obtain ⟨kvs, h1, rfl⟩ := Option.map_eq_some_iff.mp e
          obtain ⟨p, vs, rfl, h2, h3⟩ := asDict_rep ok rx h1
          refine .inr (.inr ⟨p, vs, rfl, h2, ?_⟩)
          rw [h3.length]
          exact hq _ H S (Ext.refl ok) (.int _)
      cases d0 with
      | str z =>
        cases rx
        simp only [lenF] at e
        split at e
        · rename_i hl; cases e
          exact .inl ⟨z, rfl, sz hl, hq _ H S (Ext.refl ok) (.int _)⟩
        · cases e
      | _ => exact gen e
/-! sorted -/
def isort (ns : List Int) : List Int := ns.mergeSort
theorem isort_perm (ns : List Int) : (isort ns).Perm ns := List.mergeSort_perm ns _
theorem isort_sorted (ns : List Int) : (isort ns).Pairwise (· ≤ ·) := by
  have h := List.pairwise_mergeSort (le := fun a b : Int => decide (a ≤ b)) (fun a b c h1 h2 => by simp at h1 h2 ⊢; omega) (fun a b => by simp; omega) ns
  exact h.imp fun h => by simpa using h
theorem sorted_unique {a b : List Int} (p : a.Perm b) (ha : a.Pairwise (· ≤ ·)) (hb : b.Pairwise (· ≤ ·)) : a = b := p.eq_of_pairwise (fun x y _ _ h1 h2 => Int.le_antisymm h1 h2) ha hb
theorem isort_eq {a b : List Int} (p : a.Perm b) (ha : a.Pairwise (· ≤ ·)) : a = isort b := sorted_unique (p.trans (isort_perm b).symm) ha (isort_sorted b)
theorem isort_self {a : List Int} (ha : a.Pairwise (· ≤ ·)) : isort a = a := (isort_eq (List.Perm.refl a) ha).symm
theorem isort_length (ns : List Int) : (isort ns).length = ns.length := (isort_perm ns).length_eq
def inlsOf : List Key → Option (List Int)
  | [] => some []
  | .inl i :: r => (inlsOf r).map (i :: ·)
  | _ => none
theorem inlsOf_some : ∀ {ds : List Key} {ns : List Int}, inlsOf ds = some ns → ds = ns.map Sum.inl
  | [], ns, h => by simp [inlsOf] at h; subst h; rfl
  | .inl i :: r, ns, h => by
    simp only [inlsOf] at h
    obtain ⟨ms, h1, rfl⟩ := Option.map_eq_some_iff.mp h
    rw [inlsOf_some h1]; rfl
  | .inr i :: r, ns, h => by simp [inlsOf] at h
@[simp] theorem inlsOf_map : ∀ ns : List Int, inlsOf (ns.map Sum.inl) = some ns
  | [] => rfl
  | n :: ns => by simp [inlsOf, inlsOf_map ns]
/-- sorted of a list of ints, of a dict's int keys (fewer than 64) -/
def sortF (g : G) (ds : List D) : Option D := match ds with
  | [d] => match litems d with
    | some xs => (intsOf xs).map fun ns => .lst ((isort ns).map D.int)
    | none => (asDict g d).bind fun kvs => (inlsOf (kvs.map (·.1))).bind fun ns => if ns.length < 64 then some (.lst ((isort ns).map D.int)) else none
  | _ => none
def rSortA (K : PySem.W.Frag) : List V → Hp → VK → Prop := fun vs H Q => rSortedI K vs H Q ∨ ∃ (a : Addr) (kvs : List (Key × V)) (ks : List Int), vs = [.ref a] ∧ Rd H a (.dK kvs) ∧ kvs.map (·.1) = ks.map Sum.inl ∧ ks.length < 64 ∧ ∀ (ys : List Int) (p : Addr), ys.Perm ks → ys.Pairwise (· ≤ ·) → H p = none → Q (.ref p) (upd H p (.lst (ys.map V.int)))
theorem va_sort : VA K T (rSortA K) sortF := by
  intro g S H xs ds d Q ok r e hq
  cases ds with
  | nil => simp [sortF] at e
  | cons d0 r0 =>
    cases r0 with
    | cons _ _ => simp [sortF] at e
    | nil =>
      obtain ⟨x, rfl, rx⟩ := r.one
      simp only [sortF] at e
      cases h : litems d0 with
      | some ys =>
        rw [h] at e
        obtain ⟨ns, h1, rfl⟩ := Option.map_eq_some_iff.mp e
        obtain ⟨p, vs, rfl, h2, h3⟩ := litems_rep ok rx h
        rw [intsOf_some h1] at h3
        rw [h3.ints] at h2
        refine .inl ⟨p, ns, rfl, h2, fun ns' q pm pw hqn => ?_⟩
        rw [isort_eq pm pw]
        have e2 := ok.new (o := .lst ((isort ns).map V.int)) hqn (fun ps z => by cases z)
        exact hq _ _ _ e2 (.lst upd_same (reps_ints _))
      | none =>
        rw [h] at e
        obtain ⟨kvs, h1, e⟩ := Option.bind_eq_some_iff.mp e
        obtain ⟨ns, h2, e⟩ := Option.bind_eq_some_iff.mp e
        split at e
        · rename_i hl; cases e
          obtain ⟨p, vs, rfl, h3, h4⟩ := asDict_rep ok rx h1
          refine .inr ⟨p, vs, ns, rfl, h3, h4.keys.trans (inlsOf_some h2), hl, fun ns' q pm pw hqn => ?_⟩
          rw [isort_eq pm pw]
          have e2 := ok.new (o := .lst ((isort ns).map V.int)) hqn (fun ps z => by cases z)
          exact hq _ _ _ e2 (.lst upd_same (reps_ints _))
        · cases e
/-! sum, all, any, max, min -/
def sumF (_ : G) (ds : List D) : Option D := match ds with
  | [d] => ((litems d).bind intsOf).map fun ns => .int ns.sum
  | _ => none
theorem va_sum : VA K T (rSum K) sumF := by
  intro g S H xs ds d Q ok r e hq
  cases ds with
  | nil => simp [sumF] at e
  | cons d0 r0 =>
    cases r0 with
    | cons _ _ => simp [sumF] at e
    | nil =>
      obtain ⟨x, rfl, rx⟩ := r.one
      simp only [sumF] at e
      obtain ⟨ns, h1, rfl⟩ := Option.map_eq_some_iff.mp e
      obtain ⟨ys, h2, h3⟩ := Option.bind_eq_some_iff.mp h1
      obtain ⟨p, vs, rfl, h4, h5⟩ := litems_rep ok rx h2
      rw [intsOf_some h3] at h5
      rw [h5.ints] at h4
      exact ⟨p, ns, rfl, h4, hq _ H S (Ext.refl ok) (.int _)⟩
def allF (_ : G) (ds : List D) : Option D := match ds with
  | [d] => ((litems d).bind blsOf).map fun ns => .bl (ns.all id)
  | _ => none
def anyF (_ : G) (ds : List D) : Option D := match ds with
  | [d] => ((litems d).bind blsOf).map fun ns => .bl (ns.any id)
  | _ => none
theorem va_all : VA K T (rAll K) allF := by
  intro g S H xs ds d Q ok r e hq
  cases ds with
  | nil => simp [allF] at e
  | cons d0 r0 =>
    cases r0 with
    | cons _ _ => simp [allF] at e
    | nil =>
      obtain ⟨x, rfl, rx⟩ := r.one
      simp only [allF] at e
      obtain ⟨ns, h1, rfl⟩ := Option.map_eq_some_iff.mp e
      obtain ⟨ys, h2, h3⟩ := Option.bind_eq_some_iff.mp h1
      obtain ⟨p, vs, rfl, h4, h5⟩ := litems_rep ok rx h2
      rw [blsOf_some h3] at h5
      rw [h5.bls] at h4
      exact ⟨p, ns, rfl, h4, hq _ H S (Ext.refl ok) (.bl _)⟩
theorem va_any : VA K T (rAny K) anyF := by
  intro g S H xs ds d Q ok r e hq
  cases ds with
  | nil => simp [anyF] at e
  | cons d0 r0 =>
    cases r0 with
    | cons _ _ => simp [anyF] at e
    | nil =>
      obtain ⟨x, rfl, rx⟩ := r.one
      simp only [anyF] at e
      obtain ⟨ns, h1, rfl⟩ := Option.map_eq_some_iff.mp e
      obtain ⟨ys, h2, h3⟩ := Option.bind_eq_some_iff.mp h1
      obtain ⟨p, vs, rfl, h4, h5⟩ := litems_rep ok rx h2
      rw [blsOf_some h3] at h5
      rw [h5.bls] at h4
      exact ⟨p, ns, rfl, h4, hq _ H S (Ext.refl ok) (.bl _)⟩
def maxF (_ : G) (ds : List D) : Option D := match ds with
  | [.int i, .int j] => some (.int (max i j))
  | _ => none
def minF (_ : G) (ds : List D) : Option D := match ds with
  | [.int i, .int j] => some (.int (min i j))
  | _ => none
theorem va_max : VA K T (fun xs H Q => ∃ i j, xs = [.int i, .int j] ∧ Q (.int (if j > i then j else i)) H) maxF := by
  intro g S H xs ds d Q ok r e hq
  unfold maxF at e
  split at e
  · rename_i i j
    cases e
    obtain ⟨x, y, rfl, r1, r2⟩ := r.two
    cases r1; cases r2
    refine ⟨i, j, rfl, ?_⟩
    have : (if j > i then j else i) = max i j := by split <;> omega
    rw [this]
    exact hq _ H S (Ext.refl ok) (.int _)
  · cases e
theorem va_min : VA K T (fun xs H Q => ∃ i j, xs = [.int i, .int j] ∧ Q (.int (if j < i then j else i)) H) minF := by
  intro g S H xs ds d Q ok r e hq
  unfold minF at e
  split at e
  · rename_i i j
    cases e
    obtain ⟨x, y, rfl, r1, r2⟩ := r.two
    cases r1; cases r2
    refine ⟨i, j, rfl, ?_⟩
    have : (if j < i then j else i) = min i j := by split <;> omega
    rw [this]
    exact hq _ H S (Ext.refl ok) (.int _)
  · cases e
def intF (_ : G) (ds : List D) : Option D := match ds with
  | [.int i] => some (.int i)
  | [.bl k] => some (.int (if k then 1 else 0))
  | _ => none
theorem va_int : VA K T (fun xs H Q => (∃ i, xs = [.int i] ∧ Q (.int i) H) ∨ ∃ k, xs = [.bl k] ∧ Q (.int (if k then 1 else 0)) H) intF := by
  intro g S H xs ds d Q ok r e hq
  unfold intF at e
  split at e
  · cases e
    obtain ⟨x, rfl, r1⟩ := r.one
    cases r1
    exact .inl ⟨_, rfl, hq _ H S (Ext.refl ok) (.int _)⟩
  · cases e
    obtain ⟨x, rfl, r1⟩ := r.one
    cases r1
    exact .inr ⟨_, rfl, hq _ H S (Ext.refl ok) (.int _)⟩
  · cases e
def ordF (_ : G) (ds : List D) : Option D := match ds with
  | [.str x] => match x.cps.toList with
    | [c] => some (.int (c : Int))
    | _ => none
  | _ => none
theorem va_ord : VA K T (fun xs H Q => ∃ x, xs = [.str x] ∧ x.length = 1 ∧ Q (.int (x.cps.getD 0 0 : Nat)) H) ordF := by
  intro g S H xs ds d Q ok r e hq
  unfold ordF at e
  split at e
  · rename_i x
    split at e
    · rename_i c hc
      cases e
      obtain ⟨v, rfl, r1⟩ := r.one
      cases r1
      rw [one_sign hc]
      exact ⟨_, rfl, rfl, hq _ H S (Ext.refl ok) (.int _)⟩
    · cases e
  · cases e
/-! join -/
def joinF (_ : G) (ds : List D) : Option D := match ds with
  | [.str x, d] => ((litems d).bind strsOf).bind fun ys => if (ys.map (·.length)).sum + ys.length * x.length ≤ 16777216 then some (.str (Txt.join x ys)) else none
  | _ => none
end
section
variable {X : Cx} {T : List (Addr × Str)} {EX : XK} {a b c o : Expr} {es : List Expr} {A1 A2 : Tr} {RA : TrA} {p pos : Pos}
theorem call_lenA : CallR X (.builtin "len") (rLenA X.K) := call_len_str.or (call_len_seq.or fun pins s σ H xs us Q I r h => by
  obtain ⟨a, kvs, rfl, ha, q⟩ := h
  obtain ⟨u, rfl, ru⟩ := vals1 r
  cases ru
  exact d_len I ha fun t s' I' => ⟨.int kvs.length, H, I', ⟨t, rfl⟩, q⟩)
abbrev Starts (X : Cx) (a : Expr) (es : List Expr) : Prop := starEach (a :: es) X.env = (false, eval a X.env) :: starEach es X.env
theorem pm_len (hg : Gl X "len") (hm : X.mg "len" = none) (ha : PMA X T EX [a] RA) (he : Starts X a [] := by rfl) : PM X T EX (.Call (.Name "len" p) [a] [] pos) (rCB lenF RA) := pm_callB call_lenA va_len hg hm boot_len ha (by decide) (by decide) he
theorem call_sortA (hc : X.calm = true) : CallR X (.builtin "sorted") (rSortA X.K) := cr_sortedI.or (call_sortedDI hc)
theorem pm_sorted (hc : X.calm = true) (hg : Gl X "sorted") (hm : X.mg "sorted" = none) (ha : PMA X T EX [a] RA) (he : Starts X a [] := by rfl) : PM X T EX (.Call (.Name "sorted" p) [a] [] pos) (rCB sortF RA) := pm_callB (call_sortA hc) va_sort hg hm (by decide +kernel) ha (by decide) (by decide) he
theorem pm_sum (hc : X.calm = true) (hg : Gl X "sum") (hm : X.mg "sum" = none) (ha : PMA X T EX [a] RA) (he : Starts X a [] := by rfl) : PM X T EX (.Call (.Name "sum" p) [a] [] pos) (rCB sumF RA) := pm_callB (cr_sum hc) va_sum hg hm (by decide +kernel) ha (by decide) (by decide) he
theorem pm_all (hc : X.calm = true) (hg : Gl X "all") (hm : X.mg "all" = none) (ha : PMA X T EX [a] RA) (he : Starts X a [] := by rfl) : PM X T EX (.Call (.Name "all" p) [a] [] pos) (rCB allF RA) := pm_callB (cr_all hc) va_all hg hm (by decide +kernel) ha (by decide) (by decide) he
theorem pm_any (hc : X.calm = true) (hg : Gl X "any") (hm : X.mg "any" = none) (ha : PMA X T EX [a] RA) (he : Starts X a [] := by rfl) : PM X T EX (.Call (.Name "any" p) [a] [] pos) (rCB anyF RA) := pm_callB (cr_any hc) va_any hg hm (by decide +kernel) ha (by decide) (by decide) he
theorem pm_max (hc : X.calm = true) (hg : Gl X "max") (hm : X.mg "max" = none) (ha : PMA X T EX [a, b] RA) (he : Starts X a [b] := by rfl) (hpl : (backTo pos (starEach [b] X.env)).any (·.1) = false := by rfl) : PM X T EX (.Call (.Name "max" p) [a, b] [] pos) (rCB maxF RA) := pm_callB (call_max2 hc) va_max hg hm (by decide +kernel) ha (by decide) (by decide) he hpl
theorem pm_min (hc : X.calm = true) (hg : Gl X "min") (hm : X.mg "min" = none) (ha : PMA X T EX [a, b] RA) (he : Starts X a [b] := by rfl) (hpl : (backTo pos (starEach [b] X.env)).any (·.1) = false := by rfl) : PM X T EX (.Call (.Name "min" p) [a, b] [] pos) (rCB minF RA) := pm_callB (call_min2 hc) va_min hg hm (by decide +kernel) ha (by decide) (by decide) he hpl
theorem pm_ord (hg : Gl X "ord") (hm : X.mg "ord" = none) (ha : PMA X T EX [a] RA) (he : Starts X a [] := by rfl) : PM X T EX (.Call (.Name "ord" p) [a] [] pos) (rCB ordF RA) := pm_callB call_ord va_ord hg hm (by decide +kernel) ha (by decide) (by decide) he
theorem pm_int1 (hg : Gl X "int") (hm : X.mg "int" = none) (ha : PMA X T EX [a] RA) (he : Starts X a [] := by rfl) : PM X T EX (.Call (.Name "int" p) [a] [] pos) (rCB intF RA) := pm_cb (pe_callTy call_int1 hg hm (by decide +kernel) pa_sem (by decide) (by decide) he rfl) va_int ha
/-! isinstance against a built-in class -/
def dTy : D → Option String
  | .non => some "NoneType"
  | .bl _ => some "bool"
  | .int _ => some "int"
  | .str _ => some "str"
  | .lst _ => some "list"
  | .tup _ => some "tuple"
  | _ => none
def isF (n : String) (d : D) : Option Bool := (dTy d).bind fun t => kitB t n
def rIs (n : String) (A : Tr) : Tr := fun env g Kt => A env g (onV Kt fun d g1 => ∃ b, isF n d = some b ∧ Kt (.val (.bl b)) g1)
theorem dTy_rep {K : PySem.W.Frag} {g : G} {S H : Hp} (ok : HOK K T g S H) {v : V} {d : D} {t : String} (r : Rep K S v d) (e : dTy d = some t) : TyX K H v (.type t) := by
  cases r <;> simp [dTy] at e <;> subst e
  · exact .base .non
  · exact .base (.bl _)
  · exact .base (.int _)
  · exact .base (.str _)
  · rename_i x y
    rcases ok.rd (.inl x) with z | ⟨od, z⟩
    · exact .base (.lst z)
    · exact .base (.frz z)
  · rename_i x y
    rcases ok.sqt x with (z | ⟨od, z⟩) | ⟨o, _, _, z, zc, _⟩
    · exact .base (.tup z)
    · exact .fTuple z
    · exact .kTuple z zc
theorem pm_is {n : String} {x : Str} {p2 : Pos} (hg : Gl X "isinstance") (hm : X.mg "isinstance" = none) (hg2 : Gl X x) (hm2 : X.mg x = none) (hb : bootBuiltins x = some (.type n)) (ha : PM X T EX a A1) (hx : x ≠ "__name__" := by decide) (hd : (x == ("__debug__" : Str)) = false := by decide)
    (h1 : Starts X a [.Name x p2] := by rfl) (h2 : starEach [Expr.Name x p2] X.env = [(false, eval (.Name x p2) X.env)] := by rfl) (h3 : (backTo pos (starEach [Expr.Name x p2] X.env)).any (·.1) = false := by rfl) : PM X T EX (.Call (.Name "isinstance" p) [a, .Name x p2] [] pos) (rIs n A1) := by
  refine ⟨fun {U σ H g S env Q Kt} h ok en hv hx' => sem_of (pe_callB call_isi hg hm (by decide +kernel) (pa_cons pe_sem (pa_cons (pe_bltn (v := .ty n) hg2 hm2 hb rfl hx hd) pa_nil h2) h1) (by decide) (by decide) h1 h3) ?_⟩
  refine ha.run h ok en (fun d g1 v H1 S1 k e r => ?_) (fun C g' H' S' k e => hx' C g' H' S' k e)
  obtain ⟨b, hb', k⟩ := k
  obtain ⟨t, h4, h5⟩ := Option.bind_eq_some_iff.mp hb'
  exact ⟨v, .ty n, _, _, b, rfl, .ty n, dTy_rep e.ok r h4, kit_ty h5, hv _ g1 _ H1 S1 k e (.bl b)⟩
end
@[simp] theorem kit_ii : kitB "int" "int" = some true := by decide +kernel
@[simp] theorem kit_bi : kitB "bool" "int" = some true := by decide +kernel
@[simp] theorem kit_si : kitB "str" "int" = some false := by decide +kernel
@[simp] theorem kit_ni : kitB "NoneType" "int" = some false := by decide +kernel
@[simp] theorem kit_li : kitB "list" "int" = some false := by decide +kernel
@[simp] theorem kit_ti : kitB "tuple" "int" = some false := by decide +kernel
@[simp] theorem kit_ib : kitB "int" "bool" = some false := by decide +kernel
@[simp] theorem kit_bb : kitB "bool" "bool" = some true := by decide +kernel
@[simp] theorem kit_sb : kitB "str" "bool" = some false := by decide +kernel
@[simp] theorem kit_nb : kitB "NoneType" "bool" = some false := by decide +kernel
@[simp] theorem kit_lb : kitB "list" "bool" = some false := by decide +kernel
@[simp] theorem kit_tb : kitB "tuple" "bool" = some false := by decide +kernel
@[simp] theorem kit_is : kitB "int" "str" = some false := by decide +kernel
@[simp] theorem kit_bs : kitB "bool" "str" = some false := by decide +kernel
@[simp] theorem kit_ss : kitB "str" "str" = some true := by decide +kernel
@[simp] theorem kit_ns : kitB "NoneType" "str" = some false := by decide +kernel
@[simp] theorem kit_ls : kitB "list" "str" = some false := by decide +kernel
@[simp] theorem kit_ts : kitB "tuple" "str" = some false := by decide +kernel
end DL

set_option Elab.async false
set_option linter.all false
set_option maxRecDepth 100000
set_option maxHeartbeats 2000000
set_option autoImplicit false
/-! HT: lists walked and summed while an exception is handled. -/
namespace DL
open PySem PySem.Spec L2 L2H
section
variable {prog : Program} {w : World} {A : Around} {E : Value → Shared → Prop} {s : Shared}
theorem list_end_hot {it l x1 : Addr} {i : Nat} {items : Array Value} {Q : Option Value → Shared → Prop} (hot : HotX.HotAt A x1 s.heap) (hne : x1 ≠ it) (hit : s.heap.IsListIter it l i) (hl : s.heap.IsList l items) (hx : items[i]? = none)
    (hQ : ∀ h', Heap.ExtBut it s.heap h' → Q none { s with heap := h' }) : wpAny (model prog w) A (pyNext (.ref it)) Q E s := by
  obtain ⟨o, ho, hc, hd⟩ := id hit
  obtain ⟨ol, hol, _, nl, hdl⟩ := hl
  obtain ⟨hh, o1, vs1, h1, d1, c1⟩ := hot
  unfold pyNext
  refine wpAny_bind (wpAny_attempt (wpAny_callSpecial?_slot (name := Str.ofString "__next__") hit.typeIs slot_listiter_next
    (wpAny_call_entry slot_listiter_next hit.typeIs entry_listiter_next ?_ (args_listiter_next _))))
  show wpAny _ _ (field (.ref it) 0 >>= _) _ _ s
  refine wpAny_bind (wpAny_field ho hd (x := .ref l) rfl ?_)
  show wpAny _ _ (if (Value.ref l == Value.none) = true then _ else _) _ _ s
  rw [if_neg (show ¬ ((Value.ref l == Value.none) = true) from Bool.false_ne_true)]
  show wpAny _ _ (field (.ref it) 1 >>= _) _ _ s
  refine wpAny_bind (wpAny_field ho hd (x := .int i 0) rfl ?_)
  show wpAny _ _ (seqItems? (.ref l) >>= _) _ _ s
  refine wpAny_bind (wpAny_seqItems hol hdl ?_)
  simp only [Int.toNat_natCast, hx]
  refine wpAny_bind (wpAny_rule (wpAny_bind (wpAny_setField ho hd (by simp) ?_)))
  show wpAny _ _ (newExc (.type "StopIteration") [] >>= _) _ _ _
  refine wpAny_bind ?_
  simp only [newExc, newTuple]
  refine wpAny_bind (wpAny_newObj_type ?_ (by size_fits))
  refine wpAny_bind (m := firstArgMember _ _) (wpAny_of_eq (a := Value.none) (by first | rfl | (simp only [firstArgMember]; rfl)) ?_)
  refine wpAny_newObj_type ?_ (by size_fits)
  have h1' : ∀ (f : Obj → Obj), (s.heap.update it f).get? x1 = some o1 := fun f => by rw [Heap.get?_update_other _ _ (Ne.symm hne)]; exact h1
  refine HotX.raiseNew_hot ⟨hh, o1, vs1, Heap.get?_push_of_some _ (Heap.get?_push_of_some _ (h1' _)), d1, c1⟩ (Nat.ne_of_lt (Heap.lt_size (Heap.get?_push_of_some _ (h1' _)))) (Heap.get?_push_size _ rfl) rfl (by first | (simp; done) | (simp; omega) | (simp only [Array.size_append]; simp; omega)) ?_
  refine wpAny_bind (wpAny_isInstance (T := "StopIteration") (b := true) ⟨_, Heap.get?_update_self _ (Heap.get?_push_size _ rfl) rfl, rfl⟩ isSubtype_stop ?_)
  refine wpAny_pure (hQ _ fun b o hb e => ?_)
  have e1 : (s.heap.update it (Obj.mapFields (·.setIfInBounds 0 Value.none))).get? b = some o := by rw [Heap.get?_update_other _ _ (Ne.symm hb)]; exact e
  rw [Heap.get?_update_other _ _ (Nat.ne_of_gt (Heap.lt_size (Heap.get?_push_of_some _ e1)))]
  exact Heap.get?_push_of_some _ (Heap.get?_push_of_some _ e1)

/-- the handled exception stands in the heap, its context is None -/
def HotO (x1 : Addr) (h : Heap) : Prop := ∃ (o : Obj) (vs : Array Value), h.get? x1 = some o ∧ o.data = .fields vs ∧ vs[2]? = some .none
theorem walks_hot {x1 : Addr} (hh : A.handled = some (.ref x1)) (I ax : Addr) (hne : ax ≠ I) (h1 : x1 ≠ I) (items : Array Value) :
    Walks prog w A I [I, ax, x1] [I] items.size (fun i v => items[i]? = some v) (fun i h => h.IsListIter I ax i ∧ h.IsList ax items ∧ HotO x1 h) where
  sub := fun b hb => by simp at hb; simp [hb]
  frame := fun _ _ _ st hk => ⟨st.1.at fun o e => hk I (by simp) o e, st.2.1.at fun o e => hk ax (by simp) o e, by
    obtain ⟨o, vs, e1, e2, e3⟩ := st.2.2
    exact ⟨o, vs, hk x1 (by simp) o e1, e2, e3⟩⟩
  item := fun i s Q E hi st hQ => by
    refine wpAny_pyNext_list_item st.1 st.2.1 (x := items[i]) (by simp [hi]) fun h' hit' hs' => ?_
    refine hQ _ h' s.toks (by simp [hi]) ⟨hit', st.2.1.extBut hs'.extBut hne, ?_⟩ fun b o hb e => hs'.extBut b o (fun h => hb (by simp [h])) e
    obtain ⟨o, vs, e1, e2, e3⟩ := st.2.2
    exact ⟨o, vs, hs'.extBut x1 o h1 e1, e2, e3⟩
  done := fun s Q E st hQ => list_end_hot ⟨hh, st.2.2⟩ h1 st.1 st.2.1 (by simp) fun h' he' => hQ h' s.toks fun b o hb e => he' b o (fun h => hb (by simp [h])) e
  self := fun _ _ _ _ st hQ => wpAny_pyIter_listiter st.1 hQ
theorem sum_hot {l x1 : Addr} {its : List Value} {ns : List Int} {Q : Value → Shared → Prop} (hot : HotX.HotAt A x1 s.heap) (hl : s.heap.IsList l its.toArray) (hi : PyProof.Rows.IntsAre its ns)
    (h : ∀ h' tk t', (∀ b o, s.heap.get? b = some o → h'.get? b = some o) → Q (.int ns.sum t') { s with heap := h', toks := tk }) : wpAny (model prog w) A (call (.builtin "sum") [.ref l]) Q E s := by
  obtain ⟨xs, e⟩ := hi.allInts.items
  have hn : numsOf (intItems xs).toList = ns := by rw [← e]; exact hi.numsOf
  rw [nums_intItems] at hn
  rw [e] at hl
  obtain ⟨hh, o1, vs1, g1, g2, g3⟩ := hot
  have hlt := Heap.lt_size g1
  refine call_sum_walkG (iter_intList hl fun s₂ e2 st hfp hlI => ?_)
  subst e2
  refine ⟨_, _, _, _, _, _, numAt xs, rfl, walks_hot (A := A.in1) (x1 := x1) hh _ l hlI (Nat.ne_of_lt hlt) (intItems xs), ⟨st.1, st.2, o1, vs1, Heap.get?_push_of_some _ g1, g2, g3⟩, fun b hb => ?_, (fun _ _ => intItems_at), fun h' tk t' hk => ?_⟩
  · rcases List.mem_cons.mp hb with rfl | hb
    · exact hfp _ (by simp)
    · rcases List.mem_cons.mp hb with rfl | hb
      · exact hfp _ (by simp)
      · have e3 : b = x1 := by simpa using hb
        subst e3
        show _ < (s.heap.push _).objs.size
        rw [Heap.size_push]
        exact Nat.lt_succ_of_lt hlt
  · have q := h h' tk t' (old_kept hk)
    rw [← hn] at q
    have : preSum (numAt xs) (intItems xs).size = (xs.toList.map (·.1)).sum := by
      rw [show (intItems xs).size = xs.size from by simp [intItems], preSum_eq, List.take_of_length_le (by simp)]
    rw [this]
    exact q
end
section
variable {X : Cx} {T : List (Addr × Str)} {EX : XK}
theorem cr_sumH (hc : HotC X) : CallR X (.builtin "sum") (rSum X.K) := by
  intro pins s σ H vs us Q I r h
  obtain ⟨a, ns, rfl, hs, q⟩ := h
  obtain ⟨its, rv, hl, _⟩ := I.list hs
  rw [Vals.ref1 r]
  obtain ⟨x1, hot⟩ := hc.at I
  exact sum_hot hot hl.isList rv.ints fun h' tk t' hk => ⟨.int _, H, I.kept hk, ⟨_, rfl⟩, q⟩

theorem HotC.hotO {p : Addr × Obj} (hot : Hot1 X.A p) {h : Heap} (e : h.get? p.1 = some p.2) : HotX.HotAt X.A p.1 h := by
  obtain ⟨hh, v1, e1, c1⟩ := hot
  exact ⟨hh, p.2, v1, e, e1, c1⟩
theorem pe_lcH {elt tg iter : Expr} {ifs : List Expr} {scope : Scope} {own : List (Str × Nat)} {pos : Pos} {ti : TE} {g : TG} {tt : TT} {te : TE} (hh : HotC X) (hN : X.N.Nodup) (hi : PE X iter ti) (ok : BlkOk X.N X.env.scope scope own)
    (hg : ∀ (s : Shared) (H : Hp) (C : Addr) (cl : List (Str × Addr)) (fp : List Addr), PG (X.blk s H scope (compEnvC scope cl C X.env) fp) tg g) (ht : ∀ (s : Shared) (H : Hp) (C : Addr) (cl : List (Str × Addr)) (fp : List Addr), PTs (X.blk s H scope (compEnvC scope cl C X.env) fp) ifs tt)
    (he : ∀ (s : Shared) (H : Hp) (C : Addr) (cl : List (Str × Addr)) (fp : List Addr), PE (X.blk s H scope (compEnvC scope cl C X.env) fp) elt te) (hs : ∀ x, foldedSetIterable iter X.env x = pure x := by intro _; rfl) :
    PE X (.ListComp elt [⟨tg, iter, ifs, 0⟩] scope pos) (tLc (iList X.K ti) g tt te (own.map (·.2))) := by
  refine ⟨fun pins s σ H Q I h => ?_⟩
  rw [eval_ListComp]
  obtain ⟨hp0, hot, hpm⟩ := hh
  have hfree : ∀ y ∈ scope.names, y.2 = .free → ∃ c, X.env.cells.lookup y.1 = some c := fun y hy e => by
    rcases ok.free y hy e with k | k
    · exact I.ok.has _ (.inl k)
    · exact I.ok.has _ (.inr k)
  refine wpAny_comprehension_free (use := none) rfl hs (closure_ok hfree) ok.kind (fun y hy e => by rw [ok.uniq y hy, e])
    (thn (hi.run pins s σ H _ I h) fun xv s1 hx => ?_)
  obtain ⟨xa, H1, I1, r1, a, rfl, ⟨xs0, hq0⟩, q⟩ := hx
  cases r1
  obtain ⟨its0, rv0, p0, hz0⟩ := I1.list hq0
  refine wpAny_pyIter_list p0.isList ?_
  generalize hit : s1.heap.objs.size = it
  generalize hs2 : ({ s1 with heap := s1.heap.push { cls := .type "list_iterator", data := .fields #[.ref a, .int 0 0] } } : Shared) = s2
  have I2 : Inv X pins σ H1 s2 := by rw [← hs2]; exact I1.kept (t' := s1.toks) fun b o e => Heap.get?_push_of_some _ e
  have st2 : s2.heap.IsListIter it a 0 := by rw [← hs2, ← hit]; exact ⟨_, Heap.get?_push_size _ rfl, rfl, rfl⟩
  have fp2 : FpOk X pins H1 it := by rw [← hit]; exact I1.fpOk (Nat.le_refl _) (I1.hok.fresh (Nat.le_refl _))
  have lt2 : it < s2.heap.objs.size := by obtain ⟨o, e, _⟩ := st2; exact Heap.lt_size e
  refine wpAny_newObj_type (newEnv_comp ?_) (by show 0 ≤ sizeLine; decide)
  generalize hD : s2.heap.objs.size = D
  have hDn : H1 D = none := I2.hok.fresh (Nat.le_of_eq hD)
  obtain ⟨W, ⟨m0, w0⟩, turn⟩ := q D hDn
  generalize hs3 : ({ s2 with heap := s2.heap.push { cls := .type "list", data := .seq ([] : List Value).toArray } } : Shared) = s3
  have I3 : Inv X pins σ (upd H1 D (.lst [])) s3 := by
    rw [← hs3]
    refine I2.laid (t' := s2.toks) (fun b o e => Heap.get?_push_of_some _ e) (Nat.le_of_eq hD) ⟨Nat.zero_le _, [], 0, .nil, ?_⟩
    rw [← hD]
    exact Heap.get?_push_size _ rfl
  have h3 : s3.heap = s2.heap.push { cls := .type "list", data := .seq ([] : List Value).toArray } := by rw [← hs3]
  have f3 : ∀ b ∈ [it], FpOk X pins (upd H1 D (.lst [])) b ∧ b < s3.heap.objs.size := fun b hb => by
    have eb : b = it := by simpa using hb
    subst eb
    refine ⟨⟨?_, fp2.2⟩, by rw [h3, Heap.size_push]; exact Nat.lt_succ_of_lt lt2⟩
    rw [upd_ne (by rw [← hD]; exact Nat.ne_of_lt lt2)]
    exact fp2.1
  have st3 : s3.heap.IsListIter it a 0 := st2.at fun o e => by rw [h3]; exact Heap.get?_push_of_some _ e
  have I4 := block_start I3 ok hN f3
  have pg := hg s3 (upd H1 D (.lst [])) s3.heap.objs.size (cellsFrom (s3.heap.objs.size + 1) scope.names (cloFrom X.env.cells scope.names [])) [it]
  have pt := ht s3 (upd H1 D (.lst [])) s3.heap.objs.size (cellsFrom (s3.heap.objs.size + 1) scope.names (cloFrom X.env.cells scope.names [])) [it]
  have pe := he s3 (upd H1 D (.lst [])) s3.heap.objs.size (cellsFrom (s3.heap.objs.size + 1) scope.names (cloFrom X.env.cells scope.names [])) [it]
  show codeAny _ _ (.compStart (.ListComp elt [⟨tg, iter, ifs, 0⟩] scope pos) 0 (.ref it) (.ref D) (compEnvC scope (cellsFrom (s3.heap.objs.size + 1) scope.names (cloFrom X.env.cells scope.names [])) s3.heap.objs.size X.env)) (compPost (model X.prog X.w) X.A X.xe none _ (.ref D) s3.heap.objs.size) { s3 with heap := pushCells (s3.heap.push { cls := .type "dict", data := .dict #[] }) scope.names }
  have nfp : (upd H1 D (.lst [])) it = none := (f3 it (by simp)).1.1
  -- the handled exception
  have P3 := I3.pin hp0 (List.mem_append_left _ hpm)
  have nst : hp0.1 ∉ frs X.stack := fun hm => (List.mem_cons.mp (I3.stkSub hp0.1 hm)).elim P3.2.2.1 P3.2.2.2.1
  have nit : hp0.1 ≠ it := fp2.2.2.2.2.2 hp0 (List.mem_append_left _ hpm)
  generalize hce : compEnvC scope (cellsFrom (s3.heap.objs.size + 1) scope.names (cloFrom X.env.cells scope.names [])) s3.heap.objs.size X.env = ce at I4 pg pt pe ⊢
  have cL : ce.locals = s3.heap.objs.size := by subst hce; rfl
  generalize hH3 : upd H1 D (.lst []) = H3 at I3 I4 pg pt pe w0 nfp f3 P3
  generalize hs4 : ({ s3 with heap := pushCells (s3.heap.push { cls := .type "dict", data := .dict #[] }) scope.names } : Shared) = s4 at I4 ⊢
  have st4 : s4.heap.IsListIter it a 0 := st3.at fun o e => by rw [← hs4]; exact pushCells_keeps _ _ _ _ (Heap.get?_push_of_some _ e)
  have stat : ∀ {σ' : L2.St} {H' : Hp} {s' : Shared}, Inv (X.blk s3 H3 scope ce [it]) [] σ' H' s' → H' it = none → ∀ b ∈ [it], FpOk (X.blk s3 H3 scope ce [it]) [] H' b := fun {σ' H' s'} I' hn b hb => by
    have eb : b = it := by simpa using hb
    subst eb
    exact ⟨hn, (I'.ok.exf b hb).1, I'.ok.exfs b hb, .inl hb, fun x c e => (I'.ok.exf b hb).2 x c e, fun p hp => absurd (show p ∈ ([] : List (Addr × Obj)) ++ [] from hp) (by simp)⟩
  have hotB : ∀ {σ' : L2.St} {H' : Hp} {s' : Shared}, Inv (X.blk s3 H3 scope ce [it]) [] σ' H' s' → HotX.HotAt X.A hp0.1 s'.heap := fun {σ' H' s'} I' =>
    HotC.hotO hot (I'.base.keep hp0.1 hp0.2 P3.1 P3.2.1 nst (fun z => nit (by simpa using (show hp0.1 ∈ [it] from z))))
  have loop : codeAny (model X.prog X.w) X.A (.compLoop (.ListComp elt [⟨tg, iter, ifs, 0⟩] scope pos) 0 (.ref it) (.ref D) ce) (compPost (model X.prog X.w) X.A X.xe none (EP X pins σ Q) (.ref D) s3.heap.objs.size) s4 := by
    refine compLoop_any (fun n s' => ∃ i H', Inv (X.blk s3 H3 scope ce [it]) [] (wipe σ (own.map (·.2))) H' s' ∧ s'.heap.IsListIter it a i ∧ H' it = none ∧ W i n H') ?_ m0 ⟨0, H3, I4, st4, nfp, w0⟩
    rintro n s5 ⟨i, H5, I5, st5, n5, w5⟩
    obtain ⟨f0, f1, f2, f3', f4, f5⟩ := stat I5 n5 it (by simp)
    rcases turn i n H5 w5 with ⟨stop, qq⟩ | ⟨go, Nx, hNx, step⟩
    · obtain ⟨xs, hq, hx⟩ := stop
      obtain ⟨its, rv, p, hz⟩ := I5.list hq
      have hl := rv.length
      refine list_end_hot (hotB I5) nit st5 p.isList (by simp; omega) fun h' eb => ?_
      have I6 : Inv (X.blk s3 H3 scope ce [it]) [] (wipe σ (own.map (·.2))) H5 { s5 with heap := h' } := I5.turned (t' := s5.toks) (fun b o hb e => eb b o hb e) f0 f1 f3' f4 f5
      have I7 : Inv X pins σ H5 { s5 with heap := h' } := I3.call' (ch := [it]) I6.os I6.base I6.hok I6.bare fun b hb => ⟨(f3 b hb).1.2.2.2.1, (f3 b hb).1.2.1, (f3 b hb).1.2.2.2.2.1, (f3 b hb).1.2.2.2.2.2⟩
      have nC : H5 s3.heap.objs.size = none := by
        have z : H5 ce.locals = none := I6.free
        rw [cL] at z
        exact z
      obtain ⟨m, hn, _⟩ := I6.loc
      have hn : h'.Ns ce.locals m := hn
      rw [cL] at hn
      obtain ⟨e0, e1, e2, e3, e4, e5⟩ := I3.fpOk (Nat.le_refl _) nC
      exact ⟨m, hn, fun h'' sb => ⟨.ref D, H5, I7.turned (t' := s5.toks) (fun b o hb e => (sb.2 b hb).trans e) e0 e1 e3 e4 e5, rfl, qq⟩⟩
    · obtain ⟨xs, x0, hq, hx⟩ := go
      obtain ⟨its, rv, p, hz⟩ := I5.list hq
      obtain ⟨u, hu, ru⟩ := rv.get hx
      refine wpAny_pyNext_list_item st5 p.isList (x := u) (by simpa using hu) fun h' st' sb => ?_
      have I6 : Inv (X.blk s3 H3 scope ce [it]) [] (wipe σ (own.map (·.2))) H5 { s5 with heap := h' } := I5.turned (t' := s5.toks) (fun b o hb e => (sb.2 b hb).trans e) f0 f1 f3' f4 f5
      obtain ⟨oi, ei, ci, di⟩ := id st'
      refine go_of (s := { s5 with heap := h' }) ei ci di (by decide) ?_
      have y7 : (Itl X.K a).yld i H5 x0 H5 := ⟨rfl, fun ys hy => by rw [I5.list_inj hy hq]; exact hx⟩
      have I7' := I6.pinned (stat I6 n5) (fun b hb => by
        have eb : b = it := by simpa using hb
        subst eb
        exact ⟨oi, ei, fun v z => by rw [di] at z; cases z⟩)
      refine thnF (pg.run _ _ _ H5 x0 u _ I7' ru (step x0 H5 y7)) fun _ s8 ⟨σ8, H8, I8, hw8, q8⟩ => ?_
      refine thnF (pt.run _ s8 σ8 H8 _ I8 q8) fun b s9 ⟨H9, I9, q9⟩ => ?_
      have fin : ∀ {s' : Shared} {H' : Hp}, Inv (X.blk s3 H3 scope ce [it]) ([] ++ pinsAt [it] h') σ8 H' s' → Nx H' → ∃ m, m < n ∧ ∃ i H', Inv (X.blk s3 H3 scope ce [it]) [] (wipe σ (own.map (·.2))) H' s' ∧ s'.heap.IsListIter it a i ∧ H' it = none ∧ W i m H' := fun {s' H'} I' nx => by
        obtain ⟨m', hm, w'⟩ := hNx H' nx
        have pin' : ∀ b ∈ [it], ∀ o, h'.get? b = some o → s'.heap.get? b = some o ∧ H' b = none := fun b hb o e =>
          let z := I'.pin (b, o) (List.mem_append_right _ (List.mem_append_right _ (mem_pinsAt hb e)))
          ⟨z.1, z.2.1⟩
        have hl : (wipe σ (own.map (·.2))).length = σ8.length := by rw [← hw8, wipe_length]
        refine ⟨m', hm, i + 1, H', (I'.unpinned (pins := [])).weak hl (fun j v e => ?_), st'.at fun o e => (pin' it (by simp) o e).1, (pin' it (by simp) oi ei).2, w'⟩
        rw [← hw8] at e
        exact (wipe_some e).1
      cases b with
      | false =>
        simp only [Bool.false_eq_true, if_false] at q9 ⊢
        exact fin I9 q9
      | true =>
        simp only [if_true] at q9 ⊢
        refine thnF (pe.run _ s9 σ8 H9 _ I9 q9) fun z s10 ⟨yv, H10, I10, r10, acc, hD10, hz10, nx⟩ => ?_
        exact app_ok (X := X.blk s3 H3 scope ce [it]) I10 hD10 hz10 r10 fun s11 I11 => fin I11 nx
  exact codeAny_compStart_list loop (wpAny_pyIter_listiter st4 loop)
end
end DL

set_option Elab.async false
set_option linter.all false
set_option maxRecDepth 100000
set_option maxHeartbeats 2000000
set_option autoImplicit false
/-! HW: a def called in an except suite with what was caught; told(lambda: ..). -/
namespace DL
open PySem PySem.Spec L2 L2H PyProof.Rows
section
variable {K : PySem.W.Frag} {T : List (Addr × Str)} {g : G} {S H H1 : Hp}
theorem HOK.extN (ok : HOK K T g S H) (e : LamX.ExtN H H1) (t : LamX.Tabs T H1) : Ext K T g S H g S H1 := by
  refine ⟨⟨fun a o q => ?_, fun a o q => ?_, ok.sep, t, ok.ntb⟩, fun _ _ q => q, fun _ q => .inl q, fun a o q _ n => e a o q n, fun a o u q => e a _ q (fun _ z => by cases z), Fre.old fun a o q n => ⟨o, e a o q n, n⟩, fun a q => .inl q, fun a q => q, rfl, rfl⟩
  · rcases ok.sub a o q with z | ⟨z1, z2, od, z3⟩
    · exact .inl (e a o z fun ps w => by subst w; exact ok.ntb a ps q)
    · exact .inr ⟨z1, z2, od, e a _ z3 (fun _ z => by cases z)⟩
  · obtain ⟨ho, r, z⟩ := ok.obj a o q
    refine ⟨ho, r, ?_⟩
    rcases z with z | ⟨z1, z2, od, z3⟩
    · exact .inl (e a _ z (repMO_ntb r))
    · exact .inr ⟨z1, z2, od, e a _ z3 (fun _ z => by cases z)⟩
end
/-! ### a def entered while p's exception is handled -/
section
variable {CX : CXT} {P : Program} {w : World} {K : PySem.W.Frag} {mg : Str → Option Value} {base : Heap} {T : List (Addr × Str)}
theorem run_H {k : Nat} {f : Addr} {name qual : Str} {params : Arguments} {body : List Stmt} {scope : Scope} {dV kV doc pm cdv ct oc : Value} {an od : Option Addr}
    {osl : Array (Option Value)} {N ps : List Str} (lk : K.lookup f = some ⟨oc, od, .func (PySem.W.fnOf name qual params body scope dV kV doc pm an cdv ct), osl⟩) (hcd : PySem.W.codeIn K cdv qual = true) (S : FnScope N ps scope)
    {A : Around} {outer : List Env} {s : Shared} {H : Hp} {args : Args} {us : List Value} {vs : List V} {Q : VK} {E : XK} {p : Addr × Obj} (hr : RoomH (k + 1) A) (hpin : PinOk outer H s p) (e0 : Env0 P w K mg base A outer s H) (hb : BindsTo s (PySem.W.fnOf name qual params body scope dV kV doc pm an cdv ct) args (ps.zip us)) (r : Vals vs us) (hl : vs.length = ps.length)
    (hbody : RoomH k (A.deeper (envOfC qual scope s.heap.objs.size f cdv)) → ∃ t, PSs (cxH CX P w K mg base N qual scope f cdv A outer s H E p) body t ∧ t { nx := fun _ H' => Q .non H', rt := Q } (L2.start N vs) H) :
    codeAny (model P w) A (.call (.ref f) args) (CR CX outer P w H s Q E) s := by
  have KX : K.In s.heap := e0.mod.kin.keeps fun b o e => (e0.bs b o e).1
  have lim : s.heap.NoLimit := e0.mod.nolimit.keeps fun b o e => (e0.bs b o e).1
  have hkind : ∀ y ∈ ps.zip us, scope.names.lookup y.1 = some .local ∨ (scope.names.lookup y.1 = some .cell ∧ ((cellsFrom (s.heap.objs.size + 1) scope.names []).lookup y.1).isSome = true) := fun ⟨n, v⟩ hy => by
    rcases S.par n (List.of_mem_zip hy).1 with q | q
    · exact .inl q
    · exact .inr ⟨q, PySem.W.cellsFrom_some _ _ _ (.inl q)⟩
  refine codeAny_call_function hr.depth (KX _ _ lk) rfl S.co S.gen rfl (PySem.W.codeRec_of KX hcd) (hb _ _ _ _ ?_)
  refine wpAny_newFunctionEnv_cells S.kind hkind fun env he s1 x => ?_
  subst he
  refine ⟨lim.keeps x.toInCall.keep, codeAny_func ?_⟩
  obtain ⟨t, ht, hq⟩ := hbody (hr.deeper _)
  have I : Inv (cxH CX P w K mg base N qual scope f cdv A outer s H E p) [] (L2.start N vs) H s1 := inv_startH S hpin e0 hl r x
  refine wpAny_mono (ht.run [] s1 (L2.start N vs) H _ I hq) (fun fl s' hs => ?_) fun e s' hs => hs
  cases fl with
  | ret u =>
    obtain ⟨v, σ', H', J, rv, q⟩ := hs
    exact ⟨v, H', J.os, J.bare, J.base, J.hok, rv, q⟩
  | next =>
    obtain ⟨σ', H', J, q⟩ := hs
    exact ⟨V.non, H', J.os, J.bare, J.base, J.hok, rfl, q⟩
  | brk =>
    obtain ⟨_, _, _, q⟩ := hs
    exact False.elim q
  | cont =>
    obtain ⟨_, _, _, q⟩ := hs
    exact False.elim q
/-- the object of a caught exception of the class at C -/
structure ExcO (C : Addr) (p : Addr × Obj) : Prop where
  z : Zc (.ref C) none p.2
  f : ∃ vs : Array Value, p.2.data = .fields vs ∧ vs[2]? = some .none
/-- what a def of one parameter says to a caught exception: wd by its class -/
structure WordAt (P : Program) (w : World) (K : PySem.W.Frag) (mg : Str → Option Value) (base : Heap) (T : List (Addr × Str)) (k : Nat) (x : Str) (wd : Addr → Option Str) : Prop where
  ex : ∃ f fd y, mg x = some (.ref f) ∧ PySem.W.keepIn K (.ref f) = true ∧ Binds K fd [y] [] ∧ ∀ (A : Around) (outer : List Env) (s : Shared) (H : Hp) (Q : VK) (p : Addr × Obj) (C : Addr) (nm : Str) (g : G) (S : Hp),
    RoomH k A → A.handled = some (.ref p.1) → ExcO C p → PinOk outer H s p → Env0 P w K mg base A outer s H → BindsTo s fd ⟨[.ref p.1], []⟩ ([y].zip [.ref p.1]) → HOK K T g S H → wd C = some nm →
    (∀ v H' S', Ext K T g S H g S' H' → Rep K S' v (.tup [.str "refused", .str nm]) → Q v H') → codeAny (model P w) A (.call (.ref f) ⟨[.ref p.1], []⟩) (CR C8.CX0 outer P w H s Q C8.E0) s
end
section
variable {X : Cx} {T : List (Addr × Str)}
theorem pe_word {a : Addr} {oe : Obj} {pn : List (Addr × Obj)} {k i : Nat} {x n : Str} {wd : Addr → Option Str} {C : Addr} {p1 p2 p3 : Pos} (W : WordAt X.prog X.w X.K X.mg X.base T k x wd) (hr : RoomH k X.A) (ho : ExcO C (a, oe)) (hg : Gl X x) (hN : X.N[i]? = some n) (hv : Vis X.env.scope n)
    (hdb : (x == ("__debug__" : Str)) = false := by decide) (hd : (n == ("__debug__" : Str)) = false := by decide) (hcd : (n == ("__classdict__" : Str)) = false := by decide) :
    PE (X.suite a ((a, oe) :: pn)) (.Call (.Name x p1) [.Name n p2] [] p3) (fun σ H Q => σ[i]? = some (some (.ref a)) ∧ ∃ g S nm, wd C = some nm ∧ HOK X.K T g S H ∧ ∀ v H' S', Ext X.K T g S H g S' H' → Rep X.K S' v (.tup [.str "refused", .str nm]) → Q v H') := by
  refine ⟨fun pins s σ H Q I h => ?_⟩
  obtain ⟨hs, g, S, nm, hw, ok, hq⟩ := h
  obtain ⟨f, fd, y, hm, hk, hb, hrun⟩ := W.ex
  refine wpAny_Call_Name_kw (ld_glob (X := X.suite a ((a, oe) :: pn)) I hg hm ?_ hdb)
  have hn : PE (X.suite a ((a, oe) :: pn)) (.Name n p2) (tVar i) := pe_var (X := X.suite a ((a, oe) :: pn)) hN hv hd hcd
  have ha : PA (X.suite a ((a, oe) :: pn)) [.Name n p2] (tCons (tVar i) tNil) := pa_cons hn pa_nil (by rfl)
  refine PySem.W.callWith_K (h₀ := X.base) I.ok.mod.kin hk (thn (ha.run p3 pins s σ H (fun vs H1 => vs = [.ref a] ∧ H1 = H) I ⟨.ref a, hs, rfl, rfl⟩) fun us s1 ⟨vs, H1, I1, r, e1, e2⟩ => ⟨I1.kIn, ?_⟩) (by rfl) (by rfl)
  subst e1 e2
  cases r with
  | cons r rr =>
    cases rr
    cases r
    have P1 := I1.pin (a, oe) (List.mem_append_left _ List.mem_cons_self)
    have hpin : PinOk X.stack H1 s1 (a, oe) := ⟨P1.1, P1.2.1, fun hm => (List.mem_cons.mp (I1.stkSub a hm)).elim P1.2.2.1 P1.2.2.2.1, P1.2.2.2.2⟩
    have b := hb s1 [.ref a] I1.kIn rfl
    refine wpAny_call (codeAny_mono (hrun (X.A.mark (some (.ref a))) X.stack s1 H1 Q (a, oe) C nm g S ⟨hr.dp, hr.un⟩ rfl ho hpin I1.env0 b ok hw hq) fun r s' hq => ?_)
    cases r with
    | error e => exact (show False from hq).elim
    | ok fl =>
      cases fl with
      | ret u => exact I1.after hq
      | next => exact False.elim hq
      | brk => exact False.elim hq
      | cont => exact False.elim hq
end
open LamX
/-- the context of a lambda's body, its exceptions' contexts known -/
abbrev lamN (X : Cx) (A : Around) (outer : List Env) (s : Shared) (H : Hp) (E : XK) (scope : Scope) (f c' : Addr) : Cx :=
  (lamCx X A outer s H E scope f c').wish fun e s' => wpAny (model X.prog X.w) (A.deeper (lamEnv X scope s.heap.objs.size f c')) (leaving (lamEnv X scope s.heap.objs.size f c') e) (fun _ s'' => L2N.CX X.prog X.w outer H s E e s'') (fun e' s'' => L2N.CX X.prog X.w outer H s E e' s'') s'
section
variable {X : Cx} {pins : List (Addr × Obj)} {σ : L2.St} {H HZ : Hp} {s s1 : Shared}
theorem pe_actN {CXg : CXT} {Eg : XK} {Ng : List Str} {qg : Str} {sg : Scope} {g f c' : Addr} {cdg pm ctv : Value} {params : Arguments} {body : Expr} {scope : Scope} {k i : Nat} {a : Str} {pn : List (Addr × Obj)} {xe : Value → Shared → Prop} {W : WX} {E : XK} {tb : TE} {p1 p2 : Pos}
    (I : Inv X pins σ H s) (L : LamS X.env.scope scope) (hf : s.heap.get? f = some (PySem.W.kla_obj "<lambda>" (X.env.qual ++ "<lambda>") params body scope (cloFrom X.env.cells scope.names []) pm c' ctv)) (hfn : H f = none) (hfr : f ∉ frs X.stack)
    (hbind : bindArgs (PySem.W.kla_fn "<lambda>" (X.env.qual ++ "<lambda>") params body scope (cloFrom X.env.cells scope.names []) pm (.ref c') ctv) ⟨[], []⟩ = pure [])
    (tk : L2N.Takes ((cxOf CXg X.prog X.w X.K X.mg X.base Ng qg sg g cdg X.A X.stack s H Eg).tr pn xe) W) (hW : ∀ cls d σ' H', E cls d H' → W cls d σ' H') (hr : Room (k + 1) (X.A.deeper (envOfC qg sg s.heap.objs.size g cdg)))
    (hbody : ∀ (A : Around) (outer : List Env) (s : Shared) (H : Hp), Room k (A.deeper (lamEnv X scope s.heap.objs.size f c')) → PE (lamN X A outer s H E scope f c') body tb)
    (hN : Ng[i]? = some a) (hv : Vis sg a) (hd : (a == ("__debug__" : Str)) = false := by decide) (hcd : (a == ("__classdict__" : Str)) = false := by decide) :
    PE ((cxOf CXg X.prog X.w X.K X.mg X.base Ng qg sg g cdg X.A X.stack s H Eg).tr pn xe) (.Call (.Name a p1) [] [] p2)
      (fun σZ HZ Q => σZ[i]? = some (some (.ref f)) ∧ HZ c' = some (CodeO c' (X.env.qual ++ "<lambda>")) ∧ tb σ HZ Q) := by
  refine ⟨fun pinsZ sZ σZ HZ Q IZ h => ?_⟩
  obtain ⟨hs, hc, ht⟩ := h
  refine wpAny_Call_Name_kw (thn ((pe_var (pos := p1) (i := i) hN hv hd hcd).run pinsZ sZ σZ HZ (fun v H1 => v = .ref f ∧ H1 = HZ) IZ ⟨.ref f, hs, rfl, rfl⟩) fun u s1 ⟨v, H1, I1, r1, q1⟩ => ?_)
  obtain ⟨ev, eH⟩ := q1
  subst ev
  rw [eH] at I1
  obtain rfl : u = Value.ref f := r1
  have of1 : s1.heap.get? f = some (PySem.W.kla_obj "<lambda>" (X.env.qual ++ "<lambda>") params body scope (cloFrom X.env.cells scope.names []) pm c' ctv) := I1.base.keep f _ hf hfn hfr (fun z => nomatch (show f ∈ ([] : List Addr) from z))
  refine PySem.W.callWith_F0 ⟨_, _, _, _, of1⟩ ?_
  have un : Un (frs X.stack) [] H HZ s.heap s1.heap := I1.base
  obtain ⟨⟨oc, vs, t, hoc, hdc, hvc⟩, _, _⟩ := I1.hok c' _ hc
  have rc : codeAny (model X.prog X.w) (X.A.deeper (envOfC qg sg s.heap.objs.size g cdg)) (.call (.ref f) ⟨[], []⟩) (CR (L2N.CX X.prog X.w) (envOfC qg sg s.heap.objs.size g cdg :: X.stack) X.prog X.w HZ s1 Q E) s1 := by
    refine PySem.W.kla_callFunE hr.depth of1 rfl L.co L.gen rfl ⟨c', oc, vs, t, rfl, hoc, hdc, hvc⟩ ?_
    rw [hbind]
    refine wpAny_pure (wpAny_newFunctionEnv (fun y hy => (L.own y hy).2) (fun y hy => absurd hy (by simp)) (fun h₁ hns hsb => ⟨I1.nolimit.fresh _ hsb, ?_⟩) L.kind)
    show codeAny _ _ (.expr body (lamEnv X scope s1.heap.objs.size f c')) _ _
    have kp : ∀ b o, s1.heap.get? b = some o → h₁.get? b = some o := fun b o e => hsb.extBut b o (Nat.ne_of_lt (Heap.lt_size e)) (Heap.get?_push_of_some _ e)
    have J := (lam_start2 (tk := s1.toks + ([] : List (Str × Value)).length) (E := E) (f := f) (c' := c') I L I1.env0 hr.hd un hns kp).wish fun e s' => wpAny (model X.prog X.w) ((X.A.deeper (envOfC qg sg s.heap.objs.size g cdg)).deeper (lamEnv X scope s1.heap.objs.size f c')) (leaving (lamEnv X scope s1.heap.objs.size f c') e) (fun _ s'' => L2N.CX X.prog X.w (envOfC qg sg s.heap.objs.size g cdg :: X.stack) HZ s1 E e s'') (fun e' s'' => L2N.CX X.prog X.w (envOfC qg sg s.heap.objs.size g cdg :: X.stack) HZ s1 E e' s'') s'
    refine PySem.W.kla_codeExpr (wpAny_mono ((hbody _ _ s1 HZ (hr.deeper _)).run [] _ _ HZ Q J ht) (fun v s' hq => ?_) fun e s' hq => hq)
    obtain ⟨w', H', J', rv, q⟩ := hq
    exact ⟨w', H', J'.os, J'.bare, J'.base, J'.hok, rv, q⟩
  have hx : Passes (L2N.CX X.prog X.w) ((cxOf CXg X.prog X.w X.K X.mg X.base Ng qg sg g cdg X.A X.stack s H Eg).tr pn xe) E := L2N.passes_call tk hW
  refine wpAny_call (codeAny_mono rc fun r s' hq => ?_)
  cases r with
  | error e => exact hx pinsZ σZ HZ s1 e s' I1 hq
  | ok fl =>
    cases fl with
    | ret u => exact I1.after hq
    | next => exact False.elim hq
    | brk => exact False.elim hq
    | cont => exact False.elim hq
end
section
variable {X : Cx} {T : List (Addr × Str)}
theorem takesF {X : Cx} : L2N.Takes X (fun _ _ _ _ => False) := fun _ _ x => by
  obtain ⟨_, _, _, _, _, _, _, _, _, _, _, _, _, _, _, _, z⟩ := x
  exact z.elim
/-- x(lambda: body), x the def: try: return a() / except e as n: return w(n) -/
theorem pe_told {x a e n wn : Str} {g c P CS : Addr} {k kw : Nat} {pg : Arguments} {sg : Scope} {dV kV doc pm cdv ct oc : Value} {an od : Option Addr} {osl : Array (Option Value)} {wd : Addr → Option Str}
    {params : Arguments} {body : Expr} {scope : Scope} {t : XK → TE} {p lpos pos p1 p2 p3 p4 p5 p6 p7 p8 p9 p10 : Pos} (hg : Gl X x) (hm : X.mg x = some (.ref g)) (hk : PySem.W.keepIn X.K (.ref g) = true)
    (lk : X.K.lookup g = some ⟨oc, od, .func (PySem.W.fnOf x x pg [.Try [.Return (some (.Call (.Name a p1) [] [] p2)) p3] [.ExceptHandler (some (.Name e p4)) (some n) [.Return (some (.Call (.Name wn p5) [.Name n p6] [] p7)) p8] p9] [] [] p10] sg dV kV doc pm an cdv ct), osl⟩) (hcg : PySem.W.codeIn X.K cdv x = true)
    (hb : L2.Binds X.K (PySem.W.fnOf x x pg [.Try [.Return (some (.Call (.Name a p1) [] [] p2)) p3] [.ExceptHandler (some (.Name e p4)) (some n) [.Return (some (.Call (.Name wn p5) [.Name n p6] [] p7)) p8] p9] [] [] p10] sg dV kV doc pm an cdv ct) [a] []) (Sg : FnScope [a, n] [a] sg) (hva : Vis sg a)
    (hge : sg.names.lookup e = some .globalImplicit) (hme : X.mg e = some (.ref CS)) (hln : sg.names.lookup n = some .local) (hgw : sg.names.lookup wn = some .globalImplicit) (W : WordAt X.prog X.w X.K X.mg X.base T kw wn wd) (hex : ∀ C nm, wd C = some nm → PySem.W.exmOne X.K (.ref C) (.ref CS) = some true)
    (TB : TabB X.base X.mg c P) (hcode : X.env.code = .ref c) (hmT : (P, X.env.qual ++ "<lambda>") ∈ T) (hu : ∀ p ∈ T, p.1 = P → p.2 = X.env.qual ++ "<lambda>") (hr : Room (k + 2) X.A) (hkw : kw ≤ k + 1) (L : LamS X.env.scope scope) (hdef : defaultsOf params X.env = ([], []))
    (hbind : ∀ (q : Str) (cl : List (Str × Addr)) (pm cv ctv : Value), bindArgs (PySem.W.kla_fn "<lambda>" q params body scope cl pm cv ctv) ⟨[], []⟩ = pure [])
    (hbody : ∀ (A : Around) (outer : List Env) (s : Shared) (H : Hp) (E : XK) (f c' : Addr), Room k (A.deeper (lamEnv X scope s.heap.objs.size f c')) → PE (lamN X A outer s H E scope f c') body (t E))
    (hdb : (x == ("__debug__" : Str)) = false := by decide) (hd : (a == ("__debug__" : Str)) = false := by decide) (hcd : (a == ("__classdict__" : Str)) = false := by decide) (hde : (e == ("__debug__" : Str)) = false := by decide)
    (hdn : (n == ("__debug__" : Str)) = false := by decide) (hcn : (n == ("__classdict__" : Str)) = false := by decide) (hdw : (wn == ("__debug__" : Str)) = false := by decide) :
    PE X (.Call (.Name x p) [.Lambda params body scope lpos] [] pos) (fun σ H Q => Tabs T H ∧ ∀ H1, ExtN H H1 → Tabs T H1 → ∃ E : XK, t E σ H1 Q ∧ ∀ cls d H', E cls d H' → ∃ C nm g S, cls = .ref C ∧ d = none ∧ wd C = some nm ∧ HOK X.K T g S H' ∧ ∀ v H2 S2, Ext X.K T g S H' g S2 H2 → Rep X.K S2 v (.tup [.str "refused", .str nm]) → Q v H2) := by
  refine ⟨fun pins s σ H Q I h => ?_⟩
  obtain ⟨hT, h⟩ := h
  refine wpAny_Call_Name_kw (ld_glob I hg hm ?_ hdb)
  refine PySem.W.callWith_K (h₀ := X.base) I.ok.mod.kin hk ?_ (by rfl) (by rfl)
  show wpAny _ _ (spliced ((false, eval (.Lambda params body scope lpos) X.env) :: backTo pos (starEach [] X.env))) _ _ s
  refine Calls.spliced_cons (lam_make2 I TB hcode hmT hu hT hdef (L.has I.ok) fun f c' pm' ctv H1 s' I1 eN T1 hf hfn hfr hco => ?_)
  refine Calls.spliced_nil ⟨I1.kIn, ?_⟩
  obtain ⟨E, hE, hEx⟩ := h H1 eN T1
  have rc : codeAny (model X.prog X.w) X.A (.call (.ref g) ⟨[.ref f], []⟩) (CR C8.CX0 X.stack X.prog X.w H1 s' Q C8.E0) s' := by
    refine run_ofS (N := [a, n]) (ps := [a]) (us := [.ref f]) (vs := [.ref f]) lk hcg Sg hr I1.env0 (hb s' [.ref f] I1.kIn rfl) (.cons rfl .nil) rfl fun hr' => ?_
    have tr := L2N.ps_try_as (X := (cxOf C8.CX0 X.prog X.w X.K X.mg X.base [a, n] x sg g cdv X.A X.stack s' H1 C8.E0).nox) (x := e) (n := n) (c := .ref CS) (i := 1) (np := p4) (pos := p10) (pos' := p9)
      (body := [.Return (some (.Call (.Name a p1) [] [] p2)) p3]) (b₀ := .Return (some (.Call (.Name wn p5) [.Name n p6] [] p7)) p8) (suite := []) (Wout := fun _ _ _ _ => False)
      (tb := fun W D σZ HZ => (∀ cls d σ' H', E cls d H' → W cls d σ' H') ∧ σZ[0]? = some (some (.ref f)) ∧ HZ c' = some (CodeO c' (X.env.qual ++ "<lambda>")) ∧ t E σ HZ D.rt)
      (ts := fun a' cls d D σ H => (σ.length = 2 → σ[1]? = some (some (.ref a'))) ∧ ∃ C nm g S, cls = .ref C ∧ d = none ∧ wd C = some nm ∧ HOK X.K T g S H ∧ ∀ v H' S', Ext X.K T g S H g S' H' → Rep X.K S' v (.tup [.str "refused", .str nm]) → D.rt v H')
      rfl rfl Sg.nd rfl hln ⟨hge, hde, .inl hme⟩ takesF (fun W pn xe tk po => ?_) (fun a' oe cls d pn hz hfv => ?_)
    · refine ⟨_, (pss_one tr).nox, ?_⟩
      refine ⟨fun cls d σ' H' he => ?_, rfl, hco, hE⟩
      obtain ⟨C, nm, g, S, rfl, rfl, hw, ok, hq⟩ := hEx cls d H' he
      refine ⟨true, hex C nm hw, fun _ a' ha' => ⟨fun hl => ?_, C, nm, g, S, rfl, rfl, hw, ok, hq⟩, fun z => by cases z⟩
      have hl' : σ'.length = 2 := by simpa using hl
      exact List.getElem?_set_self (by omega)
    · refine ⟨fun pinsZ sZ σZ HZ D IZ hh => ?_⟩
      obtain ⟨hW, h1, h2, h3⟩ := hh
      have hp := pe_actN (CXg := C8.CX0) (Eg := C8.E0) (i := 0) (p1 := p1) (p2 := p2) I1 L hf hfn hfr (hbind _ _ _ _ _) tk hW hr' (fun A outer s H hr2 => hbody A outer s H E f c' hr2) rfl hva hd hcd
      exact (pss_one (ps_ret (pos := p3) hp)).run pinsZ sZ σZ HZ D IZ ⟨h1, h2, h3⟩
    · refine ⟨fun pinsZ sZ σZ HZ D IZ hh => ?_⟩
      obtain ⟨h1, C, nm, g', S, rfl, rfl, hw, ok, hq⟩ := hh
      have ho : ExcO C (a', oe) := ⟨hz.zc, by
        obtain ⟨vs, e1⟩ := hfv
        exact ⟨vs, e1, hz.2.2 vs e1⟩⟩
      have hp := pe_word (T := T) (X := (cxOf C8.CX0 X.prog X.w X.K X.mg X.base [a, n] x sg g cdv X.A X.stack s' H1 C8.E0).nox) (i := 1) (p1 := p5) (p2 := p6) (p3 := p7) (pn := pn) (n := n) (x := wn) W ((roomH_of hr').mono hkw) ho hgw rfl (.inl hln) hdw hdn hcn
      exact (pss_one (ps_ret (pos := p8) hp)).run pinsZ sZ σZ HZ D IZ ⟨h1 IZ.len, g', S, nm, hw, ok, hq⟩
  refine wpAny_call (codeAny_mono rc fun r s2 hq => ?_)
  cases r with
  | error e => exact (show False from hq).elim
  | ok fl =>
    cases fl with
    | ret u => exact I1.after hq
    | next => exact False.elim hq
    | brk => exact False.elim hq
    | cont => exact False.elim hq
end
end DL

set_option Elab.async false
set_option linter.all false
set_option maxRecDepth 100000
set_option maxHeartbeats 2000000
set_option autoImplicit false
/-! DL9: the rest of the rules. -/
namespace DL
open PySem PySem.Spec L2
section
variable {X : Cx} {T : List (Addr × Str)} {EX : XK} {e a b c o : Expr} {es : List Expr} {st : Stmt} {sts ss1 ss2 : List Stmt} {A1 A2 A3 : Tr} {RA : TrA} {w w1 w2 : TW} {pos p : Pos}
/-! a < b < c -/
def rChain (f1 f2 : G → D → D → Option D) (A B C : Tr) : Tr := fun env g Kt => A env g (onV Kt fun d1 g1 => B env g1 (onV Kt fun d2 g2 => ∃ b, f1 g2 d1 d2 = some (.bl b) ∧ if b = true then C env g2 (onV Kt fun d3 g3 => ∃ d, f2 g3 d2 d3 = some d ∧ Kt (.val d) g3) else Kt (.val (.bl false)) g2))
theorem pm_chain {op op' : CmpOp} {r r' : R2} {f1 f2 : G → D → D → Option D} (ho : OpR X (compareOp op) r) (hf : V2 X.K T r f1) (ho' : OpR X (compareOp op') r') (hf' : V2 X.K T r' f2) (ha : PM X T EX a A1) (hb : PM X T EX b A2) (hc : PM X T EX c A3)
    (hm : lastMarks [op, op'] [b, c] = false := by with_unfolding_all rfl) : PM X T EX (.Compare a [op, op'] [b, c] pos) (rChain f1 f2 A1 A2 A3) := by
  refine ⟨fun {U σ H g S env Q Kt} h ok en hv hx => sem_of (pe_chain ho ho' pe_sem pe_sem pe_sem hm) ?_⟩
  refine ha.run h ok en (fun d1 g1 v1 H1 S1 k1 e1 r1 => ?_) (fun C g' H' S' k e => hx C g' H' S' k e)
  refine hb.run k1 e1.ok (en.ext e1) (fun d2 g2 v2 H2 S2 k2 e2 r2 => ?_) (fun C g' H' S' k e => hx C g' H' S' k (e1.trans e))
  obtain ⟨k, hd, k3⟩ := k2
  refine hf e2.ok (r1.mono e2.mono) r2 hd fun v H3 S3 e3 r3 => ?_
  cases r3
  refine ⟨k, rfl, ?_⟩
  have e123 := (e1.trans e2).trans e3
  cases k with
  | true =>
    refine hc.run k3 e3.ok (en.ext e123) (fun d3 g3 v3 H4 S4 k4 e4 r4 => ?_) (fun C g' H' S' k e => hx C g' H' S' k (e123.trans e))
    obtain ⟨d, hd2, k5⟩ := k4
    exact hf' e4.ok (r2.mono (e3.trans e4).mono) r4 hd2 fun v H' S' e r => hv d g3 v H' S' k5 ((e123.trans e4).trans e) r
  | false => exact hv _ g2 _ H3 S3 k3 e123 (.bl false)
/-! -a -/
def negF (_ : G) : D → Option D
  | .int i => some (.int (-i))
  | _ => none
theorem v1_neg {K : PySem.W.Frag} : V1 K T (rU fun i => .int (-i)) negF := by
  intro g S H x d1 d Q ok r e hq
  cases d1 <;> simp only [negF] at e <;> cases e
  cases r
  exact ⟨_, rfl, hq _ H S (Ext.refl ok) (.int _)⟩
theorem pm_neg (ha : PM X T EX a A1) : PM X T EX (.UnaryOp .USub a pos) (rUn negF A1) := pm_un (pe_un un_neg pe_sem) v1_neg ha
/-! a, b = c, d; a, b, c = t -/
def onDA (dn : Dn) (k : List D → G → Prop) : KA := fun r g => match r with
  | .ok ds => k ds g
  | .error C => dn.ex C g
@[simp] theorem onDA_ok {dn : Dn} {k : List D → G → Prop} {ds : List D} {g : G} : onDA dn k (.ok ds) g = k ds g := rfl
@[simp] theorem onDA_error {dn : Dn} {k : List D → G → Prop} {C : Addr} {g : G} : onDA dn k (.error C) g = dn.ex C g := rfl
@[simp] theorem onA_ok {Kt : KR} {k : List D → G → Prop} {ds : List D} {g : G} : onA Kt k (.ok ds) g = k ds g := rfl
@[simp] theorem onA_error {Kt : KR} {k : List D → G → Prop} {C : Addr} {g : G} : onA Kt k (.error C) g = Kt (.exc C) g := rfl
def wPar (i j : Nat) (RA : TrA) : TW := fun dn env g => RA env g (onDA dn fun ds g1 => ∃ d1 d2, ds = [d1, d2] ∧ dn.nx ((env.set i (.dat d1)).set j (.dat d2)) g1)
theorem px_par {i j : Nat} {x y : Str} {px py pt : Pos} {kt k2 : Nat} {pt2 : Pos} (hc : X.calm = true) (hN : X.N.Nodup) (hi : X.N[i]? = some x) (hj : X.N[j]? = some y) (hij : i ≠ j) (ha : PMA X T EX [a, b] RA)
    (hx : X.env.scope.names.lookup x = some .local := by rfl) (hy : X.env.scope.names.lookup y = some .local := by rfl)
    (hw : swappedStores [.Tuple [.Name x px, .Name y py] kt pt] (.Tuple [a, b] k2 pt2) X.env = pure (some [x, y]) := by with_unfolding_all rfl)
    (hs : swapsWithSole [.Tuple [.Name x px, .Name y py] kt pt] (.Tuple [a, b] k2 pt2) pos.line X.env = pure false := by rfl) : PX X T EX (.Assign [.Tuple [.Name x px, .Name y py] kt pt] (.Tuple [a, b] k2 pt2) pos) (wPar i j RA) := by
  refine ⟨fun {g0 S0 H0 σ H g S env D dn} h e n l => semS_of (ps_par hc hN hi hj hij hx hy pa_sem hw hs) ?_⟩
  refine ha.run h e.ok n (fun ds g1 vs H1 S1 k e1 r => ?_) (fun C g' H' S' k e1 => l.ex C g' S' H' k (e.trans e1))
  obtain ⟨d1, d2, rfl, k⟩ := k
  obtain ⟨x, y, rfl, r1, r2⟩ := r.two
  exact ⟨x, y, rfl, l.nx _ g1 S1 _ H1 k (e.trans e1) (((n.ext e1).dat' i r1).dat' j r2)⟩
def gNames : List Nat → TGs
  | [] => gNil
  | i :: is => gCons (gName i) (gNames is)
def setAll : List Nat → List D → Env' → Env'
  | i :: is, d :: ds, env => setAll is ds (env.set i (.dat d))
  | _, _, env => env
theorem pgd_nil : PGs X [] (gNames []) := pgs_nil
theorem pgd_cons {i : Nat} {is : List Nat} {x : Str} {px : Pos} (hN : X.N.Nodup) (hi : X.N[i]? = some x) (hx : Loc X.env.scope x) (h2 : PGs X es (gNames is)) (hs : (assignEach (.Name x px :: es) X.env).map (·.2) = assign (.Name x px) X.env :: (assignEach es X.env).map (·.2) := by rfl)
    (hf : X.fn x = true ∨ X.env.scope.names.lookup x = some .local := by first | exact .inl rfl | exact .inr rfl | assumption) : PGs X (.Name x px :: es) (gNames (i :: is)) := pgs_cons (pg_name hN hi hx hf) h2 hs
theorem gNames_run {K : PySem.W.Frag} {U : Addr → Prop} {g : G} {S H : Hp} {Q : St → Hp → Prop} : ∀ (is : List Nat) {vs : List V} {ds : List D} {env : Env'} {σ : St}, Reps K S vs ds → ds.length = is.length → EnvOk K U g S H env σ → (∀ σ', EnvOk K U g S H (setAll is ds env) σ' → Q σ' H) → gNames is vs σ H Q
  | [], _, _, env, σ, .nil, _, n, q => ⟨rfl, q σ n⟩
  | [], _, _, _, _, .cons _ _, h, _, _ => by simp at h
  | _ :: _, _, _, _, _, .nil, h, _, _ => by simp at h
  | i :: is, _, _, env, σ, .cons r t, h, n, q => ⟨_, _, rfl, gNames_run is t (by simpa using h) (n.dat' i r) q⟩
def wUnp (is : List Nat) (A : Tr) : TW := fun dn env g => A env g (onD dn fun d g1 => ∃ ds, d = .tup ds ∧ ds.length = is.length ∧ dn.nx (setAll is ds env) g1)
theorem px_unp {is : List Nat} {k : Nat} {pt : Pos} (hc : X.calm = true) (ha : PM X T EX a A1) (hg : PGs X es (gNames is)) (hn : (assignEach es X.env).length = is.length := by rfl) (hst : (assignEach es X.env).findIdx? (·.1) = none := by rfl)
    (hs : swapsWithSole [.Tuple es k pt] a pos.line X.env = pure false := by rfl) (hw : swappedStores [.Tuple es k pt] a X.env = pure none := by rfl) (h1 : (assignEach [.Tuple es k pt] X.env).map (·.2) = [assign (.Tuple es k pt) X.env] := by rfl) : PX X T EX (.Assign [.Tuple es k pt] a pos) (wUnp is A1) := by
  refine ⟨fun {g0 S0 H0 σ H g S env D dn} h e n l => semS_of (ps_asg pe_sem (pg_tup hc hg hn hst) hs hw h1) ?_⟩
  refine ha.run h e.ok n (fun d g1 v H1 S1 k e1 r => ?_) (fun C g' H' S' k e1 => l.ex C g' S' H' k (e.trans e1))
  obtain ⟨ds, rfl, hl, k⟩ := k
  cases r with
  | @tup a vs _ hq hr =>
    exact ⟨a, vs, rfl, e1.ok.sqt hq, by rw [hr.length]; exact hl, gNames_run is hr hl (n.ext e1) fun σ' n' => l.nx _ g1 S1 σ' H1 k (e.trans e1) n'⟩
/-! slices -/
def TSemO (X : Cx) (e : Option Expr) : TO := fun σ H Q => ∀ (pins : List (Addr × Obj)) (s : Shared), Inv X pins σ H s → wpAny (model X.prog X.w) X.A (evalPart e X.env) (fun u s' => ∃ o H', Inv X pins σ H' s' ∧ IsPart u o ∧ Q o H') X.xe s
theorem po_sem {e : Option Expr} : PO X e (TSemO X e) := ⟨fun pins s _ _ _ I h => h pins s I⟩
abbrev TrO := Env' → G → (Addr → G → Prop) → (Option Int → G → Prop) → Prop
structure PMO (X : Cx) (T : List (Addr × Str)) (EX : XK) (e : Option Expr) (R : TrO) : Prop where
  run : ∀ {U : Addr → Prop} {σ : St} {H : Hp} {g : G} {S : Hp} {env : Env'} {Q : Option Int → Hp → Prop} {Kx : Addr → G → Prop} {Kt : Option Int → G → Prop}, R env g Kx Kt → HOK X.K T g S H → EnvOk X.K U g S H env σ →
    (∀ i g' H' S', Kt i g' → Ext X.K T g S H g' S' H' → Q i H') → (∀ C g' H' S', Kx C g' → Ext X.K T g S H g' S' H' → EX (.ref C) none H') → TSemO X e σ H Q
def roNone : TrO := fun _ g _ Kt => Kt none g
def roSome (A : Tr) : TrO := fun env g Kx Kt => A env g fun r g1 => match r with
  | .val (.int i) => Kt (some i) g1
  | .exc C => Kx C g1
  | _ => False
theorem pmo_none : PMO X T EX none roNone := ⟨fun {U σ H g S env Q Kx Kt} h ok en hv hx pins s I => po_none.run pins s σ H Q I (hv none g H S h (Ext.refl ok))⟩
theorem pmo_some (ha : PM X T EX a A1) : PMO X T EX (some a) (roSome A1) := by
  refine ⟨fun {U σ H g S env Q Kx Kt} h ok en hv hx pins s I => (po_some pe_sem).run pins s σ H Q I ?_⟩
  refine ha.run h ok en (fun d g1 v1 H1 S1 k1 e1 r1 => ?_) (fun C g' H' S' k e => hx C g' H' S' k e)
  cases d with
  | int i => cases r1; exact ⟨i, rfl, hv (some i) g1 H1 S1 k1 e1⟩
  | _ => exact k1.elim
def cutD (xs : List D) (lo hi : Option Int) : List D := (xs.drop (HT.sIx xs.length 0 lo)).take (HT.sIx xs.length xs.length hi - HT.sIx xs.length 0 lo)
theorem Reps.cut {K : PySem.W.Frag} {S : Hp} {vs : List V} {ds : List D} (r : Reps K S vs ds) (lo hi : Option Int) : Reps K S (cutV vs lo hi) (cutD ds lo hi) := by
  unfold cutV cutD
  rw [r.length]
  exact (r.drop _).take _
/-- what a slice of a tuple, a list, a text is -/
def sliceF (d : D) (lo hi : Option Int) : Option D := match d with
  | .str z => if z.length ≤ 100000 then some (.str (Txt.slice z lo hi)) else none
  | .tup xs => some (.tup (cutD xs lo hi))
  | .lst xs => some (.lst (cutD xs lo hi))
  | .frl xs => some (.lst (cutD xs lo hi))
  | _ => none
def rSl (A : Tr) (L H : TrO) : Tr := fun env g Kt => A env g (onV Kt fun d g1 => L env g1 (fun C g => Kt (.exc C) g) fun l g2 => H env g2 (fun C g => Kt (.exc C) g) fun u g3 => ∃ d', sliceF d l u = some d' ∧ Kt (.val d') g3)
def rSlAll (K : PySem.W.Frag) : V → Option Int → Option Int → Hp → VK → Prop := fun x lo hi H Q => rSlA K x lo hi H Q ∨ rSlL K x lo hi H Q ∨ C8.rSlX x lo hi H Q
theorem sl_all : SlR X (rSlAll X.K) := by
  intro pins s σ H x v vl vu lo hi sl Q I rx hs pl pu h
  rcases h with h | h | h
  · exact sl_tupA pins s σ H x v vl vu lo hi sl Q I rx hs pl pu h
  · exact sl_list pins s σ H x v vl vu lo hi sl Q I rx hs pl pu h
  · exact C8.sl_txt pins s σ H x v vl vu lo hi sl Q I rx hs pl pu h
theorem pm_slice {lo hi : Option Expr} {p2 : Pos} {L1 L2' : TrO} (ha : PM X T EX a A1) (hl : PMO X T EX lo L1) (hu : PMO X T EX hi L2') : PM X T EX (.Subscript a (.Slice lo hi none p2) pos) (rSl A1 L1 L2') := by
  refine ⟨fun {U σ H g S env Q Kt} h ok en hv hx => sem_of (pe_slice sl_all pe_sem po_sem po_sem) ?_⟩
  refine ha.run h ok en (fun d g1 v H1 S1 k1 e1 r1 => ?_) (fun C g' H' S' k e => hx C g' H' S' k e)
  refine hl.run k1 e1.ok (en.ext e1) (fun l g2 H2 S2 k2 e2 => ?_) (fun C g' H' S' k e => hx C g' H' S' k (e1.trans e))
  refine hu.run k2 e2.ok (en.ext (e1.trans e2)) (fun u g3 H3 S3 k3 e3 => ?_) (fun C g' H' S' k e => hx C g' H' S' k ((e1.trans e2).trans e))
  obtain ⟨d', hd, k⟩ := k3
  have e23 := e2.trans e3
  have e123 := e1.trans e23
  have r3 := r1.mono e23.mono
  cases d <;> simp only [sliceF] at hd <;> try (cases hd; done)
  · rename_i z
    split at hd
    · rename_i hz
      cases hd; cases r3
      exact .inr (.inr ⟨z, rfl, sz hz, hv _ g3 _ H3 S3 k e123 (.str _)⟩)
    · cases hd
  · rename_i xs
    cases hd
    cases r3 with
    | @lst a vs _ hq hr =>
      refine .inr (.inl ⟨a, vs, rfl, e3.ok.sql (.inl (.inl hq)), fun p hp => ?_⟩)
      have e4 := e3.ok.new (o := .lst (cutV vs l u)) hp (fun ps z => by cases z)
      exact hv _ g3 _ _ _ k (e123.trans e4) (.lst upd_same ((hr.cut l u).mono e4.mono))
  · rename_i xs
    cases hd
    cases r3 with
    | @frl a vs _ hq hr =>
      refine .inr (.inl ⟨a, vs, rfl, e3.ok.sql hq, fun p hp => ?_⟩)
      have e4 := e3.ok.new (o := .lst (cutV vs l u)) hp (fun ps z => by cases z)
      exact hv _ g3 _ _ _ k (e123.trans e4) (.lst upd_same ((hr.cut l u).mono e4.mono))
  · rename_i xs
    cases hd
    cases r3 with
    | @tup a vs _ hq hr =>
      refine .inl ⟨a, vs, rfl, e3.ok.sqt hq, fun hw => ?_, fun _ p hp => ?_⟩
      · refine hv _ g3 _ H3 S3 k e123 (.tup hq ?_)
        have : cutD xs l u = xs := by
          unfold cutD
          rw [← hr.length, hw.1, hw.2]
          simp [hr.length]
        rw [this]; exact hr
      · have e4 := e3.ok.new (o := .tup (cutV vs l u)) hp (fun ps z => by cases z)
        exact hv _ g3 _ _ _ k (e123.trans e4) (.tup (.inl (.inl upd_same)) ((hr.cut l u).mono e4.mono))
/-! text by number; join; index -/
def strF (_ : G) (ds : List D) : Option D := match ds with
  | [.int i] => if i.natAbs < 2 ^ 1900 then some (.str (toString i)) else none
  | _ => none
theorem va_str {K : PySem.W.Frag} : VA K T (fun xs H Q => ∃ i, xs = [.int i] ∧ i.natAbs.log2 < 1920 ∧ Q (.str (toString i)) H) strF := by
  intro g S H xs ds d Q ok r e hq
  unfold strF at e
  split at e
  · split at e
    · rename_i i hi
      cases e
      obtain ⟨x, rfl, r1⟩ := r.one
      cases r1
      refine ⟨i, rfl, ?_, hq _ H S (Ext.refl ok) (.str _)⟩
      by_cases z : i.natAbs = 0
      · rw [z]; decide
      · have := (Nat.log2_lt z (k := 1900)).mpr hi
        omega
    · cases e
  · cases e
theorem pm_str1 (hg : Gl X "str") (hm : X.mg "str" = none) (ha : PMA X T EX [a] RA) (he : Starts X a [] := by rfl) : PM X T EX (.Call (.Name "str" p) [a] [] pos) (rCB strF RA) := pm_cb (pe_callTy call_str_int hg hm (by decide +kernel) pa_sem (by decide) (by decide) he rfl) va_str ha
def rJoin (A1 A2 : Tr) : Tr := fun env g Kt => A1 env g (onV Kt fun d1 g1 => (∃ x, d1 = .str x) ∧ A2 env g1 (onV Kt fun d2 g2 => ∃ d, joinF g2 [d1, d2] = some d ∧ Kt (.val d) g2))
theorem pm_join {apos : Pos} (ho : PM X T EX o A1) (ha : PM X T EX a A2) (hs : starEach [a] X.env = [(false, eval a X.env)] := by rfl) (hbase : attributeBase o "join" X.env (eval o X.env) = eval o X.env := by rfl) (hline : (apos.endLine == pos.line) = true := by rfl) :
    PM X T EX (.Call (.Attribute o "join" apos) [a] [] pos) (rJoin A1 A2) := by
  refine ⟨fun {U σ H g S env Q Kt} h ok en hv hx => sem_of (pe_join pe_sem pe_sem hs hbase hline) ?_⟩
  refine ho.run h ok en (fun d1 g1 v1 H1 S1 k1 e1 r1 => ?_) (fun C g' H' S' k e => hx C g' H' S' k e)
  obtain ⟨⟨x, rfl⟩, k1⟩ := k1
  cases r1
  refine ⟨⟨x, rfl⟩, ?_⟩
  refine ha.run k1 e1.ok (en.ext e1) (fun d2 g2 v2 H2 S2 k2 e2 r2 => ?_) (fun C g' H' S' k e => hx C g' H' S' k (e1.trans e))
  obtain ⟨d, hd, k⟩ := k2
  simp only [joinF] at hd
  obtain ⟨ys, h1, h2⟩ := Option.bind_eq_some_iff.mp hd
  obtain ⟨zs, h3, h4⟩ := Option.bind_eq_some_iff.mp h1
  split at h2
  · rename_i hle
    cases h2
    obtain ⟨p, vs, rfl, h5, h6⟩ := litems_rep e2.ok r2 h3
    rw [strsOf_some h4] at h6
    rw [h6.strs] at h5
    exact ⟨x, p, ys, rfl, rfl, .inl h5, hle, hv _ g2 _ H2 S2 k (e1.trans e2) (.str _)⟩
  · cases h2
def idxV (vs : List V) (y : V) : Option Nat := vs.findIdx? fun z => eqV z y
def rIdx (A1 A2 : Tr) : Tr := fun env g Kt => A1 env g (onV Kt fun d1 g1 => ∃ xs, litems d1 = some xs ∧ A2 env g1 (onV Kt fun d2 g2 => ∃ vs y j, toVs xs = some vs ∧ toV d2 = some y ∧ idxV vs y = some j ∧ Kt (.val (.int (j : Nat))) g2))
theorem pm_index {apos : Pos} (hp : ∀ to te, PE X o to → PE X a te → PE X (.Call (.Attribute o "index" apos) [a] [] pos) (tBM X.K "list" (rIndex X.K) to (tCons te tNil))) (ho : PM X T EX o A1) (ha : PM X T EX a A2) : PM X T EX (.Call (.Attribute o "index" apos) [a] [] pos) (rIdx A1 A2) := by
  refine ⟨fun {U σ H g S env Q Kt} h ok en hv hx => sem_of (hp _ _ pe_sem pe_sem) ?_⟩
  refine ho.run h ok en (fun d1 g1 v1 H1 S1 k1 e1 r1 => ?_) (fun C g' H' S' k e => hx C g' H' S' k e)
  obtain ⟨xs, h1, k1⟩ := k1
  obtain ⟨p, us, rfl, h2, h3⟩ := litems_rep e1.ok r1 h1
  refine ⟨.inl ⟨rfl, _, h2⟩, ?_⟩
  refine ha.run k1 e1.ok (en.ext e1) (fun d2 g2 v2 H2 S2 k2 e2 r2 => ?_) (fun C g' H' S' k e => hx C g' H' S' k (e1.trans e))
  obtain ⟨vs, y, j, h4, h5, h6, k⟩ := k2
  obtain ⟨p', us', e', h2', h3'⟩ := litems_rep e2.ok (r1.mono e2.mono) h1
  cases e'
  obtain ⟨rfl, hf⟩ := toVs_rep h3' h4
  rw [toV_rep r2 h5]
  unfold idxV at h6
  rw [List.findIdx?_eq_some_iff_getElem] at h6
  obtain ⟨hj, h7, h8⟩ := h6
  refine ⟨p, us', y, j, us'[j], rfl, rfl, h2', toV_flat h5, hf, List.getElem?_eq_getElem hj, h7, fun m z' hm hz' => ?_, hv _ g2 _ H2 S2 k (e1.trans e2) (.int _)⟩
  have hlt : m < us'.length := (List.getElem?_eq_some_iff.mp hz').1
  have := h8 m hm
  rw [List.getElem?_eq_getElem hlt] at hz'
  cases hz'
  simpa using this
/-! dict display: a new object -/
end
section
variable {K : PySem.W.Frag} {T : List (Addr × Str)} {g g' : G} {S H S' H' : Hp}
/-- what was one's own becomes known as an object -/
theorem Ext.led (e : Ext K T g S H g' S' H') {p : Addr} {o' : MO} {ho ho' : HO} (hp : Fre H p) (sp : S' p = none) (gp : g'.get p = none) (hh : H' p = some ho) (n1 : ∀ ps, ho ≠ .tbl ps) (n2 : ∀ φ, ho ≠ .ext φ) (r : RepMO K S' ho' o') : Ext K T g S H (g'.set p o') S' (upd H' p ho') := by
  have e1 := e.own (o := ho') hp sp gp hh n1 n2
  have gn : ∀ b u, g'.get b = some u → b ≠ p := fun b u q z => by subst z; rw [gp] at q; cases q
  have sn : ∀ b u, S' b = some u → b ≠ p := fun b u q z => by subst z; rw [sp] at q; cases q
  refine ⟨⟨e1.ok.sub, fun b u q => ?_, fun b u q => ?_, e1.ok.tab, e1.ok.ntb⟩, e1.mono, e1.new, e1.fr, e1.frz, e1.there, fun b q => ?_, fun b q => ?_, e1.lk, e1.tl⟩
  · by_cases z : b = p
    · subst z
      rw [G.set_same] at q; cases q
      exact ⟨_, r, .inl upd_same⟩
    · rw [G.set_ne z] at q
      exact e1.ok.obj b u q
  · by_cases z : b = p
    · subst z; exact sp
    · rw [G.set_ne z] at q; exact e.ok.sep b u q
  · by_cases z : b = p
    · subst z; exact .inr hp
    · rw [G.set_ne z] at q; exact e.gnew b q
  · by_cases z : b = p
    · subst z; rw [G.set_same]; simp
    · rw [G.set_ne z]; exact e.gold b q
end
section
variable {X : Cx} {T : List (Addr × Str)} {EX : XK} {e a b c o : Expr} {es : List Expr} {st : Stmt} {sts ss1 ss2 : List Stmt} {A1 A2 A3 : Tr} {RA : TrA} {w w1 w2 : TW} {pos p : Pos}
def mergeD (kvs more : List (Key × D)) : List (Key × D) := more.foldl (fun acc kv => dput acc kv.1 kv.2) kvs
theorem RepK.merge {K : PySem.W.Frag} {S : Hp} : ∀ {more : List (Key × V)} {dm : List (Key × D)} {kvs : List (Key × V)} {dk : List (Key × D)}, RepK K S more dm → RepK K S kvs dk → RepK K S (mergeK kvs more) (mergeD dk dm)
  | _, _, _, _, .nil, h => h
  | _, _, kvs, dk, .cons (k := k) (v := v) (d := d) r t, h => by
    have z := RepK.merge (kvs := putK kvs k v) (dk := dput dk k d) t (h.put r)
    exact z
theorem RepK.zip {K : PySem.W.Frag} {S : Hp} : ∀ {ks : List Key} {vs : List V} {ds : List D}, Reps K S vs ds → RepK K S (ks.zip vs) (ks.zip ds)
  | [], _, _, _ => .nil
  | _ :: _, _, _, .nil => .nil
  | _ :: _, _, _, .cons r t => .cons r (RepK.zip t)
def tdis (X : Cx) : List Str → List Expr → List (TE × TE)
  | k :: ks, v :: vs => (tC (.str k), TSem X v) :: tdis X ks vs
  | _, _ => []
/-- the display's keys are written texts -/
inductive KeysAre : List (Option Expr) → List Str → Prop
  | nil : KeysAre [] []
  | cons {k : Str} {j : Nat} {p : Pos} {r : List (Option Expr)} {r' : List Str} : KeysAre r r' → KeysAre (some (.Constant (.str k) j p) :: r) (k :: r')
theorem pps_dis : ∀ {ks : List Str} {keys : List (Option Expr)} {vs : List Expr}, KeysAre keys ks → keys.length = vs.length → PPs X pos keys vs (tdis X ks vs)
  | _, _, [], .nil, _ => pps_nil
  | _, _, v :: vs, .cons h, hl => pps_cons pe_str pe_sem (pps_dis h (by simpa using hl))
  | _, _, _ :: _, .nil, hl => by simp at hl
  | _, _, [], .cons _, hl => by simp at hl
structure PMV (X : Cx) (T : List (Addr × Str)) (EX : XK) (ks : List Str) (vs : List Expr) (R : TrA) : Prop where
  run : ∀ {U : Addr → Prop} {σ : St} {H : Hp} {g : G} {S : Hp} {env : Env'} {Q : List (V × V) → Hp → Prop} {Kt : KA}, R env g Kt → HOK X.K T g S H → EnvOk X.K U g S H env σ →
    (∀ ds g' us H' S', Kt (.ok ds) g' → Ext X.K T g S H g' S' H' → Reps X.K S' us ds → ds.length = vs.length → Q ((ks.zip us).map fun kv => (V.str kv.1, kv.2)) H') → (∀ C g' H' S', Kt (.error C) g' → Ext X.K T g S H g' S' H' → EX (.ref C) none H') → tPairs (tdis X ks vs) σ H Q
theorem pmv_nil : PMV X T EX [] [] rNil := ⟨fun {U σ H g S env Q Kt} h ok en hv hx => hv [] g [] H S h (Ext.refl ok) .nil rfl⟩
theorem pmv_cons {k : Str} {ks : List Str} {vs : List Expr} {R : Tr} (ha : PM X T EX a R) (hr : PMV X T EX ks vs RA) : PMV X T EX (k :: ks) (a :: vs) (rCons R RA) := by
  refine ⟨fun {U σ H g S env Q Kt} h ok en hv hx => ?_⟩
  refine ha.run h ok en (fun d1 g1 v1 H1 S1 k1 e1 r1 => ?_) (fun C g' H' S' k e => hx C g' H' S' k e)
  refine hr.run k1 e1.ok (en.ext e1) (fun ds g2 us H2 S2 k2 e2 r2 hl => ?_) (fun C g' H' S' k e => hx C g' H' S' k (e1.trans e))
  exact hv _ g2 (v1 :: us) H2 S2 k2 (e1.trans e2) (.cons (r1.mono e2.mono) r2) (by simp [hl])
def rDisp (ks : List Str) (RA : TrA) : Tr := fun env g Kt => RA env g (onA Kt fun ds g1 => ∀ p, g1.get p = none → g.get p = none → Kt (.val (.ref p)) (g1.set p (.dct (mergeD [] ((ks.map Sum.inr).zip ds)))))
theorem pm_disp {keys : List (Option Expr)} {vs : List Expr} {ks : List Str} (hk : KeysAre keys ks) (hv' : PMV X T EX ks vs RA) (hall : keys.all (·.isSome) = true := by rfl) (hl : keys.length = vs.length := by rfl) (h0 : keys ≠ [] := by simp) (h15 : keys.length ≤ 15 := by decide) (hkl : ks.length = vs.length := by rfl) :
    PM X T EX (.Dict keys vs pos) (rDisp ks RA) := by
  refine ⟨fun {U σ H g S env Q Kt} h ok en hv hx => sem_of (pe_disp (pps_dis hk hl) hall hl h0 h15) ?_⟩
  intro p hp
  have e0 := ok.lay (o := .dK []) hp
  refine hv'.run h e0.ok (en.ext e0) (fun ds g1 us H1 S1 k1 e1 r1 hlen => ?_) (fun C g' H' S' k e => hx C g' H' S' k (e0.trans e))
  have sp := ok.freeS hp
  have gp := ok.freeG hp
  obtain ⟨m1, m2, m3⟩ := e1.mine sp gp upd_same (fun _ z => by cases z)
  have hul : us.length = ks.length := by rw [r1.length, hlen, hkl]
  refine ⟨m3, (ks.map Sum.inr).zip us, ?_, ?_, ?_⟩
  · rw [List.zip_map_left, List.map_map]
    congr 1
  · rw [List.length_zip, List.length_map]
    rw [hl] at h15
    omega
  · exact hv _ _ _ _ S1 (k1 p m2 gp) ((e0.trans e1).led (o' := .dct (mergeD [] ((ks.map Sum.inr).zip ds))) (.of hp) m1 m2 m3 (fun _ z => by cases z) (fun _ z => by cases z) (.dct (RepK.merge (RepK.zip r1) .nil))) (.ref p)
/-! name = a comprehension, the name a plain local -/
theorem px_lcRD {i : Nat} {t : TE} {A : Tr} (hp : PS X st (tAsg t (gName i))) (r : RD X T EX t A) : PX X T EX st (wAsg i A) := by
  refine ⟨fun {g0 S0 H0 σ H g S env D dn} h e n l => semS_of hp ?_⟩
  exact r.run h e.ok n (fun d g1 v H1 S1 k e1 r => l.nx _ g1 S1 _ H1 k (e.trans e1) ((n.ext e1).dat' i r)) (fun C g' H' S' k e1 => l.ex C g' S' H' k (e.trans e1))
theorem px_lcRDK {i : Nat} {t : TE} {A : Tr} (hp : PS X st (tLock (tAsg t (gName i)))) (r : RD X T EX (tLockE t) A) : PX X T EX st (wAsg i A) := by
  refine ⟨fun {g0 S0 H0 σ H g S env D dn} h e n l => semS_of hp ?_⟩
  obtain ⟨d, u, h1, h2, h3⟩ := r.run (Q := fun v H' => D.nx (σ.set i (some v)) H') h e.ok n (fun d g1 v H1 S1 k e1 r => l.nx _ g1 S1 _ H1 k (e.trans e1) ((n.ext e1).dat' i r)) (fun C g' H' S' k e1 => l.ex C g' S' H' k (e.trans e1))
  exact ⟨d, u, h1, h2, fun od => h3 od⟩
end
end DL
namespace DL
open PySem PySem.Spec L2
section
variable {X : Cx} {T : List (Addr × Str)} {EX : XK} {a b c o : Expr} {A1 A2 A3 : Tr} {pos : Pos}
/-! comparisons as tests -/
theorem pmt_cmp {op : CmpOp} {r : R2} {f : G → D → D → Option D} (ho : OpR X (compareOp op) r) (hf : V2 X.K T r f) (hm : behindInMarks op b = false) (ha : PM X T EX a A1) (hb : PM X T EX b A2) : PMT X T EX (.Compare a [op] [b] pos) (rBin f A1 A2) := by
  refine ⟨fun {U σ H g S env Q Kt Kx} h ok en hv hx => semT_of (pt_cmpR ho pe_sem pe_sem hm) ?_⟩
  show TSem X a σ H fun x H1 => TSem X b σ H1 fun y H2 => r x y H2 fun v H3 => ∃ k, v = .bl k ∧ Q k H3
  refine ha.run h ok en (fun d1 g1 v1 H1 S1 k1 e1 r1 => ?_) (fun C g' H' S' k e => hx C g' H' S' k e)
  refine hb.run k1 e1.ok (en.ext e1) (fun d2 g2 v2 H2 S2 k2 e2 r2 => ?_) (fun C g' H' S' k e => hx C g' H' S' k (e1.trans e))
  obtain ⟨d, hd, k⟩ := k2
  refine hf e2.ok (r1.mono e2.mono) r2 hd fun v H' S' e r => ?_
  cases d with
  | bl kb => cases r; exact ⟨kb, rfl, hv kb g2 H' S' k ((e1.trans e2).trans e)⟩
  | _ => exact k.elim
theorem pmt_chain {op op' : CmpOp} {r r' : R2} {f1 f2 : G → D → D → Option D} (ho : OpR X (compareOp op) r) (hf : V2 X.K T r f1) (ho' : OpR X (compareOp op') r') (hf' : V2 X.K T r' f2) (ha : PM X T EX a A1) (hb : PM X T EX b A2) (hc : PM X T EX c A3)
    (hm : lastMarks [op, op'] [b, c] = false := by with_unfolding_all rfl) : PMT X T EX (.Compare a [op, op'] [b, c] pos) (rChain f1 f2 A1 A2 A3) := by
  refine ⟨fun {U σ H g S env Q Kt Kx} h ok en hv hx => semT_of (pt_chain ho ho' pe_sem pe_sem pe_sem hm) ?_⟩
  show tTest (tChain r r' (TSem X a) (TSem X b) (TSem X c)) σ H Q
  show TSem X a σ H fun x H1 => TSem X b σ H1 fun y H2 => r x y H2 fun z H3 => ∃ k, z = .bl k ∧ (if k = true then TSem X c σ H3 fun w' H4 => r' y w' H4 fun v H5 => ∃ k, v = .bl k ∧ Q k H5 else ∃ k', V.bl false = .bl k' ∧ Q k' H3)
  refine ha.run h ok en (fun d1 g1 v1 H1 S1 k1 e1 r1 => ?_) (fun C g' H' S' k e => hx C g' H' S' k e)
  refine hb.run k1 e1.ok (en.ext e1) (fun d2 g2 v2 H2 S2 k2 e2 r2 => ?_) (fun C g' H' S' k e => hx C g' H' S' k (e1.trans e))
  obtain ⟨k, hd, k3⟩ := k2
  refine hf e2.ok (r1.mono e2.mono) r2 hd fun v H3 S3 e3 r3 => ?_
  cases r3
  refine ⟨k, rfl, ?_⟩
  have e123 := (e1.trans e2).trans e3
  cases k with
  | true =>
    refine hc.run k3 e3.ok (en.ext e123) (fun d3 g3 v3 H4 S4 k4 e4 r4 => ?_) (fun C g' H' S' k e => hx C g' H' S' k (e123.trans e))
    obtain ⟨d, hd2, k5⟩ := k4
    refine hf' e4.ok (r2.mono (e3.trans e4).mono) r4 hd2 fun v H' S' e r => ?_
    cases d with
    | bl kb => cases r; exact ⟨kb, rfl, hv kb g3 H' S' k5 ((e123.trans e4).trans e)⟩
    | _ => exact k5.elim
  | false => exact ⟨false, rfl, hv false g2 H3 S3 k3 e123⟩
theorem pmt_din (hu : X.A.units + 1 < cLine) (ha : PM X T EX a A1) (hb : PM X T EX o A2) (hm : behindInMarks .In o = false := by rfl) : PMT X T EX (.Compare a [.In] [o] pos) (rDIn false A1 A2) := by
  refine ⟨fun {U σ H g S env Q Kt Kx} h ok en hv hx => semT_of (pt_cmp (pc_din hu pe_sem pe_sem) hm) ?_⟩
  refine ha.run h ok en (fun d1 g1 v1 H1 S1 k1 e1 r1 => ?_) (fun C g' H' S' k e => hx C g' H' S' k e)
  refine hb.run k1 e1.ok (en.ext e1) (fun d2 g2 v2 H2 S2 k2 e2 r2 => ?_) (fun C g' H' S' k e => hx C g' H' S' k (e1.trans e))
  obtain ⟨q, hd, k⟩ := k2
  obtain ⟨kvs, h1, h2⟩ := Option.bind_eq_some_iff.mp hd
  obtain ⟨key, h3, rfl⟩ := Option.map_eq_some_iff.mp h2
  obtain ⟨p, vs, rfl, h5, h6⟩ := asDict_rep e2.ok r2 h1
  refine ⟨p, valV vs key, rfl, .inl ⟨vs, key, h5, keyOf_rep r1 h3, rfl⟩, ?_⟩
  rw [h6.isSome]
  exact ⟨_, rfl, hv _ g2 H2 S2 k (e1.trans e2)⟩
theorem pmt_dni (hu : X.A.units + 1 < cLine) (ha : PM X T EX a A1) (hb : PM X T EX o A2) (hm : behindInMarks .NotIn o = false := by rfl) : PMT X T EX (.Compare a [.NotIn] [o] pos) (rDIn true A1 A2) := by
  refine ⟨fun {U σ H g S env Q Kt Kx} h ok en hv hx => semT_of (pt_cmp (pc_dnotin hu pe_sem pe_sem) hm) ?_⟩
  refine ha.run h ok en (fun d1 g1 v1 H1 S1 k1 e1 r1 => ?_) (fun C g' H' S' k e => hx C g' H' S' k e)
  refine hb.run k1 e1.ok (en.ext e1) (fun d2 g2 v2 H2 S2 k2 e2 r2 => ?_) (fun C g' H' S' k e => hx C g' H' S' k (e1.trans e))
  obtain ⟨q, hd, k⟩ := k2
  obtain ⟨kvs, h1, h2⟩ := Option.bind_eq_some_iff.mp hd
  obtain ⟨key, h3, rfl⟩ := Option.map_eq_some_iff.mp h2
  obtain ⟨p, vs, rfl, h5, h6⟩ := asDict_rep e2.ok r2 h1
  refine ⟨p, valV vs key, rfl, .inl ⟨vs, key, h5, keyOf_rep r1 h3, rfl⟩, ?_⟩
  rw [h6.isSome]
  exact ⟨_, rfl, hv _ g2 H2 S2 k (e1.trans e2)⟩
end
end DL

set_option Elab.async false
set_option linter.all false
set_option maxRecDepth 100000
set_option maxHeartbeats 2000000
set_option autoImplicit false
/-! DL10: told, what is caught, defs by their statements. -/
namespace DL
open PySem PySem.Spec L2 L2H LamX
/-! ### told(lambda: body) -/
/-- the def: try: return a() / except e as n: return w(n) -/
structure ToldAt (P : Program) (w : World) (K : PySem.W.Frag) (mg : Str → Option Value) (base : Heap) (T : List (Addr × Str)) (x : Str) (kw : Nat) (wd : Addr → Option Str) : Prop where
  ex : ∃ (a e n wn : Str) (g CS : Addr) (pg : Arguments) (sg : Scope) (dV kV doc pm cdv ct oc : Value) (an od : Option Addr) (osl : Array (Option Value)) (p1 p2 p3 p4 p5 p6 p7 p8 p9 p10 : Pos),
    mg x = some (.ref g) ∧ PySem.W.keepIn K (.ref g) = true ∧
    K.lookup g = some ⟨oc, od, .func (PySem.W.fnOf x x pg [.Try [.Return (some (.Call (.Name a p1) [] [] p2)) p3] [.ExceptHandler (some (.Name e p4)) (some n) [.Return (some (.Call (.Name wn p5) [.Name n p6] [] p7)) p8] p9] [] [] p10] sg dV kV doc pm an cdv ct), osl⟩ ∧ PySem.W.codeIn K cdv x = true ∧
    L2.Binds K (PySem.W.fnOf x x pg [.Try [.Return (some (.Call (.Name a p1) [] [] p2)) p3] [.ExceptHandler (some (.Name e p4)) (some n) [.Return (some (.Call (.Name wn p5) [.Name n p6] [] p7)) p8] p9] [] [] p10] sg dV kV doc pm an cdv ct) [a] [] ∧
    FnScope [a, n] [a] sg ∧ Vis sg a ∧ sg.names.lookup e = some .globalImplicit ∧ mg e = some (.ref CS) ∧ sg.names.lookup n = some .local ∧ sg.names.lookup wn = some .globalImplicit ∧
    WordAt P w K mg base T kw wn wd ∧ (∀ C nm, wd C = some nm → PySem.W.exmOne K (.ref C) (.ref CS) = some true) ∧
    (x == ("__debug__" : Str)) = false ∧ (a == ("__debug__" : Str)) = false ∧ (a == ("__classdict__" : Str)) = false ∧ (e == ("__debug__" : Str)) = false ∧ (n == ("__debug__" : Str)) = false ∧ (n == ("__classdict__" : Str)) = false ∧ (wn == ("__debug__" : Str)) = false
/-- the table of the def in which a lambda stands -/
structure TabAt (base : Heap) (mg : Str → Option Value) (T : List (Addr × Str)) (c : Addr) (q : Str) : Prop where
  ex : ∃ P, TabB base mg c P ∧ (P, q) ∈ T ∧ ∀ p ∈ T, p.1 = P → p.2 = q
def rTold (wd : Addr → Option Str) (Rb : Tr) : Tr := fun env g Kt => Rb env g fun r g' => match r with
  | .val d => Kt (.val d) g'
  | .exc C => ∃ nm, wd C = some nm ∧ Kt (.val (.tup [.str "refused", .str nm])) g'
section
variable {X : Cx} {T : List (Addr × Str)} {EX : XK}
theorem pm_told {x : Str} {c : Addr} {k kw : Nat} {wd : Addr → Option Str} {params : Arguments} {body : Expr} {scope : Scope} {Rb : Tr} {p lpos pos : Pos} (D : ToldAt X.prog X.w X.K X.mg X.base T x kw wd) (hg : Gl X x)
    (TB : TabAt X.base X.mg T c (X.env.qual ++ "<lambda>")) (hcode : X.env.code = .ref c) (hr : Room (k + 2) X.A) (hkw : kw ≤ k + 1) (L : LamS X.env.scope scope)
    (hbody : ∀ (A : Around) (outer : List Env) (s : Shared) (H : Hp) (E : XK) (f c' : Addr), Room k (A.deeper (lamEnv X scope s.heap.objs.size f c')) → PM (lamN X A outer s H E scope f c') T E body Rb)
    (hdef : defaultsOf params X.env = ([], []) := by rfl) (hbind : ∀ (q : Str) (cl : List (Str × Addr)) (pm cv ctv : Value), bindArgs (PySem.W.kla_fn "<lambda>" q params body scope cl pm cv ctv) ⟨[], []⟩ = pure [] := by intros; rfl) :
    PM X T EX (.Call (.Name x p) [.Lambda params body scope lpos] [] pos) (rTold wd Rb) := by
  obtain ⟨a, e, n, wn, g, CS, pg, sg, dV, kV, doc, pm, cdv, ct, oc, an, od, osl, p1, p2, p3, p4, p5, p6, p7, p8, p9, p10, hm, hk, lk, hcg, hb, Sg, hva, hge, hme, hln, hgw, W, hex, d1, d2, d3, d4, d5, d6, d7⟩ := D.ex
  obtain ⟨P, tb, hmT, hu⟩ := TB.ex
  refine ⟨fun {U σ H g0 S env Q Kt} h ok en hv hx => sem_of (pe_told (t := fun E σ H Q => ∀ (A : Around) (outer : List Env) (s : Shared) (H0 : Hp) (f c' : Addr), Room k (A.deeper (lamEnv X scope s.heap.objs.size f c')) → TSem (lamN X A outer s H0 E scope f c') body σ H Q)
    hg hm hk lk hcg hb Sg hva hge hme hln hgw W hex tb hcode hmT hu hr hkw L hdef hbind (fun A outer s0 H0 E f c' hr' => ⟨fun pins s' σ H Q I hw => hw A outer s0 H0 f c' hr' pins s' I⟩) d1 d2 d3 d4 d5 d6 d7) ?_⟩
  refine ⟨ok.tab, fun H1 eN T1 => ?_⟩
  have e1 := ok.extN eN T1
  refine ⟨fun cls d H' => ∃ C g' S' nm, cls = .ref C ∧ d = none ∧ wd C = some nm ∧ Kt (.val (.tup [.str "refused", .str nm])) g' ∧ Ext X.K T g0 S H g' S' H', fun A outer s H0 f c' hr' => ?_, fun cls d H' q => ?_⟩
  · refine (hbody A outer s H0 _ f c' hr').run h e1.ok (en.ext e1) (fun d g' v H' S' k' e r => hv d g' v H' S' k' (e1.trans e) r) (fun C g' H' S' k' e => ?_)
    obtain ⟨nm, hw, k'⟩ := k'
    exact ⟨C, g', S', nm, rfl, rfl, hw, k', e1.trans e⟩
  · obtain ⟨C, g', S', nm, rfl, rfl, hw, k', e⟩ := q
    exact ⟨C, nm, g', S', rfl, rfl, hw, e.ok, fun v H2 S2 e2 r => hv _ g' v H2 S2 k' (e.trans e2) r⟩
theorem pas_lam {A : Around} {outer : List Env} {s : Shared} {H : Hp} {E : XK} {scope : Scope} {f c' : Addr} : Pas (lamN X A outer s H E scope f c') E :=
  L2N.passes_call (W := fun cls d _ H => E cls d H) (L2N.takes_of rfl rfl rfl rfl) (fun _ _ _ _ h => h)
end
/-! ### isinstance of what was caught -/
section
variable {X : Cx}
/-- no exception leaves a comprehension's block -/
theorem pas_blk {s : Shared} {H : Hp} {scope : Scope} {ce : Env} {fp : List Addr} : Pas (X.blk s H scope ce fp) E0 := fun _ _ _ _ _ _ _ c => by
  obtain ⟨_, _, _, _, _, _, _, _, _, _, _, _, z⟩ := c
  exact z.elim
end
section
variable {X : Cx} {T : List (Addr × Str)} {EX : XK}
theorem call_isP {a D : Addr} {oe : Obj} (C : ExcC X.K D) (hp : (a, oe) ∈ X.pn) (hz : Zc (.ref D) none oe) (hf : ∃ vs, oe.data = .fields vs) : CallR X (.builtin "isinstance") (rIsE X.K D a) := by
  intro pins s σ H xs us Q I r h
  obtain ⟨c, cv, b, rfl, hcv, e, q⟩ := h
  cases r with
  | cons rx rr =>
    cases rr with
    | cons rt rr =>
      cases rr
      cases rx
      have ec := hcv _ rt
      subst ec
      obtain ⟨hget, _⟩ := I.pin (a, oe) (List.mem_append_left _ hp)
      obtain ⟨vs, hv⟩ := hf
      have J : PySem.W.InstAt s.heap a oe D none := by
        obtain ⟨oc, od, oda, osl⟩ := oe
        obtain ⟨h1, h2⟩ := hz
        dsimp only at h1 h2 hv
        subst h1 h2 hv
        exact ⟨hget, rfl, rfl, trivial⟩
      exact PySem.W.kia_one (PySem.W.handS_kitx_exc C.hg C.hk C.hs C.hd C.ha C.hn C.ht C.hm) I.kIn J e (fun z => nomatch z) fun tk => ⟨.bl b, H, I.kept (t' := tk) fun _ _ z => z, rfl, q⟩
def rIsX (i : Nat) (a : Addr) (b : Bool) : Tr := fun env g Kt => env[i]? = some (.dat (.ref a)) ∧ Kt (.val (.bl b)) g
theorem pm_isE {i : Nat} {n x : Str} {C2 : Addr} {D : Addr} {q : Addr × Obj} {b : Bool} {p p1 p2 pos : Pos} (hm : X.mg "isinstance" = none) (hm2 : X.mg x = some (.ref C2)) (C : ExcC X.K D) (hp : q ∈ X.pn) (ho : ExcO D q) (hk : PySem.W.kitOne X.K (.ref D) (.ref C2) = some b)
    (hg : Gl X "isinstance" := by rfl) (hg2 : Gl X x := by rfl) (hN : X.N[i]? = some n := by rfl) (hv : Vis X.env.scope n := by first | exact Or.inl rfl | exact Or.inr (Or.inl rfl) | exact Or.inr (Or.inr rfl)) (hd : (n == ("__debug__" : Str)) = false := by decide)
    (hcd : (n == ("__classdict__" : Str)) = false := by decide) (hdx : (x == ("__debug__" : Str)) = false := by decide) (h1 : Starts X (.Name n p1) [.Name x p2] := by rfl) (h2 : starEach [Expr.Name x p2] X.env = [(false, eval (.Name x p2) X.env)] := by rfl) (h3 : (backTo pos (starEach [Expr.Name x p2] X.env)).any (·.1) = false := by rfl) :
    PM X T EX (.Call (.Name "isinstance" p) [.Name n p1, .Name x p2] [] pos) (rIsX i q.1 b) := by
  obtain ⟨a, oe⟩ := q
  refine ⟨fun {U σ H g S env Q Kt} h ok en hv' hx' => sem_of (pe_callB (call_isP C hp ho.z (let ⟨vs, e, _⟩ := ho.f; ⟨vs, e⟩)) hg hm (by decide +kernel) (pa_cons (pe_var hN hv hd hcd) (pa_cons (pe_glob hg2 hm2 (show RelV (.ref C2) (.ref C2) from rfl) hdx) pa_nil h2) h1) (by decide) (by decide) h1 h3) ?_⟩
  obtain ⟨hi, k⟩ := h
  obtain ⟨v, e1, e2⟩ := en.dat i _ hi
  cases e2
  exact ⟨.ref a, e1, .ref C2, .ref C2, b, rfl, fun u h => h, hk, hv' _ g _ H S k (Ext.refl ok) (.bl b)⟩
/-- against a built-in class -/
theorem pm_isEb {i : Nat} {n x : Str} {t : String} {D : Addr} {q : Addr × Obj} {b : Bool} {p p1 p2 pos : Pos} (hm : X.mg "isinstance" = none) (hm2 : X.mg x = none) (hb : bootBuiltins x = some (.type t)) (C : ExcC X.K D) (hp : q ∈ X.pn) (ho : ExcO D q) (hk : PySem.W.kitOne X.K (.ref D) (.type t) = some b)
    (hg : Gl X "isinstance" := by rfl) (hg2 : Gl X x := by rfl) (hN : X.N[i]? = some n := by rfl) (hv : Vis X.env.scope n := by first | exact Or.inl rfl | exact Or.inr (Or.inl rfl) | exact Or.inr (Or.inr rfl)) (hd : (n == ("__debug__" : Str)) = false := by decide)
    (hcd : (n == ("__classdict__" : Str)) = false := by decide) (hx : x ≠ "__name__" := by decide) (hdx : (x == ("__debug__" : Str)) = false := by decide) (h1 : Starts X (.Name n p1) [.Name x p2] := by rfl) (h2 : starEach [Expr.Name x p2] X.env = [(false, eval (.Name x p2) X.env)] := by rfl) (h3 : (backTo pos (starEach [Expr.Name x p2] X.env)).any (·.1) = false := by rfl) :
    PM X T EX (.Call (.Name "isinstance" p) [.Name n p1, .Name x p2] [] pos) (rIsX i q.1 b) := by
  obtain ⟨a, oe⟩ := q
  refine ⟨fun {U σ H g S env Q Kt} h ok en hv' hx' => sem_of (pe_callB (call_isP C hp ho.z (let ⟨vs, e, _⟩ := ho.f; ⟨vs, e⟩)) hg hm (by decide +kernel) (pa_cons (pe_var hN hv hd hcd) (pa_cons (pe_bltn (v := .ty t) hg2 hm2 hb rfl hx hdx) pa_nil h2) h1) (by decide) (by decide) h1 h3) ?_⟩
  obtain ⟨hi, k⟩ := h
  obtain ⟨v, e1, e2⟩ := en.dat i _ hi
  cases e2
  exact ⟨.ref a, e1, .ty t, .type t, b, rfl, fun u h => h, hk, hv' _ g _ H S k (Ext.refl ok) (.bl b)⟩
/-! a list's comprehension, a sum, while an exception is handled -/
theorem pm_lcLH {elt : Expr} {ifs : List Expr} {scope : Scope} {i : Nat} {Rt Re Ri : Tr} {x : Str} {px pos : Pos} {iter : Expr} (hh : HotC X) (hN : X.N.Nodup) (hi : PM X T EX iter Ri) (ok : BlkOk X.N X.env.scope scope [(x, i)])
    (hg : ∀ (s : Shared) (H : Hp) (C : Addr) (cl : List (Str × Addr)) (fp : List Addr), PG (X.blk s H scope (compEnvC scope cl C X.env) fp) (.Name x px) (gName i)) (hT : BlkT X T scope ifs Rt) (hE : BlkE X T scope elt Re)
    (hs : ∀ x, foldedSetIterable iter X.env x = pure x := by intro _; rfl) : PM X T EX (.ListComp elt [⟨.Name x px, iter, ifs, 0⟩] scope pos) (rLcL i Ri Rt Re) :=
  pm_rd (pe_lcH (own := [(x, i)]) (tt := TBlkT X scope ifs) (te := TBlk X scope elt) hh hN pe_sem ok hg (fun s H C cl fp => ⟨fun pins s' σ H Q I hw => hw s _ C cl fp pins s' I⟩) (fun s H C cl fp => ⟨fun pins s' σ H Q I hw => hw s _ C cl fp pins s' I⟩) hs) (rd_lcL hi hT hE)
theorem pm_sumH {a : Expr} {RA : TrA} {p pos : Pos} (hh : HotC X) (hg : Gl X "sum") (hm : X.mg "sum" = none) (ha : PMA X T EX [a] RA) (he : Starts X a [] := by rfl) : PM X T EX (.Call (.Name "sum" p) [a] [] pos) (rCB sumF RA) := pm_callB (cr_sumH hh) va_sum hg hm (by decide +kernel) ha (by decide) (by decide) he
end
theorem _root_.L2H.RoomH.units {k : Nat} {A : Around} (r : L2H.RoomH k A) : A.units + 64 < cLine := by have := r.un; omega
/-! ### defs by their statements -/
/-- parameters are all written -/
abbrev Bnd (x qual : Str) (st : Stmt) (ps : List Str) : Prop := ∀ (kV doc pm : Value) (an : Option Addr) (cdv ct : Value) (us : List Value), us.length = ps.length → bindArgs (PySem.W.fnOf x qual (defArgs st) (defBody st) (defScope st) .none kV doc pm an cdv ct) ⟨us, []⟩ = pure (ps.zip us)
structure DefM (K : PySem.W.Frag) (mg : Str → Option Value) (x : Str) (st : Stmt) : Prop where
  ex : ∃ fd, FunD K x x (defArgs st) (defBody st) (defScope st) [] [] (He.ga K x) fd ∧ mg x = some (.ref (He.ga K x))
structure DefC (K : PySem.W.Frag) (C : Addr) (m qual : Str) (st : Stmt) : Prop where
  ex : ∃ fd, FunD K m qual (defArgs st) (defBody st) (defScope st) [] [] (He.ma K C m) fd ∧ Meth K C m (He.ma K C m)
  cl : Cls K C
structure DefI (K : PySem.W.Frag) (mg : Str → Option Value) (x : Str) (C : Addr) (qual : Str) (st : Stmt) : Prop where
  ex : ∃ fd, FunD K "__init__" qual (defArgs st) (defBody st) (defScope st) [] [] (He.ma K C "__init__") fd ∧ mg x = some (.ref C) ∧ Mk K C (He.ma K C "__init__")
section
variable {P : Program} {w : World} {K : PySem.W.Frag} {mg : Str → Option Value} {base : Heap} {T : List (Addr × Str)} {st : Stmt} {N ps : List Str} {k : Nat} {spec : SpD}
theorem calD {x : Str} (d : DefM K mg x st) (S : FnScope N ps (defScope st)) (b : Bnd x x st ps)
    (h : ∀ f, ∃ t : TW, Body P w K mg base T N x (defScope st) f k (defBody st) t ∧ ∀ ds g Kt, ds.length = ps.length → spec ds g Kt → t (endD Kt) (startD N.length ds) g) : Cal P w K mg base T (k + 1) x ps.length spec := by
  obtain ⟨fd, F, hm⟩ := d.ex
  exact ⟨⟨_, fd, ps, fnD F S (h _), hm, F.kp, F.bindsN b⟩⟩
theorem mtdD {C : Addr} {m qual : Str} (d : DefC K C m qual st) (S : FnScope N ps (defScope st)) (b : Bnd m qual st ps)
    (h : ∀ f, ∃ t : TW, Body P w K mg base T N qual (defScope st) f k (defBody st) t ∧ ∀ ds g Kt, ds.length = ps.length → spec ds g Kt → t (endD Kt) (startD N.length ds) g) : Mtd P w K mg base T (k + 1) C m ps.length spec := by
  obtain ⟨fd, F, hm⟩ := d.ex
  exact ⟨⟨_, fd, ps, fnD F S (h _), hm, F.bindsN b⟩, d.cl⟩
theorem makD {x qual : Str} {C : Addr} (d : DefI K mg x C qual st) (S : FnScope N ps (defScope st)) (b : Bnd "__init__" qual st ps)
    (h : ∀ f, ∃ t : TW, Body P w K mg base T N qual (defScope st) f k (defBody st) t ∧ ∀ ds g Kt, ds.length = ps.length → spec ds g Kt → t (endD Kt) (startD N.length ds) g) : Mak P w K mg base T (k + 1) x C ps.length spec := by
  obtain ⟨fd, F, hm, hM⟩ := d.ex
  exact ⟨⟨_, fd, ps, fnD F S (h _), hm, hM, F.bindsN b⟩⟩
/-- a def in which a lambda stands: its code object is known -/
theorem fnDc {name qual : Str} {params : Arguments} {body : List Stmt} {scope : Scope} {fd : FuncData} {q : He.Defn} (F : FunD K name qual params body scope [] [] (He.fAd K q) fd) (S : FnScope N ps scope)
    (h : ∃ t : TW, (∀ (A : Around) (outer : List Env) (s : Shared) (H : Hp) (E : XK), Room k (A.deeper (PyProof.Rows.envOfC qual scope s.heap.objs.size (He.fAd K q) (.ref (He.codeOf K q)))) → PXs (cxOf (L2N.CX P w) P w K mg base N qual scope (He.fAd K q) (.ref (He.codeOf K q)) A outer s H E) T E body t) ∧ ∀ ds g Kt, ds.length = ps.length → spec ds g Kt → t (endD Kt) (startD N.length ds) g) :
    FnOk P w K mg base (L2N.CX P w) (k + 1) (He.fAd K q) fd ps (spD K T ps.length spec) := by
  obtain ⟨t, hb, hs⟩ := h
  obtain ⟨oc, od, dV, kV, doc, pm, an, cdv, ct, osl, rfl, lk, hcd, _, _⟩ := F.ex
  obtain ⟨c, rfl⟩ := He.codeIn_ref hcd
  have ec : He.codeOf K q = c := He.codeOf_eq lk rfl
  refine fn_of lk hcd S (fun vs H Q E ⟨g, Sx, ds, Kt, hl, _⟩ => hl) fun A outer s H vs Q E hr hsp => ?_
  obtain ⟨g, Sx, ds, Kt, hl, ok, r, sp, hv, hx⟩ := hsp
  rw [← ec] at hr ⊢
  refine ⟨_, pss_sem, ?_⟩
  refine (hb A outer s H E hr).run (hs ds g Kt (by rw [← r.length]; exact hl) sp) (Ext.refl ok) (env_start r) ⟨fun env g' S' σ' H' q e n => hv .non g' .non H' S' q e .non, fun _ _ _ _ _ q _ _ => q.elim, fun _ _ _ _ _ q _ _ => q.elim, fun d g' S' v H' q e r => hv d g' v H' S' q e r, fun C g' S' H' q e => hx C g' H' S' q e⟩
theorem calDc {x : Str} (d : DefM K mg x st) (S : FnScope N ps (defScope st)) (b : Bnd x x st ps)
    (h : ∃ t : TW, (∀ (A : Around) (outer : List Env) (s : Shared) (H : Hp) (E : XK), Room k (A.deeper (PyProof.Rows.envOfC x (defScope st) s.heap.objs.size (He.ga K x) (.ref (He.codeOf K (x, none))))) → PXs (cxOf (L2N.CX P w) P w K mg base N x (defScope st) (He.ga K x) (.ref (He.codeOf K (x, none))) A outer s H E) T E (defBody st) t) ∧ ∀ ds g Kt, ds.length = ps.length → spec ds g Kt → t (endD Kt) (startD N.length ds) g) :
    Cal P w K mg base T (k + 1) x ps.length spec := by
  obtain ⟨fd, F, hm⟩ := d.ex
  exact ⟨⟨_, fd, ps, fnDc (q := (x, none)) F S h, hm, F.kp, F.bindsN b⟩⟩
/-- what a def says to a caught exception -/
theorem wordD {x y : Str} {wd : Addr → Option Str} (d : DefM K mg x st) (S : FnScope N [y] (defScope st)) (b : Bnd x x st [y])
    (h : ∀ (f : Addr) (cdv : Value) (A : Around) (outer : List Env) (s : Shared) (H : Hp) (p : Addr × Obj) (C : Addr) (nm : Str), Hot1 A p → ExcO C p → wd C = some nm → RoomH k (A.deeper (PyProof.Rows.envOfC x (defScope st) s.heap.objs.size f cdv)) →
      ∃ t : TW, PXs (cxH C8.CX0 P w K mg base N x (defScope st) f cdv A outer s H C8.E0 p) T C8.E0 (defBody st) t ∧ ∀ g Kt, Kt (.val (.tup [.str "refused", .str nm])) g → t (endD Kt) (startD N.length [.ref p.1]) g) : WordAt P w K mg base T (k + 1) x wd := by
  obtain ⟨fd, F, hm⟩ := d.ex
  refine ⟨_, fd, y, hm, F.kp, F.bindsN b, fun A outer s H Q p C nm g S' hr hh ho hpin e0 hb ok hw hq => ?_⟩
  obtain ⟨oc, od, dV, kV, doc, pm, an, cdv, ct, osl, rfl, lk, hcd, _, _⟩ := F.ex
  refine run_H (N := N) (ps := [y]) (us := [.ref p.1]) (vs := [.ref p.1]) lk hcd S hr hpin e0 hb (.cons rfl .nil) rfl fun hr' => ?_
  obtain ⟨t, ht, hs⟩ := h _ cdv A outer s H p C nm ⟨hh, ho.f⟩ ho hw hr'
  refine ⟨_, pss_sem, ?_⟩
  refine ht.run (hs g (fun r g' => r = .val (.tup [.str "refused", .str nm]) ∧ g' = g) ⟨rfl, rfl⟩) (Ext.refl ok) (env_start (.cons (.ref p.1) .nil)) ⟨fun env g' S'' σ' H' q e n => ?_, fun _ _ _ _ _ q _ _ => q.elim, fun _ _ _ _ _ q _ _ => q.elim, fun d g' S'' v H' q e r => ?_, fun C g' S'' H' q e => ?_⟩
  · cases q.1
  · obtain ⟨q1, rfl⟩ := q
    cases q1
    exact hq v H' S'' e r
  · cases q.1
end
end DL

set_option Elab.async false
set_option linter.all false
set_option maxRecDepth 100000
set_option maxHeartbeats 2000000
set_option autoImplicit false
/-! DL11: what the head is asked beyond its facts; dicts locked twice; slices by steps; for over a dict. -/
namespace DL
open PySem PySem.Spec L2 LamX
def excB (K : PySem.W.Frag) (D : Addr) : Bool :=
  He.eqO (PySem.W.findIn K (.ref D) "__getattribute__") (some (some (.builtin "BaseException.__getattribute__"))) && (He.eqO (PySem.W.findIn K (.ref D) "__getattr__") (some none) && (decide (PySem.W.subIn K (.ref D) (.type "BaseException") = some true) && (PySem.W.hasDictIn K D && (He.eqO (PySem.W.findIn K (.ref D) "__class__") (some (some (.builtin "object.__class__"))) &&
  (He.eqO (PySem.W.specialIn K (.builtin "object.__class__") "__get__") (some (some (.builtin "getset_descriptor.__get__"))) && (decide (PySem.W.takesIn K (.builtin "object.__class__") = some true) && decide (PySem.W.mroIn K D (.type "object") = some true)))))))
theorem excB_ok {K : PySem.W.Frag} {D : Addr} (h : excB K D = true) : ExcC K D := by
  unfold excB at h
  obtain ⟨h1, h⟩ := He.ba h
  obtain ⟨h2, h⟩ := He.ba h
  obtain ⟨h3, h⟩ := He.ba h
  obtain ⟨h4, h⟩ := He.ba h
  obtain ⟨h5, h⟩ := He.ba h
  obtain ⟨h6, h⟩ := He.ba h
  obtain ⟨h7, h8⟩ := He.ba h
  exact ⟨He.eqO_ok h1, He.eqO_ok h2, of_decide_eq_true h3, h4, He.eqO_ok h5, He.eqO_ok h6, of_decide_eq_true h7, of_decide_eq_true h8⟩
/-- what is asked of the exception classes xs (all below the class named top), of the tables of tf -/
def exBof (xs : List Str) (tf : List He.Defn) (K : PySem.W.Frag) : Bool :=
  (xs.all fun x => excB K (He.ga K x) && (decide (PySem.W.kitOne K (.ref (He.ga K x)) (.type "ValueError") = some true) && xs.all fun y => decide (PySem.W.kitOne K (.ref (He.ga K x)) (.ref (He.ga K y)) = some (decide (x = y))))) && decide ((tf.map fun p => (He.cT K p).2).Nodup)
structure ExFacts (xs : List Str) (tf : List He.Defn) (K : PySem.W.Frag) : Prop where
  ec : ∀ x ∈ xs, ExcC K (He.ga K x)
  kv : ∀ x ∈ xs, PySem.W.kitOne K (.ref (He.ga K x)) (.type "ValueError") = some true
  kit : ∀ x ∈ xs, ∀ y ∈ xs, PySem.W.kitOne K (.ref (He.ga K x)) (.ref (He.ga K y)) = some (decide (x = y))
  nd : (tf.map fun p => (He.cT K p).2).Nodup
theorem exBof_ok {xs : List Str} {tf : List He.Defn} {K : PySem.W.Frag} (h : exBof xs tf K = true) : ExFacts xs tf K := by
  unfold exBof at h
  obtain ⟨h, h4⟩ := He.ba h
  have h := List.all_eq_true.mp h
  refine ⟨fun x hx => ?_, fun x hx => ?_, fun x hx y hy => ?_, of_decide_eq_true h4⟩
  · exact excB_ok (He.ba (h x hx)).1
  · exact of_decide_eq_true (He.ba (He.ba (h x hx)).2).1
  · exact of_decide_eq_true (List.all_eq_true.mp (He.ba (He.ba (h x hx)).2).2 y hy)
/-- the word of a caught exception -/
def wdOf (xs : List Str) (K : PySem.W.Frag) (C : Addr) : Option Str := xs.find? fun x => decide (He.ga K x = C)
theorem wdOf_some {xs : List Str} {K : PySem.W.Frag} {C : Addr} {nm : Str} (h : wdOf xs K C = some nm) : nm ∈ xs ∧ He.ga K nm = C := by
  unfold wdOf at h
  exact ⟨List.mem_of_find?_eq_some h, by simpa using List.find?_some h⟩
theorem wdOf_self {xs : List Str} {tf : List He.Defn} {K : PySem.W.Frag} (F : ExFacts xs tf K) {x : Str} (hx : x ∈ xs) : wdOf xs K (He.ga K x) = some x := by
  cases h : wdOf xs K (He.ga K x) with
  | none =>
    have := List.find?_eq_none.mp h x hx
    simp at this
  | some y =>
    obtain ⟨hy, e⟩ := wdOf_some h
    have h1 := F.kit x hx y hy
    rw [← e, F.kit y hy y hy] at h1
    have h2 : y = y ↔ x = y := by simpa using h1
    rw [h2.mp rfl]
theorem nodup_map_inj {α β : Type} {f : α → β} : ∀ {l : List α}, (l.map f).Nodup → ∀ {a b : α}, a ∈ l → b ∈ l → f a = f b → a = b
  | [], _, _, _, h, _, _ => by cases h
  | c :: l, nd, a, b, ha, hb, e => by
    rw [List.map_cons, List.nodup_cons] at nd
    rcases List.mem_cons.mp ha with ea | ha'
    · rcases List.mem_cons.mp hb with eb | hb'
      · rw [ea, eb]
      · exact absurd (show f c ∈ l.map f from List.mem_map.mpr ⟨b, hb', by rw [← e, ea]⟩) nd.1
    · rcases List.mem_cons.mp hb with eb | hb'
      · exact absurd (show f c ∈ l.map f from List.mem_map.mpr ⟨a, ha', by rw [e, eb]⟩) nd.1
      · exact nodup_map_inj nd.2 ha' hb' e
/-- tables that nothing else is asked of -/
theorem tabAt_of {base : Heap} {mg : Str → Option Value} {K : PySem.W.Frag} {tf : List He.Defn} {q : He.Defn → Str} (nd : (tf.map fun p => (He.cT K p).2).Nodup) (tb : ∀ p ∈ tf, TabB base mg (He.cT K p).1 (He.cT K p).2) {p : He.Defn} (hp : p ∈ tf) :
    TabAt base mg (tf.map fun p => ((He.cT K p).2, q p)) (He.codeOf K p) (q p) := by
  refine ⟨(He.cT K p).2, tb p hp, List.mem_map.mpr ⟨p, hp, rfl⟩, fun r hr e => ?_⟩
  obtain ⟨p', hp', rfl⟩ := List.mem_map.mp hr
  have : p' = p := nodup_map_inj nd hp' hp e
  rw [this]
/-! ### the keys of a dict that may be locked already -/
section
variable {X : Cx} {T : List (Addr × Str)} {EX : XK} {elt : Expr} {ifs : List Expr} {scope : Scope} {i : Nat} {Rt Re Ri : Tr}
theorem G.lock_self {g : G} {a : Addr} (h : g.lk a = true) : g.lock a = g := by
  unfold G.lock
  congr
  funext b
  split
  · rename_i e; subst e; exact h.symm
  · rfl
def rLcN (i : Nat) (p : PF) (Rt Re : Tr) : Tr := fun env g Kt => ∃ a kvs, p env g.get = some (.ref a) ∧ g.get a = some (.dct kvs) ∧ lcR i Rt Re (kvs.map fun kv => keyD kv.1) env (g.lock a) g Kt
theorem rd_lcN_free {iter : Expr} {p : PF} (hi : PP X T iter p) (hT : BlkT X T scope ifs Rt) (hE : BlkE X T scope elt Re) {U : Addr → Prop} {σ : St} {H : Hp} {g : G} {S : Hp} {env : Env'} {Q : VK} {Kt : KR} {a : Addr} {kvs : List (Key × D)} {vs : List (Key × V)} (h1 : p env g.get = some (.ref a)) (hga : g.get a = some (.dct kvs))
    (hh : H a = some (.dK vs)) (hr : RepK X.K S vs kvs) (h : lcR i Rt Re (kvs.map fun kv => keyD kv.1) env (g.lock a) g Kt) (okh : HOK X.K T g S H) (en : EnvOk X.K U g S H env σ) (hv : ∀ d g' v H' S', Kt (.val d) g' → Ext X.K T g S H g' S' H' → Rep X.K S' v d → Q v H') :
    (tLockE (tLc (iKeys (TSem X iter)) (gName i) (TBlkT X scope ifs) (TBlk X scope elt) [i])) σ H Q := by
  obtain ⟨hlen, hf, ht, kk⟩ := h
  refine ⟨a, .dK vs, hh, trivial, fun od => ?_⟩
  have ok1 := okh.lock (od := od) hga hh hr
  have en1 : EnvOk X.K U (g.lock a) S (upd H a (.frz od (.dK vs))) env σ := by
    refine ⟨en.len, en.dat, fun j o q => ?_⟩
    obtain ⟨p', ho, q1, q2, q3, q4, q5, q6, q7⟩ := en.own j o q
    have ne : p' ≠ a := fun z => by subst z; rw [hga] at q5; cases q5
    exact ⟨p', ho, q1, by rw [upd_ne ne]; exact q2, q3, q4, q5, q6, q7⟩
  refine hi.run (g := g.lock a) h1 ok1 en1 fun v r => ?_
  cases r
  refine ⟨a, od, rfl, .inl ⟨vs, upd_same, fun D hD => ?_⟩⟩
  refine lc_gen (Q := fun v H' => H' a = some (.frz od (.dK vs)) ∧ Q v (upd H' a (.dK vs))) ok1 hD en1 hlen (itk_st upd_same hr) ht hT hE fun S' H' e r => ?_
  have fin : H' a = some (.frz od (.dK vs)) ∧ Ext X.K T g S H g S' (upd H' a (.dK vs)) := by
    cases hl : g.lk a with
    | false => exact okh.unlock hga hl hh hr e
    | true =>
      have hd : H' a = some (.frz od (.dK vs)) := e.frz a od _ upd_same
      rw [G.lock_self hl] at e
      refine ⟨hd, ⟨fun b u q => ?_, fun b u q => ?_, e.ok.sep, tabs_upd e.ok.tab hd (fun _ z => by cases z) (fun _ z => by cases z), e.ok.ntb⟩, e.mono, fun b q => ?_, fun b u q n t => ?_, fun b u v q => ?_, fun b q => ?_, fun b q => .inl q, fun b q => q, rfl, rfl⟩
      · have z : b ≠ a := fun z => by subst z; rw [e.ok.sep _ _ hga] at q; cases q
        rw [upd_ne z]; exact e.ok.sub b u q
      · by_cases z : b = a
        · subst z
          rw [hga] at q; cases q
          exact ⟨_, .dct (hr.mono e.mono), .inl upd_same⟩
        · rw [upd_ne z]; exact e.ok.obj b u q
      · rcases e.new b q with w | w
        · exact .inl w
        · refine .inr fun o q2 => ?_
          by_cases z : b = a
          · subst z; exact (w.no upd_same (fun _ z => by cases z)).elim
          · exact w o (by rw [upd_ne z]; exact q2)
      · have z : b ≠ a := fun z => by subst z; rw [hga] at n; cases n
        rw [upd_ne z]
        exact e.fr b u (by rw [upd_ne z]; exact q) n t
      · have z : b ≠ a := fun z => by subst z; rw [hh] at q; cases q
        rw [upd_ne z]; exact e.frz b u v (by rw [upd_ne z]; exact q)
      · by_cases z : b = a
        · subst z; exact (q.no upd_same (fun _ z => by cases z)).elim
        · intro o w
          exact e.there b (fun o' w' => q o' (by rw [upd_ne z]; exact w')) o (by rw [upd_ne z]; exact w)
  exact ⟨fin.1, hv _ g _ _ S' kk fin.2 r⟩
theorem rd_lcN_frz {iter : Expr} {p : PF} (hi : PP X T iter p) (hT : BlkT X T scope ifs Rt) (hE : BlkE X T scope elt Re) {U : Addr → Prop} {σ : St} {H : Hp} {g : G} {S : Hp} {env : Env'} {Q : VK} {Kt : KR} {a : Addr} {kvs : List (Key × D)} {vs : List (Key × V)} {od : Obj} (h1 : p env g.get = some (.ref a)) (hl : g.lk a = true)
    (hh : H a = some (.frz od (.dK vs))) (hr : RepK X.K S vs kvs) (h : lcR i Rt Re (kvs.map fun kv => keyD kv.1) env (g.lock a) g Kt) (okh : HOK X.K T g S H) (en : EnvOk X.K U g S H env σ) (hv : ∀ d g' v H' S', Kt (.val d) g' → Ext X.K T g S H g' S' H' → Rep X.K S' v d → Q v H') :
    (tLc (iKeys (TSem X iter)) (gName i) (TBlkT X scope ifs) (TBlk X scope elt) [i]) σ H Q := by
  obtain ⟨hlen, hf, ht, kk⟩ := h
  rw [G.lock_self hl] at ht
  refine hi.run (g := g) h1 okh en fun v r => ?_
  cases r
  refine ⟨a, od, rfl, .inl ⟨vs, hh, fun D hD => ?_⟩⟩
  exact lc_gen okh hD en hlen (itk_st hh hr) ht hT hE fun S' H' e r => hv _ g _ _ S' kk e r
theorem objD {K : PySem.W.Frag} {g : G} {S H : Hp} (ok : HOK K T g S H) {a : Addr} {kvs : List (Key × D)} (h : g.get a = some (.dct kvs)) : ∃ vs, RepK K S vs kvs ∧ (H a = some (.dK vs) ∨ (g.lk a = true ∧ ∃ od, H a = some (.frz od (.dK vs)))) := by
  obtain ⟨ho, r, z⟩ := ok.obj _ _ h
  cases r with
  | dct r =>
    rcases z with z | ⟨z, _, od, z2⟩
    · exact ⟨_, r, .inl z⟩
    · exact ⟨_, r, .inr ⟨z, od, z2⟩⟩
theorem pm_lcN {x : Str} {px pos : Pos} {iter : Expr} {p : PF} (hc : X.calm = true) (hN : X.N.Nodup) (hi : PP X T iter p) (ok : BlkOk X.N X.env.scope scope [(x, i)])
    (hg : ∀ (s : Shared) (H : Hp) (C : Addr) (cl : List (Str × Addr)) (fp : List Addr), PG (X.blk s H scope (compEnvC scope cl C X.env) fp) (.Name x px) (gName i)) (hT : BlkT X T scope ifs Rt) (hE : BlkE X T scope elt Re)
    (hs : ∀ x, foldedSetIterable iter X.env x = pure x := by intro _; rfl) : PM X T EX (.ListComp elt [⟨.Name x px, iter, ifs, 0⟩] scope pos) (rLcN i p Rt Re) := by
  have base : PE X (.ListComp elt [⟨.Name x px, iter, ifs, 0⟩] scope pos) (tLc (iKeys (TSem X iter)) (gName i) (TBlkT X scope ifs) (TBlk X scope elt) [i]) :=
    pe_lc (own := [(x, i)]) (tt := TBlkT X scope ifs) (te := TBlk X scope elt) hc hN (pi_keys pe_sem) ok hg (fun s H C cl fp => ⟨fun pins s' σ H Q I hw => hw s _ C cl fp pins s' I⟩) (fun s H C cl fp => ⟨fun pins s' σ H Q I hw => hw s _ C cl fp pins s' I⟩) hs
  refine ⟨fun {U σ H g S env Q Kt} h okh en hv hx => ?_⟩
  obtain ⟨a, kvs, h1, hga, hl⟩ := h
  obtain ⟨vs, hr, hh | ⟨lk, od, hh⟩⟩ := objD okh hga
  · exact sem_of (pe_lock base) (rd_lcN_free hi hT hE h1 hga hh hr hl okh en hv)
  · exact sem_of base (rd_lcN_frz hi hT hE h1 lk hh hr hl okh en hv)
theorem px_lcN {j : Nat} {x y : Str} {px py pos spos : Pos} {iter : Expr} {p : PF} (hc : X.calm = true) (hN : X.N.Nodup) (hy : X.N[j]? = some y) (hyl : X.env.scope.names.lookup y = some .local)
    (hsw : swapsWith (.ListComp elt [⟨.Name x px, iter, ifs, 0⟩] scope pos) (some (.Name y py)) spos.line X.env = pure true) (hi : PP X T iter p) (ok : BlkOk X.N X.env.scope scope [(x, i)])
    (hg : ∀ (s : Shared) (H : Hp) (C : Addr) (cl : List (Str × Addr)) (fp : List Addr), PG (X.blk s H scope (compEnvC scope cl C X.env) fp) (.Name x px) (gName i)) (hT : BlkT X T scope ifs Rt) (hE : BlkE X T scope elt Re)
    (hs : ∀ x, foldedSetIterable iter X.env x = pure x := by intro _; rfl) : PX X T EX (.Assign [.Name y py] (.ListComp elt [⟨.Name x px, iter, ifs, 0⟩] scope pos) spos) (wAsg j (rLcN i p Rt Re)) := by
  have base : PS X (.Assign [.Name y py] (.ListComp elt [⟨.Name x px, iter, ifs, 0⟩] scope pos) spos) (tAsg (tLc (iKeys (TSem X iter)) (gName i) (TBlkT X scope ifs) (TBlk X scope elt) [i]) (gName j)) :=
    ps_setLc (own := [(x, i)]) (tt := TBlkT X scope ifs) (te := TBlk X scope elt) hc hN hy hyl hsw (pi_keys pe_sem) ok hg (fun s H C cl fp => ⟨fun pins s' σ H Q I hw => hw s _ C cl fp pins s' I⟩) (fun s H C cl fp => ⟨fun pins s' σ H Q I hw => hw s _ C cl fp pins s' I⟩) hs
  refine ⟨fun {g0 S0 H0 σ H g S env D dn} h e n l => ?_⟩
  obtain ⟨a, kvs, h1, hga, hl⟩ := h
  obtain ⟨vs, hr, hh | ⟨lk, od, hh⟩⟩ := objD e.ok hga
  · refine semS_of (ps_lock base) ?_
    obtain ⟨d, u, q1, q2, q3⟩ := rd_lcN_free (Q := fun v H' => D.nx (σ.set j (some v)) H') hi hT hE h1 hga hh hr hl e.ok n (fun d g1 v H1 S1 k e1 r => l.nx _ g1 S1 _ H1 k (e.trans e1) ((n.ext e1).dat' j r))
    exact ⟨d, u, q1, q2, fun od => q3 od⟩
  · exact semS_of base (rd_lcN_frz hi hT hE h1 lk hh hr hl e.ok n (fun d g1 v H1 S1 k e1 r => l.nx _ g1 S1 _ H1 k (e.trans e1) ((n.ext e1).dat' j r)))
/-! name = a comprehension over a list, a tuple, a range, a text; the name a plain local -/
section
variable {j : Nat} {x y : Str} {px py pos spos : Pos} {iter : Expr}
theorem px_lcL (hc : X.calm = true) (hN : X.N.Nodup) (hy : X.N[j]? = some y) (hyl : X.env.scope.names.lookup y = some .local)
    (hsw : swapsWith (.ListComp elt [⟨.Name x px, iter, ifs, 0⟩] scope pos) (some (.Name y py)) spos.line X.env = pure true) (hi : PM X T EX iter Ri) (ok : BlkOk X.N X.env.scope scope [(x, i)])
    (hg : ∀ (s : Shared) (H : Hp) (C : Addr) (cl : List (Str × Addr)) (fp : List Addr), PG (X.blk s H scope (compEnvC scope cl C X.env) fp) (.Name x px) (gName i)) (hT : BlkT X T scope ifs Rt) (hE : BlkE X T scope elt Re)
    (hs : ∀ x, foldedSetIterable iter X.env x = pure x := by intro _; rfl) : PX X T EX (.Assign [.Name y py] (.ListComp elt [⟨.Name x px, iter, ifs, 0⟩] scope pos) spos) (wAsg j (rLcL i Ri Rt Re)) :=
  px_lcRD (ps_setLc (own := [(x, i)]) (tt := TBlkT X scope ifs) (te := TBlk X scope elt) hc hN hy hyl hsw (pi_list pe_sem) ok hg (fun s H C cl fp => ⟨fun pins s' σ H Q I hw => hw s _ C cl fp pins s' I⟩) (fun s H C cl fp => ⟨fun pins s' σ H Q I hw => hw s _ C cl fp pins s' I⟩) hs) (rd_lcL hi hT hE)
end
end
/-! ### slices by steps -/
def stepIx (n : Nat) (lo hi : Option Int) (st : Int) : List Nat := sliceRange (sliceBounds lo hi (some st) n).1 (sliceBounds lo hi (some st) n).2.1 (sliceBounds lo hi (some st) n).2.2
def stepD (xs : List D) (lo hi : Option Int) (st : Int) : List D := (stepIx xs.length lo hi st).filterMap (xs[·]?)
theorem stepD_mem {xs : List D} {lo hi : Option Int} {st : Int} {d : D} (h : d ∈ stepD xs lo hi st) : d ∈ xs := by
  unfold stepD at h
  obtain ⟨k, _, e⟩ := List.mem_filterMap.mp h
  exact List.mem_of_getElem? e
theorem Reps.pick {K : PySem.W.Frag} {S : Hp} {vs : List V} {ds : List D} (r : Reps K S vs ds) : ∀ ix : List Nat, Reps K S (ix.filterMap (vs[·]?)) (ix.filterMap (ds[·]?))
  | [] => .nil
  | k :: ix => by
    have t := Reps.pick r ix
    cases h : ds[k]? with
    | none =>
      have h' : vs[k]? = none := by
        rw [List.getElem?_eq_none_iff] at h ⊢
        rw [r.length]; exact h
      simp only [List.filterMap_cons, h, h']
      exact t
    | some d =>
      obtain ⟨v, e, rv⟩ := r.get h
      simp only [List.filterMap_cons, h, e]
      exact .cons rv t
theorem valsPick {vs : List V} {us : List Value} (r : Vals vs us) : ∀ ix : List Nat, Vals (ix.filterMap (vs[·]?)) (ix.filterMap (us[·]?))
  | [] => .nil
  | k :: ix => by
    have t := valsPick r ix
    cases h : vs[k]? with
    | none =>
      have h' : us[k]? = none := by
        rw [List.getElem?_eq_none_iff] at h ⊢
        rw [← r.length]; exact h
      simp only [List.filterMap_cons, h, h']
      exact t
    | some d =>
      obtain ⟨v, e, rv⟩ := r.get h
      simp only [List.filterMap_cons, h, e]
      exact .cons rv t
def tStep (K : PySem.W.Frag) (n : Int) (te tl : TE) : TE := fun σ H Q => te σ H fun x H1 => tl σ H1 fun y H2 => ∃ i, y = .int i ∧ ∃ i', some i = some i' ∧ ∃ a xs, x = .ref a ∧ SqL K H2 a xs ∧ ∀ p, H2 p = none → Q (.ref p) (upd H2 p (.lst ((stepIx xs.length (some i') none n).filterMap (xs[·]?))))
section
variable {X : Cx} {T : List (Addr × Str)} {EX : XK}
theorem pe_step {e lo : Expr} {te tl : TE} {n : Int} {k : Nat} {p1 p3 pos : Pos} (hn : 0 < n) (he : PE X e te) (hl : PE X lo tl) (htl : subscripted (.Slice (some lo) none (some (.Constant (.int n) k p1)) p3) false = subscripted (.Slice (some lo) none (some (.Constant (.int n) k p1)) p3) false := by rfl) :
    PE X (.Subscript e (.Slice (some lo) none (some (.Constant (.int n) k p1)) p3) pos) (tStep X.K n te tl) := by
  refine ⟨fun pins s σ H Q I h => ?_⟩
  refine PyProof.Rows.Subscript_ (thn (he.run pins s σ H _ I h) fun v s1 ⟨x, H1, I1, r1, q1⟩ => ?_)
  have hst : PO X (some (.Constant (.int n) k p1)) (tPart (tC (.int n))) := po_some pe_int
  refine wpAny_Slice (thn ((po_some hl).run pins s1 σ H1 (fun o H2 => ∃ i, o = some i ∧ ∃ a xs, x = .ref a ∧ SqL X.K H2 a xs ∧ ∀ p, H2 p = none → Q (.ref p) (upd H2 p (.lst ((stepIx xs.length (some i) none n).filterMap (xs[·]?))))) I1 q1) fun vl s2 ⟨l, H2, I2, pl, i, el, a, xs, ex, hx, q⟩ => ?_)
  subst el ex
  cases r1
  refine thn (po_none.run pins s2 σ H2 (fun o H3 => o = none ∧ H3 = H2) I2 ⟨rfl, rfl⟩) fun vu s3 ⟨u, H3, I3, pu, eu, e3⟩ => ?_
  subst eu e3
  refine thn (hst.run pins s3 σ H3 (fun o H4 => o = some n ∧ H4 = H3) I3 ⟨n, rfl, rfl, rfl⟩) fun vs s4 ⟨o, H4, I4, ps, eo, e4⟩ => ?_
  subst eo e4
  have I5 : Inv X pins σ H4 { s4 with heap := s4.heap.push { cls := .type "slice", data := .fields #[vl, vu, vs] } } := I4.kept (t' := s4.toks) fun b ob q => Heap.get?_push_of_some _ q
  obtain ⟨its, r, ht, hz⟩ := I5.list hx
  have hlen := r.length
  show wpAny (model X.prog X.w) X.A (PyProof.Rows.subscriptTail e (.Slice (some lo) none (some (.Constant (.int n) k p1)) p3) (.ref a) (.ref s4.heap.objs.size)) (EP X pins σ Q) X.xe { s4 with heap := s4.heap.push { cls := .type "slice", data := .fields #[vl, vu, vs] } }
  refine PyProof.Rows.tail_any (ops := [.ref a, .ref s4.heap.objs.size]) ht.isList.typeIs (PySem.slot_list_getitem.lookup) ?_ (by with_unfolding_all rfl)
  refine wpAny_getItem_list_slice ht.isList (Heap.IsSliceOf.new _ vl vu vs) pl pu ps (by intro z; cases z; omega) ?_ (by rw [List.size_toArray]; omega)
  have hp : slicePick its.toArray (some i) none (some n) = ((stepIx xs.length (some i) none n).filterMap (its[·]?)).toArray := by
    unfold slicePick stepIx
    rw [List.size_toArray, ← hlen]
    simp
  rw [hp]
  have vp := valsPick r (stepIx xs.length (some i) none n)
  refine ⟨.ref _, _, I5.laid (t' := s4.toks) (o := .lst ((stepIx xs.length (some i) none n).filterMap (xs[·]?))) (fun b ob q => Heap.get?_push_of_some _ q) (Nat.le_refl _) ?_, rfl, q _ (I5.hok.fresh (Nat.le_refl _))⟩
  have hle := slicePick_size_le its.toArray (some i) none (some n)
  rw [hp, List.size_toArray, ← vp.length, List.size_toArray] at hle
  exact ⟨by omega, _, 0, vp, Heap.get?_push_size _ rfl⟩
def rStep (n : Int) (A B : Tr) : Tr := fun env g Kt => A env g (onV Kt fun d1 g1 => B env g1 (onV Kt fun d2 g2 => ∃ i xs, d2 = .int i ∧ litems d1 = some xs ∧ Kt (.val (.lst (stepD xs (some i) none n))) g2))
theorem pm_step {e lo : Expr} {A1 A2 : Tr} {n : Int} {k : Nat} {p1 p3 pos : Pos} (hn : 0 < n) (ha : PM X T EX e A1) (hb : PM X T EX lo A2) : PM X T EX (.Subscript e (.Slice (some lo) none (some (.Constant (.int n) k p1)) p3) pos) (rStep n A1 A2) := by
  refine ⟨fun {U σ H g S env Q Kt} h ok en hv hx => sem_of (pe_step hn pe_sem pe_sem) ?_⟩
  refine ha.run h ok en (fun d g1 v H1 S1 k1 e1 r1 => ?_) (fun C g' H' S' k e => hx C g' H' S' k e)
  refine hb.run k1 e1.ok (en.ext e1) (fun d2 g2 v2 H2 S2 k2 e2 r2 => ?_) (fun C g' H' S' k e => hx C g' H' S' k (e1.trans e))
  obtain ⟨i, xs, rfl, hl, k⟩ := k2
  cases r2
  obtain ⟨p, vs, rfl, h3, h4⟩ := litems_rep e2.ok (r1.mono e2.mono) hl
  refine ⟨i, rfl, i, rfl, p, vs, rfl, h3, fun q hq => ?_⟩
  have hp := h4.pick (stepIx vs.length (some i) none n)
  have e3 := e2.ok.new (o := .lst ((stepIx vs.length (some i) none n).filterMap (vs[·]?))) hq (fun ps z => by cases z)
  refine hv _ g2 _ _ _ k ((e1.trans e2).trans e3) (.lst upd_same ?_)
  unfold stepD
  rw [← h4.length]
  exact hp.mono e3.mono
end
end DL

set_option Elab.async false
set_option linter.all false
set_option maxRecDepth 100000
set_option maxHeartbeats 2000000
set_option autoImplicit false
/-! DL12: own lists begun with items or sorted, remove, count; pairs walked; tuples of texts at the top. -/
namespace DL
open PySem PySem.Spec L2
section
variable {X : Cx} {T : List (Addr × Str)} {EX : XK} {a b o elt iter : Expr} {es ifs : List Expr} {A1 A2 Rt Re Ri : Tr} {RA : TrA} {pos : Pos} {scope : Scope} {w : TW}
/-- x = [e, ..], x one's own -/
def wNewLs (i : Nat) (RA : TrA) : TW := fun dn env g => i < env.length ∧ RA env g (onDA dn fun ds g1 => ds.length ≤ 1000 ∧ dn.nx (env.set i (.own (.lst ds))) g1)
theorem px_newLs {i : Nat} {x : Str} {pos' p2 : Pos} (hN : X.N.Nodup) (hi : X.N[i]? = some x) (hx : Loc X.env.scope x) (ha : PMA X T EX es RA) (hs : swapsWith (.List es p2) (some (.Name x pos')) pos.line X.env = pure false := by rfl)
    (hf : X.fn x = true ∨ X.env.scope.names.lookup x = some .local := by first | exact .inl rfl | exact .inr rfl | assumption) : PX X T EX (.Assign [.Name x pos'] (.List es p2) pos) (wNewLs i RA) := by
  refine ⟨fun {g0 S0 H0 σ H g S env D dn} h e n l => semS_of (ps_set hN hi hx (pe_lst pa_sem) hs hf) ?_⟩
  obtain ⟨hl, h⟩ := h
  refine ha.run h e.ok n (fun ds g1 vs H1 S1 k e1 r1 => ?_) (fun C g' H' S' k e1 => l.ex C g' S' H' k (e.trans e1))
  refine ⟨sz (by rw [r1.length]; have := k.1; omega), fun p hp => ?_⟩
  obtain ⟨e2, n2⟩ := (n.ext e1).own' (e.trans e1) i (o := .lst ds) hp (.lst r1) hl
  exact l.nx _ g1 S1 _ _ k.2 e2 n2
/-- x = sorted(e), x one's own -/
def wNewSort (i : Nat) (RA : TrA) : TW := fun dn env g => i < env.length ∧ RA env g (onDA dn fun ds g1 => ∃ ns : List Int, sortF g1 ds = some (.lst (ns.map D.int)) ∧ dn.nx (env.set i (.own (.lst (ns.map D.int)))) g1)
theorem map_int_inj {a b : List Int} (h : a.map D.int = b.map D.int) : a = b := List.map_inj_right (fun x y e => int_injD e) |>.mp h
  where int_injD {x y : Int} (h : D.int x = D.int y) : x = y := by cases h; rfl
theorem px_newSort {i : Nat} {x : Str} {pos' p pos2 : Pos} (hN : X.N.Nodup) (hi : X.N[i]? = some x) (hx : Loc X.env.scope x) (hc : X.calm = true) (hg : Gl X "sorted") (hm : X.mg "sorted" = none) (ha : PMA X T EX [a] RA) (he : Starts X a [] := by rfl) (hs : swapsWith (.Call (.Name "sorted" p) [a] [] pos2) (some (.Name x pos')) pos.line X.env = pure false := by rfl)
    (hf : X.fn x = true ∨ X.env.scope.names.lookup x = some .local := by first | exact .inl rfl | exact .inr rfl | assumption) : PX X T EX (.Assign [.Name x pos'] (.Call (.Name "sorted" p) [a] [] pos2) pos) (wNewSort i RA) := by
  refine ⟨fun {g0 S0 H0 σ H g S env D dn} h e n l => semS_of (ps_set hN hi hx (pe_callB (call_sortA hc) hg hm (by decide +kernel) pa_sem (by decide) (by decide) he (by rfl)) hs hf) ?_⟩
  obtain ⟨hl, h⟩ := h
  refine ha.run h e.ok n (fun ds g1 vs H1 S1 k e1 r1 => ?_) (fun C g' H' S' k e1 => l.ex C g' S' H' k (e.trans e1))
  obtain ⟨ns, hsF, k⟩ := k
  have n1 := n.ext e1
  have fin : ∀ (p : Addr) (ms : List Int), H1 p = none → ms = ns → D.nx (σ.set i (some (.ref p))) (upd H1 p (.lst (ms.map V.int))) := fun p ms hp em => by
    subst em
    obtain ⟨e2, n2⟩ := n1.own' (e.trans e1) i (o := .lst (ms.map DL.D.int)) hp (.lst (reps_ints ms)) hl
    exact l.nx _ g1 S1 _ _ k e2 n2
  cases ds with
  | nil => simp [sortF] at hsF
  | cons d0 r0 =>
    cases r0 with
    | cons _ _ => simp [sortF] at hsF
    | nil =>
      obtain ⟨x, rfl, rx⟩ := r1.one
      simp only [sortF] at hsF
      cases h : litems d0 with
      | some ys =>
        rw [h] at hsF
        obtain ⟨ms, h1, h2⟩ := Option.map_eq_some_iff.mp hsF
        have em : isort ms = ns := map_int_inj (DL.D.lst.inj h2)
        obtain ⟨q, us, rfl, h3, h4⟩ := litems_rep e1.ok rx h
        rw [intsOf_some h1] at h4
        rw [h4.ints] at h3
        exact .inl ⟨q, ms, rfl, h3, fun ns' p pm pw hp => fin p ns' hp ((isort_eq pm pw).trans em)⟩
      | none =>
        rw [h] at hsF
        obtain ⟨kvs, h1, hsF⟩ := Option.bind_eq_some_iff.mp hsF
        obtain ⟨ms, h2, hsF⟩ := Option.bind_eq_some_iff.mp hsF
        split at hsF
        · rename_i hl2
          have em : isort ms = ns := map_int_inj (DL.D.lst.inj (Option.some.inj hsF))
          obtain ⟨q, us, rfl, h3, h4⟩ := asDict_rep e1.ok rx h1
          exact .inr ⟨q, us, ms, rfl, h3, h4.keys.trans (inlsOf_some h2), hl2, fun ns' p pm pw hp => fin p ns' hp ((isort_eq pm pw).trans em)⟩
        · cases hsF
/-- x.remove(e), x one's own, of ints -/
def wRem (i : Nat) (A : Tr) : TW := fun dn env g => ∃ ns : List Int, env[i]? = some (.own (.lst (ns.map D.int))) ∧ A env g (onD dn fun v g1 => ∃ k, v = .int k ∧ k ∈ ns ∧ dn.nx (env.set i (.own (.lst ((ns.erase k).map D.int)))) g1)
theorem erase_at : ∀ {ns : List Int} {k : Int}, k ∈ ns → ∃ j, ns[j]? = some k ∧ (∀ m : Nat, m < j → ns[m]? ≠ some k) ∧ ns.eraseIdx j = ns.erase k
  | n :: ns, k, h => by
    by_cases e : n = k
    · subst e; exact ⟨0, rfl, fun m hm => absurd hm (Nat.not_lt_zero m), by simp⟩
    · have h' : k ∈ ns := (List.mem_cons.mp h).resolve_left (fun z => e z.symm)
      obtain ⟨j, h1, h2, h3⟩ := erase_at h'
      refine ⟨j + 1, by simpa using h1, fun m hm => ?_, ?_⟩
      · cases m with
        | zero => simp; exact e
        | succ m => simpa using h2 m (by omega)
      · rw [List.eraseIdx_cons_succ, List.erase_cons_tail (by simpa using e), h3]
theorem px_rem {i : Nat} {apos cpos : Pos} (hp : ∀ to te, PE X o to → PE X a te → PE X (.Call (.Attribute o "remove" apos) [a] [] cpos) (tBM X.K "list" rRemI to (tCons te tNil))) (ho : PE X o (tVar i)) (ha : PM X T EX a A1)
    (hs : swapsWith (.Call (.Attribute o "remove" apos) [a] [] cpos) none pos.line X.env = pure false := by rfl) : PX X T EX (.Expr (.Call (.Attribute o "remove" apos) [a] [] cpos) pos) (wRem i A1) := by
  refine ⟨fun {g0 S0 H0 σ H g S env D dn} h e n l => semS_of (ps_expr (hp _ _ ho pe_sem) hs) ?_⟩
  obtain ⟨ns, hi, h⟩ := h
  obtain ⟨p, ho', a1, a2, a3, a4, a5, a6, a7⟩ := n.own i _ hi
  cases a3 with
  | @lst vs _ hr =>
    rw [hr.ints] at a2
    refine ⟨.ref p, a1, .inl ⟨rfl, _, .inl (.inl a2)⟩, ?_⟩
    refine ha.run h e.ok n (fun d g1 v1 H1 S1 k e1 r1 => ?_) (fun C g' H' S' k e1 => l.ex C g' S' H' k (e.trans e1))
    have n1 := n.ext e1
    obtain ⟨p', ho1, b1, b2, b3, b4, b5, b6, b7⟩ := n1.own i _ hi
    rw [a1] at b1; cases b1
    obtain ⟨m1, m2, m3⟩ := e1.mine a4 a5 a2 (fun _ z => by cases z)
    obtain ⟨k0, rfl, hk, kk⟩ := k
    cases r1
    obtain ⟨j, j1, j2, j3⟩ := erase_at hk
    have r' : RepMO X.K S1 (.lst ((ns.erase k0).map V.int)) (.lst ((ns.erase k0).map DL.D.int)) := .lst (reps_ints _)
    refine ⟨p, ns, k0, j, rfl, rfl, m3, j1, j2, ?_⟩
    rw [j3]
    exact l.nx _ g1 S1 σ _ kk ((e.trans e1).own a6 m1 m2 m3 (fun _ z => by cases z) (fun _ z => by cases z)) (n1.ownSet hi a1 r')
/-- x[lo:], x one's own -/
def rSlO (i : Nat) (L H : TrO) : Tr := fun env g Kt => ∃ ds, env[i]? = some (.own (.lst ds)) ∧ L env g (fun C g => Kt (.exc C) g) fun l g2 => H env g2 (fun C g => Kt (.exc C) g) fun u g3 => Kt (.val (.lst (cutD ds l u))) g3
theorem pm_slO {i : Nat} {lo hi : Option Expr} {p2 : Pos} {L1 L2' : TrO} (ho : PE X a (tVar i)) (hl : PMO X T EX lo L1) (hu : PMO X T EX hi L2') : PM X T EX (.Subscript a (.Slice lo hi none p2) pos) (rSlO i L1 L2') := by
  refine ⟨fun {U σ H g S env Q Kt} h ok en hv hx => sem_of (pe_slice sl_all ho po_sem po_sem) ?_⟩
  obtain ⟨ds, hi, h⟩ := h
  obtain ⟨p, ho', a1, a2, a3, a4, a5, a6, a7⟩ := en.own i _ hi
  cases a3 with
  | @lst vs _ hr =>
    refine ⟨.ref p, a1, ?_⟩
    refine hl.run h ok en (fun l g2 H2 S2 k2 e2 => ?_) (fun C g' H' S' k e => hx C g' H' S' k e)
    refine hu.run k2 e2.ok (en.ext e2) (fun u g3 H3 S3 k3 e3 => ?_) (fun C g' H' S' k e => hx C g' H' S' k (e2.trans e))
    have e23 := e2.trans e3
    obtain ⟨m1, m2, m3⟩ := e23.mine a4 a5 a2 (fun _ z => by cases z)
    refine .inr (.inl ⟨p, vs, rfl, .inl (.inl m3), fun q hq => ?_⟩)
    have e4 := e23.ok.new (o := .lst (cutV vs l u)) hq (fun ps z => by cases z)
    exact hv _ g3 _ _ _ k3 (e23.trans e4) (.lst upd_same ((hr.mono (e23.trans e4).mono).cut l u))
/-- xs[::-1] -/
def rRev (A : Tr) : Tr := fun env g Kt => A env g (onV Kt fun d g1 => ∃ xs, litems d = some xs ∧ Kt (.val (.lst xs.reverse)) g1)
theorem pm_rev {e : Expr} {k : Nat} {p1 p2 p3 : Pos} (ha : PM X T EX e A1) : PM X T EX (.Subscript e (.Slice none none (some (.UnaryOp .USub (.Constant (.int 1) k p1) p2)) p3) pos) (rRev A1) := by
  refine ⟨fun {U σ H g S env Q Kt} h ok en hv hx => sem_of (pe_revL pe_sem) ?_⟩
  refine ha.run h ok en (fun d g1 v H1 S1 k1 e1 r1 => ?_) (fun C g' H' S' k e => hx C g' H' S' k e)
  obtain ⟨xs, hl, kk⟩ := k1
  obtain ⟨p, vs, rfl, h3, h4⟩ := litems_rep e1.ok r1 hl
  refine ⟨p, vs, rfl, h3, fun q hq => ?_⟩
  have e2 := e1.ok.new (o := .lst vs.reverse) hq (fun ps z => by cases z)
  exact hv _ g1 _ _ _ kk (e1.trans e2) (.lst upd_same ((h4.mono e2.mono).reverse))
/-- x.count(e), x a list of ints -/
def rCnt (A1 A2 : Tr) : Tr := fun env g Kt => A1 env g (onV Kt fun d1 g1 => ∃ ns : List Int, litems d1 = some (ns.map D.int) ∧ A2 env g1 (onV Kt fun d2 g2 => ∃ k, d2 = .int k ∧ Kt (.val (.int (ns.count k : Nat))) g2))
theorem pm_cnt {apos cpos : Pos} (hp : ∀ to te, PE X o to → PE X a te → PE X (.Call (.Attribute o "count" apos) [a] [] cpos) (tBM X.K "list" (rCntI X.K) to (tCons te tNil))) (ho : PM X T EX o A1) (ha : PM X T EX a A2) : PM X T EX (.Call (.Attribute o "count" apos) [a] [] cpos) (rCnt A1 A2) := by
  refine ⟨fun {U σ H g S env Q Kt} h ok en hv hx => sem_of (hp _ _ pe_sem pe_sem) ?_⟩
  refine ho.run h ok en (fun d1 g1 v1 H1 S1 k1 e1 r1 => ?_) (fun C g' H' S' k e => hx C g' H' S' k e)
  obtain ⟨ns, hl, k1⟩ := k1
  obtain ⟨p, vs, rfl, h3, h4⟩ := litems_rep e1.ok r1 hl
  rw [h4.ints] at h3
  refine .inl ⟨rfl, _, h3⟩ |> fun z => ⟨z, ?_⟩
  refine ha.run k1 e1.ok (en.ext e1) (fun d2 g2 v2 H2 S2 k2 e2 r2 => ?_) (fun C g' H' S' k e => hx C g' H' S' k (e1.trans e))
  obtain ⟨k, rfl, kk⟩ := k2
  cases r2
  obtain ⟨p', vs', q1, h3', h4'⟩ := litems_rep e2.ok (r1.mono e2.mono) hl
  cases q1
  rw [h4'.ints] at h3'
  exact ⟨p, ns, k, rfl, rfl, h3', hv _ g2 _ H2 S2 kk (e1.trans e2) (.int _)⟩
end
theorem lay_ns : ∀ as : List Int, PyData.canLayAll0 (as.map PyData.int) = true
  | [] => rfl
  | a :: as => by simp [PyData.canLayAll0, PyData.canLay0, lay_ns as]
theorem depth_ns : ∀ as : List Int, PyData.depthAll (as.map PyData.int) = 0
  | [] => by simp [PyData.depthAll]
  | a :: as => by simp [PyData.depthAll, PyData.depth, depth_ns as]
theorem shp (as : List Int) : SeqAt.shaped (.list (as.map PyData.int)) = true := by
  simp [SeqAt.shaped, PyData.canLay0, PyData.depth, lay_ns as, depth_ns as]
theorem eqvAll_ns : ∀ as bs : List Int, PyData.eqvAll (as.map PyData.int) (bs.map PyData.int) = decide (as = bs)
  | [], [] => by simp [PyData.eqvAll]
  | [], _ :: _ => by simp [PyData.eqvAll]
  | _ :: _, [] => by simp [PyData.eqvAll]
  | a :: as, b :: bs => by
    simp only [List.map_cons, PyData.eqvAll, PyData.eqv, eqvAll_ns as bs]
    by_cases h : a = b <;> simp [h]
/-! own lists compared with a list: of ints -/
def rNeO (i : Nat) (A : Tr) : Tr := fun env g Kt => ∃ ns : List Int, env[i]? = some (.own (.lst (ns.map D.int))) ∧ A env g (onV Kt fun d g1 => ∃ ms : List Int, d = .lst (ms.map D.int) ∧ Kt (.val (.bl (!decide (ns = ms)))) g1)
theorem dp_ints {K : PySem.W.Frag} {H : Hp} : ∀ ns : List Int, DpAll K H (ns.map V.int) (ns.map PyData.int)
  | [] => .nil
  | n :: ns => .cons (.int n) (dp_ints ns)
section
variable {X : Cx} {T : List (Addr × Str)} {EX : XK} {a b : Expr} {A1 A2 : Tr}
theorem pm_neO {i : Nat} {pos : Pos} (hu : OpR X (compareOp .NotEq) (rNeA X.K)) (hm : behindInMarks .NotEq b = false) (ho : PE X a (tVar i)) (hb : PM X T EX b A2) : PM X T EX (.Compare a [.NotEq] [b] pos) (rNeO i A2) := by
  refine ⟨fun {U σ H g S env Q Kt} h ok en hv hx => sem_of (pe_cmpR hu ho pe_sem hm) ?_⟩
  obtain ⟨ns, hi, h⟩ := h
  obtain ⟨p, ho', a1, a2, a3, a4, a5, a6, a7⟩ := en.own i _ hi
  cases a3 with
  | @lst vs _ hr =>
    rw [hr.ints] at a2
    refine ⟨.ref p, a1, ?_⟩
    refine hb.run h ok en (fun d g1 v1 H1 S1 k1 e1 r1 => ?_) (fun C g' H' S' k e => hx C g' H' S' k e)
    obtain ⟨m1, m2, m3⟩ := e1.mine a4 a5 a2 (fun _ z => by cases z)
    obtain ⟨ms, rfl, k⟩ := k1
    obtain ⟨q, us, rfl, h3, h4⟩ := litems_rep e1.ok r1 (d := .lst (ms.map D.int)) rfl
    rw [h4.ints] at h3
    have e := eqvAll_ns ns ms
    refine .inr ⟨.list (ns.map PyData.int), .list (ms.map PyData.int), .lst (.inl (.inl m3)) (dp_ints ns), .lst h3 (dp_ints ms), shp ns, shp ms, ?_⟩
    rw [show PyData.eqv (.list (ns.map PyData.int)) (.list (ms.map PyData.int)) = decide (ns = ms) by simp only [PyData.eqv]; exact e]
    exact hv _ g1 _ H1 S1 k e1 (.bl _)
theorem pmt_neO {i : Nat} {pos : Pos} (hu : OpR X (compareOp .NotEq) (rNeA X.K)) (hm : behindInMarks .NotEq b = false) (ho : PE X a (tVar i)) (hb : PM X T EX b A2) : PMT X T EX (.Compare a [.NotEq] [b] pos) (rNeO i A2) := by
  refine ⟨fun {U σ H g S env Q Kt Kx} h ok en hv hx => semT_of (pt_cmpR hu ho pe_sem hm) ?_⟩
  obtain ⟨ns, hi, h⟩ := h
  obtain ⟨p, ho', a1, a2, a3, a4, a5, a6, a7⟩ := en.own i _ hi
  cases a3 with
  | @lst vs _ hr =>
    rw [hr.ints] at a2
    refine ⟨.ref p, a1, ?_⟩
    refine hb.run h ok en (fun d g1 v1 H1 S1 k1 e1 r1 => ?_) (fun C g' H' S' k e => hx C g' H' S' k e)
    obtain ⟨m1, m2, m3⟩ := e1.mine a4 a5 a2 (fun _ z => by cases z)
    obtain ⟨ms, rfl, k⟩ := k1
    obtain ⟨q, us, rfl, h3, h4⟩ := litems_rep e1.ok r1 (d := .lst (ms.map D.int)) rfl
    rw [h4.ints] at h3
    have e := eqvAll_ns ns ms
    refine .inr ⟨.list (ns.map PyData.int), .list (ms.map PyData.int), .lst (.inl (.inl m3)) (dp_ints ns), .lst h3 (dp_ints ms), shp ns, shp ms, ?_⟩
    rw [show PyData.eqv (.list (ns.map PyData.int)) (.list (ms.map PyData.int)) = decide (ns = ms) by simp only [PyData.eqv]; exact e]
    exact ⟨_, rfl, hv _ g1 H1 S1 k e1⟩
end
/-! [elt for a, b in pairs] -/
abbrev pairD (p : D × D) : D := .tup [p.1, p.2]
def lcPR (i j : Nat) (Rt Re : Tr) (ds : List (D × D)) (env : Env') (gb : G) (g : G) (Kt : KR) : Prop := ds.length < 100000 ∧ ∃ h : D × D → Option D, (∀ d ∈ ds, turnR Rt Re gb ((env.set i (.dat d.1)).set j (.dat d.2)) (h d)) ∧ Kt (.val (.lst (ds.filterMap h))) g
def rLcP (i j : Nat) (Ri Rt Re : Tr) : Tr := fun env g Kt => Ri env g (onV Kt fun d g1 => ∃ ps : List (D × D), items d = some (ps.map pairD) ∧ notTup d ∧ lcPR i j Rt Re ps env g1 g1 Kt)
section
variable {X : Cx} {T : List (Addr × Str)} {EX : XK} {elt : Expr} {ifs : List Expr} {scope : Scope} {i j : Nat} {Rt Re Ri : Tr}
theorem wipe2 {σ : St} {i j : Nat} (ne : i ≠ j) (x y : Option V) : ((wipe σ [i, j]).set i x).set j y = (σ.set i x).set j y := by
  apply List.ext_getElem?
  intro k
  simp only [wipe, List.getElem?_set, List.length_set]
  by_cases h1 : j = k <;> by_cases h2 : i = k <;> simp [h1, h2]
theorem wipe2' {σ : St} {i j : Nat} (ne : i ≠ j) (x y : Option V) : wipe ((σ.set i x).set j y) [i, j] = wipe σ [i, j] := by
  apply List.ext_getElem?
  intro k
  simp only [wipe, List.getElem?_set, List.length_set]
  by_cases h1 : j = k <;> by_cases h2 : i = k <;> simp [h1, h2]
theorem lcP_gen {J : It} {ds : List (D × D)} {h : D × D → Option D} {σ : St} {env : Env'} {g1 : G} {S1 H1 : Hp} {p : Addr} {Q : VK} {U : Addr → Prop} (ne : i ≠ j) (ok : HOK X.K T g1 S1 H1) (hp : H1 p = none) (en : EnvOk X.K U g1 S1 H1 env σ) (hl : ds.length < 100000)
    (hst : ∀ k S' H', Ext X.K T g1 S1 H1 g1 S' H' → (k < ds.length → J.go k H') ∧ (k = ds.length → J.stop k H') ∧ ∀ x H2, k < ds.length → J.yld k H' x H2 → H2 = H' ∧ ∃ d, ds[k]? = some d ∧ Rep X.K S1 x (pairD d))
    (ht : ∀ d ∈ ds, turnR Rt Re g1 ((env.set i (.dat d.1)).set j (.dat d.2)) (h d)) (hT : BlkT X T scope ifs Rt) (hE : BlkE X T scope elt Re)
    (hd : ∀ S' H', Ext X.K T g1 S1 H1 g1 S' H' → Rep X.K S' (.ref p) (.lst (ds.filterMap h)) → Q (.ref p) H') :
    ∃ W : Nat → Nat → Hp → Prop, (∃ m, W 0 m (upd H1 p (.lst []))) ∧ ∀ k m H, W k m H →
      (J.stop k H ∧ Q (.ref p) H) ∨ (J.go k H ∧ ∃ Nx : Hp → Prop, (∀ H', Nx H' → ∃ m', m' < m ∧ W (k + 1) m' H') ∧ ∀ x H', J.yld k H x H' → gTup X.K 2 (gNames [i, j]) x (wipe σ [i, j]) H' fun σ2 H2 => wipe σ2 [i, j] = wipe σ [i, j] ∧ TBlkT X scope ifs σ2 H2 fun b H3 =>
        if b = true then TBlk X scope elt σ2 H3 fun y H4 => ∃ acc, H4 p = some (.lst acc) ∧ acc.length < sizeLine ∧ Nx (upd H4 p (.lst (acc ++ [y]))) else Nx H3) := by
  let St : Nat → Hp → Prop := fun k H => ∃ S' acc, Ext X.K T g1 S1 H1 g1 S' H ∧ S' p = none ∧ H p = some (.lst acc) ∧ Reps X.K S' acc ((ds.take k).filterMap h)
  have gp := ok.freeG hp
  have sp := ok.freeS hp
  refine ⟨fun k m H => m = ds.length - k ∧ k ≤ ds.length ∧ St k H, ⟨_, rfl, Nat.zero_le _, S1, [], ok.lay hp, sp, upd_same, .nil⟩, ?_⟩
  rintro k m H ⟨rfl, hk, S', acc, e, s0, hh, hr⟩
  obtain ⟨j1, j2, j3⟩ := hst k S' H e
  by_cases hlt : k < ds.length
  · refine .inr ⟨j1 hlt, St (k + 1), fun H' s => ⟨ds.length - (k + 1), by omega, rfl, hlt, s⟩, fun x H' hy => ?_⟩
    obtain ⟨rfl, d, hd1, hd2⟩ := j3 x H' hlt hy
    have hmem : d ∈ ds := List.mem_of_getElem? hd1
    have tk : ds.take (k + 1) = ds.take k ++ [d] := by rw [List.take_add_one, hd1]; rfl
    obtain ⟨d1, d2⟩ := d
    cases hd2 with
    | @tup a vs _ hq hrr =>
      obtain ⟨x1, x2, rfl, rx1, rx2⟩ := hrr.two
      refine ⟨a, _, rfl, e.ok.sqt (sqt_mono e.mono hq), rfl, x1, _, rfl, x2, _, rfl, rfl, ?_⟩
      have en' : EnvOk X.K U g1 S' H' ((env.set i (.dat d1)).set j (.dat d2)) (((wipe σ [i, j]).set i (some x1)).set j (some x2)) := by
        have z := ((en.ext e).dat' i (rx1.mono e.mono)).dat' j (rx2.mono e.mono)
        rw [wipe2 ne]; exact z
      refine ⟨by rw [wipe2 ne, wipe2' ne], fun s H0 C cl fp => ?_⟩
      have turn : turnR Rt Re g1 ((env.set i (.dat d1)).set j (.dat d2)) (h (d1, d2)) := ht _ hmem
      unfold turnR at turn
      refine (hT s H0 C cl fp).run (Kt := fun b g2 => g2 = g1 ∧ if b = true then Re ((env.set i (.dat d1)).set j (.dat d2)) g1 (fun r g3 => g3 = g1 ∧ match r with | .val y => h (d1, d2) = some y | _ => False) else h (d1, d2) = none) (Kx := fun _ _ => False) (?_) e.ok en' (fun b g2 H3 S3 kb e3 => ?_) (fun _ _ _ _ z _ => z.elim)
      · refine cast (congrArg (Rt ((env.set i (.dat d1)).set j (.dat d2)) g1) ?_) turn
        funext r g2
        cases r with
        | exc C => simp
        | val v =>
          cases v with
          | bl b => cases b <;> simp <;> (intro _; exact Iff.of_eq (congrArg _ (funext fun r => funext fun g3 => by cases r <;> rfl)))
          | _ => simp
      · obtain ⟨rfl, kb⟩ := kb
        obtain ⟨s3, _, h3⟩ := e3.mine s0 gp hh (fun _ z => by cases z)
        have e13 := e.trans e3
        cases b with
        | false =>
          rw [if_neg Bool.false_ne_true] at kb ⊢
          refine ⟨S3, acc, e13, s3, h3, ?_⟩
          rw [tk, List.filterMap_append]
          simp only [List.filterMap_cons, kb, List.filterMap_nil, List.append_nil]
          exact hr.mono e3.mono
        | true =>
          rw [if_pos rfl] at kb ⊢
          intro s H0 C cl fp
          refine (hE s H0 C cl fp).run kb e3.ok (en'.ext e3) (fun y g4 v H4 S4 k4 e4 r4 => ?_) (fun _ _ _ _ z _ => z.2.elim)
          obtain ⟨rfl, k4⟩ := k4
          obtain ⟨s4, _, h4⟩ := e4.mine s3 gp h3 (fun _ z => by cases z)
          refine ⟨acc, h4, szlt ?_, S4, acc ++ [v], (e13.trans e4).own (.of hp) s4 gp h4 (fun _ z => by cases z) (fun _ z => by cases z), s4, upd_same, ?_⟩
          · rw [hr.length]
            have := List.length_filterMap_le h (ds.take k)
            rw [List.length_take] at this
            omega
          · rw [tk, List.filterMap_append]
            simp only [List.filterMap_cons, k4, List.filterMap_nil]
            exact (hr.mono (e3.trans e4).mono).append (.cons r4 .nil)
  · have ek : k = ds.length := by omega
    subst ek
    refine .inl ⟨j2 rfl, hd (upd S' p (.lst acc)) H (e.freeze (.of hp) s0 gp hh (fun _ z => by cases z)) (.lst upd_same ?_)⟩
    rw [List.take_length] at hr
    exact hr.mono fun a u q => by rw [upd_ne (ne_of_none q s0)]; exact q
theorem itl_st2 {K : PySem.W.Frag} {g1 : G} {S1 H1 : Hp} {a : Addr} {vs : List V} {ps : List (D × D)} (hq : SqL K S1 a vs) (hr : Reps K S1 vs (ps.map pairD)) : ∀ k S' H', Ext K T g1 S1 H1 g1 S' H' → (k < ps.length → (Itl K a).go k H') ∧ (k = ps.length → (Itl K a).stop k H') ∧ ∀ x H2, k < ps.length → (Itl K a).yld k H' x H2 → H2 = H' ∧ ∃ d, ps[k]? = some d ∧ Rep K S1 x (pairD d) := fun k S' H' e => by
  have hq' : SqL K H' a vs := e.ok.sql (sql_mono e.mono hq)
  have hl := hr.length
  rw [List.length_map] at hl
  refine ⟨fun hk => ⟨vs, vs[k]'(by omega), hq', by simp⟩, fun hk => ⟨vs, hq', by omega⟩, fun x H2 _ y => ?_⟩
  obtain ⟨e1, y⟩ := y
  obtain ⟨d, h1, h2⟩ := hr.get' (y vs hq')
  rw [List.getElem?_map] at h1
  obtain ⟨p, h3, rfl⟩ := Option.map_eq_some_iff.mp h1
  exact ⟨e1, p, h3, h2⟩
theorem rd_lcP {iter : Expr} (ne : i ≠ j) (hi : PM X T EX iter Ri) (hT : BlkT X T scope ifs Rt) (hE : BlkE X T scope elt Re) : RD X T EX (tLc (iList X.K (TSem X iter)) (gTup X.K 2 (gNames [i, j])) (TBlkT X scope ifs) (TBlk X scope elt) [i, j]) (rLcP i j Ri Rt Re) := by
  refine ⟨fun {U σ H g S env Q Kt} h okh en hv hx => ?_⟩
  refine hi.run h okh en (fun d g1 v1 H1 S1 k1 e1 r1 => ?_) (fun C g' H' S' k e => hx C g' H' S' k e)
  obtain ⟨ds, hd, nt, hl, h, ht, k⟩ := k1
  obtain ⟨a, vs, rfl, hq, hr⟩ := itemsL r1 hd nt
  refine ⟨a, rfl, ⟨vs, e1.ok.sql hq⟩, fun p hp => ?_⟩
  exact lcP_gen ne e1.ok hp (en.ext e1) hl (itl_st2 hq hr) ht hT hE fun S' H' e r => hv _ g1 _ H' S' k (e1.trans e) r
theorem pm_lcP {x y : Str} {px py pt pos : Pos} {n : Nat} {iter : Expr} (hc : X.calm = true) (ne : i ≠ j) (hN : X.N.Nodup) (hi : PM X T EX iter Ri) (ok : BlkOk X.N X.env.scope scope [(x, i), (y, j)])
    (hg : ∀ (s : Shared) (H : Hp) (C : Addr) (cl : List (Str × Addr)) (fp : List Addr), PG (X.blk s H scope (compEnvC scope cl C X.env) fp) (.Tuple [.Name x px, .Name y py] n pt) (gTup X.K 2 (gNames [i, j]))) (hT : BlkT X T scope ifs Rt) (hE : BlkE X T scope elt Re)
    (hs : ∀ x, foldedSetIterable iter X.env x = pure x := by intro _; rfl) : PM X T EX (.ListComp elt [⟨.Tuple [.Name x px, .Name y py] n pt, iter, ifs, 0⟩] scope pos) (rLcP i j Ri Rt Re) :=
  pm_rd (pe_lc (own := [(x, i), (y, j)]) (tt := TBlkT X scope ifs) (te := TBlk X scope elt) hc hN (pi_list pe_sem) ok hg (fun s H C cl fp => ⟨fun pins s' σ H Q I hw => hw s _ C cl fp pins s' I⟩) (fun s H C cl fp => ⟨fun pins s' σ H Q I hw => hw s _ C cl fp pins s' I⟩) hs) (rd_lcP ne hi hT hE)
end
/-! tuples of texts at the top -/
def strV : Value → Option Str
  | .str z _ => some z
  | _ => none
def tupB (K : PySem.W.Frag) (x : Str) (zs : List Str) : Bool := match K.lookup (He.ga K x) with
  | some ⟨.type c, _, .seq its _, _⟩ => decide (c = "tuple") && (decide (its.size ≤ 1000) && decide (its.toList.map strV = zs.map some))
  | _ => false
theorem valsStr : ∀ {us : List Value} {zs : List Str}, us.map strV = zs.map some → Vals (zs.map V.str) us
  | [], [], _ => .nil
  | [], _ :: _, h => by simp at h
  | _ :: _, [], h => by simp at h
  | u :: us, z :: zs, h => by
    rw [List.map_cons, List.map_cons, List.cons.injEq] at h
    refine .cons ?_ (valsStr h.2)
    cases u with
    | str y t => have := h.1; simp [strV] at this; subst this; exact ⟨t, rfl⟩
    | _ => simp [strV] at h
structure TupK (K : PySem.W.Frag) (mg : Str → Option Value) (x : Str) (zs : List Str) : Prop where
  ex : mg x = some (.ref (He.ga K x)) ∧ ∃ (o : Obj) (its : Array Value) (n : Nat), K.lookup (He.ga K x) = some o ∧ o.cls = .type "tuple" ∧ o.data = .seq its n ∧ its.size ≤ sizeLine ∧ Vals (zs.map V.str) its.toList
theorem tupB_ok {K : PySem.W.Frag} {mg : Str → Option Value} {x : Str} {zs : List Str} (hm : mg x = some (.ref (He.ga K x))) (h : tupB K x zs = true) : TupK K mg x zs := by
  unfold tupB at h
  split at h
  · rename_i c od its n sl e
    obtain ⟨h1, h⟩ := He.ba h
    obtain ⟨h2, h3⟩ := He.ba h
    have h1 := of_decide_eq_true h1
    subst h1
    exact ⟨hm, _, its, n, e, rfl, rfl, sz (Nat.le_trans (of_decide_eq_true h2) (by decide)), valsStr (of_decide_eq_true h3)⟩
  · cases h
def tupsB (ts : List (Str × List Str)) (K : PySem.W.Frag) : Bool := ts.all fun t => tupB K t.1 t.2
section
variable {X : Cx} {T : List (Addr × Str)} {EX : XK}
theorem pm_gtup {x : Str} {zs : List Str} {pos : Pos} (hg : Gl X x) (h : TupK X.K X.mg x zs) (hd : (x == ("__debug__" : Str)) = false := by decide) : PM X T EX (.Name x pos) (rC (.tup (zs.map D.str))) := by
  obtain ⟨hm, o, its, n, h1, h2, h3, h4, h5⟩ := h.ex
  exact pm_c (v := .ref (He.ga X.K x)) (pe_glob hg hm (show RelV (.ref _) (.ref _) from rfl) hd) fun S => .tup (.inr ⟨o, its, n, h1, h2, h3, h4, h5⟩) (reps_strs zs)
end
end DL

set_option Elab.async false
set_option linter.all false
set_option maxRecDepth 100000
set_option maxHeartbeats 2000000
set_option autoImplicit false
/-! DL13: own lists compared with any data; lists repeated. -/
namespace DL
open PySem PySem.Spec L2
def rNeO2 (i : Nat) (A : Tr) : Tr := fun env g Kt => ∃ ds : List D, env[i]? = some (.own (.lst ds)) ∧ A env g (onV Kt fun d g1 => ∃ b, neF g1 (.lst ds) d = some (.bl b) ∧ Kt (.val (.bl b)) g1)
section
variable {X : Cx} {T : List (Addr × Str)} {EX : XK} {a b : Expr} {A1 A2 : Tr}
theorem neO_core {K : PySem.W.Frag} {g : G} {S H : Hp} {p : Addr} {vs : List V} {ds : List D} {d : D} {v : V} {k : Bool} {Q : VK} (ok : HOK K T g S H) (hp : H p = some (.lst vs)) (hr : Reps K S vs ds) (r : Rep K S v d) (h : neF g (.lst ds) d = some (.bl k)) (q : Q (.bl k) H) : rNeA K (.ref p) v H Q := by
  unfold neF at h
  cases e : eqB (.lst ds) d with
  | none => rw [e] at h; cases h
  | some z =>
    rw [e] at h; cases h
    have e2 : eqP (.lst ds) d = some z := by
      have : eqB (.lst ds) d = eqP (.lst ds) d := by unfold eqB; simp [toV]
      rw [← this]; exact e
    obtain ⟨x, y, h1, h2, h3, h4, rfl⟩ := eqP_some e2
    simp only [py] at h1
    cases hx : pys ds with
    | none => rw [hx] at h1; cases h1
    | some xs =>
      rw [hx] at h1; cases h1
      exact .inr ⟨_, _, .lst (.inl (.inl hp)) (pys_rep ok hr hx), py_rep ok r h2, h3, h4, q⟩
theorem pm_neO2 {i : Nat} {pos : Pos} (hu : OpR X (compareOp .NotEq) (rNeA X.K)) (hm : behindInMarks .NotEq b = false) (ho : PE X a (tVar i)) (hb : PM X T EX b A2) : PM X T EX (.Compare a [.NotEq] [b] pos) (rNeO2 i A2) := by
  refine ⟨fun {U σ H g S env Q Kt} h ok en hv hx => sem_of (pe_cmpR hu ho pe_sem hm) ?_⟩
  obtain ⟨ds, hi, h⟩ := h
  obtain ⟨p, ho', a1, a2, a3, a4, a5, a6, a7⟩ := en.own i _ hi
  cases a3 with
  | @lst vs _ hr =>
    refine ⟨.ref p, a1, ?_⟩
    refine hb.run h ok en (fun d g1 v1 H1 S1 k1 e1 r1 => ?_) (fun C g' H' S' k e => hx C g' H' S' k e)
    obtain ⟨m1, m2, m3⟩ := e1.mine a4 a5 a2 (fun _ z => by cases z)
    obtain ⟨z, hz, k⟩ := k1
    exact neO_core e1.ok m3 (hr.mono e1.mono) r1 hz (hv _ g1 _ H1 S1 k e1 (.bl _))
theorem pmt_neO2 {i : Nat} {pos : Pos} (hu : OpR X (compareOp .NotEq) (rNeA X.K)) (hm : behindInMarks .NotEq b = false) (ho : PE X a (tVar i)) (hb : PM X T EX b A2) : PMT X T EX (.Compare a [.NotEq] [b] pos) (rNeO2 i A2) := by
  refine ⟨fun {U σ H g S env Q Kt Kx} h ok en hv hx => semT_of (pt_cmpR hu ho pe_sem hm) ?_⟩
  obtain ⟨ds, hi, h⟩ := h
  obtain ⟨p, ho', a1, a2, a3, a4, a5, a6, a7⟩ := en.own i _ hi
  cases a3 with
  | @lst vs _ hr =>
    refine ⟨.ref p, a1, ?_⟩
    refine hb.run h ok en (fun d g1 v1 H1 S1 k1 e1 r1 => ?_) (fun C g' H' S' k e => hx C g' H' S' k e)
    obtain ⟨m1, m2, m3⟩ := e1.mine a4 a5 a2 (fun _ z => by cases z)
    obtain ⟨z, hz, k⟩ := k1
    exact neO_core e1.ok m3 (hr.mono e1.mono) r1 hz ⟨_, rfl, hv _ g1 H1 S1 k e1⟩
/-- a list times a number -/
def repD (ds : List D) (n : Nat) : List D := (List.replicate n ds).flatten
theorem Reps.rep {K : PySem.W.Frag} {S : Hp} {vs : List V} {ds : List D} (r : Reps K S vs ds) : ∀ n : Nat, Reps K S (List.replicate n vs).flatten (repD ds n)
  | 0 => .nil
  | n + 1 => by
    unfold repD
    rw [List.replicate_succ, List.replicate_succ, List.flatten_cons, List.flatten_cons]
    exact r.append (Reps.rep r n)
def rRepL (A1 A2 : Tr) : Tr := fun env g Kt => A1 env g (onV Kt fun d1 g1 => A2 env g1 (onV Kt fun d2 g2 => ∃ xs n, d1 = .lst xs ∧ d2 = .int n ∧ 0 ≤ n ∧ n ≤ 100 ∧ xs.length ≤ 100 ∧ Kt (.val (.lst (repD xs n.toNat))) g2))
theorem pm_rep {pos : Pos} (ha : PM X T EX a A1) (hb : PM X T EX b A2) : PM X T EX (.BinOp a .Mult b pos) (rRepL A1 A2) := by
  refine ⟨fun {U σ H g S env Q Kt} h ok en hv hx => sem_of (pe_op op_rep pe_sem pe_sem) ?_⟩
  refine ha.run h ok en (fun d1 g1 v1 H1 S1 k1 e1 r1 => ?_) (fun C g' H' S' k e => hx C g' H' S' k e)
  refine hb.run k1 e1.ok (en.ext e1) (fun d2 g2 v2 H2 S2 k2 e2 r2 => ?_) (fun C g' H' S' k e => hx C g' H' S' k (e1.trans e))
  obtain ⟨xs, n, rfl, rfl, n0, n1, hl, k⟩ := k2
  cases r2
  cases r1 with
  | @lst a1 vs1 _ s1 q1 =>
    refine ⟨a1, n, vs1, rfl, rfl, e2.ok.lst_is (e2.mono _ _ s1), by omega, by omega, ?_, fun p hp => ?_⟩
    · have : vs1.length * n.toNat ≤ 100 * 100 := Nat.mul_le_mul (by rw [q1.length]; exact hl) (by omega)
      exact sz (Nat.le_trans this (by decide))
    · have e3 := e2.ok.new (o := .lst (List.replicate n.toNat vs1).flatten) hp (fun ps z => by cases z)
      exact hv _ g2 _ _ _ k ((e1.trans e2).trans e3) (.lst upd_same (((q1.mono e2.mono).mono e3.mono).rep n.toNat))
end
end DL

set_option Elab.async false
set_option linter.all false
set_option maxRecDepth 100000
set_option maxHeartbeats 2000000
set_option autoImplicit false
/-! DL14: len(set(xs)) of ints, each once. -/
namespace DL
open PySem PySem.Spec L2
def rLenSet (A : Tr) : Tr := fun env g Kt => A env g (onV Kt fun d g1 => ∃ ns : List Int, d = .lst (ns.map D.int) ∧ ns.length < 64 ∧ ns.Nodup ∧ Kt (.val (.int (ns.length : Nat))) g1)
section
variable {X : Cx} {T : List (Addr × Str)} {EX : XK} {a : Expr} {A1 : Tr}
theorem pm_lenSet {p p2 q pos : Pos} (hc : X.calm = true) (hg : Gl X "len") (hm : X.mg "len" = none) (hg2 : Gl X "set") (hm2 : X.mg "set" = none) (ha : PM X T EX a A1)
    (na : starEach [a] X.env = (false, eval a X.env) :: starEach [] X.env := by rfl) : PM X T EX (.Call (.Name "len" p) [.Call (.Name "set" p2) [a] [] q] [] pos) (rLenSet A1) := by
  refine ⟨fun {U σ H g S env Q Kt} h ok en hv hx => sem_of (pe_lenSetI hc hg hm hg2 hm2 pe_sem na) ?_⟩
  refine ha.run h ok en (fun d1 g1 v1 H1 S1 k1 e1 r1 => ?_) (fun C g' H' S' k e => hx C g' H' S' k e)
  obtain ⟨ns, rfl, h1, h2, k⟩ := k1
  obtain ⟨p, us, rfl, h3, h4⟩ := litems_rep e1.ok r1 (d := .lst (ns.map D.int)) rfl
  rw [h4.ints] at h3
  exact ⟨p, ns, rfl, h3, h1, h2, hv _ g1 _ H1 S1 k e1 (.int _)⟩
end
end DL

set_option Elab.async false
set_option linter.all false
set_option maxRecDepth 100000
set_option maxHeartbeats 2000000
set_option autoImplicit false
/-! DL16: x = y + e, y and x one's own. -/
namespace DL
open PySem PySem.Spec L2
section
variable {X : Cx} {T : List (Addr × Str)} {EX : XK} {a b : Expr} {A1 : Tr}
def wNewCat (i j : Nat) (B : Tr) : TW := fun dn env g => i < env.length ∧ ∃ ds : List D, env[j]? = some (.own (.lst ds)) ∧ B env g (onD dn fun d g1 => ∃ ys : List D, d = .lst ys ∧ ds.length + ys.length ≤ 1000 ∧ dn.nx (env.set i (.own (.lst (ds ++ ys)))) g1)
theorem px_newCat {i j : Nat} {x : Str} {pos' p3 pos : Pos} (hN : X.N.Nodup) (hi : X.N[i]? = some x) (hx : Loc X.env.scope x) (ho : PE X a (tVar j)) (hb : PM X T EX b A1) (hs : swapsWith (.BinOp a .Add b p3) (some (.Name x pos')) pos.line X.env = pure false := by rfl)
    (hf : X.fn x = true ∨ X.env.scope.names.lookup x = some .local := by first | exact .inl rfl | exact .inr rfl | assumption) : PX X T EX (.Assign [.Name x pos'] (.BinOp a .Add b p3) pos) (wNewCat i j A1) := by
  refine ⟨fun {g0 S0 H0 σ H g S env D dn} h e n l => semS_of (ps_set hN hi hx (pe_op op_cat ho pe_sem) hs hf) ?_⟩
  obtain ⟨hl, ds, hj, h⟩ := h
  obtain ⟨q, ho', a1, a2, a3, a4, a5, a6, a7⟩ := n.own j _ hj
  cases a3 with
  | @lst vs _ hr =>
    refine ⟨.ref q, a1, ?_⟩
    refine hb.run h e.ok n (fun d g1 v1 H1 S1 k e1 r1 => ?_) (fun C g' H' S' k e1 => l.ex C g' S' H' k (e.trans e1))
    obtain ⟨ys, rfl, hlen, k⟩ := k
    obtain ⟨m1, m2, m3⟩ := e1.mine a4 a5 a2 (fun _ z => by cases z)
    cases r1 with
    | @lst b2 vs2 _ s2 q2 =>
      refine ⟨q, b2, vs, vs2, rfl, rfl, m3, e1.ok.lst_is s2, sz (by rw [hr.length, q2.length]; omega), fun p hp => ?_⟩
      obtain ⟨e2, n2⟩ := (n.ext e1).own' (e.trans e1) i (o := .lst (ds ++ ys)) hp (.lst ((hr.mono e1.mono).append q2)) hl
      exact l.nx _ g1 S1 _ _ k e2 n2
end
end DL

set_option Elab.async false
set_option linter.all false
set_option maxRecDepth 100000
set_option maxHeartbeats 2000000
set_option autoImplicit false
/-! DL17: dict of pairs; for over a dict's keys; x = a + b, one's own; d[k], e[l] = a, b. -/
namespace DL
open PySem PySem.Spec L2
section
variable {K : PySem.W.Frag} {T : List (Addr × Str)} {g : G} {S H : Hp}
/-! dict(pairs) -/
def pairsD : List D → Option (List (Key × D))
  | [] => some []
  | d :: r => match d with
    | .tup [k, v] => (keyOf k).bind fun key => (pairsD r).map fun t => (key, v) :: t
    | _ => none
theorem pairsD_rep (ok : HOK K T g S H) : ∀ {ds : List D} {vs : List V} {kvs : List (Key × D)}, Reps K S vs ds → pairsD ds = some kvs → ∃ (ps : List Addr) (kv : List (Key × V)), vs = ps.map V.ref ∧ Paired (fun p kv => SqT K H p [kV kv.1, kv.2]) ps kv ∧ RepK K S kv kvs
  | [], _, kvs, .nil, e => by cases e; exact ⟨[], [], rfl, .nil, .nil⟩
  | d :: ds, _, kvs, .cons (v := v) (vs := vs) r t, e => by
    unfold pairsD at e
    split at e
    · rename_i k x
      obtain ⟨key, h1, e⟩ := Option.bind_eq_some_iff.mp e
      obtain ⟨tl, h2, rfl⟩ := Option.map_eq_some_iff.mp e
      obtain ⟨ps, kv, rfl, h3, h4⟩ := pairsD_rep ok t h2
      cases r with
      | @tup a us _ hq hr =>
        obtain ⟨u1, u2, rfl, r1, r2⟩ := hr.two
        have := keyOf_rep r1 h1
        subst this
        exact ⟨a :: ps, (key, u2) :: kv, rfl, .cons (ok.sqt hq) h3, .cons r2 h4⟩
    · cases e
def dictF (_ : G) (ds : List D) : Option D := match ds with
  | [d] => (litems d).bind fun xs => (pairsD xs).map fun kvs => .dct (mergeD [] kvs)
  | _ => none
theorem va_dict : VA K T (fun xs H Q => ∃ (a : Addr) (ps : List Addr) (kvs : List (Key × V)), xs = [.ref a] ∧ SqL K H a (ps.map V.ref) ∧ Paired (fun p kv => SqT K H p [kV kv.1, kv.2]) ps kvs ∧ ∀ p, H p = none → Q (.ref p) (upd H p (.dK (mergeK [] kvs)))) dictF := by
  intro g S H xs ds d Q ok r e hq
  unfold dictF at e
  split at e
  · rename_i d0
    obtain ⟨x, rfl, rx⟩ := r.one
    obtain ⟨ys, h1, e⟩ := Option.bind_eq_some_iff.mp e
    obtain ⟨kvs, h2, rfl⟩ := Option.map_eq_some_iff.mp e
    obtain ⟨p, vs, rfl, h3, h4⟩ := litems_rep ok rx h1
    obtain ⟨ps, kv, rfl, h5, h6⟩ := pairsD_rep ok h4 h2
    refine ⟨p, ps, kv, rfl, h3, h5, fun q hq' => ?_⟩
    have e2 := ok.new (o := .dK (mergeK [] kv)) hq' (fun ps z => by cases z)
    exact hq _ _ _ e2 (.dct upd_same ((RepK.merge h6 .nil).mono e2.mono))
  · cases e
end
section
variable {X : Cx} {T : List (Addr × Str)} {EX : XK} {a b c o : Expr} {RA : TrA} {A1 A2 : Tr} {pos p : Pos}
theorem pm_dict (hc : X.calm = true) (hg : Gl X "dict") (hm : X.mg "dict" = none) (ha : PMA X T EX [a] RA) (he : Starts X a [] := by rfl) : PM X T EX (.Call (.Name "dict" p) [a] [] pos) (rCB dictF RA) := pm_cb (pe_callTy (call_dictP hc) hg hm (by decide +kernel) pa_sem (by decide) (by decide) he rfl) va_dict ha
/-! x = a + b, x one's own -/
def wNewCatV (i : Nat) (A B : Tr) : TW := fun dn env g => A env g (onD dn fun d1 g1 => B env g1 (onD dn fun d2 g2 => ∃ xs ys : List D, d1 = .lst xs ∧ d2 = .lst ys ∧ xs.length + ys.length ≤ 100000 ∧ i < env.length ∧ dn.nx (env.set i (.own (.lst (xs ++ ys)))) g2))
theorem px_newCatV {i : Nat} {x : Str} {pos' p3 pos : Pos} (hN : X.N.Nodup) (hi : X.N[i]? = some x) (hx : Loc X.env.scope x) (ha : PM X T EX a A1) (hb : PM X T EX b A2) (hs : swapsWith (.BinOp a .Add b p3) (some (.Name x pos')) pos.line X.env = pure false := by rfl)
    (hf : X.fn x = true ∨ X.env.scope.names.lookup x = some .local := by first | exact .inl rfl | exact .inr rfl | assumption) : PX X T EX (.Assign [.Name x pos'] (.BinOp a .Add b p3) pos) (wNewCatV i A1 A2) := by
  refine ⟨fun {g0 S0 H0 σ H g S env D dn} h e n l => semS_of (ps_set hN hi hx (pe_op op_cat pe_sem pe_sem) hs hf) ?_⟩
  refine ha.run h e.ok n (fun d1 g1 v1 H1 S1 k1 e1 r1 => ?_) (fun C g' H' S' k e1 => l.ex C g' S' H' k (e.trans e1))
  refine hb.run k1 e1.ok (n.ext e1) (fun d2 g2 v2 H2 S2 k2 e2 r2 => ?_) (fun C g' H' S' k e2 => l.ex C g' S' H' k ((e.trans e1).trans e2))
  obtain ⟨xs, ys, rfl, rfl, hlen, hl, k⟩ := k2
  cases r1 with
  | @lst a1 vs1 _ s1 q1 =>
    cases r2 with
    | @lst a2 vs2 _ s2 q2 =>
      have q1' := q1.mono e2.mono
      refine ⟨a1, a2, vs1, vs2, rfl, rfl, e2.ok.lst_is (e2.mono _ _ s1), e2.ok.lst_is s2, sz (by rw [q1.length, q2.length]; exact hlen), fun p hp => ?_⟩
      have e12 := (e.trans e1).trans e2
      obtain ⟨e3, n3⟩ := ((n.ext e1).ext e2).own' e12 i (o := .lst (xs ++ ys)) hp (.lst (q1'.append q2)) (by simpa using hl)
      exact l.nx _ g2 S2 _ _ k e3 n3
end
/-! ### a dict locked through a statement -/
def G.blk (g : G) (d : Addr) : G := { g with lk := fun b => if b = d then true else g.lk b, tl := fun b => if b = d then true else g.tl b }
@[simp] theorem G.blk_get {g : G} {d : Addr} : (g.blk d).get = g.get := rfl
/-- locks as g has them -/
def G.unb (g2 g : G) : G := { g2 with lk := g.lk, tl := g.tl }
@[simp] theorem G.unb_get {g g2 : G} : (g2.unb g).get = g2.get := rfl
@[simp] theorem G.unb_blk {g : G} {d : Addr} : (g.blk d).unb g = g := rfl
section
variable {K : PySem.W.Frag} {T : List (Addr × Str)} {g g0 g2 : G} {S H S0 H0 S2 H2 : Hp} {a : Addr} {vs : List (Key × V)} {od : Obj}
theorem upd_fre {H : Hp} {a b : Addr} {o : HO} (h : Fre (upd H a o) b) (n : ∀ ps, o ≠ .tbl ps) : b ≠ a ∧ Fre H b := by
  have ne : b ≠ a := fun z => by subst z; exact h.no upd_same n
  exact ⟨ne, fun u q => h u (by rw [upd_ne ne]; exact q)⟩
theorem fre_upd {H : Hp} {a b : Addr} {o : HO} (h : Fre H b) (ne : b ≠ a) : Fre (upd H a o) b := fun u q => h u (by rw [upd_ne ne] at q; exact q)
theorem HOK.blk (ok : HOK K T g S H) (hh : H a = some (.dK vs)) : HOK K T (g.blk a) S (upd H a (.frz od (.dK vs))) := by
  refine ⟨fun b u q => ?_, fun b u q => ?_, ok.sep, tabs_upd ok.tab hh (fun _ z => by cases z) (fun _ z => by cases z), ok.ntb⟩
  · by_cases z : b = a
    · subst z
      rcases ok.sub b u q with w | ⟨_, _, od', w⟩
      · rw [hh] at w; cases w
        exact .inr ⟨by simp [G.blk], ⟨_, rfl⟩, od, upd_same⟩
      · rw [hh] at w; cases w
    · rw [upd_ne z]
      rcases ok.sub b u q with w | ⟨w1, w2⟩
      · exact .inl w
      · exact .inr ⟨by simp [G.blk, z, w1], w2⟩
  · obtain ⟨ho, r, w⟩ := ok.obj b u q
    refine ⟨ho, r, ?_⟩
    by_cases z : b = a
    · subst z
      rcases w with w | ⟨_, _, od', w⟩
      · rw [hh] at w; cases w
        exact .inr ⟨by simp [G.blk], ⟨_, rfl⟩, od, upd_same⟩
      · rw [hh] at w; cases w
    · rw [upd_ne z]
      rcases w with w | ⟨w1, w2⟩
      · exact .inl w
      · exact .inr ⟨by simp [G.blk, z, w1], w2⟩
theorem Ext.blk (e : Ext K T g0 S0 H0 g S H) (hh : H a = some (.dK vs)) : Ext K T (g.blk a) S (upd H0 a (.frz od (.dK vs))) (g.blk a) S (upd H a (.frz od (.dK vs))) := by
  refine ⟨e.ok.blk hh, fun _ _ z => z, fun _ z => .inl z, fun b u q n t => ?_, fun b u v q => ?_, fun b q => ?_, fun _ z => .inl z, fun _ z => z, rfl, rfl⟩
  · by_cases z : b = a
    · subst z; rw [upd_same] at q ⊢; exact q
    · rw [upd_ne z] at q ⊢
      refine e.fr b u q ?_ t
      cases w : g0.get b with
      | none => rfl
      | some x => exact absurd (show g.get b = none from n) (e.gold b (by rw [w]; simp))
  · by_cases z : b = a
    · subst z; rw [upd_same] at q ⊢; exact q
    · rw [upd_ne z] at q ⊢; exact e.frz b u v q
  · obtain ⟨ne, q⟩ := upd_fre q (fun _ z => by cases z)
    exact fre_upd (e.there b q) ne
theorem Ext.unblk (e : Ext K T g0 S0 H0 g S H) (hh : H a = some (.dK vs)) (E : Ext K T (g.blk a) S (upd H0 a (.frz od (.dK vs))) g2 S2 H2) : H2 a = some (.frz od (.dK vs)) ∧ Ext K T g0 S0 H0 (g2.unb g) S2 (upd H2 a (.dK vs)) := by
  have hd : H2 a = some (.frz od (.dK vs)) := E.frz a od _ upd_same
  have ntl : ∀ b, b ≠ a → g2.tl b = g.tl b := fun b z => by rw [E.tl]; simp [G.blk, z]
  have nlk : ∀ b, b ≠ a → g2.lk b = g.lk b := fun b z => by rw [E.lk]; simp [G.blk, z]
  refine ⟨hd, ⟨fun b u q => ?_, fun b u q => ?_, E.ok.sep, tabs_upd E.ok.tab hd (fun _ z => by cases z) (fun _ z => by cases z), E.ok.ntb⟩, fun b u q => E.mono b u (e.mono b u q), fun b q => ?_, fun b u q n t => ?_, fun b u v q => ?_, fun b q => ?_, fun b q => ?_, fun b q => E.gold b (e.gold b q), e.lk, e.tl⟩
  · by_cases z : b = a
    · subst z
      have sn : S b ≠ none := (E.new b (by rw [q]; simp)).resolve_right fun f => f.no upd_same (fun _ z => by cases z)
      cases w : S b with
      | none => exact absurd w sn
      | some u0 =>
        have := E.mono b u0 w
        rw [q] at this; cases this
        rcases e.ok.sub b u w with y | ⟨_, _, od', y⟩
        · rw [hh] at y; cases y; exact .inl upd_same
        · rw [hh] at y; cases y
    · rw [upd_ne z]
      rcases E.ok.sub b u q with w | ⟨w1, w2⟩
      · exact .inl w
      · exact .inr ⟨(ntl b z).symm.trans w1, w2⟩
  · obtain ⟨ho, r, w⟩ := E.ok.obj b u q
    refine ⟨ho, r, ?_⟩
    by_cases z : b = a
    · subst z
      rcases w with w | ⟨_, _, od', w⟩
      · rw [hd] at w; cases w; cases r
      · rw [hd] at w; cases w; exact .inl upd_same
    · rw [upd_ne z]
      rcases w with w | ⟨w1, w2⟩
      · exact .inl w
      · exact .inr ⟨(nlk b z).symm.trans w1, w2⟩
  · rcases E.new b q with w | w
    · exact e.new b w
    · exact .inr (upd_fre w (fun _ z => by cases z)).2
  · by_cases z : b = a
    · subst z
      have := e.fr b u q n t
      rw [hh] at this; cases this
      exact upd_same
    · rw [upd_ne z]
      cases w : g.get b with
      | none => exact E.fr b u (by rw [upd_ne z]; exact q) w t
      | some x =>
        rcases e.gnew b (by rw [w]; simp) with y | y
        · exact absurd n y
        · exact (y.no q t).elim
  · have z : b ≠ a := fun z => by
      subst z
      have := e.frz b u v q
      rw [hh] at this; cases this
    rw [upd_ne z]
    exact E.frz b u v (by rw [upd_ne z]; exact q)
  · obtain ⟨ne, q⟩ := upd_fre q (fun _ z => by cases z)
    exact (upd_fre (E.there b q) (fun _ z => by cases z)).2
  · rcases E.gnew b q with w | w
    · exact e.gnew b w
    · exact .inr (upd_fre w (fun _ z => by cases z)).2
end
end DL
namespace DL
open PySem PySem.Spec L2
section
variable {K : PySem.W.Frag} {T : List (Addr × Str)} {g g0 g2 : G} {S H S0 H0 S2 H2 : Hp} {a : Addr} {env : Env'} {σ : St} {o o2 : HO}
theorem EnvOk.blk (n : EnvOk K (UF H0) g S H env σ) (ha : S a ≠ none ∨ g.get a ≠ none) : EnvOk K (UF (upd H0 a o)) (g.blk a) S (upd H a o) env σ := by
  refine ⟨n.len, n.dat, fun j o' q => ?_⟩
  obtain ⟨p, ho, h1, h2, h3, h4, h5, h6, h7⟩ := n.own j o' q
  have ne : p ≠ a := fun z => by subst z; exact ha.elim (fun y => y h4) (fun y => y h5)
  exact ⟨p, ho, h1, by rw [upd_ne ne]; exact h2, h3, h4, h5, fre_upd h6 ne, h7⟩
theorem EnvOk.unblk (n : EnvOk K (UF (upd H0 a o)) g2 S2 H2 env σ) (no : ∀ ps, o ≠ .tbl ps) : EnvOk K (UF H0) (g2.unb g) S2 (upd H2 a o2) env σ := by
  refine ⟨n.len, n.dat, fun j o' q => ?_⟩
  obtain ⟨p, ho, h1, h2, h3, h4, h5, h6, h7⟩ := n.own j o' q
  obtain ⟨ne, h6'⟩ := upd_fre h6 no
  exact ⟨p, ho, h1, by rw [upd_ne ne]; exact h2, h3, h4, h5, h6', h7⟩
end
def Dn.unl (dn : Dn) (g : G) : Dn := { nx := fun e g2 => dn.nx e (g2.unb g), rt := fun d g2 => dn.rt d (g2.unb g), ex := fun _ _ => False }
section
variable {X : Cx} {T : List (Addr × Str)} {EX : XK} {a b c : Expr} {A1 A2 : Tr} {w : TW} {pos : Pos}
theorem forK_core {t : TE} {i : Nat} {body : List Stmt} {g0 g : G} {S0 H0 S H : Hp} {env : Env'} {σ : St} {dn : Dn} {D : Ends} {a : Addr} {vs : List (Key × V)} {kvs : List (Key × DL.D)} (hb : PXs X T EX body w) (e : Ext X.K T g0 S0 H0 g S H) (n : EnvOk X.K (UF H0) g S H env σ) (l : Lk X.K T EX g0 S0 H0 dn D)
    (hh : H a = some (.dK vs)) (hr : RepK X.K S vs kvs) (ha : S a ≠ none ∨ g.get a ≠ none) (hf : forR i w (kvs.map fun kv => keyD kv.1) (dn.unl g) env (g.blk a)) (hi : ∀ od (Q : VK), Q (.ref a) (upd H a (.frz od (.dK vs))) → t σ (upd H a (.frz od (.dK vs))) Q) :
    tLock (tFor (iKeys t) (gName i) (TSemB X body)) D σ H := by
  refine ⟨a, .dK vs, hh, trivial, fun od => ?_⟩
  have E1 := e.blk (od := od) hh
  have nt : ∀ ps, HO.frz od (.dK vs) ≠ .tbl ps := fun _ z => by cases z
  have n1 : EnvOk X.K (UF (upd H0 a (.frz od (.dK vs)))) (g.blk a) S (upd H a (.frz od (.dK vs))) env σ := n.blk ha
  refine hi od _ ⟨a, od, rfl, .inl ⟨vs, upd_same, ?_⟩⟩
  refine for_gen E1 n1 (dn := dn.unl g) ⟨fun env g2 S2 σ2 H2 q E n2 => ?_, fun env g2 S2 σ2 H2 q => q.elim, fun env g2 S2 σ2 H2 q => q.elim, fun d g2 S2 v H2 q E r => ?_, fun C g2 S2 H2 q => q.elim⟩ hb (fun k g' S' H' e2 => ?_) hf
  · obtain ⟨h1, h2⟩ := e.unblk hh E
    exact ⟨h1, l.nx env (g2.unb g) S2 σ2 _ q h2 (n2.unblk nt)⟩
  · obtain ⟨h1, h2⟩ := e.unblk hh E
    exact ⟨h1, l.rt d (g2.unb g) S2 v _ q h2 r⟩
  · have h' := e2.frz _ _ _ upd_same
    have hl := hr.length
    rw [List.length_map]
    refine ⟨fun hk => ⟨h', by omega⟩, fun hk => ⟨h', by omega⟩, fun x H2 _ y => ?_⟩
    obtain ⟨e1, ky, v, h1, rfl⟩ := y
    obtain ⟨z, h2, h3⟩ := hr.get h1
    exact ⟨e1, keyD ky, by rw [List.getElem?_map, h2]; rfl, rep_keyD ky⟩
/-- for k in x, x a name that holds a dict that stands still -/
def wForKd (i j : Nat) (w : TW) : TW := fun dn env g => ∃ kvs, env[j]? = some (.dat (.dct kvs)) ∧ (∀ a, g.tl a = false) ∧ ∀ a, forR i w (kvs.map fun kv => keyD kv.1) (dn.unl g) env (g.blk a)
theorem px_forKd {i j : Nat} {x : Str} {px : Pos} {iter : Expr} {body : List Stmt} (hp : PassesOwn (model X.prog X.w) X.A X.env X.xe) (hc : X.calm = true) (hi : PE X iter (tVar j)) (hg : PG X (.Name x px) (gName i)) (hb : PXs X T EX body w)
    (hs : ∀ x, foldedSetIterable iter X.env x = pure x := by intro _; rfl) : PX X T EX (.For (.Name x px) iter body [] pos) (wForKd i j w) := by
  refine ⟨fun {g0 S0 H0 σ H g S env D dn} h e n l => semS_of (ps_lock (ps_for hp hc (pi_keys hi) hg pss_sem hs)) ?_⟩
  obtain ⟨kvs, h1, htl, hf⟩ := h
  obtain ⟨v, h2, h3⟩ := n.dat j _ h1
  cases h3 with
  | @dct a vs _ hS hr =>
    have hh : H a = some (.dK vs) := by
      rcases e.ok.sub _ _ hS with z | ⟨z, _⟩
      · exact z
      · rw [htl a] at z; cases z
    exact forK_core hb e n l hh hr (.inl (by rw [hS]; simp)) (hf a) fun od Q q => ⟨_, h2, q⟩
/-- for k in a dict that may change, by a path to it -/
def wForKg (i : Nat) (p : PF) (w : TW) : TW := fun dn env g => ∃ a kvs, p env g.get = some (.ref a) ∧ g.get a = some (.dct kvs) ∧ g.lk a = false ∧ forR i w (kvs.map fun kv => keyD kv.1) (dn.unl g) env (g.blk a)
theorem px_forKg {i : Nat} {p : PF} {x : Str} {px : Pos} {iter : Expr} {body : List Stmt} (hp : PassesOwn (model X.prog X.w) X.A X.env X.xe) (hc : X.calm = true) (hi : PP X T iter p) (hg : PG X (.Name x px) (gName i)) (hb : PXs X T EX body w)
    (hs : ∀ x, foldedSetIterable iter X.env x = pure x := by intro _; rfl) : PX X T EX (.For (.Name x px) iter body [] pos) (wForKg i p w) := by
  refine ⟨fun {g0 S0 H0 σ H g S env D dn} h e n l => semS_of (ps_lock (ps_for hp hc (pi_keys pe_sem) hg pss_sem hs)) ?_⟩
  obtain ⟨a, kvs, h1, hga, hl, hf⟩ := h
  obtain ⟨vs, hh, hr⟩ := e.ok.dctF hga hl
  have ga : S a ≠ none ∨ g.get a ≠ none := .inr (by rw [hga]; simp)
  refine forK_core hb e n l hh hr ga hf fun od Q q => ?_
  refine hi.run (g := g.blk a) h1 (e.ok.blk hh) (n.blk ga) fun v r => ?_
  cases r
  exact q
end
/-! d[k], e[l] = a, b -/
section
variable {X : Cx} {T : List (Addr × Str)} {EX : XK} {o1 i1 o2 i2 : Expr} {O1 K1 O2 K2 : Tr} {RA : TrA} {pos : Pos}
/-- d[k] = v on data: what is then -/
def putR (K1 : Tr) (dn : Dn) (env : Env') (v d1 : DL.D) (g2 : G) (k : G → Prop) : Prop := K1 env g2 (onD dn fun k1 g3 => ∃ a kvs key, d1 = .ref a ∧ g3.get a = some (.dct kvs) ∧ g3.lk a = false ∧ keyOf k1 = some key ∧ kvs.length < 100000 ∧ k (g3.set a (.dct (dput kvs key v))))
def wPut2 (RA : TrA) (O1 K1 O2 K2 : Tr) : TW := fun dn env g => RA env g (onDA dn fun ds g1 => ∃ v1 v2, ds = [v1, v2] ∧ O1 env g1 (onD dn fun d1 g2 => putR K1 dn env v1 d1 g2 fun g4 => O2 env g4 (onD dn fun d2 g5 => putR K2 dn env v2 d2 g5 fun g7 => dn.nx env g7)))
theorem put_step {g0 g1 : G} {S0 H0 S1 H1 : Hp} {env : Env'} {σ : St} {dn : Dn} {D : Ends} {v : V} {dv d1 : DL.D} {x : V} {Q : Hp → Prop} {k : G → Prop} {i1 : Expr} (hk1 : PM X T EX i1 K1) (e : Ext X.K T g0 S0 H0 g1 S1 H1) (n : EnvOk X.K (UF H0) g1 S1 H1 env σ) (l : Lk X.K T EX g0 S0 H0 dn D) (r : Rep X.K S1 v dv) (rx : Rep X.K S1 x d1)
    (h : putR K1 dn env dv d1 g1 k) (q : ∀ g2 S2 H2, k g2 → Ext X.K T g0 S0 H0 g2 S2 H2 → EnvOk X.K (UF H0) g2 S2 H2 env σ → (∀ b o, S1 b = some o → S2 b = some o) → Q H2) : TSem X i1 σ H1 fun y H2 => rSetD x y v H2 Q := by
  refine hk1.run h e.ok n (fun d2 g2 v2 H2 S2 k2 e2 r2 => ?_) (fun C g' H' S' k e2 => l.ex C g' S' H' k (e.trans e2))
  obtain ⟨a, kvs, key, rfl, hg, hl, hkey, hlen, kk⟩ := k2
  cases rx
  obtain ⟨vs, h5, h6⟩ := e2.ok.dctF hg hl
  have r' := r.mono e2.mono
  have e3 := e2.ok.set (o' := .dct (dput kvs key dv)) (ho' := .dK (putK vs key v)) hg h5 (.dct h6) (fun _ _ z => by cases z) (.dct (h6.put r'))
  exact ⟨a, _, rfl, .inl ⟨vs, key, h5, keyOf_rep r2 hkey, szlt (by rw [h6.length]; exact hlen), rfl⟩, q _ S2 _ kk ((e.trans e2).trans e3) ((n.ext e2).ext e3) e2.mono⟩
theorem px_put2 {a b : Expr} {k2 kt : Nat} {p1 p2 pt pt2 : Pos} (hc : X.calm = true) (hu : X.A.units + 1 < cLine) (ha : PMA X T EX [a, b] RA) (h1 : PM X T EX o1 O1) (hk1 : PM X T EX i1 K1) (h2 : PM X T EX o2 O2) (hk2 : PM X T EX i2 K2)
    (ha1 : ∀ v, assign (.Subscript o1 i1 p1) X.env v = (do
      let ov ← holding [v] (eval o1 X.env)
      let iv ← holding [v, ov] (eval i1 X.env)
      standAt p1
      holding [v, ov, iv] (setItem ov iv v)
      release [v, ov, iv] []) := by intro _; rfl)
    (ha2 : ∀ v, assign (.Subscript o2 i2 p2) X.env v = (do
      let ov ← holding [v] (eval o2 X.env)
      let iv ← holding [v, ov] (eval i2 X.env)
      standAt p2
      holding [v, ov, iv] (setItem ov iv v)
      release [v, ov, iv] []) := by intro _; rfl)
    (hs1 : (assignEach [.Subscript o1 i1 p1, .Subscript o2 i2 p2] X.env).map (·.2) = assign (.Subscript o1 i1 p1) X.env :: (assignEach [.Subscript o2 i2 p2] X.env).map (·.2) := by rfl)
    (hs2 : (assignEach [.Subscript o2 i2 p2] X.env).map (·.2) = assign (.Subscript o2 i2 p2) X.env :: (assignEach [] X.env).map (·.2) := by rfl)
    (hn : (assignEach [.Subscript o1 i1 p1, .Subscript o2 i2 p2] X.env).length = 2 := by rfl) (hst : (assignEach [.Subscript o1 i1 p1, .Subscript o2 i2 p2] X.env).findIdx? (·.1) = none := by rfl)
    (hs : swapsWithSole [.Tuple [.Subscript o1 i1 p1, .Subscript o2 i2 p2] kt pt] (.Tuple [a, b] k2 pt2) pos.line X.env = pure false := by rfl) (hw : swappedStores [.Tuple [.Subscript o1 i1 p1, .Subscript o2 i2 p2] kt pt] (.Tuple [a, b] k2 pt2) X.env = pure none := by rfl)
    (hx1 : (assignEach [.Tuple [.Subscript o1 i1 p1, .Subscript o2 i2 p2] kt pt] X.env).map (·.2) = [assign (.Tuple [.Subscript o1 i1 p1, .Subscript o2 i2 p2] kt pt) X.env] := by rfl) :
    PX X T EX (.Assign [.Tuple [.Subscript o1 i1 p1, .Subscript o2 i2 p2] kt pt] (.Tuple [a, b] k2 pt2) pos) (wPut2 RA O1 K1 O2 K2) := by
  refine ⟨fun {g0 S0 H0 σ H g S env D dn} h e n l => semS_of (ps_asg (pe_tup pa_sem) (pg_tup hc (pgs_cons (pg_sub pe_sem pe_sem (set_dict hu) ha1) (pgs_cons (pg_sub pe_sem pe_sem (set_dict hu) ha2) pgs_nil hs2) hs1) hn hst) hs hw hx1) ?_⟩
  refine ha.run h e.ok n (fun ds g1 vs H1 S1 k e1 r1 => ?_) (fun C g' H' S' k e1 => l.ex C g' S' H' k (e.trans e1))
  obtain ⟨v1, v2, rfl, k⟩ := k
  obtain ⟨x1, x2, rfl, r1, r2⟩ := r1.two
  refine ⟨sz (show 2 ≤ 100000 by decide), fun p hp => ?_⟩
  have e2 := e1.ok.new (o := .tup [x1, x2]) hp (fun ps z => by cases z)
  have et := (e.trans e1).trans e2
  have nt := (n.ext e1).ext e2
  refine ⟨p, [x1, x2], rfl, .inl (.inl upd_same), rfl, x1, [x2], rfl, ?_⟩
  refine h1.run k e2.ok nt (fun d1 g2 y1 H2 S2 k2 e3 q1 => ?_) (fun C g' H' S' k e3 => l.ex C g' S' H' k (et.trans e3))
  refine put_step (k := fun g4 => O2 env g4 (onD dn fun d2 g5 => putR K2 dn env v2 d2 g5 fun g7 => dn.nx env g7)) hk1 (et.trans e3) (nt.ext e3) l (r1.mono fun b o z => e3.mono b o (e2.mono b o z)) q1 k2 fun g4 S4 H4 k4 e4 n4 m4 => ?_
  refine ⟨x2, [], rfl, ?_⟩
  refine h2.run k4 e4.ok n4 (fun d2 g5 y2 H5 S5 k5 e5 q2 => ?_) (fun C g' H' S' k e5 => l.ex C g' S' H' k (e4.trans e5))
  refine put_step (k := fun g7 => dn.nx env g7) hk2 (e4.trans e5) (n4.ext e5) l (r2.mono fun b o z => e5.mono b o (m4 b o (e3.mono b o (e2.mono b o z)))) q2 k5 fun g7 S7 H7 k7 e7 n7 m7 => ?_
  exact ⟨rfl, l.nx env g7 S7 σ H7 k7 e7 n7⟩
end
end DL

set_option Elab.async false
set_option linter.all false
set_option maxRecDepth 100000
set_option maxHeartbeats 2000000
set_option autoImplicit false
/-! DL18: lists among the objects that may change. -/
namespace DL
open PySem PySem.Spec L2
section
variable {K : PySem.W.Frag} {T : List (Addr × Str)} {g : G} {S H : Hp}
def glst (g : G) (d : D) : Option (List D) := match d with
  | .ref a => match g.get a with
    | some (.lst ds) => some ds
    | _ => none
  | _ => none
theorem glst_ref {a : Addr} {ds : List D} (h : g.get a = some (.lst ds)) : glst g (.ref a) = some ds := by simp [glst, h]
theorem glst_rep (ok : HOK K T g S H) {v : V} {d : D} {ds : List D} (r : Rep K S v d) (e : glst g d = some ds) : ∃ a vs, d = .ref a ∧ v = .ref a ∧ g.get a = some (.lst ds) ∧ H a = some (.lst vs) ∧ Reps K S vs ds := by
  unfold glst at e
  split at e
  · rename_i a
    split at e
    · rename_i xs h
      cases e
      obtain ⟨vs, h1, h2⟩ := ok.lstF h
      cases r
      exact ⟨a, vs, rfl, rfl, h, h1, h2⟩
    · cases e
  · cases e
/-- a list's items, whether it may change or not -/
def deref (g : G) (d : D) : D := match glst g d with
  | some ds => .lst ds
  | none => d
theorem deref_ref {a : Addr} {ds : List D} (h : g.get a = some (.lst ds)) : deref g (.ref a) = .lst ds := by simp [deref, glst_ref h]
def inGF (g : G) (a b : D) : Option D := (inB a (deref g b)).map .bl
def niGF (g : G) (a b : D) : Option D := (inB a (deref g b)).map fun k => .bl (!k)
theorem inB_g (ok : HOK K T g S H) {x y : V} {d1 d2 : D} {k : Bool} (r1 : Rep K S x d1) (r2 : Rep K S y d2) (h : inB d1 (deref g d2) = some k) : (∃ p xs, y = .ref p ∧ (SqL K H p xs ∨ SqT K H p xs) ∧ flatV x = true ∧ xs.all flatV = true ∧ k = inV x xs) ∨ ∃ (c : Nat) (z : Str), x = .str ⟨#[c]⟩ ∧ y = .str z ∧ k = decide (c ∈ z.cps.toList) := by
  cases q : glst g d2 with
  | none =>
    unfold deref at h
    rw [q] at h
    exact inB_cases ok r1 r2 h
  | some ds =>
    unfold deref at h
    rw [q] at h
    obtain ⟨a, vs, rfl, rfl, h1, h2, h3⟩ := glst_rep ok r2 q
    have h' : (match toV d1, (items (.lst ds)).bind toVs with | some x, some xs => some (inV x xs) | _, _ => none) = some k := h
    split at h'
    · rename_i u us hu hus
      cases h'
      have hus' : toVs ds = some us := hus
      obtain ⟨rfl, h5⟩ := toVs_rep h3 hus'
      rw [toV_rep r1 hu]
      exact .inl ⟨a, _, rfl, .inl (.inl (.inl h2)), toV_flat hu, h5, rfl⟩
    · cases h'
theorem v2_inG : V2 K T (rInA K false) inGF := by
  intro g S H x y d1 d2 d Q ok r1 r2 e hq
  unfold inGF at e
  obtain ⟨k, h, rfl⟩ := Option.map_eq_some_iff.mp e
  rcases inB_g ok r1 r2 h with ⟨p, xs, rfl, h1, h2, h3, rfl⟩ | ⟨c, z, rfl, rfl, rfl⟩
  · exact .inl ⟨p, xs, rfl, h1, h2, h3, hq _ H S (Ext.refl ok) (.bl _)⟩
  · exact .inr ⟨c, z, rfl, rfl, hq _ H S (Ext.refl ok) (.bl _)⟩
theorem v2_niG : V2 K T (rInA K true) niGF := by
  intro g S H x y d1 d2 d Q ok r1 r2 e hq
  unfold niGF at e
  obtain ⟨k, h, rfl⟩ := Option.map_eq_some_iff.mp e
  rcases inB_g ok r1 r2 h with ⟨p, xs, rfl, h1, h2, h3, rfl⟩ | ⟨c, z, rfl, rfl, rfl⟩
  · exact .inl ⟨p, xs, rfl, h1, h2, h3, hq _ H S (Ext.refl ok) (.bl _)⟩
  · exact .inr ⟨c, z, rfl, rfl, hq _ H S (Ext.refl ok) (.bl _)⟩
/-! ==, != -/
theorem py_g (ok : HOK K T g S H) {v : V} {d : D} {x : PyData} (r : Rep K S v d) (h : py (deref g d) = some x) : Dp K H v x := by
  cases q : glst g d with
  | none => unfold deref at h; rw [q] at h; exact py_rep ok r h
  | some ds =>
    unfold deref at h
    rw [q] at h
    obtain ⟨a, vs, rfl, rfl, h1, h2, h3⟩ := glst_rep ok r q
    simp only [py] at h
    cases w : pys ds with
    | none => rw [w] at h; cases h
    | some xs => rw [w] at h; cases h; exact .lst (.inl (.inl h2)) (pys_rep ok h3 w)
theorem toV_g (ok : HOK K T g S H) {v u : V} {d : D} (r : Rep K S v d) (h : toV (deref g d) = some u) : v = u := by
  cases q : glst g d with
  | none => unfold deref at h; rw [q] at h; exact toV_rep r h
  | some ds => unfold deref at h; rw [q] at h; simp [toV] at h
def eqGF (g : G) (a b : D) : Option D := eqF g (deref g a) (deref g b)
def neGF (g : G) (a b : D) : Option D := neF g (deref g a) (deref g b)
theorem v2_eqG : V2 K T (rEqA K) eqGF := by
  intro g S H x y d1 d2 d Q ok r1 r2 e hq
  unfold eqGF eqF at e
  obtain ⟨k, h, rfl⟩ := Option.map_eq_some_iff.mp e
  rcases eqB_cases h with ⟨u, w, h1, h2, h3, rfl⟩ | h
  · refine .inl ?_
    rw [toV_g ok r1 h1, toV_g ok r2 h2]
    exact ⟨h3, hq _ H S (Ext.refl ok) (.bl _)⟩
  · obtain ⟨a, b, h1, h2, h3, h4, rfl⟩ := eqP_some h
    exact .inr ⟨a, b, py_g ok r1 h1, py_g ok r2 h2, h3, h4, hq _ H S (Ext.refl ok) (.bl _)⟩
theorem v2_neG : V2 K T (rNeA K) neGF := by
  intro g S H x y d1 d2 d Q ok r1 r2 e hq
  unfold neGF neF at e
  obtain ⟨k, h, rfl⟩ := Option.map_eq_some_iff.mp e
  rcases eqB_cases h with ⟨u, w, h1, h2, h3, rfl⟩ | h
  · refine .inl ?_
    rw [toV_g ok r1 h1, toV_g ok r2 h2]
    exact ⟨h3, hq _ H S (Ext.refl ok) (.bl _)⟩
  · obtain ⟨a, b, h1, h2, h3, h4, rfl⟩ := eqP_some h
    exact .inr ⟨a, b, py_g ok r1 h1, py_g ok r2 h2, h3, h4, hq _ H S (Ext.refl ok) (.bl _)⟩
/-! an item, len, sorted, list(x) -/
def ixGF (g : G) (a b : D) : Option D := match b with
  | .int i => (glst g a).bind fun xs => atI xs i
  | _ => none
theorem v2_ixG : V2 K T (rIx K) ixGF := by
  intro g S H x y d1 d2 d Q ok r1 r2 e hq
  cases d2 with
  | int i =>
    cases r2
    obtain ⟨ds, h1, h2⟩ := Option.bind_eq_some_iff.mp e
    obtain ⟨p, vs, rfl, rfl, h3, h4, h5⟩ := glst_rep ok r1 h1
    obtain ⟨v, h6, h7⟩ := reps_atI h5 h2
    exact .inl ⟨p, vs, i, v, rfl, rfl, .inl (.inl h4), h6, hq v H S (Ext.refl ok) h7⟩
  | _ => simp [ixGF] at e
def lenGF (g : G) (ds : List D) : Option D := match ds with
  | [d] => (glst g d).map fun xs => .int (xs.length : Int)
  | _ => none
theorem va_lenG : VA K T (rLenA K) lenGF := by
  intro g S H xs ds d Q ok r e hq
  unfold lenGF at e
  split at e
  · rename_i d0
    obtain ⟨x, rfl, rx⟩ := r.one
    obtain ⟨ys, h1, rfl⟩ := Option.map_eq_some_iff.mp e
    obtain ⟨p, vs, rfl, rfl, h3, h4, h5⟩ := glst_rep ok rx h1
    refine .inr (.inl ⟨p, vs, rfl, .inl (.inl (.inl h4)), ?_⟩)
    rw [h5.length]
    exact hq _ H S (Ext.refl ok) (.int _)
  · cases e
def sortGF (g : G) (ds : List D) : Option D := match ds with
  | [d] => (glst g d).bind fun xs => (intsOf xs).map fun ns => .lst ((isort ns).map D.int)
  | _ => none
theorem va_sortG : VA K T (rSortA K) sortGF := by
  intro g S H xs ds d Q ok r e hq
  unfold sortGF at e
  split at e
  · rename_i d0
    obtain ⟨x, rfl, rx⟩ := r.one
    obtain ⟨ys, h1, e⟩ := Option.bind_eq_some_iff.mp e
    obtain ⟨ns, h2, rfl⟩ := Option.map_eq_some_iff.mp e
    obtain ⟨p, vs, rfl, rfl, h3, h4, h5⟩ := glst_rep ok rx h1
    rw [intsOf_some h2] at h5
    rw [h5.ints] at h4
    refine .inl ⟨p, ns, rfl, .inl (.inl h4), fun ns' q pm pw hqn => ?_⟩
    rw [isort_eq pm pw]
    have e2 := ok.new (o := .lst ((isort ns).map V.int)) hqn (fun ps z => by cases z)
    exact hq _ _ _ e2 (.lst upd_same (reps_ints _))
  · cases e
def listGF (g : G) (ds : List D) : Option D := match ds with
  | [d] => (glst g d).map .lst
  | _ => none
theorem va_listG : VA K T (fun xs H Q => ∃ p ys, xs = [.ref p] ∧ (SqL K H p ys ∨ SqT K H p ys) ∧ ∀ l, H l = none → Q (.ref l) (upd H l (.lst ys))) listGF := by
  intro g S H xs ds d Q ok r e hq
  unfold listGF at e
  split at e
  · rename_i d0
    obtain ⟨x, rfl, rx⟩ := r.one
    obtain ⟨ys, h1, rfl⟩ := Option.map_eq_some_iff.mp e
    obtain ⟨p, vs, rfl, rfl, h3, h4, h5⟩ := glst_rep ok rx h1
    refine ⟨p, vs, rfl, .inl (.inl (.inl h4)), fun l hl => ?_⟩
    have e2 := ok.new (o := .lst vs) hl (fun ps z => by cases z)
    exact hq _ _ _ e2 (.lst upd_same (h5.mono e2.mono))
  · cases e
end
section
variable {X : Cx} {T : List (Addr × Str)} {EX : XK} {e a b c o : Expr} {es : List Expr} {RA : TrA} {A1 A2 : Tr} {w : TW} {pos p : Pos}
theorem pm_lenG (hg : Gl X "len") (hm : X.mg "len" = none) (ha : PMA X T EX [a] RA) (he : Starts X a [] := by rfl) : PM X T EX (.Call (.Name "len" p) [a] [] pos) (rCB lenGF RA) := pm_callB call_lenA va_lenG hg hm PySem.boot_len ha (by decide) (by decide) he
theorem pm_sortedG (hc : X.calm = true) (hg : Gl X "sorted") (hm : X.mg "sorted" = none) (ha : PMA X T EX [a] RA) (he : Starts X a [] := by rfl) : PM X T EX (.Call (.Name "sorted" p) [a] [] pos) (rCB sortGF RA) := pm_callB (call_sortA hc) va_sortG hg hm (by decide +kernel) ha (by decide) (by decide) he
theorem pm_listG (hg : Gl X "list") (hm : X.mg "list" = none) (ha : PMA X T EX [a] RA) (he : Starts X a [] := by rfl) : PM X T EX (.Call (.Name "list" p) [a] [] pos) (rCB listGF RA) := pm_cb (pe_callTy call_list_of hg hm (by decide +kernel) pa_sem (by decide) (by decide) he rfl) va_listG ha
/-- [..] as an object that may change -/
def rLstG (RA : TrA) : Tr := fun env g Kt => RA env g (onA Kt fun ds g1 => ds.length ≤ 1000 ∧ ∀ p, g1.get p = none → Kt (.val (.ref p)) (g1.set p (.lst ds)))
theorem pm_lstG (ha : PMA X T EX es RA) : PM X T EX (.List es pos) (rLstG RA) := by
  refine ⟨fun {U σ H g S env Q Kt} h ok en hv hx => sem_of (pe_lst pa_sem) ?_⟩
  refine ha.run h ok en (fun ds g1 vs H1 S1 k e1 r1 => ?_) (fun C g' H' S' k e => hx C g' H' S' k e)
  refine ⟨sz (by rw [r1.length]; have := k.1; omega), fun p hp => ?_⟩
  exact hv _ _ _ _ S1 (k.2 p (e1.ok.freeG hp)) (e1.trans (e1.ok.add hp (.lst r1))) (.ref p)
/-- o.append(a), o an object that may change -/
def rAppG (A1 A2 : Tr) : Tr := fun env g Kt => A1 env g (onV Kt fun d g1 => ∃ l ds1, d = .ref l ∧ g1.get l = some (.lst ds1) ∧ A2 env g1 (onV Kt fun v g2 => ∃ ds, g2.get l = some (.lst ds) ∧ ds.length < 100000 ∧ Kt (.val .non) (g2.set l (.lst (ds ++ [v])))))
theorem pm_appG {apos cpos : Pos} (hp : ∀ to te, PE X o to → PE X a te → PE X (.Call (.Attribute o "append" apos) [a] [] cpos) (tBM X.K "list" rAppend to (tCons te tNil))) (ho : PM X T EX o A1) (ha : PM X T EX a A2) : PM X T EX (.Call (.Attribute o "append" apos) [a] [] cpos) (rAppG A1 A2) := by
  refine ⟨fun {U σ H g S env Q Kt} h ok en hv hx => sem_of (hp _ _ pe_sem pe_sem) ?_⟩
  refine ho.run h ok en (fun d1 g1 v1 H1 S1 k1 e1 r1 => ?_) (fun C g' H' S' k e => hx C g' H' S' k e)
  obtain ⟨l, ds1, rfl, h1, k1⟩ := k1
  cases r1
  obtain ⟨vs1, h2, h3⟩ := e1.ok.lstF h1
  refine ⟨.inl ⟨rfl, _, .inl (.inl h2)⟩, ?_⟩
  refine ha.run k1 e1.ok (en.ext e1) (fun d2 g2 v2 H2 S2 k2 e2 r2 => ?_) (fun C g' H' S' k e => hx C g' H' S' k (e1.trans e))
  obtain ⟨ds, h4, hlen, k⟩ := k2
  obtain ⟨vs, h5, h6⟩ := e2.ok.lstF h4
  have e3 := e2.ok.set (o' := .lst (ds ++ [d2])) (ho' := .lst (vs ++ [v2])) h4 h5 (.lst h6) (fun _ _ z => by cases z) (.lst (h6.append (.cons r2 .nil)))
  exact ⟨l, vs, v2, rfl, rfl, h5, szlt (by rw [h6.length]; exact hlen), hv .non _ .non _ S2 k ((e1.trans e2).trans e3) .non⟩
/-- o.pop() -/
def rPopG (A1 : Tr) : Tr := fun env g Kt => A1 env g (onV Kt fun d g1 => ∃ l ds x, d = .ref l ∧ g1.get l = some (.lst (ds ++ [x])) ∧ Kt (.val x) (g1.set l (.lst ds)))
theorem pm_popG {apos cpos : Pos} (hp : ∀ to, PE X o to → PE X (.Call (.Attribute o "pop" apos) [] [] cpos) (tBM0 X.K "list" rPop to)) (ho : PM X T EX o A1) : PM X T EX (.Call (.Attribute o "pop" apos) [] [] cpos) (rPopG A1) := by
  refine ⟨fun {U σ H g S env Q Kt} h ok en hv hx => sem_of (hp _ pe_sem) ?_⟩
  refine ho.run h ok en (fun d1 g1 v1 H1 S1 k1 e1 r1 => ?_) (fun C g' H' S' k e => hx C g' H' S' k e)
  obtain ⟨l, ds, x, rfl, h1, k1⟩ := k1
  cases r1
  obtain ⟨vs, h2, h3⟩ := e1.ok.lstF h1
  refine ⟨.inl ⟨rfl, _, .inl (.inl h2)⟩, ?_⟩
  have hl := h3.length
  simp at hl
  obtain ⟨y, hy, ry⟩ := h3.get (i := ds.length) (x := x) (by simp)
  have e3 := e1.ok.set (o' := .lst ds) (ho' := .lst vs.dropLast) h1 h2 (.lst h3) (fun _ _ z => by cases z) (.lst (by
    have := h3.take ds.length
    rw [List.take_left] at this
    rw [List.dropLast_eq_take, hl]
    exact this))
  exact ⟨l, vs, y, rfl, rfl, h2, by rw [hl]; exact hy, hv x _ y _ S1 k1 (e1.trans e3) ry⟩
/-- o.clear() -/
def rClearG (A1 : Tr) : Tr := fun env g Kt => A1 env g (onV Kt fun d g1 => ∃ l ds, d = .ref l ∧ g1.get l = some (.lst ds) ∧ Kt (.val .non) (g1.set l (.lst [])))
theorem pm_clearG {apos cpos : Pos} (hp : ∀ to, PE X o to → PE X (.Call (.Attribute o "clear" apos) [] [] cpos) (tBM0 X.K "list" rClear to)) (ho : PM X T EX o A1) : PM X T EX (.Call (.Attribute o "clear" apos) [] [] cpos) (rClearG A1) := by
  refine ⟨fun {U σ H g S env Q Kt} h ok en hv hx => sem_of (hp _ pe_sem) ?_⟩
  refine ho.run h ok en (fun d1 g1 v1 H1 S1 k1 e1 r1 => ?_) (fun C g' H' S' k e => hx C g' H' S' k e)
  obtain ⟨l, ds, rfl, h1, k1⟩ := k1
  cases r1
  obtain ⟨vs, h2, h3⟩ := e1.ok.lstF h1
  refine ⟨.inl ⟨rfl, _, .inl (.inl h2)⟩, ?_⟩
  have e3 := e1.ok.set (o' := .lst []) (ho' := .lst []) h1 h2 (.lst h3) (fun _ _ z => by cases z) (.lst .nil)
  exact ⟨l, vs, rfl, rfl, h2, hv .non _ .non _ S1 k1 (e1.trans e3) .non⟩
/-- o[lo:hi], a new list -/
def rSlG (A : Tr) (L U : TrO) : Tr := fun env g Kt => A env g (onV Kt fun d g1 => ∃ l ds1, d = .ref l ∧ g1.get l = some (.lst ds1) ∧ L env g1 (fun C g => Kt (.exc C) g) fun lo g2 => U env g2 (fun C g => Kt (.exc C) g) fun hi g3 => ∃ ds, g3.get l = some (.lst ds) ∧ Kt (.val (.lst (cutD ds lo hi))) g3)
theorem pm_slG {lo hi : Option Expr} {p2 : Pos} {L1 L2' : TrO} (ho : PM X T EX o A1) (hl : PMO X T EX lo L1) (hu : PMO X T EX hi L2') : PM X T EX (.Subscript o (.Slice lo hi none p2) pos) (rSlG A1 L1 L2') := by
  refine ⟨fun {U σ H g S env Q Kt} h ok en hv hx => sem_of (pe_slice sl_all pe_sem po_sem po_sem) ?_⟩
  refine ho.run h ok en (fun d1 g1 v1 H1 S1 k1 e1 r1 => ?_) (fun C g' H' S' k e => hx C g' H' S' k e)
  obtain ⟨l, ds1, rfl, h1, k1⟩ := k1
  cases r1
  refine hl.run k1 e1.ok (en.ext e1) (fun lo g2 H2 S2 k2 e2 => ?_) (fun C g' H' S' k e => hx C g' H' S' k (e1.trans e))
  refine hu.run k2 e2.ok ((en.ext e1).ext e2) (fun hi g3 H3 S3 k3 e3 => ?_) (fun C g' H' S' k e => hx C g' H' S' k ((e1.trans e2).trans e))
  obtain ⟨ds, h4, k⟩ := k3
  obtain ⟨vs, h5, h6⟩ := e3.ok.lstF h4
  refine .inr (.inl ⟨l, vs, rfl, .inl (.inl h5), fun q hq => ?_⟩)
  have e4 := e3.ok.new (o := .lst (cutV vs lo hi)) hq (fun ps z => by cases z)
  exact hv _ g3 _ _ _ k (((e1.trans e2).trans e3).trans e4) (.lst upd_same ((h6.mono e4.mono).cut lo hi))
end
end DL

set_option Elab.async false
set_option linter.all false
set_option maxRecDepth 100000
set_option maxHeartbeats 2000000
set_option autoImplicit false
/-! DL19: comprehensions over and into lists that may change; for over them. -/
namespace DL
open PySem PySem.Spec L2
section
variable {K : PySem.W.Frag} {T : List (Addr × Str)} {g g' : G} {S H S' H' : Hp}
/-- an own object becomes one that may change -/
theorem Ext.give (e : Ext K T g S H g' S' H') {p : Addr} {ho : HO} {o : MO} (hp : Fre H p) (sp : S' p = none) (gp : g'.get p = none) (hh : H' p = some ho) (r : RepMO K S' ho o) : Ext K T g S H (g'.set p o) S' H' := by
  refine ⟨⟨e.ok.sub, fun a u q => ?_, fun a u q => ?_, e.ok.tab, e.ok.ntb⟩, e.mono, e.new, e.fr, e.frz, e.there, fun a q => ?_, fun a q => ?_, e.lk, e.tl⟩
  · by_cases z : a = p
    · subst z
      rw [G.set_same] at q; cases q
      exact ⟨ho, r, .inl hh⟩
    · rw [G.set_ne z] at q; exact e.ok.obj a u q
  · by_cases z : a = p
    · subst z; exact sp
    · rw [G.set_ne z] at q; exact e.ok.sep a u q
  · by_cases z : a = p
    · subst z; exact .inr hp
    · rw [G.set_ne z] at q; exact e.gnew a q
  · by_cases z : a = p
    · subst z; rw [G.set_same]; simp
    · rw [G.set_ne z]; exact e.gold a q
end
section
variable {X : Cx} {T : List (Addr × Str)} {EX : XK} {elt : Expr} {ifs : List Expr} {scope : Scope} {i : Nat} {Rt Re Ri : Tr}
theorem lc_gen2 {J : It} {ds : List D} {h : D → Option D} {σ : St} {env : Env'} {g1 : G} {S1 H1 : Hp} {p : Addr} {Q : VK} {U : Addr → Prop} (ok : HOK X.K T g1 S1 H1) (hp : H1 p = none) (en : EnvOk X.K U g1 S1 H1 env σ) (hl : ds.length < 100000)
    (hst : ∀ k S' H', Ext X.K T g1 S1 H1 g1 S' H' → (k < ds.length → J.go k H') ∧ (k = ds.length → J.stop k H') ∧ ∀ x H2, k < ds.length → J.yld k H' x H2 → H2 = H' ∧ ∃ d, ds[k]? = some d ∧ Rep X.K S' x d)
    (ht : ∀ d ∈ ds, turnR Rt Re g1 (env.set i (.dat d)) (h d)) (hT : BlkT X T scope ifs Rt) (hE : BlkE X T scope elt Re)
    (hd : ∀ S' H' vs, Ext X.K T g1 S1 H1 g1 S' H' → S' p = none → H' p = some (.lst vs) → Reps X.K S' vs (ds.filterMap h) → Q (.ref p) H') :
    ∃ W : Nat → Nat → Hp → Prop, (∃ m, W 0 m (upd H1 p (.lst []))) ∧ ∀ k m H, W k m H →
      (J.stop k H ∧ Q (.ref p) H) ∨ (J.go k H ∧ ∃ Nx : Hp → Prop, (∀ H', Nx H' → ∃ m', m' < m ∧ W (k + 1) m' H') ∧ ∀ x H', J.yld k H x H' → gName i x (wipe σ [i]) H' fun σ2 H2 => wipe σ2 [i] = wipe σ [i] ∧ TBlkT X scope ifs σ2 H2 fun b H3 =>
        if b = true then TBlk X scope elt σ2 H3 fun y H4 => ∃ acc, H4 p = some (.lst acc) ∧ acc.length < sizeLine ∧ Nx (upd H4 p (.lst (acc ++ [y]))) else Nx H3) := by
  let St : Nat → Hp → Prop := fun k H => ∃ S' acc, Ext X.K T g1 S1 H1 g1 S' H ∧ S' p = none ∧ H p = some (.lst acc) ∧ Reps X.K S' acc ((ds.take k).filterMap h)
  have gp := ok.freeG hp
  have sp := ok.freeS hp
  refine ⟨fun k m H => m = ds.length - k ∧ k ≤ ds.length ∧ St k H, ⟨_, rfl, Nat.zero_le _, S1, [], ok.lay hp, sp, upd_same, .nil⟩, ?_⟩
  rintro k m H ⟨rfl, hk, S', acc, e, s0, hh, hr⟩
  obtain ⟨j1, j2, j3⟩ := hst k S' H e
  by_cases hlt : k < ds.length
  · refine .inr ⟨j1 hlt, St (k + 1), fun H' s => ⟨ds.length - (k + 1), by omega, rfl, hlt, s⟩, fun x H' hy => ?_⟩
    obtain ⟨rfl, d, hd1, hd2⟩ := j3 x H' hlt hy
    have hmem : d ∈ ds := List.mem_of_getElem? hd1
    have tk : ds.take (k + 1) = ds.take k ++ [d] := by rw [List.take_add_one, hd1]; rfl
    have en' : EnvOk X.K U g1 S' H' (env.set i (.dat d)) ((wipe σ [i]).set i (some x)) := by
      have z := (en.ext e).dat' i hd2
      have w : (wipe σ [i]).set i (some x) = σ.set i (some x) := by unfold wipe; simp [wipe]
      rw [w]; exact z
    refine ⟨by unfold wipe; simp [wipe], fun s H0 C cl fp => ?_⟩
    have turn := ht d hmem
    unfold turnR at turn
    refine (hT s H0 C cl fp).run (Kt := fun b g2 => g2 = g1 ∧ if b = true then Re (env.set i (.dat d)) g1 (fun r g3 => g3 = g1 ∧ match r with | .val y => h d = some y | _ => False) else h d = none) (Kx := fun _ _ => False) (?_) e.ok en' (fun b g2 H3 S3 kb e3 => ?_) (fun _ _ _ _ z _ => z.elim)
    · refine cast (congrArg (Rt (env.set i (.dat d)) g1) ?_) turn
      funext r g2
      cases r with
      | exc C => simp
      | val v =>
        cases v with
        | bl b => cases b <;> simp <;> (intro _; exact Iff.rfl)
        | _ => simp
    · obtain ⟨rfl, kb⟩ := kb
      obtain ⟨s3, _, h3⟩ := e3.mine s0 gp hh (fun _ z => by cases z)
      have e13 := e.trans e3
      cases b with
      | false =>
        rw [if_neg Bool.false_ne_true] at kb ⊢
        refine ⟨S3, acc, e13, s3, h3, ?_⟩
        rw [tk, List.filterMap_append]
        simp only [List.filterMap_cons, kb, List.filterMap_nil, List.append_nil]
        exact hr.mono e3.mono
      | true =>
        rw [if_pos rfl] at kb ⊢
        intro s H0 C cl fp
        refine (hE s H0 C cl fp).run kb e3.ok (en'.ext e3) (fun y g4 v H4 S4 k4 e4 r4 => ?_) (fun _ _ _ _ z _ => z.2.elim)
        obtain ⟨rfl, k4⟩ := k4
        obtain ⟨s4, _, h4⟩ := e4.mine s3 gp h3 (fun _ z => by cases z)
        refine ⟨acc, h4, szlt ?_, S4, acc ++ [v], (e13.trans e4).own (.of hp) s4 gp h4 (fun _ z => by cases z) (fun _ z => by cases z), s4, upd_same, ?_⟩
        · rw [hr.length]
          have := List.length_filterMap_le h (ds.take k)
          rw [List.length_take] at this
          omega
        · rw [tk, List.filterMap_append]
          simp only [List.filterMap_cons, k4, List.filterMap_nil]
          exact (hr.mono (e3.trans e4).mono).append (.cons r4 .nil)
  · have ek : k = ds.length := by omega
    subst ek
    rw [List.take_length] at hr
    exact .inl ⟨j2 rfl, hd S' H acc e s0 hh hr⟩

/-- the source: a list, one that may change or not -/
theorem itg_st {K : PySem.W.Frag} {T : List (Addr × Str)} {g1 : G} {S1 H1 : Hp} {a : Addr} {ds : List D} (hg : g1.get a = some (.lst ds)) : ∀ k S' H', Ext K T g1 S1 H1 g1 S' H' → (k < ds.length → (Itl K a).go k H') ∧ (k = ds.length → (Itl K a).stop k H') ∧ ∀ x H2, k < ds.length → (Itl K a).yld k H' x H2 → H2 = H' ∧ ∃ d, ds[k]? = some d ∧ Rep K S' x d := fun k S' H' e => by
  obtain ⟨vs, h1, h2⟩ := e.ok.lstF hg
  have hq' : SqL K H' a vs := .inl (.inl h1)
  have hl := h2.length
  refine ⟨fun hk => ⟨vs, vs[k]'(by omega), hq', by simp⟩, fun hk => ⟨vs, hq', by omega⟩, fun x H2 _ y => ?_⟩
  obtain ⟨e1, y⟩ := y
  obtain ⟨d, h1, h2⟩ := h2.get' (y vs hq')
  exact ⟨e1, d, h1, h2⟩
/-- a comprehension over a list that may change; its list stands still -/
def rLcG (i : Nat) (Ri Rt Re : Tr) : Tr := fun env g Kt => Ri env g (onV Kt fun d g1 => ∃ a ds, d = .ref a ∧ g1.get a = some (.lst ds) ∧ lcR i Rt Re ds env g1 g1 Kt)
theorem rd_lcG {iter : Expr} (hi : PM X T EX iter Ri) (hT : BlkT X T scope ifs Rt) (hE : BlkE X T scope elt Re) : RD X T EX (tLc (iList X.K (TSem X iter)) (gName i) (TBlkT X scope ifs) (TBlk X scope elt) [i]) (rLcG i Ri Rt Re) := by
  refine ⟨fun {U σ H g S env Q Kt} h okh en hv hx => ?_⟩
  refine hi.run h okh en (fun d g1 v1 H1 S1 k1 e1 r1 => ?_) (fun C g' H' S' k e => hx C g' H' S' k e)
  obtain ⟨a, ds, rfl, hga, hl, h, ht, k⟩ := k1
  cases r1
  obtain ⟨vs, h1, _⟩ := e1.ok.lstF hga
  refine ⟨a, rfl, ⟨vs, .inl (.inl h1)⟩, fun p hp => ?_⟩
  have gp := e1.ok.freeG hp
  refine lc_gen2 e1.ok hp (en.ext e1) hl (itg_st hga) ht hT hE fun S' H' us e s0 hh hr => ?_
  refine hv _ g1 _ H' _ k (e1.trans (e.freeze (.of hp) s0 gp hh (fun _ z => by cases z))) (.lst upd_same (hr.mono fun b u q => by rw [upd_ne (ne_of_none q s0)]; exact q))
/-- its list may change -/
def lcRG (i : Nat) (Rt Re : Tr) (ds : List D) (env : Env') (g : G) (Kt : KR) : Prop := ds.length < 100000 ∧ ∃ h : D → Option D, (∀ d ∈ ds, turnR Rt Re g (env.set i (.dat d)) (h d)) ∧ ∀ p, g.get p = none → Kt (.val (.ref p)) (g.set p (.lst (ds.filterMap h)))
def rLcGG (i : Nat) (Ri Rt Re : Tr) : Tr := fun env g Kt => Ri env g (onV Kt fun d g1 => ∃ a ds, d = .ref a ∧ g1.get a = some (.lst ds) ∧ lcRG i Rt Re ds env g1 Kt)
theorem rd_lcGG {iter : Expr} (hi : PM X T EX iter Ri) (hT : BlkT X T scope ifs Rt) (hE : BlkE X T scope elt Re) : RD X T EX (tLc (iList X.K (TSem X iter)) (gName i) (TBlkT X scope ifs) (TBlk X scope elt) [i]) (rLcGG i Ri Rt Re) := by
  refine ⟨fun {U σ H g S env Q Kt} h okh en hv hx => ?_⟩
  refine hi.run h okh en (fun d g1 v1 H1 S1 k1 e1 r1 => ?_) (fun C g' H' S' k e => hx C g' H' S' k e)
  obtain ⟨a, ds, rfl, hga, hl, h, ht, k⟩ := k1
  cases r1
  obtain ⟨vs, h1, _⟩ := e1.ok.lstF hga
  refine ⟨a, rfl, ⟨vs, .inl (.inl h1)⟩, fun p hp => ?_⟩
  have gp := e1.ok.freeG hp
  refine lc_gen2 e1.ok hp (en.ext e1) hl (itg_st hga) ht hT hE fun S' H' us e s0 hh hr => ?_
  exact hv _ _ _ H' S' (k p gp) (e1.trans (e.give (.of hp) s0 gp hh (.lst hr))) (.ref p)
/-- over a list that stands still -/
def rLcLG (i : Nat) (Ri Rt Re : Tr) : Tr := fun env g Kt => Ri env g (onV Kt fun d g1 => ∃ ds, items d = some ds ∧ notTup d ∧ lcRG i Rt Re ds env g1 Kt)
theorem rd_lcLG {iter : Expr} (hi : PM X T EX iter Ri) (hT : BlkT X T scope ifs Rt) (hE : BlkE X T scope elt Re) : RD X T EX (tLc (iList X.K (TSem X iter)) (gName i) (TBlkT X scope ifs) (TBlk X scope elt) [i]) (rLcLG i Ri Rt Re) := by
  refine ⟨fun {U σ H g S env Q Kt} h okh en hv hx => ?_⟩
  refine hi.run h okh en (fun d g1 v1 H1 S1 k1 e1 r1 => ?_) (fun C g' H' S' k e => hx C g' H' S' k e)
  obtain ⟨ds, hd, nt, hl, h, ht, k⟩ := k1
  obtain ⟨a, vs, rfl, hq, hr⟩ := itemsL r1 hd nt
  refine ⟨a, rfl, ⟨vs, e1.ok.sql hq⟩, fun p hp => ?_⟩
  have gp := e1.ok.freeG hp
  refine lc_gen2 e1.ok hp (en.ext e1) hl (fun k S' H' e => ?_) ht hT hE fun S' H' us e s0 hh hr => ?_
  · obtain ⟨j1, j2, j3⟩ := itl_st hq hr k S' H' e
    exact ⟨j1, j2, fun x H2 hk y => let ⟨e1, d, h1, h2⟩ := j3 x H2 hk y; ⟨e1, d, h1, h2.mono e.mono⟩⟩
  · exact hv _ _ _ H' S' (k p gp) (e1.trans (e.give (.of hp) s0 gp hh (.lst hr))) (.ref p)
section
variable {x : Str} {px pos : Pos} {iter : Expr} {R : Tr}
theorem pm_lcAny (hc : X.calm = true) (hN : X.N.Nodup) (ok : BlkOk X.N X.env.scope scope [(x, i)])
    (hg : ∀ (s : Shared) (H : Hp) (C : Addr) (cl : List (Str × Addr)) (fp : List Addr), PG (X.blk s H scope (compEnvC scope cl C X.env) fp) (.Name x px) (gName i)) (hR : RD X T EX (tLc (iList X.K (TSem X iter)) (gName i) (TBlkT X scope ifs) (TBlk X scope elt) [i]) R)
    (hs : ∀ x, foldedSetIterable iter X.env x = pure x := by intro _; rfl) : PM X T EX (.ListComp elt [⟨.Name x px, iter, ifs, 0⟩] scope pos) R :=
  pm_rd (pe_lc (own := [(x, i)]) (tt := TBlkT X scope ifs) (te := TBlk X scope elt) hc hN (pi_list pe_sem) ok hg (fun s H C cl fp => ⟨fun pins s' σ H Q I hw => hw s _ C cl fp pins s' I⟩) (fun s H C cl fp => ⟨fun pins s' σ H Q I hw => hw s _ C cl fp pins s' I⟩) hs) hR
theorem pm_lcG (hc : X.calm = true) (hN : X.N.Nodup) (hi : PM X T EX iter Ri) (ok : BlkOk X.N X.env.scope scope [(x, i)])
    (hg : ∀ (s : Shared) (H : Hp) (C : Addr) (cl : List (Str × Addr)) (fp : List Addr), PG (X.blk s H scope (compEnvC scope cl C X.env) fp) (.Name x px) (gName i)) (hT : BlkT X T scope ifs Rt) (hE : BlkE X T scope elt Re)
    (hs : ∀ x, foldedSetIterable iter X.env x = pure x := by intro _; rfl) : PM X T EX (.ListComp elt [⟨.Name x px, iter, ifs, 0⟩] scope pos) (rLcG i Ri Rt Re) := pm_lcAny hc hN ok hg (rd_lcG hi hT hE) hs
theorem pm_lcGG (hc : X.calm = true) (hN : X.N.Nodup) (hi : PM X T EX iter Ri) (ok : BlkOk X.N X.env.scope scope [(x, i)])
    (hg : ∀ (s : Shared) (H : Hp) (C : Addr) (cl : List (Str × Addr)) (fp : List Addr), PG (X.blk s H scope (compEnvC scope cl C X.env) fp) (.Name x px) (gName i)) (hT : BlkT X T scope ifs Rt) (hE : BlkE X T scope elt Re)
    (hs : ∀ x, foldedSetIterable iter X.env x = pure x := by intro _; rfl) : PM X T EX (.ListComp elt [⟨.Name x px, iter, ifs, 0⟩] scope pos) (rLcGG i Ri Rt Re) := pm_lcAny hc hN ok hg (rd_lcGG hi hT hE) hs
theorem pm_lcLG (hc : X.calm = true) (hN : X.N.Nodup) (hi : PM X T EX iter Ri) (ok : BlkOk X.N X.env.scope scope [(x, i)])
    (hg : ∀ (s : Shared) (H : Hp) (C : Addr) (cl : List (Str × Addr)) (fp : List Addr), PG (X.blk s H scope (compEnvC scope cl C X.env) fp) (.Name x px) (gName i)) (hT : BlkT X T scope ifs Rt) (hE : BlkE X T scope elt Re)
    (hs : ∀ x, foldedSetIterable iter X.env x = pure x := by intro _; rfl) : PM X T EX (.ListComp elt [⟨.Name x px, iter, ifs, 0⟩] scope pos) (rLcLG i Ri Rt Re) := pm_lcAny hc hN ok hg (rd_lcLG hi hT hE) hs
end
end
/-! for over a list that may change, while it does not -/
def forRG (Src : G → Prop) (i : Nat) (w : TW) (ds : List D) (dn : Dn) (env : Env') (g : G) : Prop := ∃ Pv : Nat → Env' → G → Prop, Pv 0 env g ∧ (∀ k env g, Pv k env g → Src g) ∧ (∀ k d env g, ds[k]? = some d → Pv k env g → w { dn with nx := Pv (k + 1), ct := Pv (k + 1), bk := dn.nx } (env.set i (.dat d)) g) ∧ ∀ env g, Pv ds.length env g → dn.nx env g
section
variable {X : Cx} {T : List (Addr × Str)} {EX : XK} {A1 : Tr} {w : TW} {pos : Pos}
theorem for_gen2 {Src : G → Prop} {J : It} {ds : List D} {i : Nat} {dn : Dn} {D : Ends} {g0 g1 : G} {S0 H0 S1 H1 : Hp} {env : Env'} {σ : St} {body : List Stmt} (e1 : Ext X.K T g0 S0 H0 g1 S1 H1) (en : EnvOk X.K (UF H0) g1 S1 H1 env σ) (l : Lk X.K T EX g0 S0 H0 dn D) (hb : PXs X T EX body w)
    (hst : ∀ k g' S' H', Src g' → Ext X.K T g0 S1 H0 g' S' H' → (k < ds.length → J.go k H') ∧ (k = ds.length → J.stop k H') ∧ ∀ x H2, k < ds.length → J.yld k H' x H2 → H2 = H' ∧ ∃ d, ds[k]? = some d ∧ Rep X.K S' x d)
    (h : forRG Src i w ds dn env g1) : ∃ W : Nat → Nat → St → Hp → Prop, (∃ m, W 0 m σ H1) ∧ ∀ k m σ H, W k m σ H →
      (J.stop k H ∧ D.nx σ H) ∨ (J.go k H ∧ ∃ N : St → Hp → Prop, (∀ σ' H', N σ' H' → ∃ m', m' < m ∧ W (k + 1) m' σ' H') ∧ ∀ x H', J.yld k H x H' → gName i x σ H' fun σ2 H2 => TSemB X body { D with nx := N, ct := N, bk := D.nx } σ2 H2) := by
  obtain ⟨Pv, p0, sv, ps, pd⟩ := h
  let St' : Nat → St → Hp → Prop := fun k σ H => ∃ env g S, Pv k env g ∧ Ext X.K T g0 S1 H0 g S H ∧ EnvOk X.K (UF H0) g S H env σ
  refine ⟨fun k m σ H => m = ds.length - k ∧ k ≤ ds.length ∧ St' k σ H, ⟨_, rfl, Nat.zero_le _, env, g1, S1, p0, e1.rebase, en⟩, ?_⟩
  rintro k m σ H ⟨rfl, hk, env, g, S, pk, e, n⟩
  obtain ⟨j1, j2, j3⟩ := hst k g S H (sv k env g pk) e
  by_cases hlt : k < ds.length
  · refine .inr ⟨j1 hlt, St' (k + 1), fun σ' H' s => ⟨ds.length - (k + 1), by omega, rfl, hlt, s⟩, fun x H' hy => ?_⟩
    obtain ⟨rfl, d, hd1, hd2⟩ := j3 x H' hlt hy
    exact hb.run (ps k d env g hd1 pk) e (n.dat' i hd2) ⟨fun env g S σ H q e n => ⟨env, g, S, q, e, n⟩, fun env g S σ H q e n => l.nx env g S σ H q (e1.unbase e) n, fun env g S σ H q e n => ⟨env, g, S, q, e, n⟩,
      fun d g S v H q e r => l.rt d g S v H q (e1.unbase e) r, fun C g S H q e => l.ex C g S H q (e1.unbase e)⟩
  · have ek : k = ds.length := by omega
    subst ek
    exact .inl ⟨j2 rfl, l.nx env g S σ H (pd env g pk) (e1.unbase e) n⟩

def wForG (i : Nat) (A : Tr) (w : TW) : TW := fun dn env g => A env g (onD dn fun d g1 => ∃ a ds, d = .ref a ∧ g1.get a = some (.lst ds) ∧ forRG (fun g => g.get a = some (.lst ds)) i w ds dn env g1)
theorem px_forG {i : Nat} {x : Str} {px : Pos} {iter : Expr} {body : List Stmt} (hp : PassesOwn (model X.prog X.w) X.A X.env X.xe) (hc : X.calm = true) (hi : PM X T EX iter A1) (hg : PG X (.Name x px) (gName i)) (hb : PXs X T EX body w)
    (hs : ∀ x, foldedSetIterable iter X.env x = pure x := by intro _; rfl) : PX X T EX (.For (.Name x px) iter body [] pos) (wForG i A1 w) := by
  refine ⟨fun {g0 S0 H0 σ H g S env D dn} h e n l => semS_of (ps_for hp hc (pi_list pe_sem) hg pss_sem hs) ?_⟩
  refine hi.run h e.ok n (fun d g1 v1 H1 S1 k e1 r1 => ?_) (fun C g' H' S' k e1 => l.ex C g' S' H' k (e.trans e1))
  obtain ⟨a, ds, rfl, hga, hf⟩ := k
  cases r1
  obtain ⟨vs, h1, _⟩ := e1.ok.lstF hga
  refine ⟨a, rfl, ⟨vs, .inl (.inl h1)⟩, ?_⟩
  refine for_gen2 (e.trans e1) (n.ext e1) l hb (fun k g' S' H' hs' e2 => ?_) hf
  obtain ⟨us, h3, h4⟩ := e2.ok.lstF hs'
  have hq' : SqL X.K H' a us := .inl (.inl h3)
  have hl := h4.length
  refine ⟨fun hk => ⟨us, us[k]'(by omega), hq', by simp⟩, fun hk => ⟨us, hq', by omega⟩, fun x H2 _ y => ?_⟩
  obtain ⟨e3, y⟩ := y
  obtain ⟨d, h1, h2⟩ := h4.get' (y us hq')
  exact ⟨e3, d, h1, h2⟩
end
end DL
namespace DL
open PySem PySem.Spec L2
/-! x = [comprehension], x one's own -/
theorem EnvOk.ownAt {K : PySem.W.Frag} {T : List (Addr × Str)} {g : G} {S H S' H' H0 : Hp} {env : Env'} {σ : St} (n : EnvOk K (UF H0) g S H env σ) (e : Ext K T g S H g S' H') (i : Nat) {p : Addr} {ho : HO} {o : MO} (hp : H p = none) (up : Fre H0 p) (sp : S' p = none) (gp : g.get p = none) (hh : H' p = some ho) (r : RepMO K S' ho o) (hi : i < env.length) : EnvOk K (UF H0) g S' H' (env.set i (.own o)) (σ.set i (some (.ref p))) := by
  have n1 := n.ext e
  refine ⟨by simp [n.len], fun j d q => ?_, fun j o' q => ?_⟩
  · by_cases h : j = i
    · subst h; rw [List.getElem?_set_self hi] at q; cases q
    · rw [List.getElem?_set_ne (Ne.symm h)] at q ⊢; exact n1.dat j d q
  · by_cases h : j = i
    · subst h
      rw [List.getElem?_set_self hi] at q; cases q
      refine ⟨p, ho, List.getElem?_set_self (by rw [n.len]; exact hi), hh, r, sp, gp, up, fun k o2 q1 q2 => ?_⟩
      by_cases hk : k = j
      · exact hk
      · rw [List.getElem?_set_ne (Ne.symm hk)] at q1 q2
        obtain ⟨p2, ho2, m1, m2, _⟩ := n.own k o2 q1
        rw [m1] at q2; cases q2
        rw [hp] at m2; cases m2
    · rw [List.getElem?_set_ne (Ne.symm h)] at q
      obtain ⟨p2, ho2, m1, m2, m3, m4, m5, m6, m7⟩ := n1.own j o' q
      obtain ⟨p3, ho3, m1', m2', _⟩ := n.own j o' q
      rw [m1] at m1'; cases m1'
      refine ⟨p2, ho2, by rw [List.getElem?_set_ne (Ne.symm h)]; exact m1, m2, m3, m4, m5, m6, fun k o2 q1 q2 => ?_⟩
      by_cases hk : k = i
      · subst hk
        rw [List.getElem?_set_self (by rw [n.len]; exact hi)] at q2
        cases q2
        rw [hp] at m2'; cases m2'
      · rw [List.getElem?_set_ne (Ne.symm hk)] at q1 q2
        exact m7 k o2 q1 q2
section
variable {X : Cx} {T : List (Addr × Str)} {EX : XK} {elt : Expr} {ifs : List Expr} {scope : Scope} {i j : Nat} {Rt Re Ri : Tr} {x y : Str} {px py pos spos : Pos} {iter : Expr}
def wNewLc (i j : Nat) (Ri Rt Re : Tr) : TW := fun dn env g => Ri env g (onD dn fun d g1 => ∃ ds : List DL.D, items d = some ds ∧ notTup d ∧ ds.length < 100000 ∧ j < env.length ∧ ∃ h : DL.D → Option DL.D, (∀ d ∈ ds, turnR Rt Re g1 (env.set i (.dat d)) (h d)) ∧ dn.nx (env.set j (.own (.lst (ds.filterMap h)))) g1)
theorem px_newLc (hc : X.calm = true) (hN : X.N.Nodup) (hy : X.N[j]? = some y) (hyl : X.env.scope.names.lookup y = some .local)
    (hsw : swapsWith (.ListComp elt [⟨.Name x px, iter, ifs, 0⟩] scope pos) (some (.Name y py)) spos.line X.env = pure true) (hi : PM X T EX iter Ri) (ok : BlkOk X.N X.env.scope scope [(x, i)])
    (hg : ∀ (s : Shared) (H : Hp) (C : Addr) (cl : List (Str × Addr)) (fp : List Addr), PG (X.blk s H scope (compEnvC scope cl C X.env) fp) (.Name x px) (gName i)) (hT : BlkT X T scope ifs Rt) (hE : BlkE X T scope elt Re)
    (hs : ∀ x, foldedSetIterable iter X.env x = pure x := by intro _; rfl) : PX X T EX (.Assign [.Name y py] (.ListComp elt [⟨.Name x px, iter, ifs, 0⟩] scope pos) spos) (wNewLc i j Ri Rt Re) := by
  refine ⟨fun {g0 S0 H0 σ H g S env D dn} h e n l => semS_of (ps_setLc (own := [(x, i)]) (tt := TBlkT X scope ifs) (te := TBlk X scope elt) hc hN hy hyl hsw (pi_list pe_sem) ok hg (fun s H C cl fp => ⟨fun pins s' σ H Q I hw => hw s _ C cl fp pins s' I⟩) (fun s H C cl fp => ⟨fun pins s' σ H Q I hw => hw s _ C cl fp pins s' I⟩) hs) ?_⟩
  refine hi.run h e.ok n (fun d g1 v1 H1 S1 k1 e1 r1 => ?_) (fun C g' H' S' k e1 => l.ex C g' S' H' k (e.trans e1))
  obtain ⟨ds, hd, nt, hl, hj, h, ht, k⟩ := k1
  obtain ⟨a, vs, rfl, hq, hr⟩ := itemsL r1 hd nt
  refine ⟨a, rfl, ⟨vs, e1.ok.sql hq⟩, fun p hp => ?_⟩
  have gp := e1.ok.freeG hp
  have et := e.trans e1
  refine lc_gen2 (Q := fun v H' => D.nx (σ.set j (some v)) H') e1.ok hp (n.ext e1) hl (fun k S' H' e => ?_) ht hT hE fun S' H' us e2 s0 hh hr => ?_
  · obtain ⟨j1, j2, j3⟩ := itl_st hq hr k S' H' e
    exact ⟨j1, j2, fun x H2 hk y => let ⟨e1, d, h1, h2⟩ := j3 x H2 hk y; ⟨e1, d, h1, h2.mono e.mono⟩⟩
  · exact l.nx _ g1 S' _ _ k (et.trans e2) ((n.ext e1).ownAt e2 j hp (et.there p (.of hp)) s0 gp hh (.lst hr) hj)
end
end DL

set_option Elab.async false
set_option linter.all false
set_option maxRecDepth 100000
set_option maxHeartbeats 2000000
set_option autoImplicit false
/-! DL20: told lists that are the asker's own. -/
namespace DL
open PySem PySem.Spec L2
section
variable {X : Cx} {T : List (Addr × Str)} {EX : XK} {a b o : Expr} {sts : List Stmt} {A1 A2 : Tr} {RA : TrA} {w : TW} {pos : Pos}
/-- sorted(e), a list that may change -/
def rSortNew (RA : TrA) : Tr := fun env g Kt => RA env g (onA Kt fun ds g1 => ∃ ns : List Int, sortF g1 ds = some (.lst (ns.map D.int)) ∧ ∀ p, g1.get p = none → Kt (.val (.ref p)) (g1.set p (.lst (ns.map D.int))))
theorem pm_sortNew {p : Pos} (hc : X.calm = true) (hg : Gl X "sorted") (hm : X.mg "sorted" = none) (ha : PMA X T EX [a] RA) (he : Starts X a [] := by rfl) : PM X T EX (.Call (.Name "sorted" p) [a] [] pos) (rSortNew RA) := by
  refine ⟨fun {U σ H g S env Q Kt} h ok en hv hx => sem_of (pe_callB (call_sortA hc) hg hm (by decide +kernel) pa_sem (by decide) (by decide) he (by rfl)) ?_⟩
  refine ha.run h ok en (fun ds g1 vs H1 S1 k e1 r1 => ?_) (fun C g' H' S' k e => hx C g' H' S' k e)
  obtain ⟨ns, hsF, k⟩ := k
  have fin : ∀ (p : Addr) (ms : List Int), H1 p = none → ms = ns → Q (.ref p) (upd H1 p (.lst (ms.map V.int))) := fun p ms hp em => by
    subst em
    exact hv _ _ _ _ S1 (k p (e1.ok.freeG hp)) (e1.trans (e1.ok.add hp (.lst (reps_ints ms)))) (.ref p)
  cases ds with
  | nil => simp [sortF] at hsF
  | cons d0 r0 =>
    cases r0 with
    | cons _ _ => simp [sortF] at hsF
    | nil =>
      obtain ⟨x, rfl, rx⟩ := r1.one
      simp only [sortF] at hsF
      cases h : litems d0 with
      | some ys =>
        rw [h] at hsF
        obtain ⟨ms, h1, h2⟩ := Option.map_eq_some_iff.mp hsF
        have em : isort ms = ns := map_int_inj (DL.D.lst.inj h2)
        obtain ⟨q, us, rfl, h3, h4⟩ := litems_rep e1.ok rx h
        rw [intsOf_some h1] at h4
        rw [h4.ints] at h3
        exact .inl ⟨q, ms, rfl, h3, fun ns' p pm pw hp => fin p ns' hp ((isort_eq pm pw).trans em)⟩
      | none =>
        rw [h] at hsF
        obtain ⟨kvs, h1, hsF⟩ := Option.bind_eq_some_iff.mp hsF
        obtain ⟨ms, h2, hsF⟩ := Option.bind_eq_some_iff.mp hsF
        split at hsF
        · rename_i hl2
          have em : isort ms = ns := map_int_inj (DL.D.lst.inj (Option.some.inj hsF))
          obtain ⟨q, us, rfl, h3, h4⟩ := asDict_rep e1.ok rx h1
          exact .inr ⟨q, us, ms, rfl, h3, h4.keys.trans (inlsOf_some h2), hl2, fun ns' p pm pw hp => fin p ns' hp ((isort_eq pm pw).trans em)⟩
        · cases hsF
/-- an own list is one's own no more: from here on it is an object that may change -/
theorem EnvOk.giveO {K : PySem.W.Frag} {T : List (Addr × Str)} {g0 g : G} {S0 H0 S H : Hp} {env : Env'} {σ : St} (n : EnvOk K (UF H0) g S H env σ) (e : Ext K T g0 S0 H0 g S H) {i : Nat} {ds : List D} (hi : env[i]? = some (.own (.lst ds))) :
    ∃ p, g.get p = none ∧ Ext K T g0 S0 H0 (g.set p (.lst ds)) S H ∧ EnvOk K (UF H0) (g.set p (.lst ds)) S H (env.set i (.dat (.ref p))) σ := by
  obtain ⟨p, ho, a1, a2, a3, a4, a5, a6, a7⟩ := n.own i _ hi
  have hl := n.lt hi
  refine ⟨p, a5, e.give a6 a4 a5 a2 a3, by simp [n.len], fun j d' q => ?_, fun j o2 q => ?_⟩
  · by_cases h : j = i
    · subst h
      rw [List.getElem?_set_self hl] at q; cases q
      exact ⟨.ref p, a1, .ref p⟩
    · rw [List.getElem?_set_ne (Ne.symm h)] at q
      exact n.dat j d' q
  · by_cases h : j = i
    · subst h; rw [List.getElem?_set_self hl] at q; cases q
    · rw [List.getElem?_set_ne (Ne.symm h)] at q
      obtain ⟨p2, ho2, m1, m2, m3, m4, m5, m6, m7⟩ := n.own j o2 q
      have ne : p2 ≠ p := fun z => by subst z; exact h (m7 i _ hi a1).symm
      refine ⟨p2, ho2, m1, m2, m3, m4, by rw [G.set_ne ne]; exact m5, m6, fun k o3 q1 q2 => ?_⟩
      by_cases hk : k = i
      · subst hk; rw [List.getElem?_set_self hl] at q1; cases q1
      · rw [List.getElem?_set_ne (Ne.symm hk)] at q1; exact m7 k o3 q1 q2
def wGive (i : Nat) (w : TW) : TW := fun dn env g => ∃ ds : List DL.D, env[i]? = some (.own (.lst ds)) ∧ ∀ p, g.get p = none → w dn (env.set i (.dat (.ref p))) (g.set p (.lst ds))
theorem pxs_give (i : Nat) (h : PXs X T EX sts w) : PXs X T EX sts (wGive i w) := by
  refine ⟨fun {g0 S0 H0 σ H g S env D dn} ⟨ds, h1, h3⟩ e n l => ?_⟩
  obtain ⟨p, hp, e', n'⟩ := n.giveO e h1
  exact h.run (h3 p hp) e' n' l
end
end DL
namespace DL
open PySem PySem.Spec L2
/-! a text many times -/
theorem mulOk_sm {x : Str} {n : Int} (h1 : x.length ≤ 1000) (h2 : 0 ≤ n) (h3 : n ≤ 1000) : MulOk x n := by
  refine ⟨by simp; omega, fun hn _ => ?_, fun _ _ => ?_⟩
  · intro z
    have : (1000 : Int) ≤ (2 ^ 63 - 1) / n := by
      rw [Int.le_ediv_iff_mul_le (by omega)]
      omega
    omega
  · show decide (_ > sizeLine) = false
    have e : sizeLine = 16777216 := by decide
    have : x.length * n.toNat ≤ 1000 * 1000 := Nat.mul_le_mul h1 (by omega)
    exact decide_eq_false (by omega)
def mulSF (_ : G) : D → D → Option D
  | .str x, .int n => if x.length ≤ 1000 ∧ 0 ≤ n ∧ n ≤ 1000 then some (.str (Txt.mul x n)) else none
  | _, _ => none
theorem v2_mulS {K : PySem.W.Frag} {T : List (Addr × Str)} : V2 K T rMulA mulSF := by
  intro g S H x y d1 d2 d Q ok r1 r2 e hq
  cases d1 with
  | str z =>
    cases d2 with
    | int n =>
      cases r1; cases r2
      simp only [mulSF] at e
      split at e
      · rename_i h
        cases e
        exact .inr ⟨z, n, rfl, rfl, mulOk_sm h.1 h.2.1 h.2.2, hq _ H S (Ext.refl ok) (.str _)⟩
      · cases e
    | _ => simp [mulSF] at e
  | _ => simp [mulSF] at e
end DL

set_option Elab.async false
set_option linter.all false
set_option maxRecDepth 100000
set_option maxHeartbeats 2000000
set_option autoImplicit false
/-! DL21: for a, b in tuples; tuples added; x = y[lo:hi], both one's own. -/
namespace DL
open PySem PySem.Spec L2
def forRT (is : List Nat) (w : TW) (ds : List D) (dn : Dn) (env : Env') (g : G) : Prop := ∃ Pv : Nat → Env' → G → Prop, Pv 0 env g ∧ (∀ k d env g, ds[k]? = some d → Pv k env g → ∃ xs, d = .tup xs ∧ xs.length = is.length ∧ w { dn with nx := Pv (k + 1), ct := Pv (k + 1), bk := dn.nx } (setAll is xs env) g) ∧ ∀ env g, Pv ds.length env g → dn.nx env g
section
variable {X : Cx} {T : List (Addr × Str)} {EX : XK} {A1 : Tr} {w : TW} {pos : Pos}
theorem for_genT {J : It} {ds : List D} {is : List Nat} {dn : Dn} {D : Ends} {g0 g1 : G} {S0 H0 S1 H1 : Hp} {env : Env'} {σ : St} {body : List Stmt} (e1 : Ext X.K T g0 S0 H0 g1 S1 H1) (en : EnvOk X.K (UF H0) g1 S1 H1 env σ) (l : Lk X.K T EX g0 S0 H0 dn D) (hb : PXs X T EX body w)
    (hst : ∀ k g' S' H', Ext X.K T g0 S1 H0 g' S' H' → (k < ds.length → J.go k H') ∧ (k = ds.length → J.stop k H') ∧ ∀ x H2, k < ds.length → J.yld k H' x H2 → H2 = H' ∧ ∃ d, ds[k]? = some d ∧ Rep X.K S1 x d)
    (h : forRT is w ds dn env g1) : ∃ W : Nat → Nat → St → Hp → Prop, (∃ m, W 0 m σ H1) ∧ ∀ k m σ H, W k m σ H →
      (J.stop k H ∧ D.nx σ H) ∨ (J.go k H ∧ ∃ N : St → Hp → Prop, (∀ σ' H', N σ' H' → ∃ m', m' < m ∧ W (k + 1) m' σ' H') ∧ ∀ x H', J.yld k H x H' → gTup X.K is.length (gNames is) x σ H' fun σ2 H2 => TSemB X body { D with nx := N, ct := N, bk := D.nx } σ2 H2) := by
  obtain ⟨Pv, p0, ps, pd⟩ := h
  let St' : Nat → St → Hp → Prop := fun k σ H => ∃ env g S, Pv k env g ∧ Ext X.K T g0 S1 H0 g S H ∧ EnvOk X.K (UF H0) g S H env σ
  refine ⟨fun k m σ H => m = ds.length - k ∧ k ≤ ds.length ∧ St' k σ H, ⟨_, rfl, Nat.zero_le _, env, g1, S1, p0, e1.rebase, en⟩, ?_⟩
  rintro k m σ H ⟨rfl, hk, env, g, S, pk, e, n⟩
  obtain ⟨j1, j2, j3⟩ := hst k g S H e
  by_cases hlt : k < ds.length
  · refine .inr ⟨j1 hlt, St' (k + 1), fun σ' H' s => ⟨ds.length - (k + 1), by omega, rfl, hlt, s⟩, fun x H' hy => ?_⟩
    obtain ⟨rfl, d, hd1, hd2⟩ := j3 x H' hlt hy
    obtain ⟨xs, rfl, hxl, kk⟩ := ps k d env g hd1 pk
    cases hd2.mono e.mono with
    | @tup a vs _ hq hr =>
      refine ⟨a, vs, rfl, e.ok.sqt hq, by rw [hr.length]; exact hxl, gNames_run is hr hxl n fun σ2 n2 => ?_⟩
      exact hb.run kk e n2 ⟨fun env g S σ H q e n => ⟨env, g, S, q, e, n⟩, fun env g S σ H q e n => l.nx env g S σ H q (e1.unbase e) n, fun env g S σ H q e n => ⟨env, g, S, q, e, n⟩,
        fun d g S v H q e r => l.rt d g S v H q (e1.unbase e) r, fun C g S H q e => l.ex C g S H q (e1.unbase e)⟩
  · have ek : k = ds.length := by omega
    subst ek
    exact .inl ⟨j2 rfl, l.nx env g S σ H (pd env g pk) (e1.unbase e) n⟩

def wForLT (is : List Nat) (A : Tr) (w : TW) : TW := fun dn env g => A env g (onD dn fun d g1 => ∃ ds, items d = some ds ∧ notTup d ∧ forRT is w ds dn env g1)
theorem px_forLT {is : List Nat} {es : List Expr} {k : Nat} {pt : Pos} {iter : Expr} {body : List Stmt} (hp : PassesOwn (model X.prog X.w) X.A X.env X.xe) (hc : X.calm = true) (hi : PM X T EX iter A1) (hg : PGs X es (gNames is)) (hb : PXs X T EX body w)
    (hn : (assignEach es X.env).length = is.length := by rfl) (hst : (assignEach es X.env).findIdx? (·.1) = none := by rfl)
    (hs : ∀ x, foldedSetIterable iter X.env x = pure x := by intro _; rfl) : PX X T EX (.For (.Tuple es k pt) iter body [] pos) (wForLT is A1 w) := by
  refine ⟨fun {g0 S0 H0 σ H g S env D dn} h e n l => semS_of (ps_for hp hc (pi_list pe_sem) (pg_tup hc hg hn hst) pss_sem hs) ?_⟩
  refine hi.run h e.ok n (fun d g1 v1 H1 S1 k e1 r1 => ?_) (fun C g' H' S' k e1 => l.ex C g' S' H' k (e.trans e1))
  obtain ⟨ds, hd, nt, hf⟩ := k
  obtain ⟨a, vs, rfl, hq, hr⟩ := itemsL r1 hd nt
  refine ⟨a, rfl, ⟨vs, e1.ok.sql hq⟩, ?_⟩
  refine for_genT (e.trans e1) (n.ext e1) l hb (fun k g' S' H' e2 => ?_) hf
  have hq' : SqL X.K H' a vs := e2.ok.sql (sql_mono e2.mono hq)
  have hl := hr.length
  refine ⟨fun hk => ⟨vs, vs[k]'(by omega), hq', by simp⟩, fun hk => ⟨vs, hq', by omega⟩, fun x H2 _ y => ?_⟩
  obtain ⟨e3, y⟩ := y
  obtain ⟨d, h1, h2⟩ := hr.get' (y vs hq')
  exact ⟨e3, d, h1, h2⟩
/-! tuples added -/
def catTF (_ : G) (a b : DL.D) : Option DL.D := match a, b with
  | .tup xs, .tup ys => if xs ≠ [] ∧ xs.length + ys.length ≤ 1000 then some (.tup (xs ++ ys)) else none
  | _, _ => none
theorem v2_catT {K : PySem.W.Frag} : V2 K T (rCatT K) catTF := by
  intro g S H x y d1 d2 d Q ok r1 r2 e hq
  unfold catTF at e
  split at e
  · rename_i xs ys
    split at e
    · rename_i h
      cases e
      cases r1 with
      | @tup a vs _ hq1 hr1 =>
        cases r2 with
        | @tup b us _ hq2 hr2 =>
          refine ⟨a, b, vs, us, rfl, rfl, ok.sqt hq1, ok.sqt hq2, fun z => ?_, sz (by rw [hr1.length, hr2.length]; omega), fun z => ?_, fun _ p hp => ?_⟩
          · have := hr1.length
            rw [z] at this
            exact h.1 (List.eq_nil_of_length_eq_zero this.symm)
          · have := hr2.length
            rw [z] at this
            have e0 : ys = [] := List.eq_nil_of_length_eq_zero this.symm
            subst e0
            rw [List.append_nil] at hq
            exact hq _ H S (Ext.refl ok) (.tup hq1 hr1)
          · have e2 := ok.new (o := .tup (vs ++ us)) hp (fun ps z => by cases z)
            exact hq _ _ _ e2 (.tup (.inl (.inl upd_same)) ((hr1.mono e2.mono).append (hr2.mono e2.mono)))
    · cases e
  · cases e
/-- x = y[lo:hi], y and x one's own -/
def wNewSl (i j : Nat) (L U : TrO) : TW := fun dn env g => i < env.length ∧ ∃ ds : List DL.D, env[j]? = some (.own (.lst ds)) ∧ L env g (fun C g => dn.ex C g) fun lo g2 => U env g2 (fun C g => dn.ex C g) fun hi g3 => dn.nx (env.set i (.own (.lst (cutD ds lo hi)))) g3
theorem px_newSl {i j : Nat} {x : Str} {pos' p2 p3 pos : Pos} {a : Expr} {lo hi : Option Expr} {L1 L2' : TrO} (hN : X.N.Nodup) (hi' : X.N[i]? = some x) (hx : Loc X.env.scope x) (ho : PE X a (tVar j)) (hl : PMO X T EX lo L1) (hu : PMO X T EX hi L2') (hs : swapsWith (.Subscript a (.Slice lo hi none p2) p3) (some (.Name x pos')) pos.line X.env = pure false := by rfl)
    (hf : X.fn x = true ∨ X.env.scope.names.lookup x = some .local := by first | exact .inl rfl | exact .inr rfl | assumption) : PX X T EX (.Assign [.Name x pos'] (.Subscript a (.Slice lo hi none p2) p3) pos) (wNewSl i j L1 L2') := by
  refine ⟨fun {g0 S0 H0 σ H g S env D dn} h e n l => semS_of (ps_set hN hi' hx (pe_slice sl_all ho po_sem po_sem) hs hf) ?_⟩
  obtain ⟨hlt, ds, hj, h⟩ := h
  obtain ⟨q, ho', a1, a2, a3, a4, a5, a6, a7⟩ := n.own j _ hj
  cases a3 with
  | @lst vs _ hr =>
    refine ⟨.ref q, a1, ?_⟩
    refine hl.run h e.ok n (fun lo g2 H2 S2 k2 e2 => ?_) (fun C g' H' S' k e2 => l.ex C g' S' H' k (e.trans e2))
    refine hu.run k2 e2.ok (n.ext e2) (fun hi g3 H3 S3 k3 e3 => ?_) (fun C g' H' S' k e3 => l.ex C g' S' H' k ((e.trans e2).trans e3))
    have e23 := e2.trans e3
    obtain ⟨m1, m2, m3⟩ := e23.mine a4 a5 a2 (fun _ z => by cases z)
    refine .inr (.inl ⟨q, vs, rfl, .inl (.inl m3), fun p hp => ?_⟩)
    obtain ⟨e4, n4⟩ := (n.ext e23).own' (e.trans e23) i (o := .lst (cutD ds lo hi)) hp (.lst ((hr.mono e23.mono).cut lo hi)) hlt
    exact l.nx _ g3 S3 _ _ k3 e4 n4
end
end DL

set_option Elab.async false
set_option linter.all false
set_option maxRecDepth 100000
set_option maxHeartbeats 4000000
set_option autoImplicit false
namespace Vw
open PySem PySem.Spec PyProof.Rows L2
def top (i : Nat) : Stmt := PySem.Challenge.pw_votewood_k31_whole_all_seen.main.body.getD i (.Pass ⟨0, 0, 0, 0⟩)
abbrev s_wall : Stmt := top 0
abbrev s_need_measure : Stmt := top 14
abbrev s_worth : Stmt := top 15
abbrev s_is_ahead : Stmt := top 16
abbrev s_in_order : Stmt := top 17
abbrev s_ordered : Stmt := top 18
abbrev s_is_count : Stmt := top 27
abbrev s_need_name : Stmt := top 28
abbrev s_need_text : Stmt := top 29
abbrev s_Saying_init : Stmt := inClass (top 30) 0
abbrev s_Saying_ups : Stmt := inClass (top 30) 1
abbrev s_Saying_downs : Stmt := inClass (top 30) 2
abbrev s_Saying_points : Stmt := inClass (top 30) 3
abbrev s_Wood_init : Stmt := inClass (top 31) 0
abbrev s_Wood_now : Stmt := inClass (top 31) 1
abbrev s_Wood_tick : Stmt := inClass (top 31) 2
abbrev s_Wood_saying : Stmt := inClass (top 31) 3
abbrev s_Wood_numbers : Stmt := inClass (top 31) 4
abbrev s_Wood_deep : Stmt := inClass (top 31) 5
abbrev s_Wood_say : Stmt := inClass (top 31) 6
abbrev s_Wood_look : Stmt := inClass (top 31) 7
abbrev s_Wood_own : Stmt := inClass (top 31) 8
abbrev s_Wood_change : Stmt := inClass (top 31) 9
abbrev s_Wood_replies : Stmt := inClass (top 31) 10
abbrev s_Wood_strike : Stmt := inClass (top 31) 11
abbrev s_Wood_vote : Stmt := inClass (top 31) 12
abbrev s_Wood_votes_of : Stmt := inClass (top 31) 13
abbrev s_Wood_below : Stmt := inClass (top 31) 14
abbrev s_Wood_many : Stmt := inClass (top 31) 15
abbrev s_Wood_standing : Stmt := inClass (top 31) 16
abbrev s_Reader_init : Stmt := inClass (top 33) 0
abbrev s_Reader_fold : Stmt := inClass (top 33) 1
abbrev s_Reader_open_up : Stmt := inClass (top 33) 2
abbrev s_Reader_mute : Stmt := inClass (top 33) 3
abbrev s_Reader_hear : Stmt := inClass (top 33) 4
abbrev s_Reader_is_folded : Stmt := inClass (top 33) 5
abbrev s_Reader_kind : Stmt := inClass (top 33) 6
abbrev s_Reader_rows_under : Stmt := inClass (top 33) 7
abbrev s_Reader_rows_of : Stmt := inClass (top 33) 8
abbrev s_Reader_rows : Stmt := inClass (top 33) 9
abbrev s_votes_written : Stmt := top 35
abbrev s_written : Stmt := top 36
abbrev s_l_cell : Stmt := top 38
abbrev s_l_drawn : Stmt := top 39
abbrev s_l_word : Stmt := top 40
abbrev s_l_told : Stmt := top 41
abbrev s_l_any_name : Stmt := top 42
abbrev s_l_any_text : Stmt := top 43
abbrev s_l_own : Stmt := top 44
abbrev s_l_beneath : Stmt := top 45
abbrev s_l_above : Stmt := top 46
abbrev s_l_points : Stmt := top 47
abbrev s_l_say : Stmt := top 48
abbrev s_l_strike : Stmt := top 49
abbrev s_l_act : Stmt := top 50
abbrev s_l_do : Stmt := top 51
abbrev s_l_deed : Stmt := top 52
abbrev s_l_grown : Stmt := top 53
abbrev s_l_rows_right : Stmt := top 54
abbrev s_law : Stmt := top 55

def names0 : List PySem.Str := ["_wall", "WoodError", "BadName", "NoSaying", "BadText", "Full", "NotYours", "BadNumber", "BadDeed", "Nothing", "NotKin", "MEASURES", "need_measure", "worth", "is_ahead", "in_order", "ordered", "SMALL", "MOST_WORD", "MOST_TEXT", "MOST_SAYINGS", "MOST_DEEP", "MOST_TICKS", "BARRED", "is_count", "need_name", "need_text", "Saying", "Wood", "Reader"]
def names1 : List PySem.Str := ["votes_written", "written", "_law_cell", "_law_drawn", "_law_word", "_law_told", "_law_any_name", "_law_any_text", "_law_own", "_law_beneath", "_law_above", "_law_points", "_law_say", "_law_strike", "_law_act", "_law_do", "_law_deed", "_law_grown", "_law_rows_right"]
def names : List PySem.Str := names0 ++ names1
def fa0 : List He.Fa := [.glo "WoodError",
  .exc "WoodError",
  .glo "BadName",
  .exc "BadName",
  .glo "NoSaying",
  .exc "NoSaying",
  .glo "BadText",
  .exc "BadText",
  .glo "Full",
  .exc "Full",
  .glo "NotYours",
  .exc "NotYours",
  .glo "BadNumber",
  .exc "BadNumber",
  .glo "BadDeed",
  .exc "BadDeed",
  .glo "Nothing",
  .exc "Nothing",
  .glo "NotKin",
  .exc "NotKin",
  .glo "Saying",
  .cls "Saying",
  .noat "Saying" "by",
  .noat "Saying" "under",
  .noat "Saying" "text"]
def fa1 : List He.Fa := [.noat "Saying" "time",
  .noat "Saying" "votes",
  .noat "Saying" "is_struck",
  .meth "Saying" "__init__",
  .meth "Saying" "ups",
  .meth "Saying" "downs",
  .meth "Saying" "points",
  .mkr "Saying",
  .glo "Wood",
  .cls "Wood",
  .noat "Wood" "sayings",
  .noat "Wood" "came",
  .noat "Wood" "clock",
  .meth "Wood" "__init__",
  .meth "Wood" "now",
  .meth "Wood" "tick",
  .meth "Wood" "saying",
  .meth "Wood" "numbers",
  .meth "Wood" "deep",
  .meth "Wood" "say",
  .meth "Wood" "look",
  .meth "Wood" "own",
  .meth "Wood" "change",
  .meth "Wood" "replies",
  .meth "Wood" "strike"]
def fa2 : List He.Fa := [.meth "Wood" "vote",
  .meth "Wood" "votes_of",
  .meth "Wood" "below",
  .meth "Wood" "many",
  .meth "Wood" "standing",
  .mkr "Wood",
  .glo "Reader",
  .cls "Reader",
  .noat "Reader" "wood",
  .noat "Reader" "measure",
  .noat "Reader" "bound",
  .noat "Reader" "folds",
  .noat "Reader" "muted",
  .meth "Reader" "__init__",
  .meth "Reader" "fold",
  .meth "Reader" "open_up",
  .meth "Reader" "mute",
  .meth "Reader" "hear",
  .meth "Reader" "is_folded",
  .meth "Reader" "kind",
  .meth "Reader" "rows_under",
  .meth "Reader" "rows_of",
  .meth "Reader" "rows",
  .mkr "Reader",
  .exm "WoodError" "WoodError" true]
def fa3 : List He.Fa := [.exm "BadName" "BadName" true,
  .exm "BadName" "WoodError" true,
  .exm "NoSaying" "NoSaying" true,
  .exm "NoSaying" "WoodError" true,
  .exm "BadText" "BadText" true,
  .exm "BadText" "WoodError" true,
  .exm "Full" "Full" true,
  .exm "Full" "WoodError" true,
  .exm "NotYours" "NotYours" true,
  .exm "NotYours" "WoodError" true,
  .exm "BadNumber" "BadNumber" true,
  .exm "BadNumber" "WoodError" true,
  .exm "BadDeed" "BadDeed" true,
  .exm "BadDeed" "WoodError" true,
  .exm "Nothing" "Nothing" true,
  .exm "Nothing" "WoodError" true,
  .exm "NotKin" "NotKin" true,
  .exm "NotKin" "WoodError" true,
  .str "SMALL" "abcdefghijklmnopqrstuvwxyz",
  .int "MOST_WORD" 6,
  .int "MOST_TEXT" 30,
  .int "MOST_SAYINGS" 60,
  .int "MOST_DEEP" 8,
  .int "MOST_TICKS" 1000,
  .int "BARRED" 37]
def fa4 : List He.Fa := [.glo "MEASURES",
  .glo "_wall",
  .glo "need_measure",
  .glo "worth",
  .glo "is_ahead",
  .glo "in_order",
  .glo "ordered",
  .glo "is_count",
  .glo "need_name",
  .glo "need_text",
  .glo "votes_written",
  .glo "written",
  .glo "_law_cell",
  .glo "_law_drawn",
  .glo "_law_word",
  .glo "_law_told",
  .glo "_law_any_name",
  .glo "_law_any_text",
  .glo "_law_own",
  .glo "_law_beneath",
  .glo "_law_above",
  .glo "_law_points",
  .glo "_law_say",
  .glo "_law_strike",
  .glo "_law_act"]
def fa5 : List He.Fa := [.glo "_law_do",
  .glo "_law_deed",
  .glo "_law_grown",
  .glo "_law_rows_right",
  .glo "law",
  .free "len",
  .free "sorted",
  .free "sum",
  .free "all",
  .free "any",
  .free "isinstance",
  .free "min",
  .free "max",
  .free "range",
  .free "ord",
  .free "int",
  .free "str",
  .free "list",
  .free "dict",
  .free "set",
  .free "tuple",
  .free "enumerate",
  .free "bool",
  .free "ValueError"]
def fa : List He.Fa := fa0 ++ fa1 ++ fa2 ++ fa3 ++ fa4 ++ fa5
def fn0 : List He.DefD := [⟨("_wall", none), "_wall", "_wall", defArgs s_wall, defBody s_wall, defScope s_wall, [], []⟩,
  ⟨("need_measure", none), "need_measure", "need_measure", defArgs s_need_measure, defBody s_need_measure, defScope s_need_measure, [], []⟩,
  ⟨("worth", none), "worth", "worth", defArgs s_worth, defBody s_worth, defScope s_worth, [], []⟩,
  ⟨("is_ahead", none), "is_ahead", "is_ahead", defArgs s_is_ahead, defBody s_is_ahead, defScope s_is_ahead, [], []⟩,
  ⟨("in_order", none), "in_order", "in_order", defArgs s_in_order, defBody s_in_order, defScope s_in_order, [], []⟩,
  ⟨("ordered", none), "ordered", "ordered", defArgs s_ordered, defBody s_ordered, defScope s_ordered, [], []⟩,
  ⟨("is_count", none), "is_count", "is_count", defArgs s_is_count, defBody s_is_count, defScope s_is_count, [], []⟩,
  ⟨("need_name", none), "need_name", "need_name", defArgs s_need_name, defBody s_need_name, defScope s_need_name, [], []⟩,
  ⟨("need_text", none), "need_text", "need_text", defArgs s_need_text, defBody s_need_text, defScope s_need_text, [], []⟩,
  ⟨("Saying", some "__init__"), "__init__", "Saying.__init__", defArgs s_Saying_init, defBody s_Saying_init, defScope s_Saying_init, [], []⟩,
  ⟨("Saying", some "ups"), "ups", "Saying.ups", defArgs s_Saying_ups, defBody s_Saying_ups, defScope s_Saying_ups, [], []⟩,
  ⟨("Saying", some "downs"), "downs", "Saying.downs", defArgs s_Saying_downs, defBody s_Saying_downs, defScope s_Saying_downs, [], []⟩]
def fn1 : List He.DefD := [⟨("Saying", some "points"), "points", "Saying.points", defArgs s_Saying_points, defBody s_Saying_points, defScope s_Saying_points, [], []⟩,
  ⟨("Wood", some "__init__"), "__init__", "Wood.__init__", defArgs s_Wood_init, defBody s_Wood_init, defScope s_Wood_init, [], []⟩,
  ⟨("Wood", some "now"), "now", "Wood.now", defArgs s_Wood_now, defBody s_Wood_now, defScope s_Wood_now, [], []⟩,
  ⟨("Wood", some "tick"), "tick", "Wood.tick", defArgs s_Wood_tick, defBody s_Wood_tick, defScope s_Wood_tick, [], []⟩,
  ⟨("Wood", some "saying"), "saying", "Wood.saying", defArgs s_Wood_saying, defBody s_Wood_saying, defScope s_Wood_saying, [], []⟩,
  ⟨("Wood", some "numbers"), "numbers", "Wood.numbers", defArgs s_Wood_numbers, defBody s_Wood_numbers, defScope s_Wood_numbers, [], []⟩,
  ⟨("Wood", some "deep"), "deep", "Wood.deep", defArgs s_Wood_deep, defBody s_Wood_deep, defScope s_Wood_deep, [], []⟩,
  ⟨("Wood", some "say"), "say", "Wood.say", defArgs s_Wood_say, defBody s_Wood_say, defScope s_Wood_say, [], []⟩,
  ⟨("Wood", some "look"), "look", "Wood.look", defArgs s_Wood_look, defBody s_Wood_look, defScope s_Wood_look, [], []⟩,
  ⟨("Wood", some "own"), "own", "Wood.own", defArgs s_Wood_own, defBody s_Wood_own, defScope s_Wood_own, [], []⟩,
  ⟨("Wood", some "change"), "change", "Wood.change", defArgs s_Wood_change, defBody s_Wood_change, defScope s_Wood_change, [], []⟩,
  ⟨("Wood", some "replies"), "replies", "Wood.replies", defArgs s_Wood_replies, defBody s_Wood_replies, defScope s_Wood_replies, [], []⟩]
def fn2 : List He.DefD := [⟨("Wood", some "strike"), "strike", "Wood.strike", defArgs s_Wood_strike, defBody s_Wood_strike, defScope s_Wood_strike, [], []⟩,
  ⟨("Wood", some "vote"), "vote", "Wood.vote", defArgs s_Wood_vote, defBody s_Wood_vote, defScope s_Wood_vote, [], []⟩,
  ⟨("Wood", some "votes_of"), "votes_of", "Wood.votes_of", defArgs s_Wood_votes_of, defBody s_Wood_votes_of, defScope s_Wood_votes_of, [], []⟩,
  ⟨("Wood", some "below"), "below", "Wood.below", defArgs s_Wood_below, defBody s_Wood_below, defScope s_Wood_below, [], []⟩,
  ⟨("Wood", some "many"), "many", "Wood.many", defArgs s_Wood_many, defBody s_Wood_many, defScope s_Wood_many, [], []⟩,
  ⟨("Wood", some "standing"), "standing", "Wood.standing", defArgs s_Wood_standing, defBody s_Wood_standing, defScope s_Wood_standing, [], []⟩,
  ⟨("Reader", some "__init__"), "__init__", "Reader.__init__", defArgs s_Reader_init, defBody s_Reader_init, defScope s_Reader_init, [], []⟩,
  ⟨("Reader", some "fold"), "fold", "Reader.fold", defArgs s_Reader_fold, defBody s_Reader_fold, defScope s_Reader_fold, [], []⟩,
  ⟨("Reader", some "open_up"), "open_up", "Reader.open_up", defArgs s_Reader_open_up, defBody s_Reader_open_up, defScope s_Reader_open_up, [], []⟩,
  ⟨("Reader", some "mute"), "mute", "Reader.mute", defArgs s_Reader_mute, defBody s_Reader_mute, defScope s_Reader_mute, [], []⟩,
  ⟨("Reader", some "hear"), "hear", "Reader.hear", defArgs s_Reader_hear, defBody s_Reader_hear, defScope s_Reader_hear, [], []⟩,
  ⟨("Reader", some "is_folded"), "is_folded", "Reader.is_folded", defArgs s_Reader_is_folded, defBody s_Reader_is_folded, defScope s_Reader_is_folded, [], []⟩]
def fn3 : List He.DefD := [⟨("Reader", some "kind"), "kind", "Reader.kind", defArgs s_Reader_kind, defBody s_Reader_kind, defScope s_Reader_kind, [], []⟩,
  ⟨("Reader", some "rows_under"), "rows_under", "Reader.rows_under", defArgs s_Reader_rows_under, defBody s_Reader_rows_under, defScope s_Reader_rows_under, [], []⟩,
  ⟨("Reader", some "rows_of"), "rows_of", "Reader.rows_of", defArgs s_Reader_rows_of, defBody s_Reader_rows_of, defScope s_Reader_rows_of, [], []⟩,
  ⟨("Reader", some "rows"), "rows", "Reader.rows", defArgs s_Reader_rows, defBody s_Reader_rows, defScope s_Reader_rows, [], []⟩,
  ⟨("votes_written", none), "votes_written", "votes_written", defArgs s_votes_written, defBody s_votes_written, defScope s_votes_written, [], []⟩,
  ⟨("written", none), "written", "written", defArgs s_written, defBody s_written, defScope s_written, [], []⟩,
  ⟨("_law_cell", none), "_law_cell", "_law_cell", defArgs s_l_cell, defBody s_l_cell, defScope s_l_cell, [], []⟩,
  ⟨("_law_drawn", none), "_law_drawn", "_law_drawn", defArgs s_l_drawn, defBody s_l_drawn, defScope s_l_drawn, [], []⟩,
  ⟨("_law_word", none), "_law_word", "_law_word", defArgs s_l_word, defBody s_l_word, defScope s_l_word, [], []⟩,
  ⟨("_law_told", none), "_law_told", "_law_told", defArgs s_l_told, defBody s_l_told, defScope s_l_told, [], []⟩,
  ⟨("_law_any_name", none), "_law_any_name", "_law_any_name", defArgs s_l_any_name, defBody s_l_any_name, defScope s_l_any_name, [], []⟩,
  ⟨("_law_any_text", none), "_law_any_text", "_law_any_text", defArgs s_l_any_text, defBody s_l_any_text, defScope s_l_any_text, [], []⟩]
def fn4 : List He.DefD := [⟨("_law_own", none), "_law_own", "_law_own", defArgs s_l_own, defBody s_l_own, defScope s_l_own, [], []⟩,
  ⟨("_law_beneath", none), "_law_beneath", "_law_beneath", defArgs s_l_beneath, defBody s_l_beneath, defScope s_l_beneath, [], []⟩,
  ⟨("_law_above", none), "_law_above", "_law_above", defArgs s_l_above, defBody s_l_above, defScope s_l_above, [], []⟩,
  ⟨("_law_points", none), "_law_points", "_law_points", defArgs s_l_points, defBody s_l_points, defScope s_l_points, [], []⟩,
  ⟨("_law_say", none), "_law_say", "_law_say", defArgs s_l_say, defBody s_l_say, defScope s_l_say, [], []⟩,
  ⟨("_law_strike", none), "_law_strike", "_law_strike", defArgs s_l_strike, defBody s_l_strike, defScope s_l_strike, [], []⟩,
  ⟨("_law_act", none), "_law_act", "_law_act", defArgs s_l_act, defBody s_l_act, defScope s_l_act, [], []⟩,
  ⟨("_law_do", none), "_law_do", "_law_do", defArgs s_l_do, defBody s_l_do, defScope s_l_do, [], []⟩,
  ⟨("_law_deed", none), "_law_deed", "_law_deed", defArgs s_l_deed, defBody s_l_deed, defScope s_l_deed, [], []⟩,
  ⟨("_law_grown", none), "_law_grown", "_law_grown", defArgs s_l_grown, defBody s_l_grown, defScope s_l_grown, [], []⟩,
  ⟨("_law_rows_right", none), "_law_rows_right", "_law_rows_right", defArgs s_l_rows_right, defBody s_l_rows_right, defScope s_l_rows_right, [], []⟩,
  ⟨("law", none), "law", "law", defArgs s_law, defBody s_law, defScope s_law, [], []⟩]
def fn : List He.DefD := fn0 ++ fn1 ++ fn2 ++ fn3 ++ fn4
def tf : List He.Defn := [("_law_do", none)]
def excs : List Str := ["BadName", "NoSaying", "BadText", "Full", "NotYours", "BadNumber", "BadDeed", "Nothing", "NotKin"]
def tups : List (Str × List Str) := [("MEASURES", ["new", "old", "best", "warm", "torn", "sure"])]
abbrev R : PySem.W.OpenRow := PySem.W.OpenLaw.row PySem.Challenge.rw_votewood_k31_whole_all_seen
abbrev qv : Program := PySem.W.view R.prog [55]
def exB : PySem.W.Frag → Bool := fun K => DL.exBof excs tf K && DL.tupsB tups K
abbrev hk : PySem.W.Hook := He.hookX 6 fa fn [] tf exB
def ob (s : PySem.W.SharedT) : He.AlX := He.obsX 6 fa fn [] tf exB (HandSHeadRun.getT s)
theorem ob_eq (s : PySem.W.SharedT) : ob s = hk.obs s.abs := He.obsX_eq (HandSHeadRun.getT_eq s)
theorem run (w : World) : HandSHeadRun.RunEq R qv hk ob 6000 names w := by
  intro os
  kernel_rfl

structure Facts (K : PySem.W.Frag) (mg : Str → Option Value) : Prop where
  f_len : mg "len" = none
  f_sorted : mg "sorted" = none
  f_sum : mg "sum" = none
  f_all : mg "all" = none
  f_any : mg "any" = none
  f_isinstance : mg "isinstance" = none
  f_min : mg "min" = none
  f_max : mg "max" = none
  f_range : mg "range" = none
  f_ord : mg "ord" = none
  f_int : mg "int" = none
  f_str : mg "str" = none
  f_list : mg "list" = none
  f_dict : mg "dict" = none
  f_set : mg "set" = none
  f_tuple : mg "tuple" = none
  f_enumerate : mg "enumerate" = none
  f_bool : mg "bool" = none
  f_ValueError : mg "ValueError" = none
  s_SMALL : ∃ t, mg "SMALL" = some (.str "abcdefghijklmnopqrstuvwxyz" t)
  i_MOST_WORD : ∃ t, mg "MOST_WORD" = some (.int 6 t)
  i_MOST_TEXT : ∃ t, mg "MOST_TEXT" = some (.int 30 t)
  i_MOST_SAYINGS : ∃ t, mg "MOST_SAYINGS" = some (.int 60 t)
  i_MOST_DEEP : ∃ t, mg "MOST_DEEP" = some (.int 8 t)
  i_MOST_TICKS : ∃ t, mg "MOST_TICKS" = some (.int 1000 t)
  i_BARRED : ∃ t, mg "BARRED" = some (.int 37 t)
  t_MEASURES : DL.TupK K mg "MEASURES" ["new", "old", "best", "warm", "torn", "sure"]
  g_WoodError : mg "WoodError" = some (.ref (He.ga K "WoodError"))
  x_WoodError : DL.Exc K mg "WoodError" (He.ga K "WoodError")
  g_BadName : mg "BadName" = some (.ref (He.ga K "BadName"))
  x_BadName : DL.Exc K mg "BadName" (He.ga K "BadName")
  w_BadName : PySem.W.exmOne K (.ref (He.ga K "BadName")) (.ref (He.ga K "WoodError")) = some true
  g_NoSaying : mg "NoSaying" = some (.ref (He.ga K "NoSaying"))
  x_NoSaying : DL.Exc K mg "NoSaying" (He.ga K "NoSaying")
  w_NoSaying : PySem.W.exmOne K (.ref (He.ga K "NoSaying")) (.ref (He.ga K "WoodError")) = some true
  g_BadText : mg "BadText" = some (.ref (He.ga K "BadText"))
  x_BadText : DL.Exc K mg "BadText" (He.ga K "BadText")
  w_BadText : PySem.W.exmOne K (.ref (He.ga K "BadText")) (.ref (He.ga K "WoodError")) = some true
  g_Full : mg "Full" = some (.ref (He.ga K "Full"))
  x_Full : DL.Exc K mg "Full" (He.ga K "Full")
  w_Full : PySem.W.exmOne K (.ref (He.ga K "Full")) (.ref (He.ga K "WoodError")) = some true
  g_NotYours : mg "NotYours" = some (.ref (He.ga K "NotYours"))
  x_NotYours : DL.Exc K mg "NotYours" (He.ga K "NotYours")
  w_NotYours : PySem.W.exmOne K (.ref (He.ga K "NotYours")) (.ref (He.ga K "WoodError")) = some true
  g_BadNumber : mg "BadNumber" = some (.ref (He.ga K "BadNumber"))
  x_BadNumber : DL.Exc K mg "BadNumber" (He.ga K "BadNumber")
  w_BadNumber : PySem.W.exmOne K (.ref (He.ga K "BadNumber")) (.ref (He.ga K "WoodError")) = some true
  g_BadDeed : mg "BadDeed" = some (.ref (He.ga K "BadDeed"))
  x_BadDeed : DL.Exc K mg "BadDeed" (He.ga K "BadDeed")
  w_BadDeed : PySem.W.exmOne K (.ref (He.ga K "BadDeed")) (.ref (He.ga K "WoodError")) = some true
  g_Nothing : mg "Nothing" = some (.ref (He.ga K "Nothing"))
  x_Nothing : DL.Exc K mg "Nothing" (He.ga K "Nothing")
  w_Nothing : PySem.W.exmOne K (.ref (He.ga K "Nothing")) (.ref (He.ga K "WoodError")) = some true
  g_NotKin : mg "NotKin" = some (.ref (He.ga K "NotKin"))
  x_NotKin : DL.Exc K mg "NotKin" (He.ga K "NotKin")
  w_NotKin : PySem.W.exmOne K (.ref (He.ga K "NotKin")) (.ref (He.ga K "WoodError")) = some true
  g_Saying : mg "Saying" = some (.ref (He.ga K "Saying"))
  at_Saying_by : DL.At K (He.ga K "Saying") "by"
  at_Saying_under : DL.At K (He.ga K "Saying") "under"
  at_Saying_text : DL.At K (He.ga K "Saying") "text"
  at_Saying_time : DL.At K (He.ga K "Saying") "time"
  at_Saying_votes : DL.At K (He.ga K "Saying") "votes"
  at_Saying_is_struck : DL.At K (He.ga K "Saying") "is_struck"
  g_Wood : mg "Wood" = some (.ref (He.ga K "Wood"))
  at_Wood_sayings : DL.At K (He.ga K "Wood") "sayings"
  at_Wood_came : DL.At K (He.ga K "Wood") "came"
  at_Wood_clock : DL.At K (He.ga K "Wood") "clock"
  g_Reader : mg "Reader" = some (.ref (He.ga K "Reader"))
  at_Reader_wood : DL.At K (He.ga K "Reader") "wood"
  at_Reader_measure : DL.At K (He.ga K "Reader") "measure"
  at_Reader_bound : DL.At K (He.ga K "Reader") "bound"
  at_Reader_folds : DL.At K (He.ga K "Reader") "folds"
  at_Reader_muted : DL.At K (He.ga K "Reader") "muted"
  d_wall : DL.DefM K mg "_wall" s_wall
  d_need_measure : DL.DefM K mg "need_measure" s_need_measure
  d_worth : DL.DefM K mg "worth" s_worth
  d_is_ahead : DL.DefM K mg "is_ahead" s_is_ahead
  d_in_order : DL.DefM K mg "in_order" s_in_order
  d_ordered : DL.DefM K mg "ordered" s_ordered
  d_is_count : DL.DefM K mg "is_count" s_is_count
  d_need_name : DL.DefM K mg "need_name" s_need_name
  d_need_text : DL.DefM K mg "need_text" s_need_text
  n_Saying : DL.DefI K mg "Saying" (He.ga K "Saying") "Saying.__init__" s_Saying_init
  m_Saying_ups : DL.DefC K (He.ga K "Saying") "ups" "Saying.ups" s_Saying_ups
  m_Saying_downs : DL.DefC K (He.ga K "Saying") "downs" "Saying.downs" s_Saying_downs
  m_Saying_points : DL.DefC K (He.ga K "Saying") "points" "Saying.points" s_Saying_points
  n_Wood : DL.DefI K mg "Wood" (He.ga K "Wood") "Wood.__init__" s_Wood_init
  m_Wood_now : DL.DefC K (He.ga K "Wood") "now" "Wood.now" s_Wood_now
  m_Wood_tick : DL.DefC K (He.ga K "Wood") "tick" "Wood.tick" s_Wood_tick
  m_Wood_saying : DL.DefC K (He.ga K "Wood") "saying" "Wood.saying" s_Wood_saying
  m_Wood_numbers : DL.DefC K (He.ga K "Wood") "numbers" "Wood.numbers" s_Wood_numbers
  m_Wood_deep : DL.DefC K (He.ga K "Wood") "deep" "Wood.deep" s_Wood_deep
  m_Wood_say : DL.DefC K (He.ga K "Wood") "say" "Wood.say" s_Wood_say
  m_Wood_look : DL.DefC K (He.ga K "Wood") "look" "Wood.look" s_Wood_look
  m_Wood_own : DL.DefC K (He.ga K "Wood") "own" "Wood.own" s_Wood_own
  m_Wood_change : DL.DefC K (He.ga K "Wood") "change" "Wood.change" s_Wood_change
  m_Wood_replies : DL.DefC K (He.ga K "Wood") "replies" "Wood.replies" s_Wood_replies
  m_Wood_strike : DL.DefC K (He.ga K "Wood") "strike" "Wood.strike" s_Wood_strike
  m_Wood_vote : DL.DefC K (He.ga K "Wood") "vote" "Wood.vote" s_Wood_vote
  m_Wood_votes_of : DL.DefC K (He.ga K "Wood") "votes_of" "Wood.votes_of" s_Wood_votes_of
  m_Wood_below : DL.DefC K (He.ga K "Wood") "below" "Wood.below" s_Wood_below
  m_Wood_many : DL.DefC K (He.ga K "Wood") "many" "Wood.many" s_Wood_many
  m_Wood_standing : DL.DefC K (He.ga K "Wood") "standing" "Wood.standing" s_Wood_standing
  n_Reader : DL.DefI K mg "Reader" (He.ga K "Reader") "Reader.__init__" s_Reader_init
  m_Reader_fold : DL.DefC K (He.ga K "Reader") "fold" "Reader.fold" s_Reader_fold
  m_Reader_open_up : DL.DefC K (He.ga K "Reader") "open_up" "Reader.open_up" s_Reader_open_up
  m_Reader_mute : DL.DefC K (He.ga K "Reader") "mute" "Reader.mute" s_Reader_mute
  m_Reader_hear : DL.DefC K (He.ga K "Reader") "hear" "Reader.hear" s_Reader_hear
  m_Reader_is_folded : DL.DefC K (He.ga K "Reader") "is_folded" "Reader.is_folded" s_Reader_is_folded
  m_Reader_kind : DL.DefC K (He.ga K "Reader") "kind" "Reader.kind" s_Reader_kind
  m_Reader_rows_under : DL.DefC K (He.ga K "Reader") "rows_under" "Reader.rows_under" s_Reader_rows_under
  m_Reader_rows_of : DL.DefC K (He.ga K "Reader") "rows_of" "Reader.rows_of" s_Reader_rows_of
  m_Reader_rows : DL.DefC K (He.ga K "Reader") "rows" "Reader.rows" s_Reader_rows
  d_votes_written : DL.DefM K mg "votes_written" s_votes_written
  d_written : DL.DefM K mg "written" s_written
  d_l_cell : DL.DefM K mg "_law_cell" s_l_cell
  d_l_drawn : DL.DefM K mg "_law_drawn" s_l_drawn
  d_l_word : DL.DefM K mg "_law_word" s_l_word
  d_l_told : DL.DefM K mg "_law_told" s_l_told
  d_l_any_name : DL.DefM K mg "_law_any_name" s_l_any_name
  d_l_any_text : DL.DefM K mg "_law_any_text" s_l_any_text
  d_l_own : DL.DefM K mg "_law_own" s_l_own
  d_l_beneath : DL.DefM K mg "_law_beneath" s_l_beneath
  d_l_above : DL.DefM K mg "_law_above" s_l_above
  d_l_points : DL.DefM K mg "_law_points" s_l_points
  d_l_say : DL.DefM K mg "_law_say" s_l_say
  d_l_strike : DL.DefM K mg "_law_strike" s_l_strike
  d_l_act : DL.DefM K mg "_law_act" s_l_act
  d_l_do : DL.DefM K mg "_law_do" s_l_do
  d_l_deed : DL.DefM K mg "_law_deed" s_l_deed
  d_l_grown : DL.DefM K mg "_law_grown" s_l_grown
  d_l_rows_right : DL.DefM K mg "_law_rows_right" s_l_rows_right
  d_law : DL.DefM K mg "law" s_law
  ex : DL.ExFacts excs tf K
theorem facts_of {w : World} {K : PySem.W.Frag} {mg : Str → Option Value} {h : Heap} (KX : K.In h) (G : h.Ns mainGlobals mg) (c : He.SaysX fa fn [] tf exB w h K) : Facts K mg := ⟨
  He.free_ok KX G (c.t.d.fact 130 (f := .free "len") rfl),
  He.free_ok KX G (c.t.d.fact 131 (f := .free "sorted") rfl),
  He.free_ok KX G (c.t.d.fact 132 (f := .free "sum") rfl),
  He.free_ok KX G (c.t.d.fact 133 (f := .free "all") rfl),
  He.free_ok KX G (c.t.d.fact 134 (f := .free "any") rfl),
  He.free_ok KX G (c.t.d.fact 135 (f := .free "isinstance") rfl),
  He.free_ok KX G (c.t.d.fact 136 (f := .free "min") rfl),
  He.free_ok KX G (c.t.d.fact 137 (f := .free "max") rfl),
  He.free_ok KX G (c.t.d.fact 138 (f := .free "range") rfl),
  He.free_ok KX G (c.t.d.fact 139 (f := .free "ord") rfl),
  He.free_ok KX G (c.t.d.fact 140 (f := .free "int") rfl),
  He.free_ok KX G (c.t.d.fact 141 (f := .free "str") rfl),
  He.free_ok KX G (c.t.d.fact 142 (f := .free "list") rfl),
  He.free_ok KX G (c.t.d.fact 143 (f := .free "dict") rfl),
  He.free_ok KX G (c.t.d.fact 144 (f := .free "set") rfl),
  He.free_ok KX G (c.t.d.fact 145 (f := .free "tuple") rfl),
  He.free_ok KX G (c.t.d.fact 146 (f := .free "enumerate") rfl),
  He.free_ok KX G (c.t.d.fact 147 (f := .free "bool") rfl),
  He.free_ok KX G (c.t.d.fact 148 (f := .free "ValueError") rfl),
  He.str_ok KX G (c.t.d.fact 93 (f := .str "SMALL" "abcdefghijklmnopqrstuvwxyz") rfl),
  He.int_ok KX G (c.t.d.fact 94 (f := .int "MOST_WORD" 6) rfl),
  He.int_ok KX G (c.t.d.fact 95 (f := .int "MOST_TEXT" 30) rfl),
  He.int_ok KX G (c.t.d.fact 96 (f := .int "MOST_SAYINGS" 60) rfl),
  He.int_ok KX G (c.t.d.fact 97 (f := .int "MOST_DEEP" 8) rfl),
  He.int_ok KX G (c.t.d.fact 98 (f := .int "MOST_TICKS" 1000) rfl),
  He.int_ok KX G (c.t.d.fact 99 (f := .int "BARRED" 37) rfl),
  DL.tupB_ok (He.glo_ok KX G (c.t.d.fact 100 (f := .glo "MEASURES") rfl)) (List.all_eq_true.mp (He.ba c.more).2 ("MEASURES", ["new", "old", "best", "warm", "torn", "sure"]) (by simp [tups])),
  He.glo_ok KX G (c.t.d.fact 0 (f := .glo "WoodError") rfl),
  let e := He.exc_ok (c.t.d.fact 1 (f := .exc "WoodError") rfl); ⟨e.1, He.glo_ok KX G (c.t.d.fact 0 (f := .glo "WoodError") rfl), e.2.1, e.2.2.1, e.2.2.2⟩,
  He.glo_ok KX G (c.t.d.fact 2 (f := .glo "BadName") rfl),
  let e := He.exc_ok (c.t.d.fact 3 (f := .exc "BadName") rfl); ⟨e.1, He.glo_ok KX G (c.t.d.fact 2 (f := .glo "BadName") rfl), e.2.1, e.2.2.1, e.2.2.2⟩,
  He.exm_ok (c.t.d.fact 76 (f := .exm "BadName" "WoodError" true) rfl),
  He.glo_ok KX G (c.t.d.fact 4 (f := .glo "NoSaying") rfl),
  let e := He.exc_ok (c.t.d.fact 5 (f := .exc "NoSaying") rfl); ⟨e.1, He.glo_ok KX G (c.t.d.fact 4 (f := .glo "NoSaying") rfl), e.2.1, e.2.2.1, e.2.2.2⟩,
  He.exm_ok (c.t.d.fact 78 (f := .exm "NoSaying" "WoodError" true) rfl),
  He.glo_ok KX G (c.t.d.fact 6 (f := .glo "BadText") rfl),
  let e := He.exc_ok (c.t.d.fact 7 (f := .exc "BadText") rfl); ⟨e.1, He.glo_ok KX G (c.t.d.fact 6 (f := .glo "BadText") rfl), e.2.1, e.2.2.1, e.2.2.2⟩,
  He.exm_ok (c.t.d.fact 80 (f := .exm "BadText" "WoodError" true) rfl),
  He.glo_ok KX G (c.t.d.fact 8 (f := .glo "Full") rfl),
  let e := He.exc_ok (c.t.d.fact 9 (f := .exc "Full") rfl); ⟨e.1, He.glo_ok KX G (c.t.d.fact 8 (f := .glo "Full") rfl), e.2.1, e.2.2.1, e.2.2.2⟩,
  He.exm_ok (c.t.d.fact 82 (f := .exm "Full" "WoodError" true) rfl),
  He.glo_ok KX G (c.t.d.fact 10 (f := .glo "NotYours") rfl),
  let e := He.exc_ok (c.t.d.fact 11 (f := .exc "NotYours") rfl); ⟨e.1, He.glo_ok KX G (c.t.d.fact 10 (f := .glo "NotYours") rfl), e.2.1, e.2.2.1, e.2.2.2⟩,
  He.exm_ok (c.t.d.fact 84 (f := .exm "NotYours" "WoodError" true) rfl),
  He.glo_ok KX G (c.t.d.fact 12 (f := .glo "BadNumber") rfl),
  let e := He.exc_ok (c.t.d.fact 13 (f := .exc "BadNumber") rfl); ⟨e.1, He.glo_ok KX G (c.t.d.fact 12 (f := .glo "BadNumber") rfl), e.2.1, e.2.2.1, e.2.2.2⟩,
  He.exm_ok (c.t.d.fact 86 (f := .exm "BadNumber" "WoodError" true) rfl),
  He.glo_ok KX G (c.t.d.fact 14 (f := .glo "BadDeed") rfl),
  let e := He.exc_ok (c.t.d.fact 15 (f := .exc "BadDeed") rfl); ⟨e.1, He.glo_ok KX G (c.t.d.fact 14 (f := .glo "BadDeed") rfl), e.2.1, e.2.2.1, e.2.2.2⟩,
  He.exm_ok (c.t.d.fact 88 (f := .exm "BadDeed" "WoodError" true) rfl),
  He.glo_ok KX G (c.t.d.fact 16 (f := .glo "Nothing") rfl),
  let e := He.exc_ok (c.t.d.fact 17 (f := .exc "Nothing") rfl); ⟨e.1, He.glo_ok KX G (c.t.d.fact 16 (f := .glo "Nothing") rfl), e.2.1, e.2.2.1, e.2.2.2⟩,
  He.exm_ok (c.t.d.fact 90 (f := .exm "Nothing" "WoodError" true) rfl),
  He.glo_ok KX G (c.t.d.fact 18 (f := .glo "NotKin") rfl),
  let e := He.exc_ok (c.t.d.fact 19 (f := .exc "NotKin") rfl); ⟨e.1, He.glo_ok KX G (c.t.d.fact 18 (f := .glo "NotKin") rfl), e.2.1, e.2.2.1, e.2.2.2⟩,
  He.exm_ok (c.t.d.fact 92 (f := .exm "NotKin" "WoodError" true) rfl),
  He.glo_ok KX G (c.t.d.fact 20 (f := .glo "Saying") rfl),
  ⟨He.cls_ok (c.t.d.fact 21 (f := .cls "Saying") rfl), He.noat_ok (c.t.d.fact 22 (f := .noat "Saying" "by") rfl)⟩,
  ⟨He.cls_ok (c.t.d.fact 21 (f := .cls "Saying") rfl), He.noat_ok (c.t.d.fact 23 (f := .noat "Saying" "under") rfl)⟩,
  ⟨He.cls_ok (c.t.d.fact 21 (f := .cls "Saying") rfl), He.noat_ok (c.t.d.fact 24 (f := .noat "Saying" "text") rfl)⟩,
  ⟨He.cls_ok (c.t.d.fact 21 (f := .cls "Saying") rfl), He.noat_ok (c.t.d.fact 25 (f := .noat "Saying" "time") rfl)⟩,
  ⟨He.cls_ok (c.t.d.fact 21 (f := .cls "Saying") rfl), He.noat_ok (c.t.d.fact 26 (f := .noat "Saying" "votes") rfl)⟩,
  ⟨He.cls_ok (c.t.d.fact 21 (f := .cls "Saying") rfl), He.noat_ok (c.t.d.fact 27 (f := .noat "Saying" "is_struck") rfl)⟩,
  He.glo_ok KX G (c.t.d.fact 33 (f := .glo "Wood") rfl),
  ⟨He.cls_ok (c.t.d.fact 34 (f := .cls "Wood") rfl), He.noat_ok (c.t.d.fact 35 (f := .noat "Wood" "sayings") rfl)⟩,
  ⟨He.cls_ok (c.t.d.fact 34 (f := .cls "Wood") rfl), He.noat_ok (c.t.d.fact 36 (f := .noat "Wood" "came") rfl)⟩,
  ⟨He.cls_ok (c.t.d.fact 34 (f := .cls "Wood") rfl), He.noat_ok (c.t.d.fact 37 (f := .noat "Wood" "clock") rfl)⟩,
  He.glo_ok KX G (c.t.d.fact 56 (f := .glo "Reader") rfl),
  ⟨He.cls_ok (c.t.d.fact 57 (f := .cls "Reader") rfl), He.noat_ok (c.t.d.fact 58 (f := .noat "Reader" "wood") rfl)⟩,
  ⟨He.cls_ok (c.t.d.fact 57 (f := .cls "Reader") rfl), He.noat_ok (c.t.d.fact 59 (f := .noat "Reader" "measure") rfl)⟩,
  ⟨He.cls_ok (c.t.d.fact 57 (f := .cls "Reader") rfl), He.noat_ok (c.t.d.fact 60 (f := .noat "Reader" "bound") rfl)⟩,
  ⟨He.cls_ok (c.t.d.fact 57 (f := .cls "Reader") rfl), He.noat_ok (c.t.d.fact 61 (f := .noat "Reader" "folds") rfl)⟩,
  ⟨He.cls_ok (c.t.d.fact 57 (f := .cls "Reader") rfl), He.noat_ok (c.t.d.fact 62 (f := .noat "Reader" "muted") rfl)⟩,
  ⟨let ⟨fd, h⟩ := c.t.d.def_ 0 (d := ⟨("_wall", none), "_wall", "_wall", defArgs s_wall, defBody s_wall, defScope s_wall, [], []⟩) rfl; ⟨fd, h, He.glo_ok KX G (c.t.d.fact 101 (f := .glo "_wall") rfl)⟩⟩,
  ⟨let ⟨fd, h⟩ := c.t.d.def_ 1 (d := ⟨("need_measure", none), "need_measure", "need_measure", defArgs s_need_measure, defBody s_need_measure, defScope s_need_measure, [], []⟩) rfl; ⟨fd, h, He.glo_ok KX G (c.t.d.fact 102 (f := .glo "need_measure") rfl)⟩⟩,
  ⟨let ⟨fd, h⟩ := c.t.d.def_ 2 (d := ⟨("worth", none), "worth", "worth", defArgs s_worth, defBody s_worth, defScope s_worth, [], []⟩) rfl; ⟨fd, h, He.glo_ok KX G (c.t.d.fact 103 (f := .glo "worth") rfl)⟩⟩,
  ⟨let ⟨fd, h⟩ := c.t.d.def_ 3 (d := ⟨("is_ahead", none), "is_ahead", "is_ahead", defArgs s_is_ahead, defBody s_is_ahead, defScope s_is_ahead, [], []⟩) rfl; ⟨fd, h, He.glo_ok KX G (c.t.d.fact 104 (f := .glo "is_ahead") rfl)⟩⟩,
  ⟨let ⟨fd, h⟩ := c.t.d.def_ 4 (d := ⟨("in_order", none), "in_order", "in_order", defArgs s_in_order, defBody s_in_order, defScope s_in_order, [], []⟩) rfl; ⟨fd, h, He.glo_ok KX G (c.t.d.fact 105 (f := .glo "in_order") rfl)⟩⟩,
  ⟨let ⟨fd, h⟩ := c.t.d.def_ 5 (d := ⟨("ordered", none), "ordered", "ordered", defArgs s_ordered, defBody s_ordered, defScope s_ordered, [], []⟩) rfl; ⟨fd, h, He.glo_ok KX G (c.t.d.fact 106 (f := .glo "ordered") rfl)⟩⟩,
  ⟨let ⟨fd, h⟩ := c.t.d.def_ 6 (d := ⟨("is_count", none), "is_count", "is_count", defArgs s_is_count, defBody s_is_count, defScope s_is_count, [], []⟩) rfl; ⟨fd, h, He.glo_ok KX G (c.t.d.fact 107 (f := .glo "is_count") rfl)⟩⟩,
  ⟨let ⟨fd, h⟩ := c.t.d.def_ 7 (d := ⟨("need_name", none), "need_name", "need_name", defArgs s_need_name, defBody s_need_name, defScope s_need_name, [], []⟩) rfl; ⟨fd, h, He.glo_ok KX G (c.t.d.fact 108 (f := .glo "need_name") rfl)⟩⟩,
  ⟨let ⟨fd, h⟩ := c.t.d.def_ 8 (d := ⟨("need_text", none), "need_text", "need_text", defArgs s_need_text, defBody s_need_text, defScope s_need_text, [], []⟩) rfl; ⟨fd, h, He.glo_ok KX G (c.t.d.fact 109 (f := .glo "need_text") rfl)⟩⟩,
  ⟨let ⟨fd, h⟩ := c.t.d.def_ 9 (d := ⟨("Saying", some "__init__"), "__init__", "Saying.__init__", defArgs s_Saying_init, defBody s_Saying_init, defScope s_Saying_init, [], []⟩) rfl; ⟨fd, h, He.glo_ok KX G (c.t.d.fact 20 (f := .glo "Saying") rfl), He.mkr_ok (c.t.d.fact 32 (f := .mkr "Saying") rfl)⟩⟩,
  ⟨let ⟨fd, h⟩ := c.t.d.def_ 10 (d := ⟨("Saying", some "ups"), "ups", "Saying.ups", defArgs s_Saying_ups, defBody s_Saying_ups, defScope s_Saying_ups, [], []⟩) rfl; ⟨fd, h, He.meth_ok (c.t.d.fact 29 (f := .meth "Saying" "ups") rfl)⟩, He.cls_ok (c.t.d.fact 21 (f := .cls "Saying") rfl)⟩,
  ⟨let ⟨fd, h⟩ := c.t.d.def_ 11 (d := ⟨("Saying", some "downs"), "downs", "Saying.downs", defArgs s_Saying_downs, defBody s_Saying_downs, defScope s_Saying_downs, [], []⟩) rfl; ⟨fd, h, He.meth_ok (c.t.d.fact 30 (f := .meth "Saying" "downs") rfl)⟩, He.cls_ok (c.t.d.fact 21 (f := .cls "Saying") rfl)⟩,
  ⟨let ⟨fd, h⟩ := c.t.d.def_ 12 (d := ⟨("Saying", some "points"), "points", "Saying.points", defArgs s_Saying_points, defBody s_Saying_points, defScope s_Saying_points, [], []⟩) rfl; ⟨fd, h, He.meth_ok (c.t.d.fact 31 (f := .meth "Saying" "points") rfl)⟩, He.cls_ok (c.t.d.fact 21 (f := .cls "Saying") rfl)⟩,
  ⟨let ⟨fd, h⟩ := c.t.d.def_ 13 (d := ⟨("Wood", some "__init__"), "__init__", "Wood.__init__", defArgs s_Wood_init, defBody s_Wood_init, defScope s_Wood_init, [], []⟩) rfl; ⟨fd, h, He.glo_ok KX G (c.t.d.fact 33 (f := .glo "Wood") rfl), He.mkr_ok (c.t.d.fact 55 (f := .mkr "Wood") rfl)⟩⟩,
  ⟨let ⟨fd, h⟩ := c.t.d.def_ 14 (d := ⟨("Wood", some "now"), "now", "Wood.now", defArgs s_Wood_now, defBody s_Wood_now, defScope s_Wood_now, [], []⟩) rfl; ⟨fd, h, He.meth_ok (c.t.d.fact 39 (f := .meth "Wood" "now") rfl)⟩, He.cls_ok (c.t.d.fact 34 (f := .cls "Wood") rfl)⟩,
  ⟨let ⟨fd, h⟩ := c.t.d.def_ 15 (d := ⟨("Wood", some "tick"), "tick", "Wood.tick", defArgs s_Wood_tick, defBody s_Wood_tick, defScope s_Wood_tick, [], []⟩) rfl; ⟨fd, h, He.meth_ok (c.t.d.fact 40 (f := .meth "Wood" "tick") rfl)⟩, He.cls_ok (c.t.d.fact 34 (f := .cls "Wood") rfl)⟩,
  ⟨let ⟨fd, h⟩ := c.t.d.def_ 16 (d := ⟨("Wood", some "saying"), "saying", "Wood.saying", defArgs s_Wood_saying, defBody s_Wood_saying, defScope s_Wood_saying, [], []⟩) rfl; ⟨fd, h, He.meth_ok (c.t.d.fact 41 (f := .meth "Wood" "saying") rfl)⟩, He.cls_ok (c.t.d.fact 34 (f := .cls "Wood") rfl)⟩,
  ⟨let ⟨fd, h⟩ := c.t.d.def_ 17 (d := ⟨("Wood", some "numbers"), "numbers", "Wood.numbers", defArgs s_Wood_numbers, defBody s_Wood_numbers, defScope s_Wood_numbers, [], []⟩) rfl; ⟨fd, h, He.meth_ok (c.t.d.fact 42 (f := .meth "Wood" "numbers") rfl)⟩, He.cls_ok (c.t.d.fact 34 (f := .cls "Wood") rfl)⟩,
  ⟨let ⟨fd, h⟩ := c.t.d.def_ 18 (d := ⟨("Wood", some "deep"), "deep", "Wood.deep", defArgs s_Wood_deep, defBody s_Wood_deep, defScope s_Wood_deep, [], []⟩) rfl; ⟨fd, h, He.meth_ok (c.t.d.fact 43 (f := .meth "Wood" "deep") rfl)⟩, He.cls_ok (c.t.d.fact 34 (f := .cls "Wood") rfl)⟩,
  ⟨let ⟨fd, h⟩ := c.t.d.def_ 19 (d := ⟨("Wood", some "say"), "say", "Wood.say", defArgs s_Wood_say, defBody s_Wood_say, defScope s_Wood_say, [], []⟩) rfl; ⟨fd, h, He.meth_ok (c.t.d.fact 44 (f := .meth "Wood" "say") rfl)⟩, He.cls_ok (c.t.d.fact 34 (f := .cls "Wood") rfl)⟩,
  ⟨let ⟨fd, h⟩ := c.t.d.def_ 20 (d := ⟨("Wood", some "look"), "look", "Wood.look", defArgs s_Wood_look, defBody s_Wood_look, defScope s_Wood_look, [], []⟩) rfl; ⟨fd, h, He.meth_ok (c.t.d.fact 45 (f := .meth "Wood" "look") rfl)⟩, He.cls_ok (c.t.d.fact 34 (f := .cls "Wood") rfl)⟩,
  ⟨let ⟨fd, h⟩ := c.t.d.def_ 21 (d := ⟨("Wood", some "own"), "own", "Wood.own", defArgs s_Wood_own, defBody s_Wood_own, defScope s_Wood_own, [], []⟩) rfl; ⟨fd, h, He.meth_ok (c.t.d.fact 46 (f := .meth "Wood" "own") rfl)⟩, He.cls_ok (c.t.d.fact 34 (f := .cls "Wood") rfl)⟩,
  ⟨let ⟨fd, h⟩ := c.t.d.def_ 22 (d := ⟨("Wood", some "change"), "change", "Wood.change", defArgs s_Wood_change, defBody s_Wood_change, defScope s_Wood_change, [], []⟩) rfl; ⟨fd, h, He.meth_ok (c.t.d.fact 47 (f := .meth "Wood" "change") rfl)⟩, He.cls_ok (c.t.d.fact 34 (f := .cls "Wood") rfl)⟩,
  ⟨let ⟨fd, h⟩ := c.t.d.def_ 23 (d := ⟨("Wood", some "replies"), "replies", "Wood.replies", defArgs s_Wood_replies, defBody s_Wood_replies, defScope s_Wood_replies, [], []⟩) rfl; ⟨fd, h, He.meth_ok (c.t.d.fact 48 (f := .meth "Wood" "replies") rfl)⟩, He.cls_ok (c.t.d.fact 34 (f := .cls "Wood") rfl)⟩,
  ⟨let ⟨fd, h⟩ := c.t.d.def_ 24 (d := ⟨("Wood", some "strike"), "strike", "Wood.strike", defArgs s_Wood_strike, defBody s_Wood_strike, defScope s_Wood_strike, [], []⟩) rfl; ⟨fd, h, He.meth_ok (c.t.d.fact 49 (f := .meth "Wood" "strike") rfl)⟩, He.cls_ok (c.t.d.fact 34 (f := .cls "Wood") rfl)⟩,
  ⟨let ⟨fd, h⟩ := c.t.d.def_ 25 (d := ⟨("Wood", some "vote"), "vote", "Wood.vote", defArgs s_Wood_vote, defBody s_Wood_vote, defScope s_Wood_vote, [], []⟩) rfl; ⟨fd, h, He.meth_ok (c.t.d.fact 50 (f := .meth "Wood" "vote") rfl)⟩, He.cls_ok (c.t.d.fact 34 (f := .cls "Wood") rfl)⟩,
  ⟨let ⟨fd, h⟩ := c.t.d.def_ 26 (d := ⟨("Wood", some "votes_of"), "votes_of", "Wood.votes_of", defArgs s_Wood_votes_of, defBody s_Wood_votes_of, defScope s_Wood_votes_of, [], []⟩) rfl; ⟨fd, h, He.meth_ok (c.t.d.fact 51 (f := .meth "Wood" "votes_of") rfl)⟩, He.cls_ok (c.t.d.fact 34 (f := .cls "Wood") rfl)⟩,
  ⟨let ⟨fd, h⟩ := c.t.d.def_ 27 (d := ⟨("Wood", some "below"), "below", "Wood.below", defArgs s_Wood_below, defBody s_Wood_below, defScope s_Wood_below, [], []⟩) rfl; ⟨fd, h, He.meth_ok (c.t.d.fact 52 (f := .meth "Wood" "below") rfl)⟩, He.cls_ok (c.t.d.fact 34 (f := .cls "Wood") rfl)⟩,
  ⟨let ⟨fd, h⟩ := c.t.d.def_ 28 (d := ⟨("Wood", some "many"), "many", "Wood.many", defArgs s_Wood_many, defBody s_Wood_many, defScope s_Wood_many, [], []⟩) rfl; ⟨fd, h, He.meth_ok (c.t.d.fact 53 (f := .meth "Wood" "many") rfl)⟩, He.cls_ok (c.t.d.fact 34 (f := .cls "Wood") rfl)⟩,
  ⟨let ⟨fd, h⟩ := c.t.d.def_ 29 (d := ⟨("Wood", some "standing"), "standing", "Wood.standing", defArgs s_Wood_standing, defBody s_Wood_standing, defScope s_Wood_standing, [], []⟩) rfl; ⟨fd, h, He.meth_ok (c.t.d.fact 54 (f := .meth "Wood" "standing") rfl)⟩, He.cls_ok (c.t.d.fact 34 (f := .cls "Wood") rfl)⟩,
  ⟨let ⟨fd, h⟩ := c.t.d.def_ 30 (d := ⟨("Reader", some "__init__"), "__init__", "Reader.__init__", defArgs s_Reader_init, defBody s_Reader_init, defScope s_Reader_init, [], []⟩) rfl; ⟨fd, h, He.glo_ok KX G (c.t.d.fact 56 (f := .glo "Reader") rfl), He.mkr_ok (c.t.d.fact 73 (f := .mkr "Reader") rfl)⟩⟩,
  ⟨let ⟨fd, h⟩ := c.t.d.def_ 31 (d := ⟨("Reader", some "fold"), "fold", "Reader.fold", defArgs s_Reader_fold, defBody s_Reader_fold, defScope s_Reader_fold, [], []⟩) rfl; ⟨fd, h, He.meth_ok (c.t.d.fact 64 (f := .meth "Reader" "fold") rfl)⟩, He.cls_ok (c.t.d.fact 57 (f := .cls "Reader") rfl)⟩,
  ⟨let ⟨fd, h⟩ := c.t.d.def_ 32 (d := ⟨("Reader", some "open_up"), "open_up", "Reader.open_up", defArgs s_Reader_open_up, defBody s_Reader_open_up, defScope s_Reader_open_up, [], []⟩) rfl; ⟨fd, h, He.meth_ok (c.t.d.fact 65 (f := .meth "Reader" "open_up") rfl)⟩, He.cls_ok (c.t.d.fact 57 (f := .cls "Reader") rfl)⟩,
  ⟨let ⟨fd, h⟩ := c.t.d.def_ 33 (d := ⟨("Reader", some "mute"), "mute", "Reader.mute", defArgs s_Reader_mute, defBody s_Reader_mute, defScope s_Reader_mute, [], []⟩) rfl; ⟨fd, h, He.meth_ok (c.t.d.fact 66 (f := .meth "Reader" "mute") rfl)⟩, He.cls_ok (c.t.d.fact 57 (f := .cls "Reader") rfl)⟩,
  ⟨let ⟨fd, h⟩ := c.t.d.def_ 34 (d := ⟨("Reader", some "hear"), "hear", "Reader.hear", defArgs s_Reader_hear, defBody s_Reader_hear, defScope s_Reader_hear, [], []⟩) rfl; ⟨fd, h, He.meth_ok (c.t.d.fact 67 (f := .meth "Reader" "hear") rfl)⟩, He.cls_ok (c.t.d.fact 57 (f := .cls "Reader") rfl)⟩,
  ⟨let ⟨fd, h⟩ := c.t.d.def_ 35 (d := ⟨("Reader", some "is_folded"), "is_folded", "Reader.is_folded", defArgs s_Reader_is_folded, defBody s_Reader_is_folded, defScope s_Reader_is_folded, [], []⟩) rfl; ⟨fd, h, He.meth_ok (c.t.d.fact 68 (f := .meth "Reader" "is_folded") rfl)⟩, He.cls_ok (c.t.d.fact 57 (f := .cls "Reader") rfl)⟩,
  ⟨let ⟨fd, h⟩ := c.t.d.def_ 36 (d := ⟨("Reader", some "kind"), "kind", "Reader.kind", defArgs s_Reader_kind, defBody s_Reader_kind, defScope s_Reader_kind, [], []⟩) rfl; ⟨fd, h, He.meth_ok (c.t.d.fact 69 (f := .meth "Reader" "kind") rfl)⟩, He.cls_ok (c.t.d.fact 57 (f := .cls "Reader") rfl)⟩,
  ⟨let ⟨fd, h⟩ := c.t.d.def_ 37 (d := ⟨("Reader", some "rows_under"), "rows_under", "Reader.rows_under", defArgs s_Reader_rows_under, defBody s_Reader_rows_under, defScope s_Reader_rows_under, [], []⟩) rfl; ⟨fd, h, He.meth_ok (c.t.d.fact 70 (f := .meth "Reader" "rows_under") rfl)⟩, He.cls_ok (c.t.d.fact 57 (f := .cls "Reader") rfl)⟩,
  ⟨let ⟨fd, h⟩ := c.t.d.def_ 38 (d := ⟨("Reader", some "rows_of"), "rows_of", "Reader.rows_of", defArgs s_Reader_rows_of, defBody s_Reader_rows_of, defScope s_Reader_rows_of, [], []⟩) rfl; ⟨fd, h, He.meth_ok (c.t.d.fact 71 (f := .meth "Reader" "rows_of") rfl)⟩, He.cls_ok (c.t.d.fact 57 (f := .cls "Reader") rfl)⟩,
  ⟨let ⟨fd, h⟩ := c.t.d.def_ 39 (d := ⟨("Reader", some "rows"), "rows", "Reader.rows", defArgs s_Reader_rows, defBody s_Reader_rows, defScope s_Reader_rows, [], []⟩) rfl; ⟨fd, h, He.meth_ok (c.t.d.fact 72 (f := .meth "Reader" "rows") rfl)⟩, He.cls_ok (c.t.d.fact 57 (f := .cls "Reader") rfl)⟩,
  ⟨let ⟨fd, h⟩ := c.t.d.def_ 40 (d := ⟨("votes_written", none), "votes_written", "votes_written", defArgs s_votes_written, defBody s_votes_written, defScope s_votes_written, [], []⟩) rfl; ⟨fd, h, He.glo_ok KX G (c.t.d.fact 110 (f := .glo "votes_written") rfl)⟩⟩,
  ⟨let ⟨fd, h⟩ := c.t.d.def_ 41 (d := ⟨("written", none), "written", "written", defArgs s_written, defBody s_written, defScope s_written, [], []⟩) rfl; ⟨fd, h, He.glo_ok KX G (c.t.d.fact 111 (f := .glo "written") rfl)⟩⟩,
  ⟨let ⟨fd, h⟩ := c.t.d.def_ 42 (d := ⟨("_law_cell", none), "_law_cell", "_law_cell", defArgs s_l_cell, defBody s_l_cell, defScope s_l_cell, [], []⟩) rfl; ⟨fd, h, He.glo_ok KX G (c.t.d.fact 112 (f := .glo "_law_cell") rfl)⟩⟩,
  ⟨let ⟨fd, h⟩ := c.t.d.def_ 43 (d := ⟨("_law_drawn", none), "_law_drawn", "_law_drawn", defArgs s_l_drawn, defBody s_l_drawn, defScope s_l_drawn, [], []⟩) rfl; ⟨fd, h, He.glo_ok KX G (c.t.d.fact 113 (f := .glo "_law_drawn") rfl)⟩⟩,
  ⟨let ⟨fd, h⟩ := c.t.d.def_ 44 (d := ⟨("_law_word", none), "_law_word", "_law_word", defArgs s_l_word, defBody s_l_word, defScope s_l_word, [], []⟩) rfl; ⟨fd, h, He.glo_ok KX G (c.t.d.fact 114 (f := .glo "_law_word") rfl)⟩⟩,
  ⟨let ⟨fd, h⟩ := c.t.d.def_ 45 (d := ⟨("_law_told", none), "_law_told", "_law_told", defArgs s_l_told, defBody s_l_told, defScope s_l_told, [], []⟩) rfl; ⟨fd, h, He.glo_ok KX G (c.t.d.fact 115 (f := .glo "_law_told") rfl)⟩⟩,
  ⟨let ⟨fd, h⟩ := c.t.d.def_ 46 (d := ⟨("_law_any_name", none), "_law_any_name", "_law_any_name", defArgs s_l_any_name, defBody s_l_any_name, defScope s_l_any_name, [], []⟩) rfl; ⟨fd, h, He.glo_ok KX G (c.t.d.fact 116 (f := .glo "_law_any_name") rfl)⟩⟩,
  ⟨let ⟨fd, h⟩ := c.t.d.def_ 47 (d := ⟨("_law_any_text", none), "_law_any_text", "_law_any_text", defArgs s_l_any_text, defBody s_l_any_text, defScope s_l_any_text, [], []⟩) rfl; ⟨fd, h, He.glo_ok KX G (c.t.d.fact 117 (f := .glo "_law_any_text") rfl)⟩⟩,
  ⟨let ⟨fd, h⟩ := c.t.d.def_ 48 (d := ⟨("_law_own", none), "_law_own", "_law_own", defArgs s_l_own, defBody s_l_own, defScope s_l_own, [], []⟩) rfl; ⟨fd, h, He.glo_ok KX G (c.t.d.fact 118 (f := .glo "_law_own") rfl)⟩⟩,
  ⟨let ⟨fd, h⟩ := c.t.d.def_ 49 (d := ⟨("_law_beneath", none), "_law_beneath", "_law_beneath", defArgs s_l_beneath, defBody s_l_beneath, defScope s_l_beneath, [], []⟩) rfl; ⟨fd, h, He.glo_ok KX G (c.t.d.fact 119 (f := .glo "_law_beneath") rfl)⟩⟩,
  ⟨let ⟨fd, h⟩ := c.t.d.def_ 50 (d := ⟨("_law_above", none), "_law_above", "_law_above", defArgs s_l_above, defBody s_l_above, defScope s_l_above, [], []⟩) rfl; ⟨fd, h, He.glo_ok KX G (c.t.d.fact 120 (f := .glo "_law_above") rfl)⟩⟩,
  ⟨let ⟨fd, h⟩ := c.t.d.def_ 51 (d := ⟨("_law_points", none), "_law_points", "_law_points", defArgs s_l_points, defBody s_l_points, defScope s_l_points, [], []⟩) rfl; ⟨fd, h, He.glo_ok KX G (c.t.d.fact 121 (f := .glo "_law_points") rfl)⟩⟩,
  ⟨let ⟨fd, h⟩ := c.t.d.def_ 52 (d := ⟨("_law_say", none), "_law_say", "_law_say", defArgs s_l_say, defBody s_l_say, defScope s_l_say, [], []⟩) rfl; ⟨fd, h, He.glo_ok KX G (c.t.d.fact 122 (f := .glo "_law_say") rfl)⟩⟩,
  ⟨let ⟨fd, h⟩ := c.t.d.def_ 53 (d := ⟨("_law_strike", none), "_law_strike", "_law_strike", defArgs s_l_strike, defBody s_l_strike, defScope s_l_strike, [], []⟩) rfl; ⟨fd, h, He.glo_ok KX G (c.t.d.fact 123 (f := .glo "_law_strike") rfl)⟩⟩,
  ⟨let ⟨fd, h⟩ := c.t.d.def_ 54 (d := ⟨("_law_act", none), "_law_act", "_law_act", defArgs s_l_act, defBody s_l_act, defScope s_l_act, [], []⟩) rfl; ⟨fd, h, He.glo_ok KX G (c.t.d.fact 124 (f := .glo "_law_act") rfl)⟩⟩,
  ⟨let ⟨fd, h⟩ := c.t.d.def_ 55 (d := ⟨("_law_do", none), "_law_do", "_law_do", defArgs s_l_do, defBody s_l_do, defScope s_l_do, [], []⟩) rfl; ⟨fd, h, He.glo_ok KX G (c.t.d.fact 125 (f := .glo "_law_do") rfl)⟩⟩,
  ⟨let ⟨fd, h⟩ := c.t.d.def_ 56 (d := ⟨("_law_deed", none), "_law_deed", "_law_deed", defArgs s_l_deed, defBody s_l_deed, defScope s_l_deed, [], []⟩) rfl; ⟨fd, h, He.glo_ok KX G (c.t.d.fact 126 (f := .glo "_law_deed") rfl)⟩⟩,
  ⟨let ⟨fd, h⟩ := c.t.d.def_ 57 (d := ⟨("_law_grown", none), "_law_grown", "_law_grown", defArgs s_l_grown, defBody s_l_grown, defScope s_l_grown, [], []⟩) rfl; ⟨fd, h, He.glo_ok KX G (c.t.d.fact 127 (f := .glo "_law_grown") rfl)⟩⟩,
  ⟨let ⟨fd, h⟩ := c.t.d.def_ 58 (d := ⟨("_law_rows_right", none), "_law_rows_right", "_law_rows_right", defArgs s_l_rows_right, defBody s_l_rows_right, defScope s_l_rows_right, [], []⟩) rfl; ⟨fd, h, He.glo_ok KX G (c.t.d.fact 128 (f := .glo "_law_rows_right") rfl)⟩⟩,
  ⟨let ⟨fd, h⟩ := c.t.d.def_ 59 (d := ⟨("law", none), "law", "law", defArgs s_law, defBody s_law, defScope s_law, [], []⟩) rfl; ⟨fd, h, He.glo_ok KX G (c.t.d.fact 129 (f := .glo "law") rfl)⟩⟩,
  DL.exBof_ok (He.ba c.more).1⟩
end Vw

set_option Elab.async false
set_option linter.all false
set_option maxRecDepth 100000
set_option maxHeartbeats 2000000
set_option autoImplicit false
/-! WM: woods as plain data. -/
namespace DL
open PySem PySem.Spec L2
/-- a block cut behind its first statement: mid is what holds there -/
def wCut (w1 w2 : TW) : TW := fun dn env g => ∃ mid : Env' → G → Prop, w1 { dn with nx := mid } env g ∧ ∀ env g, mid env g → w2 dn env g
theorem pxs_cut {X : Cx} {T : List (Addr × Str)} {EX : XK} {st : Stmt} {sts : List Stmt} {w1 w2 : TW} (h1 : PX X T EX st w1) (h2 : PXs X T EX sts w2) : PXs X T EX (st :: sts) (wCut w1 w2) := by
  refine ⟨fun {g0 S0 H0 σ H g S env D dn} h e n l => semB_of (pss_cons ps_sem pss_sem) ?_⟩
  obtain ⟨mid, ha, hb⟩ := h
  exact h1.run (D := { D with nx := TSemB X sts D }) ha e n ⟨fun env g S σ H q e n => h2.run (hb env g q) e n l, l.bk, l.ct, l.rt, l.ex⟩
structure Say where
  by_ : Str
  under : Int
  text : Str
  time : Int
  votes : List (Str × Int)
  struck : Bool
structure Wd where
  rows : List (Int × Say)
  came : Int
  clock : Int
  /-- how many votes were cast -/
  age : Nat
namespace Wd
def keys (W : Wd) : List Int := W.rows.map (·.1)
def find (W : Wd) (n : Int) : Option Say := W.rows.lookup n
/-- the saying at n is now S -/
def put (W : Wd) (n : Int) (S : Say) : Wd := { W with rows := W.rows.map fun p => if p.1 = n then (p.1, S) else p }
def drop (W : Wd) (n : Int) : Wd := { W with rows := W.rows.filter fun p => decide (p.1 ≠ n) }
def add (W : Wd) (n : Int) (S : Say) : Wd := { W with rows := W.rows ++ [(n, S)], came := n }
/-- what stands above n, up to 0 -/
def aboveF (W : Wd) : Nat → Int → List Int
  | 0, _ => []
  | k + 1, n => if n = 0 then [] else match W.find n with
    | none => []
    | some S => S.under :: aboveF W k S.under
def above (W : Wd) (n : Int) : List Int := aboveF W n.toNat n
/-- what stands right under n -/
def replies (W : Wd) (n : Int) : List Int := W.keys.filter fun m => match W.find m with
  | some S => decide (S.under = n)
  | none => false
/-- what stands under n at any depth -/
def below (W : Wd) (n : Int) : List Int := W.keys.filter fun m => decide (n ∈ W.above m)
end Wd
/-- the order of a wood -/
structure WF (W : Wd) : Prop where
  srt : W.keys.Pairwise (· < ·)
  pos : ∀ n ∈ W.keys, 1 ≤ n ∧ n ≤ W.came
  und : ∀ n S, (n, S) ∈ W.rows → S.under = 0 ∨ (S.under ∈ W.keys ∧ S.under < n)
  len : W.rows.length ≤ 60
  dep : ∀ n ∈ W.keys, (W.above n).length ≤ 8
  vnd : ∀ n S, (n, S) ∈ W.rows → (S.votes.map (·.1)).Nodup
  vwy : ∀ n S, (n, S) ∈ W.rows → ∀ p ∈ S.votes, p.2 = 1 ∨ p.2 = -1
  vln : ∀ n S, (n, S) ∈ W.rows → S.votes.length ≤ W.age
  nam : ∀ n S, (n, S) ∈ W.rows → S.by_.length ≤ 6
  txt : ∀ n S, (n, S) ∈ W.rows → S.text.length ≤ 30
  cam : 0 ≤ W.came
/-! lookups -/
theorem lookup_of_mem {α : Type} : ∀ {l : List (Int × α)} {n : Int} {x : α}, (l.map (·.1)).Nodup → (n, x) ∈ l → l.lookup n = some x
  | (m, y) :: l, n, x, nd, h => by
    rw [List.map_cons, List.nodup_cons] at nd
    rcases List.mem_cons.mp h with e | h'
    · cases e; simp [List.lookup_cons]
    · have ne : (n == m) = false := by
        simp only [beq_eq_false_iff_ne]
        intro e
        exact nd.1 (show m ∈ l.map (·.1) from List.mem_map.mpr ⟨(n, x), h', e⟩)
      rw [List.lookup_cons, ne]
      exact lookup_of_mem nd.2 h'
theorem mem_of_lookupI {α : Type} : ∀ {l : List (Int × α)} {n : Int} {x : α}, l.lookup n = some x → (n, x) ∈ l
  | [], _, _, h => by cases h
  | (m, y) :: l, n, x, h => by
    rw [List.lookup_cons] at h
    cases q : n == m with
    | true =>
      rw [q] at h; cases h
      have : n = m := by simpa using q
      subst this; exact List.mem_cons_self
    | false => rw [q] at h; exact List.mem_cons_of_mem _ (mem_of_lookupI h)
theorem nodup_of_lt : ∀ {l : List Int}, l.Pairwise (· < ·) → l.Nodup := fun h => h.imp fun h e => by omega
namespace WF
variable {W : Wd}
theorem nd (h : WF W) : W.keys.Nodup := nodup_of_lt h.srt
theorem find_mem (h : WF W) {n : Int} {S : Say} (m : (n, S) ∈ W.rows) : W.find n = some S := lookup_of_mem h.nd m
theorem mem_find {n : Int} {S : Say} (e : W.find n = some S) : (n, S) ∈ W.rows := mem_of_lookupI e
theorem key_find (h : WF W) {n : Int} (m : n ∈ W.keys) : ∃ S, W.find n = some S := by
  obtain ⟨⟨k, S⟩, hp, rfl⟩ := List.mem_map.mp m
  exact ⟨S, h.find_mem hp⟩
theorem find_key {n : Int} {S : Say} (e : W.find n = some S) : n ∈ W.keys := List.mem_map.mpr ⟨_, mem_find e, rfl⟩
theorem find_none (h : WF W) {n : Int} : W.find n = none ↔ n ∉ W.keys := by
  constructor
  · intro e m
    obtain ⟨S, q⟩ := h.key_find m
    rw [e] at q; cases q
  · intro m
    cases e : W.find n with
    | none => rfl
    | some S => exact absurd (find_key e) m
theorem nz (h : WF W) {n : Int} (m : n ∈ W.keys) : n ≠ 0 := by have := h.pos n m; omega
/-- more fuel is no more -/
theorem aboveF_eq (h : WF W) : ∀ (k j : Nat) (n : Int), n.toNat ≤ k → n.toNat ≤ j → (n = 0 ∨ n ∈ W.keys) → W.aboveF k n = W.aboveF j n
  | 0, 0, _, _, _, _ => rfl
  | 0, j + 1, n, h1, h2, hn => by
    rcases hn with rfl | hn
    · simp [Wd.aboveF]
    · have := h.pos n hn; omega
  | k + 1, 0, n, h1, h2, hn => by
    rcases hn with rfl | hn
    · simp [Wd.aboveF]
    · have := h.pos n hn; omega
  | k + 1, j + 1, n, h1, h2, hn => by
    unfold Wd.aboveF
    split
    · rfl
    · cases e : W.find n with
      | none => rfl
      | some S =>
        have hu := h.und n S (mem_find e)
        have h3 := h.pos n (find_key e)
        have : W.aboveF k S.under = W.aboveF j S.under := by
          rcases hu with hu | ⟨hu, hlt⟩
          · rw [hu]
            cases k <;> cases j <;> simp [Wd.aboveF]
          · have h4 := h.pos _ hu
            exact aboveF_eq h k j S.under (by omega) (by omega) (.inr hu)
        simp only [this]
theorem above_zero (h : WF W) : W.above 0 = [] := by simp [Wd.above, Wd.aboveF]
theorem above_step (h : WF W) {n : Int} {S : Say} (e : W.find n = some S) : W.above n = S.under :: W.above S.under := by
  have h3 := h.pos n (find_key e)
  have hu := h.und n S (mem_find e)
  unfold Wd.above
  obtain ⟨k, hk⟩ : ∃ k, n.toNat = k + 1 := ⟨n.toNat - 1, by omega⟩
  rw [hk]
  show (if n = 0 then [] else match W.find n with | none => [] | some S => S.under :: W.aboveF k S.under) = _
  rw [if_neg (by omega), e]
  show S.under :: W.aboveF k S.under = _
  rcases hu with hu | ⟨hu, hlt⟩
  · rw [hu]
    cases k <;> simp [Wd.aboveF]
  · have h4 := h.pos _ hu
    rw [h.aboveF_eq k S.under.toNat S.under (by omega) (by omega) (.inr hu)]
theorem sorted_keys (h : WF W) : isort W.keys = W.keys := isort_self (h.srt.imp fun h => by omega)
theorem srt_filter (h : WF W) (p : Int → Bool) : (W.keys.filter p).Pairwise (· < ·) := h.srt.sublist List.filter_sublist
theorem isort_filter (h : WF W) (p : Int → Bool) : isort (W.keys.filter p) = W.keys.filter p := isort_self ((h.srt_filter p).imp fun h => by omega)
end WF
/-! ### a wood among the objects -/
inductive Lc where
  | w | d
  | s (n : Int) | v (n : Int)
structure Wa where
  w : Addr
  d : Addr
  s : Int → Addr
  v : Int → Addr
def Wa.at (A : Wa) : Lc → Addr
  | .w => A.w
  | .d => A.d
  | .s n => A.s n
  | .v n => A.v n
def Wd.ok (W : Wd) : Lc → Prop
  | .w => True
  | .d => True
  | .s n => n ∈ W.keys
  | .v n => n ∈ W.keys
def sayFs (S : Say) (v : Addr) : List (Str × D) := [("by", .str S.by_), ("under", .int S.under), ("text", .str S.text), ("time", .int S.time), ("votes", .ref v), ("is_struck", .bl S.struck)]
def voteKvs (S : Say) : List (Key × D) := S.votes.map fun p => (.inr p.1, .int p.2)
def rowKvs (A : Wa) (W : Wd) : List (Key × D) := W.rows.map fun p => (.inl p.1, .ref (A.s p.1))
def noSay : Say := ⟨"", 0, "", 0, [], false⟩
def Wd.obj (K : PySem.W.Frag) (A : Wa) (W : Wd) : Lc → MO
  | .w => .ins (He.ga K "Wood") [("sayings", .ref A.d), ("came", .int W.came), ("clock", .int W.clock)]
  | .d => .dct (rowKvs A W)
  | .s n => .ins (He.ga K "Saying") (sayFs ((W.find n).getD noSay) (A.v n))
  | .v n => .dct (voteKvs ((W.find n).getD noSay))
structure WoodIn (K : PySem.W.Frag) (g : G) (A : Wa) (W : Wd) : Prop where
  ob : ∀ l, W.ok l → g.get (A.at l) = some (W.obj K A l)
  ij : ∀ l l', W.ok l → W.ok l' → A.at l = A.at l' → l = l'
/-- the addresses of a wood -/
def Wd.foot (W : Wd) (A : Wa) (a : Addr) : Prop := ∃ l, W.ok l ∧ A.at l = a
/-- nothing is locked -/
structure NL (g : G) : Prop where
  lk : ∀ a, g.lk a = false
  tl : ∀ a, g.tl a = false
/-- what lies outside F stays, what F' has beyond F is new -/
structure Frm (g g' : G) (F F' : Addr → Prop) : Prop where
  out : ∀ a, g.get a ≠ none → ¬ F a → g'.get a = g.get a
  new : ∀ a, F' a → F a ∨ g.get a = none
  old : ∀ a, g.get a ≠ none → g'.get a ≠ none
  lk : g'.lk = g.lk
  tl : g'.tl = g.tl
theorem Frm.refl {g : G} {F : Addr → Prop} : Frm g g F F := ⟨fun _ _ _ => rfl, fun _ h => .inl h, fun _ h => h, rfl, rfl⟩
theorem Frm.trans {g g1 g2 : G} {F F1 F2 : Addr → Prop} (a : Frm g g1 F F1) (b : Frm g1 g2 F1 F2) : Frm g g2 F F2 := by
  refine ⟨fun x h n => ?_, fun x h => ?_, fun x h => b.old x (a.old x h), b.lk.trans a.lk, b.tl.trans a.tl⟩
  · have n1 : ¬ F1 x := fun z => (a.new x z).elim n h
    rw [b.out x (a.old x h) n1, a.out x h n]
  · rcases b.new x h with z | z
    · exact a.new x z
    · refine .inr ?_
      cases q : g.get x with
      | none => rfl
      | some o => exact absurd z (a.old x (by rw [q]; simp))
theorem NL.frm {g g' : G} {F F' : Addr → Prop} (n : NL g) (f : Frm g g' F F') : NL g' := ⟨fun a => by rw [f.lk]; exact n.lk a, fun a => by rw [f.tl]; exact n.tl a⟩
namespace WoodIn
variable {K : PySem.W.Frag} {g : G} {A : Wa} {W : Wd}
theorem hw (h : WoodIn K g A W) : g.get A.w = some (.ins (He.ga K "Wood") [("sayings", .ref A.d), ("came", .int W.came), ("clock", .int W.clock)]) := h.ob .w trivial
theorem hd (h : WoodIn K g A W) : g.get A.d = some (.dct (rowKvs A W)) := h.ob .d trivial
theorem hs (h : WoodIn K g A W) {n : Int} {S : Say} (e : W.find n = some S) : g.get (A.s n) = some (.ins (He.ga K "Saying") (sayFs S (A.v n))) := by
  have := h.ob (.s n) (WF.find_key e)
  simpa [Wd.obj, Wa.at, e] using this
theorem hv (h : WoodIn K g A W) {n : Int} {S : Say} (e : W.find n = some S) : g.get (A.v n) = some (.dct (voteKvs S)) := by
  have := h.ob (.v n) (WF.find_key e)
  simpa [Wd.obj, Wa.at, e] using this
/-- one object changed -/
theorem upd (h : WoodIn K g A W) {W' : Wd} {o : MO} (l0 : Lc) (h0 : W.ok l0) (hok : ∀ l, W'.ok l → W.ok l) (ho : W'.obj K A l0 = o) (hobj : ∀ l, W'.ok l → l ≠ l0 → W'.obj K A l = W.obj K A l) : WoodIn K (g.set (A.at l0) o) A W' := by
  refine ⟨fun l hl => ?_, fun l l' hl hl' => h.ij l l' (hok l hl) (hok l' hl')⟩
  by_cases e : l = l0
  · subst e; rw [G.set_same, ho]
  · rw [G.set_ne (fun z => e (h.ij l l0 (hok l hl) h0 z)), h.ob l (hok l hl), hobj l hl e]
theorem frm_upd (h : WoodIn K g A W) {W' : Wd} {o : MO} (l0 : Lc) (h0 : W.ok l0) (hok : ∀ l, W'.ok l → W.ok l) : Frm g (g.set (A.at l0) o) (W.foot A) (W'.foot A) := by
  refine ⟨fun a _ hn => G.set_ne fun z => hn ⟨l0, h0, z.symm⟩, fun a ⟨l, hl, e⟩ => .inl ⟨l, hok l hl, e⟩, fun a ha => ?_, rfl, rfl⟩
  by_cases e : a = A.at l0
  · subst e; rw [G.set_same]; simp
  · rw [G.set_ne e]; exact ha
/-- what stays -/
theorem frm (h : WoodIn K g A W) {g' : G} {F F' : Addr → Prop} (f : Frm g g' F F') (hn : ∀ a, W.foot A a → ¬ F a) : WoodIn K g' A W :=
  ⟨fun l hl => by rw [f.out _ (by rw [h.ob l hl]; simp) (hn _ ⟨l, hl, rfl⟩), h.ob l hl], h.ij⟩
end WoodIn
/-! dicts of rows, of votes -/
theorem dfind_rows {α : Type} {f : Int × α → D} : ∀ {l : List (Int × α)} {n : Int}, dfind (l.map fun p => ((.inl p.1 : Key), f p)) (.inl n) = (l.lookup n).map fun x => f (n, x)
  | [], n => rfl
  | (m, y) :: l, n => by
    have ih := dfind_rows (f := f) (l := l) (n := n)
    unfold dfind at ih ⊢
    rw [List.map_cons, List.find?_cons, List.lookup_cons]
    by_cases e : m = n
    · subst e; simp
    · have h1 : (n == m) = false := by simp; exact fun z => e z.symm
      have h2 : decide ((Sum.inl m : Key) = Sum.inl n) = false := by simp; exact e
      simp only [h1, h2]
      exact ih
theorem dfind_votes {l : List (Str × Int)} {n : Str} : dfind (l.map fun p => ((.inr p.1 : Key), D.int p.2)) (.inr n) = (l.lookup n).map D.int := by
  induction l with
  | nil => rfl
  | cons p l ih =>
    obtain ⟨m, y⟩ := p
    unfold dfind at ih ⊢
    rw [List.map_cons, List.find?_cons, List.lookup_cons]
    by_cases e : m = n
    · subst e; simp
    · have h1 : (n == m) = false := by simp; exact fun z => e z.symm
      have h2 : decide ((Sum.inr m : Key) = Sum.inr n) = false := by simp; exact e
      simp only [h1, h2]
      exact ih
theorem dfind_row {A : Wa} {W : Wd} {n : Int} : dfind (rowKvs A W) (.inl n) = (W.find n).map fun _ => .ref (A.s n) := dfind_rows (f := fun p => .ref (A.s p.1))
theorem dfind_vote {S : Say} {n : Str} : dfind (voteKvs S) (.inr n) = (S.votes.lookup n).map D.int := dfind_votes
theorem rowKvs_keys {A : Wa} {W : Wd} : (rowKvs A W).map (·.1) = W.keys.map Sum.inl := by simp [rowKvs, Wd.keys]
@[simp] theorem rowKvs_len {A : Wa} {W : Wd} : (rowKvs A W).length = W.rows.length := by simp [rowKvs]
@[simp] theorem voteKvs_len {S : Say} : (voteKvs S).length = S.votes.length := by simp [voteKvs]
end DL

set_option Elab.async false
set_option linter.all false
set_option maxRecDepth 100000
set_option maxHeartbeats 2000000
set_option autoImplicit false
/-! SP: what the program's defs promise. -/
namespace DL
open PySem PySem.Spec L2
@[simp] theorem onB_val {Kt : KR} {k : Bool → G → Prop} {b : Bool} {g : G} : onB Kt k (.val (.bl b)) g = k b g := rfl
@[simp] theorem onB_exc {Kt : KR} {k : Bool → G → Prop} {C : Addr} {g : G} : onB Kt k (.exc C) g = Kt (.exc C) g := rfl
/-! written texts -/
@[simp] theorem ofString_inj {a b : String} : (Str.ofString a = Str.ofString b) ↔ a = b := by
  constructor
  · intro h
    rw [Str.ofString_eq_toList, Str.ofString_eq_toList] at h
    have h1 : a.toList.map Char.toNat = b.toList.map Char.toNat := by simpa using h
    have h2 : a.toList = b.toList := List.map_inj_right (fun x y e => Char.toNat_inj.mp e) |>.mp h1
    exact String.toList_inj.mp h2
  · intro h; rw [h]
@[simp] theorem ofString_beq {a b : String} : (Str.ofString a == Str.ofString b) = decide (a = b) := by
  by_cases h : a = b
  · subst h; simp
  · have : Str.ofString a ≠ Str.ofString b := fun z => h (ofString_inj.mp z)
    simp [h]
/-! comprehensions over mapped lists -/
theorem lcR_of {α : Type} {f : α → D} (hf : ∀ x y, f x = f y → x = y) {xs : List α} {i : Nat} {Rt Re : Tr} {env : Env'} {gb g : G} {Kt : KR} (h : α → Option D) (hl : xs.length < 100000) (ht : ∀ x ∈ xs, turnR Rt Re gb (env.set i (.dat (f x))) (h x)) (hk : Kt (.val (.lst (xs.filterMap h))) g) : lcR i Rt Re (xs.map f) env gb g Kt := by
  classical
  refine ⟨by simpa using hl, fun d => if e : ∃ x, f x = d then h e.choose else none, fun d hd => ?_, ?_⟩
  · obtain ⟨x, hx, rfl⟩ := List.mem_map.mp hd
    have e : ∃ y, f y = f x := ⟨x, rfl⟩
    have := hf _ _ e.choose_spec
    show turnR Rt Re gb (env.set i (.dat (f x))) (if e : ∃ y, f y = f x then h e.choose else none)
    rw [dif_pos e, this]
    exact ht x hx
  · have : (xs.map f).filterMap (fun d => if e : ∃ x, f x = d then h e.choose else none) = xs.filterMap h := by
      rw [List.filterMap_map]
      congr 1
      funext x
      have e : ∃ y, f y = f x := ⟨x, rfl⟩
      have := hf _ _ e.choose_spec
      show (if e : ∃ y, f y = f x then h e.choose else none) = h x
      rw [dif_pos e, this]
    rw [this]
    exact hk
theorem int_inj (x y : Int) (h : D.int x = D.int y) : x = y := by cases h; rfl
theorem str_inj (x y : Str) (h : D.str x = D.str y) : x = y := by cases h; rfl
theorem sign_inj (x y : Nat) (h : D.str ⟨#[x]⟩ = D.str ⟨#[y]⟩) : x = y := by cases h; rfl
theorem ref_inj (x y : Addr) (h : D.ref x = D.ref y) : x = y := by cases h; rfl
/-- kept by p, mapped by F -/
theorem filterMap_if {α β : Type} (p : α → Bool) (F : α → β) : ∀ xs : List α, (xs.filterMap fun x => if p x then some (F x) else none) = (xs.filter p).map F
  | [] => rfl
  | x :: xs => by
    rw [List.filterMap_cons, List.filter_cons]
    cases p x <;> simp [filterMap_if p F xs]
theorem lcR_if {α : Type} {f : α → D} (hf : ∀ x y, f x = f y → x = y) {xs : List α} {i : Nat} {Rt Re : Tr} {env : Env'} {gb g : G} {Kt : KR} (p : α → Bool) (F : α → D) (hl : xs.length < 100000) (ht : ∀ x ∈ xs, turnR Rt Re gb (env.set i (.dat (f x))) (if p x then some (F x) else none)) (hk : Kt (.val (.lst ((xs.filter p).map F))) g) : lcR i Rt Re (xs.map f) env gb g Kt :=
  lcR_of hf _ hl ht (by rw [filterMap_if]; exact hk)
theorem lcR_map {α : Type} {f : α → D} (hf : ∀ x y, f x = f y → x = y) {xs : List α} {i : Nat} {Re : Tr} {env : Env'} {gb g : G} {Kt : KR} (F : α → D) (hl : xs.length < 100000) (ht : ∀ x ∈ xs, turnR (rC (.bl true)) Re gb (env.set i (.dat (f x))) (some (F x))) (hk : Kt (.val (.lst (xs.map F))) g) : lcR i (rC (.bl true)) Re (xs.map f) env gb g Kt :=
  lcR_of hf (fun x => some (F x)) hl ht (by rw [List.filterMap_eq_map']; exact hk)
theorem rowKvs_keyD {A : Wa} {W : Wd} : ((rowKvs A W).map fun kv => keyD kv.1) = W.keys.map D.int := by simp [rowKvs, Wd.keys, keyD]
theorem voteKvs_keyD {S : Say} : ((voteKvs S).map fun kv => keyD kv.1) = (S.votes.map (·.1)).map D.str := by simp [voteKvs, keyD]
theorem lookup_votes {l : List (Str × Int)} {n : Str} {x : Int} (nd : (l.map (·.1)).Nodup) (h : (n, x) ∈ l) : l.lookup n = some x := by
  induction l with
  | nil => cases h
  | cons p l ih =>
    obtain ⟨m, y⟩ := p
    rw [List.map_cons, List.nodup_cons] at nd
    rcases List.mem_cons.mp h with e | h'
    · cases e; simp [List.lookup_cons]
    · have ne : (n == m) = false := by
        simp only [beq_eq_false_iff_ne]
        intro e
        exact nd.1 (show m ∈ l.map (·.1) from List.mem_map.mpr ⟨(n, x), h', e⟩)
      rw [List.lookup_cons, ne]
      exact ih nd.2 h'
/-- votes by their value: names counted are votes counted -/
theorem names_filter {l : List (Str × Int)} (nd : (l.map (·.1)).Nodup) (p : Int → Bool) : (((l.map (·.1)).filter fun n => p ((l.lookup n).getD 0)).length : Int) = ((l.filter fun q => p q.2).length : Nat) := by
  rw [List.filter_map, List.length_map]
  congr 2
  apply List.filter_congr
  intro q hq
  show p ((l.lookup q.1).getD 0) = p q.2
  rw [lookup_votes nd hq]; rfl
/-! small defs -/
def isCnt (t : D) (lo hi : Int) : Bool := match t with
  | .int i => decide (lo ≤ i) && decide (i ≤ hi)
  | _ => false
def sp_is_count : SpD := fun ds g Kt => ∃ t lo hi, ds = [t, .int lo, .int hi] ∧ (dTy t).isSome ∧ Kt (.val (.bl (isCnt t lo hi))) g
def smallS : Str := "abcdefghijklmnopqrstuvwxyz"
def okName (t : D) : Bool := match t with
  | .str x => decide (1 ≤ x.length) && decide (x.length ≤ 6) && x.cps.toList.all fun c => decide (c ∈ smallS.cps.toList)
  | _ => false
def okSign (c : Nat) : Bool := decide (32 ≤ c) && decide (c ≤ 126) && decide (c ≠ 37)
def okText (t : D) : Bool := match t with
  | .str x => decide (1 ≤ x.length) && decide (x.length ≤ 30) && x.cps.toList.all okSign
  | _ => false
/-- a thing of a known type, no text longer than this -/
def okArg (t : D) : Prop := (dTy t).isSome = true ∧ ∀ x, t = .str x → x.length ≤ 1000
def sp_need_name (K : PySem.W.Frag) : SpD := fun ds g Kt => ∃ t, ds = [t] ∧ okArg t ∧ (okName t = true → Kt (.val .non) g) ∧ (okName t = false → Kt (.exc (He.ga K "BadName")) g)
def sp_need_text (K : PySem.W.Frag) : SpD := fun ds g Kt => ∃ t, ds = [t] ∧ okArg t ∧ (okText t = true → Kt (.val .non) g) ∧ (okText t = false → Kt (.exc (He.ga K "BadText")) g)
/-! sayings -/
def Say.ups (S : Say) : Int := ((S.votes.filter fun p => decide (0 < p.2)).length : Nat)
def Say.downs (S : Say) : Int := ((S.votes.filter fun p => decide (p.2 < 0)).length : Nat)
structure SayIn (K : PySem.W.Frag) (g : G) (s v : Addr) (S : Say) : Prop where
  hs : g.get s = some (.ins (He.ga K "Saying") (sayFs S v))
  hv : g.get v = some (.dct (voteKvs S))
  nd : (S.votes.map (·.1)).Nodup
  ln : S.votes.length ≤ 60000
def sp_ups (K : PySem.W.Frag) : SpD := fun ds g Kt => ∃ s v S, ds = [.ref s] ∧ SayIn K g s v S ∧ Kt (.val (.int S.ups)) g
def sp_downs (K : PySem.W.Frag) : SpD := fun ds g Kt => ∃ s v S, ds = [.ref s] ∧ SayIn K g s v S ∧ Kt (.val (.int S.downs)) g
def sp_points (K : PySem.W.Frag) : SpD := fun ds g Kt => ∃ s v S, ds = [.ref s] ∧ SayIn K g s v S ∧ Kt (.val (.int (S.ups - S.downs))) g
def sp_Saying (K : PySem.W.Frag) : SpD := fun ds g Kt => ∃ x b u t i, ds = [.ref x, b, u, t, i] ∧ g.get x = some (.ins (He.ga K "Saying") []) ∧
  ∀ v, g.get v = none → Kt (.val .non) ((g.set v (.dct [])).set x (.ins (He.ga K "Saying") [("by", b), ("under", u), ("text", t), ("time", i), ("votes", .ref v), ("is_struck", .bl false)]))
theorem G.ext {a b : G} (h1 : a.get = b.get) (h2 : a.lk = b.lk) (h3 : a.tl = b.tl) : a = b := by cases a; cases b; simp at h1 h2 h3; subst h1 h2 h3; rfl
@[simp] theorem G.set_set {g : G} {a : Addr} {o o' : MO} : (g.set a o).set a o' = g.set a o' := G.ext (funext fun b => by simp only [G.set]; split <;> rfl) rfl rfl
theorem G.set_comm {g : G} {a b : Addr} {o o' : MO} (h : a ≠ b) : (g.set a o).set b o' = (g.set b o').set a o := G.ext (funext fun c => by
  simp only [G.set]
  by_cases h1 : c = a
  · subst h1; simp [h]
  · simp [h1]) rfl rfl
/-! woods -/
structure WFa (W : Wd) : Prop extends WF W where
  age : W.age ≤ 50000
def wp (K : PySem.W.Frag) (f : Wa → Wd → List D → G → KR → Prop) : SpD := fun ds g Kt => ∃ A W r, ds = .ref A.w :: r ∧ WoodIn K g A W ∧ WFa W ∧ f A W r g Kt
def sp_Wood (K : PySem.W.Frag) : SpD := fun ds g Kt => ∃ x, ds = [.ref x] ∧ g.get x = some (.ins (He.ga K "Wood") []) ∧ ∀ d, g.get d = none → Kt (.val .non) ((g.set d (.dct [])).set x (.ins (He.ga K "Wood") [("sayings", .ref d), ("came", .int 0), ("clock", .int 0)]))
def sp_now (K : PySem.W.Frag) : SpD := wp K fun A W r g Kt => r = [] ∧ Kt (.val (.int W.clock)) g
def sp_tick (K : PySem.W.Frag) : SpD := wp K fun A W r g Kt => ∃ t, r = [t] ∧ (dTy t).isSome = true ∧ (∀ m, t = .int m → isCnt t 0 1000 = true → ∀ g', WoodIn K g' A { W with clock := W.clock + m } → Frm g g' (W.foot A) (W.foot A) → Kt (.val .non) g') ∧ (isCnt t 0 1000 = false → Kt (.exc (He.ga K "BadNumber")) g)
def sp_saying (K : PySem.W.Frag) : SpD := wp K fun A W r g Kt => ∃ t, r = [t] ∧ (dTy t).isSome = true ∧ (∀ n S, t = .int n → W.find n = some S → Kt (.val (.ref (A.s n))) g) ∧ ((∀ n, t = .int n → W.find n = none) → Kt (.exc (He.ga K "NoSaying")) g)
def sp_numbers (K : PySem.W.Frag) : SpD := wp K fun A W r g Kt => r = [] ∧ Kt (.val (.lst (W.keys.map D.int))) g
def sp_deep (K : PySem.W.Frag) : SpD := wp K fun A W r g Kt => ∃ n, r = [.int n] ∧ n ∈ W.keys ∧ Kt (.val (.int (((W.above n).length : Int) - 1))) g
end DL

set_option Elab.async false
set_option linter.all false
set_option maxRecDepth 100000
set_option maxHeartbeats 2000000
set_option autoImplicit false
/-! WL: deeds on woods, in plain data. -/
namespace DL
open PySem PySem.Spec L2
namespace Wd
variable {W : Wd}
@[simp] theorem put_keys {n : Int} {S : Say} : (W.put n S).keys = W.keys := by
  unfold Wd.put Wd.keys
  rw [List.map_map]
  apply List.map_congr_left
  intro p _
  show (if p.1 = n then (p.1, S) else p).1 = p.1
  split <;> rfl
theorem lookup_put {n m : Int} {S : Say} : ∀ {l : List (Int × Say)}, (l.map fun p => if p.1 = n then (p.1, S) else p).lookup m = if m = n then (l.lookup m).map fun _ => S else l.lookup m
  | [] => by simp
  | (k, x) :: l => by
    rw [List.map_cons]
    by_cases h : k = n
    · subst h
      by_cases h2 : m = k
      · subst h2; simp
      · have := lookup_put (n := k) (m := m) (S := S) (l := l)
        simp only [if_pos, List.lookup_cons]
        rw [show (m == k) = false by simp [h2]]
        simp only []
        rw [this, if_neg h2]
    · have := lookup_put (n := n) (m := m) (S := S) (l := l)
      simp only [if_neg h, List.lookup_cons]
      by_cases h2 : m = k
      · subst h2; simp [h]
      · rw [show (m == k) = false by simp [h2]]
        exact this
theorem find_put {n m : Int} {S : Say} : (W.put n S).find m = if m = n then (W.find m).map fun _ => S else W.find m := lookup_put
theorem lookup_drop {n m : Int} : ∀ {l : List (Int × Say)}, (l.filter fun p => decide (p.1 ≠ n)).lookup m = if m = n then none else l.lookup m
  | [] => by simp
  | (k, x) :: l => by
    have ih := lookup_drop (n := n) (m := m) (l := l)
    rw [List.filter_cons]
    by_cases h : k = n
    · subst h
      simp only [ne_eq, not_true, decide_false]
      rw [if_neg Bool.false_ne_true, ih]
      by_cases h2 : m = k
      · simp [h2]
      · rw [if_neg h2, if_neg h2, List.lookup_cons, show (m == k) = false by simp [h2]]
    · simp only [ne_eq, h, not_false_iff, decide_true, if_true, List.lookup_cons]
      by_cases h2 : m = k
      · subst h2; simp [h]
      · rw [show (m == k) = false by simp [h2]]
        exact ih
theorem find_drop {n m : Int} : (W.drop n).find m = if m = n then none else W.find m := lookup_drop
theorem mem_drop_keys {n m : Int} : m ∈ (W.drop n).keys ↔ m ∈ W.keys ∧ m ≠ n := by
  unfold Wd.drop Wd.keys
  simp only [List.mem_map, List.mem_filter]
  constructor
  · rintro ⟨p, ⟨h1, h2⟩, rfl⟩; exact ⟨⟨p, h1, rfl⟩, by simpa using h2⟩
  · rintro ⟨⟨p, h1, rfl⟩, h2⟩; exact ⟨p, ⟨h1, by simpa using h2⟩, rfl⟩
theorem drop_keys {n : Int} : (W.drop n).keys = W.keys.filter fun m => decide (m ≠ n) := by
  unfold Wd.drop Wd.keys
  rw [List.filter_map]
  rfl
@[simp] theorem add_keys {n : Int} {S : Say} : (W.add n S).keys = W.keys ++ [n] := by simp [Wd.add, Wd.keys]
theorem lookup_append {n : Int} {S : Say} {m : Int} : ∀ {l : List (Int × Say)}, (l ++ [(n, S)]).lookup m = (l.lookup m).or (if m = n then some S else none)
  | [] => by
    by_cases h : m = n
    · subst h; simp
    · simp [List.lookup_cons, show (m == n) = false by simp [h], h]
  | (k, x) :: l => by
    have ih := lookup_append (n := n) (S := S) (m := m) (l := l)
    rw [List.cons_append, List.lookup_cons, List.lookup_cons]
    cases m == k with
    | true => rfl
    | false => exact ih
theorem find_add {n m : Int} {S : Say} : (W.add n S).find m = (W.find m).or (if m = n then some S else none) := lookup_append
/-- the chain above, where the unders are the same -/
theorem aboveF_congr {W W' : Wd} (h : ∀ m S, W.find m = some S → (∃ S', W'.find m = some S' ∧ S'.under = S.under)) (hn : ∀ m, W.find m = none → W'.find m = none) : ∀ (k : Nat) (n : Int), W'.aboveF k n = W.aboveF k n
  | 0, _ => rfl
  | k + 1, n => by
    unfold Wd.aboveF
    split
    · rfl
    · cases e : W.find n with
      | none => rw [hn n e]
      | some S =>
        obtain ⟨S', e', hu⟩ := h n S e
        rw [e']
        simp only [hu, aboveF_congr h hn k S.under]
end Wd
namespace WF
variable {W : Wd}
theorem put (h : WF W) {n : Int} {S S' : Say} (e : W.find n = some S) (hu : S'.under = S.under) (hb : S'.by_.length ≤ 6) (ht : S'.text.length ≤ 30) (h1 : (S'.votes.map (·.1)).Nodup) (h2 : ∀ p ∈ S'.votes, p.2 = 1 ∨ p.2 = -1) (h3 : S'.votes.length ≤ W.age) : WF (W.put n S') ∧ ∀ m, (W.put n S').above m = W.above m := by
  have ab : ∀ m, (W.put n S').above m = W.above m := fun m => Wd.aboveF_congr (fun m x ex => by
      rw [Wd.find_put]
      by_cases q : m = n
      · subst q
        rw [e] at ex; cases ex
        exact ⟨S', by simp [e], hu⟩
      · exact ⟨x, by rw [if_neg q]; exact ex, rfl⟩) (fun m ex => by rw [Wd.find_put, ex]; split <;> rfl) _ _
  have row : ∀ m x, (m, x) ∈ (W.put n S').rows → (m, x) ∈ W.rows ∨ (m = n ∧ x = S') := fun m x hx => by
    obtain ⟨p, hp, q⟩ := List.mem_map.mp hx
    split at q
    · rename_i z
      cases q; exact .inr ⟨z, rfl⟩
    · subst q; exact .inl hp
  refine ⟨⟨by rw [Wd.put_keys]; exact h.srt, fun m hm => h.pos m (by rwa [Wd.put_keys] at hm), fun m x hx => ?_, by show (W.rows.map _).length ≤ 60; rw [List.length_map]; exact h.len, fun m hm => by rw [ab]; exact h.dep m (by rwa [Wd.put_keys] at hm),
    fun m x hx => ?_, fun m x hx => ?_, fun m x hx => ?_, fun m x hx => ?_, fun m x hx => ?_, h.cam⟩, ab⟩
  · rw [Wd.put_keys]
    rcases row m x hx with z | ⟨rfl, rfl⟩
    · exact h.und m x z
    · rw [hu]; exact h.und m S (mem_find e)
  · rcases row m x hx with z | ⟨rfl, rfl⟩
    · exact h.vnd m x z
    · exact h1
  · rcases row m x hx with z | ⟨rfl, rfl⟩
    · exact h.vwy m x z
    · exact h2
  · rcases row m x hx with z | ⟨rfl, rfl⟩
    · exact h.vln m x z
    · exact h3
  · rcases row m x hx with z | ⟨rfl, rfl⟩
    · exact h.nam m x z
    · exact hb
  · rcases row m x hx with z | ⟨rfl, rfl⟩
    · exact h.txt m x z
    · exact ht
theorem replies_mem (h : WF W) {n m : Int} : m ∈ W.replies n ↔ ∃ S, W.find m = some S ∧ S.under = n := by
  unfold Wd.replies
  rw [List.mem_filter]
  constructor
  · rintro ⟨h1, h2⟩
    obtain ⟨S, e⟩ := h.key_find h1
    rw [e] at h2
    exact ⟨S, e, by simpa using h2⟩
  · rintro ⟨S, e, hu⟩
    exact ⟨find_key e, by rw [e]; simpa using hu⟩
theorem drop (h : WF W) {n : Int} (hr : W.replies n = []) (hn : n ≠ 0) : WF (W.drop n) ∧ ∀ m ∈ (W.drop n).keys, (W.drop n).above m = W.above m := by
  have nu : ∀ m S, W.find m = some S → S.under ≠ n := fun m S e q => by
    have : m ∈ W.replies n := h.replies_mem.mpr ⟨S, e, q⟩
    rw [hr] at this; cases this
  have abF : ∀ (k : Nat) (m : Int), m ≠ n → (W.drop n).aboveF k m = W.aboveF k m := by
    intro k
    induction k with
    | zero => intro m _; rfl
    | succ k ih =>
      intro m hm
      unfold Wd.aboveF
      split
      · rfl
      · rw [Wd.find_drop, if_neg hm]
        cases e : W.find m with
        | none => rfl
        | some S => simp only [ih S.under (nu m S e)]
  have ab : ∀ m, m ≠ n → (W.drop n).above m = W.above m := fun m hm => abF _ m hm
  have row : ∀ m x, (m, x) ∈ (W.drop n).rows → (m, x) ∈ W.rows ∧ m ≠ n := fun m x hx => by
    obtain ⟨h1, h2⟩ := List.mem_filter.mp hx
    exact ⟨h1, by simpa using h2⟩
  refine ⟨⟨by rw [Wd.drop_keys]; exact h.srt_filter _, fun m hm => h.pos m (Wd.mem_drop_keys.mp hm).1, fun m x hx => ?_, Nat.le_trans (List.length_filter_le _ _) h.len, fun m hm => by rw [ab m (Wd.mem_drop_keys.mp hm).2]; exact h.dep m (Wd.mem_drop_keys.mp hm).1,
    fun m x hx => h.vnd m x (row m x hx).1, fun m x hx => h.vwy m x (row m x hx).1, fun m x hx => h.vln m x (row m x hx).1, fun m x hx => h.nam m x (row m x hx).1, fun m x hx => h.txt m x (row m x hx).1, h.cam⟩, fun m hm => ab m (Wd.mem_drop_keys.mp hm).2⟩
  obtain ⟨h1, h2⟩ := row m x hx
  rcases h.und m x h1 with z | ⟨z1, z2⟩
  · exact .inl z
  · exact .inr ⟨Wd.mem_drop_keys.mpr ⟨z1, nu m x (h.find_mem h1)⟩, z2⟩
theorem add (h : WF W) {S : Say} (hu : S.under = 0 ∨ S.under ∈ W.keys) (hl : W.rows.length < 60) (hd : S.under = 0 ∨ (W.above S.under).length < 8) (hb : S.by_.length ≤ 6) (ht : S.text.length ≤ 30) (hv : S.votes = []) : WF (W.add (W.came + 1) S) ∧ (∀ m ∈ W.keys, (W.add (W.came + 1) S).above m = W.above m) := by
  have nk : W.came + 1 ∉ W.keys := fun z => by have := h.pos _ z; omega
  have fk : ∀ m ∈ W.keys, (W.add (W.came + 1) S).find m = W.find m := fun m hm => by
    obtain ⟨x, e⟩ := h.key_find hm
    rw [Wd.find_add, e]; rfl
  have fn : (W.add (W.came + 1) S).find (W.came + 1) = some S := by
    rw [Wd.find_add, h.find_none.mpr nk]; simp
  have abF : ∀ (k : Nat) (m : Int), m = 0 ∨ m ∈ W.keys → (W.add (W.came + 1) S).aboveF k m = W.aboveF k m := by
    intro k
    induction k with
    | zero => intro m _; rfl
    | succ k ih =>
      intro m hm
      unfold Wd.aboveF
      split
      · rfl
      · rename_i nz
        have hm := hm.resolve_left nz
        rw [fk m hm]
        cases e : W.find m with
        | none => rfl
        | some x => simp only [ih x.under ((h.und m x (mem_find e)).imp id (·.1))]
  have ab : ∀ m ∈ W.keys, (W.add (W.came + 1) S).above m = W.above m := fun m hm => abF _ m (.inr hm)
  have row : ∀ m x, (m, x) ∈ (W.add (W.came + 1) S).rows → (m, x) ∈ W.rows ∨ (m = W.came + 1 ∧ x = S) := fun m x hx => by
    rcases List.mem_append.mp hx with z | z
    · exact .inl z
    · have := List.mem_singleton.mp z
      cases this; exact .inr ⟨rfl, rfl⟩
  have hc := h.cam
  have abn : (W.add (W.came + 1) S).above (W.came + 1) = S.under :: W.above S.under := by
    unfold Wd.above
    obtain ⟨k, hk⟩ : ∃ k, (W.came + 1).toNat = k + 1 := ⟨W.came.toNat, by omega⟩
    rw [hk]
    show (if W.came + 1 = 0 then [] else match (W.add (W.came + 1) S).find (W.came + 1) with | none => [] | some S' => S'.under :: (W.add (W.came + 1) S).aboveF k S'.under) = _
    rw [if_neg (by omega), fn]
    show S.under :: (W.add (W.came + 1) S).aboveF k S.under = _
    rw [abF k _ hu]
    rcases hu with hu | hu
    · rw [hu]; cases k <;> simp [Wd.aboveF]
    · have h4 := h.pos _ hu
      rw [h.aboveF_eq k S.under.toNat S.under (by omega) (by omega) (.inr hu)]
  refine ⟨⟨?_, fun m hm => ?_, fun m x hx => ?_, ?_, fun m hm => ?_, fun m x hx => ?_, fun m x hx => ?_, fun m x hx => ?_, fun m x hx => ?_, fun m x hx => ?_, by show (0 : Int) ≤ W.came + 1; omega⟩, ab⟩
  · rw [Wd.add_keys]
    refine List.pairwise_append.mpr ⟨h.srt, by simp, fun a ha b hb => ?_⟩
    have := h.pos a ha
    simp at hb; omega
  · rw [Wd.add_keys] at hm
    show 1 ≤ m ∧ m ≤ W.came + 1
    rcases List.mem_append.mp hm with z | z
    · have := h.pos m z; omega
    · simp at z; omega
  · rw [Wd.add_keys]
    rcases row m x hx with z | ⟨rfl, rfl⟩
    · rcases h.und m x z with q | ⟨q1, q2⟩
      · exact .inl q
      · exact .inr ⟨List.mem_append_left _ q1, q2⟩
    · rcases hu with q | q
      · exact .inl q
      · have := h.pos _ q
        exact .inr ⟨List.mem_append_left _ q, by omega⟩
  · show (W.rows ++ [(W.came + 1, S)]).length ≤ 60
    rw [List.length_append]
    simp; omega
  · rw [Wd.add_keys] at hm
    rcases List.mem_append.mp hm with z | z
    · rw [ab m z]; exact h.dep m z
    · have e : m = W.came + 1 := by simpa using z
      rw [e, abn]
      rcases hd with q | q
      · rw [q, h.above_zero]; simp
      · simp; omega
  · rcases row m x hx with z | ⟨rfl, rfl⟩
    · exact h.vnd m x z
    · rw [hv]; simp
  · rcases row m x hx with z | ⟨rfl, rfl⟩
    · exact h.vwy m x z
    · rw [hv]; simp
  · rcases row m x hx with z | ⟨rfl, rfl⟩
    · exact h.vln m x z
    · rw [hv]; simp
  · rcases row m x hx with z | ⟨rfl, rfl⟩
    · exact h.nam m x z
    · exact hb
  · rcases row m x hx with z | ⟨rfl, rfl⟩
    · exact h.txt m x z
    · exact ht
theorem aged (h : WF W) {c : Int} {a : Nat} (ha : W.age ≤ a) : WF { W with clock := c, age := a } := by
  have ab : ∀ n, ({ W with clock := c, age := a } : Wd).above n = W.above n := fun n => Wd.aboveF_congr (W := W) (W' := { W with clock := c, age := a }) (fun _ S e => ⟨S, e, rfl⟩) (fun _ e => e) _ _
  exact ⟨h.srt, h.pos, h.und, h.len, fun n hn => by rw [ab]; exact h.dep n hn, h.vnd, h.vwy, fun n S hS => Nat.le_trans (h.vln n S hS) ha, h.nam, h.txt, h.cam⟩
theorem tick (h : WF W) (m : Int) : WF { W with clock := W.clock + m } := h.aged (Nat.le_refl _)
end WF
/-! ### deeds -/
abbrev Out := Except Str (Wd × D)
namespace Wd
def sayR (W : Wd) (by_ : Str) (u : Int) (t : Str) : Out :=
  if okName (.str by_) = false then .error "BadName"
  else if u ≠ 0 ∧ u ∉ W.keys then .error "NoSaying"
  else if okText (.str t) = false then .error "BadText"
  else if 60 ≤ W.rows.length ∨ (u ≠ 0 ∧ 8 ≤ (W.above u).length) then .error "Full"
  else .ok (W.add (W.came + 1) ⟨by_, u, t, W.clock, [], false⟩, .int (W.came + 1))
def tickR (W : Wd) (m : Int) : Out := if 0 ≤ m ∧ m ≤ 1000 then .ok ({ W with clock := W.clock + m }, .non) else .error "BadNumber"
/-- who may strike, change -/
def ownR (W : Wd) (n : Int) (by_ : Str) : Except Str Say := match W.find n with
  | none => .error "NoSaying"
  | some S => if okName (.str by_) = false then .error "BadName" else if S.by_ ≠ by_ ∨ S.struck = true then .error "NotYours" else .ok S
def changeR (W : Wd) (n : Int) (by_ : Str) (t : Str) : Out := match W.ownR n by_ with
  | .error e => .error e
  | .ok S => if okText (.str t) = false then .error "BadText" else .ok (W.put n { S with text := t }, .non)
/-- struck ones without replies go, one after another -/
def goes : Nat → Wd → Int → Int → Wd × Int
  | 0, W, _, m => (W, m)
  | k + 1, W, n, m => if n = 0 then (W, m) else match W.find n with
    | none => (W, m)
    | some S => if S.struck = true ∧ W.replies n = [] then goes k (W.drop n) S.under (m + 1) else (W, m)
def strikeR (W : Wd) (n : Int) (by_ : Str) : Out := match W.ownR n by_ with
  | .error e => .error e
  | .ok S => .ok ((goes n.toNat (W.put n { S with struck := true }) n 0).1, .int (goes n.toNat (W.put n { S with struck := true }) n 0).2)
/-- votes with by's one set -/
def votesSet (vs : List (Str × Int)) (by_ : Str) (way : Int) : List (Str × Int) := (vs.filter fun p => decide (p.1 ≠ by_)) ++ (if way ≠ 0 then [(by_, way)] else [])
def voteR (W : Wd) (n : Int) (by_ : Str) (way : Int) : Out := match W.find n with
  | none => .error "NoSaying"
  | some S => if okName (.str by_) = false then .error "BadName" else if ¬ (-1 ≤ way ∧ way ≤ 1) then .error "BadNumber" else if S.by_ = by_ ∨ S.struck = true then .error "NotYours"
    else .ok ({ W with age := W.age + 1 }.put n { S with votes := votesSet S.votes by_ way }, .int (({ S with votes := votesSet S.votes by_ way } : Say).ups - ({ S with votes := votesSet S.votes by_ way } : Say).downs))
end Wd
theorem okName_len {x : Str} (h : okName (.str x) = true) : x.length ≤ 6 := by
  simp only [okName, Bool.and_eq_true, decide_eq_true_eq] at h
  exact h.1.2
theorem okText_len {x : Str} (h : okText (.str x) = true) : x.length ≤ 30 := by
  simp only [okText, Bool.and_eq_true, decide_eq_true_eq] at h
  exact h.1.2
theorem votesSet_nd {vs : List (Str × Int)} {b : Str} {w : Int} (h : (vs.map (·.1)).Nodup) : ((Wd.votesSet vs b w).map (·.1)).Nodup := by
  unfold Wd.votesSet
  rw [List.map_append]
  refine List.nodup_append.mpr ⟨?_, ?_, fun a ha c hc => ?_⟩
  · exact h.sublist (List.filter_sublist.map _)
  · split <;> simp
  · obtain ⟨p, hp, rfl⟩ := List.mem_map.mp ha
    have h1 := (List.mem_filter.mp hp).2
    split at hc
    · simp at hc; subst hc; simpa using h1
    · simp at hc
theorem votesSet_wy {vs : List (Str × Int)} {b : Str} {w : Int} (h : ∀ p ∈ vs, p.2 = 1 ∨ p.2 = -1) (hw : -1 ≤ w ∧ w ≤ 1) : ∀ p ∈ Wd.votesSet vs b w, p.2 = 1 ∨ p.2 = -1 := fun p hp => by
  unfold Wd.votesSet at hp
  rcases List.mem_append.mp hp with z | z
  · exact h p (List.mem_filter.mp z).1
  · split at z
    · simp at z; subst z; show w = 1 ∨ w = -1; omega
    · simp at z
theorem votesSet_len {vs : List (Str × Int)} {b : Str} {w : Int} : (Wd.votesSet vs b w).length ≤ vs.length + 1 := by
  unfold Wd.votesSet
  rw [List.length_append]
  have h1 := List.length_filter_le (fun p : Str × Int => decide (p.1 ≠ b)) vs
  have h2 : (if w ≠ 0 then [(b, w)] else ([] : List (Str × Int))).length ≤ 1 := by split <;> simp
  omega
/-! ### promises of the deeds -/
theorem WoodIn.say {K : PySem.W.Frag} {g : G} {A : Wa} {W : Wd} (h : WoodIn K g A W) (wf : WFa W) {n : Int} {S : Say} (e : W.find n = some S) : SayIn K g (A.s n) (A.v n) S :=
  ⟨h.hs e, h.hv e, wf.vnd n S (WF.mem_find e), by have := wf.vln n S (WF.mem_find e); have := wf.age; omega⟩
/-- what a deed on a wood tells: an error by its class, or what the wood is then -/
def tells (K : PySem.W.Frag) (A : Wa) (W : Wd) (g : G) (Kt : KR) : Out → Prop
  | .error e => Kt (.exc (He.ga K e)) g
  | .ok (W', d) => ∀ g' A', A'.w = A.w → WoodIn K g' A' W' → Frm g g' (W.foot A) (W'.foot A') → Kt (.val d) g'
def sp_say (K : PySem.W.Frag) : SpD := wp K fun A W r g Kt => ∃ b u t, r = [.str b, .int u, .str t] ∧ b.length ≤ 1000 ∧ t.length ≤ 1000 ∧ NL g ∧ tells K A W g Kt (W.sayR b u t)
def sp_own (K : PySem.W.Frag) : SpD := wp K fun A W r g Kt => ∃ n b, r = [.int n, .str b] ∧ b.length ≤ 1000 ∧ match W.ownR n b with
  | .error e => Kt (.exc (He.ga K e)) g
  | .ok _ => Kt (.val (.ref (A.s n))) g
def sp_change (K : PySem.W.Frag) : SpD := wp K fun A W r g Kt => ∃ n b t, r = [.int n, .str b, .str t] ∧ b.length ≤ 1000 ∧ t.length ≤ 1000 ∧ tells K A W g Kt (W.changeR n b t)
def sp_strike (K : PySem.W.Frag) : SpD := wp K fun A W r g Kt => ∃ n b, r = [.int n, .str b] ∧ b.length ≤ 1000 ∧ NL g ∧ tells K A W g Kt (W.strikeR n b)
def sp_vote (K : PySem.W.Frag) : SpD := wp K fun A W r g Kt => ∃ n b y, r = [.int n, .str b, .int y] ∧ b.length ≤ 1000 ∧ NL g ∧ tells K A W g Kt (W.voteR n b y)
def lookD (S : Say) : D := .tup [.str S.by_, .int S.under, if S.struck = true then .non else .str S.text, .int S.time]
def sp_look (K : PySem.W.Frag) : SpD := wp K fun A W r g Kt => ∃ n, r = [.int n] ∧ match W.find n with
  | none => Kt (.exc (He.ga K "NoSaying")) g
  | some S => Kt (.val (lookD S)) g
def sp_votes_of (K : PySem.W.Frag) : SpD := wp K fun A W r g Kt => ∃ n, r = [.int n] ∧ match W.find n with
  | none => Kt (.exc (He.ga K "NoSaying")) g
  | some S => Kt (.val (.tup [.int S.ups, .int S.downs])) g
def sp_replies (K : PySem.W.Frag) : SpD := wp K fun A W r g Kt => ∃ n, r = [.int n] ∧ Kt (.val (.lst ((W.replies n).map D.int))) g
def isThere (W : Wd) (n : Int) : Prop := n = 0 ∨ n ∈ W.keys
def sp_below (j : Nat) (K : PySem.W.Frag) : SpD := wp K fun A W r g Kt => ∃ n, r = [.int n] ∧ (∀ a, g.tl a = false) ∧ (¬ isThere W n → Kt (.exc (He.ga K "NoSaying")) g) ∧ (isThere W n → 9 ≤ j + (W.above n).length ∧ Kt (.val (.lst ((W.below n).map D.int))) g)
/-- below, by how deep it may still go -/
def spb : Nat → PySem.W.Frag → SpD
  | 0, _ => fun _ _ _ => False
  | j + 1, K => sp_below (j + 1) K
/-- not struck -/
def Wd.stands (W : Wd) (n : Int) : Bool := match W.find n with
  | some S => !S.struck
  | none => false
def sp_many (K : PySem.W.Frag) : SpD := wp K fun A W r g Kt => ∃ n, r = [.int n] ∧ (∀ a, g.tl a = false) ∧ (¬ isThere W n → Kt (.exc (He.ga K "NoSaying")) g) ∧ (isThere W n → Kt (.val (.int (((W.below n).filter W.stands).length : Nat))) g)
def Say.pts (S : Say) : Int := S.ups - S.downs
def Wd.standing (W : Wd) (b : Str) : Int := ((W.rows.filter fun p => decide (p.2.by_ = b) && !p.2.struck).map fun p => p.2.pts).sum
def sp_standing (K : PySem.W.Frag) : SpD := wp K fun A W r g Kt => ∃ b, r = [.str b] ∧ b.length ≤ 1000 ∧ (okName (.str b) = false → Kt (.exc (He.ga K "BadName")) g) ∧ (okName (.str b) = true → Kt (.val (.int (W.standing b))) g)
namespace WoodIn
variable {K : PySem.W.Frag} {g : G} {A : Wa} {W : Wd} {n : Int} {S S' : Say}
theorem okPut {l : Lc} (hl : (W.put n S').ok l) : W.ok l := by cases l <;> simpa [Wd.ok] using hl
theorem rowsPut : rowKvs A (W.put n S') = rowKvs A W := by
  unfold rowKvs Wd.put
  rw [List.map_map]
  apply List.map_congr_left
  intro p _
  show ((Sum.inl (if p.1 = n then (p.1, S') else p).1 : Key), D.ref (A.s (if p.1 = n then (p.1, S') else p).1)) = _
  split <;> rfl
/-- a saying changed but for its votes -/
theorem putS (h : WoodIn K g A W) (e : W.find n = some S) (hv : S'.votes = S.votes) : WoodIn K (g.set (A.s n) (.ins (He.ga K "Saying") (sayFs S' (A.v n)))) A (W.put n S') ∧ Frm g (g.set (A.s n) (.ins (He.ga K "Saying") (sayFs S' (A.v n)))) (W.foot A) ((W.put n S').foot A) := by
  refine ⟨h.upd (.s n) (WF.find_key e) (fun l hl => okPut hl) ?_ (fun l _ ne => ?_), h.frm_upd (.s n) (WF.find_key e) (fun l hl => okPut hl)⟩
  · simp [Wd.obj, Wd.find_put, e]
  · cases l with
    | w => rfl
    | d => simp [Wd.obj, rowsPut]
    | s m =>
      have : m ≠ n := fun z => ne (by rw [z])
      simp [Wd.obj, Wd.find_put, this]
    | v m =>
      by_cases q : m = n
      · subst q; simp [Wd.obj, Wd.find_put, e, voteKvs, hv]
      · simp [Wd.obj, Wd.find_put, q]
/-- a saying's votes changed -/
theorem putV (h : WoodIn K g A W) {a : Nat} (e : W.find n = some S) {vs : List (Str × Int)} : WoodIn K (g.set (A.v n) (.dct (vs.map fun p => (.inr p.1, .int p.2)))) A ({ W with age := a }.put n { S with votes := vs }) ∧ Frm g (g.set (A.v n) (.dct (vs.map fun p => (.inr p.1, .int p.2)))) (W.foot A) (({ W with age := a }.put n { S with votes := vs }).foot A) := by
  have hf : ∀ m, ({ W with age := a } : Wd).find m = W.find m := fun _ => rfl
  refine ⟨h.upd (.v n) (WF.find_key e) (fun l hl => okPut (W := { W with age := a }) hl) ?_ (fun l _ ne => ?_), h.frm_upd (.v n) (WF.find_key e) (fun l hl => okPut (W := { W with age := a }) hl)⟩
  · simp [Wd.obj, Wd.find_put, hf, e, voteKvs]
  · cases l with
    | w => rfl
    | d => simp [Wd.obj, rowsPut]; rfl
    | s m =>
      by_cases q : m = n
      · subst q; simp [Wd.obj, Wd.find_put, hf, e, sayFs]
      · simp [Wd.obj, Wd.find_put, hf, q]
    | v m =>
      have : m ≠ n := fun z => ne (by rw [z])
      simp [Wd.obj, Wd.find_put, hf, this]
theorem okDrop {l : Lc} (hl : (W.drop n).ok l) : W.ok l := by
  cases l with
  | w => trivial
  | d => trivial
  | s m => exact (Wd.mem_drop_keys.mp hl).1
  | v m => exact (Wd.mem_drop_keys.mp hl).1
theorem rowsDrop : ddrop (rowKvs A W) (.inl n) = rowKvs A (W.drop n) := by
  unfold ddrop rowKvs Wd.drop
  rw [List.filter_map]
  congr 1
  apply List.filter_congr
  intro p _
  simp
/-- a saying gone -/
theorem dropS (h : WoodIn K g A W) : WoodIn K (g.set A.d (.dct (ddrop (rowKvs A W) (.inl n)))) A (W.drop n) ∧ Frm g (g.set A.d (.dct (ddrop (rowKvs A W) (.inl n)))) (W.foot A) ((W.drop n).foot A) := by
  refine ⟨h.upd .d trivial (fun l hl => okDrop hl) ?_ (fun l hl ne => ?_), h.frm_upd .d trivial (fun l hl => okDrop hl)⟩
  · simp [Wd.obj, rowsDrop]
  · cases l with
    | w => rfl
    | d => exact absurd rfl ne
    | s m => simp [Wd.obj, Wd.find_drop, (Wd.mem_drop_keys.mp hl).2]
    | v m => simp [Wd.obj, Wd.find_drop, (Wd.mem_drop_keys.mp hl).2]
end WoodIn
theorem ownR_ok {W : Wd} {n : Int} {b : Str} {S : Say} (e : W.ownR n b = .ok S) : W.find n = some S ∧ okName (.str b) = true ∧ S.by_ = b ∧ S.struck = false := by
  unfold Wd.ownR at e
  cases z : W.find n with
  | none => rw [z] at e; cases e
  | some S' =>
    rw [z] at e
    simp only at e
    split at e
    · cases e
    · rename_i h1
      split at e
      · cases e
      · rename_i h2
        cases e
        simp at h1 h2
        exact ⟨rfl, h1, h2.1, h2.2⟩
theorem fm_congr {α β : Type} {f g : α → Option β} : ∀ {xs : List α}, (∀ x ∈ xs, f x = g x) → xs.filterMap f = xs.filterMap g
  | [], _ => rfl
  | x :: xs, h => by rw [List.filterMap_cons, List.filterMap_cons, h x List.mem_cons_self, fm_congr fun y hy => h y (List.mem_cons_of_mem _ hy)]
theorem lcR_ifM {α : Type} {f : α → D} {xs : List α} (hf : ∀ x ∈ xs, ∀ y ∈ xs, f x = f y → x = y) {i : Nat} {Rt Re : Tr} {env : Env'} {gb g : G} {Kt : KR} (p : α → Bool) (F : α → D) (hl : xs.length < 100000) (ht : ∀ x ∈ xs, turnR Rt Re gb (env.set i (.dat (f x))) (if p x then some (F x) else none)) (hk : Kt (.val (.lst ((xs.filter p).map F))) g) : lcR i Rt Re (xs.map f) env gb g Kt := by
  classical
  have key : ∀ x ∈ xs, (if e : ∃ y, y ∈ xs ∧ f y = f x then (if p e.choose then some (F e.choose) else none) else none) = if p x then some (F x) else none := fun x hx => by
    have e : ∃ y, y ∈ xs ∧ f y = f x := ⟨x, hx, rfl⟩
    have h1 := e.choose_spec
    have h2 := hf _ h1.1 _ hx h1.2
    rw [dif_pos e, h2]
  refine ⟨by simpa using hl, fun d => if e : ∃ y, y ∈ xs ∧ f y = d then (if p e.choose then some (F e.choose) else none) else none, fun d hd => ?_, ?_⟩
  · obtain ⟨x, hx, rfl⟩ := List.mem_map.mp hd
    show turnR Rt Re gb (env.set i (.dat (f x))) (if e : ∃ y, y ∈ xs ∧ f y = f x then (if p e.choose then some (F e.choose) else none) else none)
    rw [key x hx]
    exact ht x hx
  · have : (xs.map f).filterMap (fun d => if e : ∃ y, y ∈ xs ∧ f y = d then (if p e.choose then some (F e.choose) else none) else none) = (xs.filter p).map F := by
      rw [List.filterMap_map, ← filterMap_if]
      exact fm_congr fun x hx => key x hx
    rw [this]
    exact hk
theorem sum_rows {W : Wd} (wf : WF W) (p : Say → Bool) (F : Say → Int) : ((W.keys.filter fun n => match W.find n with | some S => p S | none => false).map fun n => match W.find n with | some S => F S | none => 0).sum = ((W.rows.filter fun q => p q.2).map fun q => F q.2).sum := by
  unfold Wd.keys
  rw [List.filter_map, List.map_map]
  have e1 : (W.rows.filter ((fun n => match W.find n with | some S => p S | none => false) ∘ fun x => x.1)) = W.rows.filter fun q => p q.2 := List.filter_congr fun q hq => by
    show (match W.find q.1 with | some S => p S | none => false) = p q.2
    rw [wf.find_mem hq]
  rw [e1]
  congr 1
  apply List.map_congr_left
  intro q hq
  show (match W.find q.1 with | some S => F S | none => 0) = F q.2
  rw [wf.find_mem (List.mem_filter.mp hq).1]
end DL

set_option Elab.async false
set_option linter.all false
set_option maxRecDepth 100000
set_option maxHeartbeats 2000000
set_option autoImplicit false
/-! BL: what stands under a saying, by steps; deeds among the objects. -/
namespace DL
open PySem PySem.Spec L2
namespace WF
variable {W : Wd}
theorem above_ind (h : WF W) {P : Int → Prop} (h0 : P 0) (hs : ∀ n S, W.find n = some S → (S.under = 0 ∨ (S.under ∈ W.keys ∧ S.under < n)) → P S.under → P n) : ∀ (k : Nat) (n : Int), n.toNat ≤ k → (n = 0 ∨ n ∈ W.keys) → P n
  | 0, n, hk, hn => by
    rcases hn with rfl | hn
    · exact h0
    · have := h.pos n hn; omega
  | k + 1, n, hk, hn => by
    rcases hn with rfl | hn
    · exact h0
    · obtain ⟨S, e⟩ := h.key_find hn
      have hu := h.und n S (mem_find e)
      have hp := h.pos n hn
      refine hs n S e hu (above_ind h h0 hs k S.under ?_ (hu.imp id (·.1)))
      rcases hu with q | ⟨q, lt⟩
      · omega
      · have := h.pos _ q; omega
theorem above_lt (h : WF W) {n : Int} (hn : n = 0 ∨ n ∈ W.keys) : ∀ x ∈ W.above n, x < n := by
  refine h.above_ind (P := fun n => ∀ x ∈ W.above n, x < n) (by rw [h.above_zero]; intro x hx; cases hx) (fun n S e hu ih x hx => ?_) n.toNat n (Nat.le_refl _) hn
  rw [h.above_step e] at hx
  have hp := h.pos n (find_key e)
  have lt : S.under < n := by rcases hu with q | ⟨_, q⟩ <;> omega
  rcases List.mem_cons.mp hx with rfl | hx
  · exact lt
  · have := ih x hx; omega
theorem above_mem (h : WF W) {n : Int} (hn : n = 0 ∨ n ∈ W.keys) : ∀ x ∈ W.above n, x = 0 ∨ x ∈ W.keys := by
  refine h.above_ind (P := fun n => ∀ x ∈ W.above n, x = 0 ∨ x ∈ W.keys) (by rw [h.above_zero]; intro x hx; cases hx) (fun n S e hu ih x hx => ?_) n.toNat n (Nat.le_refl _) hn
  rw [h.above_step e] at hx
  rcases List.mem_cons.mp hx with rfl | hx
  · exact hu.imp id (·.1)
  · exact ih x hx
theorem above_trans (h : WF W) {m r : Int} (hm : m = 0 ∨ m ∈ W.keys) : r ∈ W.above m → ∀ x ∈ W.above r, x ∈ W.above m := by
  refine h.above_ind (P := fun m => r ∈ W.above m → ∀ x ∈ W.above r, x ∈ W.above m) (by rw [h.above_zero]; intro hr; cases hr) (fun m S e hu ih hr x hx => ?_) m.toNat m (Nat.le_refl _) hm
  rw [h.above_step e] at hr ⊢
  rcases List.mem_cons.mp hr with rfl | hr
  · exact List.mem_cons_of_mem _ hx
  · exact List.mem_cons_of_mem _ (ih hr x hx)
theorem comparable (h : WF W) {m r r' : Int} (hm : m = 0 ∨ m ∈ W.keys) : r = m ∨ r ∈ W.above m → r' = m ∨ r' ∈ W.above m → r = r' ∨ r' ∈ W.above r ∨ r ∈ W.above r' := by
  refine h.above_ind (P := fun m => r = m ∨ r ∈ W.above m → r' = m ∨ r' ∈ W.above m → r = r' ∨ r' ∈ W.above r ∨ r ∈ W.above r') ?_ (fun m S e hu ih h1 h2 => ?_) m.toNat m (Nat.le_refl _) hm
  · rw [h.above_zero]
    rintro (rfl | z) (rfl | z2)
    · exact .inl rfl
    · cases z2
    · cases z
    · cases z
  · rcases h1 with rfl | h1
    · rcases h2 with rfl | h2
      · exact .inl rfl
      · exact .inr (.inl h2)
    · rcases h2 with rfl | h2
      · exact .inr (.inr h1)
      · rw [h.above_step e] at h1 h2
        exact ih (List.mem_cons.mp h1) (List.mem_cons.mp h2)
theorem below_mem (h : WF W) {n m : Int} : m ∈ W.below n ↔ m ∈ W.keys ∧ n ∈ W.above m := by
  unfold Wd.below
  rw [List.mem_filter]
  simp
theorem below_up (h : WF W) {n m : Int} (hm : m ∈ W.keys) (hn : n ∈ W.above m) : ∃ r ∈ W.replies n, m = r ∨ m ∈ W.below r := by
  have key : ∀ m, (m = 0 ∨ m ∈ W.keys) → n ∈ W.above m → ∃ r ∈ W.replies n, m = r ∨ r ∈ W.above m := fun m hm => by
    refine h.above_ind (P := fun m => n ∈ W.above m → ∃ r ∈ W.replies n, m = r ∨ r ∈ W.above m) (by rw [h.above_zero]; intro z; cases z) (fun m S e hu ih hx => ?_) m.toNat m (Nat.le_refl _) hm
    rw [h.above_step e] at hx ⊢
    rcases List.mem_cons.mp hx with q | hx
    · exact ⟨m, h.replies_mem.mpr ⟨S, e, q.symm⟩, .inl rfl⟩
    · obtain ⟨r, hr, q⟩ := ih hx
      refine ⟨r, hr, .inr ?_⟩
      rcases q with q | q
      · rw [← q]; exact List.mem_cons_self
      · exact List.mem_cons_of_mem _ q
  obtain ⟨r, hr, q⟩ := key m (.inr hm) hn
  refine ⟨r, hr, q.imp id fun q => h.below_mem.mpr ⟨hm, q⟩⟩
theorem replies_above (h : WF W) {n r : Int} (hr : r ∈ W.replies n) : W.above r = n :: W.above n ∧ n < r ∧ r ∈ W.keys := by
  obtain ⟨S, e, hu⟩ := h.replies_mem.mp hr
  have hp := h.pos r (find_key e)
  refine ⟨by rw [h.above_step e, hu], ?_, find_key e⟩
  rcases h.und r S (mem_find e) with q | ⟨_, q⟩ <;> omega
/-- what stands under n: its replies and what stands under them -/
theorem below_step (h : WF W) {n : Int} (hn : n = 0 ∨ n ∈ W.keys) : isort ((W.replies n).flatMap fun r => r :: W.below r) = W.below n := by
  have nd1 : (W.below n).Nodup := h.nd.sublist List.filter_sublist
  have ndr : (W.replies n).Nodup := h.nd.sublist List.filter_sublist
  have nd2 : ((W.replies n).flatMap fun r => r :: W.below r).Nodup := by
    unfold List.Nodup
    rw [List.pairwise_flatMap]
    refine ⟨fun r hr => ?_, ?_⟩
    · obtain ⟨h1, h2, h3⟩ := h.replies_above hr
      refine List.nodup_cons.mpr ⟨fun z => ?_, h.nd.sublist List.filter_sublist⟩
      have := h.above_lt (.inr h3) r (h.below_mem.mp z).2
      omega
    · refine ndr.imp_of_mem fun {a b} ha hb ne => ?_
      intro m h1 m' h2 em
      subst em
      obtain ⟨a1, a2, a3⟩ := h.replies_above ha
      obtain ⟨b1, b2, b3⟩ := h.replies_above hb
      have hmk : m ∈ W.keys := by
        rcases List.mem_cons.mp h1 with rfl | z
        · exact a3
        · exact (h.below_mem.mp z).1
      have c1 : a = m ∨ a ∈ W.above m := (List.mem_cons.mp h1).imp (fun z => z.symm) fun z => (h.below_mem.mp z).2
      have c2 : b = m ∨ b ∈ W.above m := (List.mem_cons.mp h2).imp (fun z => z.symm) fun z => (h.below_mem.mp z).2
      rcases h.comparable (.inr hmk) c1 c2 with z | z | z
      · exact ne z
      · rw [a1] at z
        rcases List.mem_cons.mp z with z | z
        · omega
        · have := h.above_lt hn b z; omega
      · rw [b1] at z
        rcases List.mem_cons.mp z with z | z
        · omega
        · have := h.above_lt hn a z; omega
  have pm : ((W.replies n).flatMap fun r => r :: W.below r).Perm (W.below n) := by
    rw [List.perm_ext_iff_of_nodup nd2 nd1]
    intro m
    rw [List.mem_flatMap, h.below_mem]
    constructor
    · rintro ⟨r, hr, hm⟩
      obtain ⟨h1, h2, h3⟩ := h.replies_above hr
      rcases List.mem_cons.mp hm with rfl | hm
      · exact ⟨h3, by rw [h1]; exact List.mem_cons_self⟩
      · obtain ⟨q1, q2⟩ := h.below_mem.mp hm
        exact ⟨q1, h.above_trans (.inr q1) q2 n (by rw [h1]; exact List.mem_cons_self)⟩
    · rintro ⟨q1, q2⟩
      obtain ⟨r, hr, q⟩ := h.below_up q1 q2
      exact ⟨r, hr, List.mem_cons.mpr q⟩
  refine (isort_eq pm.symm ?_).symm
  exact (h.srt_filter _).imp fun h => by omega
theorem replies_nil (h : WF W) {n : Int} (hn : n = 0 ∨ n ∈ W.keys) : W.below n = [] ↔ W.replies n = [] := by
  constructor
  · intro z
    rw [List.eq_nil_iff_forall_not_mem] at z ⊢
    intro r hr
    obtain ⟨h1, h2, h3⟩ := h.replies_above hr
    exact z r (h.below_mem.mpr ⟨h3, by rw [h1]; exact List.mem_cons_self⟩)
  · intro z
    rw [← h.below_step hn, z]; simp [isort]
end WF
/-! ### deeds among the objects -/
namespace WoodIn
variable {K : PySem.W.Frag} {g : G} {A : Wa} {W : Wd} {n : Int} {S : Say}
theorem same (h : WoodIn K g A W) {W' : Wd} (hok : ∀ l, W'.ok l → W.ok l) (hobj : ∀ l, W'.ok l → W'.obj K A l = W.obj K A l) : WoodIn K g A W' ∧ Frm g g (W.foot A) (W'.foot A) :=
  ⟨⟨fun l hl => by rw [h.ob l (hok l hl), hobj l hl], fun l l' hl hl' => h.ij l l' (hok l hl) (hok l' hl')⟩, ⟨fun _ _ _ => rfl, fun a ⟨l, hl, e⟩ => .inl ⟨l, hok l hl, e⟩, fun _ h => h, rfl, rfl⟩⟩
/-- a vote is cast: what the objects are then -/
theorem voted (h : WoodIn K g A W) (wf : WFa W) (e : W.find n = some S) {vs : List (Str × Int)} {g' : G} (nd : (vs.map (·.1)).Nodup) (hl : vs.length ≤ 60000) (hg : (g' = g ∧ vs = S.votes) ∨ g' = g.set (A.v n) (.dct (vs.map fun p => (.inr p.1, .int p.2)))) :
    WoodIn K g' A ({ W with age := W.age + 1 }.put n { S with votes := vs }) ∧ Frm g g' (W.foot A) (({ W with age := W.age + 1 }.put n { S with votes := vs }).foot A) ∧ SayIn K g' (A.s n) (A.v n) { S with votes := vs } := by
  have f : ({ W with age := W.age + 1 }.put n { S with votes := vs } : Wd).find n = some { S with votes := vs } := by
    rw [Wd.find_put, if_pos rfl, show ({ W with age := W.age + 1 } : Wd).find n = W.find n from rfl, e]; rfl
  have fin : WoodIn K g' A ({ W with age := W.age + 1 }.put n { S with votes := vs }) → SayIn K g' (A.s n) (A.v n) { S with votes := vs } := fun z => ⟨z.hs f, z.hv f, nd, hl⟩
  rcases hg with ⟨rfl, rfl⟩ | rfl
  · obtain ⟨p1, p2⟩ := h.same (W' := { W with age := W.age + 1 }.put n { S with votes := S.votes }) (fun l hl => okPut (W := { W with age := W.age + 1 }) hl) (fun l _ => by
      cases l with
      | w => rfl
      | d => simp [Wd.obj, rowsPut]; rfl
      | s m =>
        have hf : ({ W with age := W.age + 1 } : Wd).find m = W.find m := rfl
        by_cases q : m = n
        · subst q; simp [Wd.obj, Wd.find_put, hf, e, sayFs]
        · simp [Wd.obj, Wd.find_put, hf, q]
      | v m =>
        have hf : ({ W with age := W.age + 1 } : Wd).find m = W.find m := rfl
        by_cases q : m = n
        · subst q; simp [Wd.obj, Wd.find_put, hf, e, voteKvs]
        · simp [Wd.obj, Wd.find_put, hf, q])
    exact ⟨p1, p2, fin p1⟩
  · obtain ⟨p1, p2⟩ := h.putV (a := W.age + 1) e (vs := vs)
    exact ⟨p1, p2, fin p1⟩
end WoodIn
theorem dput_new {vs : List (Str × Int)} {b : Str} {y : Int} (h : ∀ p ∈ vs, p.1 ≠ b) : dput (vs.map fun p => ((.inr p.1 : Key), D.int p.2)) (.inr b) (.int y) = (vs ++ [(b, y)]).map fun p => ((.inr p.1 : Key), D.int p.2) := by
  unfold dput
  have : ((vs.map fun p => ((.inr p.1 : Key), D.int p.2)).any fun kv => decide (kv.1 = (.inr b : Key))) = false := by
    rw [List.any_map, List.any_eq_false]
    intro p hp
    simp
    exact h p hp
  rw [this]
  simp
theorem dput_newI {α : Type} {f : Int × α → D} {l : List (Int × α)} {n : Int} {d : D} (h : ∀ p ∈ l, p.1 ≠ n) : dput (l.map fun p => ((.inl p.1 : Key), f p)) (.inl n) d = (l.map fun p => ((.inl p.1 : Key), f p)) ++ [(.inl n, d)] := by
  unfold dput
  have : ((l.map fun p => ((.inl p.1 : Key), f p)).any fun kv => decide (kv.1 = (.inl n : Key))) = false := by
    rw [List.any_map, List.any_eq_false]
    intro p hp
    simp
    exact h p hp
  rw [this]
  simp
def upA (f : Int → Addr) (n : Int) (a : Addr) (m : Int) : Addr := if m = n then a else f m
/-- a saying is added: what the objects are then -/
theorem WoodIn.added {K : PySem.W.Frag} {g : G} {A : Wa} {W : Wd} (h : WoodIn K g A W) (wf : WF W) {S : Say} {x v : Addr} (hS : S.votes = []) (hx : g.get x = none) (hv : g.get v = none) (ne : v ≠ x) {g' : G}
    (hg : g' = ((((g.set A.w (.ins (He.ga K "Wood") [("sayings", .ref A.d), ("came", .int (W.came + 1)), ("clock", .int W.clock)])).set v (.dct [])).set x (.ins (He.ga K "Saying") (sayFs S v))).set A.d (.dct (rowKvs A W ++ [(.inl (W.came + 1), .ref x)])))) :
    WoodIn K g' { A with s := upA A.s (W.came + 1) x, v := upA A.v (W.came + 1) v } (W.add (W.came + 1) S) ∧ Frm g g' (W.foot A) ((W.add (W.came + 1) S).foot { A with s := upA A.s (W.came + 1) x, v := upA A.v (W.came + 1) v }) := by
  have nk : W.came + 1 ∉ W.keys := fun z => by have := wf.pos _ z; omega
  have fn : (W.add (W.came + 1) S).find (W.came + 1) = some S := by rw [Wd.find_add, wf.find_none.mpr nk]; simp
  have old : ∀ l, W.ok l → A.at l ≠ x ∧ A.at l ≠ v := fun l hl => ⟨fun z => (by have := h.ob l hl; rw [z, hx] at this; cases this), fun z => (by have := h.ob l hl; rw [z, hv] at this; cases this)⟩
  have wd : A.w ≠ A.d := fun z => by have := h.ij .w .d trivial trivial z; cases this
  obtain ⟨wx, wv⟩ : A.w ≠ x ∧ A.w ≠ v := old .w trivial
  obtain ⟨dx, dv⟩ : A.d ≠ x ∧ A.d ≠ v := old .d trivial
  have key : ∀ m, m ∈ (W.add (W.came + 1) S).keys → (m = W.came + 1) ∨ (m ∈ W.keys ∧ m ≠ W.came + 1) := fun m hm => by
    rw [Wd.add_keys] at hm
    rcases List.mem_append.mp hm with z | z
    · exact .inr ⟨z, fun q => nk (q ▸ z)⟩
    · exact .inl (by simpa using z)
  have fo : ∀ m ∈ W.keys, (W.add (W.came + 1) S).find m = W.find m := fun m hm => by
    obtain ⟨y, e⟩ := wf.key_find hm
    rw [Wd.find_add, e]; rfl
  have gw : g'.get A.w = some (.ins (He.ga K "Wood") [("sayings", .ref A.d), ("came", .int (W.came + 1)), ("clock", .int W.clock)]) := by
    rw [hg, G.set_ne wd, G.set_ne wx, G.set_ne wv, G.set_same]
  have gd : g'.get A.d = some (.dct (rowKvs A W ++ [(.inl (W.came + 1), .ref x)])) := by rw [hg, G.set_same]
  have gx : g'.get x = some (.ins (He.ga K "Saying") (sayFs S v)) := by rw [hg, G.set_ne (Ne.symm dx), G.set_same]
  have gv : g'.get v = some (.dct []) := by rw [hg, G.set_ne (Ne.symm dv), G.set_ne ne, G.set_same]
  have gs : ∀ l, W.ok l → l ≠ .w → l ≠ .d → g'.get (A.at l) = g.get (A.at l) := fun l hl n1 n2 => by
    obtain ⟨q1, q2⟩ := old l hl
    rw [hg, G.set_ne (show A.at l ≠ A.d from fun z => n2 (h.ij l .d hl trivial z)), G.set_ne q1, G.set_ne q2, G.set_ne (show A.at l ≠ A.w from fun z => n1 (h.ij l .w hl trivial z))]
  have ats : ∀ m, m ≠ W.came + 1 → upA A.s (W.came + 1) x m = A.s m := fun m hm => if_neg hm
  have atv : ∀ m, m ≠ W.came + 1 → upA A.v (W.came + 1) v m = A.v m := fun m hm => if_neg hm
  refine ⟨⟨fun l hl => ?_, fun l l' hl hl' e => ?_⟩, ⟨fun a ha hn => ?_, fun a ⟨l, hl, e⟩ => ?_, fun a ha => ?_, by rw [hg]; rfl, by rw [hg]; rfl⟩⟩
  · cases l with
    | w => exact gw
    | d =>
      show g'.get A.d = some (.dct (rowKvs _ _))
      rw [gd]
      have : rowKvs { A with s := upA A.s (W.came + 1) x, v := upA A.v (W.came + 1) v } (W.add (W.came + 1) S) = rowKvs A W ++ [(.inl (W.came + 1), .ref x)] := by
        unfold rowKvs Wd.add
        rw [List.map_append]
        congr 1
        · apply List.map_congr_left
          intro p hp
          have : p.1 ≠ W.came + 1 := fun z => nk (z ▸ List.mem_map.mpr ⟨p, hp, rfl⟩)
          show ((Sum.inl p.1 : Key), D.ref (upA A.s (W.came + 1) x p.1)) = _
          rw [ats _ this]
        · show [((Sum.inl (W.came + 1) : Key), D.ref (upA A.s (W.came + 1) x (W.came + 1)))] = _
          simp [upA]
      rw [this]
    | s m =>
      rcases key m hl with rfl | ⟨hm, nm⟩
      · show g'.get (upA A.s (W.came + 1) x (W.came + 1)) = some (.ins _ (sayFs _ (upA A.v (W.came + 1) v (W.came + 1))))
        rw [fn]
        simp only [upA, if_true, Option.getD_some]
        exact gx
      · show g'.get (upA A.s (W.came + 1) x m) = some (.ins _ (sayFs _ (upA A.v (W.came + 1) v m)))
        rw [ats m nm, atv m nm, fo m hm]
        have := gs (.s m) hm (by simp) (by simp)
        exact this.trans (h.ob (.s m) hm)
    | v m =>
      rcases key m hl with rfl | ⟨hm, nm⟩
      · show g'.get (upA A.v (W.came + 1) v (W.came + 1)) = some (.dct (voteKvs _))
        rw [fn]
        simp only [upA, if_true, Option.getD_some, voteKvs, hS, List.map_nil]
        exact gv
      · show g'.get (upA A.v (W.came + 1) v m) = some (.dct (voteKvs _))
        rw [atv m nm, fo m hm]
        have := gs (.v m) hm (by simp) (by simp)
        exact this.trans (h.ob (.v m) hm)
  · -- apart
    have cl : ∀ l, (W.add (W.came + 1) S).ok l → (l = .s (W.came + 1) ∧ Wa.at { A with s := upA A.s (W.came + 1) x, v := upA A.v (W.came + 1) v } l = x) ∨ (l = .v (W.came + 1) ∧ Wa.at { A with s := upA A.s (W.came + 1) x, v := upA A.v (W.came + 1) v } l = v) ∨ (W.ok l ∧ Wa.at { A with s := upA A.s (W.came + 1) x, v := upA A.v (W.came + 1) v } l = A.at l) := fun l hl => by
      cases l with
      | w => exact .inr (.inr ⟨trivial, rfl⟩)
      | d => exact .inr (.inr ⟨trivial, rfl⟩)
      | s m =>
        rcases key m hl with rfl | ⟨hm, nm⟩
        · exact .inl ⟨rfl, if_pos rfl⟩
        · exact .inr (.inr ⟨hm, ats m nm⟩)
      | v m =>
        rcases key m hl with rfl | ⟨hm, nm⟩
        · exact .inr (.inl ⟨rfl, if_pos rfl⟩)
        · exact .inr (.inr ⟨hm, atv m nm⟩)
    rcases cl l hl with ⟨rfl, q⟩ | ⟨rfl, q⟩ | ⟨q1, q⟩ <;> rcases cl l' hl' with ⟨rfl, q'⟩ | ⟨rfl, q'⟩ | ⟨q1', q'⟩ <;> try rfl
    all_goals rw [q, q'] at e
    · exact absurd e (Ne.symm ne)
    · exact absurd e.symm (old l' q1').1
    · exact absurd e ne
    · exact absurd e.symm (old l' q1').2
    · exact absurd e (old l q1).1
    · exact absurd e (old l q1).2
    · exact h.ij l l' q1 q1' e
  · have n1 : a ≠ A.w := fun z => hn ⟨.w, trivial, z.symm⟩
    have n2 : a ≠ A.d := fun z => hn ⟨.d, trivial, z.symm⟩
    have n3 : a ≠ x := fun z => ha (z ▸ hx)
    have n4 : a ≠ v := fun z => ha (z ▸ hv)
    rw [hg, G.set_ne n2, G.set_ne n3, G.set_ne n4, G.set_ne n1]
  · subst e
    cases l with
    | w => exact .inl ⟨.w, trivial, rfl⟩
    | d => exact .inl ⟨.d, trivial, rfl⟩
    | s m =>
      rcases key m hl with rfl | ⟨hm, nm⟩
      · exact .inr (by show g.get (upA A.s (W.came + 1) x (W.came + 1)) = none; simp [upA, hx])
      · exact .inl ⟨.s m, hm, (ats m nm).symm⟩
    | v m =>
      rcases key m hl with rfl | ⟨hm, nm⟩
      · exact .inr (by show g.get (upA A.v (W.came + 1) v (W.came + 1)) = none; simp [upA, hv])
      · exact .inl ⟨.v m, hm, (atv m nm).symm⟩
  · by_cases n2 : a = A.d
    · rw [n2, gd]; simp
    · by_cases n1 : a = A.w
      · rw [n1, gw]; simp
      · have n3 : a ≠ x := fun z => ha (z ▸ hx)
        have n4 : a ≠ v := fun z => ha (z ▸ hv)
        rw [hg, G.set_ne n2, G.set_ne n3, G.set_ne n4, G.set_ne n1]; exact ha
theorem fm_len {α β : Type} {f : α → List β} {b : Nat} : ∀ {l : List α}, (∀ x ∈ l, (f x).length ≤ b) → (l.flatMap f).length ≤ l.length * b
  | [], _ => by simp
  | x :: l, h => by
    rw [List.flatMap_cons, List.length_append, List.length_cons, Nat.succ_mul]
    have h1 := h x List.mem_cons_self
    have h2 := fm_len (l := l) fun y hy => h y (List.mem_cons_of_mem _ hy)
    omega
theorem below_len {W : Wd} {n : Int} (h : WF W) : (W.below n).length ≤ 60 := Nat.le_trans (List.length_filter_le _ _) (by have := h.len; simp [Wd.keys]; omega)
theorem replies_len {W : Wd} {n : Int} (h : WF W) : (W.replies n).length ≤ 60 := Nat.le_trans (List.length_filter_le _ _) (by have := h.len; simp [Wd.keys]; omega)
/-- a promise about nothing -/
theorem mtd_none {P : Program} {w : World} {K : PySem.W.Frag} {mg : Str → Option Value} {base : Heap} {T : List (Addr × Str)} {st : Stmt} {N ps : List Str} {k : Nat} {C : Addr} {m qual : Str} (d : DefC K C m qual st) (S : FnScope N ps (defScope st)) (b : Bnd m qual st ps) : Mtd P w K mg base T (k + 1) C m ps.length (fun _ _ _ => False) :=
  mtdD d S b fun f => ⟨fun _ _ _ => False, fun cdv A outer s H E hr => ⟨fun h => h.elim⟩, fun _ _ _ _ h => h.elim⟩
end DL
namespace DL
open PySem PySem.Spec L2
theorem lay_ints : ∀ as : List Int, PyData.canLayAll0 (as.map PyData.int) = true
  | [] => rfl
  | a :: as => by simp [PyData.canLayAll0, PyData.canLay0, lay_ints as]
theorem depth_ints : ∀ as : List Int, PyData.depthAll (as.map PyData.int) = 0
  | [] => by simp [PyData.depthAll]
  | a :: as => by simp [PyData.depthAll, PyData.depth, depth_ints as]
theorem shaped_ints (as : List Int) : SeqAt.shaped (.list (as.map PyData.int)) = true := by
  simp [SeqAt.shaped, PyData.canLay0, PyData.depth, lay_ints as, depth_ints as]
theorem eqvAll_ints : ∀ as bs : List Int, PyData.eqvAll (as.map PyData.int) (bs.map PyData.int) = decide (as = bs)
  | [], [] => by simp [PyData.eqvAll]
  | [], _ :: _ => by simp [PyData.eqvAll]
  | _ :: _, [] => by simp [PyData.eqvAll]
  | a :: as, b :: bs => by
    simp only [List.map_cons, PyData.eqvAll, PyData.eqv, eqvAll_ints as bs]
    by_cases h : a = b <;> simp [h]
theorem eqF_ints {g : G} {as bs : List Int} : eqF g (.lst (as.map D.int)) (.lst (bs.map D.int)) = some (.bl (decide (as = bs))) := by
  have := shaped_ints as
  have h2 := shaped_ints bs
  simp [eqF, eqB, toV, eqP, py, this, h2, PyData.eqv, eqvAll_ints, -List.map_map]
theorem neF_ints {g : G} {as bs : List Int} : neF g (.lst (as.map D.int)) (.lst (bs.map D.int)) = some (.bl (!decide (as = bs))) := by
  have := shaped_ints as
  have h2 := shaped_ints bs
  simp [neF, eqB, toV, eqP, py, this, h2, PyData.eqv, eqvAll_ints, -List.map_map]
end DL

set_option Elab.async false
set_option linter.all false
set_option maxRecDepth 100000
set_option maxHeartbeats 2000000
set_option autoImplicit false
/-! OL: the law's own wood: rows by numbers; the same wood as the program's. -/
namespace DL
open PySem PySem.Spec L2
def rowFs (S : Say) (v : Addr) : List (Key × D) := [(.inr "by", .str S.by_), (.inr "under", .int S.under), (.inr "text", if S.struck = true then .non else .str S.text), (.inr "time", .int S.time), (.inr "votes", .ref v)]
def Wd.own (A : Wa) (W : Wd) : Lc → MO
  | .w => .dct [(.inr "rows", .ref A.d), (.inr "came", .int W.came), (.inr "clock", .int W.clock)]
  | .d => .dct (rowKvs A W)
  | .s n => .dct (rowFs ((W.find n).getD noSay) (A.v n))
  | .v n => .dct (voteKvs ((W.find n).getD noSay))
structure OwnIn (g : G) (A : Wa) (W : Wd) : Prop where
  ob : ∀ l, W.ok l → g.get (A.at l) = some (W.own A l)
  ij : ∀ l l', W.ok l → W.ok l' → A.at l = A.at l' → l = l'
structure RowIn (g : G) (s v : Addr) (S : Say) : Prop where
  hs : g.get s = some (.dct (rowFs S v))
  hv : g.get v = some (.dct (voteKvs S))
  nd : (S.votes.map (·.1)).Nodup
  ln : S.votes.length ≤ 60000
namespace OwnIn
variable {g : G} {A : Wa} {W : Wd}
theorem hw (h : OwnIn g A W) : g.get A.w = some (.dct [(.inr "rows", .ref A.d), (.inr "came", .int W.came), (.inr "clock", .int W.clock)]) := h.ob .w trivial
theorem hd (h : OwnIn g A W) : g.get A.d = some (.dct (rowKvs A W)) := h.ob .d trivial
theorem hs (h : OwnIn g A W) {n : Int} {S : Say} (e : W.find n = some S) : g.get (A.s n) = some (.dct (rowFs S (A.v n))) := by
  have := h.ob (.s n) (WF.find_key e)
  simpa [Wd.own, Wa.at, e] using this
theorem hv (h : OwnIn g A W) {n : Int} {S : Say} (e : W.find n = some S) : g.get (A.v n) = some (.dct (voteKvs S)) := by
  have := h.ob (.v n) (WF.find_key e)
  simpa [Wd.own, Wa.at, e] using this
/-- one object changed -/
theorem upd (h : OwnIn g A W) {W' : Wd} {o : MO} (l0 : Lc) (h0 : W.ok l0) (hok : ∀ l, W'.ok l → W.ok l) (ho : W'.own A l0 = o) (hobj : ∀ l, W'.ok l → l ≠ l0 → W'.own A l = W.own A l) : OwnIn (g.set (A.at l0) o) A W' := by
  refine ⟨fun l hl => ?_, fun l l' hl hl' => h.ij l l' (hok l hl) (hok l' hl')⟩
  by_cases e : l = l0
  · subst e; rw [G.set_same, ho]
  · rw [G.set_ne (fun z => e (h.ij l l0 (hok l hl) h0 z)), h.ob l (hok l hl), hobj l hl e]
theorem frm_upd (h : OwnIn g A W) {W' : Wd} {o : MO} (l0 : Lc) (h0 : W.ok l0) (hok : ∀ l, W'.ok l → W.ok l) : Frm g (g.set (A.at l0) o) (W.foot A) (W'.foot A) := by
  refine ⟨fun a _ hn => G.set_ne fun z => hn ⟨l0, h0, z.symm⟩, fun a ⟨l, hl, e⟩ => .inl ⟨l, hok l hl, e⟩, fun a ha => ?_, rfl, rfl⟩
  by_cases e : a = A.at l0
  · subst e; rw [G.set_same]; simp
  · rw [G.set_ne e]; exact ha
/-- what stays -/
theorem frm (h : OwnIn g A W) {g' : G} {F F' : Addr → Prop} (f : Frm g g' F F') (hn : ∀ a, W.foot A a → ¬ F a) : OwnIn g' A W :=
  ⟨fun l hl => by rw [f.out _ (by rw [h.ob l hl]; simp) (hn _ ⟨l, hl, rfl⟩), h.ob l hl], h.ij⟩
end OwnIn
namespace OwnIn
variable {g : G} {A : Wa} {W : Wd} {n : Int} {S S' : Say}
/-- a saying changed but for its votes -/
theorem putS (h : OwnIn g A W) (e : W.find n = some S) (hv : S'.votes = S.votes) : OwnIn (g.set (A.s n) (.dct (rowFs S' (A.v n)))) A (W.put n S') ∧ Frm g (g.set (A.s n) (.dct (rowFs S' (A.v n)))) (W.foot A) ((W.put n S').foot A) := by
  refine ⟨h.upd (.s n) (WF.find_key e) (fun l hl => WoodIn.okPut hl) ?_ (fun l _ ne => ?_), h.frm_upd (.s n) (WF.find_key e) (fun l hl => WoodIn.okPut hl)⟩
  · simp [Wd.own, Wd.find_put, e]
  · cases l with
    | w => rfl
    | d => simp [Wd.own, WoodIn.rowsPut]
    | s m =>
      have : m ≠ n := fun z => ne (by rw [z])
      simp [Wd.own, Wd.find_put, this]
    | v m =>
      by_cases q : m = n
      · subst q; simp [Wd.own, Wd.find_put, e, voteKvs, hv]
      · simp [Wd.own, Wd.find_put, q]
/-- a saying's votes changed -/
theorem putV (h : OwnIn g A W) {a : Nat} (e : W.find n = some S) {vs : List (Str × Int)} : OwnIn (g.set (A.v n) (.dct (vs.map fun p => (.inr p.1, .int p.2)))) A ({ W with age := a }.put n { S with votes := vs }) ∧ Frm g (g.set (A.v n) (.dct (vs.map fun p => (.inr p.1, .int p.2)))) (W.foot A) (({ W with age := a }.put n { S with votes := vs }).foot A) := by
  have hf : ∀ m, ({ W with age := a } : Wd).find m = W.find m := fun _ => rfl
  refine ⟨h.upd (.v n) (WF.find_key e) (fun l hl => WoodIn.okPut (W := { W with age := a }) hl) ?_ (fun l _ ne => ?_), h.frm_upd (.v n) (WF.find_key e) (fun l hl => WoodIn.okPut (W := { W with age := a }) hl)⟩
  · simp [Wd.own, Wd.find_put, hf, e, voteKvs]
  · cases l with
    | w => rfl
    | d => simp [Wd.own, WoodIn.rowsPut]; rfl
    | s m =>
      by_cases q : m = n
      · subst q; simp [Wd.own, Wd.find_put, hf, e, rowFs]
      · simp [Wd.own, Wd.find_put, hf, q]
    | v m =>
      have : m ≠ n := fun z => ne (by rw [z])
      simp [Wd.own, Wd.find_put, hf, this]
/-- a saying gone -/
theorem dropS (h : OwnIn g A W) : OwnIn (g.set A.d (.dct (ddrop (rowKvs A W) (.inl n)))) A (W.drop n) ∧ Frm g (g.set A.d (.dct (ddrop (rowKvs A W) (.inl n)))) (W.foot A) ((W.drop n).foot A) := by
  refine ⟨h.upd .d trivial (fun l hl => WoodIn.okDrop hl) ?_ (fun l hl ne => ?_), h.frm_upd .d trivial (fun l hl => WoodIn.okDrop hl)⟩
  · simp [Wd.own, WoodIn.rowsDrop]
  · cases l with
    | w => rfl
    | d => exact absurd rfl ne
    | s m => simp [Wd.own, Wd.find_drop, (Wd.mem_drop_keys.mp hl).2]
    | v m => simp [Wd.own, Wd.find_drop, (Wd.mem_drop_keys.mp hl).2]
end OwnIn
/-! ### deeds among the objects -/
namespace OwnIn
variable {g : G} {A : Wa} {W : Wd} {n : Int} {S : Say}
theorem same (h : OwnIn g A W) {W' : Wd} (hok : ∀ l, W'.ok l → W.ok l) (hobj : ∀ l, W'.ok l → W'.own A l = W.own A l) : OwnIn g A W' ∧ Frm g g (W.foot A) (W'.foot A) :=
  ⟨⟨fun l hl => by rw [h.ob l (hok l hl), hobj l hl], fun l l' hl hl' => h.ij l l' (hok l hl) (hok l' hl')⟩, ⟨fun _ _ _ => rfl, fun a ⟨l, hl, e⟩ => .inl ⟨l, hok l hl, e⟩, fun _ h => h, rfl, rfl⟩⟩
/-- a vote is cast: what the objects are then -/
theorem voted (h : OwnIn g A W) (wf : WFa W) (e : W.find n = some S) {vs : List (Str × Int)} {g' : G} (nd : (vs.map (·.1)).Nodup) (hl : vs.length ≤ 60000) (hg : (g' = g ∧ vs = S.votes) ∨ g' = g.set (A.v n) (.dct (vs.map fun p => (.inr p.1, .int p.2)))) :
    OwnIn g' A ({ W with age := W.age + 1 }.put n { S with votes := vs }) ∧ Frm g g' (W.foot A) (({ W with age := W.age + 1 }.put n { S with votes := vs }).foot A) ∧ RowIn g' (A.s n) (A.v n) { S with votes := vs } := by
  have f : ({ W with age := W.age + 1 }.put n { S with votes := vs } : Wd).find n = some { S with votes := vs } := by
    rw [Wd.find_put, if_pos rfl, show ({ W with age := W.age + 1 } : Wd).find n = W.find n from rfl, e]; rfl
  have fin : OwnIn g' A ({ W with age := W.age + 1 }.put n { S with votes := vs }) → RowIn g' (A.s n) (A.v n) { S with votes := vs } := fun z => ⟨z.hs f, z.hv f, nd, hl⟩
  rcases hg with ⟨rfl, rfl⟩ | rfl
  · obtain ⟨p1, p2⟩ := h.same (W' := { W with age := W.age + 1 }.put n { S with votes := S.votes }) (fun l hl => WoodIn.okPut (W := { W with age := W.age + 1 }) hl) (fun l _ => by
      cases l with
      | w => rfl
      | d => simp [Wd.own, WoodIn.rowsPut]; rfl
      | s m =>
        have hf : ({ W with age := W.age + 1 } : Wd).find m = W.find m := rfl
        by_cases q : m = n
        · subst q; simp [Wd.own, Wd.find_put, hf, e, rowFs]
        · simp [Wd.own, Wd.find_put, hf, q]
      | v m =>
        have hf : ({ W with age := W.age + 1 } : Wd).find m = W.find m := rfl
        by_cases q : m = n
        · subst q; simp [Wd.own, Wd.find_put, hf, e, voteKvs]
        · simp [Wd.own, Wd.find_put, hf, q])
    exact ⟨p1, p2, fin p1⟩
  · obtain ⟨p1, p2⟩ := h.putV (a := W.age + 1) e (vs := vs)
    exact ⟨p1, p2, fin p1⟩
end OwnIn
/-- a saying is added: what the objects are then -/
theorem OwnIn.added {g : G} {A : Wa} {W : Wd} (h : OwnIn g A W) (wf : WF W) {S : Say} {x v : Addr} (hS : S.votes = []) (hx : g.get x = none) (hv : g.get v = none) (ne : v ≠ x) {g' : G}
    (hg : g' = ((((g.set A.w (.dct [(.inr "rows", .ref A.d), (.inr "came", .int (W.came + 1)), (.inr "clock", .int W.clock)])).set v (.dct [])).set x (.dct (rowFs S v))).set A.d (.dct (rowKvs A W ++ [(.inl (W.came + 1), .ref x)])))) :
    OwnIn g' { A with s := upA A.s (W.came + 1) x, v := upA A.v (W.came + 1) v } (W.add (W.came + 1) S) ∧ Frm g g' (W.foot A) ((W.add (W.came + 1) S).foot { A with s := upA A.s (W.came + 1) x, v := upA A.v (W.came + 1) v }) := by
  have nk : W.came + 1 ∉ W.keys := fun z => by have := wf.pos _ z; omega
  have fn : (W.add (W.came + 1) S).find (W.came + 1) = some S := by rw [Wd.find_add, wf.find_none.mpr nk]; simp
  have old : ∀ l, W.ok l → A.at l ≠ x ∧ A.at l ≠ v := fun l hl => ⟨fun z => (by have := h.ob l hl; rw [z, hx] at this; cases this), fun z => (by have := h.ob l hl; rw [z, hv] at this; cases this)⟩
  have wd : A.w ≠ A.d := fun z => by have := h.ij .w .d trivial trivial z; cases this
  obtain ⟨wx, wv⟩ : A.w ≠ x ∧ A.w ≠ v := old .w trivial
  obtain ⟨dx, dv⟩ : A.d ≠ x ∧ A.d ≠ v := old .d trivial
  have key : ∀ m, m ∈ (W.add (W.came + 1) S).keys → (m = W.came + 1) ∨ (m ∈ W.keys ∧ m ≠ W.came + 1) := fun m hm => by
    rw [Wd.add_keys] at hm
    rcases List.mem_append.mp hm with z | z
    · exact .inr ⟨z, fun q => nk (q ▸ z)⟩
    · exact .inl (by simpa using z)
  have fo : ∀ m ∈ W.keys, (W.add (W.came + 1) S).find m = W.find m := fun m hm => by
    obtain ⟨y, e⟩ := wf.key_find hm
    rw [Wd.find_add, e]; rfl
  have gw : g'.get A.w = some (.dct [(.inr "rows", .ref A.d), (.inr "came", .int (W.came + 1)), (.inr "clock", .int W.clock)]) := by
    rw [hg, G.set_ne wd, G.set_ne wx, G.set_ne wv, G.set_same]
  have gd : g'.get A.d = some (.dct (rowKvs A W ++ [(.inl (W.came + 1), .ref x)])) := by rw [hg, G.set_same]
  have gx : g'.get x = some (.dct (rowFs S v)) := by rw [hg, G.set_ne (Ne.symm dx), G.set_same]
  have gv : g'.get v = some (.dct []) := by rw [hg, G.set_ne (Ne.symm dv), G.set_ne ne, G.set_same]
  have gs : ∀ l, W.ok l → l ≠ .w → l ≠ .d → g'.get (A.at l) = g.get (A.at l) := fun l hl n1 n2 => by
    obtain ⟨q1, q2⟩ := old l hl
    rw [hg, G.set_ne (show A.at l ≠ A.d from fun z => n2 (h.ij l .d hl trivial z)), G.set_ne q1, G.set_ne q2, G.set_ne (show A.at l ≠ A.w from fun z => n1 (h.ij l .w hl trivial z))]
  have ats : ∀ m, m ≠ W.came + 1 → upA A.s (W.came + 1) x m = A.s m := fun m hm => if_neg hm
  have atv : ∀ m, m ≠ W.came + 1 → upA A.v (W.came + 1) v m = A.v m := fun m hm => if_neg hm
  refine ⟨⟨fun l hl => ?_, fun l l' hl hl' e => ?_⟩, ⟨fun a ha hn => ?_, fun a ⟨l, hl, e⟩ => ?_, fun a ha => ?_, by rw [hg]; rfl, by rw [hg]; rfl⟩⟩
  · cases l with
    | w => exact gw
    | d =>
      show g'.get A.d = some (.dct (rowKvs _ _))
      rw [gd]
      have : rowKvs { A with s := upA A.s (W.came + 1) x, v := upA A.v (W.came + 1) v } (W.add (W.came + 1) S) = rowKvs A W ++ [(.inl (W.came + 1), .ref x)] := by
        unfold rowKvs Wd.add
        rw [List.map_append]
        congr 1
        · apply List.map_congr_left
          intro p hp
          have : p.1 ≠ W.came + 1 := fun z => nk (z ▸ List.mem_map.mpr ⟨p, hp, rfl⟩)
          show ((Sum.inl p.1 : Key), D.ref (upA A.s (W.came + 1) x p.1)) = _
          rw [ats _ this]
        · show [((Sum.inl (W.came + 1) : Key), D.ref (upA A.s (W.came + 1) x (W.came + 1)))] = _
          simp [upA]
      rw [this]
    | s m =>
      rcases key m hl with rfl | ⟨hm, nm⟩
      · show g'.get (upA A.s (W.came + 1) x (W.came + 1)) = some (.dct (rowFs _ (upA A.v (W.came + 1) v (W.came + 1))))
        rw [fn]
        simp only [upA, if_true, Option.getD_some]
        exact gx
      · show g'.get (upA A.s (W.came + 1) x m) = some (.dct (rowFs _ (upA A.v (W.came + 1) v m)))
        rw [ats m nm, atv m nm, fo m hm]
        have := gs (.s m) hm (by simp) (by simp)
        exact this.trans (h.ob (.s m) hm)
    | v m =>
      rcases key m hl with rfl | ⟨hm, nm⟩
      · show g'.get (upA A.v (W.came + 1) v (W.came + 1)) = some (.dct (voteKvs _))
        rw [fn]
        simp only [upA, if_true, Option.getD_some, voteKvs, hS, List.map_nil]
        exact gv
      · show g'.get (upA A.v (W.came + 1) v m) = some (.dct (voteKvs _))
        rw [atv m nm, fo m hm]
        have := gs (.v m) hm (by simp) (by simp)
        exact this.trans (h.ob (.v m) hm)
  · -- apart
    have cl : ∀ l, (W.add (W.came + 1) S).ok l → (l = .s (W.came + 1) ∧ Wa.at { A with s := upA A.s (W.came + 1) x, v := upA A.v (W.came + 1) v } l = x) ∨ (l = .v (W.came + 1) ∧ Wa.at { A with s := upA A.s (W.came + 1) x, v := upA A.v (W.came + 1) v } l = v) ∨ (W.ok l ∧ Wa.at { A with s := upA A.s (W.came + 1) x, v := upA A.v (W.came + 1) v } l = A.at l) := fun l hl => by
      cases l with
      | w => exact .inr (.inr ⟨trivial, rfl⟩)
      | d => exact .inr (.inr ⟨trivial, rfl⟩)
      | s m =>
        rcases key m hl with rfl | ⟨hm, nm⟩
        · exact .inl ⟨rfl, if_pos rfl⟩
        · exact .inr (.inr ⟨hm, ats m nm⟩)
      | v m =>
        rcases key m hl with rfl | ⟨hm, nm⟩
        · exact .inr (.inl ⟨rfl, if_pos rfl⟩)
        · exact .inr (.inr ⟨hm, atv m nm⟩)
    rcases cl l hl with ⟨rfl, q⟩ | ⟨rfl, q⟩ | ⟨q1, q⟩ <;> rcases cl l' hl' with ⟨rfl, q'⟩ | ⟨rfl, q'⟩ | ⟨q1', q'⟩ <;> try rfl
    all_goals rw [q, q'] at e
    · exact absurd e (Ne.symm ne)
    · exact absurd e.symm (old l' q1').1
    · exact absurd e ne
    · exact absurd e.symm (old l' q1').2
    · exact absurd e (old l q1).1
    · exact absurd e (old l q1).2
    · exact h.ij l l' q1 q1' e
  · have n1 : a ≠ A.w := fun z => hn ⟨.w, trivial, z.symm⟩
    have n2 : a ≠ A.d := fun z => hn ⟨.d, trivial, z.symm⟩
    have n3 : a ≠ x := fun z => ha (z ▸ hx)
    have n4 : a ≠ v := fun z => ha (z ▸ hv)
    rw [hg, G.set_ne n2, G.set_ne n3, G.set_ne n4, G.set_ne n1]
  · subst e
    cases l with
    | w => exact .inl ⟨.w, trivial, rfl⟩
    | d => exact .inl ⟨.d, trivial, rfl⟩
    | s m =>
      rcases key m hl with rfl | ⟨hm, nm⟩
      · exact .inr (by show g.get (upA A.s (W.came + 1) x (W.came + 1)) = none; simp [upA, hx])
      · exact .inl ⟨.s m, hm, (ats m nm).symm⟩
    | v m =>
      rcases key m hl with rfl | ⟨hm, nm⟩
      · exact .inr (by show g.get (upA A.v (W.came + 1) v (W.came + 1)) = none; simp [upA, hv])
      · exact .inl ⟨.v m, hm, (atv m nm).symm⟩
  · by_cases n2 : a = A.d
    · rw [n2, gd]; simp
    · by_cases n1 : a = A.w
      · rw [n1, gw]; simp
      · have n3 : a ≠ x := fun z => ha (z ▸ hx)
        have n4 : a ≠ v := fun z => ha (z ▸ hv)
        rw [hg, G.set_ne n2, G.set_ne n3, G.set_ne n4, G.set_ne n1]; exact ha
end DL

set_option Elab.async false
set_option linter.all false
set_option maxRecDepth 100000
set_option maxHeartbeats 2000000
set_option autoImplicit false
/-! LS: deeds as data; what the law's defs promise; what a deed keeps. -/
namespace DL
open PySem PySem.Spec L2
inductive Deed where
  | say (u : Int) (b t : Str)
  | vote (n : Int) (b : Str) (y : Int)
  | tick (m : Int) (b : Str)
  | strike (n : Int) (b : Str)
  | change (n : Int) (b t : Str)
namespace Deed
def d : Deed → D
  | say u b t => .tup [.str "say", .int u, .str b, .str t]
  | vote n b y => .tup [.str "vote", .int n, .str b, .int y]
  | tick m b => .tup [.str "tick", .int m, .str b]
  | strike n b => .tup [.str "strike", .int n, .str b]
  | change n b t => .tup [.str "change", .int n, .str b, .str t]
def ok : Deed → Prop
  | say _ b t => okName (.str b) = true ∧ okText (.str t) = true
  | vote _ b y => okName (.str b) = true ∧ -1 ≤ y ∧ y ≤ 1
  | tick m _ => 0 ≤ m ∧ m ≤ 1000
  | strike _ b => okName (.str b) = true
  | change _ b t => okName (.str b) = true ∧ okText (.str t) = true
def out (W : Wd) : Deed → Out
  | say u b t => W.sayR b u t
  | vote n b y => W.voteR n b y
  | tick m _ => W.tickR m
  | strike n b => W.strikeR n b
  | change n b t => W.changeR n b t
end Deed
def outW (W : Wd) : Out → Wd
  | .error _ => W
  | .ok (W', _) => W'
def refused (e : Str) : D := .tup [.str "refused", .str e]
def outD : Out → D
  | .error e => refused e
  | .ok (_, d) => d
/-- what a deed tells, and what is then -/
def does (I : G → Wa → Wd → Prop) (A : Wa) (W : Wd) (g : G) (Kt : KR) (o : Out) : Prop :=
  ∀ g' A', A'.w = A.w → I g' A' (outW W o) → Frm g g' (W.foot A) ((outW W o).foot A') → Kt (.val (outD o)) g'
theorem does_err {I : G → Wa → Wd → Prop} {A : Wa} {W : Wd} {g : G} {Kt : KR} {e : Str} (hi : I g A W) (h : does I A W g Kt (.error e)) : Kt (.val (refused e)) g := h g A rfl hi Frm.refl
/-! ### what a deed keeps -/
theorem goes_wf : ∀ (k : Nat) (W : Wd) (n m : Int), WF W → WF (Wd.goes k W n m).1 ∧ (Wd.goes k W n m).1.age = W.age
  | 0, W, n, m, h => ⟨h, rfl⟩
  | k + 1, W, n, m, h => by
    unfold Wd.goes
    split
    · exact ⟨h, rfl⟩
    · rename_i z
      split
      · exact ⟨h, rfl⟩
      · rename_i S e
        split
        · rename_i q
          exact goes_wf k (W.drop n) S.under (m + 1) (h.drop q.2 z).1
        · exact ⟨h, rfl⟩
theorem deed_wf {W : Wd} (h : WF W) {dd : Deed} (hd : dd.ok) : WF (outW W (dd.out W)) ∧ (outW W (dd.out W)).age ≤ W.age + 1 := by
  have same : WF W ∧ W.age ≤ W.age + 1 := ⟨h, by omega⟩
  cases dd with
  | say u b t =>
    show WF (outW W (W.sayR b u t)) ∧ (outW W (W.sayR b u t)).age ≤ W.age + 1
    unfold Wd.sayR
    split
    · exact same
    split
    · exact same
    · rename_i h1 h2
      split
      · exact same
      split
      · exact same
      · rename_i h3 h4
        refine ⟨(h.add (S := ⟨b, u, t, W.clock, [], false⟩) ?_ (by omega) ?_ (okName_len hd.1) (okText_len hd.2) rfl).1, Nat.le_succ _⟩
        · by_cases z : u = 0
          · exact .inl z
          · refine .inr ?_
            by_cases q : u ∈ W.keys
            · exact q
            · exact absurd ⟨z, q⟩ h2
        · by_cases z : u = 0
          · exact .inl z
          · refine .inr ?_
            by_cases q : (W.above u).length < 8
            · exact q
            · exact absurd (.inr ⟨z, by omega⟩) h4
  | vote n b y =>
    show WF (outW W (W.voteR n b y)) ∧ (outW W (W.voteR n b y)).age ≤ W.age + 1
    unfold Wd.voteR
    split
    · exact same
    · rename_i S e
      split
      · exact same
      split
      · exact same
      split
      · exact same
      · have m := WF.mem_find e
        have h1 : WF { W with age := W.age + 1 } := h.aged (c := W.clock) (Nat.le_succ _)
        refine ⟨(h1.put (n := n) (S := S) (S' := { S with votes := Wd.votesSet S.votes b y }) e rfl (h.nam n S m) (h.txt n S m) (votesSet_nd (h.vnd n S m)) (votesSet_wy (h.vwy n S m) hd.2) ?_).1, Nat.le_refl _⟩
        have := votesSet_len (vs := S.votes) (b := b) (w := y)
        have := h.vln n S m
        show (Wd.votesSet S.votes b y).length ≤ W.age + 1
        omega
  | tick m b =>
    show WF (outW W (W.tickR m)) ∧ (outW W (W.tickR m)).age ≤ W.age + 1
    unfold Wd.tickR
    split
    · exact ⟨h.tick m, Nat.le_succ _⟩
    · exact same
  | strike n b =>
    show WF (outW W (W.strikeR n b)) ∧ (outW W (W.strikeR n b)).age ≤ W.age + 1
    unfold Wd.strikeR
    split
    · exact same
    · rename_i S e
      obtain ⟨hf, _, _, _⟩ := ownR_ok e
      have m := WF.mem_find hf
      have w1 := (h.put (S' := { S with struck := true }) hf rfl (h.nam n S m) (h.txt n S m) (h.vnd n S m) (h.vwy n S m) (h.vln n S m)).1
      obtain ⟨q1, q2⟩ := goes_wf n.toNat _ n 0 w1
      exact ⟨q1, by show (Wd.goes _ _ _ _).1.age ≤ _; rw [q2]; exact Nat.le_succ _⟩
  | change n b t =>
    show WF (outW W (W.changeR n b t)) ∧ (outW W (W.changeR n b t)).age ≤ W.age + 1
    unfold Wd.changeR
    split
    · exact same
    · rename_i S e
      obtain ⟨hf, _, _, _⟩ := ownR_ok e
      have m := WF.mem_find hf
      split
      · exact same
      · exact ⟨(h.put (S' := { S with text := t }) hf rfl (h.nam n S m) (okText_len hd.2) (h.vnd n S m) (h.vwy n S m) (h.vln n S m)).1, Nat.le_succ _⟩
/-- who said it bears a name -/
def Named (W : Wd) : Prop := ∀ p ∈ W.rows, okName (.str p.2.by_) = true ∧ okText (.str p.2.text) = true
theorem Named.put {W : Wd} (h : Named W) {n : Int} {S : Say} (hS : okName (.str S.by_) = true ∧ okText (.str S.text) = true) : Named (W.put n S) := fun p hp => by
  obtain ⟨q, hq, e⟩ := List.mem_map.mp hp
  split at e
  · subst e; exact hS
  · subst e; exact h q hq
theorem Named.drop {W : Wd} (h : Named W) {n : Int} : Named (W.drop n) := fun p hp => h p (List.mem_filter.mp hp).1
theorem Named.goes : ∀ (k : Nat) (W : Wd) (n m : Int), Named W → Named (Wd.goes k W n m).1
  | 0, W, n, m, h => h
  | k + 1, W, n, m, h => by
    unfold Wd.goes
    split
    · exact h
    · split
      · exact h
      · split
        · exact Named.goes k _ _ _ h.drop
        · exact h
theorem Named.find {W : Wd} (h : Named W) {n : Int} {S : Say} (e : W.find n = some S) : okName (.str S.by_) = true ∧ okText (.str S.text) = true := h _ (WF.mem_find e)
theorem deed_named {W : Wd} (h : Named W) {dd : Deed} (hd : dd.ok) : Named (outW W (dd.out W)) := by
  cases dd with
  | say u b t =>
    show Named (outW W (W.sayR b u t))
    unfold Wd.sayR
    split
    · exact h
    split
    · exact h
    split
    · exact h
    split
    · exact h
    · intro p hp
      rcases List.mem_append.mp hp with z | z
      · exact h p z
      · have := List.mem_singleton.mp z
        subst this; exact hd
  | vote n b y =>
    show Named (outW W (W.voteR n b y))
    unfold Wd.voteR
    split
    · exact h
    · rename_i S e
      split
      · exact h
      split
      · exact h
      split
      · exact h
      · exact Named.put (W := { W with age := W.age + 1 }) h (show okName (.str S.by_) = true ∧ okText (.str S.text) = true from h.find e)
  | tick m b =>
    show Named (outW W (W.tickR m))
    unfold Wd.tickR
    split <;> exact h
  | strike n b =>
    show Named (outW W (W.strikeR n b))
    unfold Wd.strikeR
    split
    · exact h
    · rename_i S e
      obtain ⟨hf, _, _, _⟩ := ownR_ok e
      exact Named.goes _ _ _ _ (h.put (show okName (.str S.by_) = true ∧ okText (.str S.text) = true from h.find hf))
  | change n b t =>
    show Named (outW W (W.changeR n b t))
    unfold Wd.changeR
    split
    · exact h
    · rename_i S e
      obtain ⟨hf, _, _, _⟩ := ownR_ok e
      split
      · exact h
      · exact h.put (show okName (.str S.by_) = true ∧ okText (.str t) = true from ⟨(h.find hf).1, hd.2⟩)
/-! ### the law's own wood: what its defs promise -/
def op (f : Wa → Wd → List D → G → KR → Prop) : SpD := fun ds g Kt => ∃ A W r, ds = .ref A.w :: r ∧ OwnIn g A W ∧ WFa W ∧ f A W r g Kt
def sp_own0 : SpD := fun ds g Kt => ds = [] ∧ ∀ w d, g.get w = none → g.get d = none → w ≠ d → Kt (.val (.ref w)) ((g.set d (.dct [])).set w (.dct [(.inr "rows", .ref d), (.inr "came", .int 0), (.inr "clock", .int 0)]))
def sp_beneath : SpD := op fun A W r g Kt => ∃ n, r = [.int n] ∧ Kt (.val (.lst ((W.below n).map D.int))) g
def sp_above : SpD := op fun A W r g Kt => ∃ n, r = [.int n] ∧ isThere W n ∧ Kt (.val (.lst ((W.above n).map D.int))) g
def sp_lpoints : SpD := fun ds g Kt => ∃ s v S, ds = [.ref s] ∧ RowIn g s v S ∧ (∀ p ∈ S.votes, p.2 = 1 ∨ p.2 = -1) ∧ Kt (.val (.int S.pts)) g
def sp_lsay : SpD := op fun A W r g Kt => ∃ u b t, r = [.str b, .int u, .str t] ∧ NL g ∧ okName (.str b) = true ∧ okText (.str t) = true ∧ does OwnIn A W g Kt (W.sayR b u t)
def sp_lstrike : SpD := op fun A W r g Kt => ∃ n S, r = [.int n] ∧ W.find n = some S ∧ NL g ∧ does OwnIn A W g Kt (.ok ((Wd.goes n.toNat (W.put n { S with struck := true }) n 0).1, .int (Wd.goes n.toNat (W.put n { S with struck := true }) n 0).2))
def sp_act : SpD := op fun A W r g Kt => ∃ dd : Deed, r = [dd.d] ∧ NL g ∧ dd.ok ∧ does OwnIn A W g Kt (dd.out W)
def sp_do (K : PySem.W.Frag) : SpD := wp K fun A W r g Kt => ∃ dd : Deed, r = [dd.d] ∧ NL g ∧ dd.ok ∧ does (WoodIn K) A W g Kt (dd.out W)
def sp_like (K : PySem.W.Frag) : SpD := wp K fun A W r g Kt => ∃ B, r = [.ref B.w] ∧ OwnIn g B W ∧ NL g ∧ Kt (.val (.bl true)) g
def sp_one_like (K : PySem.W.Frag) : SpD := wp K fun A W r g Kt => ∃ B n, r = [.ref B.w, .int n] ∧ OwnIn g B W ∧ (∀ a, g.tl a = false) ∧ Named W ∧ n ∈ W.keys ∧ Kt (.val (.bl true)) g
/-! ### numbers -/
def sp_cell : SpD := fun ds g Kt => ∃ (ns : List Int) (k : Int), ds = [.frl (ns.map D.int), .int k] ∧ ns.length ≤ 63 ∧ 0 ≤ k ∧ k ≤ 1000000 ∧ ∀ z, Kt (.val (.int z)) g
def drawnZ (c k : Int) : Int :=
  let m := (c * 6364136223846793005 + (k + 1) * 1442695040888963407) % 340282366920938463463374607431768211507
  let m := m * m % 340282366920938463463374607431768211297
  let m := (m % 18446744073709551557 + 1) * (m / 18446744073709551557 + 1) * m
  m % 340282366920938463463374607431768211507
theorem drawnZ_bd (c k : Int) : 0 ≤ drawnZ c k ∧ drawnZ c k < 2 ^ 129 := by
  have e : (2 : Int) ^ 129 = 680564733841876926926749214863536422912 := by decide
  have h : ∀ m : Int, 0 ≤ m % 340282366920938463463374607431768211507 ∧ m % 340282366920938463463374607431768211507 < 2 ^ 129 := fun m => by rw [e]; omega
  exact h _
def sp_drawn : SpD := fun ds g Kt => ∃ c k, ds = [.int c, .int k] ∧ 0 ≤ k ∧ k ≤ 1000000 ∧ Kt (.val (.int (drawnZ c k))) g
def sp_any_name : SpD := fun ds g Kt => ∃ m, ds = [.int m, .int 6] ∧ ∀ x, okName (.str x) = true → Kt (.val (.str x)) g
def sp_any_text : SpD := fun ds g Kt => ∃ m, ds = [.int m, .int 29] ∧ ∀ x, x.length ≤ 29 → x.cps.toList.all okSign = true → Kt (.val (.str x)) g
def sp_deed : SpD := fun ds g Kt => ∃ m A W, ds = [.int m, .ref A.w] ∧ 0 ≤ m ∧ m < 2 ^ 129 ∧ OwnIn g A W ∧ WFa W ∧ (∀ a, g.tl a = false) ∧ Named W ∧ ∀ dd : Deed, dd.ok → Kt (.val dd.d) g
end DL

set_option Elab.async false
set_option linter.all false
set_option maxRecDepth 100000
set_option maxHeartbeats 2000000
set_option autoImplicit false
/-! LH: plain lemmas for the law's defs. -/
namespace DL
open PySem PySem.Spec L2
theorem dfind_cons {k k' : Key} {v : D} {l : List (Key × D)} : dfind ((k, v) :: l) k' = if k = k' then some v else dfind l k' := by
  unfold dfind
  rw [List.find?_cons]
  by_cases h : k = k'
  · simp [h]
  · simp [h]
theorem dfind_nil {k : Key} : dfind [] k = none := rfl
theorem eqF_frl {g : G} {as bs : List Int} : eqF g (.frl (as.map D.int)) (.lst (bs.map D.int)) = some (.bl (decide (as = bs))) := by
  have := shaped_ints as
  have h2 := shaped_ints bs
  simp [eqF, eqB, toV, eqP, py, this, h2, PyData.eqv, eqvAll_ints, -List.map_map]
theorem mulF_sm {g : G} {i j : Int} (h : -(2 ^ 64) < j ∧ j < 2 ^ 64) : mulF g (.int i) (.int j) = some (.int (i * j)) := by
  unfold mulF
  simp only []
  rw [if_pos h]
theorem two_le {a b : Nat} (h : a ≤ b) : (2 : Int) ^ a ≤ 2 ^ b := by
  have : (2 : Nat) ^ a ≤ 2 ^ b := Nat.pow_le_pow_right (by decide) h
  exact_mod_cast this
theorem natAbs_lt {i : Int} {a : Nat} (h0 : 0 ≤ i) (h : i < 2 ^ a) : i.natAbs < 2 ^ a := by
  have : (i.natAbs : Int) = i := Int.natAbs_of_nonneg h0
  have h2 : (i.natAbs : Int) < ((2 ^ a : Nat) : Int) := by rw [this]; exact_mod_cast h
  exact_mod_cast h2
theorem mulF_big {g : G} {i j : Int} (h0 : 0 ≤ i) (h1 : i < 2 ^ 200) (h2 : 0 ≤ j) (h3 : j < 2 ^ 200) : mulF g (.int i) (.int j) = some (.int (i * j)) := by
  unfold mulF
  simp only []
  split
  · rfl
  · rw [if_pos ⟨Nat.lt_of_lt_of_le (natAbs_lt h0 h1) (Nat.pow_le_pow_right (by decide) (by decide)), Nat.lt_of_lt_of_le (natAbs_lt h2 h3) (Nat.pow_le_pow_right (by decide) (by decide))⟩]
theorem mul_bd {i j : Int} {a b : Nat} (h0 : 0 ≤ i) (h1 : i < 2 ^ a) (h2 : 0 ≤ j) (h3 : j < 2 ^ b) : 0 ≤ i * j ∧ i * j < 2 ^ (a + b) := by
  refine ⟨Int.mul_nonneg h0 h2, ?_⟩
  rw [Int.pow_add]
  exact Int.lt_of_le_of_lt (Int.mul_le_mul_of_nonneg_left (Int.le_of_lt h3) h0) (Int.mul_lt_mul_of_pos_right h1 (Int.pow_pos (by decide)))
theorem modF_lit {g : G} {i j : Int} (h : 0 < j) : modF g (.int i) (.int j) = some (.int (i % j)) := if_pos h
theorem divF_lit {g : G} {i j : Int} (h : 0 < j) (h2 : j < 2 ^ 200) : divF g (.int i) (.int j) = some (.int (i / j)) := if_pos ⟨h, natAbs_lt (by omega) h2⟩
theorem atI_lt {α : Type} {xs : List α} {i : Int} (h0 : 0 ≤ i) (h1 : i < xs.length) : ∃ x, atI xs i = some x ∧ x ∈ xs := by
  have hl : i.toNat < xs.length := by omega
  refine ⟨xs[i.toNat], ?_, List.getElem_mem hl⟩
  unfold atI ixN
  rw [if_pos h0, if_pos h1]
  simp [hl]
theorem atI_map {α β : Type} {f : α → β} {xs : List α} {i : Int} : atI (xs.map f) i = (atI xs i).map f := by
  unfold atI
  rw [List.length_map]
  cases ixN xs.length i <;> simp
theorem inV_ints {n : Int} {xs : List Int} : inV (.int n) (xs.map V.int) = decide (n ∈ xs) := by
  unfold inV
  rw [List.any_map, Bool.eq_iff_iff]
  simp [eqV]
theorem inF_ints {g : G} {n : Int} {xs : List Int} : inF g (.int n) (.lst (xs.map D.int)) = some (.bl (decide (n ∈ xs))) := by
  simp [inF, inB, toV, items, inV_ints, -List.map_map]
/-- votes: their sum is how many are for, less how many are against -/
theorem votes_sum : ∀ {l : List (Str × Int)}, (∀ p ∈ l, p.2 = 1 ∨ p.2 = -1) → (l.map (·.2)).sum = ((l.filter fun p => decide (0 < p.2)).length : Nat) - ((l.filter fun p => decide (p.2 < 0)).length : Nat)
  | [], _ => rfl
  | p :: l, h => by
    have ih := votes_sum (l := l) fun q hq => h q (List.mem_cons_of_mem _ hq)
    rw [List.map_cons, List.sum_cons, ih, List.filter_cons, List.filter_cons]
    rcases h p List.mem_cons_self with e | e <;> rw [e] <;> simp <;> omega
theorem names_sum {l : List (Str × Int)} (nd : (l.map (·.1)).Nodup) : ((l.map (·.1)).map fun n => (l.lookup n).getD 0) = l.map (·.2) := by
  rw [List.map_map]
  apply List.map_congr_left
  intro p hp
  show (l.lookup p.1).getD 0 = p.2
  rw [lookup_votes nd hp]; rfl
theorem names_pts {S : Say} (nd : (S.votes.map (·.1)).Nodup) (h : ∀ p ∈ S.votes, p.2 = 1 ∨ p.2 = -1) : ((S.votes.map (·.1)).map fun n => (S.votes.lookup n).getD 0).sum = S.pts := by
  rw [names_sum nd, votes_sum h]; rfl
theorem WF.sorted_below {W : Wd} (h : WF W) {n : Int} : isort (W.below n) = W.below n := h.isort_filter _
theorem WF.sorted_replies {W : Wd} (h : WF W) {n : Int} : isort (W.replies n) = W.replies n := h.isort_filter _
theorem nat_inj (x y : Nat) (h : D.int (x : Int) = D.int (y : Int)) : x = y := by
  have := int_inj _ _ h
  omega
def sg (c : Nat) : Str := ⟨#[c]⟩
/-- a sign of a text at a drawn place -/
def signAt (z : Str) (i : Int) : Nat := (z.cps.toList[i.toNat]?).getD 120
theorem ixF_sign {g : G} {z : Str} {i : Int} (h : z.length ≤ 100000) (h0 : 0 ≤ i) (h1 : i < z.cps.toList.length) : ixF g (.str z) (.int i) = some (.str (sg (signAt z i))) ∧ signAt z i ∈ z.cps.toList := by
  have hl : i.toNat < z.cps.toList.length := by omega
  have e : signAt z i = z.cps.toList[i.toNat] := by
    unfold signAt
    rw [List.getElem?_eq_getElem hl]; rfl
  refine ⟨?_, by rw [e]; exact List.getElem_mem hl⟩
  unfold ixF
  simp only []
  rw [if_pos h]
  unfold atI ixN
  rw [if_pos h0, if_pos h1, e]
  simp only [Option.bind_some, List.getElem?_eq_getElem hl, Option.map_some]
  rfl
/-! texts -/
def signs94 : Str := " !\"#$&'()*+,-./0123456789:;<=>?@ABCDEFGHIJKLMNOPQRSTUVWXYZ[\\]^_`abcdefghijklmnopqrstuvwxyz{|}~"
theorem joinL_nil : ∀ ps : List (List Nat), TL.joinL [] ps = ps.flatten
  | [] => rfl
  | [p] => by simp [TL.joinL]
  | p :: q :: r => by
    have := joinL_nil (q :: r)
    simp [TL.joinL, this]
theorem join_signs (cs : List Nat) : (Txt.join "" (cs.map sg)).cps.toList = cs := by
  have h : TL.tl (Str.join "" (cs.map sg)) = cs := by
    rw [TL.tl_join]
    have e : TL.tl ("" : Str) = [] := rfl
    rw [e, joinL_nil, List.map_map]
    have : (cs.map (TL.tl ∘ sg)) = cs.map fun c => [c] := List.map_congr_left fun c _ => rfl
    rw [this]
    clear this e
    induction cs with
    | nil => rfl
    | cons c cs ih => simp [ih]
  have e2 : Txt.join "" (cs.map sg) = Str.join "" (cs.map sg) := StrLaws.glued_eq_join _ _
  rw [e2]
  exact h
theorem joinF_signs {g : G} {cs : List Nat} (h : cs.length ≤ 1000) : joinF g [.str "", .lst ((cs.map sg).map D.str)] = some (.str (Txt.join "" (cs.map sg))) := by
  have e : ((cs.map sg).map (·.length)).sum = cs.length := by
    rw [List.map_map]
    have : (cs.map ((·.length) ∘ sg)) = cs.map fun _ => 1 := List.map_congr_left fun c _ => rfl
    rw [this, List.map_const']
    simp
  have e2 : ("" : Str).length = 0 := rfl
  simp only [joinF, litems, Option.bind_some, strsOf_map, e, e2, List.length_map]
  rw [if_pos (by omega)]
theorem len_cps (x : Str) : x.length = x.cps.toList.length := rfl
theorem okName_join {cs : List Nat} (h1 : 1 ≤ cs.length) (h2 : cs.length ≤ 6) (h : ∀ c ∈ cs, c ∈ smallS.cps.toList) : okName (.str (Txt.join "" (cs.map sg))) = true := by
  unfold okName
  simp only [len_cps, join_signs, Bool.and_eq_true, decide_eq_true_eq, List.all_eq_true]
  exact ⟨⟨h1, h2⟩, h⟩
theorem mul_cps {c : Nat} {n : Int} (h : 1 ≤ n) : (Txt.mul (sg c) n).cps.toList = List.replicate n.toNat c := by
  unfold Txt.mul
  rw [if_neg (by omega)]
  split
  · rename_i q
    have : n = 1 := by simpa [sg, Str.length] using q
    subst this; rfl
  · have key : ∀ (k : Nat) (a : Array Nat), ((List.replicate k (sg c).cps).foldl (· ++ ·) a).toList = a.toList ++ List.replicate k c := by
      intro k
      induction k with
      | zero => intro a; simp
      | succ k ih =>
        intro a
        rw [List.replicate_succ, List.foldl_cons, ih]
        simp [sg, List.replicate_succ]
    have := key n.toNat #[]
    simpa using this
theorem okText_mul {c : Nat} {n : Int} (h1 : 1 ≤ n) (h2 : n ≤ 30) (h : okSign c = true) : okText (.str (Txt.mul (sg c) n)) = true := by
  unfold okText
  simp only [len_cps, mul_cps h1, Bool.and_eq_true, decide_eq_true_eq, List.all_eq_true, List.length_replicate]
  exact ⟨⟨by omega, by omega⟩, fun x hx => by rw [(List.mem_replicate.mp hx).2]; exact h⟩
theorem okText_x {x : Str} (h1 : x.length ≤ 29) (h : x.cps.toList.all okSign = true) : okText (.str (x ++ ("x" : Str))) = true := by
  have e : (x ++ ("x" : Str)).cps.toList = x.cps.toList ++ [120] := by
    show (x.cps ++ ("x" : Str).cps).toList = _
    rw [Array.toList_append]; rfl
  unfold okText
  simp only [len_cps, e, Bool.and_eq_true, decide_eq_true_eq, List.length_append]
  have h1' : x.cps.toList.length ≤ 29 := by rw [← len_cps]; exact h1
  refine ⟨⟨by simp only [List.length_cons, List.length_nil]; omega, by simp only [List.length_cons, List.length_nil]; omega⟩, ?_⟩
  rw [List.all_append, h]; rfl
end DL

set_option Elab.async false
set_option linter.all false
set_option maxRecDepth 100000
set_option maxHeartbeats 2000000
set_option autoImplicit false
/-! LK: deeds by their words. -/
namespace DL
open PySem PySem.Spec L2
namespace Deed
def word : Deed → Str
  | say _ _ _ => "say"
  | vote _ _ _ => "vote"
  | tick _ _ => "tick"
  | strike _ _ => "strike"
  | change _ _ _ => "change"
def num : Deed → Int
  | say u _ _ => u
  | vote n _ _ => n
  | tick m _ => m
  | strike n _ => n
  | change n _ _ => n
def by_ : Deed → Str
  | say _ b _ => b
  | vote _ b _ => b
  | tick _ b => b
  | strike _ b => b
  | change _ b _ => b
theorem cut3 (dd : Deed) : sliceF dd.d none (some 3) = some (.tup [.str dd.word, .int dd.num, .str dd.by_]) := by cases dd <;> rfl
theorem out_none {W : Wd} {dd : Deed} (h1 : dd.word ≠ "say") (h2 : dd.word ≠ "tick") (e : W.find dd.num = none) : dd.out W = .error "NoSaying" := by
  cases dd with
  | say u b t => exact absurd rfl h1
  | tick m b => exact absurd rfl h2
  | vote n b y =>
    have e' : W.find n = none := e
    simp [out, Wd.voteR, e']
  | strike n b =>
    have e' : W.find n = none := e
    simp [out, Wd.strikeR, Wd.ownR, e']
  | change n b t =>
    have e' : W.find n = none := e
    simp [out, Wd.changeR, Wd.ownR, e']
theorem out_not {W : Wd} {dd : Deed} {S : Say} (ok : dd.ok) (h1 : dd.word ≠ "say") (h2 : dd.word ≠ "tick") (e : W.find dd.num = some S) (h : S.struck = true ∨ decide (S.by_ = dd.by_) = decide (dd.word = "vote")) : dd.out W = .error "NotYours" := by
  cases dd with
  | say u b t => exact absurd rfl h1
  | tick m b => exact absurd rfl h2
  | vote n b y =>
    have e' : W.find n = some S := e
    obtain ⟨o1, o2⟩ := ok
    have h' : S.by_ = b ∨ S.struck = true := by
      rcases h with h | h
      · exact .inr h
      · have h2 : decide (S.by_ = b) = decide (("vote" : Str) = "vote") := h
        exact .inl (by simpa using h2)
    simp only [out, Wd.voteR, e']
    rw [if_neg (by rw [o1]; decide), if_neg (fun z => z o2), if_pos h']
  | strike n b =>
    have e' : W.find n = some S := e
    have o1 : okName (.str b) = true := ok
    have h' : S.by_ ≠ b ∨ S.struck = true := by
      rcases h with h | h
      · exact .inr h
      · have h2 : decide (S.by_ = b) = decide (("strike" : Str) = "vote") := h
        exact .inl (by simpa using h2)
    simp only [out, Wd.strikeR, Wd.ownR, e']
    rw [if_neg (by rw [o1]; decide), if_pos h']
  | change n b t =>
    have e' : W.find n = some S := e
    obtain ⟨o1, o2⟩ := ok
    have h' : S.by_ ≠ b ∨ S.struck = true := by
      rcases h with h | h
      · exact .inr h
      · have h2 : decide (S.by_ = b) = decide (("change" : Str) = "vote") := h
        exact .inl (by simpa using h2)
    simp only [out, Wd.changeR, Wd.ownR, e']
    rw [if_neg (by rw [o1]; decide), if_pos h']
/-- one's own, and not struck -/
theorem own_ok {W : Wd} {n : Int} {b : Str} {S : Say} (e : W.find n = some S) (o1 : okName (.str b) = true) (h1 : S.by_ = b) (h2 : S.struck = false) : W.ownR n b = .ok S := by
  simp only [Wd.ownR, e]
  rw [if_neg (by rw [o1]; decide), if_neg (by simp [h1, h2])]
end Deed
theorem ddrop_votes {S : Say} {b : Str} : ddrop (voteKvs S) (.inr b) = (S.votes.filter fun p => decide (p.1 ≠ b)).map fun p => ((.inr p.1 : Key), D.int p.2) := by
  unfold ddrop voteKvs
  rw [List.filter_map]
  congr 1
  apply List.filter_congr
  intro p _
  simp
theorem votes_none {l : List (Str × Int)} {b : Str} (z : l.lookup b = none) : (l.filter fun p => decide (p.1 ≠ b)) = l := by
  rw [List.lookup_eq_none_iff] at z
  rw [List.filter_eq_self]
  intro p hp
  have := z p hp
  simp at this ⊢
  exact fun q => this q.symm
theorem votesSet_0 {vs : List (Str × Int)} {b : Str} : Wd.votesSet vs b 0 = vs.filter fun p => decide (p.1 ≠ b) := by simp [Wd.votesSet]
theorem votesSet_1 {vs : List (Str × Int)} {b : Str} {y : Int} (h : y ≠ 0) : Wd.votesSet vs b y = (vs.filter fun p => decide (p.1 ≠ b)) ++ [(b, y)] := by simp [Wd.votesSet, h]
def names6 : List D := [.str "ann", .str "bob", .str "cy", .str "dd", .str "eve", .str "fay"]
theorem atI_names {i : Int} (h0 : 0 ≤ i) (h1 : i < 6) : ∃ b, atI names6 i = some (.str b) ∧ okName (.str b) = true := by
  obtain ⟨x, e, hx⟩ := atI_lt (xs := names6) h0 (by simpa [names6] using h1)
  rw [e]
  simp only [names6, List.mem_cons, List.not_mem_nil, or_false] at hx
  rcases hx with rfl | rfl | rfl | rfl | rfl | rfl <;> exact ⟨_, rfl, by decide +kernel⟩
theorem atI_5_30 {i : Int} (h0 : 0 ≤ i) (h1 : i < 2) : ∃ x, atI [D.int 5, D.int 30] i = some (.int x) ∧ (x = 5 ∨ x = 30) := by
  obtain ⟨x, e, hx⟩ := atI_lt (xs := [D.int 5, D.int 30]) h0 (by simpa using h1)
  rw [e]
  simp only [List.mem_cons, List.not_mem_nil, or_false] at hx
  rcases hx with rfl | rfl
  · exact ⟨_, rfl, .inl rfl⟩
  · exact ⟨_, rfl, .inr rfl⟩
theorem atI_ways {i : Int} (h0 : 0 ≤ i) (h1 : i < 5) : ∃ x, atI [D.int 1, D.int (-1), D.int 1, D.int (-1), D.int 0] i = some (.int x) ∧ -1 ≤ x ∧ x ≤ 1 := by
  obtain ⟨x, e, hx⟩ := atI_lt (xs := [D.int 1, D.int (-1), D.int 1, D.int (-1), D.int 0]) h0 (by simpa using h1)
  rw [e]
  simp only [List.mem_cons, List.not_mem_nil, or_false] at hx
  rcases hx with rfl | rfl | rfl | rfl | rfl <;> exact ⟨_, rfl, by decide, by decide⟩
theorem atI_ticks {i : Int} (h0 : 0 ≤ i) (h1 : i < 5) : ∃ x, atI [D.int 0, D.int 1, D.int 7, D.int 30, D.int 1000] i = some (.int x) ∧ 0 ≤ x ∧ x ≤ 1000 := by
  obtain ⟨x, e, hx⟩ := atI_lt (xs := [D.int 0, D.int 1, D.int 7, D.int 30, D.int 1000]) h0 (by simpa using h1)
  rw [e]
  simp only [List.mem_cons, List.not_mem_nil, or_false] at hx
  rcases hx with rfl | rfl | rfl | rfl | rfl <;> exact ⟨_, rfl, by decide, by decide⟩
def txt8 : Str := "abc XY~!"
theorem ixF_txt8 {g : G} {i : Int} (h0 : 0 ≤ i) (h1 : i < 8) : ∃ c, ixF g (.str txt8) (.int i) = some (.str (sg c)) ∧ okSign c = true := by
  have hs : (8 : Int) = txt8.cps.toList.length := by decide +kernel
  obtain ⟨e, m⟩ := ixF_sign (g := g) (z := txt8) (i := i) (by decide +kernel) h0 (by rw [← hs]; exact h1)
  have all8 : txt8.cps.toList.all okSign = true := by decide +kernel
  exact ⟨_, e, List.all_eq_true.mp all8 _ m⟩
theorem mulF_sg {g : G} {c : Nat} {n : Int} (h0 : 0 ≤ n) (h1 : n ≤ 1000) : mulF g (.str (sg c)) (.int n) = some (.str (Txt.mul (sg c) n)) := if_pos ⟨rfl, h0, h1⟩
theorem emod_bd (a : Int) {b : Int} (h : 0 < b) : 0 ≤ a % b ∧ a % b < b := ⟨Int.emod_nonneg _ (by omega), Int.emod_lt_of_pos _ h⟩
theorem powF_2 {g : G} {k : Int} (h0 : 0 ≤ k) (h1 : k ≤ 1000) : powF g (.int 2) (.int k) = some (.int (2 ^ k.toNat)) := if_pos ⟨h0, h1, by decide⟩
end DL

set_option Elab.async false
set_option linter.all false
set_option maxRecDepth 100000
set_option maxHeartbeats 2000000
set_option autoImplicit false
/-! ED: the end: a promise of the def law becomes the statement; told by its statement. -/
namespace DL
open PySem PySem.Spec L2 LamX
theorem hok_start {K : PySem.W.Frag} {T : List (Addr × Str)} {H : Hp} {a : Addr} {ns : List Int} {g : G} (hT : ∀ p ∈ T, H p.1 = some (.tbl #[])) (hg : ∀ b, g.get b = none) (h : SqL K H a (ns.map V.int)) :
    ∃ S, HOK K T g S H ∧ Rep K S (.ref a) (.frl (ns.map D.int)) := by
  have tb : LamX.Tabs T H := fun p hp => LamX.TabS.nil (hT p hp)
  have gz : ∀ b o, g.get b ≠ some o := fun b o e => by rw [hg b] at e; cases e
  rcases h with h | h
  · refine ⟨fun b => if b = a then H a else none, ⟨fun b o e => ?_, fun b o e => absurd e (gz b o), fun b o e => absurd e (gz b o), tb, fun b ps e => ?_⟩, .frl (.inl ?_) (reps_ints ns)⟩
    · by_cases z : b = a
      · subst z; rw [if_pos rfl] at e; exact .inl e
      · rw [if_neg z] at e; cases e
    · by_cases z : b = a
      · subst z
        rw [if_pos rfl] at e
        rcases h with h | ⟨o, h⟩ <;> rw [h] at e <;> cases e
      · rw [if_neg z] at e; cases e
    · rcases h with h | ⟨o, h⟩
      · exact .inl ((if_pos rfl).trans h)
      · exact .inr ⟨o, (if_pos rfl).trans h⟩
  · refine ⟨fun _ => none, ⟨fun b o e => ?_, fun b o e => absurd e (gz b o), fun b o e => absurd e (gz b o), tb, fun b ps e => ?_⟩, .frl (.inr h) (reps_ints ns)⟩ <;> cases e
-- fun b o e => absurd e (gz b o), fun b o e => absurd e (gz b o), tb, fun b ps e => by cases e⟩, .frl (.inr h) (reps_ints ns)⟩
def g0 : G := ⟨fun _ => none, fun _ => false, fun _ => false⟩
theorem law_atD {l : PySem.W.OpenLaw} {w : World} {K : PySem.W.Frag} {mg : Str → Option Value} {fa : Addr} {h : Heap} {fas : List He.Fa} {fns : List He.DefD} {tf : List He.Defn} {ex : PySem.W.Frag → Bool} {st : Stmt} {N : List Str} {x : Str} {k n : Nat} {q : He.Defn → Str} {spec : SpD}
    (KX : K.In h) (c : He.SaysX fas fns [] tf ex w h K) (nd : (tf.map fun p => (He.cT K p).2).Nodup) (d : DefM K mg "law" st) (hfa : mg "law" = some (.ref fa)) (S : FnScope N [x] (defScope st)) (b : Bnd "law" "law" st [x])
    (hs : ∀ ns : List Int, ns.length ≤ n → (∀ z ∈ ns, Builtin.Int.intBits z ≤ 1048576) → spec [.frl (ns.map D.int)] g0 fun r _ => r = .val (.bl true))
    (hF : ∀ base : Heap, (∀ p ∈ tf, TabAt base mg (tf.map fun p => ((He.cT K p).2, q p)) (He.codeOf K p) (q p)) → ∀ f, ∃ t : TW, Body l.prog w K mg base (tf.map fun p => ((He.cT K p).2, q p)) N "law" (defScope st) f k (defBody st) t ∧ ∀ ds g Kt, ds.length = 1 → spec ds g Kt → t (endD Kt) (startD N.length ds) g) :
    LawAtS l w K (L2N.CX l.prog w) (k + 1) n x mg fa h := by
  obtain ⟨fd, F, hm⟩ := d.ex
  have ea : fa = He.ga K "law" := by rw [hfa] at hm; cases hm; rfl
  refine ⟨fd, tf.map (He.cT K), spD K (tf.map fun p => ((He.cT K p).2, q p)) 1 spec, fun p hp => ?_, fun p hp => ?_, fun p hp => ?_, fun s u => F.bindsA b s [u] rfl, fun H a ns hl hb hT hS => ?_, fun base KB G TB => ?_⟩
  · obtain ⟨p', hp', rfl⟩ := List.mem_map.mp hp; exact c.empty p' hp'
  · obtain ⟨p', hp', rfl⟩ := List.mem_map.mp hp; exact c.out p' hp'
  · obtain ⟨p', hp', rfl⟩ := List.mem_map.mp hp
    exact PySem.W.codeHd_of_K KX (c.hd p' hp')
  · obtain ⟨S, ok, r⟩ := hok_start (K := K) (T := tf.map fun p => ((He.cT K p).2, q p)) (g := g0) (fun p hp => by
      obtain ⟨p', hp', rfl⟩ := List.mem_map.mp hp
      exact hT _ (List.mem_map.mpr ⟨p', hp', rfl⟩)) (fun _ => rfl) hS
    exact ⟨g0, S, _, _, rfl, ok, .cons r .nil, hs ns hl hb, fun d g' v H' S' e _ r => by cases e; cases r; rfl, fun C g' H' S' e _ => by cases e⟩
  · subst ea
    exact fnD F S (hF base (fun p hp => tabAt_of nd (fun p hp => TB _ (List.mem_map.mpr ⟨p, hp, rfl⟩)) hp) _)
theorem law_atDc {l : PySem.W.OpenLaw} {w : World} {K : PySem.W.Frag} {mg : Str → Option Value} {fa : Addr} {h : Heap} {fas : List He.Fa} {fns : List He.DefD} {tf : List He.Defn} {ex : PySem.W.Frag → Bool} {st : Stmt} {N : List Str} {x : Str} {k n : Nat} {q : He.Defn → Str} {spec : SpD}
    (KX : K.In h) (c : He.SaysX fas fns [] tf ex w h K) (nd : (tf.map fun p => (He.cT K p).2).Nodup) (d : DefM K mg "law" st) (hfa : mg "law" = some (.ref fa)) (S : FnScope N [x] (defScope st)) (b : Bnd "law" "law" st [x])
    (hs : ∀ ns : List Int, ns.length ≤ n → (∀ z ∈ ns, Builtin.Int.intBits z ≤ 1048576) → spec [.frl (ns.map D.int)] g0 fun r _ => r = .val (.bl true))
    (hF : ∀ base : Heap, (∀ p ∈ tf, TabAt base mg (tf.map fun p => ((He.cT K p).2, q p)) (He.codeOf K p) (q p)) → ∃ t : TW, (∀ (A : Around) (outer : List Env) (s : Shared) (H : Hp) (E : XK), Room k (A.deeper (PyProof.Rows.envOfC "law" (defScope st) s.heap.objs.size (He.ga K "law") (.ref (He.codeOf K ("law", none))))) → PXs (cxOf (L2N.CX l.prog w) l.prog w K mg base N "law" (defScope st) (He.ga K "law") (.ref (He.codeOf K ("law", none))) A outer s H E) (tf.map fun p => ((He.cT K p).2, q p)) E (defBody st) t) ∧ ∀ ds g Kt, ds.length = 1 → spec ds g Kt → t (endD Kt) (startD N.length ds) g) :
    LawAtS l w K (L2N.CX l.prog w) (k + 1) n x mg fa h := by
  obtain ⟨fd, F, hm⟩ := d.ex
  have ea : fa = He.ga K "law" := by rw [hfa] at hm; cases hm; rfl
  refine ⟨fd, tf.map (He.cT K), spD K (tf.map fun p => ((He.cT K p).2, q p)) 1 spec, fun p hp => ?_, fun p hp => ?_, fun p hp => ?_, fun s u => F.bindsA b s [u] rfl, fun H a ns hl hb hT hS => ?_, fun base KB G TB => ?_⟩
  · obtain ⟨p', hp', rfl⟩ := List.mem_map.mp hp; exact c.empty p' hp'
  · obtain ⟨p', hp', rfl⟩ := List.mem_map.mp hp; exact c.out p' hp'
  · obtain ⟨p', hp', rfl⟩ := List.mem_map.mp hp
    exact PySem.W.codeHd_of_K KX (c.hd p' hp')
  · obtain ⟨S, ok, r⟩ := hok_start (K := K) (T := tf.map fun p => ((He.cT K p).2, q p)) (g := g0) (fun p hp => by
      obtain ⟨p', hp', rfl⟩ := List.mem_map.mp hp
      exact hT _ (List.mem_map.mpr ⟨p', hp', rfl⟩)) (fun _ => rfl) hS
    exact ⟨g0, S, _, _, rfl, ok, .cons r .nil, hs ns hl hb, fun d g' v H' S' e _ r => by cases e; cases r; rfl, fun C g' H' S' e _ => by cases e⟩
  · subst ea
    exact fnDc (q := ("law", none)) F S (hF base (fun p hp => tabAt_of nd (fun p hp => TB _ (List.mem_map.mpr ⟨p, hp, rfl⟩)) hp))
/-- told by its statement -/
theorem toldD {P : Program} {w : World} {K : PySem.W.Frag} {mg : Str → Option Value} {base : Heap} {T : List (Addr × Str)} {st : Stmt} {x a e n wn : Str} {CS : Addr} {kw : Nat} {wd : Addr → Option Str} {p1 p2 p3 p4 p5 p6 p7 p8 p9 p10 : Pos}
    (d : DefM K mg x st) (hb : defBody st = [.Try [.Return (some (.Call (.Name a p1) [] [] p2)) p3] [.ExceptHandler (some (.Name e p4)) (some n) [.Return (some (.Call (.Name wn p5) [.Name n p6] [] p7)) p8] p9] [] [] p10]) (S : FnScope [a, n] [a] (defScope st)) (b : Bnd x x st [a])
    (hva : Vis (defScope st) a) (hge : (defScope st).names.lookup e = some .globalImplicit) (hme : mg e = some (.ref CS)) (hln : (defScope st).names.lookup n = some .local) (hgw : (defScope st).names.lookup wn = some .globalImplicit) (W : WordAt P w K mg base T kw wn wd)
    (hex : ∀ C nm, wd C = some nm → PySem.W.exmOne K (.ref C) (.ref CS) = some true)
    (d1 : (x == ("__debug__" : Str)) = false := by decide) (d2 : (a == ("__debug__" : Str)) = false := by decide) (d3 : (a == ("__classdict__" : Str)) = false := by decide) (d4 : (e == ("__debug__" : Str)) = false := by decide) (d5 : (n == ("__debug__" : Str)) = false := by decide) (d6 : (n == ("__classdict__" : Str)) = false := by decide) (d7 : (wn == ("__debug__" : Str)) = false := by decide) :
    ToldAt P w K mg base T x kw wd := by
  obtain ⟨fd, F, hm⟩ := d.ex
  have hB := F.bindsN b
  obtain ⟨oc, od, dV, kV, doc, pm, an, cdv, ct, osl, rfl, lk, hcd, _, _⟩ := F.ex
  rw [hb] at lk hB
  exact ⟨a, e, n, wn, _, CS, _, _, dV, kV, doc, pm, cdv, ct, oc, an, od, osl, p1, p2, p3, p4, p5, p6, p7, p8, p9, p10, hm, F.kp, lk, hcd, hB, S, hva, hge, hme, hln, hgw, W, hex, d1, d2, d3, d4, d5, d6, d7⟩
theorem ExFacts.sub {xs ys : List Str} {tf : List He.Defn} {K : PySem.W.Frag} (F : ExFacts xs tf K) (h : ∀ x ∈ ys, x ∈ xs) : ExFacts ys tf K :=
  ⟨fun x hx => F.ec x (h x hx), fun x hx => F.kv x (h x hx), fun x hx y hy => F.kit x (h x hx) y (h y hy), F.nd⟩
end DL

set_option Elab.async false
set_option linter.all false
set_option maxRecDepth 100000
set_option maxHeartbeats 2000000
set_option autoImplicit false
/-! TD: what told makes of a deed. -/
namespace DL
open PySem PySem.Spec L2
def errs6 : List Str := ["BadName", "BadNumber", "BadText", "Full", "NoSaying", "NotYours"]
theorem ownR_err {W : Wd} {n : Int} {b e : Str} (h : W.ownR n b = .error e) : e ∈ errs6 := by
  unfold Wd.ownR at h
  split at h
  · cases h; simp [errs6]
  · split at h
    · cases h; simp [errs6]
    · split at h
      · cases h; simp [errs6]
      · cases h
theorem out_err {W : Wd} {dd : Deed} {e : Str} (h : dd.out W = .error e) : e ∈ errs6 := by
  cases dd with
  | say u b t =>
    simp only [Deed.out, Wd.sayR] at h
    split at h
    · cases h; simp [errs6]
    split at h
    · cases h; simp [errs6]
    split at h
    · cases h; simp [errs6]
    split at h
    · cases h; simp [errs6]
    · cases h
  | vote n b y =>
    simp only [Deed.out, Wd.voteR] at h
    split at h
    · cases h; simp [errs6]
    split at h
    · cases h; simp [errs6]
    split at h
    · cases h; simp [errs6]
    split at h
    · cases h; simp [errs6]
    · cases h
  | tick m b =>
    simp only [Deed.out, Wd.tickR] at h
    split at h
    · cases h
    · cases h; simp [errs6]
  | strike n b =>
    simp only [Deed.out, Wd.strikeR] at h
    split at h
    · rename_i e' q
      cases h; exact ownR_err q
    · cases h
  | change n b t =>
    simp only [Deed.out, Wd.changeR] at h
    split at h
    · rename_i e' q
      cases h; exact ownR_err q
    · split at h
      · cases h; simp [errs6]
      · cases h
/-- behind told -/
def onTold (wd : Addr → Option Str) (Kt : KR) : KR := fun r g' => match r with
  | .val d => Kt (.val d) g'
  | .exc C => ∃ nm, wd C = some nm ∧ Kt (.val (refused nm)) g'
theorem told_tells {xs : List Str} {tf : List He.Defn} {K : PySem.W.Frag} (F : ExFacts xs tf K) {A : Wa} {W : Wd} {g : G} {Kt : KR} {o : Out} (hi : WoodIn K g A W) (h : does (WoodIn K) A W g Kt o) (he : ∀ e, o = .error e → e ∈ xs) : tells K A W g (onTold (wdOf xs K) Kt) o := by
  cases o with
  | error e => exact ⟨e, wdOf_self F (he e rfl), does_err hi h⟩
  | ok p => exact fun g' A' e1 e2 e3 => h g' A' e1 e2 e3
end DL

set_option Elab.async false
set_option linter.all false
set_option maxRecDepth 100000
set_option maxHeartbeats 2000000
set_option autoImplicit false
/-! LM: what is compared. -/
namespace DL
open PySem PySem.Spec L2
theorem WF.zero_above {W : Wd} (h : WF W) {n : Int} (hn : n ∈ W.keys) : (0 : Int) ∈ W.above n := by
  have key : n = 0 ∨ (0 : Int) ∈ W.above n := h.above_ind (P := fun n => n = 0 ∨ (0 : Int) ∈ W.above n) (.inl rfl) (fun n S e hu ih => by
    refine .inr ?_
    rw [h.above_step e]
    rcases ih with z | z
    · rw [z]; exact List.mem_cons_self
    · exact List.mem_cons_of_mem _ z) n.toNat n (Nat.le_refl _) (.inr hn)
  exact key.resolve_left (h.nz hn)
theorem WF.below_zero {W : Wd} (h : WF W) : W.below 0 = W.keys := by
  unfold Wd.below
  rw [List.filter_eq_self]
  intro m hm
  simpa using h.zero_above hm
def Wd.isUnder (W : Wd) (n m : Int) : Bool := match W.find m with
  | some S => decide (S.under = n)
  | none => false
theorem WF.below_right {W : Wd} (h : WF W) {n : Int} : (W.below n).filter (W.isUnder n) = W.replies n := by
  show (W.keys.filter _).filter _ = W.keys.filter _
  rw [List.filter_filter]
  apply List.filter_congr
  intro m hm
  obtain ⟨S, e⟩ := h.key_find hm
  show (W.isUnder n m && decide (n ∈ W.above m)) = W.isUnder n m
  cases q : W.isUnder n m with
  | false => rfl
  | true =>
    have : S.under = n := by simpa [Wd.isUnder, e] using q
    have : n ∈ W.above m := by rw [h.above_step e, this]; exact List.mem_cons_self
    simpa using this
theorem ups_one {l : List (Str × Int)} (h : ∀ p ∈ l, p.2 = 1 ∨ p.2 = -1) : (l.filter fun p => decide (p.2 = 1)) = l.filter fun p => decide (0 < p.2) := List.filter_congr fun p hp => by
  rcases h p hp with e | e <;> rw [e] <;> rfl
theorem downs_len {l : List (Str × Int)} (h : ∀ p ∈ l, p.2 = 1 ∨ p.2 = -1) : ((l.length : Nat) : Int) - ((l.filter fun p => decide (0 < p.2)).length : Nat) = ((l.filter fun p => decide (p.2 < 0)).length : Nat) := by
  induction l with
  | nil => rfl
  | cons p l ih =>
    have ih := ih fun q hq => h q (List.mem_cons_of_mem _ hq)
    rcases h p List.mem_cons_self with e | e <;> simp [List.filter_cons, e] <;> omega
theorem eqv_strs {x : Str} : PyData.eqv (.str x) (.str x) = true := by simp [PyData.eqv]
theorem neF_pair {g : G} {a b : Int} : neF g (.tup [.int a, .int b]) (.tup [.int a, .int b]) = some (.bl false) := by
  simp [neF, eqB, toV, eqP, py, pys, SeqAt.shaped, PyData.canLay0, PyData.canLayAll0, PyData.depth, PyData.depthAll, PyData.eqv, PyData.eqvAll]
theorem all_size {x : Str} {p : Nat → Bool} (h : ∀ c ∈ x.cps.toList, p c = true) : x.cps.all p = true := by
  rw [← Array.all_toList, List.all_eq_true]
  exact h
theorem strOk_name {x : Str} (h : okName (.str x) = true) : PyData.strOk x = true := by
  simp only [okName, Bool.and_eq_true, List.all_eq_true] at h
  have ls : smallS.cps.toList.all (· < 0x110000) = true := by decide +kernel
  exact all_size fun c hc => List.all_eq_true.mp ls c (by simpa using h.2 c hc)
theorem strOk_text {x : Str} (h : okText (.str x) = true) : PyData.strOk x = true := by
  simp only [okText, Bool.and_eq_true, List.all_eq_true] at h
  refine all_size fun c hc => ?_
  have := h.2 c hc
  simp only [okSign, Bool.and_eq_true, decide_eq_true_eq] at this
  simp; omega
theorem neF_look {g : G} {S : Say} (h1 : PyData.strOk S.by_ = true) (h2 : PyData.strOk S.text = true) : neF g (lookD S) (.tup [.str S.by_, .int S.under, if S.struck = true then .non else .str S.text, .int S.time]) = some (.bl false) := by
  unfold lookD
  cases S.struck <;> simp [h1, h2, neF, eqB, toV, eqP, py, pys, SeqAt.shaped, PyData.canLay0, PyData.canLayAll0, PyData.depth, PyData.depthAll, PyData.eqv, PyData.eqvAll]
theorem out_val {W W' : Wd} {dd : Deed} {d : D} (h : dd.out W = .ok (W', d)) : d = .non ∨ ∃ i, d = .int i := by
  cases dd with
  | say u b t =>
    simp only [Deed.out, Wd.sayR] at h
    split at h
    · cases h
    split at h
    · cases h
    split at h
    · cases h
    split at h
    · cases h
    · cases h; exact .inr ⟨_, rfl⟩
  | vote n b y =>
    simp only [Deed.out, Wd.voteR] at h
    split at h
    · cases h
    split at h
    · cases h
    split at h
    · cases h
    split at h
    · cases h
    · cases h; exact .inr ⟨_, rfl⟩
  | tick m b =>
    simp only [Deed.out, Wd.tickR] at h
    split at h
    · cases h; exact .inl rfl
    · cases h
  | strike n b =>
    simp only [Deed.out, Wd.strikeR] at h
    split at h
    · cases h
    · cases h; exact .inr ⟨_, rfl⟩
  | change n b t =>
    simp only [Deed.out, Wd.changeR] at h
    split at h
    · cases h
    · split at h
      · cases h
      · cases h; exact .inl rfl
theorem neF_refused {g : G} {e : Str} (he : PyData.strOk e = true) : neF g (refused e) (refused e) = some (.bl false) := by
  have h0 : PyData.strOk ("refused" : Str) = true := by decide +kernel
  simp [refused, he, h0, neF, eqB, toV, eqP, py, pys, SeqAt.shaped, PyData.canLay0, PyData.canLayAll0, PyData.depth, PyData.depthAll, PyData.eqv, PyData.eqvAll]
theorem neF_out {g : G} {W : Wd} {dd : Deed} : neF g (outD (dd.out W)) (outD (dd.out W)) = some (.bl false) := by
  cases e : dd.out W with
  | error x => exact neF_refused (List.all_eq_true.mp (show errs6.all PyData.strOk = true by decide +kernel) x (out_err e))
  | ok p =>
    obtain ⟨W', d⟩ := p
    show neF g d d = some (.bl false)
    rcases out_val e with rfl | ⟨i, rfl⟩
    · simp [neF, eqB, toV, scal]
    · simp
theorem OwnIn.row {g : G} {A : Wa} {W : Wd} (h : OwnIn g A W) (wf : WFa W) {n : Int} {S : Say} (e : W.find n = some S) : RowIn g (A.s n) (A.v n) S :=
  ⟨h.hs e, h.hv e, wf.vnd n S (WF.mem_find e), by have := wf.vln n S (WF.mem_find e); have := wf.age; omega⟩
def Wd.isBy (W : Wd) (b : Str) (n : Int) : Bool := match W.find n with
  | some S => decide (S.by_ = b)
  | none => false
def Wd.ptsAt (W : Wd) (n : Int) : Int := match W.find n with
  | some S => S.pts
  | none => 0
theorem standing_eq {W : Wd} (h : WF W) {b : Str} : (((W.keys.filter (W.isBy b)).filter W.stands).map W.ptsAt).sum = W.standing b := by
  have e := sum_rows h (fun S => decide (S.by_ = b) && !S.struck) Say.pts
  unfold Wd.standing
  rw [← e, List.filter_filter]
  congr 2
  apply List.filter_congr
  intro n hn
  obtain ⟨S, q⟩ := h.key_find hn
  simp only [Wd.stands, Wd.isBy, q, Bool.and_comm]
end DL

set_option Elab.async false
set_option linter.all false
set_option maxRecDepth 100000
set_option maxHeartbeats 2000000
set_option autoImplicit false
/-! LB: the program's wood and the law's own, side by side. -/
namespace DL
open PySem PySem.Spec L2
theorem WoodIn.ne {K : PySem.W.Frag} {g : G} {A : Wa} {W : Wd} (h : WoodIn K g A W) {a : Addr} (ha : W.foot A a) : g.get a ≠ none := by
  obtain ⟨l, hl, rfl⟩ := ha
  rw [h.ob l hl]; simp
theorem OwnIn.ne {g : G} {A : Wa} {W : Wd} (h : OwnIn g A W) {a : Addr} (ha : W.foot A a) : g.get a ≠ none := by
  obtain ⟨l, hl, rfl⟩ := ha
  rw [h.ob l hl]; simp
structure Both (K : PySem.W.Frag) (g : G) (A B : Wa) (W : Wd) : Prop where
  a : WoodIn K g A W
  b : OwnIn g B W
  wf : WF W
  nm : Named W
  nl : NL g
  dj : ∀ a, W.foot A a → ¬ W.foot B a
namespace Both
variable {K : PySem.W.Frag} {g g' g'' : G} {A B A' B' : Wa} {W W' : Wd}
theorem b_mid (h : Both K g A B W) {F' : Addr → Prop} (f1 : Frm g g' (W.foot A) F') : OwnIn g' B W := h.b.frm f1 fun a ha hf => h.dj a hf ha
theorem a_mid (h : Both K g A B W) {F' : Addr → Prop} (f1 : Frm g g' (W.foot B) F') : WoodIn K g' A W := h.a.frm f1 fun a ha hf => h.dj a ha hf
theorem step (h : Both K g A B W) (i1 : WoodIn K g' A' W') (f1 : Frm g g' (W.foot A) (W'.foot A')) (i2 : OwnIn g'' B' W') (f2 : Frm g' g'' (W.foot B) (W'.foot B')) (wf : WF W') (nm : Named W') : Both K g'' A' B' W' := by
  have k1 : ∀ a, W'.foot A' a → ¬ W.foot B a := fun a ha hb => by
    rcases f1.new a ha with z | z
    · exact h.dj a z hb
    · exact h.b.ne hb z
  refine ⟨i1.frm f2 k1, i2, wf, nm, (h.nl.frm f1).frm f2, fun a ha hb => ?_⟩
  rcases f2.new a hb with z | z
  · exact k1 a ha z
  · exact i1.ne ha z
theorem step' (h : Both K g A B W) (i2 : OwnIn g' B' W') (f2 : Frm g g' (W.foot B) (W'.foot B')) (i1 : WoodIn K g'' A' W') (f1 : Frm g' g'' (W.foot A) (W'.foot A')) (wf : WF W') (nm : Named W') : Both K g'' A' B' W' := by
  have k1 : ∀ a, W'.foot B' a → ¬ W.foot A a := fun a hb ha => by
    rcases f2.new a hb with z | z
    · exact h.dj a ha z
    · exact h.a.ne ha z
  refine ⟨i1, i2.frm f1 k1, wf, nm, (h.nl.frm f2).frm f1, fun a ha hb => ?_⟩
  rcases f1.new a ha with z | z
  · exact k1 a hb z
  · exact i2.ne hb z
theorem wfa (h : Both K g A B W) (ha : W.age ≤ 50000) : WFa W := ⟨h.wf, ha⟩
end Both
def W0 : Wd := ⟨[], 0, 0, 0⟩
theorem wf0 : WF W0 := by
  refine ⟨by simp [W0, Wd.keys], ?_, ?_, by simp [W0], ?_, ?_, ?_, ?_, ?_, ?_, by simp [W0]⟩ <;> intro n <;> simp [W0, Wd.keys]
theorem named0 : Named W0 := fun p hp => by cases hp
def wa0 (w d : Addr) : Wa := ⟨w, d, fun _ => w, fun _ => w⟩
theorem both0 {K : PySem.W.Frag} {g g1 g2 : G} {x d w e : Addr} (nl : NL g) (hx : g.get x = none) (hd : (g.set x (.ins (He.ga K "Wood") [])).get d = none)
    (h1 : g1 = ((g.set x (.ins (He.ga K "Wood") [])).set d (.dct [])).set x (.ins (He.ga K "Wood") [("sayings", .ref d), ("came", .int 0), ("clock", .int 0)])) (hw : g1.get w = none) (he : g1.get e = none) (ne : w ≠ e)
    (h2 : g2 = (g1.set e (.dct [])).set w (.dct [(.inr "rows", .ref e), (.inr "came", .int 0), (.inr "clock", .int 0)])) : Both K g2 (wa0 x d) (wa0 w e) W0 := by
  have dx : d ≠ x := fun z => by subst z; rw [G.set_same] at hd; cases hd
  have g1x : g1.get x = some (.ins (He.ga K "Wood") [("sayings", .ref d), ("came", .int 0), ("clock", .int 0)]) := by rw [h1, G.set_same]
  have g1d : g1.get d = some (.dct []) := by rw [h1, G.set_ne dx, G.set_same]
  have xw : x ≠ w := fun z => by rw [← z, g1x] at hw; cases hw
  have xe : x ≠ e := fun z => by rw [← z, g1x] at he; cases he
  have dw : d ≠ w := fun z => by rw [← z, g1d] at hw; cases hw
  have de : d ≠ e := fun z => by rw [← z, g1d] at he; cases he
  have no : ∀ n, n ∉ W0.keys := fun n h => by cases h
  refine ⟨⟨fun l hl => ?_, fun l l' hl hl' q => ?_⟩, ⟨fun l hl => ?_, fun l l' hl hl' q => ?_⟩, wf0, named0, ⟨fun a => ?_, fun a => ?_⟩, fun a ha hb => ?_⟩
  · cases l with
    | w => show g2.get x = _; rw [h2, G.set_ne xw, G.set_ne xe, g1x]; rfl
    | d => show g2.get d = _; rw [h2, G.set_ne dw, G.set_ne de, g1d]; rfl
    | s n => exact absurd hl (no n)
    | v n => exact absurd hl (no n)
  · cases l with
    | w => cases l' with
      | w => rfl
      | d => exact absurd q (Ne.symm dx)
      | s n => exact absurd hl' (no n)
      | v n => exact absurd hl' (no n)
    | d => cases l' with
      | w => exact absurd q dx
      | d => rfl
      | s n => exact absurd hl' (no n)
      | v n => exact absurd hl' (no n)
    | s n => exact absurd hl (no n)
    | v n => exact absurd hl (no n)
  · cases l with
    | w => show g2.get w = _; rw [h2, G.set_same]; rfl
    | d => show g2.get e = _; rw [h2, G.set_ne (Ne.symm ne), G.set_same]; rfl
    | s n => exact absurd hl (no n)
    | v n => exact absurd hl (no n)
  · cases l with
    | w => cases l' with
      | w => rfl
      | d => exact absurd q ne
      | s n => exact absurd hl' (no n)
      | v n => exact absurd hl' (no n)
    | d => cases l' with
      | w => exact absurd q (Ne.symm ne)
      | d => rfl
      | s n => exact absurd hl' (no n)
      | v n => exact absurd hl' (no n)
    | s n => exact absurd hl (no n)
    | v n => exact absurd hl (no n)
  · rw [h2, h1]; exact nl.lk a
  · rw [h2, h1]; exact nl.tl a
  · obtain ⟨l, hl, rfl⟩ := ha
    obtain ⟨l', hl', q⟩ := hb
    cases l with
    | w => cases l' with
      | w => exact xw q.symm
      | d => exact xe q.symm
      | s n => exact absurd hl' (no n)
      | v n => exact absurd hl' (no n)
    | d => cases l' with
      | w => exact dw q.symm
      | d => exact de q.symm
      | s n => exact absurd hl' (no n)
      | v n => exact absurd hl' (no n)
    | s n => exact absurd hl (no n)
    | v n => exact absurd hl (no n)
theorem say_out {W : Wd} {u : Int} {b t : Str} : (∃ e, (Deed.say u b t).out W = .error e) ∨ ∃ W' i, (Deed.say u b t).out W = .ok (W', .int i) := by
  simp only [Deed.out, Wd.sayR]
  split
  · exact .inl ⟨_, rfl⟩
  split
  · exact .inl ⟨_, rfl⟩
  split
  · exact .inl ⟨_, rfl⟩
  split
  · exact .inl ⟨_, rfl⟩
  · exact .inr ⟨_, _, rfl⟩
theorem rangeD_of {n k : Nat} {d : D} (h : (rangeD n)[k]? = some d) : k < n ∧ d = .int (k : Int) := by
  unfold rangeD at h
  rw [List.getElem?_map] at h
  obtain ⟨j, hj, rfl⟩ := Option.map_eq_some_iff.mp h
  have hk : k < n := by
    have := (List.getElem?_eq_some_iff.mp hj).1
    simpa using this
  rw [List.getElem?_range hk] at hj
  cases hj
  exact ⟨hk, rfl⟩
section
variable {K : PySem.W.Frag} {g : G} {A B : Wa} {W : Wd} {dd : Deed} {env : Env'} {Kt : KR} {i j i' : Nat}
theorem do_rd (hA : WoodIn K g A W) (wfa : WFa W) (nl : NL g) (ok : dd.ok) (e1 : env[i]? = some (.dat (.ref A.w))) (e2 : env[j]? = some (.dat dd.d))
    (hk : ∀ g' A', A'.w = A.w → WoodIn K g' A' (outW W (dd.out W)) → Frm g g' (W.foot A) ((outW W (dd.out W)).foot A') → Kt (.val (outD (dd.out W))) g') : rCall 2 (sp_do K) (rCons (rVar i) (rCons (rVar j) rNil)) env g Kt :=
  ⟨_, e1, _, e2, rfl, A, W, [dd.d], rfl, hA, wfa, dd, rfl, nl, ok, hk⟩
theorem act_rd (hB : OwnIn g B W) (wfa : WFa W) (nl : NL g) (ok : dd.ok) (e1 : env[i]? = some (.dat (.ref B.w))) (e2 : env[j]? = some (.dat dd.d))
    (hk : ∀ g' B', B'.w = B.w → OwnIn g' B' (outW W (dd.out W)) → Frm g g' (W.foot B) ((outW W (dd.out W)).foot B') → Kt (.val (outD (dd.out W))) g') : rCall 2 sp_act (rCons (rVar i) (rCons (rVar j) rNil)) env g Kt :=
  ⟨_, e1, _, e2, rfl, B, W, [dd.d], rfl, hB, wfa, dd, rfl, nl, ok, hk⟩
/-- a deed on both: they tell the same -/
theorem do_act (h : Both K g A B W) (ha : W.age ≤ 50000) (ok : dd.ok) (e1 : env[i]? = some (.dat (.ref A.w))) (e2 : env[j]? = some (.dat dd.d)) (e3 : env[i']? = some (.dat (.ref B.w)))
    (hk : ∀ g' A' B', A'.w = A.w → B'.w = B.w → Both K g' A' B' (outW W (dd.out W)) → (outW W (dd.out W)).age ≤ W.age + 1 → Kt (.val (.bl false)) g') :
    rBin neF (rCall 2 (sp_do K) (rCons (rVar i) (rCons (rVar j) rNil))) (rCall 2 sp_act (rCons (rVar i') (rCons (rVar j) rNil))) env g Kt := by
  obtain ⟨wf', ag⟩ := deed_wf h.wf ok
  refine do_rd h.a (h.wfa ha) h.nl ok e1 e2 fun g1 A1 q1 i1 f1 => ?_
  refine act_rd (h.b_mid f1) (h.wfa ha) (h.nl.frm f1) ok e3 e2 fun g2 B1 q2 i2 f2 => ?_
  exact ⟨_, neF_out, hk g2 A1 B1 q1 q2 (h.step i1 f1 i2 f2 wf' (deed_named h.nm ok)) ag⟩
end
def sp_law : SpD := fun ds g Kt => ∃ ns : List Int, ds = [.frl (ns.map D.int)] ∧ ns.length ≤ 63 ∧ NL g ∧ ∀ g', Kt (.val (.bl true)) g'
end DL

set_option Elab.async false
set_option linter.all false
set_option maxRecDepth 100000
set_option maxHeartbeats 2000000
set_option autoImplicit false
/-! MS: measures, orders, in plain data. -/
namespace DL
open PySem PySem.Spec L2
inductive Ms where
  | new | old | best | warm | torn | sure
def Ms.s : Ms → Str
  | .new => "new"
  | .old => "old"
  | .best => "best"
  | .warm => "warm"
  | .torn => "torn"
  | .sure => "sure"
def meas : List Str := ["new", "old", "best", "warm", "torn", "sure"]
theorem Ms.mem (m : Ms) : m.s ∈ meas := by cases m <;> simp [Ms.s, meas]
theorem Ms.of {z : Str} (h : z ∈ meas) : ∃ m : Ms, m.s = z := by
  simp only [meas, List.mem_cons, List.not_mem_nil, or_false] at h
  rcases h with rfl | rfl | rfl | rfl | rfl | rfl
  · exact ⟨.new, rfl⟩
  · exact ⟨.old, rfl⟩
  · exact ⟨.best, rfl⟩
  · exact ⟨.warm, rfl⟩
  · exact ⟨.torn, rfl⟩
  · exact ⟨.sure, rfl⟩
/-- a saying's worth at a time -/
def Say.worth (S : Say) (clock n : Int) : Ms → Int × Int
  | .new => (n, 1)
  | .old => (0 - n, 1)
  | .best => (S.ups - S.downs, 1)
  | .warm => (10 * (S.ups - S.downs) - (clock - S.time), 1)
  | .torn => (min S.ups S.downs, 1)
  | .sure => (S.ups + 1, S.ups + S.downs + 2)
def Wd.worth (W : Wd) (m : Ms) (n : Int) : Int × Int := match W.find n with
  | none => (0, 1)
  | some S => S.worth W.clock n m
def aheadP (p q : (Int × Int) × Int) : Bool := if p.1.1 * q.1.2 ≠ q.1.1 * p.1.2 then decide (q.1.1 * p.1.2 < p.1.1 * q.1.2) else decide (p.2 < q.2)
def Wd.ahead (W : Wd) (m : Ms) (a b : Int) : Bool := aheadP (W.worth m a, a) (W.worth m b, b)
theorem Say.ups_bd (S : Say) : 0 ≤ S.ups ∧ S.ups ≤ S.votes.length := by
  have := List.length_filter_le (fun p : Str × Int => decide (0 < p.2)) S.votes
  unfold Say.ups; omega
theorem Say.downs_bd (S : Say) : 0 ≤ S.downs ∧ S.downs ≤ S.votes.length := by
  have := List.length_filter_le (fun p : Str × Int => decide (p.2 < 0)) S.votes
  unfold Say.downs; omega
theorem worth_pos (W : Wd) (m : Ms) (n : Int) : 0 < (W.worth m n).2 := by
  unfold Wd.worth
  split
  · decide
  · rename_i S e
    have h1 := S.ups_bd
    have h2 := S.downs_bd
    cases m <;> simp [Say.worth] <;> omega
theorem worth_bd {W : Wd} (wf : WFa W) (m : Ms) (n : Int) : 0 < (W.worth m n).2 ∧ (W.worth m n).2 < 1000000 := by
  refine ⟨worth_pos W m n, ?_⟩
  unfold Wd.worth
  split
  · decide
  · rename_i S e
    have h1 := S.ups_bd
    have h2 := S.downs_bd
    have h3 := wf.vln n S (WF.mem_find e)
    have h4 := wf.age
    cases m <;> simp [Say.worth] <;> omega
/-! strict total orders -/
structure SO (r : Int → Int → Bool) : Prop where
  tr : ∀ {a b c}, r a b = true → r b c = true → r a c = true
  asy : ∀ {a b}, r a b = true → r b a = true → False
  tot : ∀ {a b}, a ≠ b → r a b = true ∨ r b a = true
theorem cross_le {a b c d e f : Int} (hb : 0 < b) (hd : 0 < d) (hf : 0 < f) (h1 : c * b ≤ a * d) (h2 : e * d ≤ c * f) : e * b ≤ a * f := by
  have k1 : c * b * f ≤ a * d * f := Int.mul_le_mul_of_nonneg_right h1 (Int.le_of_lt hf)
  have k2 : e * d * b ≤ c * f * b := Int.mul_le_mul_of_nonneg_right h2 (Int.le_of_lt hb)
  have e1 : c * f * b = c * b * f := by rw [Int.mul_assoc, Int.mul_comm f b, ← Int.mul_assoc]
  have e2 : e * d * b = e * b * d := by rw [Int.mul_assoc, Int.mul_comm d b, ← Int.mul_assoc]
  have e3 : a * d * f = a * f * d := by rw [Int.mul_assoc, Int.mul_comm d f, ← Int.mul_assoc]
  rw [e1, e2] at k2
  rw [e3] at k1
  exact Int.le_of_mul_le_mul_right (Int.le_trans k2 k1) hd
theorem cross_lt {a b c d e f : Int} (hb : 0 < b) (hd : 0 < d) (hf : 0 < f) (h1 : c * b < a * d) (h2 : e * d ≤ c * f) : e * b < a * f := by
  have k1 : c * b * f < a * d * f := Int.mul_lt_mul_of_pos_right h1 hf
  have k2 : e * d * b ≤ c * f * b := Int.mul_le_mul_of_nonneg_right h2 (Int.le_of_lt hb)
  have e1 : c * f * b = c * b * f := by rw [Int.mul_assoc, Int.mul_comm f b, ← Int.mul_assoc]
  have e2 : e * d * b = e * b * d := by rw [Int.mul_assoc, Int.mul_comm d b, ← Int.mul_assoc]
  have e3 : a * d * f = a * f * d := by rw [Int.mul_assoc, Int.mul_comm d f, ← Int.mul_assoc]
  rw [e1, e2] at k2
  rw [e3] at k1
  exact Int.lt_of_mul_lt_mul_right (Int.lt_of_le_of_lt k2 k1) (Int.le_of_lt hd)
theorem cross_lt' {a b c d e f : Int} (hb : 0 < b) (hd : 0 < d) (hf : 0 < f) (h1 : c * b ≤ a * d) (h2 : e * d < c * f) : e * b < a * f := by
  have k1 : c * b * f ≤ a * d * f := Int.mul_le_mul_of_nonneg_right h1 (Int.le_of_lt hf)
  have k2 : e * d * b < c * f * b := Int.mul_lt_mul_of_pos_right h2 hb
  have e1 : c * f * b = c * b * f := by rw [Int.mul_assoc, Int.mul_comm f b, ← Int.mul_assoc]
  have e2 : e * d * b = e * b * d := by rw [Int.mul_assoc, Int.mul_comm d b, ← Int.mul_assoc]
  have e3 : a * d * f = a * f * d := by rw [Int.mul_assoc, Int.mul_comm d f, ← Int.mul_assoc]
  rw [e1, e2] at k2
  rw [e3] at k1
  exact Int.lt_of_mul_lt_mul_right (Int.lt_of_lt_of_le k2 k1) (Int.le_of_lt hd)
theorem aheadP_iff {p q : (Int × Int) × Int} : aheadP p q = true ↔ (q.1.1 * p.1.2 < p.1.1 * q.1.2) ∨ (p.1.1 * q.1.2 = q.1.1 * p.1.2 ∧ p.2 < q.2) := by
  unfold aheadP
  by_cases h : p.1.1 * q.1.2 = q.1.1 * p.1.2
  · rw [if_neg (fun z => z h)]
    simp [h]
  · rw [if_pos h]
    simp [h]
theorem so_ahead (W : Wd) (m : Ms) : SO (W.ahead m) := by
  have pos := worth_pos W m
  refine ⟨fun {a b c} h1 h2 => ?_, fun {a b} h1 h2 => ?_, fun {a b} h => ?_⟩
  · unfold Wd.ahead at *
    rw [aheadP_iff] at *
    simp only [] at *
    have pa := pos a
    have pb := pos b
    have pc := pos c
    rcases h1 with h1 | ⟨h1, h1'⟩ <;> rcases h2 with h2 | ⟨h2, h2'⟩
    · exact .inl (cross_lt pa pb pc h1 (Int.le_of_lt h2))
    · exact .inl (cross_lt pa pb pc h1 (Int.le_of_eq h2.symm))
    · exact .inl (cross_lt' pa pb pc (Int.le_of_eq h1.symm) h2)
    · refine .inr ⟨Int.le_antisymm ?_ ?_, by omega⟩
      · exact cross_le pc pb pa (Int.le_of_eq h2) (Int.le_of_eq h1)
      · exact cross_le pa pb pc (Int.le_of_eq h1.symm) (Int.le_of_eq h2.symm)
  · unfold Wd.ahead at *
    rw [aheadP_iff] at *
    simp only [] at *
    rcases h1 with h1 | ⟨h1, h1'⟩ <;> rcases h2 with h2 | ⟨h2, h2'⟩ <;> omega
  · unfold Wd.ahead
    rw [aheadP_iff, aheadP_iff]
    simp only []
    by_cases h1 : (W.worth m a).1 * (W.worth m b).2 = (W.worth m b).1 * (W.worth m a).2
    · rcases Int.lt_or_gt_of_ne h with h2 | h2
      · exact .inl (.inr ⟨h1, h2⟩)
      · exact .inr (.inr ⟨h1.symm, h2⟩)
    · rcases Int.lt_or_gt_of_ne h1 with h2 | h2
      · exact .inr (.inl h2)
      · exact .inl (.inl h2)
/-! insertion, selection -/
def insA (r : Int → Int → Bool) (x : Int) : List Int → List Int
  | [] => [x]
  | y :: l => if r y x = true then y :: insA r x l else x :: y :: l
def orderL (r : Int → Int → Bool) (l : List Int) : List Int := l.foldl (fun acc n => insA r n acc) []
theorem insA_perm {r : Int → Int → Bool} {x : Int} : ∀ l : List Int, (insA r x l).Perm (x :: l)
  | [] => .refl _
  | y :: l => by
    unfold insA
    split
    · exact ((insA_perm l).cons y).trans (.swap x y l)
    · exact .refl _
theorem insA_pw {r : Int → Int → Bool} (so : SO r) {x : Int} : ∀ {l : List Int}, l.Pairwise (fun a b => r a b = true) → x ∉ l → (insA r x l).Pairwise (fun a b => r a b = true)
  | [], _, _ => by simp [insA]
  | y :: l, h, hx => by
    obtain ⟨h1, h2⟩ := List.pairwise_cons.mp h
    have ne : y ≠ x := fun z => hx (by rw [z]; exact List.mem_cons_self)
    have nl : x ∉ l := fun z => hx (List.mem_cons_of_mem _ z)
    unfold insA
    split
    · rename_i q
      refine List.pairwise_cons.mpr ⟨fun z hz => ?_, insA_pw so h2 nl⟩
      rcases List.mem_cons.mp ((insA_perm l).mem_iff.mp hz) with rfl | hz
      · exact q
      · exact h1 z hz
    · rename_i q
      have xy : r x y = true := (so.tot ne).resolve_left q
      refine List.pairwise_cons.mpr ⟨fun z hz => ?_, h⟩
      rcases List.mem_cons.mp hz with rfl | hz
      · exact xy
      · exact so.tr xy (h1 z hz)
theorem foldl_ins {r : Int → Int → Bool} (so : SO r) : ∀ (l acc : List Int), (acc ++ l).Nodup → acc.Pairwise (fun a b => r a b = true) → (l.foldl (fun acc n => insA r n acc) acc).Perm (acc ++ l) ∧ (l.foldl (fun acc n => insA r n acc) acc).Pairwise (fun a b => r a b = true)
  | [], acc, _, h => ⟨by simp, h⟩
  | x :: l, acc, nd, h => by
    have p := insA_perm (r := r) (x := x) acc
    have xa : x ∉ acc := fun z => (List.nodup_append.mp nd).2.2 x z x List.mem_cons_self rfl
    have p2 : (insA r x acc ++ l).Perm (acc ++ x :: l) := (p.append_right l).trans (by simpa using List.perm_middle.symm)
    obtain ⟨h1, h2⟩ := foldl_ins so l (insA r x acc) (p2.nodup_iff.mpr nd) (insA_pw so h xa)
    exact ⟨h1.trans p2, h2⟩
theorem orderL_perm {r : Int → Int → Bool} (so : SO r) {l : List Int} (nd : l.Nodup) : (orderL r l).Perm l := by
  have := (foldl_ins so l [] (by simpa using nd) .nil).1
  simp only [List.nil_append] at this
  exact this
theorem orderL_pw {r : Int → Int → Bool} (so : SO r) {l : List Int} (nd : l.Nodup) : (orderL r l).Pairwise (fun a b => r a b = true) := (foldl_ins so l [] (by simpa using nd) .nil).2
theorem order_unique {r : Int → Int → Bool} (so : SO r) {a b : List Int} (p : a.Perm b) (ha : a.Pairwise (fun a b => r a b = true)) (hb : b.Pairwise (fun a b => r a b = true)) : a = b := p.eq_of_pairwise (fun x y _ _ h1 h2 => (so.asy h1 h2).elim) ha hb
/-- where it goes in -/
theorem insA_at {r : Int → Int → Bool} {x : Int} : ∀ (l : List Int) (j : Nat), j ≤ l.length → (∀ i y, i < j → l[i]? = some y → r y x = true) → (∀ y, l[j]? = some y → r y x = false) → l.take j ++ [x] ++ l.drop j = insA r x l
  | [], j, hj, _, _ => by
    have : j = 0 := by simpa using hj
    subst this; rfl
  | y :: l, 0, _, _, h2 => by
    have := h2 y rfl
    simp [insA, this]
  | y :: l, j + 1, hj, h1, h2 => by
    have := h1 0 y (Nat.succ_pos _) rfl
    unfold insA
    rw [if_pos this, ← insA_at l j (by simpa using hj) (fun i z hi hz => h1 (i + 1) z (by omega) (by simpa using hz)) (fun z hz => h2 z (by simpa using hz))]
    simp
/-- the first of all by r -/
def bestOf (r : Int → Int → Bool) (x : Int) (l : List Int) : Int := l.foldl (fun f o => if r o f = true then o else f) x
theorem bestOf_spec {r : Int → Int → Bool} (so : SO r) : ∀ (l : List Int) (x : Int), (x :: l).Nodup → bestOf r x l ∈ x :: l ∧ ∀ y ∈ x :: l, y ≠ bestOf r x l → r (bestOf r x l) y = true
  | [], x, _ => ⟨List.mem_cons_self, fun y hy ne => absurd (List.mem_singleton.mp hy) ne⟩
  | o :: l, x, nd => by
    have nx : x ≠ o := fun z => (List.nodup_cons.mp nd).1 (by rw [z]; exact List.mem_cons_self)
    have nd2 : (o :: l).Nodup := (List.nodup_cons.mp nd).2
    have nd1 : (x :: l).Nodup := List.nodup_cons.mpr ⟨fun z => (List.nodup_cons.mp nd).1 (List.mem_cons_of_mem _ z), (List.nodup_cons.mp nd2).2⟩
    show bestOf r (if r o x = true then o else x) l ∈ _ ∧ ∀ y ∈ x :: o :: l, y ≠ bestOf r (if r o x = true then o else x) l → r (bestOf r (if r o x = true then o else x) l) y = true
    by_cases q : r o x = true
    · rw [if_pos q]
      obtain ⟨h1, h2⟩ := bestOf_spec so l o nd2
      refine ⟨List.mem_cons_of_mem _ h1, fun y hy ne => ?_⟩
      rcases List.mem_cons.mp hy with rfl | hy
      · by_cases z : o = bestOf r o l
        · rw [← z]; exact q
        · exact so.tr (h2 o List.mem_cons_self z) q
      · exact h2 y hy ne
    · rw [if_neg q]
      have q2 : r x o = true := (so.tot nx).resolve_right q
      obtain ⟨h1, h2⟩ := bestOf_spec so l x nd1
      refine ⟨?_, fun y hy ne => ?_⟩
      · rcases List.mem_cons.mp h1 with z | z
        · rw [z]; exact List.mem_cons_self
        · exact List.mem_cons_of_mem _ (List.mem_cons_of_mem _ z)
      · rcases List.mem_cons.mp hy with rfl | hy
        · exact h2 y List.mem_cons_self ne
        · rcases List.mem_cons.mp hy with rfl | hy
          · by_cases z : x = bestOf r x l
            · rw [← z]; exact q2
            · exact so.tr (h2 x List.mem_cons_self z) q2
          · exact h2 y (List.mem_cons_of_mem _ hy) ne
def selN (r : Int → Int → Bool) : Nat → List Int → List Int
  | 0, _ => []
  | _ + 1, [] => []
  | k + 1, x :: l => bestOf r x l :: selN r k ((x :: l).erase (bestOf r x l))
theorem selN_spec {r : Int → Int → Bool} (so : SO r) : ∀ (k : Nat) (l : List Int), l.length ≤ k → l.Nodup → (selN r k l).Perm l ∧ (selN r k l).Pairwise (fun a b => r a b = true)
  | 0, l, h, _ => by
    have : l = [] := List.length_eq_zero_iff.mp (by omega)
    subst this; exact ⟨.refl _, .nil⟩
  | k + 1, [], _, _ => ⟨.refl _, .nil⟩
  | k + 1, x :: l, h, nd => by
    obtain ⟨h1, h2⟩ := bestOf_spec so l x nd
    have hl : ((x :: l).erase (bestOf r x l)).length ≤ k := by
      rw [List.length_erase_of_mem h1]; simp at h ⊢; omega
    obtain ⟨p, q⟩ := selN_spec so k _ hl (nd.erase _)
    refine ⟨(p.cons _).trans (List.perm_cons_erase h1).symm, List.pairwise_cons.mpr ⟨fun y hy => ?_, q⟩⟩
    have hy' := p.mem_iff.mp hy
    have := (nd.mem_erase_iff).mp hy'
    exact h2 y this.2 this.1
theorem sel_order {r : Int → Int → Bool} (so : SO r) {l : List Int} (nd : l.Nodup) : selN r l.length l = orderL r l := by
  obtain ⟨p, q⟩ := selN_spec so l.length l (Nat.le_refl _) nd
  exact order_unique so (p.trans (orderL_perm so nd).symm) q (orderL_pw so nd)
def Wd.ordered (W : Wd) (m : Ms) (n : Int) : List Int := orderL (W.ahead m) (W.replies n)
theorem WF.replies_nd {W : Wd} (h : WF W) (n : Int) : (W.replies n).Nodup := h.nd.sublist List.filter_sublist
theorem WF.ordered_perm {W : Wd} (h : WF W) (m : Ms) (n : Int) : (W.ordered m n).Perm (W.replies n) := orderL_perm (so_ahead W m) (h.replies_nd n)
theorem WF.ordered_sorted {W : Wd} (h : WF W) (m : Ms) (n : Int) : isort (W.ordered m n) = W.replies n := (isort_eq (h.ordered_perm m n).symm ((h.srt_filter _).imp fun h => by omega)).symm
/-- new is old from its end -/
theorem WF.new_old {W : Wd} (h : WF W) (n : Int) : W.ordered .new n = (W.ordered .old n).reverse := by
  have so := so_ahead W .new
  refine order_unique so ((h.ordered_perm .new n).trans ((h.ordered_perm .old n).symm.trans (List.reverse_perm _).symm)) (orderL_pw so (h.replies_nd n)) ?_
  rw [List.pairwise_reverse]
  have pw := orderL_pw (so_ahead W .old) (h.replies_nd n)
  refine pw.imp_of_mem fun {a b} ha hb hab => ?_
  have hka : a ∈ W.keys := (List.mem_filter.mp ((h.ordered_perm .old n).mem_iff.mp ha)).1
  have hkb : b ∈ W.keys := (List.mem_filter.mp ((h.ordered_perm .old n).mem_iff.mp hb)).1
  obtain ⟨Sa, ea⟩ := h.key_find hka
  obtain ⟨Sb, eb⟩ := h.key_find hkb
  unfold Wd.ahead at hab ⊢
  rw [aheadP_iff] at hab ⊢
  simp only [Wd.worth, ea, eb, Say.worth] at hab ⊢
  omega
end DL

set_option Elab.async false
set_option linter.all false
set_option maxRecDepth 100000
set_option maxHeartbeats 2000000
set_option autoImplicit false
/-! MP: what the defs of the measures promise. -/
namespace DL
open PySem PySem.Spec L2
theorem inV_strs {z : Str} {xs : List Str} : inV (.str z) (xs.map V.str) = decide (z ∈ xs) := by
  unfold inV
  rw [List.any_map, Bool.eq_iff_iff]
  simp [eqV]
theorem niF_meas {g : G} {z : Str} : niF g (.str z) (.tup [.str "new", .str "old", .str "best", .str "warm", .str "torn", .str "sure"]) = some (.bl (!decide (z ∈ meas))) := by
  have e : toVs [D.str "new", .str "old", .str "best", .str "warm", .str "torn", .str "sure"] = some (meas.map V.str) := rfl
  simp only [niF, inB, toV, items, Option.bind_some, e, inV_strs, Option.map_some]
/-- a worth with its number -/
def pwD (p : (Int × Int) × Int) : D := .tup [.tup [.int p.1.1, .int p.1.2], .int p.2]
def sp_need_measure (K : PySem.W.Frag) : SpD := fun ds g Kt => ∃ t, ds = [t] ∧ (dTy t).isSome = true ∧ (∀ z, t = .str z → z ∈ meas → Kt (.val .non) g) ∧ ((∀ z, t = .str z → z ∉ meas) → Kt (.exc (He.ga K "BadNumber")) g)
def sp_worth (K : PySem.W.Frag) : SpD := wp K fun A W r g Kt => ∃ n, ∃ m : Ms, r = [.int n, .str m.s] ∧ n ∈ W.keys ∧ Kt (.val (.tup [.int (W.worth m n).1, .int (W.worth m n).2])) g
def sp_is_ahead : SpD := fun ds g Kt => ∃ p q, ds = [pwD p, pwD q] ∧ (0 < p.1.2 ∧ p.1.2 < 1000000) ∧ (0 < q.1.2 ∧ q.1.2 < 1000000) ∧ Kt (.val (.bl (aheadP p q))) g
def sp_in_order (K : PySem.W.Frag) : SpD := wp K fun A W r g Kt => ∃ (ns : List Int), ∃ m : Ms, r = [.lst (ns.map D.int), .str m.s] ∧ ns.length ≤ 60 ∧ (∀ n ∈ ns, n ∈ W.keys) ∧ Kt (.val (.lst ((orderL (W.ahead m) ns).map D.int))) g
/-- a thing that may be asked for as a place -/
def flat1 (t : D) : Prop := ∃ v, toV t = some v
theorem neF_zero {g : G} {t : D} (h : flat1 t) : ∃ b, neF g t (.int 0) = some (.bl b) ∧ ∀ n, t = .int n → b = !decide (n = 0) := by
  obtain ⟨v, h⟩ := h
  cases t with
  | non => exact ⟨true, by simp [neF, eqB, toV, scal], fun n e => by cases e⟩
  | int i => exact ⟨!decide (i = 0), by simp, fun n e => by cases e; rfl⟩
  | str x => exact ⟨true, by simp [neF, eqB, toV, scal], fun n e => by cases e⟩
  | bl b =>
    refine ⟨b, ?_, fun n e => by cases e⟩
    cases b <;> simp [neF, eqB, toV, scal, eqP, py, SeqAt.shaped, PyData.canLay0, PyData.depth, PyData.eqv]
  | _ => simp [toV] at h
theorem flat_ty {t : D} (h : flat1 t) : (dTy t).isSome = true := by
  obtain ⟨v, h⟩ := h
  cases t <;> simp [toV] at h <;> rfl
theorem isF_bool {t : D} (h : flat1 t) : ∃ b, isF "bool" t = some b ∧ ∀ n, t = .int n → b = false := by
  obtain ⟨v, h⟩ := h
  cases t with
  | non => exact ⟨false, by simp [isF, dTy], fun n e => rfl⟩
  | int i => exact ⟨false, by simp [isF, dTy], fun n e => rfl⟩
  | str x => exact ⟨false, by simp [isF, dTy], fun n e => rfl⟩
  | bl b => exact ⟨true, by simp [isF, dTy], fun n e => by cases e⟩
  | _ => simp [toV] at h
/-- 0, or what a saying's number asks -/
def ok0 (t : D) : Prop := ∀ b c, neF g0 t (.int 0) = some (.bl b) → isF "bool" t = some c → b = false → c = false → t = .int 0
theorem ok_zero {t : D} (h : flat1 t) : ok0 t := by
  intro b c h1 h2 hb hc
  subst hb hc
  obtain ⟨v, h⟩ := h
  cases t with
  | non => simp [neF, eqB, toV, scal] at h1
  | int i => simp at h1; rw [h1]
  | str x => simp [neF, eqB, toV, scal] at h1
  | bl b => simp [isF, dTy] at h2
  | _ => simp [toV] at h
theorem neF_g {g g' : G} {a b : D} : neF g a b = neF g' a b := rfl
def sp_ordered (K : PySem.W.Frag) : SpD := wp K fun A W r g Kt => ∃ t u, r = [t, u] ∧ flat1 t ∧ (dTy u).isSome = true ∧ ((∀ n, t = .int n → ¬ isThere W n) → Kt (.exc (He.ga K "NoSaying")) g) ∧
  (∀ n, t = .int n → isThere W n → (∀ z, u = .str z → z ∉ meas) → Kt (.exc (He.ga K "BadNumber")) g) ∧ (∀ n, ∀ m : Ms, t = .int n → isThere W n → u = .str m.s → Kt (.val (.lst ((W.ordered m n).map D.int))) g)
def Wd.pw (W : Wd) (m : Ms) (n : Int) : D := pwD (W.worth m n, n)
theorem foldl_ins_len {r : Int → Int → Bool} : ∀ (l acc : List Int), (l.foldl (fun acc n => insA r n acc) acc).length = acc.length + l.length
  | [], acc => by simp
  | x :: l, acc => by
    rw [List.foldl_cons, foldl_ins_len l, (insA_perm (r := r) (x := x) acc).length_eq]
    simp; omega
theorem orderL_length {r : Int → Int → Bool} {l : List Int} : (orderL r l).length = l.length := by
  have := foldl_ins_len (r := r) l []
  simpa [orderL] using this
end DL

set_option Elab.async false
set_option linter.all false
set_option maxRecDepth 100000
set_option maxHeartbeats 2000000
set_option autoImplicit false
/-! MQ: orders by the law's own; woods grown. -/
namespace DL
open PySem PySem.Spec L2
def noF : Addr → Prop := fun _ => False
/-- only new objects -/
abbrev New (g g' : G) : Prop := Frm g g' noF noF
theorem New.nl {g g' : G} (h : New g g') (n : NL g) : NL g' := n.frm h
theorem New.own {g g' : G} {B : Wa} {W : Wd} (h : New g g') (o : OwnIn g B W) : OwnIn g' B W := o.frm h fun _ _ z => z
theorem New.wood {K : PySem.W.Frag} {g g' : G} {B : Wa} {W : Wd} (h : New g g') (o : WoodIn K g B W) : WoodIn K g' B W := o.frm h fun _ _ z => z
theorem New.set {g : G} {p : Addr} {o : MO} (hp : g.get p = none) : New g (g.set p o) := by
  refine ⟨fun a ha _ => G.set_ne fun z => ha (by rw [z]; exact hp), fun a z => z.elim, fun a ha => ?_, rfl, rfl⟩
  by_cases e : a = p
  · subst e; rw [G.set_same]; simp
  · rw [G.set_ne e]; exact ha
theorem New.set2 {g g' : G} {p : Addr} {o : MO} (h : New g g') (hp : g.get p = none) (hp' : g'.get p ≠ none) : New g (g'.set p o) := by
  refine ⟨fun a ha _ => ?_, fun a z => z.elim, fun a ha => ?_, h.lk, h.tl⟩
  · rw [G.set_ne fun z => ha (by rw [z]; exact hp)]; exact h.out a ha id
  · by_cases e : a = p
    · subst e; rw [G.set_same]; simp
    · rw [G.set_ne e]; exact h.old a ha
def wD (w : Int × Int) : D := .tup [.int w.1, .int w.2]
def sp_lahead : SpD := op fun A W r g Kt => ∃ a b, ∃ m : Ms, r = [.int a, .int b, .str m.s] ∧ a ∈ W.keys ∧ b ∈ W.keys ∧ NL g ∧ ∀ g', New g g' → Kt (.val (.bl (W.ahead m a b))) g'
def sp_lordered : SpD := op fun A W r g Kt => ∃ n, ∃ m : Ms, r = [.int n, .str m.s] ∧ NL g ∧ ∀ g', New g g' → Kt (.val (.lst ((W.ordered m n).map D.int))) g'
theorem isort2 (a b : Int) : isort [a, b] = [min a b, max a b] := by
  refine (isort_eq (a := [min a b, max a b]) ?_ (by simp; omega)).symm
  by_cases h : a ≤ b
  · rw [Int.min_eq_left h, Int.max_eq_right h]
  · rw [Int.min_eq_right (by omega), Int.max_eq_left (by omega)]; exact .swap a b []
/-- the law's own way to tell -/
theorem gap_ahead (p q : (Int × Int) × Int) : (decide (0 < p.1.1 * q.1.2 - q.1.1 * p.1.2) || (decide (p.1.1 * q.1.2 - q.1.1 * p.1.2 = 0) && decide (p.2 < q.2))) = aheadP p q := by
  rw [Bool.eq_iff_iff, aheadP_iff]
  simp
  omega
def unF (A B : Addr → Prop) : Addr → Prop := fun a => A a ∨ B a
theorem Frm.union {g g' : G} {F F' E : Addr → Prop} (h : Frm g g' F F') : Frm g g' (unF F E) (unF F' E) :=
  ⟨fun a ha n => h.out a ha fun z => n (.inl z), fun a z => z.elim (fun z => (h.new a z).imp .inl id) fun z => .inl (.inr z), h.old, h.lk, h.tl⟩
theorem Frm.union' {g g' : G} {F F' E : Addr → Prop} (h : Frm g g' F F') : Frm g g' (unF E F) (unF E F') :=
  ⟨fun a ha n => h.out a ha fun z => n (.inr z), fun a z => z.elim (fun z => .inl (.inl z)) fun z => (h.new a z).imp .inr id, h.old, h.lk, h.tl⟩
/-- a wood, the law's own, behind so many deeds: all new -/
def sp_grown (K : PySem.W.Frag) : SpD := fun ds g Kt => ∃ m k, ds = [.int m, .int k] ∧ 0 ≤ k ∧ k ≤ 1000 ∧ NL g ∧ ∀ g' A B W, Both K g' A B W → (W.age : Int) ≤ k → W.came ≤ k → Frm g g' noF (unF (W.foot A) (W.foot B)) → Kt (.val (.tup [.ref A.w, .ref B.w])) g'
theorem both0_frm {K : PySem.W.Frag} {g g1 g2 : G} {x d w e : Addr} (hx : g.get x = none) (hd : (g.set x (.ins (He.ga K "Wood") [])).get d = none)
    (h1 : g1 = ((g.set x (.ins (He.ga K "Wood") [])).set d (.dct [])).set x (.ins (He.ga K "Wood") [("sayings", .ref d), ("came", .int 0), ("clock", .int 0)])) (hw : g1.get w = none) (he : g1.get e = none)
    (h2 : g2 = (g1.set e (.dct [])).set w (.dct [(.inr "rows", .ref e), (.inr "came", .int 0), (.inr "clock", .int 0)])) : Frm g g2 noF (unF (W0.foot (wa0 x d)) (W0.foot (wa0 w e))) := by
  have dx : d ≠ x := fun z => by subst z; rw [G.set_same] at hd; cases hd
  have gd : g.get d = none := by rwa [G.set_ne dx] at hd
  have g1x : g1.get x ≠ none := by rw [h1, G.set_same]; simp
  have g1d : g1.get d ≠ none := by rw [h1, G.set_ne dx, G.set_same]; simp
  have xw : w ≠ x := fun z => by rw [z] at hw; exact g1x hw
  have xe : e ≠ x := fun z => by rw [z] at he; exact g1x he
  have dw : w ≠ d := fun z => by rw [z] at hw; exact g1d hw
  have de : e ≠ d := fun z => by rw [z] at he; exact g1d he
  have gw : g.get w = none := by rw [h1, G.set_ne xw, G.set_ne dw, G.set_ne xw] at hw; exact hw
  have ge : g.get e = none := by rw [h1, G.set_ne xe, G.set_ne de, G.set_ne xe] at he; exact he
  have no : ∀ n, n ∉ W0.keys := fun n h => by cases h
  refine ⟨fun a ha _ => ?_, fun a z => .inr ?_, fun a ha => ?_, by rw [h2, h1]; rfl, by rw [h2, h1]; rfl⟩
  · have n1 : a ≠ x := fun z => ha (by rw [z]; exact hx)
    have n2 : a ≠ d := fun z => ha (by rw [z]; exact gd)
    have n3 : a ≠ w := fun z => ha (by rw [z]; exact gw)
    have n4 : a ≠ e := fun z => ha (by rw [z]; exact ge)
    rw [h2, h1, G.set_ne n3, G.set_ne n4, G.set_ne n1, G.set_ne n2, G.set_ne n1]
  · rcases z with ⟨l, hl, rfl⟩ | ⟨l, hl, rfl⟩
    · cases l with
      | w => exact hx
      | d => exact gd
      | s n => exact absurd hl (no n)
      | v n => exact absurd hl (no n)
    · cases l with
      | w => exact gw
      | d => exact ge
      | s n => exact absurd hl (no n)
      | v n => exact absurd hl (no n)
  · have n1 : a ≠ x := fun z => ha (by rw [z]; exact hx)
    have n2 : a ≠ d := fun z => ha (by rw [z]; exact gd)
    have n3 : a ≠ w := fun z => ha (by rw [z]; exact gw)
    have n4 : a ≠ e := fun z => ha (by rw [z]; exact ge)
    rw [h2, h1, G.set_ne n3, G.set_ne n4, G.set_ne n1, G.set_ne n2, G.set_ne n1]; exact ha
/-- act first, then do; what they tell is let go -/
theorem act_do {K : PySem.W.Frag} {g : G} {A B : Wa} {W : Wd} {dd : Deed} {env : Env'} {Kt : KR} {i j : Nat} (h : Both K g A B W) (ha : W.age ≤ 50000) (ok : dd.ok) {g1 : G} {B1 : Wa} (q2 : B1.w = B.w) (i2 : OwnIn g1 B1 (outW W (dd.out W))) (f2 : Frm g g1 (W.foot B) ((outW W (dd.out W)).foot B1)) (e1 : env[i]? = some (.dat (.ref A.w))) (e2 : env[j]? = some (.dat dd.d))
    (hk : ∀ g' A' B', A'.w = A.w → B'.w = B.w → Both K g' A' B' (outW W (dd.out W)) → (outW W (dd.out W)).age ≤ W.age + 1 → Frm g g' (unF (W.foot A) (W.foot B)) (unF ((outW W (dd.out W)).foot A') ((outW W (dd.out W)).foot B')) → Kt (.val (outD (dd.out W))) g') :
    rCall 2 (sp_do K) (rCons (rVar i) (rCons (rVar j) rNil)) env g1 Kt := by
  obtain ⟨wf', ag⟩ := deed_wf h.wf ok
  refine do_rd (h.a_mid f2) (h.wfa ha) (h.nl.frm f2) ok e1 e2 fun g2 A1 q1 i1 f1 => ?_
  exact hk g2 A1 B1 q1 q2 (h.step' i2 f2 i1 f1 wf' (deed_named h.nm ok)) ag ((f2.union' (E := W.foot A)).trans (f1.union (E := (outW W (dd.out W)).foot B1)))
theorem goes_came : ∀ (k : Nat) (W : Wd) (n m : Int), (Wd.goes k W n m).1.came = W.came
  | 0, W, n, m => rfl
  | k + 1, W, n, m => by
    unfold Wd.goes
    split
    · rfl
    · split
      · rfl
      · split
        · rw [goes_came k]; rfl
        · rfl
theorem deed_came {W : Wd} {dd : Deed} : (outW W (dd.out W)).came ≤ W.came + 1 := by
  have same : W.came ≤ W.came + 1 := by omega
  cases dd with
  | say u b t =>
    show (outW W (W.sayR b u t)).came ≤ _
    unfold Wd.sayR
    split
    · exact same
    split
    · exact same
    split
    · exact same
    split
    · exact same
    · exact Int.le_refl _
  | vote n b y =>
    show (outW W (W.voteR n b y)).came ≤ _
    unfold Wd.voteR
    split
    · exact same
    split
    · exact same
    split
    · exact same
    split
    · exact same
    · exact same
  | tick m b =>
    show (outW W (W.tickR m)).came ≤ _
    unfold Wd.tickR
    split <;> exact same
  | strike n b =>
    show (outW W (W.strikeR n b)).came ≤ _
    unfold Wd.strikeR
    split
    · exact same
    · show (Wd.goes _ _ _ _).1.came ≤ _
      rw [goes_came]; exact same
  | change n b t =>
    show (outW W (W.changeR n b t)).came ≤ _
    unfold Wd.changeR
    split
    · exact same
    · split <;> exact same
theorem Both.new {K : PySem.W.Frag} {g g' : G} {A B : Wa} {W : Wd} (h : Both K g A B W) (n : New g g') : Both K g' A B W :=
  ⟨n.wood h.a, n.own h.b, h.wf, h.nm, n.nl h.nl, h.dj⟩
theorem Frm.new0 {g g1 g2 : G} {F : Addr → Prop} (h : Frm g g1 noF F) (n : New g1 g2) : Frm g g2 noF F := by
  refine ⟨fun a ha z => ?_, fun a ha => h.new a ha, fun a ha => n.old a (h.old a ha), n.lk.trans h.lk, n.tl.trans h.tl⟩
  rw [n.out a (h.old a ha) id, h.out a ha z]
theorem Ms.s_inj {a b : Ms} (h : (D.str a.s) = D.str b.s) : a = b := by
  have e3 := D.str.inj h
  revert e3
  cases a <;> cases b <;> simp [Ms.s]
theorem ordered_ok {K : PySem.W.Frag} {g : G} {A : Wa} {W : Wd} {n : Int} (m : Ms) {Kt : KR} (hA : WoodIn K g A W) (wfa : WFa W) (hn : isThere W n) (hk : Kt (.val (.lst ((W.ordered m n).map D.int))) g) : sp_ordered K [.ref A.w, .int n, .str m.s] g Kt :=
  ⟨A, W, _, rfl, hA, wfa, .int n, .str m.s, rfl, ⟨_, rfl⟩, rfl, fun q => absurd hn (q n rfl), fun q e _ hz => absurd m.mem (hz _ rfl), fun q m' e1 _ e2 => by
    cases e1
    have := Ms.s_inj e2
    subst this
    exact hk⟩
section
variable {K : PySem.W.Frag} {g : G} {A B : Wa} {W : Wd} {env : Env'} {Kt : KR} {i j l : Nat} {n : Int}
theorem ordered_rd {m : Ms} (hA : WoodIn K g A W) (wfa : WFa W) (hn : isThere W n) (e1 : env[i]? = some (.dat (.ref A.w))) (e2 : env[j]? = some (.dat (.int n))) (e3 : env[l]? = some (.dat (.str m.s))) (hk : Kt (.val (.lst ((W.ordered m n).map D.int))) g) :
    rCall 3 (sp_ordered K) (rCons (rVar i) (rCons (rVar j) (rCons (rVar l) rNil))) env g Kt := ⟨_, e1, _, e2, _, e3, rfl, ordered_ok m hA wfa hn hk⟩
theorem ordered_rdC (m : Ms) (hA : WoodIn K g A W) (wfa : WFa W) (hn : isThere W n) (e1 : env[i]? = some (.dat (.ref A.w))) (e2 : env[j]? = some (.dat (.int n))) (hk : Kt (.val (.lst ((W.ordered m n).map D.int))) g) :
    rCall 3 (sp_ordered K) (rCons (rVar i) (rCons (rVar j) (rCons (rC (.str m.s)) rNil))) env g Kt := ⟨_, e1, _, e2, rfl, ordered_ok m hA wfa hn hk⟩
theorem lordered_rd {m : Ms} (hB : OwnIn g B W) (wfa : WFa W) (nl : NL g) (e1 : env[i]? = some (.dat (.ref B.w))) (e2 : env[j]? = some (.dat (.int n))) (e3 : env[l]? = some (.dat (.str m.s))) (hk : ∀ g', New g g' → Kt (.val (.lst ((W.ordered m n).map D.int))) g') :
    rCall 3 sp_lordered (rCons (rVar i) (rCons (rVar j) (rCons (rVar l) rNil))) env g Kt := ⟨_, e1, _, e2, _, e3, rfl, B, W, _, rfl, hB, wfa, n, m, rfl, nl, hk⟩
end
end DL

set_option Elab.async false
set_option linter.all false
set_option maxRecDepth 100000
set_option maxHeartbeats 2000000
set_option autoImplicit false
/-! RD: readers in plain data, among the objects, what their defs promise. -/
namespace DL
open PySem PySem.Spec L2
structure Rdr where
  m : Ms
  b : Int
  fo : List (Int × Bool)
  /-- muted, as the program keeps them -/
  mu : List Str
structure Ra where
  r : Addr
  f : Addr
  u : Addr
def foldK (fo : List (Int × Bool)) : List (Key × D) := fo.map fun p => (.inl p.1, .bl p.2)
def muteK (mu : List Str) : List (Key × D) := mu.map fun s => (.inr s, .bl true)
structure RdIn (K : PySem.W.Frag) (g : G) (a : Ra) (w : Addr) (R : Rdr) : Prop where
  hr : g.get a.r = some (.ins (He.ga K "Reader") [("wood", .ref w), ("measure", .str R.m.s), ("bound", .int R.b), ("folds", .ref a.f), ("muted", .ref a.u)])
  hf : g.get a.f = some (.dct (foldK R.fo))
  hu : g.get a.u = some (.dct (muteK R.mu))
  n1 : a.r ≠ a.f
  n2 : a.r ≠ a.u
  n3 : a.f ≠ a.u
def Ra.foot (a : Ra) (x : Addr) : Prop := x = a.r ∨ x = a.f ∨ x = a.u
theorem RdIn.ne {K : PySem.W.Frag} {g : G} {a : Ra} {w : Addr} {R : Rdr} (h : RdIn K g a w R) {x : Addr} (hx : a.foot x) : g.get x ≠ none := by
  rcases hx with rfl | rfl | rfl
  · rw [h.hr]; simp
  · rw [h.hf]; simp
  · rw [h.hu]; simp
theorem RdIn.frm {K : PySem.W.Frag} {g g' : G} {a : Ra} {w : Addr} {R : Rdr} {F F' : Addr → Prop} (h : RdIn K g a w R) (f : Frm g g' F F') (hn : ∀ x, a.foot x → ¬ F x) : RdIn K g' a w R :=
  ⟨by rw [f.out _ (h.ne (.inl rfl)) (hn _ (.inl rfl)), h.hr], by rw [f.out _ (h.ne (.inr (.inl rfl))) (hn _ (.inr (.inl rfl))), h.hf], by rw [f.out _ (h.ne (.inr (.inr rfl))) (hn _ (.inr (.inr rfl))), h.hu], h.n1, h.n2, h.n3⟩
/-- folded last, or opened last -/
def setFo (fo : List (Int × Bool)) (n : Int) (b : Bool) : List (Int × Bool) := if (fo.any fun p => decide (p.1 = n)) = true then fo.map (fun p => if p.1 = n then (p.1, b) else p) else fo ++ [(n, b)]
theorem dput_fold {fo : List (Int × Bool)} {n : Int} {b : Bool} : dput (foldK fo) (.inl n) (.bl b) = foldK (setFo fo n b) := by
  unfold dput setFo foldK
  have e : ((fo.map fun p => ((.inl p.1 : Key), D.bl p.2)).any fun kv => decide (kv.1 = (.inl n : Key))) = fo.any fun p => decide (p.1 = n) := by
    rw [List.any_map]
    congr 1
    funext p
    simp
  rw [e]
  split
  · rw [List.map_map, List.map_map]
    apply List.map_congr_left
    intro p _
    show (if (Sum.inl p.1 : Key) = Sum.inl n then ((Sum.inl p.1 : Key), D.bl b) else (Sum.inl p.1, D.bl p.2)) = _
    by_cases h : p.1 = n <;> simp [h]
  · simp
theorem dfind_fold {fo : List (Int × Bool)} {n : Int} : dfind (foldK fo) (.inl n) = (fo.lookup n).map D.bl := dfind_rows (f := fun p => .bl p.2)
def addMu (mu : List Str) (s : Str) : List Str := if s ∈ mu then mu else mu ++ [s]
theorem dput_mute {mu : List Str} {s : Str} : dput (muteK mu) (.inr s) (.bl true) = muteK (addMu mu s) := by
  unfold dput addMu muteK
  have e : ((mu.map fun x => ((.inr x : Key), D.bl true)).any fun kv => decide (kv.1 = (.inr s : Key))) = decide (s ∈ mu) := by
    rw [List.any_map, Bool.eq_iff_iff]
    simp
  rw [e]
  by_cases h : s ∈ mu
  · rw [if_pos (by simpa using h), if_pos h, List.map_map]
    apply List.map_congr_left
    intro p _
    show (if (Sum.inr p : Key) = Sum.inr s then ((Sum.inr p : Key), D.bl true) else (Sum.inr p, D.bl true)) = _
    split <;> rfl
  · rw [if_neg (by simpa using h), if_neg h]
    simp
theorem ddrop_mute {mu : List Str} {s : Str} : ddrop (muteK mu) (.inr s) = muteK (mu.filter fun x => decide (x ≠ s)) := by
  unfold ddrop muteK
  rw [List.filter_map]
  congr 1
  apply List.filter_congr
  intro p _
  simp
theorem dfind_mute {mu : List Str} {s : Str} : dfind (muteK mu) (.inr s) = if s ∈ mu then some (.bl true) else none := by
  induction mu with
  | nil => rfl
  | cons x mu ih =>
    show dfind ((.inr x, .bl true) :: muteK mu) (.inr s) = _
    rw [dfind_cons, ih]
    by_cases h : x = s
    · subst h; simp
    · have h2 : ¬ s = x := fun z => h z.symm
      simp [h, h2]
/-! rows -/
abbrev Row := Int × Int × Str × Int
def rowD (r : Row) : D := .tup [.int r.1, .int r.2.1, .str r.2.2.1, .int r.2.2.2]
def Wd.folded (W : Wd) (R : Rdr) (n : Int) : Bool := (R.fo.lookup n).getD (decide (W.ptsAt n < R.b))
def Wd.kind (W : Wd) (R : Rdr) (n : Int) : Str := match W.find n with
  | none => "read"
  | some S => if S.struck = true then "struck" else if S.by_ ∈ R.mu then "muted" else "read"
def Wd.known (W : Wd) (kn : List Int) (n : Int) : List Int := (W.below n).filter fun o => decide (o ∈ kn)
def rowsF (W : Wd) (R : Rdr) (kn : List Int) : Nat → Int → Int → List Row
  | 0, _, _ => []
  | j + 1, n, d => if W.folded R n = true ∧ W.known kn n ≠ [] then [(n, d, W.kind R n, ((W.known kn n).length : Int))]
    else (n, d, W.kind R n, 0) :: ((W.ordered R.m n).filter fun o => decide (o ∈ kn)).flatMap fun o => rowsF W R kn j o (d + 1)
def rowsU (W : Wd) (R : Rdr) (kn : List Int) (j : Nat) (n d : Int) : List Row := ((W.ordered R.m n).filter fun o => decide (o ∈ kn)).flatMap fun o => rowsF W R kn j o d
def rowsMany (rs : List Row) : Int := (rs.length : Int) + (rs.map fun r => r.2.2.2).sum
theorem WF.below_sum {W : Wd} (h : WF W) {n : Int} (hn : n = 0 ∨ n ∈ W.keys) : ((W.replies n).map fun r => 1 + (W.below r).length).sum = (W.below n).length := by
  have e := congrArg List.length (h.below_step hn)
  rw [isort_length, List.length_flatMap] at e
  rw [← e]
  congr 1
  apply List.map_congr_left
  intro r _
  simp; omega
theorem ordered_sum {W : Wd} (h : WF W) {m : Ms} {n : Int} (hn : n = 0 ∨ n ∈ W.keys) : ((W.ordered m n).map fun r => 1 + (W.below r).length).sum = (W.below n).length := by
  rw [((h.ordered_perm m n).map _).sum_nat, h.below_sum hn]
theorem ordered_mem {W : Wd} (h : WF W) {m : Ms} {n o : Int} : o ∈ W.ordered m n ↔ o ∈ W.replies n := (h.ordered_perm m n).mem_iff
theorem sum_fm {f : Int → List Row} {g : Int → Nat} : ∀ {l : List Int}, (∀ x ∈ l, (f x).length ≤ g x) → (l.flatMap f).length ≤ (l.map g).sum
  | [], _ => by simp
  | x :: l, h => by
    rw [List.flatMap_cons, List.length_append, List.map_cons, List.sum_cons]
    have h1 := h x List.mem_cons_self
    have h2 := sum_fm (l := l) fun y hy => h y (List.mem_cons_of_mem _ hy)
    omega
theorem sum_filter {g : Int → Nat} {p : Int → Bool} : ∀ {l : List Int}, ((l.filter p).map g).sum ≤ (l.map g).sum
  | [] => by simp
  | x :: l => by
    have ih := sum_filter (g := g) (p := p) (l := l)
    rw [List.filter_cons, List.map_cons, List.sum_cons]
    split
    · rw [List.map_cons, List.sum_cons]; omega
    · omega
theorem rowsF_len {W : Wd} (h : WF W) {R : Rdr} {kn : List Int} : ∀ (j : Nat) (n d : Int), n ∈ W.keys → (rowsF W R kn j n d).length ≤ 1 + (W.below n).length
  | 0, n, d, _ => by simp [rowsF]
  | j + 1, n, d, hn => by
    unfold rowsF
    split
    · simp
    · rw [List.length_cons]
      have h1 : (((W.ordered R.m n).filter fun o => decide (o ∈ kn)).flatMap fun o => rowsF W R kn j o (d + 1)).length ≤ (((W.ordered R.m n).filter fun o => decide (o ∈ kn)).map fun r => 1 + (W.below r).length).sum := sum_fm fun x hx => by
        have hx' := (ordered_mem h).mp (List.mem_filter.mp hx).1
        exact rowsF_len h j x (d + 1) (List.mem_filter.mp hx').1
      have h2 := sum_filter (g := fun r => 1 + (W.below r).length) (p := fun o => decide (o ∈ kn)) (l := W.ordered R.m n)
      have h3 := ordered_sum h (m := R.m) (.inr hn)
      omega
theorem rowsU_len {W : Wd} (h : WF W) {R : Rdr} {kn : List Int} {j : Nat} {n d : Int} (hn : n = 0 ∨ n ∈ W.keys) (k : Nat) : ((((W.ordered R.m n).take k).filter fun o => decide (o ∈ kn)).flatMap fun o => rowsF W R kn j o d).length ≤ 60 := by
  have h1 : ((((W.ordered R.m n).take k).filter fun o => decide (o ∈ kn)).flatMap fun o => rowsF W R kn j o d).length ≤ ((((W.ordered R.m n).take k).filter fun o => decide (o ∈ kn)).map fun r => 1 + (W.below r).length).sum := sum_fm fun x hx => by
    have hx' := (ordered_mem h).mp (List.mem_of_mem_take (List.mem_filter.mp hx).1)
    exact rowsF_len h j x d (List.mem_filter.mp hx').1
  have h2 := sum_filter (g := fun r => 1 + (W.below r).length) (p := fun o => decide (o ∈ kn)) (l := (W.ordered R.m n).take k)
  have h3 := ordered_sum h (m := R.m) hn
  have h4 := below_len (n := n) h
  have h5 : (((W.ordered R.m n).take k).map fun r => 1 + (W.below r).length).sum ≤ ((W.ordered R.m n).map fun r => 1 + (W.below r).length).sum := by
    have := congrArg List.sum (congrArg (List.map fun r => 1 + (W.below r).length) (List.take_append_drop k (W.ordered R.m n)))
    rw [List.map_append, List.sum_append] at this
    omega
  omega
theorem rowsU_len' {W : Wd} (h : WF W) {R : Rdr} {kn : List Int} {j : Nat} {n d : Int} (hn : n = 0 ∨ n ∈ W.keys) : (rowsU W R kn j n d).length ≤ 60 := by
  have := rowsU_len h (R := R) (kn := kn) (j := j) (d := d) hn (W.ordered R.m n).length
  rw [List.take_length] at this
  exact this
/-- all is told, or counted -/
theorem rowsMany_append {a b : List Row} : rowsMany (a ++ b) = rowsMany a + rowsMany b := by
  unfold rowsMany
  rw [List.length_append, List.map_append, List.sum_append]
  push_cast; omega
theorem rowsMany_fm {f : Int → List Row} {g : Int → Nat} : ∀ {l : List Int}, (∀ x ∈ l, rowsMany (f x) = (g x : Int)) → rowsMany (l.flatMap f) = ((l.map g).sum : Nat)
  | [], _ => rfl
  | x :: l, h => by
    rw [List.flatMap_cons, rowsMany_append, h x List.mem_cons_self, rowsMany_fm fun y hy => h y (List.mem_cons_of_mem _ hy), List.map_cons, List.sum_cons]
    push_cast; rfl
theorem rowsF_many {W : Wd} (h : WF W) {R : Rdr} : ∀ (j : Nat) (n d : Int), n ∈ W.keys → 9 ≤ j + (W.above n).length → rowsMany (rowsF W R W.keys j n d) = ((1 + (W.below n).length : Nat) : Int)
  | 0, n, d, hn, hj => by have := h.dep n hn; omega
  | j + 1, n, d, hn, hj => by
    have kn : W.known W.keys n = W.below n := by
      unfold Wd.known
      rw [List.filter_eq_self]
      intro o ho
      simpa using (h.below_mem.mp ho).1
    unfold rowsF
    rw [kn]
    split
    · simp [rowsMany]
    · have fl : ((W.ordered R.m n).filter fun o => decide (o ∈ W.keys)) = W.ordered R.m n := by
        rw [List.filter_eq_self]
        intro o ho
        simpa using (List.mem_filter.mp ((ordered_mem h).mp ho)).1
      rw [fl]
      have e := rowsMany_fm (f := fun o => rowsF W R W.keys j o (d + 1)) (g := fun r => 1 + (W.below r).length) (l := W.ordered R.m n) fun x hx => by
        have hx' := (ordered_mem h).mp hx
        obtain ⟨a1, a2, a3⟩ := h.replies_above hx'
        refine rowsF_many h j x (d + 1) a3 ?_
        rw [a1, List.length_cons]; omega
      rw [ordered_sum h (.inr hn)] at e
      have e2 : rowsMany ((n, d, W.kind R n, 0) :: (W.ordered R.m n).flatMap fun o => rowsF W R W.keys j o (d + 1)) = 1 + rowsMany ((W.ordered R.m n).flatMap fun o => rowsF W R W.keys j o (d + 1)) := by
        unfold rowsMany
        rw [List.length_cons, List.map_cons, List.sum_cons]
        push_cast; omega
      rw [e2, e]
      push_cast; omega
theorem rowsU_many {W : Wd} (h : WF W) {R : Rdr} : rowsMany (rowsU W R W.keys 8 0 0) = (W.keys.length : Int) := by
  have fl : ((W.ordered R.m 0).filter fun o => decide (o ∈ W.keys)) = W.ordered R.m 0 := by
    rw [List.filter_eq_self]
    intro o ho
    simpa using (List.mem_filter.mp ((ordered_mem h).mp ho)).1
  unfold rowsU
  rw [fl]
  have e := rowsMany_fm (f := fun o => rowsF W R W.keys 8 o 0) (g := fun r => 1 + (W.below r).length) (l := W.ordered R.m 0) fun x hx => by
    have hx' := (ordered_mem h).mp hx
    obtain ⟨a1, a2, a3⟩ := h.replies_above hx'
    refine rowsF_many h 8 x 0 a3 ?_
    rw [a1, List.length_cons, h.above_zero]; simp
  rw [ordered_sum h (.inl rfl), h.below_zero] at e
  exact e
end DL

set_option Elab.async false
set_option linter.all false
set_option maxRecDepth 100000
set_option maxHeartbeats 2000000
set_option autoImplicit false
/-! SR: what the defs of readers promise. -/
namespace DL
open PySem PySem.Spec L2
def sp_Reader (K : PySem.W.Frag) : SpD := fun ds g Kt => ∃ x q t b, ds = [.ref x, q, t, b] ∧ g.get x = some (.ins (He.ga K "Reader") []) ∧ (dTy t).isSome = true ∧ (dTy b).isSome = true ∧
  ((∀ z, t = .str z → z ∉ meas) → Kt (.exc (He.ga K "BadNumber")) g) ∧
  (∀ m : Ms, t = .str m.s → isCnt b (-9) 0 = false → Kt (.exc (He.ga K "BadNumber")) g) ∧
  (∀ m : Ms, ∀ i, t = .str m.s → b = .int i → isCnt b (-9) 0 = true → ∀ f u, g.get f = none → g.get u = none → f ≠ x → u ≠ x → f ≠ u →
    Kt (.val .non) (((g.set f (.dct [])).set u (.dct [])).set x (.ins (He.ga K "Reader") [("wood", q), ("measure", .str m.s), ("bound", .int i), ("folds", .ref f), ("muted", .ref u)])))
def rp (K : PySem.W.Frag) (f : Ra → Wa → Wd → Rdr → List D → G → KR → Prop) : SpD := fun ds g Kt => ∃ a A W R r, ds = .ref a.r :: r ∧ RdIn K g a A.w R ∧ WoodIn K g A W ∧ WFa W ∧ R.fo.length ≤ 50000 ∧ R.mu.length ≤ 50000 ∧ f a A W R r g Kt
theorem rp_at {K : PySem.W.Frag} {f : Ra → Wa → Wd → Rdr → List D → G → KR → Prop} {a : Ra} {A : Wa} {W : Wd} {R : Rdr} {r : List D} {g : G} {Kt : KR} (h1 : RdIn K g a A.w R) (h2 : WoodIn K g A W) (h3 : WFa W) (h4 : R.fo.length ≤ 50000) (h5 : R.mu.length ≤ 50000) (h6 : f a A W R r g Kt) : rp K f (.ref a.r :: r) g Kt := ⟨a, A, W, R, r, rfl, h1, h2, h3, h4, h5, h6⟩
def sp_fold (b : Bool) (K : PySem.W.Frag) : SpD := rp K fun a A W R r g Kt => ∃ t, r = [t] ∧ (dTy t).isSome = true ∧ NL g ∧ (∀ n, t = .int n → n ∈ W.keys → Kt (.val .non) (g.set a.f (.dct (foldK (setFo R.fo n b))))) ∧ ((∀ n, t = .int n → n ∉ W.keys) → Kt (.exc (He.ga K "NoSaying")) g)
def sp_mute (K : PySem.W.Frag) : SpD := rp K fun a A W R r g Kt => ∃ t, r = [t] ∧ okArg t ∧ NL g ∧ (∀ s, t = .str s → okName t = true → Kt (.val .non) (g.set a.u (.dct (muteK (addMu R.mu s))))) ∧ (okName t = false → Kt (.exc (He.ga K "BadName")) g)
def sp_hear (K : PySem.W.Frag) : SpD := rp K fun a A W R r g Kt => ∃ t, r = [t] ∧ okArg t ∧ NL g ∧ (∀ s, t = .str s → okName t = true → ∀ g', (g' = g ∧ s ∉ R.mu ∨ g' = g.set a.u (.dct (muteK (R.mu.filter fun x => decide (x ≠ s))))) → Kt (.val .non) g') ∧ (okName t = false → Kt (.exc (He.ga K "BadName")) g)
def sp_is_folded (K : PySem.W.Frag) : SpD := rp K fun a A W R r g Kt => ∃ n, r = [.int n] ∧ n ∈ W.keys ∧ Kt (.val (.bl (W.folded R n))) g
def sp_kind (K : PySem.W.Frag) : SpD := rp K fun a A W R r g Kt => ∃ n, r = [.int n] ∧ n ∈ W.keys ∧ Kt (.val (.str (W.kind R n))) g
def sp_rows_of (j : Nat) (K : PySem.W.Frag) : SpD := rp K fun a A W R r g Kt => ∃ n d kn, r = [.int n, .int d, .lst (kn.map D.int)] ∧ n ∈ W.keys ∧ (∀ a, g.tl a = false) ∧ 9 ≤ j + (W.above n).length ∧ Kt (.val (.lst ((rowsF W R kn j n d).map rowD))) g
/-- nothing, where no step is left -/
def sprof : Nat → PySem.W.Frag → SpD
  | 0, _ => fun _ _ _ => False
  | j + 1, K => sp_rows_of (j + 1) K
def sp_rows_under (j : Nat) (K : PySem.W.Frag) : SpD := rp K fun a A W R r g Kt => ∃ n d kn, r = [.int n, .int d, .lst (kn.map D.int)] ∧ isThere W n ∧ (∀ a, g.tl a = false) ∧ 8 ≤ j + (W.above n).length ∧ Kt (.val (.lst ((rowsU W R kn j n d).map rowD))) g
def sp_rows (K : PySem.W.Frag) : SpD := rp K fun a A W R r g Kt => r = [] ∧ (∀ a, g.tl a = false) ∧ Kt (.val (.lst ((rowsU W R W.keys 8 0 0).map rowD))) g
theorem WoodIn.pts {K : PySem.W.Frag} {g : G} {A : Wa} {W : Wd} (wf : WFa W) {n : Int} {S : Say} (e : W.find n = some S) : W.ptsAt n = S.ups - S.downs := by simp [Wd.ptsAt, e, Say.pts]
theorem ordered_len {W : Wd} (h : WF W) {m : Ms} {n : Int} : (W.ordered m n).length ≤ 60 := by
  rw [(h.ordered_perm m n).length_eq]; exact replies_len h
theorem rowsU_take {W : Wd} {R : Rdr} {kn : List Int} {j : Nat} {n d o : Int} {k : Nat} (h : (W.ordered R.m n)[k]? = some o) :
    ((((W.ordered R.m n).take (k + 1)).filter fun o => decide (o ∈ kn)).flatMap fun o => rowsF W R kn j o d) = ((((W.ordered R.m n).take k).filter fun o => decide (o ∈ kn)).flatMap fun o => rowsF W R kn j o d) ++ (if o ∈ kn then rowsF W R kn j o d else []) := by
  rw [List.take_add_one, h, List.filter_append, List.flatMap_append]
  congr 1
  by_cases q : o ∈ kn <;> simp [q]
end DL

set_option Elab.async false
set_option linter.all false
set_option maxRecDepth 100000
set_option maxHeartbeats 2000000
set_option autoImplicit false
/-! SV: the law's own readers; a wood, its reader and the law's own of both side by side. -/
namespace DL
open PySem PySem.Spec L2
structure ViewIn (g : G) (v w : Addr) (R : Rdr) (ml : List Str) : Prop where
  hv : g.get v = some (.dct [(.inr "measure", .str R.m.s), (.inr "bound", .int R.b), (.inr "folds", .ref w), (.inr "muted", .lst (ml.map D.str))])
  hw : g.get w = some (.dct (foldK R.fo))
  ne : v ≠ w
  mm : ∀ s, s ∈ ml ↔ s ∈ R.mu
theorem Frm.put {g : G} {p : Addr} {o : MO} (hp : g.get p ≠ none) : Frm g (g.set p o) (fun x => x = p) (fun x => x = p) := by
  refine ⟨fun a _ n => G.set_ne n, fun a h => .inl h, fun a ha => ?_, rfl, rfl⟩
  by_cases e : a = p
  · subst e; rw [G.set_same]; simp
  · rw [G.set_ne e]; exact ha
theorem ViewIn.frm {g g' : G} {v w : Addr} {R : Rdr} {ml : List Str} {F F' : Addr → Prop} (h : ViewIn g v w R ml) (f : Frm g g' F F') (n1 : ¬ F v) (n2 : ¬ F w) : ViewIn g' v w R ml :=
  ⟨by rw [f.out _ (by rw [h.hv]; simp) n1, h.hv], by rw [f.out _ (by rw [h.hw]; simp) n2, h.hw], h.ne, h.mm⟩
structure All (K : PySem.W.Frag) (g : G) (A B : Wa) (W : Wd) (a : Ra) (v w : Addr) (R : Rdr) (ml : List Str) : Prop where
  bo : Both K g A B W
  rd : RdIn K g a A.w R
  vw : ViewIn g v w R ml
  d1 : ∀ x, a.foot x → ¬ W.foot A x ∧ ¬ W.foot B x
  d2 : ∀ x, (x = v ∨ x = w) → ¬ W.foot A x ∧ ¬ W.foot B x ∧ ¬ a.foot x
theorem Both.frm {K : PySem.W.Frag} {g g' : G} {A B : Wa} {W : Wd} {F F' : Addr → Prop} (h : Both K g A B W) (f : Frm g g' F F') (n1 : ∀ x, W.foot A x → ¬ F x) (n2 : ∀ x, W.foot B x → ¬ F x) : Both K g' A B W :=
  ⟨h.a.frm f n1, h.b.frm f n2, h.wf, h.nm, h.nl.frm f, h.dj⟩
namespace All
variable {K : PySem.W.Frag} {g g' g1 : G} {A B A' B' : Wa} {W W' : Wd} {a : Ra} {v w : Addr} {R R' : Rdr} {ml ml' : List Str}
theorem new (h : All K g A B W a v w R ml) (n : New g g') : All K g' A B W a v w R ml :=
  ⟨h.bo.frm n (fun _ _ z => z) (fun _ _ z => z), h.rd.frm n (fun _ _ z => z), h.vw.frm n id id, h.d1, h.d2⟩
/-- a deed on both woods -/
theorem step (h : All K g A B W a v w R ml) (hb : Both K g' A' B' W') (qa : A'.w = A.w) (f : Frm g g' (unF (W.foot A) (W.foot B)) (unF (W'.foot A') (W'.foot B'))) : All K g' A' B' W' a v w R ml := by
  have out : ∀ x, g.get x ≠ none → ¬ W.foot A x → ¬ W.foot B x → ¬ W'.foot A' x ∧ ¬ W'.foot B' x := fun x hx n1 n2 =>
    ⟨fun z => (f.new x (.inl z)).elim (fun q => q.elim n1 n2) hx, fun z => (f.new x (.inr z)).elim (fun q => q.elim n1 n2) hx⟩
  have vne : ∀ x, (x = v ∨ x = w) → g.get x ≠ none := fun x hx => by
    rcases hx with rfl | rfl
    · rw [h.vw.hv]; simp
    · rw [h.vw.hw]; simp
  refine ⟨hb, ?_, h.vw.frm f (fun z => ?_) (fun z => ?_), fun x hx => out x (h.rd.ne hx) (h.d1 x hx).1 (h.d1 x hx).2, fun x hx => ?_⟩
  · rw [qa]
    exact h.rd.frm f fun x hx z => z.elim (h.d1 x hx).1 (h.d1 x hx).2
  · exact z.elim (h.d2 v (.inl rfl)).1 (h.d2 v (.inl rfl)).2.1
  · exact z.elim (h.d2 w (.inr rfl)).1 (h.d2 w (.inr rfl)).2.1
  · obtain ⟨p1, p2⟩ := out x (vne x hx) (h.d2 x hx).1 (h.d2 x hx).2.1
    exact ⟨p1, p2, (h.d2 x hx).2.2⟩
end All
/-- a deed: the law's own first, then the program's -/
theorem setFo_len {fo : List (Int × Bool)} {n : Int} {b : Bool} : (setFo fo n b).length ≤ fo.length + 1 := by
  unfold setFo
  split <;> simp
theorem addMu_len {mu : List Str} {s : Str} : (addMu mu s).length ≤ mu.length + 1 := by
  unfold addMu
  split <;> simp
theorem addMu_mem {mu : List Str} {s x : Str} : x ∈ addMu mu s ↔ x ∈ mu ∨ x = s := by
  unfold addMu
  split
  · rename_i h
    exact ⟨.inl, fun z => z.elim id fun z => z ▸ h⟩
  · simp
section
variable {K : PySem.W.Frag} {g g1 g2 : G} {A B : Wa} {W : Wd} {a : Ra} {v w : Addr} {R : Rdr} {ml : List Str}
/-- folded, opened, by both -/
theorem All.folded (h : All K g A B W a v w R ml) {n : Int} {b : Bool} (h1 : g1 = g.set w (.dct (foldK (setFo R.fo n b)))) (h2 : g2 = g1.set a.f (.dct (foldK (setFo R.fo n b)))) : All K g2 A B W a v w { R with fo := setFo R.fo n b } ml := by
  obtain ⟨w1, w2, w3⟩ := h.d2 w (.inr rfl)
  obtain ⟨f1, f2⟩ := h.d1 a.f (.inr (.inl rfl))
  have v3 := (h.d2 v (.inl rfl)).2.2
  have e1 : Frm g g1 (fun x => x = w) (fun x => x = w) := by rw [h1]; exact Frm.put (by rw [h.vw.hw]; simp)
  have wf : w ≠ a.f := fun z => w3 (.inr (.inl z))
  have vf : v ≠ a.f := fun z => v3 (.inr (.inl z))
  have e2 : Frm g1 g2 (fun x => x = a.f) (fun x => x = a.f) := by
    rw [h2]; refine Frm.put ?_
    rw [h1, G.set_ne (Ne.symm wf), h.rd.hf]; simp
  have b1 := h.bo.frm e1 (fun x hx z => w1 (z ▸ hx)) (fun x hx z => w2 (z ▸ hx))
  have b2 := b1.frm e2 (fun x hx z => f1 (z ▸ hx)) (fun x hx z => f2 (z ▸ hx))
  have n1 := h.rd.n1
  have n3 := h.rd.n3
  have rw' : a.r ≠ w := fun z => w3 (.inl z.symm)
  have uw' : a.u ≠ w := fun z => w3 (.inr (.inr z.symm))
  have nvw := h.vw.ne
  exact ⟨b2, ⟨by rw [h2, h1, G.set_ne n1, G.set_ne rw', h.rd.hr], by rw [h2, G.set_same], by rw [h2, h1, G.set_ne (Ne.symm n3), G.set_ne uw', h.rd.hu], n1, h.rd.n2, n3⟩,
    ⟨by rw [h2, h1, G.set_ne vf, G.set_ne nvw, h.vw.hv], by rw [h2, h1, G.set_ne wf, G.set_same], nvw, h.vw.mm⟩, h.d1, h.d2⟩
/-- muted, heard, by both -/
theorem All.muted (h : All K g A B W a v w R ml) {mu : List Str} {ml' : List Str} (hm : ∀ s, s ∈ ml' ↔ s ∈ mu) (h1 : g1 = g.set v (.dct [(.inr "measure", .str R.m.s), (.inr "bound", .int R.b), (.inr "folds", .ref w), (.inr "muted", .lst (ml'.map D.str))]))
    (h2 : g2 = g1 ∧ mu = R.mu ∨ g2 = g1.set a.u (.dct (muteK mu))) : All K g2 A B W a v w { R with mu := mu } ml' := by
  obtain ⟨v1, v2, v3⟩ := h.d2 v (.inl rfl)
  obtain ⟨u1, u2⟩ := h.d1 a.u (.inr (.inr rfl))
  have w3 := (h.d2 w (.inr rfl)).2.2
  have e1 : Frm g g1 (fun x => x = v) (fun x => x = v) := by rw [h1]; exact Frm.put (by rw [h.vw.hv]; simp)
  have vu : v ≠ a.u := fun z => v3 (.inr (.inr z))
  have wu : w ≠ a.u := fun z => w3 (.inr (.inr z))
  have b1 := h.bo.frm e1 (fun x hx z => v1 (z ▸ hx)) (fun x hx z => v2 (z ▸ hx))
  have rv : a.r ≠ v := fun z => v3 (.inl z.symm)
  have fv : a.f ≠ v := fun z => v3 (.inr (.inl z.symm))
  have uv : a.u ≠ v := fun z => vu z.symm
  have n2 := h.rd.n2
  have n3 := h.rd.n3
  have nvw := h.vw.ne
  rcases h2 with ⟨rfl, rfl⟩ | h2
  · exact ⟨b1, ⟨by rw [h1, G.set_ne rv, h.rd.hr], by rw [h1, G.set_ne fv, h.rd.hf], by rw [h1, G.set_ne uv, h.rd.hu], h.rd.n1, n2, n3⟩, ⟨by rw [h1, G.set_same], by rw [h1, G.set_ne (Ne.symm nvw), h.vw.hw], nvw, hm⟩, h.d1, h.d2⟩
  · have e2 : Frm g1 g2 (fun x => x = a.u) (fun x => x = a.u) := by
      rw [h2]; refine Frm.put ?_
      rw [h1, G.set_ne uv, h.rd.hu]; simp
    have b2 := b1.frm e2 (fun x hx z => u1 (z ▸ hx)) (fun x hx z => u2 (z ▸ hx))
    exact ⟨b2, ⟨by rw [h2, h1, G.set_ne n2, G.set_ne rv, h.rd.hr], by rw [h2, h1, G.set_ne n3, G.set_ne fv, h.rd.hf], by rw [h2, G.set_same], h.rd.n1, n2, n3⟩,
      ⟨by rw [h2, h1, G.set_ne vu, G.set_same], by rw [h2, h1, G.set_ne wu, G.set_ne (Ne.symm nvw), h.vw.hw], nvw, hm⟩, h.d1, h.d2⟩
end
theorem All.other {K : PySem.W.Frag} {g : G} {A B : Wa} {W : Wd} {a : Ra} {v w p : Addr} {R : Rdr} {ml : List Str} {o : MO} (h : All K g A B W a v w R ml) (hp : p = v ∨ p = w) : RdIn K (g.set p o) a A.w R ∧ WoodIn K (g.set p o) A W ∧ NL (g.set p o) := by
  obtain ⟨n1, n2, n3⟩ := h.d2 p hp
  have hn : g.get p ≠ none := by
    rcases hp with rfl | rfl
    · rw [h.vw.hv]; simp
    · rw [h.vw.hw]; simp
  have f := Frm.put (o := o) hn
  exact ⟨h.rd.frm f fun x hx z => n3 (z ▸ hx), h.bo.a.frm f fun x hx z => n1 (z ▸ hx), h.bo.nl.frm f⟩
/-! what is asked of the law's defs -/
theorem inF_strs {g : G} {n : Str} {xs : List Str} : inF g (.str n) (.lst (xs.map D.str)) = some (.bl (decide (n ∈ xs))) := by
  have e : toVs (xs.map D.str) = some (xs.map V.str) := by
    induction xs with
    | nil => rfl
    | cons x xs ih => simp [toVs, toV, ih]
  simp only [inF, inB, toV, items, Option.bind_some, e, inV_strs, Option.map_some]
def sp_lkind : SpD := op fun A W r g Kt => ∃ R : Rdr, ∃ ml : List Str, ∃ n, r = [.lst (ml.map D.str), .int n] ∧ n ∈ W.keys ∧ (∀ s, s ∈ ml ↔ s ∈ R.mu) ∧ Kt (.val (.str (W.kind R n))) g
def sp_lrows_of (j : Nat) : SpD := op fun A W r g Kt => ∃ v w R ml n, ∃ kn : List Int, r = [.ref v, .int n, .lst (kn.map D.int)] ∧ ViewIn g v w R ml ∧ n ∈ W.keys ∧ NL g ∧ 9 ≤ j + (W.above n).length ∧ ∀ g', New g g' → Kt (.val (.lst ((rowsF W R kn j n (((W.above n).length : Int) - 1)).map rowD))) g'
def slrof : Nat → SpD
  | 0 => fun _ _ _ => False
  | j + 1 => sp_lrows_of (j + 1)
def sp_lreader (K : PySem.W.Frag) : SpD := fun ds g Kt => ∃ A B W m, ds = [.ref A.w, .int m] ∧ 0 ≤ m ∧ Both K g A B W ∧ ∀ g' a v w R, R.fo = [] → R.mu = [] → All K g' A B W a v w R [] → Kt (.val (.tup [.ref a.r, .ref v])) g'
def sp_view_deed (K : PySem.W.Frag) : SpD := fun ds g Kt => ∃ A B W a v w R ml m, ds = [.ref a.r, .ref v, .ref B.w, .int m] ∧ 0 ≤ m ∧ m < 2 ^ 129 ∧ WFa W ∧ All K g A B W a v w R ml ∧ R.fo.length ≤ 40000 ∧ R.mu.length ≤ 40000 ∧ ml.length ≤ 40000 ∧
  ∀ g' R' ml', All K g' A B W a v w R' ml' → (∀ p, ¬ a.foot p → p ≠ v → p ≠ w → g'.get p = g.get p) → R'.fo.length ≤ R.fo.length + 1 → R'.mu.length ≤ R.mu.length + 1 → ml'.length ≤ ml.length + 1 → Kt (.val (.bl true)) g'
def sp_refused_right (K : PySem.W.Frag) : SpD := fun ds g Kt => ∃ A W a R, ds = [.ref A.w, .ref a.r] ∧ WFa W ∧ NL g ∧ WoodIn K g A W ∧ RdIn K g a A.w R ∧ R.fo.length ≤ 40000 ∧ R.mu.length ≤ 40000 ∧ W.came ≤ 40000 ∧ ∀ g', New g g' → Kt (.val (.bl true)) g'
/-- a def that promises nothing -/
theorem cal_none {P : Program} {w : World} {K : PySem.W.Frag} {mg : Str → Option Value} {base : Heap} {T : List (Addr × Str)} {st : Stmt} {N ps : List Str} {k : Nat} {x : Str} (d : DefM K mg x st) (S : FnScope N ps (defScope st)) (b : Bnd x x st ps) : Cal P w K mg base T (k + 1) x ps.length (fun _ _ _ => False) :=
  calD d S b fun f => ⟨fun _ _ _ => False, fun cdv A outer s H E hr => ⟨fun h => h.elim⟩, fun _ _ _ _ h => h.elim⟩
/-! rows compared -/
def rowPy (r : Row) : PyData := .tuple [.int r.1, .int r.2.1, .str r.2.2.1, .int r.2.2.2]
theorem pys_rows : ∀ rs : List Row, pys (rs.map rowD) = some (rs.map rowPy)
  | [] => rfl
  | r :: rs => by simp [pys, py, rowD, rowPy, pys_rows rs]
theorem lay_rows : ∀ rs : List Row, (∀ r ∈ rs, PyData.strOk r.2.2.1 = true) → PyData.canLayAll0 (rs.map rowPy) = true
  | [], _ => rfl
  | r :: rs, h => by
    have h1 := h r List.mem_cons_self
    simp [PyData.canLayAll0, PyData.canLay0, rowPy, h1, lay_rows rs fun x hx => h x (List.mem_cons_of_mem _ hx)]
theorem depth_row (r : Row) : PyData.depth (rowPy r) = 1 := by simp [rowPy, PyData.depth, PyData.depthAll]
theorem depth_rows : ∀ rs : List Row, PyData.depthAll (rs.map rowPy) ≤ 1
  | [] => by simp [PyData.depthAll]
  | r :: rs => by
    have := depth_rows rs
    have := depth_row r
    simp only [List.map_cons, PyData.depthAll]
    omega
theorem shaped_rows {rs : List Row} (h : ∀ r ∈ rs, PyData.strOk r.2.2.1 = true) : SeqAt.shaped (.list (rs.map rowPy)) = true := by
  have := depth_rows rs
  simp [SeqAt.shaped, PyData.canLay0, PyData.depth, lay_rows rs h]
  omega
theorem eqvAll_rows : ∀ rs : List Row, PyData.eqvAll (rs.map rowPy) (rs.map rowPy) = true
  | [] => by simp [PyData.eqvAll]
  | r :: rs => by simp [PyData.eqvAll, PyData.eqv, rowPy, eqvAll_rows rs]
theorem neF_rows {g : G} {rs : List Row} (h : ∀ r ∈ rs, PyData.strOk r.2.2.1 = true) : neF g (.lst (rs.map rowD)) (.lst (rs.map rowD)) = some (.bl false) := by
  have h1 := shaped_rows h
  have h2 := eqvAll_rows rs
  have h3 := pys_rows rs
  simp [neF, eqB, toV, eqP, py, h1, h2, h3, PyData.eqv, -List.map_map]
theorem kind_ok {W : Wd} {R : Rdr} {n : Int} : PyData.strOk (W.kind R n) = true := by
  have h1 : PyData.strOk ("read" : Str) = true := by decide +kernel
  have h2 : PyData.strOk ("struck" : Str) = true := by decide +kernel
  have h3 : PyData.strOk ("muted" : Str) = true := by decide +kernel
  unfold Wd.kind
  split
  · exact h1
  · split
    · exact h2
    · split
      · exact h3
      · exact h1
theorem rowsF_ok {W : Wd} {R : Rdr} {kn : List Int} : ∀ (j : Nat) (n d : Int), ∀ r ∈ rowsF W R kn j n d, PyData.strOk r.2.2.1 = true
  | 0, n, d, r, h => by simp [rowsF] at h
  | j + 1, n, d, r, h => by
    unfold rowsF at h
    split at h
    · have := List.mem_singleton.mp h
      subst this; exact kind_ok
    · rcases List.mem_cons.mp h with rfl | h
      · exact kind_ok
      · obtain ⟨o, _, ho⟩ := List.mem_flatMap.mp h
        exact rowsF_ok j o (d + 1) r ho
theorem rowsU_ok {W : Wd} {R : Rdr} {kn : List Int} {j : Nat} {n d : Int} : ∀ r ∈ rowsU W R kn j n d, PyData.strOk r.2.2.1 = true := fun r h => by
  obtain ⟨o, _, ho⟩ := List.mem_flatMap.mp h
  exact rowsF_ok j o d r ho
theorem rowD_inj (x y : Row) (h : rowD x = rowD y) : x = y := by
  obtain ⟨a, b, c, d⟩ := x
  obtain ⟨a', b', c', d'⟩ := y
  simp [rowD] at h
  obtain ⟨rfl, rfl, rfl, rfl⟩ := h
  rfl
/-- refusals in rows -/
theorem neF_ref2 {g : G} {e : Str} (he : PyData.strOk e = true) : neF g (.lst [refused e, refused e]) (.lst (repD [refused e] 2)) = some (.bl false) := by
  have h0 : PyData.strOk ("refused" : Str) = true := by decide +kernel
  simp [repD, List.replicate, refused, he, h0, neF, eqB, toV, eqP, py, pys, SeqAt.shaped, PyData.canLay0, PyData.canLayAll0, PyData.depth, PyData.depthAll, PyData.eqv, PyData.eqvAll]
theorem eqF_ref5 {g : G} {e : Str} (he : PyData.strOk e = true) : eqF g (.lst [refused e, refused e, refused e, refused e, refused e]) (.lst (repD [refused e] 5)) = some (.bl true) := by
  have h0 : PyData.strOk ("refused" : Str) = true := by decide +kernel
  simp [repD, List.replicate, refused, he, h0, eqF, eqB, toV, eqP, py, pys, SeqAt.shaped, PyData.canLay0, PyData.canLayAll0, PyData.depth, PyData.depthAll, PyData.eqv, PyData.eqvAll]
/-- the law's own way to all rows, step by step -/
theorem rowsU_step {W : Wd} {R : Rdr} {j : Nat} {o : Int} {k : Nat} (h : (W.ordered R.m 0)[k]? = some o) (ho : o ∈ W.keys) :
    ((((W.ordered R.m 0).take (k + 1)).filter fun o => decide (o ∈ W.keys)).flatMap fun o => rowsF W R W.keys j o 0) = ((((W.ordered R.m 0).take k).filter fun o => decide (o ∈ W.keys)).flatMap fun o => rowsF W R W.keys j o 0) ++ rowsF W R W.keys j o 0 := by
  rw [rowsU_take h, if_pos ho]
end DL

set_option Elab.async false
set_option linter.all false
set_option maxRecDepth 100000
set_option maxHeartbeats 2000000
set_option autoImplicit false
/-! DK: what a deed keeps of sayings that were there. -/
namespace DL
open PySem PySem.Spec L2
/-- who is there now of those numbers was there, under the same, by the same -/
structure Keeps (W W' : Wd) : Prop where
  c : W.came ≤ W'.came
  k : ∀ n S', W'.find n = some S' → n ≤ W.came → ∃ S, W.find n = some S ∧ S.under = S'.under ∧ S.by_ = S'.by_
theorem Keeps.refl {W : Wd} : Keeps W W := ⟨Int.le_refl _, fun n S' e _ => ⟨S', e, rfl, rfl⟩⟩
theorem Keeps.trans {W W1 W2 : Wd} (a : Keeps W W1) (b : Keeps W1 W2) : Keeps W W2 :=
  ⟨Int.le_trans a.c b.c, fun n S' e h => by
    obtain ⟨S1, e1, u1, v1⟩ := b.k n S' e (Int.le_trans h a.c)
    obtain ⟨S, e2, u2, v2⟩ := a.k n S1 e1 h
    exact ⟨S, e2, u2.trans u1, v2.trans v1⟩⟩
theorem Keeps.put {W : Wd} {n : Int} {S S' : Say} (e : W.find n = some S) (u : S'.under = S.under) (v : S'.by_ = S.by_) : Keeps W (W.put n S') :=
  ⟨Int.le_refl _, fun m X h _ => by
    rw [Wd.find_put] at h
    by_cases q : m = n
    · subst q
      rw [if_pos rfl, e] at h
      cases h
      exact ⟨S, e, u.symm, v.symm⟩
    · rw [if_neg q] at h
      exact ⟨X, h, rfl, rfl⟩⟩
theorem Keeps.drop {W : Wd} {n : Int} : Keeps W (W.drop n) :=
  ⟨Int.le_refl _, fun m X h _ => by
    rw [Wd.find_drop] at h
    by_cases q : m = n
    · rw [if_pos q] at h; cases h
    · rw [if_neg q] at h; exact ⟨X, h, rfl, rfl⟩⟩
theorem Keeps.goes : ∀ (k : Nat) (W : Wd) (n m : Int), Keeps W (Wd.goes k W n m).1
  | 0, W, n, m => Keeps.refl
  | k + 1, W, n, m => by
    unfold Wd.goes
    split
    · exact Keeps.refl
    · split
      · exact Keeps.refl
      · split
        · exact Keeps.drop.trans (Keeps.goes k _ _ _)
        · exact Keeps.refl
theorem deed_keeps {W : Wd} {dd : Deed} : Keeps W (outW W (dd.out W)) := by
  cases dd with
  | say u b t =>
    show Keeps W (outW W (W.sayR b u t))
    unfold Wd.sayR
    split
    · exact Keeps.refl
    split
    · exact Keeps.refl
    split
    · exact Keeps.refl
    split
    · exact Keeps.refl
    · refine ⟨by show W.came ≤ W.came + 1; omega, fun m X h hm => ?_⟩
      have h' : (W.add (W.came + 1) ⟨b, u, t, W.clock, [], false⟩).find m = some X := h
      rw [Wd.find_add, if_neg (by omega)] at h'
      exact ⟨X, by simpa using h', rfl, rfl⟩
  | vote n b y =>
    show Keeps W (outW W (W.voteR n b y))
    unfold Wd.voteR
    split
    · exact Keeps.refl
    · rename_i S e
      split
      · exact Keeps.refl
      split
      · exact Keeps.refl
      split
      · exact Keeps.refl
      · have k1 : Keeps W { W with age := W.age + 1 } := ⟨Int.le_refl _, fun m X h _ => ⟨X, h, rfl, rfl⟩⟩
        exact k1.trans (Keeps.put (W := { W with age := W.age + 1 }) (n := n) (S := S) e rfl rfl)
  | tick m b =>
    show Keeps W (outW W (W.tickR m))
    unfold Wd.tickR
    split
    · exact ⟨Int.le_refl _, fun m X h _ => ⟨X, h, rfl, rfl⟩⟩
    · exact Keeps.refl
  | strike n b =>
    show Keeps W (outW W (W.strikeR n b))
    unfold Wd.strikeR
    split
    · exact Keeps.refl
    · rename_i S e
      obtain ⟨hf, _, _, _⟩ := ownR_ok e
      exact (Keeps.put (S' := { S with struck := true }) hf rfl rfl).trans (Keeps.goes _ _ _ _)
  | change n b t =>
    show Keeps W (outW W (W.changeR n b t))
    unfold Wd.changeR
    split
    · exact Keeps.refl
    · rename_i S e
      obtain ⟨hf, _, _, _⟩ := ownR_ok e
      split
      · exact Keeps.refl
      · exact Keeps.put (S' := { S with text := t }) hf rfl rfl
/-- those that stood at the top stand there, if they are there -/
theorem Keeps.top {W W' : Wd} (h : Keeps W W') (wf' : WF W') {n : Int} {S : Say} (e : W.find n = some S) (wf : WF W) (u : S.under = 0) (hn : n ∈ W'.keys) : W'.above n = [0] := by
  obtain ⟨S', e'⟩ := wf'.key_find hn
  obtain ⟨S1, e1, u1, _⟩ := h.k n S' e' (wf.pos n (WF.find_key e)).2
  rw [e] at e1; cases e1
  rw [wf'.above_step e', ← u1, u, wf'.above_zero]
end DL

set_option Elab.async false
set_option linter.all false
set_option maxRecDepth 100000
set_option maxHeartbeats 2000000
set_option autoImplicit false
/-! PG: pages in plain data, among the objects, what their defs promise. -/
namespace DL
open PySem PySem.Spec L2
structure Pgs where
  sz : Int
  row : List Int
  kn : List Int
  came : Int
  at_ : Nat
def PgIn (K : PySem.W.Frag) (g : G) (p r : Addr) (P : Pgs) : Prop := g.get p = some (.ins (He.ga K "Pages") [("reader", .ref r), ("size", .int P.sz), ("row", .lst (P.row.map D.int)), ("known", .lst (P.kn.map D.int)), ("came", .int P.came), ("at", .int P.at_)])
/-- what is left behind so many that are there -/
def eat (K : List Int) : Nat → List Int → List Int
  | 0, l => l
  | _ + 1, [] => []
  | k + 1, n :: l => if n ∈ K then eat K k l else eat K (k + 1) l
def there (K : List Int) (l : List Int) : List Int := l.filter fun n => decide (n ∈ K)
theorem eat_nil {K : List Int} : ∀ k, eat K k [] = []
  | 0 => rfl
  | _ + 1 => rfl
theorem eat_step {K : List Int} {k : Nat} {n : Int} {l : List Int} : eat K (k + 1) (n :: l) = if n ∈ K then eat K k l else eat K (k + 1) l := rfl
theorem eat_all {K : List Int} : ∀ (k : Nat) (l : List Int), (there K l).length < k → eat K k l = []
  | 0, l, h => by omega
  | k + 1, [], h => rfl
  | k + 1, n :: l, h => by
    rw [eat_step]
    by_cases q : n ∈ K
    · rw [if_pos q]
      refine eat_all k l ?_
      have : (there K (n :: l)).length = (there K l).length + 1 := by simp [there, q]
      omega
    · rw [if_neg q]
      refine eat_all (k + 1) l ?_
      have : (there K (n :: l)).length = (there K l).length := by simp [there, q]
      omega
theorem eat_drop {K : List Int} : ∀ (l : List Int) (k j : Nat) (x : Int), l.Nodup → l[j]? = some x → (there K l)[k]? = some x → l.drop (j + 1) = eat K (k + 1) l
  | [], k, j, x, nd, h1, h2 => by simp at h1
  | n :: l, k, j, x, nd, h1, h2 => by
    obtain ⟨n1, n2⟩ := List.nodup_cons.mp nd
    rw [eat_step]
    by_cases q : n ∈ K
    · rw [if_pos q]
      have e : there K (n :: l) = n :: there K l := by simp [there, q]
      rw [e] at h2
      cases k with
      | zero =>
        simp at h2
        subst h2
        cases j with
        | zero => simp [eat]
        | succ j =>
          simp at h1
          exact absurd (List.mem_of_getElem? h1) n1
      | succ k =>
        simp at h2
        have hx : x ∈ l := (List.mem_filter.mp (List.mem_of_getElem? h2)).1
        cases j with
        | zero => simp at h1; subst h1; exact absurd hx n1
        | succ j =>
          simp at h1
          simpa using eat_drop l k j x n2 h1 h2
    · rw [if_neg q]
      have e : there K (n :: l) = there K l := by simp [there, q]
      rw [e] at h2
      have hx : x ∈ l := (List.mem_filter.mp (List.mem_of_getElem? h2)).1
      cases j with
      | zero => simp at h1; subst h1; exact absurd hx n1
      | succ j =>
        simp at h1
        simpa using eat_drop l k j x n2 h1 h2
theorem eat_sub {K : List Int} : ∀ (k : Nat) (l : List Int), ((there K l).take k ++ eat K k l).Sublist l
  | 0, l => by simp [eat]
  | k + 1, [] => by simp [eat, there]
  | k + 1, n :: l => by
    rw [eat_step]
    by_cases q : n ∈ K
    · have e : there K (n :: l) = n :: there K l := by simp [there, q]
      rw [if_pos q, e]
      exact List.Sublist.cons₂ n (eat_sub k l)
    · have e : there K (n :: l) = there K l := by simp [there, q]
      rw [if_neg q, e]
      exact (eat_sub (k + 1) l).cons n
theorem cutD_lo {xs : List Int} {k : Nat} : cutD (xs.map D.int) (some (k : Int)) none = (xs.drop k).map D.int := by
  unfold cutD
  rw [HT.sIx_nat, HT.sIx_none, List.length_map, ← List.map_drop, ← List.map_take]
  congr 1
  by_cases h : k ≤ xs.length
  · rw [Nat.min_eq_left h]
    exact List.take_of_length_le (by rw [List.length_drop]; omega)
  · rw [Nat.min_eq_right (by omega), List.drop_eq_nil_of_le (as := xs) (i := k) (by omega)]
    simp
theorem cutD_hi {xs : List Int} {k : Nat} : cutD (xs.map D.int) none (some (k : Int)) = (xs.take k).map D.int := by
  unfold cutD
  rw [HT.sIx_nat, HT.sIx_none, List.length_map]
  simp
theorem idx_ints {xs : List Int} {x : Int} (h : x ∈ xs) : ∃ j, idxV (xs.map V.int) (.int x) = some j ∧ xs[j]? = some x := by
  unfold idxV
  obtain ⟨j, hj⟩ : ∃ j, (xs.map V.int).findIdx? (fun z => eqV z (.int x)) = some j := by
    cases e : (xs.map V.int).findIdx? (fun z => eqV z (.int x)) with
    | some j => exact ⟨j, rfl⟩
    | none =>
      rw [List.findIdx?_eq_none_iff] at e
      have := e (.int x) (List.mem_map.mpr ⟨x, h, rfl⟩)
      exact absurd this (by simp [eqV])
  refine ⟨j, hj, ?_⟩
  rw [List.findIdx?_eq_some_iff_getElem] at hj
  obtain ⟨h1, h2, _⟩ := hj
  rw [List.length_map] at h1
  rw [List.getElem_map] at h2
  rw [List.getElem?_eq_getElem h1]
  simpa [eqV] using h2
/-! heads of rows -/
theorem rowsF_deep {W : Wd} {R : Rdr} {kn : List Int} : ∀ (j : Nat) (n d : Int), ∀ r ∈ rowsF W R kn j n d, d ≤ r.2.1
  | 0, n, d, r, h => by simp [rowsF] at h
  | j + 1, n, d, r, h => by
    unfold rowsF at h
    split at h
    · have := List.mem_singleton.mp h
      subst this; exact Int.le_refl _
    · rcases List.mem_cons.mp h with rfl | h
      · exact Int.le_refl _
      · obtain ⟨o, _, ho⟩ := List.mem_flatMap.mp h
        have := rowsF_deep j o (d + 1) r ho
        omega
theorem rowsF_head {W : Wd} {R : Rdr} {kn : List Int} {j : Nat} {n d : Int} : ((rowsF W R kn (j + 1) n d).filter fun r => decide (r.2.1 = d)).map (·.1) = [n] := by
  unfold rowsF
  split
  · simp
  · rw [List.filter_cons, if_pos (by simp)]
    have e : ((((W.ordered R.m n).filter fun o => decide (o ∈ kn)).flatMap fun o => rowsF W R kn j o (d + 1)).filter fun r => decide (r.2.1 = d)) = [] := by
      rw [List.filter_eq_nil_iff]
      intro r hr
      obtain ⟨o, _, ho⟩ := List.mem_flatMap.mp hr
      have := rowsF_deep j o (d + 1) r ho
      simp; omega
    rw [e]; rfl
theorem rows_heads {W : Wd} {R : Rdr} {kn : List Int} {j : Nat} {d : Int} : ∀ l : List Int, ((l.flatMap fun n => rowsF W R kn (j + 1) n d).filter fun r => decide (r.2.1 = d)).map (·.1) = l
  | [] => rfl
  | n :: l => by
    rw [List.flatMap_cons, List.filter_append, List.map_append, rowsF_head, rows_heads l]; rfl
theorem rowsL_ok {W : Wd} {R : Rdr} {kn l : List Int} {j : Nat} {d : Int} : ∀ r ∈ (l.flatMap fun n => rowsF W R kn j n d), PyData.strOk r.2.2.1 = true := fun r h => by
  obtain ⟨o, _, ho⟩ := List.mem_flatMap.mp h
  exact rowsF_ok j o d r ho
theorem rowsL_len {W : Wd} (h : WF W) {R : Rdr} {kn l : List Int} {j : Nat} {d : Int} (hl : ∀ n ∈ l, n ∈ W.keys) : (l.flatMap fun n => rowsF W R kn j n d).length ≤ l.length * 61 :=
  fm_len fun n hn => by
    have h1 := rowsF_len h (R := R) (kn := kn) j n d (hl n hn)
    have h2 := below_len (n := n) h
    omega
/-! what is asked of the defs -/
def sp_Pages (K : PySem.W.Frag) : SpD := fun ds g Kt => ∃ x a A W R t, ds = [.ref x, .ref (a : Ra).r, t] ∧ g.get x = some (.ins (He.ga K "Pages") []) ∧ RdIn K g a (A : Wa).w R ∧ WoodIn K g A W ∧ WFa W ∧ ¬ W.foot A x ∧ ¬ a.foot x ∧ (dTy t).isSome = true ∧
  (isCnt t 1 10 = false → Kt (.exc (He.ga K "BadNumber")) g) ∧ (∀ i, t = .int i → isCnt t 1 10 = true → ∀ g', Frm g g' (fun y => y = x) (fun y => y = x) → PgIn K g' x a.r ⟨i, W.ordered R.m 0, W.keys, W.came, 0⟩ → Kt (.val .non) g')
def pgp (K : PySem.W.Frag) (f : Addr → Ra → Wa → Wd → Rdr → Pgs → G → KR → Prop) : SpD := fun ds g Kt => ∃ p a A W R P, ds = [.ref p] ∧ PgIn K g p (a : Ra).r P ∧ RdIn K g a (A : Wa).w R ∧ WoodIn K g A W ∧ WFa W ∧ P.row.length ≤ 60 ∧ f p a A W R P g Kt
def sp_left (K : PySem.W.Frag) : SpD := pgp K fun p a A W R P g Kt => Kt (.val (.int ((there W.keys (P.row.drop P.at_)).length : Nat))) g
def sp_fresh (K : PySem.W.Frag) : SpD := pgp K fun p a A W R P g Kt => Kt (.val (.int ((W.keys.filter fun n => decide (P.came < n)).length : Nat))) g
def sp_following (K : PySem.W.Frag) : SpD := pgp K fun p a A W R P g Kt => ¬ W.foot A p ∧ ¬ a.foot p ∧ (∀ a, g.tl a = false) ∧ R.fo.length ≤ 50000 ∧ R.mu.length ≤ 50000 ∧ 1 ≤ P.sz ∧ P.sz ≤ 10 ∧ P.at_ ≤ P.row.length ∧
  ∀ g' at', at' ≤ P.row.length → P.row.drop at' = eat W.keys P.sz.toNat (P.row.drop P.at_) → Frm g g' (fun y => y = p) (fun y => y = p) → PgIn K g' p a.r { P with at_ := at' } →
    Kt (.val (.lst ((((there W.keys (P.row.drop P.at_)).take P.sz.toNat).flatMap fun n => rowsF W R P.kn 8 n 0).map rowD))) g'
theorem All.frm {K : PySem.W.Frag} {g g' : G} {A B : Wa} {W : Wd} {a : Ra} {v w : Addr} {R : Rdr} {ml : List Str} {F F' : Addr → Prop} (h : All K g A B W a v w R ml) (f : Frm g g' F F') (n1 : ∀ x, F x → ¬ W.foot A x ∧ ¬ W.foot B x ∧ ¬ a.foot x ∧ x ≠ v ∧ x ≠ w) : All K g' A B W a v w R ml :=
  ⟨h.bo.frm f (fun x hx z => (n1 x z).1 hx) (fun x hx z => (n1 x z).2.1 hx), h.rd.frm f (fun x hx z => (n1 x z).2.2.1 hx), h.vw.frm f (fun z => (n1 v z).2.2.2.1 rfl) (fun z => (n1 w z).2.2.2.2 rfl), h.d1, h.d2⟩
/-- an object apart from a wood, its reader, and the law's own of both -/
structure Apart (A B : Wa) (W : Wd) (a : Ra) (v w p : Addr) : Prop where
  pa : ¬ W.foot A p
  pb : ¬ W.foot B p
  pr : ¬ a.foot p
  pv : p ≠ v
  pw : p ≠ w
theorem Apart.step {g g' : G} {A B A' B' : Wa} {W W' : Wd} {a : Ra} {v w p : Addr} (h : Apart A B W a v w p) (hp : g.get p ≠ none) (f : Frm g g' (unF (W.foot A) (W.foot B)) (unF (W'.foot A') (W'.foot B'))) : Apart A' B' W' a v w p :=
  ⟨fun z => (f.new p (.inl z)).elim (fun q => q.elim h.pa h.pb) hp, fun z => (f.new p (.inr z)).elim (fun q => q.elim h.pa h.pb) hp, h.pr, h.pv, h.pw⟩
end DL

set_option Elab.async false
set_option linter.all false
set_option maxRecDepth 100000
set_option maxHeartbeats 2000000
set_option autoImplicit false
/-! ST: sorted(d) of a dict with texts as keys. -/
namespace DL
open PySem PySem.Spec L2
open PyProof.Rows (risingS sortedS)
theorem ltCps_trans : ∀ {a b c : List Nat}, ltCps b a = false → ltCps c b = false → ltCps c a = false
  | [], b, c, h1, h2 => by cases c <;> cases b <;> simp [ltCps] at *
  | x :: r, [], c, h1, h2 => by simp [ltCps] at h1
  | x :: r, y :: s, [], h1, h2 => by simp [ltCps] at h2
  | x :: r, y :: s, z :: t, h1, h2 => by
    simp only [ltCps, Bool.or_eq_false_iff, Bool.and_eq_false_iff, decide_eq_false_iff_not, beq_eq_false_iff_ne] at *
    obtain ⟨a1, a2⟩ := h1
    obtain ⟨b1, b2⟩ := h2
    refine ⟨by omega, ?_⟩
    by_cases q : z = x
    · right
      have e1 : y = x := by omega
      have e2 : z = y := by omega
      exact ltCps_trans (a2.resolve_left (fun n => n e1)) (b2.resolve_left (fun n => n e2))
    · exact .inl q
theorem ltCps_anti : ∀ {a b : List Nat}, ltCps a b = false → ltCps b a = false → a = b
  | [], [], _, _ => rfl
  | [], y :: s, h1, _ => by simp [ltCps] at h1
  | x :: r, [], _, h2 => by simp [ltCps] at h2
  | x :: r, y :: s, h1, h2 => by
    simp only [ltCps, Bool.or_eq_false_iff, Bool.and_eq_false_iff, decide_eq_false_iff_not, beq_eq_false_iff_ne] at *
    have e : x = y := by omega
    subst e
    rw [ltCps_anti (h1.2.resolve_left (fun n => n rfl)) (h2.2.resolve_left (fun n => n rfl))]
theorem ltCps_asym : ∀ {a b : List Nat}, ltCps a b = true → ltCps b a = false
  | [], [], h => by simp [ltCps] at h
  | [], y :: s, _ => rfl
  | x :: r, [], h => by simp [ltCps] at h
  | x :: r, y :: s, h => by
    simp only [ltCps, Bool.or_eq_true, Bool.and_eq_true, decide_eq_true_eq, beq_iff_eq, Bool.or_eq_false_iff, Bool.and_eq_false_iff, decide_eq_false_iff_not, beq_eq_false_iff_ne] at *
    rcases h with h | ⟨h, h'⟩
    · exact ⟨by omega, .inl (by omega)⟩
    · exact ⟨by omega, .inr (ltCps_asym h')⟩
def leS (a b : Str) : Bool := !ltCps b.cps.toList a.cps.toList
theorem leS_trans (a b c : Str) (h1 : leS a b = true) (h2 : leS b c = true) : leS a c = true := by
  simp only [leS, Bool.not_eq_true'] at *
  exact ltCps_trans h1 h2
theorem leS_total (a b : Str) : (leS a b || leS b a) = true := by
  simp only [leS, Bool.or_eq_true, Bool.not_eq_true']
  cases h : ltCps b.cps.toList a.cps.toList with
  | false => exact .inl rfl
  | true => exact .inr (ltCps_asym h)
theorem leS_anti {a b : Str} (h1 : leS a b = true) (h2 : leS b a = true) : a = b := by
  simp only [leS, Bool.not_eq_true'] at *
  have := ltCps_anti h2 h1
  cases a; cases b
  congr
  exact Array.toList_inj.mp this
def sortS (ns : List Str) : List Str := ns.mergeSort leS
theorem sortS_perm (ns : List Str) : (sortS ns).Perm ns := List.mergeSort_perm ns _
theorem rising_pw : ∀ {p : Str} {l : List Str}, risingS p l = true → (p :: l).Pairwise fun a b => leS a b = true
  | p, [], _ => by simp
  | p, x :: r, h => by
    simp only [risingS, Bool.and_eq_true] at h
    have ih := rising_pw h.2
    rw [List.pairwise_cons]
    refine ⟨fun y hy => ?_, ih⟩
    have h1 : leS p x = true := h.1
    rcases List.mem_cons.mp hy with rfl | hy
    · exact h1
    · exact leS_trans p x y h1 ((List.pairwise_cons.mp ih).1 y hy)
theorem sortedS_pw : ∀ {l : List Str}, sortedS l = true → l.Pairwise fun a b => leS a b = true
  | [], _ => .nil
  | x :: r, h => rising_pw h
theorem sortS_uniq {ys ns : List Str} (p : ys.Perm ns) (h : sortedS ys = true) : ys = sortS ns :=
  (p.trans (sortS_perm ns).symm).eq_of_pairwise (fun a b _ _ h1 h2 => leS_anti h1 h2) (sortedS_pw h) (List.pairwise_mergeSort leS_trans leS_total ns)
def inrsOf : List Key → Option (List Str)
  | [] => some []
  | .inr x :: r => (inrsOf r).map fun t => x :: t
  | .inl _ :: _ => none
theorem inrsOf_some : ∀ {ds : List Key} {ns : List Str}, inrsOf ds = some ns → ds = ns.map Sum.inr
  | [], ns, h => by cases h; rfl
  | .inr x :: r, ns, h => by
    obtain ⟨t, h1, rfl⟩ := Option.map_eq_some_iff.mp h
    rw [inrsOf_some h1]; rfl
  | .inl _ :: _, ns, h => by cases h
@[simp] theorem inrsOf_map : ∀ ns : List Str, inrsOf (ns.map Sum.inr) = some ns
  | [] => rfl
  | n :: ns => by simp [inrsOf, inrsOf_map ns]
def sortSF (g : G) (ds : List D) : Option D := match ds with
  | [d] => (asDict g d).bind fun kvs => (inrsOf (kvs.map (·.1))).bind fun ns => if ns.length < 64 then some (.lst ((sortS ns).map D.str)) else none
  | _ => none
section
variable {K : PySem.W.Frag} {T : List (Addr × Str)}
theorem va_sortS : VA K T (fun xs H Q => ∃ (a : Addr) (kvs : List (Key × V)) (ks : List Str), xs = [.ref a] ∧ Rd H a (.dK kvs) ∧ kvs.map (·.1) = ks.map Sum.inr ∧ ks.length < 64 ∧ ∀ ys p, ys.Perm ks → sortedS ys = true → H p = none → Q (.ref p) (upd H p (.lst (ys.map V.str)))) sortSF := by
  intro g S H xs ds d Q ok r e hq
  unfold sortSF at e
  split at e
  · rename_i d0
    obtain ⟨x, rfl, rx⟩ := r.one
    obtain ⟨kvs, h1, e⟩ := Option.bind_eq_some_iff.mp e
    obtain ⟨ns, h2, e⟩ := Option.bind_eq_some_iff.mp e
    split at e
    · rename_i hl; cases e
      obtain ⟨p, vs, rfl, h3, h4⟩ := asDict_rep ok rx h1
      refine ⟨p, vs, ns, rfl, h3, h4.keys.trans (inrsOf_some h2), hl, fun ys q pm so hqn => ?_⟩
      rw [sortS_uniq pm so]
      have e2 := ok.new (o := .lst ((sortS ns).map V.str)) hqn (fun ps z => by cases z)
      exact hq _ _ _ e2 (.lst upd_same (reps_strs _))
    · cases e
  · cases e
end
section
variable {X : Cx} {T : List (Addr × Str)} {EX : XK} {a : Expr} {RA : TrA} {p pos : Pos}
theorem pm_sortedS (hc : X.calm = true) (hg : Gl X "sorted") (hm : X.mg "sorted" = none) (ha : PMA X T EX [a] RA) (he : Starts X a [] := by rfl) : PM X T EX (.Call (.Name "sorted" p) [a] [] pos) (rCB sortSF RA) := pm_callB (call_sortedD hc) va_sortS hg hm (by decide +kernel) ha (by decide) (by decide) he
end
end DL

set_option Elab.async false
set_option linter.all false
set_option maxRecDepth 100000
set_option maxHeartbeats 2000000
set_option autoImplicit false
/-! TX: woods as texts. -/
namespace DL
open PySem PySem.Spec L2
/-- what can be written: small numbers, names -/
structure RowW (c : Nat) (S : Say) : Prop where
  tm : 0 ≤ S.time ∧ S.time ≤ 1000 * c
  vn : ∀ q ∈ S.votes, okName (.str q.1) = true
structure Wr (W : Wd) (c : Nat) : Prop where
  ck : 0 ≤ W.clock ∧ W.clock ≤ 1000 * c
  rw_ : ∀ p ∈ W.rows, RowW c p.2
theorem RowW.le {c d : Nat} {S : Say} (h : RowW c S) (hd : c ≤ d) : RowW d S := ⟨⟨h.tm.1, by have := h.tm.2; omega⟩, h.vn⟩
theorem Wr.le {W : Wd} {c d : Nat} (h : Wr W c) (hd : c ≤ d) : Wr W d := ⟨⟨h.ck.1, by have := h.ck.2; omega⟩, fun p hp => (h.rw_ p hp).le hd⟩
theorem Wr.put {W : Wd} {c : Nat} (h : Wr W c) {n : Int} {S : Say} (hS : RowW c S) : Wr (W.put n S) c := ⟨h.ck, fun p hp => by
  obtain ⟨q, hq, e⟩ := List.mem_map.mp hp
  split at e
  · subst e; exact hS
  · subst e; exact h.rw_ q hq⟩
theorem Wr.drop {W : Wd} {c : Nat} (h : Wr W c) {n : Int} : Wr (W.drop n) c := ⟨h.ck, fun p hp => h.rw_ p (List.mem_filter.mp hp).1⟩
theorem Wr.goes {c : Nat} : ∀ (k : Nat) (W : Wd) (n m : Int), Wr W c → Wr (Wd.goes k W n m).1 c
  | 0, W, n, m, h => h
  | k + 1, W, n, m, h => by
    unfold Wd.goes
    split
    · exact h
    · split
      · exact h
      · split
        · exact Wr.goes k _ _ _ h.drop
        · exact h
theorem Wr.find {W : Wd} {c : Nat} (h : Wr W c) {n : Int} {S : Say} (e : W.find n = some S) : RowW c S := h.rw_ _ (WF.mem_find e)
theorem wr0 : Wr W0 0 := ⟨⟨Int.le_refl 0, by decide⟩, fun p hp => by cases hp⟩
theorem deed_wr {W : Wd} {c : Nat} (h : Wr W c) {dd : Deed} (hd : dd.ok) : Wr (outW W (dd.out W)) (c + 1) := by
  have h1 := h.le (Nat.le_succ c)
  cases dd with
  | say u b t =>
    show Wr (outW W (W.sayR b u t)) (c + 1)
    unfold Wd.sayR
    split
    · exact h1
    split
    · exact h1
    split
    · exact h1
    split
    · exact h1
    · refine ⟨h1.ck, fun p hp => ?_⟩
      rcases List.mem_append.mp hp with z | z
      · exact h1.rw_ p z
      · have := List.mem_singleton.mp z
        subst this
        exact ⟨h1.ck, fun q hq => by cases hq⟩
  | vote n b y =>
    show Wr (outW W (W.voteR n b y)) (c + 1)
    unfold Wd.voteR
    split
    · exact h1
    · rename_i S e
      split
      · exact h1
      split
      · exact h1
      split
      · exact h1
      · refine Wr.put (W := { W with age := W.age + 1 }) ⟨h1.ck, h1.rw_⟩ ⟨(h1.find e).tm, fun q hq => ?_⟩
        have hq' : q ∈ Wd.votesSet S.votes b y := hq
        unfold Wd.votesSet at hq'
        rcases List.mem_append.mp hq' with z | z
        · exact (h1.find e).vn q (List.mem_filter.mp z).1
        · split at z
          · have := List.mem_singleton.mp z
            subst this; exact hd.1
          · cases z
  | tick m b =>
    show Wr (outW W (W.tickR m)) (c + 1)
    have hm : 0 ≤ m ∧ m ≤ 1000 := hd
    have e : W.tickR m = .ok ({ W with clock := W.clock + m }, .non) := if_pos hm
    rw [e]
    exact ⟨⟨by show 0 ≤ W.clock + m; have := h.ck; omega, by show W.clock + m ≤ _; have := h.ck; omega⟩, h1.rw_⟩
  | strike n b =>
    show Wr (outW W (W.strikeR n b)) (c + 1)
    unfold Wd.strikeR
    split
    · exact h1
    · rename_i S e
      obtain ⟨hf, _, _, _⟩ := ownR_ok e
      exact Wr.goes _ _ _ _ (h1.put ⟨(h1.find hf).tm, (h1.find hf).vn⟩)
  | change n b t =>
    show Wr (outW W (W.changeR n b t)) (c + 1)
    unfold Wd.changeR
    split
    · exact h1
    · rename_i S e
      obtain ⟨hf, _, _, _⟩ := ownR_ok e
      split
      · exact h1
      · exact h1.put ⟨(h1.find hf).tm, (h1.find hf).vn⟩
/-! texts -/
def intS (i : Int) : Str := toString i
theorem str_len {s : String} : (Str.ofString s).length = s.length := by
  rw [Str.ofString_eq_toList]
  simp [Str.length, String.length_toList]
theorem intS_len {i : Int} (h : i.natAbs < 2 ^ 100) : (intS i).length ≤ 101 := by
  show (Str.ofString (toString i)).length ≤ 101
  rw [str_len]
  refine int_text_length_le (k := 100) (by decide) ?_
  by_cases z : i.natAbs = 0
  · rw [z]; decide
  · exact (Nat.log2_lt z).mpr h
theorem strF_int {g : G} {i : Int} (h : i.natAbs < 2 ^ 100) : strF g [.int i] = some (.str (intS i)) := by
  simp only [strF]
  rw [if_pos (Nat.lt_trans h (Nat.pow_lt_pow_right (by decide) (by decide)))]
  rfl
def voteS (S : Say) (n : Str) : Str := (if 0 < (S.votes.lookup n).getD 0 then ("+" : Str) else "-") ++ n
def Say.vtext (S : Say) : Str := if (sortS (S.votes.map (·.1))).map (voteS S) = [] then "." else Txt.join "" ((sortS (S.votes.map (·.1))).map (voteS S))
def rowS (n : Int) (S : Say) : Str := Txt.join " " [intS n, intS S.under, intS S.time, S.by_, S.vtext] ++ (if S.struck = true then ("" : Str) else " " ++ S.text)
def headS (W : Wd) : Str := intS W.clock ++ " " ++ intS W.came
def Wd.wtext (W : Wd) : Str := Txt.join "\n" (headS W :: W.keys.map fun n => rowS n ((W.find n).getD noSay))
theorem join_le (sep : Str) (ts : List Str) : (Txt.join sep ts).length ≤ (ts.map (·.length)).sum + ts.length * sep.length := by
  unfold Txt.join
  rw [StrLaws.glued_eq_join]
  exact StrLaws.join_length_le sep ts
theorem sum_le {α : Type} {f : α → Nat} {k : Nat} : ∀ {l : List α}, (∀ x ∈ l, f x ≤ k) → (l.map f).sum ≤ l.length * k
  | [], _ => by simp
  | x :: l, h => by
    have := sum_le (f := f) (k := k) (l := l) fun y hy => h y (List.mem_cons_of_mem _ hy)
    have := h x List.mem_cons_self
    rw [List.map_cons, List.sum_cons, List.length_cons, Nat.succ_mul]
    omega
theorem vtext_len {S : Say} (hl : S.votes.length < 64) (hn : ∀ q ∈ S.votes, okName (.str q.1) = true) : S.vtext.length ≤ 1000 ∧ ∀ x ∈ (sortS (S.votes.map (·.1))).map (voteS S), x.length ≤ 7 := by
  have h1 : ∀ x ∈ (sortS (S.votes.map (·.1))).map (voteS S), x.length ≤ 7 := fun x hx => by
    obtain ⟨n, hn', rfl⟩ := List.mem_map.mp hx
    obtain ⟨q, hq, rfl⟩ := List.mem_map.mp ((sortS_perm _).mem_iff.mp hn')
    have := okName_len (hn q hq)
    unfold voteS
    rw [Str.length_append]
    have e1 : ("+" : Str).length = 1 := by decide +kernel
    have e2 : ("-" : Str).length = 1 := by decide +kernel
    split <;> omega
  refine ⟨?_, h1⟩
  unfold Say.vtext
  split
  · decide +kernel
  · have h2 := join_le "" ((sortS (S.votes.map (·.1))).map (voteS S))
    have h3 := sum_le (f := fun x : Str => x.length) (k := 7) (l := (sortS (S.votes.map (·.1))).map (voteS S)) h1
    have e0 : ("" : Str).length = 0 := by decide +kernel
    have h4 := (sortS_perm (S.votes.map (·.1))).length_eq
    rw [e0, Nat.mul_zero] at h2
    rw [List.length_map, h4, List.length_map] at h3
    omega
theorem rowS_len {n : Int} {S : Say} {c : Nat} (hc : c ≤ 1000000) (hn : 0 ≤ n ∧ n ≤ 2 ^ 40) (hu : 0 ≤ S.under ∧ S.under ≤ 2 ^ 40) (h : RowW c S) (hb : S.by_.length ≤ 6) (ht : S.text.length ≤ 30) (hl : S.votes.length < 64) : (Txt.join " " [intS n, intS S.under, intS S.time, S.by_, S.vtext]).length ≤ 2000 ∧ (rowS n S).length ≤ 3000 := by
  have b1 := intS_len (i := n) (by have : n.natAbs ≤ 2 ^ 40 := by omega
                                   exact Nat.lt_of_le_of_lt this (by decide))
  have b2 := intS_len (i := S.under) (by have : S.under.natAbs ≤ 2 ^ 40 := by omega
                                         exact Nat.lt_of_le_of_lt this (by decide))
  have b3 := intS_len (i := S.time) (by have := h.tm
                                        have : S.time.natAbs ≤ 2 ^ 40 := by omega
                                        exact Nat.lt_of_le_of_lt this (by decide))
  have b4 := (vtext_len hl h.vn).1
  have e1 : (" " : Str).length = 1 := by decide +kernel
  have e0 : ("" : Str).length = 0 := by decide +kernel
  have j := join_le " " [intS n, intS S.under, intS S.time, S.by_, S.vtext]
  simp only [List.map_cons, List.map_nil, List.sum_cons, List.sum_nil, List.length_cons, List.length_nil, e1] at j
  have k1 : (Txt.join " " [intS n, intS S.under, intS S.time, S.by_, S.vtext]).length ≤ 2000 := by omega
  refine ⟨k1, ?_⟩
  unfold rowS
  rw [Str.length_append]
  split
  · omega
  · rw [Str.length_append]; omega
/-! what is asked of the defs -/
def sp_votes_written (K : PySem.W.Frag) : SpD := fun ds g Kt => ∃ s v S, ds = [.ref s] ∧ SayIn K g s v S ∧ S.votes.length < 64 ∧ (∀ q ∈ S.votes, okName (.str q.1) = true) ∧ Kt (.val (.str S.vtext)) g
def sp_written (K : PySem.W.Frag) : SpD := wp K fun A W r g Kt => ∃ c, r = [] ∧ c ≤ 1000000 ∧ Wr W c ∧ W.age < 64 ∧ W.came ≤ 2 ^ 40 ∧ Kt (.val (.str W.wtext)) g
end DL
namespace DL
open PySem PySem.Spec L2
theorem pys_strs : ∀ xs : List Str, pys (xs.map D.str) = some (xs.map PyData.str)
  | [] => by simp [pys]
  | x :: xs => by simp [pys, py, pys_strs xs]
theorem lays_strs : ∀ xs : List Str, (∀ x ∈ xs, PyData.strOk x = true) → PyData.canLayAll0 (xs.map PyData.str) = true
  | [], _ => by simp [PyData.canLayAll0]
  | x :: xs, h => by simp [PyData.canLayAll0, PyData.canLay0, h x List.mem_cons_self, lays_strs xs fun y hy => h y (List.mem_cons_of_mem _ hy)]
theorem depths_strs : ∀ xs : List Str, PyData.depthAll (xs.map PyData.str) ≤ 1
  | [] => by simp [PyData.depthAll]
  | x :: xs => by
    have := depths_strs xs
    simp only [List.map_cons, PyData.depthAll, PyData.depth]
    omega
theorem neF_strs {g : G} {xs : List Str} (h : ∀ x ∈ xs, PyData.strOk x = true) : neF g (.lst (xs.map D.str)) (.lst []) = some (.bl (!decide (xs = []))) := by
  have h1 : SeqAt.shaped (.list (xs.map PyData.str)) = true := by
    have := depths_strs xs
    simp [SeqAt.shaped, PyData.canLay0, PyData.depth, lays_strs xs h]
    omega
  have h0 : SeqAt.shaped (.list []) = true := by simp [SeqAt.shaped, PyData.canLay0, PyData.canLayAll0, PyData.depth, PyData.depthAll]
  have h3 := pys_strs xs
  cases xs with
  | nil => simp [neF, eqB, toV, eqP, py, pys, h0, PyData.eqv, PyData.eqvAll]
  | cons x xs =>
    simp only [neF, eqB, toV, eqP, py, h3, Option.map_some, pys, h1, h0]
    simp [PyData.eqv, PyData.eqvAll]
theorem strOk_app {a b : Str} (h1 : PyData.strOk a = true) (h2 : PyData.strOk b = true) : PyData.strOk (a ++ b) = true := by
  have h1' : a.cps.all (fun c => decide (c < 0x110000)) = true := h1
  have h2' : b.cps.all (fun c => decide (c < 0x110000)) = true := h2
  show (a.cps ++ b.cps).all (fun c => decide (c < 0x110000)) = true
  rw [Array.all_append, h1', h2']; rfl
theorem votes_keys {S : Say} : (voteKvs S).map (·.1) = (S.votes.map (·.1)).map Sum.inr := by simp [voteKvs]
theorem wtext_take {W : Wd} {k : Nat} {n : Int} (h : W.keys[k]? = some n) : ((W.keys.take (k + 1)).map fun n => rowS n ((W.find n).getD noSay)) = ((W.keys.take k).map fun n => rowS n ((W.find n).getD noSay)) ++ [rowS n ((W.find n).getD noSay)] := by
  rw [List.take_add_one, h, List.map_append]; rfl
theorem strsOf_mapT : ∀ xs : List Str, strsOf (xs.map D.str) = some xs
  | [] => rfl
  | x :: xs => by simp [strsOf, strsOf_mapT xs]
end DL

set_option Elab.async false
set_option linter.all false
set_option maxRecDepth 100000
set_option maxHeartbeats 2000000
set_option autoImplicit false
/-! KX: all rows: each saying once, in nests; what folds and names change of them. -/
namespace DL
open PySem PySem.Spec L2
theorem WF.known_all {W : Wd} (h : WF W) {n : Int} : W.known W.keys n = W.below n := by
  unfold Wd.known
  rw [List.filter_eq_self]
  intro o ho
  simpa using (h.below_mem.mp ho).1
theorem rowsF_count {W : Wd} {R : Rdr} {kn : List Int} : ∀ (j : Nat) (n d : Int), ∀ r ∈ rowsF W R kn j n d, r.2.2.2 = if W.folded R r.1 = true ∧ W.known kn r.1 ≠ [] then ((W.known kn r.1).length : Int) else 0
  | 0, n, d, r, h => by simp [rowsF] at h
  | j + 1, n, d, r, h => by
    unfold rowsF at h
    split at h
    · rename_i q
      have := List.mem_singleton.mp h
      subst this
      rw [if_pos q]
    · rename_i q
      rcases List.mem_cons.mp h with rfl | h
      · rw [if_neg q]
      · obtain ⟨o, _, ho⟩ := List.mem_flatMap.mp h
        exact rowsF_count j o (d + 1) r ho
theorem rowsF_congr {W : Wd} {R R' : Rdr} {kn : List Int} (hm : R'.m = R.m) (hk : ∀ n, W.kind R' n = W.kind R n) (hf : ∀ n, (W.folded R' n = true ∧ W.known kn n ≠ []) ↔ (W.folded R n = true ∧ W.known kn n ≠ [])) : ∀ (j : Nat) (n d : Int), rowsF W R' kn j n d = rowsF W R kn j n d
  | 0, n, d => rfl
  | j + 1, n, d => by
    unfold rowsF
    rw [hm, hk n]
    by_cases q : W.folded R n = true ∧ W.known kn n ≠ []
    · rw [if_pos q, if_pos ((hf n).mpr q)]
    · rw [if_neg q, if_neg (fun z => q ((hf n).mp z))]
      congr 1
      rw [List.flatMap_def, List.flatMap_def]
      congr 1
      apply List.map_congr_left
      intro o _
      exact rowsF_congr hm hk hf j o (d + 1)
/-- a row but how it is seen -/
def dropK (r : Row) : Int × Int × Int := (r.1, r.2.1, r.2.2.2)
theorem rowsF_mute {W : Wd} {R R' : Rdr} {kn : List Int} (hm : R'.m = R.m) (hf : ∀ n, W.folded R' n = W.folded R n) : ∀ (j : Nat) (n d : Int), (rowsF W R' kn j n d).map dropK = (rowsF W R kn j n d).map dropK
  | 0, n, d => rfl
  | j + 1, n, d => by
    unfold rowsF
    rw [hm, hf n]
    split
    · rfl
    · rw [List.map_cons, List.map_cons, List.map_flatMap, List.map_flatMap]
      show (n, d, (0 : Int)) :: _ = (n, d, (0 : Int)) :: _
      congr 1
      rw [List.flatMap_def, List.flatMap_def]
      congr 1
      apply List.map_congr_left
      intro o _
      exact rowsF_mute hm hf j o (d + 1)
theorem rowsF_nums {W : Wd} (wf : WF W) {R : Rdr} {kn : List Int} : ∀ (j : Nat) (n d : Int), n ∈ W.keys → ∀ r ∈ rowsF W R kn j n d, r.1 = n ∨ r.1 ∈ W.below n
  | 0, n, d, hn, r, h => by simp [rowsF] at h
  | j + 1, n, d, hn, r, h => by
    unfold rowsF at h
    split at h
    · have := List.mem_singleton.mp h
      subst this; exact .inl rfl
    · rcases List.mem_cons.mp h with rfl | h
      · exact .inl rfl
      · obtain ⟨o, ho, hr⟩ := List.mem_flatMap.mp h
        have ho' := (ordered_mem wf).mp (List.mem_filter.mp ho).1
        obtain ⟨h1, h2, h3⟩ := wf.replies_above ho'
        have on : n ∈ W.above o := by rw [h1]; exact List.mem_cons_self
        rcases rowsF_nums wf j o (d + 1) h3 r hr with e | e
        · rw [e]; exact .inr (wf.below_mem.mpr ⟨h3, on⟩)
        · obtain ⟨e1, e2⟩ := wf.below_mem.mp e
          exact .inr (wf.below_mem.mpr ⟨e1, wf.above_trans (.inr e1) e2 n on⟩)
theorem replies_dj {W : Wd} (wf : WF W) {n : Int} (hn : n = 0 ∨ n ∈ W.keys) : (W.replies n).Pairwise fun a b => ∀ x, (x = a ∨ x ∈ W.below a) → ∀ y, (y = b ∨ y ∈ W.below b) → x ≠ y := by
  have e := wf.below_step hn
  have nd : ((W.replies n).flatMap fun r => r :: W.below r).Nodup := (isort_perm _).nodup_iff.mp (by rw [e]; exact wf.nd.sublist List.filter_sublist)
  unfold List.Nodup at nd
  rw [List.pairwise_flatMap] at nd
  exact nd.2.imp fun {a b} h x hx y hy => h x (List.mem_cons.mpr hx) y (List.mem_cons.mpr hy)
theorem ordered_dj {W : Wd} (wf : WF W) {m : Ms} {n : Int} (hn : n = 0 ∨ n ∈ W.keys) : (W.ordered m n).Pairwise fun a b => ∀ x, (x = a ∨ x ∈ W.below a) → ∀ y, (y = b ∨ y ∈ W.below b) → x ≠ y :=
  ((wf.ordered_perm m n).pairwise_iff (fun {a b} h x hx y hy e => h y hy x hx e.symm)).mpr (replies_dj wf hn)
theorem rowsF_nd {W : Wd} (wf : WF W) {R : Rdr} {kn : List Int} : ∀ (j : Nat) (n d : Int), n ∈ W.keys → ((rowsF W R kn j n d).map (·.1)).Nodup
  | 0, n, d, hn => by simp [rowsF]
  | j + 1, n, d, hn => by
    unfold rowsF
    split
    · simp
    · rw [List.map_cons, List.nodup_cons, List.map_flatMap]
      constructor
      · intro z
        obtain ⟨o, ho, hr⟩ := List.mem_flatMap.mp z
        obtain ⟨r, hr, e⟩ := List.mem_map.mp hr
        have ho' := (ordered_mem wf).mp (List.mem_filter.mp ho).1
        obtain ⟨h1, h2, h3⟩ := wf.replies_above ho'
        have e' : r.1 = n := e
        rcases rowsF_nums wf j o (d + 1) h3 r hr with q | q
        · omega
        · have := wf.above_lt (.inr (wf.below_mem.mp q).1) o (wf.below_mem.mp q).2
          omega
      · unfold List.Nodup
        rw [List.pairwise_flatMap]
        refine ⟨fun o ho => ?_, ?_⟩
        · have ho' := (ordered_mem wf).mp (List.mem_filter.mp ho).1
          exact rowsF_nd wf j o (d + 1) (wf.replies_above ho').2.2
        · refine ((ordered_dj wf (m := R.m) (.inr hn)).sublist List.filter_sublist).imp_of_mem fun {a b} ha hb h x hx y hy => ?_
          obtain ⟨r, hr, rfl⟩ := List.mem_map.mp hx
          obtain ⟨s, hs, rfl⟩ := List.mem_map.mp hy
          have ha' := (wf.replies_above ((ordered_mem wf).mp (List.mem_filter.mp ha).1)).2.2
          have hb' := (wf.replies_above ((ordered_mem wf).mp (List.mem_filter.mp hb).1)).2.2
          exact h _ (rowsF_nums wf j a (d + 1) ha' r hr) _ (rowsF_nums wf j b (d + 1) hb' s hs)
theorem rowsU_nd {W : Wd} (wf : WF W) {R : Rdr} {kn : List Int} {j : Nat} : ((rowsU W R kn j 0 0).map (·.1)).Nodup := by
  unfold rowsU
  rw [List.map_flatMap]
  unfold List.Nodup
  rw [List.pairwise_flatMap]
  refine ⟨fun o ho => ?_, ?_⟩
  · have ho' := (ordered_mem wf).mp (List.mem_filter.mp ho).1
    exact rowsF_nd wf j o 0 (wf.replies_above ho').2.2
  · refine ((ordered_dj wf (m := R.m) (.inl rfl)).sublist List.filter_sublist).imp_of_mem fun {a b} ha hb h x hx y hy => ?_
    obtain ⟨r, hr, rfl⟩ := List.mem_map.mp hx
    obtain ⟨s, hs, rfl⟩ := List.mem_map.mp hy
    have ha' := (wf.replies_above ((ordered_mem wf).mp (List.mem_filter.mp ha).1)).2.2
    have hb' := (wf.replies_above ((ordered_mem wf).mp (List.mem_filter.mp hb).1)).2.2
    exact h _ (rowsF_nums wf j a 0 ha' r hr) _ (rowsF_nums wf j b 0 hb' s hs)
/-- rows in nests, on what stands above them -/
def Nest (W : Wd) : List Int → List Row → Prop
  | _, [] => True
  | st, r :: rs => r.1 ∈ W.keys ∧ (∃ d : Nat, r.2.1 = d ∧ d + 1 ≤ st.length ∧ (W.above r.1).reverse = st.take (d + 1)) ∧ (0 < r.2.2.2 → r.2.2.2 = ((W.below r.1).length : Int)) ∧ Nest W ((W.above r.1).reverse ++ [r.1]) rs
theorem nest_F {W : Wd} (wf : WF W) {R : Rdr} : ∀ (j : Nat) (n : Int) (d : Nat) (st : List Int) (rest : List Row), n ∈ W.keys → (W.above n).length = d + 1 → d + 1 ≤ st.length → st.take (d + 1) = (W.above n).reverse →
    (∀ st', d + 1 ≤ st'.length → st'.take (d + 1) = (W.above n).reverse → Nest W st' rest) → Nest W st (rowsF W R W.keys j n d ++ rest)
  | 0, n, d, st, rest, hn, ha, hl, ht, hr => by simpa [rowsF] using hr st hl ht
  | j + 1, n, d, st, rest, hn, ha, hl, ht, hr => by
    have l1 : (W.above n).reverse.length = d + 1 := by rw [List.length_reverse, ha]
    have t1 : ((W.above n).reverse ++ [n]).take (d + 1) = (W.above n).reverse := by rw [← l1, List.take_left]
    unfold rowsF
    split
    · rename_i q
      refine ⟨hn, ⟨d, rfl, hl, ht.symm⟩, fun _ => by show ((W.known W.keys n).length : Int) = _; rw [wf.known_all], ?_⟩
      exact hr _ (by rw [List.length_append, l1]; simp) t1
    · refine ⟨hn, ⟨d, rfl, hl, ht.symm⟩, fun z => absurd z (by simp), ?_⟩
      show Nest W ((W.above n).reverse ++ [n]) ((((W.ordered R.m n).filter fun o => decide (o ∈ W.keys)).flatMap fun o => rowsF W R W.keys j o ((d : Int) + 1)) ++ rest)
      have inner : ∀ (l : List Int), (∀ o ∈ l, o ∈ W.replies n) → ∀ st', d + 2 ≤ st'.length → st'.take (d + 2) = (W.above n).reverse ++ [n] → Nest W st' ((l.flatMap fun o => rowsF W R W.keys j o ((d : Int) + 1)) ++ rest) := by
        intro l
        induction l with
        | nil =>
          intro _ st' h1 h2
          refine hr st' (by omega) ?_
          have : st'.take (d + 1) = (st'.take (d + 2)).take (d + 1) := by rw [List.take_take, Nat.min_eq_left (by omega)]
          rw [this, h2, t1]
        | cons o l ih =>
          intro ho st' h1 h2
          obtain ⟨a1, a2, a3⟩ := wf.replies_above (ho o List.mem_cons_self)
          have ra : (W.above o).reverse = (W.above n).reverse ++ [n] := by rw [a1, List.reverse_cons]
          rw [List.flatMap_cons, List.append_assoc]
          have e : ((d : Int) + 1) = ((d + 1 : Nat) : Int) := by omega
          rw [e]
          refine nest_F wf j o (d + 1) st' _ a3 (by rw [a1, List.length_cons, ha]) h1 (by rw [ra]; exact h2) fun st'' h3 h4 => ?_
          rw [← e]
          exact ih (fun x hx => ho x (List.mem_cons_of_mem _ hx)) st'' h3 (by rw [← ra]; exact h4)
      refine inner _ (fun o ho => (ordered_mem wf).mp (List.mem_filter.mp ho).1) _ (by rw [List.length_append, l1]; simp) ?_
      rw [List.take_of_length_le (by rw [List.length_append, l1]; simp)]
theorem nest_U {W : Wd} (wf : WF W) {R : Rdr} {j : Nat} : Nest W [0] (rowsU W R W.keys j 0 0) := by
  unfold rowsU
  have inner : ∀ (l : List Int), (∀ o ∈ l, o ∈ W.replies 0) → ∀ st, 1 ≤ st.length → st.take 1 = [0] → Nest W st (l.flatMap fun o => rowsF W R W.keys j o 0) := by
    intro l
    induction l with
    | nil => intro _ st _ _; trivial
    | cons o l ih =>
      intro ho st h1 h2
      obtain ⟨a1, a2, a3⟩ := wf.replies_above (ho o List.mem_cons_self)
      rw [wf.above_zero] at a1
      rw [List.flatMap_cons]
      refine nest_F wf j o 0 st _ a3 (by rw [a1]; rfl) h1 (by rw [a1]; exact h2) fun st' h3 h4 => ?_
      exact ih (fun x hx => ho x (List.mem_cons_of_mem _ hx)) st' h3 (by rw [a1] at h4; exact h4)
  exact inner _ (fun o ho => (ordered_mem wf).mp (List.mem_filter.mp ho).1) [0] (by simp) rfl
end DL

set_option Elab.async false
set_option linter.all false
set_option maxRecDepth 100000
set_option maxHeartbeats 4000000
set_option autoImplicit false
namespace Vw
open PySem PySem.Spec L2 DL
abbrev N_is_count : List Str := ["thing", "low", "high"]
theorem sc_is_count : FnScope N_is_count ["thing", "low", "high"] (defScope s_is_count) := ⟨rfl, rfl, rfl, by decide +kernel, rfl, by decide +kernel, by decide +kernel⟩

theorem c_is_count {P : Program} {w : World} {K : PySem.W.Frag} {mg : Str → Option Value} {base : Heap} {T : List (Addr × Str)} (Ft : Facts K mg) : Cal P w K mg base T 1 "is_count" 3 sp_is_count := calD Ft.d_is_count sc_is_count (fun _ _ _ _ _ _ us hl => match us, hl with | [_, _, _], _ => rfl) fun f => ⟨_, fun cdv A outer s H E hr => (pxs_one (px_ret (pm_and (pm_is (n := "int") rfl Ft.f_isinstance rfl Ft.f_int (by decide +kernel) (pm_var 0)) (pm_and (pm_not (pm_is (n := "bool") rfl Ft.f_isinstance rfl Ft.f_bool (by decide +kernel) (pm_var 0))) (pm_one (pm_chain op_leA v2_le op_leA v2_le (pm_var 1) (pm_var 0) (pm_var 2))))))), by
  rintro ds g Kt hl ⟨t, lo, hi, rfl, ht, hk⟩
  cases t <;> simp [dTy] at ht
  all_goals (simp [wSeq, wRet, wRetN, wIf, wAsg, wExp, wNil, wRaise, wSetF, wPut, wPar, wUnp, wCont, rVar, rC, rBin, rUn, rAnd, rOr, rNot, rAndT, rOrT, rNotT, rIfE, rNil, rCons, rTup, rLst, rCB, rFld, rDGet, rDIn, rCall, rMth, rMake, rDNew, rIs, rChain, startD, endD, onB, gNames, setAll, -List.lookup_eq_none_iff, -List.map_map, isF, dTy, leF, isCnt] at hk ⊢; first | exact hk | skip)
  rename_i i
  by_cases h : lo ≤ i <;> simp_all⟩

abbrev N_need_name : List Str := ["thing", "good", "sign"]
theorem sc_need_name : FnScope N_need_name ["thing"] (defScope s_need_name) := ⟨rfl, rfl, rfl, by decide +kernel, rfl, by decide +kernel, by decide +kernel⟩

theorem c_need_name {P : Program} {w : World} {K : PySem.W.Frag} {mg : Str → Option Value} {base : Heap} {T : List (Addr × Str)} (Ft : Facts K mg) : Cal P w K mg base T 2 "need_name" 1 (sp_need_name K) := calD Ft.d_need_name sc_need_name (fun _ _ _ _ _ _ us hl => match us, hl with | [_], _ => rfl) fun f => ⟨_, fun cdv A outer s H E hr => (pxs_cons (px_asg (i := 1) sc_need_name.nd rfl (Or.inl rfl) (pm_and (pm_is (n := "str") rfl Ft.f_isinstance rfl Ft.f_str (by decide +kernel) (pm_var 0)) (pm_one (pm_chain op_leA v2_le op_leA v2_le pm_int (pm_len rfl Ft.f_len (pma_cons (pm_var 0) pma_nil)) (pm_gint rfl Ft.i_MOST_WORD)))))
  (pxs_one (px_if (pmw_t (pmw_or (pmt_not (pmt_val (pm_var 1))) (pmw_or1 (pmt_not (pmt_val (pm_all rfl rfl Ft.f_all (pma_cons (pm_lcS rfl sc_need_name.nd (pm_var 0) (blkOk_by (N := N_need_name) (sc := defScope s_need_name) (by decide +kernel)) (fun _ _ _ _ _ => pg_name (i := 2) sc_need_name.nd rfl (Or.inl rfl)) (fun _ _ _ _ _ => pmts_nil) (fun _ _ _ _ _ => (pm_cmp op_inA v2_in (by rfl) (pm_var 2) (pm_gstr rfl Ft.s_SMALL)))) pma_nil))))))) (pxs_one (px_raise Ft.x_BadName rfl tk_body rfl)) pxs_nil))), by
  rintro ds g Kt hl ⟨t, rfl, ⟨ht, hx⟩, h1, h2⟩
  cases t with
  | str x =>
    have hlen := hx x rfl
    have hc : x.cps.toList.length = x.length := rfl
    by_cases h3 : 1 ≤ x.length ∧ x.length ≤ 6
    · have e3 : (1 ≤ (x.length : Int)) ∧ ((x.length : Int) ≤ 6) := by omega
      simp only [okName, h3.1, h3.2, decide_true, Bool.true_and] at h1 h2
      simp [wSeq, wRet, wRetN, wIf, wAsg, wExp, wNil, wRaise, wSetF, wPut, wPar, wUnp, wCont, rVar, rC, rBin, rUn, rAnd, rOr, rNot, rAndT, rOrT, rNotT, rIfE, rNil, rCons, rTup, rLst, rCB, rFld, rDGet, rDIn, rCall, rMth, rMake, rDNew, rIs, rChain, startD, endD, onB, gNames, setAll, -List.lookup_eq_none_iff, -List.map_map, isF, dTy, leF, lenF, h3.1, h3.2, e3.1, e3.2, Nat.le_trans hlen, rLcS, signsD]
      refine lcR_map sign_inj (fun c => .bl (decide (c ∈ smallS.cps.toList))) (by omega) (fun c hc => ?_) ?_
      · simp [turnR, wSeq, wRet, wRetN, wIf, wAsg, wExp, wNil, wRaise, wSetF, wPut, wPar, wUnp, wCont, rVar, rC, rBin, rUn, rAnd, rOr, rNot, rAndT, rOrT, rNotT, rIfE, rNil, rCons, rTup, rLst, rCB, rFld, rDGet, rDIn, rCall, rMth, rMake, rDNew, rIs, rChain, startD, endD, onB, gNames, setAll, -List.lookup_eq_none_iff, -List.map_map, inF, inB, smallS]
        exact (Classical.em _).symm
      · have e : blsOf (x.cps.toList.map fun c => D.bl (decide (c ∈ smallS.cps.toList))) = some (x.cps.toList.map fun c => decide (c ∈ smallS.cps.toList)) := by
          rw [← blsOf_map, List.map_map]; rfl
        simp only [onA_ok, allF, litems, Option.bind_some, e, Option.map_some, List.all_map]
        refine ⟨_, rfl, ?_⟩
        show if _ then _ else _
        cases q : (x.cps.toList.all (id ∘ fun c => decide (c ∈ smallS.cps.toList))) with
        | true => simp; exact h1 q
        | false => simp; exact h2 q
    · have e3 : ¬ ((1 ≤ (x.length : Int)) ∧ ((x.length : Int) ≤ 6)) := by omega
      have e4 : okName (.str x) = false := by
        have : (decide (1 ≤ x.length) && decide (x.length ≤ 6)) = false := by simp; omega
        simp only [okName, this, Bool.false_and]
      have h2' := h2 e4
      by_cases h4 : (1 ≤ (x.length : Int)) <;> simp [wSeq, wRet, wRetN, wIf, wAsg, wExp, wNil, wRaise, wSetF, wPut, wPar, wUnp, wCont, rVar, rC, rBin, rUn, rAnd, rOr, rNot, rAndT, rOrT, rNotT, rIfE, rNil, rCons, rTup, rLst, rCB, rFld, rDGet, rDIn, rCall, rMth, rMake, rDNew, rIs, rChain, startD, endD, onB, gNames, setAll, -List.lookup_eq_none_iff, -List.map_map, isF, dTy, leF, lenF, Nat.le_trans hlen, h4]
      · have h5 : ¬ ((x.length : Int) ≤ 6) := fun z => e3 ⟨h4, z⟩
        simp [h5, h2']
      · exact h2'
  | ref _ => simp [dTy] at ht
  | frl _ => simp [dTy] at ht
  | dct _ => simp [dTy] at ht
  | _ => have h2' := h2 rfl; simp [wSeq, wRet, wRetN, wIf, wAsg, wExp, wNil, wRaise, wSetF, wPut, wPar, wUnp, wCont, rVar, rC, rBin, rUn, rAnd, rOr, rNot, rAndT, rOrT, rNotT, rIfE, rNil, rCons, rTup, rLst, rCB, rFld, rDGet, rDIn, rCall, rMth, rMake, rDNew, rIs, rChain, startD, endD, onB, gNames, setAll, -List.lookup_eq_none_iff, -List.map_map, isF, dTy, h2']⟩

abbrev N_need_text : List Str := ["thing", "good", "sign"]
theorem sc_need_text : FnScope N_need_text ["thing"] (defScope s_need_text) := ⟨rfl, rfl, rfl, by decide +kernel, rfl, by decide +kernel, by decide +kernel⟩

theorem c_need_text {P : Program} {w : World} {K : PySem.W.Frag} {mg : Str → Option Value} {base : Heap} {T : List (Addr × Str)} (Ft : Facts K mg) : Cal P w K mg base T 2 "need_text" 1 (sp_need_text K) := calD Ft.d_need_text sc_need_text (fun _ _ _ _ _ _ us hl => match us, hl with | [_], _ => rfl) fun f => ⟨_, fun cdv A outer s H E hr => (pxs_cons (px_asg (i := 1) sc_need_text.nd rfl (Or.inl rfl) (pm_and (pm_is (n := "str") rfl Ft.f_isinstance rfl Ft.f_str (by decide +kernel) (pm_var 0)) (pm_one (pm_chain op_leA v2_le op_leA v2_le pm_int (pm_len rfl Ft.f_len (pma_cons (pm_var 0) pma_nil)) (pm_gint rfl Ft.i_MOST_TEXT)))))
  (pxs_one (px_if (pmw_t (pmw_or (pmt_not (pmt_val (pm_var 1))) (pmw_or1 (pmt_not (pmt_val (pm_all rfl rfl Ft.f_all (pma_cons (pm_lcS rfl sc_need_text.nd (pm_var 0) (blkOk_by (N := N_need_text) (sc := defScope s_need_text) (by decide +kernel)) (fun _ _ _ _ _ => pg_name (i := 2) sc_need_text.nd rfl (Or.inl rfl)) (fun _ _ _ _ _ => pmts_nil) (fun _ _ _ _ _ => (pm_and (pm_chain op_leA v2_le op_leA v2_le pm_str (pm_var 2) pm_str) (pm_one (pm_cmp (op_neA hr.units) v2_ne (nomark _) (pm_ord rfl Ft.f_ord (pma_cons (pm_var 2) pma_nil)) (pm_gint rfl Ft.i_BARRED)))))) pma_nil))))))) (pxs_one (px_raise Ft.x_BadText rfl tk_body rfl)) pxs_nil))), by
  rintro ds g Kt hl ⟨t, rfl, ⟨ht, hx⟩, h1, h2⟩
  cases t with
  | str x =>
    have hlen := hx x rfl
    have hc : x.cps.toList.length = x.length := rfl
    by_cases h3 : 1 ≤ x.length ∧ x.length ≤ 30
    · have e3 : (1 ≤ (x.length : Int)) ∧ ((x.length : Int) ≤ 30) := by omega
      simp only [okText, h3.1, h3.2, decide_true, Bool.true_and] at h1 h2
      simp [wSeq, wRet, wRetN, wIf, wAsg, wExp, wNil, wRaise, wSetF, wPut, wPar, wUnp, wCont, rVar, rC, rBin, rUn, rAnd, rOr, rNot, rAndT, rOrT, rNotT, rIfE, rNil, rCons, rTup, rLst, rCB, rFld, rDGet, rDIn, rCall, rMth, rMake, rDNew, rIs, rChain, startD, endD, onB, gNames, setAll, -List.lookup_eq_none_iff, -List.map_map, isF, dTy, leF, lenF, h3.1, h3.2, e3.1, e3.2, Nat.le_trans hlen, rLcS, signsD]
      refine lcR_map sign_inj (fun c => .bl (okSign c)) (by omega) (fun c hc => ?_) ?_
      · have l1 : (Str.ofString " ").cps.toList = [32] := by decide +kernel
        have l2 : (Str.ofString "~").cps.toList = [126] := by decide +kernel
        simp [turnR, wSeq, wRet, wRetN, wIf, wAsg, wExp, wNil, wRaise, wSetF, wPut, wPar, wUnp, wCont, rVar, rC, rBin, rUn, rAnd, rOr, rNot, rAndT, rOrT, rNotT, rIfE, rNil, rCons, rTup, rLst, rCB, rFld, rDGet, rDIn, rCall, rMth, rMake, rDNew, rIs, rChain, startD, endD, onB, gNames, setAll, -List.lookup_eq_none_iff, -List.map_map, leF, ordF, okSign, l1, l2, -Array.lt_toList, -Array.le_toList, List.cons_lt_cons_iff]
        by_cases h5 : c < 32
        · exact .inl ⟨h5, by omega⟩
        · refine .inr ⟨by omega, ?_⟩
          by_cases h6 : 126 < c
          · exact .inl ⟨h6, by omega⟩
          · refine .inr ⟨by omega, ?_⟩
            have e1 : 32 ≤ c := by omega
            have e2 : c ≤ 126 := by omega
            have e3 : ((c : Int) = 37) ↔ c = 37 := by omega
            simp [e1, e2, e3]
      · have e : blsOf (x.cps.toList.map fun c => D.bl (okSign c)) = some (x.cps.toList.map okSign) := by
          rw [← blsOf_map, List.map_map]; rfl
        simp only [onA_ok, allF, litems, Option.bind_some, e, Option.map_some, List.all_map]
        refine ⟨_, rfl, ?_⟩
        show if _ then _ else _
        cases q : (x.cps.toList.all (id ∘ okSign)) with
        | true => simp; exact h1 q
        | false => simp; exact h2 q
    · have e3 : ¬ ((1 ≤ (x.length : Int)) ∧ ((x.length : Int) ≤ 30)) := by omega
      have e4 : okText (.str x) = false := by
        have : (decide (1 ≤ x.length) && decide (x.length ≤ 30)) = false := by simp; omega
        simp only [okText, this, Bool.false_and]
      have h2' := h2 e4
      by_cases h4 : (1 ≤ (x.length : Int)) <;> simp [wSeq, wRet, wRetN, wIf, wAsg, wExp, wNil, wRaise, wSetF, wPut, wPar, wUnp, wCont, rVar, rC, rBin, rUn, rAnd, rOr, rNot, rAndT, rOrT, rNotT, rIfE, rNil, rCons, rTup, rLst, rCB, rFld, rDGet, rDIn, rCall, rMth, rMake, rDNew, rIs, rChain, startD, endD, onB, gNames, setAll, -List.lookup_eq_none_iff, -List.map_map, isF, dTy, leF, lenF, Nat.le_trans hlen, h4]
      · have h5 : ¬ ((x.length : Int) ≤ 30) := fun z => e3 ⟨h4, z⟩
        simp [h5, h2']
      · exact h2'
  | ref _ => simp [dTy] at ht
  | frl _ => simp [dTy] at ht
  | dct _ => simp [dTy] at ht
  | _ => have h2' := h2 rfl; simp [wSeq, wRet, wRetN, wIf, wAsg, wExp, wNil, wRaise, wSetF, wPut, wPar, wUnp, wCont, rVar, rC, rBin, rUn, rAnd, rOr, rNot, rAndT, rOrT, rNotT, rIfE, rNil, rCons, rTup, rLst, rCB, rFld, rDGet, rDIn, rCall, rMth, rMake, rDNew, rIs, rChain, startD, endD, onB, gNames, setAll, -List.lookup_eq_none_iff, -List.map_map, isF, dTy, h2']⟩

abbrev N_Saying_init : List Str := ["self", "by", "under", "text", "time"]
theorem sc_Saying_init : FnScope N_Saying_init ["self", "by", "under", "text", "time"] (defScope s_Saying_init) := ⟨rfl, rfl, rfl, by decide +kernel, rfl, by decide +kernel, by decide +kernel⟩

theorem k_Saying {P : Program} {w : World} {K : PySem.W.Frag} {mg : Str → Option Value} {base : Heap} {T : List (Addr × Str)} (Ft : Facts K mg) : Mak P w K mg base T 1 "Saying" (He.ga K "Saying") 5 (sp_Saying K) := makD Ft.n_Saying sc_Saying_init (fun _ _ _ _ _ _ us hl => match us, hl with | [_, _, _, _, _], _ => rfl) fun f => ⟨_, fun cdv A outer s H E hr => (pxs_cons (px_setF Ft.at_Saying_by (pm_var 0) (pm_var 1))
  (pxs_cons (px_setF Ft.at_Saying_under (pm_var 0) (pm_var 2))
  (pxs_cons (px_setF Ft.at_Saying_text (pm_var 0) (pm_var 3))
  (pxs_cons (px_setF Ft.at_Saying_time (pm_var 0) (pm_var 4))
  (pxs_cons (px_setF Ft.at_Saying_votes (pm_var 0) pm_dnew)
  (pxs_one (px_setF Ft.at_Saying_is_struck (pm_var 0) pm_bl))))))), by
  rintro ds g Kt hl ⟨x, b, u, t, i, rfl, hx, hk⟩
  simp [wSeq, wRet, wRetN, wIf, wAsg, wExp, wNil, wRaise, wSetF, wPut, wPar, wUnp, wCont, rVar, rC, rBin, rUn, rAnd, rOr, rNot, rAndT, rOrT, rNotT, rIfE, rNil, rCons, rTup, rLst, rCB, rFld, rDGet, rDIn, rCall, rMth, rMake, rDNew, rIs, rChain, startD, endD, onB, gNames, setAll, -List.lookup_eq_none_iff, -List.map_map, hx, putD]
  intro v hv
  have ne : v ≠ x := fun z => by subst z; simp at hv
  have hv' : g.get v = none := by rwa [G.set_ne ne] at hv
  have := hk v hv'
  rw [G.set_ne (Ne.symm ne)]
  simp [putD]
  rw [G.set_comm (a := x) (b := v) (Ne.symm ne)]
  simpa using this⟩

abbrev N_Saying_ups : List Str := ["self", "name"]
theorem sc_Saying_ups : FnScope N_Saying_ups ["self"] (defScope s_Saying_ups) := ⟨rfl, rfl, rfl, by decide +kernel, rfl, by decide +kernel, by decide +kernel⟩

theorem m_Saying_ups {P : Program} {w : World} {K : PySem.W.Frag} {mg : Str → Option Value} {base : Heap} {T : List (Addr × Str)} (Ft : Facts K mg) : Mtd P w K mg base T 1 (He.ga K "Saying") "ups" 1 (sp_ups K) := mtdD Ft.m_Saying_ups sc_Saying_ups (fun _ _ _ _ _ _ us hl => match us, hl with | [_], _ => rfl) fun f => ⟨_, fun cdv A outer s H E hr => (pxs_one (px_ret (pm_len rfl Ft.f_len (pma_cons (pm_lcN rfl sc_Saying_ups.nd (pp_fld Ft.at_Saying_votes (pp_var 0)) (blkOk_by (N := N_Saying_ups) (sc := defScope s_Saying_ups) (by decide +kernel)) (fun _ _ _ _ _ => pg_name (i := 1) sc_Saying_ups.nd rfl (Or.inl rfl)) (fun _ _ _ _ _ => (pmts_one (pmt_cmp op_gt v2_gt (nomark _) (pm_dget (hu_of hr) (pm_fld Ft.at_Saying_votes (pm_var 0)) (pm_var 1) (fun _ _ => rfl)) pm_int))) (fun _ _ _ _ _ => (pm_var 1))) pma_nil)))), by
  rintro ds g Kt hl ⟨s, v, S, rfl, h, hk⟩
  simp [wSeq, wRet, wRetN, wIf, wAsg, wExp, wNil, wRaise, wSetF, wPut, wPar, wUnp, wCont, rVar, rC, rBin, rUn, rAnd, rOr, rNot, rAndT, rOrT, rNotT, rIfE, rNil, rCons, rTup, rLst, rCB, rFld, rDGet, rDIn, rCall, rMth, rMake, rDNew, rIs, rChain, startD, endD, onB, gNames, setAll, -List.lookup_eq_none_iff, -List.map_map, rLcN, fFld, fVar, h.hs, h.hv, sayFs, List.lookup, voteKvs_keyD]
  refine lcR_if (xs := S.votes.map (·.1)) str_inj (fun n => decide (0 < (S.votes.lookup n).getD 0)) D.str (by have := h.ln; simp; omega) (fun n hn => ?_) ?_
  · obtain ⟨⟨m, y⟩, hp, rfl⟩ := List.mem_map.mp hn
    have e := lookup_votes h.nd hp
    simp [turnR, wSeq, wRet, wRetN, wIf, wAsg, wExp, wNil, wRaise, wSetF, wPut, wPar, wUnp, wCont, rVar, rC, rBin, rUn, rAnd, rOr, rNot, rAndT, rOrT, rNotT, rIfE, rNil, rCons, rTup, rLst, rCB, rFld, rDGet, rDIn, rCall, rMth, rMake, rDNew, rIs, rChain, startD, endD, onB, gNames, setAll, -List.lookup_eq_none_iff, -List.map_map, dgetF, asDict, h.hs, h.hv, sayFs, List.lookup, DL.keyOf, dfind_vote, e, gtF]
    by_cases q : 0 < y <;> simp [q] <;> omega
  · have e := names_filter h.nd (fun y => decide (0 < y))
    simp [lenF, items]
    simp [Say.ups] at hk
    first | (rw [e]; exact hk) | (simp at e; rw [e]; exact hk)⟩

abbrev N_Saying_downs : List Str := ["self", "name"]
theorem sc_Saying_downs : FnScope N_Saying_downs ["self"] (defScope s_Saying_downs) := ⟨rfl, rfl, rfl, by decide +kernel, rfl, by decide +kernel, by decide +kernel⟩

theorem m_Saying_downs {P : Program} {w : World} {K : PySem.W.Frag} {mg : Str → Option Value} {base : Heap} {T : List (Addr × Str)} (Ft : Facts K mg) : Mtd P w K mg base T 1 (He.ga K "Saying") "downs" 1 (sp_downs K) := mtdD Ft.m_Saying_downs sc_Saying_downs (fun _ _ _ _ _ _ us hl => match us, hl with | [_], _ => rfl) fun f => ⟨_, fun cdv A outer s H E hr => (pxs_one (px_ret (pm_len rfl Ft.f_len (pma_cons (pm_lcN rfl sc_Saying_downs.nd (pp_fld Ft.at_Saying_votes (pp_var 0)) (blkOk_by (N := N_Saying_downs) (sc := defScope s_Saying_downs) (by decide +kernel)) (fun _ _ _ _ _ => pg_name (i := 1) sc_Saying_downs.nd rfl (Or.inl rfl)) (fun _ _ _ _ _ => (pmts_one (pmt_cmp op_lt v2_lt (nomark _) (pm_dget (hu_of hr) (pm_fld Ft.at_Saying_votes (pm_var 0)) (pm_var 1) (fun _ _ => rfl)) pm_int))) (fun _ _ _ _ _ => (pm_var 1))) pma_nil)))), by
  rintro ds g Kt hl ⟨s, v, S, rfl, h, hk⟩
  simp [wSeq, wRet, wRetN, wIf, wAsg, wExp, wNil, wRaise, wSetF, wPut, wPar, wUnp, wCont, rVar, rC, rBin, rUn, rAnd, rOr, rNot, rAndT, rOrT, rNotT, rIfE, rNil, rCons, rTup, rLst, rCB, rFld, rDGet, rDIn, rCall, rMth, rMake, rDNew, rIs, rChain, startD, endD, onB, gNames, setAll, -List.lookup_eq_none_iff, -List.map_map, rLcN, fFld, fVar, h.hs, h.hv, sayFs, List.lookup, voteKvs_keyD]
  refine lcR_if (xs := S.votes.map (·.1)) str_inj (fun n => decide ((S.votes.lookup n).getD 0 < 0)) D.str (by have := h.ln; simp; omega) (fun n hn => ?_) ?_
  · obtain ⟨⟨m, y⟩, hp, rfl⟩ := List.mem_map.mp hn
    have e := lookup_votes h.nd hp
    simp [turnR, wSeq, wRet, wRetN, wIf, wAsg, wExp, wNil, wRaise, wSetF, wPut, wPar, wUnp, wCont, rVar, rC, rBin, rUn, rAnd, rOr, rNot, rAndT, rOrT, rNotT, rIfE, rNil, rCons, rTup, rLst, rCB, rFld, rDGet, rDIn, rCall, rMth, rMake, rDNew, rIs, rChain, startD, endD, onB, gNames, setAll, -List.lookup_eq_none_iff, -List.map_map, dgetF, asDict, h.hs, h.hv, sayFs, List.lookup, DL.keyOf, dfind_vote, e, ltF]
    by_cases q : y < 0 <;> simp [q] <;> omega
  · have e := names_filter h.nd (fun y => decide (y < 0))
    simp [lenF, items]
    simp [Say.downs] at hk
    first | (rw [e]; exact hk) | (simp at e; rw [e]; exact hk)⟩

abbrev N_Saying_points : List Str := ["self"]
theorem sc_Saying_points : FnScope N_Saying_points ["self"] (defScope s_Saying_points) := ⟨rfl, rfl, rfl, by decide +kernel, rfl, by decide +kernel, by decide +kernel⟩

theorem m_Saying_points {P : Program} {w : World} {K : PySem.W.Frag} {mg : Str → Option Value} {base : Heap} {T : List (Addr × Str)} (Ft : Facts K mg) : Mtd P w K mg base T 2 (He.ga K "Saying") "points" 1 (sp_points K) := mtdD Ft.m_Saying_points sc_Saying_points (fun _ _ _ _ _ _ us hl => match us, hl with | [_], _ => rfl) fun f => ⟨_, fun cdv A outer s H E hr => (pxs_one (px_ret (pm_op op_sub v2_sub (pm_meth0 (m_Saying_ups Ft) hr (by decide) pas_body (pm_var 0)) (pm_meth0 (m_Saying_downs Ft) hr (by decide) pas_body (pm_var 0))))), by
  rintro ds g Kt hl ⟨s, v, S, rfl, h, hk⟩
  simp [wSeq, wRet, wRetN, wIf, wAsg, wExp, wNil, wRaise, wSetF, wPut, wPar, wUnp, wCont, rVar, rC, rBin, rUn, rAnd, rOr, rNot, rAndT, rOrT, rNotT, rIfE, rNil, rCons, rTup, rLst, rCB, rFld, rDGet, rDIn, rCall, rMth, rMake, rDNew, rIs, rChain, startD, endD, onB, gNames, setAll, -List.lookup_eq_none_iff, -List.map_map, h.hs, sayFs, List.lookup, sp_ups, sp_downs]
  refine ⟨v, S, h, v, S, h, ?_⟩
  simp [subF]
  exact hk⟩

abbrev N_Wood_init : List Str := ["self"]
theorem sc_Wood_init : FnScope N_Wood_init ["self"] (defScope s_Wood_init) := ⟨rfl, rfl, rfl, by decide +kernel, rfl, by decide +kernel, by decide +kernel⟩

theorem k_Wood {P : Program} {w : World} {K : PySem.W.Frag} {mg : Str → Option Value} {base : Heap} {T : List (Addr × Str)} (Ft : Facts K mg) : Mak P w K mg base T 1 "Wood" (He.ga K "Wood") 1 (sp_Wood K) := makD Ft.n_Wood sc_Wood_init (fun _ _ _ _ _ _ us hl => match us, hl with | [_], _ => rfl) fun f => ⟨_, fun cdv A outer s H E hr => (pxs_cons (px_setF Ft.at_Wood_sayings (pm_var 0) pm_dnew)
  (pxs_cons (px_setF Ft.at_Wood_came (pm_var 0) pm_int)
  (pxs_one (px_setF Ft.at_Wood_clock (pm_var 0) pm_int)))), by
  rintro ds g Kt hl ⟨x, rfl, hx, hk⟩
  simp [wSeq, wRet, wRetN, wIf, wAsg, wExp, wNil, wRaise, wSetF, wPut, wPar, wUnp, wCont, rVar, rC, rBin, rUn, rAnd, rOr, rNot, rAndT, rOrT, rNotT, rIfE, rNil, rCons, rTup, rLst, rCB, rFld, rDGet, rDIn, rCall, rMth, rMake, rDNew, rIs, rChain, startD, endD, onB, gNames, setAll, -List.lookup_eq_none_iff, -List.map_map, hx, putD]
  intro d hd
  have ne : d ≠ x := fun z => by subst z; rw [hx] at hd; cases hd
  have := hk d hd
  rw [G.set_ne (Ne.symm ne)]
  simp [hx, putD]
  exact this⟩

abbrev N_Wood_tick : List Str := ["self", "many"]
theorem sc_Wood_tick : FnScope N_Wood_tick ["self", "many"] (defScope s_Wood_tick) := ⟨rfl, rfl, rfl, by decide +kernel, rfl, by decide +kernel, by decide +kernel⟩

theorem m_Wood_tick {P : Program} {w : World} {K : PySem.W.Frag} {mg : Str → Option Value} {base : Heap} {T : List (Addr × Str)} (Ft : Facts K mg) : Mtd P w K mg base T 2 (He.ga K "Wood") "tick" 2 (sp_tick K) := mtdD Ft.m_Wood_tick sc_Wood_tick (fun _ _ _ _ _ _ us hl => match us, hl with | [_, _], _ => rfl) fun f => ⟨_, fun cdv A outer s H E hr => (pxs_cons (px_if (pmt_not (pmt_val (pm_call (c_is_count Ft) hr (by decide) rfl pas_body (pma_cons (pm_var 1) (pma_cons pm_int (pma_cons (pm_gint rfl Ft.i_MOST_TICKS) pma_nil)))))) (pxs_one (px_raise Ft.x_BadNumber rfl tk_body rfl)) pxs_nil)
  (pxs_one (px_setF Ft.at_Wood_clock (pm_var 0) (pm_op op_addA v2_add (pm_fld Ft.at_Wood_clock (pm_var 0)) (pm_var 1))))), by
  rintro ds g Kt hl ⟨A, W, r, rfl, h, wf, t, rfl, ht, h1, h2⟩
  simp [wSeq, wRet, wRetN, wIf, wAsg, wExp, wNil, wRaise, wSetF, wPut, wPar, wUnp, wCont, rVar, rC, rBin, rUn, rAnd, rOr, rNot, rAndT, rOrT, rNotT, rIfE, rNil, rCons, rTup, rLst, rCB, rFld, rDGet, rDIn, rCall, rMth, rMake, rDNew, rIs, rChain, startD, endD, onB, gNames, setAll, -List.lookup_eq_none_iff, -List.map_map, h.hw, List.lookup, sp_is_count, ht]
  refine ⟨t, 0, 1000, ⟨rfl, rfl, rfl⟩, ht, ?_⟩
  split
  · rename_i hc
    cases t with
    | int m =>
      simp [addF, putD]
      exact h1 m rfl hc _ (h.upd (W' := { W with clock := W.clock + m }) .w trivial (fun l hl => hl) rfl (fun l _ ne => by cases l <;> first | rfl | exact absurd rfl ne)) (h.frm_upd (W' := { W with clock := W.clock + m }) .w trivial (fun l hl => hl))
    | _ => simp [isCnt] at hc
  · rename_i hc
    exact h2 (by simpa using hc)⟩

abbrev N_Wood_saying : List Str := ["self", "number"]
theorem sc_Wood_saying : FnScope N_Wood_saying ["self", "number"] (defScope s_Wood_saying) := ⟨rfl, rfl, rfl, by decide +kernel, rfl, by decide +kernel, by decide +kernel⟩

theorem m_Wood_saying {P : Program} {w : World} {K : PySem.W.Frag} {mg : Str → Option Value} {base : Heap} {T : List (Addr × Str)} (Ft : Facts K mg) : Mtd P w K mg base T 2 (He.ga K "Wood") "saying" 2 (sp_saying K) := mtdD Ft.m_Wood_saying sc_Wood_saying (fun _ _ _ _ _ _ us hl => match us, hl with | [_, _], _ => rfl) fun f => ⟨_, fun cdv A outer s H E hr => (pxs_cons (px_if (pmw_t (pmw_or (pmt_not (pmt_val (pm_call (c_is_count Ft) hr (by decide) rfl pas_body (pma_cons (pm_var 1) (pma_cons pm_int (pma_cons (pm_fld Ft.at_Wood_came (pm_var 0)) pma_nil)))))) (pmw_or1 (pmt_dni (hu_of hr) (pm_var 1) (pm_fld Ft.at_Wood_sayings (pm_var 0)))))) (pxs_one (px_raise Ft.x_NoSaying rfl tk_body rfl)) pxs_nil)
  (pxs_one (px_ret (pm_dget (hu_of hr) (pm_fld Ft.at_Wood_sayings (pm_var 0)) (pm_var 1) (fun _ _ => rfl))))), by
  rintro ds g Kt hl ⟨A, W, r, rfl, h, wf, t, rfl, ht, h1, h2⟩
  simp [wSeq, wRet, wRetN, wIf, wAsg, wExp, wNil, wRaise, wSetF, wPut, wPar, wUnp, wCont, rVar, rC, rBin, rUn, rAnd, rOr, rNot, rAndT, rOrT, rNotT, rIfE, rNil, rCons, rTup, rLst, rCB, rFld, rDGet, rDIn, rCall, rMth, rMake, rDNew, rIs, rChain, startD, endD, onB, gNames, setAll, -List.lookup_eq_none_iff, -List.map_map, h.hw, List.lookup, sp_is_count, ht]
  refine ⟨t, 1, W.came, ⟨rfl, rfl, rfl⟩, ht, ?_⟩
  split
  · rename_i hc
    cases t with
    | int n =>
      simp [dinB, dgetF, asDict, h.hd, DL.keyOf, dfind_row]
      cases e : W.find n with
      | none => simp; exact h2 fun m q => by cases q; exact e
      | some S => simp; exact h1 n S rfl e
    | _ => simp [isCnt] at hc
  · rename_i hc
    refine h2 fun n q => ?_
    subst q
    cases e : W.find n with
    | none => rfl
    | some S =>
      have := wf.pos n (WF.find_key e)
      exact absurd (by simp [isCnt]; omega) hc⟩

abbrev N_Wood_numbers : List Str := ["self"]
theorem sc_Wood_numbers : FnScope N_Wood_numbers ["self"] (defScope s_Wood_numbers) := ⟨rfl, rfl, rfl, by decide +kernel, rfl, by decide +kernel, by decide +kernel⟩

theorem m_Wood_numbers {P : Program} {w : World} {K : PySem.W.Frag} {mg : Str → Option Value} {base : Heap} {T : List (Addr × Str)} (Ft : Facts K mg) : Mtd P w K mg base T 1 (He.ga K "Wood") "numbers" 1 (sp_numbers K) := mtdD Ft.m_Wood_numbers sc_Wood_numbers (fun _ _ _ _ _ _ us hl => match us, hl with | [_], _ => rfl) fun f => ⟨_, fun cdv A outer s H E hr => (pxs_one (px_ret (pm_sorted rfl rfl Ft.f_sorted (pma_cons (pm_fld Ft.at_Wood_sayings (pm_var 0)) pma_nil)))), by
  rintro ds g Kt hl ⟨A, W, r, rfl, h, wf, rfl, hk⟩
  have := wf.len
  simp [wSeq, wRet, wRetN, wIf, wAsg, wExp, wNil, wRaise, wSetF, wPut, wPar, wUnp, wCont, rVar, rC, rBin, rUn, rAnd, rOr, rNot, rAndT, rOrT, rNotT, rIfE, rNil, rCons, rTup, rLst, rCB, rFld, rDGet, rDIn, rCall, rMth, rMake, rDNew, rIs, rChain, startD, endD, onB, gNames, setAll, -List.lookup_eq_none_iff, -List.map_map, h.hw, List.lookup, sortF, litems, asDict, h.hd, rowKvs_keys]
  refine ⟨_, ⟨by simp [Wd.keys]; omega, rfl⟩, ?_⟩
  rw [wf.sorted_keys]
  exact hk⟩

abbrev N_Wood_deep : List Str := ["self", "number", "found"]
theorem sc_Wood_deep : FnScope N_Wood_deep ["self", "number"] (defScope s_Wood_deep) := ⟨rfl, rfl, rfl, by decide +kernel, rfl, by decide +kernel, by decide +kernel⟩

theorem m_Wood_deep {P : Program} {w : World} {K : PySem.W.Frag} {mg : Str → Option Value} {base : Heap} {T : List (Addr × Str)} (Ft : Facts K mg) : Mtd P w K mg base T 1 (He.ga K "Wood") "deep" 2 (sp_deep K) := mtdD Ft.m_Wood_deep sc_Wood_deep (fun _ _ _ _ _ _ us hl => match us, hl with | [_, _], _ => rfl) fun f => ⟨_, fun cdv A outer s H E hr => (pxs_cons (px_asg (i := 2) sc_Wood_deep.nd rfl (Or.inl rfl) pm_int)
  (pxs_cons (px_while po_body (pmw_t (pmw_and (pmt_cmp (op_neA hr.units) v2_ne (nomark _) (pm_var 1) pm_int) (pmw_and1 (pmt_cmp (op_neA hr.units) v2_ne (nomark _) (pm_fld Ft.at_Saying_under (pm_dget (hu_of hr) (pm_fld Ft.at_Wood_sayings (pm_var 0)) (pm_var 1) (fun _ _ => rfl))) pm_int)))) (pxs_cons (px_asg (i := 1) sc_Wood_deep.nd rfl (Or.inl rfl) (pm_fld Ft.at_Saying_under (pm_dget (hu_of hr) (pm_fld Ft.at_Wood_sayings (pm_var 0)) (pm_var 1) (fun _ _ => rfl))))
  (pxs_one (px_asg (i := 2) sc_Wood_deep.nd rfl (Or.inl rfl) (pm_op op_addA v2_add (pm_var 2) pm_int)))))
  (pxs_one (px_ret (pm_var 2))))), by
  rintro ds g Kt hl ⟨A, W, r, rfl, h, wf, n, rfl, hn, hk⟩
  simp [wSeq, wRet, wRetN, wIf, wAsg, wExp, wNil, wRaise, wSetF, wPut, wPar, wUnp, wCont, rVar, rC, rBin, rUn, rAnd, rOr, rNot, rAndT, rOrT, rNotT, rIfE, rNil, rCons, rTup, rLst, rCB, rFld, rDGet, rDIn, rCall, rMth, rMake, rDNew, rIs, rChain, startD, endD, onB, gNames, setAll, -List.lookup_eq_none_iff, -List.map_map, wWhile]
  refine ⟨fun m env g' => g' = g ∧ ∃ (n' k : Int), env = [.dat (.ref A.w), .dat (.int n'), .dat (.int k)] ∧ n' ∈ W.keys ∧ m = n'.toNat ∧ k + (W.above n').length = (W.above n).length, ⟨n.toNat, rfl, n, 0, rfl, hn, rfl, by omega⟩, ?_⟩
  rintro m env g' ⟨rfl, n', k, rfl, hn', rfl, hk'⟩
  obtain ⟨S, e⟩ := wf.key_find hn'
  have nz := wf.nz hn'
  have st := wf.above_step e
  have hp := wf.pos n' hn'
  simp [nz, h.hw, h.hd, h.hs e, List.lookup, dgetF, asDict, DL.keyOf, dfind_row, e, sayFs]
  by_cases q : S.under = 0
  · simp [q]
    rw [st, q, wf.above_zero] at hk'
    have : k = (W.above n).length - 1 := by simp at hk'; omega
    rw [this]; exact hk
  · have hu := (wf.und n' S (WF.mem_find e)).resolve_left q
    have hp2 := wf.pos _ hu.1
    simp [q, addF]
    refine ⟨S.under.toNat, by omega, S.under, k + 1, ⟨rfl, rfl⟩, hu.1, rfl, ?_⟩
    rw [st] at hk'
    simp at hk'
    omega⟩

end Vw

set_option Elab.async false
set_option linter.all false
set_option maxRecDepth 100000
set_option maxHeartbeats 4000000
set_option autoImplicit false
namespace Vw
open PySem PySem.Spec L2 DL
abbrev N_Wood_look : List Str := ["self", "number", "one"]
theorem sc_Wood_look : FnScope N_Wood_look ["self", "number"] (defScope s_Wood_look) := ⟨rfl, rfl, rfl, by decide +kernel, rfl, by decide +kernel, by decide +kernel⟩

theorem m_Wood_look {P : Program} {w : World} {K : PySem.W.Frag} {mg : Str → Option Value} {base : Heap} {T : List (Addr × Str)} (Ft : Facts K mg) : Mtd P w K mg base T 3 (He.ga K "Wood") "look" 2 (sp_look K) := mtdD Ft.m_Wood_look sc_Wood_look (fun _ _ _ _ _ _ us hl => match us, hl with | [_, _], _ => rfl) fun f => ⟨_, fun cdv A outer s H E hr => (pxs_cons (px_asg (i := 2) sc_Wood_look.nd rfl (Or.inl rfl) (pm_meth (m_Wood_saying Ft) hr (by decide) pas_body (pm_var 0) (pma_cons (pm_var 1) pma_nil)))
  (pxs_one (px_ret (pm_tup (pma_cons (pm_fld Ft.at_Saying_by (pm_var 2)) (pma_cons (pm_fld Ft.at_Saying_under (pm_var 2)) (pma_cons (pm_ifE (pmt_val (pm_fld Ft.at_Saying_is_struck (pm_var 2))) pm_non (pm_fld Ft.at_Saying_text (pm_var 2))) (pma_cons (pm_fld Ft.at_Saying_time (pm_var 2)) pma_nil)))))))), by
  rintro ds g Kt hl ⟨A, W, r, rfl, h, wf, n, rfl, hk⟩
  cases e : W.find n with
  | none =>
    rw [e] at hk
    simp [wSeq, wRet, wRetN, wIf, wAsg, wExp, wNil, wRaise, wSetF, wPut, wPar, wUnp, wCont, rVar, rC, rBin, rUn, rAnd, rOr, rNot, rAndT, rOrT, rNotT, rIfE, rNil, rCons, rTup, rLst, rCB, rFld, rDGet, rDIn, rCall, rMth, rMake, rDNew, rIs, rChain, startD, endD, onB, gNames, setAll, -List.lookup_eq_none_iff, -List.map_map, h.hw, List.lookup, sp_saying, wp]
    exact ⟨A, W, [.int n], ⟨rfl, rfl⟩, h, wf, _, rfl, rfl, (fun m S q z => by cases q; rw [e] at z; cases z), fun _ => hk⟩
  | some S =>
    rw [e] at hk
    simp [wSeq, wRet, wRetN, wIf, wAsg, wExp, wNil, wRaise, wSetF, wPut, wPar, wUnp, wCont, rVar, rC, rBin, rUn, rAnd, rOr, rNot, rAndT, rOrT, rNotT, rIfE, rNil, rCons, rTup, rLst, rCB, rFld, rDGet, rDIn, rCall, rMth, rMake, rDNew, rIs, rChain, startD, endD, onB, gNames, setAll, -List.lookup_eq_none_iff, -List.map_map, h.hw, List.lookup, sp_saying, wp]
    refine ⟨A, W, [.int n], ⟨rfl, rfl⟩, h, wf, _, rfl, rfl, (fun m S' q z => ?_), fun z => by rw [z n rfl] at e; cases e⟩
    cases q; rw [e] at z; cases z
    have hs := h.hs e
    cases q : S.struck <;> simp [hs, sayFs, List.lookup, q] <;> (simp [lookD, q] at hk; exact hk)⟩

abbrev N_Wood_own : List Str := ["self", "number", "by", "one"]
theorem sc_Wood_own : FnScope N_Wood_own ["self", "number", "by"] (defScope s_Wood_own) := ⟨rfl, rfl, rfl, by decide +kernel, rfl, by decide +kernel, by decide +kernel⟩

theorem m_Wood_own {P : Program} {w : World} {K : PySem.W.Frag} {mg : Str → Option Value} {base : Heap} {T : List (Addr × Str)} (Ft : Facts K mg) : Mtd P w K mg base T 3 (He.ga K "Wood") "own" 3 (sp_own K) := mtdD Ft.m_Wood_own sc_Wood_own (fun _ _ _ _ _ _ us hl => match us, hl with | [_, _, _], _ => rfl) fun f => ⟨_, fun cdv A outer s H E hr => (pxs_cons (px_asg (i := 3) sc_Wood_own.nd rfl (Or.inl rfl) (pm_meth (m_Wood_saying Ft) hr (by decide) pas_body (pm_var 0) (pma_cons (pm_var 1) pma_nil)))
  (pxs_cons (px_exp (pm_call (c_need_name Ft) hr (by decide) rfl pas_body (pma_cons (pm_var 2) pma_nil)))
  (pxs_cons (px_if (pmw_t (pmw_or (pmt_cmp (op_neA hr.units) v2_ne (nomark _) (pm_fld Ft.at_Saying_by (pm_var 3)) (pm_var 2)) (pmw_or1 (pmt_val (pm_fld Ft.at_Saying_is_struck (pm_var 3)))))) (pxs_one (px_raise Ft.x_NotYours rfl tk_body rfl)) pxs_nil)
  (pxs_one (px_ret (pm_var 3)))))), by
  rintro ds g Kt hl ⟨A, W, r, rfl, h, wf, n, b, rfl, hb, hk⟩
  simp [wSeq, wRet, wRetN, wIf, wAsg, wExp, wNil, wRaise, wSetF, wPut, wPar, wUnp, wCont, rVar, rC, rBin, rUn, rAnd, rOr, rNot, rAndT, rOrT, rNotT, rIfE, rNil, rCons, rTup, rLst, rCB, rFld, rDGet, rDIn, rCall, rMth, rMake, rDNew, rIs, rChain, startD, endD, onB, gNames, setAll, -List.lookup_eq_none_iff, -List.map_map, h.hw, List.lookup, sp_saying, wp]
  cases e : W.find n with
  | none =>
    simp [Wd.ownR, e] at hk
    exact ⟨A, W, [.int n], ⟨rfl, rfl⟩, h, wf, _, rfl, rfl, (fun m S q z => by cases q; rw [e] at z; cases z), fun _ => hk⟩
  | some S =>
    refine ⟨A, W, [.int n], ⟨rfl, rfl⟩, h, wf, _, rfl, rfl, (fun m S' q z => ?_), fun z => by rw [z n rfl] at e; cases e⟩
    cases q; rw [e] at z; cases z
    have hs := h.hs e
    simp [sp_need_name, Wd.ownR, e] at hk ⊢
    refine ⟨⟨rfl, fun x q => by cases q; exact hb⟩, fun q => ?_, fun q => by simpa [q] using hk⟩
    simp [q] at hk
    simp [hs, sayFs, List.lookup]
    by_cases q1 : S.by_ = b <;> by_cases q2 : S.struck = true <;> simp [q1, q2] at hk ⊢ <;> exact hk⟩

abbrev N_Wood_change : List Str := ["self", "number", "by", "text", "one"]
theorem sc_Wood_change : FnScope N_Wood_change ["self", "number", "by", "text"] (defScope s_Wood_change) := ⟨rfl, rfl, rfl, by decide +kernel, rfl, by decide +kernel, by decide +kernel⟩

theorem m_Wood_change {P : Program} {w : World} {K : PySem.W.Frag} {mg : Str → Option Value} {base : Heap} {T : List (Addr × Str)} (Ft : Facts K mg) : Mtd P w K mg base T 4 (He.ga K "Wood") "change" 4 (sp_change K) := mtdD Ft.m_Wood_change sc_Wood_change (fun _ _ _ _ _ _ us hl => match us, hl with | [_, _, _, _], _ => rfl) fun f => ⟨_, fun cdv A outer s H E hr => (pxs_cons (px_asg (i := 4) sc_Wood_change.nd rfl (Or.inl rfl) (pm_meth (m_Wood_own Ft) hr (by decide) pas_body (pm_var 0) (pma_cons (pm_var 1) (pma_cons (pm_var 2) pma_nil))))
  (pxs_cons (px_exp (pm_call (c_need_text Ft) hr (by decide) rfl pas_body (pma_cons (pm_var 3) pma_nil)))
  (pxs_one (px_setF Ft.at_Saying_text (pm_var 4) (pm_var 3))))), by
  rintro ds g Kt hl ⟨A, W, r, rfl, h, wf, n, b, t, rfl, hb, ht, hk⟩
  simp [wSeq, wRet, wRetN, wIf, wAsg, wExp, wNil, wRaise, wSetF, wPut, wPar, wUnp, wCont, rVar, rC, rBin, rUn, rAnd, rOr, rNot, rAndT, rOrT, rNotT, rIfE, rNil, rCons, rTup, rLst, rCB, rFld, rDGet, rDIn, rCall, rMth, rMake, rDNew, rIs, rChain, startD, endD, onB, gNames, setAll, -List.lookup_eq_none_iff, -List.map_map, h.hw, List.lookup, sp_own, wp]
  refine ⟨A, W, [.int n, .str b], ⟨rfl, rfl⟩, h, wf, n, b, rfl, hb, ?_⟩
  unfold Wd.changeR at hk
  cases e : W.ownR n b with
  | error x => rw [e] at hk; exact hk
  | ok S =>
    rw [e] at hk
    obtain ⟨hf, h1, h2, h3⟩ := ownR_ok e
    have hs := h.hs hf
    simp [sp_need_text]
    refine ⟨⟨rfl, fun x q => by cases q; exact ht⟩, fun q => ?_, fun q => by simpa [q, tells] using hk⟩
    simp [q, tells] at hk
    simp [hs, sayFs, putD]
    obtain ⟨p1, p2⟩ := h.putS (S' := { S with text := t }) hf rfl
    exact hk _ A rfl p1 p2⟩

abbrev N_Wood_replies : List Str := ["self", "number", "one"]
theorem sc_Wood_replies : FnScope N_Wood_replies ["self", "number"] (defScope s_Wood_replies) := ⟨rfl, rfl, rfl, by decide +kernel, rfl, by decide +kernel, by decide +kernel⟩

theorem m_Wood_replies {P : Program} {w : World} {K : PySem.W.Frag} {mg : Str → Option Value} {base : Heap} {T : List (Addr × Str)} (Ft : Facts K mg) : Mtd P w K mg base T 2 (He.ga K "Wood") "replies" 2 (sp_replies K) := mtdD Ft.m_Wood_replies sc_Wood_replies (fun _ _ _ _ _ _ us hl => match us, hl with | [_, _], _ => rfl) fun f => ⟨_, fun cdv A outer s H E hr => (pxs_one (px_ret (pm_lcL rfl sc_Wood_replies.nd (pm_meth0 (m_Wood_numbers Ft) hr (by decide) pas_body (pm_var 0)) (blkOk_by (N := N_Wood_replies) (sc := defScope s_Wood_replies) (by decide +kernel)) (fun _ _ _ _ _ => pg_name (i := 2) sc_Wood_replies.nd rfl (Or.inl rfl)) (fun _ _ _ _ _ => (pmts_one (pmt_cmp (op_eqA hr.units) v2_eq (nomark _) (pm_fld Ft.at_Saying_under (pm_dget (hu_of hr) (pm_fld Ft.at_Wood_sayings (pm_var 0)) (pm_var 2) (fun _ _ => rfl))) (pm_var 1)))) (fun _ _ _ _ _ => (pm_var 2))))), by
  rintro ds g Kt hl ⟨A, W, r, rfl, h, wf, n, rfl, hk⟩
  simp [wSeq, wRet, wRetN, wIf, wAsg, wExp, wNil, wRaise, wSetF, wPut, wPar, wUnp, wCont, rVar, rC, rBin, rUn, rAnd, rOr, rNot, rAndT, rOrT, rNotT, rIfE, rNil, rCons, rTup, rLst, rCB, rFld, rDGet, rDIn, rCall, rMth, rMake, rDNew, rIs, rChain, startD, endD, onB, gNames, setAll, -List.lookup_eq_none_iff, -List.map_map, h.hw, List.lookup, sp_numbers, wp, rLcL]
  refine ⟨A, W, [], ⟨rfl, rfl⟩, h, wf, rfl, ?_⟩
  simp [items, notTup]
  refine (lcR_if (xs := W.keys) int_inj (fun m => match W.find m with | some S => decide (S.under = n) | none => false) D.int (by have := wf.len; simp [Wd.keys]; omega) (fun m hm => ?_) hk)
  obtain ⟨S, e⟩ := wf.key_find hm
  simp [turnR, wSeq, wRet, wRetN, wIf, wAsg, wExp, wNil, wRaise, wSetF, wPut, wPar, wUnp, wCont, rVar, rC, rBin, rUn, rAnd, rOr, rNot, rAndT, rOrT, rNotT, rIfE, rNil, rCons, rTup, rLst, rCB, rFld, rDGet, rDIn, rCall, rMth, rMake, rDNew, rIs, rChain, startD, endD, onB, gNames, setAll, -List.lookup_eq_none_iff, -List.map_map, h.hw, h.hd, List.lookup, dgetF, asDict, DL.keyOf, dfind_row, e, h.hs e, sayFs]
  by_cases q : S.under = n <;> simp [q]⟩

end Vw

set_option Elab.async false
set_option linter.all false
set_option maxRecDepth 100000
set_option maxHeartbeats 4000000
set_option autoImplicit false
namespace Vw
open PySem PySem.Spec L2 DL
abbrev N_Wood_vote : List Str := ["self", "number", "by", "way", "one"]
theorem sc_Wood_vote : FnScope N_Wood_vote ["self", "number", "by", "way"] (defScope s_Wood_vote) := ⟨rfl, rfl, rfl, by decide +kernel, rfl, by decide +kernel, by decide +kernel⟩

theorem m_Wood_vote {P : Program} {w : World} {K : PySem.W.Frag} {mg : Str → Option Value} {base : Heap} {T : List (Addr × Str)} (Ft : Facts K mg) : Mtd P w K mg base T 4 (He.ga K "Wood") "vote" 4 (sp_vote K) := mtdD Ft.m_Wood_vote sc_Wood_vote (fun _ _ _ _ _ _ us hl => match us, hl with | [_, _, _, _], _ => rfl) fun f => ⟨_, fun cdv A outer s H E hr => (pxs_cons (px_asg (i := 4) sc_Wood_vote.nd rfl (Or.inl rfl) (pm_meth (m_Wood_saying Ft) hr (by decide) pas_body (pm_var 0) (pma_cons (pm_var 1) pma_nil)))
  (pxs_cons (px_exp (pm_call (c_need_name Ft) hr (by decide) rfl pas_body (pma_cons (pm_var 2) pma_nil)))
  (pxs_cons (px_if (pmt_not (pmt_val (pm_call (c_is_count Ft) hr (by decide) rfl pas_body (pma_cons (pm_var 3) (pma_cons (pm_neg pm_int) (pma_cons pm_int pma_nil)))))) (pxs_one (px_raise Ft.x_BadNumber rfl tk_body rfl)) pxs_nil)
  (pxs_cons (px_if (pmw_t (pmw_or (pmt_cmp (op_eqA hr.units) v2_eq (nomark _) (pm_fld Ft.at_Saying_by (pm_var 4)) (pm_var 2)) (pmw_or1 (pmt_val (pm_fld Ft.at_Saying_is_struck (pm_var 4)))))) (pxs_one (px_raise Ft.x_NotYours rfl tk_body rfl)) pxs_nil)
  (pxs_cons (px_exp (pm_pop2 ⟨rfl, rfl, rfl, rfl⟩ (pm_fld Ft.at_Saying_votes (pm_var 4)) (pm_var 2) pm_non))
  (pxs_cons (px_if (pmt_cmp (op_neA hr.units) v2_ne (nomark _) (pm_var 3) pm_int) (pxs_one (px_put (hu_of hr) (pm_fld Ft.at_Saying_votes (pm_var 4)) (pm_var 2) (pm_var 3))) pxs_nil)
  (pxs_one (px_ret (pm_meth0 (m_Saying_points Ft) hr (by decide) pas_body (pm_var 4)))))))))), by
  rintro ds g Kt hl ⟨A, W, r, rfl, h, wf, n, b, y, rfl, hb, nl, hk⟩
  simp [wSeq, wRet, wRetN, wIf, wAsg, wExp, wNil, wRaise, wSetF, wPut, wPar, wUnp, wCont, rVar, rC, rBin, rUn, rAnd, rOr, rNot, rAndT, rOrT, rNotT, rIfE, rNil, rCons, rTup, rLst, rCB, rFld, rDGet, rDIn, rCall, rMth, rMake, rDNew, rIs, rChain, startD, endD, onB, gNames, setAll, -List.lookup_eq_none_iff, -List.map_map, h.hw, List.lookup, sp_saying, wp]
  unfold Wd.voteR at hk
  cases e : W.find n with
  | none =>
    rw [e] at hk
    exact ⟨A, W, [.int n], ⟨rfl, rfl⟩, h, wf, _, rfl, rfl, (fun m S q z => by cases q; rw [e] at z; cases z), fun _ => hk⟩
  | some S =>
    rw [e] at hk
    refine ⟨A, W, [.int n], ⟨rfl, rfl⟩, h, wf, _, rfl, rfl, (fun m S' q z => ?_), fun z => by rw [z n rfl] at e; cases e⟩
    cases q; rw [e] at z; cases z
    have hs := h.say wf e
    simp only [] at hk
    simp [sp_need_name]
    refine ⟨⟨rfl, fun x q => by cases q; exact hb⟩, fun q => ?_, fun q => by rw [if_pos q] at hk; exact hk⟩
    rw [if_neg (by rw [q]; decide)] at hk
    simp [sp_is_count]
    refine ⟨.int (-1), rfl, .int y, -1, 1, ⟨rfl, rfl, rfl⟩, rfl, ?_⟩
    by_cases q3 : -1 ≤ y ∧ y ≤ 1
    · rw [if_neg (fun z => z q3)] at hk
      have e3 : isCnt (.int y) (-1) 1 = true := by simp [isCnt]; omega
      simp [wSeq, wRet, wRetN, wIf, wAsg, wExp, wNil, wRaise, wSetF, wPut, wPar, wUnp, wCont, rVar, rC, rBin, rUn, rAnd, rOr, rNot, rAndT, rOrT, rNotT, rIfE, rNil, rCons, rTup, rLst, rCB, rFld, rDGet, rDIn, rCall, rMth, rMake, rDNew, rIs, rChain, startD, endD, onB, gNames, setAll, -List.lookup_eq_none_iff, -List.map_map, e3, hs.hs, sayFs, -List.lookup_eq_none_iff, -List.map_map, List.lookup]
      by_cases q4 : S.by_ = b ∨ S.struck = true
      · rw [if_pos q4] at hk
        by_cases q5 : S.by_ = b
        · simp [q5]; exact hk
        · have q6 := q4.resolve_left q5
          simp [q5, q6]; exact hk
      · rw [if_neg q4] at hk
        have q5 : S.by_ ≠ b := fun z => q4 (.inl z)
        have q6 : S.struck = false := by
          cases z : S.struck with
          | false => rfl
          | true => exact absurd (.inr z) q4
        have hlk := nl.lk (A.v n)
        have hdr : ddrop (voteKvs S) (.inr b) = (S.votes.filter fun p => decide (p.1 ≠ b)).map fun p => ((.inr p.1 : Key), D.int p.2) := by
          unfold ddrop voteKvs
          rw [List.filter_map]
          congr 1
          apply List.filter_congr
          intro p _
          simp
        have hnone : S.votes.lookup b = none → (S.votes.filter fun p => decide (p.1 ≠ b)) = S.votes := fun z => by
          rw [List.lookup_eq_none_iff] at z
          rw [List.filter_eq_self]
          intro p hp
          have := z p hp
          simp at this ⊢
          exact fun q => this q.symm
        have fne : ∀ p ∈ S.votes.filter (fun p => decide (p.1 ≠ b)), p.1 ≠ b := fun p hp => by simpa using (List.mem_filter.mp hp).2
        have fln : (S.votes.filter fun p => decide (p.1 ≠ b)).length < 100000 := Nat.lt_of_le_of_lt (List.length_filter_le _ _) (by have := hs.ln; omega)
        have hln2 : (Wd.votesSet S.votes b y).length ≤ 60000 := by
          have h1 := votesSet_len (vs := S.votes) (b := b) (w := y)
          have h2 := wf.vln n S (WF.mem_find e)
          have h3 := wf.age
          omega
        have fin : ∀ g', ((g' = g ∧ Wd.votesSet S.votes b y = S.votes) ∨ g' = g.set (A.v n) (.dct ((Wd.votesSet S.votes b y).map fun p => (.inr p.1, .int p.2)))) →
            ∃ x, g'.get (A.s n) = some (.ins (He.ga K "Saying") x) ∧ noFld "points" x ∧ sp_points K [.ref (A.s n)] g' (onD { nx := fun _ g => Kt (.val .non) g, rt := fun d g => Kt (.val d) g, ex := fun C g => Kt (.exc C) g } fun d g => Kt (.val d) g) := fun g' hg => by
          obtain ⟨p1, p2, p3⟩ := h.voted wf e (votesSet_nd hs.nd) hln2 hg
          exact ⟨_, p3.hs, by simp [sayFs], _, _, _, rfl, p3, hk _ A rfl p1 p2⟩
        have vs0 : y = 0 → Wd.votesSet S.votes b y = S.votes.filter (fun p => decide (p.1 ≠ b)) := fun z => by simp [Wd.votesSet, z]
        have vs1 : y ≠ 0 → Wd.votesSet S.votes b y = (S.votes.filter fun p => decide (p.1 ≠ b)) ++ [(b, y)] := fun z => by simp [Wd.votesSet, z]
        simp only [q5, q6, wSeq, wRet, wRetN, wIf, wAsg, wExp, wNil, wRaise, wSetF, wPut, wPar, wUnp, wCont, rVar, rC, rBin, rUn, rAnd, rOr, rNot, rAndT, rOrT, rNotT, rIfE, rNil, rCons, rTup, rLst, rCB, rFld, rDGet, rDIn, rCall, rMth, rMake, rDNew, rIs, rChain, startD, endD, onB, gNames, setAll, -List.lookup_eq_none_iff, -List.map_map, rPop2, -List.lookup_eq_none_iff, -List.map_map, List.lookup, DL.keyOf, onV_val, onD_val, onB_val, eqF_ss, decide_false, Bool.false_eq_true, if_false, List.getElem?_cons_succ, List.getElem?_cons_zero, Option.some.injEq, Slot.dat.injEq, exists_eq_left', exists_eq_left, List.length_cons, List.length_nil, List.map_cons, List.map_nil, List.replicate, List.append_nil, List.cons_append, List.nil_append, List.set]
        have sv : A.s n ≠ A.v n := fun z => by have := h.ij (.s n) (.v n) (WF.find_key e) (WF.find_key e) z; cases this
        refine ⟨A.s n, _, _, rfl, hs.hs, rfl, A.v n, _, rfl, hs.hv, _, _, hs.hv, hlk, rfl, fun v hv => ?_, fun hv => ?_⟩
        · by_cases z : y = 0
          · rw [if_pos z, hdr, ← vs0 z]
            exact fin _ (.inr rfl)
          · rw [if_neg z]
            refine ⟨_, (G.set_ne sv).trans hs.hs, _, rfl, A.v n, rfl, _, G.set_same, hlk, by rw [hdr, List.length_map]; exact fln, ?_⟩
            rw [hdr, dput_new fne, ← vs1 z, G.set_set]
            exact fin _ (.inr rfl)
        · have hz : S.votes.lookup b = none := by
            have := hv
            rw [dfind_vote] at this
            simpa using this
          by_cases z : y = 0
          · rw [if_pos z]
            exact fin g (.inl ⟨rfl, (vs0 z).trans (hnone hz)⟩)
          · rw [if_neg z]
            have hvk : voteKvs S = (S.votes.filter fun p => decide (p.1 ≠ b)).map fun p => ((.inr p.1 : Key), D.int p.2) := by rw [hnone hz]; rfl
            refine ⟨_, hs.hs, _, rfl, A.v n, rfl, _, hs.hv, hlk, by rw [hvk, List.length_map]; exact fln, ?_⟩
            rw [hvk, dput_new fne, ← vs1 z]
            exact fin _ (.inr rfl)
    · rw [if_pos q3] at hk
      have e3 : isCnt (.int y) (-1) 1 = false := by simp [isCnt]; omega
      simp [wSeq, wRet, wRetN, wIf, wAsg, wExp, wNil, wRaise, wSetF, wPut, wPar, wUnp, wCont, rVar, rC, rBin, rUn, rAnd, rOr, rNot, rAndT, rOrT, rNotT, rIfE, rNil, rCons, rTup, rLst, rCB, rFld, rDGet, rDIn, rCall, rMth, rMake, rDNew, rIs, rChain, startD, endD, onB, gNames, setAll, -List.lookup_eq_none_iff, -List.map_map, e3]; exact hk⟩

end Vw

set_option Elab.async false
set_option linter.all false
set_option maxRecDepth 100000
set_option maxHeartbeats 4000000
set_option autoImplicit false
namespace Vw
open PySem PySem.Spec L2 DL
abbrev N_Wood_say : List Str := ["self", "by", "under", "text"]
theorem sc_Wood_say : FnScope N_Wood_say ["self", "by", "under", "text"] (defScope s_Wood_say) := ⟨rfl, rfl, rfl, by decide +kernel, rfl, by decide +kernel, by decide +kernel⟩

theorem m_Wood_say {P : Program} {w : World} {K : PySem.W.Frag} {mg : Str → Option Value} {base : Heap} {T : List (Addr × Str)} (Ft : Facts K mg) : Mtd P w K mg base T 5 (He.ga K "Wood") "say" 4 (sp_say K) := mtdD Ft.m_Wood_say sc_Wood_say (fun _ _ _ _ _ _ us hl => match us, hl with | [_, _, _, _], _ => rfl) fun f => ⟨_, fun cdv A outer s H E hr => (pxs_cut (px_exp (pm_call (c_need_name Ft) hr (by decide) rfl pas_body (pma_cons (pm_var 1) pma_nil)))
  (pxs_cut (px_if (pmw_t (pmw_or (pmt_cmp (op_neA hr.units) v2_ne (nomark _) (pm_var 2) pm_int) (pmw_or1 (pmt_val (pm_is (n := "bool") rfl Ft.f_isinstance rfl Ft.f_bool (by decide +kernel) (pm_var 2)))))) (pxs_one (px_exp (pm_meth (m_Wood_saying Ft) hr (by decide) pas_body (pm_var 0) (pma_cons (pm_var 2) pma_nil)))) pxs_nil)
  (pxs_cut (px_exp (pm_call (c_need_text Ft) hr (by decide) rfl pas_body (pma_cons (pm_var 3) pma_nil)))
  (pxs_cut (px_if (pmw_t (pmw_or (pmt_cmp op_ge v2_ge (nomark _) (pm_len rfl Ft.f_len (pma_cons (pm_fld Ft.at_Wood_sayings (pm_var 0)) pma_nil)) (pm_gint rfl Ft.i_MOST_SAYINGS)) (pmw_or1 (pmw_t (pmw_and (pmt_cmp (op_neA hr.units) v2_ne (nomark _) (pm_var 2) pm_int) (pmw_and1 (pmt_cmp op_ge v2_ge (nomark _) (pm_op op_addA v2_add (pm_meth (m_Wood_deep Ft) hr (by decide) pas_body (pm_var 0) (pma_cons (pm_var 2) pma_nil)) pm_int) (pm_gint rfl Ft.i_MOST_DEEP)))))))) (pxs_one (px_raise Ft.x_Full rfl tk_body rfl)) pxs_nil)
  (pxs_cut (px_setF Ft.at_Wood_came (pm_var 0) (pm_op op_addA v2_add (pm_fld Ft.at_Wood_came (pm_var 0)) pm_int))
  (pxs_cut (px_put (hu_of hr) (pm_fld Ft.at_Wood_sayings (pm_var 0)) (pm_fld Ft.at_Wood_came (pm_var 0)) (pm_make (k_Saying Ft) hr (by decide) rfl pas_body (pma_cons (pm_var 1) (pma_cons (pm_var 2) (pma_cons (pm_var 3) (pma_cons (pm_fld Ft.at_Wood_clock (pm_var 0)) pma_nil))))))
  (pxs_one (px_ret (pm_fld Ft.at_Wood_came (pm_var 0)))))))))), by
  rintro ds g Kt hl ⟨A, W, r, rfl, h, wf, b, u, t, rfl, hb, ht, nl, hk⟩
  unfold Wd.sayR at hk
  refine ⟨fun e g' => g' = g ∧ e = [.dat (.ref A.w), .dat (.str b), .dat (.int u), .dat (.str t)] ∧ okName (.str b) = true, ?_, ?_⟩
  · simp [wSeq, wRet, wRetN, wIf, wAsg, wExp, wNil, wRaise, wSetF, wPut, wPar, wUnp, wCont, rVar, rC, rBin, rUn, rAnd, rOr, rNot, rAndT, rOrT, rNotT, rIfE, rNil, rCons, rTup, rLst, rCB, rFld, rDGet, rDIn, rCall, rMth, rMake, rDNew, rIs, rChain, startD, endD, onB, gNames, setAll, -List.lookup_eq_none_iff, -List.map_map, sp_need_name]
    refine ⟨⟨rfl, fun x q => by cases q; exact hb⟩, fun q => ?_⟩
    rw [if_pos q] at hk; exact hk
  rintro e g' ⟨rfl, rfl, h1⟩
  rw [if_neg (by rw [h1]; decide)] at hk
  refine ⟨fun e g'' => g'' = g' ∧ e = [.dat (.ref A.w), .dat (.str b), .dat (.int u), .dat (.str t)] ∧ (u = 0 ∨ u ∈ W.keys), ?_, ?_⟩
  · by_cases q : u = 0
    · simp [wSeq, wRet, wRetN, wIf, wAsg, wExp, wNil, wRaise, wSetF, wPut, wPar, wUnp, wCont, rVar, rC, rBin, rUn, rAnd, rOr, rNot, rAndT, rOrT, rNotT, rIfE, rNil, rCons, rTup, rLst, rCB, rFld, rDGet, rDIn, rCall, rMth, rMake, rDNew, rIs, rChain, startD, endD, onB, gNames, setAll, -List.lookup_eq_none_iff, -List.map_map, sp_saying, wp, h.hw, q, isF, dTy]
    · simp [wSeq, wRet, wRetN, wIf, wAsg, wExp, wNil, wRaise, wSetF, wPut, wPar, wUnp, wCont, rVar, rC, rBin, rUn, rAnd, rOr, rNot, rAndT, rOrT, rNotT, rIfE, rNil, rCons, rTup, rLst, rCB, rFld, rDGet, rDIn, rCall, rMth, rMake, rDNew, rIs, rChain, startD, endD, onB, gNames, setAll, -List.lookup_eq_none_iff, -List.map_map, sp_saying, wp, h.hw, q]
      refine ⟨A, W, [.int u], ⟨rfl, rfl⟩, h, wf, _, rfl, rfl, fun n S e1 e2 => ?_, fun e1 => ?_⟩
      · cases e1; exact WF.find_key e2
      · have := e1 u rfl
        rw [if_pos ⟨q, (wf.find_none).mp this⟩] at hk
        exact hk
  rintro e g'' ⟨rfl, rfl, h2⟩
  rw [if_neg (fun z => h2.elim z.1 z.2)] at hk
  refine ⟨fun e g' => g' = g'' ∧ e = [.dat (.ref A.w), .dat (.str b), .dat (.int u), .dat (.str t)] ∧ okText (.str t) = true, ?_, ?_⟩
  · simp [wSeq, wRet, wRetN, wIf, wAsg, wExp, wNil, wRaise, wSetF, wPut, wPar, wUnp, wCont, rVar, rC, rBin, rUn, rAnd, rOr, rNot, rAndT, rOrT, rNotT, rIfE, rNil, rCons, rTup, rLst, rCB, rFld, rDGet, rDIn, rCall, rMth, rMake, rDNew, rIs, rChain, startD, endD, onB, gNames, setAll, -List.lookup_eq_none_iff, -List.map_map, sp_need_text]
    refine ⟨⟨rfl, fun x q => by cases q; exact ht⟩, fun q => ?_⟩
    rw [if_pos q] at hk; exact hk
  rintro e g' ⟨rfl, rfl, h3⟩
  rw [if_neg (by rw [h3]; decide)] at hk
  refine ⟨fun e g'' => g'' = g' ∧ e = [.dat (.ref A.w), .dat (.str b), .dat (.int u), .dat (.str t)] ∧ ¬ (60 ≤ W.rows.length ∨ (u ≠ 0 ∧ 8 ≤ (W.above u).length)), ?_, ?_⟩
  · have hlen := wf.len
    by_cases q1 : 60 ≤ W.rows.length
    · rw [if_pos (.inl q1)] at hk
      have q2 : (60 : Int) ≤ (W.rows.length : Int) := by omega
      simp [wSeq, wRet, wRetN, wIf, wAsg, wExp, wNil, wRaise, wSetF, wPut, wPar, wUnp, wCont, rVar, rC, rBin, rUn, rAnd, rOr, rNot, rAndT, rOrT, rNotT, rIfE, rNil, rCons, rTup, rLst, rCB, rFld, rDGet, rDIn, rCall, rMth, rMake, rDNew, rIs, rChain, startD, endD, onB, gNames, setAll, -List.lookup_eq_none_iff, -List.map_map, h.hw, h.hd, -List.lookup_eq_none_iff, -List.map_map, List.lookup, lenF, items, asDict, geF, q2]
      exact hk
    · have q2 : ¬ (60 : Int) ≤ (W.rows.length : Int) := by omega
      by_cases q3 : u = 0
      · simp [wSeq, wRet, wRetN, wIf, wAsg, wExp, wNil, wRaise, wSetF, wPut, wPar, wUnp, wCont, rVar, rC, rBin, rUn, rAnd, rOr, rNot, rAndT, rOrT, rNotT, rIfE, rNil, rCons, rTup, rLst, rCB, rFld, rDGet, rDIn, rCall, rMth, rMake, rDNew, rIs, rChain, startD, endD, onB, gNames, setAll, -List.lookup_eq_none_iff, -List.map_map, h.hw, h.hd, -List.lookup_eq_none_iff, -List.map_map, List.lookup, lenF, items, asDict, geF, q2, q3, q1]
      · have hu := h2.resolve_left q3
        obtain ⟨S, es⟩ := wf.key_find hu
        have st := wf.above_step es
        by_cases q4 : 8 ≤ (W.above u).length
        · rw [if_pos (.inr ⟨q3, q4⟩)] at hk
          have q5 : (8 : Int) ≤ ((W.above u).length : Int) - 1 + 1 := by omega
          simp [wSeq, wRet, wRetN, wIf, wAsg, wExp, wNil, wRaise, wSetF, wPut, wPar, wUnp, wCont, rVar, rC, rBin, rUn, rAnd, rOr, rNot, rAndT, rOrT, rNotT, rIfE, rNil, rCons, rTup, rLst, rCB, rFld, rDGet, rDIn, rCall, rMth, rMake, rDNew, rIs, rChain, startD, endD, onB, gNames, setAll, -List.lookup_eq_none_iff, -List.map_map, h.hw, h.hd, -List.lookup_eq_none_iff, -List.map_map, List.lookup, lenF, items, asDict, geF, q2, q3, q1, sp_deep, wp]
          refine ⟨A, W, [.int u], ⟨rfl, rfl⟩, h, wf, u, rfl, hu, ?_⟩
          simp [addF]
          first | exact .inl ⟨by omega, hk⟩ | exact .inr ⟨by omega, hk⟩ | (rw [if_pos (by omega)]; exact hk)
        · have q5 : ¬ (8 : Int) ≤ ((W.above u).length : Int) - 1 + 1 := by omega
          simp [wSeq, wRet, wRetN, wIf, wAsg, wExp, wNil, wRaise, wSetF, wPut, wPar, wUnp, wCont, rVar, rC, rBin, rUn, rAnd, rOr, rNot, rAndT, rOrT, rNotT, rIfE, rNil, rCons, rTup, rLst, rCB, rFld, rDGet, rDIn, rCall, rMth, rMake, rDNew, rIs, rChain, startD, endD, onB, gNames, setAll, -List.lookup_eq_none_iff, -List.map_map, h.hw, h.hd, -List.lookup_eq_none_iff, -List.map_map, List.lookup, lenF, items, asDict, geF, q2, q3, q1, sp_deep, wp]
          refine ⟨A, W, [.int u], ⟨rfl, rfl⟩, h, wf, u, rfl, hu, ?_⟩
          simp [addF]
          rw [if_neg (by omega)]; omega
  rintro e g'' ⟨rfl, rfl, h4⟩
  rw [if_neg h4] at hk
  refine ⟨fun e g' => g' = g''.set A.w (.ins (He.ga K "Wood") [("sayings", .ref A.d), ("came", .int (W.came + 1)), ("clock", .int W.clock)]) ∧ e = [.dat (.ref A.w), .dat (.str b), .dat (.int u), .dat (.str t)], ?_, ?_⟩
  · simp [wSeq, wRet, wRetN, wIf, wAsg, wExp, wNil, wRaise, wSetF, wPut, wPar, wUnp, wCont, rVar, rC, rBin, rUn, rAnd, rOr, rNot, rAndT, rOrT, rNotT, rIfE, rNil, rCons, rTup, rLst, rCB, rFld, rDGet, rDIn, rCall, rMth, rMake, rDNew, rIs, rChain, startD, endD, onB, gNames, setAll, -List.lookup_eq_none_iff, -List.map_map, h.hw, -List.lookup_eq_none_iff, -List.map_map, List.lookup, addF, putD]
  rintro e g' ⟨hg', rfl⟩
  have wd : A.d ≠ A.w := fun z => by have := h.ij .d .w trivial trivial z; cases this
  have gw : g'.get A.w = some (.ins (He.ga K "Wood") [("sayings", .ref A.d), ("came", .int (W.came + 1)), ("clock", .int W.clock)]) := by rw [hg', G.set_same]
  have gd : g'.get A.d = some (.dct (rowKvs A W)) := by rw [hg', G.set_ne wd, h.hd]
  have gl : g'.lk A.d = false := by rw [hg']; exact nl.lk A.d
  have gn : ∀ a, g'.get a = none → g''.get a = none := fun a ha => by
    rw [hg'] at ha
    by_cases z : a = A.w
    · subst z; rw [G.set_same] at ha; cases ha
    · rwa [G.set_ne z] at ha
  refine ⟨fun e g1 => e = [.dat (.ref A.w), .dat (.str b), .dat (.int u), .dat (.str t)] ∧ ∃ x v, g''.get x = none ∧ g''.get v = none ∧ v ≠ x ∧ g1 = ((g'.set v (.dct [])).set x (.ins (He.ga K "Saying") (sayFs ⟨b, u, t, W.clock, [], false⟩ v))).set A.d (.dct (rowKvs A W ++ [(.inl (W.came + 1), .ref x)])), ?_, ?_⟩
  · simp [wSeq, wRet, wRetN, wIf, wAsg, wExp, wNil, wRaise, wSetF, wPut, wPar, wUnp, wCont, rVar, rC, rBin, rUn, rAnd, rOr, rNot, rAndT, rOrT, rNotT, rIfE, rNil, rCons, rTup, rLst, rCB, rFld, rDGet, rDIn, rCall, rMth, rMake, rDNew, rIs, rChain, startD, endD, onB, gNames, setAll, -List.lookup_eq_none_iff, -List.map_map, gw, -List.lookup_eq_none_iff, -List.map_map, List.lookup, sp_Saying]
    intro x hx
    refine ⟨x, _, _, _, _, ⟨rfl, rfl, rfl, rfl, rfl⟩, G.set_same, fun v hv => ?_⟩
    have ne : v ≠ x := fun z => by subst z; rw [G.set_same] at hv; cases hv
    rw [G.set_ne ne] at hv
    have dx : A.d ≠ x := fun z => by rw [← z, gd] at hx; cases hx
    have dv : A.d ≠ v := fun z => by rw [← z, gd] at hv; cases hv
    have wx : A.w ≠ x := fun z => by rw [← z, gw] at hx; cases hx
    have wv : A.w ≠ v := fun z => by rw [← z, gw] at hv; cases hv
    have g1d : (((g'.set x (.ins (He.ga K "Saying") [])).set v (.dct [])).set x (.ins (He.ga K "Saying") (sayFs ⟨b, u, t, W.clock, [], false⟩ v))).get A.d = some (.dct (rowKvs A W)) := by
      rw [G.set_ne dx, G.set_ne dv, G.set_ne dx, gd]
    have g1w : (((g'.set x (.ins (He.ga K "Saying") [])).set v (.dct [])).set x (.ins (He.ga K "Saying") (sayFs ⟨b, u, t, W.clock, [], false⟩ v))).get A.w = some (.ins (He.ga K "Wood") [("sayings", .ref A.d), ("came", .int (W.came + 1)), ("clock", .int W.clock)]) := by
      rw [G.set_ne wx, G.set_ne wv, G.set_ne wx, gw]
    have nk : ∀ p ∈ W.rows, p.1 ≠ W.came + 1 := fun p hp z => by have := wf.pos p.1 (List.mem_map.mpr ⟨p, hp, rfl⟩); omega
    have dp : dput (rowKvs A W) (.inl (W.came + 1)) (.ref x) = rowKvs A W ++ [(.inl (W.came + 1), .ref x)] := dput_newI (f := fun p => .ref (A.s p.1)) nk
    have hlen := wf.len
    simp only [sayFs] at g1d g1w
    refine ⟨_, g1w, _, rfl, _, g1w, ?_⟩
    simp [-List.lookup_eq_none_iff, -List.map_map, List.lookup, DL.keyOf, gl, g1d, dp]
    refine ⟨by omega, x, gn x hx, v, gn v hv, ne, ?_⟩
    simp only [sayFs]
    rw [G.set_comm (a := x) (b := v) (Ne.symm ne), G.set_set]
  rintro e g1 ⟨rfl, x, v, hx, hv, ne, hg1⟩
  obtain ⟨p1, p2⟩ := h.added wf.toWF (S := ⟨b, u, t, W.clock, [], false⟩) rfl hx hv ne (g' := g1) (by rw [hg1, hg'])
  have e1 := p1.hw
  simp [wSeq, wRet, wRetN, wIf, wAsg, wExp, wNil, wRaise, wSetF, wPut, wPar, wUnp, wCont, rVar, rC, rBin, rUn, rAnd, rOr, rNot, rAndT, rOrT, rNotT, rIfE, rNil, rCons, rTup, rLst, rCB, rFld, rDGet, rDIn, rCall, rMth, rMake, rDNew, rIs, rChain, startD, endD, onB, gNames, setAll, -List.lookup_eq_none_iff, -List.map_map, -List.lookup_eq_none_iff, -List.map_map, List.lookup]
  refine ⟨_, e1, ?_⟩
  simp [-List.lookup_eq_none_iff, -List.map_map, List.lookup]
  exact hk g1 { A with s := upA A.s (W.came + 1) x, v := upA A.v (W.came + 1) v } rfl p1 p2⟩

end Vw

set_option Elab.async false
set_option linter.all false
set_option maxRecDepth 100000
set_option maxHeartbeats 4000000
set_option autoImplicit false
namespace Vw
open PySem PySem.Spec L2 DL
abbrev N_Wood_below : List Str := ["self", "number", "found", "one"]
theorem sc_Wood_below : FnScope N_Wood_below ["self", "number"] (defScope s_Wood_below) := ⟨rfl, rfl, rfl, by decide +kernel, rfl, by decide +kernel, by decide +kernel⟩

theorem m_Wood_below_step {P : Program} {w : World} {K : PySem.W.Frag} {mg : Str → Option Value} {base : Heap} {T : List (Addr × Str)} (Ft : Facts K mg) (j : Nat) (cb : Mtd P w K mg base T (5 + j) (He.ga K "Wood") "below" 2 (spb j K)) : Mtd P w K mg base T (5 + j + 1) (He.ga K "Wood") "below" 2 (spb (j + 1) K) := mtdD Ft.m_Wood_below sc_Wood_below (fun _ _ _ _ _ _ us hl => match us, hl with | [_, _], _ => rfl) fun f => ⟨_, fun cdv A outer s H E hr => (pxs_cut (px_if (pmw_t (pmw_or (pmt_cmp (op_neA hr.units) v2_ne (nomark _) (pm_var 1) pm_int) (pmw_or1 (pmt_val (pm_is (n := "bool") rfl Ft.f_isinstance rfl Ft.f_bool (by decide +kernel) (pm_var 1)))))) (pxs_one (px_exp (pm_meth (m_Wood_saying Ft) hr (by omega) pas_body (pm_var 0) (pma_cons (pm_var 1) pma_nil)))) pxs_nil)
  (pxs_cut (px_asg (i := 2) sc_Wood_below.nd rfl (Or.inl rfl) (pm_lst pma_nil))
  (pxs_cut (px_forL po_body rfl (pm_meth (m_Wood_replies Ft) hr (by omega) pas_body (pm_var 0) (pma_cons (pm_var 1) pma_nil)) (pg_name (i := 3) sc_Wood_below.nd rfl (Or.inl rfl)) (pxs_one (px_asg (i := 2) sc_Wood_below.nd rfl (Or.inl rfl) (pm_cat (pm_cat (pm_var 2) (pm_lst (pma_cons (pm_var 3) pma_nil))) (pm_meth cb hr (by omega) pas_body (pm_var 0) (pma_cons (pm_var 3) pma_nil))))))
  (pxs_one (px_ret (pm_sorted rfl rfl Ft.f_sorted (pma_cons (pm_var 2) pma_nil))))))), by
  rintro ds g Kt hl ⟨A, W, r, rfl, h, wf, n, rfl, tl, h1, h2⟩
  refine ⟨fun e g' => g' = g ∧ e = [.dat (.ref A.w), .dat (.int n), .no, .no] ∧ isThere W n, ?_, ?_⟩
  · by_cases q : n = 0
    · simp [wSeq, wRet, wRetN, wIf, wAsg, wExp, wNil, wRaise, wSetF, wPut, wPar, wUnp, wCont, rVar, rC, rBin, rUn, rAnd, rOr, rNot, rAndT, rOrT, rNotT, rIfE, rNil, rCons, rTup, rLst, rCB, rFld, rDGet, rDIn, rCall, rMth, rMake, rDNew, rIs, rChain, startD, endD, onB, gNames, setAll, -List.lookup_eq_none_iff, -List.map_map, q, isF, dTy, isThere]
    · simp [wSeq, wRet, wRetN, wIf, wAsg, wExp, wNil, wRaise, wSetF, wPut, wPar, wUnp, wCont, rVar, rC, rBin, rUn, rAnd, rOr, rNot, rAndT, rOrT, rNotT, rIfE, rNil, rCons, rTup, rLst, rCB, rFld, rDGet, rDIn, rCall, rMth, rMake, rDNew, rIs, rChain, startD, endD, onB, gNames, setAll, -List.lookup_eq_none_iff, -List.map_map, sp_saying, wp, h.hw, q]
      refine ⟨A, W, [.int n], ⟨rfl, rfl⟩, h, wf, _, rfl, rfl, fun m S e1 e2 => ?_, fun e1 => ?_⟩
      · cases e1; exact .inr (WF.find_key e2)
      · have := e1 n rfl
        exact h1 fun z => z.elim q (wf.find_none.mp this)
  rintro e g' ⟨rfl, rfl, ht⟩
  obtain ⟨hd, hk⟩ := h2 ht
  refine ⟨fun e g'' => g'' = g' ∧ e = [.dat (.ref A.w), .dat (.int n), .dat (.lst []), .no], ?_, ?_⟩
  · simp [wSeq, wRet, wRetN, wIf, wAsg, wExp, wNil, wRaise, wSetF, wPut, wPar, wUnp, wCont, rVar, rC, rBin, rUn, rAnd, rOr, rNot, rAndT, rOrT, rNotT, rIfE, rNil, rCons, rTup, rLst, rCB, rFld, rDGet, rDIn, rCall, rMth, rMake, rDNew, rIs, rChain, startD, endD, onB, gNames, setAll, -List.lookup_eq_none_iff, -List.map_map]
  rintro e g'' ⟨rfl, rfl⟩
  refine ⟨fun e g' => g' = g'' ∧ ∃ sl, e = [.dat (.ref A.w), .dat (.int n), .dat (.lst ((((W.replies n).flatMap fun r => r :: W.below r)).map D.int)), sl], ?_, ?_⟩
  · simp [wSeq, wRet, wRetN, wIf, wAsg, wExp, wNil, wRaise, wSetF, wPut, wPar, wUnp, wCont, rVar, rC, rBin, rUn, rAnd, rOr, rNot, rAndT, rOrT, rNotT, rIfE, rNil, rCons, rTup, rLst, rCB, rFld, rDGet, rDIn, rCall, rMth, rMake, rDNew, rIs, rChain, startD, endD, onB, gNames, setAll, -List.lookup_eq_none_iff, -List.map_map, wForL, sp_replies, wp, h.hw]
    refine ⟨A, W, [.int n], ⟨rfl, rfl⟩, h, wf, n, rfl, (W.replies n).map D.int, rfl, trivial, ?_⟩
    refine ⟨fun k e g' => g' = g'' ∧ ∃ sl, e = [.dat (.ref A.w), .dat (.int n), .dat (.lst ((((W.replies n).take k).flatMap fun r => r :: W.below r).map D.int)), sl], ⟨rfl, .no, by simp⟩, ?_, ?_⟩
    · rintro k d e g' hk' ⟨rfl, sl, rfl⟩
      rw [List.getElem?_map] at hk'
      obtain ⟨r, hr, rfl⟩ := Option.map_eq_some_iff.mp hk'
      have hrm : r ∈ W.replies n := List.mem_of_getElem? hr
      obtain ⟨a1, a2, a3⟩ := wf.toWF.replies_above hrm
      have tk : (W.replies n).take (k + 1) = (W.replies n).take k ++ [r] := by rw [List.take_add_one, hr]; rfl
      have b1 : (((W.replies n).take k).flatMap fun r => r :: W.below r).length ≤ 60 * 61 := by
        have h1 := fm_len (l := (W.replies n).take k) (f := fun r => r :: W.below r) (b := 61) fun x _ => by have := below_len (n := x) wf.toWF; simp; omega
        have h2 := replies_len (n := n) wf.toWF
        have h3 : ((W.replies n).take k).length ≤ (W.replies n).length := by rw [List.length_take]; omega
        have h4 : ((W.replies n).take k).length * 61 ≤ 60 * 61 := Nat.mul_le_mul_right _ (by omega)
        omega
      have b2 := below_len (n := r) wf.toWF
      cases j with
      | zero => have := wf.dep r a3; rw [a1] at this; simp at this; omega
      | succ j =>
        simp only [wAsg, rCatD, rVar, rLst, rCons, rNil, rMth, rC, List.set, List.getElem?_cons_succ, List.getElem?_cons_zero, Option.some.injEq, Slot.dat.injEq, exists_eq_left', exists_eq_left, onV_val, onD_val, onA_ok, List.length_cons, List.length_nil]
        refine ⟨by omega, _, _, rfl, rfl, tl, ?_, ?_⟩
        · simp only [List.length_map, List.length_cons, List.length_nil]; omega
        · refine ⟨A.w, _, rfl, h.hw, by simp, trivial, A, W, [.int r], rfl, h, wf, r, rfl, tl, fun z => absurd (.inr a3) z, fun _ => ⟨by rw [a1]; simp; omega, ?_⟩⟩
          refine ⟨_, _, rfl, rfl, tl, ?_, rfl, .dat (.int r), ?_⟩
          · simp only [List.length_map, List.length_append, List.length_cons, List.length_nil]; omega
          · rw [tk, List.flatMap_append]
            simp
    · rintro e g' ⟨rfl, sl, rfl⟩
      rw [List.length_map, List.take_length]
      exact ⟨rfl, sl, rfl⟩
  rintro e g' ⟨rfl, sl, rfl⟩
  simp [wSeq, wRet, wRetN, wIf, wAsg, wExp, wNil, wRaise, wSetF, wPut, wPar, wUnp, wCont, rVar, rC, rBin, rUn, rAnd, rOr, rNot, rAndT, rOrT, rNotT, rIfE, rNil, rCons, rTup, rLst, rCB, rFld, rDGet, rDIn, rCall, rMth, rMake, rDNew, rIs, rChain, startD, endD, onB, gNames, setAll, -List.lookup_eq_none_iff, -List.map_map, sortF, litems, -List.map_flatMap]
  rw [wf.toWF.below_step ht]
  exact hk⟩

theorem m_Wood_below_at {P : Program} {w : World} {K : PySem.W.Frag} {mg : Str → Option Value} {base : Heap} {T : List (Addr × Str)} (Ft : Facts K mg) : ∀ j, Mtd P w K mg base T (5 + j) (He.ga K "Wood") "below" 2 (spb j K)
  | 0 => mtd_none (k := 4) Ft.m_Wood_below sc_Wood_below (fun _ _ _ _ _ _ us hl => match us, hl with | [_, _], _ => rfl)
  | j + 1 => m_Wood_below_step Ft j (m_Wood_below_at Ft j)
theorem m_Wood_below {P : Program} {w : World} {K : PySem.W.Frag} {mg : Str → Option Value} {base : Heap} {T : List (Addr × Str)} (Ft : Facts K mg) : Mtd P w K mg base T 14 (He.ga K "Wood") "below" 2 (sp_below 9 K) := m_Wood_below_at Ft 9
abbrev N_Wood_many : List Str := ["self", "number", "one"]
theorem sc_Wood_many : FnScope N_Wood_many ["self", "number"] (defScope s_Wood_many) := ⟨rfl, rfl, rfl, by decide +kernel, rfl, by decide +kernel, by decide +kernel⟩

theorem m_Wood_many {P : Program} {w : World} {K : PySem.W.Frag} {mg : Str → Option Value} {base : Heap} {T : List (Addr × Str)} (Ft : Facts K mg) : Mtd P w K mg base T 15 (He.ga K "Wood") "many" 2 (sp_many K) := mtdD Ft.m_Wood_many sc_Wood_many (fun _ _ _ _ _ _ us hl => match us, hl with | [_, _], _ => rfl) fun f => ⟨_, fun cdv A outer s H E hr => (pxs_one (px_ret (pm_len rfl Ft.f_len (pma_cons (pm_lcL rfl sc_Wood_many.nd (pm_meth (m_Wood_below Ft) hr (by decide) pas_body (pm_var 0) (pma_cons (pm_var 1) pma_nil)) (blkOk_by (N := N_Wood_many) (sc := defScope s_Wood_many) (by decide +kernel)) (fun _ _ _ _ _ => pg_name (i := 2) sc_Wood_many.nd rfl (Or.inl rfl)) (fun _ _ _ _ _ => (pmts_one (pmt_not (pmt_val (pm_fld Ft.at_Saying_is_struck (pm_dget (hu_of hr) (pm_fld Ft.at_Wood_sayings (pm_var 0)) (pm_var 2) (fun _ _ => rfl))))))) (fun _ _ _ _ _ => (pm_var 2))) pma_nil)))), by
  rintro ds g Kt hl ⟨A, W, r, rfl, h, wf, n, rfl, tl, h1, h2⟩
  simp [wSeq, wRet, wRetN, wIf, wAsg, wExp, wNil, wRaise, wSetF, wPut, wPar, wUnp, wCont, rVar, rC, rBin, rUn, rAnd, rOr, rNot, rAndT, rOrT, rNotT, rIfE, rNil, rCons, rTup, rLst, rCB, rFld, rDGet, rDIn, rCall, rMth, rMake, rDNew, rIs, rChain, startD, endD, onB, gNames, setAll, -List.lookup_eq_none_iff, -List.map_map, rLcL, h.hw, sp_below, wp]
  refine ⟨A, W, [.int n], ⟨rfl, rfl⟩, h, wf, n, rfl, tl, h1, fun ht => ?_⟩
  refine ⟨_, rfl, trivial, ?_⟩
  refine lcR_if (xs := W.below n) int_inj W.stands D.int (by have := below_len (n := n) wf.toWF; omega) (fun m hm => ?_) ?_
  · obtain ⟨S, e⟩ := wf.key_find (wf.toWF.below_mem.mp hm).1
    simp [turnR, wSeq, wRet, wRetN, wIf, wAsg, wExp, wNil, wRaise, wSetF, wPut, wPar, wUnp, wCont, rVar, rC, rBin, rUn, rAnd, rOr, rNot, rAndT, rOrT, rNotT, rIfE, rNil, rCons, rTup, rLst, rCB, rFld, rDGet, rDIn, rCall, rMth, rMake, rDNew, rIs, rChain, startD, endD, onB, gNames, setAll, -List.lookup_eq_none_iff, -List.map_map, h.hw, h.hd, -List.lookup_eq_none_iff, -List.map_map, List.lookup, dgetF, asDict, DL.keyOf, dfind_row, e, h.hs e, sayFs, Wd.stands]
    cases q : S.struck <;> simp [q]
  · simp [lenF, items]
    exact h2 ht⟩

end Vw

set_option Elab.async false
set_option linter.all false
set_option maxRecDepth 100000
set_option maxHeartbeats 4000000
set_option autoImplicit false
namespace Vw
open PySem PySem.Spec L2 DL
def strikeInv (K : PySem.W.Frag) (g0 : G) (A : Wa) (W : Wd) (n : Int) (b : Str) (fin : Wd × Int) (m : Nat) (e : Env') (g3 : G) : Prop :=
  ∃ Wc n' k sl, e = [.dat (.ref A.w), .dat (.int n'), .dat (.str b), .dat (.ref (A.s n)), .dat (.int k), sl] ∧ WoodIn K g3 A Wc ∧ WFa Wc ∧ Frm g0 g3 (W.foot A) (Wc.foot A) ∧ isThere Wc n' ∧ Wd.goes m Wc n' k = fin ∧ n'.toNat ≤ m
def strikeEnd (K : PySem.W.Frag) (g0 : G) (A : Wa) (W : Wd) (n : Int) (b : Str) (fin : Wd × Int) (e : Env') (g3 : G) : Prop :=
  ∃ n' sl, e = [.dat (.ref A.w), .dat (.int n'), .dat (.str b), .dat (.ref (A.s n)), .dat (.int fin.2), sl] ∧ WoodIn K g3 A fin.1 ∧ Frm g0 g3 (W.foot A) (fin.1.foot A)
abbrev N_Wood_strike : List Str := ["self", "number", "by", "one", "many", "above"]
theorem sc_Wood_strike : FnScope N_Wood_strike ["self", "number", "by"] (defScope s_Wood_strike) := ⟨rfl, rfl, rfl, by decide +kernel, rfl, by decide +kernel, by decide +kernel⟩

theorem m_Wood_strike {P : Program} {w : World} {K : PySem.W.Frag} {mg : Str → Option Value} {base : Heap} {T : List (Addr × Str)} (Ft : Facts K mg) : Mtd P w K mg base T 4 (He.ga K "Wood") "strike" 3 (sp_strike K) := mtdD Ft.m_Wood_strike sc_Wood_strike (fun _ _ _ _ _ _ us hl => match us, hl with | [_, _, _], _ => rfl) fun f => ⟨_, fun cdv A outer s H E hr => (pxs_cut (px_asg (i := 3) sc_Wood_strike.nd rfl (Or.inl rfl) (pm_meth (m_Wood_own Ft) hr (by decide) pas_body (pm_var 0) (pma_cons (pm_var 1) (pma_cons (pm_var 2) pma_nil))))
  (pxs_cut (px_setF Ft.at_Saying_is_struck (pm_var 3) pm_bl)
  (pxs_cut (px_asg (i := 4) sc_Wood_strike.nd rfl (Or.inl rfl) pm_int)
  (pxs_cut (px_while po_body (pmw_t (pmw_and (pmt_cmp (op_neA hr.units) v2_ne (nomark _) (pm_var 1) pm_int) (pmw_and (pmt_val (pm_fld Ft.at_Saying_is_struck (pm_dget (hu_of hr) (pm_fld Ft.at_Wood_sayings (pm_var 0)) (pm_var 1) (fun _ _ => rfl)))) (pmw_and1 (pmt_cmp (op_eqA hr.units) v2_eq (nomark _) (pm_meth (m_Wood_replies Ft) hr (by decide) pas_body (pm_var 0) (pma_cons (pm_var 1) pma_nil)) (pm_lst pma_nil)))))) (pxs_cons (px_asg (i := 5) sc_Wood_strike.nd rfl (Or.inl rfl) (pm_fld Ft.at_Saying_under (pm_pop1 ⟨rfl, rfl, rfl, rfl⟩ (pm_fld Ft.at_Wood_sayings (pm_var 0)) (pm_var 1))))
  (pxs_cons (px_asg (i := 1) sc_Wood_strike.nd rfl (Or.inl rfl) (pm_var 5))
  (pxs_one (px_asg (i := 4) sc_Wood_strike.nd rfl (Or.inl rfl) (pm_op op_addA v2_add (pm_var 4) pm_int))))))
  (pxs_one (px_ret (pm_var 4))))))), by
  rintro ds g Kt hl ⟨A, W, r, rfl, h, wf, n, b, rfl, hb, nl, hk⟩
  unfold Wd.strikeR at hk
  refine ⟨fun e g' => g' = g ∧ ∃ S, W.ownR n b = .ok S ∧ e = [.dat (.ref A.w), .dat (.int n), .dat (.str b), .dat (.ref (A.s n)), .no, .no], ?_, ?_⟩
  · simp [wSeq, wRet, wRetN, wIf, wAsg, wExp, wNil, wRaise, wSetF, wPut, wPar, wUnp, wCont, rVar, rC, rBin, rUn, rAnd, rOr, rNot, rAndT, rOrT, rNotT, rIfE, rNil, rCons, rTup, rLst, rCB, rFld, rDGet, rDIn, rCall, rMth, rMake, rDNew, rIs, rChain, startD, endD, onB, gNames, setAll, -List.lookup_eq_none_iff, -List.map_map, sp_own, wp, h.hw]
    refine ⟨A, W, [.int n, .str b], ⟨rfl, rfl⟩, h, wf, n, b, rfl, hb, ?_⟩
    cases e : W.ownR n b with
    | error x => rw [e] at hk; exact hk
    | ok S => simp
  rintro e g' ⟨rfl, S, ho, rfl⟩
  rw [ho] at hk
  obtain ⟨hf, o1, o2, o3⟩ := ownR_ok ho
  have hs := h.hs hf
  have nz := wf.toWF.nz (WF.find_key hf)
  have np := wf.pos n (WF.find_key hf)
  obtain ⟨p1, p2⟩ := h.putS (S' := { S with struck := true }) hf rfl
  refine ⟨fun e g1 => WoodIn K g1 A (W.put n { S with struck := true }) ∧ Frm g' g1 (W.foot A) ((W.put n { S with struck := true }).foot A) ∧ e = [.dat (.ref A.w), .dat (.int n), .dat (.str b), .dat (.ref (A.s n)), .no, .no], ?_, ?_⟩
  · simp [wSeq, wRet, wRetN, wIf, wAsg, wExp, wNil, wRaise, wSetF, wPut, wPar, wUnp, wCont, rVar, rC, rBin, rUn, rAnd, rOr, rNot, rAndT, rOrT, rNotT, rIfE, rNil, rCons, rTup, rLst, rCB, rFld, rDGet, rDIn, rCall, rMth, rMake, rDNew, rIs, rChain, startD, endD, onB, gNames, setAll, -List.lookup_eq_none_iff, -List.map_map, hs, sayFs, putD]
    exact ⟨p1, p2⟩
  rintro e g1 ⟨q1, q2, rfl⟩
  refine ⟨fun e g2 => g2 = g1 ∧ e = [.dat (.ref A.w), .dat (.int n), .dat (.str b), .dat (.ref (A.s n)), .dat (.int 0), .no], ?_, ?_⟩
  · simp [wSeq, wRet, wRetN, wIf, wAsg, wExp, wNil, wRaise, wSetF, wPut, wPar, wUnp, wCont, rVar, rC, rBin, rUn, rAnd, rOr, rNot, rAndT, rOrT, rNotT, rIfE, rNil, rCons, rTup, rLst, rCB, rFld, rDGet, rDIn, rCall, rMth, rMake, rDNew, rIs, rChain, startD, endD, onB, gNames, setAll, -List.lookup_eq_none_iff, -List.map_map]
  rintro e g2 ⟨rfl, rfl⟩
  obtain ⟨wf1, _⟩ := wf.toWF.put (S' := { S with struck := true }) hf rfl (wf.nam n S (WF.mem_find hf)) (wf.txt n S (WF.mem_find hf)) (wf.vnd n S (WF.mem_find hf)) (wf.vwy n S (WF.mem_find hf)) (wf.vln n S (WF.mem_find hf))
  refine ⟨strikeEnd K g' A W n b (Wd.goes n.toNat (W.put n { S with struck := true }) n 0), ?_, ?_⟩
  · refine ⟨strikeInv K g' A W n b (Wd.goes n.toNat (W.put n { S with struck := true }) n 0), ⟨n.toNat, _, n, 0, .no, rfl, q1, ⟨wf1, wf.age⟩, q2, .inr (by rw [Wd.put_keys]; exact WF.find_key hf), rfl, Nat.le_refl _⟩, ?_⟩
    generalize Wd.goes n.toNat (W.put n { S with struck := true }) n 0 = fin
    rintro m e g3 ⟨Wc, n', k, sl, rfl, r1, r2, r3, r4, r5, r6⟩
    have nl3 := nl.frm r3
    by_cases z : n' = 0
    · subst z
      have : Wd.goes m Wc 0 k = (Wc, k) := by cases m <;> simp [Wd.goes]
      rw [this] at r5
      subst r5
      simp [rAndT, rBin, rVar, rC, onB]
      exact ⟨0, sl, rfl, r1, r3⟩
    · have hk' := r4.resolve_left z
      obtain ⟨S', e'⟩ := r2.toWF.key_find hk'
      have pn := r2.pos n' hk'
      obtain ⟨m, rfl⟩ : ∃ m', m = m' + 1 := ⟨m - 1, by omega⟩
      have st : Wd.goes (m + 1) Wc n' k = if S'.struck = true ∧ Wc.replies n' = [] then Wd.goes m (Wc.drop n') S'.under (k + 1) else (Wc, k) := by
        show (if n' = 0 then (Wc, k) else match Wc.find n' with | none => (Wc, k) | some S => if S.struck = true ∧ Wc.replies n' = [] then Wd.goes m (Wc.drop n') S.under (k + 1) else (Wc, k)) = _
        rw [if_neg z, e']
      rw [st] at r5
      have hs' := r1.hs e'
      have stop : (¬ (S'.struck = true ∧ Wc.replies n' = [])) → strikeEnd K g' A W n b fin [.dat (.ref A.w), .dat (.int n'), .dat (.str b), .dat (.ref (A.s n)), .dat (.int k), sl] g3 := fun q => by
        rw [if_neg q] at r5
        subst r5
        exact ⟨n', sl, rfl, r1, r3⟩
      by_cases q1 : S'.struck = true
      · simp [rAndT, rBin, rVar, rC, onB, z, rFld, rDGet, rMth, rCons, rNil, rLst, r1.hw, r1.hd, hs', -List.lookup_eq_none_iff, -List.map_map, List.lookup, sayFs, dgetF, asDict, DL.keyOf, dfind_row, e', q1, sp_replies, wp]
        refine ⟨A, Wc, [.int n'], ⟨rfl, rfl⟩, r1, r2, n', rfl, ?_⟩
        by_cases q2 : Wc.replies n' = []
        · rw [if_pos ⟨q1, q2⟩] at r5
          have hu := r2.und n' S' (WF.mem_find e')
          obtain ⟨d1, d2⟩ := r1.dropS (n := n')
          obtain ⟨w1, _⟩ := r2.toWF.drop q2 z
          refine ⟨.bl true, by have := eqF_ints (g := g3) (as := Wc.replies n') (bs := []); simpa [q2] using this, ?_⟩
          simp [wSeq, wAsg, rFld, rPop1, rVar, r1.hw, r1.hd, -List.lookup_eq_none_iff, -List.map_map, List.lookup, nl3.lk, DL.keyOf, dfind_row, e', hs', sayFs, rBin, rC, addF]
          have sd : A.s n' ≠ A.d := fun z => by have := r1.ij (.s n') .d hk' trivial z; cases this
          refine ⟨_, (G.set_ne sd).trans hs', .int S'.under, rfl, m, Nat.lt_succ_self m, Wc.drop n', S'.under, k + 1, _, rfl, d1, ⟨w1, r2.age⟩, r3.trans d2, ?_, r5, ?_⟩
          · rcases hu with q | ⟨q, lt⟩
            · exact .inl q
            · exact .inr (Wd.mem_drop_keys.mpr ⟨q, by omega⟩)
          · rcases hu with q | ⟨q, lt⟩
            · omega
            · omega
        · refine ⟨.bl false, by have := eqF_ints (g := g3) (as := Wc.replies n') (bs := []); simpa [q2] using this, ?_⟩
          simp
          exact stop fun q => q2 q.2
      · simp [rAndT, rBin, rVar, rC, onB, z, rFld, rDGet, r1.hw, r1.hd, hs', -List.lookup_eq_none_iff, -List.map_map, List.lookup, sayFs, dgetF, asDict, DL.keyOf, dfind_row, e', q1]
        exact stop fun q => q1 q.1
  rintro e g3 ⟨n', sl, rfl, r1, r2⟩
  simp [wSeq, wRet, wRetN, wIf, wAsg, wExp, wNil, wRaise, wSetF, wPut, wPar, wUnp, wCont, rVar, rC, rBin, rUn, rAnd, rOr, rNot, rAndT, rOrT, rNotT, rIfE, rNil, rCons, rTup, rLst, rCB, rFld, rDGet, rDIn, rCall, rMth, rMake, rDNew, rIs, rChain, startD, endD, onB, gNames, setAll, -List.lookup_eq_none_iff, -List.map_map]
  exact hk g3 A rfl r1 r2⟩

end Vw

set_option Elab.async false
set_option linter.all false
set_option maxRecDepth 100000
set_option maxHeartbeats 4000000
set_option autoImplicit false
namespace Vw
open PySem PySem.Spec L2 DL
abbrev N_l_cell : List Str := ["_law_script", "_law_k"]
theorem sc_l_cell : FnScope N_l_cell ["_law_script", "_law_k"] (defScope s_l_cell) := ⟨rfl, rfl, rfl, by decide +kernel, rfl, by decide +kernel, by decide +kernel⟩

theorem c_l_cell {P : Program} {w : World} {K : PySem.W.Frag} {mg : Str → Option Value} {base : Heap} {T : List (Addr × Str)} (Ft : Facts K mg) : Cal P w K mg base T 1 "_law_cell" 2 sp_cell := calD Ft.d_l_cell sc_l_cell (fun _ _ _ _ _ _ us hl => match us, hl with | [_, _], _ => rfl) fun f => ⟨_, fun cdv A outer s H E hr => (pxs_cons (px_if (pmt_cmp (op_eqA hr.units) v2_eq (nomark _) (pm_var 0) (pm_lst pma_nil)) (pxs_one (px_ret (pm_op op_mulA v2_mul (pm_var 1) pm_int))) pxs_nil)
  (pxs_one (px_ret (pm_op op_addA v2_add (pm_bin (pe_ix ix_seq pe_sem pe_sem (fun _ _ => rfl)) v2_ix (pm_var 0) (pm_op op_mod v2_mod (pm_var 1) (pm_len rfl Ft.f_len (pma_cons (pm_var 0) pma_nil)))) (pm_op op_mulA v2_mul (pm_op op_fdivW v2_div (pm_var 1) (pm_len rfl Ft.f_len (pma_cons (pm_var 0) pma_nil))) pm_int))))), by
  rintro ds g Kt hl ⟨ns, k, rfl, hn, h0, h1, hk⟩
  have e := eqF_frl (g := g) (as := ns) (bs := [])
  by_cases z : ns = []
  · subst z
    simp [wSeq, wRet, wRetN, wIf, wAsg, wExp, wNil, wRaise, wSetF, wPut, wPar, wUnp, wCont, rVar, rC, rBin, rUn, rAnd, rOr, rNot, rAndT, rOrT, rNotT, rIfE, rNil, rCons, rTup, rLst, rCB, rFld, rDGet, rDIn, rCall, rMth, rMake, rDNew, rIs, rChain, startD, endD, onB, gNames, setAll, -List.lookup_eq_none_iff, -List.map_map] at e ⊢
    exact ⟨_, e, _, mulF_sm (by decide), hk _⟩
  · have hpos : (0 : Int) < (ns.length : Int) := by
      have : ns.length ≠ 0 := fun q => z (List.length_eq_zero_iff.mp q)
      omega
    obtain ⟨x, e1, _⟩ := atI_lt (xs := ns) (i := k % ns.length) (Int.emod_nonneg _ (by omega)) (Int.emod_lt_of_pos _ hpos)
    have e2 : ixF g (.frl (ns.map D.int)) (.int (k % ns.length)) = some (.int x) := by simp [ixF, items, atI_map, e1]
    have e3 := modF_lit (g := g) (i := k) hpos
    have e4 := divF_lit (g := g) (i := k) hpos (Int.lt_of_lt_of_le (show (ns.length : Int) < 2 ^ 10 by omega) (two_le (by decide)))
    simp [wSeq, wRet, wRetN, wIf, wAsg, wExp, wNil, wRaise, wSetF, wPut, wPar, wUnp, wCont, rVar, rC, rBin, rUn, rAnd, rOr, rNot, rAndT, rOrT, rNotT, rIfE, rNil, rCons, rTup, rLst, rCB, rFld, rDGet, rDIn, rCall, rMth, rMake, rDNew, rIs, rChain, startD, endD, onB, gNames, setAll, -List.lookup_eq_none_iff, -List.map_map, z, lenF, items] at e ⊢
    refine ⟨_, e, ?_⟩
    simp [wSeq, wRet, wRetN, wIf, wAsg, wExp, wNil, wRaise, wSetF, wPut, wPar, wUnp, wCont, rVar, rC, rBin, rUn, rAnd, rOr, rNot, rAndT, rOrT, rNotT, rIfE, rNil, rCons, rTup, rLst, rCB, rFld, rDGet, rDIn, rCall, rMth, rMake, rDNew, rIs, rChain, startD, endD, onB, gNames, setAll, -List.lookup_eq_none_iff, -List.map_map, lenF, items, e3, e2, e4]
    refine ⟨_, mulF_sm (by decide), _, rfl, hk _⟩⟩

abbrev N_l_drawn : List Str := ["_law_cell_here", "_law_k", "_law_more"]
theorem sc_l_drawn : FnScope N_l_drawn ["_law_cell_here", "_law_k"] (defScope s_l_drawn) := ⟨rfl, rfl, rfl, by decide +kernel, rfl, by decide +kernel, by decide +kernel⟩

theorem c_l_drawn {P : Program} {w : World} {K : PySem.W.Frag} {mg : Str → Option Value} {base : Heap} {T : List (Addr × Str)} (Ft : Facts K mg) : Cal P w K mg base T 1 "_law_drawn" 2 sp_drawn := calD Ft.d_l_drawn sc_l_drawn (fun _ _ _ _ _ _ us hl => match us, hl with | [_, _], _ => rfl) fun f => ⟨_, fun cdv A outer s H E hr => (pxs_cut (px_asg (i := 2) sc_l_drawn.nd rfl (Or.inl rfl) (pm_op op_mod v2_mod (pm_op op_addA v2_add (pm_op op_mulA v2_mul (pm_var 0) pm_int) (pm_op op_mulA v2_mul (pm_op op_addA v2_add (pm_var 1) pm_int) pm_int)) pm_int))
  (pxs_cut (px_asg (i := 2) sc_l_drawn.nd rfl (Or.inl rfl) (pm_op op_mod v2_mod (pm_op op_mulA v2_mul (pm_var 2) (pm_var 2)) pm_int))
  (pxs_cut (px_asg (i := 2) sc_l_drawn.nd rfl (Or.inl rfl) (pm_op op_mulA v2_mul (pm_op op_mulA v2_mul (pm_op op_addA v2_add (pm_op op_mod v2_mod (pm_var 2) pm_int) pm_int) (pm_op op_addA v2_add (pm_op op_fdivW v2_div (pm_var 2) pm_int) pm_int)) (pm_var 2)))
  (pxs_one (px_ret (pm_op op_mod v2_mod (pm_var 2) pm_int)))))), by
  rintro ds g Kt hl ⟨c, k, rfl, h0, h1, hk⟩
  have e2 : (2 : Int) ^ 200 = 1606938044258990275541962092341162602522202993782792835301376 := by decide
  have e3 : (2 : Int) ^ 65 = 36893488147419103232 := by decide
  have e4 : (2 : Int) ^ 66 = 73786976294838206464 := by decide
  obtain ⟨m1, hm1⟩ : ∃ m, m = (c * 6364136223846793005 + (k + 1) * 1442695040888963407) % 340282366920938463463374607431768211507 := ⟨_, rfl⟩
  refine ⟨fun e g' => g' = g ∧ e = [.dat (.int c), .dat (.int k), .dat (.int m1)], ?_, ?_⟩
  · simp [wSeq, wRet, wRetN, wIf, wAsg, wExp, wNil, wRaise, wSetF, wPut, wPar, wUnp, wCont, rVar, rC, rBin, rUn, rAnd, rOr, rNot, rAndT, rOrT, rNotT, rIfE, rNil, rCons, rTup, rLst, rCB, rFld, rDGet, rDIn, rCall, rMth, rMake, rDNew, rIs, rChain, startD, endD, onB, gNames, setAll, -List.lookup_eq_none_iff, -List.map_map]
    refine ⟨_, mulF_sm (by decide), _, rfl, _, mulF_sm (by decide), _, rfl, ?_⟩
    rw [modF_lit (by decide), hm1]
  rintro e g' ⟨rfl, rfl⟩
  obtain ⟨m2, hm2⟩ : ∃ m, m = m1 * m1 % 340282366920938463463374607431768211297 := ⟨_, rfl⟩
  refine ⟨fun e g'' => g'' = g' ∧ e = [.dat (.int c), .dat (.int k), .dat (.int m2)], ?_, ?_⟩
  · simp [wSeq, wRet, wRetN, wIf, wAsg, wExp, wNil, wRaise, wSetF, wPut, wPar, wUnp, wCont, rVar, rC, rBin, rUn, rAnd, rOr, rNot, rAndT, rOrT, rNotT, rIfE, rNil, rCons, rTup, rLst, rCB, rFld, rDGet, rDIn, rCall, rMth, rMake, rDNew, rIs, rChain, startD, endD, onB, gNames, setAll, -List.lookup_eq_none_iff, -List.map_map]
    refine ⟨_, mulF_big (by omega) (by rw [e2]; omega) (by omega) (by rw [e2]; omega), ?_⟩
    rw [modF_lit (by decide), hm2]
  rintro e g'' ⟨rfl, rfl⟩
  obtain ⟨m3, hm3⟩ : ∃ m, m = (m2 % 18446744073709551557 + 1) * (m2 / 18446744073709551557 + 1) * m2 := ⟨_, rfl⟩
  refine ⟨fun e g' => g' = g'' ∧ e = [.dat (.int c), .dat (.int k), .dat (.int m3)], ?_, ?_⟩
  · have b1 : 0 ≤ m2 := by omega
    have b2 := mul_bd (i := m2 % 18446744073709551557 + 1) (j := m2 / 18446744073709551557 + 1) (a := 65) (b := 66) (by omega) (by rw [e3]; omega) (by omega) (by rw [e4]; omega)
    simp [wSeq, wRet, wRetN, wIf, wAsg, wExp, wNil, wRaise, wSetF, wPut, wPar, wUnp, wCont, rVar, rC, rBin, rUn, rAnd, rOr, rNot, rAndT, rOrT, rNotT, rIfE, rNil, rCons, rTup, rLst, rCB, rFld, rDGet, rDIn, rCall, rMth, rMake, rDNew, rIs, rChain, startD, endD, onB, gNames, setAll, -List.lookup_eq_none_iff, -List.map_map]
    refine ⟨_, modF_lit (by decide), _, rfl, _, divF_lit (by decide) (by decide), _, rfl, _, mulF_big (by omega) (by rw [e2]; omega) (by omega) (by rw [e2]; omega), ?_⟩
    rw [mulF_big b2.1 (Int.lt_of_lt_of_le b2.2 (two_le (by decide))) b1 (by rw [e2]; omega), hm3]
  rintro e g' ⟨rfl, rfl⟩
  simp [wSeq, wRet, wRetN, wIf, wAsg, wExp, wNil, wRaise, wSetF, wPut, wPar, wUnp, wCont, rVar, rC, rBin, rUn, rAnd, rOr, rNot, rAndT, rOrT, rNotT, rIfE, rNil, rCons, rTup, rLst, rCB, rFld, rDGet, rDIn, rCall, rMth, rMake, rDNew, rIs, rChain, startD, endD, onB, gNames, setAll, -List.lookup_eq_none_iff, -List.map_map]
  refine ⟨_, modF_lit (by decide), ?_⟩
  subst hm3 hm2 hm1
  exact hk⟩

abbrev N_l_own : List Str := []
theorem sc_l_own : FnScope N_l_own [] (defScope s_l_own) := ⟨rfl, rfl, rfl, by decide +kernel, rfl, by decide +kernel, by decide +kernel⟩

theorem c_l_own {P : Program} {w : World} {K : PySem.W.Frag} {mg : Str → Option Value} {base : Heap} {T : List (Addr × Str)} (Ft : Facts K mg) : Cal P w K mg base T 1 "_law_own" 0 sp_own0 := calD Ft.d_l_own sc_l_own (fun _ _ _ _ _ _ us hl => match us, hl with | [], _ => rfl) fun f => ⟨_, fun cdv A outer s H E hr => (pxs_one (px_ret (pm_disp (.cons (.cons (.cons .nil))) (pmv_cons pm_dnew (pmv_cons pm_int (pmv_cons pm_int pmv_nil)))))), by
  rintro ds g Kt hl ⟨rfl, hk⟩
  simp [wSeq, wRet, wRetN, wIf, wAsg, wExp, wNil, wRaise, wSetF, wPut, wPar, wUnp, wCont, rVar, rC, rBin, rUn, rAnd, rOr, rNot, rAndT, rOrT, rNotT, rIfE, rNil, rCons, rTup, rLst, rCB, rFld, rDGet, rDIn, rCall, rMth, rMake, rDNew, rIs, rChain, startD, endD, onB, gNames, setAll, -List.lookup_eq_none_iff, -List.map_map, rDisp, mergeD, dput]
  intro d hd w hw hw'
  have ne : w ≠ d := fun z => by subst z; rw [G.set_same] at hw; cases hw
  exact hk w d hw' hd ne⟩

abbrev N_l_above : List Str := ["_law_own_here", "_law_number", "_law_found"]
theorem sc_l_above : FnScope N_l_above ["_law_own_here", "_law_number"] (defScope s_l_above) := ⟨rfl, rfl, rfl, by decide +kernel, rfl, by decide +kernel, by decide +kernel⟩

theorem c_l_above {P : Program} {w : World} {K : PySem.W.Frag} {mg : Str → Option Value} {base : Heap} {T : List (Addr × Str)} (Ft : Facts K mg) : Cal P w K mg base T 1 "_law_above" 2 sp_above := calD Ft.d_l_above sc_l_above (fun _ _ _ _ _ _ us hl => match us, hl with | [_, _], _ => rfl) fun f => ⟨_, fun cdv A outer s H E hr => (pxs_cut (px_newL (i := 2) sc_l_above.nd rfl (Or.inl rfl))
  (pxs_cut (px_while po_body (pmt_cmp (op_neA hr.units) v2_ne (nomark _) (pm_var 1) pm_int) (pxs_cons (px_asg (i := 1) sc_l_above.nd rfl (Or.inl rfl) (pm_dget (hu_of hr) (pm_dget (hu_of hr) (pm_dget (hu_of hr) (pm_var 0) pm_str (fun _ _ => rfl)) (pm_var 1) (fun _ _ => rfl)) pm_str (fun _ _ => rfl)))
  (pxs_one (px_app (i := 2) (fun _ _ ho ha => pe_bm PySem.F.plainAttrs_list PySem.F.slot_list_append PySem.F.type_list_append mt_append ho (pa_cons ha pa_nil)) (pv 2) (pm_var 1)))))
  (pxs_frz 2 (pxs_one (px_ret (pm_var 2)))))), by
  rintro ds g Kt hl ⟨A, W, r, rfl, h, wf, n, rfl, hn, hk⟩
  refine ⟨fun e g' => g' = g ∧ e = [.dat (.ref A.w), .dat (.int n), .own (.lst [])], ?_, ?_⟩
  · simp [wSeq, wRet, wRetN, wIf, wAsg, wExp, wNil, wRaise, wSetF, wPut, wPar, wUnp, wCont, rVar, rC, rBin, rUn, rAnd, rOr, rNot, rAndT, rOrT, rNotT, rIfE, rNil, rCons, rTup, rLst, rCB, rFld, rDGet, rDIn, rCall, rMth, rMake, rDNew, rIs, rChain, startD, endD, onB, gNames, setAll, -List.lookup_eq_none_iff, -List.map_map, wNewL]
  rintro e g' ⟨rfl, rfl⟩
  refine ⟨fun e g'' => g'' = g' ∧ e = [.dat (.ref A.w), .dat (.int 0), .own (.lst ((W.above n).map D.int))], ?_, ?_⟩
  · refine ⟨fun m env g'' => g'' = g' ∧ ∃ (n' : Int) (ds : List Int), env = [.dat (.ref A.w), .dat (.int n'), .own (.lst (ds.map D.int))] ∧ isThere W n' ∧ ds ++ W.above n' = W.above n ∧ m = n'.toNat, ⟨n.toNat, rfl, n, [], rfl, hn, rfl, rfl⟩, ?_⟩
    rintro m env g'' ⟨rfl, n', ds, rfl, hn', ha, rfl⟩
    by_cases z : n' = 0
    · subst z
      rw [wf.toWF.above_zero, List.append_nil] at ha
      simp [wSeq, wRet, wRetN, wIf, wAsg, wExp, wNil, wRaise, wSetF, wPut, wPar, wUnp, wCont, rVar, rC, rBin, rUn, rAnd, rOr, rNot, rAndT, rOrT, rNotT, rIfE, rNil, rCons, rTup, rLst, rCB, rFld, rDGet, rDIn, rCall, rMth, rMake, rDNew, rIs, rChain, startD, endD, onB, gNames, setAll, -List.lookup_eq_none_iff, -List.map_map, ha]
    · have hk' := hn'.resolve_left z
      obtain ⟨S, e⟩ := wf.toWF.key_find hk'
      have hp := wf.pos n' hk'
      have hu := wf.und n' S (WF.mem_find e)
      have hlen : ds.length < 100000 := by
        have h1 := congrArg List.length ha
        rw [List.length_append] at h1
        have h2 : (W.above n).length ≤ 8 := by
          rcases hn with q | q
          · rw [q, wf.toWF.above_zero]; exact Nat.zero_le _
          · exact wf.dep n q
        omega
      simp [wSeq, wRet, wRetN, wIf, wAsg, wExp, wNil, wRaise, wSetF, wPut, wPar, wUnp, wCont, rVar, rC, rBin, rUn, rAnd, rOr, rNot, rAndT, rOrT, rNotT, rIfE, rNil, rCons, rTup, rLst, rCB, rFld, rDGet, rDIn, rCall, rMth, rMake, rDNew, rIs, rChain, startD, endD, onB, gNames, setAll, -List.lookup_eq_none_iff, -List.map_map, z, wApp, dgetF, asDict, h.hw, h.hd, DL.keyOf, dfind_cons, dfind_row, h.hs e, rowFs, e]
      have st := wf.toWF.above_step e
      refine ⟨hlen, S.under.toNat, ?_, S.under, ds ++ [S.under], ⟨rfl, by simp⟩, hu.imp id (·.1), by rw [← ha, st]; simp, rfl⟩
      rcases hu with q | ⟨q, lt⟩
      · omega
      · have := wf.pos _ q; omega
  rintro e g'' ⟨rfl, rfl⟩
  simp [wSeq, wRet, wRetN, wIf, wAsg, wExp, wNil, wRaise, wSetF, wPut, wPar, wUnp, wCont, rVar, rC, rBin, rUn, rAnd, rOr, rNot, rAndT, rOrT, rNotT, rIfE, rNil, rCons, rTup, rLst, rCB, rFld, rDGet, rDIn, rCall, rMth, rMake, rDNew, rIs, rChain, startD, endD, onB, gNames, setAll, -List.lookup_eq_none_iff, -List.map_map, wFrz, frzD]
  exact hk⟩

abbrev N_l_points : List Str := ["_law_row", "_law_name"]
theorem sc_l_points : FnScope N_l_points ["_law_row"] (defScope s_l_points) := ⟨rfl, rfl, rfl, by decide +kernel, rfl, by decide +kernel, by decide +kernel⟩

theorem c_l_points {P : Program} {w : World} {K : PySem.W.Frag} {mg : Str → Option Value} {base : Heap} {T : List (Addr × Str)} (Ft : Facts K mg) : Cal P w K mg base T 1 "_law_points" 1 sp_lpoints := calD Ft.d_l_points sc_l_points (fun _ _ _ _ _ _ us hl => match us, hl with | [_], _ => rfl) fun f => ⟨_, fun cdv A outer s H E hr => (pxs_one (px_ret (pm_sum rfl rfl Ft.f_sum (pma_cons (pm_lcN rfl sc_l_points.nd (pp_dget (hu_of hr) (pp_var 0) pp_str (fun _ _ => rfl)) (blkOk_by (N := N_l_points) (sc := defScope s_l_points) (by decide +kernel)) (fun _ _ _ _ _ => pg_name (i := 1) sc_l_points.nd rfl (Or.inl rfl)) (fun _ _ _ _ _ => pmts_nil) (fun _ _ _ _ _ => (pm_dget (hu_of hr) (pm_dget (hu_of hr) (pm_var 0) pm_str (fun _ _ => rfl)) (pm_var 1) (fun _ _ => rfl)))) pma_nil)))), by
  rintro ds g Kt hl ⟨s, v, S, rfl, h, hv, hk⟩
  simp [wSeq, wRet, wRetN, wIf, wAsg, wExp, wNil, wRaise, wSetF, wPut, wPar, wUnp, wCont, rVar, rC, rBin, rUn, rAnd, rOr, rNot, rAndT, rOrT, rNotT, rIfE, rNil, rCons, rTup, rLst, rCB, rFld, rDGet, rDIn, rCall, rMth, rMake, rDNew, rIs, rChain, startD, endD, onB, gNames, setAll, -List.lookup_eq_none_iff, -List.map_map, rLcN, fGet, fKey, fVar, asDictG, h.hs, h.hv, DL.keyOf, rowFs, dfind_cons, voteKvs_keyD]
  refine lcR_map (xs := S.votes.map (·.1)) str_inj (fun n => .int ((S.votes.lookup n).getD 0)) (by have := h.ln; simp; omega) (fun n hn => ?_) ?_
  · obtain ⟨⟨m, y⟩, hp, rfl⟩ := List.mem_map.mp hn
    have e := lookup_votes h.nd hp
    simp [turnR, wSeq, wRet, wRetN, wIf, wAsg, wExp, wNil, wRaise, wSetF, wPut, wPar, wUnp, wCont, rVar, rC, rBin, rUn, rAnd, rOr, rNot, rAndT, rOrT, rNotT, rIfE, rNil, rCons, rTup, rLst, rCB, rFld, rDGet, rDIn, rCall, rMth, rMake, rDNew, rIs, rChain, startD, endD, onB, gNames, setAll, -List.lookup_eq_none_iff, -List.map_map, dgetF, asDict, h.hs, h.hv, rowFs, DL.keyOf, dfind_cons, dfind_vote, e]
  · have e := names_pts h.nd hv
    have e2 := intsOf_map ((S.votes.map (·.1)).map fun n => (S.votes.lookup n).getD 0)
    rw [List.map_map] at e2
    refine ⟨.int S.pts, ?_, hk⟩
    simp only [sumF, litems, Option.bind_some]
    erw [e2]
    simp only [Option.map_some, e]⟩

end Vw

set_option Elab.async false
set_option linter.all false
set_option maxRecDepth 100000
set_option maxHeartbeats 4000000
set_option autoImplicit false
namespace Vw
open PySem PySem.Spec L2 DL
abbrev N_l_any_name : List Str := ["_law_more", "_law_most", "_law_j"]
theorem sc_l_any_name : FnScope N_l_any_name ["_law_more", "_law_most"] (defScope s_l_any_name) := ⟨rfl, rfl, rfl, by decide +kernel, rfl, by decide +kernel, by decide +kernel⟩

theorem c_l_any_name {P : Program} {w : World} {K : PySem.W.Frag} {mg : Str → Option Value} {base : Heap} {T : List (Addr × Str)} (Ft : Facts K mg) : Cal P w K mg base T 2 "_law_any_name" 2 sp_any_name := calD Ft.d_l_any_name sc_l_any_name (fun _ _ _ _ _ _ us hl => match us, hl with | [_, _], _ => rfl) fun f => ⟨_, fun cdv A outer s H E hr => (pxs_one (px_ret (pm_join pm_str (pm_lcR rfl sc_l_any_name.nd rfl Ft.f_range (pm_op op_addA v2_add pm_int (pm_op op_mod v2_mod (pm_var 0) (pm_var 1))) (blkOk_by (N := N_l_any_name) (sc := defScope s_l_any_name) (by decide +kernel)) (fun _ _ _ _ _ => pg_name (i := 2) sc_l_any_name.nd rfl (Or.inl rfl)) (fun _ _ _ _ _ => pmts_nil) (fun _ _ _ _ _ => (pm_bin (pe_ix ix_seq pe_sem pe_sem (fun _ _ => rfl)) v2_ix pm_str (pm_op op_mod v2_mod (pm_call (c_l_drawn Ft) hr (by decide) rfl pas_blk (pma_cons (pm_var 0) (pma_cons (pm_var 2) pma_nil))) pm_int))))))), by
  rintro ds g Kt hl ⟨m, rfl, hk⟩
  simp [wSeq, wRet, wRetN, wIf, wAsg, wExp, wNil, wRaise, wSetF, wPut, wPar, wUnp, wCont, rVar, rC, rBin, rUn, rAnd, rOr, rNot, rAndT, rOrT, rNotT, rIfE, rNil, rCons, rTup, rLst, rCB, rFld, rDGet, rDIn, rCall, rMth, rMake, rDNew, rIs, rChain, startD, endD, onB, gNames, setAll, -List.lookup_eq_none_iff, -List.map_map, modF_lit, addF, rJoin, rLcR]
  have b1 := Int.emod_nonneg m (show (6 : Int) ≠ 0 by decide)
  have b2 := Int.emod_lt_of_pos m (show (0 : Int) < 6 by decide)
  have hs : (26 : Int) = smallS.cps.toList.length := by decide +kernel
  have hx : ∀ z : Int, ixF g (.str smallS) (.int (z % 26)) = some (.str (sg (signAt smallS (z % 26)))) ∧ signAt smallS (z % 26) ∈ smallS.cps.toList := fun z => ixF_sign (by decide +kernel) (Int.emod_nonneg _ (by decide)) (by rw [← hs]; exact Int.emod_lt_of_pos _ (by decide))
  have hln : (List.range (1 + m % 6).toNat).length = (1 + m % 6).toNat := List.length_range
  refine ⟨by omega, by omega, ?_⟩
  refine lcR_map (xs := List.range (1 + m % 6).toNat) (f := fun k : Nat => D.int (k : Int)) nat_inj (fun j => .str (sg (signAt smallS (drawnZ m j % 26)))) (by rw [hln]; omega) (fun j hj => ?_) ?_
  · have hj' := List.mem_range.mp hj
    simp [turnR, wSeq, wRet, wRetN, wIf, wAsg, wExp, wNil, wRaise, wSetF, wPut, wPar, wUnp, wCont, rVar, rC, rBin, rUn, rAnd, rOr, rNot, rAndT, rOrT, rNotT, rIfE, rNil, rCons, rTup, rLst, rCB, rFld, rDGet, rDIn, rCall, rMth, rMake, rDNew, rIs, rChain, startD, endD, onB, gNames, setAll, -List.lookup_eq_none_iff, -List.map_map, sp_drawn]
    refine ⟨_, _, ⟨rfl, rfl⟩, by omega, by omega, ?_⟩
    simp [modF_lit]
    exact (hx _).1
  · have e := joinF_signs (g := g) (cs := (List.range (1 + m % 6).toNat).map fun (j : Nat) => signAt smallS (drawnZ m j % 26)) (by rw [List.length_map, hln]; omega)
    rw [List.map_map, List.map_map] at e
    refine ⟨_, e, hk _ (okName_join (cs := (List.range (1 + m % 6).toNat).map fun (j : Nat) => signAt smallS (drawnZ m j % 26)) (by rw [List.length_map, hln]; omega) (by rw [List.length_map, hln]; omega) fun c hc => ?_)⟩
    obtain ⟨j, _, rfl⟩ := List.mem_map.mp hc
    exact (hx _).2⟩

abbrev N_l_beneath : List Str := ["_law_own_here", "_law_number", "_law_one"]
theorem sc_l_beneath : FnScope N_l_beneath ["_law_own_here", "_law_number"] (defScope s_l_beneath) := ⟨rfl, rfl, rfl, by decide +kernel, rfl, by decide +kernel, by decide +kernel⟩

theorem c_l_beneath {P : Program} {w : World} {K : PySem.W.Frag} {mg : Str → Option Value} {base : Heap} {T : List (Addr × Str)} (Ft : Facts K mg) : Cal P w K mg base T 2 "_law_beneath" 2 sp_beneath := calD Ft.d_l_beneath sc_l_beneath (fun _ _ _ _ _ _ us hl => match us, hl with | [_, _], _ => rfl) fun f => ⟨_, fun cdv A outer s H E hr => (pxs_one (px_ret (pm_sorted rfl rfl Ft.f_sorted (pma_cons (pm_lcN rfl sc_l_beneath.nd (pp_dget (hu_of hr) (pp_var 0) pp_str (fun _ _ => rfl)) (blkOk_by (N := N_l_beneath) (sc := defScope s_l_beneath) (by decide +kernel)) (fun _ _ _ _ _ => pg_name (i := 2) sc_l_beneath.nd rfl (Or.inl rfl)) (fun _ _ _ _ _ => (pmts_one (pmt_cmp op_inA v2_in (by rfl) (pm_var 1) (pm_call (c_l_above Ft) hr (by decide) rfl pas_blk (pma_cons (pm_var 0) (pma_cons (pm_var 2) pma_nil)))))) (fun _ _ _ _ _ => (pm_var 2))) pma_nil)))), by
  rintro ds g Kt hl ⟨A, W, r, rfl, h, wf, n, rfl, hk⟩
  simp [wSeq, wRet, wRetN, wIf, wAsg, wExp, wNil, wRaise, wSetF, wPut, wPar, wUnp, wCont, rVar, rC, rBin, rUn, rAnd, rOr, rNot, rAndT, rOrT, rNotT, rIfE, rNil, rCons, rTup, rLst, rCB, rFld, rDGet, rDIn, rCall, rMth, rMake, rDNew, rIs, rChain, startD, endD, onB, gNames, setAll, -List.lookup_eq_none_iff, -List.map_map, rLcN, fGet, fKey, fVar, asDictG, h.hw, h.hd, DL.keyOf, dfind_cons, rowKvs_keyD]
  refine lcR_if (xs := W.keys) int_inj (fun m => decide (n ∈ W.above m)) D.int (by have := wf.len; simp [Wd.keys]; omega) (fun m hm => ?_) ?_
  · simp [turnR, wSeq, wRet, wRetN, wIf, wAsg, wExp, wNil, wRaise, wSetF, wPut, wPar, wUnp, wCont, rVar, rC, rBin, rUn, rAnd, rOr, rNot, rAndT, rOrT, rNotT, rIfE, rNil, rCons, rTup, rLst, rCB, rFld, rDGet, rDIn, rCall, rMth, rMake, rDNew, rIs, rChain, startD, endD, onB, gNames, setAll, -List.lookup_eq_none_iff, -List.map_map, sp_above, op]
    refine ⟨A, W, [.int m], ⟨rfl, rfl⟩, ⟨h.ob, h.ij⟩, wf, m, rfl, .inr hm, ?_⟩
    refine ⟨_, inF_ints, ?_⟩
    by_cases q : n ∈ W.above m <;> simp [q]
  · simp [sortF, litems]
    rw [show W.keys.filter (fun m => decide (n ∈ W.above m)) = W.below n from rfl, wf.toWF.sorted_below]
    exact hk⟩

abbrev N_l_any_text : List Str := ["_law_more", "_law_most", "_law_signs", "_law_j"]
theorem sc_l_any_text : FnScope N_l_any_text ["_law_more", "_law_most"] (defScope s_l_any_text) := ⟨rfl, rfl, rfl, by decide +kernel, rfl, by decide +kernel, by decide +kernel⟩

theorem c_l_any_text {P : Program} {w : World} {K : PySem.W.Frag} {mg : Str → Option Value} {base : Heap} {T : List (Addr × Str)} (Ft : Facts K mg) : Cal P w K mg base T 2 "_law_any_text" 2 sp_any_text := calD Ft.d_l_any_text sc_l_any_text (fun _ _ _ _ _ _ us hl => match us, hl with | [_, _], _ => rfl) fun f => ⟨_, fun cdv A outer s H E hr => (pxs_cut (px_asg (i := 2) sc_l_any_text.nd rfl (Or.inr rfl) pm_str)
  (pxs_one (px_ret (pm_join pm_str (pm_lcR rfl sc_l_any_text.nd rfl Ft.f_range (pm_op op_mod v2_mod (pm_var 0) (pm_op op_addA v2_add (pm_var 1) pm_int)) (blkOk_by (N := N_l_any_text) (sc := defScope s_l_any_text) (by decide +kernel)) (fun _ _ _ _ _ => pg_name (i := 3) sc_l_any_text.nd rfl (Or.inl rfl)) (fun _ _ _ _ _ => pmts_nil) (fun _ _ _ _ _ => (pm_bin (pe_ix ix_seq pe_sem pe_sem (fun _ _ => rfl)) v2_ix (pm_var 2) (pm_op op_mod v2_mod (pm_call (c_l_drawn Ft) hr (by decide) rfl pas_blk (pma_cons (pm_var 0) (pma_cons (pm_var 3) pma_nil))) pm_int)))))))), by
  rintro ds g Kt hl ⟨m, rfl, hk⟩
  refine ⟨fun e g' => g' = g ∧ e = [.dat (.int m), .dat (.int 29), .dat (.str signs94), .no], ?_, ?_⟩
  · simp [wSeq, wRet, wRetN, wIf, wAsg, wExp, wNil, wRaise, wSetF, wPut, wPar, wUnp, wCont, rVar, rC, rBin, rUn, rAnd, rOr, rNot, rAndT, rOrT, rNotT, rIfE, rNil, rCons, rTup, rLst, rCB, rFld, rDGet, rDIn, rCall, rMth, rMake, rDNew, rIs, rChain, startD, endD, onB, gNames, setAll, -List.lookup_eq_none_iff, -List.map_map, signs94]
  rintro e g' ⟨rfl, rfl⟩
  simp [wSeq, wRet, wRetN, wIf, wAsg, wExp, wNil, wRaise, wSetF, wPut, wPar, wUnp, wCont, rVar, rC, rBin, rUn, rAnd, rOr, rNot, rAndT, rOrT, rNotT, rIfE, rNil, rCons, rTup, rLst, rCB, rFld, rDGet, rDIn, rCall, rMth, rMake, rDNew, rIs, rChain, startD, endD, onB, gNames, setAll, -List.lookup_eq_none_iff, -List.map_map, modF_lit, addF, rJoin, rLcR]
  have b1 := Int.emod_nonneg m (show (30 : Int) ≠ 0 by decide)
  have b2 := Int.emod_lt_of_pos m (show (0 : Int) < 30 by decide)
  have hs : (94 : Int) = signs94.cps.toList.length := by decide +kernel
  have hx : ∀ z : Int, ixF g' (.str signs94) (.int (z % 94)) = some (.str (sg (signAt signs94 (z % 94)))) ∧ signAt signs94 (z % 94) ∈ signs94.cps.toList := fun z => ixF_sign (by decide +kernel) (Int.emod_nonneg _ (by decide)) (by rw [← hs]; exact Int.emod_lt_of_pos _ (by decide))
  have hln : (List.range (m % 30).toNat).length = (m % 30).toNat := List.length_range
  refine ⟨by omega, by omega, ?_⟩
  refine lcR_map (xs := List.range (m % 30).toNat) (f := fun k : Nat => D.int (k : Int)) nat_inj (fun j => .str (sg (signAt signs94 (drawnZ m j % 94)))) (by rw [hln]; omega) (fun j hj => ?_) ?_
  · have hj' := List.mem_range.mp hj
    simp [turnR, wSeq, wRet, wRetN, wIf, wAsg, wExp, wNil, wRaise, wSetF, wPut, wPar, wUnp, wCont, rVar, rC, rBin, rUn, rAnd, rOr, rNot, rAndT, rOrT, rNotT, rIfE, rNil, rCons, rTup, rLst, rCB, rFld, rDGet, rDIn, rCall, rMth, rMake, rDNew, rIs, rChain, startD, endD, onB, gNames, setAll, -List.lookup_eq_none_iff, -List.map_map, sp_drawn]
    refine ⟨_, _, ⟨rfl, rfl⟩, by omega, by omega, ?_⟩
    simp [modF_lit]
    exact (hx _).1
  · have e := joinF_signs (g := g') (cs := (List.range (m % 30).toNat).map fun (j : Nat) => signAt signs94 (drawnZ m j % 94)) (by rw [List.length_map, hln]; omega)
    rw [List.map_map, List.map_map] at e
    refine ⟨_, e, hk _ ?_ ?_⟩
    · rw [len_cps, join_signs, List.length_map, hln]; omega
    · rw [join_signs, List.all_eq_true]
      intro c hc
      obtain ⟨j, _, rfl⟩ := List.mem_map.mp hc
      have all94 : signs94.cps.toList.all okSign = true := by decide +kernel
      exact List.all_eq_true.mp all94 _ (hx _).2⟩

end Vw

set_option Elab.async false
set_option linter.all false
set_option maxRecDepth 100000
set_option maxHeartbeats 4000000
set_option autoImplicit false
namespace Vw
open PySem PySem.Spec L2 DL
abbrev N_l_say : List Str := ["_law_own_here", "_law_by", "_law_under", "_law_text", "_law_row"]
theorem sc_l_say : FnScope N_l_say ["_law_own_here", "_law_by", "_law_under", "_law_text"] (defScope s_l_say) := ⟨rfl, rfl, rfl, by decide +kernel, rfl, by decide +kernel, by decide +kernel⟩

theorem c_l_say {P : Program} {w : World} {K : PySem.W.Frag} {mg : Str → Option Value} {base : Heap} {T : List (Addr × Str)} (Ft : Facts K mg) : Cal P w K mg base T 3 "_law_say" 4 sp_lsay := calD Ft.d_l_say sc_l_say (fun _ _ _ _ _ _ us hl => match us, hl with | [_, _, _, _], _ => rfl) fun f => ⟨_, fun cdv A outer s H E hr => (pxs_cut (px_if (pmw_t (pmw_and (pmt_cmp (op_neA hr.units) v2_ne (nomark _) (pm_var 2) pm_int) (pmw_and1 (pmt_dni (hu_of hr) (pm_var 2) (pm_dget (hu_of hr) (pm_var 0) pm_str (fun _ _ => rfl)))))) (pxs_one (px_ret (pm_tup (pma_cons pm_str (pma_cons pm_str pma_nil))))) pxs_nil)
  (pxs_cut (px_if (pmw_t (pmw_or (pmt_cmp (op_eqA hr.units) v2_eq (nomark _) (pm_len rfl Ft.f_len (pma_cons (pm_dget (hu_of hr) (pm_var 0) pm_str (fun _ _ => rfl)) pma_nil)) pm_int) (pmw_or1 (pmw_t (pmw_and (pmt_cmp (op_neA hr.units) v2_ne (nomark _) (pm_var 2) pm_int) (pmw_and1 (pmt_cmp (op_eqA hr.units) v2_eq (nomark _) (pm_len rfl Ft.f_len (pma_cons (pm_call (c_l_above Ft) hr (by decide) rfl pas_body (pma_cons (pm_var 0) (pma_cons (pm_var 2) pma_nil))) pma_nil)) pm_int))))))) (pxs_one (px_ret (pm_tup (pma_cons pm_str (pma_cons pm_str pma_nil))))) pxs_nil)
  (pxs_cut (px_put (hu_of hr) (pm_var 0) pm_str (pm_op op_addA v2_add (pm_dget (hu_of hr) (pm_var 0) pm_str (fun _ _ => rfl)) pm_int))
  (pxs_cut (px_asg (i := 4) sc_l_say.nd rfl (Or.inl rfl) (pm_disp (.cons (.cons (.cons (.cons (.cons .nil))))) (pmv_cons (pm_var 1) (pmv_cons (pm_var 2) (pmv_cons (pm_var 3) (pmv_cons (pm_dget (hu_of hr) (pm_var 0) pm_str (fun _ _ => rfl)) (pmv_cons pm_dnew pmv_nil)))))))
  (pxs_cut (px_put (hu_of hr) (pm_dget (hu_of hr) (pm_var 0) pm_str (fun _ _ => rfl)) (pm_dget (hu_of hr) (pm_var 0) pm_str (fun _ _ => rfl)) (pm_var 4))
  (pxs_one (px_ret (pm_dget (hu_of hr) (pm_var 0) pm_str (fun _ _ => rfl))))))))), by
  rintro ds g Kt hl ⟨A, W, r, rfl, h, wf, u, b, t, rfl, nl, okb, okt, hk⟩
  unfold Wd.sayR at hk
  rw [if_neg (by rw [okb]; decide)] at hk
  refine ⟨fun e g' => g' = g ∧ e = [.dat (.ref A.w), .dat (.str b), .dat (.int u), .dat (.str t), .no] ∧ isThere W u, ?_, ?_⟩
  · by_cases q : u = 0
    · simp [wSeq, wRet, wRetN, wIf, wAsg, wExp, wNil, wRaise, wSetF, wPut, wPar, wUnp, wCont, rVar, rC, rBin, rUn, rAnd, rOr, rNot, rAndT, rOrT, rNotT, rIfE, rNil, rCons, rTup, rLst, rCB, rFld, rDGet, rDIn, rCall, rMth, rMake, rDNew, rIs, rChain, startD, endD, onB, gNames, setAll, -List.lookup_eq_none_iff, -List.map_map, q, isThere]
    · simp [wSeq, wRet, wRetN, wIf, wAsg, wExp, wNil, wRaise, wSetF, wPut, wPar, wUnp, wCont, rVar, rC, rBin, rUn, rAnd, rOr, rNot, rAndT, rOrT, rNotT, rIfE, rNil, rCons, rTup, rLst, rCB, rFld, rDGet, rDIn, rCall, rMth, rMake, rDNew, rIs, rChain, startD, endD, onB, gNames, setAll, -List.lookup_eq_none_iff, -List.map_map, q, dinB, dgetF, asDict, h.hw, h.hd, DL.keyOf, dfind_cons, dfind_row]
      cases e : W.find u with
      | none =>
        rw [if_pos ⟨q, wf.toWF.find_none.mp e⟩] at hk
        simp [e]
        exact does_err h hk
      | some S => simp [isThere, q, WF.find_key e]
  rintro e g' ⟨rfl, rfl, h2⟩
  rw [if_neg (fun z => h2.elim z.1 z.2), if_neg (by rw [okt]; decide)] at hk
  refine ⟨fun e g'' => g'' = g' ∧ e = [.dat (.ref A.w), .dat (.str b), .dat (.int u), .dat (.str t), .no] ∧ ¬ (60 ≤ W.rows.length ∨ (u ≠ 0 ∧ 8 ≤ (W.above u).length)), ?_, ?_⟩
  · have hlen := wf.len
    by_cases q1 : 60 ≤ W.rows.length
    · rw [if_pos (.inl q1)] at hk
      have q2 : ((W.rows.length : Nat) : Int) = 60 := by omega
      simp [wSeq, wRet, wRetN, wIf, wAsg, wExp, wNil, wRaise, wSetF, wPut, wPar, wUnp, wCont, rVar, rC, rBin, rUn, rAnd, rOr, rNot, rAndT, rOrT, rNotT, rIfE, rNil, rCons, rTup, rLst, rCB, rFld, rDGet, rDIn, rCall, rMth, rMake, rDNew, rIs, rChain, startD, endD, onB, gNames, setAll, -List.lookup_eq_none_iff, -List.map_map, dgetF, asDict, h.hw, h.hd, DL.keyOf, dfind_cons, lenF, items, q2]
      exact does_err h hk
    · have q2 : ¬ ((W.rows.length : Nat) : Int) = 60 := by omega
      by_cases q3 : u = 0
      · simp [wSeq, wRet, wRetN, wIf, wAsg, wExp, wNil, wRaise, wSetF, wPut, wPar, wUnp, wCont, rVar, rC, rBin, rUn, rAnd, rOr, rNot, rAndT, rOrT, rNotT, rIfE, rNil, rCons, rTup, rLst, rCB, rFld, rDGet, rDIn, rCall, rMth, rMake, rDNew, rIs, rChain, startD, endD, onB, gNames, setAll, -List.lookup_eq_none_iff, -List.map_map, dgetF, asDict, h.hw, h.hd, DL.keyOf, dfind_cons, lenF, items, q2, q3, q1]
      · have hu := h2.resolve_left q3
        have dp := wf.dep u hu
        by_cases q4 : 8 ≤ (W.above u).length
        · rw [if_pos (.inr ⟨q3, q4⟩)] at hk
          have q5 : (((W.above u).length : Nat) : Int) = 8 := by omega
          simp [wSeq, wRet, wRetN, wIf, wAsg, wExp, wNil, wRaise, wSetF, wPut, wPar, wUnp, wCont, rVar, rC, rBin, rUn, rAnd, rOr, rNot, rAndT, rOrT, rNotT, rIfE, rNil, rCons, rTup, rLst, rCB, rFld, rDGet, rDIn, rCall, rMth, rMake, rDNew, rIs, rChain, startD, endD, onB, gNames, setAll, -List.lookup_eq_none_iff, -List.map_map, dgetF, asDict, h.hw, h.hd, DL.keyOf, dfind_cons, lenF, items, q2, q3, q1, sp_above, op]
          refine ⟨A, W, [.int u], ⟨rfl, rfl⟩, h, wf, u, rfl, h2, ?_⟩
          simp [lenF, items, q5]
          exact does_err h hk
        · have q5 : ¬ (((W.above u).length : Nat) : Int) = 8 := by omega
          simp [wSeq, wRet, wRetN, wIf, wAsg, wExp, wNil, wRaise, wSetF, wPut, wPar, wUnp, wCont, rVar, rC, rBin, rUn, rAnd, rOr, rNot, rAndT, rOrT, rNotT, rIfE, rNil, rCons, rTup, rLst, rCB, rFld, rDGet, rDIn, rCall, rMth, rMake, rDNew, rIs, rChain, startD, endD, onB, gNames, setAll, -List.lookup_eq_none_iff, -List.map_map, dgetF, asDict, h.hw, h.hd, DL.keyOf, dfind_cons, lenF, items, q2, q3, q1, sp_above, op]
          refine ⟨A, W, [.int u], ⟨rfl, rfl⟩, h, wf, u, rfl, h2, ?_⟩
          simp [lenF, items, q5]
          omega
  rintro e g'' ⟨rfl, rfl, h4⟩
  rw [if_neg h4] at hk
  refine ⟨fun e g' => g' = g''.set A.w (.dct [(.inr "rows", .ref A.d), (.inr "came", .int (W.came + 1)), (.inr "clock", .int W.clock)]) ∧ e = [.dat (.ref A.w), .dat (.str b), .dat (.int u), .dat (.str t), .no], ?_, ?_⟩
  · simp [wSeq, wRet, wRetN, wIf, wAsg, wExp, wNil, wRaise, wSetF, wPut, wPar, wUnp, wCont, rVar, rC, rBin, rUn, rAnd, rOr, rNot, rAndT, rOrT, rNotT, rIfE, rNil, rCons, rTup, rLst, rCB, rFld, rDGet, rDIn, rCall, rMth, rMake, rDNew, rIs, rChain, startD, endD, onB, gNames, setAll, -List.lookup_eq_none_iff, -List.map_map, dgetF, asDict, h.hw, DL.keyOf, dfind_cons, addF, nl.lk, dput]
  rintro e g' ⟨hg', rfl⟩
  have wd : A.d ≠ A.w := fun z => by have := h.ij .d .w trivial trivial z; cases this
  have gw : g'.get A.w = some (.dct [(.inr "rows", .ref A.d), (.inr "came", .int (W.came + 1)), (.inr "clock", .int W.clock)]) := by rw [hg', G.set_same]
  have gd : g'.get A.d = some (.dct (rowKvs A W)) := by rw [hg', G.set_ne wd, h.hd]
  have gl : g'.lk A.d = false := by rw [hg']; exact nl.lk A.d
  have gn : ∀ a, g'.get a = none → g''.get a = none := fun a ha => by
    rw [hg'] at ha
    by_cases z : a = A.w
    · subst z; rw [G.set_same] at ha; cases ha
    · rwa [G.set_ne z] at ha
  refine ⟨fun e g1 => ∃ x v, e = [.dat (.ref A.w), .dat (.str b), .dat (.int u), .dat (.str t), .dat (.ref x)] ∧ g'.get x = none ∧ g'.get v = none ∧ v ≠ x ∧ g1 = (g'.set v (.dct [])).set x (.dct (rowFs ⟨b, u, t, W.clock, [], false⟩ v)), ?_, ?_⟩
  · simp [wSeq, wRet, wRetN, wIf, wAsg, wExp, wNil, wRaise, wSetF, wPut, wPar, wUnp, wCont, rVar, rC, rBin, rUn, rAnd, rOr, rNot, rAndT, rOrT, rNotT, rIfE, rNil, rCons, rTup, rLst, rCB, rFld, rDGet, rDIn, rCall, rMth, rMake, rDNew, rIs, rChain, startD, endD, onB, gNames, setAll, -List.lookup_eq_none_iff, -List.map_map, rDisp, dgetF, asDict, gw, DL.keyOf, dfind_cons, mergeD, dput]
    intro v hv x hx hx'
    have ne : v ≠ x := fun z => by subst z; rw [G.set_same] at hx; cases hx
    exact ⟨hx', v, hv, ne, by simp [rowFs]⟩
  rintro e g1 ⟨x, v, rfl, hx, hv, ne, hg1⟩
  have wx : A.w ≠ x := fun z => by rw [← z, gw] at hx; cases hx
  have wv : A.w ≠ v := fun z => by rw [← z, gw] at hv; cases hv
  have dx : A.d ≠ x := fun z => by rw [← z, gd] at hx; cases hx
  have dv : A.d ≠ v := fun z => by rw [← z, gd] at hv; cases hv
  have g1w : g1.get A.w = some (.dct [(.inr "rows", .ref A.d), (.inr "came", .int (W.came + 1)), (.inr "clock", .int W.clock)]) := by rw [hg1, G.set_ne wx, G.set_ne wv, gw]
  have g1d : g1.get A.d = some (.dct (rowKvs A W)) := by rw [hg1, G.set_ne dx, G.set_ne dv, gd]
  have g1l : g1.lk A.d = false := by rw [hg1]; exact gl
  have nk : ∀ p ∈ W.rows, p.1 ≠ W.came + 1 := fun p hp z => by have := wf.pos p.1 (List.mem_map.mpr ⟨p, hp, rfl⟩); omega
  have dp : dput (rowKvs A W) (.inl (W.came + 1)) (.ref x) = rowKvs A W ++ [(.inl (W.came + 1), .ref x)] := dput_newI (f := fun p => .ref (A.s p.1)) nk
  have hlen := wf.len
  refine ⟨fun e g2 => e = [.dat (.ref A.w), .dat (.str b), .dat (.int u), .dat (.str t), .dat (.ref x)] ∧ g2 = g1.set A.d (.dct (rowKvs A W ++ [(.inl (W.came + 1), .ref x)])), ?_, ?_⟩
  · simp [wSeq, wRet, wRetN, wIf, wAsg, wExp, wNil, wRaise, wSetF, wPut, wPar, wUnp, wCont, rVar, rC, rBin, rUn, rAnd, rOr, rNot, rAndT, rOrT, rNotT, rIfE, rNil, rCons, rTup, rLst, rCB, rFld, rDGet, rDIn, rCall, rMth, rMake, rDNew, rIs, rChain, startD, endD, onB, gNames, setAll, -List.lookup_eq_none_iff, -List.map_map, dgetF, asDict, g1w, g1d, DL.keyOf, dfind_cons, g1l, dp]
    omega
  rintro e g2 ⟨rfl, hg2⟩
  obtain ⟨p1, p2⟩ := h.added wf.toWF (S := ⟨b, u, t, W.clock, [], false⟩) rfl (gn x hx) (gn v hv) ne (g' := g2) (by rw [hg2, hg1, hg'])
  have e1 := p1.hw
  simp [wSeq, wRet, wRetN, wIf, wAsg, wExp, wNil, wRaise, wSetF, wPut, wPar, wUnp, wCont, rVar, rC, rBin, rUn, rAnd, rOr, rNot, rAndT, rOrT, rNotT, rIfE, rNil, rCons, rTup, rLst, rCB, rFld, rDGet, rDIn, rCall, rMth, rMake, rDNew, rIs, rChain, startD, endD, onB, gNames, setAll, -List.lookup_eq_none_iff, -List.map_map, dgetF, asDict, DL.keyOf]
  rw [show g2.get A.w = _ from e1]
  simp [dfind_cons, Wd.add]
  exact hk g2 { A with s := upA A.s (W.came + 1) x, v := upA A.v (W.came + 1) v } rfl p1 p2⟩

def lstrikeInv (g0 : G) (A : Wa) (W : Wd) (fin : Wd × Int) (m : Nat) (e : Env') (g3 : G) : Prop :=
  ∃ Wc n' k, e = [.dat (.ref A.w), .dat (.int n'), .dat (.int k)] ∧ OwnIn g3 A Wc ∧ WFa Wc ∧ Frm g0 g3 (W.foot A) (Wc.foot A) ∧ isThere Wc n' ∧ Wd.goes m Wc n' k = fin ∧ n'.toNat ≤ m
def lstrikeEnd (g0 : G) (A : Wa) (W : Wd) (fin : Wd × Int) (e : Env') (g3 : G) : Prop :=
  ∃ n', e = [.dat (.ref A.w), .dat (.int n'), .dat (.int fin.2)] ∧ OwnIn g3 A fin.1 ∧ Frm g0 g3 (W.foot A) (fin.1.foot A)
abbrev N_l_strike : List Str := ["_law_own_here", "_law_number", "_law_many"]
theorem sc_l_strike : FnScope N_l_strike ["_law_own_here", "_law_number"] (defScope s_l_strike) := ⟨rfl, rfl, rfl, by decide +kernel, rfl, by decide +kernel, by decide +kernel⟩

theorem c_l_strike {P : Program} {w : World} {K : PySem.W.Frag} {mg : Str → Option Value} {base : Heap} {T : List (Addr × Str)} (Ft : Facts K mg) : Cal P w K mg base T 3 "_law_strike" 2 sp_lstrike := calD Ft.d_l_strike sc_l_strike (fun _ _ _ _ _ _ us hl => match us, hl with | [_, _], _ => rfl) fun f => ⟨_, fun cdv A outer s H E hr => (pxs_cut (px_put (hu_of hr) (pm_dget (hu_of hr) (pm_dget (hu_of hr) (pm_var 0) pm_str (fun _ _ => rfl)) (pm_var 1) (fun _ _ => rfl)) pm_str pm_non)
  (pxs_cut (px_asg (i := 2) sc_l_strike.nd rfl (Or.inl rfl) pm_int)
  (pxs_cut (px_while po_body (pmw_t (pmw_and (pmt_cmp (op_neA hr.units) v2_ne (nomark _) (pm_var 1) pm_int) (pmw_and (pmt_cmp op_isN v2_isN (nomark _) (pm_dget (hu_of hr) (pm_dget (hu_of hr) (pm_dget (hu_of hr) (pm_var 0) pm_str (fun _ _ => rfl)) (pm_var 1) (fun _ _ => rfl)) pm_str (fun _ _ => rfl)) pm_non) (pmw_and1 (pmt_cmp (op_eqA hr.units) v2_eq (nomark _) (pm_call (c_l_beneath Ft) hr (by decide) rfl pas_body (pma_cons (pm_var 0) (pma_cons (pm_var 1) pma_nil))) (pm_lst pma_nil)))))) (pxs_cons (px_asg (i := 1) sc_l_strike.nd rfl (Or.inl rfl) (pm_dget (hu_of hr) (pm_pop1 ⟨rfl, rfl, rfl, rfl⟩ (pm_dget (hu_of hr) (pm_var 0) pm_str (fun _ _ => rfl)) (pm_var 1)) pm_str (fun _ _ => rfl)))
  (pxs_one (px_asg (i := 2) sc_l_strike.nd rfl (Or.inl rfl) (pm_op op_addA v2_add (pm_var 2) pm_int)))))
  (pxs_one (px_ret (pm_var 2)))))), by
  rintro ds g Kt hl ⟨A, W, r, rfl, h, wf, n, S, rfl, hf, nl, hk⟩
  have hs := h.hs hf
  have nz := wf.toWF.nz (WF.find_key hf)
  have np := wf.pos n (WF.find_key hf)
  obtain ⟨p1, p2⟩ := h.putS (S' := { S with struck := true }) hf rfl
  refine ⟨fun e g1 => OwnIn g1 A (W.put n { S with struck := true }) ∧ Frm g g1 (W.foot A) ((W.put n { S with struck := true }).foot A) ∧ e = [.dat (.ref A.w), .dat (.int n), .no], ?_, ?_⟩
  · simp [wSeq, wRet, wRetN, wIf, wAsg, wExp, wNil, wRaise, wSetF, wPut, wPar, wUnp, wCont, rVar, rC, rBin, rUn, rAnd, rOr, rNot, rAndT, rOrT, rNotT, rIfE, rNil, rCons, rTup, rLst, rCB, rFld, rDGet, rDIn, rCall, rMth, rMake, rDNew, rIs, rChain, startD, endD, onB, gNames, setAll, -List.lookup_eq_none_iff, -List.map_map, dgetF, asDict, h.hw, h.hd, hs, DL.keyOf, dfind_cons, dfind_row, hf, rowFs, nl.lk, dput]
    simp [rowFs] at p1 p2
    exact ⟨p1, p2⟩
  rintro e g1 ⟨q1, q2, rfl⟩
  refine ⟨fun e g2 => g2 = g1 ∧ e = [.dat (.ref A.w), .dat (.int n), .dat (.int 0)], ?_, ?_⟩
  · simp [wSeq, wRet, wRetN, wIf, wAsg, wExp, wNil, wRaise, wSetF, wPut, wPar, wUnp, wCont, rVar, rC, rBin, rUn, rAnd, rOr, rNot, rAndT, rOrT, rNotT, rIfE, rNil, rCons, rTup, rLst, rCB, rFld, rDGet, rDIn, rCall, rMth, rMake, rDNew, rIs, rChain, startD, endD, onB, gNames, setAll, -List.lookup_eq_none_iff, -List.map_map]
  rintro e g2 ⟨rfl, rfl⟩
  obtain ⟨wf1, _⟩ := wf.toWF.put (S' := { S with struck := true }) hf rfl (wf.nam n S (WF.mem_find hf)) (wf.txt n S (WF.mem_find hf)) (wf.vnd n S (WF.mem_find hf)) (wf.vwy n S (WF.mem_find hf)) (wf.vln n S (WF.mem_find hf))
  refine ⟨lstrikeEnd g A W (Wd.goes n.toNat (W.put n { S with struck := true }) n 0), ?_, ?_⟩
  · refine ⟨lstrikeInv g A W (Wd.goes n.toNat (W.put n { S with struck := true }) n 0), ⟨n.toNat, _, n, 0, rfl, q1, ⟨wf1, wf.age⟩, q2, .inr (by rw [Wd.put_keys]; exact WF.find_key hf), rfl, Nat.le_refl _⟩, ?_⟩
    generalize Wd.goes n.toNat (W.put n { S with struck := true }) n 0 = fin
    rintro m e g3 ⟨Wc, n', k, rfl, r1, r2, r3, r4, r5, r6⟩
    have nl3 := nl.frm r3
    by_cases z : n' = 0
    · subst z
      have : Wd.goes m Wc 0 k = (Wc, k) := by cases m <;> simp [Wd.goes]
      rw [this] at r5
      subst r5
      simp [rAndT, rBin, rVar, rC, onB]
      exact ⟨0, rfl, r1, r3⟩
    · have hk' := r4.resolve_left z
      obtain ⟨S', e'⟩ := r2.toWF.key_find hk'
      have pn := r2.pos n' hk'
      obtain ⟨m, rfl⟩ : ∃ m', m = m' + 1 := ⟨m - 1, by omega⟩
      have st : Wd.goes (m + 1) Wc n' k = if S'.struck = true ∧ Wc.replies n' = [] then Wd.goes m (Wc.drop n') S'.under (k + 1) else (Wc, k) := by
        show (if n' = 0 then (Wc, k) else match Wc.find n' with | none => (Wc, k) | some S => if S.struck = true ∧ Wc.replies n' = [] then Wd.goes m (Wc.drop n') S.under (k + 1) else (Wc, k)) = _
        rw [if_neg z, e']
      rw [st] at r5
      have hs' := r1.hs e'
      have bn : Wc.below n' = [] ↔ Wc.replies n' = [] := r2.toWF.replies_nil r4
      have stop : (¬ (S'.struck = true ∧ Wc.replies n' = [])) → lstrikeEnd g A W fin [.dat (.ref A.w), .dat (.int n'), .dat (.int k)] g3 := fun q => by
        rw [if_neg q] at r5
        subst r5
        exact ⟨n', rfl, r1, r3⟩
      by_cases q1 : S'.struck = true
      · simp [rAndT, rBin, rVar, rC, onB, z, rDGet, rCall, rCons, rNil, rLst, r1.hw, r1.hd, hs', rowFs, dgetF, asDict, DL.keyOf, dfind_cons, dfind_row, e', q1, sp_beneath, op, isNF, DL.isNon]
        refine ⟨A, Wc, [.int n'], ⟨rfl, rfl⟩, r1, r2, n', rfl, ?_⟩
        by_cases q2 : Wc.replies n' = []
        · rw [if_pos ⟨q1, q2⟩] at r5
          have hu := r2.und n' S' (WF.mem_find e')
          obtain ⟨d1, d2⟩ := r1.dropS (n := n')
          obtain ⟨w1, _⟩ := r2.toWF.drop q2 z
          have sd : A.s n' ≠ A.d := fun z => by have := r1.ij (.s n') .d hk' trivial z; cases this
          have hs3 : (g3.set A.d (.dct (ddrop (rowKvs A Wc) (.inl n')))).get (A.s n') = some (.dct (rowFs S' (A.v n'))) := (G.set_ne sd).trans hs'
          refine ⟨.bl true, by have := eqF_ints (g := g3) (as := Wc.below n') (bs := []); simpa [bn.mpr q2] using this, ?_⟩
          simp [wSeq, wAsg, rPop1, rDGet, rVar, r1.hw, r1.hd, nl3.lk, DL.keyOf, dfind_cons, dfind_row, e', rBin, rC, addF, dgetF, asDict]
          rw [hs3]
          simp [rowFs, dfind_cons]
          refine ⟨m, Nat.lt_succ_self m, Wc.drop n', S'.under, k + 1, rfl, d1, ⟨w1, r2.age⟩, r3.trans d2, ?_, r5, ?_⟩
          · rcases hu with q | ⟨q, lt⟩
            · exact .inl q
            · exact .inr (Wd.mem_drop_keys.mpr ⟨q, by omega⟩)
          · rcases hu with q | ⟨q, lt⟩
            · omega
            · omega
        · have q3 : ¬ Wc.below n' = [] := fun w => q2 (bn.mp w)
          refine ⟨.bl false, by have := eqF_ints (g := g3) (as := Wc.below n') (bs := []); simpa [q3] using this, ?_⟩
          simp
          exact stop fun q => q2 q.2
      · simp [rAndT, rBin, rVar, rC, onB, z, rDGet, r1.hw, r1.hd, hs', rowFs, dgetF, asDict, DL.keyOf, dfind_cons, dfind_row, e', q1, isNF, DL.isNon]
        exact stop fun q => q1 q.1
  rintro e g3 ⟨n', rfl, r1, r2⟩
  simp [wSeq, wRet, wRetN, wIf, wAsg, wExp, wNil, wRaise, wSetF, wPut, wPar, wUnp, wCont, rVar, rC, rBin, rUn, rAnd, rOr, rNot, rAndT, rOrT, rNotT, rIfE, rNil, rCons, rTup, rLst, rCB, rFld, rDGet, rDIn, rCall, rMth, rMake, rDNew, rIs, rChain, startD, endD, onB, gNames, setAll, -List.lookup_eq_none_iff, -List.map_map]
  exact hk g3 A rfl r1 r2⟩

end Vw

set_option Elab.async false
set_option linter.all false
set_option maxRecDepth 100000
set_option maxHeartbeats 4000000
set_option autoImplicit false
namespace Vw
open PySem PySem.Spec L2 DL
abbrev N_l_act : List Str := ["_law_own_here", "_law_deed_here", "_law_word_here", "_law_number", "_law_by", "_law_row"]
theorem sc_l_act : FnScope N_l_act ["_law_own_here", "_law_deed_here"] (defScope s_l_act) := ⟨rfl, rfl, rfl, by decide +kernel, rfl, by decide +kernel, by decide +kernel⟩

theorem c_l_act {P : Program} {w : World} {K : PySem.W.Frag} {mg : Str → Option Value} {base : Heap} {T : List (Addr × Str)} (Ft : Facts K mg) : Cal P w K mg base T 4 "_law_act" 2 sp_act := calD Ft.d_l_act sc_l_act (fun _ _ _ _ _ _ us hl => match us, hl with | [_, _], _ => rfl) fun f => ⟨_, fun cdv A outer s H E hr => (pxs_cut (px_unp rfl (pm_slice (pm_var 1) pmo_none (pmo_some pm_int)) (pgd_cons (i := 2) sc_l_act.nd rfl (Or.inl rfl) (pgd_cons (i := 3) sc_l_act.nd rfl (Or.inl rfl) (pgd_cons (i := 4) sc_l_act.nd rfl (Or.inl rfl) pgd_nil))))
  (pxs_cut (px_if (pmt_cmp (op_eqA hr.units) v2_eq (nomark _) (pm_var 2) pm_str) (pxs_one (px_ret (pm_call (c_l_say Ft) hr (by decide) rfl pas_body (pma_cons (pm_var 0) (pma_cons (pm_var 4) (pma_cons (pm_var 3) (pma_cons (pm_bin (pe_ix ix_seq pe_sem pe_sem (fun _ _ => rfl)) v2_ix (pm_var 1) pm_int) pma_nil))))))) pxs_nil)
  (pxs_cut (px_if (pmt_cmp (op_eqA hr.units) v2_eq (nomark _) (pm_var 2) pm_str) (pxs_cons (px_put (hu_of hr) (pm_var 0) pm_str (pm_op op_addA v2_add (pm_dget (hu_of hr) (pm_var 0) pm_str (fun _ _ => rfl)) (pm_var 3)))
  (pxs_one (px_ret pm_non))) pxs_nil)
  (pxs_cut (px_if (pmt_dni (hu_of hr) (pm_var 3) (pm_dget (hu_of hr) (pm_var 0) pm_str (fun _ _ => rfl))) (pxs_one (px_ret (pm_tup (pma_cons pm_str (pma_cons pm_str pma_nil))))) pxs_nil)
  (pxs_cut (px_asg (i := 5) sc_l_act.nd rfl (Or.inl rfl) (pm_dget (hu_of hr) (pm_dget (hu_of hr) (pm_var 0) pm_str (fun _ _ => rfl)) (pm_var 3) (fun _ _ => rfl)))
  (pxs_cut (px_if (pmw_t (pmw_or (pmt_cmp op_isN v2_isN (nomark _) (pm_dget (hu_of hr) (pm_var 5) pm_str (fun _ _ => rfl)) pm_non) (pmw_or1 (pmt_cmp (op_eqA hr.units) v2_eq (nomark _) (pm_cmp (op_eqA hr.units) v2_eq (nomark _) (pm_dget (hu_of hr) (pm_var 5) pm_str (fun _ _ => rfl)) (pm_var 4)) (pm_cmp (op_eqA hr.units) v2_eq (nomark _) (pm_var 2) pm_str))))) (pxs_one (px_ret (pm_tup (pma_cons pm_str (pma_cons pm_str pma_nil))))) pxs_nil)
  (pxs_cut (px_if (pmt_cmp (op_eqA hr.units) v2_eq (nomark _) (pm_var 2) pm_str) (pxs_one (px_ret (pm_call (c_l_strike Ft) hr (by decide) rfl pas_body (pma_cons (pm_var 0) (pma_cons (pm_var 3) pma_nil))))) pxs_nil)
  (pxs_cut (px_if (pmt_cmp (op_eqA hr.units) v2_eq (nomark _) (pm_var 2) pm_str) (pxs_cons (px_put (hu_of hr) (pm_var 5) pm_str (pm_bin (pe_ix ix_seq pe_sem pe_sem (fun _ _ => rfl)) v2_ix (pm_var 1) pm_int))
  (pxs_one (px_ret pm_non))) pxs_nil)
  (pxs_cut (px_exp (pm_pop2 ⟨rfl, rfl, rfl, rfl⟩ (pm_dget (hu_of hr) (pm_var 5) pm_str (fun _ _ => rfl)) (pm_var 4) pm_non))
  (pxs_cut (px_if (pmt_cmp (op_neA hr.units) v2_ne (nomark _) (pm_bin (pe_ix ix_seq pe_sem pe_sem (fun _ _ => rfl)) v2_ix (pm_var 1) pm_int) pm_int) (pxs_one (px_put (hu_of hr) (pm_dget (hu_of hr) (pm_var 5) pm_str (fun _ _ => rfl)) (pm_var 4) (pm_bin (pe_ix ix_seq pe_sem pe_sem (fun _ _ => rfl)) v2_ix (pm_var 1) pm_int))) pxs_nil)
  (pxs_one (px_ret (pm_call (c_l_points Ft) hr (by decide) rfl pas_body (pma_cons (pm_var 5) pma_nil)))))))))))))), by
  rintro ds g Kt hl ⟨A, W, r, rfl, h, wf, dd, rfl, nl, ok, hk⟩
  refine ⟨fun e g' => g' = g ∧ e = [.dat (.ref A.w), .dat dd.d, .dat (.str dd.word), .dat (.int dd.num), .dat (.str dd.by_), .no], ?_, ?_⟩
  · simp [wSeq, wRet, wRetN, wIf, wAsg, wExp, wNil, wRaise, wSetF, wPut, wPar, wUnp, wCont, rVar, rC, rBin, rUn, rAnd, rOr, rNot, rAndT, rOrT, rNotT, rIfE, rNil, rCons, rTup, rLst, rCB, rFld, rDGet, rDIn, rCall, rMth, rMake, rDNew, rIs, rChain, startD, endD, onB, gNames, setAll, -List.lookup_eq_none_iff, -List.map_map, rSl, roNone, roSome, dd.cut3]
  rintro e g' ⟨rfl, rfl⟩
  refine ⟨fun e g'' => g'' = g' ∧ e = [.dat (.ref A.w), .dat dd.d, .dat (.str dd.word), .dat (.int dd.num), .dat (.str dd.by_), .no] ∧ dd.word ≠ "say", ?_, ?_⟩
  · cases dd with
    | say u b t =>
      simp [wSeq, wRet, wRetN, wIf, wAsg, wExp, wNil, wRaise, wSetF, wPut, wPar, wUnp, wCont, rVar, rC, rBin, rUn, rAnd, rOr, rNot, rAndT, rOrT, rNotT, rIfE, rNil, rCons, rTup, rLst, rCB, rFld, rDGet, rDIn, rCall, rMth, rMake, rDNew, rIs, rChain, startD, endD, onB, gNames, setAll, -List.lookup_eq_none_iff, -List.map_map, Deed.word, Deed.d, Deed.num, Deed.by_, ixF, items, atI, ixN, sp_lsay, op]
      exact ⟨A, W, [.str b, .int u, .str t], ⟨rfl, rfl⟩, h, wf, u, b, t, rfl, nl, ok.1, ok.2, hk⟩
    | _ => simp [wSeq, wRet, wRetN, wIf, wAsg, wExp, wNil, wRaise, wSetF, wPut, wPar, wUnp, wCont, rVar, rC, rBin, rUn, rAnd, rOr, rNot, rAndT, rOrT, rNotT, rIfE, rNil, rCons, rTup, rLst, rCB, rFld, rDGet, rDIn, rCall, rMth, rMake, rDNew, rIs, rChain, startD, endD, onB, gNames, setAll, -List.lookup_eq_none_iff, -List.map_map, Deed.word]
  rintro e g'' ⟨rfl, rfl, w1⟩
  refine ⟨fun e g' => g' = g'' ∧ e = [.dat (.ref A.w), .dat dd.d, .dat (.str dd.word), .dat (.int dd.num), .dat (.str dd.by_), .no] ∧ dd.word ≠ "tick", ?_, ?_⟩
  · cases dd with
    | tick m b =>
      simp [wSeq, wRet, wRetN, wIf, wAsg, wExp, wNil, wRaise, wSetF, wPut, wPar, wUnp, wCont, rVar, rC, rBin, rUn, rAnd, rOr, rNot, rAndT, rOrT, rNotT, rIfE, rNil, rCons, rTup, rLst, rCB, rFld, rDGet, rDIn, rCall, rMth, rMake, rDNew, rIs, rChain, startD, endD, onB, gNames, setAll, -List.lookup_eq_none_iff, -List.map_map, Deed.word, Deed.d, Deed.num, Deed.by_, dgetF, asDict, h.hw, DL.keyOf, dfind_cons, addF, nl.lk, dput]
      have hk' : does OwnIn A W g'' Kt (.ok ({ W with clock := W.clock + m }, .non)) := by
        have e : (Deed.tick m b).out W = .ok ({ W with clock := W.clock + m }, .non) := if_pos ok
        rw [← e]; exact hk
      exact hk' _ A rfl (h.upd (W' := { W with clock := W.clock + m }) .w trivial (fun l hl => hl) rfl (fun l _ ne => by cases l <;> first | rfl | exact absurd rfl ne)) (h.frm_upd (W' := { W with clock := W.clock + m }) .w trivial (fun l hl => hl))
    | _ => simp [wSeq, wRet, wRetN, wIf, wAsg, wExp, wNil, wRaise, wSetF, wPut, wPar, wUnp, wCont, rVar, rC, rBin, rUn, rAnd, rOr, rNot, rAndT, rOrT, rNotT, rIfE, rNil, rCons, rTup, rLst, rCB, rFld, rDGet, rDIn, rCall, rMth, rMake, rDNew, rIs, rChain, startD, endD, onB, gNames, setAll, -List.lookup_eq_none_iff, -List.map_map, Deed.word]
  rintro e g' ⟨rfl, rfl, w2⟩
  refine ⟨fun e g'' => g'' = g' ∧ e = [.dat (.ref A.w), .dat dd.d, .dat (.str dd.word), .dat (.int dd.num), .dat (.str dd.by_), .no] ∧ ∃ S, W.find dd.num = some S, ?_, ?_⟩
  · simp [wSeq, wRet, wRetN, wIf, wAsg, wExp, wNil, wRaise, wSetF, wPut, wPar, wUnp, wCont, rVar, rC, rBin, rUn, rAnd, rOr, rNot, rAndT, rOrT, rNotT, rIfE, rNil, rCons, rTup, rLst, rCB, rFld, rDGet, rDIn, rCall, rMth, rMake, rDNew, rIs, rChain, startD, endD, onB, gNames, setAll, -List.lookup_eq_none_iff, -List.map_map, dinB, dgetF, asDict, h.hw, h.hd, DL.keyOf, dfind_cons, dfind_row]
    cases e : W.find dd.num with
    | none =>
      rw [Deed.out_none w1 w2 e] at hk
      simp [e]
      exact does_err h hk
    | some S => simp [e]
  rintro e g'' ⟨rfl, rfl, S, hf⟩
  have hs := h.hs hf
  have hv := h.hv hf
  refine ⟨fun e g' => g' = g'' ∧ e = [.dat (.ref A.w), .dat dd.d, .dat (.str dd.word), .dat (.int dd.num), .dat (.str dd.by_), .dat (.ref (A.s dd.num))], ?_, ?_⟩
  · simp [wSeq, wRet, wRetN, wIf, wAsg, wExp, wNil, wRaise, wSetF, wPut, wPar, wUnp, wCont, rVar, rC, rBin, rUn, rAnd, rOr, rNot, rAndT, rOrT, rNotT, rIfE, rNil, rCons, rTup, rLst, rCB, rFld, rDGet, rDIn, rCall, rMth, rMake, rDNew, rIs, rChain, startD, endD, onB, gNames, setAll, -List.lookup_eq_none_iff, -List.map_map, dgetF, asDict, h.hw, h.hd, DL.keyOf, dfind_cons, dfind_row, hf]
  rintro e g' ⟨rfl, rfl⟩
  refine ⟨fun e g'' => g'' = g' ∧ e = [.dat (.ref A.w), .dat dd.d, .dat (.str dd.word), .dat (.int dd.num), .dat (.str dd.by_), .dat (.ref (A.s dd.num))] ∧ S.struck = false ∧ decide (S.by_ = dd.by_) ≠ decide (dd.word = "vote"), ?_, ?_⟩
  · by_cases q : S.struck = true ∨ decide (S.by_ = dd.by_) = decide (dd.word = "vote")
    · rw [Deed.out_not ok w1 w2 hf q] at hk
      have hk' := does_err h hk
      by_cases q1 : S.struck = true
      · simp [wSeq, wRet, wRetN, wIf, wAsg, wExp, wNil, wRaise, wSetF, wPut, wPar, wUnp, wCont, rVar, rC, rBin, rUn, rAnd, rOr, rNot, rAndT, rOrT, rNotT, rIfE, rNil, rCons, rTup, rLst, rCB, rFld, rDGet, rDIn, rCall, rMth, rMake, rDNew, rIs, rChain, startD, endD, onB, gNames, setAll, -List.lookup_eq_none_iff, -List.map_map, dgetF, asDict, hs, DL.keyOf, dfind_cons, rowFs, q1, isNF, DL.isNon]
        exact hk'
      · have q2 := q.resolve_left q1
        simp [wSeq, wRet, wRetN, wIf, wAsg, wExp, wNil, wRaise, wSetF, wPut, wPar, wUnp, wCont, rVar, rC, rBin, rUn, rAnd, rOr, rNot, rAndT, rOrT, rNotT, rIfE, rNil, rCons, rTup, rLst, rCB, rFld, rDGet, rDIn, rCall, rMth, rMake, rDNew, rIs, rChain, startD, endD, onB, gNames, setAll, -List.lookup_eq_none_iff, -List.map_map, dgetF, asDict, hs, DL.keyOf, dfind_cons, rowFs, q1, isNF, DL.isNon, q2]
        exact hk'
    · have q1 : ¬ S.struck = true := fun z => q (.inl z)
      have q2 : ¬ decide (S.by_ = dd.by_) = decide (dd.word = "vote") := fun z => q (.inr z)
      simp [wSeq, wRet, wRetN, wIf, wAsg, wExp, wNil, wRaise, wSetF, wPut, wPar, wUnp, wCont, rVar, rC, rBin, rUn, rAnd, rOr, rNot, rAndT, rOrT, rNotT, rIfE, rNil, rCons, rTup, rLst, rCB, rFld, rDGet, rDIn, rCall, rMth, rMake, rDNew, rIs, rChain, startD, endD, onB, gNames, setAll, -List.lookup_eq_none_iff, -List.map_map, dgetF, asDict, hs, DL.keyOf, dfind_cons, rowFs, q1, isNF, DL.isNon, q2]
  rintro e g'' ⟨rfl, rfl, n1, n2⟩
  refine ⟨fun e g' => g' = g'' ∧ e = [.dat (.ref A.w), .dat dd.d, .dat (.str dd.word), .dat (.int dd.num), .dat (.str dd.by_), .dat (.ref (A.s dd.num))] ∧ dd.word ≠ "strike", ?_, ?_⟩
  · cases dd with
    | strike n b =>
      have e1 : S.by_ = b := by
        by_cases z : S.by_ = b
        · exact z
        · exact absurd (show decide (S.by_ = (Deed.strike n b).by_) = decide ((Deed.strike n b).word = "vote") by simp [Deed.by_, Deed.word, z]) n2
      have e2 : (Deed.strike n b).out W = .ok ((Wd.goes n.toNat (W.put n { S with struck := true }) n 0).1, .int (Wd.goes n.toNat (W.put n { S with struck := true }) n 0).2) := by
        have oe := Deed.own_ok (show W.find n = some S from hf) ok e1 n1
        simp only [Deed.out, Wd.strikeR]
        rw [oe]
      rw [e2] at hk
      simp [wSeq, wRet, wRetN, wIf, wAsg, wExp, wNil, wRaise, wSetF, wPut, wPar, wUnp, wCont, rVar, rC, rBin, rUn, rAnd, rOr, rNot, rAndT, rOrT, rNotT, rIfE, rNil, rCons, rTup, rLst, rCB, rFld, rDGet, rDIn, rCall, rMth, rMake, rDNew, rIs, rChain, startD, endD, onB, gNames, setAll, -List.lookup_eq_none_iff, -List.map_map, Deed.word, Deed.num, sp_lstrike, op]
      exact ⟨A, W, [.int n], ⟨rfl, rfl⟩, h, wf, n, rfl, S, hf, nl, hk⟩
    | _ => simp [wSeq, wRet, wRetN, wIf, wAsg, wExp, wNil, wRaise, wSetF, wPut, wPar, wUnp, wCont, rVar, rC, rBin, rUn, rAnd, rOr, rNot, rAndT, rOrT, rNotT, rIfE, rNil, rCons, rTup, rLst, rCB, rFld, rDGet, rDIn, rCall, rMth, rMake, rDNew, rIs, rChain, startD, endD, onB, gNames, setAll, -List.lookup_eq_none_iff, -List.map_map, Deed.word]
  rintro e g' ⟨rfl, rfl, w3⟩
  refine ⟨fun e g'' => g'' = g' ∧ e = [.dat (.ref A.w), .dat dd.d, .dat (.str dd.word), .dat (.int dd.num), .dat (.str dd.by_), .dat (.ref (A.s dd.num))] ∧ dd.word ≠ "change", ?_, ?_⟩
  · cases dd with
    | change n b t =>
      have e1 : S.by_ = b := by
        by_cases z : S.by_ = b
        · exact z
        · exact absurd (show decide (S.by_ = (Deed.change n b t).by_) = decide ((Deed.change n b t).word = "vote") by simp [Deed.by_, Deed.word, z]) n2
      have e2 : (Deed.change n b t).out W = .ok (W.put n { S with text := t }, .non) := by
        have oe := Deed.own_ok (show W.find n = some S from hf) ok.1 e1 n1
        simp only [Deed.out, Wd.changeR]
        rw [oe]
        exact if_neg (by rw [ok.2]; decide)
      rw [e2] at hk
      obtain ⟨p1, p2⟩ := h.putS (S' := { S with text := t }) hf rfl
      have hs' : g'.get (A.s n) = some (.dct (rowFs S (A.v n))) := hs
      simp [wSeq, wRet, wRetN, wIf, wAsg, wExp, wNil, wRaise, wSetF, wPut, wPar, wUnp, wCont, rVar, rC, rBin, rUn, rAnd, rOr, rNot, rAndT, rOrT, rNotT, rIfE, rNil, rCons, rTup, rLst, rCB, rFld, rDGet, rDIn, rCall, rMth, rMake, rDNew, rIs, rChain, startD, endD, onB, gNames, setAll, -List.lookup_eq_none_iff, -List.map_map, Deed.word, Deed.num, Deed.d, ixF, items, atI, ixN, hs', nl.lk, DL.keyOf, rowFs, dput, n1]
      have q := hk _ A rfl p1 p2
      simpa [rowFs, n1, outD, Deed.num] using q
    | _ => simp [wSeq, wRet, wRetN, wIf, wAsg, wExp, wNil, wRaise, wSetF, wPut, wPar, wUnp, wCont, rVar, rC, rBin, rUn, rAnd, rOr, rNot, rAndT, rOrT, rNotT, rIfE, rNil, rCons, rTup, rLst, rCB, rFld, rDGet, rDIn, rCall, rMth, rMake, rDNew, rIs, rChain, startD, endD, onB, gNames, setAll, -List.lookup_eq_none_iff, -List.map_map, Deed.word]
  rintro e g'' ⟨rfl, rfl, w4⟩
  obtain ⟨n, b, y, rfl⟩ : ∃ n b y, dd = .vote n b y := by
    cases dd with
    | vote n b y => exact ⟨n, b, y, rfl⟩
    | say u b t => exact absurd rfl w1
    | tick m b => exact absurd rfl w2
    | strike n b => exact absurd rfl w3
    | change n b t => exact absurd rfl w4
  have e1 : ¬ S.by_ = b := fun z => n2 (by simp [Deed.by_, Deed.word, z])
  obtain ⟨o1, o2⟩ := ok
  have nd := wf.vnd n S (WF.mem_find hf)
  have wy := wf.vwy n S (WF.mem_find hf)
  have e2 : (Deed.vote n b y).out W = .ok ({ W with age := W.age + 1 }.put n { S with votes := Wd.votesSet S.votes b y }, .int ({ S with votes := Wd.votesSet S.votes b y } : Say).pts) := by
    have hf' : W.find n = some S := hf
    simp only [Deed.out, Wd.voteR, hf']
    rw [if_neg (by rw [o1]; decide), if_neg (fun z => z o2), if_neg (by simp [e1, n1])]
    rfl
  rw [e2] at hk
  have hln2 : (Wd.votesSet S.votes b y).length ≤ 60000 := by
    have h1 := votesSet_len (vs := S.votes) (b := b) (w := y)
    have h2 := wf.vln n S (WF.mem_find hf)
    have h3 := wf.age
    omega
  have fln : (S.votes.filter fun p => decide (p.1 ≠ b)).length < 100000 := Nat.lt_of_le_of_lt (List.length_filter_le _ _) (by have := wf.vln n S (WF.mem_find hf); have := wf.age; omega)
  have fne : ∀ p ∈ S.votes.filter (fun p => decide (p.1 ≠ b)), p.1 ≠ b := fun p hp => by simpa using (List.mem_filter.mp hp).2
  have sv : A.s n ≠ A.v n := fun z => by have := h.ij (.s n) (.v n) (WF.find_key hf) (WF.find_key hf) z; cases this
  simp only [Deed.num, Deed.by_, Deed.word] at hs hv
  refine ⟨fun e g' => e = [.dat (.ref A.w), .dat (Deed.vote n b y).d, .dat (.str "vote"), .dat (.int n), .dat (.str b), .dat (.ref (A.s n))] ∧ g'.get (A.s n) = some (.dct (rowFs S (A.v n))) ∧ g'.get (A.v n) = some (.dct ((S.votes.filter fun p => decide (p.1 ≠ b)).map fun p => ((.inr p.1 : Key), D.int p.2))) ∧ g'.lk = g''.lk ∧ ((g' = g'' ∧ S.votes.filter (fun p => decide (p.1 ≠ b)) = S.votes) ∨ g' = g''.set (A.v n) (.dct ((S.votes.filter fun p => decide (p.1 ≠ b)).map fun p => ((.inr p.1 : Key), D.int p.2)))), ?_, ?_⟩
  · simp only [Deed.num, Deed.by_, Deed.word, wSeq, wRet, wRetN, wIf, wAsg, wExp, wNil, wRaise, wSetF, wPut, wPar, wUnp, wCont, rVar, rC, rBin, rUn, rAnd, rOr, rNot, rAndT, rOrT, rNotT, rIfE, rNil, rCons, rTup, rLst, rCB, rFld, rDGet, rDIn, rCall, rMth, rMake, rDNew, rIs, rChain, startD, endD, onB, gNames, setAll, -List.lookup_eq_none_iff, -List.map_map, rPop2, DL.keyOf, onV_val, onD_val, List.getElem?_cons_succ, List.getElem?_cons_zero, Option.some.injEq, Slot.dat.injEq, exists_eq_left', exists_eq_left]
    refine ⟨.ref (A.v n), by simp [dgetF, asDict, hs, DL.keyOf, rowFs, dfind_cons], A.v n, _, rfl, hv, _, _, hv, nl.lk _, rfl, fun v hv' => ?_, fun hv' => ?_⟩
    · refine ⟨by first | trivial | rfl, (G.set_ne sv).trans hs, by rw [G.set_same, ddrop_votes], by first | trivial | rfl, .inr (by rw [ddrop_votes])⟩
    · have hz : S.votes.lookup b = none := by
        rw [dfind_vote] at hv'
        simpa using hv'
      have := votes_none hz
      exact ⟨by first | trivial | rfl, hs, by rw [this]; exact hv, by first | trivial | rfl, .inl ⟨by first | trivial | rfl, this⟩⟩
  rintro e g' ⟨rfl, gs, gv, glk, hg'⟩
  refine ⟨fun e g1 => e = [.dat (.ref A.w), .dat (Deed.vote n b y).d, .dat (.str "vote"), .dat (.int n), .dat (.str b), .dat (.ref (A.s n))] ∧ ((g1 = g'' ∧ Wd.votesSet S.votes b y = S.votes) ∨ g1 = g''.set (A.v n) (.dct ((Wd.votesSet S.votes b y).map fun p => (.inr p.1, .int p.2)))), ?_, ?_⟩
  · by_cases z : y = 0
    · subst z
      rw [votesSet_0]
      simp [wSeq, wRet, wRetN, wIf, wAsg, wExp, wNil, wRaise, wSetF, wPut, wPar, wUnp, wCont, rVar, rC, rBin, rUn, rAnd, rOr, rNot, rAndT, rOrT, rNotT, rIfE, rNil, rCons, rTup, rLst, rCB, rFld, rDGet, rDIn, rCall, rMth, rMake, rDNew, rIs, rChain, startD, endD, onB, gNames, setAll, -List.lookup_eq_none_iff, -List.map_map, Deed.d, ixF, items, atI, ixN]
      simpa using hg'
    · simp only [wSeq, wRet, wRetN, wIf, wAsg, wExp, wNil, wRaise, wSetF, wPut, wPar, wUnp, wCont, rVar, rC, rBin, rUn, rAnd, rOr, rNot, rAndT, rOrT, rNotT, rIfE, rNil, rCons, rTup, rLst, rCB, rFld, rDGet, rDIn, rCall, rMth, rMake, rDNew, rIs, rChain, startD, endD, onB, gNames, setAll, -List.lookup_eq_none_iff, -List.map_map, Deed.d, z, List.getElem?_cons_succ, List.getElem?_cons_zero, Option.some.injEq, Slot.dat.injEq, exists_eq_left', exists_eq_left, onV_val, onD_val, onB_val]
      refine ⟨.int y, by simp [ixF, items, atI, ixN], .bl true, by simp [z], ?_⟩
      dsimp only
      rw [if_pos rfl]
      refine ⟨.int y, by simp [ixF, items, atI, ixN], .ref (A.v n), by simp [dgetF, asDict, gs, DL.keyOf, rowFs, dfind_cons], A.v n, _, _, rfl, gv, by rw [glk]; exact nl.lk _, rfl, by rw [List.length_map]; exact fln, trivial, .inr ?_⟩
      rw [dput_new fne, ← votesSet_1 z]
      rcases hg' with ⟨rfl, _⟩ | rfl
      · rfl
      · rw [G.set_set]
  rintro e g1 ⟨rfl, hg1⟩
  obtain ⟨p1, p2, p3⟩ := h.voted wf hf (votesSet_nd (b := b) (w := y) nd) hln2 hg1
  simp [wSeq, wRet, wRetN, wIf, wAsg, wExp, wNil, wRaise, wSetF, wPut, wPar, wUnp, wCont, rVar, rC, rBin, rUn, rAnd, rOr, rNot, rAndT, rOrT, rNotT, rIfE, rNil, rCons, rTup, rLst, rCB, rFld, rDGet, rDIn, rCall, rMth, rMake, rDNew, rIs, rChain, startD, endD, onB, gNames, setAll, -List.lookup_eq_none_iff, -List.map_map, sp_lpoints]
  exact ⟨_, _, p3, fun a c hp => votesSet_wy wy o2 (a, c) hp, hk g1 A rfl p1 p2⟩⟩

end Vw

set_option Elab.async false
set_option linter.all false
set_option maxRecDepth 100000
set_option maxHeartbeats 4000000
set_option autoImplicit false
namespace Vw
open PySem PySem.Spec L2 DL
abbrev N_l_deed : List Str := ["_law_more", "_law_own_here", "_law_here", "_law_names", "_law_numbers", "_law_number", "_law_by", "_law_text", "_law_way"]
theorem sc_l_deed : FnScope N_l_deed ["_law_more", "_law_own_here"] (defScope s_l_deed) := ⟨rfl, rfl, rfl, by decide +kernel, rfl, by decide +kernel, by decide +kernel⟩

theorem c_l_deed {P : Program} {w : World} {K : PySem.W.Frag} {mg : Str → Option Value} {base : Heap} {T : List (Addr × Str)} (Ft : Facts K mg) : Cal P w K mg base T 3 "_law_deed" 2 sp_deed := calD Ft.d_l_deed sc_l_deed (fun _ _ _ _ _ _ us hl => match us, hl with | [_, _], _ => rfl) fun f => ⟨_, fun cdv A outer s H E hr => (pxs_cut (px_asg (i := 2) sc_l_deed.nd rfl (Or.inl rfl) (pm_op op_fdivW v2_div (pm_var 0) pm_int))
  (pxs_cut (px_asg (i := 3) sc_l_deed.nd rfl (Or.inl rfl) (pm_lst (pma_cons pm_str (pma_cons pm_str (pma_cons pm_str (pma_cons pm_str (pma_cons pm_str (pma_cons pm_str pma_nil))))))))
  (pxs_cut (px_asg (i := 4) sc_l_deed.nd rfl (Or.inl rfl) (pm_cat (pm_sorted rfl rfl Ft.f_sorted (pma_cons (pm_dget (hu_of hr) (pm_var 1) pm_str (fun _ _ => rfl)) pma_nil)) (pm_lst (pma_cons (pm_op op_addA v2_add (pm_dget (hu_of hr) (pm_var 1) pm_str (fun _ _ => rfl)) pm_int) pma_nil))))
  (pxs_cut (px_par (i := 5) (j := 6) rfl sc_l_deed.nd rfl rfl (by decide) (pma_cons (pm_bin (pe_ix ix_seq pe_sem pe_sem (fun _ _ => rfl)) v2_ix (pm_var 4) (pm_op op_mod v2_mod (pm_var 2) (pm_len rfl Ft.f_len (pma_cons (pm_var 4) pma_nil)))) (pma_cons (pm_bin (pe_ix ix_seq pe_sem pe_sem (fun _ _ => rfl)) v2_ix (pm_var 3) (pm_op op_mod v2_mod (pm_op op_fdivW v2_div (pm_var 2) pm_int) pm_int)) pma_nil)))
  (pxs_cut (px_asg (i := 7) sc_l_deed.nd rfl (Or.inl rfl) (pm_op op_mulA v2_mul (pm_bin (pe_ix ix_seq pe_sem pe_sem (fun _ _ => rfl)) v2_ix pm_str (pm_op op_mod v2_mod (pm_op op_fdivW v2_div (pm_var 2) pm_int) pm_int)) (pm_op op_addA v2_add pm_int (pm_op op_mod v2_mod (pm_op op_fdivW v2_div (pm_var 2) pm_int) (pm_bin (pe_ix ix_seq pe_sem pe_sem (fun _ _ => rfl)) v2_ix (pm_lst (pma_cons pm_int (pma_cons pm_int pma_nil))) (pm_op op_mod v2_mod (pm_op op_fdivW v2_div (pm_var 2) (pm_op op_pow v2_pow pm_int pm_int)) pm_int))))))
  (pxs_cut (px_if (pmw_t (pmw_and (pmt_cmp (op_eqA hr.units) v2_eq (nomark _) (pm_op op_mod v2_mod (pm_op op_fdivW v2_div (pm_var 2) (pm_op op_pow v2_pow pm_int pm_int)) pm_int) pm_int) (pmw_and1 (pmt_cmp (op_neA hr.units) v2_ne (nomark _) (pm_op op_mod v2_mod (pm_var 0) pm_int) pm_int)))) (pxs_one (px_asg (i := 7) sc_l_deed.nd rfl (Or.inl rfl) (pm_op op_addA v2_add (pm_call (c_l_any_text Ft) hr (by decide) rfl pas_body (pma_cons (pm_op op_fdivW v2_div (pm_var 2) (pm_op op_pow v2_pow pm_int pm_int)) (pma_cons pm_int pma_nil))) pm_str))) pxs_nil)
  (pxs_cut (px_if (pmt_cmp (op_eqA hr.units) v2_eq (nomark _) (pm_op op_mod v2_mod (pm_op op_fdivW v2_div (pm_var 2) (pm_op op_pow v2_pow pm_int pm_int)) pm_int) pm_int) (pxs_one (px_asg (i := 6) sc_l_deed.nd rfl (Or.inl rfl) (pm_call (c_l_any_name Ft) hr (by decide) rfl pas_body (pma_cons (pm_op op_fdivW v2_div (pm_var 2) (pm_op op_pow v2_pow pm_int pm_int)) (pma_cons pm_int pma_nil))))) pxs_nil)
  (pxs_cut (px_asg (i := 8) sc_l_deed.nd rfl (Or.inl rfl) (pm_op op_mod v2_mod (pm_var 0) pm_int))
  (pxs_cut (px_if (pmt_cmp op_lt v2_lt (nomark _) (pm_var 8) pm_int) (pxs_one (px_ret (pm_tup (pma_cons pm_str (pma_cons (pm_ifE (pmt_cmp op_lt v2_lt (nomark _) (pm_var 8) pm_int) pm_int (pm_var 5)) (pma_cons (pm_var 6) (pma_cons (pm_var 7) pma_nil))))))) pxs_nil)
  (pxs_cut (px_if (pmt_cmp op_lt v2_lt (nomark _) (pm_var 8) pm_int) (pxs_one (px_ret (pm_tup (pma_cons pm_str (pma_cons (pm_var 5) (pma_cons (pm_var 6) (pma_cons (pm_bin (pe_ix ix_seq pe_sem pe_sem (fun _ _ => rfl)) v2_ix (pm_lst (pma_cons pm_int (pma_cons (pm_neg pm_int) (pma_cons pm_int (pma_cons (pm_neg pm_int) (pma_cons pm_int pma_nil)))))) (pm_op op_mod v2_mod (pm_op op_fdivW v2_div (pm_var 2) (pm_op op_pow v2_pow pm_int pm_int)) pm_int)) pma_nil))))))) pxs_nil)
  (pxs_cut (px_if (pmt_cmp (op_eqA hr.units) v2_eq (nomark _) (pm_var 8) pm_int) (pxs_one (px_ret (pm_tup (pma_cons pm_str (pma_cons (pm_bin (pe_ix ix_seq pe_sem pe_sem (fun _ _ => rfl)) v2_ix (pm_lst (pma_cons pm_int (pma_cons pm_int (pma_cons pm_int (pma_cons pm_int (pma_cons pm_int pma_nil)))))) (pm_op op_mod v2_mod (pm_op op_fdivW v2_div (pm_var 2) (pm_op op_pow v2_pow pm_int pm_int)) pm_int)) (pma_cons (pm_var 6) pma_nil)))))) pxs_nil)
  (pxs_cut (px_if (pmw_t (pmw_and (pmt_din (hu_of hr) (pm_var 5) (pm_dget (hu_of hr) (pm_var 1) pm_str (fun _ _ => rfl))) (pmw_and1 (pmt_cmp op_gt v2_gt (nomark _) (pm_op op_mod v2_mod (pm_op op_fdivW v2_div (pm_var 2) (pm_op op_pow v2_pow pm_int pm_int)) pm_int) pm_int)))) (pxs_one (px_asg (i := 6) sc_l_deed.nd rfl (Or.inl rfl) (pm_dget (hu_of hr) (pm_dget (hu_of hr) (pm_dget (hu_of hr) (pm_var 1) pm_str (fun _ _ => rfl)) (pm_var 5) (fun _ _ => rfl)) pm_str (fun _ _ => rfl)))) pxs_nil)
  (pxs_one (px_ret (pm_ifE (pmt_cmp op_lt v2_lt (nomark _) (pm_var 8) pm_int) (pm_tup (pma_cons pm_str (pma_cons (pm_var 5) (pma_cons (pm_var 6) pma_nil)))) (pm_tup (pma_cons pm_str (pma_cons (pm_var 5) (pma_cons (pm_var 6) (pma_cons (pm_var 7) pma_nil)))))))))))))))))))), by
  rintro ds g Kt hl ⟨m, A, W, rfl, m0, m1, h, wf, tl, nm, hk⟩
  obtain ⟨hr', hhr⟩ : ∃ z, z = m / 64 := ⟨_, rfl⟩
  refine ⟨fun e g' => g' = g ∧ e = [.dat (.int m), .dat (.ref A.w), .dat (.int hr'), .no, .no, .no, .no, .no, .no], ?_, ?_⟩
  · simp [wSeq, wRet, wRetN, wIf, wAsg, wExp, wNil, wRaise, wSetF, wPut, wPar, wUnp, wCont, rVar, rC, rBin, rUn, rAnd, rOr, rNot, rAndT, rOrT, rNotT, rIfE, rNil, rCons, rTup, rLst, rCB, rFld, rDGet, rDIn, rCall, rMth, rMake, rDNew, rIs, rChain, startD, endD, onB, gNames, setAll, -List.lookup_eq_none_iff, -List.map_map, divF_lit, hhr]
  rintro e g' ⟨rfl, rfl⟩
  refine ⟨fun e g'' => g'' = g' ∧ e = [.dat (.int m), .dat (.ref A.w), .dat (.int hr'), .dat (.lst names6), .no, .no, .no, .no, .no], ?_, ?_⟩
  · simp [wSeq, wRet, wRetN, wIf, wAsg, wExp, wNil, wRaise, wSetF, wPut, wPar, wUnp, wCont, rVar, rC, rBin, rUn, rAnd, rOr, rNot, rAndT, rOrT, rNotT, rIfE, rNil, rCons, rTup, rLst, rCB, rFld, rDGet, rDIn, rCall, rMth, rMake, rDNew, rIs, rChain, startD, endD, onB, gNames, setAll, -List.lookup_eq_none_iff, -List.map_map, names6]
  rintro e g'' ⟨rfl, rfl⟩
  have hlen := wf.len
  refine ⟨fun e g' => g' = g'' ∧ e = [.dat (.int m), .dat (.ref A.w), .dat (.int hr'), .dat (.lst names6), .dat (.lst ((W.keys ++ [W.came + 1]).map D.int)), .no, .no, .no, .no], ?_, ?_⟩
  · simp [wSeq, wRet, wRetN, wIf, wAsg, wExp, wNil, wRaise, wSetF, wPut, wPar, wUnp, wCont, rVar, rC, rBin, rUn, rAnd, rOr, rNot, rAndT, rOrT, rNotT, rIfE, rNil, rCons, rTup, rLst, rCB, rFld, rDGet, rDIn, rCall, rMth, rMake, rDNew, rIs, rChain, startD, endD, onB, gNames, setAll, -List.lookup_eq_none_iff, -List.map_map, rCatD, dgetF, asDict, h.hw, h.hd, DL.keyOf, dfind_cons, sortF, litems, rowKvs_keys, addF]
    refine ⟨_, ⟨by simp [Wd.keys]; omega, rfl⟩, _, ⟨rfl, ?_⟩⟩
    rw [wf.toWF.sorted_keys]
    refine ⟨tl, by simp [Wd.keys]; omega, rfl⟩
  rintro e g' ⟨rfl, rfl⟩
  refine ⟨fun e g'' => g'' = g' ∧ ∃ n b, okName (.str b) = true ∧ e = [.dat (.int m), .dat (.ref A.w), .dat (.int hr'), .dat (.lst names6), .dat (.lst ((W.keys ++ [W.came + 1]).map D.int)), .dat (.int n), .dat (.str b), .no, .no], ?_, ?_⟩
  · have kl : (W.keys ++ [W.came + 1]).length = W.rows.length + 1 := by simp [Wd.keys]
    obtain ⟨c0, c1⟩ := emod_bd hr' (show (0 : Int) < ((W.keys ++ [W.came + 1]).length : Nat) by rw [kl]; omega)
    obtain ⟨n, e1, _⟩ := atI_lt (xs := W.keys ++ [W.came + 1]) c0 c1
    obtain ⟨d0, d1⟩ := emod_bd (hr' / 128) (show (0 : Int) < 6 by decide)
    obtain ⟨b, e2, e3⟩ := atI_names d0 d1
    have e4 : ixF g' (.lst ((W.keys ++ [W.came + 1]).map D.int)) (.int (hr' % ((W.keys ++ [W.came + 1]).length : Nat))) = some (.int n) := by
      simp only [ixF, items, Option.bind_some, atI_map, e1, Option.map_some]
    have e5 : ixF g' (.lst names6) (.int (hr' / 128 % 6)) = some (.str b) := by simp only [ixF, items, Option.bind_some, e2]
    have e6 := modF_lit (g := g') (i := hr') (show (0 : Int) < ((W.keys ++ [W.came + 1]).length : Nat) by rw [kl]; omega)
    have e7 : lenF g' [.lst ((W.keys ++ [W.came + 1]).map D.int)] = some (.int ((W.keys ++ [W.came + 1]).length : Nat)) := by simp only [lenF, items, List.length_map]
    simp only [wSeq, wRet, wRetN, wIf, wAsg, wExp, wNil, wRaise, wSetF, wPut, wPar, wUnp, wCont, rVar, rC, rBin, rUn, rAnd, rOr, rNot, rAndT, rOrT, rNotT, rIfE, rNil, rCons, rTup, rLst, rCB, rFld, rDGet, rDIn, rCall, rMth, rMake, rDNew, rIs, rChain, startD, endD, onB, gNames, setAll, -List.lookup_eq_none_iff, -List.map_map, onDA_ok, onDA_error, onA_ok, onV_val, List.getElem?_cons_succ, List.getElem?_cons_zero, Option.some.injEq, Slot.dat.injEq, exists_eq_left', e7, e6, e4, e5, divF_lit (show (0 : Int) < 128 by decide) (show (128 : Int) < 2 ^ 200 by decide), modF_lit (show (0 : Int) < 6 by decide)]
    exact ⟨_, _, rfl, by first | trivial | rfl, n, b, e3, rfl⟩
  rintro e g'' ⟨rfl, n, b, okb, rfl⟩
  refine ⟨fun e g' => g' = g'' ∧ ∃ t, okText (.str t) = true ∧ e = [.dat (.int m), .dat (.ref A.w), .dat (.int hr'), .dat (.lst names6), .dat (.lst ((W.keys ++ [W.came + 1]).map D.int)), .dat (.int n), .dat (.str b), .dat (.str t), .no], ?_, ?_⟩
  · obtain ⟨c0, c1⟩ := emod_bd (hr' / 1024) (show (0 : Int) < 8 by decide)
    obtain ⟨c, e1, e2⟩ := ixF_txt8 (g := g'') c0 c1
    obtain ⟨d0, d1⟩ := emod_bd (hr' / 1048576) (show (0 : Int) < 2 by decide)
    obtain ⟨l, e3, e4⟩ := atI_5_30 d0 d1
    have l0 : 0 < l := by omega
    obtain ⟨f0, f1⟩ := emod_bd (hr' / 8192) l0
    have e5 : ixF g'' (.lst [.int 5, .int 30]) (.int (hr' / 1048576 % 2)) = some (.int l) := by simp only [ixF, items, Option.bind_some, e3]
    have e6 := mulF_sg (g := g'') (c := c) (n := 1 + hr' / 8192 % l) (by omega) (by omega)
    have e7 := okText_mul (c := c) (n := 1 + hr' / 8192 % l) (by omega) (by omega) e2
    have ep : powF g'' (.int 2) (.int 20) = some (.int 1048576) := powF_2 (by decide) (by decide)
    simp only [txt8] at e1
    simp [wSeq, wRet, wRetN, wIf, wAsg, wExp, wNil, wRaise, wSetF, wPut, wPar, wUnp, wCont, rVar, rC, rBin, rUn, rAnd, rOr, rNot, rAndT, rOrT, rNotT, rIfE, rNil, rCons, rTup, rLst, rCB, rFld, rDGet, rDIn, rCall, rMth, rMake, rDNew, rIs, rChain, startD, endD, onB, gNames, setAll, -List.lookup_eq_none_iff, -List.map_map, divF_lit, modF_lit, ep, e1, e5, l0, addF, e6]
    exact e7
  rintro e g' ⟨rfl, t, okt, rfl⟩
  refine ⟨fun e g'' => g'' = g' ∧ ∃ t, okText (.str t) = true ∧ e = [.dat (.int m), .dat (.ref A.w), .dat (.int hr'), .dat (.lst names6), .dat (.lst ((W.keys ++ [W.came + 1]).map D.int)), .dat (.int n), .dat (.str b), .dat (.str t), .no], ?_, ?_⟩
  · have ep : powF g' (.int 2) (.int 22) = some (.int 4194304) := powF_2 (by decide) (by decide)
    have ep2 : powF g' (.int 2) (.int 30) = some (.int 1073741824) := powF_2 (by decide) (by decide)
    simp [wSeq, wRet, wRetN, wIf, wAsg, wExp, wNil, wRaise, wSetF, wPut, wPar, wUnp, wCont, rVar, rC, rBin, rUn, rAnd, rOr, rNot, rAndT, rOrT, rNotT, rIfE, rNil, rCons, rTup, rLst, rCB, rFld, rDGet, rDIn, rCall, rMth, rMake, rDNew, rIs, rChain, startD, endD, onB, gNames, setAll, -List.lookup_eq_none_iff, -List.map_map, divF_lit, modF_lit, ep, ep2, sp_any_text]
    by_cases q1 : hr' / 4194304 % 4 = 0
    · by_cases q2 : m % 16 = 12
      · simp [q1, q2]; exact okt
      · simp [q1, q2, addF]
        intro x x1 x2
        have xl : ("x" : Str).length = 1 := rfl
        exact ⟨_, ⟨by omega, rfl⟩, _, okText_x x1 (by rw [List.all_eq_true]; intro c hc; obtain ⟨i, hi, rfl⟩ := List.getElem_of_mem hc; simpa using x2 i (by simpa using hi)), rfl⟩
    · simp [q1]; exact okt
  rintro e g'' ⟨rfl, t, okt, rfl⟩
  refine ⟨fun e g' => g' = g'' ∧ ∃ b, okName (.str b) = true ∧ e = [.dat (.int m), .dat (.ref A.w), .dat (.int hr'), .dat (.lst names6), .dat (.lst ((W.keys ++ [W.came + 1]).map D.int)), .dat (.int n), .dat (.str b), .dat (.str t), .no], ?_, ?_⟩
  · have ep : powF g'' (.int 2) (.int 22) = some (.int 4194304) := powF_2 (by decide) (by decide)
    have ep2 : powF g'' (.int 2) (.int 30) = some (.int 1073741824) := powF_2 (by decide) (by decide)
    simp [wSeq, wRet, wRetN, wIf, wAsg, wExp, wNil, wRaise, wSetF, wPut, wPar, wUnp, wCont, rVar, rC, rBin, rUn, rAnd, rOr, rNot, rAndT, rOrT, rNotT, rIfE, rNil, rCons, rTup, rLst, rCB, rFld, rDGet, rDIn, rCall, rMth, rMake, rDNew, rIs, rChain, startD, endD, onB, gNames, setAll, -List.lookup_eq_none_iff, -List.map_map, divF_lit, modF_lit, ep, ep2, sp_any_name]
    by_cases q1 : hr' / 4194304 % 16 = 1
    · simp [q1]
    · simp [q1]; exact okb
  rintro e g' ⟨rfl, b, okb, rfl⟩
  refine ⟨fun e g'' => g'' = g' ∧ e = [.dat (.int m), .dat (.ref A.w), .dat (.int hr'), .dat (.lst names6), .dat (.lst ((W.keys ++ [W.came + 1]).map D.int)), .dat (.int n), .dat (.str b), .dat (.str t), .dat (.int (m % 16))], ?_, ?_⟩
  · simp [wSeq, wRet, wRetN, wIf, wAsg, wExp, wNil, wRaise, wSetF, wPut, wPar, wUnp, wCont, rVar, rC, rBin, rUn, rAnd, rOr, rNot, rAndT, rOrT, rNotT, rIfE, rNil, rCons, rTup, rLst, rCB, rFld, rDGet, rDIn, rCall, rMth, rMake, rDNew, rIs, rChain, startD, endD, onB, gNames, setAll, -List.lookup_eq_none_iff, -List.map_map, modF_lit]
  rintro e g'' ⟨rfl, rfl⟩
  refine ⟨fun e g' => g' = g'' ∧ e = [.dat (.int m), .dat (.ref A.w), .dat (.int hr'), .dat (.lst names6), .dat (.lst ((W.keys ++ [W.came + 1]).map D.int)), .dat (.int n), .dat (.str b), .dat (.str t), .dat (.int (m % 16))], ?_, ?_⟩
  · by_cases q : m % 16 < 7
    · by_cases q2 : m % 16 < 2
      · simp [wSeq, wRet, wRetN, wIf, wAsg, wExp, wNil, wRaise, wSetF, wPut, wPar, wUnp, wCont, rVar, rC, rBin, rUn, rAnd, rOr, rNot, rAndT, rOrT, rNotT, rIfE, rNil, rCons, rTup, rLst, rCB, rFld, rDGet, rDIn, rCall, rMth, rMake, rDNew, rIs, rChain, startD, endD, onB, gNames, setAll, -List.lookup_eq_none_iff, -List.map_map, ltF, q, q2]
        exact hk (.say 0 b t) ⟨okb, okt⟩
      · simp [wSeq, wRet, wRetN, wIf, wAsg, wExp, wNil, wRaise, wSetF, wPut, wPar, wUnp, wCont, rVar, rC, rBin, rUn, rAnd, rOr, rNot, rAndT, rOrT, rNotT, rIfE, rNil, rCons, rTup, rLst, rCB, rFld, rDGet, rDIn, rCall, rMth, rMake, rDNew, rIs, rChain, startD, endD, onB, gNames, setAll, -List.lookup_eq_none_iff, -List.map_map, ltF, q, q2]
        exact hk (.say n b t) ⟨okb, okt⟩
    · simp [wSeq, wRet, wRetN, wIf, wAsg, wExp, wNil, wRaise, wSetF, wPut, wPar, wUnp, wCont, rVar, rC, rBin, rUn, rAnd, rOr, rNot, rAndT, rOrT, rNotT, rIfE, rNil, rCons, rTup, rLst, rCB, rFld, rDGet, rDIn, rCall, rMth, rMake, rDNew, rIs, rChain, startD, endD, onB, gNames, setAll, -List.lookup_eq_none_iff, -List.map_map, ltF, q]
  rintro e g' ⟨rfl, rfl⟩
  refine ⟨fun e g'' => g'' = g' ∧ e = [.dat (.int m), .dat (.ref A.w), .dat (.int hr'), .dat (.lst names6), .dat (.lst ((W.keys ++ [W.came + 1]).map D.int)), .dat (.int n), .dat (.str b), .dat (.str t), .dat (.int (m % 16))], ?_, ?_⟩
  · by_cases q : m % 16 < 12
    · have ep : powF g' (.int 2) (.int 24) = some (.int 16777216) := powF_2 (by decide) (by decide)
      obtain ⟨d0, d1⟩ := emod_bd (hr' / 16777216) (show (0 : Int) < 5 by decide)
      obtain ⟨y, e3, e4⟩ := atI_ways d0 d1
      simp [wSeq, wRet, wRetN, wIf, wAsg, wExp, wNil, wRaise, wSetF, wPut, wPar, wUnp, wCont, rVar, rC, rBin, rUn, rAnd, rOr, rNot, rAndT, rOrT, rNotT, rIfE, rNil, rCons, rTup, rLst, rCB, rFld, rDGet, rDIn, rCall, rMth, rMake, rDNew, rIs, rChain, startD, endD, onB, gNames, setAll, -List.lookup_eq_none_iff, -List.map_map, ltF, q, ep, divF_lit, modF_lit, ixF, items, negF, e3]
      exact hk (.vote n b y) ⟨okb, e4⟩
    · simp [wSeq, wRet, wRetN, wIf, wAsg, wExp, wNil, wRaise, wSetF, wPut, wPar, wUnp, wCont, rVar, rC, rBin, rUn, rAnd, rOr, rNot, rAndT, rOrT, rNotT, rIfE, rNil, rCons, rTup, rLst, rCB, rFld, rDGet, rDIn, rCall, rMth, rMake, rDNew, rIs, rChain, startD, endD, onB, gNames, setAll, -List.lookup_eq_none_iff, -List.map_map, ltF, q]
  rintro e g'' ⟨rfl, rfl⟩
  refine ⟨fun e g' => g' = g'' ∧ e = [.dat (.int m), .dat (.ref A.w), .dat (.int hr'), .dat (.lst names6), .dat (.lst ((W.keys ++ [W.came + 1]).map D.int)), .dat (.int n), .dat (.str b), .dat (.str t), .dat (.int (m % 16))], ?_, ?_⟩
  · by_cases q : m % 16 = 12
    · have ep : powF g'' (.int 2) (.int 24) = some (.int 16777216) := powF_2 (by decide) (by decide)
      obtain ⟨d0, d1⟩ := emod_bd (hr' / 16777216) (show (0 : Int) < 5 by decide)
      obtain ⟨y, e3, e4⟩ := atI_ticks d0 d1
      simp [wSeq, wRet, wRetN, wIf, wAsg, wExp, wNil, wRaise, wSetF, wPut, wPar, wUnp, wCont, rVar, rC, rBin, rUn, rAnd, rOr, rNot, rAndT, rOrT, rNotT, rIfE, rNil, rCons, rTup, rLst, rCB, rFld, rDGet, rDIn, rCall, rMth, rMake, rDNew, rIs, rChain, startD, endD, onB, gNames, setAll, -List.lookup_eq_none_iff, -List.map_map, q, ep, divF_lit, modF_lit, ixF, items, e3]
      exact hk (.tick y b) e4
    · simp [wSeq, wRet, wRetN, wIf, wAsg, wExp, wNil, wRaise, wSetF, wPut, wPar, wUnp, wCont, rVar, rC, rBin, rUn, rAnd, rOr, rNot, rAndT, rOrT, rNotT, rIfE, rNil, rCons, rTup, rLst, rCB, rFld, rDGet, rDIn, rCall, rMth, rMake, rDNew, rIs, rChain, startD, endD, onB, gNames, setAll, -List.lookup_eq_none_iff, -List.map_map, q]
  rintro e g' ⟨rfl, rfl⟩
  refine ⟨fun e g'' => g'' = g' ∧ ∃ b, okName (.str b) = true ∧ e = [.dat (.int m), .dat (.ref A.w), .dat (.int hr'), .dat (.lst names6), .dat (.lst ((W.keys ++ [W.came + 1]).map D.int)), .dat (.int n), .dat (.str b), .dat (.str t), .dat (.int (m % 16))], ?_, ?_⟩
  · have ep : powF g' (.int 2) (.int 24) = some (.int 16777216) := powF_2 (by decide) (by decide)
    cases e : W.find n with
    | none =>
      simp [wSeq, wRet, wRetN, wIf, wAsg, wExp, wNil, wRaise, wSetF, wPut, wPar, wUnp, wCont, rVar, rC, rBin, rUn, rAnd, rOr, rNot, rAndT, rOrT, rNotT, rIfE, rNil, rCons, rTup, rLst, rCB, rFld, rDGet, rDIn, rCall, rMth, rMake, rDNew, rIs, rChain, startD, endD, onB, gNames, setAll, -List.lookup_eq_none_iff, -List.map_map, dinB, dgetF, asDict, h.hw, h.hd, DL.keyOf, dfind_cons, dfind_row, e]
      exact okb
    | some S =>
      by_cases q : 0 < hr' / 16777216 % 8
      · simp [wSeq, wRet, wRetN, wIf, wAsg, wExp, wNil, wRaise, wSetF, wPut, wPar, wUnp, wCont, rVar, rC, rBin, rUn, rAnd, rOr, rNot, rAndT, rOrT, rNotT, rIfE, rNil, rCons, rTup, rLst, rCB, rFld, rDGet, rDIn, rCall, rMth, rMake, rDNew, rIs, rChain, startD, endD, onB, gNames, setAll, -List.lookup_eq_none_iff, -List.map_map, dinB, dgetF, asDict, h.hw, h.hd, h.hs e, DL.keyOf, dfind_cons, dfind_row, e, ep, divF_lit, modF_lit, gtF, q, rowFs]
        exact (nm.find e).1
      · simp [wSeq, wRet, wRetN, wIf, wAsg, wExp, wNil, wRaise, wSetF, wPut, wPar, wUnp, wCont, rVar, rC, rBin, rUn, rAnd, rOr, rNot, rAndT, rOrT, rNotT, rIfE, rNil, rCons, rTup, rLst, rCB, rFld, rDGet, rDIn, rCall, rMth, rMake, rDNew, rIs, rChain, startD, endD, onB, gNames, setAll, -List.lookup_eq_none_iff, -List.map_map, dinB, dgetF, asDict, h.hw, h.hd, h.hs e, DL.keyOf, dfind_cons, dfind_row, e, ep, divF_lit, modF_lit, gtF, q, rowFs]
        exact okb
  rintro e g'' ⟨rfl, b, okb, rfl⟩
  by_cases q : m % 16 < 15
  · simp [wSeq, wRet, wRetN, wIf, wAsg, wExp, wNil, wRaise, wSetF, wPut, wPar, wUnp, wCont, rVar, rC, rBin, rUn, rAnd, rOr, rNot, rAndT, rOrT, rNotT, rIfE, rNil, rCons, rTup, rLst, rCB, rFld, rDGet, rDIn, rCall, rMth, rMake, rDNew, rIs, rChain, startD, endD, onB, gNames, setAll, -List.lookup_eq_none_iff, -List.map_map, ltF, q]
    exact hk (.strike n b) okb
  · simp [wSeq, wRet, wRetN, wIf, wAsg, wExp, wNil, wRaise, wSetF, wPut, wPar, wUnp, wCont, rVar, rC, rBin, rUn, rAnd, rOr, rNot, rAndT, rOrT, rNotT, rIfE, rNil, rCons, rTup, rLst, rCB, rFld, rDGet, rDIn, rCall, rMth, rMake, rDNew, rIs, rChain, startD, endD, onB, gNames, setAll, -List.lookup_eq_none_iff, -List.map_map, ltF, q]
    exact hk (.change n b t) ⟨okb, okt⟩⟩

end Vw

set_option Elab.async false
set_option linter.all false
set_option maxRecDepth 100000
set_option maxHeartbeats 4000000
set_option autoImplicit false
namespace Vw
open PySem PySem.Spec L2 DL
abbrev N_l_word : List Str := ["_law_e", "_law_flags", "_law_some", "_law_flag"]
theorem sc_l_word : FnScope N_l_word ["_law_e"] (defScope s_l_word) := ⟨rfl, rfl, rfl, by decide +kernel, rfl, by decide +kernel, by decide +kernel⟩

def words : List Str := ["BadDeed", "BadName", "BadNumber", "BadText", "Nothing", "Full", "NoSaying", "NotKin", "NotYours"]
theorem words_sub : ∀ x ∈ words, x ∈ excs := by decide +kernel
theorem w_l_word {P : Program} {w : World} {K : PySem.W.Frag} {mg : Str → Option Value} {base : Heap} {T : List (Addr × Str)} (Ft : Facts K mg) : WordAt P w K mg base T 2 "_law_word" (wdOf words K) := wordD (k := 1) Ft.d_l_word sc_l_word (fun _ _ _ _ _ _ us hl => match us, hl with | [_], _ => rfl) fun f cdv A outer s H p C nm h1 ho hw hr => by
  obtain ⟨hw0, hC⟩ := wdOf_some hw
  subst hC
  have hnm := words_sub nm hw0
  have hh : L2H.HotC (L2H.cxH C8.CX0 P w K mg base N_l_word "_law_word" (defScope s_l_word) f cdv A outer s H C8.E0 p) := ⟨p, h1, List.mem_cons_self⟩
  have ec := Ft.ex.ec nm hnm
  refine ⟨_, (pxs_cons (px_newLs (i := 1) sc_l_word.nd rfl (Or.inl rfl) (pma_cons (pm_isE (i := 0) Ft.f_isinstance Ft.g_BadDeed ec List.mem_cons_self ho (Ft.ex.kit nm hnm "BadDeed" (by decide +kernel))) (pma_cons (pm_isE (i := 0) Ft.f_isinstance Ft.g_BadName ec List.mem_cons_self ho (Ft.ex.kit nm hnm "BadName" (by decide +kernel))) (pma_cons (pm_isE (i := 0) Ft.f_isinstance Ft.g_BadNumber ec List.mem_cons_self ho (Ft.ex.kit nm hnm "BadNumber" (by decide +kernel))) (pma_cons (pm_isE (i := 0) Ft.f_isinstance Ft.g_BadText ec List.mem_cons_self ho (Ft.ex.kit nm hnm "BadText" (by decide +kernel))) pma_nil)))))
  (pxs_cons (px_newCat (i := 1) (j := 1) sc_l_word.nd rfl (Or.inl rfl) (pv 1) (pm_lst (pma_cons (pm_isE (i := 0) Ft.f_isinstance Ft.g_Full ec List.mem_cons_self ho (Ft.ex.kit nm hnm "Full" (by decide +kernel))) (pma_cons (pm_isE (i := 0) Ft.f_isinstance Ft.g_NoSaying ec List.mem_cons_self ho (Ft.ex.kit nm hnm "NoSaying" (by decide +kernel))) (pma_cons (pm_isE (i := 0) Ft.f_isinstance Ft.g_NotKin ec List.mem_cons_self ho (Ft.ex.kit nm hnm "NotKin" (by decide +kernel))) (pma_cons (pm_isE (i := 0) Ft.f_isinstance Ft.g_NotYours ec List.mem_cons_self ho (Ft.ex.kit nm hnm "NotYours" (by decide +kernel))) pma_nil))))))
  (pxs_cons (px_app (i := 1) (fun _ _ ho ha => pe_bm PySem.F.plainAttrs_list PySem.F.slot_list_append PySem.F.type_list_append mt_append ho (pa_cons ha pa_nil)) (pv 1) (pm_isE (i := 0) Ft.f_isinstance Ft.g_Nothing ec List.mem_cons_self ho (Ft.ex.kit nm hnm "Nothing" (by decide +kernel))))
  (pxs_frz 1 (pxs_cons (px_if (pmw_t (pmw_or (pmt_cmp (op_neA hr.units) v2_ne (nomark _) (pm_sumH hh rfl Ft.f_sum (pma_cons (pm_lcLH hh sc_l_word.nd (pm_var 1) (blkOk_by (N := N_l_word) (sc := defScope s_l_word) (by decide +kernel)) (fun _ _ _ _ _ => pg_name (i := 3) sc_l_word.nd rfl (Or.inl rfl)) (fun _ _ _ _ _ => pmts_nil) (fun _ _ _ _ _ => (pm_int1 rfl Ft.f_int (pma_cons (pm_var 3) pma_nil)))) pma_nil)) pm_int) (pmw_or1 (pmt_not (pmt_val (pm_isEb (i := 0) Ft.f_isinstance Ft.f_ValueError (by decide +kernel) ec List.mem_cons_self ho (Ft.ex.kv nm hnm))))))) (pxs_one (px_ret (pm_tup (pma_cons pm_str (pma_cons pm_str pma_nil))))) pxs_nil)
  (pxs_cons (px_asg (i := 2) sc_l_word.nd rfl (Or.inl rfl) (pm_lst (pma_cons pm_str (pma_cons pm_str (pma_cons pm_str (pma_cons pm_str (pma_cons pm_str (pma_cons pm_str (pma_cons pm_str (pma_cons pm_str (pma_cons pm_str pma_nil)))))))))))
  (pxs_one (px_ret (pm_tup (pma_cons pm_str (pma_cons (pm_bin (pe_ix ix_seq pe_sem pe_sem (fun _ _ => rfl)) v2_ix (pm_var 2) (pm_index (fun _ _ ho ha => pe_bm PySem.F.plainAttrs_list PySem.F.slot_list_index PySem.F.type_list_index mt_index ho (pa_cons ha pa_nil)) (pm_var 1) pm_bl)) pma_nil))))))))))), fun g Kt hk => ?_⟩
  simp only [words, List.mem_cons, List.not_mem_nil, or_false] at hw0
  rcases hw0 with rfl | rfl | rfl | rfl | rfl | rfl | rfl | rfl | rfl
  all_goals
    simp [wSeq, wRet, wRetN, wIf, wAsg, wExp, wNil, wRaise, wSetF, wPut, wPar, wUnp, wCont, rVar, rC, rBin, rUn, rAnd, rOr, rNot, rAndT, rOrT, rNotT, rIfE, rNil, rCons, rTup, rLst, rCB, rFld, rDGet, rDIn, rCall, rMth, rMake, rDNew, rIs, rChain, startD, endD, onB, gNames, setAll, -List.lookup_eq_none_iff, -List.map_map, rCatW, rIsX, rLcL, items, notTup, List.set, wNewLs, wNewCat, wApp, wFrz, frzD]
    refine ⟨by decide, fun d => intF g [d], fun d hd => ?_, ?_⟩
    · cases d with
      | bl b => simp [turnR, wSeq, wRet, wRetN, wIf, wAsg, wExp, wNil, wRaise, wSetF, wPut, wPar, wUnp, wCont, rVar, rC, rBin, rUn, rAnd, rOr, rNot, rAndT, rOrT, rNotT, rIfE, rNil, rCons, rTup, rLst, rCB, rFld, rDGet, rDIn, rCall, rMth, rMake, rDNew, rIs, rChain, startD, endD, onB, gNames, setAll, -List.lookup_eq_none_iff, -List.map_map, intF]
      | _ => simp at hd
    · simp [intF, sumF, litems, intsOf, wSeq, wRet, wRetN, wIf, wAsg, wExp, wNil, wRaise, wSetF, wPut, wPar, wUnp, wCont, rVar, rC, rBin, rUn, rAnd, rOr, rNot, rAndT, rOrT, rNotT, rIfE, rNil, rCons, rTup, rLst, rCB, rFld, rDGet, rDIn, rCall, rMth, rMake, rDNew, rIs, rChain, startD, endD, onB, gNames, setAll, -List.lookup_eq_none_iff, -List.map_map, rIdx, toVs, toV, idxV, eqV, List.findIdx?_cons, ixF, items, atI, ixN]
      exact hk

end Vw

set_option Elab.async false
set_option linter.all false
set_option maxRecDepth 100000
set_option maxHeartbeats 4000000
set_option autoImplicit false
namespace Vw
open PySem PySem.Spec L2 DL
abbrev N_l_told : List Str := ["_law_deed_here", "_law_e"]
theorem sc_l_told : FnScope N_l_told ["_law_deed_here"] (defScope s_l_told) := ⟨rfl, rfl, rfl, by decide +kernel, rfl, by decide +kernel, by decide +kernel⟩

def qt (p : He.Defn) : Str := (PyProof.Rows.envOfC p.1 (defScope s_l_told) 0 0 .none).qual ++ "<lambda>"
theorem t_l_told {P : Program} {w : World} {K : PySem.W.Frag} {mg : Str → Option Value} {base : Heap} {T : List (Addr × Str)} (Ft : Facts K mg) : ToldAt P w K mg base T "_law_told" 2 (wdOf words K) := toldD (a := "_law_deed_here") (e := "WoodError") (n := "_law_e") (wn := "_law_word") Ft.d_l_told rfl sc_l_told (fun _ _ _ _ _ _ us hl => match us, hl with | [_], _ => rfl) (.inl rfl) rfl Ft.g_WoodError rfl rfl (w_l_word Ft) fun C nm h => by
  obtain ⟨h1, rfl⟩ := wdOf_some h
  simp only [words, List.mem_cons, List.not_mem_nil, or_false] at h1
  rcases h1 with rfl | rfl | rfl | rfl | rfl | rfl | rfl | rfl | rfl
  · exact Ft.w_BadDeed
  · exact Ft.w_BadName
  · exact Ft.w_BadNumber
  · exact Ft.w_BadText
  · exact Ft.w_Nothing
  · exact Ft.w_Full
  · exact Ft.w_NoSaying
  · exact Ft.w_NotKin
  · exact Ft.w_NotYours
theorem errs_sub : ∀ x ∈ errs6, x ∈ words := by decide +kernel
theorem exW {K : PySem.W.Frag} {mg : Str → Option Value} (Ft : Facts K mg) : ExFacts words tf K := Ft.ex.sub words_sub
abbrev N_l_do : List Str := ["_law_wood", "_law_deed_here", "_law_word_here", "_law_number", "_law_by"]
theorem sc_l_do : FnScope N_l_do ["_law_wood", "_law_deed_here"] (defScope s_l_do) := ⟨rfl, rfl, rfl, by decide +kernel, rfl, by decide +kernel, by decide +kernel⟩

theorem c_l_do {P : Program} {w : World} {K : PySem.W.Frag} {mg : Str → Option Value} {base : Heap} {T : List (Addr × Str)} (Ft : Facts K mg) (tb : TabAt base mg T (He.codeOf K ("_law_do", none)) (qt ("_law_do", none))) : Cal P w K mg base T 8 "_law_do" 2 (sp_do K) := calDc Ft.d_l_do sc_l_do (fun _ _ _ _ _ _ us hl => match us, hl with | [_, _], _ => rfl) ⟨_, fun A outer s H E hr => (pxs_cut (px_unp rfl (pm_slice (pm_var 1) pmo_none (pmo_some pm_int)) (pgd_cons (i := 2) sc_l_do.nd rfl (Or.inl rfl) (pgd_cons (i := 3) sc_l_do.nd rfl (Or.inr rfl) (pgd_cons (i := 4) sc_l_do.nd rfl (Or.inr rfl) pgd_nil))))
  (pxs_cut (px_if (pmt_cmp (op_eqA hr.units) v2_eq (nomark _) (pm_var 2) pm_str) (pxs_one (px_ret (pm_told (t_l_told Ft) rfl tb rfl hr (by decide) (LamX.lamS_by (sc := defScope s_l_do) (by decide +kernel)) (fun A outer s H E f hc hr => (pm_meth (m_Wood_say Ft) hr (by decide) pas_lam (pm_var 0) (pma_cons (pm_var 4) (pma_cons (pm_var 3) (pma_cons (pm_bin (pe_ix ix_seq pe_sem pe_sem (fun _ _ => rfl)) v2_ix (pm_var 1) pm_int) pma_nil)))))))) pxs_nil)
  (pxs_cut (px_if (pmt_cmp (op_eqA hr.units) v2_eq (nomark _) (pm_var 2) pm_str) (pxs_one (px_ret (pm_told (t_l_told Ft) rfl tb rfl hr (by decide) (LamX.lamS_by (sc := defScope s_l_do) (by decide +kernel)) (fun A outer s H E f hc hr => (pm_meth (m_Wood_tick Ft) hr (by decide) pas_lam (pm_var 0) (pma_cons (pm_var 3) pma_nil)))))) pxs_nil)
  (pxs_cut (px_if (pmt_cmp (op_eqA hr.units) v2_eq (nomark _) (pm_var 2) pm_str) (pxs_one (px_ret (pm_told (t_l_told Ft) rfl tb rfl hr (by decide) (LamX.lamS_by (sc := defScope s_l_do) (by decide +kernel)) (fun A outer s H E f hc hr => (pm_meth (m_Wood_change Ft) hr (by decide) pas_lam (pm_var 0) (pma_cons (pm_var 3) (pma_cons (pm_var 4) (pma_cons (pm_bin (pe_ix ix_seq pe_sem pe_sem (fun _ _ => rfl)) v2_ix (pm_var 1) pm_int) pma_nil)))))))) pxs_nil)
  (pxs_cut (px_if (pmt_cmp (op_eqA hr.units) v2_eq (nomark _) (pm_var 2) pm_str) (pxs_one (px_ret (pm_told (t_l_told Ft) rfl tb rfl hr (by decide) (LamX.lamS_by (sc := defScope s_l_do) (by decide +kernel)) (fun A outer s H E f hc hr => (pm_meth (m_Wood_strike Ft) hr (by decide) pas_lam (pm_var 0) (pma_cons (pm_var 3) (pma_cons (pm_var 4) pma_nil))))))) pxs_nil)
  (pxs_one (px_ret (pm_told (t_l_told Ft) rfl tb rfl hr (by decide) (LamX.lamS_by (sc := defScope s_l_do) (by decide +kernel)) (fun A outer s H E f hc hr => (pm_meth (m_Wood_vote Ft) hr (by decide) pas_lam (pm_var 0) (pma_cons (pm_var 3) (pma_cons (pm_var 4) (pma_cons (pm_bin (pe_ix ix_seq pe_sem pe_sem (fun _ _ => rfl)) v2_ix (pm_var 1) pm_int) pma_nil))))))))))))), by
  rintro ds g Kt hl ⟨A, W, r, rfl, h, wf, dd, rfl, nl, ok, hk⟩
  refine ⟨fun e g' => g' = g ∧ e = [.dat (.ref A.w), .dat dd.d, .dat (.str dd.word), .dat (.int dd.num), .dat (.str dd.by_)], ?_, ?_⟩
  · simp [wSeq, wRet, wRetN, wIf, wAsg, wExp, wNil, wRaise, wSetF, wPut, wPar, wUnp, wCont, rVar, rC, rBin, rUn, rAnd, rOr, rNot, rAndT, rOrT, rNotT, rIfE, rNil, rCons, rTup, rLst, rCB, rFld, rDGet, rDIn, rCall, rMth, rMake, rDNew, rIs, rChain, startD, endD, onB, gNames, setAll, -List.lookup_eq_none_iff, -List.map_map, rSl, roNone, roSome, dd.cut3]
  rintro e g' ⟨rfl, rfl⟩
  have ht := told_tells (exW Ft) h hk (fun e q => errs_sub e (out_err q))
  refine ⟨fun e g'' => g'' = g' ∧ e = [.dat (.ref A.w), .dat dd.d, .dat (.str dd.word), .dat (.int dd.num), .dat (.str dd.by_)] ∧ dd.word ≠ "say", ?_, ?_⟩
  · cases dd with
    | say u b t =>
      have l1 := okName_len ok.1
      have l2 := okText_len ok.2
      simp [wSeq, wRet, wRetN, wIf, wAsg, wExp, wNil, wRaise, wSetF, wPut, wPar, wUnp, wCont, rVar, rC, rBin, rUn, rAnd, rOr, rNot, rAndT, rOrT, rNotT, rIfE, rNil, rCons, rTup, rLst, rCB, rFld, rDGet, rDIn, rCall, rMth, rMake, rDNew, rIs, rChain, startD, endD, onB, gNames, setAll, -List.lookup_eq_none_iff, -List.map_map, rTold, h.hw, Deed.word, Deed.d, Deed.num, Deed.by_, ixF, items, atI, ixN, sp_say, wp]
      exact ⟨A, W, [.str b, .int u, .str t], ⟨rfl, rfl⟩, h, wf, b, u, t, rfl, by omega, by omega, nl, ht⟩
    | _ => simp [wSeq, wRet, wRetN, wIf, wAsg, wExp, wNil, wRaise, wSetF, wPut, wPar, wUnp, wCont, rVar, rC, rBin, rUn, rAnd, rOr, rNot, rAndT, rOrT, rNotT, rIfE, rNil, rCons, rTup, rLst, rCB, rFld, rDGet, rDIn, rCall, rMth, rMake, rDNew, rIs, rChain, startD, endD, onB, gNames, setAll, -List.lookup_eq_none_iff, -List.map_map, Deed.word]
  rintro e g'' ⟨rfl, rfl, w1⟩
  refine ⟨fun e g' => g' = g'' ∧ e = [.dat (.ref A.w), .dat dd.d, .dat (.str dd.word), .dat (.int dd.num), .dat (.str dd.by_)] ∧ dd.word ≠ "tick", ?_, ?_⟩
  · cases dd with
    | tick m b =>
      have e1 : isCnt (.int m) 0 1000 = true := by simp [isCnt]; exact ok
      have e2 : (Deed.tick m b).out W = .ok ({ W with clock := W.clock + m }, .non) := if_pos ok
      rw [e2] at ht
      simp [wSeq, wRet, wRetN, wIf, wAsg, wExp, wNil, wRaise, wSetF, wPut, wPar, wUnp, wCont, rVar, rC, rBin, rUn, rAnd, rOr, rNot, rAndT, rOrT, rNotT, rIfE, rNil, rCons, rTup, rLst, rCB, rFld, rDGet, rDIn, rCall, rMth, rMake, rDNew, rIs, rChain, startD, endD, onB, gNames, setAll, -List.lookup_eq_none_iff, -List.map_map, rTold, h.hw, Deed.word, Deed.d, Deed.num, Deed.by_, sp_tick, wp]
      refine ⟨A, W, [.int m], ⟨rfl, rfl⟩, h, wf, .int m, rfl, rfl, fun m' q _ g1 i1 i2 => ?_, fun q => by rw [e1] at q; cases q⟩
      cases q
      exact ht g1 A rfl i1 i2
    | _ => simp [wSeq, wRet, wRetN, wIf, wAsg, wExp, wNil, wRaise, wSetF, wPut, wPar, wUnp, wCont, rVar, rC, rBin, rUn, rAnd, rOr, rNot, rAndT, rOrT, rNotT, rIfE, rNil, rCons, rTup, rLst, rCB, rFld, rDGet, rDIn, rCall, rMth, rMake, rDNew, rIs, rChain, startD, endD, onB, gNames, setAll, -List.lookup_eq_none_iff, -List.map_map, Deed.word]
  rintro e g' ⟨rfl, rfl, w2⟩
  refine ⟨fun e g'' => g'' = g' ∧ e = [.dat (.ref A.w), .dat dd.d, .dat (.str dd.word), .dat (.int dd.num), .dat (.str dd.by_)] ∧ dd.word ≠ "change", ?_, ?_⟩
  · cases dd with
    | change n b t =>
      have l1 := okName_len ok.1
      have l2 := okText_len ok.2
      simp [wSeq, wRet, wRetN, wIf, wAsg, wExp, wNil, wRaise, wSetF, wPut, wPar, wUnp, wCont, rVar, rC, rBin, rUn, rAnd, rOr, rNot, rAndT, rOrT, rNotT, rIfE, rNil, rCons, rTup, rLst, rCB, rFld, rDGet, rDIn, rCall, rMth, rMake, rDNew, rIs, rChain, startD, endD, onB, gNames, setAll, -List.lookup_eq_none_iff, -List.map_map, rTold, h.hw, Deed.word, Deed.d, Deed.num, Deed.by_, ixF, items, atI, ixN, sp_change, wp]
      exact ⟨A, W, [.int n, .str b, .str t], ⟨rfl, rfl⟩, h, wf, n, b, t, rfl, by omega, by omega, ht⟩
    | _ => simp [wSeq, wRet, wRetN, wIf, wAsg, wExp, wNil, wRaise, wSetF, wPut, wPar, wUnp, wCont, rVar, rC, rBin, rUn, rAnd, rOr, rNot, rAndT, rOrT, rNotT, rIfE, rNil, rCons, rTup, rLst, rCB, rFld, rDGet, rDIn, rCall, rMth, rMake, rDNew, rIs, rChain, startD, endD, onB, gNames, setAll, -List.lookup_eq_none_iff, -List.map_map, Deed.word]
  rintro e g'' ⟨rfl, rfl, w3⟩
  refine ⟨fun e g' => g' = g'' ∧ e = [.dat (.ref A.w), .dat dd.d, .dat (.str dd.word), .dat (.int dd.num), .dat (.str dd.by_)] ∧ dd.word ≠ "strike", ?_, ?_⟩
  · cases dd with
    | strike n b =>
      have l1 := okName_len ok
      simp [wSeq, wRet, wRetN, wIf, wAsg, wExp, wNil, wRaise, wSetF, wPut, wPar, wUnp, wCont, rVar, rC, rBin, rUn, rAnd, rOr, rNot, rAndT, rOrT, rNotT, rIfE, rNil, rCons, rTup, rLst, rCB, rFld, rDGet, rDIn, rCall, rMth, rMake, rDNew, rIs, rChain, startD, endD, onB, gNames, setAll, -List.lookup_eq_none_iff, -List.map_map, rTold, h.hw, Deed.word, Deed.d, Deed.num, Deed.by_, sp_strike, wp]
      exact ⟨A, W, [.int n, .str b], ⟨rfl, rfl⟩, h, wf, n, b, rfl, by omega, nl, ht⟩
    | _ => simp [wSeq, wRet, wRetN, wIf, wAsg, wExp, wNil, wRaise, wSetF, wPut, wPar, wUnp, wCont, rVar, rC, rBin, rUn, rAnd, rOr, rNot, rAndT, rOrT, rNotT, rIfE, rNil, rCons, rTup, rLst, rCB, rFld, rDGet, rDIn, rCall, rMth, rMake, rDNew, rIs, rChain, startD, endD, onB, gNames, setAll, -List.lookup_eq_none_iff, -List.map_map, Deed.word]
  rintro e g' ⟨rfl, rfl, w4⟩
  cases dd with
  | vote n b y =>
    have l1 := okName_len ok.1
    simp [wSeq, wRet, wRetN, wIf, wAsg, wExp, wNil, wRaise, wSetF, wPut, wPar, wUnp, wCont, rVar, rC, rBin, rUn, rAnd, rOr, rNot, rAndT, rOrT, rNotT, rIfE, rNil, rCons, rTup, rLst, rCB, rFld, rDGet, rDIn, rCall, rMth, rMake, rDNew, rIs, rChain, startD, endD, onB, gNames, setAll, -List.lookup_eq_none_iff, -List.map_map, rTold, h.hw, Deed.word, Deed.d, Deed.num, Deed.by_, ixF, items, atI, ixN, sp_vote, wp]
    exact ⟨A, W, [.int n, .str b, .int y], ⟨rfl, rfl⟩, h, wf, n, b, y, rfl, by omega, nl, ht⟩
  | say u b t => exact absurd rfl w1
  | tick m b => exact absurd rfl w2
  | strike n b => exact absurd rfl w4
  | change n b t => exact absurd rfl w3⟩

end Vw

set_option Elab.async false
set_option linter.all false
set_option maxRecDepth 100000
set_option maxHeartbeats 4000000
set_option autoImplicit false
namespace Vw
open PySem PySem.Spec L2 DL
abbrev N_need_measure : List Str := ["measure"]
theorem sc_need_measure : FnScope N_need_measure ["measure"] (defScope s_need_measure) := ⟨rfl, rfl, rfl, by decide +kernel, rfl, by decide +kernel, by decide +kernel⟩

theorem c_need_measure {P : Program} {w : World} {K : PySem.W.Frag} {mg : Str → Option Value} {base : Heap} {T : List (Addr × Str)} (Ft : Facts K mg) : Cal P w K mg base T 1 "need_measure" 1 (sp_need_measure K) := calD Ft.d_need_measure sc_need_measure (fun _ _ _ _ _ _ us hl => match us, hl with | [_], _ => rfl) fun f => ⟨_, fun cdv A outer s H E hr => (pxs_one (px_if (pmw_t (pmw_or (pmt_not (pmt_val (pm_is (n := "str") rfl Ft.f_isinstance rfl Ft.f_str (by decide +kernel) (pm_var 0)))) (pmw_or1 (pmt_cmp op_niA v2_ni (by rfl) (pm_var 0) (pm_gtup rfl Ft.t_MEASURES))))) (pxs_one (px_raise Ft.x_BadNumber rfl tk_body rfl)) pxs_nil)), by
  rintro ds g Kt hl ⟨t, rfl, ht, h1, h2⟩
  cases t with
  | str z =>
    have e : (niF g (.str z) (.tup [.str "new", .str "old", .str "best", .str "warm", .str "torn", .str "sure"])) = some (.bl (!decide (z ∈ meas))) := niF_meas
    simp [wSeq, wRet, wRetN, wIf, wAsg, wExp, wNil, wRaise, wSetF, wPut, wPar, wUnp, wCont, rVar, rC, rBin, rUn, rAnd, rOr, rNot, rAndT, rOrT, rNotT, rIfE, rNil, rCons, rTup, rLst, rCB, rFld, rDGet, rDIn, rCall, rMth, rMake, rDNew, rIs, rChain, startD, endD, onB, gNames, setAll, -List.lookup_eq_none_iff, -List.map_map, isF, dTy]
    refine ⟨_, e, ?_⟩
    by_cases q : z ∈ meas
    · simp [q]; exact h1 z rfl q
    · simp [q]; exact h2 fun y e => by cases e; exact q
  | ref _ => simp [dTy] at ht
  | frl _ => simp [dTy] at ht
  | dct _ => simp [dTy] at ht
  | _ => have h2' := h2 (fun y e => by cases e); simp [wSeq, wRet, wRetN, wIf, wAsg, wExp, wNil, wRaise, wSetF, wPut, wPar, wUnp, wCont, rVar, rC, rBin, rUn, rAnd, rOr, rNot, rAndT, rOrT, rNotT, rIfE, rNil, rCons, rTup, rLst, rCB, rFld, rDGet, rDIn, rCall, rMth, rMake, rDNew, rIs, rChain, startD, endD, onB, gNames, setAll, -List.lookup_eq_none_iff, -List.map_map, isF, dTy, h2']⟩

abbrev N_worth : List Str := ["wood", "number", "measure", "one", "ups", "downs"]
theorem sc_worth : FnScope N_worth ["wood", "number", "measure"] (defScope s_worth) := ⟨rfl, rfl, rfl, by decide +kernel, rfl, by decide +kernel, by decide +kernel⟩

theorem c_worth {P : Program} {w : World} {K : PySem.W.Frag} {mg : Str → Option Value} {base : Heap} {T : List (Addr × Str)} (Ft : Facts K mg) : Cal P w K mg base T 2 "worth" 3 (sp_worth K) := calD Ft.d_worth sc_worth (fun _ _ _ _ _ _ us hl => match us, hl with | [_, _, _], _ => rfl) fun f => ⟨_, fun cdv A outer s H E hr => (pxs_cut (px_asg (i := 3) sc_worth.nd rfl (Or.inl rfl) (pm_dget (hu_of hr) (pm_fld Ft.at_Wood_sayings (pm_var 0)) (pm_var 1) (fun _ _ => rfl)))
  (pxs_cut (px_par (i := 4) (j := 5) rfl sc_worth.nd rfl rfl (by decide) (pma_cons (pm_meth0 (m_Saying_ups Ft) hr (by decide) pas_body (pm_var 3)) (pma_cons (pm_meth0 (m_Saying_downs Ft) hr (by decide) pas_body (pm_var 3)) pma_nil)))
  (pxs_cut (px_if (pmt_cmp (op_eqA hr.units) v2_eq (nomark _) (pm_var 2) pm_str) (pxs_one (px_ret (pm_tup (pma_cons (pm_var 1) (pma_cons pm_int pma_nil))))) pxs_nil)
  (pxs_cut (px_if (pmt_cmp (op_eqA hr.units) v2_eq (nomark _) (pm_var 2) pm_str) (pxs_one (px_ret (pm_tup (pma_cons (pm_op op_sub v2_sub pm_int (pm_var 1)) (pma_cons pm_int pma_nil))))) pxs_nil)
  (pxs_cut (px_if (pmt_cmp (op_eqA hr.units) v2_eq (nomark _) (pm_var 2) pm_str) (pxs_one (px_ret (pm_tup (pma_cons (pm_op op_sub v2_sub (pm_var 4) (pm_var 5)) (pma_cons pm_int pma_nil))))) pxs_nil)
  (pxs_cut (px_if (pmt_cmp (op_eqA hr.units) v2_eq (nomark _) (pm_var 2) pm_str) (pxs_one (px_ret (pm_tup (pma_cons (pm_op op_sub v2_sub (pm_op op_mulA v2_mul pm_int (pm_op op_sub v2_sub (pm_var 4) (pm_var 5))) (pm_op op_sub v2_sub (pm_fld Ft.at_Wood_clock (pm_var 0)) (pm_fld Ft.at_Saying_time (pm_var 3)))) (pma_cons pm_int pma_nil))))) pxs_nil)
  (pxs_cut (px_if (pmt_cmp (op_eqA hr.units) v2_eq (nomark _) (pm_var 2) pm_str) (pxs_one (px_ret (pm_tup (pma_cons (pm_min rfl rfl Ft.f_min (pma_cons (pm_var 4) (pma_cons (pm_var 5) pma_nil))) (pma_cons pm_int pma_nil))))) pxs_nil)
  (pxs_one (px_ret (pm_tup (pma_cons (pm_op op_addA v2_add (pm_var 4) pm_int) (pma_cons (pm_op op_addA v2_add (pm_op op_addA v2_add (pm_var 4) (pm_var 5)) pm_int) pma_nil)))))))))))), by
  rintro ds g Kt hl ⟨A, W, r, rfl, h, wf, n, m, rfl, hn, hk⟩
  obtain ⟨S, e⟩ := wf.toWF.key_find hn
  have hs := h.say wf e
  have hw : W.worth m n = S.worth W.clock n m := by simp [Wd.worth, e]
  rw [hw] at hk
  refine ⟨fun e g' => g' = g ∧ e = [.dat (.ref A.w), .dat (.int n), .dat (.str m.s), .dat (.ref (A.s n)), .no, .no], ?_, ?_⟩
  · simp [wSeq, wRet, wRetN, wIf, wAsg, wExp, wNil, wRaise, wSetF, wPut, wPar, wUnp, wCont, rVar, rC, rBin, rUn, rAnd, rOr, rNot, rAndT, rOrT, rNotT, rIfE, rNil, rCons, rTup, rLst, rCB, rFld, rDGet, rDIn, rCall, rMth, rMake, rDNew, rIs, rChain, startD, endD, onB, gNames, setAll, -List.lookup_eq_none_iff, -List.map_map, h.hw, h.hd, -List.lookup_eq_none_iff, -List.map_map, List.lookup, dgetF, asDict, DL.keyOf, dfind_row, e]
  rintro e0 g' ⟨rfl, rfl⟩
  refine ⟨fun e g'' => g'' = g' ∧ e = [.dat (.ref A.w), .dat (.int n), .dat (.str m.s), .dat (.ref (A.s n)), .dat (.int S.ups), .dat (.int S.downs)], ?_, ?_⟩
  · simp [wSeq, wRet, wRetN, wIf, wAsg, wExp, wNil, wRaise, wSetF, wPut, wPar, wUnp, wCont, rVar, rC, rBin, rUn, rAnd, rOr, rNot, rAndT, rOrT, rNotT, rIfE, rNil, rCons, rTup, rLst, rCB, rFld, rDGet, rDIn, rCall, rMth, rMake, rDNew, rIs, rChain, startD, endD, onB, gNames, setAll, -List.lookup_eq_none_iff, -List.map_map, hs.hs, sp_ups, sp_downs, sayFs]
    exact ⟨_, S, hs, _, S, hs, rfl, rfl⟩
  rintro e0 g'' ⟨rfl, rfl⟩
  refine ⟨fun e g' => g' = g'' ∧ e = [.dat (.ref A.w), .dat (.int n), .dat (.str m.s), .dat (.ref (A.s n)), .dat (.int S.ups), .dat (.int S.downs)] ∧ m ≠ .new, ?_, ?_⟩
  · cases m <;> simp [wSeq, wRet, wRetN, wIf, wAsg, wExp, wNil, wRaise, wSetF, wPut, wPar, wUnp, wCont, rVar, rC, rBin, rUn, rAnd, rOr, rNot, rAndT, rOrT, rNotT, rIfE, rNil, rCons, rTup, rLst, rCB, rFld, rDGet, rDIn, rCall, rMth, rMake, rDNew, rIs, rChain, startD, endD, onB, gNames, setAll, -List.lookup_eq_none_iff, -List.map_map, Ms.s]
    exact hk
  rintro e0 g' ⟨rfl, rfl, n1⟩
  refine ⟨fun e g'' => g'' = g' ∧ e = [.dat (.ref A.w), .dat (.int n), .dat (.str m.s), .dat (.ref (A.s n)), .dat (.int S.ups), .dat (.int S.downs)] ∧ m ≠ .old, ?_, ?_⟩
  · cases m <;> simp [wSeq, wRet, wRetN, wIf, wAsg, wExp, wNil, wRaise, wSetF, wPut, wPar, wUnp, wCont, rVar, rC, rBin, rUn, rAnd, rOr, rNot, rAndT, rOrT, rNotT, rIfE, rNil, rCons, rTup, rLst, rCB, rFld, rDGet, rDIn, rCall, rMth, rMake, rDNew, rIs, rChain, startD, endD, onB, gNames, setAll, -List.lookup_eq_none_iff, -List.map_map, Ms.s, subF]
    simpa [Say.worth] using hk
  rintro e0 g'' ⟨rfl, rfl, n2⟩
  refine ⟨fun e g' => g' = g'' ∧ e = [.dat (.ref A.w), .dat (.int n), .dat (.str m.s), .dat (.ref (A.s n)), .dat (.int S.ups), .dat (.int S.downs)] ∧ m ≠ .best, ?_, ?_⟩
  · cases m <;> simp [wSeq, wRet, wRetN, wIf, wAsg, wExp, wNil, wRaise, wSetF, wPut, wPar, wUnp, wCont, rVar, rC, rBin, rUn, rAnd, rOr, rNot, rAndT, rOrT, rNotT, rIfE, rNil, rCons, rTup, rLst, rCB, rFld, rDGet, rDIn, rCall, rMth, rMake, rDNew, rIs, rChain, startD, endD, onB, gNames, setAll, -List.lookup_eq_none_iff, -List.map_map, Ms.s, subF]
    exact hk
  rintro e0 g' ⟨rfl, rfl, n3⟩
  refine ⟨fun e g'' => g'' = g' ∧ e = [.dat (.ref A.w), .dat (.int n), .dat (.str m.s), .dat (.ref (A.s n)), .dat (.int S.ups), .dat (.int S.downs)] ∧ m ≠ .warm, ?_, ?_⟩
  · have b1 := S.ups_bd
    have b2 := S.downs_bd
    have b3 := wf.vln n S (WF.mem_find e)
    have b4 := wf.age
    cases m <;> simp [wSeq, wRet, wRetN, wIf, wAsg, wExp, wNil, wRaise, wSetF, wPut, wPar, wUnp, wCont, rVar, rC, rBin, rUn, rAnd, rOr, rNot, rAndT, rOrT, rNotT, rIfE, rNil, rCons, rTup, rLst, rCB, rFld, rDGet, rDIn, rCall, rMth, rMake, rDNew, rIs, rChain, startD, endD, onB, gNames, setAll, -List.lookup_eq_none_iff, -List.map_map, Ms.s, subF]
    refine ⟨_, mulF_sm (by omega), ?_⟩
    simp [h.hw, hs.hs, -List.lookup_eq_none_iff, -List.map_map, List.lookup, sayFs]
    exact hk
  rintro e0 g'' ⟨rfl, rfl, n4⟩
  refine ⟨fun e g' => g' = g'' ∧ e = [.dat (.ref A.w), .dat (.int n), .dat (.str m.s), .dat (.ref (A.s n)), .dat (.int S.ups), .dat (.int S.downs)] ∧ m ≠ .torn, ?_, ?_⟩
  · cases m <;> simp [wSeq, wRet, wRetN, wIf, wAsg, wExp, wNil, wRaise, wSetF, wPut, wPar, wUnp, wCont, rVar, rC, rBin, rUn, rAnd, rOr, rNot, rAndT, rOrT, rNotT, rIfE, rNil, rCons, rTup, rLst, rCB, rFld, rDGet, rDIn, rCall, rMth, rMake, rDNew, rIs, rChain, startD, endD, onB, gNames, setAll, -List.lookup_eq_none_iff, -List.map_map, Ms.s, minF]
    exact hk
  rintro e0 g' ⟨rfl, rfl, n5⟩
  cases m with
  | sure => simp [wSeq, wRet, wRetN, wIf, wAsg, wExp, wNil, wRaise, wSetF, wPut, wPar, wUnp, wCont, rVar, rC, rBin, rUn, rAnd, rOr, rNot, rAndT, rOrT, rNotT, rIfE, rNil, rCons, rTup, rLst, rCB, rFld, rDGet, rDIn, rCall, rMth, rMake, rDNew, rIs, rChain, startD, endD, onB, gNames, setAll, -List.lookup_eq_none_iff, -List.map_map, addF]; exact hk
  | new => exact absurd rfl n1
  | old => exact absurd rfl n2
  | best => exact absurd rfl n3
  | warm => exact absurd rfl n4
  | torn => exact absurd rfl n5⟩

abbrev N_is_ahead : List Str := ["one", "other", "first", "second"]
theorem sc_is_ahead : FnScope N_is_ahead ["one", "other"] (defScope s_is_ahead) := ⟨rfl, rfl, rfl, by decide +kernel, rfl, by decide +kernel, by decide +kernel⟩

theorem c_is_ahead {P : Program} {w : World} {K : PySem.W.Frag} {mg : Str → Option Value} {base : Heap} {T : List (Addr × Str)} (Ft : Facts K mg) : Cal P w K mg base T 1 "is_ahead" 2 sp_is_ahead := calD Ft.d_is_ahead sc_is_ahead (fun _ _ _ _ _ _ us hl => match us, hl with | [_, _], _ => rfl) fun f => ⟨_, fun cdv A outer s H E hr => (pxs_cut (px_par (i := 2) (j := 3) rfl sc_is_ahead.nd rfl rfl (by decide) (pma_cons (pm_op op_mulA v2_mul (pm_bin (pe_ix ix_seq pe_sem pe_sem (fun _ _ => rfl)) v2_ix (pm_bin (pe_ix ix_seq pe_sem pe_sem (fun _ _ => rfl)) v2_ix (pm_var 0) pm_int) pm_int) (pm_bin (pe_ix ix_seq pe_sem pe_sem (fun _ _ => rfl)) v2_ix (pm_bin (pe_ix ix_seq pe_sem pe_sem (fun _ _ => rfl)) v2_ix (pm_var 1) pm_int) pm_int)) (pma_cons (pm_op op_mulA v2_mul (pm_bin (pe_ix ix_seq pe_sem pe_sem (fun _ _ => rfl)) v2_ix (pm_bin (pe_ix ix_seq pe_sem pe_sem (fun _ _ => rfl)) v2_ix (pm_var 1) pm_int) pm_int) (pm_bin (pe_ix ix_seq pe_sem pe_sem (fun _ _ => rfl)) v2_ix (pm_bin (pe_ix ix_seq pe_sem pe_sem (fun _ _ => rfl)) v2_ix (pm_var 0) pm_int) pm_int)) pma_nil)))
  (pxs_cut (px_if (pmt_cmp (op_neA hr.units) v2_ne (nomark _) (pm_var 2) (pm_var 3)) (pxs_one (px_ret (pm_cmp op_gt v2_gt (nomark _) (pm_var 2) (pm_var 3)))) pxs_nil)
  (pxs_one (px_ret (pm_cmp op_lt v2_lt (nomark _) (pm_bin (pe_ix ix_seq pe_sem pe_sem (fun _ _ => rfl)) v2_ix (pm_var 0) pm_int) (pm_bin (pe_ix ix_seq pe_sem pe_sem (fun _ _ => rfl)) v2_ix (pm_var 1) pm_int)))))), by
  rintro ds g Kt hl ⟨p, q, rfl, hp, hq, hk⟩
  obtain ⟨⟨a, b⟩, n⟩ := p
  obtain ⟨⟨c, d⟩, m⟩ := q
  simp only [] at hp hq
  refine ⟨fun e g' => g' = g ∧ e = [.dat (pwD ((a, b), n)), .dat (pwD ((c, d), m)), .dat (.int (a * d)), .dat (.int (c * b))], ?_, ?_⟩
  · simp [wSeq, wRet, wRetN, wIf, wAsg, wExp, wNil, wRaise, wSetF, wPut, wPar, wUnp, wCont, rVar, rC, rBin, rUn, rAnd, rOr, rNot, rAndT, rOrT, rNotT, rIfE, rNil, rCons, rTup, rLst, rCB, rFld, rDGet, rDIn, rCall, rMth, rMake, rDNew, rIs, rChain, startD, endD, onB, gNames, setAll, -List.lookup_eq_none_iff, -List.map_map, pwD, ixF, items, atI, ixN]
    exact ⟨mulF_sm (by omega), mulF_sm (by omega)⟩
  rintro e g' ⟨rfl, rfl⟩
  unfold aheadP at hk
  simp only [] at hk
  refine ⟨fun e g'' => g'' = g' ∧ e = [.dat (pwD ((a, b), n)), .dat (pwD ((c, d), m)), .dat (.int (a * d)), .dat (.int (c * b))] ∧ a * d = c * b, ?_, ?_⟩
  · by_cases z : a * d = c * b
    · simp [wSeq, wRet, wRetN, wIf, wAsg, wExp, wNil, wRaise, wSetF, wPut, wPar, wUnp, wCont, rVar, rC, rBin, rUn, rAnd, rOr, rNot, rAndT, rOrT, rNotT, rIfE, rNil, rCons, rTup, rLst, rCB, rFld, rDGet, rDIn, rCall, rMth, rMake, rDNew, rIs, rChain, startD, endD, onB, gNames, setAll, -List.lookup_eq_none_iff, -List.map_map, z]
    · rw [if_pos z] at hk
      simp [wSeq, wRet, wRetN, wIf, wAsg, wExp, wNil, wRaise, wSetF, wPut, wPar, wUnp, wCont, rVar, rC, rBin, rUn, rAnd, rOr, rNot, rAndT, rOrT, rNotT, rIfE, rNil, rCons, rTup, rLst, rCB, rFld, rDGet, rDIn, rCall, rMth, rMake, rDNew, rIs, rChain, startD, endD, onB, gNames, setAll, -List.lookup_eq_none_iff, -List.map_map, z, gtF]
      exact hk
  rintro e g'' ⟨rfl, rfl, z⟩
  rw [if_neg (fun q => q z)] at hk
  simp [wSeq, wRet, wRetN, wIf, wAsg, wExp, wNil, wRaise, wSetF, wPut, wPar, wUnp, wCont, rVar, rC, rBin, rUn, rAnd, rOr, rNot, rAndT, rOrT, rNotT, rIfE, rNil, rCons, rTup, rLst, rCB, rFld, rDGet, rDIn, rCall, rMth, rMake, rDNew, rIs, rChain, startD, endD, onB, gNames, setAll, -List.lookup_eq_none_iff, -List.map_map, pwD, ixF, items, atI, ixN, ltF]
  exact hk⟩

abbrev N_in_order : List Str := ["wood", "numbers", "measure", "found", "number", "pair", "at", "own"]
theorem sc_in_order : FnScope N_in_order ["wood", "numbers", "measure"] (defScope s_in_order) := ⟨rfl, rfl, rfl, by decide +kernel, rfl, by decide +kernel, by decide +kernel⟩

theorem c_in_order {P : Program} {w : World} {K : PySem.W.Frag} {mg : Str → Option Value} {base : Heap} {T : List (Addr × Str)} (Ft : Facts K mg) : Cal P w K mg base T 3 "in_order" 3 (sp_in_order K) := calD Ft.d_in_order sc_in_order (fun _ _ _ _ _ _ us hl => match us, hl with | [_, _, _], _ => rfl) fun f => ⟨_, fun cdv A outer s H E hr => (pxs_cut (px_newL (i := 3) sc_in_order.nd rfl (Or.inl rfl))
  (pxs_cut (px_forL po_body rfl (pm_var 1) (pg_name (i := 4) sc_in_order.nd rfl (Or.inl rfl)) (pxs_cut (px_asg (i := 5) sc_in_order.nd rfl (Or.inl rfl) (pm_tup (pma_cons (pm_call (c_worth Ft) hr (by decide) rfl pas_body (pma_cons (pm_var 0) (pma_cons (pm_var 4) (pma_cons (pm_var 2) pma_nil)))) (pma_cons (pm_var 4) pma_nil))))
  (pxs_cut (px_asg (i := 6) sc_in_order.nd rfl (Or.inl rfl) pm_int)
  (pxs_cut (px_while po_body (pmw_t (pmw_and (pmt_cmp op_lt v2_lt (nomark _) (pm_var 6) (pm_lenO (x := "") (pv 3) rfl Ft.f_len)) (pmw_and1 (pmt_val (pm_call (c_is_ahead Ft) hr (by decide) rfl pas_body (pma_cons (pm_ixO (pv 3) (pm_var 6) (fun _ _ => rfl)) (pma_cons (pm_var 5) pma_nil))))))) (pxs_one (px_asg (i := 6) sc_in_order.nd rfl (Or.inl rfl) (pm_op op_addA v2_add (pm_var 6) pm_int))))
  (pxs_one (px_ins (i := 3) (fun _ _ _ ho ha hb => pe_bm PySem.F.plainAttrs_list PySem.F.slot_list_insert PySem.F.type_list_insert mt_insert ho (pa_cons ha (pa_cons hb pa_nil))) (pv 3) (pm_var 6) (pm_var 5)))))))
  (pxs_frz 3 (pxs_one (px_ret (pm_lcP rfl (by decide) sc_in_order.nd (pm_var 3) (blkOk_by (N := N_in_order) (sc := defScope s_in_order) (by decide +kernel)) (fun _ _ _ _ _ => pg_tup rfl (pgd_cons (i := 7) sc_in_order.nd rfl (Or.inl rfl) (pgd_cons (i := 4) sc_in_order.nd rfl (Or.inl rfl) pgd_nil)) rfl rfl) (fun _ _ _ _ _ => pmts_nil) (fun _ _ _ _ _ => (pm_var 4)))))))), by
  rintro ds g Kt hl ⟨A, W, r, rfl, h, wf, ns, m, rfl, hn, hk1, hk⟩
  have plen : ∀ k, (orderL (W.ahead m) (ns.take k)).length ≤ 60 := fun k => by
    rw [orderL_length, List.length_take]; omega
  refine ⟨fun e g' => g' = g ∧ e = [.dat (.ref A.w), .dat (.lst (ns.map D.int)), .dat (.str m.s), .own (.lst []), .no, .no, .no, .no], ?_, ?_⟩
  · simp [wSeq, wRet, wRetN, wIf, wAsg, wExp, wNil, wRaise, wSetF, wPut, wPar, wUnp, wCont, rVar, rC, rBin, rUn, rAnd, rOr, rNot, rAndT, rOrT, rNotT, rIfE, rNil, rCons, rTup, rLst, rCB, rFld, rDGet, rDIn, rCall, rMth, rMake, rDNew, rIs, rChain, startD, endD, onB, gNames, setAll, -List.lookup_eq_none_iff, -List.map_map, wNewL]
  rintro e0 g' ⟨rfl, rfl⟩
  refine ⟨fun e g'' => g'' = g' ∧ ∃ s4 s5 s6, e = [.dat (.ref A.w), .dat (.lst (ns.map D.int)), .dat (.str m.s), .own (.lst ((orderL (W.ahead m) ns).map (W.pw m))), s4, s5, s6, .no], ?_, ?_⟩
  · simp [wForL, wSeq, wRet, wRetN, wIf, wAsg, wExp, wNil, wRaise, wSetF, wPut, wPar, wUnp, wCont, rVar, rC, rBin, rUn, rAnd, rOr, rNot, rAndT, rOrT, rNotT, rIfE, rNil, rCons, rTup, rLst, rCB, rFld, rDGet, rDIn, rCall, rMth, rMake, rDNew, rIs, rChain, startD, endD, onB, gNames, setAll, -List.lookup_eq_none_iff, -List.map_map, items, notTup]
    refine ⟨fun k e g'' => g'' = g' ∧ ∃ s4 s5 s6, e = [.dat (.ref A.w), .dat (.lst (ns.map D.int)), .dat (.str m.s), .own (.lst ((orderL (W.ahead m) (ns.take k)).map (W.pw m))), s4, s5, s6, .no], ⟨rfl, _, _, _, rfl⟩, ?_, ?_⟩
    · rintro k d e0 g'' hd ⟨rfl, s4, s5, s6, rfl⟩
      rw [List.getElem?_map] at hd
      obtain ⟨n, hnk, rfl⟩ := Option.map_eq_some_iff.mp hd
      have hnm := hk1 n (List.mem_of_getElem? hnk)
      have pl := plen k
      obtain ⟨acc, hacc⟩ : ∃ acc, acc = orderL (W.ahead m) (ns.take k) := ⟨_, rfl⟩
      have step : orderL (W.ahead m) (ns.take (k + 1)) = insA (W.ahead m) n acc := by
        rw [List.take_add_one, hnk, orderL, List.foldl_append, hacc]; rfl
      rw [← hacc] at pl ⊢
      refine ⟨fun e g3 => g3 = g'' ∧ e = [.dat (.ref A.w), .dat (.lst (ns.map D.int)), .dat (.str m.s), .own (.lst (acc.map (W.pw m))), .dat (.int n), .dat (W.pw m n), s6, .no], ?_, ?_⟩
      · simp [wSeq, wRet, wRetN, wIf, wAsg, wExp, wNil, wRaise, wSetF, wPut, wPar, wUnp, wCont, rVar, rC, rBin, rUn, rAnd, rOr, rNot, rAndT, rOrT, rNotT, rIfE, rNil, rCons, rTup, rLst, rCB, rFld, rDGet, rDIn, rCall, rMth, rMake, rDNew, rIs, rChain, startD, endD, onB, gNames, setAll, -List.lookup_eq_none_iff, -List.map_map, sp_worth, wp]
        refine ⟨A, W, [.int n, .str m.s], ⟨rfl, rfl⟩, h, wf, n, m, rfl, hnm, ?_⟩
        simp [Wd.pw, pwD]
      rintro e0 g3 ⟨rfl, rfl⟩
      refine ⟨fun e g4 => g4 = g3 ∧ e = [.dat (.ref A.w), .dat (.lst (ns.map D.int)), .dat (.str m.s), .own (.lst (acc.map (W.pw m))), .dat (.int n), .dat (W.pw m n), .dat (.int 0), .no], ?_, ?_⟩
      · simp [wSeq, wRet, wRetN, wIf, wAsg, wExp, wNil, wRaise, wSetF, wPut, wPar, wUnp, wCont, rVar, rC, rBin, rUn, rAnd, rOr, rNot, rAndT, rOrT, rNotT, rIfE, rNil, rCons, rTup, rLst, rCB, rFld, rDGet, rDIn, rCall, rMth, rMake, rDNew, rIs, rChain, startD, endD, onB, gNames, setAll, -List.lookup_eq_none_iff, -List.map_map]
      rintro e0 g4 ⟨rfl, rfl⟩
      refine ⟨fun e g5 => g5 = g4 ∧ ∃ j : Nat, j ≤ acc.length ∧ (∀ i y, i < j → acc[i]? = some y → W.ahead m y n = true) ∧ (∀ y, acc[j]? = some y → W.ahead m y n = false) ∧ e = [.dat (.ref A.w), .dat (.lst (ns.map D.int)), .dat (.str m.s), .own (.lst (acc.map (W.pw m))), .dat (.int n), .dat (W.pw m n), .dat (.int j), .no], ?_, ?_⟩
      · refine ⟨fun q e g5 => g5 = g4 ∧ ∃ j : Nat, j ≤ acc.length ∧ (∀ i y, i < j → acc[i]? = some y → W.ahead m y n = true) ∧ q = acc.length - j ∧ e = [.dat (.ref A.w), .dat (.lst (ns.map D.int)), .dat (.str m.s), .own (.lst (acc.map (W.pw m))), .dat (.int n), .dat (W.pw m n), .dat (.int j), .no], ⟨_, rfl, 0, Nat.zero_le _, fun i y hi => absurd hi (Nat.not_lt_zero i), rfl, rfl⟩, ?_⟩
        rintro q e g5 ⟨rfl, j, hj, hb, rfl, rfl⟩
        by_cases z : j < acc.length
        · have zi : (j : Int) < (acc.length : Nat) := by omega
          obtain ⟨y, hy⟩ : ∃ y, acc[j]? = some y := ⟨acc[j], List.getElem?_eq_getElem z⟩
          have e1 : atI (acc.map (W.pw m)) (j : Int) = some (W.pw m y) := by
            rw [atI_map]
            unfold atI ixN
            rw [if_pos (by omega), if_pos zi]
            simp [hy]
          simp [wSeq, wRet, wRetN, wIf, wAsg, wExp, wNil, wRaise, wSetF, wPut, wPar, wUnp, wCont, rVar, rC, rBin, rUn, rAnd, rOr, rNot, rAndT, rOrT, rNotT, rIfE, rNil, rCons, rTup, rLst, rCB, rFld, rDGet, rDIn, rCall, rMth, rMake, rDNew, rIs, rChain, startD, endD, onB, gNames, setAll, -List.lookup_eq_none_iff, -List.map_map, rLenO, rIxO, ltF, zi, e1, sp_is_ahead]
          refine ⟨(W.worth m y).1, (W.worth m y).2, y, (W.worth m n).1, (W.worth m n).2, n, ⟨rfl, rfl⟩, worth_bd wf m y, worth_bd wf m n, ?_⟩
          cases q : W.ahead m y n with
          | true =>
            have q' : aheadP (((W.worth m y).1, (W.worth m y).2), y) (((W.worth m n).1, (W.worth m n).2), n) = true := q
            simp [q', addF]
            have hb' : ∀ i x, i < j + 1 → acc[i]? = some x → W.ahead m x n = true := fun i x hi hx => by
              by_cases w : i = j
              · subst w; rw [hy] at hx; cases hx; exact q
              · exact hb i x (by omega) hx
            exact ⟨acc.length - (j + 1), by omega, j + 1, by omega, hb', rfl, by simp⟩
          | false =>
            have q' : aheadP (((W.worth m y).1, (W.worth m y).2), y) (((W.worth m n).1, (W.worth m n).2), n) = false := q
            simp [q']
            have hs' : ∀ x, acc[j]? = some x → W.ahead m x n = false := fun x hx => by rw [hy] at hx; cases hx; exact q
            exact ⟨j, hj, hb, hs', rfl⟩
        · have zi : ¬ (j : Int) < (acc.length : Nat) := by omega
          simp [wSeq, wRet, wRetN, wIf, wAsg, wExp, wNil, wRaise, wSetF, wPut, wPar, wUnp, wCont, rVar, rC, rBin, rUn, rAnd, rOr, rNot, rAndT, rOrT, rNotT, rIfE, rNil, rCons, rTup, rLst, rCB, rFld, rDGet, rDIn, rCall, rMth, rMake, rDNew, rIs, rChain, startD, endD, onB, gNames, setAll, -List.lookup_eq_none_iff, -List.map_map, rLenO, ltF, zi]
          have hs' : ∀ x, acc[j]? = some x → W.ahead m x n = false := fun x hx => by rw [List.getElem?_eq_none (by omega)] at hx; cases hx
          exact ⟨j, hj, hb, hs', rfl⟩
      rintro e0 g5 ⟨rfl, j, hj, hb, hs, rfl⟩
      have e2 := insA_at acc j hj hb hs
      simp [wSeq, wRet, wRetN, wIf, wAsg, wExp, wNil, wRaise, wSetF, wPut, wPar, wUnp, wCont, rVar, rC, rBin, rUn, rAnd, rOr, rNot, rAndT, rOrT, rNotT, rIfE, rNil, rCons, rTup, rLst, rCB, rFld, rDGet, rDIn, rCall, rMth, rMake, rDNew, rIs, rChain, startD, endD, onB, gNames, setAll, -List.lookup_eq_none_iff, -List.map_map, wIns]
      refine ⟨by omega, by omega, ?_⟩
      rw [step, ← e2]
      simp
    · rintro e0 g'' ⟨rfl, s4, s5, s6, rfl⟩
      rw [List.length_map, List.take_length]
      exact ⟨rfl, _, _, _, rfl⟩
  rintro e0 g'' ⟨rfl, s4, s5, s6, rfl⟩
  have pl := plen ns.length
  rw [List.take_length] at pl
  simp [wSeq, wRet, wRetN, wIf, wAsg, wExp, wNil, wRaise, wSetF, wPut, wPar, wUnp, wCont, rVar, rC, rBin, rUn, rAnd, rOr, rNot, rAndT, rOrT, rNotT, rIfE, rNil, rCons, rTup, rLst, rCB, rFld, rDGet, rDIn, rCall, rMth, rMake, rDNew, rIs, rChain, startD, endD, onB, gNames, setAll, -List.lookup_eq_none_iff, -List.map_map, wFrz, frzD, rLcP]
  refine ⟨(orderL (W.ahead m) ns).map fun n => (.tup [.int (W.worth m n).1, .int (W.worth m n).2], .int n), by simp [items, Wd.pw, pwD], trivial, ?_⟩
  refine ⟨by simp; omega, fun p => some p.2, fun p hp => ?_, ?_⟩
  · obtain ⟨n, _, rfl⟩ := List.mem_map.mp hp
    simp [turnR, wSeq, wRet, wRetN, wIf, wAsg, wExp, wNil, wRaise, wSetF, wPut, wPar, wUnp, wCont, rVar, rC, rBin, rUn, rAnd, rOr, rNot, rAndT, rOrT, rNotT, rIfE, rNil, rCons, rTup, rLst, rCB, rFld, rDGet, rDIn, rCall, rMth, rMake, rDNew, rIs, rChain, startD, endD, onB, gNames, setAll, -List.lookup_eq_none_iff, -List.map_map]
  · rw [List.filterMap_map, show ((fun p : D × D => some p.2) ∘ fun n => ((.tup [.int (W.worth m n).1, .int (W.worth m n).2] : D), (.int n : D))) = fun n => some (D.int n) from rfl, List.filterMap_eq_map']
    exact hk⟩

abbrev N_ordered : List Str := ["wood", "number", "measure"]
theorem sc_ordered : FnScope N_ordered ["wood", "number", "measure"] (defScope s_ordered) := ⟨rfl, rfl, rfl, by decide +kernel, rfl, by decide +kernel, by decide +kernel⟩

theorem c_ordered {P : Program} {w : World} {K : PySem.W.Frag} {mg : Str → Option Value} {base : Heap} {T : List (Addr × Str)} (Ft : Facts K mg) : Cal P w K mg base T 4 "ordered" 3 (sp_ordered K) := calD Ft.d_ordered sc_ordered (fun _ _ _ _ _ _ us hl => match us, hl with | [_, _, _], _ => rfl) fun f => ⟨_, fun cdv A outer s H E hr => (pxs_cut (px_if (pmw_t (pmw_or (pmt_cmp (op_neA hr.units) v2_ne (nomark _) (pm_var 1) pm_int) (pmw_or1 (pmt_val (pm_is (n := "bool") rfl Ft.f_isinstance rfl Ft.f_bool (by decide +kernel) (pm_var 1)))))) (pxs_one (px_exp (pm_meth (m_Wood_saying Ft) hr (by decide) pas_body (pm_var 0) (pma_cons (pm_var 1) pma_nil)))) pxs_nil)
  (pxs_cut (px_exp (pm_call (c_need_measure Ft) hr (by decide) rfl pas_body (pma_cons (pm_var 2) pma_nil)))
  (pxs_one (px_ret (pm_call (c_in_order Ft) hr (by decide) rfl pas_body (pma_cons (pm_var 0) (pma_cons (pm_meth (m_Wood_replies Ft) hr (by decide) pas_body (pm_var 0) (pma_cons (pm_var 1) pma_nil)) (pma_cons (pm_var 2) pma_nil)))))))), by
  rintro ds g Kt hl ⟨A, W, r, rfl, h, wf, t, u, rfl, ht, hu, h1, h2, h3⟩
  obtain ⟨b, e1, b1⟩ := neF_zero (g := g) ht
  obtain ⟨c, e2, c1⟩ := isF_bool ht
  have z0 := ok_zero ht b c e1 e2
  refine ⟨fun e g' => g' = g ∧ e = [.dat (.ref A.w), .dat t, .dat u] ∧ ∃ n, t = .int n ∧ isThere W n, ?_, ?_⟩
  · by_cases q : b = true ∨ c = true
    · have go : sp_saying K [.ref A.w, t] g (onD { nx := fun env g' => g' = g ∧ env = [.dat (.ref A.w), .dat t, .dat u] ∧ ∃ n, t = .int n ∧ isThere W n, rt := fun d g => Kt (.val d) g, ex := fun C g => Kt (.exc C) g, bk := fun _ _ => False, ct := fun _ _ => False } fun _ g1 => g1 = g ∧ [Slot.dat (.ref A.w), .dat t, .dat u] = [.dat (.ref A.w), .dat t, .dat u] ∧ ∃ n, t = .int n ∧ isThere W n) := by
        refine ⟨A, W, [t], rfl, h, wf, t, rfl, flat_ty ht, fun n S en ef => ?_, fun hno => ?_⟩
        · exact ⟨rfl, rfl, n, en, .inr (WF.find_key ef)⟩
        · refine h1 fun n en hi => ?_
          rcases hi with z | z
          · subst z
            have := b1 0 en
            have := c1 0 en
            simp_all
          · obtain ⟨S, eS⟩ := wf.toWF.key_find z
            rw [hno n en] at eS; cases eS
      cases b with
      | true => simp [wSeq, wRet, wRetN, wIf, wAsg, wExp, wNil, wRaise, wSetF, wPut, wPar, wUnp, wCont, rVar, rC, rBin, rUn, rAnd, rOr, rNot, rAndT, rOrT, rNotT, rIfE, rNil, rCons, rTup, rLst, rCB, rFld, rDGet, rDIn, rCall, rMth, rMake, rDNew, rIs, rChain, startD, endD, onB, gNames, setAll, -List.lookup_eq_none_iff, -List.map_map, e1, h.hw]; simpa using go
      | false =>
        have cc : c = true := by simpa using q
        subst cc
        simp [wSeq, wRet, wRetN, wIf, wAsg, wExp, wNil, wRaise, wSetF, wPut, wPar, wUnp, wCont, rVar, rC, rBin, rUn, rAnd, rOr, rNot, rAndT, rOrT, rNotT, rIfE, rNil, rCons, rTup, rLst, rCB, rFld, rDGet, rDIn, rCall, rMth, rMake, rDNew, rIs, rChain, startD, endD, onB, gNames, setAll, -List.lookup_eq_none_iff, -List.map_map, e1, e2, h.hw]; simpa using go
    · have bb : b = false := by cases b <;> simp_all
      have cc : c = false := by cases c <;> simp_all
      subst bb cc
      have t0 := z0 rfl rfl
      subst t0
      simp [wSeq, wRet, wRetN, wIf, wAsg, wExp, wNil, wRaise, wSetF, wPut, wPar, wUnp, wCont, rVar, rC, rBin, rUn, rAnd, rOr, rNot, rAndT, rOrT, rNotT, rIfE, rNil, rCons, rTup, rLst, rCB, rFld, rDGet, rDIn, rCall, rMth, rMake, rDNew, rIs, rChain, startD, endD, onB, gNames, setAll, -List.lookup_eq_none_iff, -List.map_map, e2]
      exact .inl rfl
  rintro e0 g' ⟨rfl, rfl, n, rfl, hi⟩
  refine ⟨fun e g'' => g'' = g' ∧ e = [.dat (.ref A.w), .dat (.int n), .dat u] ∧ ∃ m : Ms, u = .str m.s, ?_, ?_⟩
  · simp [wSeq, wRet, wRetN, wIf, wAsg, wExp, wNil, wRaise, wSetF, wPut, wPar, wUnp, wCont, rVar, rC, rBin, rUn, rAnd, rOr, rNot, rAndT, rOrT, rNotT, rIfE, rNil, rCons, rTup, rLst, rCB, rFld, rDGet, rDIn, rCall, rMth, rMake, rDNew, rIs, rChain, startD, endD, onB, gNames, setAll, -List.lookup_eq_none_iff, -List.map_map, sp_need_measure]
    refine ⟨hu, fun z ez hz => ?_, fun hz => h2 n rfl hi hz⟩
    obtain ⟨m, hm⟩ := Ms.of hz
    exact ⟨m, by rw [ez, hm]⟩
  rintro e0 g'' ⟨rfl, rfl, m, rfl⟩
  have rl := replies_len (n := n) wf.toWF
  simp [wSeq, wRet, wRetN, wIf, wAsg, wExp, wNil, wRaise, wSetF, wPut, wPar, wUnp, wCont, rVar, rC, rBin, rUn, rAnd, rOr, rNot, rAndT, rOrT, rNotT, rIfE, rNil, rCons, rTup, rLst, rCB, rFld, rDGet, rDIn, rCall, rMth, rMake, rDNew, rIs, rChain, startD, endD, onB, gNames, setAll, -List.lookup_eq_none_iff, -List.map_map, sp_replies, sp_in_order, wp, h.hw]
  refine ⟨A, W, [.int n], ⟨rfl, rfl⟩, h, wf, n, rfl, ?_⟩
  exact ⟨A, W, [.lst ((W.replies n).map D.int), .str m.s], ⟨rfl, rfl⟩, h, wf, W.replies n, m, rfl, rl, fun x hx => (List.mem_filter.mp hx).1, h3 n m rfl hi rfl⟩⟩

end Vw

set_option Elab.async false
set_option linter.all false
set_option maxRecDepth 100000
set_option maxHeartbeats 4000000
set_option autoImplicit false
namespace Vw
open PySem PySem.Spec L2 DL
def sp_grownT (K : PySem.W.Frag) : SpD := fun ds g Kt => ∃ m k, ds = [.int m, .int k] ∧ 0 ≤ k ∧ k ≤ 1000 ∧ NL g ∧ ∀ g' A B W, Both K g' A B W → (W.age : Int) ≤ k → W.came ≤ k → Wr W k.toNat → Frm g g' noF (unF (W.foot A) (W.foot B)) → Kt (.val (.tup [.ref A.w, .ref B.w])) g'
abbrev N_l_grown : List Str := ["_law_more", "_law_many", "_law_wood", "_law_own_here", "_law_j", "_law_deed_here"]
theorem sc_l_grown : FnScope N_l_grown ["_law_more", "_law_many"] (defScope s_l_grown) := ⟨rfl, rfl, rfl, by decide +kernel, rfl, by decide +kernel, by decide +kernel⟩

theorem c_l_grown {P : Program} {w : World} {K : PySem.W.Frag} {mg : Str → Option Value} {base : Heap} {T : List (Addr × Str)} (Ft : Facts K mg) (tb_l_do : TabAt base mg T (He.codeOf K ("_law_do", none)) (qt ("_law_do", none))) : Cal P w K mg base T 9 "_law_grown" 2 (sp_grownT K) := calD Ft.d_l_grown sc_l_grown (fun _ _ _ _ _ _ us hl => match us, hl with | [_, _], _ => rfl) fun f => ⟨_, fun cdv A outer s H E hr => (pxs_cut (px_par (i := 2) (j := 3) rfl sc_l_grown.nd rfl rfl (by decide) (pma_cons (pm_make0 (k_Wood Ft) hr (by decide) rfl pas_body) (pma_cons (pm_call0 (c_l_own Ft) hr (by decide) rfl pas_body) pma_nil)))
  (pxs_cut (px_forR po_body rfl rfl Ft.f_range (pm_var 1) (pg_name (i := 4) sc_l_grown.nd rfl (Or.inl rfl)) (pxs_cut (px_asg (i := 5) sc_l_grown.nd rfl (Or.inl rfl) (pm_call (c_l_deed Ft) hr (by decide) rfl pas_body (pma_cons (pm_call (c_l_drawn Ft) hr (by decide) rfl pas_body (pma_cons (pm_var 0) (pma_cons (pm_var 4) pma_nil))) (pma_cons (pm_var 3) pma_nil))))
  (pxs_cut (px_exp (pm_call (c_l_act Ft) hr (by decide) rfl pas_body (pma_cons (pm_var 3) (pma_cons (pm_var 5) pma_nil))))
  (pxs_one (px_exp (pm_call (c_l_do Ft tb_l_do) hr (by decide) rfl pas_body (pma_cons (pm_var 2) (pma_cons (pm_var 5) pma_nil))))))))
  (pxs_one (px_ret (pm_tup (pma_cons (pm_var 2) (pma_cons (pm_var 3) pma_nil))))))), by
  rintro ds g Kt hl ⟨m, k, rfl, k0, k1, nl, hk⟩
  refine ⟨fun e g1 => ∃ A B, Both K g1 A B W0 ∧ Frm g g1 noF (unF (W0.foot A) (W0.foot B)) ∧ e = [.dat (.int m), .dat (.int k), .dat (.ref A.w), .dat (.ref B.w), .no, .no], ?_, ?_⟩
  · simp [wSeq, wRet, wRetN, wIf, wAsg, wExp, wNil, wRaise, wSetF, wPut, wPar, wUnp, wCont, rVar, rC, rBin, rUn, rAnd, rOr, rNot, rAndT, rOrT, rNotT, rIfE, rNil, rCons, rTup, rLst, rCB, rFld, rDGet, rDIn, rCall, rMth, rMake, rDNew, rIs, rChain, startD, endD, onB, gNames, setAll, -List.lookup_eq_none_iff, -List.map_map, sp_Wood, sp_own0]
    intro x hx d hd w v hw hv ne
    exact ⟨.ref x, .ref w, ⟨rfl, rfl⟩, wa0 x d, wa0 w v, both0 nl hx hd rfl hw hv ne rfl, both0_frm hx hd rfl hw hv rfl, rfl, rfl⟩
  rintro e g1 ⟨A, B, hB, fr, rfl⟩
  refine ⟨fun e g2 => ∃ A B W s4 s5, Both K g2 A B W ∧ (W.age : Int) ≤ k ∧ W.came ≤ k ∧ Wr W k.toNat ∧ Frm g g2 noF (unF (W.foot A) (W.foot B)) ∧ e = [.dat (.int m), .dat (.int k), .dat (.ref A.w), .dat (.ref B.w), s4, s5], ?_, ?_⟩
  · simp [wForR, wSeq, wRet, wRetN, wIf, wAsg, wExp, wNil, wRaise, wSetF, wPut, wPar, wUnp, wCont, rVar, rC, rBin, rUn, rAnd, rOr, rNot, rAndT, rOrT, rNotT, rIfE, rNil, rCons, rTup, rLst, rCB, rFld, rDGet, rDIn, rCall, rMth, rMake, rDNew, rIs, rChain, startD, endD, onB, gNames, setAll, -List.lookup_eq_none_iff, -List.map_map]
    refine ⟨by omega, by omega, ?_⟩
    refine ⟨fun j e g2 => ∃ A B W s4 s5, Both K g2 A B W ∧ W.age ≤ j ∧ W.came ≤ j ∧ Wr W j ∧ Frm g g2 noF (unF (W.foot A) (W.foot B)) ∧ e = [.dat (.int m), .dat (.int k), .dat (.ref A.w), .dat (.ref B.w), s4, s5], ⟨A, B, W0, _, _, hB, Nat.zero_le _, Int.le_refl 0, wr0, fr, rfl⟩, ?_, ?_⟩
    · rintro j d e g2 hd ⟨A, B, W, s4, s5, hB, ag, cm, wr, fr, rfl⟩
      obtain ⟨hj, rfl⟩ := rangeD_of hd
      refine ⟨fun e g3 => g3 = g2 ∧ ∃ dd : Deed, dd.ok ∧ e = [.dat (.int m), .dat (.int k), .dat (.ref A.w), .dat (.ref B.w), .dat (.int j), .dat dd.d], ?_, ?_⟩
      · simp [wSeq, wRet, wRetN, wIf, wAsg, wExp, wNil, wRaise, wSetF, wPut, wPar, wUnp, wCont, rVar, rC, rBin, rUn, rAnd, rOr, rNot, rAndT, rOrT, rNotT, rIfE, rNil, rCons, rTup, rLst, rCB, rFld, rDGet, rDIn, rCall, rMth, rMake, rDNew, rIs, rChain, startD, endD, onB, gNames, setAll, -List.lookup_eq_none_iff, -List.map_map, sp_drawn, sp_deed]
        refine ⟨m, j, ⟨rfl, rfl⟩, by omega, by omega, ?_⟩
        have db := drawnZ_bd m j
        exact ⟨_, B, ⟨rfl, rfl⟩, db.1, by simpa using db.2, W, hB.b, hB.wfa (by omega), hB.nl.tl, hB.nm, fun dd ok => ⟨dd, ok, rfl⟩⟩
      rintro e g3 ⟨rfl, dd, ok, rfl⟩
      refine ⟨fun e g4 => ∃ B', B'.w = B.w ∧ OwnIn g4 B' (outW W (dd.out W)) ∧ Frm g3 g4 (W.foot B) ((outW W (dd.out W)).foot B') ∧ e = [.dat (.int m), .dat (.int k), .dat (.ref A.w), .dat (.ref B.w), .dat (.int j), .dat dd.d], ?_, ?_⟩
      · exact act_rd hB.b (hB.wfa (by omega)) hB.nl ok rfl rfl fun g4 B' q i f => ⟨B', q, i, f, rfl⟩
      rintro e g4 ⟨B', q2, i2, f2, rfl⟩
      refine act_do hB (by omega) ok q2 i2 f2 rfl rfl fun g5 A5 B5 q3 q4 hB5 ag5 f5 => ?_
      rw [← q3, ← q4]
      have dc := deed_came (W := W) (dd := dd)
      exact ⟨A5, B5, _, _, _, hB5, by omega, by omega, deed_wr wr ok, fr.trans f5, rfl⟩
    · rintro e g2 ⟨A, B, W, s4, s5, hB, ag, cm, wr, fr, rfl⟩
      rw [rangeD_length] at ag cm wr
      exact ⟨A, B, W, hB, by omega, by omega, by simpa using wr, fr, _, _, rfl⟩
  rintro e g2 ⟨A, B, W, s4, s5, hB, ag, cm, wr, fr, rfl⟩
  simp [wSeq, wRet, wRetN, wIf, wAsg, wExp, wNil, wRaise, wSetF, wPut, wPar, wUnp, wCont, rVar, rC, rBin, rUn, rAnd, rOr, rNot, rAndT, rOrT, rNotT, rIfE, rNil, rCons, rTup, rLst, rCB, rFld, rDGet, rDIn, rCall, rMth, rMake, rDNew, rIs, rChain, startD, endD, onB, gNames, setAll, -List.lookup_eq_none_iff, -List.map_map]
  exact hk g2 A B W hB ag cm wr fr⟩

end Vw

set_option Elab.async false
set_option linter.all false
set_option maxRecDepth 100000
set_option maxHeartbeats 4000000
set_option autoImplicit false
namespace Vw
open PySem PySem.Spec L2 DL
abbrev N_Reader_init : List Str := ["self", "wood", "measure", "bound"]
theorem sc_Reader_init : FnScope N_Reader_init ["self", "wood", "measure", "bound"] (defScope s_Reader_init) := ⟨rfl, rfl, rfl, by decide +kernel, rfl, by decide +kernel, by decide +kernel⟩

theorem k_Reader {P : Program} {w : World} {K : PySem.W.Frag} {mg : Str → Option Value} {base : Heap} {T : List (Addr × Str)} (Ft : Facts K mg) : Mak P w K mg base T 3 "Reader" (He.ga K "Reader") 4 (sp_Reader K) := makD Ft.n_Reader sc_Reader_init (fun _ _ _ _ _ _ us hl => match us, hl with | [_, _, _, _], _ => rfl) fun f => ⟨_, fun cdv A outer s H E hr => (pxs_cut (px_exp (pm_call (c_need_measure Ft) hr (by decide) rfl pas_body (pma_cons (pm_var 2) pma_nil)))
  (pxs_cut (px_if (pmt_not (pmt_val (pm_call (c_is_count Ft) hr (by decide) rfl pas_body (pma_cons (pm_var 3) (pma_cons (pm_neg pm_int) (pma_cons pm_int pma_nil)))))) (pxs_one (px_raise Ft.x_BadNumber rfl tk_body rfl)) pxs_nil)
  (pxs_cut (px_setF Ft.at_Reader_wood (pm_var 0) (pm_var 1))
  (pxs_cut (px_setF Ft.at_Reader_measure (pm_var 0) (pm_var 2))
  (pxs_cut (px_setF Ft.at_Reader_bound (pm_var 0) (pm_var 3))
  (pxs_cut (px_setF Ft.at_Reader_folds (pm_var 0) pm_dnew)
  (pxs_one (px_setF Ft.at_Reader_muted (pm_var 0) pm_dnew)))))))), by
  rintro ds g Kt hl ⟨x, q, t, b, rfl, hx, ht, hb, h1, h2, h3⟩
  refine ⟨fun e g' => g' = g ∧ e = [.dat (.ref x), .dat q, .dat t, .dat b] ∧ ∃ m : Ms, t = .str m.s, ?_, ?_⟩
  · simp [wSeq, wRet, wRetN, wIf, wAsg, wExp, wNil, wRaise, wSetF, wPut, wPar, wUnp, wCont, rVar, rC, rBin, rUn, rAnd, rOr, rNot, rAndT, rOrT, rNotT, rIfE, rNil, rCons, rTup, rLst, rCB, rFld, rDGet, rDIn, rCall, rMth, rMake, rDNew, rIs, rChain, startD, endD, onB, gNames, setAll, -List.lookup_eq_none_iff, -List.map_map, sp_need_measure]
    refine ⟨ht, fun z ez hz => ?_, fun hz => h1 hz⟩
    obtain ⟨m, hm⟩ := Ms.of hz
    exact ⟨m, by rw [ez, hm]⟩
  rintro e g' ⟨rfl, rfl, m, rfl⟩
  refine ⟨fun e g'' => g'' = g' ∧ e = [.dat (.ref x), .dat q, .dat (.str m.s), .dat b] ∧ ∃ i, b = .int i ∧ isCnt b (-9) 0 = true, ?_, ?_⟩
  · simp [wSeq, wRet, wRetN, wIf, wAsg, wExp, wNil, wRaise, wSetF, wPut, wPar, wUnp, wCont, rVar, rC, rBin, rUn, rAnd, rOr, rNot, rAndT, rOrT, rNotT, rIfE, rNil, rCons, rTup, rLst, rCB, rFld, rDGet, rDIn, rCall, rMth, rMake, rDNew, rIs, rChain, startD, endD, onB, gNames, setAll, -List.lookup_eq_none_iff, -List.map_map, negF, sp_is_count]
    refine ⟨b, -9, 0, ⟨rfl, rfl, rfl⟩, hb, ?_⟩
    cases c : isCnt b (-9) 0 with
    | false => simp; exact h2 m rfl c
    | true =>
      simp
      cases b <;> simp [isCnt] at c
      exact ⟨_, rfl⟩
  rintro e g'' ⟨rfl, rfl, i, rfl, c⟩
  refine ⟨fun e g3 => g3 = g''.set x (.ins (He.ga K "Reader") [("wood", q)]) ∧ e = [.dat (.ref x), .dat q, .dat (.str m.s), .dat (.int i)], by simp [wSeq, wRet, wRetN, wIf, wAsg, wExp, wNil, wRaise, wSetF, wPut, wPar, wUnp, wCont, rVar, rC, rBin, rUn, rAnd, rOr, rNot, rAndT, rOrT, rNotT, rIfE, rNil, rCons, rTup, rLst, rCB, rFld, rDGet, rDIn, rCall, rMth, rMake, rDNew, rIs, rChain, startD, endD, onB, gNames, setAll, -List.lookup_eq_none_iff, -List.map_map, hx, putD], ?_⟩
  rintro e g3 ⟨rfl, rfl⟩
  refine ⟨fun e g4 => g4 = g''.set x (.ins (He.ga K "Reader") [("wood", q), ("measure", .str m.s)]) ∧ e = [.dat (.ref x), .dat q, .dat (.str m.s), .dat (.int i)], by simp [wSeq, wRet, wRetN, wIf, wAsg, wExp, wNil, wRaise, wSetF, wPut, wPar, wUnp, wCont, rVar, rC, rBin, rUn, rAnd, rOr, rNot, rAndT, rOrT, rNotT, rIfE, rNil, rCons, rTup, rLst, rCB, rFld, rDGet, rDIn, rCall, rMth, rMake, rDNew, rIs, rChain, startD, endD, onB, gNames, setAll, -List.lookup_eq_none_iff, -List.map_map, putD], ?_⟩
  rintro e g4 ⟨rfl, rfl⟩
  refine ⟨fun e g5 => g5 = g''.set x (.ins (He.ga K "Reader") [("wood", q), ("measure", .str m.s), ("bound", .int i)]) ∧ e = [.dat (.ref x), .dat q, .dat (.str m.s), .dat (.int i)], by simp [wSeq, wRet, wRetN, wIf, wAsg, wExp, wNil, wRaise, wSetF, wPut, wPar, wUnp, wCont, rVar, rC, rBin, rUn, rAnd, rOr, rNot, rAndT, rOrT, rNotT, rIfE, rNil, rCons, rTup, rLst, rCB, rFld, rDGet, rDIn, rCall, rMth, rMake, rDNew, rIs, rChain, startD, endD, onB, gNames, setAll, -List.lookup_eq_none_iff, -List.map_map, putD], ?_⟩
  rintro e g5 ⟨rfl, rfl⟩
  refine ⟨fun e g6 => ∃ f, g''.get f = none ∧ f ≠ x ∧ g6 = (g''.set f (.dct [])).set x (.ins (He.ga K "Reader") [("wood", q), ("measure", .str m.s), ("bound", .int i), ("folds", .ref f)]) ∧ e = [.dat (.ref x), .dat q, .dat (.str m.s), .dat (.int i)], ?_, ?_⟩
  · simp only [wSetF, rDNew, rVar, onD_val, List.getElem?_cons_succ, List.getElem?_cons_zero]
    intro f hf
    have ne : f ≠ x := fun z => by subst z; simp at hf
    have hf' : g''.get f = none := by rwa [G.set_ne ne] at hf
    refine ⟨_, rfl, x, _, rfl, (G.set_ne (Ne.symm ne)).trans G.set_same, by simp, f, hf', ne, ?_, trivial⟩
    rw [G.set_comm (a := x) (b := f) (Ne.symm ne), G.set_set]
    rfl
  rintro e g6 ⟨f, hf, nf, rfl, rfl⟩
  simp only [wSetF, rDNew, rVar, onD_val, List.getElem?_cons_succ, List.getElem?_cons_zero]
  intro u hu
  have ne : u ≠ x := fun z => by subst z; simp at hu
  have hu' : (g''.set f (.dct [])).get u = none := by rwa [G.set_ne ne] at hu
  have nu : u ≠ f := fun z => by subst z; simp at hu'
  have hu2 : g''.get u = none := by rwa [G.set_ne nu] at hu'
  refine ⟨_, rfl, x, _, rfl, (G.set_ne (Ne.symm ne)).trans G.set_same, by simp, ?_⟩
  have := h3 m i rfl rfl c f u hf hu2 nf ne (Ne.symm nu)
  rw [G.set_comm (a := x) (b := u) (Ne.symm ne), G.set_set]
  exact this⟩

abbrev N_Reader_fold : List Str := ["self", "number"]
theorem sc_Reader_fold : FnScope N_Reader_fold ["self", "number"] (defScope s_Reader_fold) := ⟨rfl, rfl, rfl, by decide +kernel, rfl, by decide +kernel, by decide +kernel⟩

theorem m_Reader_fold {P : Program} {w : World} {K : PySem.W.Frag} {mg : Str → Option Value} {base : Heap} {T : List (Addr × Str)} (Ft : Facts K mg) : Mtd P w K mg base T 3 (He.ga K "Reader") "fold" 2 (sp_fold true K) := mtdD Ft.m_Reader_fold sc_Reader_fold (fun _ _ _ _ _ _ us hl => match us, hl with | [_, _], _ => rfl) fun f => ⟨_, fun cdv A outer s H E hr => (pxs_cons (px_exp (pm_meth (m_Wood_saying Ft) hr (by decide) pas_body (pm_fld Ft.at_Reader_wood (pm_var 0)) (pma_cons (pm_var 1) pma_nil)))
  (pxs_one (px_put (hu_of hr) (pm_fld Ft.at_Reader_folds (pm_var 0)) (pm_var 1) pm_bl))), by
  rintro ds g Kt hl ⟨a, A, W, R, r, rfl, hr, h, wf, l1, l2, t, rfl, ht, nl, h1, h2⟩
  simp [wSeq, wRet, wRetN, wIf, wAsg, wExp, wNil, wRaise, wSetF, wPut, wPar, wUnp, wCont, rVar, rC, rBin, rUn, rAnd, rOr, rNot, rAndT, rOrT, rNotT, rIfE, rNil, rCons, rTup, rLst, rCB, rFld, rDGet, rDIn, rCall, rMth, rMake, rDNew, rIs, rChain, startD, endD, onB, gNames, setAll, -List.lookup_eq_none_iff, -List.map_map, hr.hr, h.hw, List.lookup, sp_saying, wp]
  refine ⟨A, W, [t], ⟨rfl, rfl⟩, h, wf, t, rfl, ht, fun n S e1 e2 => ?_, fun e1 => h2 fun n en hn => ?_⟩
  · subst e1
    simp [wSeq, wRet, wRetN, wIf, wAsg, wExp, wNil, wRaise, wSetF, wPut, wPar, wUnp, wCont, rVar, rC, rBin, rUn, rAnd, rOr, rNot, rAndT, rOrT, rNotT, rIfE, rNil, rCons, rTup, rLst, rCB, rFld, rDGet, rDIn, rCall, rMth, rMake, rDNew, rIs, rChain, startD, endD, onB, gNames, setAll, -List.lookup_eq_none_iff, -List.map_map, hr.hr, hr.hf, List.lookup, DL.keyOf, nl.lk, dput_fold]
    exact ⟨by simp [foldK]; omega, h1 n rfl (WF.find_key e2)⟩
  · obtain ⟨S, e⟩ := wf.toWF.key_find hn
    rw [e1 n en] at e; cases e⟩

abbrev N_Reader_open_up : List Str := ["self", "number"]
theorem sc_Reader_open_up : FnScope N_Reader_open_up ["self", "number"] (defScope s_Reader_open_up) := ⟨rfl, rfl, rfl, by decide +kernel, rfl, by decide +kernel, by decide +kernel⟩

theorem m_Reader_open_up {P : Program} {w : World} {K : PySem.W.Frag} {mg : Str → Option Value} {base : Heap} {T : List (Addr × Str)} (Ft : Facts K mg) : Mtd P w K mg base T 3 (He.ga K "Reader") "open_up" 2 (sp_fold false K) := mtdD Ft.m_Reader_open_up sc_Reader_open_up (fun _ _ _ _ _ _ us hl => match us, hl with | [_, _], _ => rfl) fun f => ⟨_, fun cdv A outer s H E hr => (pxs_cons (px_exp (pm_meth (m_Wood_saying Ft) hr (by decide) pas_body (pm_fld Ft.at_Reader_wood (pm_var 0)) (pma_cons (pm_var 1) pma_nil)))
  (pxs_one (px_put (hu_of hr) (pm_fld Ft.at_Reader_folds (pm_var 0)) (pm_var 1) pm_bl))), by
  rintro ds g Kt hl ⟨a, A, W, R, r, rfl, hr, h, wf, l1, l2, t, rfl, ht, nl, h1, h2⟩
  simp [wSeq, wRet, wRetN, wIf, wAsg, wExp, wNil, wRaise, wSetF, wPut, wPar, wUnp, wCont, rVar, rC, rBin, rUn, rAnd, rOr, rNot, rAndT, rOrT, rNotT, rIfE, rNil, rCons, rTup, rLst, rCB, rFld, rDGet, rDIn, rCall, rMth, rMake, rDNew, rIs, rChain, startD, endD, onB, gNames, setAll, -List.lookup_eq_none_iff, -List.map_map, hr.hr, h.hw, List.lookup, sp_saying, wp]
  refine ⟨A, W, [t], ⟨rfl, rfl⟩, h, wf, t, rfl, ht, fun n S e1 e2 => ?_, fun e1 => h2 fun n en hn => ?_⟩
  · subst e1
    simp [wSeq, wRet, wRetN, wIf, wAsg, wExp, wNil, wRaise, wSetF, wPut, wPar, wUnp, wCont, rVar, rC, rBin, rUn, rAnd, rOr, rNot, rAndT, rOrT, rNotT, rIfE, rNil, rCons, rTup, rLst, rCB, rFld, rDGet, rDIn, rCall, rMth, rMake, rDNew, rIs, rChain, startD, endD, onB, gNames, setAll, -List.lookup_eq_none_iff, -List.map_map, hr.hr, hr.hf, List.lookup, DL.keyOf, nl.lk, dput_fold]
    exact ⟨by simp [foldK]; omega, h1 n rfl (WF.find_key e2)⟩
  · obtain ⟨S, e⟩ := wf.toWF.key_find hn
    rw [e1 n en] at e; cases e⟩

abbrev N_Reader_mute : List Str := ["self", "name"]
theorem sc_Reader_mute : FnScope N_Reader_mute ["self", "name"] (defScope s_Reader_mute) := ⟨rfl, rfl, rfl, by decide +kernel, rfl, by decide +kernel, by decide +kernel⟩

theorem m_Reader_mute {P : Program} {w : World} {K : PySem.W.Frag} {mg : Str → Option Value} {base : Heap} {T : List (Addr × Str)} (Ft : Facts K mg) : Mtd P w K mg base T 3 (He.ga K "Reader") "mute" 2 (sp_mute K) := mtdD Ft.m_Reader_mute sc_Reader_mute (fun _ _ _ _ _ _ us hl => match us, hl with | [_, _], _ => rfl) fun f => ⟨_, fun cdv A outer s H E hr => (pxs_cons (px_exp (pm_call (c_need_name Ft) hr (by decide) rfl pas_body (pma_cons (pm_var 1) pma_nil)))
  (pxs_one (px_put (hu_of hr) (pm_fld Ft.at_Reader_muted (pm_var 0)) (pm_var 1) pm_bl))), by
  rintro ds g Kt hl ⟨a, A, W, R, r, rfl, hr, h, wf, l1, l2, t, rfl, ht, nl, h1, h2⟩
  simp [wSeq, wRet, wRetN, wIf, wAsg, wExp, wNil, wRaise, wSetF, wPut, wPar, wUnp, wCont, rVar, rC, rBin, rUn, rAnd, rOr, rNot, rAndT, rOrT, rNotT, rIfE, rNil, rCons, rTup, rLst, rCB, rFld, rDGet, rDIn, rCall, rMth, rMake, rDNew, rIs, rChain, startD, endD, onB, gNames, setAll, -List.lookup_eq_none_iff, -List.map_map, sp_need_name]
  refine ⟨ht, fun q => ?_, h2⟩
  cases t with
  | str s =>
    simp [wSeq, wRet, wRetN, wIf, wAsg, wExp, wNil, wRaise, wSetF, wPut, wPar, wUnp, wCont, rVar, rC, rBin, rUn, rAnd, rOr, rNot, rAndT, rOrT, rNotT, rIfE, rNil, rCons, rTup, rLst, rCB, rFld, rDGet, rDIn, rCall, rMth, rMake, rDNew, rIs, rChain, startD, endD, onB, gNames, setAll, -List.lookup_eq_none_iff, -List.map_map, hr.hr, hr.hu, List.lookup, DL.keyOf, nl.lk, dput_mute]
    exact ⟨by simp [muteK]; omega, h1 s rfl q⟩
  | _ => simp [okName] at q⟩

abbrev N_Reader_hear : List Str := ["self", "name"]
theorem sc_Reader_hear : FnScope N_Reader_hear ["self", "name"] (defScope s_Reader_hear) := ⟨rfl, rfl, rfl, by decide +kernel, rfl, by decide +kernel, by decide +kernel⟩

theorem m_Reader_hear {P : Program} {w : World} {K : PySem.W.Frag} {mg : Str → Option Value} {base : Heap} {T : List (Addr × Str)} (Ft : Facts K mg) : Mtd P w K mg base T 3 (He.ga K "Reader") "hear" 2 (sp_hear K) := mtdD Ft.m_Reader_hear sc_Reader_hear (fun _ _ _ _ _ _ us hl => match us, hl with | [_, _], _ => rfl) fun f => ⟨_, fun cdv A outer s H E hr => (pxs_cons (px_exp (pm_call (c_need_name Ft) hr (by decide) rfl pas_body (pma_cons (pm_var 1) pma_nil)))
  (pxs_one (px_exp (pm_pop2 ⟨rfl, rfl, rfl, rfl⟩ (pm_fld Ft.at_Reader_muted (pm_var 0)) (pm_var 1) pm_non)))), by
  rintro ds g Kt hl ⟨a, A, W, R, r, rfl, hr, h, wf, l1, l2, t, rfl, ht, nl, h1, h2⟩
  simp [wSeq, wRet, wRetN, wIf, wAsg, wExp, wNil, wRaise, wSetF, wPut, wPar, wUnp, wCont, rVar, rC, rBin, rUn, rAnd, rOr, rNot, rAndT, rOrT, rNotT, rIfE, rNil, rCons, rTup, rLst, rCB, rFld, rDGet, rDIn, rCall, rMth, rMake, rDNew, rIs, rChain, startD, endD, onB, gNames, setAll, -List.lookup_eq_none_iff, -List.map_map, sp_need_name]
  refine ⟨ht, fun q => ?_, h2⟩
  cases t with
  | str s =>
    have k1 := h1 s rfl q
    simp [wSeq, wRet, wRetN, wIf, wAsg, wExp, wNil, wRaise, wSetF, wPut, wPar, wUnp, wCont, rVar, rC, rBin, rUn, rAnd, rOr, rNot, rAndT, rOrT, rNotT, rIfE, rNil, rCons, rTup, rLst, rCB, rFld, rDGet, rDIn, rCall, rMth, rMake, rDNew, rIs, rChain, startD, endD, onB, gNames, setAll, -List.lookup_eq_none_iff, -List.map_map, rPop2, hr.hr, hr.hu, List.lookup, DL.keyOf, nl.lk, ddrop_mute, dfind_mute]
    refine ⟨fun hs => k1 _ (.inr (by simp)), fun hs => k1 _ (.inl ⟨rfl, hs⟩)⟩
  | _ => simp [okName] at q⟩

abbrev N_Reader_is_folded : List Str := ["self", "number", "points"]
theorem sc_Reader_is_folded : FnScope N_Reader_is_folded ["self", "number"] (defScope s_Reader_is_folded) := ⟨rfl, rfl, rfl, by decide +kernel, rfl, by decide +kernel, by decide +kernel⟩

theorem m_Reader_is_folded {P : Program} {w : World} {K : PySem.W.Frag} {mg : Str → Option Value} {base : Heap} {T : List (Addr × Str)} (Ft : Facts K mg) : Mtd P w K mg base T 3 (He.ga K "Reader") "is_folded" 2 (sp_is_folded K) := mtdD Ft.m_Reader_is_folded sc_Reader_is_folded (fun _ _ _ _ _ _ us hl => match us, hl with | [_, _], _ => rfl) fun f => ⟨_, fun cdv A outer s H E hr => (pxs_cons (px_asg (i := 2) sc_Reader_is_folded.nd rfl (Or.inl rfl) (pm_meth0 (m_Saying_points Ft) hr (by decide) pas_body (pm_dget (hu_of hr) (pm_fld Ft.at_Wood_sayings (pm_fld Ft.at_Reader_wood (pm_var 0))) (pm_var 1) (fun _ _ => rfl))))
  (pxs_one (px_ret (pm_get2 (hu_of hr) ⟨rfl, rfl, rfl, rfl⟩ (pm_fld Ft.at_Reader_folds (pm_var 0)) (pm_var 1) (pm_cmp op_lt v2_lt (nomark _) (pm_var 2) (pm_fld Ft.at_Reader_bound (pm_var 0))))))), by
  rintro ds g Kt hl ⟨a, A, W, R, r, rfl, hr, h, wf, l1, l2, n, rfl, hn, hk⟩
  obtain ⟨S, e⟩ := wf.toWF.key_find hn
  have hs := h.say wf e
  have ep := WoodIn.pts (K := K) (g := g) (A := A) wf e
  simp [wSeq, wRet, wRetN, wIf, wAsg, wExp, wNil, wRaise, wSetF, wPut, wPar, wUnp, wCont, rVar, rC, rBin, rUn, rAnd, rOr, rNot, rAndT, rOrT, rNotT, rIfE, rNil, rCons, rTup, rLst, rCB, rFld, rDGet, rDIn, rCall, rMth, rMake, rDNew, rIs, rChain, startD, endD, onB, gNames, setAll, -List.lookup_eq_none_iff, -List.map_map, hr.hr, h.hw, h.hd, List.lookup, dgetF, asDict, DL.keyOf, dfind_row, e, hs.hs, sayFs, sp_points]
  refine ⟨_, S, hs, ?_⟩
  simp [wSeq, wRet, wRetN, wIf, wAsg, wExp, wNil, wRaise, wSetF, wPut, wPar, wUnp, wCont, rVar, rC, rBin, rUn, rAnd, rOr, rNot, rAndT, rOrT, rNotT, rIfE, rNil, rCons, rTup, rLst, rCB, rFld, rDGet, rDIn, rCall, rMth, rMake, rDNew, rIs, rChain, startD, endD, onB, gNames, setAll, -List.lookup_eq_none_iff, -List.map_map, rGet2, hr.hr, hr.hf, List.lookup, ltF, asDict, DL.keyOf, dfind_fold]
  have : (((R.fo.lookup n).map D.bl).getD (.bl (decide (S.ups - S.downs < R.b)))) = .bl (W.folded R n) := by
    unfold Wd.folded
    rw [ep]
    cases R.fo.lookup n <;> rfl
  simp only [Option.getD_map] at this ⊢
  first | exact this ▸ hk | (rw [← this] at hk; simpa using hk)⟩

abbrev N_Reader_kind : List Str := ["self", "number", "one"]
theorem sc_Reader_kind : FnScope N_Reader_kind ["self", "number"] (defScope s_Reader_kind) := ⟨rfl, rfl, rfl, by decide +kernel, rfl, by decide +kernel, by decide +kernel⟩

theorem m_Reader_kind {P : Program} {w : World} {K : PySem.W.Frag} {mg : Str → Option Value} {base : Heap} {T : List (Addr × Str)} (Ft : Facts K mg) : Mtd P w K mg base T 2 (He.ga K "Reader") "kind" 2 (sp_kind K) := mtdD Ft.m_Reader_kind sc_Reader_kind (fun _ _ _ _ _ _ us hl => match us, hl with | [_, _], _ => rfl) fun f => ⟨_, fun cdv A outer s H E hr => (pxs_cons (px_asg (i := 2) sc_Reader_kind.nd rfl (Or.inl rfl) (pm_dget (hu_of hr) (pm_fld Ft.at_Wood_sayings (pm_fld Ft.at_Reader_wood (pm_var 0))) (pm_var 1) (fun _ _ => rfl)))
  (pxs_cons (px_if (pmt_val (pm_fld Ft.at_Saying_is_struck (pm_var 2))) (pxs_one (px_ret pm_str)) pxs_nil)
  (pxs_one (px_ret (pm_ifE (pmt_din (hu_of hr) (pm_fld Ft.at_Saying_by (pm_var 2)) (pm_fld Ft.at_Reader_muted (pm_var 0))) pm_str pm_str))))), by
  rintro ds g Kt hl ⟨a, A, W, R, r, rfl, hr, h, wf, l1, l2, n, rfl, hn, hk⟩
  obtain ⟨S, e⟩ := wf.toWF.key_find hn
  have hs := h.say wf e
  simp [wSeq, wRet, wRetN, wIf, wAsg, wExp, wNil, wRaise, wSetF, wPut, wPar, wUnp, wCont, rVar, rC, rBin, rUn, rAnd, rOr, rNot, rAndT, rOrT, rNotT, rIfE, rNil, rCons, rTup, rLst, rCB, rFld, rDGet, rDIn, rCall, rMth, rMake, rDNew, rIs, rChain, startD, endD, onB, gNames, setAll, -List.lookup_eq_none_iff, -List.map_map, hr.hr, hr.hu, h.hw, h.hd, List.lookup, dgetF, dinB, asDict, DL.keyOf, dfind_row, dfind_mute, e, hs.hs, sayFs]
  unfold Wd.kind at hk
  rw [e] at hk
  simp only [] at hk
  cases q : S.struck with
  | true => simp [q] at hk ⊢; exact hk
  | false =>
    by_cases q2 : S.by_ ∈ R.mu <;> (simp [q, q2] at hk ⊢; exact hk)⟩

end Vw

set_option Elab.async false
set_option linter.all false
set_option maxRecDepth 100000
set_option maxHeartbeats 4000000
set_option autoImplicit false
namespace Vw
open PySem PySem.Spec L2 DL
abbrev N_Reader_rows_under : List Str := ["self", "number", "deep", "known", "found", "one"]
theorem sc_Reader_rows_under : FnScope N_Reader_rows_under ["self", "number", "deep", "known"] (defScope s_Reader_rows_under) := ⟨rfl, rfl, rfl, by decide +kernel, rfl, by decide +kernel, by decide +kernel⟩

theorem m_Reader_rows_under_step {P : Program} {w : World} {K : PySem.W.Frag} {mg : Str → Option Value} {base : Heap} {T : List (Addr × Str)} (Ft : Facts K mg) (j : Nat) (cb : Mtd P w K mg base T (15+2*j) (He.ga K "Reader") "rows_of" 4 (sprof j K)) : Mtd P w K mg base T (15+2*j+1) (He.ga K "Reader") "rows_under" 4 (sp_rows_under j K) := mtdD Ft.m_Reader_rows_under sc_Reader_rows_under (fun _ _ _ _ _ _ us hl => match us, hl with | [_, _, _, _], _ => rfl) fun f => ⟨_, fun cdv A outer s H E hr => (pxs_cut (px_asg (i := 4) sc_Reader_rows_under.nd rfl (Or.inl rfl) (pm_lst pma_nil))
  (pxs_cut (px_forL po_body rfl (pm_call (c_ordered Ft) hr (by omega) rfl pas_body (pma_cons (pm_fld Ft.at_Reader_wood (pm_var 0)) (pma_cons (pm_var 1) (pma_cons (pm_fld Ft.at_Reader_measure (pm_var 0)) pma_nil)))) (pg_name (i := 5) sc_Reader_rows_under.nd rfl (Or.inl rfl)) (pxs_one (px_if (pmt_cmp op_inA v2_in (by rfl) (pm_var 5) (pm_var 3)) (pxs_one (px_asg (i := 4) sc_Reader_rows_under.nd rfl (Or.inl rfl) (pm_cat (pm_var 4) (pm_meth cb hr (by omega) pas_body (pm_var 0) (pma_cons (pm_var 5) (pma_cons (pm_var 2) (pma_cons (pm_var 3) pma_nil))))))) pxs_nil)))
  (pxs_one (px_ret (pm_var 4))))), by
  rintro ds g Kt hl ⟨a, A, W, R, r, rfl, hr, h, wf, l1, l2, n, d, kn, rfl, hn, tl, hj, hk⟩
  refine ⟨fun e g' => g' = g ∧ e = [.dat (.ref a.r), .dat (.int n), .dat (.int d), .dat (.lst (kn.map D.int)), .dat (.lst []), .no], ?_, ?_⟩
  · simp [wSeq, wRet, wRetN, wIf, wAsg, wExp, wNil, wRaise, wSetF, wPut, wPar, wUnp, wCont, rVar, rC, rBin, rUn, rAnd, rOr, rNot, rAndT, rOrT, rNotT, rIfE, rNil, rCons, rTup, rLst, rCB, rFld, rDGet, rDIn, rCall, rMth, rMake, rDNew, rIs, rChain, startD, endD, onB, gNames, setAll, -List.lookup_eq_none_iff, -List.map_map]
  rintro e0 g' ⟨rfl, rfl⟩
  refine ⟨fun e g'' => g'' = g' ∧ ∃ s5, e = [.dat (.ref a.r), .dat (.int n), .dat (.int d), .dat (.lst (kn.map D.int)), .dat (.lst ((rowsU W R kn j n d).map rowD)), s5], ?_, ?_⟩
  · simp [wSeq, wRet, wRetN, wIf, wAsg, wExp, wNil, wRaise, wSetF, wPut, wPar, wUnp, wCont, rVar, rC, rBin, rUn, rAnd, rOr, rNot, rAndT, rOrT, rNotT, rIfE, rNil, rCons, rTup, rLst, rCB, rFld, rDGet, rDIn, rCall, rMth, rMake, rDNew, rIs, rChain, startD, endD, onB, gNames, setAll, -List.lookup_eq_none_iff, -List.map_map, wForL, sp_ordered, wp, hr.hr, -List.lookup_eq_none_iff, -List.map_map, List.lookup]
    refine ⟨A, W, [.int n, .str R.m.s], ⟨rfl, rfl⟩, h, wf, .int n, .str R.m.s, rfl, ⟨_, rfl⟩, rfl, fun q => absurd hn (q n rfl), fun n' _ _ q => absurd R.m.mem (q _ rfl), fun n' m en hi em => ?_⟩
    cases en
    have em2 := Ms.s_inj em
    subst em2
    refine ⟨(W.ordered R.m n).map D.int, rfl, trivial, ?_⟩
    refine ⟨fun k e g'' => g'' = g' ∧ ∃ s5, e = [.dat (.ref a.r), .dat (.int n), .dat (.int d), .dat (.lst (kn.map D.int)), .dat (.lst (((((W.ordered R.m n).take k).filter fun o => decide (o ∈ kn)).flatMap fun o => rowsF W R kn j o d).map rowD)), s5], ⟨rfl, .no, by simp⟩, ?_, ?_⟩
    · rintro k x e0 g'' hk' ⟨rfl, s5, rfl⟩
      rw [List.getElem?_map] at hk'
      obtain ⟨o, ho, rfl⟩ := Option.map_eq_some_iff.mp hk'
      have hom : o ∈ W.replies n := (ordered_mem wf.toWF).mp (List.mem_of_getElem? ho)
      obtain ⟨a1, a2, a3⟩ := wf.toWF.replies_above hom
      have tk := rowsU_take (R := R) (kn := kn) (j := j) (d := d) ho
      have b1 := rowsU_len wf.toWF (R := R) (kn := kn) (j := j) (d := d) hn k
      have b2 := rowsU_len wf.toWF (R := R) (kn := kn) (j := j) (d := d) hn (k + 1)
      rw [tk, List.length_append] at b2
      by_cases q : o ∈ kn
      · rw [if_pos q] at b2 tk
        simp [wSeq, wRet, wRetN, wIf, wAsg, wExp, wNil, wRaise, wSetF, wPut, wPar, wUnp, wCont, rVar, rC, rBin, rUn, rAnd, rOr, rNot, rAndT, rOrT, rNotT, rIfE, rNil, rCons, rTup, rLst, rCB, rFld, rDGet, rDIn, rCall, rMth, rMake, rDNew, rIs, rChain, startD, endD, onB, gNames, setAll, -List.lookup_eq_none_iff, -List.map_map, inF_ints, q, rCatD, hr.hr, -List.lookup_eq_none_iff, -List.map_map, List.lookup]
        cases j with
        | zero => have := wf.dep o a3; rw [a1] at this; simp at this; omega
        | succ j =>
          show sp_rows_of (j + 1) K [D.ref a.r, D.int o, D.int d, D.lst (List.map D.int kn)] g'' _
          refine rp_at hr h wf l1 l2 ⟨o, d, kn, rfl, a3, tl, by rw [a1]; simp; omega, ?_⟩
          simp only [onV_val]
          refine ⟨_, rfl, tl, ?_, ?_⟩
          · simp only [List.length_map]
            rw [List.length_flatMap] at b2
            omega
          · rw [tk, List.map_append]; exact ⟨trivial, rfl⟩
      · rw [if_neg q, List.append_nil] at tk
        simp only [wIf, rBin, rVar, wNil, List.getElem?_cons_succ, List.getElem?_cons_zero]
        refine ⟨_, rfl, _, rfl, _, inF_ints, ?_⟩
        simp [q]
        rw [tk]
    · rintro e0 g'' ⟨rfl, s5, rfl⟩
      rw [List.length_map, List.take_length]
      exact ⟨rfl, s5, rfl⟩
  rintro e0 g'' ⟨rfl, s5, rfl⟩
  simp [wSeq, wRet, wRetN, wIf, wAsg, wExp, wNil, wRaise, wSetF, wPut, wPar, wUnp, wCont, rVar, rC, rBin, rUn, rAnd, rOr, rNot, rAndT, rOrT, rNotT, rIfE, rNil, rCons, rTup, rLst, rCB, rFld, rDGet, rDIn, rCall, rMth, rMake, rDNew, rIs, rChain, startD, endD, onB, gNames, setAll, -List.lookup_eq_none_iff, -List.map_map]
  exact hk⟩

abbrev N_Reader_rows_of : List Str := ["self", "number", "deep", "known", "below", "one"]
theorem sc_Reader_rows_of : FnScope N_Reader_rows_of ["self", "number", "deep", "known"] (defScope s_Reader_rows_of) := ⟨rfl, rfl, rfl, by decide +kernel, rfl, by decide +kernel, by decide +kernel⟩

theorem m_Reader_rows_of_step {P : Program} {w : World} {K : PySem.W.Frag} {mg : Str → Option Value} {base : Heap} {T : List (Addr × Str)} (Ft : Facts K mg) (j : Nat) (cb : Mtd P w K mg base T (15+2*j+1) (He.ga K "Reader") "rows_under" 4 (sp_rows_under j K)) : Mtd P w K mg base T (15+2*j+1+1) (He.ga K "Reader") "rows_of" 4 (sp_rows_of (j+1) K) := mtdD Ft.m_Reader_rows_of sc_Reader_rows_of (fun _ _ _ _ _ _ us hl => match us, hl with | [_, _, _, _], _ => rfl) fun f => ⟨_, fun cdv A outer s H E hr => (pxs_cut (px_lcL (j := 4) rfl sc_Reader_rows_of.nd rfl rfl (sw_true rfl rfl rfl (by decide +kernel)) (pm_meth (m_Wood_below Ft) hr (by omega) pas_body (pm_fld Ft.at_Reader_wood (pm_var 0)) (pma_cons (pm_var 1) pma_nil)) (blkOk_by (N := N_Reader_rows_of) (sc := defScope s_Reader_rows_of) (by decide +kernel)) (fun _ _ _ _ _ => pg_name (i := 5) sc_Reader_rows_of.nd rfl (Or.inl rfl)) (fun _ _ _ _ _ => (pmts_one (pmt_cmp op_inA v2_in (by rfl) (pm_var 5) (pm_var 3)))) (fun _ _ _ _ _ => (pm_var 5)))
  (pxs_cut (px_if (pmw_t (pmw_and (pmt_val (pm_meth (m_Reader_is_folded Ft) hr (by omega) pas_body (pm_var 0) (pma_cons (pm_var 1) pma_nil))) (pmw_and1 (pmt_cmp (op_neA hr.units) v2_ne (nomark _) (pm_var 4) (pm_lst pma_nil))))) (pxs_one (px_ret (pm_lst (pma_cons (pm_tup (pma_cons (pm_var 1) (pma_cons (pm_var 2) (pma_cons (pm_meth (m_Reader_kind Ft) hr (by omega) pas_body (pm_var 0) (pma_cons (pm_var 1) pma_nil)) (pma_cons (pm_len rfl Ft.f_len (pma_cons (pm_var 4) pma_nil)) pma_nil))))) pma_nil)))) pxs_nil)
  (pxs_one (px_ret (pm_cat (pm_lst (pma_cons (pm_tup (pma_cons (pm_var 1) (pma_cons (pm_var 2) (pma_cons (pm_meth (m_Reader_kind Ft) hr (by omega) pas_body (pm_var 0) (pma_cons (pm_var 1) pma_nil)) (pma_cons pm_int pma_nil))))) pma_nil)) (pm_meth cb hr (by omega) pas_body (pm_var 0) (pma_cons (pm_var 1) (pma_cons (pm_op op_addA v2_add (pm_var 2) pm_int) (pma_cons (pm_var 3) pma_nil))))))))), by
  rintro ds g Kt hl ⟨a, A, W, R, r, rfl, hr, h, wf, l1, l2, n, d, kn, rfl, hn, tl, hj, hk⟩
  have ne0 : ∀ g, neF g (.lst ((W.known kn n).map D.int)) (.lst []) = some (.bl (!decide (W.known kn n = []))) := fun g => neF_ints (bs := [])
  refine ⟨fun e g' => g' = g ∧ ∃ s5, e = [.dat (.ref a.r), .dat (.int n), .dat (.int d), .dat (.lst (kn.map D.int)), .dat (.lst ((W.known kn n).map D.int)), s5], ?_, ?_⟩
  · simp [wSeq, wRet, wRetN, wIf, wAsg, wExp, wNil, wRaise, wSetF, wPut, wPar, wUnp, wCont, rVar, rC, rBin, rUn, rAnd, rOr, rNot, rAndT, rOrT, rNotT, rIfE, rNil, rCons, rTup, rLst, rCB, rFld, rDGet, rDIn, rCall, rMth, rMake, rDNew, rIs, rChain, startD, endD, onB, gNames, setAll, -List.lookup_eq_none_iff, -List.map_map, rLcL, hr.hr, h.hw, sp_below, wp, -List.lookup_eq_none_iff, -List.map_map, List.lookup]
    refine ⟨A, W, [.int n], ⟨rfl, rfl⟩, h, wf, n, rfl, tl, fun z => absurd (.inr hn) z, fun _ => ?_⟩
    refine ⟨_, rfl, trivial, ?_⟩
    refine lcR_if (xs := W.below n) int_inj (fun o => decide (o ∈ kn)) D.int (by have := below_len (n := n) wf.toWF; omega) (fun m hm => ?_) ?_
    · simp [turnR, wSeq, wRet, wRetN, wIf, wAsg, wExp, wNil, wRaise, wSetF, wPut, wPar, wUnp, wCont, rVar, rC, rBin, rUn, rAnd, rOr, rNot, rAndT, rOrT, rNotT, rIfE, rNil, rCons, rTup, rLst, rCB, rFld, rDGet, rDIn, rCall, rMth, rMake, rDNew, rIs, rChain, startD, endD, onB, gNames, setAll, -List.lookup_eq_none_iff, -List.map_map, inF_ints]
      by_cases q : m ∈ kn <;> simp [q]
    · exact ⟨rfl, rfl⟩
  rintro e0 g' ⟨rfl, s5, rfl⟩
  refine ⟨fun e g'' => g'' = g' ∧ ¬ (W.folded R n = true ∧ W.known kn n ≠ []) ∧ e = [.dat (.ref a.r), .dat (.int n), .dat (.int d), .dat (.lst (kn.map D.int)), .dat (.lst ((W.known kn n).map D.int)), s5], ?_, ?_⟩
  · simp [wSeq, wRet, wRetN, wIf, wAsg, wExp, wNil, wRaise, wSetF, wPut, wPar, wUnp, wCont, rVar, rC, rBin, rUn, rAnd, rOr, rNot, rAndT, rOrT, rNotT, rIfE, rNil, rCons, rTup, rLst, rCB, rFld, rDGet, rDIn, rCall, rMth, rMake, rDNew, rIs, rChain, startD, endD, onB, gNames, setAll, -List.lookup_eq_none_iff, -List.map_map, hr.hr, -List.lookup_eq_none_iff, -List.map_map, List.lookup]
    refine rp_at hr h wf l1 l2 ⟨n, rfl, hn, ?_⟩
    cases q : W.folded R n with
    | false => simp
    | true =>
      simp [ne0]
      by_cases q2 : W.known kn n = []
      · simp [q2]
      · simp [q2]
        refine ⟨_, hr.hr, by simp, rp_at hr h wf l1 l2 ⟨n, rfl, hn, ?_⟩⟩
        simp [lenF, items]
        have e1 : rowsF W R kn (j + 1) n d = [(n, d, W.kind R n, ((W.known kn n).length : Int))] := by
          unfold rowsF
          rw [if_pos ⟨q, q2⟩]
        rw [e1] at hk
        exact hk
  rintro e0 g'' ⟨rfl, q, rfl⟩
  have e1 : rowsF W R kn (j + 1) n d = (n, d, W.kind R n, 0) :: rowsU W R kn j n (d + 1) := by
    rw [rowsF.eq_def]
    simp only []
    rw [if_neg q]
    rfl
  have b2 := rowsU_len' wf.toWF (R := R) (kn := kn) (j := j) (d := d + 1) (.inr hn)
  rw [e1] at hk
  simp [wSeq, wRet, wRetN, wIf, wAsg, wExp, wNil, wRaise, wSetF, wPut, wPar, wUnp, wCont, rVar, rC, rBin, rUn, rAnd, rOr, rNot, rAndT, rOrT, rNotT, rIfE, rNil, rCons, rTup, rLst, rCB, rFld, rDGet, rDIn, rCall, rMth, rMake, rDNew, rIs, rChain, startD, endD, onB, gNames, setAll, -List.lookup_eq_none_iff, -List.map_map, rCatD, hr.hr, -List.lookup_eq_none_iff, -List.map_map, List.lookup]
  refine rp_at hr h wf l1 l2 ⟨n, rfl, hn, ?_⟩
  simp [addF, hr.hr]
  refine rp_at hr h wf l1 l2 ⟨n, d + 1, kn, rfl, .inr hn, tl, by omega, ?_⟩
  simp only [onV_val]
  refine ⟨_, rfl, tl, ?_, hk⟩
  simp only [List.length_map, List.length_cons, List.length_nil]; omega⟩

theorem m_Reader_rows_of_at {P : Program} {w : World} {K : PySem.W.Frag} {mg : Str → Option Value} {base : Heap} {T : List (Addr × Str)} (Ft : Facts K mg) : ∀ j, Mtd P w K mg base T (15+2*j) (He.ga K "Reader") "rows_of" 4 (sprof j K)
  | 0 => mtd_none (k := 14) Ft.m_Reader_rows_of sc_Reader_rows_of (fun _ _ _ _ _ _ us hl => match us, hl with | [_, _, _, _], _ => rfl)
  | j + 1 => m_Reader_rows_of_step Ft j (m_Reader_rows_under_step Ft j (m_Reader_rows_of_at Ft j))
theorem m_Reader_rows_under {P : Program} {w : World} {K : PySem.W.Frag} {mg : Str → Option Value} {base : Heap} {T : List (Addr × Str)} (Ft : Facts K mg) : Mtd P w K mg base T 32 (He.ga K "Reader") "rows_under" 4 (sp_rows_under 8 K) := m_Reader_rows_under_step Ft 8 (m_Reader_rows_of_at Ft 8)
abbrev N_Reader_rows : List Str := ["self"]
theorem sc_Reader_rows : FnScope N_Reader_rows ["self"] (defScope s_Reader_rows) := ⟨rfl, rfl, rfl, by decide +kernel, rfl, by decide +kernel, by decide +kernel⟩

theorem m_Reader_rows {P : Program} {w : World} {K : PySem.W.Frag} {mg : Str → Option Value} {base : Heap} {T : List (Addr × Str)} (Ft : Facts K mg) : Mtd P w K mg base T 33 (He.ga K "Reader") "rows" 1 (sp_rows K) := mtdD Ft.m_Reader_rows sc_Reader_rows (fun _ _ _ _ _ _ us hl => match us, hl with | [_], _ => rfl) fun f => ⟨_, fun cdv A outer s H E hr => (pxs_one (px_ret (pm_meth (m_Reader_rows_under Ft) hr (by decide) pas_body (pm_var 0) (pma_cons pm_int (pma_cons pm_int (pma_cons (pm_meth0 (m_Wood_numbers Ft) hr (by decide) pas_body (pm_fld Ft.at_Reader_wood (pm_var 0))) pma_nil)))))), by
  rintro ds g Kt hl ⟨a, A, W, R, r, rfl, hr, h, wf, l1, l2, rfl, tl, hk⟩
  simp [wSeq, wRet, wRetN, wIf, wAsg, wExp, wNil, wRaise, wSetF, wPut, wPar, wUnp, wCont, rVar, rC, rBin, rUn, rAnd, rOr, rNot, rAndT, rOrT, rNotT, rIfE, rNil, rCons, rTup, rLst, rCB, rFld, rDGet, rDIn, rCall, rMth, rMake, rDNew, rIs, rChain, startD, endD, onB, gNames, setAll, -List.lookup_eq_none_iff, -List.map_map, hr.hr, h.hw, -List.lookup_eq_none_iff, -List.map_map, List.lookup, sp_numbers, wp]
  refine ⟨A, W, [], ⟨rfl, rfl⟩, h, wf, rfl, ?_⟩
  exact rp_at hr h wf l1 l2 ⟨0, 0, W.keys, rfl, .inl rfl, tl, by omega, hk⟩⟩

end Vw

set_option Elab.async false
set_option linter.all false
set_option maxRecDepth 100000
set_option maxHeartbeats 4000000
set_option autoImplicit false
namespace Vw
open PySem PySem.Spec L2 DL
abbrev N_votes_written : List Str := ["one", "some", "name"]
theorem sc_votes_written : FnScope N_votes_written ["one"] (defScope s_votes_written) := ⟨rfl, rfl, rfl, by decide +kernel, rfl, by decide +kernel, by decide +kernel⟩

theorem c_votes_written {P : Program} {w : World} {K : PySem.W.Frag} {mg : Str → Option Value} {base : Heap} {T : List (Addr × Str)} (Ft : Facts K mg) : Cal P w K mg base T 1 "votes_written" 1 (sp_votes_written K) := calD Ft.d_votes_written sc_votes_written (fun _ _ _ _ _ _ us hl => match us, hl with | [_], _ => rfl) fun f => ⟨_, fun cdv A outer s H E hr => (pxs_cut (px_lcL (j := 1) rfl sc_votes_written.nd rfl rfl (sw_true rfl rfl rfl (by decide +kernel)) (pm_sortedS rfl rfl Ft.f_sorted (pma_cons (pm_fld Ft.at_Saying_votes (pm_var 0)) pma_nil)) (blkOk_by (N := N_votes_written) (sc := defScope s_votes_written) (by decide +kernel)) (fun _ _ _ _ _ => pg_name (i := 2) sc_votes_written.nd rfl (Or.inl rfl)) (fun _ _ _ _ _ => pmts_nil) (fun _ _ _ _ _ => (pm_op op_addA v2_add (pm_ifE (pmt_cmp op_gt v2_gt (nomark _) (pm_dget (hu_of hr) (pm_fld Ft.at_Saying_votes (pm_var 0)) (pm_var 2) (fun _ _ => rfl)) pm_int) pm_str pm_str) (pm_var 2))))
  (pxs_one (px_ret (pm_ifE (pmt_cmp (op_neA hr.units) v2_ne (nomark _) (pm_var 1) (pm_lst pma_nil)) (pm_join pm_str (pm_var 1)) pm_str)))), by
  rintro ds g Kt hl ⟨s, v, S, rfl, h, l64, hv, hk⟩
  obtain ⟨xs, hxs⟩ : ∃ xs, xs = (sortS (S.votes.map (·.1))).map (voteS S) := ⟨_, rfl⟩
  have pm := sortS_perm (S.votes.map (·.1))
  have ll : (sortS (S.votes.map (·.1))).length < 64 := by rw [pm.length_eq, List.length_map]; exact l64
  have bl := (vtext_len l64 hv).2
  rw [← hxs] at bl
  have p1 : PyData.strOk ("+" : Str) = true := by decide +kernel
  have p2 : PyData.strOk ("-" : Str) = true := by decide +kernel
  have sok : ∀ x ∈ xs, PyData.strOk x = true := fun x hx => by
    rw [hxs] at hx
    obtain ⟨n, hn', rfl⟩ := List.mem_map.mp hx
    obtain ⟨q, hq, rfl⟩ := List.mem_map.mp (pm.mem_iff.mp hn')
    unfold voteS
    split
    · exact strOk_app p1 (strOk_name (hv q hq))
    · exact strOk_app p2 (strOk_name (hv q hq))
  refine ⟨fun e g' => g' = g ∧ e = [.dat (.ref s), .dat (.lst (xs.map D.str)), .no], ?_, ?_⟩
  · have l64' : (S.votes.map (·.1)).length < 64 := by rw [List.length_map]; exact l64
    have sF : sortSF g [.ref v] = some (.lst ((sortS (S.votes.map (·.1))).map D.str)) := by
      simp only [sortSF, asDict, h.hv, Option.bind_some]
      rw [votes_keys, inrsOf_map]
      simp only [Option.bind_some]
      rw [if_pos l64']
    simp only [wAsg, rLcL, rCB, rCons, rNil, rFld, rVar, List.getElem?_cons_succ, List.getElem?_cons_zero]
    refine ⟨_, rfl, _, _, _, rfl, h.hs, rfl, _, sF, _, rfl, trivial, ?_⟩
    refine lcR_map (xs := sortS (S.votes.map (·.1))) str_inj (fun n => .str (voteS S n)) (by omega) (fun n hn => ?_) ?_
    · obtain ⟨⟨n', y⟩, hp, rfl⟩ := List.mem_map.mp (pm.mem_iff.mp hn)
      have e := lookup_votes h.nd hp
      have e1 : ("+" : Str).length = 1 := by decide +kernel
      have e2 : ("-" : Str).length = 1 := by decide +kernel
      have ln : n'.length ≤ 6 := okName_len (hv (n', y) hp)
      by_cases q : 0 < y
      · simp [turnR, wSeq, wRet, wRetN, wIf, wAsg, wExp, wNil, wRaise, wSetF, wPut, wPar, wUnp, wCont, rVar, rC, rBin, rUn, rAnd, rOr, rNot, rAndT, rOrT, rNotT, rIfE, rNil, rCons, rTup, rLst, rCB, rFld, rDGet, rDIn, rCall, rMth, rMake, rDNew, rIs, rChain, startD, endD, onB, gNames, setAll, -List.lookup_eq_none_iff, -List.map_map, dgetF, asDict, h.hs, h.hv, sayFs, -List.lookup_eq_none_iff, -List.map_map, List.lookup, DL.keyOf, dfind_vote, e, gtF, q, addF, voteS, e1]
        omega
      · simp [turnR, wSeq, wRet, wRetN, wIf, wAsg, wExp, wNil, wRaise, wSetF, wPut, wPar, wUnp, wCont, rVar, rC, rBin, rUn, rAnd, rOr, rNot, rAndT, rOrT, rNotT, rIfE, rNil, rCons, rTup, rLst, rCB, rFld, rDGet, rDIn, rCall, rMth, rMake, rDNew, rIs, rChain, startD, endD, onB, gNames, setAll, -List.lookup_eq_none_iff, -List.map_map, dgetF, asDict, h.hs, h.hv, sayFs, -List.lookup_eq_none_iff, -List.map_map, List.lookup, DL.keyOf, dfind_vote, e, gtF, q, addF, voteS, e2]
        omega
    · rw [show (sortS (S.votes.map (·.1))).map (fun n => D.str (voteS S n)) = xs.map D.str by rw [hxs, List.map_map]; rfl]
      exact ⟨rfl, rfl⟩
  rintro e g' ⟨rfl, rfl⟩
  have vt : S.vtext = if xs = [] then ("." : Str) else Txt.join "" xs := by unfold Say.vtext; rw [← hxs]
  rw [vt] at hk
  have ne := neF_strs (g := g') sok
  by_cases q : xs = []
  · rw [if_pos q] at hk
    have ne0 : neF g' (.lst []) (.lst []) = some (.bl false) := by
      have := neF_strs (g := g') (xs := []) (fun x h => by cases h)
      simpa using this
    simp [wSeq, wRet, wRetN, wIf, wAsg, wExp, wNil, wRaise, wSetF, wPut, wPar, wUnp, wCont, rVar, rC, rBin, rUn, rAnd, rOr, rNot, rAndT, rOrT, rNotT, rIfE, rNil, rCons, rTup, rLst, rCB, rFld, rDGet, rDIn, rCall, rMth, rMake, rDNew, rIs, rChain, startD, endD, onB, gNames, setAll, -List.lookup_eq_none_iff, -List.map_map, ne0, q]
    exact hk
  · rw [if_neg q] at hk
    have sl := sum_le (f := fun x : Str => x.length) bl
    have lx : xs.length < 64 := by rw [hxs, List.length_map]; exact ll
    have e0 : ("" : Str).length = 0 := by decide +kernel
    have jf : joinF g' [.str "", .lst (xs.map D.str)] = some (.str (Txt.join "" xs)) := by
      simp only [joinF, litems, Option.bind_some]
      rw [strsOf_mapT]
      simp only [Option.bind_some]
      rw [if_pos (by rw [e0]; omega)]
    simp [wSeq, wRet, wRetN, wIf, wAsg, wExp, wNil, wRaise, wSetF, wPut, wPar, wUnp, wCont, rVar, rC, rBin, rUn, rAnd, rOr, rNot, rAndT, rOrT, rNotT, rIfE, rNil, rCons, rTup, rLst, rCB, rFld, rDGet, rDIn, rCall, rMth, rMake, rDNew, rIs, rChain, startD, endD, onB, gNames, setAll, -List.lookup_eq_none_iff, -List.map_map, ne, q, rJoin]
    exact ⟨_, jf, hk⟩⟩

abbrev N_written : List Str := ["wood", "rows", "number", "one", "words"]
theorem sc_written : FnScope N_written ["wood"] (defScope s_written) := ⟨rfl, rfl, rfl, by decide +kernel, rfl, by decide +kernel, by decide +kernel⟩

theorem c_written {P : Program} {w : World} {K : PySem.W.Frag} {mg : Str → Option Value} {base : Heap} {T : List (Addr × Str)} (Ft : Facts K mg) : Cal P w K mg base T 3 "written" 1 (sp_written K) := calD Ft.d_written sc_written (fun _ _ _ _ _ _ us hl => match us, hl with | [_], _ => rfl) fun f => ⟨_, fun cdv A outer s H E hr => (pxs_cut (px_newLs (i := 1) sc_written.nd rfl (Or.inl rfl) (pma_cons (pm_op op_addA v2_add (pm_op op_addA v2_add (pm_str1 rfl Ft.f_str (pma_cons (pm_fld Ft.at_Wood_clock (pm_var 0)) pma_nil)) pm_str) (pm_str1 rfl Ft.f_str (pma_cons (pm_fld Ft.at_Wood_came (pm_var 0)) pma_nil))) pma_nil))
  (pxs_cut (px_forL po_body rfl (pm_meth0 (m_Wood_numbers Ft) hr (by decide) pas_body (pm_var 0)) (pg_name (i := 2) sc_written.nd rfl (Or.inl rfl)) (pxs_cut (px_asg (i := 3) sc_written.nd rfl (Or.inl rfl) (pm_dget (hu_of hr) (pm_fld Ft.at_Wood_sayings (pm_var 0)) (pm_var 2) (fun _ _ => rfl)))
  (pxs_cut (px_asg (i := 4) sc_written.nd rfl (Or.inl rfl) (pm_lst (pma_cons (pm_str1 rfl Ft.f_str (pma_cons (pm_var 2) pma_nil)) (pma_cons (pm_str1 rfl Ft.f_str (pma_cons (pm_fld Ft.at_Saying_under (pm_var 3)) pma_nil)) (pma_cons (pm_str1 rfl Ft.f_str (pma_cons (pm_fld Ft.at_Saying_time (pm_var 3)) pma_nil)) (pma_cons (pm_fld Ft.at_Saying_by (pm_var 3)) (pma_cons (pm_call (c_votes_written Ft) hr (by decide) rfl pas_body (pma_cons (pm_var 3) pma_nil)) pma_nil)))))))
  (pxs_one (px_app (i := 1) (fun _ _ ho ha => pe_bm PySem.F.plainAttrs_list PySem.F.slot_list_append PySem.F.type_list_append mt_append ho (pa_cons ha pa_nil)) (pv 1) (pm_op op_addA v2_add (pm_join pm_str (pm_var 4)) (pm_ifE (pmt_val (pm_fld Ft.at_Saying_is_struck (pm_var 3))) pm_str (pm_op op_addA v2_add pm_str (pm_fld Ft.at_Saying_text (pm_var 3))))))))))
  (pxs_frz 1 (pxs_one (px_ret (pm_join pm_str (pm_var 1))))))), by
  rintro ds g Kt hl ⟨A, W, r, rfl, h, wf, c, rfl, hc, hw, ag, cm, hk⟩
  obtain ⟨R, hR⟩ : ∃ R : Nat → List Str, R = fun k => headS W :: (W.keys.take k).map fun n => rowS n ((W.find n).getD noSay) := ⟨_, rfl⟩
  have cb := wf.cam
  have b1 := intS_len (i := W.clock) (by have := hw.ck
                                         have : W.clock.natAbs ≤ 2 ^ 40 := by omega
                                         exact Nat.lt_of_le_of_lt this (by decide))
  have b2 := intS_len (i := W.came) (by have : W.came.natAbs ≤ 2 ^ 40 := by omega
                                        exact Nat.lt_of_le_of_lt this (by decide))
  have lb : ∀ n S, W.find n = some S → (Txt.join " " [intS n, intS S.under, intS S.time, S.by_, S.vtext]).length ≤ 2000 ∧ (rowS n S).length ≤ 3000 := fun n S e => by
    have m := WF.mem_find e
    have hp := wf.pos n (WF.find_key e)
    have hu := wf.und n S m
    refine rowS_len hc ⟨by omega, by omega⟩ ?_ (hw.find e) (wf.nam n S m) (wf.txt n S m) (by have := wf.vln n S m; omega)
    rcases hu with z | ⟨z, _⟩
    · omega
    · have := wf.pos _ z; omega
  have lk : W.keys.length ≤ 60 := by have := wf.len; simp [Wd.keys]; omega
  have hs1 : (headS W).length ≤ 3000 := by
    unfold headS
    rw [Str.length_append, Str.length_append]
    have : (" " : Str).length = 1 := by decide +kernel
    omega
  refine ⟨fun e g' => g' = g ∧ e = [.dat (.ref A.w), .own (.lst ((R 0).map D.str)), .no, .no, .no], ?_, ?_⟩
  · have f1 := strF_int (g := g) (i := W.clock) (by have := hw.ck
                                                    have : W.clock.natAbs ≤ 2 ^ 40 := by omega
                                                    exact Nat.lt_of_le_of_lt this (by decide))
    have f2 := strF_int (g := g) (i := W.came) (by have : W.came.natAbs ≤ 2 ^ 40 := by omega
                                                   exact Nat.lt_of_le_of_lt this (by decide))
    have e1 : (" " : Str).length = 1 := by decide +kernel
    simp [wNewLs, wSeq, wRet, wRetN, wIf, wAsg, wExp, wNil, wRaise, wSetF, wPut, wPar, wUnp, wCont, rVar, rC, rBin, rUn, rAnd, rOr, rNot, rAndT, rOrT, rNotT, rIfE, rNil, rCons, rTup, rLst, rCB, rFld, rDGet, rDIn, rCall, rMth, rMake, rDNew, rIs, rChain, startD, endD, onB, gNames, setAll, -List.lookup_eq_none_iff, -List.map_map, h.hw, -List.lookup_eq_none_iff, -List.map_map, List.lookup, f1, f2, addF, e1, onDA, hR, headS, Str.length_append]
    refine ⟨_, ⟨by omega, rfl⟩, ?_⟩
    show (if (intS W.clock ++ (" " : Str)).length + (intS W.came).length ≤ 100000 then _ else _) = _
    rw [if_pos (by rw [Str.length_append, e1]; omega)]
  rintro e g' ⟨rfl, rfl⟩
  refine ⟨fun e g2 => g2 = g' ∧ ∃ s2 s3 s4, e = [.dat (.ref A.w), .own (.lst ((R W.keys.length).map D.str)), s2, s3, s4], ?_, ?_⟩
  · simp [wForL, wSeq, wRet, wRetN, wIf, wAsg, wExp, wNil, wRaise, wSetF, wPut, wPar, wUnp, wCont, rVar, rC, rBin, rUn, rAnd, rOr, rNot, rAndT, rOrT, rNotT, rIfE, rNil, rCons, rTup, rLst, rCB, rFld, rDGet, rDIn, rCall, rMth, rMake, rDNew, rIs, rChain, startD, endD, onB, gNames, setAll, -List.lookup_eq_none_iff, -List.map_map, h.hw, -List.lookup_eq_none_iff, -List.map_map, List.lookup, sp_numbers, wp]
    refine ⟨A, W, [], ⟨rfl, rfl⟩, h, wf, rfl, ?_⟩
    refine ⟨_, rfl, trivial, ?_⟩
    refine ⟨fun k e g2 => g2 = g' ∧ ∃ s2 s3 s4, e = [.dat (.ref A.w), .own (.lst ((R k).map D.str)), s2, s3, s4], ⟨rfl, _, _, _, rfl⟩, ?_, ?_⟩
    · rintro k d e g2 hd ⟨rfl, s2, s3, s4, rfl⟩
      rw [List.getElem?_map] at hd
      obtain ⟨n, hn, rfl⟩ := Option.map_eq_some_iff.mp hd
      have hnk : n ∈ W.keys := List.mem_of_getElem? hn
      obtain ⟨S, e⟩ := wf.toWF.key_find hnk
      have hS := h.say wf e
      obtain ⟨l1, l2⟩ := lb n S e
      have rs : R (k + 1) = R k ++ [rowS n S] := by
        rw [hR]
        show headS W :: _ = (headS W :: _) ++ _
        rw [wtext_take hn, e]; rfl
      have rl : (R k).length ≤ 61 := by
        rw [hR]
        show (headS W :: _).length ≤ 61
        rw [List.length_cons, List.length_map, List.length_take]; omega
      have hu : (0 : Int) ≤ S.under ∧ S.under ≤ 2 ^ 40 := by
        rcases wf.und n S (WF.mem_find e) with z | ⟨z, _⟩
        · omega
        · have := wf.pos _ z; omega
      have hp := wf.pos n hnk
      have htm := (hw.find e).tm
      refine ⟨fun e g3 => g3 = g2 ∧ e = [.dat (.ref A.w), .own (.lst ((R k).map D.str)), .dat (.int n), .dat (.ref (A.s n)), s4], by simp [wSeq, wRet, wRetN, wIf, wAsg, wExp, wNil, wRaise, wSetF, wPut, wPar, wUnp, wCont, rVar, rC, rBin, rUn, rAnd, rOr, rNot, rAndT, rOrT, rNotT, rIfE, rNil, rCons, rTup, rLst, rCB, rFld, rDGet, rDIn, rCall, rMth, rMake, rDNew, rIs, rChain, startD, endD, onB, gNames, setAll, -List.lookup_eq_none_iff, -List.map_map, h.hw, h.hd, -List.lookup_eq_none_iff, -List.map_map, List.lookup, dgetF, asDict, DL.keyOf, dfind_row, e], ?_⟩
      rintro e1 g3 ⟨rfl, rfl⟩
      obtain ⟨ws, hws⟩ : ∃ ws, ws = [intS n, intS S.under, intS S.time, S.by_, S.vtext] := ⟨_, rfl⟩
      refine ⟨fun e g4 => g4 = g3 ∧ e = [.dat (.ref A.w), .own (.lst ((R k).map D.str)), .dat (.int n), .dat (.ref (A.s n)), .dat (.lst (ws.map D.str))], ?_, ?_⟩
      · have f1 := strF_int (g := g3) (i := n) (by have : n.natAbs ≤ 2 ^ 40 := by omega
                                                   exact Nat.lt_of_le_of_lt this (by decide))
        have f2 := strF_int (g := g3) (i := S.under) (by have : S.under.natAbs ≤ 2 ^ 40 := by omega
                                                         exact Nat.lt_of_le_of_lt this (by decide))
        have f3 := strF_int (g := g3) (i := S.time) (by have : S.time.natAbs ≤ 2 ^ 40 := by omega
                                                        exact Nat.lt_of_le_of_lt this (by decide))
        simp [wSeq, wRet, wRetN, wIf, wAsg, wExp, wNil, wRaise, wSetF, wPut, wPar, wUnp, wCont, rVar, rC, rBin, rUn, rAnd, rOr, rNot, rAndT, rOrT, rNotT, rIfE, rNil, rCons, rTup, rLst, rCB, rFld, rDGet, rDIn, rCall, rMth, rMake, rDNew, rIs, rChain, startD, endD, onB, gNames, setAll, -List.lookup_eq_none_iff, -List.map_map, hS.hs, sayFs, -List.lookup_eq_none_iff, -List.map_map, List.lookup, f1, f2, f3, sp_votes_written]
        refine ⟨_, S, hS, by have := wf.vln n S (WF.mem_find e); omega, fun a b hq => (hw.find e).vn (a, b) hq, ?_⟩
        simp [onA, hws]
      rintro e1 g4 ⟨rfl, rfl⟩
      have jf : joinF g4 [.str " ", .lst (ws.map D.str)] = some (.str (Txt.join " " ws)) := by
        have e1 : (" " : Str).length = 1 := by decide +kernel
        have v1 := (vtext_len (S := S) (by have := wf.vln n S (WF.mem_find e); omega) (hw.find e).vn).1
        have i1 := intS_len (i := n) (by have : n.natAbs ≤ 2 ^ 40 := by omega
                                         exact Nat.lt_of_le_of_lt this (by decide))
        have i2 := intS_len (i := S.under) (by have : S.under.natAbs ≤ 2 ^ 40 := by omega
                                               exact Nat.lt_of_le_of_lt this (by decide))
        have i3 := intS_len (i := S.time) (by have : S.time.natAbs ≤ 2 ^ 40 := by omega
                                              exact Nat.lt_of_le_of_lt this (by decide))
        have i4 := wf.nam n S (WF.mem_find e)
        simp only [joinF, litems, Option.bind_some]
        rw [strsOf_mapT]
        simp only [Option.bind_some]
        rw [if_pos]
        rw [hws, e1]
        simp only [List.map_cons, List.map_nil, List.sum_cons, List.sum_nil, List.length_cons, List.length_nil]
        omega
      rw [← hws] at l1
      have e1 : (" " : Str).length = 1 := by decide +kernel
      have e0 : ("" : Str).length = 0 := by decide +kernel
      have tl := wf.txt n S (WF.mem_find e)
      cases q : S.struck with
      | true =>
        have er : rowS n S = Txt.join " " ws ++ "" := by unfold rowS; rw [q, ← hws]; rfl
        simp [wSeq, wRet, wRetN, wIf, wAsg, wExp, wNil, wRaise, wSetF, wPut, wPar, wUnp, wCont, rVar, rC, rBin, rUn, rAnd, rOr, rNot, rAndT, rOrT, rNotT, rIfE, rNil, rCons, rTup, rLst, rCB, rFld, rDGet, rDIn, rCall, rMth, rMake, rDNew, rIs, rChain, startD, endD, onB, gNames, setAll, -List.lookup_eq_none_iff, -List.map_map, wApp, rJoin, jf, hS.hs, sayFs, -List.lookup_eq_none_iff, -List.map_map, List.lookup, q, addF, e0, Nat.le_trans l1 (show 2000 ≤ 100000 by decide), rs, er]
        omega
      | false =>
        have er : rowS n S = Txt.join " " ws ++ (" " ++ S.text) := by unfold rowS; rw [q, ← hws]; rfl
        have a1 : 1 + S.text.length ≤ 100000 := by omega
        have a2 : (Txt.join " " ws).length + (1 + S.text.length) ≤ 100000 := by omega
        simp [wSeq, wRet, wRetN, wIf, wAsg, wExp, wNil, wRaise, wSetF, wPut, wPar, wUnp, wCont, rVar, rC, rBin, rUn, rAnd, rOr, rNot, rAndT, rOrT, rNotT, rIfE, rNil, rCons, rTup, rLst, rCB, rFld, rDGet, rDIn, rCall, rMth, rMake, rDNew, rIs, rChain, startD, endD, onB, gNames, setAll, -List.lookup_eq_none_iff, -List.map_map, wApp, rJoin, jf, hS.hs, sayFs, -List.lookup_eq_none_iff, -List.map_map, List.lookup, q, addF, e1, a1, a2, Str.length_append, rs, er]
        omega
    · rintro e g2 ⟨rfl, s2, s3, s4, rfl⟩
      rw [List.length_map]
      exact ⟨rfl, s2, s3, s4, rfl⟩
  rintro e g2 ⟨rfl, s2, s3, s4, rfl⟩
  have bl : ∀ x ∈ R W.keys.length, x.length ≤ 3000 := fun x hx => by
    rw [hR] at hx
    rcases List.mem_cons.mp hx with rfl | hx
    · exact hs1
    · obtain ⟨n, hn, rfl⟩ := List.mem_map.mp hx
      obtain ⟨S, e⟩ := wf.toWF.key_find (List.mem_of_mem_take hn)
      rw [e]
      exact (lb n S e).2
  have sl := sum_le (f := fun x : Str => x.length) bl
  have lR : (R W.keys.length).length ≤ 61 := by
    rw [hR]
    show (headS W :: _).length ≤ 61
    rw [List.length_cons, List.length_map, List.length_take]; omega
  have e1 : ("\n" : Str).length = 1 := by decide +kernel
  have jf : joinF g2 [.str "\n", .lst ((R W.keys.length).map D.str)] = some (.str W.wtext) := by
    simp only [joinF, litems, Option.bind_some]
    rw [strsOf_mapT]
    simp only [Option.bind_some]
    rw [if_pos (by rw [e1]; omega)]
    congr 2
    rw [hR]
    show Txt.join "\n" (headS W :: (W.keys.take W.keys.length).map _) = _
    rw [List.take_length]; rfl
  simp [wSeq, wRet, wRetN, wIf, wAsg, wExp, wNil, wRaise, wSetF, wPut, wPar, wUnp, wCont, rVar, rC, rBin, rUn, rAnd, rOr, rNot, rAndT, rOrT, rNotT, rIfE, rNil, rCons, rTup, rLst, rCB, rFld, rDGet, rDIn, rCall, rMth, rMake, rDNew, rIs, rChain, startD, endD, onB, gNames, setAll, -List.lookup_eq_none_iff, -List.map_map, wFrz, frzD, rJoin]
  exact ⟨_, jf, hk⟩⟩

end Vw

set_option Elab.async false
set_option linter.all false
set_option maxRecDepth 100000
set_option maxHeartbeats 4000000
set_option autoImplicit false
namespace Vw
open PySem PySem.Spec L2 DL
def sp_rows_right (K : PySem.W.Frag) : SpD := wp K fun A W r g Kt => ∃ rs : List DL.Row, r = [.lst (rs.map rowD)] ∧ rs.length ≤ 60 ∧ (∀ a, g.tl a = false) ∧ rowsMany rs = (W.keys.length : Nat) ∧ (rs.map (·.1)).Nodup ∧ Nest W [0] rs ∧ Kt (.val (.bl true)) g
abbrev N_l_rows_right : List Str := ["_law_wood", "_law_rows", "_law_seen", "_law_above_here", "_law_number", "_law_deep", "_law_kind", "_law_many", "_law_row"]
theorem sc_l_rows_right : FnScope N_l_rows_right ["_law_wood", "_law_rows"] (defScope s_l_rows_right) := ⟨rfl, rfl, rfl, by decide +kernel, rfl, by decide +kernel, by decide +kernel⟩

theorem c_l_rows_right {P : Program} {w : World} {K : PySem.W.Frag} {mg : Str → Option Value} {base : Heap} {T : List (Addr × Str)} (Ft : Facts K mg) : Cal P w K mg base T 16 "_law_rows_right" 2 (sp_rows_right K) := calD Ft.d_l_rows_right sc_l_rows_right (fun _ _ _ _ _ _ us hl => match us, hl with | [_, _], _ => rfl) fun f => ⟨_, fun cdv A outer s H E hr => (pxs_cut (px_lcL (j := 2) rfl sc_l_rows_right.nd rfl rfl (sw_true rfl rfl rfl (by decide +kernel)) (pm_var 1) (blkOk_by (N := N_l_rows_right) (sc := defScope s_l_rows_right) (by decide +kernel)) (fun _ _ _ _ _ => pg_name (i := 8) sc_l_rows_right.nd rfl (Or.inl rfl)) (fun _ _ _ _ _ => pmts_nil) (fun _ _ _ _ _ => (pm_bin (pe_ix ix_seq pe_sem pe_sem (fun _ _ => rfl)) v2_ix (pm_var 8) pm_int)))
  (pxs_cut (px_if (pmw_t (pmw_or (pmt_cmp (op_neA hr.units) v2_ne (nomark _) (pm_op op_addA v2_add (pm_len rfl Ft.f_len (pma_cons (pm_var 1) pma_nil)) (pm_sum rfl rfl Ft.f_sum (pma_cons (pm_lcL rfl sc_l_rows_right.nd (pm_var 1) (blkOk_by (N := N_l_rows_right) (sc := defScope s_l_rows_right) (by decide +kernel)) (fun _ _ _ _ _ => pg_name (i := 8) sc_l_rows_right.nd rfl (Or.inl rfl)) (fun _ _ _ _ _ => pmts_nil) (fun _ _ _ _ _ => (pm_bin (pe_ix ix_seq pe_sem pe_sem (fun _ _ => rfl)) v2_ix (pm_var 8) pm_int))) pma_nil))) (pm_len rfl Ft.f_len (pma_cons (pm_meth0 (m_Wood_numbers Ft) hr (by decide) pas_body (pm_var 0)) pma_nil))) (pmw_or1 (pmt_cmp (op_neA hr.units) v2_ne (nomark _) (pm_lenSet rfl rfl Ft.f_len rfl Ft.f_set (pm_var 2)) (pm_len rfl Ft.f_len (pma_cons (pm_var 2) pma_nil)))))) (pxs_one (px_ret pm_bl)) pxs_nil)
  (pxs_cut (px_newLs (i := 3) sc_l_rows_right.nd rfl (Or.inl rfl) (pma_cons pm_int pma_nil))
  (pxs_cut (px_forLT (is := [4, 5, 6, 7]) po_body rfl (pm_var 1) (pgd_cons (i := 4) sc_l_rows_right.nd rfl (Or.inl rfl) (pgd_cons (i := 5) sc_l_rows_right.nd rfl (Or.inl rfl) (pgd_cons (i := 6) sc_l_rows_right.nd rfl (Or.inl rfl) (pgd_cons (i := 7) sc_l_rows_right.nd rfl (Or.inl rfl) pgd_nil)))) (pxs_cut (px_newSl (i := 3) (j := 3) sc_l_rows_right.nd rfl (Or.inl rfl) (pv 3) pmo_none (pmo_some (pm_op op_addA v2_add (pm_var 5) pm_int)))
  (pxs_cut (px_if (pmw_t (pmw_or (pmt_cmp (op_neA hr.units) v2_ne (nomark _) (pm_lenO (x := "") (pv 3) rfl Ft.f_len) (pm_op op_addA v2_add (pm_var 5) pm_int)) (pmw_or1 (pmt_cmp (op_neA hr.units) v2_ne (nomark _) (pm_bin (pe_ix ix_seq pe_sem pe_sem (fun _ _ => rfl)) v2_ix (pm_meth (m_Wood_look Ft) hr (by decide) pas_body (pm_var 0) (pma_cons (pm_var 4) pma_nil)) pm_int) (pm_ixO (pv 3) (pm_var 5) (fun _ _ => rfl)))))) (pxs_one (px_ret pm_bl)) pxs_nil)
  (pxs_cut (px_app (i := 3) (fun _ _ ho ha => pe_bm PySem.F.plainAttrs_list PySem.F.slot_list_append PySem.F.type_list_append mt_append ho (pa_cons ha pa_nil)) (pv 3) (pm_var 4))
  (pxs_one (px_if (pmw_t (pmw_and (pmt_cmp op_gt v2_gt (nomark _) (pm_var 7) pm_int) (pmw_and1 (pmt_cmp (op_neA hr.units) v2_ne (nomark _) (pm_var 7) (pm_len rfl Ft.f_len (pma_cons (pm_meth (m_Wood_below Ft) hr (by decide) pas_body (pm_var 0) (pma_cons (pm_var 4) pma_nil)) pma_nil)))))) (pxs_one (px_ret pm_bl)) pxs_nil))))))
  (pxs_one (px_ret pm_bl)))))), by
  rintro ds g Kt hl ⟨A, W, r, rfl, h, wf, rs, rfl, l60, tl, hm, nd, hnest, hk⟩
  refine ⟨fun e g' => g' = g ∧ e = [.dat (.ref A.w), .dat (.lst (rs.map rowD)), .dat (.lst ((rs.map (·.1)).map D.int)), .no, .no, .no, .no, .no, .no], ?_, ?_⟩
  · simp only [wAsg, rLcL, rVar, List.getElem?_cons_succ, List.getElem?_cons_zero]
    refine ⟨_, rfl, ?_⟩
    simp only [onV_val]
    refine ⟨_, rfl, trivial, ?_⟩
    refine lcR_map (xs := rs) rowD_inj (fun r => .int r.1) (by omega) (fun r hr => ?_) ⟨rfl, ?_⟩
    · simp [turnR, wSeq, wRet, wRetN, wIf, wAsg, wExp, wNil, wRaise, wSetF, wPut, wPar, wUnp, wCont, rVar, rC, rBin, rUn, rAnd, rOr, rNot, rAndT, rOrT, rNotT, rIfE, rNil, rCons, rTup, rLst, rCB, rFld, rDGet, rDIn, rCall, rMth, rMake, rDNew, rIs, rChain, startD, endD, onB, gNames, setAll, -List.lookup_eq_none_iff, -List.map_map, rowD, ixF, items, atI, ixN]
    · rw [List.map_map]; rfl
  rintro e g' ⟨rfl, rfl⟩
  refine ⟨fun e g1 => g1 = g' ∧ e = [.dat (.ref A.w), .dat (.lst (rs.map rowD)), .dat (.lst ((rs.map (·.1)).map D.int)), .no, .no, .no, .no, .no, .no], ?_, ?_⟩
  · have hm' : ((rs.length : Int) + (rs.map fun r => r.2.2.2).sum) = (W.keys.length : Nat) := hm
    simp only [wIf, rOrT, rBin, rCB, rCons, rNil, rVar, rLcL, rLenSet, rMth, List.getElem?_cons_succ, List.getElem?_cons_zero]
    refine ⟨_, rfl, ?_⟩
    refine ⟨.int (rs.length : Nat), by simp [lenF, items], ?_⟩
    refine ⟨_, rfl, ?_⟩
    refine ⟨_, rfl, trivial, ?_⟩
    refine lcR_map (xs := rs) rowD_inj (fun r => .int r.2.2.2) (by omega) (fun r hr => ?_) ?_
    · simp [turnR, wSeq, wRet, wRetN, wIf, wAsg, wExp, wNil, wRaise, wSetF, wPut, wPar, wUnp, wCont, rVar, rC, rBin, rUn, rAnd, rOr, rNot, rAndT, rOrT, rNotT, rIfE, rNil, rCons, rTup, rLst, rCB, rFld, rDGet, rDIn, rCall, rMth, rMake, rDNew, rIs, rChain, startD, endD, onB, gNames, setAll, -List.lookup_eq_none_iff, -List.map_map, rowD, ixF, items, atI, ixN]
    · have sm : sumF g' [.lst (rs.map fun r => D.int r.2.2.2)] = some (.int (rs.map fun r => r.2.2.2).sum) := by
        have e : (rs.map fun r => D.int r.2.2.2) = (rs.map fun r => r.2.2.2).map D.int := by rw [List.map_map]; rfl
        rw [e]
        simp only [sumF, litems, Option.bind_some]
        rw [intsOf_map]; rfl
      simp only [onV_val]
      refine ⟨_, sm, ?_⟩
      refine ⟨_, rfl, ?_⟩
      refine ⟨_, rfl, _, _, rfl, h.hw, by simp, rfl, ?_⟩
      refine ⟨A, W, [], rfl, h, wf, rfl, ?_⟩
      simp [lenF, items, hm']
      refine ⟨rs.map (·.1), by rw [List.map_map], by rw [List.length_map]; omega, nd, ?_⟩
      rw [if_pos (by simp)]
      exact ⟨rfl, rfl⟩
  rintro e g1 ⟨rfl, rfl⟩
  refine ⟨fun e g2 => g2 = g1 ∧ e = [.dat (.ref A.w), .dat (.lst (rs.map rowD)), .dat (.lst ((rs.map (·.1)).map D.int)), .own (.lst (([0] : List Int).map D.int)), .no, .no, .no, .no, .no], by simp [wSeq, wRet, wRetN, wIf, wAsg, wExp, wNil, wRaise, wSetF, wPut, wPar, wUnp, wCont, rVar, rC, rBin, rUn, rAnd, rOr, rNot, rAndT, rOrT, rNotT, rIfE, rNil, rCons, rTup, rLst, rCB, rFld, rDGet, rDIn, rCall, rMth, rMake, rDNew, rIs, rChain, startD, endD, onB, gNames, setAll, -List.lookup_eq_none_iff, -List.map_map, wNewLs, onDA, startD], ?_⟩
  rintro e g2 ⟨rfl, rfl⟩
  refine ⟨fun e g3 => g3 = g2, ?_, ?_⟩
  · simp only [wForLT, rVar, List.getElem?_cons_succ, List.getElem?_cons_zero]
    refine ⟨_, rfl, ?_⟩
    simp only [onD_val]
    refine ⟨_, rfl, trivial, ?_⟩
    refine ⟨fun k e g3 => g3 = g2 ∧ ∃ st : List Int, Nest W st (rs.drop k) ∧ st.length ≤ 9 ∧ ∃ s4 s5 s6 s7, e = [.dat (.ref A.w), .dat (.lst (rs.map rowD)), .dat (.lst ((rs.map (·.1)).map D.int)), .own (.lst (st.map D.int)), s4, s5, s6, s7, .no], ⟨rfl, [0], hnest, by simp, _, _, _, _, rfl⟩, ?_, fun e g3 h => h.1⟩
    rintro k d e g3 hd ⟨rfl, st, hst, l9, s4, s5, s6, s7, rfl⟩
    rw [List.getElem?_map] at hd
    obtain ⟨r, hr, rfl⟩ := Option.map_eq_some_iff.mp hd
    have hk1 : k < rs.length := (List.getElem?_eq_some_iff.mp hr).1
    have dr : rs.drop k = r :: rs.drop (k + 1) := by
      rw [List.drop_eq_getElem_cons hk1]
      rw [List.getElem?_eq_getElem hk1] at hr
      rw [Option.some.inj hr]
    rw [dr] at hst
    obtain ⟨hn, ⟨d, hd', hdl, hab⟩, hcnt, hrest⟩ := hst
    obtain ⟨n, d0, kd, mn⟩ := r
    simp only at hn hd' hab hcnt hrest
    subst hd'
    obtain ⟨S, eS⟩ := wf.toWF.key_find hn
    have dep := wf.dep n hn
    have la : (W.above n).length = d + 1 := by
      have := congrArg List.length hab
      rw [List.length_reverse, List.length_take] at this
      omega
    obtain ⟨st1, hst1⟩ : ∃ st1, st1 = (W.above n).reverse := ⟨_, rfl⟩
    have l1 : st1.length = d + 1 := by rw [hst1, List.length_reverse, la]
    refine ⟨_, rfl, rfl, ?_⟩
    show wCut _ _ _ [.dat (.ref A.w), .dat (.lst (rs.map rowD)), .dat (.lst ((rs.map (·.1)).map D.int)), .own (.lst (st.map D.int)), .dat (.int n), .dat (.int d), .dat (.str kd), .dat (.int mn), .no] g3
    refine ⟨fun e g4 => g4 = g3 ∧ e = [.dat (.ref A.w), .dat (.lst (rs.map rowD)), .dat (.lst ((rs.map (·.1)).map D.int)), .own (.lst (st1.map D.int)), .dat (.int n), .dat (.int d), .dat (.str kd), .dat (.int mn), .no], ?_, ?_⟩
    · simp only [wNewSl, roNone, roSome, rBin, rVar, rC, List.getElem?_cons_succ, List.getElem?_cons_zero]
      refine ⟨by simp, _, rfl, _, rfl, .int ((d + 1 : Nat) : Int), by simp [addF], ?_⟩
      show _ ∧ _
      refine ⟨rfl, ?_⟩
      have : cutD (st.map D.int) none (some ((d + 1 : Nat) : Int)) = st1.map D.int := by rw [cutD_hi, hst1, hab]
      rw [this]; rfl
    rintro e g4 ⟨rfl, rfl⟩
    refine ⟨fun e g5 => g5 = g4 ∧ e = [.dat (.ref A.w), .dat (.lst (rs.map rowD)), .dat (.lst ((rs.map (·.1)).map D.int)), .own (.lst (st1.map D.int)), .dat (.int n), .dat (.int d), .dat (.str kd), .dat (.int mn), .no], ?_, ?_⟩
    · have un : st1[d]? = some S.under := by
        rw [hst1, wf.toWF.above_step eS, List.reverse_cons]
        have l2 : (W.above S.under).reverse.length = d := by
          have := la
          rw [wf.toWF.above_step eS, List.length_cons] at this
          rw [List.length_reverse]; omega
        rw [← l2, List.getElem?_append_right (Nat.le_refl _)]
        simp
      have ai : atI (st1.map D.int) (d : Int) = some (.int S.under) := by
        rw [atI_map]
        unfold atI ixN
        rw [if_pos (by omega), if_pos (by omega)]
        simp [un]
      simp [wSeq, wRet, wRetN, wIf, wAsg, wExp, wNil, wRaise, wSetF, wPut, wPar, wUnp, wCont, rVar, rC, rBin, rUn, rAnd, rOr, rNot, rAndT, rOrT, rNotT, rIfE, rNil, rCons, rTup, rLst, rCB, rFld, rDGet, rDIn, rCall, rMth, rMake, rDNew, rIs, rChain, startD, endD, onB, gNames, setAll, -List.lookup_eq_none_iff, -List.map_map, rLenO, rIxO, addF, l1, h.hw, sp_look, wp]
      refine ⟨A, W, [.int n], ⟨rfl, rfl⟩, h, wf, n, rfl, ?_⟩
      rw [eS]
      refine ⟨.int S.under, by simp [lookD, ixF, items, atI, ixN], _, ai, _, neF_ii, ?_⟩
      simp
    rintro e g5 ⟨rfl, rfl⟩
    refine ⟨fun e g6 => g6 = g5 ∧ e = [.dat (.ref A.w), .dat (.lst (rs.map rowD)), .dat (.lst ((rs.map (·.1)).map D.int)), .own (.lst ((st1 ++ [n]).map D.int)), .dat (.int n), .dat (.int d), .dat (.str kd), .dat (.int mn), .no], ?_, ?_⟩
    · simp [wApp, wSeq, wRet, wRetN, wIf, wAsg, wExp, wNil, wRaise, wSetF, wPut, wPar, wUnp, wCont, rVar, rC, rBin, rUn, rAnd, rOr, rNot, rAndT, rOrT, rNotT, rIfE, rNil, rCons, rTup, rLst, rCB, rFld, rDGet, rDIn, rCall, rMth, rMake, rDNew, rIs, rChain, startD, endD, onB, gNames, setAll, -List.lookup_eq_none_iff, -List.map_map, l1]
      omega
    rintro e g6 ⟨rfl, rfl⟩
    rw [hst1] at l1 ⊢
    have fin : ∀ g, g = g6 → g = g6 ∧ ∃ st : List Int, Nest W st (rs.drop (k + 1)) ∧ st.length ≤ 9 ∧ ∃ s4 s5 s6 s7, [Slot.dat (.ref A.w), .dat (.lst (rs.map rowD)), .dat (.lst ((rs.map (·.1)).map D.int)), .own (.lst (((W.above n).reverse ++ [n]).map D.int)), .dat (.int n), .dat (.int d), .dat (.str kd), .dat (.int mn), .no] = [.dat (.ref A.w), .dat (.lst (rs.map rowD)), .dat (.lst ((rs.map (·.1)).map D.int)), .own (.lst (st.map D.int)), s4, s5, s6, s7, .no] := fun g e => ⟨e, _, hrest, by rw [List.length_append, l1]; simp; omega, _, _, _, _, rfl⟩
    by_cases c : 0 < mn
    · have cc := hcnt c
      simp [wSeq, wRet, wRetN, wIf, wAsg, wExp, wNil, wRaise, wSetF, wPut, wPar, wUnp, wCont, rVar, rC, rBin, rUn, rAnd, rOr, rNot, rAndT, rOrT, rNotT, rIfE, rNil, rCons, rTup, rLst, rCB, rFld, rDGet, rDIn, rCall, rMth, rMake, rDNew, rIs, rChain, startD, endD, onB, gNames, setAll, -List.lookup_eq_none_iff, -List.map_map, gtF, c, h.hw, sp_below, wp]
      refine ⟨A, W, [.int n], ⟨rfl, rfl⟩, h, wf, n, rfl, tl, fun z => absurd (.inr hn) z, fun _ => ?_⟩
      simp [lenF, items, cc]
      simpa using fin g6 rfl
    · simp [wSeq, wRet, wRetN, wIf, wAsg, wExp, wNil, wRaise, wSetF, wPut, wPar, wUnp, wCont, rVar, rC, rBin, rUn, rAnd, rOr, rNot, rAndT, rOrT, rNotT, rIfE, rNil, rCons, rTup, rLst, rCB, rFld, rDGet, rDIn, rCall, rMth, rMake, rDNew, rIs, rChain, startD, endD, onB, gNames, setAll, -List.lookup_eq_none_iff, -List.map_map, gtF, c]
      simpa using fin g6 rfl
  rintro e g3 rfl
  simp [wSeq, wRet, wRetN, wIf, wAsg, wExp, wNil, wRaise, wSetF, wPut, wPar, wUnp, wCont, rVar, rC, rBin, rUn, rAnd, rOr, rNot, rAndT, rOrT, rNotT, rIfE, rNil, rCons, rTup, rLst, rCB, rFld, rDGet, rDIn, rCall, rMth, rMake, rDNew, rIs, rChain, startD, endD, onB, gNames, setAll, -List.lookup_eq_none_iff, -List.map_map]
  exact hk⟩

end Vw

set_option Elab.async false
set_option linter.all false
set_option maxRecDepth 100000
set_option maxHeartbeats 2000000
set_option autoImplicit false
/-! KY: two readers of one wood, side by side. -/
namespace Vw
open PySem PySem.Spec L2 DL
def names31 : List Str := ["ann", "bob", "cy", "zz"]
theorem names31_ok {s : Str} (h : s ∈ names31) : okName (.str s) = true := List.all_eq_true.mp (show names31.all (fun s => okName (.str s)) = true by decide +kernel) s h
theorem okArg31 {s : Str} (h : okName (.str s) = true) : okArg (.str s) := ⟨rfl, fun x e => by
  cases e
  simp [okName] at h
  omega⟩
structure S31 (K : PySem.W.Frag) (g : G) (A : Wa) (W : Wd) (a : Ra) (R : Rdr) (o : Ra) : Prop where
  wd : WoodIn K g A W
  rd : RdIn K g a A.w R
  ro : RdIn K g o A.w ⟨R.m, -9, [], []⟩
  wf : WFa W
  nl : NL g
  da : ∀ x, a.foot x → ¬ W.foot A x
  dj : ∀ x, o.foot x → ¬ W.foot A x ∧ ¬ a.foot x
theorem S31.folded {K : PySem.W.Frag} {g : G} {A : Wa} {W : Wd} {a o : Ra} {R : Rdr} (h : S31 K g A W a R o) {fo : List (Int × Bool)} : S31 K (g.set a.f (.dct (foldK fo))) A W a { R with fo := fo } o := by
  have f : Frm g (g.set a.f (.dct (foldK fo))) (fun x => x = a.f) (fun x => x = a.f) := Frm.put (by rw [h.rd.hf]; simp)
  have n1 := h.da a.f (.inr (.inl rfl))
  refine ⟨h.wd.frm f fun x hx z => n1 (z ▸ hx), ⟨?_, G.set_same, ?_, h.rd.n1, h.rd.n2, h.rd.n3⟩, h.ro.frm f fun x hx z => (h.dj x hx).2 (.inr (.inl z)), h.wf, h.nl.frm f, h.da, h.dj⟩
  · rw [G.set_ne h.rd.n1, h.rd.hr]
  · rw [G.set_ne (Ne.symm h.rd.n3), h.rd.hu]
theorem S31.muted {K : PySem.W.Frag} {g : G} {A : Wa} {W : Wd} {a o : Ra} {R : Rdr} (h : S31 K g A W a R o) {mu : List Str} : S31 K (g.set a.u (.dct (muteK mu))) A W a { R with mu := mu } o := by
  have f : Frm g (g.set a.u (.dct (muteK mu))) (fun x => x = a.u) (fun x => x = a.u) := Frm.put (by rw [h.rd.hu]; simp)
  have n1 := h.da a.u (.inr (.inr rfl))
  refine ⟨h.wd.frm f fun x hx z => n1 (z ▸ hx), ⟨?_, ?_, G.set_same, h.rd.n1, h.rd.n2, h.rd.n3⟩, h.ro.frm f fun x hx z => (h.dj x hx).2 (.inr (.inr z)), h.wf, h.nl.frm f, h.da, h.dj⟩
  · rw [G.set_ne h.rd.n2, h.rd.hr]
  · rw [G.set_ne h.rd.n3, h.rd.hf]
theorem rows31 {K : PySem.W.Frag} {g : G} {A : Wa} {W : Wd} {a o : Ra} {R : Rdr} {Kt : KR} (h : S31 K g A W a R o) (l1 : R.fo.length ≤ 1000) (l2 : R.mu.length ≤ 1000) (hk : Kt (.val (.lst ((rowsU W R W.keys 8 0 0).map rowD))) g) : sp_rows K [.ref a.r] g Kt :=
  rp_at h.rd h.wd h.wf (by omega) (by omega) ⟨rfl, h.nl.tl, hk⟩
theorem rows31o {K : PySem.W.Frag} {g : G} {A : Wa} {W : Wd} {a o : Ra} {R : Rdr} {Kt : KR} (h : S31 K g A W a R o) (hk : Kt (.val (.lst ((rowsU W ⟨R.m, -9, [], []⟩ W.keys 8 0 0).map rowD))) g) : sp_rows K [.ref o.r] g Kt :=
  rp_at h.ro h.wd h.wf (by simp) (by simp) ⟨rfl, h.nl.tl, hk⟩
theorem right31 {K : PySem.W.Frag} {g : G} {A : Wa} {W : Wd} {a o : Ra} {R : Rdr} {Kt : KR} {rs : List DL.Row} (h : S31 K g A W a R o) (hrs : rs = rowsU W R W.keys 8 0 0) (hk : Kt (.val (.bl true)) g) : sp_rows_right K [.ref A.w, .lst (rs.map rowD)] g Kt := by
  subst hrs
  exact ⟨A, W, _, rfl, h.wd, h.wf, rowsU W R W.keys 8 0 0, rfl, rowsU_len' h.wf.toWF (.inl rfl), h.nl.tl, rowsU_many h.wf.toWF, rowsU_nd h.wf.toWF, nest_U h.wf.toWF, hk⟩
theorem fold31 {K : PySem.W.Frag} {g : G} {A : Wa} {W : Wd} {a o : Ra} {R : Rdr} {n : Int} {b : Bool} {Kt : KR} (h : S31 K g A W a R o) (l1 : R.fo.length ≤ 1000) (l2 : R.mu.length ≤ 1000) (hn : n ∈ W.keys) (hk : ∀ g', S31 K g' A W a { R with fo := setFo R.fo n b } o → Kt (.val .non) g') : sp_fold b K [.ref a.r, .int n] g Kt :=
  rp_at h.rd h.wd h.wf (by omega) (by omega) ⟨_, rfl, rfl, h.nl, fun m e _ => by cases e; exact hk _ h.folded, fun z => absurd hn (z n rfl)⟩
theorem mute31 {K : PySem.W.Frag} {g : G} {A : Wa} {W : Wd} {a o : Ra} {R : Rdr} {s : Str} {Kt : KR} (h : S31 K g A W a R o) (l1 : R.fo.length ≤ 1000) (l2 : R.mu.length ≤ 1000) (hs : okName (.str s) = true) (hk : ∀ g', S31 K g' A W a { R with mu := addMu R.mu s } o → Kt (.val .non) g') : sp_mute K [.ref a.r, .str s] g Kt :=
  rp_at h.rd h.wd h.wf (by omega) (by omega) ⟨_, rfl, okArg31 hs, h.nl, fun m e _ => by cases e; exact hk _ h.muted, fun z => by rw [hs] at z; cases z⟩
theorem hear31 {K : PySem.W.Frag} {g : G} {A : Wa} {W : Wd} {a o : Ra} {R : Rdr} {s : Str} {Kt : KR} (h : S31 K g A W a R o) (l1 : R.fo.length ≤ 1000) (l2 : R.mu.length ≤ 1000) (hs : okName (.str s) = true) (hk : ∀ g' mu, mu.length ≤ R.mu.length → S31 K g' A W a { R with mu := mu } o → Kt (.val .non) g') : sp_hear K [.ref a.r, .str s] g Kt :=
  rp_at h.rd h.wd h.wf (by omega) (by omega) ⟨_, rfl, okArg31 hs, h.nl, fun m e _ g' hg => by
    cases e
    rcases hg with ⟨rfl, _⟩ | rfl
    · exact hk _ R.mu (Nat.le_refl _) h
    · exact hk _ _ (List.length_filter_le _ _) h.muted, fun z => by rw [hs] at z; cases z⟩
theorem mkR31 {K : PySem.W.Frag} {g : G} {w x : Addr} {mm : Ms} {i : Int} {Kt : KR} (hx : g.get x = none) (i1 : -9 ≤ i) (i2 : i ≤ 0) (hk : ∀ g' a, a.r = x → New g g' → RdIn K g' a w ⟨mm, i, [], []⟩ → (∀ y, a.foot y → g.get y = none) → Kt (.val .non) g') : sp_Reader K [.ref x, .ref w, .str mm.s, .int i] (g.set x (.ins (He.ga K "Reader") [])) Kt := by
  refine ⟨x, .ref w, .str mm.s, .int i, rfl, G.set_same, rfl, rfl, fun z => absurd mm.mem (z _ rfl), fun m' _ z => ?_, fun m' i' q1 q2 _ f u hf hu nfx nux nfu => ?_⟩
  · simp [isCnt] at z; omega
  · cases q2
    have := Ms.s_inj q1
    subst this
    have hf' : g.get f = none := by rwa [G.set_ne nfx] at hf
    have hu' : g.get u = none := by rwa [G.set_ne nux] at hu
    obtain ⟨gr, hgr⟩ : ∃ gr, gr = (((g.set x (.ins (He.ga K "Reader") [])).set f (.dct [])).set u (.dct [])).set x (.ins (He.ga K "Reader") [("wood", .ref w), ("measure", .str mm.s), ("bound", .int i), ("folds", .ref f), ("muted", .ref u)]) := ⟨_, rfl⟩
    rw [← hgr]
    have n1 : New g gr := by
      rw [hgr]
      exact New.set2 (((New.set (o := .ins (He.ga K "Reader") []) hx).trans (New.set (o := .dct []) hf)).trans (New.set (o := .dct []) ((G.set_ne (fun z => nfu z.symm)).trans hu))) hx (by rw [G.set_ne (Ne.symm nux), G.set_ne (Ne.symm nfx), G.set_same]; simp)
    refine hk gr ⟨x, f, u⟩ rfl n1 ⟨?_, ?_, ?_, Ne.symm nfx, Ne.symm nux, nfu⟩ fun y hy => ?_
    · rw [hgr, G.set_same]
    · rw [hgr, G.set_ne nfx, G.set_ne nfu, G.set_same]; rfl
    · rw [hgr, G.set_ne nux, G.set_same]; rfl
    · rcases hy with rfl | rfl | rfl
      · exact hx
      · exact hf'
      · exact hu'
theorem lookup_map31 {n x : Int} {b : Bool} : ∀ fo : List (Int × Bool), (fo.map fun p => if p.1 = n then (p.1, b) else p).lookup x = if x = n then (fo.lookup x).map (fun _ => b) else fo.lookup x
  | [] => by simp
  | (k, c) :: fo => by
    rw [List.map_cons]
    have ih := lookup_map31 (n := n) (x := x) (b := b) fo
    by_cases q : k = n
    · subst q
      rw [if_pos rfl, List.lookup_cons, List.lookup_cons, ih]
      by_cases q2 : x = k
      · subst q2; simp
      · have q3 : (x == k) = false := by simpa using q2
        rw [q3, if_neg q2]
    · rw [if_neg q, List.lookup_cons, List.lookup_cons, ih]
      by_cases q2 : x = k
      · subst q2
        rw [if_neg q, if_neg q]
      · have q3 : (x == k) = false := by simpa using q2
        rw [q3]
theorem lookup_setFo {fo : List (Int × Bool)} {n x : Int} {b : Bool} : (setFo fo n b).lookup x = if x = n then some b else fo.lookup x := by
  unfold setFo
  split
  · rename_i h
    rw [lookup_map31]
    by_cases q : x = n
    · subst q
      rw [if_pos rfl, if_pos rfl]
      have : fo.lookup x ≠ none := fun z => by
        rw [List.lookup_eq_none_iff] at z
        obtain ⟨p, hp, e⟩ := List.any_eq_true.mp h
        have := z p hp
        simp at e
        simp [e] at this
      cases e : fo.lookup x with
      | none => exact absurd e this
      | some c => rfl
    · rw [if_neg q, if_neg q]
  · rename_i h
    rw [List.lookup_append]
    by_cases q : x = n
    · subst q
      have : fo.lookup x = none := by
        rw [List.lookup_eq_none_iff]
        intro p hp
        simp only [List.any_eq_true, not_exists, not_and] at h
        have := h p hp
        simp at this ⊢
        exact fun z => this z.symm
      simp [this]
    · have : (x == n) = false := by simpa using q
      simp [q, this, List.lookup]
theorem open31 {W : Wd} {R : Rdr} {n : Int} {fo : List (Int × Bool)} (hfo : fo = setFo (setFo R.fo n true) n false) (hn : n ∈ ((rowsU W R W.keys 8 0 0).filter fun r => decide (r.2.2.2 = 0)).map (·.1)) : rowsU W { R with fo := fo } W.keys 8 0 0 = rowsU W R W.keys 8 0 0 := by
  obtain ⟨r, hr, rfl⟩ := List.mem_map.mp hn
  obtain ⟨h1, h2⟩ := List.mem_filter.mp hr
  have h3 : r.2.2.2 = 0 := by simpa using h2
  have nf : ¬ (W.folded R r.1 = true ∧ W.known W.keys r.1 ≠ []) := fun z => by
    obtain ⟨o, _, ho⟩ := List.mem_flatMap.mp h1
    have e := rowsF_count 8 o 0 r ho
    rw [if_pos z, h3] at e
    have := List.length_pos_iff.mpr z.2
    omega
  unfold rowsU
  show (((W.ordered R.m 0).filter fun o => decide (o ∈ W.keys)).flatMap fun o => rowsF W { R with fo := fo } W.keys 8 o 0) = _
  rw [List.flatMap_def, List.flatMap_def]
  congr 1
  apply List.map_congr_left
  intro o _
  refine rowsF_congr (R := R) (R' := { R with fo := fo }) rfl (fun x => rfl) (fun x => ?_) 8 o 0
  have lk : fo.lookup x = if x = r.1 then some false else R.fo.lookup x := by
    rw [hfo, lookup_setFo, lookup_setFo]
    split <;> rfl
  by_cases q : x = r.1
  · have e1 : W.folded { R with fo := fo } x = false := by
      unfold Wd.folded
      show (fo.lookup x).getD _ = false
      rw [lk, if_pos q]; rfl
    rw [e1]
    rw [q]
    exact ⟨fun z => absurd z.1 (by decide), fun z => absurd z nf⟩
  · have e1 : W.folded { R with fo := fo } x = W.folded R x := by
      unfold Wd.folded
      show (fo.lookup x).getD _ = _
      rw [lk, if_neg q]
    rw [e1]
def tripD (t : Int × Int × Int) : D := .tup [.int t.1, .int t.2.1, .int t.2.2]
def tripPy (t : Int × Int × Int) : PyData := .tuple [.int t.1, .int t.2.1, .int t.2.2]
theorem pys_trips : ∀ ts : List (Int × Int × Int), pys (ts.map tripD) = some (ts.map tripPy)
  | [] => rfl
  | t :: ts => by simp [pys, py, tripD, tripPy, pys_trips ts]
theorem lay_trips : ∀ ts : List (Int × Int × Int), PyData.canLayAll0 (ts.map tripPy) = true
  | [] => rfl
  | t :: ts => by simp [PyData.canLayAll0, PyData.canLay0, tripPy, lay_trips ts]
theorem depth_trips : ∀ ts : List (Int × Int × Int), PyData.depthAll (ts.map tripPy) ≤ 1
  | [] => by simp [PyData.depthAll]
  | t :: ts => by
    have := depth_trips ts
    have h2 : PyData.depth (tripPy t) = 1 := by simp [tripPy, PyData.depth, PyData.depthAll]
    simp only [List.map_cons, PyData.depthAll]
    omega
theorem eqvAll_trips : ∀ ts : List (Int × Int × Int), PyData.eqvAll (ts.map tripPy) (ts.map tripPy) = true
  | [] => by simp [PyData.eqvAll]
  | t :: ts => by simp [PyData.eqvAll, PyData.eqv, tripPy, eqvAll_trips ts]
theorem neF_trips {g : G} {ts : List (Int × Int × Int)} : neF g (.lst (ts.map tripD)) (.lst (ts.map tripD)) = some (.bl false) := by
  have h1 : SeqAt.shaped (.list (ts.map tripPy)) = true := by
    have := depth_trips ts
    simp [SeqAt.shaped, PyData.canLay0, PyData.depth, lay_trips ts]
    omega
  have h2 := eqvAll_trips ts
  have h3 := pys_trips ts
  simp [neF, eqB, toV, eqP, py, h1, h2, h3, PyData.eqv, -List.map_map]
theorem mute_U {W : Wd} {R : Rdr} {mu : List Str} : (rowsU W { R with mu := mu } W.keys 8 0 0).map dropK = (rowsU W R W.keys 8 0 0).map dropK := by
  unfold rowsU
  show ((((W.ordered R.m 0).filter fun o => decide (o ∈ W.keys)).flatMap fun o => rowsF W { R with mu := mu } W.keys 8 o 0)).map dropK = _
  rw [List.map_flatMap, List.map_flatMap, List.flatMap_def, List.flatMap_def]
  congr 1
  apply List.map_congr_left
  intro o _
  exact rowsF_mute (R := R) (R' := { R with mu := mu }) rfl (fun x => rfl) 8 o 0
theorem written31 {K : PySem.W.Frag} {g : G} {A : Wa} {W : Wd} {c : Nat} {Kt : KR} (h : WoodIn K g A W) (wf : WFa W) (wr : Wr W c) (hc : c ≤ 100) (ag : W.age < 64) (cm : W.came ≤ 100) (hk : Kt (.val (.str W.wtext)) g) : sp_written K [.ref A.w] g Kt :=
  ⟨A, W, [], rfl, h, wf, c, rfl, by omega, wr, ag, by omega, hk⟩
theorem trip31 {g : G} {r : DL.Row} : catTF g (.tup (cutD [.int r.1, .int r.2.1, .str r.2.2.1, .int r.2.2.2] none (some 2))) (.tup (cutD [.int r.1, .int r.2.1, .str r.2.2.1, .int r.2.2.2] (some 3) none)) = some (tripD (DL.dropK r)) := by
  have e1 : cutD [.int r.1, .int r.2.1, .str r.2.2.1, .int r.2.2.2] none (some 2) = [.int r.1, .int r.2.1] := rfl
  have e2 : cutD [.int r.1, .int r.2.1, .str r.2.2.1, .int r.2.2.2] (some 3) none = [.int r.2.2.2] := rfl
  rw [e1, e2]
  simp [catTF, tripD, DL.dropK]
end Vw

set_option Elab.async false
set_option linter.all false
set_option maxRecDepth 100000
set_option maxHeartbeats 4000000
set_option autoImplicit false
namespace Vw
open PySem PySem.Spec L2 DL
abbrev N_law : List Str := ["_law_script", "_law_k", "_law_more", "_law_wood", "_law_own_here", "_law_measure", "_law_one", "_law_other", "_law_text", "_law_still", "_law_j", "_law_here", "_law_before", "_law_numbers", "_law_number", "_law_name", "_law_row"]
theorem sc_law : FnScope N_law ["_law_script"] (defScope s_law) := ⟨rfl, rfl, rfl, by decide +kernel, rfl, by decide +kernel, by decide +kernel⟩

theorem law_body {P : Program} {w : World} {K : PySem.W.Frag} {mg : Str → Option Value} {base : Heap} {T : List (Addr × Str)} (Ft : Facts K mg) (tb_l_do : TabAt base mg T (He.codeOf K ("_law_do", none)) (qt ("_law_do", none))) : ∀ f : Addr, ∃ t : TW, Body P w K mg base T N_law "law" (defScope s_law) f 39 (defBody s_law) t ∧ ∀ ds g Kt, ds.length = 1 → sp_law ds g Kt → t (endD Kt) (startD N_law.length ds) g := fun f => ⟨_, fun cdv A outer s H E hr => (pxs_cut (px_forR po_body rfl rfl Ft.f_range (pm_max rfl rfl Ft.f_max (pma_cons pm_int (pma_cons (pm_min rfl rfl Ft.f_min (pma_cons pm_int (pma_cons (pm_len rfl Ft.f_len (pma_cons (pm_var 0) pma_nil)) pma_nil))) pma_nil))) (pg_name (i := 1) sc_law.nd rfl (Or.inl rfl)) (pxs_cut (px_asg (i := 2) sc_law.nd rfl (Or.inl rfl) (pm_call (c_l_drawn Ft) hr (by decide) rfl pas_body (pma_cons (pm_call (c_l_cell Ft) hr (by decide) rfl pas_body (pma_cons (pm_var 0) (pma_cons (pm_var 1) pma_nil))) (pma_cons (pm_var 1) pma_nil))))
  (pxs_cut (px_unp rfl (pm_call (c_l_grown Ft tb_l_do) hr (by decide) rfl pas_body (pma_cons (pm_var 2) (pma_cons (pm_op op_addA v2_add pm_int (pm_op op_mod v2_mod (pm_var 2) pm_int)) pma_nil))) (pgd_cons (i := 3) sc_law.nd rfl (Or.inl rfl) (pgd_cons (i := 4) sc_law.nd rfl (Or.inl rfl) pgd_nil)))
  (pxs_cut (px_asg (i := 5) sc_law.nd rfl (Or.inl rfl) (pm_bin (pe_ix ix_seq pe_sem pe_sem (fun _ _ => rfl)) v2_ix (pm_lst (pma_cons pm_str (pma_cons pm_str (pma_cons pm_str (pma_cons pm_str (pma_cons pm_str (pma_cons pm_str pma_nil))))))) (pm_op op_mod v2_mod (pm_op op_fdivW v2_div (pm_var 2) pm_int) pm_int)))
  (pxs_cut (px_par (i := 6) (j := 7) rfl sc_law.nd rfl rfl (by decide) (pma_cons (pm_make (k_Reader Ft) hr (by decide) rfl pas_body (pma_cons (pm_var 3) (pma_cons (pm_var 5) (pma_cons (pm_op op_sub v2_sub pm_int (pm_op op_mod v2_mod (pm_op op_fdivW v2_div (pm_var 2) pm_int) pm_int)) pma_nil)))) (pma_cons (pm_make (k_Reader Ft) hr (by decide) rfl pas_body (pma_cons (pm_var 3) (pma_cons (pm_var 5) (pma_cons (pm_neg pm_int) pma_nil)))) pma_nil)))
  (pxs_cut (px_par (i := 8) (j := 9) rfl sc_law.nd rfl rfl (by decide) (pma_cons (pm_call (c_written Ft) hr (by decide) rfl pas_body (pma_cons (pm_var 3) pma_nil)) (pma_cons (pm_meth0 (m_Reader_rows Ft) hr (by decide) pas_body (pm_var 7)) pma_nil)))
  (pxs_cut (px_forR po_body rfl rfl Ft.f_range pm_int (pg_name (i := 10) sc_law.nd rfl (Or.inl rfl)) (pxs_cut (px_asg (i := 11) sc_law.nd rfl (Or.inl rfl) (pm_call (c_l_drawn Ft) hr (by decide) rfl pas_body (pma_cons (pm_var 2) (pma_cons (pm_op op_addA v2_add pm_int (pm_var 10)) pma_nil))))
  (pxs_cut (px_asg (i := 12) sc_law.nd rfl (Or.inl rfl) (pm_meth0 (m_Reader_rows Ft) hr (by decide) pas_body (pm_var 6)))
  (pxs_cut (px_if (pmt_not (pmt_val (pm_call (c_l_rows_right Ft) hr (by decide) rfl pas_body (pma_cons (pm_var 3) (pma_cons (pm_var 12) pma_nil))))) (pxs_one (px_ret pm_bl)) pxs_nil)
  (pxs_cut (px_asg (i := 13) sc_law.nd rfl (Or.inl rfl) (pm_meth0 (m_Wood_numbers Ft) hr (by decide) pas_body (pm_var 3)))
  (pxs_cut (px_if (pmw_t (pmw_and (pmt_cmp (op_neA hr.units) v2_ne (nomark _) (pm_var 13) (pm_lst pma_nil)) (pmw_and1 (pmt_cmp (op_eqA hr.units) v2_eq (nomark _) (pm_op op_mod v2_mod (pm_var 11) pm_int) pm_int)))) (pxs_cut (px_asg (i := 14) sc_law.nd rfl (Or.inl rfl) (pm_bin (pe_ix ix_seq pe_sem pe_sem (fun _ _ => rfl)) v2_ix (pm_var 13) (pm_op op_mod v2_mod (pm_op op_fdivW v2_div (pm_var 11) pm_int) (pm_len rfl Ft.f_len (pma_cons (pm_var 13) pma_nil)))))
  (pxs_cut (px_exp (pm_meth (m_Reader_fold Ft) hr (by decide) pas_body (pm_var 6) (pma_cons (pm_var 14) pma_nil)))
  (pxs_cut (px_if (pmt_not (pmt_val (pm_call (c_l_rows_right Ft) hr (by decide) rfl pas_body (pma_cons (pm_var 3) (pma_cons (pm_meth0 (m_Reader_rows Ft) hr (by decide) pas_body (pm_var 6)) pma_nil))))) (pxs_one (px_ret pm_bl)) pxs_nil)
  (pxs_cut (px_exp (pm_meth (m_Reader_open_up Ft) hr (by decide) pas_body (pm_var 6) (pma_cons (pm_var 14) pma_nil)))
  (pxs_one (px_if (pmw_t (pmw_and (pmt_cmp op_inA v2_in (by rfl) (pm_var 14) (pm_lcL rfl sc_law.nd (pm_var 12) (blkOk_by (N := N_law) (sc := defScope s_law) (by decide +kernel)) (fun _ _ _ _ _ => pg_name (i := 16) sc_law.nd rfl (Or.inl rfl)) (fun _ _ _ _ _ => (pmts_one (pmt_cmp (op_eqA hr.units) v2_eq (nomark _) (pm_bin (pe_ix ix_seq pe_sem pe_sem (fun _ _ => rfl)) v2_ix (pm_var 16) pm_int) pm_int))) (fun _ _ _ _ _ => (pm_bin (pe_ix ix_seq pe_sem pe_sem (fun _ _ => rfl)) v2_ix (pm_var 16) pm_int)))) (pmw_and1 (pmt_cmp (op_neA hr.units) v2_ne (nomark _) (pm_meth0 (m_Reader_rows Ft) hr (by decide) pas_body (pm_var 6)) (pm_var 12))))) (pxs_one (px_ret pm_bl)) pxs_nil)))))) pxs_nil)
  (pxs_cut (px_asg (i := 15) sc_law.nd rfl (Or.inl rfl) (pm_bin (pe_ix ix_seq pe_sem pe_sem (fun _ _ => rfl)) v2_ix (pm_lst (pma_cons pm_str (pma_cons pm_str (pma_cons pm_str (pma_cons pm_str pma_nil))))) (pm_op op_mod v2_mod (pm_op op_fdivW v2_div (pm_var 11) pm_int) pm_int)))
  (pxs_cut (px_asg (i := 12) sc_law.nd rfl (Or.inl rfl) (pm_meth0 (m_Reader_rows Ft) hr (by decide) pas_body (pm_var 6)))
  (pxs_cut (px_exp (pm_meth (m_Reader_mute Ft) hr (by decide) pas_body (pm_var 6) (pma_cons (pm_var 15) pma_nil)))
  (pxs_cut (px_if (pmt_cmp (op_neA hr.units) v2_ne (nomark _) (pm_lcL rfl sc_law.nd (pm_meth0 (m_Reader_rows Ft) hr (by decide) pas_body (pm_var 6)) (blkOk_by (N := N_law) (sc := defScope s_law) (by decide +kernel)) (fun _ _ _ _ _ => pg_name (i := 16) sc_law.nd rfl (Or.inl rfl)) (fun _ _ _ _ _ => pmts_nil) (fun _ _ _ _ _ => (pm_op op_catT v2_catT (pm_slice (pm_var 16) pmo_none (pmo_some pm_int)) (pm_slice (pm_var 16) (pmo_some pm_int) pmo_none)))) (pm_lcL rfl sc_law.nd (pm_var 12) (blkOk_by (N := N_law) (sc := defScope s_law) (by decide +kernel)) (fun _ _ _ _ _ => pg_name (i := 16) sc_law.nd rfl (Or.inl rfl)) (fun _ _ _ _ _ => pmts_nil) (fun _ _ _ _ _ => (pm_op op_catT v2_catT (pm_slice (pm_var 16) pmo_none (pmo_some pm_int)) (pm_slice (pm_var 16) (pmo_some pm_int) pmo_none))))) (pxs_one (px_ret pm_bl)) pxs_nil)
  (pxs_one (px_if (pmt_cmp (op_eqA hr.units) v2_eq (nomark _) (pm_op op_mod v2_mod (pm_var 11) pm_int) pm_int) (pxs_one (px_exp (pm_meth (m_Reader_hear Ft) hr (by decide) pas_body (pm_var 6) (pma_cons (pm_var 15) pma_nil)))) pxs_nil))))))))))))
  (pxs_one (px_if (pmw_t (pmw_or (pmt_cmp (op_neA hr.units) v2_ne (nomark _) (pm_meth0 (m_Reader_rows Ft) hr (by decide) pas_body (pm_var 7)) (pm_var 9)) (pmw_or1 (pmt_cmp (op_neA hr.units) v2_ne (nomark _) (pm_call (c_written Ft) hr (by decide) rfl pas_body (pma_cons (pm_var 3) pma_nil)) (pm_var 8))))) (pxs_one (px_ret pm_bl)) pxs_nil)))))))))
  (pxs_one (px_ret pm_bl))), by
  rintro ds g Kt hl ⟨ns, rfl, hn, nl, hk⟩
  obtain ⟨sc, hsc⟩ : ∃ sc, sc = (.frl (ns.map D.int) : D) := ⟨_, rfl⟩
  refine ⟨fun e g' => True, ?_, fun e g' _ => by simp [wSeq, wRet, wRetN, wIf, wAsg, wExp, wNil, wRaise, wSetF, wPut, wPar, wUnp, wCont, rVar, rC, rBin, rUn, rAnd, rOr, rNot, rAndT, rOrT, rNotT, rIfE, rNil, rCons, rTup, rLst, rCB, rFld, rDGet, rDIn, rCall, rMth, rMake, rDNew, rIs, rChain, startD, endD, onB, gNames, setAll, -List.lookup_eq_none_iff, -List.map_map]; exact hk g'⟩
  simp [wForR, wSeq, wRet, wRetN, wIf, wAsg, wExp, wNil, wRaise, wSetF, wPut, wPar, wUnp, wCont, rVar, rC, rBin, rUn, rAnd, rOr, rNot, rAndT, rOrT, rNotT, rIfE, rNil, rCons, rTup, rLst, rCB, rFld, rDGet, rDIn, rCall, rMth, rMake, rDNew, rIs, rChain, startD, endD, onB, gNames, setAll, -List.lookup_eq_none_iff, -List.map_map, lenF, items, minF, maxF]
  refine ⟨by omega, by omega, ?_⟩
  rw [← hsc]
  refine ⟨fun k e g' => NL g' ∧ ∃ s1 s2 s3 s4 s5 s6 s7 s8 s9 s10 s11 s12 s13 s14 s15 s16, e = [.dat sc, s1, s2, s3, s4, s5, s6, s7, s8, s9, s10, s11, s12, s13, s14, s15, s16], ⟨nl, _, _, _, _, _, _, _, _, _, _, _, _, _, _, _, _, rfl⟩, ?_, fun _ _ _ => trivial⟩
  rintro k0 d e g1 hd ⟨nl1, s1, s2, s3, s4, s5, s6, s7, s8, s9, s10, s11, s12, s13, s14, s15, s16, rfl⟩
  obtain ⟨hk0, rfl⟩ := rangeD_of hd
  refine ⟨fun e g2 => g2 = g1 ∧ ∃ m, 0 ≤ m ∧ e = [.dat sc, .dat (.int k0), .dat (.int m), s3, s4, s5, s6, s7, s8, s9, s10, s11, s12, s13, s14, s15, s16], ?_, ?_⟩
  · simp [wSeq, wRet, wRetN, wIf, wAsg, wExp, wNil, wRaise, wSetF, wPut, wPar, wUnp, wCont, rVar, rC, rBin, rUn, rAnd, rOr, rNot, rAndT, rOrT, rNotT, rIfE, rNil, rCons, rTup, rLst, rCB, rFld, rDGet, rDIn, rCall, rMth, rMake, rDNew, rIs, rChain, startD, endD, onB, gNames, setAll, -List.lookup_eq_none_iff, -List.map_map, sp_cell, sp_drawn, hsc]
    refine ⟨ns, k0, ⟨rfl, rfl⟩, hn, by omega, by omega, fun z => ?_⟩
    refine ⟨z, k0, ⟨rfl, rfl⟩, by omega, by omega, ?_⟩
    exact (drawnZ_bd z k0).1
  rintro e g2 ⟨rfl, m, m0, rfl⟩
  have mb := emod_bd m (show (0 : Int) < 40 by decide)
  refine ⟨fun e g3 => ∃ A W s4, ∃ c : Nat, WoodIn K g3 A W ∧ WF W ∧ NL g3 ∧ W.age ≤ 50 ∧ W.came ≤ 50 ∧ c ≤ 50 ∧ Wr W c ∧ e = [.dat sc, .dat (.int k0), .dat (.int m), .dat (.ref A.w), s4, s5, s6, s7, s8, s9, s10, s11, s12, s13, s14, s15, s16], ?_, ?_⟩
  · simp [wSeq, wRet, wRetN, wIf, wAsg, wExp, wNil, wRaise, wSetF, wPut, wPar, wUnp, wCont, rVar, rC, rBin, rUn, rAnd, rOr, rNot, rAndT, rOrT, rNotT, rIfE, rNil, rCons, rTup, rLst, rCB, rFld, rDGet, rDIn, rCall, rMth, rMake, rDNew, rIs, rChain, startD, endD, onB, gNames, setAll, -List.lookup_eq_none_iff, -List.map_map, modF_lit, addF, sp_grownT]
    refine ⟨m, 10 + m % 40, ⟨rfl, rfl⟩, by omega, by omega, nl1, fun g3 A B W hB ag cm wr fr => ?_⟩
    exact ⟨A, W, hB.a, hB.wf, hB.nl, by omega, by omega, _, (10 + m % 40).toNat, by omega, wr, rfl, rfl⟩
  rintro e g3 ⟨A, W, s4, c, hA, wf, nl3, ag, cm, hc, wr, rfl⟩
  have wfa : WFa W := ⟨wf, by omega⟩
  refine ⟨fun e g4 => g4 = g3 ∧ ∃ mm : Ms, e = [.dat sc, .dat (.int k0), .dat (.int m), .dat (.ref A.w), s4, .dat (.str mm.s), s6, s7, s8, s9, s10, s11, s12, s13, s14, s15, s16], ?_, ?_⟩
  · have e1 := emod_bd (m / 64) (show (0 : Int) < 6 by decide)
    obtain ⟨z, hz, hzm⟩ := atI_lt (xs := meas) e1.1 (by show m / 64 % 6 < 6; exact e1.2)
    obtain ⟨mm, rfl⟩ := Ms.of hzm
    have z1 : atI [D.str "new", .str "old", .str "best", .str "warm", .str "torn", .str "sure"] (m / 64 % 6) = some (.str mm.s) := by
      have := atI_map (f := D.str) (xs := meas) (i := m / 64 % 6)
      rw [hz] at this; exact this
    simp [wSeq, wRet, wRetN, wIf, wAsg, wExp, wNil, wRaise, wSetF, wPut, wPar, wUnp, wCont, rVar, rC, rBin, rUn, rAnd, rOr, rNot, rAndT, rOrT, rNotT, rIfE, rNil, rCons, rTup, rLst, rCB, rFld, rDGet, rDIn, rCall, rMth, rMake, rDNew, rIs, rChain, startD, endD, onB, gNames, setAll, -List.lookup_eq_none_iff, -List.map_map, modF_lit, divF_lit, ixF, items, z1]
    exact ⟨mm, rfl⟩
  rintro e g4 ⟨rfl, mm, rfl⟩
  refine ⟨fun e g5 => ∃ a o R, R.m = mm ∧ R.fo = [] ∧ R.mu = [] ∧ S31 K g5 A W a R o ∧ e = [.dat sc, .dat (.int k0), .dat (.int m), .dat (.ref A.w), s4, .dat (.str mm.s), .dat (.ref a.r), .dat (.ref o.r), s8, s9, s10, s11, s12, s13, s14, s15, s16], ?_, ?_⟩
  · have e2 := emod_bd (m / 512) (show (0 : Int) < 10 by decide)
    simp [wSeq, wRet, wRetN, wIf, wAsg, wExp, wNil, wRaise, wSetF, wPut, wPar, wUnp, wCont, rVar, rC, rBin, rUn, rAnd, rOr, rNot, rAndT, rOrT, rNotT, rIfE, rNil, rCons, rTup, rLst, rCB, rFld, rDGet, rDIn, rCall, rMth, rMake, rDNew, rIs, rChain, startD, endD, onB, gNames, setAll, -List.lookup_eq_none_iff, -List.map_map, modF_lit, divF_lit, subF, negF]
    intro x hx
    refine mkR31 hx (by omega) (by omega) fun g5 a ar n1 ra fa => ?_
    simp
    intro y hy
    refine mkR31 hy (by omega) (by omega) fun g6 o or n2 ro fo => ?_
    subst ar or
    have hA6 := n2.wood (n1.wood hA)
    refine ⟨rfl, _, _, ⟨rfl, rfl⟩, a, o, ⟨mm, -(m / 512 % 10), [], []⟩, rfl, rfl, rfl, ⟨hA6, ra.frm n2 (fun _ _ z => z), ro, wfa, n2.nl (n1.nl nl3), fun x hx z => hA.ne z (fa x hx), fun x hx => ⟨fun z => (n1.wood hA).ne z (fo x hx), fun z => ra.ne z (fo x hx)⟩⟩, rfl, rfl⟩
  rintro e g5 ⟨a, o, R0, hm0, hf0, hu0, st0, rfl⟩
  subst hm0
  obtain ⟨still, hstill⟩ : ∃ still : List DL.Row, still = rowsU W ⟨R0.m, -9, [], []⟩ W.keys 8 0 0 := ⟨_, rfl⟩
  refine ⟨fun e g6 => g6 = g5 ∧ e = [.dat sc, .dat (.int k0), .dat (.int m), .dat (.ref A.w), s4, .dat (.str R0.m.s), .dat (.ref a.r), .dat (.ref o.r), .dat (.str W.wtext), .dat (.lst (still.map rowD)), s10, s11, s12, s13, s14, s15, s16], ?_, ?_⟩
  · simp [wSeq, wRet, wRetN, wIf, wAsg, wExp, wNil, wRaise, wSetF, wPut, wPar, wUnp, wCont, rVar, rC, rBin, rUn, rAnd, rOr, rNot, rAndT, rOrT, rNotT, rIfE, rNil, rCons, rTup, rLst, rCB, rFld, rDGet, rDIn, rCall, rMth, rMake, rDNew, rIs, rChain, startD, endD, onB, gNames, setAll, -List.lookup_eq_none_iff, -List.map_map]
    refine written31 st0.wd wfa wr (by omega) (by omega) (by omega) ?_
    simp [st0.ro.hr]
    refine rows31o st0 ?_
    rw [← hstill]
    simp
  rintro e g6 ⟨rfl, rfl⟩
  refine ⟨fun e g7 => ∃ R, R.m = R0.m ∧ S31 K g7 A W a R o ∧ ∃ s10 s11 s12 s13 s14 s15 s16, e = [.dat sc, .dat (.int k0), .dat (.int m), .dat (.ref A.w), s4, .dat (.str R0.m.s), .dat (.ref a.r), .dat (.ref o.r), .dat (.str W.wtext), .dat (.lst (still.map rowD)), s10, s11, s12, s13, s14, s15, s16], ?_, ?_⟩
  · simp [wForR, wSeq, wRet, wRetN, wIf, wAsg, wExp, wNil, wRaise, wSetF, wPut, wPar, wUnp, wCont, rVar, rC, rBin, rUn, rAnd, rOr, rNot, rAndT, rOrT, rNotT, rIfE, rNil, rCons, rTup, rLst, rCB, rFld, rDGet, rDIn, rCall, rMth, rMake, rDNew, rIs, rChain, startD, endD, onB, gNames, setAll, -List.lookup_eq_none_iff, -List.map_map]
    refine ⟨fun k e g7 => ∃ R, R.m = R0.m ∧ S31 K g7 A W a R o ∧ R.fo.length ≤ 2 * k ∧ R.mu.length ≤ k ∧ ∃ s10 s11 s12 s13 s14 s15 s16, e = [.dat sc, .dat (.int k0), .dat (.int m), .dat (.ref A.w), s4, .dat (.str R0.m.s), .dat (.ref a.r), .dat (.ref o.r), .dat (.str W.wtext), .dat (.lst (still.map rowD)), s10, s11, s12, s13, s14, s15, s16], ⟨R0, rfl, st0, by rw [hf0]; simp, by rw [hu0]; simp, _, _, _, _, _, _, _, rfl⟩, ?_, ?_⟩
    · rintro k d e g7 hd ⟨R, hm, st, lf, lm, t10, t11, t12, t13, t14, t15, t16, rfl⟩
      obtain ⟨hk1, rfl⟩ := rangeD_of hd
      have hk8 : k < 8 := by omega
      refine ⟨fun e g8 => g8 = g7 ∧ ∃ h, 0 ≤ h ∧ e = [.dat sc, .dat (.int k0), .dat (.int m), .dat (.ref A.w), s4, .dat (.str R0.m.s), .dat (.ref a.r), .dat (.ref o.r), .dat (.str W.wtext), .dat (.lst (still.map rowD)), .dat (.int k), .dat (.int h), t12, t13, t14, t15, t16], ?_, ?_⟩
      · simp [wSeq, wRet, wRetN, wIf, wAsg, wExp, wNil, wRaise, wSetF, wPut, wPar, wUnp, wCont, rVar, rC, rBin, rUn, rAnd, rOr, rNot, rAndT, rOrT, rNotT, rIfE, rNil, rCons, rTup, rLst, rCB, rFld, rDGet, rDIn, rCall, rMth, rMake, rDNew, rIs, rChain, startD, endD, onB, gNames, setAll, -List.lookup_eq_none_iff, -List.map_map, addF, sp_drawn]
        refine ⟨m, 100 + k, ⟨rfl, rfl⟩, by omega, by omega, ?_⟩
        exact (drawnZ_bd m (100 + k)).1
      rintro e g8 ⟨rfl, h, h0, rfl⟩
      obtain ⟨bef, hbef⟩ : ∃ bef, bef = rowsU W R W.keys 8 0 0 := ⟨_, rfl⟩
      have lbef : bef.length ≤ 60 := by rw [hbef]; exact rowsU_len' wf (.inl rfl)
      refine ⟨fun e g9 => g9 = g8 ∧ e = [.dat sc, .dat (.int k0), .dat (.int m), .dat (.ref A.w), s4, .dat (.str R0.m.s), .dat (.ref a.r), .dat (.ref o.r), .dat (.str W.wtext), .dat (.lst (still.map rowD)), .dat (.int k), .dat (.int h), .dat (.lst (bef.map rowD)), t13, t14, t15, t16], ?_, ?_⟩
      · simp [wSeq, wRet, wRetN, wIf, wAsg, wExp, wNil, wRaise, wSetF, wPut, wPar, wUnp, wCont, rVar, rC, rBin, rUn, rAnd, rOr, rNot, rAndT, rOrT, rNotT, rIfE, rNil, rCons, rTup, rLst, rCB, rFld, rDGet, rDIn, rCall, rMth, rMake, rDNew, rIs, rChain, startD, endD, onB, gNames, setAll, -List.lookup_eq_none_iff, -List.map_map, st.rd.hr]
        refine rows31 st (by omega) (by omega) ?_
        rw [← hbef]
        simp
      rintro e g9 ⟨rfl, rfl⟩
      refine ⟨fun e g10 => g10 = g9 ∧ e = [.dat sc, .dat (.int k0), .dat (.int m), .dat (.ref A.w), s4, .dat (.str R0.m.s), .dat (.ref a.r), .dat (.ref o.r), .dat (.str W.wtext), .dat (.lst (still.map rowD)), .dat (.int k), .dat (.int h), .dat (.lst (bef.map rowD)), t13, t14, t15, t16], ?_, ?_⟩
      · simp [wSeq, wRet, wRetN, wIf, wAsg, wExp, wNil, wRaise, wSetF, wPut, wPar, wUnp, wCont, rVar, rC, rBin, rUn, rAnd, rOr, rNot, rAndT, rOrT, rNotT, rIfE, rNil, rCons, rTup, rLst, rCB, rFld, rDGet, rDIn, rCall, rMth, rMake, rDNew, rIs, rChain, startD, endD, onB, gNames, setAll, -List.lookup_eq_none_iff, -List.map_map]
        refine right31 st hbef ?_
        simp
      rintro e g10 ⟨rfl, rfl⟩
      refine ⟨fun e g11 => g11 = g10 ∧ e = [.dat sc, .dat (.int k0), .dat (.int m), .dat (.ref A.w), s4, .dat (.str R0.m.s), .dat (.ref a.r), .dat (.ref o.r), .dat (.str W.wtext), .dat (.lst (still.map rowD)), .dat (.int k), .dat (.int h), .dat (.lst (bef.map rowD)), .dat (.lst (W.keys.map D.int)), t14, t15, t16], ?_, ?_⟩
      · simp [wSeq, wRet, wRetN, wIf, wAsg, wExp, wNil, wRaise, wSetF, wPut, wPar, wUnp, wCont, rVar, rC, rBin, rUn, rAnd, rOr, rNot, rAndT, rOrT, rNotT, rIfE, rNil, rCons, rTup, rLst, rCB, rFld, rDGet, rDIn, rCall, rMth, rMake, rDNew, rIs, rChain, startD, endD, onB, gNames, setAll, -List.lookup_eq_none_iff, -List.map_map, st.wd.hw, sp_numbers, wp]
        exact ⟨A, W, [], ⟨rfl, rfl⟩, st.wd, wfa, rfl, rfl⟩
      rintro e g11 ⟨rfl, rfl⟩
      refine ⟨fun e g12 => ∃ R2, R2.m = R0.m ∧ S31 K g12 A W a R2 o ∧ R2.fo.length ≤ 2 * k + 2 ∧ R2.mu.length ≤ k ∧ ∃ t14, e = [.dat sc, .dat (.int k0), .dat (.int m), .dat (.ref A.w), s4, .dat (.str R0.m.s), .dat (.ref a.r), .dat (.ref o.r), .dat (.str W.wtext), .dat (.lst (still.map rowD)), .dat (.int k), .dat (.int h), .dat (.lst (bef.map rowD)), .dat (.lst (W.keys.map D.int)), t14, t15, t16], ?_, ?_⟩
      · have e0 : neF g11 (.lst (W.keys.map D.int)) (.lst []) = some (.bl (!decide (W.keys = []))) := neF_ints (bs := [])
        by_cases q1 : W.keys = []
        · have e1 : neF g11 (.lst (W.keys.map D.int)) (.lst []) = some (.bl false) := by rw [e0, q1]; rfl
          simp [wSeq, wRet, wRetN, wIf, wAsg, wExp, wNil, wRaise, wSetF, wPut, wPar, wUnp, wCont, rVar, rC, rBin, rUn, rAnd, rOr, rNot, rAndT, rOrT, rNotT, rIfE, rNil, rCons, rTup, rLst, rCB, rFld, rDGet, rDIn, rCall, rMth, rMake, rDNew, rIs, rChain, startD, endD, onB, gNames, setAll, -List.lookup_eq_none_iff, -List.map_map, e1]
          exact ⟨R, hm, st, by omega, lm⟩
        · have e1 : neF g11 (.lst (W.keys.map D.int)) (.lst []) = some (.bl true) := by rw [e0, decide_eq_false q1]; rfl
          by_cases q2 : h % 3 = 0
          · simp [wSeq, wRet, wRetN, wIf, wAsg, wExp, wNil, wRaise, wSetF, wPut, wPar, wUnp, wCont, rVar, rC, rBin, rUn, rAnd, rOr, rNot, rAndT, rOrT, rNotT, rIfE, rNil, rCons, rTup, rLst, rCB, rFld, rDGet, rDIn, rCall, rMth, rMake, rDNew, rIs, rChain, startD, endD, onB, gNames, setAll, -List.lookup_eq_none_iff, -List.map_map, e1, modF_lit, q2]
            have l0 : 0 < W.keys.length := List.length_pos_iff.mpr q1
            refine ⟨fun e g13 => g13 = g11 ∧ ∃ n, n ∈ W.keys ∧ e = [.dat sc, .dat (.int k0), .dat (.int m), .dat (.ref A.w), s4, .dat (.str R0.m.s), .dat (.ref a.r), .dat (.ref o.r), .dat (.str W.wtext), .dat (.lst (still.map rowD)), .dat (.int k), .dat (.int h), .dat (.lst (bef.map rowD)), .dat (.lst (W.keys.map D.int)), .dat (.int n), t15, t16], ?_, ?_⟩
            · have e2 := emod_bd (h / 64) (show (0 : Int) < W.keys.length by omega)
              obtain ⟨z, hz, hzm⟩ := atI_lt (xs := W.keys) e2.1 e2.2
              have z1 : atI (W.keys.map D.int) (h / 64 % (W.keys.length : Nat)) = some (.int z) := by rw [atI_map, hz]; rfl
              have z2 : modF g11 (.int (h / 64)) (.int (W.keys.length : Nat)) = some (.int (h / 64 % (W.keys.length : Nat))) := modF_lit (by omega)
              simp [wSeq, wRet, wRetN, wIf, wAsg, wExp, wNil, wRaise, wSetF, wPut, wPar, wUnp, wCont, rVar, rC, rBin, rUn, rAnd, rOr, rNot, rAndT, rOrT, rNotT, rIfE, rNil, rCons, rTup, rLst, rCB, rFld, rDGet, rDIn, rCall, rMth, rMake, rDNew, rIs, rChain, startD, endD, onB, gNames, setAll, -List.lookup_eq_none_iff, -List.map_map, divF_lit, lenF, items, z2, ixF, z1]
              exact hzm
            rintro e g13 ⟨rfl, n, hn, rfl⟩
            refine ⟨fun e g14 => S31 K g14 A W a { R with fo := setFo R.fo n true } o ∧ e = [.dat sc, .dat (.int k0), .dat (.int m), .dat (.ref A.w), s4, .dat (.str R0.m.s), .dat (.ref a.r), .dat (.ref o.r), .dat (.str W.wtext), .dat (.lst (still.map rowD)), .dat (.int k), .dat (.int h), .dat (.lst (bef.map rowD)), .dat (.lst (W.keys.map D.int)), .dat (.int n), t15, t16], ?_, ?_⟩
            · simp [wSeq, wRet, wRetN, wIf, wAsg, wExp, wNil, wRaise, wSetF, wPut, wPar, wUnp, wCont, rVar, rC, rBin, rUn, rAnd, rOr, rNot, rAndT, rOrT, rNotT, rIfE, rNil, rCons, rTup, rLst, rCB, rFld, rDGet, rDIn, rCall, rMth, rMake, rDNew, rIs, rChain, startD, endD, onB, gNames, setAll, -List.lookup_eq_none_iff, -List.map_map, st.rd.hr]
              refine fold31 st (by omega) (by omega) hn fun g14 st2 => ?_
              simp
              exact st2
            clear st e0 e1
            rintro e g14 ⟨st, rfl⟩
            have lf1 := setFo_len (fo := R.fo) (n := n) (b := true)
            refine ⟨fun e g15 => g15 = g14 ∧ e = [.dat sc, .dat (.int k0), .dat (.int m), .dat (.ref A.w), s4, .dat (.str R0.m.s), .dat (.ref a.r), .dat (.ref o.r), .dat (.str W.wtext), .dat (.lst (still.map rowD)), .dat (.int k), .dat (.int h), .dat (.lst (bef.map rowD)), .dat (.lst (W.keys.map D.int)), .dat (.int n), t15, t16], ?_, ?_⟩
            · simp [wSeq, wRet, wRetN, wIf, wAsg, wExp, wNil, wRaise, wSetF, wPut, wPar, wUnp, wCont, rVar, rC, rBin, rUn, rAnd, rOr, rNot, rAndT, rOrT, rNotT, rIfE, rNil, rCons, rTup, rLst, rCB, rFld, rDGet, rDIn, rCall, rMth, rMake, rDNew, rIs, rChain, startD, endD, onB, gNames, setAll, -List.lookup_eq_none_iff, -List.map_map, st.rd.hr]
              refine rows31 st (Nat.le_trans lf1 (by omega)) (Nat.le_trans lm (by omega)) ?_
              simp
              refine right31 st rfl ?_
              simp
            rintro e g15 ⟨rfl, rfl⟩
            obtain ⟨fo2, hfo2⟩ : ∃ fo2, fo2 = setFo (setFo R.fo n true) n false := ⟨_, rfl⟩
            have lf3 : fo2.length ≤ 2 * k + 2 := by
              have := setFo_len (fo := setFo R.fo n true) (n := n) (b := false)
              rw [hfo2]; omega
            refine ⟨fun e g16 => S31 K g16 A W a { R with fo := fo2 } o ∧ e = [.dat sc, .dat (.int k0), .dat (.int m), .dat (.ref A.w), s4, .dat (.str R0.m.s), .dat (.ref a.r), .dat (.ref o.r), .dat (.str W.wtext), .dat (.lst (still.map rowD)), .dat (.int k), .dat (.int h), .dat (.lst (bef.map rowD)), .dat (.lst (W.keys.map D.int)), .dat (.int n), t15, t16], ?_, ?_⟩
            · simp [wSeq, wRet, wRetN, wIf, wAsg, wExp, wNil, wRaise, wSetF, wPut, wPar, wUnp, wCont, rVar, rC, rBin, rUn, rAnd, rOr, rNot, rAndT, rOrT, rNotT, rIfE, rNil, rCons, rTup, rLst, rCB, rFld, rDGet, rDIn, rCall, rMth, rMake, rDNew, rIs, rChain, startD, endD, onB, gNames, setAll, -List.lookup_eq_none_iff, -List.map_map, st.rd.hr]
              refine fold31 st (Nat.le_trans lf1 (by omega)) (Nat.le_trans lm (by omega)) hn fun g16 st2 => ?_
              simp
              rw [hfo2]; exact st2
            clear st
            rintro e g16 ⟨st, rfl⟩
            have fin : ∃ R2, R2.m = R0.m ∧ S31 K g16 A W a R2 o ∧ R2.fo.length ≤ 2 * k + 2 ∧ R2.mu.length ≤ k := ⟨{ R with fo := fo2 }, hm, st, lf3, lm⟩
            simp only [wIf, rAndT, rBin, rCB, rCons, rNil, rVar, rLcL, List.getElem?_cons_succ, List.getElem?_cons_zero]
            refine ⟨_, rfl, ?_⟩
            refine ⟨_, rfl, ?_⟩
            refine ⟨_, rfl, trivial, ?_⟩
            have bok : ∀ r ∈ bef, PyData.strOk r.2.2.1 = true := by rw [hbef]; exact rowsU_ok
            refine lcR_if (xs := bef) rowD_inj (fun r => decide (r.2.2.2 = 0)) (fun r => .int r.1) (by omega) (fun r hr => ?_) ?_
            · simp [turnR, wSeq, wRet, wRetN, wIf, wAsg, wExp, wNil, wRaise, wSetF, wPut, wPar, wUnp, wCont, rVar, rC, rBin, rUn, rAnd, rOr, rNot, rAndT, rOrT, rNotT, rIfE, rNil, rCons, rTup, rLst, rCB, rFld, rDGet, rDIn, rCall, rMth, rMake, rDNew, rIs, rChain, startD, endD, onB, gNames, setAll, -List.lookup_eq_none_iff, -List.map_map, rowD, ixF, items, atI, ixN]
              by_cases q : r.2.2.2 = 0 <;> simp [q]
            · have e3 : ((bef.filter fun r => decide (r.2.2.2 = 0)).map fun r => D.int r.1) = (((bef.filter fun r => decide (r.2.2.2 = 0)).map (·.1)).map D.int) := by rw [List.map_map]; rfl
              simp only [onV_val]
              rw [e3]
              refine ⟨_, inF_ints, ?_⟩
              by_cases q3 : n ∈ ((bef.filter fun r => decide (r.2.2.2 = 0)).map (·.1))
              · rw [decide_eq_true q3]
                simp only [onB, if_true, rMth, rVar, rNil, List.getElem?_cons_succ, List.getElem?_cons_zero]
                refine ⟨_, rfl, ?_⟩
                simp only [onV_val]
                refine ⟨a.r, _, rfl, st.rd.hr, by simp, rfl, ?_⟩
                refine rows31 st (Nat.le_trans lf3 (by omega)) (Nat.le_trans lm (by omega)) ?_
                rw [open31 hfo2 (by rw [← hbef]; exact q3), ← hbef]
                simp [wSeq, wRet, wRetN, wIf, wAsg, wExp, wNil, wRaise, wSetF, wPut, wPar, wUnp, wCont, rVar, rC, rBin, rUn, rAnd, rOr, rNot, rAndT, rOrT, rNotT, rIfE, rNil, rCons, rTup, rLst, rCB, rFld, rDGet, rDIn, rCall, rMth, rMake, rDNew, rIs, rChain, startD, endD, onB, gNames, setAll, -List.lookup_eq_none_iff, -List.map_map, neF_rows bok]
                exact fin
              · rw [decide_eq_false q3]
                simp [wSeq, wRet, wRetN, wIf, wAsg, wExp, wNil, wRaise, wSetF, wPut, wPar, wUnp, wCont, rVar, rC, rBin, rUn, rAnd, rOr, rNot, rAndT, rOrT, rNotT, rIfE, rNil, rCons, rTup, rLst, rCB, rFld, rDGet, rDIn, rCall, rMth, rMake, rDNew, rIs, rChain, startD, endD, onB, gNames, setAll, -List.lookup_eq_none_iff, -List.map_map]
                exact fin
          · simp [wSeq, wRet, wRetN, wIf, wAsg, wExp, wNil, wRaise, wSetF, wPut, wPar, wUnp, wCont, rVar, rC, rBin, rUn, rAnd, rOr, rNot, rAndT, rOrT, rNotT, rIfE, rNil, rCons, rTup, rLst, rCB, rFld, rDGet, rDIn, rCall, rMth, rMake, rDNew, rIs, rChain, startD, endD, onB, gNames, setAll, -List.lookup_eq_none_iff, -List.map_map, e1, modF_lit, q2]
            exact ⟨R, hm, st, by omega, lm⟩
      clear st
      rintro e g12 ⟨R2, hm2, st, lf2, lm2, t14', rfl⟩
      refine ⟨fun e g13 => g13 = g12 ∧ ∃ s, s ∈ names31 ∧ e = [.dat sc, .dat (.int k0), .dat (.int m), .dat (.ref A.w), s4, .dat (.str R0.m.s), .dat (.ref a.r), .dat (.ref o.r), .dat (.str W.wtext), .dat (.lst (still.map rowD)), .dat (.int k), .dat (.int h), .dat (.lst (bef.map rowD)), .dat (.lst (W.keys.map D.int)), t14', .dat (.str s), t16], ?_, ?_⟩
      · have e1 := emod_bd (h / 4096) (show (0 : Int) < 4 by decide)
        obtain ⟨z, hz, hzm⟩ := atI_lt (xs := names31) e1.1 (by show h / 4096 % 4 < 4; exact e1.2)
        have z1 : atI [D.str "ann", .str "bob", .str "cy", .str "zz"] (h / 4096 % 4) = some (.str z) := by
          have := atI_map (f := D.str) (xs := names31) (i := h / 4096 % 4)
          rw [hz] at this; exact this
        simp [wSeq, wRet, wRetN, wIf, wAsg, wExp, wNil, wRaise, wSetF, wPut, wPar, wUnp, wCont, rVar, rC, rBin, rUn, rAnd, rOr, rNot, rAndT, rOrT, rNotT, rIfE, rNil, rCons, rTup, rLst, rCB, rFld, rDGet, rDIn, rCall, rMth, rMake, rDNew, rIs, rChain, startD, endD, onB, gNames, setAll, -List.lookup_eq_none_iff, -List.map_map, modF_lit, divF_lit, ixF, items, z1]
        exact hzm
      rintro e g13 ⟨rfl, s, hs, rfl⟩
      have sok := names31_ok hs
      obtain ⟨be2, hbe2⟩ : ∃ be2, be2 = rowsU W R2 W.keys 8 0 0 := ⟨_, rfl⟩
      have lbe2 : be2.length ≤ 60 := by rw [hbe2]; exact rowsU_len' wf (.inl rfl)
      refine ⟨fun e g14 => g14 = g13 ∧ e = [.dat sc, .dat (.int k0), .dat (.int m), .dat (.ref A.w), s4, .dat (.str R0.m.s), .dat (.ref a.r), .dat (.ref o.r), .dat (.str W.wtext), .dat (.lst (still.map rowD)), .dat (.int k), .dat (.int h), .dat (.lst (be2.map rowD)), .dat (.lst (W.keys.map D.int)), t14', .dat (.str s), t16], ?_, ?_⟩
      · simp [wSeq, wRet, wRetN, wIf, wAsg, wExp, wNil, wRaise, wSetF, wPut, wPar, wUnp, wCont, rVar, rC, rBin, rUn, rAnd, rOr, rNot, rAndT, rOrT, rNotT, rIfE, rNil, rCons, rTup, rLst, rCB, rFld, rDGet, rDIn, rCall, rMth, rMake, rDNew, rIs, rChain, startD, endD, onB, gNames, setAll, -List.lookup_eq_none_iff, -List.map_map, st.rd.hr]
        refine rows31 st (by omega) (by omega) ?_
        rw [← hbe2]
        simp
      rintro e g14 ⟨rfl, rfl⟩
      refine ⟨fun e g15 => S31 K g15 A W a { R2 with mu := addMu R2.mu s } o ∧ e = [.dat sc, .dat (.int k0), .dat (.int m), .dat (.ref A.w), s4, .dat (.str R0.m.s), .dat (.ref a.r), .dat (.ref o.r), .dat (.str W.wtext), .dat (.lst (still.map rowD)), .dat (.int k), .dat (.int h), .dat (.lst (be2.map rowD)), .dat (.lst (W.keys.map D.int)), t14', .dat (.str s), t16], ?_, ?_⟩
      · simp [wSeq, wRet, wRetN, wIf, wAsg, wExp, wNil, wRaise, wSetF, wPut, wPar, wUnp, wCont, rVar, rC, rBin, rUn, rAnd, rOr, rNot, rAndT, rOrT, rNotT, rIfE, rNil, rCons, rTup, rLst, rCB, rFld, rDGet, rDIn, rCall, rMth, rMake, rDNew, rIs, rChain, startD, endD, onB, gNames, setAll, -List.lookup_eq_none_iff, -List.map_map, st.rd.hr]
        refine mute31 st (by omega) (by omega) sok fun g15 st2 => ?_
        simp
        exact st2
      clear st
      rintro e g15 ⟨st, rfl⟩
      have lm3 := addMu_len (mu := R2.mu) (s := s)
      obtain ⟨R3, hR3⟩ : ∃ R3 : Rdr, R3 = { R2 with mu := addMu R2.mu s } := ⟨_, rfl⟩
      rw [← hR3] at st
      have lf3 : R3.fo.length ≤ 2 * k + 2 := by rw [hR3]; exact lf2
      have lm4 : R3.mu.length ≤ k + 1 := by rw [hR3]; exact Nat.le_trans lm3 (by omega)
      have hm3 : R3.m = R0.m := by rw [hR3]; exact hm2
      obtain ⟨be3, hbe3⟩ : ∃ be3, be3 = rowsU W R3 W.keys 8 0 0 := ⟨_, rfl⟩
      have lbe3 : be3.length ≤ 60 := by rw [hbe3]; exact rowsU_len' wf (.inl rfl)
      have same : be3.map DL.dropK = be2.map DL.dropK := by rw [hbe3, hbe2, hR3]; exact mute_U
      refine ⟨fun e g16 => g16 = g15 ∧ e = [.dat sc, .dat (.int k0), .dat (.int m), .dat (.ref A.w), s4, .dat (.str R0.m.s), .dat (.ref a.r), .dat (.ref o.r), .dat (.str W.wtext), .dat (.lst (still.map rowD)), .dat (.int k), .dat (.int h), .dat (.lst (be2.map rowD)), .dat (.lst (W.keys.map D.int)), t14', .dat (.str s), t16], ?_, ?_⟩
      · simp only [wIf, rBin, rCB, rCons, rNil, rVar, rLcL, rMth, List.getElem?_cons_succ, List.getElem?_cons_zero]
        refine ⟨_, rfl, ?_⟩
        simp only [onV_val]
        refine ⟨a.r, _, rfl, st.rd.hr, by simp, rfl, ?_⟩
        refine rows31 st (by omega) (by omega) ?_
        rw [← hbe3]
        simp only [onV_val]
        refine ⟨_, rfl, trivial, ?_⟩
        refine lcR_map (xs := be3) rowD_inj (fun r => tripD (DL.dropK r)) (by omega) (fun r hr => ?_) ?_
        · simp [turnR, wSeq, wRet, wRetN, wIf, wAsg, wExp, wNil, wRaise, wSetF, wPut, wPar, wUnp, wCont, rVar, rC, rBin, rUn, rAnd, rOr, rNot, rAndT, rOrT, rNotT, rIfE, rNil, rCons, rTup, rLst, rCB, rFld, rDGet, rDIn, rCall, rMth, rMake, rDNew, rIs, rChain, startD, endD, onB, gNames, setAll, -List.lookup_eq_none_iff, -List.map_map, rSl, roNone, roSome, rowD, sliceF]
          exact trip31
        · simp only [onV_val]
          refine ⟨_, rfl, ?_⟩
          refine ⟨_, rfl, trivial, ?_⟩
          refine lcR_map (xs := be2) rowD_inj (fun r => tripD (DL.dropK r)) (by omega) (fun r hr => ?_) ?_
          · simp [turnR, wSeq, wRet, wRetN, wIf, wAsg, wExp, wNil, wRaise, wSetF, wPut, wPar, wUnp, wCont, rVar, rC, rBin, rUn, rAnd, rOr, rNot, rAndT, rOrT, rNotT, rIfE, rNil, rCons, rTup, rLst, rCB, rFld, rDGet, rDIn, rCall, rMth, rMake, rDNew, rIs, rChain, startD, endD, onB, gNames, setAll, -List.lookup_eq_none_iff, -List.map_map, rSl, roNone, roSome, rowD, sliceF]
            exact trip31
          · have f3 : (be3.map fun r => tripD (DL.dropK r)) = (be2.map DL.dropK).map tripD := by rw [← same, List.map_map]; rfl
            have f2 : (be2.map fun r => tripD (DL.dropK r)) = (be2.map DL.dropK).map tripD := by rw [List.map_map]; rfl
            simp only [onV_val]
            rw [f3, f2]
            refine ⟨_, neF_trips, ?_⟩
            simp [wSeq, wRet, wRetN, wIf, wAsg, wExp, wNil, wRaise, wSetF, wPut, wPar, wUnp, wCont, rVar, rC, rBin, rUn, rAnd, rOr, rNot, rAndT, rOrT, rNotT, rIfE, rNil, rCons, rTup, rLst, rCB, rFld, rDGet, rDIn, rCall, rMth, rMake, rDNew, rIs, rChain, startD, endD, onB, gNames, setAll, -List.lookup_eq_none_iff, -List.map_map]
      rintro e g16 ⟨rfl, rfl⟩
      by_cases q3 : h % 2 = 0
      · simp [wSeq, wRet, wRetN, wIf, wAsg, wExp, wNil, wRaise, wSetF, wPut, wPar, wUnp, wCont, rVar, rC, rBin, rUn, rAnd, rOr, rNot, rAndT, rOrT, rNotT, rIfE, rNil, rCons, rTup, rLst, rCB, rFld, rDGet, rDIn, rCall, rMth, rMake, rDNew, rIs, rChain, startD, endD, onB, gNames, setAll, -List.lookup_eq_none_iff, -List.map_map, modF_lit, q3, st.rd.hr]
        refine hear31 st (by omega) (by omega) sok fun g17 mu lmu st2 => ?_
        simp
        exact ⟨{ R3 with mu := mu }, hm3, st2, by show R3.fo.length ≤ _; omega, by show mu.length ≤ _; omega⟩
      · simp [wSeq, wRet, wRetN, wIf, wAsg, wExp, wNil, wRaise, wSetF, wPut, wPar, wUnp, wCont, rVar, rC, rBin, rUn, rAnd, rOr, rNot, rAndT, rOrT, rNotT, rIfE, rNil, rCons, rTup, rLst, rCB, rFld, rDGet, rDIn, rCall, rMth, rMake, rDNew, rIs, rChain, startD, endD, onB, gNames, setAll, -List.lookup_eq_none_iff, -List.map_map, modF_lit, q3]
        exact ⟨R3, hm3, st, by omega, by omega⟩
    · rintro e g7 ⟨R, hm, st, _, _, s10, s11, s12, s13, s14, s15, s16, rfl⟩
      exact ⟨R, hm, st, _, _, _, _, _, _, _, rfl⟩
  rintro e g7 ⟨R, hm, st, s10, s11, s12, s13, s14, s15, s16, rfl⟩
  have e1 : still = rowsU W ⟨R.m, -9, [], []⟩ W.keys 8 0 0 := by rw [hm, hstill]
  have sok : ∀ r ∈ still, PyData.strOk r.2.2.1 = true := by rw [hstill]; exact rowsU_ok
  simp [wSeq, wRet, wRetN, wIf, wAsg, wExp, wNil, wRaise, wSetF, wPut, wPar, wUnp, wCont, rVar, rC, rBin, rUn, rAnd, rOr, rNot, rAndT, rOrT, rNotT, rIfE, rNil, rCons, rTup, rLst, rCB, rFld, rDGet, rDIn, rCall, rMth, rMake, rDNew, rIs, rChain, startD, endD, onB, gNames, setAll, -List.lookup_eq_none_iff, -List.map_map, st.ro.hr]
  refine rows31o st ?_
  rw [← e1]
  simp [neF_rows sok]
  refine written31 st.wd wfa wr (by omega) (by omega) (by omega) ?_
  simp
  exact st.nl⟩
theorem law_at {w : World} {K : PySem.W.Frag} {mg : Str → Option Value} {fa : Addr} {h : Heap} (KX : K.In h) (G : h.Ns mainGlobals mg) (hmg : mg ("law" : Str) = some (.ref fa)) (c : He.SaysX Vw.fa fn [] tf exB w h K) : LamX.LawAtS PySem.Challenge.rw_votewood_k31_whole_all_seen w K (L2N.CX (PySem.Challenge.rw_votewood_k31_whole_all_seen).prog w) 40 63 "_law_script" mg fa h :=
  let Ft := facts_of KX G c
  law_atD (k := 39) (q := qt) KX c Ft.ex.nd Ft.d_law hmg sc_law (fun _ _ _ _ _ _ us hl => match us, hl with | [_], _ => rfl) (fun ns hl hb => ⟨ns, rfl, hl, ⟨fun _ => rfl, fun _ => rfl⟩, fun _ => rfl⟩) fun base tb => law_body Ft (tb ("_law_do", none) (by simp [tf]))

end Vw
open PySem PySem.W PySem.Calls PyProof.Rows
theorem PySem.Challenge.cw_votewood_k31_whole_all_seen_holds : PySem.Challenge.rw_votewood_k31_whole_all_seen.Holds := by
  w_on; o_law
  refine HandSHeadRun.head_any (r := OpenLaw.row PySem.Challenge.rw_votewood_k31_whole_all_seen) (q := Vw.qv) (H := Vw.hk) (ob := Vw.ob) (M := 6000) (loose := Vw.names) (d := HandSHeadRun.topDef (OpenLaw.row PySem.Challenge.rw_votewood_k31_whole_all_seen).prog 55) (kwd := []) Vw.ob_eq
    (by kernel_rfl) (fun s => by kernel_rfl) Vw.run (by kernel_rfl) (by kernel_rfl) (by kernel_rfl) (by rfl) (by first | assumption | decide +kernel) (by decide +kernel) ⟨rfl, rfl, rfl, rfl, rfl, by decide +kernel⟩ ?hw ?hc
  case hw => w_witness2
  case hc =>
    refine LamX.walk_ofTsE (l := PySem.Challenge.rw_votewood_k31_whole_all_seen) (n := 63) (k := 40) (x := "_law_script") (CX := fun w => L2N.CX (PySem.Challenge.rw_votewood_k31_whole_all_seen).prog w) rfl (by decide) (by kernel_rfl) ⟨rfl, by decide, by decide⟩ ?F (fun _ _ _ _ _ z => by obtain ⟨_, _, _, _, _, _, _, _, _, _, _, _, z⟩ := z; exact z)
    intro w mg fa h Y G hmg0
    obtain ⟨K, KX, c⟩ := Y
    have hmg : mg ("law" : PySem.Str) = some (.ref fa) := by
      have e : (HandSHeadRun.topDef (OpenLaw.row PySem.Challenge.rw_votewood_k31_whole_all_seen).prog 55).name = ("law" : PySem.Str) := by kernel_rfl
      rw [← e]
      exact hmg0
    exact ⟨K, KX, Vw.law_at KX G hmg c⟩
#print axioms PySem.Challenge.cw_votewood_k31_whole_all_seen_holds

