import PyProof.Rows.All
import Wide.All
import OpenK.AllK
import Wide.FinOn
import HandS.ForMost
import HandS.ForExc
import KE.KDictKeyed
import HandS.TupAny
import HandS.TupMul
import HandS.TupLe
import HandS.Wide
import HandS.Style
import HandS.Deep
import HandS.Flow
import HandS.Exc
import HandS.WordsExc
import HandS.Walk
import HandS.Zip
import HandS.IsInst
import HandS.RaiseMore
import HandS.WideBits
import HandS.WideMore
import PyProof.ReprRoads
import PyProof.ReprLen
import PyProof.Rows.RegStrFacts
import PyProof.Rows.NestShow
import HandS.HeadHook2
import HandS.Ends
import HandS.HeadEnd
import HandS.Head2
import HandS.HeadHook4
import KE.GoesMore
import PyProof.EnumMake
import PyProof.P3In
import HandS.Zip0
import HandS.SetFor
import HandS.SortInts
import HandS.Conv
import PySem.Challenge.RW_askedliars_k72_whole_partings_and_weight
set_option Elab.async false
set_option linter.all false
set_option maxRecDepth  100000
set_option maxHeartbeats 0
/-! EV1: values, cells, the ghost, relations -/
namespace EV
open PySem L2

/-- values: lists by value never change; obj n is the n-th cell -/
inductive D where
  | non | bl (b : Bool) | int (i : Int) | str (s : Str)
  | tup (ds : List D) | lst (ds : List D) | bor (ds : List D) | frz (ds : List D)
  | obj (n : Nat) | glob (i : Nat)
deriving Inhabited
/-- cells -/
inductive OB where
  | lst (ds : List D) | dic (kvs : List (D × D)) | ins (c : Nat) (fs : List (Str × D))
deriving Inhabited
/-- slots -/
inductive Sl where
  | no | val (d : D) | own (ds : List D)
deriving Inhabited
abbrev Cells := List OB
abbrev Ev := List Sl
structure Exc where
  cls : Nat
  fs : List (Str × D)
inductive R (α : Type) where
  | ok (a : α) (h : Cells) | exc (e : Exc) (h : Cells) | bad
def R.bind {α β : Type} (r : R α) (f : α → Cells → R β) : R β := match r with
  | .ok a h => f a h
  | .exc e h => .exc e h
  | .bad => .bad
abbrev Fns := Nat → List D → Cells → R D

/-- the ghost: where the cells stand, what may be written -/
structure Gh where
  K : PySem.W.Frag
  gA : Nat → Option Addr
  W : Addr → Prop
  ρ : List Addr

/-- a written list of the text -/
def SqK (K : PySem.W.Frag) (a : Addr) (xs : List V) : Prop :=
  ∃ (o : Obj) (its : Array Value) (n : Nat), K.lookup a = some o ∧ o.cls = .type "list" ∧ o.dict = none ∧ o.data = .seq its n ∧ its.size ≤ sizeLine ∧ Vals xs its.toList
def LstAt (g : Gh) (H : Hp) (a : Addr) (xs : List V) : Prop := H a = some (.lst xs) ∧ ¬ g.W a
def BorAt (g : Gh) (H : Hp) (a : Addr) (xs : List V) : Prop := H a = some (.lst xs) ∧ a ∉ g.ρ
def FrzAt (g : Gh) (H : Hp) (a : Addr) (xs : List V) : Prop := (∃ o, H a = some (.frz o (.lst xs))) ∨ SqK g.K a xs
theorem FrzAt.sql {g : Gh} {H : Hp} {a : Addr} {xs : List V} (h : FrzAt g H a xs) : SqL g.K H a xs := by
  rcases h with h | h
  · exact .inl (.inr h)
  · exact .inr h

mutual
def RelS (g : Gh) (H : Hp) : D → V → Prop
  | .non, v => v = .non
  | .bl b, v => v = .bl b
  | .int i, v => v = .int i
  | .str s, v => v = .str s
  | .tup ds, v => ∃ a xs, v = .ref a ∧ SqT g.K H a xs ∧ RelsS g H ds xs
  | .lst ds, v => ∃ a xs, v = .ref a ∧ LstAt g H a xs ∧ RelsS g H ds xs
  | .bor _, _ => False
  | .frz ds, v => ∃ a xs, v = .ref a ∧ FrzAt g H a xs ∧ RelsS g H ds xs
  | .obj n, v => ∃ a, v = .ref a ∧ g.ρ[n]? = some a
  | .glob i, v => ∃ a, v = .ref a ∧ g.gA i = some a
def RelsS (g : Gh) (H : Hp) : List D → List V → Prop
  | [], xs => xs = []
  | d :: ds, xs => ∃ x r, xs = x :: r ∧ RelS g H d x ∧ RelsS g H ds r
end
/-- a value on its way: a slot's own list may be read -/
def RelT (g : Gh) (H : Hp) (d : D) (v : V) : Prop := match d with
  | .bor ds => ∃ a xs, v = .ref a ∧ BorAt g H a xs ∧ RelsS g H ds xs
  | d => RelS g H d v
def RelsT (g : Gh) (H : Hp) : List D → List V → Prop
  | [], xs => xs = []
  | d :: ds, xs => ∃ x r, xs = x :: r ∧ RelT g H d x ∧ RelsT g H ds r
theorem RelS.t {g : Gh} {H : Hp} {d : D} {v : V} (h : RelS g H d v) : RelT g H d v := by
  cases d <;> first | exact h | (simp only [RelS] at h)
theorem RelsS.t {g : Gh} {H : Hp} : ∀ {ds : List D} {vs : List V}, RelsS g H ds vs → RelsT g H ds vs
  | [], _, h => by simpa [RelsS, RelsT] using h
  | _ :: _, _, h => by
    simp only [RelsS] at h
    obtain ⟨x, r, e, h1, h2⟩ := h
    exact ⟨x, r, e, h1.t, RelsS.t h2⟩

/-- how a key of a dict is told -/
def isBor : D → Bool
  | .bor _ => true
  | _ => false
theorem RelT.s {g : Gh} {H : Hp} {d : D} {v : V} (h : RelT g H d v) (n : isBor d = false) : RelS g H d v := by
  cases d <;> first | exact h | (simp [isBor] at n)

mutual
/-- a key by value -/
def D.key : D → Option NestedKey
  | .non => some NestedKey.none
  | .bl b => some (NestedKey.num (if b then 1 else 0))
  | .int i => some (NestedKey.num i)
  | .str s => some (NestedKey.text s)
  | .tup ds => (D.keys ds).map NestedKey.tup
  | _ => none
def D.keys : List D → Option (List NestedKey)
  | [] => some []
  | d :: ds => match D.key d, D.keys ds with
    | some k, some ks => some (k :: ks)
    | _, _ => none
end

/-- a key that is an int or a text -/
def keyD : Key → D
  | .inl i => .int i
  | .inr s => .str s
/-- the object of a dict whose keys are tuples -/
def dictAt (P : Program) (w : World) (a : Addr) (xs : List (NestedKey × Addr × Value)) : Heap → Prop := fun h =>
  ∃ o es ep, h.get? a = some o ∧ o.ExactDict ∧ o.data = .dict es ep ∧ es.toList = xs.map (entryOfKey (nestedKind P w))
inductive Dic (P : Program) (w : World) (g : Gh) (H : Hp) (a : Addr) (kvs : List (D × D)) : Prop where
  | k (xs : List (Key × V)) : H a = some (.dK xs) → Paired (fun (p : D × D) (q : Key × V) => p.1 = keyD q.1 ∧ RelS g H p.2 q.2) kvs xs → Dic P w g H a kvs
  | t (xs : List (NestedKey × Addr × Value)) : (a == sysModules) = false → xs.length ≤ sizeLine → (xs.map (·.1)).Nodup → H a = some (.ext (dictAt P w a xs)) →
      Paired (fun (p : D × D) (q : NestedKey × Addr × Value) => D.key p.1 = some q.1 ∧ q.1.depth ≤ 8 ∧ RelS g H p.1 (.ref q.2.1) ∧ ∃ v, RelV v q.2.2 ∧ RelS g H p.2 v) kvs xs → Dic P w g H a kvs
/-- a cell -/
def CellRel (P : Program) (w : World) (g : Gh) (H : Hp) (a : Addr) : OB → Prop
  | .lst ds => ∃ xs, H a = some (.lst xs) ∧ RelsS g H ds xs
  | .dic kvs => Dic P w g H a kvs
  | .ins c fs => ∃ C dx vs, g.gA c = some C ∧ H a = some (.ins C dx vs) ∧ Paired (fun (p : Str × D) (q : Str × V) => p.1 = q.1 ∧ RelS g H p.2 q.2) fs vs
structure HRel (P : Program) (w : World) (g : Gh) (H : Hp) (h : Cells) : Prop where
  len : g.ρ.length = h.length
  nd : g.ρ.Nodup
  wr : ∀ a ∈ g.ρ, g.W a
  wt : ∀ a u, g.W a → H a = some u → (∀ ys, u ≠ .tup ys) ∧ ∀ ob u', u ≠ .frz ob u'
  at_ : ∀ (n : Nat) a o, g.ρ[n]? = some a → h[n]? = some o → CellRel P w g H a o
/-- what changes while code runs -/
structure Ext (g : Gh) (H : Hp) (g' : Gh) (H' : Hp) : Prop where
  K : g'.K = g.K
  gA : g'.gA = g.gA
  pre : ∃ t, g'.ρ = g.ρ ++ t
  wn : ∀ a, g'.W a → g.W a ∨ H a = none
  wk : ∀ a, g.W a → g'.W a ∨ H a = none
  rw : ∀ a ∈ g'.ρ, g'.W a
  fr : ∀ a o, H a = some o → a ∉ g.ρ → H' a = some o
  nw : ∀ a ∈ g'.ρ, a ∉ g.ρ → H a = none

section
variable {P : Program} {w : World} {g g' g'' : Gh} {H H' H'' : Hp} {h h' : Cells}
theorem Dic.some {a : Addr} {kvs : List (D × D)} (x : Dic P w g H a kvs) : ∃ o, H a = some o ∧ (∀ ys, o ≠ .tup ys) ∧ ∀ ob u, o ≠ .frz ob u := by
  cases x with
  | k xs e _ => exact ⟨_, e, (fun ys z => by cases z), (fun _ _ z => by cases z)⟩
  | t xs _ _ _ e _ => exact ⟨_, e, (fun ys z => by cases z), (fun _ _ z => by cases z)⟩
theorem CellRel.some {a : Addr} {o : OB} (x : CellRel P w g H a o) : ∃ u, H a = some u ∧ (∀ ys, u ≠ .tup ys) ∧ ∀ ob u', u ≠ .frz ob u' := by
  cases o with
  | lst ds => obtain ⟨xs, e, _⟩ := x; exact ⟨_, e, (fun ys z => by cases z), (fun _ _ z => by cases z)⟩
  | dic kvs => exact Dic.some x
  | ins c fs => obtain ⟨C, dx, vs, _, e, _⟩ := x; exact ⟨_, e, (fun ys z => by cases z), (fun _ _ z => by cases z)⟩
theorem HRel.mem (r : HRel P w g H h) {a : Addr} (m : a ∈ g.ρ) : ∃ u, H a = some u ∧ (∀ ys, u ≠ .tup ys) ∧ ∀ ob u', u ≠ .frz ob u' := by
  obtain ⟨n, hn⟩ := List.mem_iff_getElem?.mp m
  have hl : n < h.length := by rw [← r.len]; exact (List.getElem?_eq_some_iff.mp hn).1
  exact (r.at_ n a h[n] hn (by simp [hl])).some
theorem Ext.refl (r : HRel P w g H h) : Ext g H g H := ⟨rfl, rfl, ⟨[], by simp⟩, fun _ z => .inl z, fun _ z => .inl z, r.wr, fun _ _ e _ => e, fun _ z n => absurd z n⟩
theorem Ext.mem (e : Ext g H g' H') {a : Addr} (m : a ∈ g.ρ) : a ∈ g'.ρ := by
  obtain ⟨t, z⟩ := e.pre
  rw [z]; exact List.mem_append_left _ m
theorem Ext.get (e : Ext g H g' H') {n : Nat} {a : Addr} (m : g.ρ[n]? = some a) : g'.ρ[n]? = some a := by
  obtain ⟨t, z⟩ := e.pre
  rw [z, List.getElem?_append_left (List.getElem?_eq_some_iff.mp m).1]; exact m
/-- what joined newer memory was not tracked before -/
theorem Ext.newρ (r : HRel P w g H h) (e : Ext g H g' H') {a : Addr} (m : a ∈ g'.ρ) : g.W a ∨ H a = none := e.wn a (e.rw a m)
theorem Ext.trans (a : Ext g H g' H') (b : Ext g' H' g'' H'') : Ext g H g'' H'' where
  K := b.K.trans a.K
  gA := b.gA.trans a.gA
  pre := by
    obtain ⟨t, z⟩ := a.pre
    obtain ⟨t', z'⟩ := b.pre
    exact ⟨t ++ t', by rw [z', z, List.append_assoc]⟩
  wn := fun x hx => by
    rcases b.wn x hx with z | z
    · exact a.wn x z
    · by_cases m : x ∈ g.ρ
      · have q := a.rw x (a.mem m)
        exact a.wn x q
      · cases q : H x with
        | none => exact .inr rfl
        | some o => rw [a.fr x o q m] at z; cases z
  wk := fun x hx => by
    rcases a.wk x hx with z | z
    · rcases b.wk x z with z | z
      · exact .inl z
      · by_cases m : x ∈ g.ρ
        · exact .inl (b.rw x (b.mem (a.mem m)))
        · cases q : H x with
          | none => exact .inr rfl
          | some o => rw [a.fr x o q m] at z; cases z
    · exact .inr z
  rw := b.rw
  fr := fun x o q m => by
    have q' := a.fr x o q m
    by_cases m' : x ∈ g'.ρ
    · have z := a.nw x m' m
      rw [q] at z; cases z
    · exact b.fr x o q' m'
  nw := fun x m n => by
    by_cases m' : x ∈ g'.ρ
    · exact a.nw x m' n
    · have z := b.nw x m m'
      cases q : H x with
      | none => rfl
      | some o => rw [a.fr x o q n] at z; cases z
/-- what changes while statements run: what may be written may be written -/
structure ExtS (g : Gh) (H : Hp) (g' : Gh) (H' : Hp) : Prop where
  K : g'.K = g.K
  gA : g'.gA = g.gA
  pre : ∃ t, g'.ρ = g.ρ ++ t
  wn : ∀ a, g'.W a → g.W a ∨ H a = none
  fr : ∀ a o, H a = some o → ¬ g.W a → H' a = some o
theorem Ext.s (r : HRel P w g H h) (e : Ext g H g' H') : ExtS g H g' H' := ⟨e.K, e.gA, e.pre, e.wn, fun a o q n => e.fr a o q fun m => n (r.wr a m)⟩
theorem ExtS.refl (g : Gh) (H : Hp) : ExtS g H g H := ⟨rfl, rfl, ⟨[], by simp⟩, fun _ z => .inl z, fun _ _ e _ => e⟩
theorem ExtS.trans (a : ExtS g H g' H') (b : ExtS g' H' g'' H'') : ExtS g H g'' H'' where
  K := b.K.trans a.K
  gA := b.gA.trans a.gA
  pre := by
    obtain ⟨t, z⟩ := a.pre
    obtain ⟨t', z'⟩ := b.pre
    exact ⟨t ++ t', by rw [z', z, List.append_assoc]⟩
  wn := fun x hx => by
    rcases b.wn x hx with z | z
    · exact a.wn x z
    · by_cases m : g.W x
      · exact .inl m
      · cases q : H x with
        | none => exact .inr rfl
        | some o => rw [a.fr x o q m] at z; cases z
  fr := fun x o q m => b.fr x o (a.fr x o q m) fun z => by
    rcases a.wn x z with z | z
    · exact m z
    · rw [q] at z; cases z
theorem ExtS.get (e : ExtS g H g' H') {n : Nat} {a : Addr} (m : g.ρ[n]? = some a) : g'.ρ[n]? = some a := by
  obtain ⟨t, z⟩ := e.pre
  rw [z, List.getElem?_append_left (List.getElem?_eq_some_iff.mp m).1]; exact m
theorem SqT.exts (r : HRel P w g H h) (e : ExtS g H g' H') {a : Addr} {xs : List V} (q : SqT g.K H a xs) : SqT g'.K H' a xs := by
  rcases q with q | ⟨o, its, n, q⟩
  · refine .inl ?_
    rcases q with q | ⟨o, q⟩
    · exact .inl (e.fr a _ q fun m => (r.wt a _ m q).1 xs rfl)
    · exact .inr ⟨o, e.fr a _ q fun m => (r.wt a _ m q).2 _ _ rfl⟩
  · exact .inr ⟨o, its, n, by rw [e.K]; exact q⟩
theorem LstAt.exts (e : ExtS g H g' H') {a : Addr} {xs : List V} (q : LstAt g H a xs) : LstAt g' H' a xs := by
  obtain ⟨q, n⟩ := q
  refine ⟨e.fr a _ q n, fun z => ?_⟩
  rcases e.wn a z with z | z
  · exact n z
  · rw [q] at z; cases z
theorem BorAt.ext (r : HRel P w g H h) (e : Ext g H g' H') {a : Addr} {xs : List V} (q : BorAt g H a xs) : BorAt g' H' a xs := by
  obtain ⟨q, n⟩ := q
  refine ⟨e.fr a _ q n, fun z => ?_⟩
  have z := e.nw a z n
  rw [q] at z; cases z
theorem FrzAt.exts (r : HRel P w g H h) (e : ExtS g H g' H') {a : Addr} {xs : List V} (q : FrzAt g H a xs) : FrzAt g' H' a xs := by
  rcases q with ⟨o, q⟩ | q
  · exact .inl ⟨o, e.fr a _ q fun m => (r.wt a _ m q).2 _ _ rfl⟩
  · exact .inr (by rw [e.K]; exact q)
mutual
theorem RelS.exts (r : HRel P w g H h) (e : ExtS g H g' H') : ∀ {d : D} {v : V}, RelS g H d v → RelS g' H' d v
  | .non, _, q | .bl _, _, q | .int _, _, q | .str _, _, q => by simpa only [RelS] using q
  | .tup ds, _, q => by
    simp only [RelS] at q ⊢
    obtain ⟨a, xs, e1, e2, e3⟩ := q
    exact ⟨a, xs, e1, SqT.exts r e e2, RelsS.exts r e e3⟩
  | .lst ds, _, q => by
    simp only [RelS] at q ⊢
    obtain ⟨a, xs, e1, e2, e3⟩ := q
    exact ⟨a, xs, e1, LstAt.exts e e2, RelsS.exts r e e3⟩
  | .bor _, _, q => by simp only [RelS] at q
  | .frz ds, _, q => by
    simp only [RelS] at q ⊢
    obtain ⟨a, xs, e1, e2, e3⟩ := q
    exact ⟨a, xs, e1, FrzAt.exts r e e2, RelsS.exts r e e3⟩
  | .obj n, _, q => by
    simp only [RelS] at q ⊢
    obtain ⟨a, e1, e2⟩ := q
    exact ⟨a, e1, e.get e2⟩
  | .glob i, _, q => by
    simp only [RelS] at q ⊢
    obtain ⟨a, e1, e2⟩ := q
    exact ⟨a, e1, by rw [e.gA]; exact e2⟩
theorem RelsS.exts (r : HRel P w g H h) (e : ExtS g H g' H') : ∀ {ds : List D} {vs : List V}, RelsS g H ds vs → RelsS g' H' ds vs
  | [], _, q => by simpa only [RelsS] using q
  | d :: ds, _, q => by
    simp only [RelsS] at q ⊢
    obtain ⟨x, rr, e1, e2, e3⟩ := q
    exact ⟨x, rr, e1, RelS.exts r e e2, RelsS.exts r e e3⟩
end
theorem RelS.ext (r : HRel P w g H h) (e : Ext g H g' H') {d : D} {v : V} (q : RelS g H d v) : RelS g' H' d v := RelS.exts r (e.s r) q
theorem RelsS.ext (r : HRel P w g H h) (e : Ext g H g' H') {ds : List D} {vs : List V} (q : RelsS g H ds vs) : RelsS g' H' ds vs := RelsS.exts r (e.s r) q
theorem RelT.ext (r : HRel P w g H h) (e : Ext g H g' H') {d : D} {v : V} (q : RelT g H d v) : RelT g' H' d v := by
  cases d with
  | bor ds =>
    obtain ⟨a, xs, e1, e2, e3⟩ := q
    exact ⟨a, xs, e1, BorAt.ext r e e2, RelsS.ext r e e3⟩
  | _ => exact RelS.ext r e (by exact q)
theorem RelsT.ext (r : HRel P w g H h) (e : Ext g H g' H') : ∀ {ds : List D} {vs : List V}, RelsT g H ds vs → RelsT g' H' ds vs
  | [], _, q => q
  | d :: ds, _, q => by
    obtain ⟨x, rr, e1, e2, e3⟩ := q
    exact ⟨x, rr, e1, RelT.ext r e e2, RelsT.ext r e e3⟩
theorem RelsS.len : ∀ {ds : List D} {vs : List V}, RelsS g H ds vs → ds.length = vs.length
  | [], _, q => by simp only [RelsS] at q; rw [q]; rfl
  | d :: ds, _, q => by
    simp only [RelsS] at q
    obtain ⟨x, rr, e1, _, e3⟩ := q
    rw [e1, List.length_cons, List.length_cons, RelsS.len e3]
theorem RelsS.get : ∀ {ds : List D} {vs : List V} {i : Nat} {d : D}, RelsS g H ds vs → ds[i]? = some d → ∃ v, vs[i]? = some v ∧ RelS g H d v
  | [], _, _, _, _, z => by simp at z
  | d :: ds, _, 0, _, q, z => by
    simp only [RelsS] at q
    obtain ⟨x, rr, e1, e2, e3⟩ := q
    simp at z; subst z
    exact ⟨x, by rw [e1]; rfl, e2⟩
  | d :: ds, _, i + 1, _, q, z => by
    simp only [RelsS] at q
    obtain ⟨x, rr, e1, e2, e3⟩ := q
    obtain ⟨v, h1, h2⟩ := RelsS.get (i := i) e3 (by simpa using z)
    exact ⟨v, by rw [e1]; simpa using h1, h2⟩
theorem RelsS.getV : ∀ {ds : List D} {vs : List V} {i : Nat} {v : V}, RelsS g H ds vs → vs[i]? = some v → ∃ d, ds[i]? = some d ∧ RelS g H d v
  | [], _, _, _, q, z => by simp only [RelsS] at q; rw [q] at z; simp at z
  | d :: ds, _, 0, _, q, z => by
    simp only [RelsS] at q
    obtain ⟨x, rr, e1, e2, e3⟩ := q
    rw [e1] at z
    simp at z; subst z
    exact ⟨d, rfl, e2⟩
  | d :: ds, _, i + 1, _, q, z => by
    simp only [RelsS] at q
    obtain ⟨x, rr, e1, e2, e3⟩ := q
    rw [e1] at z
    obtain ⟨d', h1, h2⟩ := RelsS.getV (i := i) e3 (by simpa using z)
    exact ⟨d', by simpa using h1, h2⟩
theorem RelsS.app : ∀ {ds es : List D} {vs us : List V}, RelsS g H ds vs → RelsS g H es us → RelsS g H (ds ++ es) (vs ++ us)
  | [], _, _, _, q, z => by simp only [RelsS] at q; rw [q]; exact z
  | d :: ds, _, _, _, q, z => by
    simp only [RelsS] at q
    obtain ⟨x, rr, e1, e2, e3⟩ := q
    rw [e1]
    exact ⟨x, _, rfl, e2, RelsS.app e3 z⟩
theorem RelsS.one {d : D} {v : V} (q : RelS g H d v) : RelsS g H [d] [v] := ⟨v, [], rfl, q, rfl⟩
theorem RelsS.set : ∀ {ds : List D} {vs : List V} {d : D} {v : V} (i : Nat), RelsS g H ds vs → RelS g H d v → RelsS g H (ds.set i d) (vs.set i v)
  | [], _, _, _, _, q, z => by simp only [RelsS] at q; rw [q]; exact rfl
  | _ :: ds, _, _, _, 0, q, z => by
    simp only [RelsS] at q
    obtain ⟨x, rr, e1, e2, e3⟩ := q
    rw [e1]
    exact ⟨_, rr, rfl, z, e3⟩
  | _ :: ds, _, _, _, i + 1, q, z => by
    simp only [RelsS] at q
    obtain ⟨x, rr, e1, e2, e3⟩ := q
    rw [e1]
    exact ⟨x, _, rfl, e2, RelsS.set i e3 z⟩
theorem RelsS.drop : ∀ {ds : List D} {vs : List V} (n : Nat), RelsS g H ds vs → RelsS g H (ds.drop n) (vs.drop n)
  | _, _, 0, q => q
  | [], _, n + 1, q => by simp only [RelsS] at q; rw [q]; exact rfl
  | _ :: _, _, n + 1, q => by
    simp only [RelsS] at q
    obtain ⟨x, rr, e1, e2, e3⟩ := q
    rw [e1]
    exact RelsS.drop n e3
theorem RelsS.take : ∀ {ds : List D} {vs : List V} (n : Nat), RelsS g H ds vs → RelsS g H (ds.take n) (vs.take n)
  | _, _, 0, q => by simp only [List.take_zero]; exact rfl
  | [], _, n + 1, q => by simp only [RelsS] at q; rw [q]; exact rfl
  | _ :: _, _, n + 1, q => by
    simp only [RelsS] at q
    obtain ⟨x, rr, e1, e2, e3⟩ := q
    rw [e1]
    exact ⟨x, _, rfl, e2, RelsS.take n e3⟩
end
end EV
/-! EV2: readings of the evaluator; names, constants, operators -/
namespace EV
open PySem L2

/-- what a slot holds -/
def SlRel (g : Gh) (own : Nat → Option Addr) (σ : L2.St) (H : Hp) (i : Nat) : Sl → Prop
  | .no => True
  | .val d => ∃ v, σ[i]? = some (some v) ∧ RelS g H d v
  | .own ds => ∃ a xs, own i = some a ∧ σ[i]? = some (some (.ref a)) ∧ H a = some (.lst xs) ∧ RelsS g H ds xs
structure LR (g : Gh) (own : Nat → Option Addr) (env : Ev) (σ : L2.St) (H : Hp) : Prop where
  len : env.length = σ.length
  inj : ∀ i j a, own i = some a → own j = some a → i = j
  ow : ∀ i a, own i = some a → g.W a ∧ a ∉ g.ρ ∧ ∃ o, H a = some o
  sl : ∀ i s, env[i]? = some s → SlRel g own σ H i s
/-- an exception in the air -/
def ExcRel (g : Gh) (H : Hp) (e : Exc) (cls : Value) (d : Option Addr) : Prop :=
  (∃ C, cls = .ref C ∧ g.gA e.cls = some C) ∧ ∃ p vs, d = some p ∧ H p = some (.xd vs) ∧ p ∉ g.ρ ∧ Paired (fun (x : Str × D) (y : Str × V) => x.1 = y.1 ∧ RelS g H x.2 y.2) e.fs vs
structure Gx where
  gA : Nat → Option Addr
  fns : Fns
  Wx : XK
def Post {α : Type} (X : Cx) (G : Gx) (g : Gh) (H : Hp) (r : R α) (K : Gh → Hp → α → Cells → Prop) : Prop := match r with
  | .ok a h' => ∀ g' H', Ext g H g' H' → HRel X.prog X.w g' H' h' → K g' H' a h'
  | .exc e h' => ∀ g' H' cls d, Ext g H g' H' → HRel X.prog X.w g' H' h' → ExcRel g' H' e cls d → G.Wx cls d H'
  | .bad => False
section
variable {α β : Type} {X : Cx} {G : Gx} {g g' : Gh} {H H' : Hp} {h h' : Cells}
theorem Post.mono {r : R α} {K : Gh → Hp → α → Cells → Prop} (p : Post X G g H r K) (e : Ext g H g' H') : Post X G g' H' r K := by
  cases r with
  | ok a h' => exact fun g2 H2 e2 r2 => p g2 H2 (e.trans e2) r2
  | exc x h' => exact fun g2 H2 c d e2 r2 q => p g2 H2 c d (e.trans e2) r2 q
  | bad => exact p
theorem Post.imp {r : R α} {K K' : Gh → Hp → α → Cells → Prop} (p : Post X G g H r K) (k : ∀ g' H' a h', Ext g H g' H' → HRel X.prog X.w g' H' h' → K g' H' a h' → K' g' H' a h') : Post X G g H r K' := by
  cases r with
  | ok a h' => exact fun g2 H2 e2 r2 => k g2 H2 a h' e2 r2 (p g2 H2 e2 r2)
  | exc x h' => exact p
  | bad => exact p
theorem Post.bind {r : R α} {f : α → Cells → R β} {K : Gh → Hp → β → Cells → Prop} (p : Post X G g H (r.bind f) K) : Post X G g H r fun g1 H1 a h1 => Post X G g1 H1 (f a h1) K := by
  cases r with
  | ok a h' => exact fun g2 H2 e2 r2 => Post.mono (show Post X G g H (f a h') K from p) e2
  | exc x h' => exact p
  | bad => exact p
theorem LR.step {own : Nat → Option Addr} {env : Ev} {σ : L2.St} (l : LR g own env σ H) (r : HRel X.prog X.w g H h) (e : Ext g H g' H') : LR g' own env σ H' where
  len := l.len
  inj := l.inj
  ow := fun i a z => by
    obtain ⟨h1, h2, o, h3⟩ := l.ow i a z
    refine ⟨?_, fun m => ?_, o, e.fr a o h3 h2⟩
    · rcases e.wk a h1 with q | q
      · exact q
      · rw [h3] at q; cases q
    · have q := e.nw a m h2
      rw [h3] at q; cases q
  sl := fun i s z => by
    have q := l.sl i s z
    cases s with
    | no => trivial
    | val d =>
      obtain ⟨v, h1, h2⟩ := q
      exact ⟨v, h1, RelS.ext r e h2⟩
    | own ds =>
      obtain ⟨a, xs, h1, h2, h3, h4⟩ := q
      exact ⟨a, xs, h1, h2, e.fr a _ h3 (l.ow i a h1).2.1, RelsS.ext r e h4⟩
/-- cells stay -/
theorem CellRel.exts {a : Addr} {o : OB} (x : CellRel X.prog X.w g H a o) (r : HRel X.prog X.w g H h) (e : ExtS g H g' H') (ea : H' a = H a) : CellRel X.prog X.w g' H' a o := by
  cases o with
  | lst ds =>
    obtain ⟨xs, h1, h2⟩ := x
    exact ⟨xs, by rw [ea]; exact h1, RelsS.exts r e h2⟩
  | dic kvs =>
    cases (show Dic _ _ _ _ _ _ from x) with
    | k xs h1 h2 => exact Dic.k xs (by rw [ea]; exact h1) (Paired.mapP h2 fun _ _ z => ⟨z.1, RelS.exts r e z.2⟩)
    | t xs h1 h2 h3 h4 h5 => exact Dic.t xs h1 h2 h3 (by rw [ea]; exact h4) (Paired.mapP h5 fun _ _ z => ⟨z.1, z.2.1, RelS.exts r e z.2.2.1, let ⟨v, z1, z2⟩ := z.2.2.2; ⟨v, z1, RelS.exts r e z2⟩⟩)
  | ins c fs =>
    obtain ⟨C, dx, vs, h1, h2, h3⟩ := x
    exact ⟨C, dx, vs, by rw [e.gA]; exact h1, by rw [ea]; exact h2, Paired.mapP h3 fun _ _ z => ⟨z.1, RelS.exts r e z.2⟩⟩
theorem CellRel.ext {a : Addr} {o : OB} (x : CellRel X.prog X.w g H a o) (r : HRel X.prog X.w g H h) (e : Ext g H g' H') (ea : H' a = H a) : CellRel X.prog X.w g' H' a o := x.exts r (e.s r) ea
/-- all cells stand, something else changed -/
theorem HRel.ext (r : HRel X.prog X.w g H h) (e : Ext g H g' H') (eρ : g'.ρ = g.ρ) (ea : ∀ a ∈ g.ρ, H' a = H a) (ew : ∀ a, g'.W a → H' a = H a) : HRel X.prog X.w g' H' h where
  len := by rw [eρ]; exact r.len
  nd := by rw [eρ]; exact r.nd
  wr := e.rw
  wt := fun a u h1 h2 => by
    rcases e.wn a h1 with z | z
    · exact r.wt a u z (by rw [← ew a h1]; exact h2)
    · rw [ew a h1, z] at h2; cases h2
  at_ := fun n a o h1 h2 => by
    rw [eρ] at h1
    exact (r.at_ n a o h1 h2).ext r e (ea a (List.mem_of_getElem? h1))
/-- the ghost with p out of what may be written -/
def Gh.less (g : Gh) (p : Addr) : Gh := { g with W := fun a => g.W a ∧ a ≠ p }
theorem Ext.new (r : HRel X.prog X.w g H h) {p : Addr} {o : HO} (hp : H p = none) : Ext g H (g.less p) (upd H p o) where
  K := rfl
  gA := rfl
  pre := ⟨[], by simp [Gh.less]⟩
  wn := fun a z => .inl z.1
  wk := fun a z => by
    by_cases q : a = p
    · exact .inr (q ▸ hp)
    · exact .inl ⟨z, q⟩
  rw := fun a m => ⟨r.wr a m, fun q => by
    obtain ⟨u, hu, _⟩ := r.mem m
    rw [q, hp] at hu; cases hu⟩
  fr := fun a u z _ => by rw [upd_ne (ne_of_none z hp)]; exact z
  nw := fun a m n => absurd m n
theorem HRel.new (r : HRel X.prog X.w g H h) {p : Addr} {o : HO} (hp : H p = none) : HRel X.prog X.w (g.less p) (upd H p o) h :=
  r.ext (Ext.new r hp) rfl (fun a m => by
    obtain ⟨u, hu, _⟩ := r.mem m
    exact upd_ne (ne_of_none hu hp)) fun a z => upd_ne z.2
/-- a new list by value, a new tuple -/
theorem RelS.newL (r : HRel X.prog X.w g H h) {p : Addr} {xs : List V} {ds : List D} (hp : H p = none) (q : RelsS g H ds xs) : RelS (g.less p) (upd H p (.lst xs)) (.lst ds) (.ref p) :=
  ⟨p, xs, rfl, ⟨upd_same, fun z => z.2 rfl⟩, RelsS.ext r (Ext.new r hp) q⟩
theorem RelS.newT (r : HRel X.prog X.w g H h) {p : Addr} {xs : List V} {ds : List D} (hp : H p = none) (q : RelsS g H ds xs) : RelS (g.less p) (upd H p (.tup xs)) (.tup ds) (.ref p) :=
  ⟨p, xs, rfl, .inl (.inl upd_same), RelsS.ext r (Ext.new r hp) q⟩
end

/-! ### readings -/
structure GOk (X : Cx) (G : Gx) (g : Gh) : Prop where
  K : g.K = X.K
  gA : g.gA = G.gA
theorem GOk.ext {X : Cx} {G : Gx} {g g' : Gh} {H H' : Hp} (o : GOk X G g) (e : Ext g H g' H') : GOk X G g' := ⟨e.K.trans o.K, e.gA.trans o.gA⟩
abbrev DE := Fns → Ev → Cells → R D
abbrev DT := Fns → Ev → Cells → R Bool
abbrev DA := Fns → Ev → Cells → R (List D)
/-- what an evaluation reads as: α told by Rel -/
def tG {α β : Type} (Rel : Gh → Hp → α → β → Prop) (X : Cx) (G : Gx) (de : Fns → Ev → Cells → R α) : L2.St → Hp → (β → Hp → Prop) → Prop := fun σ H Q =>
  ∃ g own env h, GOk X G g ∧ HRel X.prog X.w g H h ∧ LR g own env σ H ∧ Post X G g H (de G.fns env h) fun g' H' d _ => ∀ v, Rel g' H' d v → Q v H'
abbrev tD (X : Cx) (G : Gx) (de : DE) : TE := tG RelT X G de
abbrev tT (X : Cx) (G : Gx) (de : DT) : TT := tG (fun _ _ b v => v = b) X G de
abbrev tA (X : Cx) (G : Gx) (de : DA) : TA := tG RelsT X G de
theorem PE.imp {X : Cx} {e : Expr} {t t' : TE} (h : PE X e t) (k : ∀ σ H Q, t' σ H Q → t σ H Q) : PE X e t' := ⟨fun pins s σ H Q I q => h.run pins s σ H Q I (k σ H Q q)⟩
theorem PT.imp {X : Cx} {e : Expr} {t t' : TT} (h : PT X e t) (k : ∀ σ H Q, t' σ H Q → t σ H Q) : PT X e t' := ⟨fun pins s σ H Q I q => h.run pins s σ H Q I (k σ H Q q)⟩
theorem PW.imp {X : Cx} {e : Expr} {t t' : TT} (h : PW X e t) (k : ∀ σ H Q, t' σ H Q → t σ H Q) : PW X e t' := ⟨fun wh pins s σ H Q I q => h.run wh pins s σ H Q I (k σ H Q q)⟩
theorem PA.imp {X : Cx} {e : List Expr} {t t' : TA} (h : PA X e t) (k : ∀ σ H Q, t' σ H Q → t σ H Q) : PA X e t' := ⟨fun pos pins s σ H Q I q => h.run pos pins s σ H Q I (k σ H Q q)⟩
theorem PS.imp {X : Cx} {e : Stmt} {t t' : TS} (h : PS X e t) (k : ∀ D σ H, t' D σ H → t D σ H) : PS X e t' := ⟨fun pins s σ H D I q => h.run pins s σ H D I (k D σ H q)⟩
theorem PSs.imp {X : Cx} {e : List Stmt} {t t' : TS} (h : PSs X e t) (k : ∀ D σ H, t' D σ H → t D σ H) : PSs X e t' := ⟨fun pins s σ H D I q => h.run pins s σ H D I (k D σ H q)⟩

section
variable {X : Cx} {G : Gx}
/-- first de, then what follows on the value -/
theorem tG.bind {α β α' β' : Type} {Rel : Gh → Hp → α → β → Prop} {Rel' : Gh → Hp → α' → β' → Prop} {de : Fns → Ev → Cells → R α} {f : Fns → Ev → α → Cells → R α'} {σ : L2.St} {H : Hp} {Q : β' → Hp → Prop} {T : β → Hp → Prop}
    (p : tG Rel' X G (fun fn env h => (de fn env h).bind fun a h1 => f fn env a h1) σ H Q)
    (k : ∀ g own env h H1 a v, GOk X G g → HRel X.prog X.w g H1 h → LR g own env σ H1 → Rel g H1 a v → Post X G g H1 (f G.fns env a h) (fun g' H' d _ => ∀ v, Rel' g' H' d v → Q v H') → T v H1) : tG Rel X G de σ H T := by
  obtain ⟨g, own, env, h, o, r, l, p⟩ := p
  refine ⟨g, own, env, h, o, r, l, (Post.bind p).imp fun g1 H1 a h1 e1 r1 p1 v q => ?_⟩
  exact k g1 own env h1 H1 a v (o.ext e1) r1 (l.step r e1) q p1
/-- behind the first: the value stays told -/
theorem tG.mk {α β : Type} {Rel : Gh → Hp → α → β → Prop} {de : Fns → Ev → Cells → R α} {g : Gh} {own : Nat → Option Addr} {env : Ev} {h : Cells} {σ : L2.St} {H : Hp} {Q : β → Hp → Prop} (o : GOk X G g) (r : HRel X.prog X.w g H h) (l : LR g own env σ H)
    (p : Post X G g H (de G.fns env h) fun g' H' d _ => ∀ v, Rel g' H' d v → Q v H') : tG Rel X G de σ H Q := ⟨g, own, env, h, o, r, l, p⟩

/-! ### names, constants -/
def dC (d : D) : DE := fun _ _ h => .ok d h
def dVar (i : Nat) : DE := fun _ env h => match env[i]? with
  | some (.val d) => .ok d h
  | some (.own ds) => .ok (.bor ds) h
  | _ => .bad
theorem Post.now {α : Type} {g : Gh} {H : Hp} {h : Cells} {a : α} {K : Gh → Hp → α → Cells → Prop} (r : HRel X.prog X.w g H h) (p : Post X G g H (.ok a h) K) : K g H a h := p g H (Ext.refl r) r
theorem tG.c {d : D} {v : V} {σ : L2.St} {H : Hp} {Q : VK} (p : tD X G (dC d) σ H Q) (k : ∀ g, GOk X G g → RelT g H d v) : Q v H := by
  obtain ⟨g, own, env, h, o, r, l, p⟩ := p
  exact Post.now r p v (k g o)
theorem s_var {i : Nat} {x : Str} {pos : Pos} (hN : X.N[i]? = some x) (hv : Vis X.env.scope x) (hd : (x == ("__debug__" : Str)) = false) (hcd : (x == ("__classdict__" : Str)) = false) : PE X (.Name x pos) (tD X G (dVar i)) := by
  refine PE.imp (pe_var hN hv hd hcd) fun σ H Q ⟨g, own, env, h, o, r, l, p⟩ => ?_
  unfold dVar at p
  cases e : env[i]? with
  | none => rw [e] at p; exact p.elim
  | some s =>
    rw [e] at p
    have q := l.sl i s e
    cases s with
    | no => exact p.elim
    | val d =>
      obtain ⟨v, h1, h2⟩ := q
      exact ⟨v, h1, Post.now r p v h2.t⟩
    | own ds =>
      obtain ⟨a, xs, h1, h2, h3, h4⟩ := q
      exact ⟨_, h2, Post.now r p _ ⟨a, xs, rfl, ⟨h3, (l.ow i a h1).2.1⟩, h4⟩⟩
theorem s_int {i : Int} {j : Nat} {pos : Pos} : PE X (.Constant (.int i) j pos) (tD X G (dC (.int i))) := PE.imp pe_int fun _ _ _ p => p.c fun _ _ => rfl
theorem s_bl {b : Bool} {j : Nat} {pos : Pos} : PE X (.Constant (.bool b) j pos) (tD X G (dC (.bl b))) := PE.imp pe_bl fun _ _ _ p => p.c fun _ _ => rfl
theorem s_non {j : Nat} {pos : Pos} : PE X (.Constant .none j pos) (tD X G (dC .non)) := PE.imp pe_non fun _ _ _ p => p.c fun _ _ => rfl
theorem s_str {x : Str} {j : Nat} {pos : Pos} : PE X (.Constant (.str x) j pos) (tD X G (dC (.str x))) := PE.imp pe_str fun _ _ _ p => p.c fun _ _ => rfl
/-- a global name whose value is known -/
theorem s_glob {x : Str} {d : D} {v : V} {u : Value} {pos : Pos} (hg : Gl X x) (hm : X.mg x = some u) (r : RelV v u) (hd : (x == ("__debug__" : Str)) = false) (k : ∀ g H, GOk X G g → RelS g H d v) : PE X (.Name x pos) (tD X G (dC d)) :=
  PE.imp (pe_glob hg hm r hd) fun _ _ _ p => p.c fun g o => (k g _ o).t

/-! ### operations on values -/
abbrev O1 := D → Cells → R D
abbrev O2 := D → D → Cells → R D
abbrev ON := List D → Cells → R D
def rO1 (X : Cx) (G : Gx) (o : O1) : V → Hp → VK → Prop := fun x H Q => ∃ g h d, GOk X G g ∧ HRel X.prog X.w g H h ∧ RelT g H d x ∧ Post X G g H (o d h) fun g' H' r _ => ∀ v, RelT g' H' r v → Q v H'
def rO2 (X : Cx) (G : Gx) (o : O2) : R2 := fun x y H Q => ∃ g h d e, GOk X G g ∧ HRel X.prog X.w g H h ∧ RelT g H d x ∧ RelT g H e y ∧ Post X G g H (o d e h) fun g' H' r _ => ∀ v, RelT g' H' r v → Q v H'
def rON (X : Cx) (G : Gx) (o : ON) : List V → Hp → VK → Prop := fun xs H Q => ∃ g h ds, GOk X G g ∧ HRel X.prog X.w g H h ∧ RelsT g H ds xs ∧ Post X G g H (o ds h) fun g' H' r _ => ∀ v, RelT g' H' r v → Q v H'
def dOp1 (o : O1) (a : DE) : DE := fun fn env h => (a fn env h).bind fun x h1 => o x h1
def dOp2 (o : O2) (a b : DE) : DE := fun fn env h => (a fn env h).bind fun x h1 => (b fn env h1).bind fun y h2 => o x y h2
def dOpN (o : ON) (a : DA) : DE := fun fn env h => (a fn env h).bind fun xs h1 => o xs h1
variable {a b e : Expr} {da db : DE} {pos : Pos}
theorem tOp2 {o : O2} {σ : L2.St} {H : Hp} {Q : VK} (p : tD X G (dOp2 o da db) σ H Q) : tOp (rO2 X G o) (tD X G da) (tD X G db) σ H Q := by
  refine tG.bind (f := fun fn env x h1 => (db fn env h1).bind fun y h2 => o x y h2) p fun g own env h H1 d v og r l q p1 => ?_
  refine tG.mk og r l ((Post.bind p1).imp fun g2 H2 d2 h2 e2 r2 p2 v2 q2 => ?_)
  exact ⟨g2, h2, d, d2, og.ext e2, r2, RelT.ext r e2 q, q2, p2⟩
theorem tOp1 {o : O1} {σ : L2.St} {H : Hp} {Q : VK} (p : tD X G (dOp1 o da) σ H Q) : tUn (rO1 X G o) (tD X G da) σ H Q :=
  tG.bind (f := fun fn env x h1 => o x h1) p fun g own env h H1 d v og r l q p1 => ⟨g, h, d, og, r, q, p1⟩
theorem s_bin {op : Operator} {o : O2} (ho : OpR X (binaryOp op) (rO2 X G o)) (ha : PE X a (tD X G da)) (hb : PE X b (tD X G db)) : PE X (.BinOp a op b pos) (tD X G (dOp2 o da db)) :=
  PE.imp (pe_op ho ha hb) fun _ _ _ p => tOp2 p
theorem s_un {op : UnaryOp} {o : O1} (ho : UnR X (unaryOp op) (rO1 X G o)) (ha : PE X a (tD X G da)) : PE X (.UnaryOp op a pos) (tD X G (dOp1 o da)) :=
  PE.imp (pe_un ho ha) fun _ _ _ p => tOp1 p
theorem s_cmp {op : CmpOp} {o : O2} (ho : OpR X (compareOp op) (rO2 X G o)) (ha : PE X a (tD X G da)) (hb : PE X b (tD X G db)) (hm : behindInMarks op b = false) : PE X (.Compare a [op] [b] pos) (tD X G (dOp2 o da db)) :=
  PE.imp (pe_cmpR ho ha hb hm) fun _ _ _ p => tOp2 p
/-- a value as a test's answer -/
def asB (r : R D) : R Bool := r.bind fun d h => match d with
  | .bl b => .ok b h
  | _ => .bad
theorem tB_of {de : DE} {σ : L2.St} {H : Hp} {Q : Bool → Hp → Prop} (p : tT X G (fun fn env h => asB (de fn env h)) σ H Q) : tD X G de σ H (fun x H' => ∃ k, x = .bl k ∧ Q k H') := by
  refine tG.bind (f := fun fn env d h => match d with
    | .bl b => .ok b h
    | _ => .bad) p fun g own env h H1 d v og r l q p1 => ?_
  cases d <;> first
    | exact p1.elim
    | exact ⟨_, q, Post.now r p1 _ rfl⟩
theorem s_cmpT {op : CmpOp} {o : O2} (ho : OpR X (compareOp op) (rO2 X G o)) (ha : PE X a (tD X G da)) (hb : PE X b (tD X G db)) (hm : behindInMarks op b = false) : PT X (.Compare a [op] [b] pos) (tT X G fun fn env h => asB (dOp2 o da db fn env h)) :=
  PT.imp (pt_cmpR ho ha hb hm) fun _ _ _ p => by
    obtain ⟨g, own, env, h, og, r, l, q⟩ := tB_of p
    exact tOp2 ⟨g, own, env, h, og, r, l, q⟩
end
end EV
/-! EV3: operations on values -/
namespace EV
open PySem L2

section
open PySem.Spec PyProof.Rows
theorem tmul_none (l : Addr) (items : Array Value) (n : Nat) (dd : Option Addr) (sl : Array (Option Value)) (x : Int) (u : Tok) (e0 : (decide (x < -(2 ^ 63)) || decide (x ≥ 2 ^ 63)) = false)
    (e1 : (items.isEmpty || x == 1) = false) (e2 : (decide (x ≤ 0) || items.isEmpty) = true) :
    Meets (Builtin.«tuple.__mul__» ⟨[.ref l, .int x u], []⟩) (fun _ R s => s.heap.get? l = some { cls := .type "tuple", dict := dd, data := .seq items n, slots := sl } ∧
      R (.ok (.ret (Value.ref s.heap.objs.size))) { s with heap := s.heap.push { cls := Value.type "tuple", data := Data.seq #[] }, toks := s.toks }) :=
  .of_wp fun prog w A R s h => by
    obtain ⟨hp, g, d, tk, os⟩ := s
    obtain ⟨hl, h⟩ := h
    have f1 := AutoSeq1.idx_int
    wp_walk using wpAny_loadPart' hl
    repeat (first
      | (refine wpAny_ite_false (decide_eq_false (by rw [e0]; exact Bool.false_ne_true)) ?_; wp_walk using wpAny_loadPart' hl)
      | (refine wpAny_ite_false (decide_eq_false (by rw [e1]; exact Bool.false_ne_true)) ?_; wp_walk using wpAny_loadPart' hl)
      | (refine wpAny_ite_true (decide_eq_true e2) ?_; wp_walk using wpAny_loadPart' hl)
      | (refine wpAny_ite_false (decide_eq_false (by decide)) ?_; wp_walk using wpAny_loadPart' hl))
    all_goals exact ⟨_, rfl, h⟩
theorem tmul_same (l : Addr) (items : Array Value) (n : Nat) (dd : Option Addr) (sl : Array (Option Value)) (x : Int) (u : Tok) (e0 : (decide (x < -(2 ^ 63)) || decide (x ≥ 2 ^ 63)) = false)
    (e1 : (items.isEmpty || x == 1) = true) :
    Meets (Builtin.«tuple.__mul__» ⟨[.ref l, .int x u], []⟩) (fun _ R s => s.heap.get? l = some { cls := .type "tuple", dict := dd, data := .seq items n, slots := sl } ∧
      R (.ok (.ret (Value.ref l))) s) :=
  .of_wp fun prog w A R s h => by
    obtain ⟨hp, g, d, tk, os⟩ := s
    obtain ⟨hl, h⟩ := h
    have f1 := AutoSeq1.idx_int
    wp_walk using wpAny_loadPart' hl
    repeat (first
      | (refine wpAny_ite_false (decide_eq_false (by rw [e0]; exact Bool.false_ne_true)) ?_; wp_walk using wpAny_loadPart' hl)
      | (refine wpAny_ite_true (decide_eq_true e1) ?_; wp_walk using wpAny_loadPart' hl))
    all_goals exact ⟨_, rfl, h⟩
end
/-- what is a list now -/
def seqL (h : Cells) : D → Option (List D)
  | .lst ds => some ds
  | .bor ds => some ds
  | .frz ds => some ds
  | .obj n => match h[n]? with
    | some (.lst ds) => some ds
    | _ => none
  | _ => none
def seqM (h : Cells) : D → Option (List D)
  | .lst ds => some ds
  | .bor ds => some ds
  | .obj n => match h[n]? with
    | some (.lst ds) => some ds
    | _ => none
  | _ => none
section
variable {X : Cx} {G : Gx} {g : Gh} {H : Hp} {h : Cells}
theorem cell_at (r : HRel X.prog X.w g H h) {n : Nat} {v : V} {o : OB} (q : RelT g H (.obj n) v) (e : h[n]? = some o) : ∃ a, v = .ref a ∧ g.ρ[n]? = some a ∧ CellRel X.prog X.w g H a o := by
  obtain ⟨a, e1, e2⟩ := q
  exact ⟨a, e1, e2, r.at_ n a o e2 e⟩
theorem seqM_ok (r : HRel X.prog X.w g H h) {d : D} {v : V} {ds : List D} (q : RelT g H d v) (e : seqM h d = some ds) : ∃ a xs, v = .ref a ∧ H a = some (.lst xs) ∧ RelsS g H ds xs := by
  cases d with
  | lst es =>
    cases e
    obtain ⟨a, xs, h1, h2, h3⟩ := q
    exact ⟨a, xs, h1, h2.1, h3⟩
  | bor es =>
    cases e
    obtain ⟨a, xs, h1, h2, h3⟩ := q
    exact ⟨a, xs, h1, h2.1, h3⟩
  | obj n =>
    unfold seqM at e
    dsimp only at e
    split at e
    · rename_i es z
      cases e
      obtain ⟨a, h1, _, xs, h2, h3⟩ := cell_at r q z
      exact ⟨a, xs, h1, h2, h3⟩
    · cases e
  | _ => cases e
theorem seqL_ok (og : GOk X G g) (r : HRel X.prog X.w g H h) {d : D} {v : V} {ds : List D} (q : RelT g H d v) (e : seqL h d = some ds) : ∃ a xs, v = .ref a ∧ SqL X.K H a xs ∧ RelsS g H ds xs := by
  cases d with
  | frz es =>
    cases e
    obtain ⟨a, xs, h1, h2, h3⟩ := q
    exact ⟨a, xs, h1, by rw [← og.K]; exact h2.sql, h3⟩
  | lst es =>
    obtain ⟨a, xs, h1, h2, h3⟩ := seqM_ok r q (show seqM h (.lst es) = some ds from e)
    exact ⟨a, xs, h1, .inl (.inl h2), h3⟩
  | bor es =>
    obtain ⟨a, xs, h1, h2, h3⟩ := seqM_ok r q (show seqM h (.bor es) = some ds from e)
    exact ⟨a, xs, h1, .inl (.inl h2), h3⟩
  | obj n =>
    obtain ⟨a, xs, h1, h2, h3⟩ := seqM_ok r q (show seqM h (.obj n) = some ds from e)
    exact ⟨a, xs, h1, .inl (.inl h2), h3⟩
  | _ => cases e
theorem tup_ok (og : GOk X G g) {v : V} {ds : List D} (q : RelT g H (.tup ds) v) : ∃ a xs, v = .ref a ∧ SqT X.K H a xs ∧ RelsS g H ds xs := by
  obtain ⟨a, xs, h1, h2, h3⟩ := q
  exact ⟨a, xs, h1, by rw [← og.K]; exact h2, h3⟩
/-- what follows a new tuple, a new list -/
theorem Post.newT {K : Gh → Hp → D → Cells → Prop} (r : HRel X.prog X.w g H h) {ds : List D} {xs : List V} (q : RelsS g H ds xs) {Q : VK}
    (p : Post X G g H (.ok (.tup ds) h) fun g' H' r _ => ∀ v, RelT g' H' r v → Q v H') : ∀ a, H a = none → Q (.ref a) (upd H a (.tup xs)) := fun a ha =>
  p _ _ (Ext.new r ha) (r.new ha) _ (RelS.newT r ha q)
theorem Post.newL (r : HRel X.prog X.w g H h) {ds : List D} {xs : List V} (q : RelsS g H ds xs) {Q : VK}
    (p : Post X G g H (.ok (.lst ds) h) fun g' H' r _ => ∀ v, RelT g' H' r v → Q v H') : ∀ a, H a = none → Q (.ref a) (upd H a (.lst xs)) := fun a ha =>
  p _ _ (Ext.new r ha) (r.new ha) _ (RelS.newL r ha q)
theorem Post.val {d : D} {v : V} (r : HRel X.prog X.w g H h) (q : RelT g H d v) {Q : VK}
    (p : Post X G g H (.ok d h) fun g' H' r _ => ∀ v, RelT g' H' r v → Q v H') : Q v H := Post.now r p v q
def isSc : D → V → Bool
  | .int i, .int j => decide (i = j)
  | .bl a, .bl b => decide (a = b)
  | .str a, .str b => decide (a = b)
  | .non, .non => true
  | _, _ => false
theorem Post.int {i : Int} (r : HRel X.prog X.w g H h) {Q : VK} (p : Post X G g H (.ok (.int i) h) fun g' H' r _ => ∀ v, RelT g' H' r v → Q v H') : Q (.int i) H := Post.now r p _ rfl
theorem Post.bl {i : Bool} (r : HRel X.prog X.w g H h) {Q : VK} (p : Post X G g H (.ok (.bl i) h) fun g' H' r _ => ∀ v, RelT g' H' r v → Q v H') : Q (.bl i) H := Post.now r p _ rfl
theorem Post.str {i : Str} (r : HRel X.prog X.w g H h) {Q : VK} (p : Post X G g H (.ok (.str i) h) fun g' H' r _ => ∀ v, RelT g' H' r v → Q v H') : Q (.str i) H := Post.now r p _ rfl
theorem Post.non (r : HRel X.prog X.w g H h) {Q : VK} (p : Post X G g H (.ok .non h) fun g' H' r _ => ∀ v, RelT g' H' r v → Q v H') : Q .non H := Post.now r p _ rfl
end

/-! ### arithmetic -/
abbrev szL : Nat := 16777216
def dAdd : O2 := fun x y h => match x, y with
  | .int i, .int j => .ok (.int (i + j)) h
  | .str s, .str t => if s.length + t.length ≤ szL then .ok (.str (s ++ t)) h else .bad
  | .tup a, .tup b => if a.length + b.length ≤ szL then .ok (.tup (a ++ b)) h else .bad
  | x, y => match seqM h x, seqM h y with
    | some a, some b => if a.length + b.length ≤ szL then .ok (.lst (a ++ b)) h else .bad
    | _, _ => .bad
def dSub : O2 := fun x y h => match x, y with
  | .int i, .int j => .ok (.int (i - j)) h
  | _, _ => .bad
def small64 (i : Int) : Bool := decide (-(2 ^ 64) < i) && decide (i < 2 ^ 64)
def reps {α : Type} (k : Nat) (xs : List α) : List α := (List.replicate k xs).flatten
def dMul : O2 := fun x y h => match x, y with
  | .int i, .int j => if small64 i || small64 j then .ok (.int (i * j)) h else .bad
  | .tup a, .int k => if a.isEmpty then .bad else if 2 ≤ k && decide (k ≤ 1000) && decide (a.length ≤ 1000) then .ok (.tup (reps k.toNat a)) h else
      if k = 1 then .ok (.tup a) h else if decide (k ≤ 0) && decide (-1000 ≤ k) then .ok (.tup []) h else .bad
  | x, .int k => match seqM h x with
    | some a => if decide (-1000000 ≤ k) && decide (k ≤ 1000000) && decide (a.length * k.toNat ≤ szL) then .ok (.lst (reps k.toNat a)) h else .bad
    | none => .bad
  | _, _ => .bad
def dFdiv : O2 := fun x y h => match x, y with
  | .int i, .int j => if decide (0 < j) && decide (j < 1073741824) then .ok (.int (i / j)) h else .bad
  | _, _ => .bad
def dMod : O2 := fun x y h => match x, y with
  | .int i, .int j => if 0 < j then .ok (.int (i % j)) h else .bad
  | _, _ => .bad
def dPow : O2 := fun x y h => match x, y with
  | .int i, .int j => if decide (0 ≤ j) && decide (j ≤ 1000000) && decide (i.natAbs < 2 ^ 64) then .ok (.int (i ^ j.toNat)) h else .bad
  | _, _ => .bad
def dNeg : O1 := fun x h => match x with
  | .int i => .ok (.int (-i)) h
  | _ => .bad
section
variable {X : Cx} {G : Gx}
theorem lineE : sizeLine = 16777216 := sizeLine_eq
theorem RelsS.nil_iff {g : Gh} {H : Hp} {ds : List D} {xs : List V} (q : RelsS g H ds xs) : ds = [] ↔ xs = [] := by
  have e := q.len
  constructor
  · intro z; subst z; exact List.length_eq_zero_iff.mp e.symm
  · intro z; subst z; exact List.length_eq_zero_iff.mp e
theorem o_add : OpR X (binaryOp .Add) (rO2 X G dAdd) := by
  intro pins s σ H x y v u Q I rx ry hp
  obtain ⟨g, h, d, e, og, r, qd, qe, p⟩ := hp
  unfold dAdd at p
  split at p
  · rename_i i j
    cases (show x = V.int i from qd); cases (show y = V.int j from qe)
    exact op_add pins s σ H _ _ v u Q I rx ry ⟨i, j, rfl, rfl, Post.int r p⟩
  · rename_i i j
    cases (show x = V.str i from qd); cases (show y = V.str j from qe)
    split at p
    · rename_i hz
      exact op_add_str pins s σ H _ _ v u Q I rx ry ⟨i, j, rfl, rfl, by rw [lineE]; exact hz, Post.str r p⟩
    · exact p.elim
  · rename_i a b
    split at p
    · rename_i hz
      obtain ⟨a1, xs, rfl, h1, h2⟩ := tup_ok og qd
      obtain ⟨a2, ys, rfl, h3, h4⟩ := tup_ok og qe
      refine op_catA pins s σ H _ _ v u Q I rx ry ⟨a1, a2, xs, ys, rfl, rfl, h1, h3, by rw [lineE, ← h2.len, ← h4.len]; exact hz, fun z => ?_, fun _ z => ?_, fun _ _ => Post.newT (K := fun _ _ _ _ => True) r (h2.app h4) p⟩
      · have z' := h2.nil_iff.mpr z
        subst z'
        exact Post.val r (by rw [List.nil_append]; exact qe) p
      · have z' := h4.nil_iff.mpr z
        subst z'
        exact Post.val r (by rw [List.append_nil]; exact qd) p
    · exact p.elim
  · split at p
    · rename_i a b e1 e2
      split at p
      · rename_i hz
        obtain ⟨a1, xs, rfl, h1, h2⟩ := seqM_ok r qd e1
        obtain ⟨a2, ys, rfl, h3, h4⟩ := seqM_ok r qe e2
        exact op_cat pins s σ H _ _ v u Q I rx ry ⟨a1, a2, xs, ys, rfl, rfl, h1, h3, by rw [lineE, ← h2.len, ← h4.len]; exact hz, Post.newL r (h2.app h4) p⟩
      · exact p.elim
    · exact p.elim
theorem o_sub : OpR X (binaryOp .Sub) (rO2 X G dSub) := by
  intro pins s σ H x y v u Q I rx ry hp
  obtain ⟨g, h, d, e, og, r, qd, qe, p⟩ := hp
  unfold dSub at p
  split at p
  · rename_i i j
    cases (show x = V.int i from qd); cases (show y = V.int j from qe)
    exact op_sub pins s σ H _ _ v u Q I rx ry ⟨i, j, rfl, rfl, Post.int r p⟩
  · exact p.elim
theorem reps_len {α : Type} (k : Nat) (xs : List α) : (reps k xs).length = xs.length * k := by
  unfold reps
  simp [List.length_flatten, Nat.mul_comm]
theorem RelsS.reps {g : Gh} {H : Hp} {ds : List D} {xs : List V} (q : RelsS g H ds xs) : ∀ k : Nat, RelsS g H (EV.reps k ds) (List.replicate k xs).flatten
  | 0 => rfl
  | k + 1 => by
    have ih := RelsS.reps q k
    unfold EV.reps at ih ⊢
    rw [List.replicate_succ, List.replicate_succ, List.flatten_cons, List.flatten_cons]
    exact q.app ih
theorem o_tmul1 {pins : List (Addr × Obj)} {σ : L2.St} {H : Hp} {s : Shared} {l : Addr} {xs : List V} {v u : Value} {Q : VK} (I : Inv X pins σ H s) (hT : SqT X.K H l xs) (rx : RelV (.ref l) v) (ry : RelV (.int 1) u) (q : Q (.ref l) H) :
    wpAny (model X.prog X.w) X.A (binaryOp .Mult v u) (EP X pins σ Q) X.xe s := by
  cases rx
  obtain ⟨t, rfl⟩ := ry
  obtain ⟨its, r, ⟨⟨cls, dd, data, sl⟩, ho, hc, n, hd⟩, hs⟩ := I.tuple hT
  simp only at hc hd
  subst hc hd
  refine wpAny_binaryOp_repeat_ref (T := "tuple") (U := "int") (by decide) ⟨_, ho, rfl⟩ (fun s' => typeIs_int s' 1 t) noFill_tuple_mul F.fills_int_mul F.slot_int_rmul repeat_tuple F.slot_int_index.lookup
    (call_meets F.slot_int_rmul (typeIs_int s 1 t) F.entry_int_rmul (F.args_int_rmul_2 _ _) (int_rmul_tuple 1 t l its.toArray n dd sl)
      ⟨ho, rfl, ⟨_, ho, rfl⟩, call_meets F.slot_tuple_mul ⟨_, ho, rfl⟩ F.entry_tuple_mul (F.args_tuple_mul_2 _ _) (tmul_same l its.toArray n dd sl 1 t (by decide) (by simp)) ⟨ho, ?_⟩⟩)
  exact ⟨V.ref l, H, I, rfl, q⟩
theorem o_tmul0 {pins : List (Addr × Obj)} {σ : L2.St} {H : Hp} {s : Shared} {l : Addr} {xs : List V} {v u : Value} {Q : VK} {k : Int} (I : Inv X pins σ H s) (hT : SqT X.K H l xs) (hne : xs ≠ []) (rx : RelV (.ref l) v) (ry : RelV (.int k) u)
    (h0 : k ≤ 0) (h1 : -1000 ≤ k) (q : ∀ p, H p = none → Q (.ref p) (upd H p (.tup []))) : wpAny (model X.prog X.w) X.A (binaryOp .Mult v u) (EP X pins σ Q) X.xe s := by
  cases rx
  obtain ⟨t, rfl⟩ := ry
  obtain ⟨its, r, ⟨⟨cls, dd, data, sl⟩, ho, hc, n, hd⟩, hs⟩ := I.tuple hT
  simp only at hc hd
  subst hc hd
  have hn : its ≠ [] := fun e => hne (by rw [e] at r; cases r; rfl)
  have hi : its.toArray.isEmpty = false := by
    cases its with
    | nil => exact absurd rfl hn
    | cons a b => rfl
  have c0 : (decide (k < -(2 ^ 63)) || decide (k ≥ 2 ^ 63)) = false := by
    rw [decide_eq_false (by omega), decide_eq_false (by omega)] <;> rfl
  have c1 : (its.toArray.isEmpty || k == 1) = false := by
    rw [hi, Bool.false_or]
    exact beq_eq_false_iff_ne.mpr (by omega)
  refine wpAny_binaryOp_repeat_ref (T := "tuple") (U := "int") (by decide) ⟨_, ho, rfl⟩ (fun s' => typeIs_int s' k t) noFill_tuple_mul F.fills_int_mul F.slot_int_rmul repeat_tuple F.slot_int_index.lookup
    (call_meets F.slot_int_rmul (typeIs_int s k t) F.entry_int_rmul (F.args_int_rmul_2 _ _) (int_rmul_tuple k t l its.toArray n dd sl)
      ⟨ho, rfl, ⟨_, ho, rfl⟩, call_meets F.slot_tuple_mul ⟨_, ho, rfl⟩ F.entry_tuple_mul (F.args_tuple_mul_2 _ _) (tmul_none l its.toArray n dd sl k t c0 c1 (by rw [hi, Bool.or_false]; exact decide_eq_true h0)) ⟨ho, ?_⟩⟩)
  refine ⟨.ref s.heap.objs.size, _, I.laid (t' := s.toks) (o := .tup []) (fun b ob q => Heap.get?_push_of_some _ q) (Nat.le_refl _) ⟨Nat.zero_le _, [], .nil, PyProof.Rows.IsTup.new _ _⟩, rfl, q _ (I.hok.fresh (Nat.le_refl _))⟩
theorem o_mul : OpR X (binaryOp .Mult) (rO2 X G dMul) := by
  intro pins s σ H x y v u Q I rx ry hp
  obtain ⟨g, h, d, e, og, r, qd, qe, p⟩ := hp
  unfold dMul at p
  split at p
  · rename_i i j
    cases (show x = V.int i from qd); cases (show y = V.int j from qe)
    split at p
    · rename_i hz
      refine op_mul pins s σ H _ _ v u Q I rx ry ⟨i, j, rfl, rfl, ?_, Post.int r p⟩
      simp only [small64, Bool.or_eq_true, Bool.and_eq_true, decide_eq_true_eq] at hz
      exact hz
    · exact p.elim
  · rename_i a k
    cases (show y = V.int k from qe)
    obtain ⟨l, xs, rfl, h1, h2⟩ := tup_ok og qd
    split at p
    · exact p.elim
    · rename_i ne
      have hne : xs ≠ [] := fun z => ne (by rw [h2.nil_iff.mpr z]; rfl)
      split at p
      · rename_i hz
        simp only [Bool.and_eq_true, decide_eq_true_eq] at hz
        refine op_repT pins s σ H _ _ v u Q I rx ry ⟨l, k, xs, rfl, rfl, h1, hne, hz.1.1, hz.1.2, by rw [← h2.len]; exact hz.2, Post.newT (K := fun _ _ _ _ => True) r (h2.reps k.toNat) p⟩
      · split at p
        · rename_i hk
          subst hk
          exact o_tmul1 I h1 rx ry (Post.val r qd p)
        · split at p
          · rename_i hk
            simp only [Bool.and_eq_true, decide_eq_true_eq] at hk
            exact o_tmul0 I h1 hne rx ry hk.1 hk.2 (Post.newT (K := fun _ _ _ _ => True) (xs := []) (ds := []) r rfl p)
          · exact p.elim
  · rename_i x1 k n1 n2
    cases (show y = V.int k from qe)
    split at p
    · rename_i a ea
      split at p
      · rename_i hz
        simp only [Bool.and_eq_true, decide_eq_true_eq] at hz
        obtain ⟨l, xs, rfl, h1, h2⟩ := seqM_ok r qd ea
        refine op_rep pins s σ H _ _ v u Q I rx ry ⟨l, k, xs, rfl, rfl, h1, by omega, by omega, by rw [lineE, ← h2.len]; exact hz.2, Post.newL r (h2.reps k.toNat) p⟩
      · exact p.elim
    · exact p.elim
  · exact p.elim
theorem o_fdiv : OpR X (binaryOp .FloorDiv) (rO2 X G dFdiv) := by
  intro pins s σ H x y v u Q I rx ry hp
  obtain ⟨g, h, d, e, og, r, qd, qe, p⟩ := hp
  unfold dFdiv at p
  split at p
  · rename_i i j
    cases (show x = V.int i from qd); cases (show y = V.int j from qe)
    split at p
    · rename_i hz
      simp only [Bool.and_eq_true, decide_eq_true_eq] at hz
      exact op_fdiv pins s σ H _ _ v u Q I rx ry ⟨i, j, rfl, rfl, hz, Post.int r p⟩
    · exact p.elim
  · exact p.elim
theorem o_mod : OpR X (binaryOp .Mod) (rO2 X G dMod) := by
  intro pins s σ H x y v u Q I rx ry hp
  obtain ⟨g, h, d, e, og, r, qd, qe, p⟩ := hp
  unfold dMod at p
  split at p
  · rename_i i j
    cases (show x = V.int i from qd); cases (show y = V.int j from qe)
    split at p
    · rename_i hz
      exact op_mod pins s σ H _ _ v u Q I rx ry ⟨i, j, rfl, rfl, hz, Post.int r p⟩
    · exact p.elim
  · exact p.elim
theorem o_pow : OpR X (binaryOp .Pow) (rO2 X G dPow) := by
  intro pins s σ H x y v u Q I rx ry hp
  obtain ⟨g, h, d, e, og, r, qd, qe, p⟩ := hp
  unfold dPow at p
  split at p
  · rename_i i j
    cases (show x = V.int i from qd); cases (show y = V.int j from qe)
    split at p
    · rename_i hz
      simp only [Bool.and_eq_true, decide_eq_true_eq] at hz
      exact op_pow pins s σ H _ _ v u Q I rx ry ⟨i, j, rfl, rfl, ⟨hz.1.1, hz.1.2, hz.2⟩, Post.int r p⟩
    · exact p.elim
  · exact p.elim
theorem o_neg : UnR X (unaryOp .USub) (rO1 X G dNeg) := by
  intro pins s σ H x v Q I rx hp
  obtain ⟨g, h, d, og, r, qd, p⟩ := hp
  unfold dNeg at p
  split at p
  · rename_i i
    cases (show x = V.int i from qd)
    exact un_neg pins s σ H _ v Q I rx ⟨i, rfl, Post.int r p⟩
  · exact p.elim
end
end EV
/-! EV4: comparisons, truth, subscripts, slices -/
namespace EV
open PySem L2

mutual
/-- data without cells -/
def D.pd : D → Option PyData
  | .non => some PyData.none
  | .bl b => some (PyData.bool b)
  | .int i => some (PyData.int i)
  | .str s => some (PyData.str s)
  | .tup ds => (D.pds ds).map PyData.tuple
  | .lst ds => (D.pds ds).map PyData.list
  | .bor ds => (D.pds ds).map PyData.list
  | .frz ds => (D.pds ds).map PyData.list
  | .obj _ => none
  | .glob _ => none
def D.pds : List D → Option (List PyData)
  | [] => some []
  | d :: ds => match D.pd d, D.pds ds with
    | some x, some xs => some (x :: xs)
    | _, _ => none
end
def pdH (h : Cells) (d : D) : Option PyData := match d with
  | .obj n => match h[n]? with
    | some (.lst ds) => (D.pds ds).map PyData.list
    | _ => none
  | d => D.pd d
section
variable {X : Cx} {G : Gx} {g : Gh} {H : Hp} {h : Cells}
mutual
theorem dp_of (og : GOk X G g) : ∀ {d : D} {v : V} {p : PyData}, RelS g H d v → D.pd d = some p → Dp X.K H v p
  | .non, v, p, q, e => by simp only [D.pd] at e; cases e; cases (show v = .non from q); exact .non
  | .bl b, v, p, q, e => by simp only [D.pd] at e; cases e; cases (show v = .bl b from q); exact .bl b
  | .int b, v, p, q, e => by simp only [D.pd] at e; cases e; cases (show v = .int b from q); exact .int b
  | .str b, v, p, q, e => by simp only [D.pd] at e; cases e; cases (show v = .str b from q); exact .str b
  | .tup ds, v, p, q, e => by
    simp only [D.pd] at e
    obtain ⟨ps, e1, rfl⟩ := Option.map_eq_some_iff.mp e
    obtain ⟨a, xs, rfl, h1, h2⟩ := tup_ok og (RelS.t q)
    exact .tup h1 (dps_of og h2 e1)
  | .lst ds, v, p, q, e => by
    simp only [D.pd] at e
    obtain ⟨ps, e1, rfl⟩ := Option.map_eq_some_iff.mp e
    obtain ⟨a, xs, rfl, h1, h2⟩ := q
    exact .lst (.inl (.inl h1.1)) (dps_of og h2 e1)
  | .bor ds, v, p, q, e => by simp only [RelS] at q
  | .frz ds, v, p, q, e => by
    simp only [D.pd] at e
    obtain ⟨ps, e1, rfl⟩ := Option.map_eq_some_iff.mp e
    obtain ⟨a, xs, rfl, h1, h2⟩ := q
    exact .lst (by rw [← og.K]; exact h1.sql) (dps_of og h2 e1)
  | .obj _, v, p, q, e => by simp only [D.pd] at e; cases e
  | .glob _, v, p, q, e => by simp only [D.pd] at e; cases e
theorem dps_of (og : GOk X G g) : ∀ {ds : List D} {vs : List V} {ps : List PyData}, RelsS g H ds vs → D.pds ds = some ps → DpAll X.K H vs ps
  | [], vs, ps, q, e => by simp only [D.pds] at e; cases e; cases (show vs = [] from q); exact .nil
  | d :: ds, vs, ps, q, e => by
    simp only [RelsS] at q
    obtain ⟨x, rr, rfl, h1, h2⟩ := q
    simp only [D.pds] at e
    split at e
    · rename_i y ys e1 e2
      cases e
      exact .cons (dp_of og h1 e1) (dps_of og h2 e2)
    · cases e
end
theorem dpH_of (og : GOk X G g) (r : HRel X.prog X.w g H h) {d : D} {v : V} {p : PyData} (q : RelT g H d v) (e : pdH h d = some p) : Dp X.K H v p := by
  cases d with
  | obj n =>
    unfold pdH at e
    dsimp only at e
    split at e
    · rename_i ds z
      obtain ⟨ps, e1, rfl⟩ := Option.map_eq_some_iff.mp e
      obtain ⟨a, xs, rfl, h1, h2⟩ := seqL_ok og r (d := .obj n) (ds := ds) q (by unfold seqL; simp only [z])
      exact .lst h1 (dps_of og h2 e1)
    · cases e
  | bor ds =>
    have e' : (D.pds ds).map PyData.list = some p := by simpa only [pdH, D.pd] using e
    obtain ⟨ps, e1, rfl⟩ := Option.map_eq_some_iff.mp e'
    obtain ⟨a, xs, rfl, h1, h2⟩ := seqL_ok og r (d := .bor ds) (ds := ds) q rfl
    exact .lst h1 (dps_of og h2 e1)
  | _ => exact dp_of og (by exact q) (by exact e)
end

/-! ### ==, != -/
def dEq : O2 := fun x y h => match x, y with
  | .int i, .int j => .ok (.bl (decide (i = j))) h
  | .str i, .str j => .ok (.bl (decide (i = j))) h
  | .bl i, .bl j => .ok (.bl (decide (i = j))) h
  | x, y => match pdH h x, pdH h y with
    | some p, some q => if SeqAt.shaped p && SeqAt.shaped q then .ok (.bl (PyData.eqv p q)) h else .bad
    | _, _ => .bad
def dNe : O2 := fun x y h => match x, y with
  | .int i, .int j => .ok (.bl (!decide (i = j))) h
  | .str i, .str j => .ok (.bl (!decide (i = j))) h
  | .bl i, .bl j => .ok (.bl (!decide (i = j))) h
  | x, y => match pdH h x, pdH h y with
    | some p, some q => if SeqAt.shaped p && SeqAt.shaped q then .ok (.bl (!PyData.eqv p q)) h else .bad
    | _, _ => .bad
/-! ### order -/
def dLt : O2 := fun x y h => match x, y with
  | .int i, .int j => .ok (.bl (decide (i < j))) h
  | _, _ => .bad
def dLe : O2 := fun x y h => match x, y with
  | .int i, .int j => .ok (.bl (decide (i ≤ j))) h
  | _, _ => .bad
def dGt : O2 := fun x y h => match x, y with
  | .int i, .int j => .ok (.bl (decide (j < i))) h
  | _, _ => .bad
def dGe : O2 := fun x y h => match x, y with
  | .int i, .int j => .ok (.bl (decide (j ≤ i))) h
  | _, _ => .bad
/-! ### is -/
def dIs : O2 := fun x y h => match x, y with
  | .bl a, .bl b => .ok (.bl (decide (a = b))) h
  | .non, .non => .ok (.bl true) h
  | _, .non => .ok (.bl false) h
  | _, _ => .bad
def dIsNot : O2 := fun x y h => match x, y with
  | .bl a, .bl b => .ok (.bl (!decide (a = b))) h
  | .non, .non => .ok (.bl false) h
  | _, .non => .ok (.bl true) h
  | _, _ => .bad
/-! ### in -/
def inD (x : PyData) (ys : List PyData) : Bool := ys.any fun z => PyData.eqv z x
def seqT (h : Cells) : D → Option (List D)
  | .tup ds => some ds
  | d => seqL h d
/-- data of list's kind -/
def pdSeq (h : Cells) (d : D) : Option (List PyData) := (seqT h d).bind D.pds
section
variable {X : Cx} {G : Gx}
theorem o_eq (hu : X.A.units + 64 < cLine) : OpR X (compareOp .Eq) (rO2 X G dEq) := by
  intro pins s σ H x y v u Q I rx ry hp
  obtain ⟨g, h, d, e, og, r, qd, qe, p⟩ := hp
  unfold dEq at p
  split at p
  · rename_i i j
    cases (show x = V.int i from qd); cases (show y = V.int j from qe)
    refine op_eq pins s σ H _ _ v u Q I rx ry ⟨rfl, ?_⟩
    have e : decide (V.int i = V.int j) = decide (i = j) := by simp
    rw [e]
    exact Post.bl r p
  · rename_i i j
    cases (show x = V.str i from qd); cases (show y = V.str j from qe)
    refine op_eq pins s σ H _ _ v u Q I rx ry ⟨rfl, ?_⟩
    have e : decide (V.str i = V.str j) = decide (i = j) := by simp
    rw [e]
    exact Post.bl r p
  · rename_i i j
    cases (show x = V.bl i from qd); cases (show y = V.bl j from qe)
    refine op_eq pins s σ H _ _ v u Q I rx ry ⟨rfl, ?_⟩
    have e : decide (V.bl i = V.bl j) = decide (i = j) := by simp
    rw [e]
    exact Post.bl r p
  · split at p
    · rename_i p1 p2 e1 e2
      split at p
      · rename_i hz
        rw [Bool.and_eq_true] at hz
        exact op_eqD hu pins s σ H _ _ v u Q I rx ry ⟨p1, p2, dpH_of og r qd e1, dpH_of og r qe e2, hz.1, hz.2, Post.bl r p⟩
      · exact p.elim
    · exact p.elim
theorem o_ne (hu : X.A.units + 64 < cLine) : OpR X (compareOp .NotEq) (rO2 X G dNe) := by
  intro pins s σ H x y v u Q I rx ry hp
  obtain ⟨g, h, d, e, og, r, qd, qe, p⟩ := hp
  unfold dNe at p
  split at p
  · rename_i i j
    cases (show x = V.int i from qd); cases (show y = V.int j from qe)
    refine op_ne pins s σ H _ _ v u Q I rx ry ⟨rfl, ?_⟩
    have e : (!decide (V.int i = V.int j)) = (!decide (i = j)) := by simp
    rw [e]
    exact Post.bl r p
  · rename_i i j
    cases (show x = V.str i from qd); cases (show y = V.str j from qe)
    refine op_ne pins s σ H _ _ v u Q I rx ry ⟨rfl, ?_⟩
    have e : (!decide (V.str i = V.str j)) = (!decide (i = j)) := by simp
    rw [e]
    exact Post.bl r p
  · rename_i i j
    cases (show x = V.bl i from qd); cases (show y = V.bl j from qe)
    refine op_ne pins s σ H _ _ v u Q I rx ry ⟨rfl, ?_⟩
    have e : (!decide (V.bl i = V.bl j)) = (!decide (i = j)) := by simp
    rw [e]
    exact Post.bl r p
  · split at p
    · rename_i p1 p2 e1 e2
      split at p
      · rename_i hz
        rw [Bool.and_eq_true] at hz
        exact op_neD hu pins s σ H _ _ v u Q I rx ry ⟨p1, p2, dpH_of og r qd e1, dpH_of og r qe e2, hz.1, hz.2, Post.bl r p⟩
      · exact p.elim
    · exact p.elim
theorem o_lt : OpR X (compareOp .Lt) (rO2 X G dLt) := by
  intro pins s σ H x y v u Q I rx ry hp
  obtain ⟨g, h, d, e, og, r, qd, qe, p⟩ := hp
  unfold dLt at p
  split at p
  · rename_i i j
    cases (show x = V.int i from qd); cases (show y = V.int j from qe)
    exact op_lt pins s σ H _ _ v u Q I rx ry ⟨i, j, rfl, rfl, Post.bl r p⟩
  · exact p.elim
theorem o_le : OpR X (compareOp .LtE) (rO2 X G dLe) := by
  intro pins s σ H x y v u Q I rx ry hp
  obtain ⟨g, h, d, e, og, r, qd, qe, p⟩ := hp
  unfold dLe at p
  split at p
  · rename_i i j
    cases (show x = V.int i from qd); cases (show y = V.int j from qe)
    exact op_le pins s σ H _ _ v u Q I rx ry ⟨i, j, rfl, rfl, Post.bl r p⟩
  · exact p.elim
theorem o_gt : OpR X (compareOp .Gt) (rO2 X G dGt) := by
  intro pins s σ H x y v u Q I rx ry hp
  obtain ⟨g, h, d, e, og, r, qd, qe, p⟩ := hp
  unfold dGt at p
  split at p
  · rename_i i j
    cases (show x = V.int i from qd); cases (show y = V.int j from qe)
    exact op_gt pins s σ H _ _ v u Q I rx ry ⟨i, j, rfl, rfl, Post.bl r p⟩
  · exact p.elim
theorem o_ge : OpR X (compareOp .GtE) (rO2 X G dGe) := by
  intro pins s σ H x y v u Q I rx ry hp
  obtain ⟨g, h, d, e, og, r, qd, qe, p⟩ := hp
  unfold dGe at p
  split at p
  · rename_i i j
    cases (show x = V.int i from qd); cases (show y = V.int j from qe)
    exact op_ge pins s σ H _ _ v u Q I rx ry ⟨i, j, rfl, rfl, Post.bl r p⟩
  · exact p.elim
theorem ne_non {g : Gh} {H : Hp} {d : D} {x : V} (q : RelT g H d x) (n : d ≠ .non) : x ≠ .non := by
  intro e
  subst e
  cases d with
  | non => exact n rfl
  | bl b => exact nomatch (show V.non = V.bl b from q)
  | int b => exact nomatch (show V.non = V.int b from q)
  | str b => exact nomatch (show V.non = V.str b from q)
  | tup ds => obtain ⟨a, xs, z, _⟩ := q; cases z
  | lst ds => obtain ⟨a, xs, z, _⟩ := q; cases z
  | bor ds => obtain ⟨a, xs, z, _⟩ := q; cases z
  | frz ds => obtain ⟨a, xs, z, _⟩ := q; cases z
  | obj n => obtain ⟨a, z, _⟩ := q; cases z
  | glob n => obtain ⟨a, z, _⟩ := q; cases z
theorem o_is : OpR X (compareOp .Is) (rO2 X G dIs) := by
  intro pins s σ H x y v u Q I rx ry hp
  obtain ⟨g, h, d, e, og, r, qd, qe, p⟩ := hp
  unfold dIs at p
  split at p
  · rename_i i j
    cases (show x = V.bl i from qd); cases (show y = V.bl j from qe)
    exact op_is_bl pins s σ H _ _ v u Q I rx ry ⟨i, j, rfl, rfl, Post.bl r p⟩
  · cases (show x = V.non from qd); cases (show y = V.non from qe)
    exact op_isN pins s σ H _ _ v u Q I rx ry ⟨rfl, Post.bl r p⟩
  · rename_i n1
    cases (show y = V.non from qe)
    refine op_isN pins s σ H _ _ v u Q I rx ry ⟨rfl, ?_⟩
    rw [decide_eq_false (ne_non qd fun z => n1 z)]
    exact Post.bl r p
  · exact p.elim
theorem o_isnot : OpR X (compareOp .IsNot) (rO2 X G dIsNot) := by
  intro pins s σ H x y v u Q I rx ry hp
  obtain ⟨g, h, d, e, og, r, qd, qe, p⟩ := hp
  unfold dIsNot at p
  split at p
  · rename_i i j
    cases (show x = V.bl i from qd); cases (show y = V.bl j from qe)
    exact op_isnot_bl pins s σ H _ _ v u Q I rx ry ⟨i, j, rfl, rfl, Post.bl r p⟩
  · cases (show x = V.non from qd); cases (show y = V.non from qe)
    exact op_notN pins s σ H _ _ v u Q I rx ry ⟨rfl, Post.bl r p⟩
  · rename_i n1
    cases (show y = V.non from qe)
    refine op_notN pins s σ H _ _ v u Q I rx ry ⟨rfl, ?_⟩
    rw [decide_eq_false (ne_non qd fun z => n1 z)]
    exact Post.bl r p
  · exact p.elim
end

/-! ### truth -/
def dTru : D → Cells → R Bool := fun x h => match x with
  | .bl b => .ok b h
  | .non => .ok false h
  | .int i => .ok (i != 0) h
  | .str s => if s.length ≤ szL then .ok ((s.length : Int) != 0) h else .bad
  | .tup ds => .ok (!ds.isEmpty) h
  | x => match seqL h x with
    | some ds => .ok (!ds.isEmpty) h
    | none => .bad
section
variable {X : Cx} {G : Gx}
def rTru (X : Cx) (G : Gx) : V → Hp → (Bool → Hp → Prop) → Prop := fun x H Q => ∃ g h d, GOk X G g ∧ HRel X.prog X.w g H h ∧ RelT g H d x ∧ Post X G g H (dTru d h) fun g' H' b _ => ∀ v, v = b → Q v H'
theorem RelsS.empty {g : Gh} {H : Hp} {ds : List D} {xs : List V} (q : RelsS g H ds xs) : ds.isEmpty = xs.isEmpty := by
  have e := q.len
  cases ds <;> cases xs <;> first | rfl | (simp at e)
theorem tru_of {x : V} {H : Hp} {Q : Bool → Hp → Prop} (hp : rTru X G x H Q) : ∃ k, TruV X.K x H k ∧ Q k H := by
  obtain ⟨g, h, d, og, r, qd, p⟩ := hp
  unfold dTru at p
  split at p
  · rename_i b
    cases (show x = V.bl b from qd)
    exact ⟨b, rfl, Post.now r p _ rfl⟩
  · cases (show x = V.non from qd)
    exact ⟨false, rfl, Post.now r p _ rfl⟩
  · rename_i b
    cases (show x = V.int b from qd)
    exact ⟨_, rfl, Post.now r p _ rfl⟩
  · rename_i b
    cases (show x = V.str b from qd)
    split at p
    · rename_i hz
      exact ⟨_, ⟨by rw [lineE]; exact hz, rfl⟩, Post.now r p _ rfl⟩
    · exact p.elim
  · obtain ⟨a, xs, rfl, h1, h2⟩ := tup_ok og qd
    exact ⟨_, .inr (.inl ⟨xs, h1, rfl⟩), by rw [← h2.empty]; exact Post.now r p _ rfl⟩
  · split at p
    · rename_i ds e
      obtain ⟨a, xs, rfl, h1, h2⟩ := seqL_ok og r qd e
      exact ⟨_, .inl ⟨xs, h1, rfl⟩, by rw [← h2.empty]; exact Post.now r p _ rfl⟩
    · exact p.elim
def dTruE (a : DE) : DT := fun fn env h => (a fn env h).bind dTru
/-- an expression as a test, by its value's truth -/
theorem s_truth {a : Expr} {da : DE} (ha : PE X a (tD X G da)) (he : ∀ whole, isTrue a X.env whole = (do let v ← whole; standAt a.pos; holding [v] (truthy v))) : PT X a (tT X G (dTruE da)) :=
  PT.imp (pt_truth ha he) fun _ _ _ p => tG.bind (f := fun fn env d h1 => dTru d h1) p fun g own env h H1 d v og r l q p1 => tru_of ⟨g, h, d, og, r, q, p1⟩
end

/-! ### subscripts -/
def dIx : O2 := fun x y h => match y with
  | .int i => match x with
    | .str s => if s.length ≤ szL then match atI s.cps.toList i with
      | some c => .ok (.str ⟨#[c]⟩) h
      | none => .bad
      else .bad
    | x => match seqT h x with
      | some ds => match atI ds i with
        | some d => .ok d h
        | none => .bad
      | none => .bad
  | _ => .bad
section
variable {X : Cx} {G : Gx}
theorem atI_rel {g : Gh} {H : Hp} {ds : List D} {xs : List V} {i : Int} {d : D} (q : RelsS g H ds xs) (e : atI ds i = some d) : ∃ v, atI xs i = some v ∧ RelS g H d v := by
  unfold atI at e ⊢
  rw [← q.len]
  cases z : ixN ds.length i with
  | none => rw [z] at e; cases e
  | some j =>
    rw [z] at e
    exact q.get e
theorem seqT_ok {g : Gh} {H : Hp} {h : Cells} (og : GOk X G g) (r : HRel X.prog X.w g H h) {d : D} {v : V} {ds : List D} (q : RelT g H d v) (e : seqT h d = some ds) : ∃ a xs, v = .ref a ∧ (SqL X.K H a xs ∨ SqT X.K H a xs) ∧ RelsS g H ds xs := by
  cases d with
  | tup es =>
    cases e
    obtain ⟨a, xs, h1, h2, h3⟩ := tup_ok og q
    exact ⟨a, xs, h1, .inr h2, h3⟩
  | _ =>
    obtain ⟨a, xs, h1, h2, h3⟩ := seqL_ok og r q (by exact e)
    exact ⟨a, xs, h1, .inl h2, h3⟩
theorem o_ix : IxR X (rO2 X G dIx) := by
  intro value slice pins s σ H x y v u Q I rx ry hp hs
  obtain ⟨g, h, d, e, og, r, qd, qe, p⟩ := hp
  unfold dIx at p
  split at p
  · rename_i i
    cases (show y = V.int i from qe)
    split at p
    · rename_i z
      cases (show x = V.str z from qd)
      split at p
      · rename_i hz
        split at p
        · rename_i c hc
          exact ix_str value slice pins s σ H _ _ v u Q I rx ry ⟨z, i, c, rfl, rfl, by rw [lineE]; exact hz, hc, Post.str r p⟩ hs
        · exact p.elim
      · exact p.elim
    · split at p
      · rename_i ds e1
        split at p
        · rename_i d' e2
          obtain ⟨a, xs, rfl, h1, h2⟩ := seqT_ok og r qd e1
          obtain ⟨w, e3, q3⟩ := atI_rel h2 e2
          refine ix_seq value slice pins s σ H _ _ v u Q I rx ry ?_ hs
          rcases h1 with h1 | h1
          · exact .inl ⟨a, xs, i, w, rfl, rfl, h1, e3, Post.val r q3.t p⟩
          · exact .inr (.inl ⟨a, xs, i, w, rfl, rfl, h1, e3, Post.val r q3.t p⟩)
        · exact p.elim
      · exact p.elim
  · exact p.elim
def isSlice : Expr → Bool
  | .Slice .. => true
  | _ => false
theorem plainIx {b : Expr} (h : isSlice b = false) : PlainIx b := by
  intro o i
  cases b <;> first | rfl | (simp [isSlice] at h)
theorem s_ix {a b : Expr} {da db : DE} {pos : Pos} (ha : PE X a (tD X G da)) (hb : PE X b (tD X G db)) (hs : isSlice b = false) : PE X (.Subscript a b pos) (tD X G (dOp2 dIx da db)) :=
  PE.imp (pe_ix o_ix ha hb (plainIx hs)) fun _ _ _ p => tOp2 p
end

/-! ### slices -/
def cutD (xs : List D) (lo hi : Option Int) : List D := (xs.drop (HT.sIx xs.length 0 lo)).take (HT.sIx xs.length xs.length hi - HT.sIx xs.length 0 lo)
def dSl (x : D) (lo hi : Option Int) (h : Cells) : R D := match x with
  | .tup ds => .ok (.tup (cutD ds lo hi)) h
  | x => match seqL h x with
    | some ds => .ok (.lst (cutD ds lo hi)) h
    | none => .bad
abbrev DO := Fns → Ev → Cells → R (Option Int)
abbrev tO (X : Cx) (G : Gx) (de : DO) : TO := tG (fun _ _ b v => v = b) X G de
def dNoPart : DO := fun _ _ h => .ok none h
def dPart (a : DE) : DO := fun fn env h => (a fn env h).bind fun d h1 => match d with
  | .int i => .ok (some i) h1
  | _ => .bad
def dSlice (a : DE) (lo hi : DO) : DE := fun fn env h => (a fn env h).bind fun d h1 => (lo fn env h1).bind fun l h2 => (hi fn env h2).bind fun u h3 => dSl d l u h3
section
variable {X : Cx} {G : Gx}
theorem PO.imp {e : Option Expr} {t t' : TO} (h : PO X e t) (k : ∀ σ H Q, t' σ H Q → t σ H Q) : PO X e t' := by
  cases h with
  | mk run => exact ⟨fun pins s σ H Q I q => run pins s σ H Q I (k σ H Q q)⟩
theorem s_noPart : PO X none (tO X G dNoPart) := PO.imp po_none fun σ H Q ⟨g, own, env, h, og, r, l, p⟩ => Post.now r p _ rfl
theorem s_part {a : Expr} {da : DE} (ha : PE X a (tD X G da)) : PO X (some a) (tO X G (dPart da)) := PO.imp (po_some ha) fun σ H Q p =>
  tG.bind (f := fun fn env d h1 => match d with
    | .int i => .ok (some i) h1
    | _ => .bad) p fun g own env h H1 d v og r l q p1 => by
    cases d with
    | int i => exact ⟨i, q, Post.now r p1 _ rfl⟩
    | _ => exact p1.elim
def rOS (X : Cx) (G : Gx) : V → Option Int → Option Int → Hp → VK → Prop := fun x lo hi H Q => ∃ g h d, GOk X G g ∧ HRel X.prog X.w g H h ∧ RelT g H d x ∧ Post X G g H (dSl d lo hi h) fun g' H' r _ => ∀ v, RelT g' H' r v → Q v H'
theorem cut_rel {g : Gh} {H : Hp} {ds : List D} {xs : List V} (q : RelsS g H ds xs) (lo hi : Option Int) : RelsS g H (cutD ds lo hi) (cutV xs lo hi) := by
  unfold cutD cutV
  rw [q.len]
  exact (q.drop _).take _
theorem sIx_all {ds : List D} {lo hi : Option Int} (w : HT.sIx ds.length 0 lo = 0 ∧ HT.sIx ds.length ds.length hi = ds.length) : cutD ds lo hi = ds := by
  unfold cutD
  rw [w.1, w.2]
  simp
theorem o_sl : SlR X (rOS X G) := by
  intro pins s σ H x v vl vu lo hi sl Q I rx hs pl pu hp
  obtain ⟨g, h, d, og, r, qd, p⟩ := hp
  unfold dSl at p
  split at p
  · rename_i ds
    obtain ⟨a, xs, rfl, h1, h2⟩ := tup_ok og qd
    refine sl_tupA pins s σ H _ v vl vu lo hi sl Q I rx hs pl pu ⟨a, xs, rfl, h1, fun w => ?_, fun _ => Post.newT (K := fun _ _ _ _ => True) r (cut_rel h2 lo hi) p⟩
    rw [← h2.len] at w
    rw [sIx_all w] at p
    exact Post.val r qd p
  · split at p
    · rename_i ds e
      obtain ⟨a, xs, rfl, h1, h2⟩ := seqL_ok og r qd e
      exact sl_list pins s σ H _ v vl vu lo hi sl Q I rx hs pl pu ⟨a, xs, rfl, h1, Post.newL r (cut_rel h2 lo hi) p⟩
    · exact p.elim
theorem s_slice {a : Expr} {lo hi : Option Expr} {da : DE} {dl du : DO} {pos p2 : Pos} (ha : PE X a (tD X G da)) (hl : PO X lo (tO X G dl)) (hh : PO X hi (tO X G du)) : PE X (.Subscript a (.Slice lo hi none p2) pos) (tD X G (dSlice da dl du)) :=
  PE.imp (pe_slice o_sl ha hl hh) fun σ H Q p =>
    tG.bind (f := fun fn env d h1 => (dl fn env h1).bind fun l h2 => (du fn env h2).bind fun u h3 => dSl d l u h3) p fun g own env h H1 d v og r l q p1 =>
      tG.mk og r l ((Post.bind p1).imp fun g2 H2 lo2 h2 e2 r2 p2 v2 q2 => by
        subst q2
        exact tG.mk (og.ext e2) r2 (l.step r e2) ((Post.bind p2).imp fun g3 H3 hi3 h3 e3 r3 p3 v3 q3 => by
          subst q3
          exact ⟨g3, h3, d, (og.ext e2).ext e3, r3, RelT.ext r2 e3 (RelT.ext r e2 q), p3⟩))
end
end EV
/-! EV5: argument lists, displays, tests, calls of the text's own defs -/
namespace EV
open PySem L2

def isStar : Expr → Bool
  | .Starred .. => true
  | _ => false
theorem star_cons {e : Expr} {es : List Expr} {env : Env} (h : isStar e = false) : starEach (e :: es) env = (false, eval e env) :: starEach es env := by
  cases e <;> first | rfl | (simp [isStar] at h)
def noStars (es : List Expr) : Bool := es.all fun e => !isStar e
theorem backTo_any {pos : Pos} : ∀ {l : List (Bool × Sem Value)}, l.any (·.1) = false → (backTo pos l).any (·.1) = false := by
  intro l h
  unfold backTo
  rw [List.any_map]
  exact h
theorem stars_any {env : Env} : ∀ {es : List Expr}, noStars es = true → (starEach es env).any (·.1) = false
  | [], _ => rfl
  | e :: es, h => by
    simp only [noStars, List.all_cons, Bool.and_eq_true] at h
    rw [star_cons (by simpa using h.1), List.any_cons, stars_any (es := es) h.2]
    rfl

/-! ### argument lists -/
def daNil : DA := fun _ _ h => .ok [] h
def daCons (a : DE) (r : DA) : DA := fun fn env h => (a fn env h).bind fun d h1 => (r fn env h1).bind fun ds h2 => .ok (d :: ds) h2
section
variable {X : Cx} {G : Gx} {e a b : Expr} {es : List Expr} {da db : DE} {dr : DA} {pos : Pos}
theorem s_paNil : PA X [] (tA X G daNil) := PA.imp pa_nil fun σ H Q ⟨g, own, env, h, og, r, l, p⟩ => Post.now r p _ rfl
theorem s_paCons (ha : PE X e (tD X G da)) (hr : PA X es (tA X G dr)) (hs : isStar e = false) : PA X (e :: es) (tA X G (daCons da dr)) :=
  PA.imp (pa_cons ha hr (star_cons hs)) fun σ H Q p =>
    tG.bind (f := fun fn env d h1 => (dr fn env h1).bind fun ds h2 => R.ok (d :: ds) h2) p fun g own env h H1 d v og r l q p1 =>
      tG.mk og r l ((Post.bind p1).imp fun g2 H2 ds h2 e2 r2 p2 vs qs => Post.now r2 p2 (v :: vs) ⟨v, vs, rfl, RelT.ext r e2 q, qs⟩)
def noBors (ds : List D) : Bool := ds.all fun d => !isBor d
theorem RelsT.s {g : Gh} {H : Hp} : ∀ {ds : List D} {vs : List V}, RelsT g H ds vs → noBors ds = true → RelsS g H ds vs
  | [], _, q, _ => q
  | d :: ds, _, q, n => by
    obtain ⟨x, rr, e1, e2, e3⟩ := q
    simp only [noBors, List.all_cons, Bool.and_eq_true] at n
    exact ⟨x, rr, e1, e2.s (by simpa using n.1), RelsT.s e3 n.2⟩
/-- displays -/
def mkTup : ON := fun ds h => if noBors ds && decide (ds.length ≤ szL) then .ok (.tup ds) h else .bad
def dTup (a : DA) : DE := dOpN mkTup a
def mkLst : ON := fun ds h => if noBors ds && decide (ds.length ≤ szL) then .ok (.lst ds) h else .bad
def dLst (a : DA) : DE := dOpN mkLst a
theorem s_tup {k : Nat} (ha : PA X es (tA X G dr)) : PE X (.Tuple es k pos) (tD X G (dTup dr)) :=
  PE.imp (pe_tup ha) fun σ H Q p =>
    tG.bind (f := fun fn env ds h1 => mkTup ds h1) p fun g own env h H1 ds vs og r l q p1 => by
      unfold mkTup at p1
      split at p1
      · rename_i hz
        rw [Bool.and_eq_true, decide_eq_true_eq] at hz
        have q' := q.s hz.1
        exact ⟨by rw [lineE, ← q'.len]; exact hz.2, Post.newT (K := fun _ _ _ _ => True) r q' p1⟩
      · exact p1.elim
theorem s_lst (ha : PA X es (tA X G dr)) : PE X (.List es pos) (tD X G (dLst dr)) :=
  PE.imp (pe_lst ha) fun σ H Q p =>
    tG.bind (f := fun fn env ds h1 => mkLst ds h1) p fun g own env h H1 ds vs og r l q p1 => by
      unfold mkLst at p1
      split at p1
      · rename_i hz
        rw [Bool.and_eq_true, decide_eq_true_eq] at hz
        have q' := q.s hz.1
        exact ⟨by rw [lineE, ← q'.len]; exact hz.2, Post.newL r q' p1⟩
      · exact p1.elim

/-! ### a new cell -/
def Gh.more (g : Gh) (p : Addr) : Gh := { g with W := fun a => g.W a ∨ a = p, ρ := g.ρ ++ [p] }
theorem Ext.cell {g : Gh} {H : Hp} {h : Cells} (r : HRel X.prog X.w g H h) {p : Addr} {o : HO} (hp : H p = none) : Ext g H (g.more p) (upd H p o) where
  K := rfl
  gA := rfl
  pre := ⟨[p], rfl⟩
  wn := fun a z => by
    rcases z with z | z
    · exact .inl z
    · exact .inr (by rw [z]; exact hp)
  wk := fun a z => .inl (.inl z)
  rw := fun a m => (List.mem_append.mp m).imp (fun m => r.wr a m) fun m => by simpa using m
  fr := fun a u z _ => by rw [upd_ne (ne_of_none z hp)]; exact z
  nw := fun a m n => (List.mem_append.mp m).elim (fun m => absurd m n) fun m => by
    have : a = p := by simpa using m
    rw [this]; exact hp
theorem HRel.cell {g : Gh} {H : Hp} {h : Cells} (r : HRel X.prog X.w g H h) {p : Addr} {o : HO} {c : OB} (hp : H p = none) (q : CellRel X.prog X.w (g.more p) (upd H p o) p c) : HRel X.prog X.w (g.more p) (upd H p o) (h ++ [c]) where
  len := by show (g.ρ ++ [p]).length = _; rw [List.length_append, List.length_append, r.len]; rfl
  nd := by
    show (g.ρ ++ [p]).Nodup
    rw [List.nodup_append]
    refine ⟨r.nd, by simp, fun a m b hb e => ?_⟩
    have : b = p := by simpa using hb
    obtain ⟨u, hu, _⟩ := r.mem m
    rw [e, this, hp] at hu; cases hu
  wr := (Ext.cell r hp (o := o)).rw
  wt := fun a u h1 h2 => by
    by_cases z : a = p
    · rw [z] at h2
      obtain ⟨u', e1, e2⟩ := q.some
      rw [h2] at e1; cases e1
      exact e2
    · rw [upd_ne z] at h2
      rcases h1 with h1 | h1
      · exact r.wt a u h1 h2
      · exact absurd h1 z
  at_ := fun n a c' h1 h2 => by
    have h1 : (g.ρ ++ [p])[n]? = some a := h1
    by_cases hn : n < g.ρ.length
    · rw [List.getElem?_append_left hn] at h1
      rw [List.getElem?_append_left (by rw [← r.len]; exact hn)] at h2
      refine (r.at_ n a c' h1 h2).ext r (Ext.cell r hp) ?_
      obtain ⟨u, hu, _⟩ := r.mem (List.mem_of_getElem? h1)
      exact upd_ne (ne_of_none hu hp)
    · rw [List.getElem?_append_right (by omega)] at h1
      rw [List.getElem?_append_right (by rw [← r.len]; omega)] at h2
      have e : n = g.ρ.length := by
        have := (List.getElem?_eq_some_iff.mp h1).1
        simp at this; omega
      subst e
      rw [← r.len, Nat.sub_self] at h2
      rw [Nat.sub_self] at h1
      simp at h1 h2
      subst h1; subst h2
      exact q
/-- a new list in a cell -/
def mkCell : ON := fun ds h => if noBors ds && decide (ds.length ≤ szL) then .ok (.obj h.length) (h ++ [.lst ds]) else .bad
def dCell (a : DA) : DE := dOpN mkCell a
theorem Post.newC {g : Gh} {H : Hp} {h : Cells} {Q : VK} {c : OB} {o : HO} (r : HRel X.prog X.w g H h) (qc : ∀ p, H p = none → CellRel X.prog X.w (g.more p) (upd H p o) p c)
    (p : Post X G g H (.ok (.obj h.length) (h ++ [c])) fun g' H' r _ => ∀ v, RelT g' H' r v → Q v H') : ∀ a, H a = none → Q (.ref a) (upd H a o) := fun a ha =>
  p _ _ (Ext.cell r ha) (r.cell ha (qc a ha)) _ ⟨a, rfl, by show (g.ρ ++ [a])[h.length]? = _; rw [← r.len, List.getElem?_append_right (Nat.le_refl _), Nat.sub_self]; rfl⟩
theorem s_cell (ha : PA X es (tA X G dr)) : PE X (.List es pos) (tD X G (dCell dr)) :=
  PE.imp (pe_lst ha) fun σ H Q p =>
    tG.bind (f := fun fn env ds h1 => mkCell ds h1) p fun g own env h H1 ds vs og r l q p1 => by
      unfold mkCell at p1
      split at p1
      · rename_i hz
        rw [Bool.and_eq_true, decide_eq_true_eq] at hz
        have q' := q.s hz.1
        exact ⟨by rw [lineE, ← q'.len]; exact hz.2, Post.newC (c := .lst ds) r (fun a ha => ⟨vs, upd_same, RelsS.ext r (Ext.cell r ha) q'⟩) p1⟩
      · exact p1.elim

/-! ### tests -/
def dtAnd (a b : DT) : DT := fun fn env h => (a fn env h).bind fun c h1 => if c = true then b fn env h1 else .ok false h1
def dtOr (a b : DT) : DT := fun fn env h => (a fn env h).bind fun c h1 => if c = true then .ok true h1 else b fn env h1
def dtNot (a : DT) : DT := fun fn env h => (a fn env h).bind fun c h1 => .ok (!c) h1
variable {ta tb : DT} {rest : List Expr} {c : Expr}
theorem s_and1 (ha : PT X a (tT X G ta)) : PW X (.BoolOp .And [a] pos) (tT X G ta) := pw_and1 ha
theorem s_or1 (ha : PT X a (tT X G ta)) : PW X (.BoolOp .Or [a] pos) (tT X G ta) := pw_or1 ha
theorem tG.ite {α β : Type} {Rel : Gh → Hp → α → β → Prop} {g : Gh} {own : Nat → Option Addr} {env : Ev} {h : Cells} {σ : L2.St} {H : Hp} {Q : β → Hp → Prop} {de : Fns → Ev → Cells → R α} (og : GOk X G g) (r : HRel X.prog X.w g H h) (l : LR g own env σ H)
    (p : Post X G g H (de G.fns env h) fun g' H' d _ => ∀ v, Rel g' H' d v → Q v H') : tG Rel X G de σ H Q := tG.mk og r l p
theorem s_and (ha : PT X a (tT X G ta)) (hb : PW X (.BoolOp .And (b :: rest) pos) (tT X G tb)) : PW X (.BoolOp .And (a :: b :: rest) pos) (tT X G (dtAnd ta tb)) :=
  PW.imp (pw_and ha hb) fun σ H Q p =>
    tG.bind (f := fun fn env c h1 => if c = true then tb fn env h1 else .ok false h1) p fun g own env h H1 c v og r l q p1 => by
      subst q
      cases v with
      | true => exact tG.mk og r l p1
      | false => exact Post.now r p1 _ rfl
theorem s_or (ha : PT X a (tT X G ta)) (hb : PW X (.BoolOp .Or (b :: rest) pos) (tT X G tb)) : PW X (.BoolOp .Or (a :: b :: rest) pos) (tT X G (dtOr ta tb)) :=
  PW.imp (pw_or ha hb) fun σ H Q p =>
    tG.bind (f := fun fn env c h1 => if c = true then .ok true h1 else tb fn env h1) p fun g own env h H1 c v og r l q p1 => by
      subst q
      cases v with
      | false => exact tG.mk og r l p1
      | true => exact Post.now r p1 _ rfl
theorem s_notT (ha : PT X a (tT X G ta)) : PT X (.UnaryOp .Not a pos) (tT X G (dtNot ta)) :=
  PT.imp (pt_not ha) fun σ H Q p =>
    tG.bind (f := fun fn env (c : Bool) h1 => R.ok (!c) h1) p fun g own env h H1 c v og r l q p1 => by
      subst q
      exact Post.now r p1 _ rfl
/-- .. as values -/
def dAnd (a b : DE) : DE := fun fn env h => (a fn env h).bind fun d h1 => (dTru d h1).bind fun k h2 => if k = true then b fn env h2 else .ok d h2
def dOr (a b : DE) : DE := fun fn env h => (a fn env h).bind fun d h1 => (dTru d h1).bind fun k h2 => if k = true then .ok d h2 else b fn env h2
def dNot (a : DE) : DE := fun fn env h => (a fn env h).bind fun d h1 => (dTru d h1).bind fun k h2 => .ok (.bl (!k)) h2
def dIf (t : DT) (a b : DE) : DE := fun fn env h => (t fn env h).bind fun k h1 => if k = true then a fn env h1 else b fn env h1
theorem dTru_h {d : D} {h : Cells} {k : Bool} {h' : Cells} (e : dTru d h = .ok k h') : h' = h := by
  unfold dTru at e
  split at e
  all_goals first
    | (cases e; rfl)
    | (split at e <;> first | (cases e; rfl) | cases e)
theorem dTru_no {d : D} {h : Cells} {x : Exc} {h' : Cells} (e : dTru d h = .exc x h') : False := by
  unfold dTru at e
  split at e
  all_goals first
    | cases e
    | (split at e <;> cases e)
/-- what follows on a truth -/
theorem tru_then {g : Gh} {H : Hp} {h : Cells} {d : D} {x : V} {α : Type} {f : Bool → Cells → R α} {K : Gh → Hp → α → Cells → Prop} (og : GOk X G g) (r : HRel X.prog X.w g H h) (q : RelT g H d x)
    (p : Post X G g H ((dTru d h).bind f) K) : ∃ k, TruV X.K x H k ∧ Post X G g H (f k h) K := by
  cases e : dTru d h with
  | bad => rw [e] at p; exact p.elim
  | exc y h' => exact (dTru_no e).elim
  | ok k h' =>
    have e' := dTru_h e
    subst e'
    rw [e] at p
    obtain ⟨k', t, z⟩ := tru_of (X := X) (G := G) (x := x) (H := H) (Q := fun b _ => b = k) ⟨g, h', d, og, r, q, by rw [e]; exact fun g' H' _ _ v hv => hv⟩
    subst z
    exact ⟨_, t, p⟩
theorem s_oneV {op : BoolOp} (ha : PE X a (tD X G da)) : PE X (.BoolOp op [a] pos) (tD X G da) := pe_one ha
theorem s_andV (ha : PE X a (tD X G da)) (hb : PE X (.BoolOp .And (b :: rest) pos) (tD X G db)) : PE X (.BoolOp .And (a :: b :: rest) pos) (tD X G (dAnd da db)) :=
  PE.imp (pe_andT ha hb) fun σ H Q p =>
    tG.bind (f := fun fn env d h1 => (dTru d h1).bind fun k h2 => if k = true then db fn env h2 else .ok d h2) p fun g own env h H1 d v og r l q p1 => by
      obtain ⟨k, t, p2⟩ := tru_then og r q p1
      refine ⟨k, t, ?_⟩
      cases k with
      | true => exact tG.mk og r l p2
      | false => exact Post.val r q p2
theorem s_orV (ha : PE X a (tD X G da)) (hb : PE X (.BoolOp .Or (b :: rest) pos) (tD X G db)) : PE X (.BoolOp .Or (a :: b :: rest) pos) (tD X G (dOr da db)) :=
  PE.imp (pe_orT ha hb) fun σ H Q p =>
    tG.bind (f := fun fn env d h1 => (dTru d h1).bind fun k h2 => if k = true then .ok d h2 else db fn env h2) p fun g own env h H1 d v og r l q p1 => by
      obtain ⟨k, t, p2⟩ := tru_then og r q p1
      refine ⟨k, t, ?_⟩
      cases k with
      | false => exact tG.mk og r l p2
      | true => exact Post.val r q p2
theorem s_notV (ha : PE X a (tD X G da)) : PE X (.UnaryOp .Not a pos) (tD X G (dNot da)) :=
  PE.imp (pe_notT ha) fun σ H Q p =>
    tG.bind (f := fun fn env d h1 => (dTru d h1).bind fun k h2 => R.ok (D.bl (!k)) h2) p fun g own env h H1 d v og r l q p1 => by
      obtain ⟨k, t, p2⟩ := tru_then og r q p1
      exact ⟨k, t, Post.bl r p2⟩
theorem s_if (hc : PT X c (tT X G ta)) (ha : PE X a (tD X G da)) (hb : PE X b (tD X G db)) : PE X (.IfExp c a b pos) (tD X G (dIf ta da db)) :=
  PE.imp (pe_ifExp hc ha hb) fun σ H Q p =>
    tG.bind (f := fun fn env k h1 => if k = true then da fn env h1 else db fn env h1) p fun g own env h H1 k v og r l q p1 => by
      subst q
      cases v with
      | true => exact tG.mk og r l p1
      | false => exact tG.mk og r l p1
/-- a op b op' c -/
def dChain (o o' : O2) (a b c : DE) : DE := fun fn env h => (a fn env h).bind fun x h1 => (b fn env h1).bind fun y h2 => (o x y h2).bind fun z h3 => match z with
  | .bl true => (c fn env h3).bind fun w h4 => o' y w h4
  | .bl false => .ok (.bl false) h3
  | _ => .bad
theorem tChain_of {o o' : O2} {dc : DE} {σ : L2.St} {H : Hp} {Q : VK} (p : tD X G (dChain o o' da db dc) σ H Q) : tChain (rO2 X G o) (rO2 X G o') (tD X G da) (tD X G db) (tD X G dc) σ H Q := by
  refine tG.bind (f := fun fn env x h1 => (db fn env h1).bind fun y h2 => (o x y h2).bind fun z h3 => match z with
    | .bl true => (dc fn env h3).bind fun w h4 => o' y w h4
    | .bl false => .ok (.bl false) h3
    | _ => .bad) p fun g own env h H1 d v og r l q p1 => ?_
  refine tG.mk og r l ((Post.bind p1).imp fun g2 H2 d2 h2 e2 r2 p2 v2 q2 => ?_)
  refine ⟨g2, h2, d, d2, og.ext e2, r2, RelT.ext r e2 q, q2, (Post.bind p2).imp fun g3 H3 z h3 e3 r3 p3 v3 q3 => ?_⟩
  cases z with
  | bl k =>
    refine ⟨k, q3, ?_⟩
    have og3 := (og.ext e2).ext e3
    have l3 := (l.step r e2).step r2 e3
    cases k with
    | true =>
      refine tG.mk og3 r3 l3 ((Post.bind p3).imp fun g4 H4 d4 h4 e4 r4 p4 v4 q4 => ?_)
      exact ⟨g4, h4, d2, d4, og3.ext e4, r4, RelT.ext r3 e4 (RelT.ext r2 e3 q2), q4, p4⟩
    | false => exact Post.bl r3 p3
  | _ => exact p3.elim
theorem s_chain {op op' : CmpOp} {o o' : O2} {dc : DE} (ho : OpR X (compareOp op) (rO2 X G o)) (ho' : OpR X (compareOp op') (rO2 X G o')) (ha : PE X a (tD X G da)) (hb : PE X b (tD X G db)) (hc : PE X c (tD X G dc))
    (hm : lastMarks [op, op'] [b, c] = false) : PE X (.Compare a [op, op'] [b, c] pos) (tD X G (dChain o o' da db dc)) :=
  PE.imp (pe_chain ho ho' ha hb hc hm) fun _ _ _ p => tChain_of p
theorem s_chainT {op op' : CmpOp} {o o' : O2} {dc : DE} (ho : OpR X (compareOp op) (rO2 X G o)) (ho' : OpR X (compareOp op') (rO2 X G o')) (ha : PE X a (tD X G da)) (hb : PE X b (tD X G db)) (hc : PE X c (tD X G dc))
    (hm : lastMarks [op, op'] [b, c] = false) : PT X (.Compare a [op, op'] [b, c] pos) (tT X G fun fn env h => asB (dChain o o' da db dc fn env h)) :=
  PT.imp (pt_chain ho ho' ha hb hc hm) fun _ _ _ p => by
    obtain ⟨g, own, env, h, og, r, l, q⟩ := tB_of p
    exact tChain_of ⟨g, own, env, h, og, r, l, q⟩
end
end EV
/-! EV6: a def's contract (with the guards told), calls of the text's own defs -/
namespace EV
open PySem L2

/-- a def's contract where nothing is being shown -/
structure FnG (P : Program) (w : World) (K : PySem.W.Frag) (mg : Str → Option Value) (base : Heap) (k : Nat) (f : Addr) (fd : FuncData) (ps : List Str) (sp : Sp) : Prop where
  len : ∀ vs H Q E, sp vs H Q E → vs.length = ps.length
  run : ∀ (B : Around) (out : List Env) (s : Shared) (H : Hp) (args : Args) (us : List Value) (vs : List V) (Q : VK) (E : XK), B.guards = some [] → Room k B → Env0 P w K mg base B out s H → BindsTo s fd args (ps.zip us) →
    Vals vs us → sp vs H Q E → codeAny (model P w) B (.call (.ref f) args) (CR (L2.CX P w) out P w H s Q E) s
theorem FnG.mono {P : Program} {w : World} {K : PySem.W.Frag} {mg : Str → Option Value} {base : Heap} {j k : Nat} {f : Addr} {fd : FuncData} {ps : List Str} {sp : Sp} (F : FnG P w K mg base j f fd ps sp) (le : j ≤ k) : FnG P w K mg base k f fd ps sp :=
  ⟨F.len, fun B out s H args us vs Q E gu rm => F.run B out s H args us vs Q E gu (rm.mono le)⟩
section
variable {X : Cx} {k : Nat} {f : Addr} {fd : FuncData} {ps : List Str} {sp : Sp} {E : XK}
/-- the def runs -/
theorem FnG.go {pins : List (Addr × Obj)} {σ : L2.St} {H : Hp} {s : Shared} {Q : VK} {args : Args} {us : List Value} {vs : List V} (F : FnG X.prog X.w X.K X.mg X.base k f fd ps sp) (gu : X.A.guards = some []) (rm : Room k X.A)
    (hx : Passes (L2.CX X.prog X.w) X E) (I : Inv X pins σ H s) (hb : BindsTo s fd args (ps.zip us)) (rv : Vals vs us) (q : sp vs H Q E) :
    codeAny (model X.prog X.w) X.A (.call (.ref f) args) (fun r s' => match r with
      | .ok (.ret u) => EP X pins σ Q u s'
      | .ok _ => False
      | .error e => X.xe e s') s := by
  refine codeAny_mono (F.run X.A X.stack s H args us vs Q E gu rm I.env0 hb rv q) fun res s' z => ?_
  cases res with
  | error e => exact hx pins σ H s e s' I z
  | ok fl =>
    cases fl with
    | ret u => exact I.after z
    | next => exact False.elim z
    | brk => exact False.elim z
    | cont => exact False.elim z
end
section
open PySem.Spec PyProof.Rows
/-- a def's contract from its body -/
theorem FnG.of {P : Program} {w : World} {K : PySem.W.Frag} {mg : Str → Option Value} {base : Heap} {k : Nat} {f : Addr} {nm qual : Str} {params : Arguments} {body : List Stmt} {scope : Scope} {dV kV doc pm cdv ct oc : Value} {an od : Option Addr}
    {osl : Array (Option Value)} {N ps : List Str} {sp : Sp} (lk : K.lookup f = some ⟨oc, od, .func (PySem.W.fnOf nm qual params body scope dV kV doc pm an cdv ct), osl⟩) (hcd : PySem.W.codeIn K cdv qual = true) (S : FnScope N ps scope)
    (len : ∀ vs H Q E, sp vs H Q E → vs.length = ps.length)
    (hbody : ∀ (B : Around) (out : List Env) (s : Shared) (H : Hp) (vs : List V) (Q : VK) (E : XK), B.guards = some [] → Room k (B.deeper (envOfC qual scope s.heap.objs.size f cdv)) → sp vs H Q E →
      ∃ t, PSs (cxOf (L2.CX P w) P w K mg base N qual scope f cdv B out s H E) body t ∧ t { nx := fun _ H' => Q .non H', rt := Q } (start N vs) H) :
    FnG P w K mg base (k + 1) f (PySem.W.fnOf nm qual params body scope dV kV doc pm an cdv ct) ps sp := by
  refine ⟨len, fun B out s H args us vs Q E gu rm e0 hb rv q => ?_⟩
  have lens := len _ _ _ _ q
  have inK : K.In s.heap := e0.mod.kin.keeps fun b o z => (e0.bs b o z).1
  have nl : s.heap.NoLimit := e0.mod.nolimit.keeps fun b o z => (e0.bs b o z).1
  have kinds : ∀ y ∈ ps.zip us, scope.names.lookup y.1 = some .local ∨ (scope.names.lookup y.1 = some .cell ∧ ((cellsFrom (s.heap.objs.size + 1) scope.names []).lookup y.1).isSome = true) := by
    rintro ⟨n, v⟩ hy
    rcases S.par n (List.of_mem_zip hy).1 with z | z
    · exact .inl z
    · exact .inr ⟨z, PySem.W.cellsFrom_some _ _ _ (.inl z)⟩
  refine codeAny_call_function rm.depth (inK _ _ lk) rfl S.co S.gen rfl (PySem.W.codeRec_of inK hcd) (hb _ _ _ _ ?_)
  refine wpAny_newFunctionEnv_cells S.kind kinds fun env he s1 x => ?_
  subst he
  refine ⟨nl.keeps x.toInCall.keep, codeAny_func ?_⟩
  obtain ⟨t, ht, hq⟩ := hbody B out s H vs Q E gu (rm.deeper _) q
  have I0 : Inv (cxOf (L2.CX P w) P w K mg base N qual scope f cdv B out s H E) [] (start N vs) H s1 := inv_start S rm.hd e0 lens rv x
  refine wpAny_mono (ht.run [] s1 (start N vs) H _ I0 hq) (fun fl s' hs => ?_) fun e s' hs => hs
  cases fl with
  | ret u =>
    obtain ⟨v, σ', H', J, rvu, z⟩ := hs
    exact ⟨v, H', J.os, J.bare, J.base, J.hok, rvu, z⟩
  | next =>
    obtain ⟨σ', H', J, z⟩ := hs
    exact ⟨.non, H', J.os, J.bare, J.base, J.hok, rfl, z⟩
  | brk =>
    obtain ⟨_, _, _, z⟩ := hs
    exact False.elim z
  | cont =>
    obtain ⟨_, _, _, z⟩ := hs
    exact False.elim z

end
/-! ### where an argument comes from -/
inductive Src where
  | p (i : Nat) | k (i : Nat) | d (i : Nat)
deriving DecidableEq
def Src.get {α : Type} (us ws ds : List α) : Src → Option α
  | .p i => us[i]?
  | .k i => ws[i]?
  | .d i => ds[i]?
def arrange {α : Type} (us ws ds : List α) : List Src → Option (List α)
  | [] => some []
  | s :: r => match s.get us ws ds, arrange us ws ds r with
    | some x, some xs => some (x :: xs)
    | _, _ => none
theorem arrange_len {α : Type} {us ws ds : List α} : ∀ {r : List Src} {zs : List α}, arrange us ws ds r = some zs → zs.length = r.length
  | [], _, h => by cases h; rfl
  | s :: r, zs, h => by
    unfold arrange at h
    split at h
    · rename_i x xs e1 e2
      cases h
      rw [List.length_cons, List.length_cons, arrange_len e2]
    · cases h
theorem arrange_vals {us ws ds : List V} {us' ws' ds' : List Value} (a : Vals us us') (b : Vals ws ws') (c : Vals ds ds') : ∀ {r : List Src} {zs : List V}, arrange us ws ds r = some zs → ∃ zs', arrange us' ws' ds' r = some zs' ∧ Vals zs zs'
  | [], _, h => by cases h; exact ⟨[], rfl, .nil⟩
  | s :: r, zs, h => by
    unfold arrange at h
    split at h
    · rename_i x xs e1 e2
      cases h
      obtain ⟨zs', h1, h2⟩ := arrange_vals a b c e2
      have : ∃ u, s.get us' ws' ds' = some u ∧ RelV x u := by
        cases s with
        | p i => exact a.get e1
        | k i => exact b.get e1
        | d i => exact c.get e1
      obtain ⟨u, h3, h4⟩ := this
      exact ⟨u :: zs', by unfold arrange; rw [h3, h1], .cons h4 h2⟩
    · cases h
theorem arrange_rel {g : Gh} {H : Hp} {us ws ds : List D} {us' ws' ds' : List V} (a : RelsS g H us us') (b : RelsS g H ws ws') (c : RelsS g H ds ds') : ∀ {r : List Src} {zs : List D}, arrange us ws ds r = some zs → ∃ zs', arrange us' ws' ds' r = some zs' ∧ RelsS g H zs zs'
  | [], _, h => by cases h; exact ⟨[], rfl, rfl⟩
  | s :: r, zs, h => by
    unfold arrange at h
    split at h
    · rename_i x xs e1 e2
      cases h
      obtain ⟨zs', h1, h2⟩ := arrange_rel a b c e2
      have : ∃ u, s.get us' ws' ds' = some u ∧ RelS g H x u := by
        cases s with
        | p i => exact a.get e1
        | k i => exact b.get e1
        | d i => exact c.get e1
      obtain ⟨u, h3, h4⟩ := this
      exact ⟨u :: zs', by unfold arrange; rw [h3, h1], ⟨u, zs', rfl, h4, h2⟩⟩
    · cases h

/-! ### what a def of the text promises: what its evaluation gives -/
def PostE {α : Type} (P : Program) (w : World) (E : XK) (g : Gh) (H : Hp) (r : R α) (K : Gh → Hp → α → Cells → Prop) : Prop := match r with
  | .ok a h' => ∀ g' H', Ext g H g' H' → HRel P w g' H' h' → K g' H' a h'
  | .exc e h' => ∀ g' H' cls d, Ext g H g' H' → HRel P w g' H' h' → ExcRel g' H' e cls d → E cls d H'
  | .bad => False
theorem PostE.eq {α : Type} {X : Cx} {G : Gx} {g : Gh} {H : Hp} {r : R α} {K : Gh → Hp → α → Cells → Prop} : PostE X.prog X.w G.Wx g H r K = Post X G g H r K := rfl
def spF (P : Program) (w : World) (K : PySem.W.Frag) (gA : Nat → Option Addr) (np : Nat) (F : List D → Cells → R D) : Sp := fun vs H Q E =>
  ∃ g h ds, g.K = K ∧ g.gA = gA ∧ HRel P w g H h ∧ RelsS g H ds vs ∧ ds.length = np ∧ PostE P w E g H (F ds h) fun g' H' d _ => ∀ v, RelS g' H' d v → Q v H'
theorem spF_len {P : Program} {w : World} {K : PySem.W.Frag} {gA : Nat → Option Addr} {np : Nat} {F : List D → Cells → R D} {vs : List V} {H : Hp} {Q : VK} {E : XK} (q : spF P w K gA np F vs H Q E) : vs.length = np := by
  obtain ⟨g, h, ds, _, _, _, q, e, _⟩ := q
  rw [← q.len, e]
/-- the def behind a global name, as it is called with n positional arguments and the keywords ks -/
structure CallOk (X : Cx) (G : Gx) (x : Str) (i n : Nat) (ks : List Str) (src : List Src) (dd : List D) : Prop where
  ex : ∃ (k : Nat) (f : Addr) (fd : FuncData) (ps : List Str) (dvs : List V) (dsV : List Value), X.mg x = some (.ref f) ∧ PySem.W.keepIn X.K (.ref f) = true ∧ Room k X.A ∧
    FnG X.prog X.w X.K X.mg X.base k f fd ps (spF X.prog X.w X.K G.gA ps.length (G.fns i)) ∧ Vals dvs dsV ∧ (∀ g H, GOk X G g → RelsS g H dd dvs) ∧ src.length = ps.length ∧
    ∀ (s : Shared) (us ws zs : List Value), X.K.In s.heap → us.length = n → ws.length = ks.length → arrange us ws dsV src = some zs → BindsTo s fd ⟨us, ks.zip ws⟩ (ps.zip zs)
def mkCall (i n nk : Nat) (src : List Src) (dd : List D) (fn : Fns) (ds ks : List D) (h : Cells) : R D :=
  if noBors ds && noBors ks && decide (ds.length = n) && decide (ks.length = nk) then match arrange ds ks dd src with
    | some zs => fn i zs h
    | none => .bad
  else .bad
def dCall (i n nk : Nat) (src : List Src) (dd : List D) (da dk : DA) : DE := fun fn env h => (da fn env h).bind fun ds h1 => (dk fn env h1).bind fun ks h2 => mkCall i n nk src dd fn ds ks h2
section
variable {X : Cx} {G : Gx} {x : Str} {i n : Nat} {ks : List Str} {src : List Src} {dd : List D} {es : List Expr} {kws : List Keyword} {da dk : DA} {p pos : Pos}
theorem PK.imp {kws : List Keyword} {t t' : TA} (h : PK X kws t) (k : ∀ σ H Q, t' σ H Q → t σ H Q) : PK X kws t' := ⟨fun pos pins s σ H Q I q => h.run pos pins s σ H Q I (k σ H Q q)⟩
theorem s_pkNil : PK X [] (tA X G daNil) := PK.imp pk_nil fun σ H Q ⟨g, own, env, h, og, r, l, p⟩ => Post.now r p _ rfl
theorem s_pkCons {nm : Option Str} {e : Expr} {de : DE} {kpos : Pos} (ha : PE X e (tD X G de)) (hr : PK X kws (tA X G dk)) : PK X (⟨nm, e, kpos⟩ :: kws) (tA X G (daCons de dk)) :=
  PK.imp (pk_cons ha hr) fun σ H Q p =>
    tG.bind (f := fun fn env d h1 => (dk fn env h1).bind fun ds h2 => R.ok (d :: ds) h2) p fun g own env h H1 d v og r l q p1 =>
      tG.mk og r l ((Post.bind p1).imp fun g2 H2 ds h2 e2 r2 p2 vs qs => Post.now r2 p2 (v :: vs) ⟨v, vs, rfl, RelT.ext r e2 q, qs⟩)
theorem RelsT.len {g : Gh} {H : Hp} : ∀ {ds : List D} {vs : List V}, RelsT g H ds vs → ds.length = vs.length
  | [], _, q => by cases (show _ = [] from q); rfl
  | d :: ds, _, q => by
    obtain ⟨y, rr, e1, _, e3⟩ := q
    rw [e1, List.length_cons, List.length_cons, RelsT.len e3]
theorem RelsT.ext' {g g' : Gh} {H H' : Hp} {h : Cells} (r : HRel X.prog X.w g H h) (e : Ext g H g' H') {ds : List D} {vs : List V} (q : RelsT g H ds vs) : RelsT g' H' ds vs := RelsT.ext r e q
/-- the call itself -/
theorem call_go {pins : List (Addr × Obj)} {σ : L2.St} {H : Hp} {s : Shared} {Q : VK} {g : Gh} {h : Cells} {ds kd : List D} {vs zs : List V} {us ws : List Value} (C : CallOk X G x i n ks src dd) (gu : X.A.guards = some []) (hx : Passes (L2.CX X.prog X.w) X G.Wx)
    (I : Inv X pins σ H s) (og : GOk X G g) (r : HRel X.prog X.w g H h) (q1 : RelsT g H ds vs) (q2 : RelsT g H kd zs) (r1 : Vals vs us) (r2 : Vals zs ws)
    (p : Post X G g H (mkCall i n ks.length src dd G.fns ds kd h) fun g' H' d _ => ∀ v, RelT g' H' d v → Q v H') :
    ∃ f, X.mg x = some (.ref f) ∧ PySem.W.keepIn X.K (.ref f) = true ∧ wpAny (model X.prog X.w) X.A (PySem.call (.ref f) us (ks.zip ws)) (EP X pins σ Q) X.xe s := by
  obtain ⟨k, f, fd, ps, dvs, dsV, hm, kp, rm, F, rd, hd, hl, hb⟩ := C.ex
  refine ⟨f, hm, kp, ?_⟩
  unfold mkCall at p
  split at p
  · rename_i hz
    simp only [Bool.and_eq_true, decide_eq_true_eq] at hz
    obtain ⟨⟨⟨z1, z2⟩, z3⟩, z4⟩ := hz
    split at p
    · rename_i as ea
      obtain ⟨bs, e1, t1⟩ := arrange_rel (q1.s z1) (q2.s z2) (hd g H og) ea
      obtain ⟨cs, e2, t2⟩ := arrange_vals r1 r2 rd e1
      have hbs := hb s us ws cs I.kIn (by rw [← r1.length, ← q1.len]; exact z3) (by rw [← r2.length, ← q2.len]; exact z4) e2
      have hsp : spF X.prog X.w X.K G.gA ps.length (G.fns i) bs H Q G.Wx := ⟨g, h, as, og.K, og.gA, r, t1, by rw [arrange_len ea, hl], Post.imp p fun g' H' d h' _ _ z v qv => z v qv.t⟩
      refine wpAny_call (codeAny_mono (F.go gu rm hx I hbs t2 hsp) fun res s' z => ?_)
      cases res with
      | error e => exact z
      | ok fl =>
        cases fl with
        | ret u => exact z
        | next => exact False.elim z
        | brk => exact False.elim z
        | cont => exact False.elim z
    · exact p.elim
  · exact p.elim
def kwNames (kws : List Keyword) : List (Option Str) := kws.map (·.arg)
theorem kw_names {pos : Pos} {env : Env} : ∀ {kws : List Keyword}, (backToKw pos (keywordEach kws env)).map (·.1) = kwNames kws
  | [] => rfl
  | ⟨nm, e, kp⟩ :: r => by
    have ih := @kw_names pos env r
    show nm :: (backToKw pos (keywordEach r env)).map (·.1) = nm :: kwNames r
    rw [ih]
theorem kw_facts : ∀ {ks : List Str} {l : List (Option Str × Sem Value)}, l.map (·.1) = ks.map some → l.all (·.1.isSome) = true ∧ l.filterMap (·.1) = ks ∧ l.any (·.1.isNone) = false
  | [], [], _ => ⟨rfl, rfl, rfl⟩
  | [], _ :: _, z => by cases z
  | _ :: _, [], z => by cases z
  | b :: ks, (y1, y2) :: l, z => by
    simp only [List.map_cons, List.cons.injEq] at z
    obtain ⟨z1, z2⟩ := z
    subst z1
    obtain ⟨i1, i2, i3⟩ := kw_facts z2
    refine ⟨?_, ?_, ?_⟩
    · rw [List.all_cons, i1]; rfl
    · rw [List.filterMap_cons]; simp only [i2]
    · rw [List.any_cons, i3]; rfl
theorem kw_all {pos : Pos} {env : Env} {kws : List Keyword} {ks : List Str} (h : kwNames kws = ks.map some) : (backToKw pos (keywordEach kws env)).all (·.1.isSome) = true ∧ (backToKw pos (keywordEach kws env)).filterMap (·.1) = ks ∧ (backToKw pos (keywordEach kws env)).any (·.1.isNone) = false :=
  kw_facts (by rw [kw_names, h])
theorem s_call (C : CallOk X G x i n ks src dd) (gu : X.A.guards = some []) (hx : Passes (L2.CX X.prog X.w) X G.Wx) (hg : Gl X x) (hdb : (x == ("__debug__" : Str)) = false) (ha : PA X es (tA X G da)) (hk : PK X kws (tA X G dk)) (hn : kwNames kws = ks.map some) (hst : noStars es = true) (h0 : es = [] → da = daNil) :
    PE X (.Call (.Name x p) es kws pos) (tD X G (dCall i n ks.length src dd da dk)) := by
  obtain ⟨w1, w2, w3⟩ := kw_all (pos := pos) (env := X.env) hn
  obtain ⟨k, f, fd, ps, dvs, dsV, hm, kp, _⟩ := C.ex
  refine ⟨fun pins s σ H Q I hq => ?_⟩
  refine wpAny_Call_Name_kw (ld_glob I hg hm ?_ hdb)
  obtain ⟨g, own, env, h, og, r, l, p0⟩ := hq
  -- the arguments, then the keywords, then the call
  have fin : ∀ {us : List Value} {s1 : Shared}, AP X pins σ (fun vs H1 => ∃ g1 ds h1, GOk X G g1 ∧ HRel X.prog X.w g1 H1 h1 ∧ LR g1 own env σ H1 ∧ RelsT g1 H1 ds vs ∧ Post X G g1 H1 ((dk G.fns env h1).bind fun ks' h2 => mkCall i n ks.length src dd G.fns ds ks' h2) fun g' H' d _ => ∀ v, RelT g' H' d v → Q v H') us s1 →
      wpAny (model X.prog X.w) X.A (evalAll ((backToKw pos (keywordEach kws X.env)).map (·.2))) (fun ws s2 => X.K.In s2.heap ∧ wpAny (model X.prog X.w) X.A (PySem.call (.ref f) us (ks.zip ws)) (EP X pins σ Q) X.xe s2) X.xe s1 := by
    rintro us s1 ⟨vs, H1, I1, rv, g1, ds, h1, og1, r1, l1, q1, p1⟩
    refine thn (hk.run pos pins s1 σ H1 (fun zs H2 => ∃ g2 kd h2, GOk X G g2 ∧ HRel X.prog X.w g2 H2 h2 ∧ RelsT g2 H2 ds vs ∧ RelsT g2 H2 kd zs ∧ Post X G g2 H2 (mkCall i n ks.length src dd G.fns ds kd h2) fun g' H' d _ => ∀ v, RelT g' H' d v → Q v H') I1
      (tG.mk og1 r1 l1 ((Post.bind p1).imp fun g2 H2 kd h2 e2 r2 p2 zs qz => ⟨g2, kd, h2, og1.ext e2, r2, RelsT.ext r1 e2 q1, qz, p2⟩))) fun ws s2 ⟨zs, H2, I2, rz, g2, kd, h2, og2, r2, q2, qz, p2⟩ => ⟨I2.kIn, ?_⟩
    obtain ⟨f', hm', _, run⟩ := call_go C gu hx I2 og2 r2 q2 qz rv rz p2
    rw [hm] at hm'; cases hm'
    exact run
  have args : tA X G da σ H (fun vs H1 => ∃ g1 ds h1, GOk X G g1 ∧ HRel X.prog X.w g1 H1 h1 ∧ LR g1 own env σ H1 ∧ RelsT g1 H1 ds vs ∧ Post X G g1 H1 ((dk G.fns env h1).bind fun ks' h2 => mkCall i n ks.length src dd G.fns ds ks' h2) fun g' H' d _ => ∀ v, RelT g' H' d v → Q v H') :=
    tG.mk og r l ((Post.bind p0).imp fun g1 H1 ds h1 e1 r1 p1 vs qv => ⟨g1, ds, h1, og.ext e1, r1, l.step r e1, qv, p1⟩)
  cases es with
  | nil =>
    refine PySem.W.callWith_KW0 (h₀ := X.base) I.ok.mod.kin kp w1 ?_ (by rw [w3]; rfl)
    rw [w2]
    have e := h0 rfl
    subst e
    exact fin (us := []) (s1 := s) ⟨[], H, I, .nil, g, [], h, og, r, l, rfl, p0⟩
  | cons e r' =>
    simp only [noStars, List.all_cons, Bool.and_eq_true] at hst
    refine PySem.W.callWith_KW (h₀ := X.base) I.ok.mod.kin kp w1 (thn (ha.run pos pins s σ H _ I args) fun us s1 z => ?_) ?_ (star_cons (by simpa using hst.1))
    · rw [w2]
      exact fin z
    · rw [w3, Bool.or_false]
      exact backTo_any (stars_any (es := e :: r') (by simp only [noStars, List.all_cons, Bool.and_eq_true]; exact hst))
end
end EV
/-! EV7: statements -/
namespace EV
open PySem L2

/-- where a statement leads -/
inductive Fl where
  | nx | rt (d : D) | bk | ct
abbrev DS := Fns → Ev → Cells → R (Fl × Ev)
/-- the state of a def since its entry -/
structure Ent (g0 : Gh) (H0 : Hp) (g : Gh) (H : Hp) (own : Nat → Option Addr) : Prop where
  ext : Ext g0 H0 g H
  new : ∀ i a, own i = some a → H0 a = none
def FlE (g : Gh) (σ : L2.St) (H : Hp) (D : Ends) : Fl → Prop
  | .nx => D.nx σ H
  | .rt d => ∀ v, RelS g H d v → D.rt v H
  | .bk => D.bk σ H
  | .ct => D.ct σ H
/-- what is wanted behind a statement that began at g H -/
def PostS (X : Cx) (G : Gx) (g0 : Gh) (H0 : Hp) (g : Gh) (H : Hp) (r : R (Fl × Ev)) (D : Ends) : Prop := match r with
  | .ok (fl, env') h' => ∀ g' own' H' σ', GOk X G g' → HRel X.prog X.w g' H' h' → LR g' own' env' σ' H' → Ent g0 H0 g' H' own' → ExtS g H g' H' → FlE g' σ' H' D fl
  | .exc e h' => ∀ g' H' cls d, Ext g0 H0 g' H' → HRel X.prog X.w g' H' h' → ExcRel g' H' e cls d → G.Wx cls d H'
  | .bad => False
def tS (X : Cx) (G : Gx) (g0 : Gh) (H0 : Hp) (ds : DS) : TS := fun D σ H =>
  ∃ g own env h, GOk X G g ∧ HRel X.prog X.w g H h ∧ LR g own env σ H ∧ Ent g0 H0 g H own ∧ PostS X G g0 H0 g H (ds G.fns env h) D
section
variable {X : Cx} {G : Gx} {g0 g g' : Gh} {H0 H H' : Hp} {h h' : Cells} {own : Nat → Option Addr} {env : Ev} {σ : L2.St}
theorem PostS.mono {r : R (Fl × Ev)} {D : Ends} (p : PostS X G g0 H0 g H r D) (e : ExtS g H g' H') : PostS X G g0 H0 g' H' r D := by
  cases r with
  | ok a h' =>
    obtain ⟨fl, env'⟩ := a
    exact fun g2 own2 H2 σ2 o2 r2 l2 n2 e2 => p g2 own2 H2 σ2 o2 r2 l2 n2 (e.trans e2)
  | exc x h' => exact p
  | bad => exact p
theorem Ent.step (n : Ent g0 H0 g H own) (e : Ext g H g' H') : Ent g0 H0 g' H' own := ⟨n.ext.trans e, n.new⟩
/-- an expression, then what the statement does -/
theorem Post.stmt {α : Type} {r : R α} {f : α → Cells → R (Fl × Ev)} {D : Ends} (rr : HRel X.prog X.w g H h) (n : Ent g0 H0 g H own) (p : PostS X G g0 H0 g H (r.bind f) D) :
    Post X G g H r fun g1 H1 a h1 => PostS X G g0 H0 g1 H1 (f a h1) D := by
  cases r with
  | ok a h' => exact fun g2 H2 e2 r2 => PostS.mono (show PostS X G g0 H0 g H (f a h') D from p) (e2.s rr)
  | exc x h' => exact fun g2 H2 c d e2 r2 q => p g2 H2 c d (n.ext.trans e2) r2 q
  | bad => exact p
theorem PostS.now {env' : Ev} {fl : Fl} {D : Ends} (p : PostS X G g0 H0 g H (.ok (fl, env') h) D) (o : GOk X G g) (r : HRel X.prog X.w g H h) (l : LR g own env' σ H) (n : Ent g0 H0 g H own) : FlE g σ H D fl :=
  p g own H σ o r l n (ExtS.refl g H)

/-! ### blocks -/
def sNext : DS := fun _ env h => .ok (.nx, env) h
def sSeq (a b : DS) : DS := fun fn env h => (a fn env h).bind fun x h1 => match x.1 with
  | .nx => b fn x.2 h1
  | _ => .ok x h1
variable {st : Stmt} {rest : List Stmt} {da db : DS} {pos : Pos}
theorem ss_nil : PSs X [] (tS X G g0 H0 sNext) := PSs.imp pss_nil fun D σ H ⟨g, own, env, h, o, r, l, n, p⟩ => p.now o r l n
theorem s_pass : PS X (.Pass pos) (tS X G g0 H0 sNext) := PS.imp ps_pass fun D σ H ⟨g, own, env, h, o, r, l, n, p⟩ => p.now o r l n
theorem s_seq {D : Ends} (p : tS X G g0 H0 (sSeq da db) D σ H) : tSeq (tS X G g0 H0 da) (tS X G g0 H0 db) D σ H := by
  obtain ⟨g, own, env, h, o, r, l, n, p⟩ := p
  refine ⟨g, own, env, h, o, r, l, n, ?_⟩
  unfold sSeq at p
  cases e : da G.fns env h with
  | bad => rw [e] at p; exact p
  | exc x h' => rw [e] at p; exact p
  | ok a h' =>
    rw [e] at p
    obtain ⟨fl, env'⟩ := a
    cases fl with
    | nx => exact fun g2 own2 H2 σ2 o2 r2 l2 n2 e2 => ⟨g2, own2, env', h', o2, r2, l2, n2, PostS.mono p e2⟩
    | rt d => exact p
    | bk => exact p
    | ct => exact p
theorem ss_cons (h1 : PS X st (tS X G g0 H0 da)) (h2 : PSs X rest (tS X G g0 H0 db)) : PSs X (st :: rest) (tS X G g0 H0 (sSeq da db)) := PSs.imp (pss_cons h1 h2) fun _ _ _ p => s_seq p
theorem ss_one (h1 : PS X st (tS X G g0 H0 da)) : PSs X [st] (tS X G g0 H0 da) := pss_one h1
def sBreak : DS := fun _ env h => .ok (.bk, env) h
def sCont : DS := fun _ env h => .ok (.ct, env) h
theorem s_break : PS X (.Break pos) (tS X G g0 H0 sBreak) := PS.imp ps_break fun D σ H ⟨g, own, env, h, o, r, l, n, p⟩ => p.now o r l n
theorem s_cont : PS X (.Continue pos) (tS X G g0 H0 sCont) := PS.imp ps_continue fun D σ H ⟨g, own, env, h, o, r, l, n, p⟩ => p.now o r l n

/-! ### expressions in statements -/
/-- the expression's reading, ahead of a statement -/
theorem tS.expr {α β : Type} {Rel : Gh → Hp → α → β → Prop} {de : Fns → Ev → Cells → R α} {f : Fns → Ev → α → Cells → R (Fl × Ev)} {D : Ends} {T : β → Hp → Prop}
    (p : tS X G g0 H0 (fun fn env h => (de fn env h).bind fun a h1 => f fn env a h1) D σ H)
    (k : ∀ g own env h H1 a v, GOk X G g → HRel X.prog X.w g H1 h → LR g own env σ H1 → Ent g0 H0 g H1 own → Rel g H1 a v → PostS X G g0 H0 g H1 (f G.fns env a h) D → T v H1) : tG Rel X G de σ H T := by
  obtain ⟨g, own, env, h, o, r, l, n, p⟩ := p
  refine ⟨g, own, env, h, o, r, l, (Post.stmt r n p).imp fun g1 H1 a h1 e1 r1 p1 v q => ?_⟩
  exact k g own env h1 H1 a v |> fun z => k g1 own env h1 H1 a v (o.ext e1) r1 (l.step r e1) (n.step e1) q p1
variable {e : Expr} {de : DE}
def sRet (a : DE) : DS := fun fn env h => (a fn env h).bind fun d h1 => if isBor d then .bad else .ok (.rt d, env) h1
def sRetN : DS := fun _ env h => .ok (.rt .non, env) h
def sExpr (a : DE) : DS := fun fn env h => (a fn env h).bind fun _ h1 => .ok (.nx, env) h1
theorem s_ret (he : PE X e (tD X G de)) : PS X (.Return (some e) pos) (tS X G g0 H0 (sRet de)) :=
  PS.imp (ps_ret he) fun D σ H p => tS.expr (f := fun fn env d h1 => if isBor d then R.bad else .ok (Fl.rt d, env) h1) p fun g own env h H1 d v o r l n q p1 => by
    split at p1
    · exact p1.elim
    · rename_i nb
      exact p1.now o r l n v (q.s (by simpa using nb))
theorem s_retN : PS X (.Return none pos) (tS X G g0 H0 sRetN) := PS.imp ps_retN fun D σ H ⟨g, own, env, h, o, r, l, n, p⟩ => p.now o r l n .non rfl
theorem s_expr (he : PE X e (tD X G de)) (hs : swapsWith e none pos.line X.env = pure false) : PS X (.Expr e pos) (tS X G g0 H0 (sExpr de)) :=
  PS.imp (ps_expr he hs) fun D σ H p => tS.expr (f := fun fn env d h1 => R.ok (Fl.nx, env) h1) p fun g own env h H1 d v o r l n q p1 => p1.now o r l n
def sIf (t : DT) (a b : DS) : DS := fun fn env h => (t fn env h).bind fun k h1 => if k = true then a fn env h1 else b fn env h1
theorem s_ifS {c : Expr} {a b : List Stmt} {t : DT} (hc : PT X c (tT X G t)) (ha : PSs X a (tS X G g0 H0 da)) (hb : PSs X b (tS X G g0 H0 db)) : PS X (.If c a b pos) (tS X G g0 H0 (sIf t da db)) :=
  PS.imp (ps_if hc ha hb) fun D σ H p => tS.expr (f := fun fn env k h1 => if k = true then da fn env h1 else db fn env h1) p fun g own env h H1 k v o r l n q p1 => by
    subst q
    cases v with
    | true => exact ⟨g, own, env, h, o, r, l, n, p1⟩
    | false => exact ⟨g, own, env, h, o, r, l, n, p1⟩

/-! ### stores to names -/
/-- slot i has a value -/
theorem LR.val (l : LR g own env σ H) {i : Nat} {d : D} {v : V} (hi : i < env.length) (q : RelS g H d v) : LR g (fun j => if j = i then none else own j) (env.set i (.val d)) (σ.set i (some v)) H where
  len := by rw [List.length_set, List.length_set, l.len]
  inj := fun a b x h1 h2 => by
    by_cases ha : a = i
    · rw [if_pos ha] at h1; cases h1
    · by_cases hb : b = i
      · rw [if_pos hb] at h2; cases h2
      · rw [if_neg ha] at h1; rw [if_neg hb] at h2
        exact l.inj a b x h1 h2
  ow := fun a x h1 => by
    by_cases ha : a = i
    · rw [if_pos ha] at h1; cases h1
    · rw [if_neg ha] at h1; exact l.ow a x h1
  sl := fun j s h1 => by
    by_cases hj : j = i
    · subst hj
      rw [List.getElem?_set_self hi] at h1
      cases h1
      exact ⟨v, by rw [List.getElem?_set_self (by rw [← l.len]; exact hi)], q⟩
    · rw [List.getElem?_set_ne (Ne.symm hj)] at h1
      have z := l.sl j s h1
      cases s with
      | no => trivial
      | val d' =>
        obtain ⟨u, z1, z2⟩ := z
        exact ⟨u, by rw [List.getElem?_set_ne (Ne.symm hj)]; exact z1, z2⟩
      | own ds =>
        obtain ⟨a, xs, z1, z2, z3, z4⟩ := z
        exact ⟨a, xs, by simp only [if_neg hj]; exact z1, by rw [List.getElem?_set_ne (Ne.symm hj)]; exact z2, z3, z4⟩
theorem Ent.less (n : Ent g0 H0 g H own) (i : Nat) : Ent g0 H0 g H (fun j => if j = i then none else own j) := ⟨n.ext, fun a x h1 => by
  by_cases ha : a = i
  · simp only [if_pos ha] at h1; cases h1
  · simp only [if_neg ha] at h1; exact n.new a x h1⟩
def setV (i : Nat) (d : D) (env : Ev) (h : Cells) : R (Fl × Ev) := if isBor d || decide (env.length ≤ i) then .bad else .ok (.nx, env.set i (.val d)) h
def sSet (i : Nat) (a : DE) : DS := fun fn env h => (a fn env h).bind fun d h1 => setV i d env h1
theorem setV_ok {i : Nat} {d : D} {v : V} {D : Ends} (o : GOk X G g) (r : HRel X.prog X.w g H h) (l : LR g own env σ H) (n : Ent g0 H0 g H own) (q : RelT g H d v) (p : PostS X G g0 H0 g H (setV i d env h) D) : D.nx (σ.set i (some v)) H := by
  unfold setV at p
  split at p
  · exact p.elim
  · rename_i z
    simp only [Bool.or_eq_true, decide_eq_true_eq, not_or, Bool.not_eq_true] at z
    exact p.now o r (l.val (by omega) (q.s z.1)) (n.less i)
theorem s_set {i : Nat} {x : Str} {pos' : Pos} (hN : X.N.Nodup) (hi : X.N[i]? = some x) (hx : Loc X.env.scope x) (he : PE X e (tD X G de)) (hs : swapsWith e (some (.Name x pos')) pos.line X.env = pure false) (hf : X.fn x = true ∨ X.env.scope.names.lookup x = some .local) :
    PS X (.Assign [.Name x pos'] e pos) (tS X G g0 H0 (sSet i de)) :=
  PS.imp (ps_set hN hi hx he hs hf) fun D σ H p => tS.expr (f := fun fn env d h1 => setV i d env h1) p fun g own env h H1 d v o r l n q p1 => setV_ok o r l n q p1
end
end EV
/-! EV8: new lists, what is walked, targets, for -/
namespace EV
open PySem L2

abbrev DF := Fns → Ev → Cells → R (List D)
/-- an expression whose value is a new list of its own -/
def tF (X : Cx) (G : Gx) (df : DF) : TE := fun σ H Q => ∃ g own env h, GOk X G g ∧ HRel X.prog X.w g H h ∧ LR g own env σ H ∧
  Post X G g H (df G.fns env h) fun g' H' ds _ => ∀ p xs, H p = none → g'.W p → p ∉ g'.ρ → H' p = some (.lst xs) → RelsS g' H' ds xs → Q (.ref p) H'
/-- p may be written -/
def Gh.plus (g : Gh) (p : Addr) : Gh := { g with W := fun a => g.W a ∨ a = p }
section
variable {X : Cx} {G : Gx} {g g' : Gh} {H H' : Hp} {h h' : Cells} {own : Nat → Option Addr} {env : Ev} {σ : L2.St} {ds : List D} {xs : List V} {p : Addr}
theorem Ext.back (r : HRel X.prog X.w g H h) (r' : HRel X.prog X.w g' H' h') (e : Ext g H g' H') (hp : H' p = none) : H p = none := by
  cases q : H p with
  | none => rfl
  | some o =>
    by_cases m : p ∈ g.ρ
    · obtain ⟨u, hu, _⟩ := r'.mem (e.mem m)
      rw [hp] at hu; cases hu
    · rw [e.fr p o q m] at hp; cases hp
theorem Ext.plus (r : HRel X.prog X.w g H h) {o : HO} (hp : H p = none) : Ext g H (g.plus p) (upd H p o) where
  K := rfl
  gA := rfl
  pre := ⟨[], by simp [Gh.plus]⟩
  wn := fun a z => by
    rcases z with z | z
    · exact .inl z
    · exact .inr (by rw [z]; exact hp)
  wk := fun a z => .inl (.inl z)
  rw := fun a m => .inl (r.wr a m)
  fr := fun a u z _ => by rw [upd_ne (ne_of_none z hp)]; exact z
  nw := fun a m n => absurd m n
theorem HRel.plus (r : HRel X.prog X.w g H h) (hp : H p = none) : HRel X.prog X.w (g.plus p) (upd H p (.lst xs)) h where
  len := r.len
  nd := r.nd
  wr := fun a m => .inl (r.wr a m)
  wt := fun a u h1 h2 => by
    by_cases z : a = p
    · rw [z, upd_same] at h2
      cases h2
      exact ⟨(fun ys z => by cases z), (fun _ _ z => by cases z)⟩
    · rw [upd_ne z] at h2
      rcases h1 with h1 | h1
      · exact r.wt a u h1 h2
      · exact absurd h1 z
  at_ := fun n a c h1 h2 => by
    refine (r.at_ n a c h1 h2).ext r (Ext.plus r hp) ?_
    obtain ⟨u, hu, _⟩ := r.mem (List.mem_of_getElem? h1)
    exact upd_ne (ne_of_none hu hp)
/-- a new list has been laid -/
theorem fresh_now {g1 : Gh} {H1 : Hp} {h1 : Cells} {Q : VK} (r : HRel X.prog X.w g H h) (e : Ext g H g1 H1) (r1 : HRel X.prog X.w g1 H1 h1) (q : RelsS g1 H1 ds xs)
    (k : Post X G g1 H1 (.ok ds h1) fun g' H' ds _ => ∀ p xs, H p = none → g'.W p → p ∉ g'.ρ → H' p = some (.lst xs) → RelsS g' H' ds xs → Q (.ref p) H') : ∀ p, H1 p = none → Q (.ref p) (upd H1 p (.lst xs)) := fun p hp =>
  k _ _ (Ext.plus r1 hp) (r1.plus hp) p xs (e.back r r1 hp) (.inr rfl) (fun m => by
    obtain ⟨u, hu, _⟩ := r1.mem (show p ∈ g1.ρ from m)
    rw [hp] at hu; cases hu) upd_same (RelsS.ext r1 (Ext.plus r1 hp) q)
theorem ExtS.less : ExtS g H (g.less p) H := ⟨rfl, rfl, ⟨[], by simp [Gh.less]⟩, fun a z => .inl z.1, fun _ _ z _ => z⟩
theorem HRel.less (r : HRel X.prog X.w g H h) (hp : p ∉ g.ρ) : HRel X.prog X.w (g.less p) H h where
  len := r.len
  nd := r.nd
  wr := fun a m => ⟨r.wr a m, fun z => hp (z ▸ m)⟩
  wt := fun a u h1 h2 => r.wt a u h1.1 h2
  at_ := fun n a c h1 h2 => (r.at_ n a c h1 h2).exts r ExtS.less rfl
theorem Ext.lessNew (e : Ext g H g' H') (hp : H p = none) (hn : p ∉ g'.ρ) : Ext g H (g'.less p) H' where
  K := e.K
  gA := e.gA
  pre := e.pre
  wn := fun a z => e.wn a z.1
  wk := fun a z => by
    by_cases q : a = p
    · exact .inr (by rw [q]; exact hp)
    · exact (e.wk a z).imp (fun z => ⟨z, q⟩) id
  rw := fun a m => ⟨e.rw a m, fun z => hn (z ▸ m)⟩
  fr := e.fr
  nw := e.nw
/-- by value -/
def asVal (df : DF) : DE := fun fn env h => (df fn env h).bind fun ds h1 => .ok (.lst ds) h1
theorem tF.val {df : DF} {Q : VK} (q : tD X G (asVal df) σ H Q) : tF X G df σ H Q := by
  obtain ⟨g, own, env, h, o, r, l, q⟩ := q
  refine ⟨g, own, env, h, o, r, l, ?_⟩
  unfold asVal at q
  cases e : df G.fns env h with
  | bad => rw [e] at q; exact q.elim
  | exc x h' => rw [e] at q; exact q
  | ok ds h' =>
    rw [e] at q
    intro g' H' e' r' p xs h1 h2 h3 h4 h5
    exact q (g'.less p) H' (e'.lessNew h1 h3) (r'.less h3) _ ⟨p, xs, rfl, ⟨h4, fun z => z.2 rfl⟩, RelsS.exts r' ExtS.less h5⟩
/-- in a cell -/
def asCell (df : DF) : DE := fun fn env h => (df fn env h).bind fun ds h1 => .ok (.obj h1.length) (h1 ++ [.lst ds])
def Gh.cellAt (g : Gh) (p : Addr) : Gh := { g with ρ := g.ρ ++ [p] }
theorem ExtS.cellAt : ExtS g H (g.cellAt p) H := ⟨rfl, rfl, ⟨[p], rfl⟩, fun a z => .inl z, fun _ _ z _ => z⟩
theorem HRel.cellAt (r : HRel X.prog X.w g H h) (hw : g.W p) (hn : p ∉ g.ρ) {c : OB} (q : CellRel X.prog X.w (g.cellAt p) H p c) : HRel X.prog X.w (g.cellAt p) H (h ++ [c]) where
  len := by show (g.ρ ++ [p]).length = _; rw [List.length_append, List.length_append, r.len]; rfl
  nd := by
    show (g.ρ ++ [p]).Nodup
    rw [List.nodup_append]
    refine ⟨r.nd, by simp, fun a m b hb e => ?_⟩
    have : b = p := by simpa using hb
    exact hn (by rw [← this, ← e]; exact m)
  wr := fun a m => (List.mem_append.mp (show a ∈ g.ρ ++ [p] from m)).elim (fun m => r.wr a m) fun m => by
    have : a = p := by simpa using m
    rw [this]; exact hw
  wt := r.wt
  at_ := fun n a c' h1 h2 => by
    have h1 : (g.ρ ++ [p])[n]? = some a := h1
    by_cases hn : n < g.ρ.length
    · rw [List.getElem?_append_left hn] at h1
      rw [List.getElem?_append_left (by rw [← r.len]; exact hn)] at h2
      exact (r.at_ n a c' h1 h2).exts r ExtS.cellAt rfl
    · rw [List.getElem?_append_right (by omega)] at h1
      rw [List.getElem?_append_right (by rw [← r.len]; omega)] at h2
      have e : n = g.ρ.length := by
        have := (List.getElem?_eq_some_iff.mp h1).1
        simp at this; omega
      subst e
      rw [← r.len, Nat.sub_self] at h2
      rw [Nat.sub_self] at h1
      simp at h1 h2
      subst h1; subst h2
      exact q
theorem Ext.cellNew (e : Ext g H g' H') (hp : H p = none) (hw : g'.W p) : Ext g H (g'.cellAt p) H' where
  K := e.K
  gA := e.gA
  pre := by
    obtain ⟨t, z⟩ := e.pre
    exact ⟨t ++ [p], by show g'.ρ ++ [p] = _; rw [z, List.append_assoc]⟩
  wn := e.wn
  wk := e.wk
  rw := fun a m => (List.mem_append.mp (show a ∈ g'.ρ ++ [p] from m)).elim (fun m => e.rw a m) fun m => by
    have : a = p := by simpa using m
    rw [this]; exact hw
  fr := e.fr
  nw := fun a m n => (List.mem_append.mp (show a ∈ g'.ρ ++ [p] from m)).elim (fun m => e.nw a m n) fun m => by
    have : a = p := by simpa using m
    rw [this]; exact hp
theorem tF.cell {df : DF} {Q : VK} (q : tD X G (asCell df) σ H Q) : tF X G df σ H Q := by
  obtain ⟨g, own, env, h, o, r, l, q⟩ := q
  refine ⟨g, own, env, h, o, r, l, ?_⟩
  unfold asCell at q
  cases e : df G.fns env h with
  | bad => rw [e] at q; exact q.elim
  | exc x h' => rw [e] at q; exact q
  | ok ds h' =>
    rw [e] at q
    intro g' H' e' r' p xs h1 h2 h3 h4 h5
    refine q (g'.cellAt p) H' (e'.cellNew h1 h2) (r'.cellAt h2 h3 (c := .lst ds) ⟨xs, h4, RelsS.exts r' ExtS.cellAt h5⟩) _ ⟨p, rfl, ?_⟩
    show (g'.ρ ++ [p])[h'.length]? = _
    rw [← r'.len, List.getElem?_append_right (Nat.le_refl _), Nat.sub_self]; rfl
theorem PE.val {e : Expr} {df : DF} (he : PE X e (tF X G df)) : PE X e (tD X G (asVal df)) := PE.imp he fun _ _ _ q => tF.val q
theorem PE.cell {e : Expr} {df : DF} (he : PE X e (tF X G df)) : PE X e (tD X G (asCell df)) := PE.imp he fun _ _ _ q => tF.cell q
/-- in a slot of its own -/
def sOwn (i : Nat) (df : DF) : DS := fun fn env h => (df fn env h).bind fun ds h1 => if decide (env.length ≤ i) then .bad else .ok (.nx, env.set i (.own ds)) h1
variable {g0 : Gh} {H0 : Hp}
theorem LR.own' (l : LR g own env σ H) {i : Nat} (hi : i < env.length) (hw : g.W p) (hn : p ∉ g.ρ) (hH : H p = some (.lst xs)) (q : RelsS g H ds xs) (un : ∀ j, own j ≠ some p) :
    LR g (fun j => if j = i then some p else own j) (env.set i (.own ds)) (σ.set i (some (.ref p))) H where
  len := by rw [List.length_set, List.length_set, l.len]
  inj := fun a b x h1 h2 => by
    by_cases ha : a = i
    · by_cases hb : b = i
      · rw [ha, hb]
      · simp only [if_pos ha] at h1; simp only [if_neg hb] at h2
        cases h1
        exact absurd h2 (un b)
    · by_cases hb : b = i
      · simp only [if_neg ha] at h1; simp only [if_pos hb] at h2
        cases h2
        exact absurd h1 (un a)
      · simp only [if_neg ha] at h1; simp only [if_neg hb] at h2
        exact l.inj a b x h1 h2
  ow := fun a x h1 => by
    by_cases ha : a = i
    · simp only [if_pos ha] at h1; cases h1
      exact ⟨hw, hn, _, hH⟩
    · simp only [if_neg ha] at h1; exact l.ow a x h1
  sl := fun j s h1 => by
    by_cases hj : j = i
    · subst hj
      rw [List.getElem?_set_self hi] at h1
      cases h1
      exact ⟨p, xs, by simp, by rw [List.getElem?_set_self (by rw [← l.len]; exact hi)], hH, q⟩
    · rw [List.getElem?_set_ne (Ne.symm hj)] at h1
      have z := l.sl j s h1
      cases s with
      | no => trivial
      | val d' =>
        obtain ⟨u, z1, z2⟩ := z
        exact ⟨u, by rw [List.getElem?_set_ne (Ne.symm hj)]; exact z1, z2⟩
      | own ds =>
        obtain ⟨a, xs, z1, z2, z3, z4⟩ := z
        exact ⟨a, xs, by simp only [if_neg hj]; exact z1, by rw [List.getElem?_set_ne (Ne.symm hj)]; exact z2, z3, z4⟩
theorem own_of {D : Ends} {i : Nat} {σ : L2.St} {H : Hp} {df : DF} (q : tS X G g0 H0 (sOwn i df) D σ H) : tAsg (tF X G df) (gName i) D σ H := by
  obtain ⟨g, own, env, h, o, r, l, n, q⟩ := q
  refine ⟨g, own, env, h, o, r, l, (Post.stmt r n q).imp fun g' H' ds h' e' r' q' p xs h1 h2 h3 h4 h5 => ?_⟩
  split at q'
  · exact q'.elim
  · rename_i z
    have l' := l.step r e'
    have un : ∀ j, own j ≠ some p := fun j hj => by
      obtain ⟨_, _, u, hu⟩ := l.ow j p hj
      rw [h1] at hu; cases hu
    refine q'.now (o.ext e') r' (l'.own' (by simpa using z) h2 h3 h4 h5 un) ⟨n.ext.trans e', fun a x hx => ?_⟩
    by_cases ha : a = i
    · simp only [if_pos ha] at hx; cases hx
      cases q0 : H0 p with
      | none => rfl
      | some u =>
        by_cases m : p ∈ g0.ρ
        · obtain ⟨u', hu', _⟩ := r.mem (n.ext.mem m)
          rw [h1] at hu'; cases hu'
        · rw [n.ext.fr p u q0 m] at h1; cases h1
    · simp only [if_neg ha] at hx; exact n.new a x hx
theorem s_own {i : Nat} {x : Str} {pos pos' : Pos} {e : Expr} {df : DF} (hN : X.N.Nodup) (hi : X.N[i]? = some x) (hx : Loc X.env.scope x) (he : PE X e (tF X G df)) (hs : swapsWith e (some (.Name x pos')) pos.line X.env = pure false) (hf : X.fn x = true ∨ X.env.scope.names.lookup x = some .local) :
    PS X (.Assign [.Name x pos'] e pos) (tS X G g0 H0 (sOwn i df)) :=
  PS.imp (ps_set hN hi hx he hs hf) fun D σ H q => own_of q
/-- a display as a new list -/
def dDisp (da : DA) : DF := fun fn env h => (da fn env h).bind fun ds h1 => if noBors ds && decide (ds.length ≤ szL) then .ok ds h1 else .bad
theorem s_disp {es : List Expr} {pos : Pos} {dr : DA} (ha : PA X es (tA X G dr)) : PE X (.List es pos) (tF X G (dDisp dr)) :=
  PE.imp (pe_lst ha) fun σ H Q ⟨g, own, env, h, o, r, l, q⟩ => by
    refine ⟨g, own, env, h, o, r, l, (Post.bind q).imp fun g1 H1 ds h1 e1 r1 q1 vs qv => ?_⟩
    split at q1
    · rename_i hz
      rw [Bool.and_eq_true, decide_eq_true_eq] at hz
      have q' := qv.s hz.1
      exact ⟨by rw [lineE, ← q'.len]; exact hz.2, fresh_now r e1 r1 q' q1⟩
    · exact q1.elim
end
end EV
/-! EV9: what is walked; targets; for -/
namespace EV
open PySem L2

/-- an iterator that gives these items, whatever is written in the meantime -/
structure ItOk (X : Cx) (J : It) (g : Gh) (H : Hp) (ds : List D) : Prop where
  goes : ∀ g' H' h' i, i < ds.length → ExtS g H g' H' → HRel X.prog X.w g' H' h' → J.go i H'
  stops : ∀ g' H' h', ExtS g H g' H' → HRel X.prog X.w g' H' h' → J.stop ds.length H'
  yields : ∀ g' H' h' i x H'', i < ds.length → ExtS g H g' H' → HRel X.prog X.w g' H' h' → J.yld i H' x H'' → ∃ g'' d, Ext g' H' g'' H'' ∧ HRel X.prog X.w g'' H'' h' ∧ ds[i]? = some d ∧ RelS g'' H'' d x
def tI (X : Cx) (G : Gx) (di : DF) : TI := fun σ H R => ∃ g own env h, GOk X G g ∧ HRel X.prog X.w g H h ∧ LR g own env σ H ∧ Post X G g H (di G.fns env h) fun g' H' ds _ => ∀ J, ItOk X J g' H' ds → R J H'
theorem PI.imp {X : Cx} {tg e : Expr} {t t' : TI} (h : PI X tg e t) (k : ∀ σ H R, t' σ H R → t σ H R) : PI X tg e t' := ⟨fun pins s σ H R I q => h.run pins s σ H R I (k σ H R q)⟩
section
variable {X : Cx} {G : Gx} {g g' : Gh} {H H' : Hp} {h h' : Cells} {own : Nat → Option Addr} {env : Ev} {σ : L2.St} {ds : List D} {xs : List V} {a : Addr} {tg e : Expr} {da : DE}
/-- a list that stands still -/
theorem it_list (r : HRel X.prog X.w g H h) (st : ∀ g' H', ExtS g H g' H' → SqL X.K H' a xs) (q : RelsS g H ds xs) : ItOk X (Itl X.K a) g H ds where
  goes := fun g' H' h' i hi e r' => by
    have z := st g' H' e
    rw [q.len] at hi
    exact ⟨xs, xs[i], z, by simp [hi]⟩
  stops := fun g' H' h' e r' => ⟨xs, st g' H' e, by rw [q.len]; exact Nat.le_refl _⟩
  yields := fun g' H' h' i x H'' hi e r' y => by
    obtain ⟨y1, y2⟩ := y
    subst y1
    obtain ⟨d, h1, h2⟩ := (RelsS.exts r e q).getV (y2 xs (st g' _ e))
    exact ⟨g', d, Ext.refl r', r', h1, h2⟩
theorem it_tup (r : HRel X.prog X.w g H h) (og : GOk X G g) (st : SqT X.K H a xs) (q : RelsS g H ds xs) : ItOk X (Itt X.K a) g H ds := by
  have st' : ∀ g' H', ExtS g H g' H' → SqT X.K H' a xs := fun g' H' e => by
    have z := SqT.exts r e (by rw [og.K]; exact st)
    rw [e.K, og.K] at z
    exact z
  exact {
    goes := fun g' H' h' i hi e r' => by
      have z := st' g' H' e
      rw [q.len] at hi
      exact ⟨xs, xs[i], z, by simp [hi]⟩
    stops := fun g' H' h' e r' => ⟨xs, st' g' H' e, by rw [q.len]; exact Nat.le_refl _⟩
    yields := fun g' H' h' i x H'' hi e r' y => by
      obtain ⟨y1, y2⟩ := y
      subst y1
      obtain ⟨d, h1, h2⟩ := (RelsS.exts r e q).getV (y2 xs (st' g' _ e))
      exact ⟨g', d, Ext.refl r', r', h1, h2⟩ }
/-- what a list, a tuple, a text gives; a cell's or slot's own list does not stand still -/
def itemsOf (d : D) (h : Cells) : R (List D) := match d with
  | .tup ds => .ok ds h
  | .lst ds => .ok ds h
  | .frz ds => .ok ds h
  | .str s => .ok (s.cps.toList.map fun c => D.str ⟨#[c]⟩) h
  | _ => .bad
def dItems (a : DE) : DF := fun fn env h => (a fn env h).bind fun d h1 => itemsOf d h1
theorem lst_stands (og : GOk X G g) {v : V} (q : RelS g H (.lst ds) v) : ∃ a xs, v = .ref a ∧ RelsS g H ds xs ∧ SqL X.K H a xs ∧ ∀ g' H', ExtS g H g' H' → SqL X.K H' a xs := by
  obtain ⟨a, xs, h1, h2, h3⟩ := q
  exact ⟨a, xs, h1, h3, .inl (.inl h2.1), fun g' H' e => .inl (.inl (LstAt.exts e h2).1)⟩
theorem frz_stands (og : GOk X G g) (r : HRel X.prog X.w g H h) {v : V} (q : RelS g H (.frz ds) v) : ∃ a xs, v = .ref a ∧ RelsS g H ds xs ∧ SqL X.K H a xs ∧ ∀ g' H', ExtS g H g' H' → SqL X.K H' a xs := by
  obtain ⟨a, xs, h1, h2, h3⟩ := q
  refine ⟨a, xs, h1, h3, by rw [← og.K]; exact h2.sql, fun g' H' e => ?_⟩
  have z := (FrzAt.exts r e h2).sql
  rw [e.K, og.K] at z
  exact z
theorem it_str (r : HRel X.prog X.w g H h) (s : Str) : ItOk X (Its s) g H (s.cps.toList.map fun c => D.str ⟨#[c]⟩) where
  goes := fun g' H' h' i hi e r' => by
    show i < s.cps.size
    simpa using hi
  stops := fun g' H' h' e r' => by
    show s.cps.size ≤ _
    simp
  yields := fun g' H' h' i x H'' hi e r' y => by
    obtain ⟨y1, c, y2, y3⟩ := y
    subst y1; subst y3
    refine ⟨g', .str ⟨#[c]⟩, Ext.refl r', r', ?_, rfl⟩
    rw [List.getElem?_map, Array.getElem?_toList, y2]; rfl
/-- over the value of an expression -/
theorem s_items (he : PE X e (tD X G da)) : PI X tg e (tI X G (dItems da)) := by
  refine ⟨fun pins s σ H R I q => ?_⟩
  obtain ⟨g, own, env, h, o, r, l, q⟩ := q
  unfold dItems at q
  cases ed : da G.fns env h with
  | bad => rw [ed] at q; exact q.elim
  | exc x h' =>
    rw [ed] at q
    refine (pi_list he).run pins s σ H R I ⟨g, own, env, h, o, r, l, ?_⟩
    rw [ed]
    exact q
  | ok d h' =>
    rw [ed] at q
    have q : Post X G g H (itemsOf d h') fun g' H' ds _ => ∀ J, ItOk X J g' H' ds → R J H' := q
    unfold itemsOf at q
    split at q
    · refine (pi_tup he).run pins s σ H R I ⟨g, own, env, h, o, r, l, ?_⟩
      rw [ed]
      intro g1 H1 e1 r1 v qv
      obtain ⟨a, xs, rfl, h1, h2⟩ := tup_ok (o.ext e1) qv
      exact ⟨a, rfl, ⟨xs, h1⟩, q g1 H1 e1 r1 _ (it_tup r1 (o.ext e1) h1 h2)⟩
    · refine (pi_list he).run pins s σ H R I ⟨g, own, env, h, o, r, l, ?_⟩
      rw [ed]
      intro g1 H1 e1 r1 v qv
      obtain ⟨a, xs, rfl, h2, h1, h3⟩ := lst_stands (o.ext e1) qv
      exact ⟨a, rfl, ⟨xs, h1⟩, q g1 H1 e1 r1 _ (it_list r1 h3 h2)⟩
    · refine (pi_list he).run pins s σ H R I ⟨g, own, env, h, o, r, l, ?_⟩
      rw [ed]
      intro g1 H1 e1 r1 v qv
      obtain ⟨a, xs, rfl, h2, h1, h3⟩ := frz_stands (o.ext e1) r1 qv
      exact ⟨a, rfl, ⟨xs, h1⟩, q g1 H1 e1 r1 _ (it_list r1 h3 h2)⟩
    · refine (pi_str he).run pins s σ H R I ⟨g, own, env, h, o, r, l, ?_⟩
      rw [ed]
      intro g1 H1 e1 r1 v qv
      exact ⟨_, qv, q g1 H1 e1 r1 _ (it_str r1 _)⟩
    · exact q.elim
/-- range -/
def upTo (lo : Int) (n : Nat) : List D := (List.range n).map fun i => D.int (lo + (i : Nat))
theorem it_range (r : HRel X.prog X.w g H h) (lo : Int) (n : Nat) : ItOk X (Itr lo n) g H (upTo lo n) where
  goes := fun g' H' h' i hi e r' => by
    show i < n
    simpa [upTo] using hi
  stops := fun g' H' h' e r' => by
    show n ≤ _
    simp [upTo]
  yields := fun g' H' h' i x H'' hi e r' y => by
    obtain ⟨y1, y2⟩ := y
    subst y1; subst y2
    refine ⟨g', .int (lo + (i : Nat)), Ext.refl r', r', ?_, rfl⟩
    have : i < n := by simpa [upTo] using hi
    simp [upTo, this]
def rng1 (ds : List D) (h : Cells) : R (List D) := match ds with
  | [.int j] => if decide (-1000000000 ≤ j) && decide (j ≤ 1000000000) then .ok (upTo 0 j.toNat) h else .bad
  | _ => .bad
def rng2 (ds : List D) (h : Cells) : R (List D) := match ds with
  | [.int i, .int j] => if decide (-1000000000 ≤ i) && decide (i ≤ 1000000000) && decide (-1000000000 ≤ j) && decide (j ≤ 1000000000) then .ok (upTo i (j - i).toNat) h else .bad
  | _ => .bad
def dRng1 (a : DA) : DF := fun fn env h => (a fn env h).bind fun ds h1 => rng1 ds h1
def dRng2 (a : DA) : DF := fun fn env h => (a fn env h).bind fun ds h1 => rng2 ds h1
variable {dr : DA}
theorem rel1 {d : D} {vs : List V} (q : RelsT g H [d] vs) : ∃ y, vs = [y] ∧ RelT g H d y := by
  obtain ⟨y, rr, rfl, z1, z2⟩ := q
  cases (show rr = [] from z2)
  exact ⟨y, rfl, z1⟩
theorem rel2 {d e : D} {vs : List V} (q : RelsT g H [d, e] vs) : ∃ y z, vs = [y, z] ∧ RelT g H d y ∧ RelT g H e z := by
  obtain ⟨y, rr, rfl, z1, z2⟩ := q
  obtain ⟨z, rfl, z3⟩ := rel1 z2
  exact ⟨y, z, rfl, z1, z3⟩
theorem rel3 {d e f : D} {vs : List V} (q : RelsT g H [d, e, f] vs) : ∃ y z w, vs = [y, z, w] ∧ RelT g H d y ∧ RelT g H e z ∧ RelT g H f w := by
  obtain ⟨y, rr, rfl, z1, z2⟩ := q
  obtain ⟨z, w, rfl, z3, z4⟩ := rel2 z2
  exact ⟨y, z, w, rfl, z1, z3, z4⟩
theorem s_range1 {b : Expr} {p pos : Pos} (hg : Gl X "range") (hm : X.mg "range" = none) (ha : PA X [b] (tA X G dr)) (hs : isStar b = false) : PI X tg (.Call (.Name "range" p) [b] [] pos) (tI X G (dRng1 dr)) :=
  PI.imp (pi_range1 hg hm ha (by rw [star_cons hs]; rfl)) fun σ H R ⟨g, own, env, h, o, r, l, q⟩ => ⟨g, own, env, h, o, r, l, (Post.bind q).imp fun g1 H1 ds h1 e1 r1 q1 vs qv => by
    unfold rng1 at q1
    split at q1
    · rename_i j
      obtain ⟨y, rfl, z1⟩ := rel1 qv
      cases (show y = V.int j from z1)
      split at q1
      · rename_i hz
        simp only [Bool.and_eq_true, decide_eq_true_eq] at hz
        exact ⟨j, rfl, by omega, by omega, Post.now r1 q1 _ (it_range r1 0 j.toNat)⟩
      · exact q1.elim
    · exact q1.elim⟩
theorem s_range2 {b c : Expr} {p pos : Pos} (hg : Gl X "range") (hm : X.mg "range" = none) (ha : PA X [b, c] (tA X G dr)) (hs : isStar b = false) (hs2 : isStar c = false) : PI X tg (.Call (.Name "range" p) [b, c] [] pos) (tI X G (dRng2 dr)) :=
  PI.imp (pi_range2 hg hm ha (by rw [star_cons hs, star_cons hs2]; rfl) (by rw [star_cons hs2]; rfl)) fun σ H R ⟨g, own, env, h, o, r, l, q⟩ => ⟨g, own, env, h, o, r, l, (Post.bind q).imp fun g1 H1 ds h1 e1 r1 q1 vs qv => by
    unfold rng2 at q1
    split at q1
    · rename_i i j
      obtain ⟨y, z, rfl, z1, z2⟩ := rel2 qv
      cases (show y = V.int i from z1)
      cases (show z = V.int j from z2)
      split at q1
      · rename_i hz
        simp only [Bool.and_eq_true, decide_eq_true_eq] at hz
        exact ⟨i, j, rfl, ⟨by omega, by omega, by omega, by omega⟩, Post.now r1 q1 _ (it_range r1 i (j - i).toNat)⟩
      · exact q1.elim
    · exact q1.elim⟩
/-- pairs, laid new at each turn -/
theorem Ext.pair (r : HRel X.prog X.w g H h) {T : Addr} {x y : V} {d e : D} (hT : H T = none) (q1 : RelS g H d x) (q2 : RelS g H e y) : RelS (g.less T) (upd H T (.tup [x, y])) (.tup [d, e]) (.ref T) :=
  RelS.newT r hT ⟨x, [y], rfl, q1, y, [], rfl, q2, rfl⟩
def pairs : List D → List D → List D
  | d :: ds, e :: es => .tup [d, e] :: pairs ds es
  | _, _ => []
theorem pairs_len : ∀ ds es : List D, (pairs ds es).length = min ds.length es.length
  | [], _ => by simp [pairs]
  | _ :: _, [] => by simp [pairs]
  | d :: ds, e :: es => by rw [pairs, List.length_cons, pairs_len ds es, List.length_cons, List.length_cons]; omega
theorem pairs_get : ∀ {ds es : List D} {i : Nat} {d e : D}, ds[i]? = some d → es[i]? = some e → (pairs ds es)[i]? = some (.tup [d, e])
  | [], _, _, _, _, h, _ => by simp at h
  | _ :: _, [], _, _, _, _, h => by simp at h
  | _ :: _, _ :: _, 0, _, _, h1, h2 => by simp at h1 h2; subst h1; subst h2; rfl
  | _ :: ds, _ :: es, i + 1, _, _, h1, h2 => by
    rw [pairs]
    simpa using pairs_get (ds := ds) (es := es) (i := i) (by simpa using h1) (by simpa using h2)
/-- how a target takes a value apart -/
inductive Pat where
  | name (i : Nat) | tup (ps : List Pat)
mutual
def Pat.put : Pat → D → Ev → Option Ev
  | .name i, d, env => if isBor d || decide (env.length ≤ i) then none else some (env.set i (.val d))
  | .tup ps, d, env => match d with
    | .tup ds => Pat.puts ps ds env
    | _ => none
def Pat.puts : List Pat → List D → Ev → Option Ev
  | [], [], env => some env
  | p :: ps, d :: ds, env => match Pat.put p d env with
    | some env' => Pat.puts ps ds env'
    | none => none
  | _, _, _ => none
end
mutual
def Pat.slots : Pat → List Nat
  | .name i => [i]
  | .tup ps => Pat.slotss ps
def Pat.slotss : List Pat → List Nat
  | [] => []
  | p :: ps => Pat.slots p ++ Pat.slotss ps
end
/-- the other slots stand -/
def Stand (is : List Nat) (σ σ' : L2.St) : Prop := σ'.length = σ.length ∧ ∀ i, i ∉ is → σ'[i]? = σ[i]?
/-- what a target leaves: less is owned -/
def tPat (X : Cx) (G : Gx) (pt : Pat) : TG := fun v σ H Q => ∃ g own env h d env', GOk X G g ∧ HRel X.prog X.w g H h ∧ LR g own env σ H ∧ RelS g H d v ∧ Pat.put pt d env = some env' ∧
  ∀ own' σ', LR g own' env' σ' H → (∀ i a, own' i = some a → own i = some a) → Stand pt.slots σ σ' → Q σ' H
def tPats (X : Cx) (G : Gx) (ps : List Pat) : TGs := fun vs σ H Q => ∃ g own env h ds env', GOk X G g ∧ HRel X.prog X.w g H h ∧ LR g own env σ H ∧ RelsS g H ds vs ∧ Pat.puts ps ds env = some env' ∧
  ∀ own' σ', LR g own' env' σ' H → (∀ i a, own' i = some a → own i = some a) → Stand (Pat.slotss ps) σ σ' → Q σ' H
theorem PG.imp {e : Expr} {t t' : TG} (h : PG X e t) (k : ∀ v σ H Q, t' v σ H Q → t v σ H Q) : PG X e t' := ⟨fun pins s σ H v u Q I r q => h.run pins s σ H v u Q I r (k v σ H Q q)⟩
theorem PGs.imp {e : List Expr} {t t' : TGs} (h : PGs X e t) (k : ∀ v σ H Q, t' v σ H Q → t v σ H Q) : PGs X e t' := ⟨fun pins s σ H v u Q I r q => h.run pins s σ H v u Q I r (k v σ H Q q)⟩
theorem s_gName {i : Nat} {x : Str} {pos : Pos} (hN : X.N.Nodup) (hi : X.N[i]? = some x) (hx : Loc X.env.scope x) (hf : X.fn x = true ∨ X.env.scope.names.lookup x = some .local) : PG X (.Name x pos) (tPat X G (.name i)) :=
  PG.imp (pg_name hN hi hx hf) fun v σ H Q ⟨g, own, env, h, d, env', o, r, l, q, e, k⟩ => by
    unfold Pat.put at e
    split at e
    · cases e
    · rename_i z
      simp only [Bool.or_eq_true, decide_eq_true_eq, not_or, Bool.not_eq_true] at z
      cases e
      refine k _ _ (l.val (by omega) q) (fun j a hj => ?_) ⟨by rw [List.length_set], fun j hj => ?_⟩
      · by_cases hji : j = i
        · simp only [if_pos hji] at hj; cases hj
        · simp only [if_neg hji] at hj; exact hj
      · rw [List.getElem?_set_ne]
        intro e
        exact hj (by simp [Pat.slots, e])
theorem s_gsNil : PGs X [] (tPats X G []) :=
  PGs.imp pgs_nil fun v σ H Q ⟨g, own, env, h, ds, env', o, r, l, q, e, k⟩ => by
    cases ds with
    | nil =>
      cases (show v = [] from q)
      unfold Pat.puts at e
      cases e
      exact ⟨rfl, k own σ l (fun _ _ z => z) ⟨rfl, fun _ _ => rfl⟩⟩
    | cons d ds => simp [Pat.puts] at e
theorem s_gsCons {es : List Expr} {pt : Pat} {ps : List Pat} (h1 : PG X e (tPat X G pt)) (h2 : PGs X es (tPats X G ps)) (hs : (assignEach (e :: es) X.env).map (·.2) = assign e X.env :: (assignEach es X.env).map (·.2)) : PGs X (e :: es) (tPats X G (pt :: ps)) :=
  PGs.imp (pgs_cons h1 h2 hs) fun v σ H Q ⟨g, own, env, h, ds, env', o, r, l, q, e, k⟩ => by
    cases ds with
    | nil => simp [Pat.puts] at e
    | cons d ds =>
      simp only [RelsS] at q
      obtain ⟨x, rr, rfl, q1, q2⟩ := q
      unfold Pat.puts at e
      split at e
      · rename_i env1 e1
        refine ⟨x, rr, rfl, g, own, env, h, d, env1, o, r, l, q1, e1, fun own' σ' l' sub st => ?_⟩
        refine ⟨g, own', env1, h, ds, env', o, r, l', q2, e, fun own'' σ'' l'' sub' st' => k own'' σ'' l'' (fun i a z => sub i a (sub' i a z)) ⟨st'.1.trans st.1, fun i hi => ?_⟩⟩
        simp only [Pat.slotss, List.mem_append, not_or] at hi
        exact (st'.2 i hi.2).trans (st.2 i hi.1)
      · cases e
theorem puts_len : ∀ {ps : List Pat} {ds : List D} {env env' : Ev}, Pat.puts ps ds env = some env' → ds.length = ps.length
  | [], [], _, _, _ => rfl
  | [], _ :: _, _, _, h => by simp [Pat.puts] at h
  | _ :: _, [], _, _, h => by simp [Pat.puts] at h
  | p :: ps, d :: ds, env, env', h => by
    unfold Pat.puts at h
    split at h
    · rw [List.length_cons, List.length_cons, puts_len h]
    · cases h
theorem s_gTup {es : List Expr} {k : Nat} {ps : List Pat} {pos : Pos} (hc : X.calm = true) (hp : PGs X es (tPats X G ps)) (hn : (assignEach es X.env).length = ps.length) (hst : (assignEach es X.env).findIdx? (·.1) = none) : PG X (.Tuple es k pos) (tPat X G (.tup ps)) :=
  PG.imp (pg_tup hc hp hn hst) fun v σ H Q ⟨g, own, env, h, d, env', o, r, l, q, e, k⟩ => by
    cases d with
    | tup ds =>
      obtain ⟨a, xs, rfl, h1, h2⟩ := tup_ok o (RelS.t q)
      have e : Pat.puts ps ds env = some env' := by simpa only [Pat.put] using e
      exact ⟨a, xs, rfl, h1, by rw [← h2.len]; exact puts_len e, g, own, env, h, ds, env', o, r, l, h2, e, by simpa only [Pat.slots] using k⟩
    | _ => simp [Pat.put] at e

/-! ### for -/
def forL (pt : Pat) (body : DS) (fn : Fns) : List D → Ev → Cells → R (Fl × Ev)
  | [], env, h => .ok (.nx, env) h
  | d :: ds, env, h => match Pat.put pt d env with
    | none => .bad
    | some env1 => (body fn env1 h).bind fun x h1 => match x.1 with
      | .nx => forL pt body fn ds x.2 h1
      | .ct => forL pt body fn ds x.2 h1
      | .bk => .ok (.nx, x.2) h1
      | .rt d => .ok (.rt d, x.2) h1
def sFor (pt : Pat) (di : DF) (body : DS) : DS := fun fn env h => (di fn env h).bind fun ds h1 => forL pt body fn ds env h1
variable {g0 : Gh} {H0 : Hp} {body : DS} {pt : Pat}
theorem s_for {iter : Expr} {b : List Stmt} {di : DF} {pos : Pos} (hp : PassesOwn (model X.prog X.w) X.A X.env X.xe) (hc : X.calm = true) (hi : PI X tg iter (tI X G di)) (hg : PG X tg (tPat X G pt)) (hb : PSs X b (tS X G g0 H0 body))
    (hs : ∀ x, foldedSetIterable iter X.env x = pure x) : PS X (.For tg iter b [] pos) (tS X G g0 H0 (sFor pt di body)) := by
  refine PS.imp (ps_for hp hc hi hg hb hs) fun D σ H q => ?_
  obtain ⟨g, own, env, h, o, r, l, n, q⟩ := q
  refine ⟨g, own, env, h, o, r, l, (Post.stmt r n q).imp fun g1 H1 ds h1 e1 r1 q1 J it => ?_⟩
  refine ⟨fun i m σ' H' => m = ds.length - i ∧ i ≤ ds.length ∧ ∃ g2 own2 env2 h2, GOk X G g2 ∧ HRel X.prog X.w g2 H' h2 ∧ LR g2 own2 env2 σ' H' ∧ Ent g0 H0 g2 H' own2 ∧ ExtS g1 H1 g2 H' ∧ PostS X G g0 H0 g2 H' (forL pt body G.fns (ds.drop i) env2 h2) D,
    ⟨ds.length, by simp, Nat.zero_le _, g1, own, env, h1, o.ext e1, r1, l.step r e1, n.step e1, ExtS.refl _ _, q1⟩, ?_⟩
  rintro i m σ' H' ⟨rfl, hi', g2, own2, env2, h2, o2, r2, l2, n2, x2, q2⟩
  by_cases hlt : i < ds.length
  · refine .inr ⟨it.goes g2 H' h2 i hlt x2 r2, _, fun σ3 H3 z => ⟨ds.length - (i + 1), by omega, rfl, hlt, z⟩, fun x H3 y => ?_⟩
    obtain ⟨g3, d, e3, r3, ed, qd⟩ := it.yields g2 H' h2 i x H3 hlt x2 r2 y
    have edrop : ds.drop i = d :: ds.drop (i + 1) := by
      rw [List.drop_eq_getElem_cons hlt]
      congr 1
      rw [List.getElem?_eq_getElem hlt] at ed
      exact Option.some.inj ed
    rw [edrop] at q2
    unfold forL at q2
    split at q2
    · exact q2.elim
    · rename_i env3 ep
      refine ⟨g3, own2, env2, h2, d, env3, o2.ext e3, r3, l2.step r2 e3, qd, ep, fun own3 σ3 l3 sub _ => ?_⟩
      have n3 : Ent g0 H0 g3 H3 own3 := ⟨(n2.step e3).ext, fun j a z => n2.new j a (sub j a z)⟩
      have q3 := PostS.mono q2 (e3.s r2)
      refine ⟨g3, own3, env3, h2, o2.ext e3, r3, l3, n3, ?_⟩
      cases eb : body G.fns env3 h2 with
      | bad => rw [eb] at q3; exact q3.elim
      | exc z h4 => rw [eb] at q3; exact q3
      | ok z h4 =>
        rw [eb] at q3
        obtain ⟨fl, env4⟩ := z
        have x3 := x2.trans (e3.s r2)
        cases fl with
        | nx => exact fun g4 own4 H4 σ4 o4 r4 l4 n4 e4 => ⟨g4, own4, env4, h4, o4, r4, l4, n4, x3.trans e4, PostS.mono q3 e4⟩
        | ct => exact fun g4 own4 H4 σ4 o4 r4 l4 n4 e4 => ⟨g4, own4, env4, h4, o4, r4, l4, n4, x3.trans e4, PostS.mono q3 e4⟩
        | bk => exact q3
        | rt d => exact q3
  · have e : i = ds.length := by omega
    subst e
    rw [List.drop_length] at q2
    exact .inl ⟨it.stops g2 H' h2 x2 r2, q2.now o2 r2 l2 n2⟩
end
end EV
/-! EV10: list comprehensions -/
namespace EV
open PySem L2

def R.nox {α : Type} (r : R α) : R α := match r with
  | .exc _ _ => .bad
  | r => r
def wipeE (env : Ev) : List Nat → Ev
  | [] => env
  | v :: vs => (wipeE env vs).set v .no
def compL (pt : Pat) (tt : DT) (te : DE) (fn : Fns) (env : Ev) : List D → Cells → R (List D)
  | [], h => .ok [] h
  | d :: ds, h => match Pat.put pt d env with
    | none => .bad
    | some env1 => (tt fn env1 h).nox.bind fun b h1 => if b = true then (te fn env1 h1).nox.bind fun x h2 => if isBor x then .bad else (compL pt tt te fn env ds h2).bind fun r h3 => .ok (x :: r) h3
      else compL pt tt te fn env ds h1
def dComp (vs : List Nat) (pt : Pat) (di : DF) (tt : DT) (te : DE) : DF := fun fn env h => (di fn env h).bind fun ds h1 => if decide (ds.length ≤ szL) then compL pt tt te fn (wipeE env vs) ds h1 else .bad
def dtYes : DT := fun _ _ h => .ok true h
/-- no exception is let out -/
def Gx.quiet (G : Gx) : Gx := { G with Wx := fun _ _ _ => False }
section
variable {X : Cx} {G : Gx} {g g' : Gh} {H H' : Hp} {h h' : Cells} {own : Nat → Option Addr} {env : Ev} {σ : L2.St} {p : Addr} {xs : List V}
theorem wipeE_len (env : Ev) : ∀ vs, (wipeE env vs).length = env.length
  | [] => rfl
  | v :: vs => by unfold wipeE; rw [List.length_set, wipeE_len env vs]
theorem LR.wipe1 (l : LR g own env σ H) (v : Nat) : LR g own (env.set v .no) (σ.set v none) H where
  len := by rw [List.length_set, List.length_set, l.len]
  inj := l.inj
  ow := l.ow
  sl := fun i s e => by
    by_cases hi : v = i
    · subst hi
      by_cases hv : v < env.length
      · rw [List.getElem?_set_self hv] at e
        cases e
        trivial
      · rw [List.getElem?_eq_none (by rw [List.length_set]; omega)] at e
        cases e
    · rw [List.getElem?_set_ne hi] at e
      have z := l.sl i s e
      cases s with
      | no => trivial
      | val d =>
        obtain ⟨u, z1, z2⟩ := z
        exact ⟨u, by rw [List.getElem?_set_ne hi]; exact z1, z2⟩
      | own ds =>
        obtain ⟨a, xs, z1, z2, z3⟩ := z
        exact ⟨a, xs, z1, by rw [List.getElem?_set_ne hi]; exact z2, z3⟩
theorem LR.wipe (l : LR g own env σ H) : ∀ vs, LR g own (wipeE env vs) (L2.wipe σ vs) H
  | [] => l
  | v :: vs => (LR.wipe l vs).wipe1 v
theorem ExtS.write (hw : g.W p) {o : HO} : ExtS g H g (upd H p o) := ⟨rfl, rfl, ⟨[], by simp⟩, fun _ z => .inl z, fun a u z n => by rw [upd_ne fun e => n (by rw [e]; exact hw)]; exact z⟩
theorem HRel.write (r : HRel X.prog X.w g H h) (hw : g.W p) (hn : p ∉ g.ρ) : HRel X.prog X.w g (upd H p (.lst xs)) h where
  len := r.len
  nd := r.nd
  wr := r.wr
  wt := fun a u h1 h2 => by
    by_cases z : a = p
    · rw [z, upd_same] at h2
      cases h2
      exact ⟨(fun ys z => by cases z), (fun _ _ z => by cases z)⟩
    · rw [upd_ne z] at h2
      exact r.wt a u h1 h2
  at_ := fun n a c h1 h2 => (r.at_ n a c h1 h2).exts r (ExtS.write hw) (upd_ne fun e => hn (by rw [← e]; exact List.mem_of_getElem? h1))
theorem Ext.write {g1 : Gh} {H1 : Hp} (e : Ext g1 H1 g H) (hp : H1 p = none) {o : HO} : Ext g1 H1 g (upd H p o) where
  K := e.K
  gA := e.gA
  pre := e.pre
  wn := e.wn
  wk := e.wk
  rw := e.rw
  fr := fun a u z n => by rw [upd_ne (ne_of_none z hp)]; exact e.fr a u z n
  nw := e.nw
theorem LR.write (l : LR g own env σ H) (r : HRel X.prog X.w g H h) (hw : g.W p) (un : ∀ j, own j ≠ some p) {o : HO} : LR g own env σ (upd H p o) where
  len := l.len
  inj := l.inj
  ow := fun i a z => by
    obtain ⟨h1, h2, u, h3⟩ := l.ow i a z
    exact ⟨h1, h2, u, by rw [upd_ne fun e => un i (by rw [← e]; exact z)]; exact h3⟩
  sl := fun i s e => by
    have z := l.sl i s e
    cases s with
    | no => trivial
    | val d =>
      obtain ⟨u, z1, z2⟩ := z
      exact ⟨u, z1, RelS.exts r (ExtS.write hw) z2⟩
    | own ds =>
      obtain ⟨a, xs, z1, z2, z3, z4⟩ := z
      exact ⟨a, xs, z1, z2, by rw [upd_ne fun e => un i (by rw [← e]; exact z1)]; exact z3, RelsS.exts r (ExtS.write hw) z4⟩
theorem Post.nox {α : Type} {r : R α} {K : Gh → Hp → α → Cells → Prop} (q : Post X G g H r.nox K) : Post X G.quiet g H r K := by
  cases r with
  | ok a h' => exact q
  | exc x h' => exact q.elim
  | bad => exact q
theorem RelsS.snoc {ds : List D} {d : D} {v : V} (q : RelsS g H ds xs) (z : RelS g H d v) : RelsS g H (ds ++ [d]) (xs ++ [v]) := q.app (RelsS.one z)
theorem GOk.q (o : GOk X G g) : GOk X G.quiet g := ⟨o.K, o.gA⟩
variable {elt tg iter : Expr} {ifs : List Expr} {scope : Scope} {own' : List (Str × Nat)} {pos : Pos} {di : DF} {pt : Pat} {tt : DT} {te : DE}
/-- the comprehension's reading -/
theorem wipe_get : ∀ (vs : List Nat) (σ : L2.St) (i : Nat), (L2.wipe σ vs)[i]? = if i ∈ vs ∧ i < σ.length then some none else σ[i]?
  | [], σ, i => by simp [L2.wipe]
  | v :: vs, σ, i => by
    unfold L2.wipe
    by_cases hi : v = i
    · subst hi
      by_cases hv : v < σ.length
      · rw [List.getElem?_set_self (by rw [wipe_length]; exact hv)]
        simp [hv]
      · rw [List.getElem?_eq_none (by rw [List.length_set, wipe_length]; omega)]
        rw [if_neg (fun z => hv z.2), List.getElem?_eq_none (by omega)]
    · rw [List.getElem?_set_ne hi, wipe_get vs σ i]
      have e : i ∈ v :: vs ↔ i ∈ vs := by simp [Ne.symm hi]
      simp only [e]
theorem wipe_stand {pt : Pat} {vs : List Nat} {σ σ' : L2.St} (st : Stand pt.slots (L2.wipe σ vs) σ') (hs : ∀ i ∈ pt.slots, i ∈ vs) : L2.wipe σ' vs = L2.wipe σ vs := by
  obtain ⟨s1, s2⟩ := st
  rw [wipe_length] at s1
  refine List.ext_getElem? fun i => ?_
  rw [wipe_get, wipe_get, s1]
  by_cases hi : i ∈ vs
  · by_cases hl : i < σ.length
    · rw [if_pos ⟨hi, hl⟩, if_pos ⟨hi, hl⟩]
    · rw [if_neg (fun z => hl z.2), if_neg (fun z => hl z.2), List.getElem?_eq_none (by omega), List.getElem?_eq_none (by omega)]
  · rw [if_neg (fun z => hi z.1), if_neg (fun z => hi z.1), s2 i fun m => hi (hs i m), wipe_get, if_neg (fun z => hi z.1)]
theorem comp_of {Q : VK} (hsl : ∀ i ∈ pt.slots, i ∈ own'.map (·.2)) (q : tF X G (dComp (own'.map (·.2)) pt di tt te) σ H Q) : tLc (tI X G di) (tPat X G.quiet pt) (tT X G.quiet tt) (tD X G.quiet te) (own'.map (·.2)) σ H Q := by
  obtain ⟨g, own, env, h, o, r, l, q⟩ := q
  refine ⟨g, own, env, h, o, r, l, (Post.bind q).imp fun g1 H1 ds h1 e1 r1 q1 J it p hp => ?_⟩
  split at q1
  · rename_i hz
    have hz : ds.length ≤ 16777216 := by simpa using hz
    have o1 := o.ext e1
    have l1 := (l.step r e1).wipe (own'.map (·.2))
    have un : ∀ j, own j ≠ some p := fun j hj => by
      obtain ⟨_, _, u, hu⟩ := l1.ow j p hj
      rw [hp] at hu; cases hu
    have hp0 : H p = none := e1.back r r1 hp
    have hnp : p ∉ g1.ρ := fun m => by
      obtain ⟨u, hu, _⟩ := r1.mem m
      rw [hp] at hu; cases hu
    refine ⟨fun i m H' => m = ds.length - i ∧ i ≤ ds.length ∧ ∃ g2 h2 accD acc, HRel X.prog X.w g2 H' h2 ∧ Ext g1 H1 g2 H' ∧ LR g2 own (wipeE env (own'.map (·.2))) (L2.wipe σ (own'.map (·.2))) H' ∧ g2.W p ∧ p ∉ g2.ρ ∧ H' p = some (.lst acc) ∧ RelsS g2 H' accD acc ∧ acc.length ≤ i ∧
      Post X G g1 H1 (compL pt tt te G.fns (wipeE env (own'.map (·.2))) (ds.drop i) h2) (fun g' H' ds' _ => ∀ xs', g'.W p → p ∉ g'.ρ → H' p = some (.lst xs') → RelsS g' H' (accD ++ ds') xs' → Q (.ref p) H'),
      ⟨ds.length, by simp, Nat.zero_le _, g1.plus p, h1, [], [], r1.plus hp, Ext.plus r1 hp, l1.step r1 (Ext.plus r1 hp), .inr rfl, hnp, upd_same, rfl, Nat.le_refl _, ?_⟩, ?_⟩
    · exact q1.imp fun g' H' ds' h' e' r' k xs' w1 w2 w3 w4 => k p xs' hp0 w1 w2 w3 (by simpa using w4)
    · rintro i m H' ⟨rfl, hi', g2, h2, accD, acc, r2, x2, l2, w2, n2, hH, qa, hacc, q2⟩
      by_cases hlt : i < ds.length
      · refine .inr ⟨it.goes g2 H' h2 i hlt (x2.s r1) r2, _, fun H3 z => ⟨ds.length - (i + 1), by omega, rfl, hlt, z⟩, fun x H3 y => ?_⟩
        obtain ⟨g3, d, e3, r3, ed, qd⟩ := it.yields g2 H' h2 i x H3 hlt (x2.s r1) r2 y
        have edrop : ds.drop i = d :: ds.drop (i + 1) := by
          rw [List.drop_eq_getElem_cons hlt]
          congr 1
          rw [List.getElem?_eq_getElem hlt] at ed
          exact Option.some.inj ed
        rw [edrop] at q2
        unfold compL at q2
        have still : ∀ {ga Ha gb Hb}, Ext ga Ha gb Hb → ga.W p → p ∉ ga.ρ → Ha p = some (.lst acc) → gb.W p ∧ p ∉ gb.ρ ∧ Hb p = some (.lst acc) := fun {ga Ha gb Hb} e a1 a2 a3 =>
          ⟨(e.wk p a1).resolve_right (fun z => by rw [a3] at z; cases z), (fun m => by have z := e.nw p m a2; rw [a3] at z; cases z), e.fr p _ a3 a2⟩
        split at q2
        · exact q2.elim
        · rename_i env3 ep
          have x3 := x2.trans e3
          have o3 := (o1.ext x3).q
          obtain ⟨w3, n3, hH3⟩ := still e3 w2 n2 hH
          have qa3 := RelsS.ext r2 e3 qa
          refine ⟨g3, own, _, h2, d, env3, o3, r3, l2.step r2 e3, qd, ep, fun own3 σ3 l3 sub st3 => ⟨wipe_stand st3 hsl, ?_⟩⟩
          have un3 : ∀ j, own3 j ≠ some p := fun j hj => un j (sub j p hj)
          cases et : tt G.fns env3 h2 with
          | bad => rw [et] at q2; exact q2.elim
          | exc z h4 => rw [et] at q2; exact q2.elim
          | ok b h4 =>
            rw [et] at q2
            refine tG.mk o3 r3 l3 ?_
            rw [show G.quiet.fns = G.fns from rfl, et]
            intro g4 H4 e4 r4 v hv
            subst hv
            have x4 := x3.trans e4
            have o4 := (o1.ext x4).q
            obtain ⟨w4, n4, hH4⟩ := still e4 w3 n3 hH3
            have qa4 := RelsS.ext r3 e4 qa3
            have l4 := l3.step r3 e4
            have lw4 := (l2.step r2 e3).step r3 e4
            cases v with
            | false =>
              exact ⟨g4, h4, accD, acc, r4, x4, lw4, w4, n4, hH4, qa4, by omega, q2⟩
            | true =>
              have q2 : Post X G g1 H1 ((te G.fns env3 h4).nox.bind fun x h2 => if isBor x then .bad else (compL pt tt te G.fns (wipeE env (own'.map (·.2))) (ds.drop (i + 1)) h2).bind fun r h3 => .ok (x :: r) h3) _ := q2
              cases ee : te G.fns env3 h4 with
              | bad => rw [ee] at q2; exact q2.elim
              | exc z h5 => rw [ee] at q2; exact q2.elim
              | ok x5 h5 =>
                rw [ee] at q2
                have q2 : Post X G g1 H1 (if isBor x5 then .bad else (compL pt tt te G.fns (wipeE env (own'.map (·.2))) (ds.drop (i + 1)) h5).bind fun r h3 => .ok (x5 :: r) h3) _ := q2
                split at q2
                · exact q2.elim
                · rename_i nb
                  refine tG.mk o4 r4 l4 ?_
                  rw [show G.quiet.fns = G.fns from rfl, ee]
                  intro g5 H5 e5 r5 v5 qv5
                  have x5' := x4.trans e5
                  obtain ⟨w5, n5, hH5⟩ := still e5 w4 n4 hH4
                  have qa5 := RelsS.ext r4 e5 qa4
                  have qx := qv5.s (by simpa using nb)
                  refine ⟨acc, hH5, by rw [lineE]; omega, g5, h5, accD ++ [x5], acc ++ [v5], r5.write w5 n5, x5'.write hp, (lw4.step r4 e5).write r5 w5 un, w5, n5, upd_same, RelsS.exts r5 (ExtS.write w5) (qa5.snoc qx), by rw [List.length_append]; simp; omega, ?_⟩
                  refine (Post.bind q2).imp fun g' H' ds' h' e' r' k => ?_
                  have k' := Post.now r' k
                  intro xs' a1 a2 a3 a4
                  exact k' xs' a1 a2 a3 (by simpa using a4)
      · have e : i = ds.length := by omega
        subst e
        rw [List.drop_length] at q2
        exact .inl ⟨it.stops g2 H' h2 (x2.s r1) r2, (show ∀ g' H', Ext g1 H1 g' H' → HRel X.prog X.w g' H' h2 → _ from q2) g2 H' x2 r2 acc w2 n2 hH (by simpa using qa)⟩
  · exact q1.elim
/-- [elt for target in iter if ..] -/
theorem s_comp (hc : X.calm = true) (hN : X.N.Nodup) (hi : PI X tg iter (tI X G di)) (ok : BlkOk X.N X.env.scope scope own') (hsl : ∀ i ∈ pt.slots, i ∈ own'.map (·.2))
    (hg : ∀ (s : Shared) (H : Hp) (C : Addr) (cl : List (Str × Addr)) (fp : List Addr), PG (X.blk s H scope (compEnvC scope cl C X.env) fp) tg (tPat X G.quiet pt))
    (ht : ∀ (s : Shared) (H : Hp) (C : Addr) (cl : List (Str × Addr)) (fp : List Addr), PTs (X.blk s H scope (compEnvC scope cl C X.env) fp) ifs (tT X G.quiet tt))
    (he : ∀ (s : Shared) (H : Hp) (C : Addr) (cl : List (Str × Addr)) (fp : List Addr), PE (X.blk s H scope (compEnvC scope cl C X.env) fp) elt (tD X G.quiet te)) (hs : ∀ x, foldedSetIterable iter X.env x = pure x) :
    PE X (.ListComp elt [⟨tg, iter, ifs, 0⟩] scope pos) (tF X G (dComp (own'.map (·.2)) pt di tt te)) :=
  PE.imp (pe_lc hc hN hi ok hg ht he hs) fun σ H Q q => comp_of hsl q
/-- name = [..], the name's own or by value -/
theorem s_setComp {g0 : Gh} {H0 : Hp} {i : Nat} {y : Str} {py spos : Pos} (hc : X.calm = true) (hN : X.N.Nodup) (hy : X.N[i]? = some y) (hyl : X.env.scope.names.lookup y = some .local)
    (hsw : swapsWith (.ListComp elt [⟨tg, iter, ifs, 0⟩] scope pos) (some (.Name y py)) spos.line X.env = pure true) (hi : PI X tg iter (tI X G di)) (ok : BlkOk X.N X.env.scope scope own') (hsl : ∀ i ∈ pt.slots, i ∈ own'.map (·.2))
    (hg : ∀ (s : Shared) (H : Hp) (C : Addr) (cl : List (Str × Addr)) (fp : List Addr), PG (X.blk s H scope (compEnvC scope cl C X.env) fp) tg (tPat X G.quiet pt))
    (ht : ∀ (s : Shared) (H : Hp) (C : Addr) (cl : List (Str × Addr)) (fp : List Addr), PTs (X.blk s H scope (compEnvC scope cl C X.env) fp) ifs (tT X G.quiet tt))
    (he : ∀ (s : Shared) (H : Hp) (C : Addr) (cl : List (Str × Addr)) (fp : List Addr), PE (X.blk s H scope (compEnvC scope cl C X.env) fp) elt (tD X G.quiet te)) (hs : ∀ x, foldedSetIterable iter X.env x = pure x) :
    PS X (.Assign [.Name y py] (.ListComp elt [⟨tg, iter, ifs, 0⟩] scope pos) spos) (tS X G g0 H0 (sOwn i (dComp (own'.map (·.2)) pt di tt te))) :=
  PS.imp (ps_setLc hc hN hy hyl hsw hi ok hg ht he hs) fun D σ H q => by
    obtain ⟨g, own, env, h, o, r, l, n, q⟩ := q
    have z := own_of (X := X) (G := G) ⟨g, own, env, h, o, r, l, n, q⟩
    exact comp_of hsl z
end
end EV
/-! EV11: lists changed in place; targets; while -/
namespace EV
open PySem L2

/-- the list of a slot, as it may be changed: its own one, or a cell's -/
def slotL (env : Ev) (h : Cells) (i : Nat) : Option (List D) := match env[i]? with
  | some (.own ds) => some ds
  | some (.val (.obj n)) => match h[n]? with
    | some (.lst ds) => some ds
    | _ => none
  | _ => none
/-- .. changed -/
def slotPut (env : Ev) (h : Cells) (i : Nat) (ds : List D) : R (Fl × Ev) := match env[i]? with
  | some (.own _) => .ok (.nx, env.set i (.own ds)) h
  | some (.val (.obj n)) => .ok (.nx, env) (h.set n (.lst ds))
  | _ => .bad
section
variable {X : Cx} {G : Gx} {g g' g0 : Gh} {H H' H0 : Hp} {h h' : Cells} {own : Nat → Option Addr} {env : Ev} {σ : L2.St} {p : Addr} {ds ds' : List D} {i : Nat} {Dn : Ends}
/-- a cell is written -/
theorem HRel.cellW (r : HRel X.prog X.w g H h) {n : Nat} {a : Addr} {c : OB} {o : HO} (ha : g.ρ[n]? = some a) (hn : n < h.length) (q : CellRel X.prog X.w g (upd H a o) a c) : HRel X.prog X.w g (upd H a o) (h.set n c) where
  len := by rw [List.length_set, r.len]
  nd := r.nd
  wr := r.wr
  wt := fun b u h1 h2 => by
    by_cases z : b = a
    · rw [z] at h2
      obtain ⟨u', e1, e2⟩ := q.some
      rw [h2] at e1; cases e1
      exact e2
    · rw [upd_ne z] at h2
      exact r.wt b u h1 h2
  at_ := fun m b c' h1 h2 => by
    have wa := r.wr a (List.mem_of_getElem? ha)
    by_cases z : m = n
    · subst z
      rw [ha] at h1; cases h1
      rw [List.getElem?_set_self hn] at h2
      cases h2
      exact q
    · rw [List.getElem?_set_ne (Ne.symm z)] at h2
      refine (r.at_ m b c' h1 h2).exts r (ExtS.write wa) (upd_ne fun e => z ?_)
      subst e
      obtain ⟨l1, e1⟩ := List.getElem?_eq_some_iff.mp h1
      obtain ⟨l2, e2⟩ := List.getElem?_eq_some_iff.mp ha
      exact (List.getElem_inj r.nd).mp (e1.trans e2.symm)
theorem Ent.cellW (n0 : Ent g0 H0 g H own) {n : Nat} {a : Addr} {o : HO} (r : HRel X.prog X.w g H h) (ha : g.ρ[n]? = some a) : Ent g0 H0 g (upd H a o) own := by
  refine ⟨⟨n0.ext.K, n0.ext.gA, n0.ext.pre, n0.ext.wn, n0.ext.wk, n0.ext.rw, fun b u z m => ?_, n0.ext.nw⟩, n0.new⟩
  by_cases e : b = a
  · subst e
    have z' := n0.ext.nw b (List.mem_of_getElem? ha) m
    rw [z] at z'; cases z'
  · rw [upd_ne e]; exact n0.ext.fr b u z m
theorem Ent.ownW (n0 : Ent g0 H0 g H own) {o : HO} (hp : own i = some p) : Ent g0 H0 g (upd H p o) own :=
  ⟨n0.ext.write (n0.new i p hp), n0.new⟩
/-- the slot's own list is written -/
theorem LR.ownW (l : LR g own env σ H) (r : HRel X.prog X.w g H h) {xs : List V} (hi : i < env.length) (hp : own i = some p) (hσ : σ[i]? = some (some (.ref p))) (q : RelsS g H ds' xs) :
    LR g own (env.set i (.own ds')) σ (upd H p (.lst xs)) where
  len := by rw [List.length_set, l.len]
  inj := l.inj
  ow := fun j a z => by
    obtain ⟨h1, h2, u, h3⟩ := l.ow j a z
    refine ⟨h1, h2, ?_⟩
    by_cases e : a = p
    · rw [e]; exact ⟨_, upd_same⟩
    · exact ⟨u, by rw [upd_ne e]; exact h3⟩
  sl := fun j s e => by
    have wp := (l.ow i p hp).1
    by_cases hj : j = i
    · subst hj
      rw [List.getElem?_set_self hi] at e
      cases e
      exact ⟨p, xs, hp, hσ, upd_same, RelsS.exts r (ExtS.write wp) q⟩
    · rw [List.getElem?_set_ne (Ne.symm hj)] at e
      have z := l.sl j s e
      cases s with
      | no => trivial
      | val d =>
        obtain ⟨u, z1, z2⟩ := z
        exact ⟨u, z1, RelS.exts r (ExtS.write wp) z2⟩
      | own ds =>
        obtain ⟨a, xs', z1, z2, z3, z4⟩ := z
        exact ⟨a, xs', z1, z2, by rw [upd_ne fun e => hj (l.inj j i p (by rw [← e]; exact z1) hp)]; exact z3, RelsS.exts r (ExtS.write wp) z4⟩
/-- a cell's write leaves the slots -/
theorem LR.cellW (l : LR g own env σ H) (r : HRel X.prog X.w g H h) {n : Nat} {a : Addr} {o : HO} (ha : g.ρ[n]? = some a) : LR g own env σ (upd H a o) :=
  l.write r (r.wr a (List.mem_of_getElem? ha)) fun j hj => (l.ow j a hj).2.1 (List.mem_of_getElem? ha)
/-- the list of a slot: where it stands, and what its change leaves -/
theorem slotL_ok (o : GOk X G g) (r : HRel X.prog X.w g H h) (l : LR g own env σ H) (n0 : Ent g0 H0 g H own) (e : slotL env h i = some ds) :
    ∃ p xs, σ[i]? = some (some (.ref p)) ∧ H p = some (.lst xs) ∧ RelsS g H ds xs ∧ ∀ ds' xs' (Dn : Ends), RelsS g H ds' xs' → PostS X G g0 H0 g H (slotPut env h i ds') Dn → Dn.nx σ (upd H p (.lst xs')) := by
  unfold slotL at e
  cases es : env[i]? with
  | none => rw [es] at e; cases e
  | some s =>
    rw [es] at e
    have hi : i < env.length := (List.getElem?_eq_some_iff.mp es).1
    have z := l.sl i s es
    cases s with
    | no => cases e
    | own es' =>
      cases e
      obtain ⟨p, xs, z1, z2, z3, z4⟩ := z
      refine ⟨p, xs, z2, z3, z4, fun ds' xs' Dn q k => ?_⟩
      unfold slotPut at k
      rw [es] at k
      have k : PostS X G g0 H0 g H (.ok (.nx, env.set i (.own ds')) h) Dn := k
      have wp := (l.ow i p z1).1
      exact k g own (upd H p (.lst xs')) σ o (r.write wp (l.ow i p z1).2.1) (l.ownW r hi z1 z2 q) (n0.ownW z1) (ExtS.write wp)
    | val d =>
      cases d with
      | obj n =>
        have e : (match h[n]? with
          | some (.lst ds) => some ds
          | _ => none) = some ds := e
        split at e
        · rename_i es' hc
          cases e
          obtain ⟨v, z1, z2⟩ := z
          obtain ⟨a, rfl, ha, xs, hx, qx⟩ := cell_at r (RelS.t z2) hc
          refine ⟨a, xs, z1, hx, qx, fun ds' xs' Dn q k => ?_⟩
          unfold slotPut at k
          rw [es] at k
          have k : PostS X G g0 H0 g H (.ok (.nx, env) (h.set n (.lst ds'))) Dn := k
          have wa := r.wr a (List.mem_of_getElem? ha)
          exact k g own (upd H a (.lst xs')) σ o (r.cellW ha (List.getElem?_eq_some_iff.mp hc).1 ⟨xs', upd_same, RelsS.exts r (ExtS.write wa) q⟩) (l.cellW r ha) (n0.cellW r ha) (ExtS.write wa)
        · cases e
      | _ => cases e

/-! ### append, extend -/
variable {x : Str} {e : Expr} {de : DE} {apos cpos pos : Pos}
def appendAt (i : Nat) (d : D) (env : Ev) (h : Cells) : R (Fl × Ev) := if isBor d then .bad else match slotL env h i with
  | some ds => if decide (ds.length < szL) then slotPut env h i (ds ++ [d]) else .bad
  | none => .bad
def withSlot (i : Nat) (f : DE) (k : D → Ev → Cells → R (Fl × Ev)) : DS := fun fn env h => match slotL env h i with
  | some _ => (f fn env h).bind fun d h1 => k d env h1
  | none => .bad
def sAppend (i : Nat) (a : DE) : DS := withSlot i a (appendAt i)
def extendAt (i : Nat) (d : D) (env : Ev) (h : Cells) : R (Fl × Ev) := match slotL env h i, seqM h d with
  | some ds, some es => if decide (ds.length + es.length ≤ szL) then slotPut env h i (ds ++ es) else .bad
  | _, _ => .bad
def sExtend (i : Nat) (a : DE) : DS := withSlot i a (extendAt i)
theorem attrName {x f : Str} {p : Pos} {env : Env} : attributeBase (.Name x p) f env (eval (.Name x p) env) = eval (.Name x p) env := rfl
theorem few_ok {pos : Pos} {env : Env} {es : List Expr} (h : noStars es = true) (hl : es.length < 30) : ((backTo pos (starEach es env)).all (fun x => !x.1) && (backToKw pos (keywordEach [] env)).all (fun x => x.1.isSome) && decide (es.length + ([] : List Keyword).length + (if ([] : List Keyword).isEmpty then 0 else 1) < 30)) = true := by
  have e1 : (backTo pos (starEach es env)).all (fun x => !x.1) = true := by
    have z := backTo_any (pos := pos) (stars_any (env := env) h)
    rw [List.all_eq_not_any_not]
    simp only [Bool.not_not]
    rw [z]; rfl
  rw [e1]
  simp [backToKw, keywordEach, hl]
theorem star1 {e : Expr} {pos : Pos} {env : Env} : (backTo pos (starEach ([] : List Expr) env)).any (·.1) = false := rfl
/-- the slot's list is the receiver, one argument -/
theorem withSlot_ok {K : D → Ev → Cells → R (Fl × Ev)} {r : V → List V → Hp → VK → Prop}
    (key : ∀ g own H d h v p (Dn : Ends), GOk X G g → HRel X.prog X.w g H h → LR g own env σ H → Ent g0 H0 g H own → σ[i]? = some (some (.ref p)) → RelT g H d v → PostS X G g0 H0 g H (K d env h) Dn → r (.ref p) [v] H fun _ H1 => Dn.nx σ H1)
    (q : ∃ g own h, GOk X G g ∧ HRel X.prog X.w g H h ∧ LR g own env σ H ∧ Ent g0 H0 g H own ∧ PostS X G g0 H0 g H (withSlot i de K G.fns env h) Dn) : tBM X.K "list" r (tVar i) (tCons (tD X G de) tNil) σ H fun _ H1 => Dn.nx σ H1 := by
  obtain ⟨g, own, h, o, rr, l, n, q⟩ := q
  unfold withSlot at q
  split at q
  · rename_i ds ed
    obtain ⟨p, xs, s1, s2, s3, s4⟩ := slotL_ok o rr l n ed
    refine ⟨_, s1, .inl ⟨rfl, xs, SqL.of s2⟩, ?_⟩
    refine tG.mk o rr l ((Post.stmt rr n q).imp fun g1 H1 d h1 e1 r1 q1 v qv => ?_)
    exact key g1 own H1 d h1 v p Dn (o.ext e1) r1 (l.step rr e1) (n.step e1) s1 qv q1
  · exact q.elim
theorem slot_same {q : Addr} (h1 : σ[i]? = some (some (V.ref p))) (h2 : σ[i]? = some (some (V.ref q))) : q = p := by
  rw [h1] at h2
  cases h2
  rfl
theorem s_append {px : Pos} (hN : X.N[i]? = some x) (hv : Vis X.env.scope x) (hd : (x == ("__debug__" : Str)) = false) (hcd : (x == ("__classdict__" : Str)) = false) (he : PE X e (tD X G de)) (hst : isStar e = false) (hl : (apos.endLine == cpos.line) = true) (hsw : swapsWith (.Call (.Attribute (.Name x px) "append" apos) [e] [] cpos) none pos.line X.env = pure false) :
    PS X (.Expr (.Call (.Attribute (.Name x px) "append" apos) [e] [] cpos) pos) (tS X G g0 H0 (sAppend i de)) :=
  PS.imp (ps_expr (pe_bm PySem.F.plainAttrs_list PySem.F.slot_list_append PySem.F.type_list_append mt_append (pe_var hN hv hd hcd) (pa_cons he pa_nil (star_cons hst)) attrName (few_ok (by simp [noStars, hst]) (by show 1 < 30; decide)) hl (star_cons hst) rfl) hsw) fun Dn σ H ⟨g, own, env, h, o, r, l, n, q⟩ =>
    withSlot_ok (fun g own H d h v p Dn o r l n hp qv k => by
      unfold appendAt at k
      split at k
      · exact k.elim
      · rename_i nb
        split at k
        · rename_i ds ed
          split at k
          · rename_i hz
            obtain ⟨p', xs, s1, s2, s3, s4⟩ := slotL_ok o r l n ed
            cases slot_same hp s1
            exact ⟨p, xs, v, rfl, rfl, s2, by rw [lineE, ← s3.len]; simpa using hz, s4 _ _ Dn (s3.app (RelsS.one (qv.s (by simpa using nb)))) k⟩
          · exact k.elim
        · exact k.elim) ⟨g, own, h, o, r, l, n, q⟩
theorem s_extend {px : Pos} (hN : X.N[i]? = some x) (hv : Vis X.env.scope x) (hd : (x == ("__debug__" : Str)) = false) (hcd : (x == ("__classdict__" : Str)) = false) (he : PE X e (tD X G de)) (hst : isStar e = false) (hl : (apos.endLine == cpos.line) = true) (hsw : swapsWith (.Call (.Attribute (.Name x px) "extend" apos) [e] [] cpos) none pos.line X.env = pure false) :
    PS X (.Expr (.Call (.Attribute (.Name x px) "extend" apos) [e] [] cpos) pos) (tS X G g0 H0 (sExtend i de)) :=
  PS.imp (ps_expr (pe_bm PySem.F.plainAttrs_list PySem.F.slot_list_extend PySem.F.type_list_extend mt_extend (pe_var hN hv hd hcd) (pa_cons he pa_nil (star_cons hst)) attrName (few_ok (by simp [noStars, hst]) (by show 1 < 30; decide)) hl (star_cons hst) rfl) hsw) fun Dn σ H ⟨g, own, env, h, o, r, l, n, q⟩ =>
    withSlot_ok (fun g own H d h v p Dn o r l n hp qv k => by
      unfold extendAt at k
      split at k
      · rename_i ds es ed ee
        split at k
        · rename_i hz
          obtain ⟨p', xs, s1, s2, s3, s4⟩ := slotL_ok o r l n ed
          cases slot_same hp s1
          obtain ⟨b, zs, rfl, z1, z2⟩ := seqM_ok r qv ee
          exact ⟨p, b, xs, zs, rfl, rfl, s2, z1, by rw [lineE, ← s3.len, ← z2.len]; simpa using hz, s4 _ _ Dn (s3.app z2) k⟩
        · exact k.elim
      · exact k.elim) ⟨g, own, h, o, r, l, n, q⟩

/-! ### targets that may write -/
abbrev DG := D → DS
def tPG (X : Cx) (G : Gx) (g0 : Gh) (H0 : Hp) (dg : DG) : TG := fun v σ H Q => ∃ g own env h d, GOk X G g ∧ HRel X.prog X.w g H h ∧ LR g own env σ H ∧ Ent g0 H0 g H own ∧ RelS g H d v ∧
  ∃ Dn : Ends, Q = Dn.nx ∧ PostS X G g0 H0 g H (dg d G.fns env h) Dn
def tPGs (X : Cx) (G : Gx) (g0 : Gh) (H0 : Hp) (dg : List D → DS) : TGs := fun v σ H Q => ∃ g own env h d, GOk X G g ∧ HRel X.prog X.w g H h ∧ LR g own env σ H ∧ Ent g0 H0 g H own ∧ RelsS g H d v ∧
  ∃ Dn : Ends, Q = Dn.nx ∧ PostS X G g0 H0 g H (dg d G.fns env h) Dn
def gName' (i : Nat) : DG := fun d _ env h => setV i d env h
def setAt (i : Nat) (k d : D) (env : Ev) (h : Cells) : R (Fl × Ev) := match k, slotL env h i with
  | .int j, some ds => match ixN ds.length j with
    | some n => if isBor d then .bad else slotPut env h i (ds.set n d)
    | none => .bad
  | _, _ => .bad
/-- x[k] = .., x a slot's list -/
def gIx (i : Nat) (a : DE) : DG := fun d fn env h => match slotL env h i with
  | some _ => (a fn env h).bind fun k h1 => setAt i k d env h1
  | none => .bad
def gsNil : List D → DS := fun ds _ env h => match ds with
  | [] => .ok (.nx, env) h
  | _ => .bad
def gsCons (a : DG) (b : List D → DS) : List D → DS := fun ds fn env h => match ds with
  | d :: ds => sSeq (a d) (b ds) fn env h
  | [] => .bad
/-- n targets -/
def gTup (n : Nat) (a : List D → DS) : DG := fun d fn env h => match d with
  | .tup ds => if ds.length = n then a ds fn env h else .bad
  | _ => .bad
def sAsg (a : DE) (b : DG) : DS := fun fn env h => (a fn env h).bind fun d h1 => if isBor d then .bad else b d fn env h1
theorem s_pgName {px : Pos} (hN : X.N.Nodup) (hi : X.N[i]? = some x) (hx : Loc X.env.scope x) (hf : X.fn x = true ∨ X.env.scope.names.lookup x = some .local) : PG X (.Name x px) (tPG X G g0 H0 (gName' i)) :=
  PG.imp (pg_name hN hi hx hf) fun v σ H Q ⟨g, own, env, h, d, o, r, l, n, q, Dn, eq, k⟩ => by
    subst eq
    exact setV_ok (X := X) (G := G) o r l n q.t k
theorem s_pgIx {px sp : Pos} {b : Expr} {db : DE} (hN : X.N[i]? = some x) (hv : Vis X.env.scope x) (hd : (x == ("__debug__" : Str)) = false) (hcd : (x == ("__classdict__" : Str)) = false) (hb : PE X b (tD X G db)) (hsl : isSlice b = false) :
    PG X (.Subscript (.Name x px) b sp) (tPG X G g0 H0 (gIx i db)) :=
  PG.imp (pg_sub (pe_var hN hv hd hcd) hb set_list (fun _ => by cases b <;> first | rfl | (simp [isSlice] at hsl))) fun v σ H Q ⟨g, own, env, h, d, o, r, l, n, q, Dn, eq, k⟩ => by
    subst eq
    unfold gIx at k
    split at k
    · rename_i ds ed
      obtain ⟨p, xs, s1, s2, s3, s4⟩ := slotL_ok o r l n ed
      refine ⟨_, s1, tG.mk o r l ((Post.stmt r n k).imp fun g1 H1 kd h1 e1 r1 k1 w qw => ?_)⟩
      unfold setAt at k1
      split at k1
      · rename_i j ds1 ed1
        cases (show w = V.int j from qw)
        split at k1
        · rename_i m hm
          split at k1
          · exact k1.elim
          · obtain ⟨p', xs', t1, t2, t3, t4⟩ := slotL_ok (o.ext e1) r1 (l.step r e1) (n.step e1) ed1
            cases slot_same s1 t1
            exact ⟨p, xs', j, m, rfl, rfl, t2, by rw [← t3.len]; exact hm, t4 _ _ _ (t3.set m (RelS.ext r e1 q)) k1⟩
        · exact k1.elim
      · exact k1.elim
    · exact k.elim
theorem s_pgsNil : PGs X [] (tPGs X G g0 H0 gsNil) :=
  PGs.imp pgs_nil fun v σ H Q ⟨g, own, env, h, ds, o, r, l, n, q, Dn, eq, k⟩ => by
    subst eq
    cases ds with
    | nil =>
      cases (show v = [] from q)
      exact ⟨rfl, PostS.now (X := X) (G := G) k o r l n⟩
    | cons d ds => exact k.elim
variable {a b : Expr} {es : List Expr} {dg : DG} {dgs : List D → DS}
theorem s_pgsCons (h1 : PG X e (tPG X G g0 H0 dg)) (h2 : PGs X es (tPGs X G g0 H0 dgs)) (hs : (assignEach (e :: es) X.env).map (·.2) = assign e X.env :: (assignEach es X.env).map (·.2)) : PGs X (e :: es) (tPGs X G g0 H0 (gsCons dg dgs)) :=
  PGs.imp (pgs_cons h1 h2 hs) fun v σ H Q ⟨g, own, env, h, ds, o, r, l, n, q, Dn, eq, k⟩ => by
    subst eq
    cases ds with
    | nil => exact k.elim
    | cons d ds =>
      simp only [RelsS] at q
      obtain ⟨x, rr, rfl, q1, q2⟩ := q
      refine ⟨x, rr, rfl, g, own, env, h, d, o, r, l, n, q1, { Dn with nx := fun σ' H' => tPGs X G g0 H0 dgs rr σ' H' Dn.nx }, rfl, ?_⟩
      have k : PostS X G g0 H0 g H (sSeq (dg d) (dgs ds) G.fns env h) Dn := k
      unfold sSeq at k
      cases ed : dg d G.fns env h with
      | bad => rw [ed] at k; exact k
      | exc x h' => rw [ed] at k; exact k
      | ok a h' =>
        rw [ed] at k
        obtain ⟨fl, env'⟩ := a
        cases fl with
        | nx => exact fun g2 own2 H2 σ2 o2 r2 l2 n2 e2 => ⟨g2, own2, env', h', ds, o2, r2, l2, n2, RelsS.exts r e2 q2, Dn, rfl, PostS.mono k e2⟩
        | rt d => exact k
        | bk => exact k
        | ct => exact k
theorem s_pgTup {k : Nat} {pos : Pos} (hc : X.calm = true) (hp : PGs X es (tPGs X G g0 H0 dgs)) (hst : (assignEach es X.env).findIdx? (·.1) = none) : PG X (.Tuple es k pos) (tPG X G g0 H0 (gTup (assignEach es X.env).length dgs)) :=
  PG.imp (pg_tup hc hp rfl hst) fun v σ H Q ⟨g, own, env, h, d, o, r, l, n, q, Dn, eq, k⟩ => by
    unfold gTup at k
    split at k
    · rename_i ds
      split at k
      · rename_i hl
        obtain ⟨a, xs, rfl, h1, h2⟩ := tup_ok o (RelS.t q)
        exact ⟨a, xs, rfl, h1, by rw [← h2.len]; exact hl, g, own, env, h, ds, o, r, l, n, h2, Dn, eq, k⟩
      · exact k.elim
    · exact k.elim
theorem s_asg {tg : Expr} (he : PE X e (tD X G de)) (hg : PG X tg (tPG X G g0 H0 dg)) (hs : swapsWithSole [tg] e pos.line X.env = pure false) (hw : swappedStores [tg] e X.env = pure none) (h1 : (assignEach [tg] X.env).map (·.2) = [assign tg X.env]) :
    PS X (.Assign [tg] e pos) (tS X G g0 H0 (sAsg de dg)) :=
  PS.imp (ps_asg he hg hs hw h1) fun Dn σ H p => tS.expr (f := fun fn env d h1 => if isBor d then R.bad else dg d fn env h1) p fun g own env h H1 d v o r l n q p1 => by
    split at p1
    · exact p1.elim
    · rename_i nb
      exact ⟨g, own, env, h, d, o, r, l, n, q.s (by simpa using nb), Dn, rfl, p1⟩
end
end EV
/-! EV12: calls of built-ins -/
namespace EV
open PySem L2

def toInts : List D → Option (List Int)
  | [] => some []
  | .int i :: ds => match toInts ds with
    | some is => some (i :: is)
    | none => none
  | _ :: _ => none
def toBls : List D → Option (List Bool)
  | [] => some []
  | .bl i :: ds => match toBls ds with
    | some is => some (i :: is)
    | none => none
  | _ :: _ => none
section
variable {X : Cx} {G : Gx} {g : Gh} {H : Hp} {h : Cells}
theorem toInts_ok : ∀ {ds : List D} {xs : List V} {is : List Int}, RelsS g H ds xs → toInts ds = some is → xs = is.map V.int
  | [], xs, is, q, e => by cases e; exact q
  | d :: ds, xs, is, q, e => by
    simp only [RelsS] at q
    obtain ⟨x, rr, rfl, q1, q2⟩ := q
    cases d with
    | int i =>
      unfold toInts at e
      split at e
      · rename_i js ej
        cases e
        cases (show x = V.int i from q1)
        rw [List.map_cons, toInts_ok q2 ej]
      · cases e
    | _ => simp [toInts] at e
theorem toBls_ok : ∀ {ds : List D} {xs : List V} {is : List Bool}, RelsS g H ds xs → toBls ds = some is → xs = is.map V.bl
  | [], xs, is, q, e => by cases e; exact q
  | d :: ds, xs, is, q, e => by
    simp only [RelsS] at q
    obtain ⟨x, rr, rfl, q1, q2⟩ := q
    cases d with
    | bl i =>
      unfold toBls at e
      split at e
      · rename_i js ej
        cases e
        cases (show x = V.bl i from q1)
        rw [List.map_cons, toBls_ok q2 ej]
      · cases e
    | _ => simp [toBls] at e
end
/-! ### sum of a tuple -/
section
open PySem.Spec PyProof.Rows
variable {X : Cx}
theorem preSum_getD (ns : List Int) : ∀ n, n ≤ ns.length → preSum (fun i => ns.getD i 0) n = (ns.take n).sum
  | 0, _ => by simp [preSum]
  | n + 1, hn => by
    have ih := preSum_getD ns n (by omega)
    have e : ns.take (n + 1) = ns.take n ++ [ns.getD n 0] := by
      rw [List.take_succ, List.getElem?_eq_getElem (by omega)]
      simp [List.getD, List.getElem?_eq_getElem (show n < ns.length by omega)]
    rw [e, List.sum_append, ← ih]
    simp [preSum]
theorem sum_tup (hc : X.calm = true) : CallR X (.builtin "sum") (fun vs H Q => ∃ (a : Addr) (ns : List Int), vs = [V.ref a] ∧ SqT X.K H a (ns.map V.int) ∧ Q (.int ns.sum) H) := by
  intro pins s σ H vs us Q I rv hq
  obtain ⟨a, ns, rfl, hs, q⟩ := hq
  obtain ⟨its, rt, tp, hz⟩ := I.tuple hs
  rw [Vals.ref1 rv]
  have lenE : its.length = ns.length := by rw [← rt.length, List.length_map]
  have lt : a < s.heap.objs.size := tp.lt
  refine call_sum_walkG (wpAny_pyIter_tuple (show s.heap.IsTuple a its.toArray from tp) ?_)
  have hI : ({ s with heap := s.heap.push { cls := .type "tuple_iterator", data := .fields #[.ref a, .int 0 0] } } : Shared).heap.IsTupleIter s.heap.objs.size a 0 := ⟨_, Heap.get?_push_size _ rfl, rfl, rfl⟩
  have hT : ({ s with heap := s.heap.push { cls := .type "tuple_iterator", data := .fields #[.ref a, .int 0 0] } } : Shared).heap.IsTuple a its.toArray := by
    obtain ⟨o, e1, e2⟩ := tp
    exact ⟨o, Heap.get?_push_of_some _ e1, e2⟩
  refine ⟨_, _, _, _, _, _, fun i => ns.getD i 0, rfl, Walks.tuple (A := X.A.in1) (I.ok.hd hc) _ a (Nat.ne_of_lt lt) its.toArray, ⟨hI, hT⟩, ?_, ?_, fun h' tk t' hk => ?_⟩
  · intro b hb
    rw [Heap.size_push]
    rcases List.mem_cons.mp hb with z | hb
    · rw [z]; exact Nat.lt_succ_self _
    · have : b = a := by simpa using hb
      rw [this]; exact Nat.lt_succ_of_lt lt
  · intro i v hv
    have hv' : its[i]? = some v := by simpa using hv
    have hi : i < its.length := (List.getElem?_eq_some_iff.mp hv').1
    obtain ⟨u, hu, ru⟩ := rt.get (i := i) (x := V.int (ns.getD i 0)) (by
      rw [List.getElem?_map, List.getElem?_eq_getElem (by omega)]
      simp [List.getD, List.getElem?_eq_getElem (show i < ns.length by omega)])
    rw [hv'] at hu; cases hu
    exact ru
  · have e1 : preSum (fun i => ns.getD i 0) its.toArray.size = ns.sum := by
      rw [List.size_toArray, lenE, preSum_getD ns _ (Nat.le_refl _), List.take_of_length_le (Nat.le_refl _)]
    rw [e1]
    refine ⟨.int ns.sum, H, I.kept fun b o eo => hk b o (fun hmem => ?_) (Heap.get?_push_of_some _ eo), ⟨_, rfl⟩, q⟩
    have : b = s.heap.objs.size := by simpa using hmem
    exact absurd (this ▸ Heap.lt_size eo) (Nat.lt_irrefl _)
end
/-! ### the operations -/
def cAbs : ON := fun ds h => match ds with
  | [.int i] => .ok (.int (if i < 0 then -i else i)) h
  | _ => .bad
def cMax : ON := fun ds h => match ds with
  | [.int i, .int j] => .ok (.int (if j > i then j else i)) h
  | _ => .bad
def cMin : ON := fun ds h => match ds with
  | [.int i, .int j] => .ok (.int (if j < i then j else i)) h
  | _ => .bad
def cInt : ON := fun ds h => match ds with
  | [.int i] => .ok (.int i) h
  | [.bl k] => .ok (.int (if k then 1 else 0)) h
  | _ => .bad
def cStr : ON := fun ds h => match ds with
  | [.int i] => if i.natAbs.log2 < 1920 then .ok (.str (toString i)) h else .bad
  | [.str s] => .ok (.str s) h
  | _ => .bad
def cLen : ON := fun ds h => match ds with
  | [.str s] => if s.length ≤ szL then .ok (.int s.length) h else .bad
  | [d] => match seqT h d with
    | some es => .ok (.int es.length) h
    | none => .bad
  | _ => .bad
def cSum : ON := fun ds h => match ds with
  | [.tup es] => match toInts es with
    | some is => .ok (.int is.sum) h
    | none => .bad
  | [d] => match (seqL h d).bind toInts with
    | some is => .ok (.int is.sum) h
    | none => .bad
  | _ => .bad
def cAll : ON := fun ds h => match ds with
  | [d] => match (seqL h d).bind toBls with
    | some is => .ok (.bl (is.all id)) h
    | none => .bad
  | _ => .bad
def cAny : ON := fun ds h => match ds with
  | [d] => match (seqL h d).bind toBls with
    | some is => .ok (.bl (is.any id)) h
    | none => .bad
  | _ => .bad
def cTuple : ON := fun ds h => match ds with
  | [.tup es] => .ok (.tup es) h
  | [d] => match seqL h d with
    | some es => .ok (.tup es) h
    | none => .bad
  | _ => .bad
def cList : List D → Cells → R (List D) := fun ds h => match ds with
  | [d] => match seqT h d with
    | some es => .ok es h
    | none => .bad
  | _ => .bad
def cDivmod : ON := fun ds h => match ds with
  | [.int i, .int j] => if decide (0 < j) && decide (j < 1073741824) then .ok (.tup [.int (i / j), .int (i % j)]) h else .bad
  | _ => .bad
section
variable {X : Cx} {G : Gx}
theorem c_abs : CallR X (.builtin "abs") (rON X G cAbs) := by
  intro pins s σ H xs us Q I rv ⟨g, h, ds, og, r, q, p⟩
  unfold cAbs at p
  split at p
  · rename_i i
    obtain ⟨y, rfl, z⟩ := rel1 q
    cases (show y = V.int i from z)
    exact call_abs pins s σ H _ us Q I rv ⟨i, rfl, Post.int r p⟩
  · exact p.elim
theorem c_max (hc : X.calm = true) : CallR X (.builtin "max") (rON X G cMax) := by
  intro pins s σ H xs us Q I rv ⟨g, h, ds, og, r, q, p⟩
  unfold cMax at p
  split at p
  · rename_i i j
    obtain ⟨y, z, rfl, z1, z2⟩ := rel2 q
    cases (show y = V.int i from z1); cases (show z = V.int j from z2)
    exact call_max2 hc pins s σ H _ us Q I rv ⟨i, j, rfl, Post.int r p⟩
  · exact p.elim
theorem c_min (hc : X.calm = true) : CallR X (.builtin "min") (rON X G cMin) := by
  intro pins s σ H xs us Q I rv ⟨g, h, ds, og, r, q, p⟩
  unfold cMin at p
  split at p
  · rename_i i j
    obtain ⟨y, z, rfl, z1, z2⟩ := rel2 q
    cases (show y = V.int i from z1); cases (show z = V.int j from z2)
    exact call_min2 hc pins s σ H _ us Q I rv ⟨i, j, rfl, Post.int r p⟩
  · exact p.elim
theorem c_int : CallR X (.type "int") (rON X G cInt) := by
  intro pins s σ H xs us Q I rv ⟨g, h, ds, og, r, q, p⟩
  unfold cInt at p
  split at p
  · rename_i i
    obtain ⟨y, rfl, z⟩ := rel1 q
    cases (show y = V.int i from z)
    exact call_int1 pins s σ H _ us Q I rv (.inl ⟨i, rfl, Post.int r p⟩)
  · rename_i i
    obtain ⟨y, rfl, z⟩ := rel1 q
    cases (show y = V.bl i from z)
    exact call_int1 pins s σ H _ us Q I rv (.inr ⟨i, rfl, Post.int r p⟩)
  · exact p.elim
theorem c_str : CallR X (.type "str") (rON X G cStr) := by
  intro pins s σ H xs us Q I rv ⟨g, h, ds, og, r, q, p⟩
  unfold cStr at p
  split at p
  · rename_i i
    obtain ⟨y, rfl, z⟩ := rel1 q
    cases (show y = V.int i from z)
    split at p
    · rename_i hz
      exact call_str_int pins s σ H _ us Q I rv ⟨i, rfl, hz, Post.str r p⟩
    · exact p.elim
  · rename_i i
    obtain ⟨y, rfl, z⟩ := rel1 q
    cases (show y = V.str i from z)
    exact SkE.call_str_str pins s σ H _ us Q I rv ⟨i, rfl, Post.str r p⟩
  · exact p.elim
theorem c_len : CallR X (.builtin "len") (rON X G cLen) := by
  intro pins s σ H xs us Q I rv ⟨g, h, ds, og, r, q, p⟩
  unfold cLen at p
  split at p
  · rename_i i
    obtain ⟨y, rfl, z⟩ := rel1 q
    cases (show y = V.str i from z)
    split at p
    · rename_i hz
      exact call_len pins s σ H _ us Q I rv ⟨_, _, rfl, ⟨by rw [lineE]; exact hz, rfl⟩, Post.int r p⟩
    · exact p.elim
  · rename_i d _
    obtain ⟨y, rfl, z⟩ := rel1 q
    split at p
    · rename_i es e
      obtain ⟨a, xs, rfl, h1, h2⟩ := seqT_ok og r z e
      exact call_len pins s σ H _ us Q I rv ⟨_, xs.length, rfl, h1.imp (fun h1 => ⟨xs, h1, rfl⟩) fun h1 => ⟨xs, h1, rfl⟩, by rw [← h2.len]; exact Post.int r p⟩
    · exact p.elim
  · exact p.elim
theorem c_sum (hc : X.calm = true) : CallR X (.builtin "sum") (rON X G cSum) := by
  intro pins s σ H xs us Q I rv ⟨g, h, ds, og, r, q, p⟩
  unfold cSum at p
  split at p
  · rename_i es
    obtain ⟨y, rfl, z⟩ := rel1 q
    split at p
    · rename_i is ei
      obtain ⟨a, xs, rfl, h1, h2⟩ := tup_ok og z
      cases toInts_ok h2 ei
      exact sum_tup hc pins s σ H _ us Q I rv ⟨a, is, rfl, h1, Post.int r p⟩
    · exact p.elim
  · rename_i d _
    obtain ⟨y, rfl, z⟩ := rel1 q
    split at p
    · rename_i is ei
      obtain ⟨es, e1, e2⟩ := Option.bind_eq_some_iff.mp ei
      obtain ⟨a, xs, rfl, h1, h2⟩ := seqL_ok og r z e1
      cases toInts_ok h2 e2
      exact cr_sum hc pins s σ H _ us Q I rv ⟨a, is, rfl, h1, Post.int r p⟩
    · exact p.elim
  · exact p.elim
theorem c_all (hc : X.calm = true) : CallR X (.builtin "all") (rON X G cAll) := by
  intro pins s σ H xs us Q I rv ⟨g, h, ds, og, r, q, p⟩
  unfold cAll at p
  split at p
  · rename_i d
    obtain ⟨y, rfl, z⟩ := rel1 q
    split at p
    · rename_i is ei
      obtain ⟨es, e1, e2⟩ := Option.bind_eq_some_iff.mp ei
      obtain ⟨a, xs, rfl, h1, h2⟩ := seqL_ok og r z e1
      cases toBls_ok h2 e2
      exact cr_all hc pins s σ H _ us Q I rv ⟨a, is, rfl, h1, Post.bl r p⟩
    · exact p.elim
  · exact p.elim
theorem c_any (hc : X.calm = true) : CallR X (.builtin "any") (rON X G cAny) := by
  intro pins s σ H xs us Q I rv ⟨g, h, ds, og, r, q, p⟩
  unfold cAny at p
  split at p
  · rename_i d
    obtain ⟨y, rfl, z⟩ := rel1 q
    split at p
    · rename_i is ei
      obtain ⟨es, e1, e2⟩ := Option.bind_eq_some_iff.mp ei
      obtain ⟨a, xs, rfl, h1, h2⟩ := seqL_ok og r z e1
      cases toBls_ok h2 e2
      exact cr_any hc pins s σ H _ us Q I rv ⟨a, is, rfl, h1, Post.bl r p⟩
    · exact p.elim
  · exact p.elim
theorem c_tuple : CallR X (.type "tuple") (rON X G cTuple) := by
  intro pins s σ H xs us Q I rv ⟨g, h, ds, og, r, q, p⟩
  unfold cTuple at p
  split at p
  · rename_i es
    obtain ⟨y, rfl, z⟩ := rel1 q
    obtain ⟨a, xs, rfl, h1, h2⟩ := tup_ok og z
    exact call_tuple_of pins s σ H _ us Q I rv ⟨a, xs, rfl, .inr ⟨h1, Post.val r z p⟩⟩
  · rename_i d _
    obtain ⟨y, rfl, z⟩ := rel1 q
    split at p
    · rename_i es e
      obtain ⟨a, xs, rfl, h1, h2⟩ := seqL_ok og r z e
      exact call_tuple_of pins s σ H _ us Q I rv ⟨a, xs, rfl, .inl ⟨h1, Post.newT (K := fun _ _ _ _ => True) r h2 p⟩⟩
    · exact p.elim
  · exact p.elim
theorem c_divmod : CallR X (.builtin "divmod") (rON X G cDivmod) := by
  intro pins s σ H xs us Q I rv ⟨g, h, ds, og, r, q, p⟩
  unfold cDivmod at p
  split at p
  · rename_i i j
    obtain ⟨y, z, rfl, z1, z2⟩ := rel2 q
    cases (show y = V.int i from z1); cases (show z = V.int j from z2)
    split at p
    · rename_i hz
      simp only [Bool.and_eq_true, decide_eq_true_eq] at hz
      exact call_divmod pins s σ H _ us Q I rv ⟨i, j, rfl, hz, Post.newT (K := fun _ _ _ _ => True) r (ds := [.int (i / j), .int (i % j)]) (xs := [.int (i / j), .int (i % j)]) ⟨_, _, rfl, rfl, _, _, rfl, rfl, rfl⟩ p⟩
    · exact p.elim
  · exact p.elim
variable {x : Str} {e : Expr} {es : List Expr} {da : DA} {p pos : Pos} {id T : String} {o : ON}
theorem tON {σ : L2.St} {H : Hp} {Q : VK} (q : tD X G (dOpN o da) σ H Q) : tCB (rON X G o) (tA X G da) σ H Q :=
  tG.bind (f := fun fn env ds h1 => o ds h1) q fun g own env h H1 ds v og r l q p1 => ⟨g, h, ds, og, r, q, p1⟩
theorem s_callB (hc : CallR X (.builtin id) (rON X G o)) (hg : Gl X x) (hm : X.mg x = none) (hv : bootBuiltins x = some (.builtin id)) (ha : PA X (e :: es) (tA X G da)) (hn : x ≠ "__name__") (hdb : (x == ("__debug__" : Str)) = false) (hs : noStars (e :: es) = true) :
    PE X (.Call (.Name x p) (e :: es) [] pos) (tD X G (dOpN o da)) := by
  have h1 : isStar e = false := by simp only [noStars, List.all_cons, Bool.and_eq_true] at hs; simpa using hs.1
  have h2 : noStars es = true := by simp only [noStars, List.all_cons, Bool.and_eq_true] at hs; exact hs.2
  exact PE.imp (pe_callB hc hg hm hv ha hn hdb (star_cons h1) (backTo_any (stars_any h2))) fun _ _ _ q => tON q
theorem s_callTy (hc : CallR X (.type T) (rON X G o)) (hg : Gl X x) (hm : X.mg x = none) (hv : bootBuiltins x = some (.type T)) (ha : PA X (e :: es) (tA X G da)) (hn : x ≠ "__name__") (hdb : (x == ("__debug__" : Str)) = false) (hs : noStars (e :: es) = true) :
    PE X (.Call (.Name x p) (e :: es) [] pos) (tD X G (dOpN o da)) := by
  have h1 : isStar e = false := by simp only [noStars, List.all_cons, Bool.and_eq_true] at hs; simpa using hs.1
  have h2 : noStars es = true := by simp only [noStars, List.all_cons, Bool.and_eq_true] at hs; exact hs.2
  exact PE.imp (pe_callTy hc hg hm hv ha hn hdb (star_cons h1) (backTo_any (stars_any h2))) fun _ _ _ q => tON q
/-- list(x): a new list -/
def dListF (da : DA) : DF := fun fn env h => (da fn env h).bind fun ds h1 => cList ds h1
theorem s_listF (hg : Gl X "list") (hm : X.mg "list" = none) (ha : PA X [e] (tA X G da)) (hs : isStar e = false) : PE X (.Call (.Name "list" p) [e] [] pos) (tF X G (dListF da)) :=
  PE.imp (pe_callTy call_list_of hg hm PyProof.Rows.boot_list ha (by decide) (by decide) (star_cons hs) rfl) fun σ H Q ⟨g, own, env, h, o, r, l, q⟩ => ⟨g, own, env, h, o, r, l, (Post.bind q).imp fun g1 H1 ds h1 e1 r1 q1 vs qv => by
    unfold cList at q1
    split at q1
    · rename_i d
      obtain ⟨y, rfl, z⟩ := rel1 qv
      split at q1
      · rename_i es ee
        obtain ⟨a, xs, rfl, z1, z2⟩ := seqT_ok (o.ext e1) r1 z ee
        exact ⟨a, xs, rfl, z1, fresh_now r e1 r1 z2 q1⟩
      · exact q1.elim
    · exact q1.elim⟩
end
end EV
/-! EV13: repr, isinstance -/
namespace EV
open PySem L2

mutual
/-- a bound of a shown text's length -/
def rsz : PyData → Nat
  | .none => 4
  | .bool _ => 5
  | .int i => if i.natAbs < 10 ^ 40 then 41 else 1921
  | .str x => 10 * x.length + 2
  | .list xs => rszs xs + 3
  | .tuple xs => rszs xs + 3
  | .dict _ => 0
def rszs : List PyData → Nat
  | [] => 0
  | x :: xs => rsz x + 2 + rszs xs
end
mutual
/-- what repr is asked of -/
def rok : PyData → Bool
  | .none => true
  | .bool _ => true
  | .int i => decide (i.natAbs.log2 < 1920)
  | .str x => x.cps.toList.all fun c => decide (c < 1114112)
  | .list xs => roks xs
  | .tuple xs => roks xs
  | .dict _ => false
def roks : List PyData → Bool
  | [] => true
  | x :: xs => rok x && roks xs
end
mutual
theorem rok_show : ∀ {d : PyData}, rok d = true → d.showable = true ∧ d.hasDict = false ∧ d.shown.length ≤ rsz d
  | .none, _ => ⟨by simp [PyData.showable], by simp [PyData.hasDict], by simp only [PyData.shown, rsz]; decide⟩
  | .bool b, _ => ⟨by simp [PyData.showable], by simp [PyData.hasDict], by simp only [PyData.shown, rsz]; cases b <;> decide⟩
  | .int i, h => by
    simp only [rok, decide_eq_true_eq] at h
    refine ⟨by simp [PyData.showable, h], by simp [PyData.hasDict], ?_⟩
    simp only [PyData.shown, rsz]
    split
    · rename_i hz
      rw [PyProof.Rows.ofString_len]
      exact int_text_length_le10 (k := 40) (by decide) hz
    · exact PyProof.Rows.int_text_len_1921 h
  | .str x, h => by
    simp only [rok, List.all_eq_true, decide_eq_true_eq] at h
    refine ⟨by simp [PyData.showable], by simp [PyData.hasDict], ?_⟩
    simp only [PyData.shown, rsz]
    exact StrLaws.reprText_len x fun c hc => Nat.lt_of_lt_of_le (h c hc) (by decide)
  | .list xs, h => by
    simp only [rok] at h
    obtain ⟨h1, h2, h3, h4⟩ := roks_show h
    refine ⟨by simpa [PyData.showable] using h1, by simpa [PyData.hasDict] using h2, ?_⟩
    simp only [PyData.shown, rsz]
    have := listText_len_le (PyData.shownAll xs)
    omega
  | .tuple xs, h => by
    simp only [rok] at h
    obtain ⟨h1, h2, h3, h4⟩ := roks_show h
    refine ⟨by simpa [PyData.showable] using h1, by simpa [PyData.hasDict] using h2, ?_⟩
    simp only [PyData.shown, rsz]
    have := tupleText_len_le (PyData.shownAll xs)
    omega
  | .dict _, h => by simp [rok] at h
theorem roks_show : ∀ {ds : List PyData}, roks ds = true → PyData.showableAll ds = true ∧ PyData.hasDictAll ds = false ∧ ((PyData.shownAll ds).map (·.length)).sum + 2 * (PyData.shownAll ds).length ≤ rszs ds ∧ True
  | [], _ => ⟨by simp [PyData.showableAll], by simp [PyData.hasDictAll], by simp [PyData.shownAll, rszs], True.intro⟩
  | d :: ds, h => by
    simp only [roks, Bool.and_eq_true] at h
    obtain ⟨a1, a2, a3⟩ := rok_show h.1
    obtain ⟨b1, b2, b3, _⟩ := roks_show h.2
    refine ⟨by simp [PyData.showableAll, a1, b1], by simp [PyData.hasDictAll, a2, b2], ?_, True.intro⟩
    simp only [PyData.shownAll, List.map_cons, List.sum_cons, List.length_cons, rszs]
    omega
end
/-- no list, no tuple -/
def isScP : PyData → Bool
  | .none | .bool _ | .int _ | .str _ => true
  | _ => false
def cRepr : ON := fun ds h => match ds with
  | [d] => match pdH h d with
    | some p => if PyProof.Rows.isDisplay p && rok p && decide (rsz p ≤ szL) && decide (p.depth ≤ 60) then .ok (.str p.shown) h else if isScP p && rok p && decide (rsz p ≤ szL) then .ok (.str p.shown) h else .bad
    | none => .bad
  | _ => .bad
section
open PySem.Spec PyProof.Rows
variable {X : Cx} {G : Gx}
theorem c_repr (gu : X.A.guards = some []) (hu : X.A.units + 64 < cLine) : CallR X (.builtin "repr") (rON X G cRepr) := by
  intro pins s σ H xs us Q I rv ⟨g, h, ds, og, r, q, p⟩
  unfold cRepr at p
  split at p
  · rename_i d
    obtain ⟨y, rfl, z⟩ := rel1 q
    split at p
    · rename_i pd e
      split at p
      · rename_i hz
        simp only [Bool.and_eq_true, decide_eq_true_eq] at hz
        obtain ⟨⟨⟨z1, z2⟩, z3⟩, z4⟩ := hz
        obtain ⟨u, rfl, ru⟩ := vals1 rv
        obtain ⟨as, rd⟩ := Dp.reads I pd y u (dpH_of og r z e) ru
        obtain ⟨a, rfl⟩ := isRef_of_reads rd z1
        obtain ⟨s1, s2, s3⟩ := rok_show z2
        exact repr_of_reads' rd s1 (PyData.noDict_hsm s2) gu (by omega) (fun _ _ e => e) (fun h' u tk hk => ⟨.str _, H, I.kept hk, ⟨_, rfl⟩, Post.str r p⟩) (by rw [lineE]; exact Nat.le_trans s3 z3)
      · split at p
        · rename_i hz
          simp only [Bool.and_eq_true, decide_eq_true_eq] at hz
          obtain ⟨⟨z1, z2⟩, z3⟩ := hz
          have dp := dpH_of og r z e
          cases dp with
          | non =>
            obtain ⟨u, rfl, rfl⟩ := vals1 rv
            exact PySem.P.repr_of_none ⟨.str _, H, I.tok _, ⟨_, rfl⟩, Post.str r p⟩
          | bl b =>
            obtain ⟨u, rfl, rfl⟩ := vals1 rv
            exact PySem.P.repr_of_bool ⟨.str _, H, I.tok _, ⟨_, rfl⟩, Post.str r p⟩
          | int i =>
            obtain ⟨u, rfl, t, rfl⟩ := vals1 rv
            simp only [rok, decide_eq_true_eq] at z2
            exact PySem.P.repr_of_int z2 ⟨.str _, H, I.tok _, ⟨_, rfl⟩, Post.str r p⟩
          | str x =>
            obtain ⟨u, rfl, t, rfl⟩ := vals1 rv
            have s3 := (rok_show z2).2.2
            exact PySem.P.repr_of_str ⟨.str _, H, I.tok _, ⟨_, rfl⟩, Post.str r p⟩ (by rw [lineE]; exact Nat.le_trans s3 z3)
          | _ => cases z1
        · exact p.elim
    · exact p.elim
  · exact p.elim
end

/-! ### isinstance -/
inductive Ty where
  | non | bl | int | str | lst | tup | dic
deriving DecidableEq
def Ty.name : Ty → String
  | .non => "NoneType" | .bl => "bool" | .int => "int" | .str => "str" | .lst => "list" | .tup => "tuple" | .dic => "dict"
def Ty.isa : Ty → Ty → Bool
  | .bl, .int => true
  | a, b => decide (a = b)
theorem Ty.kit : ∀ a b : Ty, kitB a.name b.name = some (a.isa b) := by
  have : ∀ a ∈ [Ty.non, .bl, .int, .str, .lst, .tup, .dic], ∀ b ∈ [Ty.bl, .int, .str, .lst, .tup, .dic], kitB a.name b.name = some (a.isa b) := by decide +kernel
  intro a b
  cases b with
  | non => cases a <;> decide +kernel
  | _ => exact this a (by cases a <;> simp) _ (by simp)
def tyOf (h : Cells) : D → Option Ty
  | .non => some .non
  | .bl _ => some .bl
  | .int _ => some .int
  | .str _ => some .str
  | .tup _ => some .tup
  | .lst _ => some .lst
  | .bor _ => some .lst
  | .frz _ => some .lst
  | .obj n => match h[n]? with
    | some (.lst _) => some .lst
    | _ => none
  | .glob _ => none
section
variable {X : Cx} {G : Gx} {g : Gh} {H : Hp} {h : Cells}
theorem tyOf_ok (og : GOk X G g) (r : HRel X.prog X.w g H h) {d : D} {v : V} {t : Ty} (q : RelT g H d v) (e : tyOf h d = some t) : TyX X.K H v (.type t.name) := by
  cases d with
  | non => cases e; cases (show v = .non from q); exact .base .non
  | bl b => cases e; cases (show v = .bl b from q); exact .base (.bl b)
  | int b => cases e; cases (show v = .int b from q); exact .base (.int b)
  | str b => cases e; cases (show v = .str b from q); exact .base (.str b)
  | tup ds =>
    cases e
    obtain ⟨a, xs, rfl, h1, _⟩ := tup_ok og q
    rcases h1 with (h1 | ⟨o, h1⟩) | ⟨o, its, n, k1, k2, _⟩
    · exact .base (.tup h1)
    · exact .fTuple h1
    · exact .kTuple k1 k2
  | lst ds =>
    cases e
    obtain ⟨a, xs, rfl, h1, _⟩ := q
    exact .base (.lst h1.1)
  | bor ds =>
    cases e
    obtain ⟨a, xs, rfl, h1, _⟩ := q
    exact .base (.lst h1.1)
  | frz ds =>
    cases e
    obtain ⟨a, xs, rfl, h1, _⟩ := q
    rcases h1 with ⟨o, h1⟩ | ⟨o, its, n, k1, k2, _⟩
    · exact .base (.frz h1)
    · exact .kList (by rw [← og.K]; exact k1) k2
  | obj n =>
    unfold tyOf at e
    dsimp only at e
    split at e
    · rename_i ds z
      cases e
      obtain ⟨a, rfl, _, xs, h2, _⟩ := cell_at r q z
      exact .base (.lst h2)
    · cases e
  | glob n => cases e
/-- isinstance(x, T), isinstance(x, (T, ..)) -/
def dIsi (a : DE) (ts : List Ty) : DE := fun fn env h => (a fn env h).bind fun d h1 => match tyOf h1 d with
  | some t => .ok (.bl (ts.any fun u => t.isa u)) h1
  | none => .bad
variable {e : Expr} {da : DE} {p pos : Pos}
/-- the class as it is written -/
structure PTyOk (X : Cx) (x : Str) (t : Ty) : Prop where
  gl : Gl X x
  mg : X.mg x = none
  bt : bootBuiltins x = some (.type t.name)
  nn : x ≠ "__name__"
  nd : (x == ("__debug__" : Str)) = false
theorem PTyOk.pe {x : Str} {t : Ty} {q : Pos} (k : PTyOk X x t) : PE X (.Name x q) (tC (.ty t.name)) := pe_bltn k.gl k.mg k.bt rfl k.nn k.nd
theorem s_isi {x : Str} {t : Ty} {px : Pos} (hg : Gl X "isinstance") (hm : X.mg "isinstance" = none) (he : PE X e (tD X G da)) (ht : PTyOk X x t) (hs : isStar e = false) :
    PE X (.Call (.Name "isinstance" p) [e, .Name x px] [] pos) (tD X G (dIsi da [t])) :=
  PE.imp (pe_callB call_isi hg hm PyProof.Rows.boot_isinstance (pa_cons he (pa_cons ht.pe pa_nil rfl) (star_cons hs)) (by decide) (by decide) (star_cons hs) rfl) fun σ H Q q =>
    tG.bind (f := fun fn env d h1 => match tyOf h1 d with
      | some t' => R.ok (D.bl ([t].any fun u => t'.isa u)) h1
      | none => .bad) q fun g own env h H1 d v og r l q p1 => by
      split at p1
      · rename_i t' et
        refine ⟨v, .ty t.name, .type t'.name, .type t.name, t'.isa t, rfl, .ty _, tyOf_ok og r q et, kit_ty (Ty.kit t' t), ?_⟩
        have := Post.bl r p1
        simpa using this
      · exact p1.elim
/-- a tuple of classes -/
inductive PTys (X : Cx) : List Expr → List Ty → Prop
  | nil : PTys X [] []
  | cons {x : Str} {t : Ty} {px : Pos} {es : List Expr} {ts : List Ty} : PTyOk X x t → PTys X es ts → PTys X (.Name x px :: es) (t :: ts)
def tysV (ts : List Ty) : List V := ts.map fun t => V.ty t.name
def tConsts (vs : List V) : TA := fun _ H Q => Q vs H
theorem PTys.pa : ∀ {es : List Expr} {ts : List Ty}, PTys X es ts → PA X es (tConsts (tysV ts))
  | _, _, .nil => pa_nil
  | _, _, .cons k r => PA.imp (pa_cons k.pe (PTys.pa r) rfl) fun _ _ _ q => q
theorem kit_any (t : Ty) : ∀ ts : List Ty, PySem.W.kitAny X.K (.type t.name) (ts.map fun u => Value.type u.name) = some (ts.any fun u => t.isa u)
  | [] => rfl
  | u :: us => by
    rw [List.map_cons, List.any_cons]
    refine kitAny_cons (kit_ty (Ty.kit t u)) (fun hb => ?_) (fun hb => ?_)
    · rw [hb, Bool.false_or]; exact kit_any t us
    · rw [hb, Bool.true_or]
theorem cls_all : ∀ ts : List Ty, Paired ClsV (tysV ts) (ts.map fun u => Value.type u.name)
  | [] => .nil
  | u :: us => .cons (.ty _) (cls_all us)
theorem s_isiT {es : List Expr} {ts : List Ty} {k : Nat} {tp : Pos} (hg : Gl X "isinstance") (hm : X.mg "isinstance" = none) (he : PE X e (tD X G da)) (ht : PTys X es ts) (hs : isStar e = false) (hl : ts.length ≤ 100) :
    PE X (.Call (.Name "isinstance" p) [e, .Tuple es k tp] [] pos) (tD X G (dIsi da ts)) :=
  PE.imp (pe_callB call_isiT hg hm PyProof.Rows.boot_isinstance (pa_cons he (pa_cons (pe_tup ht.pa) pa_nil rfl) (star_cons hs)) (by decide) (by decide) (star_cons hs) rfl) fun σ H Q q =>
    tG.bind (f := fun fn env d h1 => match tyOf h1 d with
      | some t' => R.ok (D.bl (ts.any fun u => t'.isa u)) h1
      | none => .bad) q fun g own env h H1 d v og r l q p1 => by
      split at p1
      · rename_i t' et
        refine ⟨by rw [lineE]; simp [tysV]; omega, fun a ha => ?_⟩
        have q' := RelT.ext r (Ext.new r ha (o := .tup (tysV ts))) q
        have ty := tyOf_ok (og.ext (Ext.new r ha (o := .tup (tysV ts)))) (r.new ha) q' et
        refine ⟨v, a, tysV ts, .type t'.name, ts.map fun u => Value.type u.name, ts.any fun u => t'.isa u, rfl, upd_same, ?_, ty, kit_any t' ts, ?_⟩
        · exact cls_all ts
        · exact p1 _ _ (Ext.new r ha) (r.new ha) _ rfl
      · exact p1.elim
end
end EV
/-! EV14: a slot's list is let go, several names at once, while, augmented names -/
namespace EV
open PySem L2
section
variable {X : Cx} {G : Gx} {g g' g0 : Gh} {H H' H0 : Hp} {h h' : Cells} {own : Nat → Option Addr} {env : Ev} {σ : L2.St} {p : Addr} {ds : List D} {i : Nat} {st : Stmt} {sts : List Stmt} {da : DS}

/-! ### a slot's own list becomes a value -/
def frz1 (i : Nat) (env : Ev) : Ev := match env[i]? with
  | some (.own ds) => env.set i (.val (.lst ds))
  | _ => env
def frzs : List Nat → Ev → Ev
  | [], env => env
  | i :: is, env => frzs is (frz1 i env)
def sFrz (is : List Nat) (a : DS) : DS := fun fn env h => a fn (frzs is env) h
theorem frz1_ok (r : HRel X.prog X.w g H h) (o : GOk X G g) (l : LR g own env σ H) (n : Ent g0 H0 g H own) (i : Nat) :
    ∃ g' own', GOk X G g' ∧ HRel X.prog X.w g' H h ∧ LR g' own' (frz1 i env) σ H ∧ Ent g0 H0 g' H own' ∧ ExtS g H g' H := by
  unfold frz1
  split
  · rename_i ds es
    have hi : i < env.length := (List.getElem?_eq_some_iff.mp es).1
    obtain ⟨p, xs, z1, z2, z3, z4⟩ := l.sl i _ es
    obtain ⟨wp, np, _⟩ := l.ow i p z1
    have hp0 := n.new i p z1
    refine ⟨g.less p, fun j => if j = i then none else own j, ⟨o.K, o.gA⟩, r.less np, ?_, ⟨n.ext.lessNew hp0 np, fun j a z => ?_⟩, ExtS.less⟩
    · refine { len := by rw [List.length_set, l.len], inj := fun a b x h1 h2 => ?_, ow := fun a x h1 => ?_, sl := fun j s e => ?_ }
      · by_cases ha : a = i
        · simp only [if_pos ha] at h1; cases h1
        · by_cases hb : b = i
          · simp only [if_pos hb] at h2; cases h2
          · simp only [if_neg ha] at h1; simp only [if_neg hb] at h2
            exact l.inj a b x h1 h2
      · by_cases ha : a = i
        · simp only [if_pos ha] at h1; cases h1
        · simp only [if_neg ha] at h1
          obtain ⟨w1, w2, w3⟩ := l.ow a x h1
          exact ⟨⟨w1, fun e => ha (l.inj a i p (by rw [← e]; exact h1) z1)⟩, w2, w3⟩
      · by_cases hj : j = i
        · subst hj
          rw [List.getElem?_set_self hi] at e
          cases e
          exact ⟨.ref p, z2, p, xs, rfl, ⟨z3, fun w => w.2 rfl⟩, RelsS.exts r ExtS.less z4⟩
        · rw [List.getElem?_set_ne (Ne.symm hj)] at e
          have z := l.sl j s e
          cases s with
          | no => trivial
          | val d =>
            obtain ⟨u, y1, y2⟩ := z
            exact ⟨u, y1, RelS.exts r ExtS.less y2⟩
          | own ds' =>
            obtain ⟨a, xs', y1, y2, y3, y4⟩ := z
            exact ⟨a, xs', by simp only [if_neg hj]; exact y1, y2, y3, RelsS.exts r ExtS.less y4⟩
    · by_cases hj : j = i
      · simp only [if_pos hj] at z; cases z
      · simp only [if_neg hj] at z; exact n.new j a z
  · exact ⟨g, own, o, r, l, n, ExtS.refl _ _⟩
theorem frzs_ok : ∀ (is : List Nat) {g : Gh} {own : Nat → Option Addr} {env : Ev}, HRel X.prog X.w g H h → GOk X G g → LR g own env σ H → Ent g0 H0 g H own →
    ∃ g' own', GOk X G g' ∧ HRel X.prog X.w g' H h ∧ LR g' own' (frzs is env) σ H ∧ Ent g0 H0 g' H own' ∧ ExtS g H g' H
  | [], g, own, env, r, o, l, n => ⟨g, own, o, r, l, n, ExtS.refl _ _⟩
  | i :: is, g, own, env, r, o, l, n => by
    obtain ⟨g1, own1, o1, r1, l1, n1, e1⟩ := frz1_ok r o l n i
    obtain ⟨g2, own2, o2, r2, l2, n2, e2⟩ := frzs_ok is r1 o1 l1 n1
    exact ⟨g2, own2, o2, r2, l2, n2, e1.trans e2⟩
theorem tS.frz {is : List Nat} {Dn : Ends} (q : tS X G g0 H0 (sFrz is da) Dn σ H) : tS X G g0 H0 da Dn σ H := by
  obtain ⟨g, own, env, h, o, r, l, n, q⟩ := q
  obtain ⟨g1, own1, o1, r1, l1, n1, e1⟩ := frzs_ok is r o l n
  exact ⟨g1, own1, _, h, o1, r1, l1, n1, PostS.mono q e1⟩
theorem s_frz {is : List Nat} (hs : PS X st (tS X G g0 H0 da)) : PS X st (tS X G g0 H0 (sFrz is da)) := PS.imp hs fun _ _ _ q => tS.frz q

/-! ### several names at once -/
inductive It' where
  | v (d : D) | o (ds : List D)
abbrev DM := Fns → Ev → Cells → R It'
def dmV (a : DE) : DM := fun fn env h => (a fn env h).bind fun d h1 => if isBor d then .bad else .ok (.v d) h1
def dmO (a : DF) : DM := fun fn env h => (a fn env h).bind fun ds h1 => .ok (.o ds) h1
def IRel (Hs : Hp) (g : Gh) (H : Hp) : It' → V → Prop
  | .v d, v => RelS g H d v
  | .o ds, v => ∃ p xs, v = .ref p ∧ H p = some (.lst xs) ∧ RelsS g H ds xs ∧ g.W p ∧ p ∉ g.ρ ∧ Hs p = none
def tM (X : Cx) (G : Gx) (dm : DM) : TE := fun σ H Q => ∃ g own env h, GOk X G g ∧ HRel X.prog X.w g H h ∧ LR g own env σ H ∧ Post X G g H (dm G.fns env h) fun g' H' it _ => ∀ v, IRel H g' H' it v → Q v H'
theorem IRel.ext {Hs : Hp} (r : HRel X.prog X.w g H h) (e : Ext g H g' H') {it : It'} {v : V} (q : IRel Hs g H it v) : IRel Hs g' H' it v := by
  cases it with
  | v d => exact RelS.ext r e q
  | o ds =>
    obtain ⟨p, xs, z1, z2, z3, z4, z5, z6⟩ := q
    exact ⟨p, xs, z1, e.fr p _ z2 z5, RelsS.ext r e z3, (e.wk p z4).resolve_right (fun z => by rw [z2] at z; cases z), (fun m => by have z := e.nw p m z5; rw [z2] at z; cases z), z6⟩
variable {e : Expr} {de : DE} {df : DF}
theorem s_mV (he : PE X e (tD X G de)) : PE X e (tM X G (dmV de)) := PE.imp he fun σ H Q ⟨g, own, env, h, o, r, l, q⟩ => ⟨g, own, env, h, o, r, l, (Post.bind q).imp fun g1 H1 d h1 e1 r1 q1 v qv => by
  split at q1
  · exact q1.elim
  · rename_i nb
    exact Post.now r1 q1 v (qv.s (by simpa using nb))⟩
theorem s_mO (he : PE X e (tF X G df)) : PE X e (tM X G (dmO df)) := PE.imp he fun σ H Q ⟨g, own, env, h, o, r, l, q⟩ => ⟨g, own, env, h, o, r, l, (Post.bind q).imp fun g1 H1 ds h1 e1 r1 q1 p xs z1 z2 z3 z4 z5 =>
  Post.now r1 q1 _ ⟨p, xs, rfl, z4, z5, z2, z3, z1⟩⟩
/-- an item goes to its slot -/
def putIt (i : Nat) (it : It') (env : Ev) : Option Ev := if env.length ≤ i then none else match it with
  | .v d => some (env.set i (.val d))
  | .o ds => some (env.set i (.own ds))
def ownIt (i : Nat) (it : It') (v : V) (own : Nat → Option Addr) : Nat → Option Addr := fun j => if j = i then match it, v with
  | .o _, .ref p => some p
  | _, _ => none
  else own j
theorem putIt_ok {it : It'} {v : V} {env' : Ev} {Hs : Hp} (l : LR g own env σ H) (q : IRel Hs g H it v) (fresh : ∀ p, (∃ ds, it = .o ds) → v = .ref p → ∀ j, own j ≠ some p) (e : putIt i it env = some env') :
    LR g (ownIt i it v own) env' (σ.set i (some v)) H := by
  unfold putIt at e
  split at e
  · cases e
  · rename_i hl
    cases it with
    | v d =>
      cases e
      have := l.val (i := i) (by omega) q
      exact this
    | o ds =>
      cases e
      obtain ⟨p, xs, rfl, z2, z3, z4, z5, z6⟩ := q
      exact l.own' (by omega) z4 z5 z2 z3 (fresh p ⟨ds, rfl⟩ rfl)
theorem ent_fresh (r : HRel X.prog X.w g H h) (n : Ent g0 H0 g H own) (hp : H p = none) : H0 p = none := by
  cases q : H0 p with
  | none => rfl
  | some u =>
    by_cases m : p ∈ g0.ρ
    · obtain ⟨u', hu', _⟩ := r.mem (n.ext.mem m)
      rw [hp] at hu'; cases hu'
    · rw [n.ext.fr p u q m] at hp; cases hp
theorem ownIt_new {it : It'} {v : V} {own : Nat → Option Addr} {i : Nat} (n : ∀ j a, own j = some a → H0 a = none) (f : ∀ p, (∃ ds, it = .o ds) → v = .ref p → H0 p = none) : ∀ j a, ownIt i it v own j = some a → H0 a = none := fun j a z => by
  unfold ownIt at z
  split at z
  · cases it with
    | v d => cases z
    | o ds =>
      cases v with
      | ref q => cases z; exact f _ ⟨ds, rfl⟩ rfl
      | _ => cases z
  · exact n j a z
def sPar2 (i j : Nat) (a b : DM) : DS := fun fn env h => (a fn env h).bind fun x h1 => (b fn env h1).bind fun y h2 => match putIt i x env with
  | some env1 => match putIt j y env1 with
    | some env2 => .ok (.nx, env2) h2
    | none => .bad
  | none => .bad
theorem par_step {it : It'} {v : V} {env' : Ev} {Hs : Hp} {gs : Gh} {hs : Cells} (rs : HRel X.prog X.w gs Hs hs) (ns : Ent g0 H0 gs Hs own) (ls : LR gs own env σ Hs) (l : LR g own env σ H) (q : IRel Hs g H it v) :
    (∀ p, (∃ ds, it = .o ds) → v = .ref p → ∀ j, own j ≠ some p) ∧ ∀ p, (∃ ds, it = .o ds) → v = .ref p → H0 p = none := by
  refine ⟨fun p ⟨ds, e⟩ ev j hj => ?_, fun p ⟨ds, e⟩ ev => ?_⟩
  · subst e
    obtain ⟨p', xs, ep, z2, z3, z4, z5, z6⟩ := q
    rw [ev] at ep; cases ep
    obtain ⟨_, _, u, hu⟩ := ls.ow j p hj
    rw [z6] at hu; cases hu
  · subst e
    obtain ⟨p', xs, ep, z2, z3, z4, z5, z6⟩ := q
    rw [ev] at ep; cases ep
    exact ent_fresh rs ns z6
theorem par2_of {j : Nat} {a b : DM} {Dn : Ends} (q : tS X G g0 H0 (sPar2 i j a b) Dn σ H) : tPar i j (tCons (tM X G a) (tCons (tM X G b) tNil)) Dn σ H := by
  obtain ⟨g, own, env, h, o, r, l, n, q⟩ := q
  refine ⟨g, own, env, h, o, r, l, (Post.stmt r n q).imp fun g1 H1 x h1 e1 r1 q1 v qv => ?_⟩
  have n1 := n.step e1
  have l1 := l.step r e1
  refine ⟨g1, own, env, h1, o.ext e1, r1, l1, (Post.stmt r1 n1 q1).imp fun g2 H2 y h2 e2 r2 q2 w qw => ?_⟩
  have n2 := n1.step e2
  have l2 := l1.step r1 e2
  have qv2 := IRel.ext r1 e2 qv
  obtain ⟨f1, f2⟩ := par_step (env' := env) r n l l2 qv2
  obtain ⟨k1, k2⟩ := par_step (env' := env) r1 n1 l1 l2 qw
  refine ⟨v, w, rfl, ?_⟩
  split at q2
  · rename_i env1 p1
    split at q2
    · rename_i env2 p2
      have la := putIt_ok l2 qv2 f1 p1
      have lb := putIt_ok la qw (fun p hp ev j' hj' => by
        unfold ownIt at hj'
        split at hj'
        · cases x with
          | v d => cases hj'
          | o ds =>
            obtain ⟨p', xs, rfl, z2, z3, z4, z5, z6⟩ := qv
            cases hj'
            obtain ⟨ds2, e2'⟩ := hp
            subst e2'
            obtain ⟨p2, xs2, ew, y2, y3, y4, y5, y6⟩ := qw
            rw [ev] at ew
            cases ew
            rw [z2] at y6; cases y6
        · exact k1 p hp ev j' hj') p2
      exact q2 g2 _ H2 _ ((o.ext e1).ext e2) r2 lb ⟨n2.ext, ownIt_new (ownIt_new n2.new f2) k2⟩ (ExtS.refl _ _)
    · exact q2.elim
  · exact q2.elim
theorem s_par2 {j : Nat} {x y : Str} {a b : Expr} {da db : DM} {px py pt pos : Pos} {kt k2 pt2} (hc : X.calm = true) (hN : X.N.Nodup) (hi : X.N[i]? = some x) (hj : X.N[j]? = some y) (hij : i ≠ j)
    (hx : X.env.scope.names.lookup x = some .local) (hy : X.env.scope.names.lookup y = some .local) (ha : PE X a (tM X G da)) (hb : PE X b (tM X G db)) (sa : isStar a = false) (sb : isStar b = false)
    (hw : swappedStores [.Tuple [.Name x px, .Name y py] kt pt] (.Tuple [a, b] k2 pt2) X.env = pure (some [x, y])) :
    PS X (.Assign [.Tuple [.Name x px, .Name y py] kt pt] (.Tuple [a, b] k2 pt2) pos) (tS X G g0 H0 (sPar2 i j da db)) :=
  PS.imp (ps_par hc hN hi hj hij hx hy (pa_cons ha (pa_cons hb pa_nil (star_cons sb)) (star_cons sa)) hw rfl) fun _ _ _ q => par2_of q

/-! ### while -/
def whileL (t : DT) (body : DS) (fn : Fns) : Nat → Ev → Cells → R (Fl × Ev)
  | 0, _, _ => .bad
  | n + 1, env, h => (t fn env h).bind fun k h1 => if k = true then (body fn env h1).bind fun x h2 => match x.1 with
      | .nx => whileL t body fn n x.2 h2
      | .ct => whileL t body fn n x.2 h2
      | .bk => .ok (.nx, x.2) h2
      | .rt d => .ok (.rt d, x.2) h2
    else .ok (.nx, env) h1
def sWhile (n : Nat) (t : DT) (body : DS) : DS := fun fn env h => whileL t body fn n env h
theorem s_while {c : Expr} {b : List Stmt} {t : DT} {body : DS} {pos : Pos} (n : Nat) (hp : PassesOwn (model X.prog X.w) X.A X.env X.xe) (hc : PT X c (tT X G t)) (hb : PSs X b (tS X G g0 H0 body)) : PS X (.While c b [] pos) (tS X G g0 H0 (sWhile n t body)) := by
  refine PS.imp (ps_while hp hc hb) fun Dn σ H q => ?_
  obtain ⟨g, own, env, h, o, r, l, n0, q⟩ := q
  refine ⟨fun m σ' H' => ∃ g own env h, GOk X G g ∧ HRel X.prog X.w g H' h ∧ LR g own env σ' H' ∧ Ent g0 H0 g H' own ∧ PostS X G g0 H0 g H' (whileL t body G.fns m env h) Dn, ⟨n, g, own, env, h, o, r, l, n0, q⟩, ?_⟩
  rintro m σ1 H1 ⟨g1, own1, env1, h1, o1, r1, l1, n1, q1⟩
  cases m with
  | zero => exact q1.elim
  | succ m =>
    unfold whileL at q1
    refine tG.mk o1 r1 l1 ((Post.stmt r1 n1 q1).imp fun g2 H2 k h2 e2 r2 q2 v hv => ?_)
    subst hv
    cases v with
    | false => exact q2.now (o1.ext e2) r2 (l1.step r1 e2) (n1.step e2)
    | true =>
      refine ⟨_, fun σ' H' z => ⟨m, Nat.lt_succ_self m, z⟩, g2, own1, env1, h2, o1.ext e2, r2, l1.step r1 e2, n1.step e2, ?_⟩
      have q2 : PostS X G g0 H0 g2 H2 ((body G.fns env1 h2).bind fun x h2 => match x.1 with
        | .nx => whileL t body G.fns m x.2 h2
        | .ct => whileL t body G.fns m x.2 h2
        | .bk => .ok (.nx, x.2) h2
        | .rt d => .ok (.rt d, x.2) h2) Dn := q2
      cases eb : body G.fns env1 h2 with
      | bad => rw [eb] at q2; exact q2.elim
      | exc z h4 => rw [eb] at q2; exact q2
      | ok z h4 =>
        rw [eb] at q2
        obtain ⟨fl, env4⟩ := z
        cases fl with
        | nx => exact fun g4 own4 H4 σ4 o4 r4 l4 n4 e4 => ⟨g4, own4, env4, h4, o4, r4, l4, n4, PostS.mono q2 e4⟩
        | ct => exact fun g4 own4 H4 σ4 o4 r4 l4 n4 e4 => ⟨g4, own4, env4, h4, o4, r4, l4, n4, PostS.mono q2 e4⟩
        | bk => exact q2
        | rt d => exact q2

/-! ### name op= e -/
def dIAdd : O2 := fun x y h => match x, y with
  | .int i, .int j => .ok (.int (i + j)) h
  | .str s, .str t => if s.length + t.length ≤ szL then .ok (.str (s ++ t)) h else .bad
  | _, _ => .bad
def dISub : O2 := fun x y h => match x, y with
  | .int i, .int j => .ok (.int (i - j)) h
  | _, _ => .bad
theorem o_iadd : OpR X (inplaceOp .Add) (rO2 X G dIAdd) := by
  intro pins s σ H x y v u Q I rx ry ⟨g, h, d, e, og, r, qd, qe, p⟩
  unfold dIAdd at p
  split at p
  · rename_i i j
    cases (show x = V.int i from qd); cases (show y = V.int j from qe)
    exact iop_add pins s σ H _ _ v u Q I rx ry ⟨i, j, rfl, rfl, Post.int r p⟩
  · rename_i i j
    cases (show x = V.str i from qd); cases (show y = V.str j from qe)
    split at p
    · rename_i hz
      exact iop_add_str pins s σ H _ _ v u Q I rx ry ⟨i, j, rfl, rfl, by rw [lineE]; exact hz, Post.str r p⟩
    · exact p.elim
  · exact p.elim
theorem o_isub : OpR X (inplaceOp .Sub) (rO2 X G dISub) := by
  intro pins s σ H x y v u Q I rx ry ⟨g, h, d, e, og, r, qd, qe, p⟩
  unfold dISub at p
  split at p
  · rename_i i j
    cases (show x = V.int i from qd); cases (show y = V.int j from qe)
    exact iop_sub pins s σ H _ _ v u Q I rx ry ⟨i, j, rfl, rfl, Post.int r p⟩
  · exact p.elim
def sAug (i : Nat) (o : O2) (a : DE) : DS := fun fn env h => match env[i]? with
  | some (.val d) => (a fn env h).bind fun e h1 => (o d e h1).bind fun z h2 => setV i z env h2
  | _ => .bad
theorem s_aug {x : Str} {op : Operator} {o : O2} {pos pos' : Pos} (hN : X.N.Nodup) (hi : X.N[i]? = some x) (hx : Loc X.env.scope x) (he : PE X e (tD X G de)) (ho : OpR X (inplaceOp op) (rO2 X G o)) (hf : X.fn x = true ∨ X.env.scope.names.lookup x = some .local) :
    PS X (.AugAssign (.Name x pos') op e pos) (tS X G g0 H0 (sAug i o de)) :=
  PS.imp (ps_aug hN hi hx he (show PIp X op (rO2 X G o) from ho) hf) fun Dn σ H ⟨g, own, env, h, og, r, l, n, q⟩ => by
    unfold sAug at q
    split at q
    · rename_i d ed
      obtain ⟨v, z1, z2⟩ := l.sl i _ ed
      refine ⟨v, z1, tG.mk og r l ((Post.stmt r n q).imp fun g1 H1 e h1 e1 r1 q1 w qw => ?_)⟩
      refine ⟨g1, h1, d, e, og.ext e1, r1, RelT.ext r e1 z2.t, qw, (Post.stmt r1 (n.step e1) q1).imp fun g2 H2 z h2 e2 r2 q2 u qu => ?_⟩
      exact setV_ok (X := X) (G := G) ((og.ext e1).ext e2) r2 ((l.step r e1).step r1 e2) ((n.step e1).step e2) qu q2
    · exact q.elim
end
end EV
/-! EV15: the table of a text's defs, every def keeps its contract -/
namespace EV
open PySem L2
/-- a def of the text -/
structure FD where
  gn : Str
  nm : Str
  st : Stmt
  ps : List Str
  N : List Str
  sem : DS
/-- a text -/
structure Pg where
  defs : List FD
  free : List Str
  vals : List (Str × D)
def startE (n : Nat) (ds : List D) : Ev := ds.map Sl.val ++ List.replicate (n - ds.length) Sl.no
def endF (x : Fl × Ev) (h : Cells) : R D := match x.1 with
  | .nx => .ok .non h
  | .rt d => .ok d h
  | _ => .bad
def bodyF (n : Nat) (sem : DS) (fn : Fns) (ds : List D) (h : Cells) : R D := (sem fn (startE n ds) h).bind endF
def fnsOf (tb : List FD) : Nat → Fns
  | 0 => fun _ _ _ => .bad
  | k + 1 => fun i ds h => match tb[i]? with
    | some d => bodyF d.N.length d.sem (fnsOf tb k) ds h
    | none => .bad
/-- what the code of a def leans on -/
structure XOk (X : Cx) (G : Gx) (T : Pg) (k : Nat) : Prop where
  gu : X.A.guards = some []
  calm : X.calm = true
  rm : Room k X.A
  hx : Passes (L2.CX X.prog X.w) X G.Wx
  po : PassesOwn (model X.prog X.w) X.A X.env X.xe
  defs : ∀ (i : Nat) (d : FD), T.defs[i]? = some d → ∃ f fd, X.mg d.gn = some (.ref f) ∧ FunD X.K d.nm d.nm (defArgs d.st) (defBody d.st) (defScope d.st) [] [] f fd ∧ FnG X.prog X.w X.K X.mg X.base k f fd d.ps (spF X.prog X.w X.K G.gA d.ps.length (G.fns i))
  free : ∀ x, T.free.elem x = true → X.mg x = none
  vals : ∀ p, p ∈ T.vals → ∃ v u, X.mg p.1 = some u ∧ RelV v u ∧ ∀ g H, GOk X G g → RelS g H p.2 v
/-- names -/
structure Sc (X : Cx) (N : List Str) (sc : Scope) (F : Str → Bool) : Prop where
  en : X.N = N
  sc : X.env.scope = sc
  fn : X.fn = F
  nd : N.Nodup
def visB (sc : Scope) (x : Str) : Bool := match sc.names.lookup x with
  | some .local | some .cell | some .free => true
  | _ => false
def locB (sc : Scope) (x : Str) : Bool := match sc.names.lookup x with
  | some .local | some .cell => true
  | _ => false
def lclB (sc : Scope) (x : Str) : Bool := match sc.names.lookup x with
  | some .local => true
  | _ => false
def glB (sc : Scope) (x : Str) : Bool := match sc.names.lookup x with
  | some .globalImplicit => true
  | _ => false
def sameB (a : Option Str) (b : Str) : Bool := match a with
  | some c => c == b
  | none => false
structure VarOk (X : Cx) (i : Nat) (x : Str) : Prop where
  n : X.N[i]? = some x
  v : Vis X.env.scope x
  d : (x == ("__debug__" : Str)) = false
  c : (x == ("__classdict__" : Str)) = false
structure TgtOk (X : Cx) (i : Nat) (x : Str) : Prop where
  nd : X.N.Nodup
  n : X.N[i]? = some x
  l : L2.Loc X.env.scope x
  f : X.fn x = true ∨ X.env.scope.names.lookup x = some .local
section
variable {X : Cx} {G : Gx} {T : Pg} {k : Nat} {N : List Str} {sc : Scope} {F : Str → Bool} {x : Str} {i : Nat}
theorem visB_ok (h : visB sc x = true) : Vis sc x := by
  unfold visB at h; unfold Vis
  split at h <;> simp_all
theorem locB_ok (h : locB sc x = true) : L2.Loc sc x := by
  unfold locB at h; unfold L2.Loc
  split at h <;> simp_all
theorem lclB_ok (h : lclB sc x = true) : sc.names.lookup x = some .local := by
  unfold lclB at h
  split at h <;> simp_all
theorem glB_ok (h : glB sc x = true) : sc.names.lookup x = some .globalImplicit := by
  unfold glB at h
  split at h <;> simp_all
theorem sameB_ok {a : Option Str} {b : Str} (h : sameB a b = true) : a = some b := by
  unfold sameB at h
  split at h
  · simp_all
  · cases h
theorem Sc.var (S : Sc X N sc F) (i : Nat) (x : Str) (h : (sameB N[i]? x && visB sc x && !(x == ("__debug__" : Str)) && !(x == ("__classdict__" : Str))) = true) : VarOk X i x := by
  simp only [Bool.and_eq_true, Bool.not_eq_true'] at h
  obtain ⟨⟨⟨h1, h2⟩, h3⟩, h4⟩ := h
  exact ⟨by rw [S.en]; exact sameB_ok h1, by rw [S.sc]; exact visB_ok h2, h3, h4⟩
theorem Sc.tgt (S : Sc X N sc F) (i : Nat) (x : Str) (h : (sameB N[i]? x && locB sc x && (F x || lclB sc x)) = true) : TgtOk X i x := by
  simp only [Bool.and_eq_true, Bool.or_eq_true] at h
  obtain ⟨⟨h1, h2⟩, h3⟩ := h
  refine ⟨by rw [S.en]; exact S.nd, by rw [S.en]; exact sameB_ok h1, by rw [S.sc]; exact locB_ok h2, ?_⟩
  rcases h3 with z | z
  · exact .inl (by rw [S.fn]; exact z)
  · exact .inr (by rw [S.sc]; exact lclB_ok z)
theorem Sc.gl (S : Sc X N sc F) (x : Str) (h : glB sc x = true) : Gl X x := by
  show X.env.scope.names.lookup x = _
  rw [S.sc]; exact glB_ok h
theorem Sc.lcl (S : Sc X N sc F) (x : Str) (h : lclB sc x = true) : X.env.scope.names.lookup x = some .local := by
  rw [S.sc]; exact lclB_ok h
theorem XOk.blk (O : XOk X G T k) {s : Shared} {H : Hp} {scope : Scope} {cenv : Env} {fp : List Addr} : XOk (X.blk s H scope cenv fp) G.quiet T k where
  gu := O.gu
  calm := O.calm
  rm := O.rm
  hx := fun pins σ H s e s' I c => by
    obtain ⟨a, B, H', cls, d, h1, h2, h3, h4, h5, h6, h7, z⟩ := c
    exact z.elim
  po := PassesOwn.never
  defs := O.defs
  free := O.free
  vals := fun p hp => by
    obtain ⟨v, u, h1, h2, h3⟩ := O.vals p hp
    exact ⟨v, u, h1, h2, fun g H o => h3 g H ⟨o.K, o.gA⟩⟩
theorem Sc.blk (S : Sc X N sc F) {s : Shared} {H : Hp} {scope : Scope} {C : Addr} {cl : List (Str × Addr)} {fp : List Addr} : Sc (X.blk s H scope (compEnvC scope cl C X.env) fp) N (relS scope sc) (fun x => scope.names.lookup x == some .cell) where
  en := S.en
  sc := by rw [← S.sc]; rfl
  fn := rfl
  nd := S.nd
theorem XOk.un (O : XOk X G T k) : X.A.units + 64 < cLine := by have := O.rm.un; omega
/-- a call of a def without defaults -/
theorem XOk.call (O : XOk X G T k) (i : Nat) {d : FD} (hd : T.defs[i]? = some d) (n : Nat) (ks : List Str) (src : List Src) (hl : src.length = d.ps.length)
    (hb : ∀ (kV doc pm : Value) (an : Option Addr) (cdv ct : Value) (us ws zs : List Value), us.length = n → ws.length = ks.length → arrange us ws [] src = some zs →
      bindArgs (PySem.W.fnOf d.nm d.nm (defArgs d.st) (defBody d.st) (defScope d.st) .none kV doc pm an cdv ct) ⟨us, ks.zip ws⟩ = pure (d.ps.zip zs)) : CallOk X G d.gn i n ks src [] := by
  obtain ⟨f, fd, hm, F, FG⟩ := O.defs i d hd
  refine ⟨k, f, fd, d.ps, [], [], hm, F.kp, O.rm, FG, .nil, (fun g H o => rfl), hl, fun s us ws zs X1 l1 l2 ar => ?_⟩
  obtain ⟨oc, od, dV, kV, doc, pm, an, cdv, ct, osl, rfl, lk, hcd, hD, hK⟩ := F.ex
  rcases hD with ⟨_, rfl⟩ | ⟨e, _⟩
  · exact .of_eq (hb kV doc pm an cdv ct us ws zs l1 l2 ar)
  · exact absurd rfl e
end
/-! ### all defs -/
structure TxtOk (K : PySem.W.Frag) (mg : Str → Option Value) (gA : Nat → Option Addr) (T : Pg) : Prop where
  defs : ∀ (i : Nat) (d : FD), T.defs[i]? = some d → ∃ f fd, mg d.gn = some (.ref f) ∧ FunD K d.nm d.nm (defArgs d.st) (defBody d.st) (defScope d.st) [] [] f fd
  free : ∀ x, T.free.elem x = true → mg x = none
  vals : ∀ p, p ∈ T.vals → ∃ v u, mg p.1 = some u ∧ RelV v u ∧ ∀ (g : Gh) (H : Hp), g.K = K → g.gA = gA → RelS g H p.2 v
/-- a def's body is what it is said to be -/
structure BodyOk (T : Pg) (d : FD) : Prop where
  sc : FnScope d.N d.ps (defScope d.st)
  run : ∀ (X : Cx) (G : Gx) (g0 : Gh) (H0 : Hp) (k : Nat), XOk X G T k → Sc X d.N (defScope d.st) (fun _ => true) → PSs X (defBody d.st) (tS X G g0 H0 d.sem)
theorem start_rel {g : Gh} {H : Hp} : ∀ {ds : List D} {vs : List V} {n : Nat}, RelsS g H ds vs → ∀ (i : Nat) (s : Sl), (startE n ds)[i]? = some s → SlRel g (fun _ => none) (vs.map some ++ List.replicate (n - ds.length) none) H i s := by
  intro ds vs n q i s e
  unfold startE at e
  by_cases hi : i < ds.length
  · rw [List.getElem?_append_left (by simpa using hi), List.getElem?_map] at e
    cases ed : ds[i]? with
    | none => rw [ed] at e; cases e
    | some d =>
      rw [ed] at e
      cases e
      obtain ⟨v, h1, h2⟩ := RelsS.get q ed
      exact ⟨v, by rw [List.getElem?_append_left (by rw [List.length_map, ← q.len]; exact hi), List.getElem?_map, h1]; rfl, h2⟩
  · rw [List.getElem?_append_right (by simpa using hi), List.getElem?_replicate] at e
    split at e
    · cases e; trivial
    · cases e
section
variable {P : Program} {w : World} {K : PySem.W.Frag} {mg : Str → Option Value} {base : Heap} {gA : Nat → Option Addr} {T : Pg}
theorem all_fn (TO : TxtOk K mg gA T) (B : ∀ (i : Nat) (d : FD), T.defs[i]? = some d → BodyOk T d) : ∀ (k i : Nat) (d : FD), T.defs[i]? = some d →
    ∀ f fd, mg d.gn = some (.ref f) → FunD K d.nm d.nm (defArgs d.st) (defBody d.st) (defScope d.st) [] [] f fd → FnG P w K mg base k f fd d.ps (spF P w K gA d.ps.length (fnsOf T.defs k i))
  | 0, i, d, hd => by
    intro f fd h1 h2
    refine ⟨fun _ _ _ _ q => spF_len q, fun _ _ _ _ _ _ _ _ _ _ _ _ _ _ q => ?_⟩
    obtain ⟨g, h, ds, _, _, _, _, _, z⟩ := q
    exact z.elim
  | k + 1, i, d, hd => by
    have ih := all_fn TO B k
    intro f fd h1 h2
    obtain ⟨oc, od, dV, kV, doc, pm, an, cdv, ct, osl, rfl, lk, hcd, _, _⟩ := h2.ex
    refine FnG.of lk hcd (B i d hd).sc (fun _ _ _ _ q => spF_len q) fun A out s H vs Q E gu rm q => ?_
    obtain ⟨g, h, ds, gK, ggA, r, rel, len, post⟩ := q
    let G : Gx := ⟨gA, fnsOf T.defs k, E⟩
    have O : XOk (cxOf (L2.CX P w) P w K mg base d.N d.nm (defScope d.st) f cdv A out s H E) G T k :=
      { gu := gu, calm := rfl, rm := rm, hx := passes_call (takes_of rfl rfl rfl rfl) (fun _ _ _ _ z => z), po := passes_of (K := fun e s'' => L2.CX P w out H s E e s'') rfl, defs := fun j e he => (let ⟨f, fd, z1, z2⟩ := TO.defs j e he; ⟨f, fd, z1, z2, ih j e he f fd z1 z2⟩), free := TO.free,
        vals := fun p hp => by
          obtain ⟨v, u, z1, z2, z3⟩ := TO.vals p hp
          exact ⟨v, u, z1, z2, fun g H o => z3 g H o.K o.gA⟩ }
    refine ⟨_, (B i d hd).run _ G g H k O ⟨rfl, rfl, rfl, (B i d hd).sc.nd⟩, g, fun _ => none, startE d.N.length ds, h, ⟨gK, ggA⟩, r, ⟨?_, (fun _ _ _ z => by cases z), (fun _ _ z => by cases z), ?_⟩, ⟨Ext.refl r, fun _ _ z => by cases z⟩, ?_⟩
    · show (ds.map Sl.val ++ List.replicate _ Sl.no).length = (vs.map some ++ List.replicate _ none).length
      simp [rel.len]
    · intro j sl e
      show SlRel g _ (vs.map some ++ List.replicate (d.N.length - vs.length) none) H j sl
      rw [← rel.len]
      exact start_rel rel j sl e
    · have post : PostE P w E g H ((d.sem (fnsOf T.defs k) (startE d.N.length ds) h).bind endF) fun g' H' d x => ∀ (v : V), RelS g' H' d v → Q v H' := by
        have e : fnsOf T.defs (k + 1) i ds h = bodyF d.N.length d.sem (fnsOf T.defs k) ds h := by
          show (match T.defs[i]? with
            | some d => bodyF d.N.length d.sem (fnsOf T.defs k) ds h
            | none => .bad) = _
          rw [hd]
        rw [e] at post
        exact post
      show PostS _ G g H g H (d.sem (fnsOf T.defs k) (startE d.N.length ds) h) _
      revert post
      cases d.sem (fnsOf T.defs k) (startE d.N.length ds) h with
      | bad => exact fun z => z
      | exc e h' => exact fun z => z
      | ok x h' =>
        obtain ⟨fl, env'⟩ := x
        cases fl with
        | nx => exact fun post g' own' H' σ' _ r' _ n' _ => post g' H' n'.ext r' _ rfl
        | rt d' => exact fun post g' own' H' σ' _ r' _ n' _ v qv => post g' H' n'.ext r' v qv
        | bk => exact fun z => z.elim
        | ct => exact fun z => z.elim
end
end EV
/-! EV16: a law's end -/
namespace EV
open PySem L2
open PySem.Spec PyProof.Rows
/-- the heap that the script is taken out of, as a base -/
structure Bas (P : Program) (w : World) (K : PySem.W.Frag) (mg : Str → Option Value) (s : Shared) (H : Hp) (a : Addr) (ns : List Int) : Prop where
  e0 : ∃ base, Env0 P w K mg base callerA [] s H
  fz : (∃ o, H a = some (.frz o (.lst (ns.map V.int)))) ∨ SqK K a (ns.map V.int)
  on : ∀ b u, H b = some u → b = a ∧ ∃ o, u = .frz o (.lst (ns.map V.int))
theorem bas_of {P : Program} {w : World} {K : PySem.W.Frag} {mg mb : Str → Option Value} {a : Addr} {s : Shared} {vs : List Value} {ns : List Int}
    (KX : K.In s.heap) (gl : s.heap.Ns mainGlobals mg) (bl : s.heap.Ns builtinsNs mb) (bb : ∀ x : Str, x ≠ "__name__" → mb x = bootBuiltins x) (nl : s.heap.NoLimit) (gn : s.gens = #[])
    (oa : s.heap.get? a = some { cls := .type "list", data := .seq vs.toArray }) (iv : IntsAre vs ns) (sm : ns.length ≤ sizeLine) : ∃ H, Bas P w K mg s H a ns := by
  have rv : Vals (ns.map V.int) vs := vals_ints iv
  -- whatever is tracked is the script alone
  have build : ∀ H : Hp, (∀ b u, H b = some u → b = a ∧ u = .frz { cls := .type "list", data := .seq vs.toArray } (.lst (ns.map V.int))) → (H a ≠ none → K.lookup a = none) →
      ∃ base, Env0 P w K mg base callerA [] s H := by
    intro H on ka
    have sees : ∀ {b : Addr} {o : Obj}, s.heap.get? b = some o → (b = a → H a = none) → (hidT s.heap H).get? b = some o := fun {b o} e n => by
      refine hidT_get e ?_
      cases q : H b with
      | none => rfl
      | some u =>
        have z := (on b u q).1
        rw [z, n z] at q
        cases q
    have space : ∀ {b : Addr} {m : Str → Option Value}, s.heap.Ns b m → (hidT s.heap H).Ns b m := fun {b m} z => by
      obtain ⟨o, es, ep, h1, h2, h3⟩ := z
      refine ⟨o, es, ep, sees h1 fun e => ?_, h2, h3⟩
      rw [e, oa] at h1
      cases h1
      cases (show Data.seq vs.toArray _ = Data.dict es ep from h2)
    refine ⟨hidT s.heap H, rfl, ⟨fun b o e => sees (KX b o e) fun z => ?_, space gl, ⟨mb, space bl, bb⟩, ?_⟩, (fun b o e => of_hidT e), Nat.le_of_eq (hidT_size _ _), trivial, (fun b z => by cases z), fun b u z => ?_, .of_eq gn⟩
    · cases q : H a with
      | none => rfl
      | some u =>
        have q2 := ka (by rw [q]; simp)
        rw [z, q2] at e
        cases e
    · obtain ⟨mc, h1, h2⟩ := nl
      exact ⟨mc, space h1, h2⟩
    · obtain ⟨e1, e2⟩ := on b u z
      rw [e1, e2]
      exact ⟨oa, by rw [List.length_map]; exact sm, vs, _, rv, oa⟩
  cases kq : K.lookup a with
  | some o =>
    have oe := KX a o kq
    rw [oa] at oe
    cases oe
    refine ⟨fun _ => none, build _ (fun b u z => by cases z) fun z => absurd rfl z, .inr ⟨_, vs.toArray, _, kq, rfl, rfl, rfl, ?_, by simpa using rv⟩, fun b u z => by cases z⟩
    rw [List.size_toArray, iv.length]; exact sm
  | none =>
    have on : ∀ b u, (fun b => if b = a then some (HO.frz { cls := .type "list", data := .seq vs.toArray } (.lst (ns.map V.int))) else none) b = some u → b = a ∧ u = .frz { cls := .type "list", data := .seq vs.toArray } (.lst (ns.map V.int)) := fun b u z => by
      by_cases q : b = a
      · exact ⟨q, (Option.some.inj ((if_pos q).symm.trans z)).symm⟩
      · cases (if_neg q).symm.trans z
    exact ⟨_, build _ on fun _ => kq, .inl ⟨_, if_pos rfl⟩, fun b u z => ⟨(on b u z).1, _, (on b u z).2⟩⟩
/-- the law's call, from what the evaluation gives -/
theorem law_run {P : Program} {w : World} {K : PySem.W.Frag} {mg mb : Str → Option Value} {gA : Nat → Option Addr} {k : Nat} {fa a : Addr} {fd : FuncData} {x : Str} {F : List D → Cells → R D} {s : Shared} {vs : List Value} {ns : List Int}
    (KX : K.In s.heap) (gl : s.heap.Ns mainGlobals mg) (bl : s.heap.Ns builtinsNs mb) (bb : ∀ x : Str, x ≠ "__name__" → mb x = bootBuiltins x) (nl : s.heap.NoLimit) (gn : s.gens = #[])
    (oa : s.heap.get? a = some { cls := .type "list", data := .seq vs.toArray }) (iv : IntsAre vs ns) (sm : ns.length ≤ sizeLine) (rm : Room k callerA)
    (FG : ∀ base : Heap, FnG P w K mg base k fa fd [x] (spF P w K gA 1 F)) (hb : ∀ (s : Shared) (u : Value), BindsTo s fd ⟨[u], []⟩ [(x, u)])
    (hF : ∃ h, F [.frz (ns.map D.int)] [] = .ok (.bl true) h) :
    codeAny (model P w) callerA (.call (.ref fa) ⟨[.ref a], []⟩) (fun r s' => r = .ok (.ret (.bool true)) ∧ OldK s.heap s'.heap ∧ s'.os = s.os ∧ AllBare s'.gens) s := by
  obtain ⟨H, ⟨base, e0⟩, fz, on⟩ := bas_of (P := P) (w := w) KX gl bl bb nl gn oa iv sm
  obtain ⟨hc, hF⟩ := hF
  let g : Gh := ⟨K, gA, fun _ => False, []⟩
  have r0 : HRel P w g H [] := ⟨rfl, List.nodup_nil, (fun b z => by cases z), (fun _ _ z => z.elim), fun n b c z => by cases z⟩
  have nsR : ∀ ns : List Int, RelsS g H (ns.map D.int) (ns.map V.int) := fun ns => by
    induction ns with
    | nil => rfl
    | cons n ns ih => exact ⟨_, _, rfl, rfl, ih⟩
  have sp : spF P w K gA 1 F [.ref a] H (fun v _ => v = .bl true) (fun _ _ _ => False) :=
    ⟨g, [], [.frz (ns.map D.int)], rfl, rfl, r0, ⟨_, _, rfl, ⟨a, _, rfl, fz, nsR ns⟩, rfl⟩, rfl, by rw [hF]; exact fun _ _ _ _ v z => z⟩
  refine codeAny_mono ((FG base).run callerA [] s H ⟨[.ref a], []⟩ [.ref a] [.ref a] _ _ rfl rm e0 (hb s (.ref a)) (.cons rfl .nil) sp) fun res s' z => ?_
  cases res with
  | error e =>
    obtain ⟨_, _, _, _, _, _, _, _, _, _, _, _, n⟩ := (show L2.CX P w [] H s (fun _ _ _ => False) e s' from z)
    exact n.elim
  | ok fl => cases fl with
    | ret u =>
      obtain ⟨v, H', os, bare, un, hok, ru, q⟩ := z
      cases (show v = .bl true from q)
      cases (show u = Value.bool true from ru)
      refine ⟨rfl, .of_keep fun b o e => ?_, os, bare⟩
      cases q : H b with
      | none => exact un.keep b o e q (fun z => by cases z) (by simp)
      | some u =>
        obtain ⟨_, ⟨oz, z⟩⟩ := on b u q
        rw [z] at q
        have k1 := (e0.hok b _ q).1
        rw [e] at k1
        cases k1
        exact (hok b _ (un.frzs b _ _ q)).1
    | _ => exact False.elim z
/-- the end that a head leaves -/
theorem walk_fn {l : PySem.W.OpenLaw} {n k : Nat} {q : Program} {loose : List Str} {XP : (Str → Option Value) → Heap → Prop} {YP : World → Heap → Prop} {d : DefRec} {x : Str}
    (hn : l.most = some n) (hz : n ≤ sizeLine) (nodef : d.params.defaults = []) (rm : Room k callerA)
    (W : ∀ (w : World) (mg : Str → Option Value) (fa : Addr) (h : Heap), YP w h → h.Ns mainGlobals mg → mg d.name = some (.ref fa) →
      ∃ (K : PySem.W.Frag) (fd : FuncData) (gA : Nat → Option Addr) (F : List D → Cells → R D), K.In h ∧ (∀ (s : Shared) (u : Value), BindsTo s fd ⟨[u], []⟩ [(x, u)]) ∧ (∀ base : Heap, FnG l.prog w K mg base k fa fd [x] (spF l.prog w K gA 1 F)) ∧
        ∀ ns : List Int, ns.length ≤ n → ∃ h, F [.frz (ns.map D.int)] [] = .ok (.bl true) h) :
    PySem.W.WalkO q loose XP YP l.row.toRowW d [] (fun f vs => PySem.call f vs) := by
  refine Att.attach_call hn nodef fun w s₀ s mg mb fa o pm cd doc a vs ns G Y _ _ _ hmg oa iv hl gn => ?_
  obtain ⟨K, fd, gA, F, KX, hb, FG, hF⟩ := W w mg fa _ Y G.T.g hmg
  exact law_run KX G.T.g G.T.b G.T.builtins G.T.nolimit gn oa iv (Nat.le_trans hl hz) rm FG hb (hF ns hl)
end EV
/-! EV17: x[::-1], three names at once -/
namespace EV
open PySem L2 PySem.Spec PyProof.Rows
theorem rev_pick (xs : Array Value) : ((List.range xs.size).filterMap fun (m : Nat) => xs[((xs.size : Int) - 1 + (m : Int) * (-1)).toNat]?).toArray = xs.toList.reverse.toArray := by
  rw [← PySem.W.krv_pick]
  unfold slicePick
  rw [PySem.W.krv_bounds]
  show _ = ((sliceRange ((xs.size : Int) - 1) (-1) (-1)).filterMap (xs[·]?)).toArray
  rw [PySem.W.krv_sliceRange, List.filterMap_map]
  have go : ∀ l : List Nat, (∀ m ∈ l, m < xs.size) → (l.filterMap fun (m : Nat) => xs[((xs.size : Int) - 1 + (m : Int) * (-1)).toNat]?) = l.filterMap ((xs[·]?) ∘ fun k => xs.size - 1 - k) := by
    intro l
    induction l with
    | nil => intro _; rfl
    | cons m l ih =>
      intro hm
      have hm0 := hm m (List.mem_cons_self ..)
      have e : ((xs.size : Int) - 1 + (m : Int) * (-1)).toNat = xs.size - 1 - m := by omega
      rw [List.filterMap_cons, List.filterMap_cons, ih fun k hk => hm k (List.mem_cons_of_mem _ hk), e]
      rfl
  rw [go _ fun m hm => List.mem_range.mp hm]
theorem rev_places (n : Nat) : Builtin.Slice.slicePlaces ((n : Int) - 1) (-1) (-1) = n := by
  unfold Builtin.Slice.slicePlaces
  rw [if_neg (by decide)]
  have e : ((n : Int) - 1 - -1 - 1) / (- -1) + 1 = n := by
    rw [show (- -1 : Int) = 1 by decide, Int.ediv_one]; omega
  split
  · rw [e]; omega
  · omega
section
variable {prog : Program} {w : World} {A : Around} {E : Value → Shared → Prop} {s : Shared}
theorem rev_applied {sl : Addr} {vs : Value} {n : Nat} {Q : Int × Int × Nat → Shared → Prop} (hs : s.heap.IsSliceOf sl .none .none vs) (ps : IsPart vs (some (-1)))
    (h : Q ((n : Int) - 1, -1, n) s) : wpAny (model prog w) A (Builtin.Slice.sliceApplied (.ref sl) (pure (n : Int))) Q E s := by
  obtain ⟨os, h1, h2, h3⟩ := hs
  unfold Builtin.Slice.sliceApplied Builtin.Slice.sliceFields
  refine wpAny_bind (wpAny_bind (wpAny_field h1 h3 (x := .none) rfl (wpAny_bind (wpAny_field h1 h3 (x := .none) rfl (wpAny_bind (wpAny_field h1 h3 (x := vs) rfl (wpAny_pure ?_)))))))
  refine wpAny_bind (HT.slicePart_ ps ?_)
  show wpAny _ _ (if ((-1 : Int) == 0) = true then _ else _) _ _ s
  rw [if_neg (by decide)]
  refine wpAny_bind (HT.slicePart_ .none (wpAny_bind (HT.slicePart_ .none (wpAny_bind (wpAny_pure ?_)))))
  show wpAny _ _ (pure ((n : Int) - 1, (-1 : Int), Builtin.Slice.slicePlaces ((n : Int) - 1) (-1) (-1))) _ _ s
  rw [rev_places]
  exact wpAny_pure h
theorem get_rev {t sl : Addr} {items : Array Value} {vs : Value} {Q : Value → Shared → Prop} (ht : IsTup s.heap t items) (hs : s.heap.IsSliceOf sl .none .none vs) (ps : IsPart vs (some (-1)))
    (h : Q (.ref s.heap.objs.size) { s with heap := s.heap.push { cls := .type "tuple", data := .seq items.toList.reverse.toArray } }) (sz : items.size ≤ sizeLine) : wpAny (model prog w) A (getItem (.ref t) (.ref sl)) Q E s := by
  have fits : sizeOk (.seq items.toList.reverse.toArray) := by
    show items.toList.reverse.toArray.size ≤ sizeLine
    rw [List.size_toArray, List.length_reverse, Array.length_toList]; exact sz
  obtain ⟨os, ho, hc, hd⟩ := id hs
  have isS : s.TypeIs (.ref sl) "slice" := ⟨os, ho, hc⟩
  unfold getItem
  try with_reducible refine wpAny_holding ?_
  first | refine wpAny_bind (wpAny_pure ?_) | skip
  refine wpAny_bind (wpAny_sequenceKey ht.typeIs (by decide) ?_)
  refine wpAny_bind (wpAny_callSpecial?_slot (name := Str.ofString "__getitem__") ht.typeIs PyProof.Rows.slot_tuple_getitem (wpAny_call_entry PyProof.Rows.slot_tuple_getitem ht.typeIs entry_tuple_getitem ?_ (args_tuple_getitem _ _)))
  show wpAny _ _ (Builtin.Tuple.tupleItemsOf (.ref t) >>= _) _ _ s
  refine wpAny_bind (tupleItemsOf_ ht (wpAny_bind (wpAny_typeOf isS ?_)))
  rw [if_pos (by decide)]
  refine wpAny_bind (rev_applied hs ps ?_)
  show wpAny _ _ (if (((items.size : Int) - 1) == 0 && (-1 : Int) == 1 && items.size == items.size) = true then _ else _) _ _ s
  rw [if_neg (by rw [show ((-1 : Int) == 1) = false by decide, Bool.and_false, Bool.false_and]; exact Bool.false_ne_true), rev_pick]
  first
    | exact wpAny_bind (m := Builtin.Tuple.tupleExact _) (wpAny_newObj_type (wpAny_pure ⟨_, rfl, wpAny_pure h⟩) fits)
    | exact wpAny_bind (m := Builtin.Tuple.tupleExact _) (wpAny_newObj_type (wpAny_bind (wpAny_pure (wpAny_pure ⟨_, rfl, wpAny_pure h⟩))) fits)
    | exact wpAny_bind (wpAny_bind (m := Builtin.Tuple.tupleExact _) (wpAny_newObj_type (wpAny_pure (wpAny_pure ⟨_, rfl, wpAny_pure h⟩)) fits))
    | exact wpAny_bind (wpAny_bind (m := Builtin.Tuple.tupleExact _) (wpAny_newObj_type (wpAny_pure ⟨_, rfl, wpAny_pure h⟩) fits))
end
structure TgtN (X : Cx) (i : Nat) (x : Str) : Prop where
  nd : X.N.Nodup
  n : X.N[i]? = some x
  l : X.env.scope.names.lookup x = some .local
section
variable {X : Cx} {G : Gx} {g g' g0 : Gh} {H H' H0 : Hp} {h h' : Cells} {own : Nat → Option Addr} {env : Ev} {σ : L2.St} {e : Expr} {de : DE}
def tRevT (K : PySem.W.Frag) (te : TE) : TE := fun σ H Q => te σ H fun x H1 => ∃ a xs, x = .ref a ∧ SqT K H1 a xs ∧ ∀ p, H1 p = none → Q (.ref p) (upd H1 p (.tup xs.reverse))
theorem pe_revT {te : TE} {k : Nat} {p1 p2 p3 pos : Pos} (he : PE X e te) : PE X (.Subscript e (.Slice none none (some (.UnaryOp .USub (.Constant (.int 1) k p1) p2)) p3) pos) (tRevT X.K te) := by
  refine ⟨fun pins s σ H Q I h => Subscript_ (thn (he.run pins s σ H _ I h) fun v s1 ⟨x, H1, I1, r1, a, xs, ex, hx, q⟩ => ?_)⟩
  subst ex
  cases r1
  have step : PO X (some (.UnaryOp .USub (.Constant (.int 1) k p1) p2)) (tPart (tUn (rU fun i => .int (-i)) (tC (.int 1)))) := po_some (pe_un un_neg pe_int)
  refine wpAny_Slice (thn (po_none.run pins s1 σ H1 (fun o H2 => o = none ∧ H2 = H1) I1 ⟨rfl, rfl⟩) fun vl s2 ⟨l, H2, I2, pl, el, e2⟩ => ?_)
  subst el e2
  refine thn (po_none.run pins s2 σ H2 (fun o H3 => o = none ∧ H3 = H2) I2 ⟨rfl, rfl⟩) fun vu s3 ⟨u, H3, I3, pu, eu, e3⟩ => ?_
  subst eu e3
  refine thn (step.run pins s3 σ H3 (fun o H4 => o = some (-1) ∧ H4 = H3) I3 ⟨1, rfl, -1, rfl, rfl, rfl⟩) fun vs s4 ⟨o, H4, I4, ps, eo, e4⟩ => ?_
  subst eo e4
  cases pl
  cases pu
  have I5 : Inv X pins σ H4 { s4 with heap := s4.heap.push { cls := .type "slice", data := .fields #[.none, .none, vs] } } := I4.kept (t' := s4.toks) fun b ob z => Heap.get?_push_of_some _ z
  obtain ⟨its, r, ht, hz⟩ := I5.tuple hx
  have hlen := r.length
  show wpAny (model X.prog X.w) X.A (subscriptTail e (.Slice none none (some (.UnaryOp .USub (.Constant (.int 1) k p1) p2)) p3) (.ref a) (.ref s4.heap.objs.size)) (EP X pins σ Q) X.xe { s4 with heap := s4.heap.push { cls := .type "slice", data := .fields #[.none, .none, vs] } }
  refine tail_any (ops := [.ref a, .ref s4.heap.objs.size]) ht.typeIs (PyProof.Rows.slot_tuple_getitem.lookup) ?_ (by with_unfolding_all rfl)
  refine get_rev ht (Heap.IsSliceOf.new _ .none .none vs) ps ?_ (by rw [List.size_toArray]; omega)
  refine ⟨.ref _, _, I5.laid (t' := s4.toks) (o := .tup xs.reverse) (fun b ob z => Heap.get?_push_of_some _ z) (Nat.le_refl _) ?_, rfl, q _ (I5.hok.fresh (Nat.le_refl _))⟩
  exact ⟨by rw [List.length_reverse]; exact hz, _, r.reverse, IsTup.new _ _⟩
def dRevL (h : Cells) (d : D) : R D := match d with
  | .tup ds => .ok (.tup ds.reverse) h
  | d => match seqL h d with
    | some ds => .ok (.lst ds.reverse) h
    | none => .bad
def dRev (a : DE) : DE := fun fn env h => (a fn env h).bind fun d h1 => dRevL h1 d
theorem RelsS.rev {g : Gh} {H : Hp} : ∀ {ds : List D} {xs : List V}, RelsS g H ds xs → RelsS g H ds.reverse xs.reverse
  | [], _, q => by cases (show _ = [] from q); rfl
  | d :: ds, _, q => by
    obtain ⟨x, r, rfl, h1, h2⟩ := q
    rw [List.reverse_cons, List.reverse_cons]
    exact (RelsS.rev h2).snoc h1
theorem s_rev {k : Nat} {p1 p2 p3 pos : Pos} (he : PE X e (tD X G de)) : PE X (.Subscript e (.Slice none none (some (.UnaryOp .USub (.Constant (.int 1) k p1) p2)) p3) pos) (tD X G (dRev de)) := by
  refine ⟨fun pins s σ H Q I hq => ?_⟩
  obtain ⟨g, own, env, h, o, r, l, p⟩ := hq
  unfold dRev at p
  cases ed : de G.fns env h with
  | bad => rw [ed] at p; exact (show False from p).elim
  | exc z h1 =>
    rw [ed] at p
    exact (pe_revL he).run pins s σ H Q I ⟨g, own, env, h, o, r, l, by rw [ed]; exact p⟩
  | ok d h1 =>
    rw [ed] at p
    have p : Post X G g H (dRevL h1 d) fun g' H' d x => ∀ (v : V), RelT g' H' d v → Q v H' := p
    by_cases hd : ∃ ds, d = .tup ds
    · obtain ⟨ds, rfl⟩ := hd
      have p : Post X G g H (R.ok (D.tup ds.reverse) h1) fun g' H' d x => ∀ (v : V), RelT g' H' d v → Q v H' := p
      refine (pe_revT he).run pins s σ H Q I ⟨g, own, env, h, o, r, l, ?_⟩
      rw [ed]
      intro g1 H1 e1 r1 v qv
      obtain ⟨a, xs, rfl, z1, z2⟩ := tup_ok (o.ext e1) qv
      exact ⟨a, xs, rfl, z1, Post.newT (K := fun _ _ _ _ => True) r1 z2.rev (Post.mono p e1)⟩
    · refine (pe_revL he).run pins s σ H Q I ⟨g, own, env, h, o, r, l, ?_⟩
      rw [ed]
      intro g1 H1 e1 r1 v qv
      unfold dRevL at p
      split at p
      · exact (hd ⟨_, rfl⟩).elim
      · split at p
        · rename_i ds es
          obtain ⟨a, xs, rfl, z1, z2⟩ := seqL_ok (o.ext e1) r1 qv es
          exact ⟨a, xs, rfl, z1, Post.newL r1 z2.rev (Post.mono p e1)⟩
        · exact p.elim
/-! ### three names at once -/
def sPar3 (i j k : Nat) (a b c : DM) : DS := fun fn env h => (a fn env h).bind fun x h1 => (b fn env h1).bind fun y h2 => (c fn env h2).bind fun z h3 => match putIt i x env with
  | some env1 => match putIt j y env1 with
    | some env2 => match putIt k z env2 with
      | some env3 => .ok (.nx, env3) h3
      | none => .bad
    | none => .bad
  | none => .bad
/-- two items are not the same list -/
theorem it_apart {Hs : Hp} {g2 : Gh} {H2 : Hp} {x y : It'} {v w : V} {p : Addr} {own : Nat → Option Addr} {i j : Nat} (qv : IRel Hs g H x v) (qw : IRel H g2 H2 y w) (k1 : ∀ p, (∃ ds, y = .o ds) → w = .ref p → ∀ j, own j ≠ some p) :
    ∀ p, (∃ ds, y = .o ds) → w = .ref p → ∀ j, ownIt i x v own j ≠ some p := fun p hp ev j' hj' => by
  unfold ownIt at hj'
  split at hj'
  · cases x with
    | v d => cases hj'
    | o ds =>
      obtain ⟨p', xs, rfl, z2, z3, z4, z5, z6⟩ := qv
      cases hj'
      obtain ⟨ds2, e2'⟩ := hp
      subst e2'
      obtain ⟨p2, xs2, ew, y2, y3, y4, y5, y6⟩ := qw
      rw [ev] at ew
      cases ew
      rw [z2] at y6; cases y6
  · exact k1 p hp ev j' hj'
theorem IRel.base {Hs : Hp} {g1 : Gh} {H1 : Hp} {h1 : Cells} {y : It'} {w : V} (r : HRel X.prog X.w g H h) (e : Ext g H g1 H1) (r1 : HRel X.prog X.w g1 H1 h1) (q : IRel H1 g' H' y w) : IRel H g' H' y w := by
  cases y with
  | v d => exact q
  | o ds =>
    obtain ⟨p, xs, z1, z2, z3, z4, z5, z6⟩ := q
    exact ⟨p, xs, z1, z2, z3, z4, z5, e.back r r1 z6⟩
theorem par3_of {i j k : Nat} {a b c : DM} {Dn : Ends} (q : tS X G g0 H0 (sPar3 i j k a b c) Dn σ H) : tPar3 i j k (tCons (tM X G a) (tCons (tM X G b) (tCons (tM X G c) tNil))) Dn σ H := by
  obtain ⟨g, own, env, h, o, r, l, n, q⟩ := q
  refine ⟨g, own, env, h, o, r, l, (Post.stmt r n q).imp fun g1 H1 x h1 e1 r1 q1 v qv => ?_⟩
  have n1 := n.step e1
  have l1 := l.step r e1
  refine ⟨g1, own, env, h1, o.ext e1, r1, l1, (Post.stmt r1 n1 q1).imp fun g2 H2 y h2 e2 r2 q2 w qw => ?_⟩
  have n2 := n1.step e2
  have l2 := l1.step r1 e2
  refine ⟨g2, own, env, h2, (o.ext e1).ext e2, r2, l2, (Post.stmt r2 n2 q2).imp fun g3 H3 z h3 e3 r3 q3 u qu => ?_⟩
  have n3 := n2.step e3
  have l3 := l2.step r2 e3
  have qv3 := IRel.ext r1 (e2.trans e3) qv
  have qw3 := IRel.ext r2 e3 qw
  obtain ⟨f1, f2⟩ := par_step (env' := env) r n l l3 qv3
  obtain ⟨k1, k2⟩ := par_step (env' := env) r1 n1 l1 l3 qw3
  obtain ⟨m1, m2⟩ := par_step (env' := env) r2 n2 l2 l3 qu
  refine ⟨v, w, u, rfl, ?_⟩
  split at q3
  · rename_i env1 p1
    split at q3
    · rename_i env2 p2
      split at q3
      · rename_i env3 p3
        have la := putIt_ok l3 qv3 f1 p1
        have lb := putIt_ok la qw3 (it_apart (i := i) (j := i) (p := 0) qv qw k1) p2
        have lc := putIt_ok lb qu (it_apart (i := j) (j := j) (p := 0) qw qu (it_apart (i := i) (j := i) (p := 0) (IRel.ext r1 e2 qv) qu m1)) p3
        exact q3 g3 _ H3 _ (((o.ext e1).ext e2).ext e3) r3 lc ⟨n3.ext, ownIt_new (ownIt_new (ownIt_new n3.new f2) k2) m2⟩ (ExtS.refl _ _)
      · exact q3.elim
    · exact q3.elim
  · exact q3.elim
theorem s_par3 {i j m : Nat} {x y z : Str} {a b c : Expr} {da db dc : DM} {px py pz pt pos : Pos} {kt k2 pt2} (hc : X.calm = true) (ti : TgtN X i x) (tj : TgtN X j y) (tm : TgtN X m z) (hij : i ≠ j) (him : i ≠ m) (hjm : j ≠ m)
    (ha : PE X a (tM X G da)) (hb : PE X b (tM X G db)) (hd : PE X c (tM X G dc)) (sa : isStar a = false) (sb : isStar b = false) (sc : isStar c = false)
    (hw : swappedStores [.Tuple [.Name x px, .Name y py, .Name z pz] kt pt] (.Tuple [a, b, c] k2 pt2) X.env = pure (some [x, y, z])) :
    PS X (.Assign [.Tuple [.Name x px, .Name y py, .Name z pz] kt pt] (.Tuple [a, b, c] k2 pt2) pos) (tS X G g0 H0 (sPar3 i j m da db dc)) :=
  PS.imp (ps_par3 hc ti.nd ti.n tj.n tm.n hij him hjm ti.l tj.l tm.l (pa_cons ha (pa_cons hb (pa_cons hd pa_nil (star_cons sc)) (star_cons sb)) (star_cons sa)) hw rfl) fun _ _ _ q => par3_of q
end
end EV
/-! EV18: the rules as a printer writes them -/
namespace EV
open PySem L2
def dtB (a : DE) : DT := fun fn env h => asB (a fn env h)
def sFrzA (is : List Nat) (a : DS) : DS := fun fn env h => (a fn env h).bind fun x h1 => .ok (x.1, frzs is x.2) h1
structure GlOk (X : Cx) (x : Str) : Prop where
  g : Gl X x
  d : (x == ("__debug__" : Str)) = false
structure BltOk (X : Cx) (x : Str) (v : Value) : Prop where
  g : Gl X x
  m : X.mg x = none
  b : bootBuiltins x = some v
  n : x ≠ "__name__"
  d : (x == ("__debug__" : Str)) = false
section
variable {X : Cx} {G : Gx} {T : Pg} {k : Nat} {N : List Str} {sc : Scope} {F : Str → Bool} {x : Str} {i : Nat} {g g' g0 : Gh} {H H' H0 : Hp} {e a b : Expr} {es : List Expr} {da db dc de : DE} {dr dk : DA} {df di : DF} {pos pos' p p2 spos : Pos} {ta tb : DT} {st : Stmt} {ds : DS}
theorem Sc.glo (S : Sc X N sc F) (x : Str) (h : (glB sc x && !(x == ("__debug__" : Str))) = true) : GlOk X x := by
  simp only [Bool.and_eq_true, Bool.not_eq_true'] at h
  exact ⟨S.gl x h.1, h.2⟩
theorem XOk.blt (O : XOk X G T k) (S : Sc X N sc F) (x : Str) (v : Value) (hb : bootBuiltins x = some v) (h : (glB sc x && !(x == ("__debug__" : Str)) && T.free.elem x && !(x == ("__name__" : Str))) = true) : BltOk X x v := by
  simp only [Bool.and_eq_true, Bool.not_eq_true'] at h
  obtain ⟨⟨⟨h1, h2⟩, h3⟩, h4⟩ := h
  exact ⟨S.gl x h1, O.free x h3, hb, (fun z => by rw [z] at h4; simp at h4), h2⟩
theorem v_ (v : VarOk X i x) : PE X (.Name x pos) (tD X G (dVar i)) := s_var v.n v.v v.d v.c
theorem XOk.val (O : XOk X G T k) (S : GlOk X x) {d : D} (h : (x, d) ∈ T.vals) : PE X (.Name x pos) (tD X G (dC d)) := by
  obtain ⟨v, u, h1, h2, h3⟩ := O.vals _ h
  exact s_glob S.g h1 h2 S.d h3
theorem set_ (t : TgtOk X i x) (he : PE X e (tD X G de)) (hs : swapsWith e (some (.Name x pos')) pos.line X.env = pure false) : PS X (.Assign [.Name x pos'] e pos) (tS X G g0 H0 (sSet i de)) := s_set t.nd t.n t.l he hs t.f
theorem own_ (t : TgtOk X i x) (he : PE X e (tF X G df)) (hs : swapsWith e (some (.Name x pos')) pos.line X.env = pure false) : PS X (.Assign [.Name x pos'] e pos) (tS X G g0 H0 (sOwn i df)) := s_own t.nd t.n t.l he hs t.f
theorem aug_ {op : Operator} {o : O2} (t : TgtOk X i x) (ho : OpR X (inplaceOp op) (rO2 X G o)) (he : PE X e (tD X G de)) : PS X (.AugAssign (.Name x pos') op e pos) (tS X G g0 H0 (sAug i o de)) := s_aug t.nd t.n t.l he ho t.f
theorem cmpT_ {op : CmpOp} {o : O2} (ho : OpR X (compareOp op) (rO2 X G o)) (ha : PE X a (tD X G da)) (hb : PE X b (tD X G db)) (hm : behindInMarks op b = false) : PT X (.Compare a [op] [b] pos) (tT X G (dtB (dOp2 o da db))) := s_cmpT ho ha hb hm
theorem chainT_ {op op' : CmpOp} {o o' : O2} {c : Expr} (ho : OpR X (compareOp op) (rO2 X G o)) (ho' : OpR X (compareOp op') (rO2 X G o')) (ha : PE X a (tD X G da)) (hb : PE X b (tD X G db)) (hc : PE X c (tD X G dc)) (hm : lastMarks [op, op'] [b, c] = false) :
    PT X (.Compare a [op, op'] [b, c] pos) (tT X G (dtB (dChain o o' da db dc))) := s_chainT ho ho' ha hb hc hm
theorem pts0_ : PTs X [] (tT X G dtYes) := ⟨fun pins s σ H Q I ⟨g, own, env, h, o, r, l, q⟩ => pts_nil.run pins s σ H Q I (Post.now r q _ rfl)⟩
theorem pts1_ (h : PT X e (tT X G ta)) : PTs X [e] (tT X G ta) := pts_one h
theorem call_ {n : Nat} {ks : List Str} {src : List Src} {dd : List D} {kws : List Keyword} (O : XOk X G T k) (g : GlOk X x) (C : CallOk X G x i n ks src dd) (ha : PA X es (tA X G dr)) (hk : PK X kws (tA X G dk)) (hn : kwNames kws = ks.map some) (hst : noStars es = true) (h0 : es = [] → dr = daNil) :
    PE X (.Call (.Name x p) es kws pos) (tD X G (dCall i n ks.length src dd dr dk)) := s_call C O.gu O.hx g.g g.d ha hk hn hst h0
theorem bl_ {id : String} {o : ON} (B : BltOk X x (.builtin id)) (hc : CallR X (.builtin id) (rON X G o)) (ha : PA X (e :: es) (tA X G dr)) (hs : noStars (e :: es) = true) : PE X (.Call (.Name x p) (e :: es) [] pos) (tD X G (dOpN o dr)) := s_callB hc B.g B.m B.b ha B.n B.d hs
theorem ty_ {id : String} {o : ON} (B : BltOk X x (.type id)) (hc : CallR X (.type id) (rON X G o)) (ha : PA X (e :: es) (tA X G dr)) (hs : noStars (e :: es) = true) : PE X (.Call (.Name x p) (e :: es) [] pos) (tD X G (dOpN o dr)) := s_callTy hc B.g B.m B.b ha B.n B.d hs
theorem listF_ {v : Value} (B : BltOk X "list" v) (ha : PA X [e] (tA X G dr)) (hs : isStar e = false) : PE X (.Call (.Name "list" p) [e] [] pos) (tF X G (dListF dr)) := s_listF B.g B.m ha hs
theorem BltOk.ty {t : Ty} (B : BltOk X x (.type t.name)) : PTyOk X x t := ⟨B.g, B.m, B.b, B.n, B.d⟩
theorem isi_ {v : Value} {t : Ty} {px : Pos} (B : BltOk X "isinstance" v) (he : PE X e (tD X G da)) (ht : PTyOk X x t) (hs : isStar e = false) : PE X (.Call (.Name "isinstance" p) [e, .Name x px] [] pos) (tD X G (dIsi da [t])) := s_isi B.g B.m he ht hs
theorem isiT_ {v : Value} {ts : List Ty} {kk : Nat} {tp : Pos} (B : BltOk X "isinstance" v) (he : PE X e (tD X G da)) (ht : PTys X es ts) (hs : isStar e = false) (hl : ts.length ≤ 100) : PE X (.Call (.Name "isinstance" p) [e, .Tuple es kk tp] [] pos) (tD X G (dIsi da ts)) := s_isiT B.g B.m he ht hs hl
theorem range1_ {v : Value} {tg : Expr} (B : BltOk X "range" v) (ha : PA X [b] (tA X G dr)) (hs : isStar b = false) : PI X tg (.Call (.Name "range" p) [b] [] pos) (tI X G (dRng1 dr)) := s_range1 B.g B.m ha hs
theorem range2_ {v : Value} {tg : Expr} (B : BltOk X "range" v) (ha : PA X [a, b] (tA X G dr)) (hs : isStar a = false) (hs2 : isStar b = false) : PI X tg (.Call (.Name "range" p) [a, b] [] pos) (tI X G (dRng2 dr)) := s_range2 B.g B.m ha hs hs2
theorem g_ (t : TgtOk X i x) : PG X (.Name x pos) (tPat X G (.name i)) := s_gName t.nd t.n t.l t.f
theorem pgn_ (t : TgtOk X i x) : PG X (.Name x pos) (tPG X G g0 H0 (gName' i)) := s_pgName t.nd t.n t.l t.f
theorem pgi_ (v : VarOk X i x) (hb : PE X b (tD X G db)) (hsl : isSlice b = false) : PG X (.Subscript (.Name x p) b pos) (tPG X G g0 H0 (gIx i db)) := s_pgIx v.n v.v v.d v.c hb hsl
theorem for_ {tg iter : Expr} {bd : List Stmt} {pt : Pat} {body : DS} (O : XOk X G T k) (hi : PI X tg iter (tI X G di)) (hg : PG X tg (tPat X G pt)) (hb : PSs X bd (tS X G g0 H0 body)) (hs : ∀ x, foldedSetIterable iter X.env x = pure x) : PS X (.For tg iter bd [] pos) (tS X G g0 H0 (sFor pt di body)) := s_for O.po O.calm hi hg hb hs
theorem while_ {c : Expr} {bd : List Stmt} {body : DS} (n : Nat) (O : XOk X G T k) (hc : PT X c (tT X G ta)) (hb : PSs X bd (tS X G g0 H0 body)) : PS X (.While c bd [] pos) (tS X G g0 H0 (sWhile n ta body)) := s_while n O.po hc hb
theorem append_ {px apos cpos : Pos} (v : VarOk X i x) (he : PE X e (tD X G de)) (hst : isStar e = false) (hl : (apos.endLine == cpos.line) = true) :
    PS X (.Expr (.Call (.Attribute (.Name x px) "append" apos) [e] [] cpos) pos) (tS X G g0 H0 (sAppend i de)) := s_append v.n v.v v.d v.c he hst hl rfl
theorem extend_ {px apos cpos : Pos} (v : VarOk X i x) (he : PE X e (tD X G de)) (hst : isStar e = false) (hl : (apos.endLine == cpos.line) = true) :
    PS X (.Expr (.Call (.Attribute (.Name x px) "extend" apos) [e] [] cpos) pos) (tS X G g0 H0 (sExtend i de)) := s_extend v.n v.v v.d v.c he hst hl rfl
theorem Sc.tgn (S : Sc X N sc F) (i : Nat) (x : Str) (h : (sameB N[i]? x && lclB sc x) = true) : TgtN X i x := by
  simp only [Bool.and_eq_true] at h
  exact ⟨by rw [S.en]; exact S.nd, by rw [S.en]; exact sameB_ok h.1, S.lcl x h.2⟩
theorem Sc.ndX (S : Sc X N sc F) : X.N.Nodup := by rw [S.en]; exact S.nd
theorem Sc.blkOk (S : Sc X N sc F) {scope : Scope} {own' : List (Str × Nat)} (h : BlkOk N sc scope own') : BlkOk X.N X.env.scope scope own' := by rw [S.en, S.sc]; exact h
theorem par2_ {j : Nat} {y : Str} {dm dn : DM} {px py pt : Pos} {kt k2 pt2} (O : XOk X G T k) (ti : TgtN X i x) (tj : TgtN X j y) (hij : i ≠ j) (ha : PE X a (tM X G dm)) (hb : PE X b (tM X G dn)) (sa : isStar a = false) (sb : isStar b = false)
    (hw : swappedStores [.Tuple [.Name x px, .Name y py] kt pt] (.Tuple [a, b] k2 pt2) X.env = pure (some [x, y])) :
    PS X (.Assign [.Tuple [.Name x px, .Name y py] kt pt] (.Tuple [a, b] k2 pt2) pos) (tS X G g0 H0 (sPar2 i j dm dn)) := s_par2 O.calm ti.nd ti.n tj.n hij ti.l tj.l ha hb sa sb hw
/-- a slot's list let go behind a statement -/
theorem frzA_ {is : List Nat} (hs : PS X st (tS X G g0 H0 ds)) : PS X st (tS X G g0 H0 (sFrzA is ds)) := PS.imp hs fun Dn σ H q => by
  obtain ⟨g, own, env, h, o, r, l, n, q⟩ := q
  refine ⟨g, own, env, h, o, r, l, n, ?_⟩
  unfold sFrzA at q
  cases ed : ds G.fns env h with
  | bad => rw [ed] at q; exact q
  | exc z h' => rw [ed] at q; exact q
  | ok y h' =>
    rw [ed] at q
    obtain ⟨fl, env'⟩ := y
    intro g1 own1 H1 σ1 o1 r1 l1 n1 e1
    obtain ⟨g2, own2, o2, r2, l2, n2, e2⟩ := frzs_ok is r1 o1 l1 n1
    have z : FlE g2 σ1 H1 Dn fl := (show PostS X G g0 H0 g H (.ok (fl, frzs is env') h') Dn from q) g2 own2 H1 σ1 o2 r2 l2 n2 (e1.trans e2)
    cases fl with
    | rt d => exact fun v qv => z v (RelS.exts r1 e2 qv)
    | nx => exact z
    | bk => exact z
    | ct => exact z
end
end EV
/-! EV19: zip, enumerate of lists; what is never reached -/
namespace EV
open PySem L2
def stillL : D → Option (List D)
  | .lst ds => some ds
  | .frz ds => some ds
  | _ => none
def zipD : List D → Cells → R (List D) := fun ds h => match ds with
  | [.tup a, .tup b] => .ok (pairs a b) h
  | [x, y] => match stillL x, stillL y with
    | some a, some b => .ok (pairs a b) h
    | _, _ => .bad
  | _ => .bad
def dZip (da : DA) : DF := fun fn env h => (da fn env h).bind zipD
def numbered : Nat → List D → List D
  | _, [] => []
  | n, d :: ds => .tup [.int (n : Nat), d] :: numbered (n + 1) ds
def enumD : List D → Cells → R (List D) := fun ds h => match ds with
  | [x] => match stillL x with
    | some a => .ok (numbered 0 a) h
    | none => .bad
  | _ => .bad
def dEnum (da : DA) : DF := fun fn env h => (da fn env h).bind enumD
theorem numbered_len : ∀ (n : Nat) (ds : List D), (numbered n ds).length = ds.length
  | _, [] => rfl
  | n, d :: ds => by rw [numbered, List.length_cons, numbered_len (n + 1) ds, List.length_cons]
theorem numbered_get : ∀ {n : Nat} {ds : List D} {i : Nat} {d : D}, ds[i]? = some d → (numbered n ds)[i]? = some (.tup [.int ((n + i : Nat) : Int), d])
  | _, [], _, _, h => by simp at h
  | n, e :: ds, 0, d, h => by simp at h; subst h; rfl
  | n, e :: ds, i + 1, d, h => by
    rw [numbered]
    have z := numbered_get (n := n + 1) (ds := ds) (i := i) (by simpa using h)
    rw [List.getElem?_cons_succ, z]
    have e2 : n + 1 + i = n + (i + 1) := by omega
    rw [e2]
section
variable {X : Cx} {G : Gx} {g g' : Gh} {H H' : Hp} {h h' : Cells} {own : Nat → Option Addr} {env : Ev} {σ : L2.St} {ds es : List D} {xs ys : List V} {a b : Addr} {tg e e2 : Expr} {dr : DA} {x : Str} {v : Value} {p pos tpos : Pos} {elts : List Expr} {kk : Nat}
theorem still_ok (og : GOk X G g) (r : HRel X.prog X.w g H h) {d : D} {v : V} (q : RelT g H d v) (e : stillL d = some ds) : ∃ a xs, v = .ref a ∧ RelsS g H ds xs ∧ SqL X.K H a xs ∧ ∀ g' H', ExtS g H g' H' → SqL X.K H' a xs := by
  cases d with
  | lst es => cases e; exact lst_stands og q
  | frz es => cases e; exact frz_stands og r q
  | _ => cases e
theorem it_zip (r : HRel X.prog X.w g H h) (sx : ∀ g' H', ExtS g H g' H' → SqL X.K H' a xs) (sy : ∀ g' H', ExtS g H g' H' → SqL X.K H' b ys) (qx : RelsS g H ds xs) (qy : RelsS g H es ys) : ItOk X (Itz X.K a b) g H (pairs ds es) where
  goes := fun g' H' h' i hi e r' => by
    rw [pairs_len, qx.len, qy.len] at hi
    have h1 : i < xs.length := by omega
    have h2 : i < ys.length := by omega
    exact ⟨xs, ys, xs[i], ys[i], sx g' H' e, sy g' H' e, by simp [h1], by simp [h2]⟩
  stops := fun g' H' h' e r' => ⟨xs, ys, sx g' H' e, sy g' H' e, by rw [pairs_len, qx.len, qy.len]; omega⟩
  yields := fun g' H' h' i x H'' hi e r' y => by
    obtain ⟨T, u, w, rfl, hT, rfl, y1, y2⟩ := y
    obtain ⟨d, h1, h2⟩ := (RelsS.exts r e qx).getV (y1 xs (sx g' H' e))
    obtain ⟨d2, h3, h4⟩ := (RelsS.exts r e qy).getV (y2 ys (sy g' H' e))
    exact ⟨_, _, Ext.new r' hT, r'.new hT, pairs_get h1 h3, Ext.pair r' hT h2 h4⟩
theorem it_zipT (r : HRel X.prog X.w g H h) (og : GOk X G g) (tx : SqT X.K H a xs) (ty : SqT X.K H b ys) (qx : RelsS g H ds xs) (qy : RelsS g H es ys) : ItOk X (RZ.ItzT X.K a b) g H (pairs ds es) := by
  have st : ∀ {a : Addr} {xs : List V}, SqT X.K H a xs → ∀ g' H', ExtS g H g' H' → SqT X.K H' a xs := fun {a xs} t g' H' e => by
    have z := SqT.exts r e (by rw [og.K]; exact t)
    rw [e.K, og.K] at z
    exact z
  exact {
    goes := fun g' H' h' i hi e r' => by
      rw [pairs_len, qx.len, qy.len] at hi
      have h1 : i < xs.length := by omega
      have h2 : i < ys.length := by omega
      exact ⟨xs, ys, xs[i], ys[i], st tx g' H' e, st ty g' H' e, by simp [h1], by simp [h2]⟩
    stops := fun g' H' h' e r' => ⟨xs, ys, st tx g' H' e, st ty g' H' e, by rw [pairs_len, qx.len, qy.len]; omega⟩
    yields := fun g' H' h' i x H'' hi e r' y => by
      obtain ⟨T, u, w, rfl, hT, rfl, y1, y2⟩ := y
      obtain ⟨d, h1, h2⟩ := (RelsS.exts r e qx).getV (y1 xs (st tx g' H' e))
      obtain ⟨d2, h3, h4⟩ := (RelsS.exts r e qy).getV (y2 ys (st ty g' H' e))
      exact ⟨_, _, Ext.new r' hT, r'.new hT, pairs_get h1 h3, Ext.pair r' hT h2 h4⟩ }
theorem zip_ (B : BltOk X "zip" v) (ha : PA X [e, e2] (tA X G dr)) (hs : isStar e = false) (hs2 : isStar e2 = false) : PI X (.Tuple elts kk tpos) (.Call (.Name "zip" p) [e, e2] [] pos) (tI X G (dZip dr)) :=
  PI.imp (RZ.pi_zipA B.g B.m ha (by rw [star_cons hs]) (by rw [star_cons hs2]; rfl)) fun σ H R ⟨g, own, env, h, o, r, l, q⟩ => ⟨g, own, env, h, o, r, l, (Post.bind q).imp fun g1 H1 ds h1 e1 r1 q1 vs qv => by
    have o1 := o.ext e1
    unfold zipD at q1
    split at q1
    · rename_i da db
      obtain ⟨y, z, rfl, z1, z2⟩ := rel2 qv
      obtain ⟨a, xs, rfl, w1, w2⟩ := tup_ok o1 z1
      obtain ⟨b, ys, rfl, w3, w4⟩ := tup_ok o1 z2
      exact ⟨a, b, xs, ys, rfl, .inr ⟨w1, w3, Post.now r1 q1 _ (it_zipT r1 o1 w1 w3 w2 w4)⟩⟩
    · split at q1
      · rename_i a1 b1 s1 s2
        obtain ⟨y, z, rfl, z1, z2⟩ := rel2 qv
        obtain ⟨a, xs, rfl, w1, w2, w3⟩ := still_ok o1 r1 z1 s1
        obtain ⟨b, ys, rfl, w4, w5, w6⟩ := still_ok o1 r1 z2 s2
        exact ⟨a, b, xs, ys, rfl, .inl ⟨w2, w5, Post.now r1 q1 _ (it_zip r1 w3 w6 w1 w4)⟩⟩
      · exact q1.elim
    · exact q1.elim⟩
theorem it_enum (r : HRel X.prog X.w g H h) (sx : ∀ g' H', ExtS g H g' H' → SqL X.K H' a xs) (qx : RelsS g H ds xs) : ItOk X (Ite X.K a) g H (numbered 0 ds) where
  goes := fun g' H' h' i hi e r' => by
    rw [numbered_len, qx.len] at hi
    exact ⟨xs, xs[i], sx g' H' e, by simp [hi]⟩
  stops := fun g' H' h' e r' => ⟨xs, sx g' H' e, by rw [numbered_len, qx.len]; exact Nat.le_refl _⟩
  yields := fun g' H' h' i x H'' hi e r' y => by
    obtain ⟨T, u, rfl, hT, rfl, y1⟩ := y
    obtain ⟨d, h1, h2⟩ := (RelsS.exts r e qx).getV (y1 xs (sx g' H' e))
    refine ⟨_, _, Ext.new r' hT, r'.new hT, numbered_get h1, ?_⟩
    rw [Nat.zero_add]
    exact Ext.pair r' hT rfl h2
theorem enum_ (B : BltOk X "enumerate" v) (ha : PA X [e] (tA X G dr)) (hs : isStar e = false) : PI X (.Tuple elts kk tpos) (.Call (.Name "enumerate" p) [e] [] pos) (tI X G (dEnum dr)) :=
  PI.imp (pi_enum B.g B.m ha (by rw [star_cons hs]; rfl)) fun σ H R ⟨g, own, env, h, o, r, l, q⟩ => ⟨g, own, env, h, o, r, l, (Post.bind q).imp fun g1 H1 ds h1 e1 r1 q1 vs qv => by
    have o1 := o.ext e1
    unfold enumD at q1
    split at q1
    · split at q1
      · rename_i a1 s1
        obtain ⟨y, rfl, z1⟩ := rel1 qv
        obtain ⟨a, xs, rfl, w1, w2, w3⟩ := still_ok o1 r1 z1 s1
        exact ⟨a, xs, rfl, w2, Post.now r1 q1 _ (it_enum r1 w3 w1)⟩
      · exact q1.elim
    · exact q1.elim⟩
/-- what is never reached -/
def dBad : DE := fun _ _ _ => .bad
def sBad : DS := fun _ _ _ => .bad
theorem bad_ {e : Expr} : PE X e (tD X G dBad) := ⟨fun _ _ _ _ _ _ ⟨_, _, _, _, _, _, _, z⟩ => z.elim⟩
theorem badS_ {g0 : Gh} {H0 : Hp} {st : Stmt} : PS X st (tS X G g0 H0 sBad) := ⟨fun _ _ _ _ _ _ ⟨_, _, _, _, _, _, _, _, z⟩ => z.elim⟩
end
end EV
/-! EV20: comprehensions as a printer writes them -/
namespace EV
open PySem L2
theorem PTs.imp {X : Cx} {es : List Expr} {t t' : TT} (h : PTs X es t) (k : ∀ σ H Q, t' σ H Q → t σ H Q) : PTs X es t' := ⟨fun pins s σ H Q I q => h.run pins s σ H Q I (k σ H Q q)⟩
section
variable {X : Cx} {G : Gx} {T : Pg} {k : Nat} {N : List Str} {sc : Scope} {F : Str → Bool} {g0 : Gh} {H0 : Hp} {elt tg iter : Expr} {ifs : List Expr} {scope : Scope} {own' : List (Str × Nat)} {pos : Pos} {di : DF} {pt : Pat} {tt : DT} {te : DE}
theorem comp_ (O : XOk X G T k) (S : Sc X N sc F) (own' : List (Str × Nat)) (hi : PI X tg iter (tI X G di)) (ok : BlkOk N sc scope own') (hsl : ∀ i ∈ pt.slots, i ∈ own'.map (·.2))
    (hg : ∀ X1 : Cx, XOk X1 G.quiet T k → Sc X1 N (relS scope sc) (fun x => scope.names.lookup x == some .cell) → PG X1 tg (tPat X1 G.quiet pt))
    (ht : ∀ X1 : Cx, XOk X1 G.quiet T k → Sc X1 N (relS scope sc) (fun x => scope.names.lookup x == some .cell) → PTs X1 ifs (tT X1 G.quiet tt))
    (he : ∀ X1 : Cx, XOk X1 G.quiet T k → Sc X1 N (relS scope sc) (fun x => scope.names.lookup x == some .cell) → PE X1 elt (tD X1 G.quiet te))
    (hs : ∀ x, foldedSetIterable iter X.env x = pure x) : PE X (.ListComp elt [⟨tg, iter, ifs, 0⟩] scope pos) (tF X G (dComp (own'.map (·.2)) pt di tt te)) :=
  s_comp O.calm S.ndX hi (S.blkOk ok) hsl (fun s H C cl fp => PG.imp (hg (X.blk s H scope (compEnvC scope cl C X.env) fp) O.blk S.blk) fun v σ H Q ⟨g, own, env, h, d, env', o, r, l, p⟩ => ⟨g, own, env, h, d, env', ⟨o.K, o.gA⟩, r, l, p⟩) (fun s H C cl fp => PTs.imp (ht (X.blk s H scope (compEnvC scope cl C X.env) fp) O.blk S.blk) fun σ H Q ⟨g, own, env, h, o, r, l, p⟩ => ⟨g, own, env, h, ⟨o.K, o.gA⟩, r, l, p⟩) (fun s H C cl fp => PE.imp (he (X.blk s H scope (compEnvC scope cl C X.env) fp) O.blk S.blk) fun σ H Q ⟨g, own, env, h, o, r, l, p⟩ => ⟨g, own, env, h, ⟨o.K, o.gA⟩, r, l, p⟩) hs
theorem setComp_ {i : Nat} {y : Str} {py spos : Pos} (O : XOk X G T k) (S : Sc X N sc F) (t : TgtN X i y) (own' : List (Str × Nat)) (hl : (py.line == pos.line) = true) (hk : sc.kind = .function) (ha : (scope.names.any fun (n, k) => n == y && (k == .local || k == .cell)) = false)
    (hi : PI X tg iter (tI X G di)) (ok : BlkOk N sc scope own') (hsl : ∀ i ∈ pt.slots, i ∈ own'.map (·.2))
    (hg : ∀ X1 : Cx, XOk X1 G.quiet T k → Sc X1 N (relS scope sc) (fun x => scope.names.lookup x == some .cell) → PG X1 tg (tPat X1 G.quiet pt))
    (ht : ∀ X1 : Cx, XOk X1 G.quiet T k → Sc X1 N (relS scope sc) (fun x => scope.names.lookup x == some .cell) → PTs X1 ifs (tT X1 G.quiet tt))
    (he : ∀ X1 : Cx, XOk X1 G.quiet T k → Sc X1 N (relS scope sc) (fun x => scope.names.lookup x == some .cell) → PE X1 elt (tD X1 G.quiet te))
    (hs : ∀ x, foldedSetIterable iter X.env x = pure x) : PS X (.Assign [.Name y py] (.ListComp elt [⟨tg, iter, ifs, 0⟩] scope pos) spos) (tS X G g0 H0 (sOwn i (dComp (own'.map (·.2)) pt di tt te))) :=
  s_setComp O.calm S.ndX t.n t.l (sw_true (by rw [S.sc]; exact hk) t.l hl ha) hi (S.blkOk ok) hsl (fun s H C cl fp => PG.imp (hg (X.blk s H scope (compEnvC scope cl C X.env) fp) O.blk S.blk) fun v σ H Q ⟨g, own, env, h, d, env', o, r, l, p⟩ => ⟨g, own, env, h, d, env', ⟨o.K, o.gA⟩, r, l, p⟩) (fun s H C cl fp => PTs.imp (ht (X.blk s H scope (compEnvC scope cl C X.env) fp) O.blk S.blk) fun σ H Q ⟨g, own, env, h, o, r, l, p⟩ => ⟨g, own, env, h, ⟨o.K, o.gA⟩, r, l, p⟩) (fun s H C cl fp => PE.imp (he (X.blk s H scope (compEnvC scope cl C X.env) fp) O.blk S.blk) fun σ H Q ⟨g, own, env, h, o, r, l, p⟩ => ⟨g, own, env, h, ⟨o.K, o.gA⟩, r, l, p⟩) hs
end
end EV
/-! EV21: names at once as a printer writes them -/
namespace EV
open PySem L2
section
variable {X : Cx} {G : Gx} {T : Pg} {k : Nat} {N : List Str} {sc : Scope} {F : Str → Bool} {g0 : Gh} {H0 : Hp} {i j m : Nat} {x y z : Str} {a b c : Expr} {da db dc : DM} {px py pz pt pos : Pos} {kt k2 : Nat} {pt2 : Pos}
theorem Sc.fnk (S : Sc X N sc F) (hk : sc.kind = .function) : (X.env.blockKind != .function) = false := by
  have : X.env.scope.kind = .function := by rw [S.sc]; exact hk
  unfold Env.blockKind
  rw [this]; rfl
theorem TgtN.isL (t : TgtN X i x) : (X.env.kindOf x == some .local) = true := by
  have : X.env.kindOf x = some .local := t.l
  rw [this]; rfl
theorem not_star {es : List Expr} {f : Expr → Bool} (h : noStars es = true) (hf : ∀ e, f e = true → isStar e = true) : ¬ es.any f = true := fun z => by
  obtain ⟨e, he, z⟩ := List.any_eq_true.mp z
  have := List.all_eq_true.mp h e he
  rw [hf e z] at this
  cases this
theorem sw2_ (S : Sc X N sc F) (hk : sc.kind = .function) (ti : TgtN X i x) (tj : TgtN X j y) (hl : (py.line == px.line) = true) (hd : [x, y].eraseDups.length = 2) (hs : noStars [a, b] = true) (hf : [a, b].all (foldedForSure 8) = false) (hc : [a, b].all (constantsAlone 8) = false) :
    swappedStores [.Tuple [.Name x px, .Name y py] kt pt] (.Tuple [a, b] k2 pt2) X.env = pure (some [x, y]) := by
  unfold swappedStores
  simp only [S.fnk hk, hf, hc, ti.isL, tj.isL, hl, Expr.pos, List.head?_cons, Option.map_some, Option.getD_some, List.filterMap_cons, List.filterMap_nil, Bool.true_and, beq_self_eq_true, if_true, List.length_cons, List.length_nil, hd]
  rw [if_neg (by simp), if_neg (not_star hs (fun e z => by cases e <;> first | rfl | cases z)), if_neg (by simp [hd])]
  rfl
theorem sw3_ (S : Sc X N sc F) (hk : sc.kind = .function) (ti : TgtN X i x) (tj : TgtN X j y) (tm : TgtN X m z) (hl : (py.line == px.line) = true) (hl2 : (pz.line == px.line) = true) (hd : [x, y, z].eraseDups.length = 3) (hs : noStars [a, b, c] = true) (hf : [a, b, c].all (foldedForSure 8) = false) (hc : [a, b, c].all (constantsAlone 8) = false) :
    swappedStores [.Tuple [.Name x px, .Name y py, .Name z pz] kt pt] (.Tuple [a, b, c] k2 pt2) X.env = pure (some [x, y, z]) := by
  unfold swappedStores
  simp only [S.fnk hk, hf, hc, ti.isL, tj.isL, tm.isL, hl, hl2, Expr.pos, List.head?_cons, Option.map_some, Option.getD_some, List.filterMap_cons, List.filterMap_nil, Bool.true_and, beq_self_eq_true, if_true, List.length_cons, List.length_nil, hd]
  rw [if_neg (by simp), if_neg (not_star hs (fun e z => by cases e <;> first | rfl | cases z)), if_neg (by simp [hd])]
  rfl
theorem par2s_ (O : XOk X G T k) (S : Sc X N sc F) (hk : sc.kind = .function) (ti : TgtN X i x) (tj : TgtN X j y) (hij : i ≠ j) (ha : PE X a (tM X G da)) (hb : PE X b (tM X G db)) (sa : isStar a = false) (sb : isStar b = false)
    (hl : (py.line == px.line) = true) (hd : [x, y].eraseDups.length = 2) (hf : [a, b].all (foldedForSure 8) = false) (hc : [a, b].all (constantsAlone 8) = false) :
    PS X (.Assign [.Tuple [.Name x px, .Name y py] kt pt] (.Tuple [a, b] k2 pt2) pos) (tS X G g0 H0 (sPar2 i j da db)) :=
  par2_ O ti tj hij ha hb sa sb (sw2_ S hk ti tj hl hd (by simp [noStars, sa, sb]) hf hc)
theorem par3s_ (O : XOk X G T k) (S : Sc X N sc F) (hk : sc.kind = .function) (ti : TgtN X i x) (tj : TgtN X j y) (tm : TgtN X m z) (hij : i ≠ j) (him : i ≠ m) (hjm : j ≠ m) (ha : PE X a (tM X G da)) (hb : PE X b (tM X G db)) (hc' : PE X c (tM X G dc)) (sa : isStar a = false) (sb : isStar b = false) (ss : isStar c = false)
    (hl : (py.line == px.line) = true) (hl2 : (pz.line == px.line) = true) (hd : [x, y, z].eraseDups.length = 3) (hf : [a, b, c].all (foldedForSure 8) = false) (hc : [a, b, c].all (constantsAlone 8) = false) :
    PS X (.Assign [.Tuple [.Name x px, .Name y py, .Name z pz] kt pt] (.Tuple [a, b, c] k2 pt2) pos) (tS X G g0 H0 (sPar3 i j m da db dc)) :=
  s_par3 O.calm ti tj tm hij him hjm ha hb hc' sa sb ss (sw3_ S hk ti tj tm hl hl2 hd (by simp [noStars, sa, sb, ss]) hf hc)
end
end EV
/-! EV22: what the top has written, from a head -/
namespace EV
open PySem L2
open PySem.Spec PyProof.Rows
def FD.he (d : FD) : He.DefD := ⟨(d.gn, none), d.nm, d.nm, defArgs d.st, defBody d.st, defScope d.st, [], []⟩
def faVal (p : Str × D) : List He.Fa := match p.2 with
  | .int i => [.int p.1 i]
  | .str s => [.str p.1 s]
  | _ => [.glo p.1, .free p.1]
def faOf (T : Pg) : List He.Fa := T.defs.map (fun d => .glo d.gn) ++ (T.free.map .free ++ T.vals.flatMap faVal)
def fnOf (T : Pg) : List He.DefD := T.defs.map FD.he
theorem txt_of {T : Pg} {K : PySem.W.Frag} {h : Heap} {mg : Str → Option Value} (X : K.In h) (G : h.Ns mainGlobals mg) (c : He.SaysD (faOf T) (EV.fnOf T) K) : TxtOk K mg (fun _ => none) T where
  defs := fun i d hd => by
    have m := List.mem_of_getElem? hd
    obtain ⟨fd, F⟩ := He.SaysD.defs c (d := d.he) (List.mem_map.mpr ⟨d, m, rfl⟩)
    have g := He.glo_ok X G (c.facts (f := .glo d.gn) (List.mem_append_left _ (List.mem_map.mpr ⟨d, m, rfl⟩)))
    exact ⟨_, fd, g, F⟩
  free := fun x hx => He.free_ok X G (c.facts (f := .free x) (List.mem_append_right _ (List.mem_append_left _ (List.mem_map.mpr ⟨x, by simpa using hx, rfl⟩))))
  vals := fun p hp => by
    have mem : ∀ f ∈ faVal p, f.ok K = true := fun f hf => c.facts (List.mem_append_right _ (List.mem_append_right _ (List.mem_flatMap.mpr ⟨p, hp, hf⟩)))
    obtain ⟨x, d⟩ := p
    have bad : ∀ f ∈ faVal (x, d), f.ok K = true := mem
    cases d with
    | int i =>
      obtain ⟨t, e⟩ := He.int_ok X G (mem (.int x i) (.head _))
      exact ⟨.int i, _, e, ⟨t, rfl⟩, fun _ _ _ _ => rfl⟩
    | str s =>
      obtain ⟨t, e⟩ := He.str_ok X G (mem (.str x s) (.head _))
      exact ⟨.str s, _, e, ⟨t, rfl⟩, fun _ _ _ _ => rfl⟩
    | _ =>
      have e1 := He.glo_ok X G (mem (.glo x) (.head _))
      have e2 := He.free_ok X G (mem (.free x) (.tail _ (.head _)))
      rw [e1] at e2
      cases e2
/-- a law's end, from the head's facts -/
theorem walk_law {l : PySem.W.OpenLaw} {n k : Nat} {q : Program} {loose : List Str} {XP : (Str → Option Value) → Heap → Prop} {d : DefRec} {T : Pg} (i : Nat) (L : FD)
    (hn : l.most = some n) (hz : n ≤ sizeLine) (nodef : d.params.defaults = []) (rm : Room k callerA) (hi : T.defs[i]? = some L) (hd : d.name = L.gn) (hp : L.ps = [("script" : Str)])
    (B : ∀ (i : Nat) (d : FD), T.defs[i]? = some d → BodyOk T d)
    (hb : ∀ (kV doc pm : Value) (an : Option Addr) (cdv ct : Value) (us : List Value), us.length = 1 → bindArgs (PySem.W.fnOf L.nm L.nm (defArgs L.st) (defBody L.st) (defScope L.st) .none kV doc pm an cdv ct) ⟨us, []⟩ = pure ([("script" : Str)].zip us))
    (main : ∀ ns : List Int, ns.length ≤ n → ∃ h, fnsOf T.defs k i [.frz (ns.map D.int)] [] = .ok (.bl true) h) :
    PySem.W.WalkO q loose XP (fun _ h => ∃ K : PySem.W.Frag, K.In h ∧ He.SaysD (faOf T) (EV.fnOf T) K) l.row.toRowW d [] (fun f vs => PySem.call f vs) := by
  refine walk_fn (n := n) (k := k) (x := "script") hn hz nodef rm fun w mg fa h Y G hmg => ?_
  obtain ⟨K, KX, c⟩ := Y
  have TO := txt_of KX G c
  obtain ⟨f, fd, m, F⟩ := TO.defs i L hi
  rw [hd, m] at hmg
  cases hmg
  refine ⟨K, fd, fun _ => none, fnsOf T.defs k i, KX, fun s u => F.bindsA (ps := [("script" : Str)]) (fun kV doc pm an cdv ct us hl => hb kV doc pm an cdv ct us hl) s [u] rfl, fun base => ?_, main⟩
  have z := all_fn (P := l.prog) (w := w) (base := base) TO B k i L hi _ fd m F
  rw [hp] at z
  exact z
end EV
/-! EV25: enumerate over tuples -/
namespace EV
open PySem L2 PySem.Spec PyProof.Rows
open AutoSeq1 (wpAny_loadPart')
theorem new_enumT (l : Addr) (items : Array Value) (n : Nat) (dct : Option Addr) (sl : Array (Option Value)) :
    Meets (Builtin.«enumerate.__new__» ⟨[.type "enumerate", .ref l], []⟩) (fun _ R s => s.heap.get? l = some { cls := .type "tuple", dict := dct, data := .seq items n, slots := sl } ∧
      R (.ok (.ret (.ref (s.heap.push { cls := .type "tuple_iterator", data := .fields #[.ref l, .int 0 0] }).objs.size)))
        { s with heap := (s.heap.push { cls := .type "tuple_iterator", data := .fields #[.ref l, .int 0 0] }).push { cls := .type "enumerate", data := .fields #[.none, .bool false, .ref s.heap.objs.size, rawInt 0, .none, .none] } }) :=
  .of_wp fun prog w A R s h => by
    obtain ⟨hp, g, d, tk, os⟩ := s; obtain ⟨hl, h⟩ := h
    have sb := sub_enumerate
    have isT : Heap.IsTuple (Shared.heap ⟨hp, g, d, tk, os⟩) l items := ⟨_, hl, rfl, n, rfl⟩
    wp_walk using wpAny_loadPart' hl
    refine wpAny_stack_any fun st => wpAny_pure ?_
    split
    · rename_i c _ _ _ _ _
      cases (c == Value.type "enumerate") <;> (wp_walk using wpAny_loadPart' hl, wpAny_pyIter_tuple isT; exact ⟨_, rfl, h⟩)
    · wp_walk using wpAny_loadPart' hl, wpAny_pyIter_tuple isT
      exact ⟨_, rfl, h⟩
section
variable {prog : Program} {w : World} {A : Around} {E : Value → Shared → Prop} {s : Shared}
theorem call_enumT {l : Addr} {items : Array Value} {Q : Value → Shared → Prop} (ht : IsTup s.heap l items)
    (h : ∀ h', IsEnum h' (s.heap.objs.size + 1) s.heap.objs.size 0 .none → h'.IsTupleIter s.heap.objs.size l 0 → h'.objs.size = s.heap.objs.size + 2 →
      (∀ b o, s.heap.get? b = some o → h'.get? b = some o) → Q (.ref (s.heap.objs.size + 1)) { s with heap := h' }) :
    wpAny (model prog w) A (call (.type "enumerate") [.ref l]) Q E s := by
  obtain ⟨⟨c, dct, dt, sl⟩, hl, hc, n, hd⟩ := ht
  obtain rfl : c = .type "tuple" := hc
  obtain rfl : dt = .seq items n := hd
  refine callType_new F.called_enumerate (by decide) (F.typeCall_enumerate_1 _) (F.newCall_enumerate_1 _) (fun obj => F.args_object_init_2 obj _) F.entry_enumerate_new (new_enumT l items n dct sl) ⟨hl, ?_⟩
  have sz : (s.heap.push { cls := .type "tuple_iterator", data := .fields #[.ref l, .int 0 0] }).objs.size = s.heap.objs.size + 1 := Heap.size_push ..
  show _ ∧ _
  rw [sz]
  have en : IsEnum ((s.heap.push { cls := .type "tuple_iterator", data := .fields #[.ref l, .int 0 0] }).push
      { cls := .type "enumerate", data := .fields #[.none, .bool false, .ref s.heap.objs.size, rawInt 0, .none, .none] }) (s.heap.objs.size + 1) s.heap.objs.size 0 .none := by
    have z := Heap.get?_push_size (s.heap.push { cls := .type "tuple_iterator", data := .fields #[.ref l, .int 0 0] }) (o := { cls := .type "enumerate", data := .fields #[.none, .bool false, .ref s.heap.objs.size, rawInt 0, .none, .none] }) rfl
    rw [sz] at z; exact z
  exact ⟨⟨_, en, rfl⟩, h _ en ⟨_, Heap.get?_push_of_some _ (Heap.get?_push_size _ rfl), rfl, rfl⟩ (by rw [Heap.size_push, sz]) fun b o x => Heap.get?_push_of_some _ (Heap.get?_push_of_some _ x)⟩
end
def IteT (K : PySem.W.Frag) (a : Addr) : It :=
  ⟨fun i H => ∃ (xs : List V) (x : V), SqT K H a xs ∧ xs[i]? = some x, fun i H v H' => ∃ T x, v = .ref T ∧ H T = none ∧ H' = upd H T (.tup [.int (i : Nat), x]) ∧ ∀ xs, SqT K H a xs → xs[i]? = some x, fun i H => ∃ xs : List V, SqT K H a xs ∧ xs.length = i⟩
theorem turn_enumT {P : Program} {w : World} {K : PySem.W.Frag} {elts : List Expr} {kk : Nat} {tpos : Pos} (a e it : Addr) :
    Turn P w K (.Tuple elts kk tpos) (IteT K a) [e, it] e (fun i h => (∃ old, IsEnum h e it ((i : Nat) : Int) old) ∧ h.IsTupleIter it a i ∧ e ≠ it) where
  mem := by simp
  obj := fun i h st b hb => by
    obtain ⟨⟨old, he⟩, ⟨o, ho, hc, hd⟩, _⟩ := st
    have e' : b = e ∨ b = it := by simpa using hb
    rcases e' with z | z
    · rw [z]; exact ⟨_, he, fun v q => nomatch q⟩
    · rw [z]; exact ⟨o, ho, fun v q => by rw [hd] at q; cases q⟩
  keep := fun i h h' st k => let ⟨⟨old, he⟩, hi, hne⟩ := st; ⟨⟨old, k e (by simp) _ he⟩, hi.at fun o q => k it (by simp) o q, hne⟩
  item := by
    intro X hP hw hK hc i pins s σ H E I hf st hg
    subst hP hw hK
    obtain ⟨⟨old, he⟩, hit, hne⟩ := st
    obtain ⟨xs, x, hq, hx⟩ := hg
    obtain ⟨its, rv, p, hz⟩ := I.tuple hq
    obtain ⟨u, hu, ru⟩ := rv.get hx
    have hel : e < s.heap.objs.size := Heap.lt_size he
    have hil : it < s.heap.objs.size := by obtain ⟨_, q, _⟩ := hit; exact Heap.lt_size q
    have tu : s.heap.IsTuple a its.toArray := p
    have nit : a ≠ it := fun z => by
      obtain ⟨o1, h1, c1, _⟩ := p
      obtain ⟨o2, h2, c2, _⟩ := hit
      rw [z, h2] at h1; cases h1
      rw [c1] at c2; exact absurd (Value.type.inj c2) (by decide)
    have nie : a ≠ e := fun z => by
      obtain ⟨o1, h1, c1, _⟩ := p
      rw [z, he] at h1; cases h1
      exact absurd (Value.type.inj c1) (by decide)
    have hil2 : i < its.toArray.size := (Array.getElem?_eq_some_iff.mp (show its.toArray[i]? = some u by simpa using hu)).1
    refine wpAny_pyNext_enum_itemD (Draws.tuple (prog := X.prog) (w := X.w) (A := X.A.in1) (I.ok.hd hc) it a nit its.toArray) he ⟨hit, tu⟩ hil2 hne (by simp; exact ⟨hne, fun z => nie z.symm⟩) fun y h' tk hy ho st' hT hsz hk => ?_
    have ey : y = u := by
      have z : its.toArray[i]? = some u := by simpa using hu
      rw [z] at hy; exact (Option.some.inj hy).symm
    subst ey
    obtain ⟨hit', tu'⟩ := st'
    refine ⟨_, rfl, wpAny_letOwnedTupleGo_enum (s := { s with heap := h', toks := tk + 1 }) ho fun h'' he' sb => ?_⟩
    have hT2 : h''.get? s.heap.objs.size = some { cls := .type "tuple", data := .seq #[.int i tk, y] } := (sb.2 _ (Nat.ne_of_gt hel)).trans hT
    have new : ObjOk X.prog X.w (upd H s.heap.objs.size (.tup [.int (i : Nat), x])) h'' s.heap.objs.size (.tup [.int (i : Nat), x]) :=
      ⟨by show 2 ≤ sizeLine; decide, [.int i tk, y], .cons ⟨_, rfl⟩ (.cons ru .nil), ⟨_, hT2, rfl, _, rfl⟩⟩
    have I1 : Inv X pins σ (upd H s.heap.objs.size (.tup [.int (i : Nat), x])) { s with heap := h'', toks := tk + 1 } :=
      I.turnedNew (ch := [e, it]) (fun b ob hb q => (sb.2 b (fun z => hb (by simp [z]))).trans (hk b ob (fun z => hb (by simp [z])) (fun z => hb (by simp [z])) q)) hf (Nat.le_refl _) new
    refine ⟨.ref s.heap.objs.size, _, I1, rfl, ⟨_, x, rfl, I.hok.fresh (Nat.le_refl _), rfl, fun ys hy => by rw [I.tuple_inj hy hq]; exact hx⟩, ⟨⟨y, ?_⟩, hit'.at fun o q => (sb.2 it (Ne.symm hne)).trans q, hne⟩, fun b hb => ?_⟩
    · rw [show ((i + 1 : Nat) : Int) = (i : Int) + 1 by omega]; exact he'
    · have hb' : b < s.heap.objs.size := by
        have e' : b = e ∨ b = it := by simpa using hb
        rcases e' with z | z
        · rw [z]; exact hel
        · rw [z]; exact hil
      rw [upd_ne (Nat.ne_of_lt hb')]
      exact (hf b hb).1
  done := by
    intro X hP hw hK hc i pins s σ H E I hf st hg
    subst hP hw hK
    obtain ⟨⟨old, he⟩, hit, hne⟩ := st
    obtain ⟨xs, hq, hx⟩ := hg
    obtain ⟨its, rv, p, hz⟩ := I.tuple hq
    obtain ⟨f0, f1, f2, f3, f4, f5⟩ := hf it (by simp)
    have hl := rv.length
    have nit : a ≠ it := fun z => by
      obtain ⟨o1, h1, c1, _⟩ := p
      obtain ⟨o2, h2, c2, _⟩ := hit
      rw [z, h2] at h1; cases h1
      rw [c1] at c2; exact absurd (Value.type.inj c2) (by decide)
    have ei : its.toArray.size = i := by rw [List.size_toArray, ← hl]; exact hx
    have st : (fun (i : Nat) (h : Heap) => h.IsTupleIter it a i ∧ h.IsTuple a its.toArray) its.toArray.size s.heap := ⟨by rw [ei]; exact hit, p⟩
    exact wpAny_pyNext_enum_endD (Draws.tuple (prog := X.prog) (w := X.w) (A := X.A.in1) (I.ok.hd hc) it a nit its.toArray) he st fun h' eb => ⟨rfl, I.turned (t' := s.toks) (fun b o hb q => eb b o hb q) f0 f1 f3 f4 f5⟩
  self := fun A i s Q E st h => let ⟨⟨_, he⟩, _⟩ := st; wpAny_pyIter_enum he h
def iEnumA (K : PySem.W.Frag) (ta : TA) : TI := fun σ H R => ta σ H fun vs H1 => ∃ a xs, vs = [.ref a] ∧ ((SqL K H1 a xs ∧ R (Ite K a) H1) ∨ (SqT K H1 a xs ∧ R (IteT K a) H1))
theorem pi_enumA {X : Cx} {e : Expr} {ta : TA} {p pos tpos : Pos} {elts : List Expr} {kk : Nat} (hg : Gl X "enumerate") (hm : X.mg "enumerate" = none) (ha : PA X [e] ta) (hs : starEach [e] X.env = [(false, eval e X.env)]) :
    PI X (.Tuple elts kk tpos) (.Call (.Name "enumerate" p) [e] [] pos) (iEnumA X.K ta) := by
  refine ⟨fun pins s σ H R I h => Call_ (ld_blt I hg hm PyProof.Rows.boot_enumerate (PyProof.Rows.callWith_type1 (thn (ha.run pos pins s σ H _ I h) fun us s1 ⟨vs, H1, I1, r1, q1⟩ => ?_) hs rfl))⟩
  obtain ⟨a, xs, ex, q1⟩ := q1
  subst ex
  cases r1 with
  | cons r rr =>
    cases rr
    cases r
    have two : ∀ b, b ∈ [s1.heap.objs.size + 1, s1.heap.objs.size] → FpOk X pins H1 b := fun b hb => by
      have le : s1.heap.objs.size ≤ b := by
        rcases (show b = s1.heap.objs.size + 1 ∨ b = s1.heap.objs.size by simpa using hb) with z | z
        · rw [z]; exact Nat.le_add_right _ _
        · rw [z]; exact Nat.le_refl _
      exact I1.fpOk le (I1.hok.fresh le)
    rcases q1 with ⟨hq, q⟩ | ⟨hq, q⟩
    · obtain ⟨its, rv, p', hz⟩ := I1.list hq
      refine call_enumerate_list p'.isList fun h' he hit hsz hk => wpAny_pyIter_enum he ?_
      exact ⟨s1.heap.objs.size + 1, [s1.heap.objs.size + 1, s1.heap.objs.size], _, _, H1, rfl, I1.kept (t' := s1.toks) hk, turn_enum a (s1.heap.objs.size + 1) s1.heap.objs.size, ⟨⟨.none, he⟩, hit, Nat.succ_ne_self _⟩, two, q⟩
    · obtain ⟨its, rv, p', hz⟩ := I1.tuple hq
      refine call_enumT p' fun h' he hit hsz hk => wpAny_pyIter_enum he ?_
      exact ⟨s1.heap.objs.size + 1, [s1.heap.objs.size + 1, s1.heap.objs.size], _, _, H1, rfl, I1.kept (t' := s1.toks) hk, turn_enumT a (s1.heap.objs.size + 1) s1.heap.objs.size, ⟨⟨.none, he⟩, hit, Nat.succ_ne_self _⟩, two, q⟩
section
variable {X : Cx} {G : Gx} {g g' : Gh} {H H' : Hp} {h h' : Cells} {ds : List D} {xs : List V} {a : Addr} {e : Expr} {dr : DA} {v : Value} {p pos tpos : Pos} {elts : List Expr} {kk : Nat}
theorem it_enumT (r : HRel X.prog X.w g H h) (og : GOk X G g) (tx : SqT X.K H a xs) (qx : RelsS g H ds xs) : ItOk X (IteT X.K a) g H (numbered 0 ds) := by
  have st : ∀ g' H', ExtS g H g' H' → SqT X.K H' a xs := fun g' H' e => by
    have z := SqT.exts r e (by rw [og.K]; exact tx)
    rw [e.K, og.K] at z
    exact z
  exact {
    goes := fun g' H' h' i hi e r' => by
      rw [numbered_len, qx.len] at hi
      exact ⟨xs, xs[i], st g' H' e, by simp [hi]⟩
    stops := fun g' H' h' e r' => ⟨xs, st g' H' e, by rw [numbered_len, qx.len]⟩
    yields := fun g' H' h' i x H'' hi e r' y => by
      obtain ⟨T, u, rfl, hT, rfl, y1⟩ := y
      obtain ⟨d, h1, h2⟩ := (RelsS.exts r e qx).getV (y1 xs (st g' H' e))
      refine ⟨_, _, Ext.new r' hT, r'.new hT, numbered_get h1, ?_⟩
      rw [Nat.zero_add]
      exact Ext.pair r' hT rfl h2 }
def enumA : List D → Cells → R (List D) := fun ds h => match ds with
  | [.tup a] => .ok (numbered 0 a) h
  | [x] => match stillL x with
    | some a => .ok (numbered 0 a) h
    | none => .bad
  | _ => .bad
def dEnumA (da : DA) : DF := fun fn env h => (da fn env h).bind enumA
theorem enumA_ (B : BltOk X "enumerate" v) (ha : PA X [e] (tA X G dr)) (hs : isStar e = false) : PI X (.Tuple elts kk tpos) (.Call (.Name "enumerate" p) [e] [] pos) (tI X G (dEnumA dr)) :=
  PI.imp (pi_enumA B.g B.m ha (by rw [star_cons hs]; rfl)) fun σ H R ⟨g, own, env, h, o, r, l, q⟩ => ⟨g, own, env, h, o, r, l, (Post.bind q).imp fun g1 H1 ds h1 e1 r1 q1 vs qv => by
    have o1 := o.ext e1
    unfold enumA at q1
    split at q1
    · obtain ⟨y, rfl, z1⟩ := rel1 qv
      obtain ⟨a, xs, rfl, w1, w2⟩ := tup_ok o1 z1
      exact ⟨a, xs, rfl, .inr ⟨w1, Post.now r1 q1 _ (it_enumT r1 o1 w1 w2)⟩⟩
    · split at q1
      · rename_i a1 s1
        obtain ⟨y, rfl, z1⟩ := rel1 qv
        obtain ⟨a, xs, rfl, w1, w2, w3⟩ := still_ok o1 r1 z1 s1
        exact ⟨a, xs, rfl, .inl ⟨w2, Post.now r1 q1 _ (it_enum r1 w3 w1)⟩⟩
      · exact q1.elim
    · exact q1.elim⟩
end
end EV
/-! EV26: x[k] op= e on a slot's list; [..] * n as a new list; xs + ys, slices as new lists -/
namespace EV
open PySem L2
def rGetL : V → V → Hp → VK → Prop := fun o i H Q => ∃ p xs k v, o = .ref p ∧ i = .int k ∧ H p = some (.lst xs) ∧ atI xs k = some v ∧ Q v H
section
variable {X : Cx} {G : Gx} {g g' g0 : Gh} {H H' H0 : Hp} {h h' : Cells} {own : Nat → Option Addr} {env : Ev} {σ : L2.St} {x : Str} {i : Nat} {a b e : Expr} {da db de : DE} {df : DF} {dr : DA} {pos sp px : Pos} {es : List Expr}
theorem get_lst : PGet X rGetL := by
  intro pins s σ H o i ov iv Q I ro ri h
  obtain ⟨p, xs, k, v, rfl, rfl, hp, he, q⟩ := h
  cases ro
  obtain ⟨t, rfl⟩ := ri
  obtain ⟨its, r, pl, hz⟩ := I.list (.inl (.inl hp))
  obtain ⟨j, h1, h2, h3, h4, h5⟩ := atI_get he
  obtain ⟨w, ew, rw'⟩ := r.get h2
  have hl := r.length
  have hn := line63
  by_cases h0 : 0 ≤ k
  · have hj : k.toNat = j := by
      rw [seqIndex_of h0 h5] at h1
      exact Option.some.inj h1
    exact wpAny_getItem_list pl.isList h0 (by omega) (by rw [hj]; simpa using ew) ⟨v, H, I, rw', q⟩
  · have hj : (k + (its.toArray.size : Int)).toNat = j := by
      rw [seqIndex_neg (by omega) h4] at h1
      rw [List.size_toArray, ← hl]
      exact Option.some.inj h1
    exact wpAny_getItem_list_neg pl.isList (by omega) (by rw [List.size_toArray] <;> omega) (by omega) (by rw [hj]; simpa using ew) ⟨v, H, I, rw', q⟩
def augGot (i : Nat) (o : O2) (de : DE) (k : D) (fn : Fns) (env : Ev) (h : Cells) : R (Fl × Ev) := match k, slotL env h i with
  | .int j, some ds => match atI ds j with
    | some old => (de fn env h).bind fun e h2 => (o old e h2).bind fun new h3 => setAt i (.int j) new env h3
    | none => .bad
  | _, _ => .bad
def sAugI (i : Nat) (db : DE) (o : O2) (de : DE) : DS := fun fn env h => match slotL env h i with
  | some _ => (db fn env h).bind fun k h1 => augGot i o de k fn env h1
  | none => .bad
theorem augI_ {op : Operator} {o : O2} {pos : Pos} (v : VarOk X i x) (hb : PE X b (tD X G db)) (ho : OpR X (inplaceOp op) (rO2 X G o)) (he : PE X e (tD X G de)) (hsl : isSlice b = false) :
    PS X (.AugAssign (.Subscript (.Name x px) b sp) op e pos) (tS X G g0 H0 (sAugI i db o de)) :=
  PS.imp (ps_augS (pe_var v.n v.v v.d v.c) hb get_lst he (show PIp X op (rO2 X G o) from ho) set_list (by intros; cases b <;> first | rfl | (simp [isSlice] at hsl))) fun Dn σ H ⟨g, own, env, h, og, r, l, n, q⟩ => by
    unfold sAugI at q
    split at q
    · rename_i ds ed
      obtain ⟨p, xs, s1, s2, s3, s4⟩ := slotL_ok og r l n ed
      refine ⟨_, s1, tG.mk og r l ((Post.stmt r n q).imp fun g1 H1 kd h1 e1 r1 q1 w qw => ?_)⟩
      have o1 := og.ext e1
      have l1 := l.step r e1
      have n1 := n.step e1
      unfold augGot at q1
      split at q1
      · rename_i j ds1 ed1
        cases (show w = V.int j from qw)
        split at q1
        · rename_i old eo
          obtain ⟨p', xs', t1, t2, t3, t4⟩ := slotL_ok o1 r1 l1 n1 ed1
          cases slot_same s1 t1
          obtain ⟨ov, ev, rv⟩ := atI_rel t3 eo
          refine ⟨p, xs', j, ov, rfl, rfl, t2, ev, tG.mk o1 r1 l1 ((Post.stmt r1 n1 q1).imp fun g2 H2 d h2 e2 r2 q2 y qy => ?_)⟩
          refine ⟨g2, h2, old, d, o1.ext e2, r2, (RelS.ext r1 e2 rv).t, qy, (Post.stmt r2 (n1.step e2) q2).imp fun g3 H3 nw h3 e3 r3 q3 z qz => ?_⟩
          have o3 := (o1.ext e2).ext e3
          have l3 := (l1.step r1 e2).step r2 e3
          have n3 := (n1.step e2).step e3
          unfold setAt at q3
          split at q3
          · rename_i j3 ds3 ej ed3
            cases ej
            split at q3
            · rename_i m hm
              split at q3
              · exact q3.elim
              · rename_i nb
                obtain ⟨p3, xs3, u1, u2, u3, u4⟩ := slotL_ok o3 r3 l3 n3 ed3
                cases slot_same s1 u1
                exact ⟨p, xs3, _, m, rfl, rfl, u2, by rw [← u3.len]; exact hm, u4 _ _ _ (u3.set m (qz.s (by simpa using nb))) q3⟩
            · exact q3.elim
          · exact q3.elim
        · exact q1.elim
      · exact q1.elim
    · exact q.elim
/-- xs * n, xs + ys as a new list -/
def repD : D → D → Cells → R (List D) := fun d k h => match k with
  | .int k => (match seqM h d with
    | some ds => if decide (-1000000 ≤ k) && decide (k ≤ 1000000) && decide (ds.length * k.toNat ≤ szL) then .ok (reps k.toNat ds) h else .bad
    | none => .bad)
  | _ => .bad
def catD : D → D → Cells → R (List D) := fun x y h => match seqM h x, seqM h y with
  | some a, some b => if a.length + b.length ≤ szL then .ok (a ++ b) h else .bad
  | _, _ => .bad
def dF2 (o : D → D → Cells → R (List D)) (da db : DE) : DF := fun fn env h => (da fn env h).bind fun x h1 => (db fn env h1).bind fun y h2 => o x y h2
theorem s_rep (ha : PE X a (tD X G da)) (hb : PE X b (tD X G db)) : PE X (.BinOp a .Mult b pos) (tF X G (dF2 repD da db)) :=
  PE.imp (pe_op op_rep ha hb) fun σ H Q ⟨g, own, env, h, o, r, l, q⟩ => by
    refine ⟨g, own, env, h, o, r, l, (Post.bind q).imp fun g1 H1 x h1 e1 r1 q1 v qv => ?_⟩
    refine ⟨g1, own, env, h1, o.ext e1, r1, l.step r e1, (Post.bind q1).imp fun g2 H2 y h2 e2 r2 q2 w qw => ?_⟩
    unfold repD at q2
    split at q2
    · rename_i k
      cases (show w = V.int k from qw)
      split at q2
      · rename_i ds es
        split at q2
        · rename_i hz
          simp only [Bool.and_eq_true, decide_eq_true_eq] at hz
          obtain ⟨p, xs, rfl, z1, z2⟩ := seqM_ok r2 (RelT.ext r1 e2 qv) es
          exact ⟨p, k, xs, rfl, rfl, z1, by omega, by omega, by rw [lineE, ← z2.len]; exact hz.2, fresh_now r (e1.trans e2) r2 (z2.reps k.toNat) q2⟩
        · exact q2.elim
      · exact q2.elim
    · exact q2.elim
theorem s_cat (ha : PE X a (tD X G da)) (hb : PE X b (tD X G db)) : PE X (.BinOp a .Add b pos) (tF X G (dF2 catD da db)) :=
  PE.imp (pe_op op_cat ha hb) fun σ H Q ⟨g, own, env, h, o, r, l, q⟩ => by
    refine ⟨g, own, env, h, o, r, l, (Post.bind q).imp fun g1 H1 x h1 e1 r1 q1 v qv => ?_⟩
    refine ⟨g1, own, env, h1, o.ext e1, r1, l.step r e1, (Post.bind q1).imp fun g2 H2 y h2 e2 r2 q2 w qw => ?_⟩
    unfold catD at q2
    split at q2
    · rename_i ds es d1 d2
      split at q2
      · rename_i hz
        obtain ⟨p, xs, rfl, z1, z2⟩ := seqM_ok r2 (RelT.ext r1 e2 qv) d1
        obtain ⟨p2, ys, rfl, z3, z4⟩ := seqM_ok r2 qw d2
        exact ⟨p, p2, xs, ys, rfl, rfl, z1, z3, by rw [lineE, ← z2.len, ← z4.len]; exact hz, fresh_now r (e1.trans e2) r2 (z2.app z4) q2⟩
      · exact q2.elim
    · exact q2.elim
end
end EV
/-! EV27: stores that are not swapped -/
namespace EV
open PySem L2
section
variable {X : Cx} {N : List Str} {sc : Scope} {F : Str → Bool} {ts vs : List Expr} {k k2 : Nat} {p p2 : Pos}
def plainT (sc : Scope) (t : Expr) : Bool := match t with
  | .Name id _ => lclB sc id
  | _ => false
theorem fm_len {α β : Type} {f : α → Option β} {q : α → Bool} (hq : ∀ a, (f a).isSome = true → q a = true) : ∀ {l : List α}, l.all q = false → (l.filterMap f).length < l.length
  | [], h => by cases h
  | a :: l, h => by
    rw [List.filterMap_cons]
    cases e : f a with
    | none => simp only [List.length_cons]; exact Nat.lt_succ_of_le (List.length_filterMap_le _ _)
    | some b =>
      have z := hq a (by rw [e]; rfl)
      rw [List.all_cons, z, Bool.true_and] at h
      have := fm_len hq h
      simp only [List.length_cons]
      omega
theorem sw_no (S : Sc X N sc F) (h : ts.all (plainT sc) = false) : swappedStores [.Tuple ts k p] (.Tuple vs k2 p2) X.env = pure none := by
  unfold swappedStores
  simp only
  split
  · rfl
  · split
    · rfl
    · rw [if_pos]
      rw [Bool.or_eq_true]
      refine .inl ?_
      have z := fm_len (f := fun t => match t with
        | .Name id pos => if (X.env.kindOf id == some .local && pos.line == (ts.head?.map (·.pos.line)).getD 0) = true then some id else none
        | _ => none) (q := plainT sc) (fun a ha => ?_) h
      · simp only [bne_iff_ne, ne_eq]
        intro e
        exact absurd e (Nat.ne_of_lt z)
      · cases a <;> first | (simp at ha; done) | skip
        rename_i id pos
        simp only at ha
        split at ha
        · rename_i hz
          simp only [Bool.and_eq_true] at hz
          have : X.env.kindOf id = some .local := by
            have := hz.1
            cases q : X.env.kindOf id with
            | none => rw [q] at this; cases this
            | some v => rw [q] at this; cases v <;> first | rfl | cases this
          have : sc.names.lookup id = some .local := by rw [← S.sc]; exact this
          simp [plainT, lclB, this]
        · cases ha
theorem sw_fold {env : Env} (h : vs.all (foldedForSure 8) = true) : swappedStores [.Tuple ts k p] (.Tuple vs k2 p2) env = pure none := by
  unfold swappedStores
  simp only
  split
  · rfl
  · split
    · rfl
    · split
      · rfl
      · rfl
end
end EV
/-! EV30: in, not in; max, min of one list -/
namespace EV
open PySem L2
/-- what stands in a list, a tuple -/
def inPd (h : Cells) (x y : D) : Option Bool := match pdH h x, pdH h y with
  | some p, some (.list qs) => if SeqAt.shaped p && SeqAt.shaped (.list qs) then some (qs.any fun z => PyData.eqv z p) else none
  | some p, some (.tuple qs) => if SeqAt.shaped p && SeqAt.shaped (.tuple qs) then some (qs.any fun z => PyData.eqv z p) else none
  | _, _ => none
def dIn : O2 := fun x y h => match inPd h x y with
  | some b => .ok (.bl b) h
  | none => .bad
def dNotIn : O2 := fun x y h => match inPd h x y with
  | some b => .ok (.bl (!b)) h
  | none => .bad
def cMaxL : ON := fun ds h => match ds with
  | [.int i, .int j] => .ok (.int (if j > i then j else i)) h
  | [d] => match (seqL h d).bind toInts with
    | some (n :: ns) => .ok (.int (ns.foldl max n)) h
    | _ => .bad
  | _ => .bad
def cMinL : ON := fun ds h => match ds with
  | [.int i, .int j] => .ok (.int (if j < i then j else i)) h
  | [d] => match (seqL h d).bind toInts with
    | some (n :: ns) => .ok (.int (ns.foldl min n)) h
    | _ => .bad
  | _ => .bad
theorem fold_max : ∀ (ns : List Int) (n : Int), (∀ y ∈ n :: ns, y ≤ ns.foldl max n) ∧ ns.foldl max n ∈ n :: ns
  | [], n => ⟨fun y hy => by simp at hy; rw [hy]; exact Int.le_refl _, by simp⟩
  | m :: ns, n => by
    obtain ⟨h1, h2⟩ := fold_max ns (max n m)
    have e : (m :: ns).foldl max n = ns.foldl max (max n m) := rfl
    rw [e]
    have h0 := h1 (max n m) (.head _)
    refine ⟨fun y hy => ?_, ?_⟩
    · simp only [List.mem_cons] at hy
      rcases hy with rfl | rfl | hy
      · omega
      · omega
      · exact h1 y (.tail _ hy)
    · rcases List.mem_cons.mp h2 with z | z
      · rw [z]
        rcases Int.le_total n m with q | q
        · rw [Int.max_eq_right q]; simp
        · rw [Int.max_eq_left q]; simp
      · exact .tail _ (.tail _ z)
theorem fold_min : ∀ (ns : List Int) (n : Int), (∀ y ∈ n :: ns, ns.foldl min n ≤ y) ∧ ns.foldl min n ∈ n :: ns
  | [], n => ⟨fun y hy => by simp at hy; rw [hy]; exact Int.le_refl _, by simp⟩
  | m :: ns, n => by
    obtain ⟨h1, h2⟩ := fold_min ns (min n m)
    have e : (m :: ns).foldl min n = ns.foldl min (min n m) := rfl
    rw [e]
    have h0 := h1 (min n m) (.head _)
    refine ⟨fun y hy => ?_, ?_⟩
    · simp only [List.mem_cons] at hy
      rcases hy with rfl | rfl | hy
      · omega
      · omega
      · exact h1 y (.tail _ hy)
    · rcases List.mem_cons.mp h2 with z | z
      · rw [z]
        rcases Int.le_total n m with q | q
        · rw [Int.min_eq_left q]; simp
        · rw [Int.min_eq_right q]; simp
      · exact .tail _ (.tail _ z)
section
open PySem.Spec PyProof.Rows
variable {X : Cx} {G : Gx}
theorem room_in {a b : PyData} {A : Around} (h : SeqAt.shaped a = true) (hu : A.units + 65 < cLine) (n : Nat) : A.units + 1 + min n a.depth < cLine := by
  have h1 := SeqAt.depth_of_shaped h
  have h2 : min n a.depth ≤ a.depth := Nat.min_le_right _ _
  omega
theorem XOk.un65 {T : Pg} {k : Nat} (O : XOk X G T k) : X.A.units + 65 < cLine := by have := O.rm.un; omega
theorem o_in (hu : X.A.units + 65 < cLine) : OpR X (compareOp .In) (rO2 X G dIn) := by
  intro pins s σ H x y v u Q I rx ry hp
  obtain ⟨g, h, d, e, og, r, qd, qe, p⟩ := hp
  unfold dIn inPd at p
  cases e1 : pdH h d with
  | none => rw [e1] at p; exact p.elim
  | some p1 =>
    rw [e1] at p
    cases e2 : pdH h e with
    | none => rw [e2] at p; exact p.elim
    | some p2 =>
      rw [e2] at p
      obtain ⟨as, r1⟩ := Dp.reads I p1 x v (dpH_of og r qd e1) rx
      obtain ⟨bs, r2⟩ := Dp.reads I p2 y u (dpH_of og r qe e2) ry
      cases p2 with
      | list qs =>
        dsimp only at p
        split at p
        · rename_i b hb
          split at hb
          · rename_i hz
            cases hb
            rw [Bool.and_eq_true] at hz
            exact SeqAt.in_list_reads r2 r1 (SeqAt.canLay_of_shaped hz.2) (SeqAt.canLay_of_shaped hz.1) (room_in (b := p1) hz.1 hu _) ⟨.bl _, H, I, rfl, Post.bl r p⟩
          · cases hb
        · exact p.elim
      | tuple qs =>
        dsimp only at p
        split at p
        · rename_i b hb
          split at hb
          · rename_i hz
            cases hb
            rw [Bool.and_eq_true] at hz
            exact SeqAt.in_tuple_reads r2 r1 (SeqAt.canLay_of_shaped hz.2) (SeqAt.canLay_of_shaped hz.1) (room_in (b := p1) hz.1 hu _) ⟨.bl _, H, I, rfl, Post.bl r p⟩
          · cases hb
        · exact p.elim
      | _ => exact p.elim
theorem o_notin (hu : X.A.units + 65 < cLine) : OpR X (compareOp .NotIn) (rO2 X G dNotIn) := by
  intro pins s σ H x y v u Q I rx ry hp
  obtain ⟨g, h, d, e, og, r, qd, qe, p⟩ := hp
  unfold dNotIn inPd at p
  cases e1 : pdH h d with
  | none => rw [e1] at p; exact p.elim
  | some p1 =>
    rw [e1] at p
    cases e2 : pdH h e with
    | none => rw [e2] at p; exact p.elim
    | some p2 =>
      rw [e2] at p
      obtain ⟨as, r1⟩ := Dp.reads I p1 x v (dpH_of og r qd e1) rx
      obtain ⟨bs, r2⟩ := Dp.reads I p2 y u (dpH_of og r qe e2) ry
      cases p2 with
      | list qs =>
        dsimp only at p
        split at p
        · rename_i b hb
          split at hb
          · rename_i hz
            cases hb
            rw [Bool.and_eq_true] at hz
            exact SeqAt.notIn_list_reads r2 r1 (SeqAt.canLay_of_shaped hz.2) (SeqAt.canLay_of_shaped hz.1) (room_in (b := p1) hz.1 hu _) ⟨.bl _, H, I, rfl, Post.bl r p⟩
          · cases hb
        · exact p.elim
      | tuple qs =>
        dsimp only at p
        split at p
        · rename_i b hb
          split at hb
          · rename_i hz
            cases hb
            rw [Bool.and_eq_true] at hz
            exact SeqAt.notIn_tuple_reads r2 r1 (SeqAt.canLay_of_shaped hz.2) (SeqAt.canLay_of_shaped hz.1) (room_in (b := p1) hz.1 hu _) ⟨.bl _, H, I, rfl, Post.bl r p⟩
          · cases hb
        · exact p.elim
      | _ => exact p.elim
theorem c_maxL (hc : X.calm = true) : CallR X (.builtin "max") (rON X G cMaxL) := by
  intro pins s σ H xs us Q I rv ⟨g, h, ds, og, r, q, p⟩
  unfold cMaxL at p
  split at p
  · rename_i i j
    obtain ⟨y, z, rfl, z1, z2⟩ := rel2 q
    cases (show y = V.int i from z1); cases (show z = V.int j from z2)
    exact call_max2 hc pins s σ H _ us Q I rv ⟨i, j, rfl, Post.int r p⟩
  · rename_i d
    split at p
    · rename_i n ns en
      obtain ⟨y, rfl, z⟩ := rel1 q
      obtain ⟨es, e1, e2⟩ := Option.bind_eq_some_iff.mp en
      obtain ⟨a, zs, rfl, z1, z2⟩ := seqL_ok og r z e1
      have e3 := toInts_ok z2 e2
      subst e3
      obtain ⟨m1, m2⟩ := fold_max ns n
      exact cr_max hc pins s σ H _ us Q I rv ⟨a, n :: ns, rfl, z1, by simp, fun m hm hy => by
        have e : m = ns.foldl max n := Int.le_antisymm (m1 m hm) (hy _ m2)
        rw [e]
        exact Post.int r p⟩
    · exact p.elim
  · exact p.elim
theorem c_minL (hc : X.calm = true) : CallR X (.builtin "min") (rON X G cMinL) := by
  intro pins s σ H xs us Q I rv ⟨g, h, ds, og, r, q, p⟩
  unfold cMinL at p
  split at p
  · rename_i i j
    obtain ⟨y, z, rfl, z1, z2⟩ := rel2 q
    cases (show y = V.int i from z1); cases (show z = V.int j from z2)
    exact call_min2 hc pins s σ H _ us Q I rv ⟨i, j, rfl, Post.int r p⟩
  · rename_i d
    split at p
    · rename_i n ns en
      obtain ⟨y, rfl, z⟩ := rel1 q
      obtain ⟨es, e1, e2⟩ := Option.bind_eq_some_iff.mp en
      obtain ⟨a, zs, rfl, z1, z2⟩ := seqL_ok og r z e1
      have e3 := toInts_ok z2 e2
      subst e3
      obtain ⟨m1, m2⟩ := fold_min ns n
      exact cr_min hc pins s σ H _ us Q I rv ⟨a, n :: ns, rfl, z1, by simp, fun m hm hy => by
        have e : m = ns.foldl min n := Int.le_antisymm (hy _ m2) (m1 m hm)
        rw [e]
        exact Post.int r p⟩
    · exact p.elim
  · exact p.elim
end
end EV
/-! EV31: a comprehension stored to a captured name -/
namespace EV
open PySem L2
theorem sw_cell {X : Cx} {N : List Str} {sc : Scope} {F : Str → Bool} {elt : Expr} {gs : List Comprehension} {scope : Scope} {pos py : Pos} {y : Str} {l : Nat} (S : Sc X N sc F) (h : lclB sc y = false) : swapsWith (.ListComp elt gs scope pos) (some (.Name y py)) l X.env = pure false := by
  have k : (X.env.kindOf y == some .local) = false := by
    have e : X.env.kindOf y = sc.names.lookup y := by rw [← S.sc]; rfl
    rw [e]
    unfold lclB at h
    split at h
    · cases h
    · rename_i z
      cases q : sc.names.lookup y with
      | none => rfl
      | some v => cases v <;> first | rfl | exact absurd q (z)
  unfold swapsWith
  simp only [k, Bool.and_false, Bool.false_and]
  all_goals rfl
end EV
/-! EV33: zip of a list and a tuple, either way round -/
namespace EV
open PySem L2
open PySem.Sem (wp)
/-- t: a tuple; else a list -/
def SqX (t : Bool) (K : PySem.W.Frag) (H : Hp) (l : Addr) (us : List V) : Prop := if t = true then SqT K H l us else SqL K H l us
def ItX (t : Bool) (h : Heap) (i l : Addr) (n : Nat) : Prop := if t = true then h.IsTupleIter i l n else h.IsListIter i l n
def IsX (t : Bool) (h : Heap) (l : Addr) (us : Array Value) : Prop := if t = true then h.IsTuple l us else h.IsList l us
section
variable {prog : Program} {w : World} {A : Around} {E : Value → Shared → Prop} {s : Shared} {t t1 t2 : Bool} {h h' : Heap} {i l c : Addr} {n : Nat} {us : Array Value}
theorem ItX.but (q : ItX t h i l n) (b : Heap.SameBut c h h') (d : i ≠ c) : ItX t h' i l n := by
  cases t
  · exact (show h.IsListIter i l n from q).extBut b.extBut d
  · exact (show h.IsTupleIter i l n from q).extBut b.extBut d
theorem IsX.but (q : IsX t h l us) (b : Heap.SameBut c h h') (d : l ≠ c) : IsX t h' l us := by
  cases t
  · exact (show h.IsList l us from q).extBut b.extBut d
  · exact (show h.IsTuple l us from q).extBut b.extBut d
theorem ItX.to (q : ItX t h i l n) (k : ∀ o, h.get? i = some o → h'.get? i = some o) : ItX t h' i l n := by
  cases t
  · exact (show h.IsListIter i l n from q).at k
  · exact (show h.IsTupleIter i l n from q).at k
theorem ItX.ob (q : ItX t h i l n) : ∃ o, h.get? i = some o ∧ ∀ v, o.data ≠ .cell v := by
  cases t
  · obtain ⟨o, a, _, b⟩ := (show h.IsListIter i l n from q)
    exact ⟨o, a, fun v z => by rw [b] at z; cases z⟩
  · obtain ⟨o, a, _, b⟩ := (show h.IsTupleIter i l n from q)
    exact ⟨o, a, fun v z => by rw [b] at z; cases z⟩
theorem nextX_item {x : Value} {Q : Value → Shared → Prop} (q : ItX t s.heap i l n) (u : IsX t s.heap l us) (hx : us[n]? = some x)
    (k : ∀ h', ItX t h' i l (n + 1) → Heap.SameBut i s.heap h' → Q x { s with heap := h' }) : wpAny (model prog w) A (Builtin.SmallTypes.nextOf (.ref i)) Q E s := by
  cases t
  · exact wpAny_nextOf_list_item (show s.heap.IsListIter i l n from q) (show s.heap.IsList l us from u) hx k
  · exact RZ.nextOf_tuple_item (show s.heap.IsTupleIter i l n from q) (show s.heap.IsTuple l us from u) hx k
theorem nextX_end {Q : Value → Shared → Prop} (hh : A.handled = none) (q : ItX t s.heap i l n) (u : IsX t s.heap l us) (hx : us[n]? = none)
    (k : ∀ h' e, Heap.ExtBut i s.heap h' → (∃ o, h'.get? e = some o ∧ o.cls = .type "StopIteration") → E (.ref e) { s with heap := h' }) : wpAny (model prog w) A (Builtin.SmallTypes.nextOf (.ref i)) Q E s := by
  cases t
  · exact wpAny_nextOf_list_end hh (show s.heap.IsListIter i l n from q) (show s.heap.IsList l us from u) hx k
  · exact RZ.nextOf_tuple_end hh (show s.heap.IsTupleIter i l n from q) (show s.heap.IsTuple l us from u) hx k
/-- what stands still in a turn -/
def KeepZ (z o i1 i2 : Addr) (h h' : Heap) : Prop := ∀ c ob, c ≠ z → c ≠ o → c ≠ i1 → c ≠ i2 → h.get? c = some ob → h'.get? c = some ob
section
variable {z TI TO i1 i2 l1 l2 : Addr} {n1 n2 : Nat} {xs ys : Array Value} {x y p q : Value}
theorem zipX_item {Q : Value → Shared → Prop} (D : ZipApart z TI TO i1 i2 l1 l2) (az : IsZip s.heap z TI TO .none) (aI : IsPair s.heap TI (.ref i1) (.ref i2)) (aO : IsPair s.heap TO p q)
    (a1 : ItX t1 s.heap i1 l1 n1) (a2 : ItX t2 s.heap i2 l2 n2) (u1 : IsX t1 s.heap l1 xs) (u2 : IsX t2 s.heap l2 ys) (e1 : xs[n1]? = some x) (e2 : ys[n2]? = some y)
    (k : ∀ h', IsZip h' z TI TO (rawInt s.heap.objs.size) → IsPair h' TO x y → ItX t1 h' i1 l1 (n1 + 1) → ItX t2 h' i2 l2 (n2 + 1) → IsPair h' s.heap.objs.size x y → h'.objs.size = s.heap.objs.size + 1 →
      KeepZ z TO i1 i2 s.heap h' → Q (.ref s.heap.objs.size) { s with heap := h' }) :
    wpAny (model prog w) A (Builtin.«zip.__next__» ⟨[.ref z], []⟩) (fun fin s' => ∃ v, fin = .done (.ret v) ∧ Q v s') E s := by
  show wpAny _ _ (field (.ref z) 2 >>= _) _ _ _
  refine wpAny_bind (wpAny_field az rfl (x := .bool false) rfl ?_)
  show wpAny _ _ (field (.ref z) 3 >>= _) _ _ _
  refine wpAny_bind (wpAny_field az rfl (x := .ref TI) rfl ?_)
  refine wpAny_bind (wpAny_seqItems aI rfl ?_)
  show wpAny _ _ (Builtin.SmallTypes.ownedTupleIsFree (.ref z) >>= _) _ _ _
  refine wpAny_bind ?_
  unfold Builtin.SmallTypes.ownedTupleIsFree
  refine wpAny_bind (wpAny_field az rfl (x := .none) rfl (wpAny_pure ?_))
  simp only [if_true]
  refine wpAny_bind (wpAny_rule ?_)
  refine wpAny_bind (wpAny_field az rfl (x := .ref TO) rfl ?_)
  refine wpAny_bind (wpAny_setField_rec az (by simp) fun j1 az1 b1 => ?_)
  replace az1 : IsZip j1 z TI TO .ellipsis := az1
  refine wpAny_bind ?_
  simp only [List.zipIdx_cons, List.zipIdx_nil, List.forIn_cons, List.forIn_nil]
  refine wpAny_bind (wpAny_bind (wpAny_onRaise ?_))
  show wpAny _ _ (Builtin.SmallTypes.nextOf (.ref i1) >>= _) _ _ _
  refine wpAny_bind (nextX_item (a1.but b1 D.i1z) (u1.but b1 D.l1z) e1 fun j2 a12 b2 => wpAny_pure ?_)
  have aO2 : IsPair j2 TO p q := b2.extBut _ _ D.TOi1 (b1.extBut _ _ D.TOz aO)
  refine wpAny_bind (wpAny_seqItems aO2 rfl ?_)
  refine wpAny_bind (wpAny_updateSeq_pair aO2 fun j3 aO3 b3 => ?_)
  replace aO3 : IsPair j3 TO x q := aO3
  refine wpAny_bind (wpAny_letGo (wpAny_pure ?_))
  refine wpAny_bind (wpAny_bind (wpAny_onRaise ?_))
  show wpAny _ _ (Builtin.SmallTypes.nextOf (.ref i2) >>= _) _ _ _
  refine wpAny_bind (nextX_item (((a2.but b1 D.i2z).but b2 D.i12.symm).but b3 D.TOi2.symm) (((u2.but b1 D.l2z).but b2 D.l2i1).but b3 D.l2TO) e2 fun j4 a24 b4 => wpAny_pure ?_)
  have aO4 : IsPair j4 TO x q := b4.extBut _ _ D.TOi2 aO3
  refine wpAny_bind (wpAny_seqItems aO4 rfl ?_)
  refine wpAny_bind (wpAny_updateSeq_pair aO4 fun j5 aO5 b5 => ?_)
  replace aO5 : IsPair j5 TO x y := aO5
  refine wpAny_bind (wpAny_letGo (wpAny_pure (wpAny_pure ?_)))
  refine wpAny_bind (wpAny_seqItems aO5 rfl ?_)
  refine wpAny_bind (wpAny_newTuple ?_)
  have sz5 : j5.objs.size = s.heap.objs.size := by rw [b5.1, b4.1, b3.1, b2.1, b1.1]
  have az5 : IsZip j5 z TI TO .ellipsis := b5.extBut _ _ D.TOz.symm (b4.extBut _ _ D.i2z.symm (b3.extBut _ _ D.TOz.symm (b2.extBut _ _ D.i1z.symm az1)))
  have st5 : KeepZ z TO i1 i2 s.heap j5 := fun c ob d1 d2 d3 d4 g => b5.extBut _ _ d2 (b4.extBut _ _ d4 (b3.extBut _ _ d2 (b2.extBut _ _ d3 (b1.extBut _ _ d1 g))))
  have a15 : ItX t1 j5 i1 l1 (n1 + 1) := ((a12.but b3 D.TOi1.symm).but b4 D.i12).but b5 D.TOi1.symm
  have a25 : ItX t2 j5 i2 l2 (n2 + 1) := a24.but b5 D.TOi2.symm
  have zlt : z < j5.objs.size := Heap.lt_size az5
  show wpAny _ _ (Builtin.SmallTypes.ownedTupleHandOut (.ref z) (.ref j5.objs.size) >>= _) _ _ _
  refine wpAny_bind ?_
  unfold Builtin.SmallTypes.ownedTupleHandOut
  have az6 : IsZip (j5.push { cls := .type "tuple", data := .seq #[x, y] }) z TI TO .ellipsis := Heap.get?_push_of_some _ az5
  refine wpAny_bind (wpAny_setField_rec az6 (by simp) fun j7 az7 b7 => ?_)
  replace az7 : IsZip j7 z TI TO (rawInt j5.objs.size) := az7
  refine wpAny_setField_rec az7 (by simp) fun j8 az8 b8 => ?_
  replace az8 : IsZip j8 z TI TO (rawInt j5.objs.size) := az8
  have up : ∀ c ob, c ≠ z → j5.get? c = some ob → j8.get? c = some ob := fun c ob d1 g => b8.extBut _ _ d1 (b7.extBut _ _ d1 (Heap.get?_push_of_some _ g))
  have pr8 : IsPair j8 j5.objs.size x y := b8.extBut _ _ (Nat.ne_of_gt zlt) (b7.extBut _ _ (Nat.ne_of_gt zlt) (Heap.get?_push_size _ rfl))
  have sz8 : j8.objs.size = j5.objs.size + 1 := by rw [b8.1, b7.1, Heap.size_push]
  rw [sz5] at az8 pr8 sz8
  refine wpAny_pure ⟨_, rfl, ?_⟩
  show Q (.ref j5.objs.size) _
  rw [sz5]
  exact k j8 az8 (up _ _ D.TOz aO5) (a15.to fun o g => up _ o D.i1z g) (a25.to fun o g => up _ o D.i2z g) pr8 sz8 fun c ob d1 d2 d3 d4 g => up c ob d1 (st5 c ob d1 d2 d3 d4 g)
theorem zipX_end {Q : Fin → Shared → Prop} (hh : A.handled = none) (D : ZipApart z TI TO i1 i2 l1 l2) (az : IsZip s.heap z TI TO .none) (aI : IsPair s.heap TI (.ref i1) (.ref i2)) (aO : IsPair s.heap TO p q)
    (a1 : ItX t1 s.heap i1 l1 n1) (a2 : ItX t2 s.heap i2 l2 n2) (u1 : IsX t1 s.heap l1 xs) (u2 : IsX t2 s.heap l2 ys) (en : xs[n1]? = none ∨ ys[n2]? = none)
    (k : ∀ h' e, KeepZ z TO i1 i2 s.heap h' → (∃ o, h'.get? e = some o ∧ o.cls = .type "StopIteration") → E (.ref e) { s with heap := h' }) :
    wpAny (model prog w) A (Builtin.«zip.__next__» ⟨[.ref z], []⟩) Q E s := by
  show wpAny _ _ (field (.ref z) 2 >>= _) _ _ _
  refine wpAny_bind (wpAny_field az rfl (x := .bool false) rfl ?_)
  show wpAny _ _ (field (.ref z) 3 >>= _) _ _ _
  refine wpAny_bind (wpAny_field az rfl (x := .ref TI) rfl ?_)
  refine wpAny_bind (wpAny_seqItems aI rfl ?_)
  show wpAny _ _ (Builtin.SmallTypes.ownedTupleIsFree (.ref z) >>= _) _ _ _
  refine wpAny_bind ?_
  unfold Builtin.SmallTypes.ownedTupleIsFree
  refine wpAny_bind (wpAny_field az rfl (x := .none) rfl (wpAny_pure ?_))
  simp only [if_true]
  refine wpAny_bind (wpAny_rule ?_)
  refine wpAny_bind (wpAny_field az rfl (x := .ref TO) rfl ?_)
  refine wpAny_bind (wpAny_setField_rec az (by simp) fun j1 az1 b1 => ?_)
  replace az1 : IsZip j1 z TI TO .ellipsis := az1
  refine wpAny_bind ?_
  simp only [List.zipIdx_cons, List.zipIdx_nil, List.forIn_cons, List.forIn_nil]
  refine wpAny_bind (wpAny_bind (wpAny_onRaise ?_))
  show wpAny _ _ (Builtin.SmallTypes.nextOf (.ref i1) >>= _) _ _ _
  cases g : xs[n1]? with
  | none =>
    refine wpAny_bind (nextX_end hh (a1.but b1 D.i1z) (u1.but b1 D.l1z) g fun j2 e b2 ⟨oe, ge, ce⟩ => ?_)
    have az2 : IsZip j2 z TI TO .ellipsis := b2 _ _ D.i1z.symm az1
    have ez : e ≠ z := fun m => by subst m; rw [az2] at ge; cases ge; simp at ce
    refine wpAny_setField_rec az2 (by simp) fun j3 _ b3 => k j3 e (fun c ob d1 _ d3 _ m => b3.extBut _ _ d1 (b2 _ _ d3 (b1.extBut _ _ d1 m))) ⟨oe, b3.extBut _ _ ez ge, ce⟩
  | some x =>
    have g2 : ys[n2]? = none := by
      rcases en with m | m
      · rw [g] at m; cases m
      · exact m
    refine wpAny_bind (nextX_item (a1.but b1 D.i1z) (u1.but b1 D.l1z) g fun j2 a12 b2 => wpAny_pure ?_)
    have aO2 : IsPair j2 TO p q := b2.extBut _ _ D.TOi1 (b1.extBut _ _ D.TOz aO)
    refine wpAny_bind (wpAny_seqItems aO2 rfl ?_)
    refine wpAny_bind (wpAny_updateSeq_pair aO2 fun j3 aO3 b3 => ?_)
    refine wpAny_bind (wpAny_letGo (wpAny_pure ?_))
    refine wpAny_bind (wpAny_bind (wpAny_onRaise ?_))
    show wpAny _ _ (Builtin.SmallTypes.nextOf (.ref i2) >>= _) _ _ _
    refine wpAny_bind (nextX_end hh (((a2.but b1 D.i2z).but b2 D.i12.symm).but b3 D.TOi2.symm) (((u2.but b1 D.l2z).but b2 D.l2i1).but b3 D.l2TO) g2 fun j4 e b4 ⟨oe, ge, ce⟩ => ?_)
    have az4 : IsZip j4 z TI TO .ellipsis := b4 _ _ D.i2z.symm (b3.extBut _ _ D.TOz.symm (b2.extBut _ _ D.i1z.symm az1))
    have ez : e ≠ z := fun m => by subst m; rw [az4] at ge; cases ge; simp at ce
    refine wpAny_setField_rec az4 (by simp) fun j5 _ b5 => k j5 e (fun c ob d1 d2 d3 d4 m => b5.extBut _ _ d1 (b4 _ _ d4 (b3.extBut _ _ d2 (b2.extBut _ _ d3 (b1.extBut _ _ d1 m))))) ⟨oe, b5.extBut _ _ ez ge, ce⟩
theorem pyNextX_item {Q : Option Value → Shared → Prop} (D : ZipApart z TI TO i1 i2 l1 l2) (az : IsZip s.heap z TI TO .none) (aI : IsPair s.heap TI (.ref i1) (.ref i2)) (aO : IsPair s.heap TO p q)
    (a1 : ItX t1 s.heap i1 l1 n1) (a2 : ItX t2 s.heap i2 l2 n2) (u1 : IsX t1 s.heap l1 xs) (u2 : IsX t2 s.heap l2 ys) (e1 : xs[n1]? = some x) (e2 : ys[n2]? = some y)
    (k : ∀ h', IsZip h' z TI TO (rawInt s.heap.objs.size) → IsPair h' TO x y → ItX t1 h' i1 l1 (n1 + 1) → ItX t2 h' i2 l2 (n2 + 1) → IsPair h' s.heap.objs.size x y → h'.objs.size = s.heap.objs.size + 1 →
      KeepZ z TO i1 i2 s.heap h' → Q (some (.ref s.heap.objs.size)) { s with heap := h' }) : wpAny (model prog w) A (pyNext (.ref z)) Q E s := by
  have ty : s.TypeIs (.ref z) "zip" := ⟨_, az, rfl⟩
  unfold pyNext
  exact wpAny_bind (wpAny_attempt (wpAny_callSpecial?_slot (name := Str.ofString "__next__") ty F.slot_zip_next (wpAny_call_entry F.slot_zip_next ty F.entry_zip_next
    (zipX_item D az aI aO a1 a2 u1 u2 e1 e2 fun h' c1 c2 c3 c4 c5 c6 c7 => wpAny_pure (k h' c1 c2 c3 c4 c5 c6 c7)) (F.args_zip_next_1 _))))
theorem pyNextX_end {Q : Option Value → Shared → Prop} (hh : A.handled = none) (D : ZipApart z TI TO i1 i2 l1 l2) (az : IsZip s.heap z TI TO .none) (aI : IsPair s.heap TI (.ref i1) (.ref i2)) (aO : IsPair s.heap TO p q)
    (a1 : ItX t1 s.heap i1 l1 n1) (a2 : ItX t2 s.heap i2 l2 n2) (u1 : IsX t1 s.heap l1 xs) (u2 : IsX t2 s.heap l2 ys) (en : xs[n1]? = none ∨ ys[n2]? = none)
    (k : ∀ h', KeepZ z TO i1 i2 s.heap h' → Q none { s with heap := h' }) : wpAny (model prog w) A (pyNext (.ref z)) Q E s := by
  have ty : s.TypeIs (.ref z) "zip" := ⟨_, az, rfl⟩
  unfold pyNext
  refine wpAny_bind (wpAny_attempt (wpAny_callSpecial?_slot (name := Str.ofString "__next__") ty F.slot_zip_next (wpAny_call_entry F.slot_zip_next ty F.entry_zip_next
    (zipX_end hh D az aI aO a1 a2 u1 u2 en fun h' e c1 ⟨o, ho, hc⟩ => ?_) (F.args_zip_next_1 _))))
  exact wpAny_bind (wpAny_isInstance (T := "StopIteration") (b := true) ⟨o, ho, hc⟩ isSubtype_stop (wpAny_pure (k _ c1)))
end
def itC (t : Bool) : Value := .type (if t = true then "tuple_iterator" else "list_iterator")
abbrev zx1 (t1 : Bool) (h : Heap) (l1 : Addr) : Heap := h.push { cls := itC t1, data := .fields #[.ref l1, .int 0 0] }
abbrev zx2 (t1 t2 : Bool) (h : Heap) (l1 l2 : Addr) : Heap := (zx1 t1 h l1).push { cls := itC t2, data := .fields #[.ref l2, .int 0 0] }
abbrev zx3 (t1 t2 : Bool) (h : Heap) (l1 l2 : Addr) : Heap := (zx2 t1 t2 h l1 l2).push { cls := .type "tuple", data := .seq #[.ref h.objs.size, .ref (zx1 t1 h l1).objs.size] }
abbrev zx4 (t1 t2 : Bool) (h : Heap) (l1 l2 : Addr) : Heap := (zx3 t1 t2 h l1 l2).push { cls := .type "tuple", data := .seq #[.none, .none] }
abbrev zx5 (t1 t2 : Bool) (h : Heap) (l1 l2 : Addr) : Heap := (zx4 t1 t2 h l1 l2).push { cls := .type "zip", data := .fields #[.none, .bool false, .bool false, .ref (zx2 t1 t2 h l1 l2).objs.size, .ref (zx3 t1 t2 h l1 l2).objs.size] }
theorem iterX {Q : Value → Shared → Prop} (u : IsX t s.heap l us) (k : Q (.ref s.heap.objs.size) { s with heap := s.heap.push { cls := itC t, data := .fields #[.ref l, .int 0 0] } }) : wpAny (model prog w) A (pyIter (.ref l)) Q E s := by
  cases t
  · exact wpAny_pyIter_list (show s.heap.IsList l us from u) k
  · exact wpAny_pyIter_tuple (show s.heap.IsTuple l us from u) k
theorem newX (l1 l2 : Addr) (xs ys : Array Value) :
    Meets (Builtin.«zip.__new__» ⟨[.type "zip", .ref l1, .ref l2], []⟩) (fun _ R s => IsX t1 s.heap l1 xs ∧ IsX t2 s.heap l2 ys ∧ R (.ok (.ret (.ref (zx4 t1 t2 s.heap l1 l2).objs.size))) { s with heap := zx5 t1 t2 s.heap l1 l2 }) :=
  .of_wp fun prog w A R s h => by
    obtain ⟨hp, g, d, tk, os⟩ := s
    obtain ⟨u1, u2, h⟩ := h
    have sb := sub_zip
    have v1 : IsX t1 (Shared.heap ⟨hp, g, d, tk, os⟩) l1 xs := u1
    have v2 : IsX t2 (Shared.heap ⟨hp.push { cls := itC t1, data := .fields #[.ref l1, .int 0 0] }, g, d, tk, os⟩) l2 ys := by
      cases t2
      · exact Heap.IsList.push (show Heap.IsList _ _ _ from u2) _
      · exact Heap.IsTuple.push (show Heap.IsTuple _ _ _ from u2) _
    wp_walk using iterX v1, iterX v2
    exact ⟨_, rfl, h⟩
theorem callX {l1 l2 : Addr} {xs ys : Array Value} {Q : Value → Shared → Prop} (u1 : IsX t1 s.heap l1 xs) (u2 : IsX t2 s.heap l2 ys)
    (k : ∀ h', IsZip h' (s.heap.objs.size + 4) (s.heap.objs.size + 2) (s.heap.objs.size + 3) .none → IsPair h' (s.heap.objs.size + 2) (.ref s.heap.objs.size) (.ref (s.heap.objs.size + 1)) → IsPair h' (s.heap.objs.size + 3) .none .none →
      ItX t1 h' s.heap.objs.size l1 0 → ItX t2 h' (s.heap.objs.size + 1) l2 0 → (∀ c o, s.heap.get? c = some o → h'.get? c = some o) → Q (.ref (s.heap.objs.size + 4)) { s with heap := h' }) :
    wpAny (model prog w) A (call (.type "zip") [.ref l1, .ref l2]) Q E s := by
  refine callType_new F.called_zip (by decide) (F.typeCall_zip_2 _ _) (F.newCall_zip_2 _ _) (fun obj => F.args_object_init_3 obj _ _) F.entry_zip_new (newX l1 l2 xs ys) ⟨u1, u2, ?_⟩
  have z1 : (zx1 t1 s.heap l1).objs.size = s.heap.objs.size + 1 := Heap.size_push ..
  have z2 : (zx2 t1 t2 s.heap l1 l2).objs.size = s.heap.objs.size + 2 := by rw [Heap.size_push, z1]
  have z3 : (zx3 t1 t2 s.heap l1 l2).objs.size = s.heap.objs.size + 3 := by rw [Heap.size_push, z2]
  have z4 : (zx4 t1 t2 s.heap l1 l2).objs.size = s.heap.objs.size + 4 := by rw [Heap.size_push, z3]
  have g5 : (zx5 t1 t2 s.heap l1 l2).get? (zx4 t1 t2 s.heap l1 l2).objs.size = some _ := Heap.get?_push_size _ rfl
  have g4 : (zx5 t1 t2 s.heap l1 l2).get? (zx3 t1 t2 s.heap l1 l2).objs.size = some _ := Heap.get?_push_of_some _ (Heap.get?_push_size _ rfl)
  have g3 : (zx5 t1 t2 s.heap l1 l2).get? (zx2 t1 t2 s.heap l1 l2).objs.size = some _ := Heap.get?_push_of_some _ (Heap.get?_push_of_some _ (Heap.get?_push_size _ rfl))
  have g2 : (zx5 t1 t2 s.heap l1 l2).get? (zx1 t1 s.heap l1).objs.size = some _ := Heap.get?_push_of_some _ (Heap.get?_push_of_some _ (Heap.get?_push_of_some _ (Heap.get?_push_size _ rfl)))
  have g1 : (zx5 t1 t2 s.heap l1 l2).get? s.heap.objs.size = some _ := Heap.get?_push_of_some _ (Heap.get?_push_of_some _ (Heap.get?_push_of_some _ (Heap.get?_push_of_some _ (Heap.get?_push_size _ rfl))))
  show _ ∧ _
  rw [z2, z3, z4] at g5
  rw [z1, z2] at g3
  rw [z3] at g4
  rw [z1] at g2
  rw [z4]
  have i1 : ItX t1 (zx5 t1 t2 s.heap l1 l2) s.heap.objs.size l1 0 := by
    cases t1
    · exact ⟨_, g1, rfl, rfl⟩
    · exact ⟨_, g1, rfl, rfl⟩
  have i2 : ItX t2 (zx5 t1 t2 s.heap l1 l2) (s.heap.objs.size + 1) l2 0 := by
    cases t2
    · exact ⟨_, g2, rfl, rfl⟩
    · exact ⟨_, g2, rfl, rfl⟩
  exact ⟨⟨_, g5, rfl⟩, k _ g5 g3 g4 i1 i2 fun c o x => Heap.get?_push_of_some _ (Heap.get?_push_of_some _ (Heap.get?_push_of_some _ (Heap.get?_push_of_some _ (Heap.get?_push_of_some _ x))))⟩
end
section
variable {X : Cx} {pins : List (Addr × Obj)} {σ : L2.St} {H : Hp} {s : Shared} {t : Bool} {a : Addr} {us ws : List V}
theorem inv_x (I : Inv X pins σ H s) (q : SqX t X.K H a us) : ∃ its, Vals us its ∧ IsX t s.heap a its.toArray ∧ a < s.heap.objs.size := by
  cases t
  · obtain ⟨its, r, p, _⟩ := I.list (show SqL X.K H a us from q)
    exact ⟨its, r, p.isList, p.lt⟩
  · obtain ⟨its, r, p, _⟩ := I.tuple (show SqT X.K H a us from q)
    have p' : s.heap.IsTuple a its.toArray := p
    obtain ⟨o, g, _⟩ := id p'
    exact ⟨its, r, p', Heap.lt_size g⟩
theorem inj_x (I : Inv X pins σ H s) (q : SqX t X.K H a us) (q' : SqX t X.K H a ws) : us = ws := by
  cases t
  · exact I.list_inj q q'
  · exact I.tuple_inj q q'
end
def ItzX (t1 t2 : Bool) (K : PySem.W.Frag) (a b : Addr) : It :=
  ⟨fun i H => ∃ (us ws : List V) (x y : V), SqX t1 K H a us ∧ SqX t2 K H b ws ∧ us[i]? = some x ∧ ws[i]? = some y,
    fun i H v H' => ∃ T x y, v = .ref T ∧ H T = none ∧ H' = upd H T (.tup [x, y]) ∧ (∀ us, SqX t1 K H a us → us[i]? = some x) ∧ ∀ ws, SqX t2 K H b ws → ws[i]? = some y,
    fun i H => ∃ us ws : List V, SqX t1 K H a us ∧ SqX t2 K H b ws ∧ (us.length ≤ i ∨ ws.length ≤ i)⟩
theorem turn_zipX {P : Program} {w : World} {K : PySem.W.Frag} {t1 t2 : Bool} {elts : List Expr} {kk : Nat} {tpos : Pos} {a b z TI TO i1 i2 : Addr} (D : ZipApart z TI TO i1 i2 a b) :
    Turn P w K (.Tuple elts kk tpos) (ItzX t1 t2 K a b) [z, TI, TO, i1, i2] z (fun i h => IsZip h z TI TO .none ∧ IsPair h TI (.ref i1) (.ref i2) ∧ (∃ x y, IsPair h TO x y) ∧ ItX t1 h i1 a i ∧ ItX t2 h i2 b i) where
  mem := by simp
  obj := fun i h st c hc => by
    obtain ⟨az, aI, ⟨x, y, aO⟩, a1, a2⟩ := st
    have e' : c = z ∨ c = TI ∨ c = TO ∨ c = i1 ∨ c = i2 := by simpa using hc
    rcases e' with m | m | m | m | m
    · rw [m]; exact ⟨_, az, fun v m => nomatch m⟩
    · rw [m]; exact ⟨_, aI, fun v m => nomatch m⟩
    · rw [m]; exact ⟨_, aO, fun v m => nomatch m⟩
    · rw [m]; exact a1.ob
    · rw [m]; exact a2.ob
  keep := fun i h h' st k => by
    obtain ⟨az, aI, ⟨x, y, aO⟩, a1, a2⟩ := st
    exact ⟨k z (by simp) _ az, k TI (by simp) _ aI, ⟨x, y, k TO (by simp) _ aO⟩, a1.to fun o m => k i1 (by simp) o m, a2.to fun o m => k i2 (by simp) o m⟩
  item := by
    intro X hP hw hK hc i pins s σ H E I hf st hg
    subst hP hw hK
    obtain ⟨az, aI, ⟨x0, y0, aO⟩, a1, a2⟩ := st
    obtain ⟨us, ws, x, y, q1, q2, e1, e2⟩ := hg
    obtain ⟨j1, r1, u1, _⟩ := inv_x I q1
    obtain ⟨j2, r2, u2, _⟩ := inv_x I q2
    obtain ⟨v1, f1, g1⟩ := r1.get e1
    obtain ⟨v2, f2, g2⟩ := r2.get e2
    have zl : z < s.heap.objs.size := Heap.lt_size az
    refine pyNextX_item D az aI aO a1 a2 u1 u2 (x := v1) (y := v2) (by simpa using f1) (by simpa using f2) fun h' z' O' b1 b2 hT hsz hk => ?_
    refine ⟨_, rfl, wpAny_letOwnedTupleGo_zip (s := { s with heap := h' }) z' fun h'' z'' sb => ?_⟩
    have hT2 : h''.get? s.heap.objs.size = some { cls := .type "tuple", data := .seq #[v1, v2] } := (sb.2 _ (Nat.ne_of_gt zl)).trans hT
    have new : ObjOk X.prog X.w (upd H s.heap.objs.size (.tup [x, y])) h'' s.heap.objs.size (.tup [x, y]) :=
      ⟨(by show 2 ≤ sizeLine; decide), [v1, v2], .cons g1 (.cons g2 .nil), ⟨_, hT2, rfl, _, rfl⟩⟩
    have I1 : Inv X pins σ (upd H s.heap.objs.size (.tup [x, y])) { s with heap := h'' } :=
      I.turnedNew (t' := s.toks) (ch := [z, TI, TO, i1, i2]) (fun c o hb m => (sb.2 c fun m' => hb (by simp [m'])).trans (hk c o (fun m' => hb (by simp [m'])) (fun m' => hb (by simp [m'])) (fun m' => hb (by simp [m'])) (fun m' => hb (by simp [m'])) m)) hf (Nat.le_refl _) new
    refine ⟨.ref s.heap.objs.size, _, I1, rfl, ⟨_, x, y, rfl, I.hok.fresh (Nat.le_refl _), rfl, fun l hl => by rw [inj_x I hl q1]; exact e1, fun l hl => by rw [inj_x I hl q2]; exact e2⟩, ⟨z'', ?_, ⟨v1, v2, ?_⟩, ?_, ?_⟩, fun c hcm => ?_⟩
    · exact (sb.2 _ D.TIz).trans (hk _ _ D.TIz D.TITO D.TIi1 D.TIi2 aI)
    · exact (sb.2 _ D.TOz).trans O'
    · exact b1.to fun o m => (sb.2 _ D.i1z).trans m
    · exact b2.to fun o m => (sb.2 _ D.i2z).trans m
    · have lt : c < s.heap.objs.size := by
        have e' : c = z ∨ c = TI ∨ c = TO ∨ c = i1 ∨ c = i2 := by simpa using hcm
        rcases e' with m | m | m | m | m
        · rw [m]; exact zl
        · rw [m]; exact Heap.lt_size aI
        · rw [m]; exact Heap.lt_size aO
        · rw [m]; obtain ⟨_, e, _⟩ := a1.ob; exact Heap.lt_size e
        · rw [m]; obtain ⟨_, e, _⟩ := a2.ob; exact Heap.lt_size e
      rw [upd_ne (Nat.ne_of_lt lt)]
      exact (hf c hcm).1
  done := by
    intro X hP hw hK hc i pins s σ H E I hf st hg
    subst hP hw hK
    obtain ⟨az, aI, ⟨x0, y0, aO⟩, a1, a2⟩ := st
    obtain ⟨us, ws, q1, q2, en⟩ := hg
    obtain ⟨j1, r1, u1, _⟩ := inv_x I q1
    obtain ⟨j2, r2, u2, _⟩ := inv_x I q2
    have l1 := r1.length
    have l2 := r2.length
    have he : j1.toArray[i]? = none ∨ j2.toArray[i]? = none := by
      rcases en with m | m
      · exact .inl (by simp; omega)
      · exact .inr (by simp; omega)
    exact pyNextX_end (I.ok.hd hc) D az aI aO a1 a2 u1 u2 he fun h' hk => ⟨rfl, I.turnedL (t' := s.toks) (ch := [z, TI, TO, i1, i2]) (fun c o hb m =>
      hk c o (fun m' => hb (by simp [m'])) (fun m' => hb (by simp [m'])) (fun m' => hb (by simp [m'])) (fun m' => hb (by simp [m'])) m) hf⟩
  self := fun A i s Q E st h => wpAny_pyIter_zip st.1 h
def iZipX (K : PySem.W.Frag) (ta : TA) : TI := fun σ H R => ta σ H fun vs H1 => ∃ t1 t2 a b us ws, vs = [.ref a, .ref b] ∧ SqX t1 K H1 a us ∧ SqX t2 K H1 b ws ∧ R (ItzX t1 t2 K a b) H1
open PySem.Spec PyProof.Rows in
theorem pi_zipX {X : Cx} {e e2 : Expr} {ta : TA} {p pos tpos : Pos} {elts : List Expr} {kk : Nat} (hg : Gl X "zip") (hm : X.mg "zip" = none) (ha : PA X [e, e2] ta)
    (hs : starEach [e, e2] X.env = (false, eval e X.env) :: starEach [e2] X.env) (hpl : (backTo pos (starEach [e2] X.env)).any (·.1) = false) :
    PI X (.Tuple elts kk tpos) (.Call (.Name "zip" p) [e, e2] [] pos) (iZipX X.K ta) := by
  refine ⟨fun pins s σ H R I h => Call_ (ld_blt I hg hm PyProof.Rows.boot_zip (PyProof.Rows.callWith_type1 (thn (ha.run pos pins s σ H _ I h) fun us s1 ⟨vs, H1, I1, r1, q1⟩ => ?_) hs hpl))⟩
  obtain ⟨t1, t2, a, b, xs, ys, rfl, q1, q2, q⟩ := q1
  obtain ⟨v1, us, rfl, r, r1⟩ : ∃ v1 us1, us = v1 :: us1 ∧ RelV (.ref a) v1 ∧ Vals [.ref b] us1 := by cases r1 with | cons r rr => exact ⟨_, _, rfl, r, rr⟩
  obtain ⟨v2, us, rfl, r', r1⟩ : ∃ v1 us1, us = v1 :: us1 ∧ RelV (.ref b) v1 ∧ Vals [] us1 := by cases r1 with | cons r rr => exact ⟨_, _, rfl, r, rr⟩
  cases r1
  cases r
  cases r'
  obtain ⟨j1, w1, u1, la⟩ := inv_x I1 q1
  obtain ⟨j2, w2, u2, lb⟩ := inv_x I1 q2
  refine callX u1 u2 fun h' az aI aO a1 a2 hk => wpAny_pyIter_zip az ?_
  have I2 : Inv X pins σ H1 { s1 with heap := h' } := I1.kept (t' := s1.toks) hk
  refine ⟨s1.heap.objs.size + 4, [s1.heap.objs.size + 4, s1.heap.objs.size + 2, s1.heap.objs.size + 3, s1.heap.objs.size, s1.heap.objs.size + 1], _, _, H1, rfl, I2, turn_zipX (PySem.W.ktu_apart s1.heap.objs.size a b la lb), ⟨az, aI, ⟨_, _, aO⟩, a1, a2⟩, fun c hcm => ?_, q⟩
  have le : s1.heap.objs.size ≤ c := by
    have e' : c = s1.heap.objs.size + 4 ∨ c = s1.heap.objs.size + 2 ∨ c = s1.heap.objs.size + 3 ∨ c = s1.heap.objs.size ∨ c = s1.heap.objs.size + 1 := by simpa using hcm
    rcases e' with m | m | m | m | m
    all_goals
      rw [m]
      first | exact Nat.le_add_right _ _ | exact Nat.le_refl _
  exact I1.fpOk le (I1.hok.fresh le)
/-- what a zip takes -/
def seqZ : D → Option (Bool × List D)
  | .tup ds => some (true, ds)
  | .lst ds => some (false, ds)
  | .frz ds => some (false, ds)
  | _ => none
def zipX : List D → Cells → R (List D) := fun ds h => match ds with
  | [x, y] => match seqZ x, seqZ y with
    | some a, some b => .ok (pairs a.2 b.2) h
    | _, _ => .bad
  | _ => .bad
def dZipX (da : DA) : DF := fun fn env h => (da fn env h).bind zipX
section
variable {X : Cx} {G : Gx} {g g' : Gh} {H H' : Hp} {h h' : Cells} {own : Nat → Option Addr} {env : Ev} {σ : L2.St} {ds es : List D} {xs ys : List V} {a b : Addr} {tg e e2 : Expr} {dr : DA} {x : Str} {v : Value} {p pos tpos : Pos} {elts : List Expr} {kk : Nat}
theorem seqZ_ok (og : GOk X G g) (r : HRel X.prog X.w g H h) {d : D} {v : V} {t : Bool} (q : RelT g H d v) (e : seqZ d = some (t, ds)) : ∃ a xs, v = .ref a ∧ RelsS g H ds xs ∧ SqX t X.K H a xs ∧ ∀ g' H', ExtS g H g' H' → SqX t X.K H' a xs := by
  cases d with
  | tup es =>
    cases e
    obtain ⟨a, xs, rfl, w1, w2⟩ := tup_ok og q
    refine ⟨a, xs, rfl, w2, w1, fun g' H' e => ?_⟩
    have z := SqT.exts r e (by rw [og.K]; exact w1)
    rw [e.K, og.K] at z
    exact z
  | lst es => cases e; exact lst_stands og q
  | frz es => cases e; exact frz_stands og r q
  | _ => cases e
theorem it_zipX {t1 t2 : Bool} (r : HRel X.prog X.w g H h) (sx : ∀ g' H', ExtS g H g' H' → SqX t1 X.K H' a xs) (sy : ∀ g' H', ExtS g H g' H' → SqX t2 X.K H' b ys) (qx : RelsS g H ds xs) (qy : RelsS g H es ys) : ItOk X (ItzX t1 t2 X.K a b) g H (pairs ds es) where
  goes := fun g' H' h' i hi e r' => by
    rw [pairs_len, qx.len, qy.len] at hi
    have h1 : i < xs.length := by omega
    have h2 : i < ys.length := by omega
    exact ⟨xs, ys, xs[i], ys[i], sx g' H' e, sy g' H' e, by simp [h1], by simp [h2]⟩
  stops := fun g' H' h' e r' => ⟨xs, ys, sx g' H' e, sy g' H' e, by rw [pairs_len, qx.len, qy.len]; omega⟩
  yields := fun g' H' h' i x H'' hi e r' y => by
    obtain ⟨T, u, w, rfl, hT, rfl, y1, y2⟩ := y
    obtain ⟨d, h1, h2⟩ := (RelsS.exts r e qx).getV (y1 xs (sx g' H' e))
    obtain ⟨d2, h3, h4⟩ := (RelsS.exts r e qy).getV (y2 ys (sy g' H' e))
    exact ⟨_, _, Ext.new r' hT, r'.new hT, pairs_get h1 h3, Ext.pair r' hT h2 h4⟩
theorem zipX_ (B : BltOk X "zip" v) (ha : PA X [e, e2] (tA X G dr)) (hs : isStar e = false) (hs2 : isStar e2 = false) : PI X (.Tuple elts kk tpos) (.Call (.Name "zip" p) [e, e2] [] pos) (tI X G (dZipX dr)) :=
  PI.imp (pi_zipX B.g B.m ha (by rw [star_cons hs]) (by rw [star_cons hs2]; rfl)) fun σ H R ⟨g, own, env, h, o, r, l, q⟩ => ⟨g, own, env, h, o, r, l, (Post.bind q).imp fun g1 H1 ds h1 e1 r1 q1 vs qv => by
    have o1 := o.ext e1
    unfold zipX at q1
    split at q1
    · split at q1
      · rename_i a1 b1 s1 s2
        obtain ⟨t1, as⟩ := a1
        obtain ⟨t2, bs⟩ := b1
        obtain ⟨y, z, rfl, z1, z2⟩ := rel2 qv
        obtain ⟨a, xs, rfl, w1, w2, w3⟩ := seqZ_ok o1 r1 z1 s1
        obtain ⟨b, ys, rfl, w4, w5, w6⟩ := seqZ_ok o1 r1 z2 s2
        exact ⟨t1, t2, a, b, xs, ys, rfl, w2, w5, Post.now r1 q1 _ (it_zipX r1 w3 w6 w1 w4)⟩
      · exact q1.elim
    · exact q1.elim⟩
end
@[simp] theorem e_dZipX {fn : Fns} {env : Ev} {h : Cells} {a : DA} : dZipX a fn env h = (a fn env h).bind zipX := (rfl)
@[simp] theorem e_zxTT {h : Cells} {a b : List D} : zipX [.tup a, .tup b] h = .ok (pairs a b) h := (rfl)
@[simp] theorem e_zxTL {h : Cells} {a b : List D} : zipX [.tup a, .lst b] h = .ok (pairs a b) h := (rfl)
@[simp] theorem e_zxLT {h : Cells} {a b : List D} : zipX [.lst a, .tup b] h = .ok (pairs a b) h := (rfl)
@[simp] theorem e_zxLL {h : Cells} {a b : List D} : zipX [.lst a, .lst b] h = .ok (pairs a b) h := (rfl)
end EV
/-! EV38: xs.count(x), sorted(xs) of ints, list(range(..)), range downwards -/
namespace EV
open PySem L2
/-- a list that stands -/
def listB : D → Option (List D)
  | .lst ds => some ds
  | .bor ds => some ds
  | .frz ds => some ds
  | _ => none
def cCount (x y : D) (h : Cells) : R D := match (listB x).bind toInts, y with
  | some is, .int i => .ok (.int (is.count i : Nat)) h
  | _, _ => .bad
def dCount (a b : DE) : DE := fun fn env h => (a fn env h).bind fun x h1 => if (listB x).isSome = true then (b fn env h1).bind fun y h2 => cCount x y h2 else .bad
/-- ints sorted -/
def isortI (ns : List Int) : List Int := ns.mergeSort (fun a b => decide (a ≤ b))
theorem isort_uniq {ns ms : List Int} (p : ms.Perm ns) (s : ms.Pairwise (· ≤ ·)) : ms = isortI ns := by
  have p2 : (isortI ns).Perm ns := List.mergeSort_perm ns _
  have s2 : (isortI ns).Pairwise (fun a b => decide (a ≤ b) = true) := List.pairwise_mergeSort (le := fun a b : Int => decide (a ≤ b)) (fun a b c h1 h2 => by simp at *; omega) (fun a b => by simp; omega) ns
  have s3 : (isortI ns).Pairwise (· ≤ ·) := s2.imp fun h => by simpa using h
  exact (p.trans p2.symm).eq_of_pairwise (fun a b _ _ h1 h2 => Int.le_antisymm h1 h2) s s3
def cSort (ds : List D) (h : Cells) : R (List D) := match ds with
  | [d] => match (seqL h d).bind toInts with
    | some is => .ok ((isortI is).map D.int) h
    | none => .bad
  | _ => .bad
def dSortF (da : DA) : DF := fun fn env h => (da fn env h).bind fun ds h1 => cSort ds h1
def dLstRg (da : DE) : DF := fun fn env h => (da fn env h).bind fun d h1 => match d with
  | .int j => if decide (-1000000000 ≤ j) && decide (j ≤ 16777216) then .ok (upTo 0 j.toNat) h1 else .bad
  | _ => .bad
def downTo (lo : Int) (n : Nat) : List D := (List.range n).map fun i => D.int (lo - (i : Nat))
def rng3 (ds : List D) (h : Cells) : R (List D) := match ds with
  | [.int i, .int j, .int c] => if decide (-1000000000 ≤ i) && decide (i ≤ 1000000000) && decide (-1000000000 ≤ j) && decide (j ≤ 1000000000) && decide (c = -1) then .ok (downTo i (i - j).toNat) h else .bad
  | _ => .bad
def dRng3 (a : DA) : DF := fun fn env h => (a fn env h).bind fun ds h1 => rng3 ds h1
section
variable {X : Cx} {G : Gx} {T : Pg} {k i : Nat} {g g' : Gh} {H H' : Hp} {h h' : Cells} {e a b c tg : Expr} {da de : DE} {dr : DA} {x : Str} {v : Value} {p px apos cpos pos : Pos}
theorem listB_ok (og : GOk X G g) {d : D} {y : V} {ds : List D} (q : RelT g H d y) (e : listB d = some ds) : ∃ a xs, y = .ref a ∧ SqL X.K H a xs ∧ RelsS g H ds xs := by
  cases d with
  | lst es =>
    cases e
    obtain ⟨a, xs, h1, h2, h3⟩ := q
    exact ⟨a, xs, h1, .inl (.inl h2.1), h3⟩
  | bor es =>
    cases e
    obtain ⟨a, xs, h1, h2, h3⟩ := q
    exact ⟨a, xs, h1, .inl (.inl h2.1), h3⟩
  | frz es =>
    cases e
    obtain ⟨a, xs, h1, h2, h3⟩ := q
    exact ⟨a, xs, h1, by rw [← og.K]; exact h2.sql, h3⟩
  | _ => cases e
theorem count_ (vo : VarOk X i x) (he : PE X e (tD X G de)) (hst : isStar e = false) (hl : (apos.endLine == cpos.line) = true) :
    PE X (.Call (.Attribute (.Name x px) "count" apos) [e] [] cpos) (tD X G (dCount (dVar i) de)) :=
  PE.imp (pe_bm PySem.F.plainAttrs_list PySem.F.slot_list_count PySem.F.type_list_count mt_lcount (s_var vo.n vo.v vo.d vo.c) (pa_cons he pa_nil (star_cons hst)) attrName (few_ok (by simp [noStars, hst]) (by show 1 < 30; decide)) hl (star_cons hst) rfl) fun σ H Q q => by
    refine tG.bind (f := fun fn env x h1 => if (listB x).isSome = true then (de fn env h1).bind fun y h2 => cCount x y h2 else .bad) q fun g own env h H1 d v og r l qd p1 => ?_
    split at p1
    · rename_i hs
      obtain ⟨ds, el⟩ := Option.isSome_iff_exists.mp hs
      obtain ⟨a, xs, rfl, w1, w2⟩ := listB_ok og qd el
      refine ⟨.inl ⟨rfl, xs, w1⟩, tG.mk og r l ((Post.bind p1).imp fun g2 H2 d2 h2 e2 r2 p2 v2 q2 => ?_)⟩
      obtain ⟨a', xs', e', w3, w4⟩ := listB_ok (og.ext e2) (RelT.ext r e2 qd) el
      cases e'
      unfold cCount at p2
      split at p2
      · rename_i is i' ei
        rw [el] at ei
        have e3 := toInts_ok w4 ei
        subst e3
        cases (show v2 = V.int i' from q2)
        exact ⟨a, is, i', rfl, rfl, w3, Post.int r2 p2⟩
      · exact p2.elim
    · exact p1.elim
theorem sortF_ {e : Expr} (hc : X.calm = true) (B : BltOk X "sorted" (.builtin "sorted")) (ha : PA X [e] (tA X G dr)) (hs : isStar e = false) : PE X (.Call (.Name "sorted" p) [e] [] pos) (tF X G (dSortF dr)) :=
  PE.imp (pe_callB cr_sortedI B.g B.m B.b ha B.n B.d (star_cons hs) rfl) fun σ H Q ⟨g, own, env, h, o, r, l, q⟩ => ⟨g, own, env, h, o, r, l, (Post.bind q).imp fun g1 H1 ds h1 e1 r1 q1 vs qv => by
    unfold cSort at q1
    split at q1
    · rename_i d
      obtain ⟨y, rfl, z⟩ := rel1 qv
      split at q1
      · rename_i is ei
        obtain ⟨es, e1', e2'⟩ := Option.bind_eq_some_iff.mp ei
        obtain ⟨a, zs, rfl, z1, z2⟩ := seqL_ok (o.ext e1) r1 z e1'
        have e3 := toInts_ok z2 e2'
        subst e3
        refine ⟨a, is, rfl, z1, fun ns' p hp hsrt hn => ?_⟩
        rw [isort_uniq hp hsrt]
        have rel : ∀ ns : List Int, RelsS g1 H1 (ns.map D.int) (ns.map V.int) := fun ns => by
          induction ns with
          | nil => rfl
          | cons n ns ih => exact ⟨_, _, rfl, rfl, ih⟩
        exact fresh_now r e1 r1 (rel (isortI is)) q1 p hn
      · exact q1.elim
    · exact q1.elim⟩
theorem lstRg_ {vl vr : Value} {p2 pos2 : Pos} (hc : X.calm = true) (Bl : BltOk X "list" vl) (Br : BltOk X "range" vr) (hb : PE X b (tD X G da)) (hs : isStar b = false) :
    PE X (.Call (.Name "list" p) [.Call (.Name "range" p2) [b] [] pos2] [] pos) (tF X G (dLstRg da)) :=
  PE.imp (pe_listRg hc Bl.g Bl.m (prg_1 Br.g Br.m hb (star_cons hs)) (star_cons rfl)) fun σ H Q ⟨g, own, env, h, o, r, l, q⟩ => ⟨g, own, env, h, o, r, l, (Post.bind q).imp fun g1 H1 d h1 e1 r1 q1 v qv => by
    cases d with
    | int j =>
      cases (show v = V.int j from qv)
      have q1 : Post X G g1 H1 (if decide (-1000000000 ≤ j) && decide (j ≤ 16777216) then R.ok (upTo 0 j.toNat) h1 else .bad) _ := q1
      split at q1
      · rename_i hz
        simp only [Bool.and_eq_true, decide_eq_true_eq] at hz
        by_cases neg : True
        · refine ⟨j, rfl, ⟨by decide, by decide, by omega, by omega, by omega⟩, fun p hn => ?_⟩
          have e : rgV 0 j = (List.range j.toNat).map fun i => V.int (i : Nat) := by
            unfold rgV
            rw [Int.sub_zero]
            exact List.map_congr_left fun i _ => by rw [Int.zero_add]
          have e' : upTo 0 j.toNat = (List.range j.toNat).map fun i => D.int (i : Nat) := by
            unfold upTo
            exact List.map_congr_left fun i _ => by rw [Int.zero_add]
          rw [e]
          have rel : ∀ ns : List Nat, RelsS g1 H1 (ns.map fun i => D.int (i : Nat)) (ns.map fun i => V.int (i : Nat)) := fun ns => by
            induction ns with
            | nil => rfl
            | cons n ns ih => exact ⟨_, _, rfl, rfl, ih⟩
          rw [e'] at q1
          exact fresh_now r e1 r1 (rel _) q1 p hn
        · exact absurd trivial neg
      · exact q1.elim
    | _ => exact q1.elim⟩
theorem it_down (r : HRel X.prog X.w g H h) (lo : Int) (n : Nat) : ItOk X (Itc lo (-1) n) g H (downTo lo n) where
  goes := fun g' H' h' i hi e r' => by
    show i < n
    simpa [downTo] using hi
  stops := fun g' H' h' e r' => by
    show n ≤ _
    simp [downTo]
  yields := fun g' H' h' i x H'' hi e r' y => by
    obtain ⟨y1, y2⟩ := y
    subst y1; subst y2
    refine ⟨g', .int (lo - (i : Nat)), Ext.refl r', r', ?_, ?_⟩
    · have : i < n := by simpa [downTo] using hi
      simp [downTo, this]
    · show V.int _ = V.int _
      congr 1
      omega
theorem range3_ {v : Value} (B : BltOk X "range" v) (ha : PA X [a, b, c] (tA X G dr)) (h1 : isStar a = false) (h2 : isStar b = false) (h3 : isStar c = false) : PI X tg (.Call (.Name "range" p) [a, b, c] [] pos) (tI X G (dRng3 dr)) :=
  PI.imp (pi_range3 B.g B.m ha (by rw [star_cons h1]) (by rw [star_cons h2, star_cons h3]; rfl)) fun σ H R ⟨g, own, env, h, o, r, l, q⟩ => ⟨g, own, env, h, o, r, l, (Post.bind q).imp fun g1 H1 ds h1 e1 r1 q1 vs qv => by
    unfold rng3 at q1
    split at q1
    · rename_i i j c
      obtain ⟨y, z, w, rfl, z1, z2, z3⟩ := rel3 qv
      cases (show y = V.int i from z1)
      cases (show z = V.int j from z2)
      cases (show w = V.int c from z3)
      split at q1
      · rename_i hz
        simp only [Bool.and_eq_true, decide_eq_true_eq] at hz
        obtain ⟨hz, rfl⟩ := hz
        exact ⟨i, j, -1, (i - j).toNat, rfl, RgC.neg (by omega) (by omega) (by omega) (by omega), Post.now r1 q1 _ (it_down r1 i (i - j).toNat)⟩
      · exact q1.elim
    · exact q1.elim⟩
end
end EV
/-! EV45: xs.pop(i), xs.pop() of a list that is a cell -/
namespace EV
open PySem L2
def isObjL (h : Cells) (x : D) : Bool := match x with
  | .obj n => match h[n]? with
    | some (.lst _) => true
    | _ => false
  | _ => false
def cPopAt (x y : D) (h : Cells) : R D := match x, y with
  | .obj n, .int i => match h[n]? with
    | some (.lst ds) => if decide (-1000000000 ≤ i) && decide (i ≤ 1000000000) then match ixN ds.length i with
        | some k => match ds[k]? with
          | some d => .ok d (h.set n (.lst (ds.eraseIdx k)))
          | none => .bad
        | none => .bad
      else .bad
    | _ => .bad
  | _, _ => .bad
def cPop (x : D) (h : Cells) : R D := match x with
  | .obj n => match h[n]? with
    | some (.lst ds) => match ds[ds.length - 1]? with
      | some d => .ok d (h.set n (.lst ds.dropLast))
      | none => .bad
    | _ => .bad
  | _ => .bad
def dPopAt (a b : DE) : DE := fun fn env h => (a fn env h).bind fun x h1 => if isObjL h1 x = true then (b fn env h1).bind fun y h2 => cPopAt x y h2 else .bad
def dPop (a : DE) : DE := fun fn env h => (a fn env h).bind fun x h1 => if isObjL h1 x = true then cPop x h1 else .bad
section
variable {X : Cx} {G : Gx} {T : Pg} {k i : Nat} {g g' : Gh} {H H' : Hp} {h h' : Cells} {e : Expr} {de : DE} {x : Str} {px apos cpos : Pos}
theorem objL_ok (r : HRel X.prog X.w g H h) {d : D} {y : V} (q : RelT g H d y) (e : isObjL h d = true) : ∃ n a ds xs, d = .obj n ∧ y = .ref a ∧ g.ρ[n]? = some a ∧ h[n]? = some (.lst ds) ∧ H a = some (.lst xs) ∧ RelsS g H ds xs := by
  cases d with
  | obj n =>
    unfold isObjL at e
    cases hn : h[n]? with
    | none => simp [hn] at e
    | some o =>
      cases o with
      | lst ds =>
        obtain ⟨a, h1, h2, xs, h3, h4⟩ := cell_at r q hn
        exact ⟨n, a, ds, xs, rfl, h1, h2, hn, h3, h4⟩
      | _ => simp [hn] at e
  | _ => simp [isObjL] at e
/-- a list cell written while an expression is told -/
theorem cell_set (r : HRel X.prog X.w g H h) {n : Nat} {a : Addr} {ds ds' : List D} {xs xs' : List V} (ha : g.ρ[n]? = some a) (hn : h[n]? = some (.lst ds)) (hx : H a = some (.lst xs)) (q : RelsS g H ds' xs') :
    Ext g H g (upd H a (.lst xs')) ∧ HRel X.prog X.w g (upd H a (.lst xs')) (h.set n (.lst ds')) := by
  have m := List.mem_of_getElem? ha
  have ex : Ext g H g (upd H a (.lst xs')) := ⟨rfl, rfl, ⟨[], by simp⟩, fun _ z => .inl z, fun _ z => .inl z, r.wr, fun b o z nb => by
    rw [upd_ne (fun z' => nb (by rw [z']; exact m))]; exact z, fun b z nb => absurd z nb⟩
  exact ⟨ex, r.cellW ha (List.getElem?_eq_some_iff.mp hn).1 ⟨xs', upd_same, RelsS.ext r ex q⟩⟩
theorem rels_erase : ∀ {ds : List D} {vs : List V} (k : Nat), RelsS g H ds vs → RelsS g H (ds.eraseIdx k) (vs.eraseIdx k)
  | [], _, _, q => by
    simp only [RelsS] at q; rw [q]; exact rfl
  | d :: ds, _, 0, q => by
    simp only [RelsS] at q
    obtain ⟨x, rr, e1, e2, e3⟩ := q
    rw [e1]; exact e3
  | d :: ds, _, k + 1, q => by
    simp only [RelsS] at q
    obtain ⟨x, rr, e1, e2, e3⟩ := q
    rw [e1]
    exact ⟨x, _, rfl, e2, rels_erase k e3⟩
theorem popAt_ (vo : VarOk X i x) (he : PE X e (tD X G de)) (hst : isStar e = false) (hl : (apos.endLine == cpos.line) = true) :
    PE X (.Call (.Attribute (.Name x px) "pop" apos) [e] [] cpos) (tD X G (dPopAt (dVar i) de)) :=
  PE.imp (pe_bm PySem.F.plainAttrs_list PySem.F.slot_list_pop PySem.F.type_list_pop mt_popAt (s_var vo.n vo.v vo.d vo.c) (pa_cons he pa_nil (star_cons hst)) attrName (few_ok (by simp [noStars, hst]) (by show 1 < 30; decide)) hl (star_cons hst) rfl) fun σ H Q q => by
    refine tG.bind (f := fun fn env x h1 => if isObjL h1 x = true then (de fn env h1).bind fun y h2 => cPopAt x y h2 else .bad) q fun g own env h H1 d v og r l qd p1 => ?_
    split at p1
    · rename_i hs
      obtain ⟨n, a, ds, xs, rfl, rfl, w1, w2, w3, w4⟩ := objL_ok r qd hs
      refine ⟨.inl ⟨rfl, xs, .inl (.inl w3)⟩, tG.mk og r l ((Post.bind p1).imp fun g2 H2 d2 h2 e2 r2 p2 v2 q2 => ?_)⟩
      have qd2 := RelT.ext r e2 qd
      cases d2 with
      | int i' =>
        cases hd2 : h2[n]? with
        | none => simp only [cPopAt, hd2] at p2; exact p2.elim
        | some o =>
          cases o with
          | lst ds2 =>
            simp only [cPopAt, hd2] at p2
            split at p2
            · rename_i hz
              simp only [Bool.and_eq_true, decide_eq_true_eq] at hz
              split at p2
              · rename_i k hk
                split at p2
                · rename_i dd hdd
                  obtain ⟨a', b1, b2, xs2, b3, b4⟩ := cell_at r2 qd2 hd2
                  cases b1
                  cases (show v2 = V.int i' from q2)
                  obtain ⟨y, hy, ry⟩ := b4.get hdd
                  obtain ⟨ex, r3⟩ := cell_set r2 b2 hd2 b3 (rels_erase k b4)
                  have sk := ixN_seq hk
                  rw [b4.len] at sk
                  exact ⟨a, xs2, i', k, y, rfl, rfl, b3, by omega, by omega, sk.1, hy, p2 _ _ ex r3 _ (RelS.ext r2 ex ry).t⟩
                · exact p2.elim
              · exact p2.elim
            · exact p2.elim
          | _ => simp only [cPopAt, hd2] at p2; exact p2.elim
      | _ => exact p2.elim
    · exact p1.elim
theorem pop_ (vo : VarOk X i x) (hl : (apos.endLine == cpos.line) = true) :
    PE X (.Call (.Attribute (.Name x px) "pop" apos) [] [] cpos) (tD X G (dPop (dVar i))) :=
  PE.imp (pe_bm0 PySem.F.plainAttrs_list PySem.F.slot_list_pop PySem.F.type_list_pop mt_pop (s_var vo.n vo.v vo.d vo.c) attrName hl) fun σ H Q q => by
    refine tG.bind (f := fun fn env x h1 => if isObjL h1 x = true then cPop x h1 else .bad) q fun g own env h H1 d v og r l qd p1 => ?_
    split at p1
    · rename_i hs
      obtain ⟨n, a, ds, xs, rfl, rfl, w1, w2, w3, w4⟩ := objL_ok r qd hs
      refine ⟨.inl ⟨rfl, xs, .inl (.inl w3)⟩, ?_⟩
      unfold cPop at p1
      simp only [w2] at p1
      split at p1
      · rename_i dd hdd
        obtain ⟨y, hy, ry⟩ := w4.get hdd
        obtain ⟨ex, r3⟩ := cell_set r w1 w2 w3 (ds' := ds.dropLast) (xs' := xs.dropLast) (by
          rw [List.dropLast_eq_take, List.dropLast_eq_take, w4.len]
          exact w4.take _)
        rw [w4.len] at hy
        exact ⟨a, xs, y, rfl, rfl, w3, hy, p1 _ _ ex r3 _ (RelS.ext r ex ry).t⟩
      · exact p1.elim
    · exact p1.elim
end
end EV
/-! EV46: // by divisors up to 2 ** 64 -/
namespace EV
open PySem L2
def dFdivW : O2 := fun x y h => match x, y with
  | .int i, .int j => if decide (0 < j) && decide (j < 18446744073709551616) then .ok (.int (i / j)) h else .bad
  | _, _ => .bad
theorem o_fdivW {X : Cx} {G : Gx} : OpR X (binaryOp .FloorDiv) (rO2 X G dFdivW) := by
  intro pins s σ H x y v u Q I rx ry hp
  obtain ⟨g, h, d, e, og, r, qd, qe, p⟩ := hp
  unfold dFdivW at p
  split at p
  · rename_i i j
    cases (show x = V.int i from qd); cases (show y = V.int j from qe)
    split at p
    · rename_i hz
      simp only [Bool.and_eq_true, decide_eq_true_eq] at hz
      have b64 : j.natAbs < 2 ^ 64 := by
        have e : (2 : Nat) ^ 64 = 18446744073709551616 := by decide
        rw [e]; omega
      exact op_fdivW pins s σ H _ _ v u Q I rx ry ⟨i, j, rfl, rfl, wide_div (b := 64) hz.1 b64 (by decide) (by decide), Post.int r p⟩
    · exact p.elim
  · exact p.elim
@[simp] theorem e_fdivW {i j : Int} {h : Cells} : dFdivW (.int i) (.int j) h = if decide (0 < j) && decide (j < 18446744073709551616) then .ok (.int (i / j)) h else .bad := (rfl)
end EV
/-! EV23: reading what is computed, with no program in sight -/
namespace EV
open PySem L2
/-- it goes well, and then Q -/
def wp {α : Type} (r : R α) (Q : α → Cells → Prop) : Prop := ∃ a h, r = .ok a h ∧ Q a h
section
variable {α β : Type} {fn : Fns} {env : Ev} {h : Cells}
@[simp] theorem wp_ok {a : α} {Q : α → Cells → Prop} : wp (.ok a h) Q = Q a h := propext ⟨(fun ⟨_, _, e, q⟩ => by cases e; exact q), fun q => ⟨a, h, rfl, q⟩⟩
@[simp] theorem wp_bad {Q : α → Cells → Prop} : wp .bad Q = False := propext ⟨(fun ⟨_, _, e, _⟩ => by cases e), False.elim⟩
@[simp] theorem wp_bind {r : R α} {f : α → Cells → R β} {Q : β → Cells → Prop} : wp (r.bind f) Q = wp r fun a h => wp (f a h) Q := by
  cases r with
  | ok a h => rw [wp_ok]; rfl
  | exc e h => exact propext ⟨(fun ⟨_, _, e, _⟩ => by cases e), (fun ⟨_, _, e, _⟩ => by cases e)⟩
  | bad => rw [wp_bad]; exact propext ⟨(fun ⟨_, _, e, _⟩ => by cases e), False.elim⟩
theorem wp_mono {r : R α} {Q Q' : α → Cells → Prop} (w : wp r Q) (k : ∀ a h, Q a h → Q' a h) : wp r Q' := by
  obtain ⟨a, h, e, q⟩ := w
  exact ⟨a, h, e, k a h q⟩
theorem wp_get {r : R α} {Q : α → Cells → Prop} (w : wp r Q) : ∃ a h, r = .ok a h ∧ Q a h := w
theorem wp_eq {r : R α} {a : α} {Q : α → Cells → Prop} (e : r = .ok a h) (q : Q a h) : wp r Q := ⟨a, h, e, q⟩
@[simp] theorem ok_bind {a : α} {f : α → Cells → R β} : R.bind (.ok a h) f = f a h := (rfl)
@[simp] theorem nox_ok {a : α} : R.nox (.ok a h) = .ok a h := (rfl)
@[simp] theorem e_dC {d : D} : dC d fn env h = .ok d h := (rfl)
@[simp] theorem e_dVar {i : Nat} : dVar i fn env h = match env[i]? with
  | some (.val d) => .ok d h
  | some (.own ds) => .ok (.bor ds) h
  | _ => .bad := (rfl)
@[simp] theorem e_dOp1 {o : O1} {a : DE} : dOp1 o a fn env h = (a fn env h).bind fun x h1 => o x h1 := (rfl)
@[simp] theorem e_dOp2 {o : O2} {a b : DE} : dOp2 o a b fn env h = (a fn env h).bind fun x h1 => (b fn env h1).bind fun y h2 => o x y h2 := (rfl)
@[simp] theorem e_dOpN {o : ON} {a : DA} : dOpN o a fn env h = (a fn env h).bind fun x h1 => o x h1 := (rfl)
@[simp] theorem e_daNil : daNil fn env h = .ok [] h := (rfl)
@[simp] theorem e_daCons {a : DE} {b : DA} : daCons a b fn env h = (a fn env h).bind fun d h1 => (b fn env h1).bind fun ds h2 => .ok (d :: ds) h2 := (rfl)
@[simp] theorem e_dTup {a : DA} : dTup a fn env h = (a fn env h).bind fun ds h1 => mkTup ds h1 := (rfl)
@[simp] theorem e_dLst {a : DA} : dLst a fn env h = (a fn env h).bind fun ds h1 => mkLst ds h1 := (rfl)
@[simp] theorem e_dAnd {a b : DE} : dAnd a b fn env h = (a fn env h).bind fun d h1 => (dTru d h1).bind fun k h2 => if k = true then b fn env h2 else .ok d h2 := (rfl)
@[simp] theorem e_dOr {a b : DE} : dOr a b fn env h = (a fn env h).bind fun d h1 => (dTru d h1).bind fun k h2 => if k = true then .ok d h2 else b fn env h2 := (rfl)
@[simp] theorem e_dNot {a : DE} : dNot a fn env h = (a fn env h).bind fun d h1 => (dTru d h1).bind fun k h2 => .ok (.bl (!k)) h2 := (rfl)
@[simp] theorem e_dIf {t : DT} {a b : DE} : dIf t a b fn env h = (t fn env h).bind fun k h1 => if k = true then a fn env h1 else b fn env h1 := (rfl)
@[simp] theorem e_dtAnd {a b : DT} : dtAnd a b fn env h = (a fn env h).bind fun c h1 => if c = true then b fn env h1 else .ok false h1 := (rfl)
@[simp] theorem e_dtOr {a b : DT} : dtOr a b fn env h = (a fn env h).bind fun c h1 => if c = true then .ok true h1 else b fn env h1 := (rfl)
@[simp] theorem e_dtNot {a : DT} : dtNot a fn env h = (a fn env h).bind fun c h1 => .ok (!c) h1 := (rfl)
@[simp] theorem e_dtB {a : DE} : dtB a fn env h = (a fn env h).bind fun d h => match d with
  | .bl b => .ok b h
  | _ => .bad := (rfl)
@[simp] theorem e_dTruE {a : DE} : dTruE a fn env h = (a fn env h).bind dTru := (rfl)
@[simp] theorem e_dChain {o o' : O2} {a b c : DE} : dChain o o' a b c fn env h = (a fn env h).bind fun x h1 => (b fn env h1).bind fun y h2 => (o x y h2).bind fun z h3 => match z with
  | .bl true => (c fn env h3).bind fun w h4 => o' y w h4
  | .bl false => .ok (.bl false) h3
  | _ => .bad := (rfl)
@[simp] theorem e_dIsi {a : DE} {ts : List Ty} : dIsi a ts fn env h = (a fn env h).bind fun d h1 => match tyOf h1 d with
  | some t => .ok (.bl (ts.any fun u => t.isa u)) h1
  | none => .bad := (rfl)
@[simp] theorem e_dCall {i n nk : Nat} {src : List Src} {dd : List D} {da dk : DA} : dCall i n nk src dd da dk fn env h = (da fn env h).bind fun ds h1 => (dk fn env h1).bind fun ks h2 => mkCall i n nk src dd fn ds ks h2 := (rfl)
@[simp] theorem e_dPart {a : DE} : dPart a fn env h = (a fn env h).bind fun d h1 => match d with
  | .int i => .ok (some i) h1
  | _ => .bad := (rfl)
@[simp] theorem e_dNoPart : dNoPart fn env h = .ok none h := (rfl)
@[simp] theorem e_dSlice {a : DE} {lo hi : DO} : dSlice a lo hi fn env h = (a fn env h).bind fun d h1 => (lo fn env h1).bind fun l h2 => (hi fn env h2).bind fun u h3 => dSl d l u h3 := (rfl)
@[simp] theorem e_dRev {a : DE} : dRev a fn env h = (a fn env h).bind fun d h1 => dRevL h1 d := (rfl)
@[simp] theorem e_asVal {df : DF} : asVal df fn env h = (df fn env h).bind fun ds h1 => .ok (.lst ds) h1 := (rfl)
@[simp] theorem e_asCell {df : DF} : asCell df fn env h = (df fn env h).bind fun ds h1 => .ok (.obj h1.length) (h1 ++ [.lst ds]) := (rfl)
@[simp] theorem e_dDisp {da : DA} : dDisp da fn env h = (da fn env h).bind fun ds h1 => if noBors ds && decide (ds.length ≤ szL) then .ok ds h1 else .bad := (rfl)
@[simp] theorem e_dListF {da : DA} : dListF da fn env h = (da fn env h).bind fun ds h1 => cList ds h1 := (rfl)
@[simp] theorem e_dComp {vs : List Nat} {pt : Pat} {di : DF} {tt : DT} {te : DE} : dComp vs pt di tt te fn env h = (di fn env h).bind fun ds h1 => if decide (ds.length ≤ szL) then compL pt tt te fn (wipeE env vs) ds h1 else .bad := (rfl)
@[simp] theorem e_dtYes : dtYes fn env h = .ok true h := (rfl)
@[simp] theorem e_dItems {a : DE} : dItems a fn env h = (a fn env h).bind fun d h1 => itemsOf d h1 := (rfl)
@[simp] theorem e_dRng1 {a : DA} : dRng1 a fn env h = (a fn env h).bind fun ds h1 => rng1 ds h1 := (rfl)
@[simp] theorem e_dRng2 {a : DA} : dRng2 a fn env h = (a fn env h).bind fun ds h1 => rng2 ds h1 := (rfl)
@[simp] theorem e_dEnumA {a : DA} : dEnumA a fn env h = (a fn env h).bind enumA := (rfl)
@[simp] theorem e_dF2 {o : D → D → Cells → R (List D)} {a b : DE} : dF2 o a b fn env h = (a fn env h).bind fun x h1 => (b fn env h1).bind fun y h2 => o x y h2 := (rfl)
@[simp] theorem e_dZip {a : DA} : dZip a fn env h = (a fn env h).bind zipD := (rfl)
@[simp] theorem e_dEnum {a : DA} : dEnum a fn env h = (a fn env h).bind enumD := (rfl)
@[simp] theorem e_sRet {a : DE} : sRet a fn env h = (a fn env h).bind fun d h1 => if isBor d then .bad else .ok (.rt d, env) h1 := (rfl)
@[simp] theorem e_sRetN : sRetN fn env h = .ok (.rt .non, env) h := (rfl)
@[simp] theorem e_sNext : sNext fn env h = .ok (.nx, env) h := (rfl)
@[simp] theorem e_sSeq {a b : DS} : sSeq a b fn env h = (a fn env h).bind fun x h1 => match x.1 with
  | .nx => b fn x.2 h1
  | _ => .ok x h1 := (rfl)
@[simp] theorem e_sIf {t : DT} {a b : DS} : sIf t a b fn env h = (t fn env h).bind fun k h1 => if k = true then a fn env h1 else b fn env h1 := (rfl)
@[simp] theorem e_sSet {i : Nat} {a : DE} : sSet i a fn env h = (a fn env h).bind fun d h1 => setV i d env h1 := (rfl)
@[simp] theorem e_sOwn {i : Nat} {df : DF} : sOwn i df fn env h = (df fn env h).bind fun ds h1 => if decide (env.length ≤ i) then .bad else .ok (.nx, env.set i (.own ds)) h1 := (rfl)
@[simp] theorem e_sExpr {a : DE} : sExpr a fn env h = (a fn env h).bind fun _ h1 => .ok (.nx, env) h1 := (rfl)
@[simp] theorem e_sFor {pt : Pat} {di : DF} {b : DS} : sFor pt di b fn env h = (di fn env h).bind fun ds h1 => forL pt b fn ds env h1 := (rfl)
@[simp] theorem e_sAsg {a : DE} {b : DG} : sAsg a b fn env h = (a fn env h).bind fun d h1 => if isBor d then .bad else b d fn env h1 := (rfl)
@[simp] theorem e_sFrz {is : List Nat} {a : DS} : sFrz is a fn env h = a fn (frzs is env) h := (rfl)
@[simp] theorem e_sFrzA {is : List Nat} {a : DS} : sFrzA is a fn env h = (a fn env h).bind fun x h1 => .ok (x.1, frzs is x.2) h1 := (rfl)
@[simp] theorem e_dmV {a : DE} : dmV a fn env h = (a fn env h).bind fun d h1 => if isBor d then .bad else .ok (.v d) h1 := (rfl)
@[simp] theorem e_dmO {a : DF} : dmO a fn env h = (a fn env h).bind fun ds h1 => .ok (.o ds) h1 := (rfl)
@[simp] theorem e_sPar2 {i j : Nat} {a b : DM} : sPar2 i j a b fn env h = (a fn env h).bind fun x h1 => (b fn env h1).bind fun y h2 => match putIt i x env with
  | some env1 => match putIt j y env1 with
    | some env2 => .ok (.nx, env2) h2
    | none => .bad
  | none => .bad := (rfl)
@[simp] theorem e_sPar3 {i j k : Nat} {a b c : DM} : sPar3 i j k a b c fn env h = (a fn env h).bind fun x h1 => (b fn env h1).bind fun y h2 => (c fn env h2).bind fun z h3 => match putIt i x env with
  | some env1 => match putIt j y env1 with
    | some env2 => match putIt k z env2 with
      | some env3 => .ok (.nx, env3) h3
      | none => .bad
    | none => .bad
  | none => .bad := (rfl)
@[simp] theorem e_gName' {i : Nat} {d : D} : gName' i d fn env h = setV i d env h := (rfl)
@[simp] theorem e_gIx {i : Nat} {a : DE} {d : D} : gIx i a d fn env h = match slotL env h i with
  | some _ => (a fn env h).bind fun k h1 => setAt i k d env h1
  | none => .bad := (rfl)
@[simp] theorem e_gsNil : gsNil [] fn env h = .ok (.nx, env) h := (rfl)
@[simp] theorem e_gsCons {a : DG} {b : List D → DS} {d : D} {ds : List D} : gsCons a b (d :: ds) fn env h = sSeq (a d) (b ds) fn env h := (rfl)
@[simp] theorem e_gTup {n : Nat} {a : List D → DS} {ds : List D} : gTup n a (.tup ds) fn env h = if ds.length = n then a ds fn env h else .bad := (rfl)
@[simp] theorem e_sAug {i : Nat} {o : O2} {a : DE} : sAug i o a fn env h = match env[i]? with
  | some (.val d) => (a fn env h).bind fun e h1 => (o d e h1).bind fun z h2 => setV i z env h2
  | _ => .bad := (rfl)
@[simp] theorem e_sAppend {i : Nat} {a : DE} : sAppend i a fn env h = match slotL env h i with
  | some _ => (a fn env h).bind fun d h1 => appendAt i d env h1
  | none => .bad := (rfl)
@[simp] theorem e_sExtend {i : Nat} {a : DE} : sExtend i a fn env h = match slotL env h i with
  | some _ => (a fn env h).bind fun d h1 => extendAt i d env h1
  | none => .bad := (rfl)
@[simp] theorem e_body {n : Nat} {m : DS} {ds : List D} : bodyF n m fn ds h = (m fn (startE n ds) h).bind endF := (rfl)
@[simp] theorem e_start {n : Nat} {ds : List D} : startE n ds = ds.map Sl.val ++ List.replicate (n - ds.length) Sl.no := (rfl)
@[simp] theorem e_call {i n nk : Nat} {src : List Src} {dd ds ks : List D} : mkCall i n nk src dd fn ds ks h = if noBors ds && noBors ks && decide (ds.length = n) && decide (ks.length = nk) then match arrange ds ks dd src with
    | some zs => fn i zs h
    | none => .bad
  else .bad := (rfl)
@[simp] theorem e_nb0 : noBors [] = true := (rfl)
@[simp] theorem e_nb1 {d : D} {ds : List D} : noBors (d :: ds) = (!isBor d && noBors ds) := (rfl)
@[simp] theorem e_ar0 {α : Type} {us ws ds : List α} : arrange us ws ds [] = some [] := (rfl)
@[simp] theorem e_ar1 {α : Type} {us ws ds : List α} {s : Src} {r : List Src} : arrange us ws ds (s :: r) = match s.get us ws ds, arrange us ws ds r with
  | some x, some xs => some (x :: xs)
  | _, _ => none := (rfl)
@[simp] theorem e_srp {α : Type} {us ws ds : List α} {i : Nat} : Src.get us ws ds (.p i) = us[i]? := (rfl)
@[simp] theorem e_srk {α : Type} {us ws ds : List α} {i : Nat} : Src.get us ws ds (.k i) = ws[i]? := (rfl)
@[simp] theorem e_bor1 {ds : List D} : isBor (.bor ds) = true := (rfl)
@[simp] theorem e_bor2 : isBor .non = false := (rfl)
@[simp] theorem e_bor3 {b : Bool} : isBor (.bl b) = false := (rfl)
@[simp] theorem e_bor4 {i : Int} : isBor (.int i) = false := (rfl)
@[simp] theorem e_bor5 {s : Str} : isBor (.str s) = false := (rfl)
@[simp] theorem e_bor6 {ds : List D} : isBor (.tup ds) = false := (rfl)
@[simp] theorem e_bor7 {ds : List D} : isBor (.lst ds) = false := (rfl)
@[simp] theorem e_bor8 {ds : List D} : isBor (.frz ds) = false := (rfl)
@[simp] theorem e_bor9 {n : Nat} : isBor (.obj n) = false := (rfl)
@[simp] theorem e_endR {d : D} {env : Ev} : endF (.rt d, env) h = .ok d h := (rfl)
@[simp] theorem e_endN {env : Ev} : endF (.nx, env) h = .ok .non h := (rfl)
@[simp] theorem e_setV {i : Nat} {d : D} : setV i d env h = if isBor d || decide (env.length ≤ i) then .bad else .ok (.nx, env.set i (.val d)) h := (rfl)
@[simp] theorem e_mkTup {ds : List D} : mkTup ds h = if noBors ds && decide (ds.length ≤ szL) then .ok (.tup ds) h else .bad := (rfl)
@[simp] theorem e_mkLst {ds : List D} : mkLst ds h = if noBors ds && decide (ds.length ≤ szL) then .ok (.lst ds) h else .bad := (rfl)
@[simp] theorem e_szL : szL = 16777216 := (rfl)
@[simp] theorem e_put1 {i : Nat} {d : D} : Pat.put (.name i) d env = if isBor d || decide (env.length ≤ i) then none else some (env.set i (.val d)) := by simp [Pat.put]
@[simp] theorem e_putT {ps : List Pat} {ds : List D} : Pat.put (.tup ps) (.tup ds) env = Pat.puts ps ds env := by simp [Pat.put]
@[simp] theorem e_puts0 : Pat.puts [] [] env = some env := by simp [Pat.puts]
@[simp] theorem e_puts1 {p : Pat} {ps : List Pat} {d : D} {ds : List D} : Pat.puts (p :: ps) (d :: ds) env = match Pat.put p d env with
    | some env' => Pat.puts ps ds env'
    | none => none := by rw [Pat.puts] <;> cases Pat.put p d env <;> rfl
@[simp] theorem e_wipe0 : wipeE env [] = env := (rfl)
@[simp] theorem e_wipe1 {v : Nat} {vs : List Nat} : wipeE env (v :: vs) = (wipeE env vs).set v .no := (rfl)
@[simp] theorem e_addI {i j : Int} : dAdd (.int i) (.int j) h = .ok (.int (i + j)) h := (rfl)
@[simp] theorem e_addT {a b : List D} : dAdd (.tup a) (.tup b) h = if a.length + b.length ≤ 16777216 then .ok (.tup (a ++ b)) h else .bad := (rfl)
@[simp] theorem e_addL {a b : List D} : dAdd (.lst a) (.lst b) h = if a.length + b.length ≤ 16777216 then .ok (.lst (a ++ b)) h else .bad := (rfl)
@[simp] theorem e_subI {i j : Int} : dSub (.int i) (.int j) h = .ok (.int (i - j)) h := (rfl)
@[simp] theorem e_negI {i : Int} : dNeg (.int i) h = .ok (.int (-i)) h := (rfl)
@[simp] theorem e_modI {i j : Int} : dMod (.int i) (.int j) h = if 0 < j then .ok (.int (i % j)) h else .bad := (rfl)
@[simp] theorem e_fdivI {i j : Int} : dFdiv (.int i) (.int j) h = if decide (0 < j) && decide (j < 1073741824) then .ok (.int (i / j)) h else .bad := (rfl)
@[simp] theorem e_mulI {i j : Int} : dMul (.int i) (.int j) h = if small64 i || small64 j then .ok (.int (i * j)) h else .bad := (rfl)
@[simp] theorem e_ltI {i j : Int} : dLt (.int i) (.int j) h = .ok (.bl (decide (i < j))) h := (rfl)
@[simp] theorem e_leI {i j : Int} : dLe (.int i) (.int j) h = .ok (.bl (decide (i ≤ j))) h := (rfl)
@[simp] theorem e_gtI {i j : Int} : dGt (.int i) (.int j) h = .ok (.bl (decide (j < i))) h := (rfl)
@[simp] theorem e_geI {i j : Int} : dGe (.int i) (.int j) h = .ok (.bl (decide (j ≤ i))) h := (rfl)
@[simp] theorem e_eqI {i j : Int} : dEq (.int i) (.int j) h = .ok (.bl (decide (i = j))) h := (rfl)
@[simp] theorem e_neI {i j : Int} : dNe (.int i) (.int j) h = .ok (.bl (!decide (i = j))) h := (rfl)
@[simp] theorem e_truB {b : Bool} : dTru (.bl b) h = .ok b h := (rfl)
@[simp] theorem e_truI {i : Int} : dTru (.int i) h = .ok (i != 0) h := (rfl)
@[simp] theorem e_truN : dTru .non h = .ok false h := (rfl)
@[simp] theorem e_truT {ds : List D} : dTru (.tup ds) h = .ok (!ds.isEmpty) h := (rfl)
@[simp] theorem e_truL {ds : List D} : dTru (.lst ds) h = .ok (!ds.isEmpty) h := (rfl)
@[simp] theorem e_truBor {ds : List D} : dTru (.bor ds) h = .ok (!ds.isEmpty) h := (rfl)
@[simp] theorem e_isnB {a b : Bool} : dIsNot (.bl a) (.bl b) h = .ok (.bl (!decide (a = b))) h := (rfl)
@[simp] theorem e_isB {a b : Bool} : dIs (.bl a) (.bl b) h = .ok (.bl (decide (a = b))) h := (rfl)
@[simp] theorem e_itT {ds : List D} : itemsOf (.tup ds) h = .ok ds h := (rfl)
@[simp] theorem e_itL {ds : List D} : itemsOf (.lst ds) h = .ok ds h := (rfl)
@[simp] theorem e_itF {ds : List D} : itemsOf (.frz ds) h = .ok ds h := (rfl)
@[simp] theorem e_tyT {ds : List D} : tyOf h (.tup ds) = some .tup := (rfl)
@[simp] theorem e_tyL {ds : List D} : tyOf h (.lst ds) = some .lst := (rfl)
@[simp] theorem e_tyI {i : Int} : tyOf h (.int i) = some .int := (rfl)
@[simp] theorem e_tyB {b : Bool} : tyOf h (.bl b) = some .bl := (rfl)
@[simp] theorem e_tyS {s : Str} : tyOf h (.str s) = some .str := (rfl)
@[simp] theorem e_tyN : tyOf h .non = some .non := (rfl)
@[simp] theorem e_lenT {ds : List D} : cLen [.tup ds] h = .ok (.int ds.length) h := (rfl)
@[simp] theorem e_lenL {ds : List D} : cLen [.lst ds] h = .ok (.int ds.length) h := (rfl)
@[simp] theorem e_lenF {ds : List D} : cLen [.frz ds] h = .ok (.int ds.length) h := (rfl)
@[simp] theorem e_lenB {ds : List D} : cLen [.bor ds] h = .ok (.int ds.length) h := (rfl)
@[simp] theorem e_tupT {ds : List D} : cTuple [.tup ds] h = .ok (.tup ds) h := (rfl)
@[simp] theorem e_tupL {ds : List D} : cTuple [.lst ds] h = .ok (.tup ds) h := (rfl)
@[simp] theorem e_tupB {ds : List D} : cTuple [.bor ds] h = .ok (.tup ds) h := (rfl)
@[simp] theorem e_cListT {ds : List D} : cList [.tup ds] h = .ok ds h := (rfl)
@[simp] theorem e_cListL {ds : List D} : cList [.lst ds] h = .ok ds h := (rfl)
@[simp] theorem e_int {i : Int} : cInt [.int i] h = .ok (.int i) h := (rfl)
@[simp] theorem e_abs {i : Int} : cAbs [.int i] h = .ok (.int (if i < 0 then -i else i)) h := (rfl)
@[simp] theorem e_max {i j : Int} : cMax [.int i, .int j] h = .ok (.int (if j > i then j else i)) h := (rfl)
@[simp] theorem e_min {i j : Int} : cMin [.int i, .int j] h = .ok (.int (if j < i then j else i)) h := (rfl)
@[simp] theorem e_maxL {i j : Int} : cMaxL [.int i, .int j] h = .ok (.int (if j > i then j else i)) h := (rfl)
@[simp] theorem e_minL {i j : Int} : cMinL [.int i, .int j] h = .ok (.int (if j < i then j else i)) h := (rfl)
@[simp] theorem e_divmod {i j : Int} : cDivmod [.int i, .int j] h = if decide (0 < j) && decide (j < 1073741824) then .ok (.tup [.int (i / j), .int (i % j)]) h else .bad := (rfl)
@[simp] theorem e_rng1 {j : Int} : rng1 [.int j] h = if decide (-1000000000 ≤ j) && decide (j ≤ 1000000000) then .ok (upTo 0 j.toNat) h else .bad := (rfl)
@[simp] theorem e_ixT {ds : List D} {i : Int} : dIx (.tup ds) (.int i) h = match atI ds i with
    | some d => .ok d h
    | none => .bad := (rfl)
@[simp] theorem e_ixL {ds : List D} {i : Int} : dIx (.lst ds) (.int i) h = match atI ds i with
    | some d => .ok d h
    | none => .bad := (rfl)
@[simp] theorem e_ixF {ds : List D} {i : Int} : dIx (.frz ds) (.int i) h = match atI ds i with
    | some d => .ok d h
    | none => .bad := (rfl)
@[simp] theorem e_ixB {ds : List D} {i : Int} : dIx (.bor ds) (.int i) h = match atI ds i with
    | some d => .ok d h
    | none => .bad := (rfl)
@[simp] theorem e_slT {ds : List D} {lo hi : Option Int} : dSl (.tup ds) lo hi h = .ok (.tup (cutD ds lo hi)) h := (rfl)
@[simp] theorem e_revT {ds : List D} : dRevL h (.tup ds) = .ok (.tup ds.reverse) h := (rfl)
@[simp] theorem e_zipT {a b : List D} : zipD [.tup a, .tup b] h = .ok (pairs a b) h := (rfl)
@[simp] theorem e_putV {i : Nat} {d : D} : putIt i (.v d) env = if env.length ≤ i then none else some (env.set i (.val d)) := (rfl)
@[simp] theorem e_putO {i : Nat} {ds : List D} : putIt i (.o ds) env = if env.length ≤ i then none else some (env.set i (.own ds)) := (rfl)
@[simp] theorem e_slotL {i : Nat} : slotL env h i = match env[i]? with
  | some (.own ds) => some ds
  | some (.val (.obj n)) => match h[n]? with
    | some (.lst ds) => some ds
    | _ => none
  | _ => none := (rfl)
@[simp] theorem e_slotP {i : Nat} {ds : List D} : slotPut env h i ds = match env[i]? with
  | some (.own _) => .ok (.nx, env.set i (.own ds)) h
  | some (.val (.obj n)) => .ok (.nx, env) (h.set n (.lst ds))
  | _ => .bad := (rfl)
@[simp] theorem e_setAt {i : Nat} {j : Int} {d : D} : setAt i (.int j) d env h = match slotL env h i with
  | some ds => (match ixN ds.length j with
    | some n => if isBor d then .bad else slotPut env h i (ds.set n d)
    | none => .bad)
  | none => .bad := by unfold setAt; cases slotL env h i <;> rfl
@[simp] theorem e_appendAt {i : Nat} {d : D} : appendAt i d env h = if isBor d then .bad else match slotL env h i with
  | some ds => if decide (ds.length < szL) then slotPut env h i (ds ++ [d]) else .bad
  | none => .bad := (rfl)
@[simp] theorem e_extendL {i : Nat} {es : List D} : extendAt i (.lst es) env h = match slotL env h i with
  | some ds => if decide (ds.length + es.length ≤ szL) then slotPut env h i (ds ++ es) else .bad
  | none => .bad := by unfold extendAt; cases slotL env h i <;> rfl
@[simp] theorem e_frzs0 : frzs [] env = env := (rfl)
@[simp] theorem e_frzs1 {i : Nat} {is : List Nat} : frzs (i :: is) env = frzs is (frz1 i env) := (rfl)
@[simp] theorem e_frz1 {i : Nat} : frz1 i env = match env[i]? with
  | some (.own ds) => env.set i (.val (.lst ds))
  | _ => env := (rfl)
/-- a loop with an invariant by the turn -/
theorem forL_wp {pt : Pat} {body : DS} (P : Nat → Ev → Cells → Prop) : ∀ {ds : List D} {env : Ev} {h : Cells} (n : Nat), P n env h →
    (∀ i d env h, ds[i]? = some d → P (n + i) env h → ∃ env1, Pat.put pt d env = some env1 ∧ wp (body fn env1 h) fun x h1 => (x.1 = .nx ∨ x.1 = .ct) ∧ P (n + i + 1) x.2 h1) →
    wp (forL pt body fn ds env h) fun x h1 => x.1 = .nx ∧ P (n + ds.length) x.2 h1
  | [], env, h, n, p, _ => ⟨_, _, rfl, rfl, p⟩
  | d :: ds, env, h, n, p, st => by
    obtain ⟨env1, e1, w⟩ := st 0 d env h rfl p
    unfold forL
    rw [e1]
    show wp (R.bind _ _) _
    rw [wp_bind]
    refine wp_mono w fun x h1 ⟨hx, p1⟩ => ?_
    have go : wp (forL pt body fn ds x.2 h1) fun x h1 => x.1 = .nx ∧ P (n + (ds.length + 1)) x.2 h1 := by
      have z := forL_wp P (ds := ds) (env := x.2) (h := h1) (n + 1) p1 fun i d env h hd q => by
        obtain ⟨env2, e2, w2⟩ := st (i + 1) d env h (by simpa using hd) (by rw [show n + (i + 1) = n + 1 + i by omega]; exact q)
        exact ⟨env2, e2, wp_mono w2 fun x h ⟨a, b⟩ => ⟨a, by rw [show n + 1 + i + 1 = n + (i + 1) + 1 by omega]; exact b⟩⟩
      exact wp_mono z fun x h ⟨a, b⟩ => ⟨a, by rw [show n + (ds.length + 1) = n + 1 + ds.length by omega]; exact b⟩
    rcases hx with hx | hx
    · simp only [hx]; exact go
    · simp only [hx]; exact go
/-- a comprehension that only reads -/
theorem compL_map {pt : Pat} {tt : DT} {te : DE} (f : D → D) : ∀ {ds : List D},
    (∀ d ∈ ds, ∃ env1, Pat.put pt d env = some env1 ∧ tt fn env1 h = .ok true h ∧ te fn env1 h = .ok (f d) h ∧ isBor (f d) = false) → compL pt tt te fn env ds h = .ok (ds.map f) h
  | [], _ => rfl
  | d :: ds, st => by
    obtain ⟨env1, e1, e2, e3, e4⟩ := st d (.head _)
    unfold compL
    simp only [e1, e2, e3, e4, nox_ok, ok_bind, if_true, Bool.false_eq_true, if_false, compL_map f (ds := ds) fun d hd => st d (.tail _ hd), List.map_cons]
theorem compL_filter {pt : Pat} {tt : DT} {te : DE} (p : D → Bool) (f : D → D) : ∀ {ds : List D},
    (∀ d ∈ ds, ∃ env1, Pat.put pt d env = some env1 ∧ tt fn env1 h = .ok (p d) h ∧ (p d = true → te fn env1 h = .ok (f d) h ∧ isBor (f d) = false)) → compL pt tt te fn env ds h = .ok ((ds.filter p).map f) h
  | [], _ => rfl
  | d :: ds, st => by
    obtain ⟨env1, e1, e2, e3⟩ := st d (.head _)
    have ih := compL_filter p f (ds := ds) fun d hd => st d (.tail _ hd)
    unfold compL
    cases ep : p d with
    | false => simp only [e1, e2, ep, nox_ok, ok_bind, Bool.false_eq_true, if_false, ih, List.filter_cons]
    | true =>
      obtain ⟨e4, e5⟩ := e3 ep
      simp only [e1, e2, ep, e4, e5, nox_ok, ok_bind, if_true, Bool.false_eq_true, if_false, ih, List.filter_cons, List.map_cons]
/-- a comprehension with an invariant by the turn, what was gathered, the cells -/
theorem compL_wp {pt : Pat} {tt : DT} {te : DE} (P : Nat → List D → Cells → Prop) : ∀ {ds : List D} {h : Cells} (n : Nat) (acc : List D), P n acc h →
    (∀ i d, ds[i]? = some d → ∀ acc h, P (n + i) acc h → ∃ env1, Pat.put pt d env = some env1 ∧ wp (tt fn env1 h) fun b h1 => if b = true then wp (te fn env1 h1) fun x h2 => isBor x = false ∧ P (n + i + 1) (acc ++ [x]) h2 else P (n + i + 1) acc h1) →
    wp (compL pt tt te fn env ds h) fun r h1 => P (n + ds.length) (acc ++ r) h1
  | [], h, n, acc, p, _ => ⟨_, _, rfl, by
    show P n (acc ++ []) h
    rw [List.append_nil]; exact p⟩
  | d :: ds, h, n, acc, p, st => by
    obtain ⟨env1, e1, w⟩ := st 0 d rfl acc h p
    have st' : ∀ i d, ds[i]? = some d → ∀ acc h, P (n + 1 + i) acc h → ∃ env1, Pat.put pt d env = some env1 ∧ wp (tt fn env1 h) fun b h1 => if b = true then wp (te fn env1 h1) fun x h2 => isBor x = false ∧ P (n + 1 + i + 1) (acc ++ [x]) h2 else P (n + 1 + i + 1) acc h1 := fun i d hd acc h q => by
      have z := st (i + 1) d (by simpa using hd) acc h (by rw [show n + (i + 1) = n + 1 + i by omega]; exact q)
      rw [show n + (i + 1) = n + 1 + i by omega] at z
      exact z
    have len : n + (d :: ds).length = n + 1 + ds.length := by rw [List.length_cons]; omega
    rw [len]
    unfold compL
    simp only [e1]
    obtain ⟨b, h1, e2, w⟩ := wp_get w
    simp only [e2, nox_ok, ok_bind]
    by_cases hb : b = true
    · rw [if_pos hb] at w ⊢
      obtain ⟨x, h2, e3, nb, p2⟩ := wp_get w
      simp only [e3, nox_ok, ok_bind, nb, Bool.false_eq_true, if_false]
      rw [wp_bind]
      refine wp_mono (compL_wp P (n + 1) (acc ++ [x]) p2 st') fun r h3 z => ?_
      rw [wp_ok]
      show P _ (acc ++ x :: r) h3
      rw [show acc ++ x :: r = acc ++ [x] ++ r by simp]; exact z
    · rw [if_neg hb] at w ⊢
      exact compL_wp P (n + 1) acc w st'
theorem all_snoc {p : D → Bool} {acc : List D} {d : D} : (acc ++ [d]).all p = (acc.all p && p d) := by simp
end
end EV
/-! EV24: plain data -/
namespace EV
open PySem L2
/-- data of at most so many floors -/
def okd : Nat → D → Bool
  | _, .non => true
  | _, .bl _ => true
  | _, .int _ => true
  | _, .str s => PySem.PyData.strOk s
  | n + 1, .tup ds => ds.all (okd n)
  | n + 1, .lst ds => ds.all (okd n)
  | _, _ => false
theorem okd_nb {n : Nat} {d : D} (h : okd n d = true) : isBor d = false := by
  cases d with
  | bor ds => cases n <;> simp [okd] at h
  | _ => rfl
theorem okd_succ : ∀ {n : Nat} {d : D}, okd n d = true → okd (n + 1) d = true
  | 0, d, h => by cases d <;> first | rfl | (simp [okd] at h ⊢; done) | (simp [okd] at h ⊢; exact h)
  | n + 1, d, h => by
    have up : ∀ {ds : List D}, ds.all (okd n) = true → ds.all (okd (n + 1)) = true := fun {ds} q => by
      rw [List.all_eq_true] at q ⊢
      exact fun x hx => okd_succ (q x hx)
    cases d with
    | tup ds =>
      have h : ds.all (okd n) = true := h
      exact up h
    | lst ds =>
      have h : ds.all (okd n) = true := h
      exact up h
    | non => rfl
    | bl _ => rfl
    | int _ => rfl
    | str s => exact h
    | _ => simp [okd] at h
theorem okd_le {m n : Nat} {d : D} (l : m ≤ n) (h : okd m d = true) : okd n d = true := by
  induction l with
  | refl => exact h
  | step _ ih => exact okd_succ ih
theorem okd_pd : ∀ {n : Nat} {d : D}, okd n d = true → ∃ p, D.pd d = some p ∧ p.canLay0 = true ∧ p.depth ≤ n := by
  intro n
  induction n with
  | zero =>
    intro d h
    cases d <;> first | (simp [okd] at h; done) | skip
    · exact ⟨.none, by simp only [D.pd], rfl, Nat.le_refl _⟩
    · rename_i b; exact ⟨.bool b, by simp only [D.pd], rfl, Nat.le_refl _⟩
    · rename_i i; exact ⟨.int i, by simp only [D.pd], rfl, Nat.le_refl _⟩
    · rename_i s; exact ⟨.str s, by simp only [D.pd], h, Nat.le_refl _⟩
  | succ n ih =>
    have many : ∀ {ds : List D}, ds.all (okd n) = true → ∃ ps, D.pds ds = some ps ∧ PyData.canLayAll0 ps = true ∧ PyData.depthAll ps ≤ n ∧ ps.length = ds.length := by
      intro ds
      induction ds with
      | nil => exact fun _ => ⟨[], by simp only [D.pds], rfl, Nat.zero_le _, rfl⟩
      | cons d ds jh =>
        intro h
        simp only [List.all_cons, Bool.and_eq_true] at h
        obtain ⟨p, h1, h2, h3⟩ := ih h.1
        obtain ⟨ps, h4, h5, h6, h7⟩ := jh h.2
        exact ⟨p :: ps, by simp only [D.pds, h1, h4], by simp [PyData.canLayAll0, h2, h5], by simp [PyData.depthAll]; omega, by simp [h7]⟩
    intro d h
    cases d with
    | tup ds =>
      obtain ⟨ps, h1, h2, h3, _⟩ := many (show ds.all (okd n) = true from h)
      exact ⟨.tuple ps, by simp only [D.pd, h1, Option.map_some], h2, by simp [PyData.depth]; omega⟩
    | lst ds =>
      obtain ⟨ps, h1, h2, h3, _⟩ := many (show ds.all (okd n) = true from h)
      exact ⟨.list ps, by simp only [D.pd, h1, Option.map_some], h2, by simp [PyData.depth]; omega⟩
    | non => exact ⟨.none, by simp only [D.pd], rfl, Nat.zero_le _⟩
    | bl b => exact ⟨.bool b, by simp only [D.pd], rfl, Nat.zero_le _⟩
    | int i => exact ⟨.int i, by simp only [D.pd], rfl, Nat.zero_le _⟩
    | str s => exact ⟨.str s, by simp only [D.pd], h, Nat.zero_le _⟩
    | _ => simp [okd] at h
theorem pdH_eq {h : Cells} {n : Nat} {d : D} (q : okd n d = true) : pdH h d = D.pd d := by
  cases d <;> first | rfl | (cases n <;> simp [okd] at q)
theorem shaped_of {p : PyData} {n : Nat} (h1 : p.canLay0 = true) (h2 : p.depth ≤ n) (hn : n ≤ 64) : SeqAt.shaped p = true := by
  unfold SeqAt.shaped
  simp only [h1, Bool.true_and, decide_eq_true_eq]
  omega
theorem dEq_ok {h : Cells} {n : Nat} {x y : D} (hn : n ≤ 64) (hx : okd n x = true) (hy : okd n y = true) (hi : ∃ ds, x = .lst ds ∨ x = .tup ds) : ∃ p q, D.pd x = some p ∧ D.pd y = some q ∧ dEq x y h = .ok (.bl (PyData.eqv p q)) h := by
  obtain ⟨p, h1, h2, h3⟩ := okd_pd hx
  obtain ⟨q, h4, h5, h6⟩ := okd_pd hy
  refine ⟨p, q, h1, h4, ?_⟩
  obtain ⟨ds, rfl | rfl⟩ := hi
  · show (match pdH h (.lst ds), pdH h y with
      | some p, some q => if SeqAt.shaped p && SeqAt.shaped q then R.ok (D.bl (PyData.eqv p q)) h else .bad
      | _, _ => .bad) = _
    rw [pdH_eq hx, pdH_eq hy, h1, h4]
    simp [shaped_of h2 h3 hn, shaped_of h5 h6 hn]
  · show (match pdH h (.tup ds), pdH h y with
      | some p, some q => if SeqAt.shaped p && SeqAt.shaped q then R.ok (D.bl (PyData.eqv p q)) h else .bad
      | _, _ => .bad) = _
    rw [pdH_eq hx, pdH_eq hy, h1, h4]
    simp [shaped_of h2 h3 hn, shaped_of h5 h6 hn]
/-- xs == [] -/
theorem eq_nil {h : Cells} {n : Nat} {xs : List D} (hn : n < 64) (hx : xs.all (okd n) = true) : dEq (.lst xs) (.lst []) h = .ok (.bl xs.isEmpty) h := by
  obtain ⟨p, q, h1, h2, h3⟩ := dEq_ok (h := h) (n := n + 1) (x := .lst xs) (y := .lst []) hn (show xs.all (okd n) = true from hx) rfl ⟨_, .inl rfl⟩
  rw [h3]
  simp only [D.pd, D.pds, Option.map_some, Option.some.injEq] at h2
  subst h2
  cases xs with
  | nil =>
    simp only [D.pd, D.pds, Option.map_some, Option.some.injEq] at h1
    subst h1
    simp [PyData.eqv, PyData.eqvAll]
  | cons d ds =>
    simp only [D.pd] at h1
    obtain ⟨ps, e1, rfl⟩ := Option.map_eq_some_iff.mp h1
    cases ps with
    | nil =>
      simp only [D.pds] at e1
      split at e1 <;> cases e1
    | cons p ps => simp [PyData.eqv, PyData.eqvAll]
/-- repr([a, b]), bools -/
theorem repr_bb {h : Cells} {a b : Bool} : cRepr [.lst [.bl a, .bl b]] h = .ok (.str (PyData.list [.bool a, .bool b]).shown) h := by
  cases a <;> cases b <;> rfl
theorem ne_ss {h : Cells} {s t : Str} : dNe (.str s) (.str t) h = .ok (.bl (!decide (s = t))) h := rfl
theorem ne_bb {h : Cells} {a : Bool} : dNe (.str (PyData.list [.bool a, .bool a]).shown) (.str (PyData.list [.bool a, .bool a]).shown) h = .ok (.bl false) h := by
  rw [ne_ss]; simp
@[simp] theorem e_neS {h : Cells} {s t : Str} : dNe (.str s) (.str t) h = .ok (.bl (!decide (s = t))) h := (rfl)
@[simp] theorem e_eqS {h : Cells} {s t : Str} : dEq (.str s) (.str t) h = .ok (.bl (decide (s = t))) h := (rfl)
@[simp] theorem e_neBl {h : Cells} {s t : Bool} : dNe (.bl s) (.bl t) h = .ok (.bl (!decide (s = t))) h := (rfl)
@[simp] theorem e_eqBl {h : Cells} {s t : Bool} : dEq (.bl s) (.bl t) h = .ok (.bl (decide (s = t))) h := (rfl)
/-! what repr is asked of -/
def okr : Nat → D → Bool
  | _, .non => true
  | _, .bl _ => true
  | _, .int i => decide (i.natAbs < 10 ^ 40)
  | _, .str s => PySem.PyData.strOk s
  | n + 1, .tup ds => ds.all (okr n)
  | n + 1, .lst ds => ds.all (okr n)
  | _, _ => false
def dsz : Nat → D → Nat
  | _, .non => 4
  | _, .bl _ => 5
  | _, .int _ => 41
  | _, .str s => 10 * s.length + 2
  | n + 1, .tup ds => (ds.map fun d => dsz n d + 2).sum + 3
  | n + 1, .lst ds => (ds.map fun d => dsz n d + 2).sum + 3
  | _, _ => 0
theorem int40 {i : Int} (h : i.natAbs < 10 ^ 40) : rok (.int i) = true ∧ rsz (.int i) = 41 := by
  refine ⟨?_, ?_⟩
  · simp only [rok, decide_eq_true_eq]
    by_cases z : i.natAbs = 0
    · rw [z]; decide
    · rw [Nat.log2_lt z]
      refine Nat.lt_of_lt_of_le h ?_
      exact Nat.le_trans (show (10 ^ 40 : Nat) ≤ 2 ^ 200 by decide) (Nat.pow_le_pow_right (by decide) (by decide))
  · simp only [rsz]
    rw [if_pos h]
theorem okr_pd : ∀ {n : Nat} {d : D}, okr n d = true → ∃ p, D.pd d = some p ∧ rok p = true ∧ rsz p ≤ dsz n d ∧ p.depth ≤ n := by
  intro n
  induction n with
  | zero =>
    intro d h
    cases d with
    | non => exact ⟨.none, by simp only [D.pd], rfl, by simp [rsz, dsz], Nat.zero_le _⟩
    | bl b => exact ⟨.bool b, by simp only [D.pd], rfl, by simp [rsz, dsz], Nat.zero_le _⟩
    | int i =>
      obtain ⟨h1, h2⟩ := int40 (by simpa [okr] using h)
      exact ⟨.int i, by simp only [D.pd], h1, by rw [h2]; exact Nat.le_refl _, Nat.zero_le _⟩
    | str s => exact ⟨.str s, by simp only [D.pd], by simpa [rok, okr, PySem.PyData.strOk] using h, by simp [rsz, dsz], Nat.zero_le _⟩
    | _ => simp [okr] at h
  | succ n ih =>
    have many : ∀ {ds : List D}, ds.all (okr n) = true → ∃ ps, D.pds ds = some ps ∧ roks ps = true ∧ rszs ps ≤ (ds.map fun d => dsz n d + 2).sum ∧ PyData.depthAll ps ≤ n := by
      intro ds
      induction ds with
      | nil => exact fun _ => ⟨[], by simp only [D.pds], rfl, Nat.le_refl _, Nat.zero_le _⟩
      | cons d ds jh =>
        intro h
        simp only [List.all_cons, Bool.and_eq_true] at h
        obtain ⟨p, h1, h2, h3, h4⟩ := ih h.1
        obtain ⟨ps, k1, k2, k3, k4⟩ := jh h.2
        exact ⟨p :: ps, by simp only [D.pds, h1, k1], by simp [roks, h2, k2], by simp only [rszs, List.map_cons, List.sum_cons]; omega, by simp [PyData.depthAll]; omega⟩
    intro d h
    cases d with
    | tup ds =>
      obtain ⟨ps, h1, h2, h3, h4⟩ := many (show ds.all (okr n) = true from h)
      exact ⟨.tuple ps, by simp only [D.pd, h1, Option.map_some], h2, by simp only [rsz, dsz]; omega, by simp [PyData.depth]; omega⟩
    | lst ds =>
      obtain ⟨ps, h1, h2, h3, h4⟩ := many (show ds.all (okr n) = true from h)
      exact ⟨.list ps, by simp only [D.pd, h1, Option.map_some], h2, by simp only [rsz, dsz]; omega, by simp [PyData.depth]; omega⟩
    | non => exact ⟨.none, by simp only [D.pd], rfl, by simp [rsz, dsz], Nat.zero_le _⟩
    | bl b => exact ⟨.bool b, by simp only [D.pd], rfl, by simp [rsz, dsz], Nat.zero_le _⟩
    | int i =>
      obtain ⟨h1, h2⟩ := int40 (by simpa [okr] using h)
      exact ⟨.int i, by simp only [D.pd], h1, by rw [h2]; exact Nat.le_refl _, Nat.zero_le _⟩
    | str s => exact ⟨.str s, by simp only [D.pd], by simpa [rok, okr, PySem.PyData.strOk] using h, by simp [rsz, dsz], Nat.zero_le _⟩
    | _ => simp [okr] at h
/-- the shown text of a list -/
def shownL (xs : List D) : Str := match D.pd (.lst xs) with
  | some p => p.shown
  | none => default
theorem repr_ok {h : Cells} {n : Nat} {xs : List D} (hn : n ≤ 50) (hx : xs.all (okr n) = true) (hz : dsz (n + 1) (.lst xs) ≤ 16777216) : cRepr [.lst xs] h = .ok (.str (shownL xs)) h := by
  obtain ⟨p, h1, h2, h3, h4⟩ := okr_pd (n := n + 1) (d := .lst xs) hx
  unfold shownL cRepr
  have e : pdH h (.lst xs) = some p := h1
  have dsp : PyProof.Rows.isDisplay p = true := by
    simp only [D.pd] at h1
    obtain ⟨ps, e1, rfl⟩ := Option.map_eq_some_iff.mp h1
    rfl
  simp only [e, h1]
  rw [if_pos]
  simp only [Bool.and_eq_true, decide_eq_true_eq]
  exact ⟨⟨⟨dsp, h2⟩, Nat.le_trans h3 hz⟩, by omega⟩
theorem dsz_le {n B : Nat} : ∀ {xs : List D}, (∀ x ∈ xs, dsz n x ≤ B) → (xs.map fun d => dsz n d + 2).sum ≤ xs.length * (B + 2)
  | [], _ => by simp
  | x :: xs, h => by
    have h1 := h x (List.mem_cons_self ..)
    have h2 := dsz_le (xs := xs) fun y hy => h y (List.mem_cons_of_mem _ hy)
    simp only [List.map_cons, List.sum_cons, List.length_cons, Nat.add_mul]
    omega
end EV
/-! EV28: plain facts that many laws lean on -/
namespace EV
open PySem L2
mutual
/-- a value without cells -/
def pl : D → Bool
  | .non | .bl _ | .int _ | .str _ => true
  | .tup ds => pls ds
  | .lst ds => pls ds
  | _ => false
def pls : List D → Bool
  | [] => true
  | d :: ds => pl d && pls ds
end
theorem pls_mem : ∀ {ds : List D}, pls ds = true → ∀ d ∈ ds, pl d = true
  | e :: ds, h, d, m => by
    simp only [pls, Bool.and_eq_true] at h
    rcases List.mem_cons.mp m with rfl | m
    · exact h.1
    · exact pls_mem h.2 d m
theorem pl_nb {d : D} (h : pl d = true) : isBor d = false := by cases d <;> first | rfl | simp [pl] at h
def isInt : D → Bool
  | .int _ => true
  | _ => false
def isCount : D → Bool
  | .int i => decide (0 ≤ i)
  | _ => false
def isBelow (v : D) (m : Int) : Bool := match v with
  | .int i => decide (0 ≤ i) && decide (i < m)
  | _ => false
def intOf : D → Int
  | .int i => i
  | _ => 0
def areCounts : D → Bool
  | .tup ds => decide (1 ≤ ds.length) && decide (ds.length ≤ 4) && (ds.all isCount && decide ((ds.map intOf).sum ≤ 40))
  | _ => false
theorem ints_of_counts : ∀ {ds : List D}, ds.all isCount = true → toInts ds = some (ds.map intOf)
  | [], _ => rfl
  | d :: ds, q => by
    simp only [List.all_cons, Bool.and_eq_true] at q
    have ih := ints_of_counts q.2
    cases d with
    | int i => simp [toInts, ih, intOf]
    | _ => simp [isCount] at q
theorem bls_map (f : D → Bool) : ∀ {ds : List D}, toBls (ds.map fun d => .bl (f d)) = some (ds.map f)
  | [] => rfl
  | d :: ds => by simp [toBls, bls_map f (ds := ds)]
def isStanding : D → Bool
  | .tup [a, b] => areCounts a && isBelow b 17
  | _ => false
theorem two {ds : List D} (e : ds.length = 2) : ∃ a b, ds = [a, b] := by
  match ds, e with
  | [a, b], _ => exact ⟨a, b, rfl⟩
theorem at0 {a : D} {ds : List D} : atI (a :: ds) 0 = some a := by
  unfold atI ixN
  simp
theorem at1 {a b : D} {ds : List D} : atI (a :: b :: ds) 1 = some b := by
  unfold atI ixN
  have : (1 : Int) < ((a :: b :: ds).length : Int) := by simp only [List.length_cons]; omega
  rw [if_pos (by decide), if_pos this]
  rfl
def isQ (cs : List D) : D → Bool
  | .tup ds => decide (ds.length = cs.length) && (pairs ds cs).all fun p => match p with
    | .tup [d, c] => isBelow d (intOf c + 1)
    | _ => false
  | _ => false
theorem pairs_mem : ∀ {ds cs : List D} {p : D}, p ∈ pairs ds cs → ∃ d c, p = .tup [d, c] ∧ d ∈ ds ∧ c ∈ cs
  | [], _, _, m => by simp [pairs] at m
  | _ :: _, [], _, m => by simp [pairs] at m
  | d :: ds, c :: cs, p, m => by
    simp only [pairs, List.mem_cons] at m
    rcases m with rfl | m
    · exact ⟨d, c, rfl, .head _, .head _⟩
    · obtain ⟨d', c', e, h1, h2⟩ := pairs_mem m
      exact ⟨d', c', e, .tail _ h1, .tail _ h2⟩
theorem cnt_int {c : D} (q : isCount c = true) : c = .int (intOf c) := by cases c <;> first | rfl | simp [isCount] at q
def fstQ (p : D) : D := match p with
  | .tup [d, c] => .bl (isBelow d (intOf c + 1))
  | _ => .bl false
theorem okd_pl : ∀ {n : Nat} {d : D}, okd n d = true → pl d = true := by
  intro n
  induction n with
  | zero => intro d q; cases d <;> first | rfl | (simp [okd] at q; done)
  | succ n ih =>
    have many : ∀ {ds : List D}, ds.all (okd n) = true → pls ds = true := by
      intro ds
      induction ds with
      | nil => exact fun _ => rfl
      | cons d ds jh =>
        intro q
        simp only [List.all_cons, Bool.and_eq_true] at q
        simp [pls, ih q.1, jh q.2]
    intro d q
    cases d with
    | tup ds => exact many (show ds.all (okd n) = true from q)
    | lst ds => exact many (show ds.all (okd n) = true from q)
    | _ => first | rfl | (simp [okd] at q; done)
theorem neg_dec {i : Int} : decide (i < 0) = !decide (0 ≤ i) := by
  by_cases z : i < 0
  · have : ¬ 0 ≤ i := by omega
    simp [z, this]
  · have : 0 ≤ i := by omega
    simp [z, this]
theorem all_pairs {f : D → Bool} {ds cs : List D} : ((pairs ds cs).filter fun p => !f p).isEmpty = (pairs ds cs).all f := by
  rw [Bool.eq_iff_iff, List.isEmpty_iff, List.filter_eq_nil_iff, List.all_eq_true]
  simp
def goodP (p : D) : Bool := match p with
  | .tup [d, c] => isBelow d (intOf c + 1)
  | _ => false
/-- the pot -/
def Pot (h : Cells) : Prop := ∃ a b, h = [.lst [.int a, .int b]]
theorem toNat_upTo {n : Int} {i : Nat} {d : D} (e : (upTo 0 n.toNat)[i]? = some d) : d = .int i ∧ (i : Int) < n := by
  unfold upTo at e
  rw [List.getElem?_map] at e
  cases q : (List.range n.toNat)[i]? with
  | none => rw [q] at e; cases e
  | some j =>
    rw [q] at e
    obtain ⟨h1, h2⟩ := List.getElem?_eq_some_iff.mp q
    simp at h1 h2
    subst h2
    simp at e
    exact ⟨e.symm, by omega⟩
theorem sum_snoc {ds : List D} {i : Int} : ((ds ++ [D.int i]).map intOf).sum = (ds.map intOf).sum + i := by simp [intOf]
theorem at_last {cs : List D} {d : D} : atI (cs ++ [d]) (-1) = some d := by
  unfold atI ixN
  have a1 : -((cs ++ [d]).length : Int) ≤ -1 := by simp; omega
  rw [if_neg (by decide), if_pos a1]
  have a2 : (-1 + ((cs ++ [d]).length : Int)).toNat = cs.length := by simp; omega
  rw [a2]
  simp
theorem sum_nn : ∀ {cs : List D}, cs.all isCount = true → 0 ≤ (cs.map intOf).sum
  | [], _ => by simp
  | c :: cs, q => by
    simp only [List.all_cons, Bool.and_eq_true] at q
    have ih := sum_nn q.2
    obtain ⟨y, rfl⟩ : ∃ y, c = .int y := ⟨_, cnt_int q.1⟩
    have : 0 ≤ y := by simpa [isCount] using q.1
    simp [intOf]
    omega
def isC40 (d : D) : Bool := match d with
  | .int i => decide (0 ≤ i) && decide (i ≤ 40)
  | _ => false
theorem counts_40 : ∀ {cs : List D}, cs.all isCount = true → (cs.map intOf).sum ≤ 40 → cs.all isC40 = true
  | [], _, _ => rfl
  | c :: cs, q, z => by
    simp only [List.all_cons, Bool.and_eq_true] at q
    obtain ⟨y, rfl⟩ : ∃ y, c = .int y := ⟨_, cnt_int q.1⟩
    have y0 : 0 ≤ y := by simpa [isCount] using q.1
    have s0 := sum_nn q.2
    simp [intOf] at z
    have ih := counts_40 q.2 (by omega)
    have y1 : y ≤ 40 := by omega
    simp only [List.all_cons, ih, isC40, y0, y1, decide_true, Bool.and_true]
theorem c40_int {d : D} (q : isC40 d = true) : ∃ i, d = .int i ∧ 0 ≤ i ∧ i ≤ 40 := by
  cases d <;> first | (simp [isC40] at q; done) | skip
  rename_i i
  exact ⟨i, rfl, by simpa [isC40] using q⟩
theorem cut_from {ds : List D} {n : Nat} : cutD ds (some (n : Int)) none = ds.drop n := by
  unfold cutD
  rw [HT.sIx_nat, HT.sIx_none]
  by_cases z : n ≤ ds.length
  · rw [Nat.min_eq_left z, List.take_of_length_le (by rw [List.length_drop]; exact Nat.le_refl _)]
  · rw [Nat.min_eq_right (by omega), List.drop_eq_nil_of_le (Nat.le_refl _), List.drop_eq_nil_of_le (by omega), List.take_nil]
theorem cut_to {ds : List D} {n : Nat} : cutD ds none (some (n : Int)) = ds.take n := by
  unfold cutD
  rw [HT.sIx_nat, HT.sIx_none, List.drop_zero, Nat.sub_zero]
  by_cases z : n ≤ ds.length
  · rw [Nat.min_eq_left z]
  · rw [Nat.min_eq_right (by omega), List.take_of_length_le (Nat.le_refl _), List.take_of_length_le (by omega)]
def isSm (d : D) : Bool := match d with
  | .int i => decide (i.natAbs ≤ 1000)
  | _ => false
theorem sm_int {d : D} (q : isSm d = true) : ∃ i, d = .int i ∧ i.natAbs ≤ 1000 := by
  cases d <;> first | (simp [isSm] at q; done) | skip
  rename_i i
  exact ⟨i, rfl, by simpa [isSm] using q⟩
theorem sm_ok {ds : List D} (q : ds.all isSm = true) (n : Nat) : ds.all (okd n) = true := by
  rw [List.all_eq_true] at q ⊢
  intro x hx
  obtain ⟨i, rfl, _⟩ := sm_int (q x hx)
  cases n <;> rfl
theorem log_small {i : Int} (q : i.natAbs ≤ 1000) : i.natAbs.log2 < 1920 := by
  by_cases z : i.natAbs = 0
  · rw [z]; decide
  · rw [Nat.log2_lt z]
    exact Nat.lt_of_le_of_lt q (Nat.lt_of_lt_of_le (show 1000 < 2 ^ 10 by decide) (Nat.pow_le_pow_right (by decide) (by decide)))
theorem str_ok {s : String} : PySem.PyData.strOk (Str.ofString s) = true := by
  unfold PySem.PyData.strOk
  rw [Str.ofString_eq_toList]
  simp
  intro c _
  have := c.valid
  show c.val.toNat < 1114112
  rcases this with z | ⟨_, z⟩
  · exact Nat.lt_trans z (by decide)
  · exact z
theorem forL_fn {fn fn' : Fns} {pt : Pat} {body : DS} (hb : ∀ env h, body fn env h = body fn' env h) : ∀ (ds : List D) (env : Ev) (h : Cells), forL pt body fn ds env h = forL pt body fn' ds env h
  | [], _, _ => rfl
  | d :: ds, env, h => by
    unfold forL
    cases Pat.put pt d env with
    | none => rfl
    | some env1 =>
      simp only [hb]
      congr 1
      funext x h1
      rw [forL_fn hb ds x.2 h1]
theorem compL_fn {fn fn' : Fns} {pt : Pat} {tt : DT} {te : DE} (h1 : ∀ env h, tt fn env h = tt fn' env h) (h2 : ∀ env h, te fn env h = te fn' env h) : ∀ (ds : List D) (env : Ev) (h : Cells), compL pt tt te fn env ds h = compL pt tt te fn' env ds h
  | [], _, _ => rfl
  | d :: ds, env, h => by
    unfold compL
    cases Pat.put pt d env with
    | none => rfl
    | some env1 =>
      have ih : ∀ h, compL pt tt te fn env ds h = compL pt tt te fn' env ds h := fun h => compL_fn h1 h2 ds env h
      simp only [h1, h2, ih]
end EV
/-! EV29: plain facts: rows of ints, counts, questions, repr, steps through blocks -/
namespace EV
open PySem L2
variable {h : Cells}
def Is (ns : List Int) : List D := ns.map D.int
@[simp] theorem len_Is {ns : List Int} : (Is ns).length = ns.length := by simp [Is]
theorem Is_cons {n : Int} {ns : List Int} : Is (n :: ns) = .int n :: Is ns := rfl
theorem Is_nil : Is [] = [] := rfl
theorem toInts_Is : ∀ {ns : List Int}, toInts (Is ns) = some ns
  | [] => rfl
  | n :: ns => by rw [Is_cons]; simp [toInts, toInts_Is (ns := ns)]
/-- counts, as ints -/
structure Cts (ns : List Int) : Prop where
  a : areCounts (.tup (Is ns)) = true
  p : ∀ n ∈ ns, 0 ≤ n
  l1 : 1 ≤ ns.length
  l4 : ns.length ≤ 4
  s : ns.sum ≤ 40
theorem intOf_Is {ns : List Int} : (Is ns).map intOf = ns := by
  rw [Is, List.map_map]
  exact (List.map_congr_left fun _ _ => rfl).trans (List.map_id ns)
theorem cts_of {cs : List D} (q : areCounts (.tup cs) = true) : ∃ ns, cs = Is ns ∧ Cts ns := by
  have q0 := q
  simp only [areCounts, Bool.and_eq_true, decide_eq_true_eq] at q
  obtain ⟨⟨a, b⟩, c, d⟩ := q
  have e : cs = Is (cs.map intOf) := by
    rw [Is, List.map_map]
    refine ((List.map_congr_left fun x hx => ?_).trans (List.map_id cs)).symm
    exact (cnt_int (List.all_eq_true.mp c x hx)).symm
  refine ⟨cs.map intOf, e, by rw [← e]; exact q0, fun n hn => ?_, by simpa using a, by simpa using b, d⟩
  obtain ⟨x, hx, rfl⟩ := List.mem_map.mp hn
  have z := List.all_eq_true.mp c x hx
  cases x <;> first | (simp [isCount] at z; done) | skip
  simpa [isCount, intOf] using z
theorem pl_Is {ns : List Int} : pl (.tup (Is ns)) = true := by
  have : ∀ ns : List Int, pls (Is ns) = true := fun ns => by
    induction ns with
    | nil => rfl
    | cons n ns ih => rw [Is_cons]; simp [pls, pl, ih]
  simpa [pl] using this ns
theorem zeros {l : Int} (h0 : 0 ≤ l) (h1 : l ≤ 3) : ∃ zs : List D, (∀ h, dMul (.tup [.int 0]) (.int l) h = .ok (.tup zs) h) ∧ (∀ x ∈ zs, x = D.int 0) ∧ zs.length ≤ 3 := by
  have : l = 0 ∨ l = 1 ∨ l = 2 ∨ l = 3 := by omega
  rcases this with rfl | rfl | rfl | rfl
  · exact ⟨[], fun _ => rfl, by simp, by decide⟩
  · exact ⟨[.int 0], fun _ => rfl, by simp, by decide⟩
  · exact ⟨[.int 0, .int 0], fun _ => rfl, by simp, by decide⟩
  · exact ⟨[.int 0, .int 0, .int 0], fun _ => rfl, by simp, by decide⟩
theorem pairs_Is : ∀ {a b : List Int}, pairs (Is a) (Is b) = (List.zip a b).map fun p => .tup [.int p.1, .int p.2]
  | [], _ => by simp [pairs, Is_nil]
  | _ :: _, [] => by simp [pairs, Is_nil, Is_cons]
  | x :: a, y :: b => by simp only [Is_cons, pairs, List.zip_cons_cons, List.map_cons, pairs_Is]
def op2 (f : Int → Int → Int) (p : D) : D := match p with
  | .tup [.int a, .int b] => .int (f a b)
  | _ => .non
theorem op2_map {f : Int → Int → Int} : ∀ {a b : List Int}, (pairs (Is a) (Is b)).map (op2 f) = Is (List.zipWith f a b)
  | [], _ => by simp [pairs, Is_nil]
  | _ :: _, [] => by simp [pairs, Is_nil, Is_cons]
  | x :: a, y :: b => by
    simp only [Is_cons, List.map_cons, pairs, List.zipWith_cons_cons, op2_map]
    rfl
def rest (ns qs : List Int) : List Int := List.zipWith (· - ·) ns qs
theorem len_rest {ns qs : List Int} : (rest ns qs).length = min ns.length qs.length := by simp [rest]
theorem pairs_mem2 {a b : List Int} {p : D} (m : p ∈ pairs (Is a) (Is b)) : ∃ x y, p = .tup [.int x, .int y] := by
  rw [pairs_Is] at m
  obtain ⟨q, _, rfl⟩ := List.mem_map.mp m
  exact ⟨_, _, rfl⟩
theorem cut_last {ds : List D} : cutD ds none (some (-1)) = ds.dropLast := by
  unfold cutD
  rw [HT.sIx_none, List.drop_zero, Nat.sub_zero, List.dropLast_eq_take]
  have e : HT.sIx ds.length ds.length (some (-1)) = ds.length - 1 := by
    unfold HT.sIx
    simp
    omega
  rw [e]
def yes (ns qs : List Int) : List Int := List.zipWith (· + ·) qs (0 :: (rest ns qs).dropLast)
theorem dl_Is {ns : List Int} : (Is ns).dropLast = Is ns.dropLast := by simp [Is, List.map_dropLast]
def leqB : List Int → List Int → Bool
  | [], [] => true
  | q :: qs, n :: ns => decide (0 ≤ q) && decide (q ≤ n) && leqB qs ns
  | _, _ => false
theorem leq_len : ∀ {qs ns : List Int}, leqB qs ns = true → qs.length = ns.length
  | [], [], _ => rfl
  | q :: qs, n :: ns, h => by
    simp only [leqB, Bool.and_eq_true] at h
    simp [leq_len h.2]
theorem leq_snoc : ∀ {qs ns : List Int} {q n : Int}, leqB qs ns = true → 0 ≤ q → q ≤ n → leqB (qs ++ [q]) (ns ++ [n]) = true
  | [], [], q, n, _, h0, h1 => by simp [leqB, h0, h1]
  | a :: qs, b :: ns, q, n, h, h0, h1 => by
    simp only [leqB, Bool.and_eq_true] at h
    simp only [List.cons_append, leqB, Bool.and_eq_true]
    exact ⟨h.1, leq_snoc h.2 h0 h1⟩
theorem leq_isQ {qs ns : List Int} (q : leqB qs ns = true) : isQ (Is ns) (.tup (Is qs)) = true := by
  have go : ∀ {qs ns : List Int}, leqB qs ns = true → ((pairs (Is qs) (Is ns)).all fun p => match p with
    | .tup [d, c] => isBelow d (intOf c + 1)
    | _ => false) = true := by
    intro qs
    induction qs with
    | nil => intro ns _; simp [Is_nil, pairs]
    | cons a qs ih =>
      intro ns h
      cases ns with
      | nil => cases h
      | cons b ns =>
        simp only [leqB, Bool.and_eq_true, decide_eq_true_eq] at h
        simp only [Is_cons, pairs, List.all_cons, Bool.and_eq_true]
        have h1 := h.1.1
        have h2 := h.1.2
        have h3 : a < b + 1 := by omega
        exact ⟨by show (decide (0 ≤ a) && decide (a < b + 1)) = true; simp only [h1, h3, decide_true, Bool.and_true], ih h.2⟩
  have e := leq_len q
  unfold isQ
  simp only [len_Is, e, decide_true, Bool.true_and]
  exact go q
theorem leq_rest : ∀ {qs ns : List Int}, leqB qs ns = true → leqB (rest ns qs) ns = true
  | [], [], _ => rfl
  | q :: qs, n :: ns, h => by
    simp only [leqB, Bool.and_eq_true, decide_eq_true_eq] at h
    simp only [rest, List.zipWith_cons_cons, leqB, Bool.and_eq_true, decide_eq_true_eq]
    exact ⟨⟨by omega, by omega⟩, leq_rest h.2⟩
theorem rest_rest : ∀ {qs ns : List Int}, leqB qs ns = true → rest ns (rest ns qs) = qs
  | [], [], _ => rfl
  | q :: qs, n :: ns, h => by
    simp only [leqB, Bool.and_eq_true] at h
    have ih := rest_rest h.2
    simp only [rest, List.zipWith_cons_cons] at ih ⊢
    rw [ih]
    congr 1
    omega
def no (ns qs : List Int) : List Int := yes ns (rest ns qs)
theorem isCount_Is {ns : List Int} (c : Cts ns) : (Is ns).all isCount = true := by
  have q := c.a
  simp only [areCounts, Bool.and_eq_true] at q
  exact q.2.1
theorem Is_get {ns : List Int} {i : Nat} {d : D} (e : (Is ns)[i]? = some d) : ∃ n, ns[i]? = some n ∧ d = .int n := by
  rw [Is, List.getElem?_map] at e
  cases q : ns[i]? with
  | none => rw [q] at e; cases e
  | some n => rw [q] at e; exact ⟨n, rfl, (Option.some.inj e).symm⟩
theorem Is_snoc {qs : List Int} {y : Int} : Is qs ++ [.int y] = Is (qs ++ [y]) := by simp [Is]
theorem n40 {ns : List Int} (c : Cts ns) {n : Int} (m : n ∈ ns) : n ≤ 40 := by
  have := counts_40 (isCount_Is c) (by rw [intOf_Is]; exact c.s)
  have z := List.all_eq_true.mp this (.int n) (by simpa [Is] using m)
  obtain ⟨i, e, _, i1⟩ := c40_int z
  cases e; exact i1
def prod1 (ns : List Int) : Int := (ns.map (· + 1)).foldl (· * ·) 1
theorem prod_snoc {ns : List Int} {n : Int} : prod1 (ns ++ [n]) = prod1 ns * (n + 1) := by simp [prod1]
theorem prod_pos : ∀ {ns : List Int}, (∀ n ∈ ns, 0 ≤ n) → 1 ≤ prod1 ns := by
  have go : ∀ (ns : List Int) (a : Int), 1 ≤ a → (∀ n ∈ ns, 0 ≤ n) → 1 ≤ (ns.map (· + 1)).foldl (· * ·) a := by
    intro ns
    induction ns with
    | nil => exact fun a h _ => h
    | cons n ns ih =>
      intro a h p
      have n0 := p n (.head _)
      refine ih (a * (n + 1)) ?_ fun m hm => p m (.tail _ hm)
      have : a * 1 ≤ a * (n + 1) := Int.mul_le_mul_of_nonneg_left (by omega) (by omega)
      omega
  exact fun {ns} p => go ns 1 (by decide) p
theorem fold_up : ∀ (ns : List Int) (a : Int), 0 ≤ a → (∀ n ∈ ns, 0 ≤ n) → a ≤ (ns.map (· + 1)).foldl (· * ·) a
  | [], a, _, _ => Int.le_refl _
  | n :: ns, a, h, p => by
    have n0 := p n (.head _)
    have z : a * 1 ≤ a * (n + 1) := Int.mul_le_mul_of_nonneg_left (by omega) h
    have := fold_up ns (a * (n + 1)) (by omega) fun m hm => p m (.tail _ hm)
    show a ≤ (ns.map (· + 1)).foldl (· * ·) (a * (n + 1))
    omega
theorem prod_le {ns : List Int} (p : ∀ n ∈ ns, 0 ≤ n) (t : Nat) : prod1 (ns.take t) ≤ prod1 ns := by
  have e : prod1 ns = ((ns.drop t).map (· + 1)).foldl (· * ·) (prod1 (ns.take t)) := by
    unfold prod1
    rw [← List.foldl_append, ← List.map_append, List.take_append_drop]
  rw [e]
  have := prod_pos (ns := ns.take t) fun n hn => p n (List.mem_of_mem_take hn)
  exact fold_up _ _ (by omega) fun n hn => p n (List.mem_of_mem_drop hn)
theorem take_snoc {ns : List Int} {t : Nat} {n : Int} (hn : ns[t]? = some n) : ns.take (t + 1) = ns.take t ++ [n] := by
  rw [List.take_add_one, hn]; rfl
theorem small40 {n : Int} (h0 : 0 ≤ n) (h1 : n ≤ 40) : small64 (n + 1) = true := by
  simp only [small64, Bool.and_eq_true, decide_eq_true_eq]; omega
def oka (m : Nat) (ds : List D) : Prop := ∀ x ∈ ds, ∃ qs, x = .tup (Is qs) ∧ (∀ q ∈ qs, 0 ≤ q ∧ q ≤ 40) ∧ qs.length ≤ m
def kept (q n : Int) (b : Bool) : Int := if b then q else n - q
/-- what stands at place i when n places are gone through, and t things of the next: a those that stay -/
def stand (as bs : List Int) (i : Nat) : Int := as.getD i 0 + (if i = 0 then 0 else bs.getD (i - 1) 0)
def standL (L : Nat) (as bs : List Int) : List D := (List.range L).map fun i => .int (stand as bs i)
def stL (L : Nat) (g : Nat → Int) : List D := (List.range L).map fun i => .int (g i)
theorem stL_len {L : Nat} {g : Nat → Int} : (stL L g).length = L := by simp [stL]
theorem stL_get {L j : Nat} {g : Nat → Int} (hj : j < L) : (stL L g)[j]? = some (.int (g j)) := by simp [stL, hj]
theorem stL_at {L j : Nat} {g : Nat → Int} (hj : j < L) : atI (stL L g) (j : Int) = some (.int (g j)) := atI_nat (stL_get hj)
theorem stL_ix {L j : Nat} (hj : j < L) : ixN L (j : Int) = some j := by
  unfold ixN
  simp [hj]
def upg (g : Nat → Int) (j : Nat) (v : Int) : Nat → Int := fun i => if i = j then v else g i
theorem stL_set {L j : Nat} {g : Nat → Int} {v : Int} : (stL L g).set j (.int v) = stL L (upg g j v) := by
  refine List.ext_getElem? fun i => ?_
  by_cases hi : i < L
  · rw [stL_get hi]
    by_cases hj : j = i
    · subst hj
      rw [List.getElem?_set_self (by rw [stL_len]; exact hi)]
      simp [upg]
    · rw [List.getElem?_set_ne hj, stL_get hi]
      simp [upg, Ne.symm hj]
  · rw [List.getElem?_eq_none (by rw [List.length_set, stL_len]; omega), List.getElem?_eq_none (by rw [stL_len]; omega)]
theorem stL_zero {L : Nat} : reps L [D.int 0] = stL L fun _ => 0 := by
  unfold reps stL
  induction L with
  | zero => rfl
  | succ L ih => rw [List.replicate_succ', List.flatten_append, ih, List.range_succ, List.map_append]; rfl
def gd (l : List Int) (i : Nat) : Int := l.getD i 0
def kp (ns qs : List Int) (b : Bool) (i : Nat) : Int := if b then gd qs i else gd ns i - gd qs i
def go (ns qs : List Int) (b : Bool) (i : Nat) : Int := gd ns i - kp ns qs b i
/-- n places gone through -/
def An (ns qs : List Int) (b : Bool) (n i : Nat) : Int := (if i < n then kp ns qs b i else 0) + (if 1 ≤ i ∧ i - 1 < n then go ns qs b (i - 1) else 0)
/-- t things of the next -/
def ca (q : Int) (b : Bool) (t : Nat) : Int := if b then min (t : Int) q else t - min (t : Int) q
def Bn (ns qs : List Int) (b : Bool) (n t i : Nat) : Int := An ns qs b n i + (if i = n then ca (gd qs n) b t else 0) + (if i = n + 1 then (t : Int) - ca (gd qs n) b t else 0)
theorem Bn_zero {ns qs : List Int} {b : Bool} {n i : Nat} (q0 : 0 ≤ gd qs n) : Bn ns qs b n 0 i = An ns qs b n i := by
  have z : ca (gd qs n) b 0 = 0 := by unfold ca; cases b <;> simp <;> omega
  unfold Bn
  rw [z]
  simp
theorem Bn_last {ns qs : List Int} {b : Bool} {n i : Nat} (q1 : gd qs n ≤ gd ns n) (n0 : 0 ≤ gd ns n) : Bn ns qs b n (gd ns n).toNat i = An ns qs b (n + 1) i := by
  have e : ((gd ns n).toNat : Int) = gd ns n := by omega
  have z : ca (gd qs n) b (gd ns n).toNat = kp ns qs b n := by
    unfold ca kp
    rw [e]
    cases b <;> simp <;> omega
  unfold Bn An
  rw [z, e]
  by_cases h1 : i = n
  · subst h1
    have a1 : ¬ i < i := by omega
    have a2 : i < i + 1 := by omega
    have a3 : ¬ i = i + 1 := by omega
    by_cases h2 : 1 ≤ i
    · have b1 : i - 1 < i := by omega
      have b2 : i - 1 < i + 1 := by omega
      simp [a1, a2, a3, h2, b1, b2]; omega
    · simp [a1, a2, a3, h2]
  · by_cases h2 : i = n + 1
    · subst h2
      have a1 : ¬ n + 1 < n := by omega
      have a2 : ¬ n + 1 < n + 1 := by omega
      have a3 : ¬ n + 1 = n := by omega
      simp [go, a1]
    · by_cases h3 : i < n
      · have a2 : i < n + 1 := by omega
        by_cases h4 : 1 ≤ i
        · have b1 : i - 1 < n := by omega
          have b2 : i - 1 < n + 1 := by omega
          simp [h1, h2, h3, a2, h4, b1, b2]
        · simp [h1, h2, h3, a2, h4]
      · have a2 : ¬ i < n + 1 := by omega
        have b1 : ¬ i - 1 < n := by omega
        have b2 : ¬ i - 1 < n + 1 := by omega
        simp [h1, h2, h3, a2, b1, b2]
theorem numbered_at : ∀ {n : Nat} {ds : List D} {i : Nat} {d : D}, (numbered n ds)[i]? = some d → ∃ e, ds[i]? = some e ∧ d = .tup [.int ((n + i : Nat) : Int), e]
  | n, ds, i, d, h => by
    have hi : i < (numbered n ds).length := (List.getElem?_eq_some_iff.mp h).1
    rw [numbered_len] at hi
    have z := numbered_get (n := n) (ds := ds) (i := i) (d := ds[i]) (by simp [hi])
    rw [h] at z
    exact ⟨ds[i], by simp [hi], Option.some.inj z⟩
theorem leq_get : ∀ {qs ns : List Int} {i : Nat} {n : Int}, leqB qs ns = true → ns[i]? = some n → ∃ q, qs[i]? = some q ∧ 0 ≤ q ∧ q ≤ n
  | [], [], _, _, _, h => by cases h
  | q :: qs, m :: ns, 0, n, h, e => by
    simp only [leqB, Bool.and_eq_true, decide_eq_true_eq] at h
    simp at e
    subst e
    exact ⟨q, rfl, h.1.1, h.1.2⟩
  | q :: qs, m :: ns, i + 1, n, h, e => by
    simp only [leqB, Bool.and_eq_true] at h
    simpa using leq_get h.2 (by simpa using e)
theorem getD_of {l : List Int} {i : Nat} {x : Int} (e : l[i]? = some x) : gd l i = x := by rw [gd, List.getD_eq_getElem?_getD, e]; rfl
theorem aug_step {L j : Nat} {g : Nat → Int} {fn : Fns} {v w b x4 x5 x6 : Sl} {Q : Fl × Ev → Cells → Prop} (hj : j < L) (q : Q (.nx, [v, w, b, .own (stL L (upg g j (g j + 1))), x4, x5, x6]) h) :
    wp (augGot 3 dIAdd (dC (.int 1)) (.int j) fn [v, w, b, .own (stL L g), x4, x5, x6] h) Q := by
  simp [augGot, stL_at hj, dIAdd, stL_len, stL_ix hj, stL_set]
  exact q
theorem ca_step {q : Int} {b : Bool} {u : Nat} : ca q b (u + 1) = ca q b u + (if decide ((u : Int) < q) = b then 1 else 0) := by
  unfold ca
  by_cases z : (u : Int) < q
  · cases b <;> simp [z] <;> omega
  · cases b <;> simp [z] <;> omega
theorem Bn_step {ns qs : List Int} {b : Bool} {n u : Nat} (j : Nat) (hj : j = if decide ((u : Int) < gd qs n) = b then n else n + 1) : upg (Bn ns qs b n u) j (Bn ns qs b n u j + 1) = Bn ns qs b n (u + 1) := by
  funext i
  unfold upg Bn
  rw [ca_step]
  by_cases z : decide ((u : Int) < gd qs n) = b
  · rw [if_pos z] at hj
    subst hj
    rw [if_pos z]
    by_cases h1 : i = j
    · subst h1
      have a : ¬ i = i + 1 := by omega
      simp [a]; omega
    · by_cases h2 : i = j + 1
      · subst h2
        simp; omega
      · simp [h1, h2]
  · rw [if_neg z] at hj
    subst hj
    rw [if_neg z]
    by_cases h1 : i = n + 1
    · subst h1
      simp; omega
    · simp [h1]
theorem stL_drop {L : Nat} {g : Nat → Int} : (stL (L + 1) g).dropLast = stL L g := by
  unfold stL
  rw [List.range_succ, List.map_append]
  simp
theorem gd_get {l : List Int} {i : Nat} (hi : i < l.length) : l[i]? = some (gd l i) := by
  rw [gd, List.getD_eq_getElem?_getD, List.getElem?_eq_getElem hi]; rfl
theorem zip_at {L i : Nat} {as rs : List Int} (ha : as.length = L) (hr : rs.length = L) (hi : i < L) : (List.zipWith (· + ·) as (0 :: rs.dropLast))[i]? = some (gd as i + (if 1 ≤ i then gd rs (i - 1) else 0)) := by
  rw [List.getElem?_zipWith, gd_get (by omega)]
  cases i with
  | zero => simp
  | succ j =>
    rw [List.getElem?_cons_succ, List.getElem?_dropLast, if_pos (by omega), gd_get (by omega)]
    simp
theorem gd_rest {qs ns : List Int} (e : qs.length = ns.length) {i : Nat} (hi : i < ns.length) : gd (rest ns qs) i = gd ns i - gd qs i := by
  refine getD_of ?_
  rw [rest, List.getElem?_zipWith, gd_get hi, gd_get (by omega)]
theorem len_rest' {qs ns : List Int} (e : qs.length = ns.length) : (rest ns qs).length = ns.length := by rw [len_rest]; omega
theorem len_yes {qs ns : List Int} (e : qs.length = ns.length) (h1 : 1 ≤ ns.length) : (yes ns qs).length = ns.length := by
  rw [yes, List.length_zipWith, List.length_cons, List.length_dropLast, len_rest' e]; omega
theorem moved_eq {qs ns : List Int} {b : Bool} (q : leqB qs ns = true) (h1 : 1 ≤ ns.length) : (stL (ns.length + 1) (An ns qs b ns.length)).dropLast = Is (if b then yes ns qs else no ns qs) := by
  have e := leq_len q
  have lr := len_rest' e
  have ly : (if b then yes ns qs else no ns qs).length = ns.length := by
    cases b
    · simp only [Bool.false_eq_true, if_false, no]; exact len_yes lr h1
    · simp only [if_true]; exact len_yes e h1
  rw [stL_drop]
  refine List.ext_getElem? fun i => ?_
  by_cases hi : i < ns.length
  · rw [stL_get hi, Is, List.getElem?_map]
    have z : (if b then yes ns qs else no ns qs)[i]? = some (An ns qs b ns.length i) := by
      have a1 : ∀ x, (if 1 ≤ i ∧ i - 1 < ns.length then x else (0 : Int)) = if 1 ≤ i then x else 0 := fun x => by
        by_cases w : 1 ≤ i
        · rw [if_pos ⟨w, by omega⟩, if_pos w]
        · rw [if_neg (fun z => w z.1), if_neg w]
      unfold An
      rw [if_pos hi, a1]
      cases b with
      | true =>
        simp only [if_true]
        rw [yes, zip_at e lr hi]
        congr 2
        by_cases w : 1 ≤ i
        · rw [if_pos w, if_pos w, gd_rest e (by omega)]; rfl
        · rw [if_neg w, if_neg w]
      | false =>
        simp only [Bool.false_eq_true, if_false]
        rw [no, yes, rest_rest q, zip_at lr e hi, gd_rest e hi]
        congr 2
        by_cases w : 1 ≤ i
        · rw [if_pos w, if_pos w, go, kp]; simp; omega
        · rw [if_neg w, if_neg w]
    rw [z]; rfl
  · rw [List.getElem?_eq_none (by rw [stL_len]; omega), List.getElem?_eq_none (by rw [len_Is, ly]; omega)]
theorem zsum : ∀ {a b : List Int}, a.length = b.length → (List.zipWith (· + ·) a b).sum = a.sum + b.sum
  | [], [], _ => rfl
  | x :: a, y :: b, e => by
    have := zsum (a := a) (b := b) (by simpa using e)
    simp only [List.zipWith_cons_cons, List.sum_cons, this]
    omega
theorem rsum : ∀ {qs ns : List Int}, qs.length = ns.length → (rest ns qs).sum = ns.sum - qs.sum
  | [], [], _ => rfl
  | q :: qs, n :: ns, e => by
    have := rsum (qs := qs) (ns := ns) (by simpa using e)
    simp only [rest, List.zipWith_cons_cons, List.sum_cons] at this ⊢
    rw [this]; omega
theorem lsum {l : List Int} (h1 : 1 ≤ l.length) : l.sum = l.dropLast.sum + gd l (l.length - 1) := by
  obtain ⟨a, x, rfl⟩ : ∃ a x, l = a ++ [x] := by
    have ne : l ≠ [] := fun z => by rw [z] at h1; simp at h1
    exact ⟨l.dropLast, l.getLast ne, (List.dropLast_concat_getLast ne).symm⟩
  have e : gd (a ++ [x]) ((a ++ [x]).length - 1) = x := getD_of (by simp)
  rw [e]
  simp
theorem ysum {qs ns : List Int} (q : leqB qs ns = true) (h1 : 1 ≤ ns.length) : (yes ns qs).sum + (no ns qs).sum = 2 * ns.sum - gd ns (ns.length - 1) := by
  have e := leq_len q
  have lr := len_rest' e
  have d1 : (rest ns qs).sum = (rest ns qs).dropLast.sum + gd (rest ns qs) (ns.length - 1) := by rw [lsum (by omega), lr]
  have d2 : qs.sum = qs.dropLast.sum + gd qs (ns.length - 1) := by rw [lsum (by omega), e]
  have d3 := rsum e
  have d4 : gd (rest ns qs) (ns.length - 1) = gd ns (ns.length - 1) - gd qs (ns.length - 1) := gd_rest e (by omega)
  rw [no, yes, yes, rest_rest q, zsum (by rw [List.length_cons, List.length_dropLast, lr]; omega), zsum (by rw [List.length_cons, List.length_dropLast, lr]; omega), List.sum_cons, List.sum_cons]
  omega
theorem at_end {ns : List Int} (h1 : 1 ≤ ns.length) : atI (Is ns) (-1) = some (.int (gd ns (ns.length - 1))) := by
  unfold atI ixN
  have a1 : -((Is ns).length : Int) ≤ -1 := by rw [len_Is]; omega
  rw [if_neg (by decide), if_pos a1]
  have a2 : (-1 + ((Is ns).length : Int)).toNat = ns.length - 1 := by rw [len_Is]; omega
  rw [a2]
  show (Is ns)[ns.length - 1]? = _
  rw [Is, List.getElem?_map, gd_get (by omega)]; rfl
theorem rep3 {xs : List D} (ho : xs.all (okr 2) = true) (hz : ∀ x ∈ xs, dsz 2 x ≤ 100000) (hl : xs.length ≤ 150) : cRepr [.lst xs] h = .ok (.str (shownL xs)) h := by
  refine repr_ok (n := 2) (by decide) ho ?_
  have := dsz_le hz
  show (xs.map fun d => dsz 2 d + 2).sum + 3 ≤ 16777216
  have : xs.length * (100000 + 2) ≤ 150 * (100000 + 2) := Nat.mul_le_mul_right _ hl
  omega
/-- a row of few small numbers -/
def Sm (ns : List Int) : Prop := (∀ n ∈ ns, n.natAbs ≤ 1000) ∧ ns.length ≤ 5
theorem sm_okr {ns : List Int} (s : Sm ns) (n : Nat) : okr (n + 1) (.tup (Is ns)) = true ∧ dsz (n + 1) (.tup (Is ns)) ≤ 300 := by
  refine ⟨?_, ?_⟩
  · show (Is ns).all (okr n) = true
    rw [List.all_eq_true]
    intro x hx
    obtain ⟨m, hm, rfl⟩ := List.mem_map.mp hx
    have h1 := s.1 m hm
    have z : m.natAbs < 10 ^ 40 := Nat.lt_of_le_of_lt h1 (by decide)
    cases n <;> exact decide_eq_true z
  · have z : ∀ x ∈ Is ns, dsz n x ≤ 41 := fun x hx => by
      obtain ⟨m, hm, rfl⟩ := List.mem_map.mp hx
      cases n <;> exact Nat.le_refl _
    have := dsz_le z
    show ((Is ns).map fun d => dsz n d + 2).sum + 3 ≤ 300
    have l : (Is ns).length * (41 + 2) ≤ 5 * (41 + 2) := Nat.mul_le_mul_right _ (by rw [len_Is]; exact s.2)
    omega
theorem sm_cts {ns : List Int} (c : Cts ns) : Sm ns := ⟨fun n m => by have := c.p n m; have := n40 c m; omega, by have := c.l4; omega⟩
theorem leq_40 {qs ns : List Int} (c : Cts ns) (q : leqB qs ns = true) : ∀ x ∈ qs, 0 ≤ x ∧ x ≤ 40 := fun x hx => by
  obtain ⟨i, hi⟩ := List.getElem?_of_mem hx
  have hl : i < ns.length := by rw [← leq_len q]; exact (List.getElem?_eq_some_iff.mp hi).1
  obtain ⟨q', e, q0, q1⟩ := leq_get q (gd_get hl)
  rw [hi] at e
  cases e
  have := n40 c (List.mem_of_getElem? (gd_get hl))
  omega
theorem sm_leq {qs ns : List Int} (c : Cts ns) (q : leqB qs ns = true) : Sm qs := ⟨fun n m => by have := leq_40 c q n m; omega, by rw [leq_len q]; have := c.l4; omega⟩
theorem sm_yes {qs ns : List Int} (c : Cts ns) (q : leqB qs ns = true) : Sm (yes ns qs) := by
  refine ⟨fun n m => ?_, by rw [len_yes (leq_len q) c.l1]; have := c.l4; omega⟩
  obtain ⟨i, hi⟩ := List.getElem?_of_mem m
  have hl : i < ns.length := by rw [← len_yes (leq_len q) c.l1]; exact (List.getElem?_eq_some_iff.mp hi).1
  rw [yes, zip_at (leq_len q) (len_rest' (leq_len q)) hl] at hi
  have e := Option.some.inj hi
  have b1 := leq_40 c q _ (List.mem_of_getElem? (gd_get (l := qs) (i := i) (by rw [leq_len q]; exact hl)))
  by_cases w1 : 1 ≤ i
  · rw [if_pos w1] at e
    have b2 := leq_40 c (leq_rest q) _ (List.mem_of_getElem? (gd_get (l := rest ns qs) (i := i - 1) (by rw [len_rest' (leq_len q)]; omega)))
    omega
  · rw [if_neg w1] at e
    omega
theorem sm_no {qs ns : List Int} (c : Cts ns) (q : leqB qs ns = true) : Sm (no ns qs) := sm_yes c (leq_rest q)
theorem pr2 {a b : D} (a1 : okr 1 a = true) (a2 : dsz 1 a ≤ 300) (b1 : okr 1 b = true) (b2 : dsz 1 b ≤ 300) : okr 2 (.tup [a, b]) = true ∧ dsz 2 (.tup [a, b]) ≤ 100000 := by
  refine ⟨?_, ?_⟩
  · simp only [okr, List.all_cons, List.all_nil, a1, b1, Bool.and_true]
  · simp only [dsz, List.map_cons, List.map_nil, List.sum_cons, List.sum_nil]
    omega
theorem rep_two {a b : D} (a1 : okr 2 a = true) (a2 : dsz 2 a ≤ 100000) (b1 : okr 2 b = true) (b2 : dsz 2 b ≤ 100000) (h : Cells) : cRepr [.lst [a, b]] h = .ok (.str (shownL [a, b])) h :=
  rep3 (by simp [a1, b1]) (fun x hx => by
    simp only [List.mem_cons, List.not_mem_nil, or_false] at hx
    rcases hx with rfl | rfl
    · exact a2
    · exact b2) (by simp)
theorem rep_three {a b c : D} (a1 : okr 2 a = true) (a2 : dsz 2 a ≤ 100000) (b1 : okr 2 b = true) (b2 : dsz 2 b ≤ 100000) (c1 : okr 2 c = true) (c2 : dsz 2 c ≤ 100000) (h : Cells) : cRepr [.lst [a, b, c]] h = .ok (.str (shownL [a, b, c])) h :=
  rep3 (by simp [a1, b1, c1]) (fun x hx => by
    simp only [List.mem_cons, List.not_mem_nil, or_false] at hx
    rcases hx with rfl | rfl | rfl
    · exact a2
    · exact b2
    · exact c2) (by simp)
theorem stepM {a b : DS} {fn : Fns} {env : Ev} {h : Cells} {Q : Fl × Ev → Cells → Prop} (R : Ev → Cells → Prop) (ha : wp (a fn env h) fun x h1 => x.1 = .nx ∧ R x.2 h1) (hb : ∀ env1 h1, R env1 h1 → wp (b fn env1 h1) Q) : wp (sSeq a b fn env h) Q := by
  rw [e_sSeq, wp_bind]
  refine wp_mono ha fun x h1 ⟨e, r⟩ => ?_
  rw [e]
  exact hb _ _ r
theorem stepE {a b : DS} {fn : Fns} {env env1 : Ev} {h : Cells} {Q : Fl × Ev → Cells → Prop} (ha : a fn env h = .ok (.nx, env1) h) (hb : wp (b fn env1 h) Q) : wp (sSeq a b fn env h) Q := by
  rw [e_sSeq, wp_bind, ha, wp_ok]
  exact hb
theorem okr_tup {n : Nat} {ds : List D} (h : ds.all (okr n) = true) : okr (n + 1) (.tup ds) = true := h
theorem par_at {i j : Nat} {x y : D} {a b : DM} {fn : Fns} {h : Cells} {env env1 env2 : Ev} (ha : a fn env h = .ok (.v x) h) (hb : b fn env h = .ok (.v y) h) (p1 : putIt i (.v x) env = some env1) (p2 : putIt j (.v y) env1 = some env2) :
    sPar2 i j a b fn env h = .ok (.nx, env2) h := by
  rw [e_sPar2, ha, ok_bind, hb, ok_bind, p1]
  simp only
  rw [p2]
theorem okr_i {n : Nat} {i : Int} (h : i.natAbs ≤ 1000) : okr n (.int i) = true := by
  have z : i.natAbs < 10 ^ 40 := Nat.lt_of_le_of_lt h (by decide)
  cases n <;> exact decide_eq_true z
theorem dsz_i {n : Nat} {i : Int} : dsz n (.int i) = 41 := by cases n <;> rfl
theorem rep_big {a b : D} (a1 : okr 2 a = true) (a2 : dsz 2 a ≤ 5000000) (b1 : okr 2 b = true) (b2 : dsz 2 b ≤ 5000000) (h : Cells) : cRepr [.lst [a, b]] h = .ok (.str (shownL [a, b])) h :=
  repr_ok (n := 2) (by decide) (by simp [a1, b1]) (by
    simp only [dsz, List.map_cons, List.map_nil, List.sum_cons, List.sum_nil]
    omega)
end EV
/-! EV32: pure loops, while, steps -/
namespace EV
open PySem L2
section
variable {α β : Type} {fn : Fns} {env : Ev} {h : Cells}
theorem eq_of_wp {r : R α} {v : α} (w : wp r fun d h' => d = v ∧ h' = h) : r = .ok v h := by
  obtain ⟨d, h', e, rfl, rfl⟩ := w
  exact e
/-- a loop whose turns change nothing but slots -/
theorem forL_pure {pt : Pat} {body : DS} (S : Nat → Ev → Prop) : ∀ {ds : List D} {env : Ev} (n : Nat), S n env →
    (∀ i d env, ds[i]? = some d → S (n + i) env → ∃ env1, Pat.put pt d env = some env1 ∧ ∃ fl env2, (fl = .nx ∨ fl = .ct) ∧ body fn env1 h = .ok (fl, env2) h ∧ S (n + i + 1) env2) →
    ∃ env2, forL pt body fn ds env h = .ok (.nx, env2) h ∧ S (n + ds.length) env2
  | [], env, n, p, _ => ⟨env, rfl, p⟩
  | d :: ds, env, n, p, st => by
    obtain ⟨env1, e1, fl, env2, hx, e2, p2⟩ := st 0 d env rfl p
    obtain ⟨env3, e3, p3⟩ := forL_pure S (ds := ds) (env := env2) (n + 1) p2 fun i d env hd q => by
      obtain ⟨a, b, c⟩ := st (i + 1) d env (by simpa using hd) (by rw [show n + (i + 1) = n + 1 + i by omega]; exact q)
      exact ⟨a, b, by rw [show n + 1 + i + 1 = n + (i + 1) + 1 by omega]; exact c⟩
    refine ⟨env3, ?_, by rw [List.length_cons, show n + (ds.length + 1) = n + 1 + ds.length by omega]; exact p3⟩
    unfold forL
    rw [e1]
    show R.bind _ _ = _
    rw [e2, ok_bind]
    rcases hx with rfl | rfl <;> exact e3
/-- a loop that may return: till turn m all goes on, at turn m it returns -/
theorem forL_ret {pt : Pat} {body : DS} (S : Nat → Ev → Prop) (r : D) : ∀ {ds : List D} {env : Ev} (n m : Nat), m < ds.length → S n env →
    (∀ i d env, i < m → ds[i]? = some d → S (n + i) env → ∃ env1, Pat.put pt d env = some env1 ∧ ∃ fl env2, (fl = .nx ∨ fl = .ct) ∧ body fn env1 h = .ok (fl, env2) h ∧ S (n + i + 1) env2) →
    (∀ d env, ds[m]? = some d → S (n + m) env → ∃ env1, Pat.put pt d env = some env1 ∧ ∃ env2, body fn env1 h = .ok (.rt r, env2) h) →
    ∃ env2, forL pt body fn ds env h = .ok (.rt r, env2) h
  | [], _, _, _, hm, _, _, _ => by simp at hm
  | d :: ds, env, n, 0, _, p, _, en => by
    obtain ⟨env1, e1, env2, e2⟩ := en d env rfl p
    refine ⟨env2, ?_⟩
    unfold forL
    rw [e1]
    show R.bind _ _ = _
    rw [e2, ok_bind]
  | d :: ds, env, n, m + 1, hm, p, st, en => by
    obtain ⟨env1, e1, fl, env2, hx, e2, p2⟩ := st 0 d env (by omega) rfl p
    obtain ⟨env3, e3⟩ := forL_ret S r (ds := ds) (env := env2) (n + 1) m (by simpa using hm) p2 (fun i d env hi hd q => by
      obtain ⟨a, b, c⟩ := st (i + 1) d env (by omega) (by simpa using hd) (by rw [show n + (i + 1) = n + 1 + i by omega]; exact q)
      exact ⟨a, b, by rw [show n + 1 + i + 1 = n + (i + 1) + 1 by omega]; exact c⟩) fun d env hd q => en d env (by simpa using hd) (by rw [show n + (m + 1) = n + 1 + m by omega]; exact q)
    refine ⟨env3, ?_⟩
    unfold forL
    rw [e1]
    show R.bind _ _ = _
    rw [e2, ok_bind]
    rcases hx with rfl | rfl <;> exact e3
/-- a while that ends after n turns -/
theorem while_pure {t : DT} {body : DS} (S : Nat → Ev → Prop) (n : Nat) (st : ∀ i env, i < n → S i env → t fn env h = .ok true h ∧ ∃ fl env2, (fl = .nx ∨ fl = .ct) ∧ body fn env h = .ok (fl, env2) h ∧ S (i + 1) env2)
    (en : ∀ env, S n env → t fn env h = .ok false h) : ∀ (f i : Nat) (env : Ev), i ≤ n → n < i + f → S i env → ∃ env2, whileL t body fn f env h = .ok (.nx, env2) h ∧ S n env2
  | 0, i, env, h1, h2, _ => by omega
  | f + 1, i, env, h1, h2, p => by
    unfold whileL
    by_cases e : i = n
    · subst e
      exact ⟨env, by rw [en env p, ok_bind]; rfl, p⟩
    · obtain ⟨e1, fl, env2, hx, e2, p2⟩ := st i env (by omega) p
      obtain ⟨env3, e3, p3⟩ := while_pure S n st en f (i + 1) env2 (by omega) (by omega) p2
      refine ⟨env3, ?_, p3⟩
      rw [e1, ok_bind, if_pos rfl, e2, ok_bind]
      rcases hx with rfl | rfl <;> exact e3
@[simp] theorem e_sWhile {n : Nat} {t : DT} {body : DS} : sWhile n t body fn env h = whileL t body fn n env h := (rfl)
/-- the first statement, by what it gives -/
theorem stepQ {a b : DS} {r : R (Fl × Ev)} {Q : Fl × Ev → Cells → Prop} (ha : a fn env h = r) (hb : wp (r.bind fun x h1 => match x.1 with
  | .nx => b fn x.2 h1
  | _ => .ok x h1) Q) : wp (sSeq a b fn env h) Q := by
  rw [e_sSeq, ha]; exact hb
theorem seqQ {a b : DS} {env1 : Ev} {h1 : Cells} (ha : a fn env h = .ok (.nx, env1) h1) : sSeq a b fn env h = b fn env1 h1 := by
  rw [e_sSeq, ha, ok_bind]
theorem seqR {a b : DS} {env1 : Ev} {h1 : Cells} {d : D} (ha : a fn env h = .ok (.rt d, env1) h1) : sSeq a b fn env h = .ok (.rt d, env1) h1 := by
  rw [e_sSeq, ha, ok_bind]
end
theorem at_up {n : Int} {i : Nat} (hi : (i : Int) < n) : (upTo 0 n.toNat)[i]? = some (.int i) := by
  unfold upTo
  rw [List.getElem?_map, List.getElem?_range (by omega)]
  simp
theorem len_up {lo : Int} {n : Nat} : (upTo lo n).length = n := by simp [upTo]
theorem map_num {f : D → D} : ∀ {ds : List D} {p : Nat} (g : Nat → D → D), (∀ (i : Nat) d, ds[i]? = some d → f (.tup [.int ((p + i : Nat) : Int), d]) = g (p + i) d) → (numbered p ds).map f = (List.range ds.length).map fun i => g (p + i) (ds.getD i .non)
  | [], _, _, _ => rfl
  | d :: ds, p, g, st => by
    rw [numbered, List.map_cons, List.length_cons, List.range_succ_eq_map, List.map_cons, List.map_map]
    have h0 := st 0 d rfl
    have ih := map_num (f := f) (ds := ds) (p := p + 1) (fun i d => g i d) fun i e he => by
      have := st (i + 1) e (by simpa using he)
      rw [show p + 1 + i = p + (i + 1) by omega]; exact this
    rw [ih]
    simp only [Nat.add_zero] at h0
    rw [List.cons.injEq]
    refine ⟨by simpa using h0, List.map_congr_left fun i _ => ?_⟩
    simp [show p + 1 + i = p + (i + 1) by omega]
theorem toInts_map {f : D → D} {g : D → Int} {ds : List D} (e : ∀ d ∈ ds, f d = .int (g d)) : toInts (ds.map f) = some (ds.map g) := by
  induction ds with
  | nil => rfl
  | cons d ds ih =>
    rw [List.map_cons, e d (.head _)]
    simp [toInts, ih fun x hx => e x (.tail _ hx)]
end EV
/-! EV34: weights -/
namespace EV
open PySem L2
/-- C(j, 0) + .. + C(j, l) -/
def W : Nat → Nat → Int
  | 0, _ => 1
  | j + 1, 0 => 1
  | j + 1, l + 1 => W j (l + 1) + W j l
theorem W_zero : ∀ j, W j 0 = 1
  | 0 => rfl
  | _ + 1 => rfl
theorem W_pos : ∀ j l, 1 ≤ W j l
  | 0, _ => Int.le_refl _
  | _ + 1, 0 => Int.le_refl _
  | j + 1, l + 1 => by have a := W_pos j (l + 1); have b := W_pos j l; show 1 ≤ W j (l + 1) + W j l; omega
theorem W_mono : ∀ j l, W j l ≤ W j (l + 1)
  | 0, _ => Int.le_refl _
  | j + 1, 0 => by have a := W_pos j 1; have b := W_pos j 0; show 1 ≤ W j 1 + W j 0; omega
  | j + 1, l + 1 => by have a : W j (l + 1) ≤ W j (l + 2) := W_mono j (l + 1); have b := W_mono j l; show W j (l + 1) + W j l ≤ W j (l + 2) + W j (l + 1); omega
theorem W_two : ∀ j l, W (j + 1) l ≤ 2 * W j l
  | j, 0 => by show 1 ≤ 2 * W j 0; rw [W_zero]; decide
  | j, l + 1 => by have := W_mono j l; show W j (l + 1) + W j l ≤ _; omega
theorem W_pow : ∀ j l, W j l ≤ 2 ^ j
  | 0, _ => Int.le_refl _
  | j + 1, l => by
    have a := W_two j l
    have b := W_pow j l
    rw [Int.pow_succ]
    omega
/-- the parts of a weight -/
def wl : List Int → Nat → List Int
  | [], _ => []
  | n :: ns, j => n * W j ns.length :: wl ns j
def Wt (ns : List Int) (j : Nat) : Int := (wl ns j).sum
theorem Wt_cons {n : Int} {ns : List Int} {j : Nat} : Wt (n :: ns) j = n * W j ns.length + Wt ns j := by simp [Wt, wl]
theorem Wt_nil {j : Nat} : Wt [] j = 0 := rfl
/-- what a turn gives, L places in all -/
def wf (L j : Nat) (d : D) : D := match d with
  | .tup [.int i, .int n] => .int (n * W j (L - 1 - i.toNat))
  | _ => .non
theorem wf_map (L j : Nat) : ∀ (ns : List Int) (p : Nat), p + ns.length = L → (numbered p (Is ns)).map (wf L j) = Is (wl ns j)
  | [], _, _ => rfl
  | n :: ns, p, e => by
    rw [Is_cons, numbered, List.map_cons, wf_map L j ns (p + 1) (by simp at e; omega)]
    show D.int _ :: _ = Is (_ :: _)
    rw [Is_cons]
    congr 3
    simp at e ⊢
    congr 1
    omega
theorem num_mem {ns : List Int} {p : Nat} {d : D} (m : d ∈ numbered p (Is ns)) : ∃ i n, d = .tup [.int ((p + i : Nat) : Int), .int n] ∧ i < ns.length ∧ n ∈ ns := by
  obtain ⟨i, hi⟩ := List.getElem?_of_mem m
  obtain ⟨e, he, rfl⟩ := numbered_at hi
  obtain ⟨n, hn, rfl⟩ := Is_get he
  exact ⟨i, n, rfl, (List.getElem?_eq_some_iff.mp hn).1, List.mem_of_getElem? hn⟩
theorem sml {n : Int} (q : n.natAbs ≤ 1000) : small64 n = true := by
  simp only [small64, Bool.and_eq_true, decide_eq_true_eq]; omega

/-- what answers leave, c from the place before -/
def Yc : Int → List Int → List Int → List Int
  | c, q :: qs, n :: ns => (q + c) :: Yc (n - q) qs ns
  | _, _, _ => []
theorem yc_go : ∀ (c : Int) (qs ns : List Int), qs.length = ns.length → List.zipWith (· + ·) qs ((c :: rest ns qs).dropLast) = Yc c qs ns
  | _, [], [], _ => rfl
  | c, q :: qs, n :: ns, e => by
    have ih := yc_go (n - q) qs ns (by simpa using e)
    simp only [rest, List.zipWith_cons_cons, List.dropLast_cons_cons, Yc] at ih ⊢
    rw [ih]
theorem yes_yc {qs ns : List Int} (e : qs.length = ns.length) : yes ns qs = Yc 0 qs ns := by
  rw [← yc_go 0 qs ns e, yes]
  cases qs with
  | nil => rfl
  | cons q qs =>
    cases ns with
    | nil => simp at e
    | cons n ns => simp [rest]
theorem no_yc {qs ns : List Int} (e : qs.length = ns.length) : no ns qs = Yc 0 (rest ns qs) ns := by
  rw [no]; exact yes_yc (len_rest' e)
def Wp (j : Nat) : Nat → Int
  | 0 => 0
  | l + 1 => W j l
theorem W_up (j l : Nat) : W (j + 1) l = W j l + Wp j l := by
  cases l with
  | zero => rw [W_zero, W_zero]; rfl
  | succ l => rfl
theorem yc_len : ∀ {c : Int} {qs ns : List Int}, qs.length = ns.length → (Yc c qs ns).length = ns.length
  | _, [], [], _ => rfl
  | c, q :: qs, n :: ns, e => by simp [Yc, yc_len (c := n - q) (qs := qs) (ns := ns) (by simpa using e)]
/-- weights behind both answers -/
theorem wt_sum (j : Nat) : ∀ (c c' : Int) (qs ns : List Int), qs.length = ns.length → Wt (Yc c qs ns) j + Wt (Yc c' (rest ns qs) ns) j = (c + c') * Wp j ns.length + Wt ns (j + 1)
  | c, c', [], [], _ => by simp [Yc, rest, Wt_nil, Wp]
  | c, c', q :: qs, n :: ns, e => by
    have e' : qs.length = ns.length := by simpa using e
    have ih := wt_sum j (n - q) (n - (n - q)) qs ns e'
    have er : rest (n :: ns) (q :: qs) = (n - q) :: rest ns qs := rfl
    rw [er]
    simp only [Yc, Wt_cons, yc_len e', yc_len (len_rest' e'), List.length_cons, W_up j ns.length]
    have w : Wp j (ns.length + 1) = W j ns.length := rfl
    rw [w]
    have h1 : (n - q + (n - (n - q))) * Wp j ns.length = n * Wp j ns.length := by congr 1; omega
    rw [h1] at ih
    simp only [Int.add_mul, Int.mul_add, Int.sub_mul] at ih ⊢
    omega
theorem wt_both {qs ns : List Int} (j : Nat) (e : qs.length = ns.length) : Wt (yes ns qs) j + Wt (no ns qs) j = Wt ns (j + 1) := by
  rw [yes_yc e, no_yc e, wt_sum j 0 0 qs ns e]; simp
def Nn (ns : List Int) : Prop := ∀ n ∈ ns, 0 ≤ n
theorem Nn.tl {n : Int} {ns : List Int} (p : Nn (n :: ns)) : Nn ns := fun m h => p m (.tail _ h)
theorem wt_two : ∀ {ns : List Int} {j : Nat}, Nn ns → Wt ns (j + 1) ≤ 2 * Wt ns j
  | [], _, _ => by simp [Wt_nil]
  | n :: ns, j, p => by
    have ih := wt_two (ns := ns) (j := j) p.tl
    have n0 := p n (.head _)
    have := Int.mul_le_mul_of_nonneg_left (W_two j ns.length) n0
    rw [Wt_cons, Wt_cons, Int.mul_add]
    have e : n * (2 * W j ns.length) = 2 * (n * W j ns.length) := by rw [← Int.mul_assoc, Int.mul_comm n 2, Int.mul_assoc]
    omega
theorem nn_sum : ∀ {ns : List Int}, Nn ns → 0 ≤ ns.sum
  | [], _ => by simp
  | n :: ns, p => by
    have := nn_sum p.tl
    have := p n (.head _)
    simp; omega
theorem wt_le {B : Int} {j : Nat} (hB : ∀ l, l ≤ 3 → W j l ≤ B) : ∀ {ns : List Int}, Nn ns → ns.length ≤ 4 → Wt ns j ≤ ns.sum * B
  | [], _, _ => by simp [Wt_nil]
  | n :: ns, p, l => by
    have ih := wt_le hB (ns := ns) p.tl (by simp at l; omega)
    have n0 := p n (.head _)
    have := Int.mul_le_mul_of_nonneg_left (hB ns.length (by simp at l; omega)) n0
    rw [Wt_cons, List.sum_cons, Int.add_mul]
    omega
theorem wt_0 : ∀ {ns : List Int} {j : Nat}, Nn ns → 0 ≤ Wt ns j
  | [], _, _ => by simp [Wt_nil]
  | n :: ns, j, p => by
    have ih := wt_0 (ns := ns) (j := j) p.tl
    have n0 := p n (.head _)
    have w := W_pos j ns.length
    have := Int.mul_nonneg n0 (show 0 ≤ W j ns.length by omega)
    rw [Wt_cons]; omega
def Hv (ns : List Int) (j : Nat) : Bool := decide (1 < ns.sum) && decide ((2 : Int) ^ j < Wt ns j)

theorem hv_16 {ns : List Int} (p : Nn ns) (l : ns.length ≤ 4) (s : ns.sum ≤ 40) : Hv ns 16 = false := by
  have b : ∀ l, l ≤ 3 → W 16 l ≤ 697 := by decide +kernel
  have h1 := wt_le b p l
  have h2 : ns.sum * 697 ≤ 40 * 697 := Int.mul_le_mul_of_nonneg_right s (by decide)
  have : ¬ (2 : Int) ^ 16 < Wt ns 16 := by
    have : (2 : Int) ^ 16 = 65536 := by decide
    omega
  rw [Hv, decide_eq_false this, Bool.and_false]
theorem hv_mono {ns : List Int} {j : Nat} (p : Nn ns) (l : ns.length ≤ 4) (q : Hv ns j = false) : Wt ns j ≤ (2 : Int) ^ j := by
  unfold Hv at q
  by_cases z : 1 < ns.sum
  · simp [z] at q; exact q
  · have h1 := wt_le (B := (2 : Int) ^ j) (j := j) (fun l _ => W_pow j l) p l
    have h0 := nn_sum p
    have h2 : ns.sum * (2 : Int) ^ j ≤ 1 * (2 : Int) ^ j := Int.mul_le_mul_of_nonneg_right (by omega) (Int.le_of_lt (Int.pow_pos (by decide)))
    omega
theorem hv_up {ns : List Int} {j : Nat} (p : Nn ns) (l : ns.length ≤ 4) (q : Hv ns j = false) : ∀ d, Wt ns (j + d) ≤ (2 : Int) ^ (j + d)
  | 0 => hv_mono p l q
  | d + 1 => by
    have ih := hv_up p l q d
    have := wt_two (j := j + d) p
    rw [← Nat.add_assoc, Int.pow_succ]
    omega
theorem hv_le {ns : List Int} {i j : Nat} (p : Nn ns) (l : ns.length ≤ 4) (q : Hv ns i = false) (h : i ≤ j) : Hv ns j = false := by
  have := hv_up p l q (j - i)
  rw [show i + (j - i) = j by omega] at this
  have z : ¬ (2 : Int) ^ j < Wt ns j := by omega
  simp [Hv, z]
/-- the character -/
def chr (ns : List Int) : Nat := (List.range 17).findIdx fun j => !Hv ns j
theorem chr_ok {ns : List Int} (p : Nn ns) (l : ns.length ≤ 4) (s : ns.sum ≤ 40) : chr ns ≤ 16 ∧ Hv ns (chr ns) = false ∧ ∀ i, i < chr ns → Hv ns i = true := by
  have hl : chr ns < (List.range 17).length := List.findIdx_lt_length_of_exists ⟨16, by simp, by simp [hv_16 p l s]⟩
  have hl' : chr ns < 17 := by simpa using hl
  have e := List.findIdx_getElem (xs := List.range 17) (p := fun j => !Hv ns j) (w := hl)
  have g : (List.range 17)[chr ns] = chr ns := List.getElem_range _
  have e2 : Hv ns ((List.range 17)[chr ns]) = false := by
    have e0 : (!Hv ns ((List.range 17)[chr ns])) = true := e
    simpa using e0
  rw [g] at e2
  refine ⟨by omega, e2, fun i hi => ?_⟩
  have := List.not_of_lt_findIdx (xs := List.range 17) (p := fun j => !Hv ns j) hi
  simpa using this
theorem chr_both {ns qs : List Int} (p : Nn ns) (l : ns.length ≤ 4) (s : ns.sum ≤ 40) (py : Nn (yes ns qs)) (ly : (yes ns qs).length ≤ 4) (sy : (yes ns qs).sum ≤ 40) (pn : Nn (no ns qs)) (ln : (no ns qs).length ≤ 4) (sn : (no ns qs).sum ≤ 40)
    (e : qs.length = ns.length) : chr ns ≤ max (chr (yes ns qs)) (chr (no ns qs)) + 1 := by
  obtain ⟨a1, a2, a3⟩ := chr_ok p l s
  obtain ⟨b1, b2, b3⟩ := chr_ok py ly sy
  obtain ⟨c1, c2, c3⟩ := chr_ok pn ln sn
  by_cases q : chr ns ≤ max (chr (yes ns qs)) (chr (no ns qs)) + 1
  · exact q
  · exfalso
    have hj := a3 (max (chr (yes ns qs)) (chr (no ns qs)) + 1) (by omega)
    generalize ej : max (chr (yes ns qs)) (chr (no ns qs)) = j at *
    have h1 := hv_up py ly b2 (j - chr (yes ns qs))
    have h2 := hv_up pn ln c2 (j - chr (no ns qs))
    rw [show chr (yes ns qs) + (j - chr (yes ns qs)) = j by omega] at h1
    rw [show chr (no ns qs) + (j - chr (no ns qs)) = j by omega] at h2
    have h3 := wt_both j e
    have : ¬ (2 : Int) ^ (j + 1) < Wt ns (j + 1) := by rw [Int.pow_succ]; omega
    simp [Hv, this] at hj
end EV
/-! EV35: all questions, by turns -/
namespace EV
open PySem L2
def grow1 (n : Int) (b : List Int) : List (List Int) := (List.range (n + 1).toNat).map fun (a : Nat) => b ++ [(a : Int)]
def grow (xs : List (List Int)) (n : Int) : List (List Int) := xs.flatMap (grow1 n)
/-- all questions, rising -/
def allq (ns : List Int) : List (List Int) := ns.foldl grow [[]]
def encQ (xs : List (List Int)) : List D := xs.map fun q => D.tup (Is q)
theorem allq_snoc {ns : List Int} {n : Int} : allq (ns ++ [n]) = grow (allq ns) n := by simp [allq]
theorem grow_len {n : Int} (n0 : 0 ≤ n) : ∀ (xs : List (List Int)), ((grow xs n).length : Int) = xs.length * (n + 1)
  | [] => by simp [grow]
  | x :: xs => by
    have ih := grow_len n0 xs
    simp only [grow, List.flatMap_cons, List.length_append, List.length_cons] at ih ⊢
    have e : (grow1 n x).length = (n + 1).toNat := by simp [grow1]
    rw [e]
    have : (((n + 1).toNat : Nat) : Int) = n + 1 := by omega
    rw [Int.natCast_add, ih, this, Int.natCast_add, Int.add_mul]
    simp; omega
theorem allq_len : ∀ (ns : List Int) (r : List Int), ns = r.reverse → Nn ns → ((allq ns).length : Int) = prod1 ns
  | _, [], rfl, _ => rfl
  | _, n :: r, rfl, p => by
    rw [List.reverse_cons] at p ⊢
    have ih := allq_len r.reverse r rfl fun m hm => p m (List.mem_append_left _ hm)
    rw [allq_snoc, grow_len (p n (by simp)), prod_snoc, ih]
theorem allq_n {ns : List Int} (p : Nn ns) : ((allq ns).length : Int) = prod1 ns := allq_len ns ns.reverse (by simp) p
theorem allq_leq' : ∀ (ns : List Int) (r : List Int), ns = r.reverse → ∀ q ∈ allq ns, leqB q ns = true
  | _, [], rfl, q, hq => by
    simp [allq] at hq
    subst hq
    rfl
  | _, n :: r, rfl, q, hq => by
    rw [List.reverse_cons] at hq ⊢
    rw [allq_snoc, grow, List.mem_flatMap] at hq
    obtain ⟨b, hb, hq⟩ := hq
    obtain ⟨a, ha, rfl⟩ := List.mem_map.mp hq
    have := allq_leq' r.reverse r rfl b hb
    rw [List.mem_range] at ha
    exact leq_snoc this (by omega) (by omega)
theorem allq_leq {ns q : List Int} (hq : q ∈ allq ns) : leqB q ns = true := allq_leq' ns ns.reverse (by simp) q hq
def qB0 : DS := sExtend 3 (asVal (dComp [5] (.name 5) (dRng1 (daCons (dOp2 dAdd (dVar 2) (dC (.int 1))) (daNil))) (dtYes) (dOp2 dAdd (dVar 4) (dTup (daCons (dVar 5) (daNil))))))
def qB1 : DS := sSeq (sOwn 3 (dDisp (daNil))) (sSeq (sFor (.name 4) (dItems (dVar 1)) qB0) (sFrz [3] (sSet 1 (dVar 3))))
def qM : DS := sSeq (sSet 1 (dLst (daCons (dTup (daNil)) (daNil)))) (sSeq (sFor (.name 2) (dItems (dVar 0)) qB1) (sRet (dVar 1)))
def IqO (v : D) (ns : List Int) (n : Nat) (env : Ev) : Prop := ∃ (x2 x3 x4 x5 : Sl), env = [.val v, .val (.lst (encQ (allq (ns.take n)))), x2, x3, x4, x5]
def IqN (v : D) (xs : List (List Int)) (m : Int) (n : Nat) (env : Ev) : Prop := ∃ (x4 x5 : Sl), env = [.val v, .val (.lst (encQ xs)), .val (.int m), .own (encQ (grow (xs.take n) m)), x4, x5]
section
variable {fn : Fns} {h : Cells}
theorem encQ_get {xs : List (List Int)} {i : Nat} {d : D} (e : (encQ xs)[i]? = some d) : ∃ q, xs[i]? = some q ∧ d = .tup (Is q) := by
  rw [encQ, List.getElem?_map] at e
  cases q : xs[i]? with
  | none => rw [q] at e; cases e
  | some n => rw [q] at e; exact ⟨n, rfl, (Option.some.inj e).symm⟩
theorem encQ_len {xs : List (List Int)} : (encQ xs).length = xs.length := by simp [encQ]
theorem q_step {v : D} {xs : List (List Int)} {m : Int} {ys : List (List Int)} {q : List Int} {x5 : Sl} (m0 : 0 ≤ m) (m1 : m ≤ 100000) (l : q.length ≤ 1000) (z : ys.length + (m + 1).toNat ≤ 16777216) :
    qB0 fn [.val v, .val (.lst (encQ xs)), .val (.int m), .own (encQ ys), .val (.tup (Is q)), x5] h = .ok (.nx, [.val v, .val (.lst (encQ xs)), .val (.int m), .own (encQ (ys ++ grow1 m q)), .val (.tup (Is q)), x5]) h := by
  have w1 : -1000000000 ≤ m + 1 := by omega
  have w2 : m + 1 ≤ 1000000000 := by omega
  have w3 : (upTo 0 (m + 1).toNat).length = (m + 1).toNat := len_up
  have w4 : (m + 1).toNat ≤ 16777216 := by omega
  have w5 : q.length + 1 ≤ 16777216 := by omega
  simp [qB0, w1, w2, w3, w4]
  rw [compL_map (fun d => .tup (Is q ++ [d])) fun d hd => by
    obtain ⟨j, hj⟩ := List.getElem?_of_mem hd
    obtain ⟨rfl, _⟩ := toNat_upTo hj
    exact ⟨[.val v, .val (.lst (encQ xs)), .val (.int m), .own (encQ ys), .val (.tup (Is q)), .val (.int j)], by simp, rfl, by simp [w5], rfl⟩]
  have e : (upTo 0 (m + 1).toNat).map (fun d => D.tup (Is q ++ [d])) = encQ (grow1 m q) := by
    rw [upTo, encQ, grow1, List.map_map, List.map_map]
    refine List.map_congr_left fun a _ => ?_
    simp [Is]
  have w6 : (encQ ys).length + (encQ (grow1 m q)).length ≤ 16777216 := by rw [encQ_len, encQ_len]; simpa [grow1] using z
  rw [e]
  simp [w6]
  simp [encQ]
theorem grow_take {xs : List (List Int)} {t : Nat} {q : List Int} {m : Int} (hn : xs[t]? = some q) : grow (xs.take (t + 1)) m = grow (xs.take t) m ++ grow1 m q := by
  rw [List.take_add_one, hn]
  simp [grow]
theorem q_turn {v : D} {xs : List (List Int)} {m : Int} {x3 x4 x5 : Sl} (m0 : 0 ≤ m) (m1 : m ≤ 1000) (l : ∀ q ∈ xs, q.length ≤ 1000) (z : xs.length ≤ 10000) :
    ∃ y3 y4 y5, qB1 fn [.val v, .val (.lst (encQ xs)), .val (.int m), x3, x4, x5] h = .ok (.nx, [.val v, .val (.lst (encQ (grow xs m))), .val (.int m), y3, y4, y5]) h := by
  obtain ⟨env2, e2, y4, y5, rfl⟩ := forL_pure (fn := fn) (h := h) (pt := .name 4) (body := qB0) (IqN v xs m) (ds := encQ xs) (env := [.val v, .val (.lst (encQ xs)), .val (.int m), .own [], x4, x5]) 0 ⟨x4, x5, rfl⟩ (by
    rintro i d env hd ⟨y4, y5, rfl⟩
    obtain ⟨q, hq, rfl⟩ := encQ_get hd
    have hi : i < xs.length := (List.getElem?_eq_some_iff.mp hq).1
    have lz : ((grow (xs.take i) m).length : Int) ≤ 10000 * 1001 := by
      rw [grow_len m0]
      exact Int.mul_le_mul (by rw [List.length_take]; omega) (by omega) (by omega) (by decide)
    rw [Nat.zero_add]
    refine ⟨[.val v, .val (.lst (encQ xs)), .val (.int m), .own (encQ (grow (xs.take i) m)), .val (.tup (Is q)), y5], by simp, .nx, _, .inl rfl, q_step m0 (by omega) (l q (List.mem_of_getElem? hq)) (by omega), .val (.tup (Is q)), y5, by rw [grow_take hq]⟩)
  rw [Nat.zero_add, encQ_len, List.take_length] at e2
  refine ⟨.val (.lst (encQ (grow xs m))), y4, y5, ?_⟩
  simp [qB1, e2]
theorem ev_allq {ns : List Int} (p : Nn ns) (n1 : ∀ n ∈ ns, n ≤ 1000) (l : ns.length ≤ 1000) (hp : prod1 ns ≤ 10000) : bodyF 6 qM fn [.tup (Is ns)] h = .ok (.lst (encQ (allq ns))) h := by
  obtain ⟨env2, e2, x2, x3, x4, x5, rfl⟩ := forL_pure (fn := fn) (h := h) (pt := .name 2) (body := qB1) (IqO (.tup (Is ns)) ns) (ds := Is ns) (env := [.val (.tup (Is ns)), .val (.lst [.tup []]), .no, .no, .no, .no]) 0 ⟨.no, .no, .no, .no, rfl⟩ (by
    rintro i d env hd ⟨x2, x3, x4, x5, rfl⟩
    obtain ⟨n, hn, rfl⟩ := Is_get hd
    have mn := List.mem_of_getElem? hn
    rw [Nat.zero_add]
    have pt : Nn (ns.take i) := fun m hm => p m (List.mem_of_mem_take hm)
    obtain ⟨y3, y4, y5, e⟩ := q_turn (fn := fn) (h := h) (v := .tup (Is ns)) (xs := allq (ns.take i)) (m := n) (x3 := x3) (x4 := x4) (x5 := x5) (p n mn) (n1 n mn) (fun q hq => by rw [leq_len (allq_leq hq), List.length_take]; omega) (by
      have := allq_n pt
      have := prod_le p i
      omega)
    refine ⟨[.val (.tup (Is ns)), .val (.lst (encQ (allq (ns.take i)))), .val (.int n), x3, x4, x5], by simp, .nx, _, .inl rfl, e, .val (.int n), y3, y4, y5, by rw [take_snoc hn, allq_snoc]⟩)
  rw [Nat.zero_add, len_Is, List.take_length] at e2
  simp [qM, e2]
end
end EV
/-! EV36: what an answer leaves, by a law's own look -/
namespace EV
open PySem L2
def bhM : DS := sSeq (sSet 3 (asVal (dComp [5, 6] (.tup [.name 5, .name 6]) (dZipX (daCons (dVar 1) (daCons (dVar 0) (daNil)))) (dtYes) (dIf (dTruE (dVar 2)) (dVar 5) (dOp2 dSub (dVar 6) (dVar 5)))))) (sSeq (sSet 4 (asVal (dComp [6, 7] (.tup [.name 6, .name 7]) (dZipX (daCons (dVar 0) (daCons (dVar 3) (daNil)))) (dtYes) (dOp2 dSub (dVar 6) (dVar 7))))) (sRet (dOpN cTuple (daCons (asVal (dComp [8] (.name 8) (dRng1 (daCons (dOpN cLen (daCons (dVar 0) (daNil))) (daNil))) (dtYes) (dOp2 dAdd (dOp2 dIx (dVar 3) (dVar 8)) (dIf (dtB (dOp2 dGt (dVar 8) (dC (.int 0)))) (dOp2 dIx (dVar 4) (dOp2 dSub (dVar 8) (dC (.int 1)))) (dC (.int 0)))))) (daNil)))))
def keptL (ns qs : List Int) (b : Bool) : List Int := List.zipWith (fun a n => if b then a else n - a) qs ns
theorem kept_t : ∀ {ns qs : List Int}, qs.length = ns.length → keptL ns qs true = qs
  | [], [], _ => rfl
  | n :: ns, q :: qs, e => by
    have ih := kept_t (ns := ns) (qs := qs) (by simpa using e)
    simp only [keptL, List.zipWith_cons_cons, if_true] at ih ⊢
    rw [ih]
theorem kept_f : ∀ {ns qs : List Int}, keptL ns qs false = rest ns qs
  | [], qs => by simp [keptL, rest]
  | n :: ns, [] => by simp [keptL, rest]
  | n :: ns, q :: qs => by
    have ih := kept_f (ns := ns) (qs := qs)
    simp only [keptL, rest, List.zipWith_cons_cons, Bool.false_eq_true, if_false] at ih ⊢
    rw [ih]
theorem at_i {as : List Int} {i : Nat} (hi : i < as.length) : atI (Is as) (i : Int) = some (.int (gd as i)) := by
  unfold atI ixN
  have a1 : (0 : Int) ≤ i := by omega
  have a2 : (i : Int) < ((Is as).length : Int) := by rw [len_Is]; omega
  rw [if_pos a1, if_pos a2]
  show (Is as)[(i : Int).toNat]? = _
  rw [Is, List.getElem?_map, show (i : Int).toNat = i by omega, gd_get hi]; rfl
def carF (as rs : List Int) (d : D) : D := match d with
  | .int i => .int (gd as i.toNat + if 0 < i then gd rs (i.toNat - 1) else 0)
  | _ => .non
theorem car_map {as rs : List Int} {L : Nat} (ha : as.length = L) (hr : rs.length = L) : (upTo 0 L).map (carF as rs) = Is (List.zipWith (· + ·) as (0 :: rs.dropLast)) := by
  refine List.ext_getElem? fun i => ?_
  by_cases hi : i < L
  · rw [List.getElem?_map, Is, List.getElem?_map, zip_at ha hr hi]
    rw [show (upTo 0 L)[i]? = some (.int i) from at_up (n := L) (by omega)]
    simp only [Option.map_some, carF]
    by_cases z : 1 ≤ i
    · have z' : (0 : Int) < (i : Int) := by omega
      rw [if_pos z, if_pos z']; rfl
    · have z' : ¬ (0 : Int) < (i : Int) := by omega
      rw [if_neg z, if_neg z']; rfl
  · rw [List.getElem?_eq_none (by simp [upTo]; omega), List.getElem?_eq_none]
    rw [len_Is, List.length_zipWith]
    omega
theorem ev_behind {fn : Fns} {h : Cells} {ns qs : List Int} {b : Bool} (e : qs.length = ns.length) (l : ns.length ≤ 1000) : bodyF 9 bhM fn [.tup (Is ns), .tup (Is qs), .bl b] h = .ok (.tup (Is (if b then yes ns qs else no ns qs))) h := by
  have l1 : (pairs (Is qs) (Is ns)).length ≤ 16777216 := by rw [pairs_len, len_Is, len_Is]; omega
  have k1 : (keptL ns qs b).length = ns.length := by rw [keptL, List.length_zipWith]; omega
  have l2 : (pairs (Is ns) (Is (keptL ns qs b))).length ≤ 16777216 := by rw [pairs_len, len_Is, len_Is]; omega
  simp [bhM, l1]
  rw [compL_map (op2 fun a n => if b then a else n - a) fun d hd => by
    obtain ⟨x, y, rfl⟩ := pairs_mem2 hd
    refine ⟨[.val (.tup (Is ns)), .val (.tup (Is qs)), .val (.bl b), .no, .no, .val (.int x), .val (.int y), .no, .no], by simp, rfl, ?_, rfl⟩
    cases b <;> simp [op2]]
  rw [op2_map]
  show R.bind (R.bind _ _) _ = _
  rw [show List.zipWith (fun a n => if b then a else n - a) qs ns = keptL ns qs b from rfl]
  simp [l2]
  rw [compL_map (op2 (· - ·)) fun d hd => by
    obtain ⟨x, y, rfl⟩ := pairs_mem2 hd
    exact ⟨[.val (.tup (Is ns)), .val (.tup (Is qs)), .val (.bl b), .val (.lst (Is (keptL ns qs b))), .no, .no, .val (.int x), .val (.int y), .no], by simp, rfl, by simp [op2], rfl⟩]
  rw [op2_map]
  have w1 : (-1000000000 : Int) ≤ (ns.length : Int) := by omega
  have w2 : (ns.length : Int) ≤ 1000000000 := by omega
  have w3 : (upTo 0 ns.length).length ≤ 16777216 := by rw [len_up]; omega
  have k2 : (List.zipWith (· - ·) ns (keptL ns qs b)).length = ns.length := by rw [List.length_zipWith]; omega
  simp [w1, w2, w3]
  rw [compL_map (carF (keptL ns qs b) (List.zipWith (· - ·) ns (keptL ns qs b))) fun d hd => by
    obtain ⟨j, hj⟩ := List.getElem?_of_mem hd
    obtain ⟨rfl, hl⟩ := toNat_upTo (n := ns.length) hj
    refine ⟨[.val (.tup (Is ns)), .val (.tup (Is qs)), .val (.bl b), .val (.lst (Is (keptL ns qs b))), .val (.lst (Is (List.zipWith (· - ·) ns (keptL ns qs b)))), .no, .no, .no, .val (.int j)], by simp, rfl, ?_, rfl⟩
    have hl' : j < ns.length := by omega
    have a1 := at_i (as := keptL ns qs b) (i := j) (by omega)
    by_cases z : 0 < j
    · have a2 := at_i (as := List.zipWith (· - ·) ns (keptL ns qs b)) (i := j - 1) (by omega)
      have ej : ((j - 1 : Nat) : Int) = (j : Int) - 1 := by omega
      rw [ej] at a2
      simp [a1, z, a2, carF]
    · simp [a1, z, carF]]
  rw [car_map k1 k2]
  simp
  cases b with
  | true =>
    rw [if_pos rfl, kept_t e]; rfl
  | false =>
    rw [kept_f]; rfl
theorem cts_mk {ns : List Int} (p : Nn ns) (l1 : 1 ≤ ns.length) (l4 : ns.length ≤ 4) (s : ns.sum ≤ 40) : Cts ns := by
  refine ⟨?_, p, l1, l4, s⟩
  have a : (Is ns).all isCount = true := by
    rw [List.all_eq_true]
    intro x hx
    obtain ⟨n, hn, rfl⟩ := List.mem_map.mp hx
    exact decide_eq_true (p n hn)
  simp only [areCounts, len_Is, intOf_Is, a, decide_eq_true l1, decide_eq_true l4, decide_eq_true s, Bool.and_true]
theorem yc_sum : ∀ {c : Int} {qs ns : List Int}, leqB qs ns = true → 0 ≤ c → Nn (Yc c qs ns) ∧ (Yc c qs ns).sum ≤ c + ns.sum
  | c, [], [], _, h => by simp [Yc, Nn, h]
  | c, q :: qs, n :: ns, e, h => by
    simp only [leqB, Bool.and_eq_true, decide_eq_true_eq] at e
    obtain ⟨h1, h2⟩ := yc_sum (c := n - q) (qs := qs) (ns := ns) e.2 (by omega)
    refine ⟨fun m hm => ?_, ?_⟩
    · rcases List.mem_cons.mp hm with rfl | hm
      · omega
      · exact h1 m hm
    · simp only [Yc, List.sum_cons] at h2 ⊢
      omega
theorem cts_yes {ns qs : List Int} (c : Cts ns) (q : leqB qs ns = true) : Cts (yes ns qs) := by
  have e := leq_len q
  obtain ⟨h1, h2⟩ := yc_sum (c := 0) q (by decide)
  rw [yes_yc e]
  refine cts_mk h1 ?_ ?_ ?_
  · rw [yc_len e]; exact c.l1
  · rw [yc_len e]; exact c.l4
  · have := c.s; omega
theorem cts_no {ns qs : List Int} (c : Cts ns) (q : leqB qs ns = true) : Cts (no ns qs) := cts_yes c (leq_rest q)
/-- |a - b| as abs tells it -/
def absI (i : Int) : Int := if i < 0 then -i else i
/-- how a question leans -/
def Ln (ns qs : List Int) (j : Nat) : Int := absI (Wt (yes ns qs) j - Wt (no ns qs) j)
@[simp] theorem e_isNN {h : Cells} : dIs .non .non h = .ok (.bl true) h := (rfl)
@[simp] theorem e_isIN {h : Cells} {i : Int} : dIs (.int i) .non h = .ok (.bl false) h := (rfl)
end EV
/-! EV37: pots and draws of any law -/
namespace EV
open PySem L2
/-- a pot stands at cell n -/
def Pt (n : Nat) (h : Cells) : Prop := ∃ a b, h[n]? = some (.lst [.int a, .int b])
theorem Pt.lt {n : Nat} {h : Cells} (p : Pt n h) : n < h.length := by
  obtain ⟨a, b, e⟩ := p
  exact (List.getElem?_eq_some_iff.mp e).1
/-- only the pot changed -/
def Dr (n : Nat) (h h' : Cells) : Prop := ∃ a b, h' = h.set n (.lst [.int a, .int b])
theorem Dr.pt {n : Nat} {h h' : Cells} (p : Pt n h) (d : Dr n h h') : Pt n h' := by
  obtain ⟨a, b, rfl⟩ := d
  exact ⟨a, b, List.getElem?_set_self p.lt⟩
theorem Dr.trans {n : Nat} {h h' h'' : Cells} (d : Dr n h h') (e : Dr n h' h'') : Dr n h h'' := by
  obtain ⟨a, b, rfl⟩ := d
  obtain ⟨a', b', rfl⟩ := e
  exact ⟨a', b', by rw [List.set_set]⟩
def potM1 (c1 c2 c3 c4 c5 : Int) : DS := sSeq (sSet 2 (dIf (dtB (dOp2 dLt (dVar 1) (dOpN cLen (daCons (dVar 0) (daNil))))) (dOpN cAbs (daCons (dOp2 dIx (dVar 0) (dVar 1)) (daNil))) (dOp2 dAdd (dOp2 dMul (dC (.int c1)) (dVar 1)) (dC (.int c2))))) (sRet (asCell (dDisp (daCons (dOpN cMaxL (daCons (dC (.int 0)) (daCons (dOp2 dSub (dVar 2) (dOp2 dPow (dC (.int 10)) (dC (.int 18)))) (daNil)))) (daCons (dOp2 dAdd (dOp2 dMod (dOpN cInt (daCons (dOp2 dAdd (dOp2 dAdd (dOp2 dMul (dOp2 dMod (dOpN cInt (daCons (dVar 2) (daNil))) (dC (.int 2147483549))) (dC (.int c3))) (dOp2 dMul (dC (.int c4)) (dVar 1))) (dC (.int c5))) (daNil))) (dC (.int 2147483563))) (dC (.int 1))) (daNil))))))
def potM2 (c1 c2 c3 c4 c5 : Int) : DS := sSeq (sSet 2 (dOp2 dAdd (dOp2 dMul (dC (.int c1)) (dVar 1)) (dC (.int c2)))) (sSeq (sIf (dtB (dOp2 dLt (dVar 1) (dOpN cLen (daCons (dVar 0) (daNil))))) (sSet 2 (dOpN cAbs (daCons (dOp2 dIx (dVar 0) (dVar 1)) (daNil)))) (sNext)) (sRet (asCell (dDisp (daCons (dOpN cMaxL (daCons (dC (.int 0)) (daCons (dOp2 dSub (dVar 2) (dOp2 dPow (dC (.int 10)) (dC (.int 18)))) (daNil)))) (daCons (dOp2 dAdd (dOp2 dMod (dOpN cInt (daCons (dOp2 dAdd (dOp2 dAdd (dOp2 dMul (dOp2 dMod (dOpN cInt (daCons (dVar 2) (daNil))) (dC (.int 2147483549))) (dC (.int c3))) (dOp2 dMul (dC (.int c4)) (dVar 1))) (dC (.int c5))) (daNil))) (dC (.int 2147483563))) (dC (.int 1))) (daNil)))))))
section
variable {fn : Fns} {h : Cells}
theorem script_at {ns : List Int} {k : Nat} (q : k < ns.length) : ∃ i, atI (ns.map D.int) (k : Int) = some (.int i) := by
  refine ⟨ns[k], ?_⟩
  unfold atI ixN
  have a1 : (0 : Int) ≤ k := by omega
  have a2 : (k : Int) < ((ns.map D.int).length : Int) := by rw [List.length_map]; omega
  rw [if_pos a1, if_pos a2]
  show (ns.map D.int)[(k : Int).toNat]? = _
  rw [List.getElem?_map, show (k : Int).toNat = k by omega, List.getElem?_eq_getElem q]; rfl
theorem pow18 : dPow (.int 10) (.int 18) h = .ok (.int 1000000000000000000) h := by
  unfold dPow
  rfl
theorem ev_pot1 {ns : List Int} {k : Nat} {c1 c2 c3 c4 c5 : Int} (s1 : c1.natAbs ≤ 1000000000) (s3 : c3.natAbs ≤ 1000000000) (s4 : c4.natAbs ≤ 1000000000) :
    wp (bodyF 3 (potM1 c1 c2 c3 c4 c5) fn [.frz (ns.map D.int), .int k] h) fun d h' => d = .obj h.length ∧ ∃ a b, h' = h ++ [.lst [.int a, .int b]] := by
  have w1 : small64 c1 = true := by simp only [small64, Bool.and_eq_true, decide_eq_true_eq]; omega
  have w3 : small64 c3 = true := by simp only [small64, Bool.and_eq_true, decide_eq_true_eq]; omega
  have w4 : small64 c4 = true := by simp only [small64, Bool.and_eq_true, decide_eq_true_eq]; omega
  by_cases z : k < ns.length
  · obtain ⟨i, ei⟩ := script_at z
    simp [potM1, z, ei, w1, w3, w4, pow18]
  · simp [potM1, z, w1, w3, w4, pow18]
theorem ev_pot2 {ns : List Int} {k : Nat} {c1 c2 c3 c4 c5 : Int} (s1 : c1.natAbs ≤ 1000000000) (s3 : c3.natAbs ≤ 1000000000) (s4 : c4.natAbs ≤ 1000000000) :
    wp (bodyF 3 (potM2 c1 c2 c3 c4 c5) fn [.frz (ns.map D.int), .int k] h) fun d h' => d = .obj h.length ∧ ∃ a b, h' = h ++ [.lst [.int a, .int b]] := by
  have w1 : small64 c1 = true := by simp only [small64, Bool.and_eq_true, decide_eq_true_eq]; omega
  have w3 : small64 c3 = true := by simp only [small64, Bool.and_eq_true, decide_eq_true_eq]; omega
  have w4 : small64 c4 = true := by simp only [small64, Bool.and_eq_true, decide_eq_true_eq]; omega
  by_cases z : k < ns.length
  · obtain ⟨i, ei⟩ := script_at z
    simp [potM2, z, ei, w1, w3, w4, pow18]
  · simp [potM2, z, w1, w3, w4, pow18]
theorem pt_new {a b : Int} : Pt h.length (h ++ [.lst [.int a, .int b]]) := ⟨a, b, by simp⟩
def drawM (c1 c2 m1 m2 q : Int) : DS := sSeq (sIf (dtB (dOp2 dGt (dOp2 dIx (dVar 0) (dC (.int 0))) (dC (.int 0)))) (sSeq (sAsg (dOpN cDivmod (daCons (dOp2 dIx (dVar 0) (dC (.int 0))) (daCons (dVar 1) (daNil)))) (gTup 2 (gsCons (gIx 0 (dC (.int 0))) (gsCons (gName' 2) (gsNil))))) (sRet (dVar 2))) (sNext)) (sSeq (sAsg (dOp2 dMod (dOpN cInt (daCons (dOp2 dAdd (dOp2 dMul (dOp2 dIx (dVar 0) (dC (.int 1))) (dC (.int c1))) (dC (.int c2))) (daNil))) (dC (.int m1))) (gIx 0 (dC (.int 1)))) (sRet (dOp2 dMod (dOpN cInt (daCons (dOp2 dFdiv (dOp2 dMod (dOpN cInt (daCons (dOp2 dMul (dOp2 dIx (dVar 0) (dC (.int 1))) (dOp2 dIx (dVar 0) (dC (.int 1)))) (daNil))) (dC (.int m2))) (dC (.int q))) (daNil))) (dVar 1))))
theorem ix_obj {n : Nat} {i : Int} {ds : List D} (e : h[n]? = some (.lst ds)) : dIx (.obj n) (.int i) h = match atI ds i with
    | some d => .ok d h
    | none => .bad := by
  simp [dIx, seqT, seqL, e]
  all_goals rfl
theorem ev_draw {n : Nat} {s c1 c2 m1 m2 q : Int} (s1 : c1.natAbs ≤ 1000000000) (hm1 : 0 < m1 ∧ m1 ≤ 4000000000) (hm2 : 0 < m2) (hq : 0 < q ∧ q < 1073741824) (p : Pt n h) (h0 : 0 < s) (h1 : s < 1073741824) :
    wp (bodyF 3 (drawM c1 c2 m1 m2 q) fn [.obj n, .int s] h) fun d h' => Dr n h h' ∧ ∃ i, d = .int i ∧ 0 ≤ i ∧ i < s := by
  have hl := p.lt
  obtain ⟨a, b, e⟩ := p
  have w1 : small64 c1 = true := by simp only [small64, Bool.and_eq_true, decide_eq_true_eq]; omega
  by_cases z : 0 < a
  · simp [drawM, ix_obj e, at0, z, h0, h1, e, ixN]
    exact ⟨⟨_, _, rfl⟩, Int.emod_nonneg _ (by omega), Int.emod_lt_of_pos _ h0⟩
  · have g0 := Int.emod_nonneg (b * c1 + c2) (show m1 ≠ 0 by omega)
    have g1 := Int.emod_lt_of_pos (b * c1 + c2) hm1.1
    have w2 : small64 ((b * c1 + c2) % m1) = true := by simp only [small64, Bool.and_eq_true, decide_eq_true_eq]; omega
    have e2 : (h.set n (.lst [.int a, .int ((b * c1 + c2) % m1)]))[n]? = some (.lst [.int a, .int ((b * c1 + c2) % m1)]) := List.getElem?_set_self hl
    simp [drawM, ix_obj e, at0, at1, z, h0, h1, e, ixN, w1, hm1.1, ix_obj e2, w2, hm2, hq.1, hq.2]
    exact ⟨⟨_, _, rfl⟩, Int.emod_nonneg _ (by omega), Int.emod_lt_of_pos _ h0⟩
def pickM (i : Nat) : DS := sRet (dOp2 dIx (dVar 1) (dCall i 2 0 [.p 0, .p 1] [] (daCons (dVar 0) (daCons (dOpN cLen (daCons (dVar 1) (daNil))) (daNil))) (daNil)))
theorem at_int {xs : List D} {i : Int} (h0 : 0 ≤ i) (h1 : i < xs.length) : ∃ x ∈ xs, atI xs i = some x := by
  have hj : i.toNat < xs.length := by omega
  refine ⟨xs[i.toNat], List.getElem_mem hj, ?_⟩
  unfold atI ixN
  simp [h0, h1]
theorem ev_pick {n i : Nat} {xs : List D} (dr : ∀ s h, 0 < s → s < 1073741824 → Pt n h → wp (fn i [.obj n, .int s] h) fun d h' => Dr n h h' ∧ ∃ i, d = .int i ∧ 0 ≤ i ∧ i < s) (p : Pt n h) (h0 : 0 < xs.length) (h1 : xs.length < 1000) (hb : ∀ x ∈ xs, isBor x = false) :
    wp (bodyF 2 (pickM i) fn [.obj n, .lst xs] h) fun d h' => Dr n h h' ∧ d ∈ xs := by
  simp [pickM]
  refine wp_mono (dr xs.length h (by omega) (by omega) p) fun d h' ⟨p, j, e, i0, i1⟩ => ?_
  subst e
  obtain ⟨x, m, e⟩ := at_int i0 i1
  simp [e, hb _ m, p, m]
end
end EV
/-! EV39: what the program's first defs keep, whatever law they stand in -/
namespace EV
open PySem L2
abbrev Fn := List D → Cells → R D
/-- is_integer(value) -/
def is_integer_M : DS := sRet (dAnd (dIsi (dVar 0) [.int]) (dNot (dIsi (dVar 0) [.bl])))
/-- is_count(value) -/
def is_count_M (c_is_integer : Nat) : DS := sRet (dAnd (dCall c_is_integer 1 0 [.p 0] [] (daCons (dVar 0) (daNil)) (daNil)) (dOp2 dGe (dVar 0) (dC (.int 0))))
/-- is_below(value, many) -/
def is_below_M (c_is_count : Nat) : DS := sRet (dAnd (dCall c_is_count 1 0 [.p 0] [] (daCons (dVar 0) (daNil)) (daNil)) (dOp2 dLt (dVar 0) (dVar 1)))
/-- is_row(value, many) -/
def is_row_M : DS := sRet (dAnd (dIsi (dVar 0) [.tup]) (dOp2 dEq (dOpN cLen (daCons (dVar 0) (daNil))) (dVar 1)))
/-- want_at_most(what, limit, number) -/
def want_at_most_M : DS := sIf (dtB (dOp2 dGt (dVar 2) (dVar 1))) (sBad) (sNext)
/-- are_counts_of(value, number) -/
def are_counts_of_M (c_is_count : Nat) : DS := sSeq (sIf (dtOr (dtNot (dTruE (dIsi (dVar 0) [.tup]))) (dtNot (dtB (dChain dLe dLe (dC (.int 1)) (dOpN cLen (daCons (dVar 0) (daNil))) (dOp2 dAdd (dC (.int 3)) (dC (.int 1))))))) (sRet (dC (.bl false))) (sNext)) (sRet (dAnd (dOpN cAll (daCons (asVal (dComp [1] (.name 1) (dItems (dVar 0)) (dtYes) (dCall c_is_count 1 0 [.p 0] [] (daCons (dVar 1) (daNil)) (daNil)))) (daNil))) (dOp2 dLe (dOpN cSum (daCons (dVar 0) (daNil))) (dC (.int 40)))))
/-- want_counts(value) -/
def want_counts_M (c_are_counts_of : Nat) : DS := sSeq (sIf (dtNot (dTruE (dCall c_are_counts_of 1 0 [.p 0] [] (daCons (dVar 0) (daNil)) (daNil)))) (sBad) (sNext)) (sRet (dVar 0))
/-- is_question_of(counts, value, asked, number) -/
def is_question_of_M (c_is_row c_is_below : Nat) : DS := sSeq (sIf (dtNot (dTruE (dCall c_is_row 2 0 [.p 0, .p 1] [] (daCons (dVar 1) (daCons (dOpN cLen (daCons (dVar 0) (daNil))) (daNil))) (daNil)))) (sRet (dC (.bl false))) (sNext)) (sRet (dOpN cAll (daCons (asVal (dComp [2, 3] (.tup [.name 2, .name 3]) (dZipX (daCons (dVar 1) (daCons (dVar 0) (daNil)))) (dtYes) (dCall c_is_below 2 0 [.p 0, .p 1] [] (daCons (dVar 2) (daCons (dOp2 dAdd (dVar 3) (dC (.int 1))) (daNil))) (daNil)))) (daNil))))
/-- rest_of(counts, question, number, asked) -/
def rest_of_M : DS := sRet (dOpN cTuple (daCons (asVal (dComp [2, 3] (.tup [.name 2, .name 3]) (dZipX (daCons (dVar 0) (daCons (dVar 1) (daNil)))) (dtYes) (dOp2 dSub (dVar 2) (dVar 3)))) (daNil)))
/-- behind_yes(counts, question, rest, asked, wrong) -/
def behind_yes_M (c_rest_of : Nat) : DS := sSeq (sSet 2 (dCall c_rest_of 2 0 [.p 0, .p 1] [] (daCons (dVar 0) (daCons (dVar 1) (daNil))) (daNil))) (sRet (dOpN cTuple (daCons (asVal (dComp [3, 4] (.tup [.name 3, .name 4]) (dZipX (daCons (dVar 1) (daCons (dOp2 dAdd (dTup (daCons (dC (.int 0)) (daNil))) (dSlice (dVar 2) (dNoPart) (dPart (dOp1 dNeg (dC (.int 1)))))) (daNil)))) (dtYes) (dOp2 dAdd (dVar 3) (dVar 4)))) (daNil))))
/-- behind_no(counts, question) -/
def behind_no_M (c_behind_yes c_rest_of : Nat) : DS := sRet (dCall c_behind_yes 2 0 [.p 0, .p 1] [] (daCons (dVar 0) (daCons (dCall c_rest_of 2 0 [.p 0, .p 1] [] (daCons (dVar 0) (daCons (dVar 1) (daNil))) (daNil)) (daNil))) (daNil))
/-- behind_of(counts, question, answer) -/
def behind_of_M (c_behind_yes c_behind_no : Nat) : DS := sRet (dIf (dTruE (dVar 2)) (dCall c_behind_yes 2 0 [.p 0, .p 1] [] (daCons (dVar 0) (daCons (dVar 1) (daNil))) (daNil)) (dCall c_behind_no 2 0 [.p 0, .p 1] [] (daCons (dVar 0) (daCons (dVar 1) (daNil))) (daNil)))
/-- want_question(counts, value) -/
def want_question_M (c_is_question_of : Nat) : DS := sSeq (sIf (dtNot (dTruE (dCall c_is_question_of 2 0 [.p 0, .p 1] [] (daCons (dVar 0) (daCons (dVar 1) (daNil))) (daNil)))) (sBad) (sNext)) (sRet (dVar 1))
/-- want_answer(value) -/
def want_answer_M : DS := sSeq (sIf (dtNot (dTruE (dIsi (dVar 0) [.bl]))) (sBad) (sNext)) (sRet (dVar 0))
/-- answered(counts, question, answer) -/
def answered_M (c_want_counts c_want_question c_behind_of c_want_answer_questions : Nat) : DS := sSeq (sExpr (dCall c_want_counts 1 0 [.p 0] [] (daCons (dVar 0) (daNil)) (daNil))) (sSeq (sExpr (dCall c_want_question 2 0 [.p 0, .p 1] [] (daCons (dVar 0) (daCons (dVar 1) (daNil))) (daNil))) (sRet (dCall c_behind_of 3 0 [.p 0, .p 1, .p 2] [] (daCons (dVar 0) (daCons (dVar 1) (daCons (dCall c_want_answer_questions 1 0 [.p 0] [] (daCons (dVar 2) (daNil)) (daNil)) (daNil)))) (daNil))))
/-- want_many(value, least, most) -/
def want_many_M (c_is_count : Nat) : DS := sSeq (sIf (dtOr (dtNot (dTruE (dCall c_is_count 1 0 [.p 0] [] (daCons (dVar 0) (daNil)) (daNil)))) (dtNot (dtB (dChain dLe dLe (dVar 1) (dVar 0) (dVar 2))))) (sBad) (sNext)) (sRet (dVar 0))
/-- is_settled_of(counts) -/
def is_settled_of_M : DS := sRet (dOp2 dLe (dOpN cSum (daCons (dVar 0) (daNil))) (dC (.int 1)))
/-- lies_of(counts) -/
def lies_of_M : DS := sRet (dOp2 dSub (dOpN cLen (daCons (dVar 0) (daNil))) (dC (.int 1)))
/-- is_left(value) -/
def is_left_M (c_is_below : Nat) : DS := sRet (dCall c_is_below 2 0 [.p 0, .p 1] [] (daCons (dVar 0) (daCons (dOp2 dAdd (dC (.int 16)) (dC (.int 1))) (daNil))) (daNil))
/-- is_standing_of(value) -/
def is_standing_of_M (c_is_row c_are_counts_of c_is_left : Nat) : DS := sRet (dAnd (dCall c_is_row 2 0 [.p 0, .p 1] [] (daCons (dVar 0) (daCons (dC (.int 2)) (daNil))) (daNil)) (dAnd (dCall c_are_counts_of 1 0 [.p 0] [] (daCons (dOp2 dIx (dVar 0) (dC (.int 0))) (daNil)) (daNil)) (dCall c_is_left 1 0 [.p 0] [] (daCons (dOp2 dIx (dVar 0) (dC (.int 1))) (daNil)) (daNil))))
/-- want_left(value) -/
def want_left_M (c_is_left : Nat) : DS := sSeq (sIf (dtNot (dTruE (dCall c_is_left 1 0 [.p 0] [] (daCons (dVar 0) (daNil)) (daNil)))) (sBad) (sNext)) (sRet (dVar 0))
/-- want_standing(value) -/
def want_standing_M (c_is_standing_of : Nat) : DS := sSeq (sIf (dtNot (dTruE (dCall c_is_standing_of 1 0 [.p 0] [] (daCons (dVar 0) (daNil)) (daNil)))) (sBad) (sNext)) (sRet (dVar 0))
/-- both_behind(counts, question) -/
def both_behind_M (c_behind_yes c_behind_no : Nat) : DS := sRet (dTup (daCons (dCall c_behind_yes 2 0 [.p 0, .p 1] [] (daCons (dVar 0) (daCons (dVar 1) (daNil))) (daNil)) (daCons (dCall c_behind_no 2 0 [.p 0, .p 1] [] (daCons (dVar 0) (daCons (dVar 1) (daNil))) (daNil)) (daNil))))
/-- rest(counts, question) -/
def rest_M (c_want_counts c_rest_of c_want_question : Nat) : DS := sSeq (sExpr (dCall c_want_counts 1 0 [.p 0] [] (daCons (dVar 0) (daNil)) (daNil))) (sRet (dCall c_rest_of 2 0 [.p 0, .p 1] [] (daCons (dVar 0) (daCons (dCall c_want_question 2 0 [.p 0, .p 1] [] (daCons (dVar 0) (daCons (dVar 1) (daNil))) (daNil)) (daNil))) (daNil)))
/-- both(counts, question) -/
def both_M (c_want_counts c_both_behind c_want_question : Nat) : DS := sSeq (sExpr (dCall c_want_counts 1 0 [.p 0] [] (daCons (dVar 0) (daNil)) (daNil))) (sRet (dCall c_both_behind 2 0 [.p 0, .p 1] [] (daCons (dVar 0) (daCons (dCall c_want_question 2 0 [.p 0, .p 1] [] (daCons (dVar 0) (daCons (dVar 1) (daNil))) (daNil)) (daNil))) (daNil)))
def S_is_integer (f : Fn) : Prop := ∀ v h, pl v = true → f [v] h = .ok (.bl (isInt v)) h
def S_is_count (f : Fn) : Prop := ∀ v h, pl v = true → f [v] h = .ok (.bl (isCount v)) h
def S_is_below (f : Fn) : Prop := ∀ v (m : Int) h, pl v = true → f [v, .int m] h = .ok (.bl (isBelow v m)) h
def isRow (v : D) (n : Int) : Bool := match v with
  | .tup ds => decide ((ds.length : Int) = n)
  | _ => false
def S_is_row (f : Fn) : Prop := ∀ v (n : Int) h, pl v = true → f [v, .int n] h = .ok (.bl (isRow v n)) h
def S_want_at_most (f : Fn) : Prop := ∀ (s : Str) (l n : Int) h, n ≤ l → f [.str s, .int l, .int n] h = .ok .non h
def S_want_many (f : Fn) : Prop := ∀ (v l m : Int) h, 0 ≤ v → l ≤ v → v ≤ m → f [.int v, .int l, .int m] h = .ok (.int v) h
def S_are_counts_of (f : Fn) : Prop := ∀ v h, pl v = true → f [v] h = .ok (.bl (areCounts v)) h
def S_want_counts (f : Fn) : Prop := ∀ v h, pl v = true → areCounts v = true → f [v] h = .ok v h
def S_is_question_of (f : Fn) : Prop := ∀ (cs : List D) v h, cs.all isCount = true → cs.length ≤ 1000 → pl v = true → f [.tup cs, v] h = .ok (.bl (isQ cs v)) h
def S_rest_of (f : Fn) : Prop := ∀ (ns qs : List Int) h, ns.length ≤ 1000 → f [.tup (Is ns), .tup (Is qs)] h = .ok (.tup (Is (EV.rest ns qs))) h
def S_behind_yes (f : Fn) : Prop := ∀ (ns qs : List Int) h, ns.length ≤ 1000 → f [.tup (Is ns), .tup (Is qs)] h = .ok (.tup (Is (yes ns qs))) h
def S_behind_no (f : Fn) : Prop := ∀ (ns qs : List Int) h, ns.length ≤ 1000 → f [.tup (Is ns), .tup (Is qs)] h = .ok (.tup (Is (no ns qs))) h
def S_behind_of (f : Fn) : Prop := ∀ (ns qs : List Int) (b : Bool) h, ns.length ≤ 1000 → f [.tup (Is ns), .tup (Is qs), .bl b] h = .ok (.tup (Is (if b then yes ns qs else no ns qs))) h
def S_both_behind (f : Fn) : Prop := ∀ (ns qs : List Int) h, ns.length ≤ 1000 → f [.tup (Is ns), .tup (Is qs)] h = .ok (.tup [.tup (Is (yes ns qs)), .tup (Is (no ns qs))]) h
def S_want_question (f : Fn) : Prop := ∀ (ns qs : List Int) h, Cts ns → leqB qs ns = true → f [.tup (Is ns), .tup (Is qs)] h = .ok (.tup (Is qs)) h
def S_want_answer (f : Fn) : Prop := ∀ (b : Bool) h, f [.bl b] h = .ok (.bl b) h
def S_answered (f : Fn) : Prop := ∀ (ns qs : List Int) (b : Bool) h, Cts ns → leqB qs ns = true → f [.tup (Is ns), .tup (Is qs), .bl b] h = .ok (.tup (Is (if b then yes ns qs else no ns qs))) h
def S_rest (f : Fn) : Prop := ∀ (ns qs : List Int) h, Cts ns → leqB qs ns = true → f [.tup (Is ns), .tup (Is qs)] h = .ok (.tup (Is (EV.rest ns qs))) h
def S_both (f : Fn) : Prop := ∀ (ns qs : List Int) h, Cts ns → leqB qs ns = true → f [.tup (Is ns), .tup (Is qs)] h = .ok (.tup [.tup (Is (yes ns qs)), .tup (Is (no ns qs))]) h
def S_is_settled_of (f : Fn) : Prop := ∀ (ns : List Int) h, f [.tup (Is ns)] h = .ok (.bl (decide (ns.sum ≤ 1))) h
def S_lies_of (f : Fn) : Prop := ∀ (ds : List D) h, f [.tup ds] h = .ok (.int (ds.length - 1)) h
def S_is_left (f : Fn) : Prop := ∀ v h, pl v = true → f [v] h = .ok (.bl (isBelow v 17)) h
def S_is_standing_of (f : Fn) : Prop := ∀ v h, pl v = true → f [v] h = .ok (.bl (isStanding v)) h
def S_want_left (f : Fn) : Prop := ∀ (j : Nat) h, j ≤ 16 → f [.int j] h = .ok (.int j) h
def S_draw (f : Fn) : Prop := ∀ (n : Nat) (s : Int) h, Pt n h → 0 < s → s < 1073741824 → wp (f [.obj n, .int s] h) fun d h' => Dr n h h' ∧ ∃ i, d = .int i ∧ 0 ≤ i ∧ i < s
def S_pick (f : Fn) : Prop := ∀ (n : Nat) (xs : List D) h, Pt n h → 0 < xs.length → xs.length < 1000 → (∀ x ∈ xs, isBor x = false) → wp (f [.obj n, .lst xs] h) fun d h' => Dr n h h' ∧ d ∈ xs
def S_pot (f : Fn) : Prop := ∀ (ns : List Int) (k : Nat) h, wp (f [.frz (ns.map D.int), .int k] h) fun d h' => d = .obj h.length ∧ ∃ a b, h' = h ++ [.lst [.int a, .int b]]
section
variable {fn : Fns} {i i2 i3 i4 i5 : Nat}
theorem ev_is_integer : S_is_integer (bodyF 1 is_integer_M fn) := fun v h hv => by
  unfold is_integer_M
  cases v <;> first | (simp [pl] at hv; done) | (simp [Ty.isa, isInt]; done)
theorem ev_is_count (a : S_is_integer (fn i)) : S_is_count (bodyF 1 (is_count_M i) fn) := fun v h hv => by
  unfold is_count_M
  have nb := pl_nb hv
  simp [nb, a v _ hv]
  cases v <;> simp [isInt, isCount]
theorem ev_is_below (a : S_is_count (fn i)) : S_is_below (bodyF 2 (is_below_M i) fn) := fun v m h hv => by
  unfold is_below_M
  have nb := pl_nb hv
  simp [nb, a v _ hv]
  cases v <;> simp [isBelow, isCount]
  split
  · simp_all
  · simp; omega
theorem ev_is_row : S_is_row (bodyF 2 is_row_M fn) := fun v n h hv => by
  unfold is_row_M
  cases v <;> first | (simp [pl] at hv; done) | (simp [Ty.isa, isRow]; done)
theorem ev_want_at_most : S_want_at_most (bodyF 3 want_at_most_M fn) := fun s l n h q => by
  unfold want_at_most_M
  have : ¬ l < n := by omega
  simp [this]
theorem ev_want_many (a : S_is_count (fn i)) : S_want_many (bodyF 3 (want_many_M i) fn) := fun v l m h h0 h1 h2 => by
  unfold want_many_M
  have n1 : ¬ m < v := by omega
  simp [a (.int v) _ rfl, isCount, h0, h1, n1]
theorem ev_are_counts_of (a : S_is_count (fn i)) : S_are_counts_of (bodyF 2 (are_counts_of_M i) fn) := fun v h hv => by
  unfold are_counts_of_M
  cases v with
  | tup ds =>
    have hp : pls ds = true := by simpa [pl] using hv
    simp [Ty.isa]
    by_cases h1 : 1 ≤ ds.length
    · by_cases h2 : ds.length ≤ 4
      · have e1 : (1 : Int) ≤ (ds.length : Int) := by omega
        have e2 : ¬ 4 < (ds.length : Int) := by omega
        have hz : ds.length ≤ 16777216 := by omega
        simp [h1, h2, e1, e2, hz]
        rw [compL_map (fun d => .bl (isCount d)) fun d hd => ⟨[.val (.tup ds), .val d], by simp [pl_nb (pls_mem hp d hd)], rfl, by simp [pl_nb (pls_mem hp d hd), a d _ (pls_mem hp d hd)], rfl⟩]
        simp [cAll, seqL, bls_map, areCounts, h1, h2]
        by_cases q : ds.all isCount = true
        · have q' : ∀ x ∈ ds, isCount x = true := by simpa using q
          simp [cSum, ints_of_counts q, eq_true q', q]
        · simp only [List.all_eq_true] at q
          simp [eq_false q]
      · have e2 : 4 < (ds.length : Int) := by omega
        have e1 : (1 : Int) ≤ (ds.length : Int) := by omega
        simp [h1, h2, e1, e2, areCounts]
    · have e1 : ds = [] := List.length_eq_zero_iff.mp (by omega)
      subst e1
      simp [areCounts]
  | _ => first | (simp [pl] at hv; done) | (simp [Ty.isa, areCounts]; done)
theorem ev_want_counts (a : S_are_counts_of (fn i)) : S_want_counts (bodyF 1 (want_counts_M i) fn) := fun v h hv hc => by
  unfold want_counts_M
  simp [pl_nb hv, a v _ hv, hc]
theorem ev_is_question_of (a : S_is_row (fn i)) (b : S_is_below (fn i2)) : S_is_question_of (bodyF 4 (is_question_of_M i i2) fn) := fun cs v h hc hz hv => by
  unfold is_question_of_M
  simp [pl_nb hv, a v _ _ hv]
  cases v with
  | tup ds =>
    by_cases e : ds.length = cs.length
    · have e' : (ds.length : Int) = (cs.length : Int) := by omega
      have hp : pls ds = true := by simpa [pl] using hv
      have hcm : ∀ c ∈ cs, isCount c = true := by simpa using hc
      have hl : (pairs ds cs).length ≤ 16777216 := by rw [pairs_len]; omega
      simp [isRow, e', hl]
      rw [compL_map fstQ fun p hp' => by
        obtain ⟨d, c, rfl, m1, m2⟩ := pairs_mem hp'
        have pd := pls_mem hp d m1
        have ec := cnt_int (hcm c m2)
        refine ⟨[.val (.tup cs), .val (.tup ds), .val d, .val c], by rw [ec]; simp [pl_nb pd], rfl, ?_, rfl⟩
        rw [ec]
        simp [pl_nb pd, b d _ _ pd, fstQ, intOf]]
      have e3 : (pairs ds cs).map fstQ = (pairs ds cs).map fun p => .bl (match p with
          | .tup [d, c] => isBelow d (intOf c + 1)
          | _ => false) := by
        apply List.map_congr_left
        intro p hp'
        obtain ⟨d, c, rfl, m1, m2⟩ := pairs_mem hp'
        rfl
      rw [e3]
      simp [cAll, seqL, bls_map, isQ, e]
      all_goals rfl
    · have e' : ¬ (ds.length : Int) = (cs.length : Int) := by omega
      simp [isRow, e', isQ, e]
  | _ => simp [isRow, isQ]
theorem ev_rest_of : S_rest_of (bodyF 4 rest_of_M fn) := fun ns qs h hz => by
  have hl : (pairs (Is ns) (Is qs)).length ≤ 16777216 := by rw [pairs_len]; simp; omega
  unfold rest_of_M
  simp [hl]
  rw [compL_map (op2 (· - ·)) fun d hd => by
    obtain ⟨x, y, rfl⟩ := pairs_mem2 hd
    exact ⟨[.val (.tup (Is ns)), .val (.tup (Is qs)), .val (.int x), .val (.int y)], by simp, rfl, by simp [op2], rfl⟩]
  simp [op2_map, EV.rest]
theorem ev_behind_yes (a : S_rest_of (fn i)) : S_behind_yes (bodyF 5 (behind_yes_M i) fn) := fun ns qs h hz => by
  have hl : (pairs (Is qs) (Is (0 :: (EV.rest ns qs).dropLast))).length ≤ 16777216 := by
    rw [pairs_len, len_Is, len_Is, List.length_cons, List.length_dropLast, len_rest]; omega
  have hl2 : 1 + ((EV.rest ns qs).length - 1) ≤ 16777216 := by rw [len_rest]; omega
  unfold behind_yes_M
  simp [a _ _ _ hz, cut_last, dl_Is, hl2, ← Is_cons, hl]
  rw [compL_map (op2 (· + ·)) fun d hd => by
    obtain ⟨x, y, rfl⟩ := pairs_mem2 hd
    exact ⟨[.val (.tup (Is ns)), .val (.tup (Is qs)), .val (.tup (Is (EV.rest ns qs))), .val (.int x), .val (.int y)], by simp, rfl, by simp [op2], rfl⟩]
  simp [op2_map, yes]
theorem ev_behind_no (b : S_behind_yes (fn i)) (a : S_rest_of (fn i2)) : S_behind_no (bodyF 2 (behind_no_M i i2) fn) := fun ns qs h hz => by
  unfold behind_no_M
  simp [a _ _ _ hz, b _ _ _ hz, no]
theorem ev_behind_of (a : S_behind_yes (fn i)) (b : S_behind_no (fn i2)) : S_behind_of (bodyF 3 (behind_of_M i i2) fn) := fun ns qs c h hz => by
  unfold behind_of_M
  cases c <;> simp [a _ _ _ hz, b _ _ _ hz]
theorem ev_both_behind (a : S_behind_yes (fn i)) (b : S_behind_no (fn i2)) : S_both_behind (bodyF 2 (both_behind_M i i2) fn) := fun ns qs h hz => by
  unfold both_behind_M
  simp [a _ _ _ hz, b _ _ _ hz]
theorem ev_want_question (a : S_is_question_of (fn i)) : S_want_question (bodyF 2 (want_question_M i) fn) := fun ns qs h c q => by
  unfold want_question_M
  have hz : (Is ns).length ≤ 1000 := by rw [len_Is]; have := c.l4; omega
  simp [a _ _ _ (isCount_Is c) hz pl_Is, leq_isQ q]
theorem ev_want_answer : S_want_answer (bodyF 1 want_answer_M fn) := fun b h => by
  unfold want_answer_M
  simp [Ty.isa]
theorem ev_answered (a : S_want_counts (fn i)) (b : S_want_question (fn i2)) (c : S_behind_of (fn i3)) (d : S_want_answer (fn i4)) : S_answered (bodyF 3 (answered_M i i2 i3 i4) fn) := fun ns qs x h ct q => by
  unfold answered_M
  simp [a _ _ pl_Is ct.a, b _ _ _ ct q, c _ _ _ _ (show ns.length ≤ 1000 by have := ct.l4; omega), d _ _]
theorem ev_rest (a : S_want_counts (fn i)) (b : S_rest_of (fn i2)) (c : S_want_question (fn i3)) : S_rest (bodyF 2 (rest_M i i2 i3) fn) := fun ns qs h ct q => by
  unfold rest_M
  simp [a _ _ pl_Is ct.a, c _ _ _ ct q, b _ _ _ (show ns.length ≤ 1000 by have := ct.l4; omega)]
theorem ev_both (a : S_want_counts (fn i)) (b : S_both_behind (fn i2)) (c : S_want_question (fn i3)) : S_both (bodyF 2 (both_M i i2 i3) fn) := fun ns qs h ct q => by
  unfold both_M
  simp [a _ _ pl_Is ct.a, c _ _ _ ct q, b _ _ _ (show ns.length ≤ 1000 by have := ct.l4; omega)]
theorem ev_is_settled_of : S_is_settled_of (bodyF 1 is_settled_of_M fn) := fun ns h => by
  unfold is_settled_of_M
  simp [cSum, toInts_Is]
theorem ev_lies_of : S_lies_of (bodyF 1 lies_of_M fn) := fun ds h => by
  unfold lies_of_M
  simp
theorem ev_is_left (a : S_is_below (fn i)) : S_is_left (bodyF 1 (is_left_M i) fn) := fun v h hv => by
  unfold is_left_M
  simp [pl_nb hv, a v _ _ hv]
theorem ev_is_standing_of (a : S_is_row (fn i)) (b : S_are_counts_of (fn i2)) (c : S_is_left (fn i3)) : S_is_standing_of (bodyF 1 (is_standing_of_M i i2 i3) fn) := fun v h hv => by
  unfold is_standing_of_M
  simp [pl_nb hv, a v _ _ hv]
  cases v with
  | tup ds =>
    by_cases e : ds.length = 2
    · obtain ⟨x, y, rfl⟩ := two e
      have hp : pl x = true ∧ pl y = true := by simpa [pl, pls] using hv
      simp [isRow, at0, at1, pl_nb hp.1, pl_nb hp.2, b _ _ hp.1, c _ _ hp.2, isStanding]
      cases areCounts x <;> simp
    · have e' : ¬ (ds.length : Int) = 2 := by omega
      have : isStanding (.tup ds) = false := by
        match ds, e with
        | [], _ => rfl
        | [_], _ => rfl
        | _ :: _ :: _ :: _, _ => rfl
      simp [isRow, e', this]
  | _ => simp [isRow, isStanding]
theorem ev_want_left (a : S_is_left (fn i)) : S_want_left (bodyF 1 (want_left_M i) fn) := fun j h q => by
  unfold want_left_M
  have : (j : Int) < 17 := by omega
  simp [a (.int j) _ rfl, isBelow, this]
theorem ev_law_draw {c1 c2 m1 m2 q : Int} (s1 : c1.natAbs ≤ 1000000000) (hm1 : 0 < m1 ∧ m1 ≤ 4000000000) (hm2 : 0 < m2) (hq : 0 < q ∧ q < 1073741824) : S_draw (bodyF 3 (drawM c1 c2 m1 m2 q) fn) := fun n s h p h0 h1 => ev_draw s1 hm1 hm2 hq p h0 h1
theorem ev_law_pick (a : S_draw (fn i)) : S_pick (bodyF 2 (pickM i) fn) := fun n xs h p h0 h1 hb => ev_pick (fun s h h0 h1 p => a n s h p h0 h1) p h0 h1 hb
theorem ev_law_pot1 {c1 c2 c3 c4 c5 : Int} (s1 : c1.natAbs ≤ 1000000000) (s3 : c3.natAbs ≤ 1000000000) (s4 : c4.natAbs ≤ 1000000000) : S_pot (bodyF 3 (potM1 c1 c2 c3 c4 c5) fn) := fun ns k h => ev_pot1 s1 s3 s4
theorem ev_law_pot2 {c1 c2 c3 c4 c5 : Int} (s1 : c1.natAbs ≤ 1000000000) (s3 : c3.natAbs ≤ 1000000000) (s4 : c4.natAbs ≤ 1000000000) : S_pot (bodyF 3 (potM2 c1 c2 c3 c4 c5) fn) := fun ns k h => ev_pot2 s1 s3 s4
end
end EV
/-! EV40: logs -/
namespace EV
open PySem L2
/-- is_rising(items, near, far) -/
def is_rising_M : DS := sRet (dOpN cAll (daCons (asVal (dComp [1, 2] (.tup [.name 1, .name 2]) (dZipX (daCons (dVar 0) (daCons (dSlice (dVar 0) (dPart (dC (.int 1))) (dNoPart)) (daNil)))) (dtYes) (dOp2 dLt (dVar 1) (dVar 2)))) (daNil)))
/-- is_answer(value) -/
def is_answer_M : DS := sRet (dAnd (dIsi (dVar 0) [.str]) (dOp2 dIn (dVar 0) (dTup (daCons (dC (.str ("yes" : Str))) (daCons (dC (.str ("no" : Str))) (daNil))))))
/-- are_things_in(many, value, thing) -/
def are_things_in_M (c_is_below c_is_rising : Nat) : DS := sRet (dAnd (dIsi (dVar 1) [.tup]) (dAnd (dOpN cAll (daCons (asVal (dComp [2] (.name 2) (dItems (dVar 1)) (dtYes) (dCall c_is_below 2 0 [.p 0, .p 1] [] (daCons (dVar 2) (daCons (dVar 0) (daNil))) (daNil)))) (daNil))) (dCall c_is_rising 1 0 [.p 0] [] (daCons (dVar 1) (daNil)) (daNil))))
/-- is_log_of(value, row, things, answer) -/
def is_log_of_M (c_is_row c_is_integer c_is_count c_are_things_in c_is_answer : Nat) : DS := sSeq (sIf (dtOr (dtNot (dTruE (dCall c_is_row 2 0 [.p 0, .p 1] [] (daCons (dVar 0) (daCons (dC (.int 4)) (daNil))) (daNil)))) (dtOr (dtNot (dTruE (dIsi (dOp2 dIx (dVar 0) (dC (.int 0))) [.str]))) (dtB (dOp2 dNe (dOp2 dIx (dVar 0) (dC (.int 0))) (dC (.str ("log" : Str))))))) (sRet (dC (.bl false))) (sNext)) (sSeq (sIf (dtOr (dtNot (dTruE (dCall c_is_integer 1 0 [.p 0] [] (daCons (dOp2 dIx (dVar 0) (dC (.int 1))) (daNil)) (daNil)))) (dtOr (dtNot (dtB (dChain dLe dLe (dC (.int 1)) (dOp2 dIx (dVar 0) (dC (.int 1))) (dC (.int 40))))) (dtOr (dtNot (dTruE (dCall c_is_count 1 0 [.p 0] [] (daCons (dOp2 dIx (dVar 0) (dC (.int 2))) (daNil)) (daNil)))) (dtB (dOp2 dGt (dOp2 dIx (dVar 0) (dC (.int 2))) (dC (.int 3))))))) (sRet (dC (.bl false))) (sNext)) (sSeq (sIf (dtOr (dtNot (dTruE (dIsi (dOp2 dIx (dVar 0) (dC (.int 3))) [.tup]))) (dtOr (dtB (dOp2 dGt (dOpN cLen (daCons (dOp2 dIx (dVar 0) (dC (.int 3))) (daNil))) (dC (.int 24)))) (dtNot (dTruE (dOpN cAll (daCons (asVal (dComp [1] (.name 1) (dItems (dOp2 dIx (dVar 0) (dC (.int 3)))) (dtYes) (dCall c_is_row 2 0 [.p 0, .p 1] [] (daCons (dVar 1) (daCons (dC (.int 2)) (daNil))) (daNil)))) (daNil))))))) (sRet (dC (.bl false))) (sNext)) (sRet (dOpN cAll (daCons (asVal (dComp [2, 3] (.tup [.name 2, .name 3]) (dItems (dOp2 dIx (dVar 0) (dC (.int 3)))) (dtYes) (dAnd (dCall c_are_things_in 2 0 [.p 0, .p 1] [] (daCons (dOp2 dIx (dVar 0) (dC (.int 1))) (daCons (dVar 2) (daNil))) (daNil)) (dCall c_is_answer 1 0 [.p 0] [] (daCons (dVar 3) (daNil)) (daNil))))) (daNil))))))
/-- with_rows(log, rows) -/
def with_rows_M : DS := sRet (dOp2 dAdd (dSlice (dVar 0) (dNoPart) (dPart (dC (.int 3)))) (dTup (daCons (dOpN cTuple (daCons (dVar 1) (daNil))) (daNil))))
/-- with_row(log, things, answer) -/
def with_row_M (c_with_rows : Nat) : DS := sRet (dCall c_with_rows 2 0 [.p 0, .p 1] [] (daCons (dVar 0) (daCons (dOp2 dAdd (dOp2 dIx (dVar 0) (dC (.int 3))) (dTup (daCons (dTup (daCons (dVar 1) (daCons (dVar 2) (daNil)))) (daNil)))) (daNil))) (daNil))
/-- is_wrong_for(row, thing) -/
def is_wrong_for_M : DS := sRet (dOp2 dEq (dOp2 dIn (dVar 1) (dOp2 dIx (dVar 0) (dC (.int 0)))) (dOp2 dEq (dOp2 dIx (dVar 0) (dC (.int 1))) (dC (.str ("no" : Str)))))
/-- wrong_of(log, thing, at, row) -/
def wrong_of_M (c_is_wrong_for : Nat) : DS := sRet (dOpN cTuple (daCons (asVal (dComp [2, 3] (.tup [.name 2, .name 3]) (dEnumA (daCons (dOp2 dIx (dVar 0) (dC (.int 3))) (daNil))) (dTruE (dCall c_is_wrong_for 2 0 [.p 0, .p 1] [] (daCons (dVar 3) (daCons (dVar 1) (daNil))) (daNil))) (dVar 2))) (daNil)))
/-- possible_of(log, thing) -/
def possible_of_M (c_wrong_of : Nat) : DS := sRet (asVal (dComp [1] (.name 1) (dRng1 (daCons (dOp2 dIx (dVar 0) (dC (.int 1))) (daNil))) (dtB (dOp2 dLe (dOpN cLen (daCons (dCall c_wrong_of 2 0 [.p 0, .p 1] [] (daCons (dVar 0) (daCons (dVar 1) (daNil))) (daNil)) (daNil))) (dOp2 dIx (dVar 0) (dC (.int 2))))) (dVar 1)))
/-- asked_in(log, things, many, thing, number) -/
def asked_in_M (c_wrong_of : Nat) : DS := sSeq (sSet 2 (asVal (dComp [3] (.name 3) (dItems (dVar 1)) (dtYes) (dOpN cLen (daCons (dCall c_wrong_of 2 0 [.p 0, .p 1] [] (daCons (dVar 0) (daCons (dVar 3) (daNil))) (daNil)) (daNil)))))) (sRet (dOpN cTuple (daCons (asVal (dComp [4] (.name 4) (dRng1 (daCons (dOp2 dAdd (dOp2 dIx (dVar 0) (dC (.int 2))) (dC (.int 1))) (daNil))) (dtYes) (dCount (dVar 2) (dVar 4)))) (daNil))))
/-- counts_of_log(log) -/
def counts_of_log_M (c_asked_in : Nat) : DS := sRet (dCall c_asked_in 2 0 [.p 0, .p 1] [] (daCons (dVar 0) (daCons (asVal (dLstRg (dOp2 dIx (dVar 0) (dC (.int 1))))) (daNil))) (daNil))
/-- least_of(log, thing) -/
def least_of_M (c_wrong_of : Nat) : DS := sRet (dOpN cMinL (daCons (asVal (dComp [1] (.name 1) (dRng1 (daCons (dOp2 dIx (dVar 0) (dC (.int 1))) (daNil))) (dtYes) (dOpN cLen (daCons (dCall c_wrong_of 2 0 [.p 0, .p 1] [] (daCons (dVar 0) (daCons (dVar 1) (daNil))) (daNil)) (daNil))))) (daNil)))
/-- want_log(value) -/
def want_log_M (c_is_log_of : Nat) : DS := sSeq (sIf (dtNot (dTruE (dCall c_is_log_of 1 0 [.p 0] [] (daCons (dVar 0) (daNil)) (daNil)))) (sBad) (sNext)) (sRet (dVar 0))
/-- want_thing(log, value) -/
def want_thing_M (c_is_below : Nat) : DS := sSeq (sIf (dtNot (dTruE (dCall c_is_below 2 0 [.p 0, .p 1] [] (daCons (dVar 1) (daCons (dOp2 dIx (dVar 0) (dC (.int 1))) (daNil))) (daNil)))) (sBad) (sNext)) (sRet (dVar 1))
/-- want_things(log, value) -/
def want_things_M (c_are_things_in : Nat) : DS := sSeq (sIf (dtNot (dTruE (dCall c_are_things_in 2 0 [.p 0, .p 1] [] (daCons (dOp2 dIx (dVar 0) (dC (.int 1))) (daCons (dVar 1) (daNil))) (daNil)))) (sBad) (sNext)) (sRet (dVar 1))
/-- want_answer_logs(value) -/
def want_answer_logs_M (c_is_answer : Nat) : DS := sSeq (sIf (dtNot (dTruE (dCall c_is_answer 1 0 [.p 0] [] (daCons (dVar 0) (daNil)) (daNil)))) (sBad) (sNext)) (sRet (dVar 0))
/-- is_log(value) -/
def is_log_M (c_is_log_of : Nat) : DS := sRet (dCall c_is_log_of 1 0 [.p 0] [] (daCons (dVar 0) (daNil)) (daNil))
/-- logged(log, things, answer) -/
def logged_M (c_want_things c_want_log c_want_answer_logs c_want_at_most c_with_row : Nat) : DS := sSeq (sExpr (dCall c_want_things 2 0 [.p 0, .p 1] [] (daCons (dCall c_want_log 1 0 [.p 0] [] (daCons (dVar 0) (daNil)) (daNil)) (daCons (dVar 1) (daNil))) (daNil))) (sSeq (sExpr (dCall c_want_answer_logs 1 0 [.p 0] [] (daCons (dVar 2) (daNil)) (daNil))) (sSeq (sExpr (dCall c_want_at_most 3 0 [.p 0, .p 1, .p 2] [] (daCons (dC (.str ("rows" : Str))) (daCons (dC (.int 24)) (daCons (dOp2 dAdd (dOpN cLen (daCons (dOp2 dIx (dVar 0) (dC (.int 3))) (daNil))) (dC (.int 1))) (daNil)))) (daNil))) (sRet (dCall c_with_row 3 0 [.p 0, .p 1, .p 2] [] (daCons (dVar 0) (daCons (dVar 1) (daCons (dVar 2) (daNil)))) (daNil)))))
/-- wrong(log, thing) -/
def wrong_M (c_want_log c_wrong_of c_want_thing : Nat) : DS := sSeq (sExpr (dCall c_want_log 1 0 [.p 0] [] (daCons (dVar 0) (daNil)) (daNil))) (sRet (dCall c_wrong_of 2 0 [.p 0, .p 1] [] (daCons (dVar 0) (daCons (dCall c_want_thing 2 0 [.p 0, .p 1] [] (daCons (dVar 0) (daCons (dVar 1) (daNil))) (daNil)) (daNil))) (daNil)))
/-- possible(log) -/
def possible_M (c_possible_of c_want_log : Nat) : DS := sRet (dCall c_possible_of 1 0 [.p 0] [] (daCons (dCall c_want_log 1 0 [.p 0] [] (daCons (dVar 0) (daNil)) (daNil)) (daNil)) (daNil))
/-- counts_of(log) -/
def counts_of_M (c_counts_of_log c_want_log : Nat) : DS := sRet (dCall c_counts_of_log 1 0 [.p 0] [] (daCons (dCall c_want_log 1 0 [.p 0] [] (daCons (dVar 0) (daNil)) (daNil)) (daNil)) (daNil))
/-- asked_for(log, things) -/
def asked_for_M (c_want_log c_asked_in c_want_things : Nat) : DS := sSeq (sExpr (dCall c_want_log 1 0 [.p 0] [] (daCons (dVar 0) (daNil)) (daNil))) (sRet (dCall c_asked_in 2 0 [.p 0, .p 1] [] (daCons (dVar 0) (daCons (dCall c_want_things 2 0 [.p 0, .p 1] [] (daCons (dVar 0) (daCons (dVar 1) (daNil))) (daNil)) (daNil))) (daNil)))
/-- least_lies(log) -/
def least_lies_M (c_least_of c_want_log : Nat) : DS := sRet (dCall c_least_of 1 0 [.p 0] [] (daCons (dCall c_want_log 1 0 [.p 0] [] (daCons (dVar 0) (daNil)) (daNil)) (daNil)) (daNil))
/-- _law_things(pot, many, thing) -/
def lg_things_M (c__law_draw : Nat) : DS := sRet (dOpN cTuple (daCons (asVal (dComp [2] (.name 2) (dRng1 (daCons (dVar 1) (daNil))) (dtB (dOp2 dEq (dCall c__law_draw 2 0 [.p 0, .p 1] [] (daCons (dVar 0) (daCons (dC (.int 2)) (daNil))) (daNil)) (dC (.int 0)))) (dVar 2))) (daNil)))
/-- _law_is_wrong(row, thing) -/
def lg_is_wrong_M : DS := sRet (dOp2 dEq (dOp2 dIn (dVar 1) (dOp2 dIx (dVar 0) (dC (.int 0)))) (dOp2 dEq (dOp2 dIx (dVar 0) (dC (.int 1))) (dC (.str ("no" : Str)))))
/-- _law_wrong(log, thing, at) -/
def lg_wrong_M (c__law_is_wrong : Nat) : DS := sRet (dOpN cTuple (daCons (asVal (dComp [2] (.name 2) (dRng1 (daCons (dOpN cLen (daCons (dOp2 dIx (dVar 0) (dC (.int 3))) (daNil))) (daNil))) (dTruE (dCall c__law_is_wrong 2 0 [.p 0, .p 1] [] (daCons (dOp2 dIx (dOp2 dIx (dVar 0) (dC (.int 3))) (dVar 2)) (daCons (dVar 1) (daNil))) (daNil))) (dVar 2))) (daNil)))
/-- _law_possible(log, thing) -/
def lg_possible_M (c__law_wrong : Nat) : DS := sRet (asVal (dComp [1] (.name 1) (dRng1 (daCons (dOp2 dIx (dVar 0) (dC (.int 1))) (daNil))) (dtB (dOp2 dLe (dOpN cLen (daCons (dCall c__law_wrong 2 0 [.p 0, .p 1] [] (daCons (dVar 0) (daCons (dVar 1) (daNil))) (daNil)) (daNil))) (dOp2 dIx (dVar 0) (dC (.int 2))))) (dVar 1)))
/-- _law_counts(log, number, thing) -/
def lg_counts_M (c__law_wrong : Nat) : DS := sRet (dOpN cTuple (daCons (asVal (dComp [1] (.name 1) (dRng1 (daCons (dOp2 dAdd (dOp2 dIx (dVar 0) (dC (.int 2))) (dC (.int 1))) (daNil))) (dtYes) (dOpN cLen (daCons (asVal (dComp [2] (.name 2) (dRng1 (daCons (dOp2 dIx (dVar 0) (dC (.int 1))) (daNil))) (dtB (dOp2 dEq (dOpN cLen (daCons (dCall c__law_wrong 2 0 [.p 0, .p 1] [] (daCons (dVar 0) (daCons (dVar 2) (daNil))) (daNil)) (daNil))) (dVar 1))) (dVar 2))) (daNil))))) (daNil)))
/-- _law_log(pot, most, rows, many, lies, found, thought, told, turn, things, is_yes) -/
def lg_log_b0 (c__law_things c__law_draw : Nat) : DS := sSeq (sSet 9 (dCall c__law_things 2 0 [.p 0, .p 1] [] (daCons (dVar 0) (daCons (dVar 3) (daNil))) (daNil))) (sSeq (sSet 10 (dOp2 dIn (dVar 6) (dVar 9))) (sSeq (sIf (dtAnd (dtB (dOp2 dGt (dVar 7) (dC (.int 0)))) (dtB (dOp2 dEq (dCall c__law_draw 2 0 [.p 0, .p 1] [] (daCons (dVar 0) (daCons (dC (.int 3)) (daNil))) (daNil)) (dC (.int 0))))) (sPar2 10 7 (dmV (dNot (dVar 10))) (dmV (dOp2 dSub (dVar 7) (dC (.int 1))))) (sNext)) (sAppend 5 (dTup (daCons (dVar 9) (daCons (dIf (dTruE (dVar 10)) (dC (.str ("yes" : Str))) (dC (.str ("no" : Str)))) (daNil)))))))
def lg_log_M (c__law_things c__law_draw : Nat) : DS := sSeq (sPar2 3 4 (dmV (dOp2 dAdd (dC (.int 1)) (dCall c__law_draw 2 0 [.p 0, .p 1] [] (daCons (dVar 0) (daCons (dVar 1) (daNil))) (daNil)))) (dmV (dCall c__law_draw 2 0 [.p 0, .p 1] [] (daCons (dVar 0) (daCons (dC (.int 4)) (daNil))) (daNil)))) (sSeq (sPar3 5 6 7 (dmO (dDisp (daNil))) (dmV (dCall c__law_draw 2 0 [.p 0, .p 1] [] (daCons (dVar 0) (daCons (dVar 3) (daNil))) (daNil))) (dmV (dOp2 dAdd (dVar 4) (dCall c__law_draw 2 0 [.p 0, .p 1] [] (daCons (dVar 0) (daCons (dC (.int 2)) (daNil))) (daNil))))) (sSeq (sFor (.name 8) (dRng1 (daCons (dCall c__law_draw 2 0 [.p 0, .p 1] [] (daCons (dVar 0) (daCons (dOp2 dAdd (dVar 2) (dC (.int 1))) (daNil))) (daNil)) (daNil))) (lg_log_b0 c__law_things c__law_draw)) (sRet (dTup (daCons (dC (.str ("log" : Str))) (daCons (dVar 3) (daCons (dVar 4) (daCons (dOpN cTuple (daCons (dVar 5) (daNil))) (daNil)))))))))
/-- a row: things, whether the answer is yes -/
structure Rw where
  ts : List Int
  a : Bool
structure Lg where
  m : Nat
  l : Nat
  rs : List Rw
def ansD (a : Bool) : D := .str (if a then ("yes" : Str) else ("no" : Str))
def encR (r : Rw) : D := .tup [.tup (Is r.ts), ansD r.a]
def encL (g : Lg) : D := .tup [.str ("log" : Str), .int g.m, .int g.l, .tup (g.rs.map encR)]
/-- whether a row is wrong for a thing -/
def wrB (r : Rw) (t : Int) : Bool := decide (r.ts.contains t = !r.a)
/-- the wrong positions from place p on -/
def wrF : Nat → List Rw → Int → List Int
  | _, [], _ => []
  | p, r :: rs, t => if wrB r t then (p : Int) :: wrF (p + 1) rs t else wrF (p + 1) rs t
def wrI (rs : List Rw) (t : Int) : List Int := wrF 0 rs t
def nw (rs : List Rw) (t : Int) : Nat := rs.countP fun r => wrB r t
theorem wrF_len : ∀ {rs : List Rw} {p : Nat} {t : Int}, (wrF p rs t).length = nw rs t
  | [], _, _ => rfl
  | r :: rs, p, t => by
    have ih := wrF_len (rs := rs) (p := p + 1) (t := t)
    unfold wrF nw
    by_cases z : wrB r t = true
    · rw [if_pos z, List.length_cons, ih, List.countP_cons, if_pos z, nw]
    · rw [if_neg z, ih, List.countP_cons, if_neg z, nw, Nat.add_zero]
theorem wrI_len {rs : List Rw} {t : Int} : (wrI rs t).length = nw rs t := wrF_len
theorem wrF_ge : ∀ {rs : List Rw} {p : Nat} {t x : Int}, x ∈ wrF p rs t → (p : Int) ≤ x ∧ x < p + rs.length
  | [], _, _, _, h => by simp [wrF] at h
  | r :: rs, p, t, x, h => by
    unfold wrF at h
    have go : x ∈ wrF (p + 1) rs t → (p : Int) ≤ x ∧ x < p + (r :: rs).length := fun h => by
      have := wrF_ge h
      simp at this ⊢; omega
    split at h
    · rcases List.mem_cons.mp h with rfl | h
      · simp; omega
      · exact go h
    · exact go h
def nats (m : Nat) : List Int := (List.range m).map fun (i : Nat) => (i : Int)
theorem upTo_nats {m : Nat} : upTo 0 m = Is (nats m) := by
  rw [upTo, Is, nats, List.map_map]
  exact List.map_congr_left fun i _ => by simp
theorem mem_nats {m : Nat} {x : Int} : x ∈ nats m ↔ 0 ≤ x ∧ x < m := by
  simp only [nats, List.mem_map, List.mem_range]
  constructor
  · rintro ⟨i, h, rfl⟩; omega
  · intro h; exact ⟨x.toNat, by omega, by omega⟩
theorem nats_len {m : Nat} : (nats m).length = m := by simp [nats]
def poss (g : Lg) : List Int := (nats g.m).filter fun t => decide (nw g.rs t ≤ g.l)
def askd (g : Lg) (ts : List Int) : List Int := (nats (g.l + 1)).map fun i => (((ts.map fun t => (nw g.rs t : Int)).count i : Nat) : Int)
def cnts (g : Lg) : List Int := askd g (nats g.m)
def minI : List Int → Int
  | [] => 0
  | n :: ns => ns.foldl min n
def leastW (g : Lg) : Int := minI ((nats g.m).map fun t => (nw g.rs t : Int))
def risI : List Int → Bool
  | a :: b :: r => decide (a < b) && risI (b :: r)
  | _ => true
/-- things of a log -/
def thOk (m : Nat) (ts : List Int) : Prop := (∀ t ∈ ts, 0 ≤ t ∧ t < m) ∧ risI ts = true
structure LgOk (g : Lg) : Prop where
  m1 : 1 ≤ g.m
  m40 : g.m ≤ 40
  l3 : g.l ≤ 3
  r24 : g.rs.length ≤ 24
  rw_ : ∀ r ∈ g.rs, thOk g.m r.ts
theorem ris_len : ∀ {ts : List Int} {m : Nat}, (∀ t ∈ ts, 0 ≤ t ∧ t < m) → risI ts = true → ∀ a r, ts = a :: r → ((r.length : Int) + 1 ≤ m - a)
  | [], _, _, _, a, r, e => by cases e
  | [x], m, h, _, a, r, e => by
    cases e
    have := h x (.head _)
    simp; omega
  | x :: y :: s, m, h, q, a, r, e => by
    cases e
    simp only [risI, Bool.and_eq_true, decide_eq_true_eq] at q
    have := ris_len (ts := y :: s) (m := m) (fun t ht => h t (.tail _ ht)) q.2 y s rfl
    simp at this ⊢; omega
theorem th_len {m : Nat} {ts : List Int} (q : thOk m ts) : ts.length ≤ m := by
  cases ts with
  | nil => simp
  | cons a r =>
    have := ris_len q.1 q.2 a r rfl
    have := q.1 a (.head _)
    simp; omega
def S_is_rising (f : Fn) : Prop := ∀ (ts : List Int) h, ts.length ≤ 1000 → f [.tup (Is ts)] h = .ok (.bl (risI ts)) h
def S_is_answer (f : Fn) : Prop := ∀ (a : Bool) h, f [ansD a] h = .ok (.bl true) h
def S_are_things_in (f : Fn) : Prop := ∀ (m : Nat) (ts : List Int) h, m ≤ 1000 → thOk m ts → f [.int m, .tup (Is ts)] h = .ok (.bl true) h
def S_is_log_of (f : Fn) : Prop := ∀ (g : Lg) h, LgOk g → f [encL g] h = .ok (.bl true) h
def S_with_rows (f : Fn) : Prop := ∀ (g : Lg) (rs : List Rw) h, rs.length ≤ 1000 → f [encL g, .tup (rs.map encR)] h = .ok (encL { g with rs := rs }) h
def S_with_row (f : Fn) : Prop := ∀ (g : Lg) (ts : List Int) (a : Bool) h, g.rs.length ≤ 100 → ts.length ≤ 1000 → f [encL g, .tup (Is ts), ansD a] h = .ok (encL { g with rs := g.rs ++ [⟨ts, a⟩] }) h
def S_is_wrong_for (f : Fn) : Prop := ∀ (r : Rw) (t : Int) h, f [encR r, .int t] h = .ok (.bl (wrB r t)) h
def S_wrong_of (f : Fn) : Prop := ∀ (g : Lg) (t : Int) h, g.rs.length ≤ 1000 → f [encL g, .int t] h = .ok (.tup (Is (wrI g.rs t))) h
def S_possible_of (f : Fn) : Prop := ∀ (g : Lg) h, g.rs.length ≤ 1000 → g.m ≤ 1000 → f [encL g] h = .ok (.lst (Is (poss g))) h
def S_asked_in (f : Fn) : Prop := ∀ (g : Lg) (ts : List Int) h, g.rs.length ≤ 1000 → g.l ≤ 1000 → ts.length ≤ 1000 → f [encL g, .tup (Is ts)] h = .ok (.tup (Is (askd g ts))) h ∧ f [encL g, .lst (Is ts)] h = .ok (.tup (Is (askd g ts))) h
def S_counts_of_log (f : Fn) : Prop := ∀ (g : Lg) h, g.rs.length ≤ 1000 → g.l ≤ 1000 → g.m ≤ 1000 → f [encL g] h = .ok (.tup (Is (cnts g))) h
def S_least_of (f : Fn) : Prop := ∀ (g : Lg) h, g.rs.length ≤ 1000 → 1 ≤ g.m → g.m ≤ 1000 → f [encL g] h = .ok (.int (leastW g)) h
def S_want_log (f : Fn) : Prop := ∀ (g : Lg) h, LgOk g → f [encL g] h = .ok (encL g) h
def S_want_thing (f : Fn) : Prop := ∀ (g : Lg) (t : Int) h, 0 ≤ t → t < g.m → f [encL g, .int t] h = .ok (.int t) h
def S_want_things (f : Fn) : Prop := ∀ (g : Lg) (ts : List Int) h, g.m ≤ 1000 → thOk g.m ts → f [encL g, .tup (Is ts)] h = .ok (.tup (Is ts)) h
def S_want_answer_logs (f : Fn) : Prop := ∀ (a : Bool) h, f [ansD a] h = .ok (ansD a) h
def S_logged (f : Fn) : Prop := ∀ (g : Lg) (ts : List Int) (a : Bool) h, LgOk g → thOk g.m ts → g.rs.length < 24 → f [encL g, .tup (Is ts), ansD a] h = .ok (encL { g with rs := g.rs ++ [⟨ts, a⟩] }) h
def S_wrong (f : Fn) : Prop := ∀ (g : Lg) (t : Int) h, LgOk g → 0 ≤ t → t < g.m → f [encL g, .int t] h = .ok (.tup (Is (wrI g.rs t))) h
def S_possible (f : Fn) : Prop := ∀ (g : Lg) h, LgOk g → f [encL g] h = .ok (.lst (Is (poss g))) h
def S_counts_of (f : Fn) : Prop := ∀ (g : Lg) h, LgOk g → f [encL g] h = .ok (.tup (Is (cnts g))) h
def S_asked_for (f : Fn) : Prop := ∀ (g : Lg) (ts : List Int) h, LgOk g → thOk g.m ts → f [encL g, .tup (Is ts)] h = .ok (.tup (Is (askd g ts))) h
def S_least_lies (f : Fn) : Prop := ∀ (g : Lg) h, LgOk g → f [encL g] h = .ok (.int (leastW g)) h
section
variable {fn : Fns} {i i2 i3 i4 i5 : Nat} {h : Cells}
theorem ansD_nb {a : Bool} : isBor (ansD a) = false := rfl
theorem encR_nb {r : Rw} : isBor (encR r) = false := rfl
theorem encL_nb {g : Lg} : isBor (encL g) = false := rfl
theorem pds_Is : ∀ {ts : List Int}, D.pds (Is ts) = some (ts.map PyData.int)
  | [] => by simp [Is_nil, D.pds]
  | t :: ts => by rw [Is_cons]; simp [D.pds, D.pd, pds_Is (ts := ts)]
theorem shaped_ints {ts : List Int} : SeqAt.shaped (.tuple (ts.map PyData.int)) = true := by
  have a : ∀ ts : List Int, PyData.canLayAll0 (ts.map PyData.int) = true ∧ PyData.depthAll (ts.map PyData.int) = 0 := fun ts => by
    induction ts with
    | nil => exact ⟨rfl, rfl⟩
    | cons t ts ih => simp [PyData.canLayAll0, PyData.depthAll, PyData.canLay0, PyData.depth, ih.1, ih.2]
  simp [SeqAt.shaped, PyData.canLay0, PyData.depth, (a ts).1, (a ts).2]
theorem any_ints {ts : List Int} {t : Int} : ((ts.map PyData.int).any fun z => PyData.eqv z (.int t)) = ts.contains t := by
  induction ts with
  | nil => rfl
  | cons x ts ih =>
    rw [List.map_cons, List.any_cons, ih, List.contains_cons]
    congr 1
    simp [PyData.eqv, BEq.comm]
theorem in_ints {ts : List Int} {t : Int} : dIn (.int t) (.tup (Is ts)) h = .ok (.bl (ts.contains t)) h := by
  have e1 : pdH h (.int t) = some (.int t) := by simp [pdH, D.pd]
  have e2 : pdH h (.tup (Is ts)) = some (.tuple (ts.map PyData.int)) := by simp [pdH, D.pd, pds_Is]
  unfold dIn inPd
  rw [e1, e2]
  have e3 : SeqAt.shaped (.int t) = true := rfl
  simp only [shaped_ints, e3, Bool.and_self, if_true, any_ints]
theorem encR0 {r : Rw} : dIx (encR r) (.int 0) h = .ok (.tup (Is r.ts)) h := by simp [encR, at0]
theorem encR1 {r : Rw} : dIx (encR r) (.int 1) h = .ok (ansD r.a) h := by simp [encR, at1]
theorem encL0 {g : Lg} : dIx (encL g) (.int 0) h = .ok (.str ("log" : Str)) h := by simp [encL, at0]
theorem encL1 {g : Lg} : dIx (encL g) (.int 1) h = .ok (.int g.m) h := by simp [encL, at1]
theorem at2 {a b c : D} {ds : List D} : atI (a :: b :: c :: ds) 2 = some c := by
  unfold atI ixN
  have : (2 : Int) < ((a :: b :: c :: ds).length : Int) := by simp only [List.length_cons]; omega
  rw [if_pos (by decide), if_pos this]
  rfl
theorem at3 {a b c d : D} {ds : List D} : atI (a :: b :: c :: d :: ds) 3 = some d := by
  unfold atI ixN
  have : (3 : Int) < ((a :: b :: c :: d :: ds).length : Int) := by simp only [List.length_cons]; omega
  rw [if_pos (by decide), if_pos this]
  rfl
theorem encL2 {g : Lg} : dIx (encL g) (.int 2) h = .ok (.int g.l) h := by simp [encL, at2]
theorem encL3 {g : Lg} : dIx (encL g) (.int 3) h = .ok (.tup (g.rs.map encR)) h := by simp [encL, at3]
theorem ans_eq_no {a : Bool} : dEq (ansD a) (.str ("no" : Str)) h = .ok (.bl (!a)) h := by
  cases a <;> rfl
theorem ev_is_wrong_for : S_is_wrong_for (bodyF 2 is_wrong_for_M fn) := fun r t h => by
  unfold is_wrong_for_M
  simp [encR_nb, encR0, encR1, in_ints, ans_eq_no, wrB]
theorem ev_lg_is_wrong : S_is_wrong_for (bodyF 2 lg_is_wrong_M fn) := ev_is_wrong_for
def wrP (t : Int) (d : D) : Bool := match d with
  | .tup [_, .tup [.tup ts, .str s]] => decide (((ts.map intOf).contains t) = decide (s = ("no" : Str)))
  | _ => false
def fstD (d : D) : D := match d with
  | .tup (a :: _) => a
  | _ => .non
theorem wrP_r {r : Rw} {t : Int} {x : D} : wrP t (.tup [x, encR r]) = wrB r t := by
  show decide ((((Is r.ts).map intOf).contains t) = decide (_ = ("no" : Str))) = _
  rw [intOf_Is]
  cases r with
  | mk ts a => cases a <;> rfl
theorem wrP_map {t : Int} : ∀ {rs : List Rw} {p : Nat}, ((numbered p (rs.map encR)).filter (wrP t)).map fstD = Is (wrF p rs t)
  | [], _ => rfl
  | r :: rs, p => by
    have ih := wrP_map (t := t) (rs := rs) (p := p + 1)
    rw [List.map_cons, numbered, List.filter_cons, wrP_r]
    unfold wrF
    by_cases z : wrB r t = true
    · rw [if_pos z, if_pos z, List.map_cons, ih]; rfl
    · rw [if_neg z, if_neg z, ih]
theorem num_rows {rs : List Rw} {p : Nat} {d : D} (m : d ∈ numbered p (rs.map encR)) : ∃ i r, d = .tup [.int ((p + i : Nat) : Int), encR r] ∧ rs[i]? = some r := by
  obtain ⟨i, hi⟩ := List.getElem?_of_mem m
  obtain ⟨e, he, rfl⟩ := numbered_at hi
  rw [List.getElem?_map] at he
  cases q : rs[i]? with
  | none => rw [q] at he; cases he
  | some r => rw [q] at he; cases he; exact ⟨i, r, rfl, q⟩
theorem ev_wrong_of (a : S_is_wrong_for (fn i)) : S_wrong_of (bodyF 4 (wrong_of_M i) fn) := fun g t h hz => by
  have hz' : (numbered 0 (g.rs.map encR)).length ≤ 16777216 := by rw [numbered_len, List.length_map]; omega
  unfold wrong_of_M
  simp [encL3, enumA, hz']
  rw [compL_filter (wrP t) fstD fun d hd => by
    obtain ⟨j, r, rfl, hr⟩ := num_rows hd
    refine ⟨[.val (encL g), .val (.int t), .val (.int ((0 + j : Nat) : Int)), .val (encR r)], by simp [encR_nb], by simp [encR_nb, a r t, wrP_r], fun _ => ⟨by simp [fstD], rfl⟩⟩]
  rw [wrP_map]
  simp [wrI]
theorem ev_possible_of (a : S_wrong_of (fn i)) : S_possible_of (bodyF 2 (possible_of_M i) fn) := fun g h hz hm => by
  have w1 : (-1000000000 : Int) ≤ (g.m : Int) := by omega
  have w2 : (g.m : Int) ≤ 1000000000 := by omega
  have w3 : (upTo 0 g.m).length ≤ 16777216 := by rw [len_up]; omega
  unfold possible_of_M
  simp [encL1, w1, w2, w3]
  rw [compL_filter (fun d => decide (nw g.rs (intOf d) ≤ g.l)) id fun d hd => by
    obtain ⟨j, hj⟩ := List.getElem?_of_mem hd
    obtain ⟨rfl, hl⟩ := toNat_upTo (n := g.m) hj
    refine ⟨[.val (encL g), .val (.int j)], by simp, ?_, fun _ => ⟨by simp, rfl⟩⟩
    simp [encL_nb, a g _ _ hz, encL2, wrI_len, intOf]
    exact decide_eq_decide.mpr Iff.rfl]
  rw [upTo_nats, Is, List.filter_map, List.map_id]
  rfl
theorem ev_lg_possible (a : S_wrong_of (fn i)) : S_possible_of (bodyF 2 (lg_possible_M i) fn) := ev_possible_of a
theorem count_is {ns : List Int} {x : Int} {h : Cells} : cCount (.lst (Is ns)) (.int x) h = .ok (.int ((ns.count x : Nat) : Int)) h := by
  simp [cCount, listB, toInts_Is]
theorem asked_go {g : Lg} {ts : List Int} {v : D} (nb : isBor v = false) (it : ∀ h, itemsOf v h = .ok (Is ts) h) (a : S_wrong_of (fn i)) (hr : g.rs.length ≤ 1000) (hl : g.l ≤ 1000) (ht : ts.length ≤ 1000) : bodyF 5 (asked_in_M i) fn [encL g, v] h = .ok (.tup (Is (askd g ts))) h := by
  have hz : ts.length ≤ 16777216 := by omega
  unfold asked_in_M
  simp [it, hz]
  rw [compL_map (fun d => .int (nw g.rs (intOf d))) fun d hd => by
    obtain ⟨t, ht, rfl⟩ := List.mem_map.mp hd
    exact ⟨[.val (encL g), .val v, .no, .val (.int t), .no], by simp, rfl, by simp [encL_nb, a g _ _ hr, wrI_len, intOf], rfl⟩]
  have e : (Is ts).map (fun d => D.int (nw g.rs (intOf d))) = Is (ts.map fun t => (nw g.rs t : Int)) := by
    rw [Is, Is, List.map_map, List.map_map]; rfl
  rw [e]
  have w1 : (-1000000000 : Int) ≤ (g.l : Int) + 1 := by omega
  have w2 : (g.l : Int) + 1 ≤ 1000000000 := by omega
  have w4 : ((g.l : Int) + 1).toNat = g.l + 1 := by omega
  have w3 : (upTo 0 (g.l + 1)).length ≤ 16777216 := by rw [len_up]; omega
  simp [encL2, w1, w2, w4, w3]
  rw [compL_map (fun d => .int ((((ts.map fun t => (nw g.rs t : Int)).count (intOf d) : Nat) : Int))) fun d hd => by
    obtain ⟨j, hj⟩ := List.getElem?_of_mem hd
    obtain ⟨rfl, hl⟩ := toNat_upTo (n := ((g.l + 1 : Nat) : Int)) hj
    refine ⟨[.val (encL g), .val v, .val (.lst (Is (ts.map fun t => (nw g.rs t : Int)))), .no, .val (.int j)], by simp, rfl, ?_, rfl⟩
    simp [dCount, listB, count_is, intOf]]
  rw [upTo_nats, Is, List.map_map]
  simp [askd, Is]
  exact fun _ _ => rfl
theorem ev_asked_in (a : S_wrong_of (fn i)) : S_asked_in (bodyF 5 (asked_in_M i) fn) := fun g ts h hr hl ht =>
  ⟨asked_go rfl (fun h => rfl) a hr hl ht, asked_go rfl (fun h => rfl) a hr hl ht⟩
theorem ev_counts_of_log (a : S_asked_in (fn i)) : S_counts_of_log (bodyF 1 (counts_of_log_M i) fn) := fun g h hr hl hm => by
  unfold counts_of_log_M
  have w1 : (-1000000000 : Int) ≤ (g.m : Int) := by omega
  have w2 : (g.m : Int) ≤ 16777216 := by omega
  simp [dLstRg, encL1, w1, w2, upTo_nats, encL_nb, (a g (nats g.m) _ hr hl (by rw [nats_len]; exact hm)).2]
  rfl
theorem ev_least_of (a : S_wrong_of (fn i)) : S_least_of (bodyF 2 (least_of_M i) fn) := fun g h hr m1 hm => by
  have w1 : (-1000000000 : Int) ≤ (g.m : Int) := by omega
  have w2 : (g.m : Int) ≤ 1000000000 := by omega
  have w3 : (upTo 0 g.m).length ≤ 16777216 := by rw [len_up]; omega
  unfold least_of_M
  simp [encL1, w1, w2, w3]
  rw [compL_map (fun d => .int (nw g.rs (intOf d))) fun d hd => by
    obtain ⟨j, hj⟩ := List.getElem?_of_mem hd
    obtain ⟨rfl, hl⟩ := toNat_upTo (n := g.m) hj
    exact ⟨[.val (encL g), .val (.int j)], by simp, rfl, by simp [encL_nb, a g _ _ hr, wrI_len, intOf], rfl⟩]
  have e : (upTo 0 g.m).map (fun d => D.int (nw g.rs (intOf d))) = Is ((nats g.m).map fun t => (nw g.rs t : Int)) := by
    rw [upTo_nats, Is, Is, List.map_map, List.map_map]; rfl
  rw [e]
  have ne : (nats g.m).map (fun t => (nw g.rs t : Int)) ≠ [] := fun z => by
    have := congrArg List.length z
    rw [List.length_map, nats_len] at this
    simp at this; omega
  unfold leastW
  generalize (nats g.m).map (fun t => (nw g.rs t : Int)) = us at ne
  cases us with
  | nil => exact absurd rfl ne
  | cons u us => simp [cMinL, seqL, toInts_Is, minI]
theorem ris_pairs : ∀ {ts : List Int}, ((pairs (Is ts) (Is ts.tail)).all fun p => match p with
    | .tup [.int a, .int b] => decide (a < b)
    | _ => false) = risI ts
  | [] => rfl
  | [_] => rfl
  | a :: b :: r => by
    have ih := ris_pairs (ts := b :: r)
    simp only [List.tail_cons] at ih ⊢
    rw [Is_cons, Is_cons]
    simp only [pairs, List.all_cons, risI]
    rw [Is_cons] at ih
    rw [ih]
theorem cut_tail {ds : List D} : cutD ds (some 1) none = ds.tail := by
  unfold cutD
  cases ds with
  | nil => rfl
  | cons d ds =>
    have e1 : HT.sIx (d :: ds).length 0 (some 1) = 1 := by
      unfold HT.sIx
      simp
    have e2 : HT.sIx (d :: ds).length (d :: ds).length none = (d :: ds).length := by simp [HT.sIx_none]
    rw [e1, e2]
    simp
def ltF (p : D) : D := match p with
  | .tup [.int a, .int b] => .bl (decide (a < b))
  | _ => .bl false
theorem ev_is_rising : S_is_rising (bodyF 3 is_rising_M fn) := fun ts h hl => by
  have tl : (Is ts).tail = Is ts.tail := by simp [Is, List.map_tail]
  have hz : (pairs (Is ts) (Is ts.tail)).length ≤ 16777216 := by rw [pairs_len, len_Is]; omega
  unfold is_rising_M
  simp [cut_tail, tl, hz]
  rw [compL_map ltF fun d hd => by
    obtain ⟨x, y, rfl⟩ := pairs_mem2 hd
    exact ⟨[.val (.tup (Is ts)), .val (.int x), .val (.int y)], by simp, rfl, by simp [ltF], rfl⟩]
  have e : (pairs (Is ts) (Is ts.tail)).map ltF = (pairs (Is ts) (Is ts.tail)).map fun p => .bl (match p with
    | .tup [.int a, .int b] => decide (a < b)
    | _ => false) := by
    refine List.map_congr_left fun d hd => ?_
    obtain ⟨x, y, rfl⟩ := pairs_mem2 hd
    rfl
  rw [e]
  simp only [ok_bind, e_asVal]
  have e2 : cAll [.lst ((pairs (Is ts) (Is ts.tail)).map fun p => .bl (match p with
    | .tup [.int a, .int b] => decide (a < b)
    | _ => false))] h = .ok (.bl (risI ts)) h := by
    unfold cAll
    simp only [seqL, Option.bind_some, bls_map]
    rw [← ris_pairs, List.all_map]
    rfl
  simp [e2]
theorem ev_is_answer : S_is_answer (bodyF 1 is_answer_M fn) := fun a h => by
  cases a <;> kernel_rfl
theorem ev_are_things_in (a : S_is_below (fn i)) (b : S_is_rising (fn i2)) : S_are_things_in (bodyF 3 (are_things_in_M i i2) fn) := fun m ts h hm q => by
  have hl := th_len q
  have hz : ts.length ≤ 16777216 := by omega
  unfold are_things_in_M
  simp [Ty.isa, hz]
  rw [compL_map (fun _ => .bl true) fun d hd => by
    obtain ⟨t, ht, rfl⟩ := List.mem_map.mp hd
    obtain ⟨t0, t1⟩ := q.1 t ht
    exact ⟨[.val (.int m), .val (.tup (Is ts)), .val (.int t)], by simp, rfl, by simp [a (.int t) m _ rfl, isBelow, t0, t1], rfl⟩]
  have e : toBls ((Is ts).map fun _ => D.bl true) = some ((Is ts).map fun _ => true) := bls_map (fun _ => true)
  have e3 : ((Is ts).map fun _ => true).all id = true := by simp
  simp [cAll, seqL, e, e3, b ts _ (by omega), q.2]
def rowB (d : D) : Bool := true
theorem ev_is_log_of (a : S_is_row (fn i)) (b : S_is_integer (fn i2)) (c : S_is_count (fn i3)) (d : S_are_things_in (fn i4)) (e : S_is_answer (fn i5)) : S_is_log_of (bodyF 4 (is_log_of_M i i2 i3 i4 i5) fn) := fun g h ok => by
  have m1 := ok.m1
  have m40 := ok.m40
  have l3 := ok.l3
  have r24 := ok.r24
  have pr : ∀ r : Rw, pl (encR r) = true := fun r => by
    have := pl_Is (ns := r.ts)
    simp [pl] at this
    simp [encR, ansD, pl, pls, this]
  have pg : pl (encL g) = true := by
    have z : ∀ rs : List Rw, pls (rs.map encR) = true := fun rs => by
      induction rs with
      | nil => rfl
      | cons r rs ih => simp [pls, pr r, ih]
    simp [encL, pl, pls, z]
  have r1 : isRow (encL g) 4 = true := rfl
  have i1 : (1 : Int) ≤ g.m := by omega
  have i2' : ¬ (40 : Int) < g.m := by omega
  have i3' : ¬ (3 : Int) < g.l := by omega
  have i4' : ¬ (24 : Int) < (g.rs.length : Int) := by omega
  have i5' : (g.m : Int) ≤ 40 := by omega
  have hz : g.rs.length ≤ 16777216 := by omega
  have t1 : ∀ h, dEq (.str ("log" : Str)) (.str ("log" : Str)) h = .ok (.bl true) h := fun h => rfl
  unfold is_log_of_M
  simp [encL_nb, a _ _ _ pg, r1, encL0, encL1, encL2, encL3, Ty.isa, b (.int g.m) _ rfl, isInt, i1, i5', c (.int g.l) _ rfl, isCount, i3', i4', hz]
  rw [compL_map (fun _ => .bl true) fun x hx => by
    obtain ⟨r, hr, rfl⟩ := List.mem_map.mp hx
    exact ⟨[.val (encL g), .val (encR r), .no, .no], by simp [encR_nb], rfl, by simp [encR_nb, a _ _ _ (pr r)]; rfl, rfl⟩]
  have e1 : toBls ((g.rs.map encR).map fun _ => D.bl true) = some ((g.rs.map encR).map fun _ => true) := bls_map (fun _ => true)
  have e3 : ((g.rs.map encR).map fun _ => true).all id = true := by simp
  have e4 : ∀ h, cAll [.lst ((g.rs.map encR).map fun _ => D.bl true)] h = .ok (.bl true) h := fun h => by
    unfold cAll
    simp only [seqL, Option.bind_some, e1, e3]
  generalize hys : (g.rs.map encR).map (fun _ => D.bl true) = ys at e4
  simp [e4, encL_nb, encL3, hz]
  rw [compL_map (fun _ => .bl true) fun x hx => by
    obtain ⟨r, hr, rfl⟩ := List.mem_map.mp hx
    refine ⟨[.val (encL g), .no, .val (.tup (Is r.ts)), .val (ansD r.a)], by simp [encR, ansD_nb], rfl, ?_, rfl⟩
    simp [encL_nb, encL1, d g.m r.ts _ (by omega) (ok.rw_ r hr), ansD_nb, e r.a _]]
  rw [hys]
  simp [e4]
theorem ev_with_rows : S_with_rows (bodyF 2 with_rows_M fn) := fun g rs h hr => by
  unfold with_rows_M
  have e : dSl (encL g) none (some 3) h = .ok (.tup [.str ("log" : Str), .int g.m, .int g.l]) h := rfl
  simp [encL_nb, e]
  rfl
theorem ev_with_row (a : S_with_rows (fn i)) : S_with_row (bodyF 3 (with_row_M i) fn) := fun g ts x h hr ht => by
  unfold with_row_M
  have e : D.tup (g.rs.map encR ++ [.tup [.tup (Is ts), ansD x]]) = D.tup ((g.rs ++ [Rw.mk ts x]).map encR) := by simp [encR]
  have hz : g.rs.length + 1 ≤ 16777216 := by omega
  simp [encL_nb, encL3, ansD_nb, hz]
  rw [e, a g _ _ (by simp; omega)]
  simp [encL_nb]
theorem ev_want_log (a : S_is_log_of (fn i)) : S_want_log (bodyF 1 (want_log_M i) fn) := fun g h ok => by
  unfold want_log_M
  simp [encL_nb, a g _ ok]
theorem ev_is_log (a : S_is_log_of (fn i)) : S_is_log_of (bodyF 1 (is_log_M i) fn) := fun g h ok => by
  unfold is_log_M
  simp [encL_nb, a g _ ok]
theorem ev_want_thing (a : S_is_below (fn i)) : S_want_thing (bodyF 2 (want_thing_M i) fn) := fun g t h h0 h1 => by
  unfold want_thing_M
  simp [encL_nb, encL1, a (.int t) _ _ rfl, isBelow, h0, h1]
theorem ev_want_things (a : S_are_things_in (fn i)) : S_want_things (bodyF 2 (want_things_M i) fn) := fun g ts h hm q => by
  unfold want_things_M
  simp [encL_nb, encL1, a g.m ts _ hm q]
theorem ev_want_answer_logs (a : S_is_answer (fn i)) : S_want_answer_logs (bodyF 1 (want_answer_logs_M i) fn) := fun x h => by
  unfold want_answer_logs_M
  simp [ansD_nb, a x _]
theorem ev_logged (a : S_want_things (fn i)) (b : S_want_log (fn i2)) (c : S_want_answer_logs (fn i3)) (d : S_want_at_most (fn i4)) (e : S_with_row (fn i5)) : S_logged (bodyF 3 (logged_M i i2 i3 i4 i5) fn) := fun g ts x h ok q hr => by
  unfold logged_M
  have m40 := ok.m40
  have := th_len q
  have r1 : (g.rs.length : Int) + 1 ≤ 24 := by omega
  simp [encL_nb, b g _ ok, a g ts _ (by omega) q, ansD_nb, c x _, encL3, d _ _ _ _ r1, e g ts x _ (by omega) (by omega)]
theorem ev_wrong (a : S_want_log (fn i)) (b : S_wrong_of (fn i2)) (c : S_want_thing (fn i3)) : S_wrong (bodyF 2 (wrong_M i i2 i3) fn) := fun g t h ok h0 h1 => by
  unfold wrong_M
  have r24 := ok.r24
  simp [encL_nb, a g _ ok, c g t _ h0 h1, b g t _ (by omega)]
theorem ev_possible (b : S_possible_of (fn i)) (a : S_want_log (fn i2)) : S_possible (bodyF 1 (possible_M i i2) fn) := fun g h ok => by
  unfold possible_M
  have r24 := ok.r24
  have m40 := ok.m40
  simp [encL_nb, a g _ ok, b g _ (by omega) (by omega)]
theorem ev_counts_of (b : S_counts_of_log (fn i)) (a : S_want_log (fn i2)) : S_counts_of (bodyF 1 (counts_of_M i i2) fn) := fun g h ok => by
  unfold counts_of_M
  have r24 := ok.r24
  have m40 := ok.m40
  have l3 := ok.l3
  simp [encL_nb, a g _ ok, b g _ (by omega) (by omega) (by omega)]
theorem ev_asked_for (a : S_want_log (fn i)) (b : S_asked_in (fn i2)) (c : S_want_things (fn i3)) : S_asked_for (bodyF 2 (asked_for_M i i2 i3) fn) := fun g ts h ok q => by
  unfold asked_for_M
  have r24 := ok.r24
  have m40 := ok.m40
  have l3 := ok.l3
  have := th_len q
  simp [encL_nb, a g _ ok, c g ts _ (by omega) q, (b g ts _ (by omega) (by omega) (by omega)).1]
theorem ev_least_lies (b : S_least_of (fn i)) (a : S_want_log (fn i2)) : S_least_lies (bodyF 1 (least_lies_M i i2) fn) := fun g h ok => by
  unfold least_lies_M
  have r24 := ok.r24
  have m40 := ok.m40
  have m1 := ok.m1
  simp [encL_nb, a g _ ok, b g _ (by omega) (by omega) (by omega)]
end
end EV
/-! EV41: logs as laws draw them, laws' own looks at logs -/
namespace EV
open PySem L2
section
variable {fn : Fns} {i i2 i3 i4 i5 : Nat} {h : Cells}
theorem upTo_cons {p : Int} {n : Nat} : upTo p (n + 1) = .int p :: upTo (p + 1) n := by
  unfold upTo
  rw [List.range_succ_eq_map, List.map_cons, List.map_map]
  simp
  intro a _
  omega
theorem wr_up {t : Int} {P : D → Bool} : ∀ {rs : List Rw} {p : Nat}, (∀ (i : Nat) r, rs[i]? = some r → P (.int ((p + i : Nat) : Int)) = wrB r t) → (upTo p rs.length).filter P = Is (wrF p rs t)
  | [], _, _ => rfl
  | r :: rs, p, k => by
    have ih := wr_up (t := t) (P := P) (rs := rs) (p := p + 1) fun i r hr => by
      have := k (i + 1) r (by simpa using hr)
      rw [show p + 1 + i = p + (i + 1) by omega]; exact this
    have h0 := k 0 r rfl
    rw [List.length_cons, upTo_cons, List.filter_cons]
    rw [Nat.add_zero] at h0
    rw [h0, show ((p : Int) + 1) = ((p + 1 : Nat) : Int) by omega, ih]
    rw [wrF]
    by_cases z : wrB r t = true
    · rw [if_pos z, if_pos z]; rfl
    · rw [if_neg z, if_neg z]
theorem rows_at {rs : List Rw} {j : Nat} {r : Rw} (hr : rs[j]? = some r) : atI (rs.map encR) (j : Int) = some (encR r) := by
  have hj := (List.getElem?_eq_some_iff.mp hr).1
  unfold atI ixN
  have a1 : (0 : Int) ≤ j := by omega
  have a2 : (j : Int) < ((rs.map encR).length : Int) := by rw [List.length_map]; omega
  rw [if_pos a1, if_pos a2]
  show (rs.map encR)[(j : Int).toNat]? = _
  rw [List.getElem?_map, show (j : Int).toNat = j by omega, hr]; rfl
theorem ev_lg_wrong (a : S_is_wrong_for (fn i)) : S_wrong_of (bodyF 3 (lg_wrong_M i) fn) := fun g t h hz => by
  have w1 : (-1000000000 : Int) ≤ (g.rs.length : Int) := by omega
  have w2 : (g.rs.length : Int) ≤ 1000000000 := by omega
  have w3 : (upTo 0 g.rs.length).length ≤ 16777216 := by rw [len_up]; omega
  unfold lg_wrong_M
  simp [encL3, w1, w2, w3]
  rw [compL_filter (fun d => match g.rs[(intOf d).toNat]? with
    | some r => wrB r t
    | none => false) id fun d hd => by
    obtain ⟨j, hj⟩ := List.getElem?_of_mem hd
    obtain ⟨rfl, hl⟩ := toNat_upTo (n := g.rs.length) hj
    have hl' : j < g.rs.length := by omega
    have hr := List.getElem?_eq_getElem hl'
    refine ⟨[.val (encL g), .val (.int t), .val (.int j)], by simp, ?_, fun _ => ⟨by simp, rfl⟩⟩
    simp [encL3, rows_at hr, encR_nb, a _ t, intOf, hr]]
  have e := wr_up (t := t) (P := fun d => match g.rs[(intOf d).toNat]? with
    | some r => wrB r t
    | none => false) (rs := g.rs) (p := 0) fun i r hr => by simp [intOf, hr]
  rw [show upTo 0 g.rs.length = upTo ((0 : Nat) : Int) g.rs.length from rfl, e]
  simp [wrI]
theorem cnt_fil {xs : List Int} {f : Int → Int} {i : Int} : ((xs.map f).count i : Nat) = (xs.filter fun t => decide (f t = i)).length := by
  induction xs with
  | nil => rfl
  | cons x xs ih =>
    rw [List.map_cons, List.count_cons, ih, List.filter_cons]
    by_cases z : f x = i
    · simp [z]
    · simp [z]
theorem ev_lg_counts (a : S_wrong_of (fn i)) : S_counts_of_log (bodyF 3 (lg_counts_M i) fn) := fun g h hr hl hm => by
  have w1 : (-1000000000 : Int) ≤ (g.l : Int) + 1 := by omega
  have w2 : (g.l : Int) + 1 ≤ 1000000000 := by omega
  have w4 : ((g.l : Int) + 1).toNat = g.l + 1 := by omega
  have w3 : (upTo 0 (g.l + 1)).length ≤ 16777216 := by rw [len_up]; omega
  have m1 : (-1000000000 : Int) ≤ (g.m : Int) := by omega
  have m2 : (g.m : Int) ≤ 1000000000 := by omega
  have m3 : (upTo 0 g.m).length ≤ 16777216 := by rw [len_up]; omega
  unfold lg_counts_M
  simp [encL2, w1, w2, w4, w3]
  rw [compL_map (fun d => .int ((((nats g.m).map fun t => (nw g.rs t : Int)).count (intOf d) : Nat) : Int)) fun d hd => by
    obtain ⟨j, hj⟩ := List.getElem?_of_mem hd
    obtain ⟨rfl, hl⟩ := toNat_upTo (n := ((g.l + 1 : Nat) : Int)) hj
    refine ⟨[.val (encL g), .val (.int j), .no], by simp, rfl, ?_, rfl⟩
    simp [encL1, m1, m2, m3]
    rw [compL_filter (fun d => decide ((nw g.rs (intOf d) : Int) = (j : Int))) id fun d hd => by
      obtain ⟨u, hu⟩ := List.getElem?_of_mem hd
      obtain ⟨rfl, hl⟩ := toNat_upTo (n := g.m) hu
      refine ⟨[.val (encL g), .val (.int j), .val (.int u)], by simp, ?_, fun _ => ⟨by simp, rfl⟩⟩
      simp [encL_nb, a g _ _ hr, wrI_len, intOf]
      exact decide_eq_decide.mpr Iff.rfl]
    rw [upTo_nats, Is, List.filter_map, List.map_id]
    rw [cnt_fil]
    simp
    rfl]
  rw [upTo_nats, Is, List.map_map]
  simp [cnts, askd, Is]
  exact fun _ _ => rfl
def S_things (f : Fn) : Prop := ∀ (n m : Nat) h, Pt n h → m ≤ 1000 → wp (f [.obj n, .int m] h) fun d h' => Dr n h h' ∧ ∃ ts, d = .tup (Is ts) ∧ thOk m ts
theorem ris_snoc : ∀ {ts : List Int} {x : Int}, risI ts = true → (∀ t ∈ ts, t < x) → risI (ts ++ [x]) = true
  | [], _, _, _ => rfl
  | [a], x, _, k => by simp [risI, k a (.head _)]
  | a :: b :: r, x, q, k => by
    simp only [risI, Bool.and_eq_true, decide_eq_true_eq, List.cons_append] at q ⊢
    exact ⟨q.1, ris_snoc (ts := b :: r) q.2 fun t ht => k t (.tail _ ht)⟩
def IT (n : Nat) (h0 : Cells) (m : Nat) (acc : List D) (h : Cells) : Prop := Pt n h ∧ Dr n h0 h ∧ ∃ ts, acc = Is ts ∧ thOk m ts
theorem Dr.refl {n : Nat} {h : Cells} (p : Pt n h) : Dr n h h := by
  obtain ⟨a, b, e⟩ := p
  exact ⟨a, b, (list_set_self e).symm⟩
where
  list_set_self {n : Nat} {h : Cells} {o : OB} (e : h[n]? = some o) : h.set n o = h := by
    obtain ⟨hl, e⟩ := List.getElem?_eq_some_iff.mp e
    rw [← e]
    exact List.set_getElem_self hl
theorem ev_lg_things (a : S_draw (fn i)) : S_things (bodyF 3 (lg_things_M i) fn) := fun n m h p hm => by
  have m1 : (-1000000000 : Int) ≤ (m : Int) := by omega
  have m2 : (m : Int) ≤ 1000000000 := by omega
  have m3 : (upTo 0 m).length ≤ 16777216 := by rw [len_up]; omega
  unfold lg_things_M
  simp [m1, m2, m3]
  refine wp_mono (compL_wp (IT n h) 0 [] ⟨p, Dr.refl p, [], rfl, (fun t ht => by cases ht), rfl⟩ fun t d hd acc h' ⟨p', dr, ts, e, q⟩ => ?_) fun r h' ⟨p', dr, ts, e, q⟩ => ?_
  · obtain ⟨rfl, hl⟩ := toNat_upTo (n := m) hd
    subst e
    rw [Nat.zero_add] at q ⊢
    refine ⟨[.val (.obj n), .val (.int m), .val (.int t)], by simp, ?_⟩
    simp
    refine wp_mono (a n 2 h' p' (by decide) (by decide)) fun d h2 ⟨d2, j, e, j0, j1⟩ => ?_
    subst e
    simp
    by_cases z : j = 0
    · rw [if_pos z]
      exact ⟨d2.pt p', dr.trans d2, ts ++ [(t : Int)], Is_snoc, (fun x hx => by
        rcases List.mem_append.mp hx with hx | hx
        · have := q.1 x hx; omega
        · have : x = (t : Int) := by simpa using hx
          omega), ris_snoc q.2 fun x hx => (q.1 x hx).2⟩
    · rw [if_neg z]
      exact ⟨d2.pt p', dr.trans d2, ts, rfl, (fun x hx => by have := q.1 x hx; omega), q.2⟩
  · rw [List.nil_append] at e
    subst e
    rw [Nat.zero_add, len_up] at q
    exact ⟨dr, ts, rfl, q⟩
def S_log (f : Fn) : Prop := ∀ (n most rows : Nat) h, Pt n h → 1 ≤ most → most ≤ 40 → rows ≤ 24 → wp (f [.obj n, .int most, .int rows] h) fun d h' => Dr n h h' ∧ ∃ g, d = encL g ∧ LgOk g ∧ g.rs.length ≤ rows ∧ g.m ≤ most
def IL (n : Nat) (h0 : Cells) (most rows m l : Nat) (th : Int) (k : Nat) (env : Ev) (h : Cells) : Prop := Pt n h ∧ Dr n h0 h ∧ ∃ (rs : List Rw) (told : Int) (x8 x9 x10 : Sl), env = [.val (.obj n), .val (.int most), .val (.int rows), .val (.int m), .val (.int l), .own (rs.map encR), .val (.int th), .val (.int told), x8, x9, x10] ∧ rs.length = k ∧ ∀ r ∈ rs, thOk m r.ts
def IL2 (n : Nat) (h0 : Cells) (most rows m l : Nat) (rs : List Rw) (th : Int) (t : Nat) (ts : List Int) (env : Ev) (h : Cells) : Prop := Pt n h ∧ Dr n h0 h ∧ ∃ (told : Int) (yes : Bool), env = [.val (.obj n), .val (.int most), .val (.int rows), .val (.int m), .val (.int l), .own (rs.map encR), .val (.int th), .val (.int told), .val (.int t), .val (.tup (Is ts)), .val (.bl yes)]
theorem ev_lg_log (b : S_things (fn i)) (a : S_draw (fn i2)) : S_log (bodyF 11 (lg_log_M i i2) fn) := fun n most rows h p q1 q2 q3 => by
  unfold lg_log_M
  rw [e_body, wp_bind]
  refine stepM (fun env h' => Pt n h' ∧ Dr n h h' ∧ ∃ m l : Nat, 1 ≤ m ∧ m ≤ most ∧ l ≤ 3 ∧ env = [.val (.obj n), .val (.int most), .val (.int rows), .val (.int m), .val (.int l), .no, .no, .no, .no, .no, .no]) ?_ fun env h1 ⟨p1, d1, m, l, m1, m2, l3, ee⟩ => ?_
  · simp
    refine wp_mono (a n most h p (by omega) (by omega)) fun d h1 ⟨d1, j, e, j0, j1⟩ => ?_
    subst e
    simp
    refine wp_mono (a n 4 h1 (d1.pt p) (by decide) (by decide)) fun d h2 ⟨d2, j2, e, k0, k1⟩ => ?_
    subst e
    simp
    have d3 := d1.trans d2
    refine ⟨d3.pt p, d3, (1 + j).toNat, by omega, by omega, j2.toNat, by omega, by omega, by omega⟩
  subst ee
  refine stepM (fun env h' => Pt n h' ∧ Dr n h h' ∧ ∃ th told : Int, env = [.val (.obj n), .val (.int most), .val (.int rows), .val (.int m), .val (.int l), .own [], .val (.int th), .val (.int told), .no, .no, .no]) ?_ fun env h2 ⟨p2, d2, th, told, ee⟩ => ?_
  · simp
    refine wp_mono (a n m h1 p1 (by omega) (by omega)) fun d h2 ⟨d2, j, e, j0, j1⟩ => ?_
    subst e
    simp
    refine wp_mono (a n 2 h2 (d2.pt p1) (by decide) (by decide)) fun d h3 ⟨d3, j2, e, k0, k1⟩ => ?_
    subst e
    simp
    have d4 := (d1.trans d2).trans d3
    exact ⟨d4.pt p, d4⟩
  subst ee
  refine stepM (fun env h' => ∃ k, k ≤ rows ∧ IL n h most rows m l th k env h') ?_ fun env h3 ⟨k, kr, p3, d3, rs, told', x8, x9, x10, ee, lk, ok⟩ => ?_
  · simp
    refine wp_mono (a n (rows + 1) h2 p2 (by omega) (by omega)) fun d h3 ⟨d3, j, e, j0, j1⟩ => ?_
    subst e
    have w1 : (-1000000000 : Int) ≤ j := by omega
    have w2 : j ≤ 1000000000 := by omega
    simp [w1, w2]
    have z := forL_wp (fn := fn) (pt := .name 8) (body := lg_log_b0 i i2) (IL n h most rows m l th) (ds := upTo 0 j.toNat) (env := [.val (.obj n), .val (.int most), .val (.int rows), .val (.int m), .val (.int l), .own [], .val (.int th), .val (.int told), .no, .no, .no]) (h := h3) 0 ⟨d3.pt p2, d2.trans d3, [], told, .no, .no, .no, rfl, rfl, (fun r hr => by cases hr)⟩ (by
      rintro t d env h4 hd ⟨p4, d4, rs, told, x8, x9, x10, rfl, lk, ok⟩
      obtain ⟨rfl, hl⟩ := toNat_upTo hd
      refine ⟨[.val (.obj n), .val (.int most), .val (.int rows), .val (.int m), .val (.int l), .own (rs.map encR), .val (.int th), .val (.int told), .val (.int t), x9, x10], by simp, ?_⟩
      unfold lg_log_b0
      refine stepM (fun env h' => Pt n h' ∧ Dr n h h' ∧ ∃ ts, thOk m ts ∧ env = [.val (.obj n), .val (.int most), .val (.int rows), .val (.int m), .val (.int l), .own (rs.map encR), .val (.int th), .val (.int told), .val (.int t), .val (.tup (Is ts)), x10]) ?_ fun env h5 ⟨p5, d5, ts, tk, ee⟩ => ?_
      · simp
        refine wp_mono (b n m h4 p4 (by omega)) fun d h5 ⟨d5, ts, e, tk⟩ => ?_
        subst e
        simp
        exact ⟨(d4.trans d5).pt p, d4.trans d5, ts, tk, rfl⟩
      subst ee
      refine stepE (env1 := [.val (.obj n), .val (.int most), .val (.int rows), .val (.int m), .val (.int l), .own (rs.map encR), .val (.int th), .val (.int told), .val (.int t), .val (.tup (Is ts)), .val (.bl (ts.contains th))]) (by simp [in_ints]) ?_
      refine stepM (IL2 n h most rows m l rs th t ts) ?_ fun env h6 ⟨p6, d6, told, yes, ee⟩ => ?_
      · by_cases z : 0 < told
        · simp [z]
          refine wp_mono (a n 3 h5 p5 (by decide) (by decide)) fun d h6 ⟨d6, j, e, j0, j1⟩ => ?_
          subst e
          by_cases y : j = 0
          · simp [y]
            exact ⟨(d5.trans d6).pt p, d5.trans d6, _, _, rfl⟩
          · simp [y]
            exact ⟨(d5.trans d6).pt p, d5.trans d6, _, _, rfl⟩
        · simp [z]
          exact ⟨p5, d5, told, ts.contains th, by simp⟩
      subst ee
      have hz : rs.length < 16777216 := by omega
      have en : (if yes = true then D.str ("yes" : Str) else D.str ("no" : Str)) = ansD yes := by cases yes <;> rfl
      cases yes with
      | true =>
        simp [hz]
        exact ⟨p6, d6, rs ++ [⟨ts, true⟩], _, _, _, _, by simp [encR, ansD]; exact ⟨rfl, rfl, rfl, rfl⟩, by simp; omega, fun r hr => by
          rcases List.mem_append.mp hr with hr | hr
          · exact ok r hr
          · have : r = ⟨ts, true⟩ := by simpa using hr
            rw [this]; exact tk⟩
      | false =>
        simp [hz]
        exact ⟨p6, d6, rs ++ [⟨ts, false⟩], _, _, _, _, by simp [encR, ansD]; exact ⟨rfl, rfl, rfl, rfl⟩, by simp; omega, fun r hr => by
          rcases List.mem_append.mp hr with hr | hr
          · exact ok r hr
          · have : r = ⟨ts, false⟩ := by simpa using hr
            rw [this]; exact tk⟩)
    refine wp_mono z fun x h4 ⟨e1, e2⟩ => ⟨e1, _, ?_, e2⟩
    rw [len_up]; omega
  subst ee
  simp
  refine ⟨d3, ⟨m, l, rs⟩, rfl, ⟨m1, by show m ≤ 40; omega, l3, by show rs.length ≤ 24; omega, ok⟩, by show rs.length ≤ rows; omega, m2⟩
end
end EV
/-! EV42: laws' ends; what repr is asked of -/
namespace EV
open PySem L2
/-- repr goes: floors, size -/
def Rq (n B : Nat) (d : D) : Prop := okr n d = true ∧ dsz n d ≤ B
theorem Rq.mono {n B C : Nat} {d : D} (q : Rq n B d) (h : B ≤ C) : Rq n C d := ⟨q.1, Nat.le_trans q.2 h⟩
theorem rq_int {n : Nat} {i : Int} (h : i.natAbs ≤ 1000000000000000) : Rq n 41 (.int i) := by
  have z : i.natAbs < 10 ^ 40 := Nat.lt_of_le_of_lt h (by decide)
  refine ⟨?_, by rw [dsz_i]; decide⟩
  cases n <;> exact decide_eq_true z
theorem rq_bl {n : Nat} {b : Bool} : Rq n 5 (.bl b) := by cases n <;> exact ⟨rfl, Nat.le_refl _⟩
theorem rq_non {n : Nat} : Rq n 4 .non := by cases n <;> exact ⟨rfl, Nat.le_refl _⟩
theorem rq_str {n : Nat} {s : Str} (h : PySem.PyData.strOk s = true) : Rq n (10 * s.length + 2) (.str s) := by cases n <;> exact ⟨h, Nat.le_refl _⟩
theorem rq_tup {n B C : Nat} {ds : List D} (h : ∀ d ∈ ds, Rq n B d) (l : ds.length * (B + 2) + 3 ≤ C) : Rq (n + 1) C (.tup ds) := by
  refine ⟨List.all_eq_true.mpr fun d hd => (h d hd).1, ?_⟩
  have := dsz_le (n := n) (B := B) (xs := ds) fun d hd => (h d hd).2
  show (ds.map fun d => dsz n d + 2).sum + 3 ≤ C
  omega
theorem rq_lst {n B C : Nat} {ds : List D} (h : ∀ d ∈ ds, Rq n B d) (l : ds.length * (B + 2) + 3 ≤ C) : Rq (n + 1) C (.lst ds) := by
  refine ⟨List.all_eq_true.mpr fun d hd => (h d hd).1, ?_⟩
  have := dsz_le (n := n) (B := B) (xs := ds) fun d hd => (h d hd).2
  show (ds.map fun d => dsz n d + 2).sum + 3 ≤ C
  omega
theorem rq_Is {n C : Nat} {ns : List Int} (h : ∀ i ∈ ns, i.natAbs ≤ 1000000000000000) (l : ns.length * 43 + 3 ≤ C) : Rq (n + 1) C (.tup (Is ns)) ∧ Rq (n + 1) C (.lst (Is ns)) := by
  have a : ∀ d ∈ Is ns, Rq n 41 d := fun d hd => by
    obtain ⟨i, hi, rfl⟩ := List.mem_map.mp hd
    exact rq_int (h i hi)
  exact ⟨rq_tup a (by rw [len_Is]; exact l), rq_lst a (by rw [len_Is]; exact l)⟩
theorem rep_q {n : Nat} {xs : List D} (hn : n ≤ 40) (hx : ∀ x ∈ xs, Rq n 1000000 x) (hl : xs.length ≤ 10) (h : Cells) : cRepr [.lst xs] h = .ok (.str (shownL xs)) h := by
  obtain ⟨a, b⟩ := rq_lst (C := 16777216) hx (by omega)
  exact repr_ok (n := n) (by omega) a b
theorem rep1 {n : Nat} {a : D} (hn : n ≤ 40) (ha : Rq n 1000000 a) (h : Cells) : cRepr [.lst [a]] h = .ok (.str (shownL [a])) h := rep_q hn (by simp [ha]) (by simp) h
theorem rep2 {n : Nat} {a b : D} (hn : n ≤ 40) (ha : Rq n 1000000 a) (hb : Rq n 1000000 b) (h : Cells) : cRepr [.lst [a, b]] h = .ok (.str (shownL [a, b])) h := rep_q hn (by simp [ha, hb]) (by simp) h
theorem rep3q {n : Nat} {a b c : D} (hn : n ≤ 40) (ha : Rq n 1000000 a) (hb : Rq n 1000000 b) (hc : Rq n 1000000 c) (h : Cells) : cRepr [.lst [a, b, c]] h = .ok (.str (shownL [a, b, c])) h := rep_q hn (by simp [ha, hb, hc]) (by simp) h
/-- the shown text of a tuple -/
def shownT (xs : List D) : Str := match D.pd (.tup xs) with
  | some p => p.shown
  | none => default
theorem rep_t {n : Nat} {xs : List D} (hn : n ≤ 40) (hx : Rq (n + 1) 10000000 (.tup xs)) (h : Cells) : cRepr [.tup xs] h = .ok (.str (shownT xs)) h := by
  obtain ⟨p, h1, h2, h3, h4⟩ := okr_pd (n := n + 1) (d := .tup xs) hx.1
  unfold shownT cRepr
  have e : pdH h (.tup xs) = some p := h1
  have dsp : PyProof.Rows.isDisplay p = true := by
    simp only [D.pd] at h1
    obtain ⟨ps, e1, rfl⟩ := Option.map_eq_some_iff.mp h1
    rfl
  simp only [e, h1]
  rw [if_pos]
  have := hx.2
  simp only [Bool.and_eq_true, decide_eq_true_eq]
  exact ⟨⟨⟨dsp, h2⟩, show rsz p ≤ 16777216 by omega⟩, by omega⟩
theorem lst2_ev {fn : Fns} {env : Ev} {h : Cells} {a b : DE} {x y : D} (ha : a fn env h = .ok x h) (hb : b fn env h = .ok y h) (nx : isBor x = false) (ny : isBor y = false) : dLst (daCons a (daCons b daNil)) fn env h = .ok (.lst [x, y]) h := by
  simp [ha, hb, nx, ny]
theorem lst3_ev {fn : Fns} {env : Ev} {h : Cells} {a b c : DE} {x y z : D} (ha : a fn env h = .ok x h) (hb : b fn env h = .ok y h) (hc : c fn env h = .ok z h) (nx : isBor x = false) (ny : isBor y = false) (nz : isBor z = false) : dLst (daCons a (daCons b (daCons c daNil))) fn env h = .ok (.lst [x, y, z]) h := by
  simp [ha, hb, hc, nx, ny, nz]
/-! ### a law's end -/
def S_right (f : Fn) : Prop := ∀ (n : Nat) h, Pt n h → wp (f [.obj n] h) fun d h' => d = .bl true ∧ Pt n h'
def S_law (f : Fn) : Prop := ∀ (ns : List Int), wp (f [.frz (ns.map D.int)] []) fun d _ => d = .bl true
theorem main_of {T : List FD} {i k : Nat} (a : S_law (fnsOf T k i)) (ns : List Int) : ∃ h, fnsOf T k i [.frz (ns.map D.int)] [] = .ok (.bl true) h := by
  obtain ⟨d, h, e, rfl⟩ := wp_get (a ns)
  exact ⟨h, e⟩
def lawA_b0 (r : Nat) : DS := sIf (dtNot (dTruE (dCall r 1 0 [.p 0] [] (daCons (dVar 1) (daNil)) (daNil)))) (sRet (dC (.bl false))) (sNext)
def lawA_M (r p : Nat) (N : Int) : DS := sSeq (sSet 1 (dCall p 2 0 [.p 0, .p 1] [] (daCons (dVar 0) (daCons (dC (.int 0)) (daNil))) (daNil))) (sSeq (sFor (.name 2) (dRng1 (daCons (dC (.int N)) (daNil))) (lawA_b0 r)) (sRet (dC (.bl true))))
def lawB_b0 (r : Nat) : DS := sIf (dtNot (dTruE (dCall r 1 0 [.p 0] [] (daCons (dVar 2) (daNil)) (daNil)))) (sRet (dC (.bl false))) (sNext)
def lawB_b1 (r p : Nat) : DS := sSeq (sSet 2 (dCall p 2 0 [.p 0, .p 1] [] (daCons (dVar 0) (daCons (dVar 1) (daNil))) (daNil))) (sFor (.name 3) (dRng1 (daCons (dC (.int 2)) (daNil))) (lawB_b0 r))
def lawB_M (r p : Nat) : DS := sSeq (sFor (.name 1) (dItems (dTup (daCons (dC (.int 0)) (daCons (dC (.int 1)) (daNil))))) (lawB_b1 r p)) (sRet (dC (.bl true)))
def lawD_M (r p : Nat) : DS := sRet (dAnd (dCall r 1 0 [.p 0] [] (daCons (dCall p 2 0 [.p 0, .p 1] [] (daCons (dVar 0) (daCons (dC (.int 0)) (daNil))) (daNil)) (daNil)) (daNil)) (dCall r 1 0 [.p 0] [] (daCons (dCall p 2 0 [.p 0, .p 1] [] (daCons (dVar 0) (daCons (dC (.int 1)) (daNil))) (daNil)) (daNil)) (daNil)))
def lawE_M (r p : Nat) (N : Int) : DS := sRet (dOpN cAll (daCons (asVal (dComp [1] (.name 1) (dRng1 (daCons (dOpN cMaxL (daCons (dC (.int 1)) (daCons (dOpN cMinL (daCons (dC (.int N)) (daCons (dOpN cLen (daCons (dVar 0) (daNil))) (daNil)))) (daNil)))) (daNil))) (dtYes) (dCall r 1 0 [.p 0] [] (daCons (dCall p 2 0 [.p 0, .p 1] [] (daCons (dVar 0) (daCons (dVar 1) (daNil))) (daNil)) (daNil)) (daNil)))) (daNil)))
section
variable {fn : Fns} {r p : Nat}
def LIA (s : D) (n : Nat) (env : Ev) (h : Cells) : Prop := Pt n h ∧ ∃ x2, env = [.val s, .val (.obj n), x2]
theorem ev_lawA {N : Int} (n0 : 0 ≤ N) (n1 : N ≤ 1000) (a : S_right (fn r)) (b : S_pot (fn p)) : S_law (bodyF 3 (lawA_M r p N) fn) := fun ns => by
  have b0 : ∀ h, wp (fn p [.frz (ns.map D.int), .int 0] h) fun d h' => d = .obj h.length ∧ ∃ a b, h' = h ++ [.lst [.int a, .int b]] := fun h => b ns 0 h
  unfold lawA_M
  rw [e_body, wp_bind]
  refine stepM (fun env1 h1 => ∃ n, LIA (.frz (ns.map D.int)) n env1 h1) ?_ fun env1 h1 q => ?_
  · simp
    refine wp_mono (b0 []) fun d h ⟨e, x, y, e2⟩ => ?_
    subst e e2
    simp
    exact ⟨0, pt_new (h := []), .no, rfl⟩
  · obtain ⟨n, pt, x2, rfl⟩ := q
    refine stepM (fun env1 h1 => True) ?_ fun env1 h2 _ => ?_
    · have w1 : (-1000000000 : Int) ≤ N := by omega
      have w2 : N ≤ 1000000000 := by omega
      rw [e_sFor]
      rw [show (dRng1 (daCons (dC (.int N)) (daNil))) fn [Sl.val (.frz (ns.map D.int)), Sl.val (D.obj n), x2] h1 = .ok (upTo 0 N.toNat) h1 from by simp [w1, w2], ok_bind]
      have z := forL_wp (fn := fn) (pt := .name 2) (body := lawA_b0 r) (fun _ => LIA (.frz (ns.map D.int)) n) (ds := upTo 0 N.toNat) (env := [Sl.val (.frz (ns.map D.int)), Sl.val (D.obj n), x2]) (h := h1) 0 ⟨pt, x2, rfl⟩ fun t d env h hd q => by
        obtain ⟨rfl, _⟩ := toNat_upTo hd
        obtain ⟨pt, x2, rfl⟩ := q
        refine ⟨[.val (.frz (ns.map D.int)), .val (.obj n), .val (.int t)], by simp, ?_⟩
        unfold lawA_b0
        simp
        refine wp_mono (a n _ pt) fun d h ⟨e, p⟩ => ?_
        subst e
        simp
        exact ⟨p, _, rfl⟩
      exact wp_mono z fun x h ⟨a, b⟩ => ⟨a, trivial⟩
    · simp
def LIB (s : D) (n : Nat) (env : Ev) (h : Cells) : Prop := Pt n h ∧ ∃ x1 x3, env = [.val s, x1, .val (.obj n), x3]
def LIC (s : D) (env : Ev) (h : Cells) : Prop := ∃ x1 x2 x3, env = [.val s, x1, x2, x3]
theorem ev_lawB (a : S_right (fn r)) (b : S_pot (fn p)) : S_law (bodyF 4 (lawB_M r p) fn) := fun ns => by
  unfold lawB_M
  rw [e_body, wp_bind]
  refine stepM (fun env1 h1 => True) ?_ fun env1 h1 _ => by simp
  rw [e_sFor]
  rw [show (dItems (dTup (daCons (dC (.int 0)) (daCons (dC (.int 1)) (daNil))))) fn (startE 4 [.frz (ns.map D.int)]) [] = .ok [.int 0, .int 1] [] from by simp, ok_bind]
  have z := forL_wp (fn := fn) (pt := .name 1) (body := lawB_b1 r p) (fun _ => LIC (.frz (ns.map D.int))) (ds := [.int 0, .int 1]) (env := startE 4 [.frz (ns.map D.int)]) (h := []) 0 ⟨.no, .no, .no, rfl⟩ fun t d env h hd q => by
    obtain ⟨x1, x2, x3, rfl⟩ := q
    obtain ⟨u, rfl⟩ : ∃ u : Nat, d = .int u := by
      match t, hd with
      | 0, hd => simp at hd; exact ⟨0, hd.symm⟩
      | 1, hd => simp at hd; exact ⟨1, hd.symm⟩
    refine ⟨[.val (.frz (ns.map D.int)), .val (.int u), x2, x3], by simp, ?_⟩
    unfold lawB_b1
    refine stepM (fun env1 h1 => ∃ n, LIB (.frz (ns.map D.int)) n env1 h1) ?_ fun env1 h1 q => ?_
    · simp
      refine wp_mono (b ns u h) fun d h1 ⟨e, x, y, e2⟩ => ?_
      subst e e2
      simp
      exact ⟨h.length, pt_new, _, _, rfl⟩
    · obtain ⟨n, pt, x1, x3, rfl⟩ := q
      rw [e_sFor]
      rw [show (dRng1 (daCons (dC (.int 2)) (daNil))) fn [Sl.val (.frz (ns.map D.int)), x1, Sl.val (D.obj n), x3] h1 = .ok (upTo 0 2) h1 from by simp, ok_bind]
      have z := forL_wp (fn := fn) (pt := .name 3) (body := lawB_b0 r) (fun _ => LIB (.frz (ns.map D.int)) n) (ds := upTo 0 2) (env := [Sl.val (.frz (ns.map D.int)), x1, Sl.val (D.obj n), x3]) (h := h1) 0 ⟨pt, x1, x3, rfl⟩ fun t d env h hd q => by
        have hd' : (upTo 0 (2 : Int).toNat)[t]? = some d := hd
        obtain ⟨rfl, _⟩ := toNat_upTo hd'
        obtain ⟨pt, x1, x3, rfl⟩ := q
        refine ⟨[.val (.frz (ns.map D.int)), x1, .val (.obj n), .val (.int t)], by simp, ?_⟩
        unfold lawB_b0
        simp
        refine wp_mono (a n _ pt) fun d h ⟨e, p⟩ => ?_
        subst e
        simp
        exact ⟨p, _, _, rfl⟩
      refine wp_mono z fun x h ⟨e1, pt, x1, x3, e2⟩ => ?_
      exact ⟨.inl e1, _, _, _, e2⟩
  exact wp_mono z fun x h ⟨a, b⟩ => ⟨a, trivial⟩
theorem ev_lawD (a : S_right (fn r)) (b : S_pot (fn p)) : S_law (bodyF 1 (lawD_M r p) fn) := fun ns => by
  have b0 : ∀ h, wp (fn p [.frz (ns.map D.int), .int 0] h) fun d h' => d = .obj h.length ∧ ∃ a b, h' = h ++ [.lst [.int a, .int b]] := fun h => b ns 0 h
  have b1 : ∀ h, wp (fn p [.frz (ns.map D.int), .int 1] h) fun d h' => d = .obj h.length ∧ ∃ a b, h' = h ++ [.lst [.int a, .int b]] := fun h => b ns 1 h
  unfold lawD_M
  simp
  refine wp_mono (b0 []) fun d h ⟨e, x, y, e2⟩ => ?_
  subst e e2
  simp
  refine wp_mono (a 0 _ (pt_new (h := []))) fun d h ⟨e, p0⟩ => ?_
  subst e
  simp
  refine wp_mono (b1 h) fun d h1 ⟨e, x, y, e2⟩ => ?_
  subst e e2
  simp
  refine wp_mono (a h.length _ pt_new) fun d h ⟨e, p1⟩ => ?_
  subst e
  simp
theorem allT {k : Nat} {ds : List D} {h : Cells} (e : ∀ d ∈ ds, d = .bl true) : cAll [.lst ds] h = .ok (.bl true) h := by
  have z : toBls ds = some (ds.map fun _ => true) := by
    induction ds with
    | nil => rfl
    | cons d ds ih =>
      rw [e d (.head _)]
      simp [toBls, ih fun x hx => e x (.tail _ hx)]
  unfold cAll
  simp [seqL, z]
theorem ev_lawE {N : Int} (n0 : 0 ≤ N) (n1 : N ≤ 1000) (a : S_right (fn r)) (b : S_pot (fn p)) : S_law (bodyF 2 (lawE_M r p N) fn) := fun ns => by
  unfold lawE_M
  simp
  generalize hM : (if 1 < (if (ns.length : Int) < N then (ns.length : Int) else N) then (if (ns.length : Int) < N then (ns.length : Int) else N) else 1) = M
  have w0 : 0 ≤ M := by rw [← hM]; split <;> split <;> omega
  have w1 : (-1000000000 : Int) ≤ M := by omega
  have w2 : M ≤ 1000000000 := by rw [← hM]; split <;> split <;> omega
  have w3 : (upTo 0 M.toNat).length ≤ 16777216 := by rw [len_up, ← hM]; split <;> split <;> omega
  simp [w1, w2, w3]
  refine wp_mono (compL_wp (fun _ acc h => ∀ d ∈ acc, d = D.bl true) 0 [] (fun d hd => by cases hd) fun t d hd acc h e => ?_) fun r h e => ?_
  · obtain ⟨rfl, _⟩ := toNat_upTo hd
    refine ⟨[.val (.frz (ns.map D.int)), .val (.int t)], by simp, ?_⟩
    simp
    refine wp_mono (b ns t h) fun d h1 ⟨e1, x, y, e2⟩ => ?_
    subst e1 e2
    simp
    refine wp_mono (a h.length _ pt_new) fun d h2 ⟨e1, p1⟩ => ?_
    subst e1
    refine ⟨rfl, fun d hd => ?_⟩
    rcases hd with hd | hd
    · exact e d hd
    · exact hd
  · rw [List.nil_append] at e
    rw [allT (k := 0) e]
    simp
end
end EV
/-! EV43: logs: the plain facts -/
namespace EV
open PySem L2
theorem ris_pw : ∀ {ts : List Int}, risI ts = true → ts.Pairwise (· < ·)
  | [], _ => .nil
  | [a], _ => by simp
  | a :: b :: r, q => by
    simp only [risI, Bool.and_eq_true, decide_eq_true_eq] at q
    have ih := ris_pw (ts := b :: r) q.2
    refine List.Pairwise.cons (fun x hx => ?_) ih
    rcases List.mem_cons.mp hx with rfl | hx
    · exact q.1
    · have := (List.pairwise_cons.mp ih).1 x hx
      omega
theorem nats_pw {m : Nat} : (nats m).Pairwise (· < ·) := by
  rw [nats, List.pairwise_map]
  exact List.pairwise_lt_range.imp fun h => by omega
theorem sorted_eq {xs ys : List Int} (a : xs.Pairwise (· < ·)) (b : ys.Pairwise (· < ·)) (h : ∀ t, t ∈ xs ↔ t ∈ ys) : xs = ys := by
  have n1 : xs.Nodup := a.imp fun h => by omega
  have n2 : ys.Nodup := b.imp fun h => by omega
  exact ((List.perm_ext_iff_of_nodup n1 n2).mpr h).eq_of_pairwise (fun x y _ _ h1 h2 => Int.le_antisymm h1 h2) (a.imp fun h => by omega) (b.imp fun h => by omega)
theorem th_filter {m : Nat} {ts : List Int} (q : thOk m ts) : ts = (nats m).filter fun t => ts.contains t := by
  refine sorted_eq (ris_pw q.2) (nats_pw.filter _) fun t => ?_
  rw [List.mem_filter, mem_nats]
  constructor
  · intro h; exact ⟨q.1 t h, by simpa using h⟩
  · intro h; simpa using h.2
theorem gd_nats {F : Int → Int} {m i : Nat} (hi : i < m) : gd ((nats m).map F) i = F i := by
  refine getD_of ?_
  rw [List.getElem?_map, nats, List.getElem?_map, List.getElem?_range hi]; rfl
theorem nw_snoc {rs : List Rw} {r : Rw} {t : Int} : nw (rs ++ [r]) t = nw rs t + if wrB r t then 1 else 0 := by
  rw [nw, nw, List.countP_append, List.countP_cons, List.countP_nil, Nat.zero_add]
theorem cnt_split (f : Int → Int) (w : Int → Bool) (i : Int) : ∀ xs : List Int, (xs.map fun t => f t + if w t then 1 else 0).count i = (xs.filter fun t => !w t && decide (f t = i)).length + (xs.filter fun t => w t && decide (f t = i - 1)).length
  | [] => rfl
  | x :: xs => by
    have ih := cnt_split f w i xs
    rw [List.map_cons, List.count_cons, ih, List.filter_cons, List.filter_cons]
    cases hw : w x with
    | true =>
      by_cases z : f x = i - 1
      · have z' : f x + 1 = i := by omega
        simp [z, z']; omega
      · have z' : ¬ f x + 1 = i := by omega
        simp [z, z']
    | false =>
      by_cases z : f x = i
      · simp [z]; omega
      · simp [z]
theorem fil_split (p q : Int → Bool) : ∀ xs : List Int, (xs.filter q).length = (xs.filter fun t => p t && q t).length + (xs.filter fun t => !p t && q t).length
  | [] => rfl
  | x :: xs => by
    have ih := fil_split p q xs
    rw [List.filter_cons, List.filter_cons, List.filter_cons]
    cases p x <;> cases q x <;> simp [ih] <;> omega
/-- things of a list with so many wrong answers -/
def nth (g : Lg) (p : Int → Bool) (i : Int) : Int := (((nats g.m).filter fun t => p t && decide ((nw g.rs t : Int) = i)).length : Nat)
theorem askd_at {g : Lg} {ts : List Int} {i : Nat} (q : thOk g.m ts) (hi : i < g.l + 1) : gd (askd g ts) i = nth g (fun t => ts.contains t) i := by
  rw [askd, gd_nats hi, cnt_fil, nth]
  congr 2
  have e := th_filter q
  calc ts.filter (fun t => decide ((nw g.rs t : Int) = i)) = ((nats g.m).filter fun t => ts.contains t).filter (fun t => decide ((nw g.rs t : Int) = i)) := by rw [← e]
    _ = _ := by
      rw [List.filter_filter]
      refine List.filter_congr fun t _ => ?_
      rw [Bool.and_comm]
theorem cnts_at {g : Lg} {i : Nat} (hi : i < g.l + 1) : gd (cnts g) i = nth g (fun _ => true) i := by
  rw [cnts, askd, gd_nats hi, cnt_fil, nth]
  simp
theorem nth_split {g : Lg} (p : Int → Bool) {i : Int} : nth g (fun _ => true) i = nth g p i + nth g (fun t => !p t) i := by
  have := fil_split p (fun t => decide ((nw g.rs t : Int) = i)) (nats g.m)
  simp only [nth, Bool.true_and]
  omega
theorem askd_len {g : Lg} {ts : List Int} : (askd g ts).length = g.l + 1 := by simp [askd, nats_len]
theorem late_at {g : Lg} {r : Rw} {i : Nat} (hi : i < g.l + 1) : gd (cnts { g with rs := g.rs ++ [r] }) i = nth g (fun t => !wrB r t) i + (if 1 ≤ i then nth g (fun t => wrB r t) ((i - 1 : Nat) : Int) else 0) := by
  have e : ∀ t, (nw (g.rs ++ [r]) t : Int) = (nw g.rs t : Int) + if wrB r t then 1 else 0 := fun t => by
    rw [nw_snoc]; split <;> simp
  rw [cnts, askd, gd_nats (by exact hi)]
  have h1 := cnt_split (fun t => (nw g.rs t : Int)) (wrB r) i (nats g.m)
  have e2 : ((nats g.m).map fun t => (nw (g.rs ++ [r]) t : Int)) = (nats g.m).map fun t => (nw g.rs t : Int) + if wrB r t then 1 else 0 := List.map_congr_left fun t _ => e t
  show (((((nats g.m).map fun t => (nw (g.rs ++ [r]) t : Int)).count (i : Int) : Nat)) : Int) = _
  rw [e2, h1]
  simp only [nth]
  by_cases z : 1 ≤ i
  · rw [if_pos z, show ((i - 1 : Nat) : Int) = (i : Int) - 1 by omega]
    omega
  · rw [if_neg z]
    have e0 : (i : Int) = 0 := by omega
    have : ((nats g.m).filter fun t => wrB r t && decide ((nw g.rs t : Int) = (i : Int) - 1)) = [] := by
      rw [List.filter_eq_nil_iff]
      intro t _
      have : ¬ ((nw g.rs t : Int) = (i : Int) - 1) := by omega
      simp [this]
    rw [this]
    simp
theorem nth_nn {g : Lg} {p : Int → Bool} {i : Int} : 0 ≤ nth g p i := by unfold nth; omega
theorem wrB_t {ts : List Int} {t : Int} : wrB ⟨ts, true⟩ t = !ts.contains t := by
  unfold wrB
  cases ts.contains t <;> rfl
theorem wrB_f {ts : List Int} {t : Int} : wrB ⟨ts, false⟩ t = ts.contains t := by
  unfold wrB
  cases ts.contains t <;> rfl
theorem lists_eq {as bs : List Int} {L : Nat} (ha : as.length = L) (hb : bs.length = L) (h : ∀ i, i < L → gd as i = gd bs i) : as = bs := by
  refine List.ext_getElem? fun i => ?_
  by_cases hi : i < L
  · rw [gd_get (by omega), gd_get (by omega), h i hi]
  · rw [List.getElem?_eq_none (by omega), List.getElem?_eq_none (by omega)]
theorem late_len {g : Lg} {r : Rw} : (cnts { g with rs := g.rs ++ [r] }).length = g.l + 1 := askd_len
theorem cnts_len {g : Lg} : (cnts g).length = g.l + 1 := askd_len
theorem asks_leq {g : Lg} {ts : List Int} (q : thOk g.m ts) : leqB (askd g ts) (cnts g) = true := by
  have go : ∀ (L : Nat) (as bs : List Int), as.length = L → bs.length = L → (∀ i, i < L → 0 ≤ gd as i ∧ gd as i ≤ gd bs i) → leqB as bs = true := by
    intro L
    induction L with
    | zero =>
      intro as bs ha hb _
      rw [List.length_eq_zero_iff.mp ha, List.length_eq_zero_iff.mp hb]; rfl
    | succ L ih =>
      intro as bs ha hb k
      match as, bs, ha, hb with
      | a :: as, b :: bs, ha, hb =>
        have k0 := k 0 (by omega)
        simp only [leqB, Bool.and_eq_true, decide_eq_true_eq]
        exact ⟨⟨k0.1, k0.2⟩, ih as bs (by simpa using ha) (by simpa using hb) fun i hi => k (i + 1) (by omega)⟩
  refine go (g.l + 1) _ _ askd_len cnts_len fun i hi => ?_
  rw [askd_at q hi, cnts_at hi, nth_split fun t => ts.contains t]
  have a := nth_nn (g := g) (p := fun t => ts.contains t) (i := i)
  have b := nth_nn (g := g) (p := fun t => !ts.contains t) (i := i)
  omega
theorem late_eq {g : Lg} {ts : List Int} {a : Bool} (q : thOk g.m ts) : (if a then yes (cnts g) (askd g ts) else no (cnts g) (askd g ts)) = cnts { g with rs := g.rs ++ [⟨ts, a⟩] } := by
  have le := asks_leq q
  have el : (askd g ts).length = (cnts g).length := leq_len le
  have lr : (rest (cnts g) (askd g ts)).length = g.l + 1 := by rw [len_rest' el, cnts_len]
  have ra : ∀ i, i < g.l + 1 → gd (rest (cnts g) (askd g ts)) i = nth g (fun t => !ts.contains t) i := fun i hi => by
    rw [gd_rest el (by rw [cnts_len]; exact hi), cnts_at hi, askd_at q hi, nth_split fun t => ts.contains t]
    omega
  have zz : ∀ {as rs : List Int} {i : Nat}, as.length = g.l + 1 → rs.length = g.l + 1 → i < g.l + 1 → gd (List.zipWith (· + ·) as (0 :: rs.dropLast)) i = gd as i + (if 1 ≤ i then gd rs (i - 1) else 0) := fun ha hr hi => getD_of (zip_at ha hr hi)
  have zl : ∀ {as rs : List Int}, as.length = g.l + 1 → rs.length = g.l + 1 → (List.zipWith (· + ·) as (0 :: rs.dropLast)).length = g.l + 1 := fun ha hr => by
    rw [List.length_zipWith, List.length_cons, List.length_dropLast]; omega
  cases a with
  | true =>
    rw [if_pos rfl, yes]
    refine lists_eq (zl askd_len lr) late_len fun i hi => ?_
    rw [zz askd_len lr hi, late_at hi, askd_at q hi]
    simp only [wrB_t, Bool.not_not]
    congr 1
    by_cases z : 1 ≤ i
    · rw [if_pos z, if_pos z, ra _ (by omega)]
    · rw [if_neg z, if_neg z]
  | false =>
    rw [if_neg (by decide), no, yes, rest_rest le]
    refine lists_eq (zl lr askd_len) late_len fun i hi => ?_
    rw [zz lr askd_len hi, late_at hi, ra i hi]
    simp only [wrB_f]
    congr 1
    by_cases z : 1 ≤ i
    · rw [if_pos z, if_pos z, askd_at q (by omega)]
    · rw [if_neg z, if_neg z]
theorem sum_fil (f : Int → Int) : ∀ (L : Nat) (xs : List Int), ((nats L).map fun i => (((xs.filter fun t => decide (f t = i)).length : Nat) : Int)).sum ≤ xs.length
  | 0, xs => by simp [nats]
  | L + 1, xs => by
    have e : nats (L + 1) = nats L ++ [(L : Int)] := by simp [nats, List.range_succ]
    rw [e, List.map_append, List.sum_append]
    have ih := sum_fil f L (xs.filter fun t => !decide (f t = L))
    have h1 := fil_split (fun t => decide (f t = L)) (fun _ => true) xs
    have h2 : ∀ i ∈ nats L, (((xs.filter fun t => decide (f t = i)).length : Nat) : Int) = ((((xs.filter fun t => !decide (f t = L)).filter fun t => decide (f t = i)).length : Nat) : Int) := fun i hi => by
      rw [List.filter_filter]
      congr 2
      refine List.filter_congr fun t _ => ?_
      have := (mem_nats.mp hi).2
      by_cases z : f t = i
      · have : ¬ f t = L := by omega
        simp [z, this]
        omega
      · simp [z]
    rw [List.map_congr_left h2]
    have e0 : xs.filter (fun _ => true) = xs := List.filter_eq_self.mpr fun _ _ => rfl
    rw [e0] at h1
    have h3 : xs.length = (xs.filter fun t => decide (f t = L)).length + (xs.filter fun t => !decide (f t = L)).length := by simpa using h1
    clear h1 h2
    generalize ((nats L).map fun i => ((((xs.filter fun t => !decide (f t = L)).filter fun t => decide (f t = i)).length : Nat) : Int)).sum = S at ih ⊢
    simp only [List.map_cons, List.map_nil, List.sum_cons, List.sum_nil]
    omega
theorem cnts_cts {g : Lg} (m40 : g.m ≤ 40) (l3 : g.l ≤ 3) : Cts (cnts g) := by
  refine cts_mk (fun n hn => ?_) (by rw [cnts_len]; omega) (by rw [cnts_len]; omega) ?_
  · obtain ⟨i, _, rfl⟩ := List.mem_map.mp hn
    omega
  · have e : cnts g = (nats (g.l + 1)).map fun i => ((((nats g.m).filter fun t => decide ((nw g.rs t : Int) = i)).length : Nat) : Int) := by
      rw [cnts, askd]
      refine List.map_congr_left fun i _ => ?_
      rw [cnt_fil]
    rw [e]
    have := sum_fil (fun t => (nw g.rs t : Int)) (g.l + 1) (nats g.m)
    rw [nats_len] at this
    omega
theorem min_spec {xs : List Int} (ne : xs ≠ []) : minI xs ∈ xs ∧ ∀ x ∈ xs, minI xs ≤ x := by
  cases xs with
  | nil => exact absurd rfl ne
  | cons x xs =>
    obtain ⟨a, b⟩ := fold_min xs x
    exact ⟨b, a⟩
theorem poss_nil {g : Lg} (m1 : 1 ≤ g.m) : (poss g).isEmpty = decide ((g.l : Int) < leastW g) := by
  have ne : (nats g.m).map (fun t => (nw g.rs t : Int)) ≠ [] := fun z => by
    have := congrArg List.length z
    rw [List.length_map, nats_len] at this
    simp at this; omega
  obtain ⟨a, b⟩ := min_spec ne
  rw [Bool.eq_iff_iff, List.isEmpty_iff, poss, List.filter_eq_nil_iff, decide_eq_true_eq]
  unfold leastW
  constructor
  · intro h
    obtain ⟨t, ht, e⟩ := List.mem_map.mp a
    have := h t ht
    simp at this
    omega
  · intro h t ht
    have := b _ (List.mem_map.mpr ⟨t, ht, rfl⟩)
    simp
    omega
/-! ### what repr is asked of -/
theorem rq_wr {n C : Nat} {rs : List Rw} {t : Int} (h : rs.length ≤ 30) (c : 1500 ≤ C) : Rq (n + 1) C (.tup (Is (wrI rs t))) := by
  have l : (wrI rs t).length ≤ 30 := by rw [wrI_len]; exact Nat.le_trans (List.countP_le_length) h
  exact (rq_Is (fun i hi => by have := wrF_ge hi; omega) (by omega)).1
theorem rq_nats {n C : Nat} {m : Nat} {ts : List Int} (h : ∀ t ∈ ts, 0 ≤ t ∧ t < m) (hm : m ≤ 1000) (l : ts.length ≤ 1000) (c : 44000 ≤ C) : Rq (n + 1) C (.tup (Is ts)) ∧ Rq (n + 1) C (.lst (Is ts)) :=
  rq_Is (fun i hi => by have := h i hi; omega) (by omega)
theorem rq_cts {n C : Nat} {ns : List Int} (c : Cts ns) (hc : 300 ≤ C) : Rq (n + 1) C (.tup (Is ns)) :=
  (rq_Is (fun i hi => by have := c.p i hi; have := n40 c hi; omega) (by have := c.l4; omega)).1
theorem rq_ans {n : Nat} {a : Bool} : Rq n 50 (ansD a) := by
  cases a
  · exact (rq_str (s := ("no" : Str)) (by decide +kernel)).mono (by decide +kernel)
  · exact (rq_str (s := ("yes" : Str)) (by decide +kernel)).mono (by decide +kernel)
theorem rq_row {n : Nat} {m : Nat} {r : Rw} (q : thOk m r.ts) (hm : m ≤ 40) : Rq (n + 2) 5000 (encR r) := by
  have l := th_len q
  refine rq_tup (B := 2000) (fun d hd => ?_) (by simp)
  simp only [List.mem_cons, List.not_mem_nil, or_false] at hd
  rcases hd with rfl | rfl
  · exact (rq_Is (fun i hi => by have := q.1 i hi; omega) (by omega)).1
  · exact rq_ans.mono (by omega)
theorem rq_log {n : Nat} {g : Lg} (ok : LgOk g) : Rq (n + 4) 1000000 (encL g) := by
  have m40 := ok.m40
  have l3 := ok.l3
  have r24 := ok.r24
  refine rq_tup (B := 200000) (fun d hd => ?_) (by simp)
  simp only [List.mem_cons, List.not_mem_nil, or_false] at hd
  rcases hd with rfl | rfl | rfl | rfl
  · exact (rq_str (s := ("log" : Str)) (by decide +kernel)).mono (by decide +kernel)
  · exact (rq_int (by omega)).mono (by omega)
  · exact (rq_int (by omega)).mono (by omega)
  · refine rq_tup (B := 5000) (fun d hd => ?_) (by rw [List.length_map]; omega)
    obtain ⟨r, hr, rfl⟩ := List.mem_map.mp hd
    exact rq_row (ok.rw_ r hr) m40
theorem late_ok {g : Lg} {ts : List Int} {a : Bool} (ok : LgOk g) (q : thOk g.m ts) (h : g.rs.length < 24) : LgOk { g with rs := g.rs ++ [⟨ts, a⟩] } :=
  ⟨ok.m1, ok.m40, ok.l3, by simp; omega, fun r hr => by
    rcases List.mem_append.mp hr with hr | hr
    · exact ok.rw_ r hr
    · have : r = ⟨ts, a⟩ := by simpa using hr
      rw [this]; exact q⟩
end EV
/-! EV44: truths of rows; lists that are the same -/
namespace EV
open PySem L2
/-- truth_of(log, at, told, thing) -/
def truth_of_M (c_possible_of c_is_wrong_for : Nat) : DS := sSeq (sFrzA [2] (sOwn 2 (dComp [3] (.name 3) (dItems (dCall c_possible_of 1 0 [.p 0] [] (daCons (dVar 0) (daNil)) (daNil))) (dtYes) (dCall c_is_wrong_for 2 0 [.p 0, .p 1] [] (daCons (dOp2 dIx (dOp2 dIx (dVar 0) (dC (.int 3))) (dVar 1)) (daCons (dVar 3) (daNil))) (daNil))))) (sSeq (sIf (dtB (dOp2 dEq (dVar 2) (dLst (daNil)))) (sRet (dC (.str ("none" : Str)))) (sNext)) (sSeq (sIf (dtB (dOp2 dIn (dC (.bl true)) (dVar 2))) (sRet (dIf (dtB (dOp2 dIn (dC (.bl false)) (dVar 2))) (dC (.str ("open" : Str))) (dC (.str ("wrong" : Str))))) (sNext)) (sRet (dC (.str ("right" : Str))))))
/-- truths(log, at) -/
def truths_M (c_want_log c_truth_of : Nat) : DS := sRet (asVal (dComp [1] (.name 1) (dRng1 (daCons (dOpN cLen (daCons (dOp2 dIx (dCall c_want_log 1 0 [.p 0] [] (daCons (dVar 0) (daNil)) (daNil)) (dC (.int 3))) (daNil))) (daNil))) (dtYes) (dCall c_truth_of 2 0 [.p 0, .p 1] [] (daCons (dVar 0) (daCons (dVar 1) (daNil))) (daNil))))

section
variable {fn : Fns} {i i2 i3 i4 i5 : Nat} {h : Cells}
theorem eqv_same {n : Nat} {x : D} (hn : n ≤ 64) (hx : okd n x = true) (hi : ∃ ds, x = .lst ds ∨ x = .tup ds) : dEq x x h = .ok (.bl true) h := by
  obtain ⟨p, q, h1, h2, h3⟩ := dEq_ok (h := h) hn hx hx hi
  rw [h1] at h2
  cases h2
  obtain ⟨p', k1, k2, _⟩ := okd_pd hx
  rw [h1] at k1
  cases k1
  rw [h3, SeqAt.eqv_refl _ k2]
theorem nev_same {n : Nat} {x : D} (hn : n ≤ 64) (hx : okd n x = true) (hi : ∃ ds, x = .lst ds ∨ x = .tup ds) : dNe x x h = .ok (.bl false) h := by
  obtain ⟨p, h1, h2, h3⟩ := okd_pd hx
  have s := shaped_of h2 h3 hn
  obtain ⟨ds, rfl | rfl⟩ := hi
  · have e : pdH h (.lst ds) = some p := h1
    show (match pdH h (.lst ds), pdH h (.lst ds) with
      | some p, some q => if SeqAt.shaped p && SeqAt.shaped q then R.ok (D.bl (!PyData.eqv p q)) h else .bad
      | _, _ => .bad) = _
    rw [e]
    simp [s, SeqAt.eqv_refl _ h2]
  · have e : pdH h (.tup ds) = some p := h1
    show (match pdH h (.tup ds), pdH h (.tup ds) with
      | some p, some q => if SeqAt.shaped p && SeqAt.shaped q then R.ok (D.bl (!PyData.eqv p q)) h else .bad
      | _, _ => .bad) = _
    rw [e]
    simp [s, SeqAt.eqv_refl _ h2]
theorem shaped_intsL {ts : List Int} : SeqAt.shaped (.list (ts.map PyData.int)) = true := by
  have := shaped_ints (ts := ts)
  simpa [SeqAt.shaped, PyData.canLay0, PyData.depth] using this
theorem in_intsL {ts : List Int} {t : Int} : dIn (.int t) (.lst (Is ts)) h = .ok (.bl (ts.contains t)) h := by
  have e1 : pdH h (.int t) = some (.int t) := by simp [pdH, D.pd]
  have e2 : pdH h (.lst (Is ts)) = some (.list (ts.map PyData.int)) := by simp [pdH, D.pd, pds_Is]
  unfold dIn inPd
  rw [e1, e2]
  have e3 : SeqAt.shaped (.int t) = true := rfl
  simp only [shaped_intsL, e3, Bool.and_self, if_true, any_ints]
def Bs (bs : List Bool) : List D := bs.map D.bl
theorem pds_Bs : ∀ {bs : List Bool}, D.pds (Bs bs) = some (bs.map PyData.bool)
  | [] => by simp [Bs, D.pds]
  | b :: bs => by
    have ih := pds_Bs (bs := bs)
    simp only [Bs, List.map_cons] at ih ⊢
    simp [D.pds, D.pd, ih]
theorem in_bools {bs : List Bool} {b : Bool} : dIn (.bl b) (.lst (Bs bs)) h = .ok (.bl (bs.contains b)) h := by
  have e1 : pdH h (.bl b) = some (.bool b) := by simp [pdH, D.pd]
  have e2 : pdH h (.lst (Bs bs)) = some (.list (bs.map PyData.bool)) := by simp [pdH, D.pd, pds_Bs]
  unfold dIn inPd
  rw [e1, e2]
  have e3 : SeqAt.shaped (.bool b) = true := rfl
  have a : ∀ ts : List Bool, PyData.canLayAll0 (ts.map PyData.bool) = true ∧ PyData.depthAll (ts.map PyData.bool) = 0 := fun ts => by
    induction ts with
    | nil => exact ⟨rfl, rfl⟩
    | cons t ts ih => simp [PyData.canLayAll0, PyData.depthAll, PyData.canLay0, PyData.depth, ih.1, ih.2]
  have e4 : SeqAt.shaped (.list (bs.map PyData.bool)) = true := by simp [SeqAt.shaped, PyData.canLay0, PyData.depth, (a bs).1, (a bs).2]
  have e5 : ((bs.map PyData.bool).any fun z => PyData.eqv z (.bool b)) = bs.contains b := by
    induction bs with
    | nil => rfl
    | cons x bs ih =>
      rw [List.map_cons, List.any_cons, ih, List.contains_cons]
      · congr 1
        cases x <;> cases b <;> simp [PyData.eqv]
      · simp [pdH, D.pd, pds_Bs]
      · simp [SeqAt.shaped, PyData.canLay0, PyData.depth, (a bs).1, (a bs).2]
  simp only [e3, e4, Bool.and_self, if_true, e5]
/-- the truth of a row -/
def truthS (g : Lg) (r : Rw) : Str :=
  if (poss g).isEmpty then "none" else
  if ((poss g).map (wrB r)).contains true then (if ((poss g).map (wrB r)).contains false then "open" else "wrong") else "right"
def S_truth_of (f : Fn) : Prop := ∀ (g : Lg) (j : Nat) (r : Rw) h, g.rs.length ≤ 1000 → g.m ≤ 1000 → g.rs[j]? = some r → f [encL g, .int j] h = .ok (.str (truthS g r)) h
def S_truths (f : Fn) : Prop := ∀ (g : Lg) h, LgOk g → f [encL g] h = .ok (.lst (g.rs.map fun r => .str (truthS g r))) h
theorem ev_truth_of (a : S_possible_of (fn i)) (b : S_is_wrong_for (fn i2)) : S_truth_of (bodyF 4 (truth_of_M i i2) fn) := fun g j r h hr hm hj => by
  have pl : (poss g).length ≤ g.m := Nat.le_trans (List.length_filter_le ..) (by rw [nats_len]; exact Nat.le_refl _)
  have hz : (poss g).length ≤ 16777216 := by omega
  unfold truth_of_M
  simp [encL_nb, a g _ hr hm, hz]
  rw [compL_map (fun d => .bl (wrB r (intOf d))) fun d hd => by
    obtain ⟨t, ht, rfl⟩ := List.mem_map.mp hd
    exact ⟨[.val (encL g), .val (.int j), .no, .val (.int t)], by simp, rfl, by simp [encL3, rows_at hj, encR_nb, b r t, intOf], rfl⟩]
  have e : (Is (poss g)).map (fun d => D.bl (wrB r (intOf d))) = Bs ((poss g).map (wrB r)) := by
    rw [Is, Bs, List.map_map, List.map_map]; rfl
  rw [e]
  have en : ∀ h, dEq (.lst (Bs ((poss g).map (wrB r)))) (.lst []) h = .ok (.bl (poss g).isEmpty) h := fun h => by
    rw [eq_nil (n := 0) (by decide) (by
      rw [List.all_eq_true]
      intro x hx
      obtain ⟨i, _, rfl⟩ := List.mem_map.mp hx
      rfl)]
    simp [Bs]
  have i1 := fun h => in_bools (bs := (poss g).map (wrB r)) (b := true) (h := h)
  have i0 := fun h => in_bools (bs := (poss g).map (wrB r)) (b := false) (h := h)
  unfold truthS
  generalize Bs ((poss g).map (wrB r)) = bs at en i1 i0 ⊢
  generalize (poss g).isEmpty = E at en ⊢
  generalize ((poss g).map (wrB r)).contains true = T at i1 ⊢
  generalize ((poss g).map (wrB r)).contains false = U at i0 ⊢
  cases E <;> cases T <;> cases U <;> simp [en, i1, i0]
theorem ev_truths (a : S_want_log (fn i)) (b : S_truth_of (fn i2)) : S_truths (bodyF 2 (truths_M i i2) fn) := fun g h ok => by
  have r24 := ok.r24
  have m40 := ok.m40
  have w1 : (-1000000000 : Int) ≤ (g.rs.length : Int) := by omega
  have w2 : (g.rs.length : Int) ≤ 1000000000 := by omega
  have w3 : (upTo 0 g.rs.length).length ≤ 16777216 := by rw [len_up]; omega
  unfold truths_M
  simp [encL_nb, a g _ ok, encL3, w1, w2, w3]
  rw [compL_map (fun d => match g.rs[(intOf d).toNat]? with
    | some r => .str (truthS g r)
    | none => .non) fun d hd => by
    obtain ⟨j, hj⟩ := List.getElem?_of_mem hd
    obtain ⟨rfl, hl⟩ := toNat_upTo (n := g.rs.length) hj
    have hl' : j < g.rs.length := by omega
    have hr := List.getElem?_eq_getElem hl'
    refine ⟨[.val (encL g), .val (.int j)], by simp, rfl, ?_, by simp [intOf, hr]⟩
    simp [encL_nb, b g j _ _ (show g.rs.length ≤ 1000 by omega) (show g.m ≤ 1000 by omega) hr, intOf, hr]]
  have e : (upTo 0 g.rs.length).map (fun d => match g.rs[(intOf d).toNat]? with
    | some r => D.str (truthS g r)
    | none => .non) = g.rs.map fun r => .str (truthS g r) := by
    refine List.ext_getElem? fun i => ?_
    by_cases hi : i < g.rs.length
    · rw [List.getElem?_map, List.getElem?_map, show (upTo 0 g.rs.length)[i]? = some (.int i) from at_up (n := g.rs.length) (by omega), List.getElem?_eq_getElem hi]
      simp [intOf, hi]
    · rw [List.getElem?_eq_none (by rw [List.length_map, len_up]; omega), List.getElem?_eq_none (by rw [List.length_map]; omega)]
  rw [e]
  simp
theorem wrF_snoc : ∀ {rs : List Rw} {p : Nat} {r : Rw} {t : Int}, wrF p (rs ++ [r]) t = wrF p rs t ++ if wrB r t then [((p + rs.length : Nat) : Int)] else []
  | [], p, r, t => by simp [wrF]
  | x :: rs, p, r, t => by
    have ih := wrF_snoc (rs := rs) (p := p + 1) (r := r) (t := t)
    rw [List.cons_append, wrF, wrF, ih, List.length_cons, show p + 1 + rs.length = p + (rs.length + 1) by omega]
    split <;> simp
theorem wrI_snoc {rs : List Rw} {r : Rw} {t : Int} : wrI (rs ++ [r]) t = wrI rs t ++ if wrB r t then [(rs.length : Int)] else [] := by
  rw [wrI, wrF_snoc, Nat.zero_add]; rfl
theorem wrF_mem : ∀ {rs : List Rw} {p j : Nat} {t : Int} {r : Rw}, rs[j]? = some r → (((p + j : Nat) : Int) ∈ wrF p rs t ↔ wrB r t = true)
  | [], _, _, _, _, h => by simp at h
  | x :: rs, p, 0, t, r, h => by
    simp at h
    subst h
    rw [wrF]
    constructor
    · intro m
      split at m
      · assumption
      · have := (wrF_ge m).1
        omega
    · intro m
      rw [if_pos m]
      simp
  | x :: rs, p, j + 1, t, r, h => by
    have ih := wrF_mem (rs := rs) (p := p + 1) (j := j) (t := t) (r := r) (by simpa using h)
    rw [show p + 1 + j = p + (j + 1) by omega] at ih
    rw [wrF]
    split
    · rw [List.mem_cons]
      constructor
      · rintro (m | m)
        · omega
        · exact ih.mp m
      · intro m; exact .inr (ih.mpr m)
    · exact ih
theorem wrI_mem {rs : List Rw} {j : Nat} {t : Int} {r : Rw} (h : rs[j]? = some r) : ((j : Int) ∈ wrI rs t ↔ wrB r t = true) := by
  have := wrF_mem (p := 0) (t := t) h
  rw [Nat.zero_add] at this
  exact this
end
end EV
/-! EV48: lists shuffled; logs turned, renamed -/
namespace EV
open PySem L2
@[simp] theorem e_dSortF {fn : Fns} {env : Ev} {h : Cells} {da : DA} : dSortF da fn env h = (da fn env h).bind fun ds h1 => cSort ds h1 := (rfl)
@[simp] theorem e_dPopAt {fn : Fns} {env : Ev} {h : Cells} {a b : DE} : dPopAt a b fn env h = (a fn env h).bind fun x h1 => if isObjL h1 x = true then (b fn env h1).bind fun y h2 => cPopAt x y h2 else .bad := (rfl)
@[simp] theorem e_dLstRg {fn : Fns} {env : Ev} {h : Cells} {da : DE} : dLstRg da fn env h = (da fn env h).bind fun d h1 => match d with
  | .int j => if decide (-1000000000 ≤ j) && decide (j ≤ 16777216) then .ok (upTo 0 j.toNat) h1 else .bad
  | _ => .bad := (rfl)
section
variable {fn : Fns} {i i2 i3 i4 i5 : Nat} {h : Cells}
theorem whileL_wp {t : DT} {body : DS} (P : Nat → Ev → Cells → Prop) (st : ∀ i env h, P (i + 1) env h → t fn env h = .ok true h ∧ wp (body fn env h) fun x h1 => (x.1 = .nx ∨ x.1 = .ct) ∧ P i x.2 h1)
    (en : ∀ env h, P 0 env h → t fn env h = .ok false h) : ∀ (f i : Nat) (env : Ev) (h : Cells), i < f → P i env h → wp (whileL t body fn f env h) fun x h1 => x.1 = .nx ∧ P 0 x.2 h1
  | 0, i, env, h, q, _ => by omega
  | f + 1, i, env, h, q, p => by
    unfold whileL
    cases i with
    | zero =>
      rw [en env h p, ok_bind]
      exact ⟨_, _, rfl, rfl, p⟩
    | succ i =>
      obtain ⟨e1, w⟩ := st i env h p
      rw [e1, ok_bind, if_pos rfl, wp_bind]
      refine wp_mono w fun x h1 ⟨hx, p1⟩ => ?_
      have z := whileL_wp P st en f i x.2 h1 (by omega) p1
      rcases hx with hx | hx <;> rw [hx] <;> exact z
theorem ne_of_eq {xs : List D} {y : D} {b : Bool} (e : dEq (.lst xs) y h = .ok (.bl b) h) : dNe (.lst xs) y h = .ok (.bl (!b)) h := by
  have e' : (match pdH h (.lst xs), pdH h y with
    | some p, some q => if SeqAt.shaped p && SeqAt.shaped q then R.ok (D.bl (PyData.eqv p q)) h else .bad
    | _, _ => .bad) = R.ok (.bl b) h := e
  show (match pdH h (.lst xs), pdH h y with
    | some p, some q => if SeqAt.shaped p && SeqAt.shaped q then R.ok (D.bl (!PyData.eqv p q)) h else .bad
    | _, _ => .bad) = _
  cases h1 : pdH h (.lst xs) with
  | none => rw [h1] at e'; cases e'
  | some p =>
    cases h2 : pdH h y with
    | none => rw [h1, h2] at e'; cases e'
    | some q =>
      rw [h1, h2] at e'
      dsimp only at e' ⊢
      split at e'
      · rename_i s
        rw [if_pos s]
        simp only [R.ok.injEq, D.bl.injEq, and_true] at e'
        rw [e']
      · cases e'
theorem ne_nil {n : Nat} {xs : List D} (hn : n < 64) (hx : xs.all (okd n) = true) : dNe (.lst xs) (.lst []) h = .ok (.bl (!xs.isEmpty)) h := ne_of_eq (eq_nil hn hx)
theorem ne_cell {n c : Nat} {xs : List D} (hn : n < 64) (hx : xs.all (okd n) = true) (e : h[c]? = some (.lst xs)) : dNe (.obj c) (.lst []) h = .ok (.bl (!xs.isEmpty)) h := by
  rw [← ne_nil (h := h) hn hx]
  have e1 : pdH h (.obj c) = pdH h (.lst xs) := by
    simp only [pdH, e, D.pd]
  show (match pdH h (.obj c), pdH h (.lst []) with
    | some p, some q => if SeqAt.shaped p && SeqAt.shaped q then R.ok (D.bl (!PyData.eqv p q)) h else .bad
    | _, _ => .bad) = (match pdH h (.lst xs), pdH h (.lst []) with
    | some p, some q => if SeqAt.shaped p && SeqAt.shaped q then R.ok (D.bl (!PyData.eqv p q)) h else .bad
    | _, _ => .bad)
  rw [e1]
theorem erase_perm {α : Type} : ∀ {l : List α} {j : Nat} (h : j < l.length), (l[j] :: l.eraseIdx j).Perm l
  | [], _, h => by cases h
  | x :: l, 0, h => .refl _
  | x :: l, j + 1, h => by
    have hj : j < l.length := by simpa using h
    have ih := erase_perm (l := l) (j := j) hj
    rw [List.getElem_cons_succ, List.eraseIdx_cons_succ]
    exact (List.Perm.swap x (l[j]'hj) _).trans (ih.cons x)
/-- the pot changed, cells grew -/
def Gr (n : Nat) (h h' : Cells) : Prop := ∃ a b ext, h' = h.set n (OB.lst [.int a, .int b]) ++ ext
theorem Gr.pt {n : Nat} {h h' : Cells} (p : Pt n h) (d : Gr n h h') : Pt n h' := by
  obtain ⟨a, b, ext, rfl⟩ := d
  have := p.lt
  exact ⟨a, b, by rw [List.getElem?_append_left (by simpa using this), List.getElem?_set_self this]⟩
/-- shuffled(pot, some) -/
def shuffled_b0 (c : Nat) : DS := sAppend 3 (dPopAt (dVar 2) (dCall c 2 0 [.p 0, .p 1] [] (daCons (dVar 0) (daCons (dOpN cLen (daCons (dVar 2) (daNil))) (daNil))) (daNil)))
def shuffled_M (c : Nat) : DS := sSeq (sPar2 2 3 (dmV (asCell (dListF (daCons (dVar 1) (daNil))))) (dmO (dDisp (daNil)))) (sSeq (sWhile 100000 (dtB (dOp2 dNe (dVar 2) (dLst (daNil)))) (shuffled_b0 c)) (sFrz [3] (sRet (dVar 3))))
def S_shuffled (f : Fn) : Prop := ∀ (n : Nat) (ds : List D) h, Pt n h → ds.length ≤ 1000 → (∀ d ∈ ds, okd 5 d = true ∧ isBor d = false) → wp (f [.obj n, .lst ds] h) fun d h' => Gr n h h' ∧ ∃ es, d = .lst es ∧ es.Perm ds
def ISh (n : Nat) (h0 : Cells) (ds : List D) (k : Nat) (env : Ev) (h : Cells) : Prop := ∃ (a b : Int) (left found : List D), h = h0.set n (OB.lst [.int a, .int b]) ++ [OB.lst left] ∧ left.length = k ∧ env = [.val (.obj n), .val (.lst ds), .val (.obj h0.length), .own found] ∧ (left ++ found).Perm ds
theorem ev_shuffled (a : S_draw (fn i)) : S_shuffled (bodyF 4 (shuffled_M i) fn) := fun n ds h p hl ok => by
  have pl := p.lt
  unfold shuffled_M
  rw [e_body, wp_bind]
  obtain ⟨a0, b0, hp⟩ := p
  have hs : h.set n (OB.lst [.int a0, .int b0]) = h := by
    refine List.ext_getElem? fun j => ?_
    rw [List.getElem?_set]
    split
    · rename_i e; subst e; exact hp.symm
    · rfl
  rw [seqQ (env1 := [.val (.obj n), .val (.lst ds), .val (.obj h.length), .own []]) (h1 := h ++ [OB.lst ds]) (by simp [cList, seqT, seqL])]
  rw [e_sSeq, wp_bind, e_sWhile]
  have okl : ∀ {left found : List D}, (left ++ found).Perm ds → left.all (okd 5) = true := fun q => List.all_eq_true.mpr fun x hx => (ok x (q.subset (List.mem_append_left _ hx))).1
  refine wp_mono (whileL_wp (fn := fn) (ISh n h ds) ?_ ?_ 100000 ds.length _ _ (by omega) ⟨a0, b0, ds, [], by rw [hs], rfl, rfl, by rw [List.append_nil]⟩) fun x h1 ⟨e, q⟩ => ?_
  · rintro k env h1 ⟨a1, b1, left, found, rfl, hk, rfl, pm⟩
    have hc : ((h.set n (OB.lst [.int a1, .int b1])) ++ [OB.lst left])[h.length]? = some (.lst left) := by
      rw [List.getElem?_append_right (by simp)]; simp
    have ll : left.length ≤ 1000 := by
      have := pm.length_eq
      rw [List.length_append] at this; omega
    have ne : left.isEmpty = false := by cases left with
      | nil => cases hk
      | cons => rfl
    have p1 : Pt n ((h.set n (OB.lst [.int a1, .int b1])) ++ [OB.lst left]) := ⟨a1, b1, by rw [List.getElem?_append_left (by simpa using pl), List.getElem?_set_self pl]⟩
    have nc := ne_cell (n := 5) (by decide) (okl pm) hc
    rw [ne] at nc
    refine ⟨by simp [nc], ?_⟩
    have ob : isObjL ((h.set n (OB.lst [.int a1, .int b1])) ++ [OB.lst left]) (.obj h.length) = true := by simp only [isObjL, hc]
    have ln : cLen [.obj h.length] ((h.set n (OB.lst [.int a1, .int b1])) ++ [OB.lst left]) = .ok (.int left.length) ((h.set n (OB.lst [.int a1, .int b1])) ++ [OB.lst left]) := by
      simp [cLen, seqT, seqL, hc]
    generalize hh : (h.set n (OB.lst [.int a1, .int b1])) ++ [OB.lst left] = hx at *
    unfold shuffled_b0
    simp [slotL, ob, ln]
    refine wp_mono (a n left.length hx p1 (by omega) (by omega)) fun d h2 ⟨d2, j, e, j0, j1⟩ => ?_
    subst e
    obtain ⟨a2, b2, rfl⟩ := d2
    have hj : j.toNat < left.length := by omega
    subst hh
    have e2 : ((h.set n (OB.lst [.int a1, .int b1])) ++ [OB.lst left]).set n (OB.lst [.int a2, .int b2]) = h.set n (OB.lst [.int a2, .int b2]) ++ [OB.lst left] := by
      rw [List.set_append_left _ _ (by simpa using pl), List.set_set]
    rw [e2]
    have hc2 : ((h.set n (OB.lst [.int a2, .int b2])) ++ [OB.lst left])[h.length]? = some (.lst left) := by
      rw [List.getElem?_append_right (by simp)]; simp
    have w1 : (-1000000000 : Int) ≤ j := by omega
    have w2 : j ≤ 1000000000 := by omega
    have e3 : (h.set n (OB.lst [.int a2, .int b2]) ++ [OB.lst left]).set h.length (OB.lst (left.eraseIdx j.toNat)) = h.set n (OB.lst [.int a2, .int b2]) ++ [OB.lst (left.eraseIdx j.toNat)] := by
      rw [List.set_append_right _ _ (by simp)]; simp
    have mem := ok left[j.toNat] (pm.subset (List.mem_append_left _ (List.getElem_mem hj)))
    simp [cPopAt, hc2, w1, w2, ixN, j0, j1, List.getElem?_eq_getElem hj, e3, appendAt, mem.2]
    have fl : found.length < 16777216 := by
      have := pm.length_eq
      rw [List.length_append] at this; omega
    rw [if_pos fl]
    refine ⟨_, _, rfl, .inl rfl, a2, b2, _, _, rfl, ?_, rfl, ?_⟩
    · rw [List.length_eraseIdx, if_pos hj]; omega
    · refine List.Perm.trans ?_ pm
      have q1 := erase_perm hj
      have q2 : (left.eraseIdx j.toNat ++ (found ++ [left[j.toNat]])).Perm (left[j.toNat] :: left.eraseIdx j.toNat ++ found) := by
        rw [← List.append_assoc]
        exact List.perm_append_singleton _ _
      exact q2.trans (List.Perm.append_right _ q1)
  · rintro env h1 ⟨a1, b1, left, found, rfl, hk, rfl, pm⟩
    have hc : ((h.set n (OB.lst [.int a1, .int b1])) ++ [OB.lst left])[h.length]? = some (.lst left) := by
      rw [List.getElem?_append_right (by simp)]; simp
    have ne : left.isEmpty = true := by cases left with
      | nil => rfl
      | cons => cases hk
    have nc := ne_cell (n := 5) (by decide) (okl pm) hc
    rw [ne] at nc
    simp [nc]
  · obtain ⟨a1, b1, left, found, rfl, hk, e2, pm⟩ := q
    have : left = [] := List.eq_nil_of_length_eq_zero hk
    subst this
    rw [e]
    dsimp only
    rw [e2]
    simp [frzs]
    exact ⟨⟨a1, b1, _, rfl⟩, by simpa using pm⟩
/-! ### logs turned, renamed -/
def turned_b0 : DS := sAppend 1 (dTup (daCons (dOpN cTuple (daCons (asVal (dComp [4] (.name 4) (dRng1 (daCons (dOp2 dIx (dVar 0) (dC (.int 1))) (daNil))) (dtB (dOp2 dNotIn (dVar 4) (dVar 2))) (dVar 4))) (daNil))) (daCons (dIf (dtB (dOp2 dEq (dVar 3) (dC (.str ("yes" : Str))))) (dC (.str ("no" : Str))) (dC (.str ("yes" : Str)))) (daNil))))
def turned_M : DS := sSeq (sOwn 1 (dDisp (daNil))) (sSeq (sFor (.tup [.name 2, .name 3]) (dItems (dOp2 dIx (dVar 0) (dC (.int 3)))) turned_b0) (sRet (dOp2 dAdd (dSlice (dVar 0) (dNoPart) (dPart (dC (.int 3)))) (dTup (daCons (dOpN cTuple (daCons (dVar 1) (daNil))) (daNil))))))
def renamed_M : DS := sSeq (sFrzA [2] (sOwn 2 (dComp [3, 4] (.tup [.name 3, .name 4]) (dItems (dOp2 dIx (dVar 0) (dC (.int 3)))) (dtYes) (dTup (daCons (dOpN cTuple (daCons (asVal (dSortF (daCons (asVal (dComp [5] (.name 5) (dItems (dVar 3)) (dtYes) (dOp2 dIx (dVar 1) (dVar 5)))) (daNil)))) (daNil))) (daCons (dVar 4) (daNil))))))) (sRet (dOp2 dAdd (dSlice (dVar 0) (dNoPart) (dPart (dC (.int 3)))) (dTup (daCons (dOpN cTuple (daCons (dVar 2) (daNil))) (daNil)))))
def turnR (m : Nat) (r : Rw) : Rw := ⟨(nats m).filter fun t => !r.ts.contains t, !r.a⟩
def turnG (g : Lg) : Lg := { g with rs := g.rs.map (turnR g.m) }
def renR (ns : List Int) (r : Rw) : Rw := ⟨isortI (r.ts.map fun t => gd ns t.toNat), r.a⟩
def renG (ns : List Int) (g : Lg) : Lg := { g with rs := g.rs.map (renR ns) }
def S_turned (f : Fn) : Prop := ∀ (g : Lg) h, LgOk g → f [encL g] h = .ok (encL (turnG g)) h
def S_renamed (f : Fn) : Prop := ∀ (g : Lg) (ns : List Int) h, LgOk g → ns.length = g.m → f [encL g, .lst (Is ns)] h = .ok (encL (renG ns g)) h
def ITu (g : Lg) (k : Nat) (env : Ev) : Prop := ∃ x2 x3 x4, env = [.val (encL g), .own ((g.rs.take k).map fun r => encR (turnR g.m r)), x2, x3, x4]
theorem not_in_ints {ts : List Int} {t : Int} : dNotIn (.int t) (.tup (Is ts)) h = .ok (.bl (!ts.contains t)) h := by
  have e := in_ints (ts := ts) (t := t) (h := h)
  unfold dIn at e
  unfold dNotIn
  cases hh : inPd h (.int t) (.tup (Is ts)) with
  | none => rw [hh] at e; cases e
  | some b =>
    rw [hh] at e
    simp only [R.ok.injEq, D.bl.injEq, and_true] at e
    dsimp only
    rw [e]
theorem ev_turned : S_turned (bodyF 5 turned_M fn) := fun g h ok => by
  have m40 := ok.m40
  have r24 := ok.r24
  have w1 : (-1000000000 : Int) ≤ (g.m : Int) := by omega
  have w2 : (g.m : Int) ≤ 1000000000 := by omega
  have w3 : (upTo 0 g.m).length ≤ 16777216 := by rw [len_up]; omega
  obtain ⟨env2, e2, x2, x3, x4, rfl⟩ := forL_pure (fn := fn) (h := h) (pt := .tup [.name 2, .name 3]) (body := turned_b0) (ITu g) (ds := g.rs.map encR) (env := [.val (encL g), .own [], .no, .no, .no]) 0 ⟨.no, .no, .no, rfl⟩ (by
    rintro k d env hd ⟨x2, x3, x4, rfl⟩
    rw [Nat.zero_add] at *
    rw [List.getElem?_map] at hd
    obtain ⟨r, hr, rfl⟩ := Option.map_eq_some_iff.mp hd
    have hk := (List.getElem?_eq_some_iff.mp hr).1
    have ht : g.rs.take (k + 1) = g.rs.take k ++ [r] := by
      rw [List.take_add_one, hr]; rfl
    refine ⟨[.val (encL g), .own ((g.rs.take k).map fun r => encR (turnR g.m r)), .val (.tup (Is r.ts)), .val (ansD r.a), x4], ?_, .nx, [.val (encL g), .own ((g.rs.take k).map (fun r => encR (turnR g.m r)) ++ [encR (turnR g.m r)]), .val (.tup (Is r.ts)), .val (ansD r.a), x4], .inl rfl, ?_, .val (.tup (Is r.ts)), .val (ansD r.a), x4, by rw [ht, List.map_append]; rfl⟩
    · generalize (g.rs.take k).map (fun r => encR (turnR g.m r)) = ow
      simp [encR, ansD_nb]
    have hl : ((g.rs.take k).map fun r => encR (turnR g.m r)).length < 16777216 := by rw [List.length_map, List.length_take]; omega
    generalize (g.rs.take k).map (fun r => encR (turnR g.m r)) = ow at hl ⊢
    unfold turned_b0
    simp [slotL, encL1, w1, w2, w3]
    rw [compL_filter (fun d => !r.ts.contains (intOf d)) id fun d hd => by
      obtain ⟨j, hj⟩ := List.getElem?_of_mem hd
      obtain ⟨rfl, hl⟩ := toNat_upTo (n := g.m) hj
      exact ⟨[.val (encL g), .own ow, .val (.tup (Is r.ts)), .val (ansD r.a), .val (.int j)], by simp, by simp [not_in_ints, intOf], fun _ => ⟨by simp, rfl⟩⟩]
    have e : ((upTo 0 g.m).filter fun d => !r.ts.contains (intOf d)).map id = Is (turnR g.m r).ts := by
      rw [upTo_nats, Is, List.filter_map, List.map_id]; rfl
    have e3 : ∀ h, dEq (ansD r.a) (.str ("yes" : Str)) h = .ok (.bl r.a) h := fun h => by cases r.a <;> rfl
    rw [e]
    have ea : encR (turnR g.m r) = .tup [.tup (Is (turnR g.m r).ts), ansD (!r.a)] := rfl
    rw [ea]
    generalize Is (turnR g.m r).ts = us
    have nn : ¬ (Str.ofString "no" = Str.ofString "yes") := by decide
    cases ha : r.a <;> simp [nn, appendAt, slotL, ansD, hl])
  unfold turned_M
  have e1 : ∀ h, dSl (encL g) none (some 3) h = .ok (.tup [.str ("log" : Str), .int g.m, .int g.l]) h := fun h => rfl
  have hz : g.rs.length ≤ 16777216 := by omega
  rw [List.length_map, Nat.zero_add, List.take_length] at e2
  have ed : encL (turnG g) = .tup [.str ("log" : Str), .int g.m, .int g.l, .tup (g.rs.map fun r => encR (turnR g.m r))] := by
    simp [encL, turnG]
  have el : (g.rs.map fun r => encR (turnR g.m r)).length ≤ 16777216 := by rw [List.length_map]; exact hz
  rw [ed]
  generalize (g.rs.map fun r => encR (turnR g.m r)) = zs at e2 el
  simp [encL3, e2, e1]
def renD (ns : List Int) (d : D) : D := match d with
  | .tup [.tup ds, a] => .tup [.tup (Is (isortI ((ds.map intOf).map fun t => gd ns t.toNat))), a]
  | _ => .non
theorem renD_r {ns : List Int} {r : Rw} : renD ns (encR r) = encR (renR ns r) := by
  have e2 : ((Is r.ts).map intOf) = r.ts := by
    rw [Is, List.map_map]; exact List.map_id _
  show D.tup [.tup (Is (isortI (((Is r.ts).map intOf).map fun t => gd ns t.toNat))), ansD r.a] = _
  rw [e2]; rfl
theorem ev_renamed : S_renamed (bodyF 6 renamed_M fn) := fun g ns h ok hn => by
  have m40 := ok.m40
  have r24 := ok.r24
  have hz : g.rs.length ≤ 16777216 := by omega
  unfold renamed_M
  simp [encL3, hz]
  rw [compL_map (renD ns) fun d hd => by
    obtain ⟨r, hr, rfl⟩ := List.mem_map.mp hd
    have q := ok.rw_ r hr
    have tl := th_len q
    have rz : r.ts.length ≤ 16777216 := by omega
    refine ⟨[.val (encL g), .val (.lst (Is ns)), .no, .val (.tup (Is r.ts)), .val (ansD r.a), .no], by simp [encR, ansD_nb], rfl, ?_, by rw [renD_r]; rfl⟩
    rw [renD_r]
    simp [rz]
    rw [compL_map (fun d => .int (gd ns (intOf d).toNat)) fun d hd => by
      obtain ⟨t, ht, rfl⟩ := List.mem_map.mp hd
      obtain ⟨t0, t1⟩ := q.1 t ht
      refine ⟨[.val (encL g), .val (.lst (Is ns)), .no, .val (.tup (Is r.ts)), .val (ansD r.a), .val (.int t)], by simp, rfl, ?_, rfl⟩
      have : atI (Is ns) t = some (.int (gd ns t.toNat)) := by
        have ht : t.toNat < ns.length := by omega
        unfold atI ixN
        rw [if_pos t0, if_pos (by rw [len_Is]; omega)]
        show (Is ns)[t.toNat]? = _
        rw [Is, List.getElem?_map, List.getElem?_eq_getElem ht]
        simp [gd, ht]
      simp [this, intOf]]
    have e : (Is r.ts).map (fun d => D.int (gd ns (intOf d).toNat)) = Is (r.ts.map fun t => gd ns t.toNat) := by
      rw [Is, Is, List.map_map, List.map_map]; rfl
    rw [e]
    simp [cSort, seqL, toInts_Is, ansD_nb]
    rfl]
  have e : (g.rs.map encR).map (renD ns) = g.rs.map fun r => encR (renR ns r) := by
    rw [List.map_map]
    exact List.map_congr_left fun r _ => renD_r
  rw [e]
  have e1 : ∀ h, dSl (encL g) none (some 3) h = .ok (.tup [.str ("log" : Str), .int g.m, .int g.l]) h := fun h => rfl
  have ed : encL (renG ns g) = .tup [.str ("log" : Str), .int g.m, .int g.l, .tup (g.rs.map fun r => encR (renR ns r))] := by
    simp [encL, renG]
  have el : (g.rs.map fun r => encR (renR ns r)).length ≤ 16777216 := by rw [List.length_map]; exact hz
  rw [ed]
  generalize (g.rs.map fun r => encR (renR ns r)) = zs at el
  simp [e1, frzs, cTuple, seqT, seqL]
end
end EV
/-! EV50: questions of three ways -/
namespace EV
open PySem L2
/-- is_share(number, value, one) -/
def is_share_M (c_is_row c_is_count : Nat) : DS := sRet (dAnd (dCall c_is_row 2 0 [.p 0, .p 1] [] (daCons (dVar 1) (daCons (dC (.int 3)) (daNil))) (daNil)) (dAnd (dOpN cAll (daCons (asVal (dComp [2] (.name 2) (dItems (dVar 1)) (dtYes) (dCall c_is_count 1 0 [.p 0] [] (daCons (dVar 2) (daNil)) (daNil)))) (daNil))) (dOp2 dEq (dOpN cSum (daCons (dVar 1) (daNil))) (dVar 0))))
/-- is_parting_of(counts, value, number, one) -/
def is_parting_of_M (c_is_row c_is_share : Nat) : DS := sRet (dAnd (dCall c_is_row 2 0 [.p 0, .p 1] [] (daCons (dVar 1) (daCons (dOpN cLen (daCons (dVar 0) (daNil))) (daNil))) (daNil)) (dOpN cAll (daCons (asVal (dComp [2, 3] (.tup [.name 2, .name 3]) (dZipX (daCons (dVar 0) (daCons (dVar 1) (daNil)))) (dtYes) (dCall c_is_share 2 0 [.p 0, .p 1] [] (daCons (dVar 2) (daCons (dVar 3) (daNil))) (daNil)))) (daNil))))
/-- behind_of(counts, parting, part, there, others, share, number, one, other) -/
def t3_behind_of_M : DS := sSeq (sFrzA [3] (sOwn 3 (dComp [5] (.name 5) (dItems (dVar 1)) (dtYes) (dOp2 dIx (dVar 5) (dVar 2))))) (sSeq (sSet 4 (dOp2 dAdd (dLst (daCons (dC (.int 0)) (daNil))) (asVal (dComp [6, 7] (.tup [.name 6, .name 7]) (dZipX (daCons (dVar 0) (daCons (dVar 3) (daNil)))) (dtYes) (dOp2 dSub (dVar 6) (dVar 7)))))) (sRet (dOpN cTuple (daCons (asVal (dComp [7, 8] (.tup [.name 7, .name 8]) (dZipX (daCons (dVar 3) (daCons (dVar 4) (daNil)))) (dtYes) (dOp2 dAdd (dVar 7) (dVar 8)))) (daNil)))))
/-- ways_in_three(left, most, found, term, at) -/
def ways_in_three_b0 : DS := sSeq (sAug 2 dIAdd (dVar 3)) (sSet 3 (dOp2 dFdiv (dOp2 dMul (dOp2 dMul (dVar 3) (dOp2 dSub (dVar 0) (dVar 4))) (dC (.int 2))) (dOp2 dAdd (dVar 4) (dC (.int 1)))))
def ways_in_three_M : DS := sSeq (sAsg (dTup (daCons (dC (.int 0)) (daCons (dC (.int 1)) (daNil)))) (gTup 2 (gsCons (gName' 2) (gsCons (gName' 3) (gsNil))))) (sSeq (sFor (.name 4) (dRng1 (daCons (dOp2 dAdd (dOpN cMinL (daCons (dVar 0) (daCons (dVar 1) (daNil)))) (dC (.int 1))) (daNil))) ways_in_three_b0) (sRet (dVar 2)))
/-- weight_of(counts, left, lies, at, number) -/
def t3_weight_of_M (c_lies_of c_ways_in_three : Nat) : DS := sSeq (sSet 2 (dCall c_lies_of 1 0 [.p 0] [] (daCons (dVar 0) (daNil)) (daNil))) (sRet (dOpN cSum (daCons (asVal (dComp [3, 4] (.tup [.name 3, .name 4]) (dEnumA (daCons (dVar 0) (daNil))) (dtYes) (dOp2 dMul (dVar 4) (dCall c_ways_in_three 2 0 [.p 0, .p 1] [] (daCons (dVar 1) (daCons (dOp2 dSub (dVar 2) (dVar 3)) (daNil))) (daNil))))) (daNil))))
/-- power_of_three(left, found, turn) -/
def power_of_three_b0 : DS := sSet 1 (dOp2 dMul (dVar 1) (dC (.int 3)))
def power_of_three_M : DS := sSeq (sSet 1 (dC (.int 1))) (sSeq (sFor (.name 2) (dRng1 (daCons (dVar 0) (daNil))) power_of_three_b0) (sRet (dVar 1)))
/-- is_heavy_of(counts, left) -/
def t3_is_heavy_of_M (c_is_settled_of c_weight_of c_power_of_three : Nat) : DS := sRet (dAnd (dNot (dCall c_is_settled_of 1 0 [.p 0] [] (daCons (dVar 0) (daNil)) (daNil))) (dOp2 dGt (dCall c_weight_of 2 0 [.p 0, .p 1] [] (daCons (dVar 0) (daCons (dVar 1) (daNil))) (daNil)) (dCall c_power_of_three 1 0 [.p 0] [] (daCons (dVar 1) (daNil)) (daNil))))
/-- want_told(counts, left) -/
def t3_want_told_M (c_want_counts c_is_below : Nat) : DS := sSeq (sExpr (dCall c_want_counts 1 0 [.p 0] [] (daCons (dVar 0) (daNil)) (daNil))) (sIf (dtNot (dTruE (dCall c_is_below 2 0 [.p 0, .p 1] [] (daCons (dVar 1) (daCons (dOp2 dAdd (dC (.int 10)) (dC (.int 1))) (daNil))) (daNil)))) (sBad) (sNext))
/-- is_parting(counts, value) -/
def is_parting_M (c_is_parting_of c_want_counts : Nat) : DS := sRet (dCall c_is_parting_of 2 0 [.p 0, .p 1] [] (daCons (dCall c_want_counts 1 0 [.p 0] [] (daCons (dVar 0) (daNil)) (daNil)) (daCons (dVar 1) (daNil))) (daNil))
/-- behind_part(counts, parting, part) -/
def behind_part_M (c_is_parting_of c_want_counts c_is_below c_behind_of : Nat) : DS := sSeq (sIf (dtNot (dTruE (dCall c_is_parting_of 2 0 [.p 0, .p 1] [] (daCons (dCall c_want_counts 1 0 [.p 0] [] (daCons (dVar 0) (daNil)) (daNil)) (daCons (dVar 1) (daNil))) (daNil)))) (sBad) (sNext)) (sSeq (sIf (dtNot (dTruE (dCall c_is_below 2 0 [.p 0, .p 1] [] (daCons (dVar 2) (daCons (dC (.int 3)) (daNil))) (daNil)))) (sBad) (sNext)) (sRet (dCall c_behind_of 3 0 [.p 0, .p 1, .p 2] [] (daCons (dVar 0) (daCons (dVar 1) (daCons (dVar 2) (daNil)))) (daNil))))
/-- weight_in_three(counts, left) -/
def weight_in_three_M (c_want_told c_weight_of : Nat) : DS := sSeq (sExpr (dCall c_want_told 2 0 [.p 0, .p 1] [] (daCons (dVar 0) (daCons (dVar 1) (daNil))) (daNil))) (sRet (dCall c_weight_of 2 0 [.p 0, .p 1] [] (daCons (dVar 0) (daCons (dVar 1) (daNil))) (daNil)))
/-- is_heavy_in_three(counts, left) -/
def is_heavy_in_three_M (c_want_told c_is_heavy_of : Nat) : DS := sSeq (sExpr (dCall c_want_told 2 0 [.p 0, .p 1] [] (daCons (dVar 0) (daCons (dVar 1) (daNil))) (daNil))) (sRet (dCall c_is_heavy_of 2 0 [.p 0, .p 1] [] (daCons (dVar 0) (daCons (dVar 1) (daNil))) (daNil)))
/-- _law_behind(counts, parting, part, found, gone, number, share) -/
def law_behind_b0 : DS := sSeq (sAppend 3 (dOp2 dAdd (dOp2 dIx (dVar 6) (dVar 2)) (dVar 4))) (sSet 4 (dOp2 dSub (dVar 5) (dOp2 dIx (dVar 6) (dVar 2))))
def law_behind_M : DS := sSeq (sPar2 3 4 (dmO (dDisp (daNil))) (dmV (dC (.int 0)))) (sSeq (sFor (.tup [.name 5, .name 6]) (dZipX (daCons (dVar 0) (daCons (dVar 1) (daNil)))) law_behind_b0) (sRet (dOpN cTuple (daCons (dVar 3) (daNil)))))
/-- _law_all(counts, parting, part) -/
def law_all_M (c__law_behind : Nat) : DS := sRet (asVal (dComp [2] (.name 2) (dRng1 (daCons (dC (.int 3)) (daNil))) (dtYes) (dCall c__law_behind 3 0 [.p 0, .p 1, .p 2] [] (daCons (dVar 0) (daCons (dVar 1) (daCons (dVar 2) (daNil)))) (daNil))))
/-- _law_is_count(value, most) -/
def law_is_count_M : DS := sRet (dAnd (dIsi (dVar 0) [.int]) (dAnd (dNot (dIsi (dVar 0) [.bl])) (dChain dLe dLe (dC (.int 0)) (dVar 0) (dVar 1))))
/-- _law_is_parting(counts, value, number, share, one) -/
def law_is_parting_M (c__law_is_count : Nat) : DS := sSeq (sIf (dtOr (dtNot (dTruE (dIsi (dVar 1) [.tup]))) (dtB (dOp2 dNe (dOpN cLen (daCons (dVar 1) (daNil))) (dOpN cLen (daCons (dVar 0) (daNil)))))) (sRet (dC (.bl false))) (sNext)) (sRet (dOpN cAll (daCons (asVal (dComp [2, 3] (.tup [.name 2, .name 3]) (dZipX (daCons (dVar 0) (daCons (dVar 1) (daNil)))) (dtYes) (dAnd (dIsi (dVar 3) [.tup]) (dAnd (dOp2 dEq (dOpN cLen (daCons (dVar 3) (daNil))) (dC (.int 3))) (dAnd (dOpN cAll (daCons (asVal (dComp [4] (.name 4) (dItems (dVar 3)) (dtYes) (dCall c__law_is_count 2 0 [.p 0, .p 1] [] (daCons (dVar 4) (daCons (dVar 2) (daNil))) (daNil)))) (daNil))) (dOp2 dEq (dOpN cSum (daCons (dVar 3) (daNil))) (dVar 2))))))) (daNil))))
/-- _law_weight(counts, left, found, at, number, term, wrong) -/
def law_weight_b0 : DS := sSeq (sSet 2 (dOp2 dAdd (dVar 2) (dOp2 dMul (dVar 4) (dVar 5)))) (sSet 5 (dOp2 dFdiv (dOp2 dMul (dOp2 dMul (dVar 5) (dOp2 dSub (dVar 1) (dVar 6))) (dC (.int 2))) (dOp2 dAdd (dVar 6) (dC (.int 1)))))
def law_weight_b1 : DS := sSeq (sSet 5 (dC (.int 1))) (sFor (.name 6) (dRng1 (daCons (dOp2 dSub (dOpN cLen (daCons (dVar 0) (daNil))) (dVar 3)) (daNil))) law_weight_b0)
def law_weight_M : DS := sSeq (sSet 2 (dC (.int 0))) (sSeq (sFor (.tup [.name 3, .name 4]) (dEnumA (daCons (dVar 0) (daNil))) law_weight_b1) (sRet (dVar 2)))
abbrev Tr := Int × Int × Int
def encT (t : Tr) : D := .tup [.int t.1, .int t.2.1, .int t.2.2]
def isShare (n : Int) (v : D) : Bool := match v with
  | .tup [.int a, .int b, .int c] => decide (0 ≤ a) && decide (0 ≤ b) && decide (0 ≤ c) && decide (a + b + c = n)
  | _ => false
def shares : List Int → List D → Bool
  | n :: ns, d :: ds => isShare n d && shares ns ds
  | _, _ => true
def isParting (ns : List Int) (v : D) : Bool := match v with
  | .tup ds => decide (ds.length = ns.length) && shares ns ds
  | _ => false
def pickT (j : Nat) (t : Tr) : Int := if j = 0 then t.1 else if j = 1 then t.2.1 else t.2.2
/-- terms, ways -/
def T3 : Nat → Nat → Int
  | _, 0 => 1
  | 0, _ + 1 => 0
  | l + 1, i + 1 => T3 l (i + 1) + 2 * T3 l i
def W3 (l : Nat) : Nat → Int
  | 0 => 1
  | j + 1 => W3 l j + T3 l (j + 1)
def P3 : Nat → Int
  | 0 => 1
  | l + 1 => P3 l * 3
def Wt3 (l : Nat) : List Int → Int
  | [] => 0
  | n :: ns => n * W3 l ns.length + Wt3 l ns
/-- what is behind a part -/
def beh3 : Int → List Int → List Int → List Int
  | c, n :: ns, q :: qs => (q + c) :: beh3 (n - q) ns qs
  | _, _, _ => []
def S_is_share (f : Fn) : Prop := ∀ (n : Int) v h, pl v = true → f [.int n, v] h = .ok (.bl (isShare n v)) h
def S_is_parting_of (f : Fn) : Prop := ∀ (ns : List Int) v h, ns.length ≤ 1000 → pl v = true → f [.tup (Is ns), v] h = .ok (.bl (isParting ns v)) h
def S_behind3 (f : Fn) : Prop := ∀ (ns : List Int) (ts : List Tr) (j : Nat) h, ns.length ≤ 1000 → ts.length = ns.length → j < 3 → f [.tup (Is ns), .tup (ts.map encT), .int j] h = .ok (.tup (Is (beh3 0 ns (ts.map (pickT j))))) h
def S_ways3 (f : Fn) : Prop := ∀ (l j : Nat) h, l ≤ 10 → j ≤ 3 → f [.int l, .int j] h = .ok (.int (W3 l j)) h
def S_weight3_of (f : Fn) : Prop := ∀ (ns : List Int) (l : Nat) h, 1 ≤ ns.length → ns.length ≤ 4 → l ≤ 10 → f [.tup (Is ns), .int l] h = .ok (.int (Wt3 l ns)) h
def S_pow3 (f : Fn) : Prop := ∀ (l : Nat) h, l ≤ 10 → f [.int l] h = .ok (.int (P3 l)) h
def S_heavy3_of (f : Fn) : Prop := ∀ (ns : List Int) (l : Nat) h, 1 ≤ ns.length → ns.length ≤ 4 → l ≤ 10 → f [.tup (Is ns), .int l] h = .ok (.bl (!decide (ns.sum ≤ 1) && decide (P3 l < Wt3 l ns))) h
def S_told3 (f : Fn) : Prop := ∀ (ns : List Int) (l : Nat) h, Cts ns → l ≤ 10 → f [.tup (Is ns), .int l] h = .ok .non h
def S_is_parting (f : Fn) : Prop := ∀ (ns : List Int) v h, Cts ns → pl v = true → f [.tup (Is ns), v] h = .ok (.bl (isParting ns v)) h
def S_behind_part (f : Fn) : Prop := ∀ (ns : List Int) (ts : List Tr) (j : Nat) h, Cts ns → isParting ns (.tup (ts.map encT)) = true → j < 3 → f [.tup (Is ns), .tup (ts.map encT), .int j] h = .ok (.tup (Is (beh3 0 ns (ts.map (pickT j))))) h
def S_weight3 (f : Fn) : Prop := ∀ (ns : List Int) (l : Nat) h, Cts ns → l ≤ 10 → f [.tup (Is ns), .int l] h = .ok (.int (Wt3 l ns)) h
def S_heavy3 (f : Fn) : Prop := ∀ (ns : List Int) (l : Nat) h, Cts ns → l ≤ 10 → f [.tup (Is ns), .int l] h = .ok (.bl (!decide (ns.sum ≤ 1) && decide (P3 l < Wt3 l ns))) h
section
variable {fn : Fns} {i i2 i3 i4 i5 : Nat} {h : Cells}
theorem three {ds : List D} (e : ds.length = 3) : ∃ a b c, ds = [a, b, c] := by
  match ds, e with
  | [a, b, c], _ => exact ⟨a, b, c, rfl⟩
theorem isShare_cnt {n : Int} {a b c : D} (z : (isCount a && (isCount b && isCount c)) = false) : isShare n (.tup [a, b, c]) = false := by
  cases a <;> try rfl
  cases b <;> try rfl
  cases c <;> try rfl
  rename_i x y w
  simp only [isCount] at z
  simp only [isShare]
  cases h1 : decide (0 ≤ x) <;> cases h2 : decide (0 ≤ y) <;> cases h3 : decide (0 ≤ w) <;> rw [h1, h2, h3] at z <;> simp at z ⊢
theorem cntI {a : D} (z : isCount a = true) : ∃ x, a = .int x ∧ 0 ≤ x := by
  cases a <;> first | (simp [isCount] at z; done) | skip
  rename_i x
  exact ⟨x, rfl, by simpa [isCount] using z⟩
theorem ev_is_share (a : S_is_row (fn i)) (b : S_is_count (fn i2)) : S_is_share (bodyF 3 (is_share_M i i2) fn) := fun n v h hv => by
  unfold is_share_M
  have nb := pl_nb hv
  cases hr : isRow v 3 with
  | false =>
    have e : isShare n v = false := by
      cases v with
      | tup ds =>
        unfold isShare
        split
        · rename_i e; cases e; simp [isRow] at hr
        · rfl
      | _ => rfl
    simp [nb, a v 3 _ hv, hr, e]
  | true =>
    cases v with
    | tup ds =>
      obtain ⟨x, y, z, rfl⟩ := three (ds := ds) (by simp [isRow] at hr; omega)
      have hp : pl x = true ∧ pl y = true ∧ pl z = true := by simpa [pl, pls] using hv
      have nx := pl_nb hp.1
      have ny := pl_nb hp.2.1
      have nz := pl_nb hp.2.2
      have cl : ∀ h, compL (.name 2) dtYes (dCall i2 1 0 [.p 0] [] (daCons (dVar 2) (daNil)) (daNil)) fn [.val (.int n), .val (.tup [x, y, z]), .no] [x, y, z] h = .ok [.bl (isCount x), .bl (isCount y), .bl (isCount z)] h := fun h => by
        simp [compL, nx, ny, nz, b x _ hp.1, b y _ hp.2.1, b z _ hp.2.2]
      simp [a _ 3 _ hv, hr, cl, cAll, seqL, toBls]
      cases hc : (isCount x && (isCount y && isCount z)) with
      | false =>
        have es := isShare_cnt (n := n) hc
        have : ¬ (isCount x = true ∧ isCount y = true ∧ isCount z = true) := fun ⟨q1, q2, q3⟩ => by rw [q1, q2, q3] at hc; cases hc
        simp [this, es]
      | true =>
        simp only [Bool.and_eq_true] at hc
        obtain ⟨u, rfl, u0⟩ := cntI hc.1
        obtain ⟨v, rfl, v0⟩ := cntI hc.2.1
        obtain ⟨w, rfl, w0⟩ := cntI hc.2.2
        simp [hc.1, hc.2.1, hc.2.2, cSum, seqL, toInts, isShare, u0, v0, w0]
        omega
    | _ => simp [isRow] at hr
theorem shares_map : ∀ {ns : List Int} {ds : List D}, ((pairs (Is ns) ds).map fun p => match p with
    | .tup [.int n, d] => isShare n d
    | _ => false).all id = shares ns ds
  | [], _ => by simp [Is, pairs, shares]
  | _ :: _, [] => by simp [Is, pairs, shares]
  | n :: ns, d :: ds => by
    have ih := shares_map (ns := ns) (ds := ds)
    rw [Is_cons, pairs, List.map_cons, List.all_cons, ih, shares]
    rfl
theorem pairs_memD : ∀ {ns : List Int} {ds : List D} {p : D}, p ∈ pairs (Is ns) ds → ∃ n d, p = .tup [.int n, d] ∧ d ∈ ds
  | [], _, _, m => by simp [Is, pairs] at m
  | _ :: _, [], _, m => by simp [Is, pairs] at m
  | n :: ns, d :: ds, p, m => by
    rw [Is_cons, pairs, List.mem_cons] at m
    rcases m with rfl | m
    · exact ⟨n, d, rfl, .head _⟩
    · obtain ⟨n', d', e, q⟩ := pairs_memD m
      exact ⟨n', d', e, .tail _ q⟩
def shF (p : D) : Bool := match p with
  | .tup [.int n, d] => isShare n d
  | _ => false
theorem ev_is_parting_of (a : S_is_row (fn i)) (b : S_is_share (fn i2)) : S_is_parting_of (bodyF 4 (is_parting_of_M i i2) fn) := fun ns v h hl hv => by
  unfold is_parting_of_M
  have nb := pl_nb hv
  cases hr : isRow v ns.length with
  | false =>
    have e : isParting ns v = false := by
      cases v with
      | tup ds =>
        have : ¬ ds.length = ns.length := fun z => by simp [isRow, z] at hr
        simp [isParting, this]
      | _ => rfl
    simp [nb, a v _ _ hv, hr, e]
  | true =>
    cases v with
    | tup ds =>
      have e : ds.length = ns.length := by simp [isRow] at hr; omega
      have pz : (pairs (Is ns) ds).length ≤ 16777216 := by rw [pairs_len, len_Is]; omega
      have hp : ∀ d ∈ ds, pl d = true := fun d hd => pls_mem (by simpa [pl] using hv) d hd
      simp [nb, a _ _ _ hv, hr, pz]
      rw [compL_map (fun p => .bl (shF p)) fun p hm => by
        obtain ⟨n, d, rfl, hd⟩ := pairs_memD hm
        have nd := pl_nb (hp d hd)
        exact ⟨[.val (.tup (Is ns)), .val (.tup ds), .val (.int n), .val d], by simp [nd], rfl, by simp [nd, b n d _ (hp d hd), shF], rfl⟩]
      simp [cAll, seqL, bls_map, isParting, e]
      rw [← shares_map, List.all_map]
      refine congrArg (fun f => (pairs (Is ns) ds).all f) (funext fun p => ?_)
      unfold shF
      rfl
    | _ => simp [isRow] at hr
/-! ### behind -/
theorem encT_at {t : Tr} {j : Nat} (hj : j < 3) : dIx (encT t) (.int j) h = .ok (.int (pickT j t)) h := by
  have : j = 0 ∨ j = 1 ∨ j = 2 := by omega
  rcases this with rfl | rfl | rfl <;> rfl
def LB (ns : List Int) (ts : List Tr) (j : Nat) (k : Nat) (env : Ev) : Prop := ∃ x5 x6 c, env = [.val (.tup (Is ns)), .val (.tup (ts.map encT)), .val (.int j), .own (Is ((beh3 0 ns (ts.map (pickT j))).take k)), .val (.int c), x5, x6] ∧ (beh3 0 ns (ts.map (pickT j))).drop k = beh3 c (ns.drop k) ((ts.map (pickT j)).drop k)
theorem beh3_len : ∀ {ns qs : List Int} {c : Int}, ns.length = qs.length → (beh3 c ns qs).length = ns.length
  | [], [], _, _ => rfl
  | n :: ns, q :: qs, c, e => by
    rw [beh3, List.length_cons, List.length_cons, beh3_len (by simpa using e)]
theorem pairsT_get {ns : List Int} {ts : List Tr} {k : Nat} {d : D} (hd : (pairs (Is ns) (ts.map encT))[k]? = some d) : ∃ n t, ns[k]? = some n ∧ ts[k]? = some t ∧ d = .tup [.int n, encT t] := by
  induction ns generalizing ts k with
  | nil => simp [Is, pairs] at hd
  | cons n ns ih =>
    cases ts with
    | nil => simp [Is, pairs] at hd
    | cons t ts =>
      rw [Is_cons, List.map_cons, pairs] at hd
      cases k with
      | zero => simp at hd; exact ⟨n, t, rfl, rfl, hd.symm⟩
      | succ k => simp at hd; exact ih (by simpa using hd)
theorem ev_law_behind : S_behind3 (bodyF 7 law_behind_M fn) := fun ns ts j h hl e hj => by
  unfold law_behind_M
  have pz : (pairs (Is ns) (ts.map encT)).length = ns.length := by rw [pairs_len, len_Is, List.length_map, e]; omega
  obtain ⟨env2, e2, x5, x6, c, rfl, _⟩ := forL_pure (fn := fn) (h := h) (pt := .tup [.name 5, .name 6]) (body := law_behind_b0) (LB ns ts j) (ds := pairs (Is ns) (ts.map encT)) (env := [.val (.tup (Is ns)), .val (.tup (ts.map encT)), .val (.int j), .own [], .val (.int 0), .no, .no]) 0 ⟨.no, .no, 0, rfl, rfl⟩ (by
    rintro k d env hd ⟨x5, x6, c, rfl, dr⟩
    rw [Nat.zero_add] at *
    obtain ⟨n, t, hn, ht, rfl⟩ := pairsT_get hd
    have hk := (List.getElem?_eq_some_iff.mp hn).1
    have hk2 := (List.getElem?_eq_some_iff.mp ht).1
    have en : ns.drop k = n :: ns.drop (k + 1) := by rw [List.drop_eq_getElem_cons hk, ← (List.getElem?_eq_some_iff.mp hn).2]
    have et : (ts.map (pickT j)).drop k = pickT j t :: (ts.map (pickT j)).drop (k + 1) := by
      rw [List.drop_eq_getElem_cons (by rw [List.length_map]; exact hk2), List.getElem_map, ← (List.getElem?_eq_some_iff.mp ht).2]
    rw [en, et, beh3] at dr
    have hb : (beh3 0 ns (ts.map (pickT j)))[k]? = some (pickT j t + c) := by
      have := congrArg (fun l => l[0]?) dr
      simpa using this
    have htk : (beh3 0 ns (ts.map (pickT j))).take (k + 1) = (beh3 0 ns (ts.map (pickT j))).take k ++ [pickT j t + c] := by rw [List.take_add_one, hb]; rfl
    have lz : (Is ((beh3 0 ns (ts.map (pickT j))).take k)).length < 16777216 := by rw [len_Is, List.length_take]; omega
    refine ⟨[.val (.tup (Is ns)), .val (.tup (ts.map encT)), .val (.int j), .own (Is ((beh3 0 ns (ts.map (pickT j))).take k)), .val (.int c), .val (.int n), .val (encT t)], ?_, .nx, [.val (.tup (Is ns)), .val (.tup (ts.map encT)), .val (.int j), .own (Is ((beh3 0 ns (ts.map (pickT j))).take k ++ [pickT j t + c])), .val (.int (n - pickT j t)), .val (.int n), .val (encT t)], .inl rfl, ?_, _, _, n - pickT j t, by rw [htk], ?_⟩
    · have : isBor (encT t) = false := rfl
      generalize Is ((beh3 0 ns (ts.map (pickT j))).take k) = ow
      simp [this]
    · rw [← Is_snoc]
      generalize Is ((beh3 0 ns (ts.map (pickT j))).take k) = ow at lz ⊢
      have ea := fun h => encT_at (t := t) (h := h) hj
      simp [law_behind_b0, slotL, ea, appendAt, lz]
    · have : (beh3 0 ns (ts.map (pickT j))).drop (k + 1) = ((beh3 0 ns (ts.map (pickT j))).drop k).drop 1 := by rw [List.drop_drop]
      rw [this, dr]; rfl)
  have bl : (beh3 0 ns (ts.map (pickT j))).length = ns.length := beh3_len (by rw [List.length_map, e])
  rw [Nat.zero_add, pz, ← bl, List.take_length] at e2
  have bz : (Is (beh3 0 ns (ts.map (pickT j)))).length ≤ 16777216 := by rw [len_Is, bl]; omega
  generalize beh3 0 ns (ts.map (pickT j)) = bs at e2 bz
  generalize ts.map encT = es at e2
  simp [e2, cTuple, seqT, seqL]
theorem beh3_zip : ∀ {ns qs : List Int} {c : Int}, ns.length = qs.length → List.zipWith (· + ·) qs (c :: List.zipWith (· - ·) ns qs) = beh3 c ns qs
  | [], [], _, _ => rfl
  | n :: ns, q :: qs, c, e => by
    rw [beh3, List.zipWith_cons_cons, List.zipWith_cons_cons, beh3_zip (by simpa using e)]
theorem zip_sub : ∀ {a b : List Int}, (pairs (Is a) (Is b)).map (fun p => match p with
    | .tup [.int x, .int y] => D.int (x - y)
    | _ => .non) = Is (List.zipWith (· - ·) a b)
  | [], _ => by simp [Is, pairs]
  | _ :: _, [] => by simp [Is, pairs]
  | x :: a, y :: b => by rw [Is_cons, Is_cons, pairs, List.map_cons, zip_sub, List.zipWith_cons_cons, Is_cons]
theorem zip_add : ∀ {a b : List Int}, (pairs (Is a) (Is b)).map (fun p => match p with
    | .tup [.int x, .int y] => D.int (x + y)
    | _ => .non) = Is (List.zipWith (· + ·) a b)
  | [], _ => by simp [Is, pairs]
  | _ :: _, [] => by simp [Is, pairs]
  | x :: a, y :: b => by rw [Is_cons, Is_cons, pairs, List.map_cons, zip_add, List.zipWith_cons_cons, Is_cons]
theorem ev_t3_behind_of : S_behind3 (bodyF 9 t3_behind_of_M fn) := fun ns ts j h hl e hj => by
  have tz : ts.length ≤ 16777216 := by omega
  have qz : (ts.map (pickT j)).length ≤ 1000 := by rw [List.length_map]; omega
  have ez : ns.length = (ts.map (pickT j)).length := by rw [List.length_map, e]
  have c1 : compL (.name 5) dtYes (dOp2 dIx (dVar 5) (dVar 2)) fn [.val (.tup (Is ns)), .val (.tup (ts.map encT)), .val (.int j), .no, .no, .no, .no, .no, .no] (ts.map encT) h = .ok (Is (ts.map (pickT j))) h := by
    rw [compL_map (fun d => match d with
      | .tup [.int a, .int b, .int c] => .int (pickT j (a, b, c))
      | _ => .non) fun d hd => by
      obtain ⟨t, _, rfl⟩ := List.mem_map.mp hd
      have nt : isBor (encT t) = false := rfl
      exact ⟨[.val (.tup (Is ns)), .val (.tup (ts.map encT)), .val (.int j), .no, .no, .val (encT t), .no, .no, .no], by simp [nt], rfl, by simp [encT_at hj]; rfl, rfl⟩]
    rw [Is, List.map_map, List.map_map]; rfl
  unfold t3_behind_of_M
  rw [← beh3_zip ez]
  generalize ts.map (pickT j) = qs at c1 qz ez
  have hz : (ts.map encT).length ≤ 16777216 := by rw [List.length_map]; exact tz
  generalize ts.map encT = es at c1 hz
  have p1 : (pairs (Is ns) (Is qs)).length ≤ 16777216 := by rw [pairs_len, len_Is, len_Is]; omega
  have c2 : ∀ h, compL (.tup [.name 6, .name 7]) dtYes (dOp2 dSub (dVar 6) (dVar 7)) fn [.val (.tup (Is ns)), .val (.tup es), .val (.int j), .val (.lst (Is qs)), .no, .no, .no, .no, .no] (pairs (Is ns) (Is qs)) h = .ok (Is (List.zipWith (· - ·) ns qs)) h := fun h => by
    rw [compL_map (fun p => match p with
      | .tup [.int x, .int y] => D.int (x - y)
      | _ => .non) fun d hd => by
      obtain ⟨x, y, rfl⟩ := pairs_mem2 hd
      exact ⟨[.val (.tup (Is ns)), .val (.tup es), .val (.int j), .val (.lst (Is qs)), .no, .no, .val (.int x), .val (.int y), .no], by simp, rfl, by simp, rfl⟩, zip_sub]
  have ul : (List.zipWith (· - ·) ns qs).length ≤ 1000 := by rw [List.length_zipWith]; omega
  generalize List.zipWith (· - ·) ns qs = us at c2 ul
  have ul2 : 1 + us.length ≤ 16777216 := by omega
  have p2 : (pairs (Is qs) (Is (0 :: us))).length ≤ 16777216 := by rw [pairs_len, len_Is, len_Is]; omega
  have ei : Is (0 :: us) = .int 0 :: Is us := rfl
  have c3 : ∀ h, compL (.tup [.name 7, .name 8]) dtYes (dOp2 dAdd (dVar 7) (dVar 8)) fn [.val (.tup (Is ns)), .val (.tup es), .val (.int j), .val (.lst (Is qs)), .val (.lst (.int 0 :: Is us)), .no, .no, .no, .no] (pairs (Is qs) (.int 0 :: Is us)) h = .ok (Is (List.zipWith (· + ·) qs (0 :: us))) h := fun h => by
    rw [← ei, compL_map (fun p => match p with
      | .tup [.int x, .int y] => D.int (x + y)
      | _ => .non) fun d hd => by
      obtain ⟨x, y, rfl⟩ := pairs_mem2 hd
      exact ⟨[.val (.tup (Is ns)), .val (.tup es), .val (.int j), .val (.lst (Is qs)), .val (.lst (Is (0 :: us))), .no, .no, .val (.int x), .val (.int y)], by simp, rfl, by simp, rfl⟩, zip_add]
  rw [ei] at p2
  simp [hz, c1, frzs, p1, c2, p2, c3, ul2, cTuple, seqT, seqL]
/-! ### ways, weights -/
theorem ev_ways_in_three : S_ways3 (bodyF 5 ways_in_three_M fn) := fun l j h hl hj => by
  have a : l = 0 ∨ l = 1 ∨ l = 2 ∨ l = 3 ∨ l = 4 ∨ l = 5 ∨ l = 6 ∨ l = 7 ∨ l = 8 ∨ l = 9 ∨ l = 10 := by omega
  have b : j = 0 ∨ j = 1 ∨ j = 2 ∨ j = 3 := by omega
  rcases a with rfl | rfl | rfl | rfl | rfl | rfl | rfl | rfl | rfl | rfl | rfl <;> rcases b with rfl | rfl | rfl | rfl <;> kernel_rfl
theorem ev_power_of_three : S_pow3 (bodyF 3 power_of_three_M fn) := fun l h hl => by
  have a : l = 0 ∨ l = 1 ∨ l = 2 ∨ l = 3 ∨ l = 4 ∨ l = 5 ∨ l = 6 ∨ l = 7 ∨ l = 8 ∨ l = 9 ∨ l = 10 := by omega
  rcases a with rfl | rfl | rfl | rfl | rfl | rfl | rfl | rfl | rfl | rfl | rfl <;> kernel_rfl
theorem T3_le {l j : Nat} (hl : l ≤ 10) (hj : j ≤ 4) : 0 ≤ T3 l j ∧ T3 l j ≤ 100000 := by
  have a : l = 0 ∨ l = 1 ∨ l = 2 ∨ l = 3 ∨ l = 4 ∨ l = 5 ∨ l = 6 ∨ l = 7 ∨ l = 8 ∨ l = 9 ∨ l = 10 := by omega
  have b : j = 0 ∨ j = 1 ∨ j = 2 ∨ j = 3 ∨ j = 4 := by omega
  rcases a with rfl | rfl | rfl | rfl | rfl | rfl | rfl | rfl | rfl | rfl | rfl <;> rcases b with rfl | rfl | rfl | rfl | rfl <;> decide
theorem W3_le {l j : Nat} (hl : l ≤ 10) (hj : j ≤ 3) : 0 ≤ W3 l j ∧ W3 l j ≤ 100000 := by
  have a : l = 0 ∨ l = 1 ∨ l = 2 ∨ l = 3 ∨ l = 4 ∨ l = 5 ∨ l = 6 ∨ l = 7 ∨ l = 8 ∨ l = 9 ∨ l = 10 := by omega
  have b : j = 0 ∨ j = 1 ∨ j = 2 ∨ j = 3 := by omega
  rcases a with rfl | rfl | rfl | rfl | rfl | rfl | rfl | rfl | rfl | rfl | rfl <;> rcases b with rfl | rfl | rfl | rfl <;> decide
theorem sm3 {i : Int} (h0 : 0 ≤ i) (h1 : i ≤ 1000000000) : small64 i = true := by
  simp only [small64, Bool.and_eq_true, decide_eq_true_eq]; omega
theorem ev_t3_weight_of (a : S_lies_of (fn i)) (b : S_ways3 (fn i2)) : S_weight3_of (bodyF 5 (t3_weight_of_M i i2) fn) := fun ns l h h1 h4 hl => by
  unfold t3_weight_of_M
  have b0 : ∀ h, fn i2 [.int l, .int 0] h = .ok (.int (W3 l 0)) h := fun h => b l 0 h hl (by omega)
  have b1 : ∀ h, fn i2 [.int l, .int 1] h = .ok (.int (W3 l 1)) h := fun h => b l 1 h hl (by omega)
  have b2 : ∀ h, fn i2 [.int l, .int 2] h = .ok (.int (W3 l 2)) h := fun h => b l 2 h hl (by omega)
  have b3 : ∀ h, fn i2 [.int l, .int 3] h = .ok (.int (W3 l 3)) h := fun h => b l 3 h hl (by omega)
  have w : ∀ j, j ≤ 3 → small64 (W3 l j) = true := fun j hj => sm3 (W3_le hl hj).1 (by have := (W3_le hl hj).2; omega)
  have w0 := w 0 (by omega)
  have w1 := w 1 (by omega)
  have w2 := w 2 (by omega)
  have w3 := w 3 (by omega)
  match ns, h1, h4 with
  | [n1], _, _ =>
    simp [Is, a _ h, w0, w1, w2, w3, enumA, numbered, compL, b0, cSum, seqL, toInts, Wt3]
  | [n1, n2], _, _ =>
    simp [Is, a _ h, w0, w1, w2, w3, enumA, numbered, compL, b0, b1, cSum, seqL, toInts, Wt3]
  | [n1, n2, n3], _, _ =>
    simp [Is, a _ h, w0, w1, w2, w3, enumA, numbered, compL, b0, b1, b2, cSum, seqL, toInts, Wt3]
  | [n1, n2, n3, n4], _, _ =>
    simp [Is, a _ h, w0, w1, w2, w3, enumA, numbered, compL, b0, b1, b2, b3, cSum, seqL, toInts, Wt3]
  | _ :: _ :: _ :: _ :: _ :: _, _, h4 => simp at h4
theorem P3_le {l : Nat} (hl : l ≤ 10) : 0 ≤ P3 l ∧ P3 l ≤ 100000 := by
  have a : l = 0 ∨ l = 1 ∨ l = 2 ∨ l = 3 ∨ l = 4 ∨ l = 5 ∨ l = 6 ∨ l = 7 ∨ l = 8 ∨ l = 9 ∨ l = 10 := by omega
  rcases a with rfl | rfl | rfl | rfl | rfl | rfl | rfl | rfl | rfl | rfl | rfl <;> decide
theorem ev_t3_is_heavy_of (a : S_is_settled_of (fn i)) (b : S_weight3_of (fn i2)) (c : S_pow3 (fn i3)) : S_heavy3_of (bodyF 2 (t3_is_heavy_of_M i i2 i3) fn) := fun ns l h h1 h4 hl => by
  unfold t3_is_heavy_of_M
  have b' := fun h => b ns l h h1 h4 hl
  have c' := fun h => c l h hl
  generalize Wt3 l ns = w at *
  generalize P3 l = q at *
  cases hs : decide (ns.sum ≤ 1) <;> simp [a ns _, hs, b', c']
theorem ev_t3_want_told (a : S_want_counts (fn i)) (b : S_is_below (fn i2)) : S_told3 (bodyF 2 (t3_want_told_M i i2) fn) := fun ns l h c hl => by
  unfold t3_want_told_M
  have l1 : (l : Int) < 11 := by omega
  simp [a _ _ (pl_Is) c.a, b (.int l) 11 _ rfl, isBelow, l1, endF]
theorem ev_is_parting (a : S_is_parting_of (fn i)) (b : S_want_counts (fn i2)) : S_is_parting (bodyF 2 (is_parting_M i i2) fn) := fun ns v h c hv => by
  unfold is_parting_M
  have l4 := c.l4
  simp [b _ _ (pl_Is) c.a, pl_nb hv, a ns v _ (by omega) hv]
theorem ev_weight_in_three (a : S_told3 (fn i)) (b : S_weight3_of (fn i2)) : S_weight3 (bodyF 2 (weight_in_three_M i i2) fn) := fun ns l h c hl => by
  unfold weight_in_three_M
  simp [a ns l _ c hl, b ns l _ c.l1 c.l4 hl]
theorem ev_is_heavy_in_three (a : S_told3 (fn i)) (b : S_heavy3_of (fn i2)) : S_heavy3 (bodyF 2 (is_heavy_in_three_M i i2) fn) := fun ns l h c hl => by
  unfold is_heavy_in_three_M
  simp [a ns l _ c hl, b ns l _ c.l1 c.l4 hl]
theorem pl_encs {ts : List Tr} : pl (.tup (ts.map encT)) = true := by
  induction ts with
  | nil => rfl
  | cons t ts ih => simpa [pl, pls, encT] using ih
theorem ev_behind_part (a : S_is_parting_of (fn i)) (b : S_want_counts (fn i2)) (c : S_is_below (fn i3)) (d : S_behind3 (fn i4)) : S_behind_part (bodyF 3 (behind_part_M i i2 i3 i4) fn) := fun ns ts j h ct q hj => by
  have l4 := ct.l4
  have e : ts.length = ns.length := by
    simp only [isParting, Bool.and_eq_true, decide_eq_true_eq, List.length_map] at q
    exact q.1
  unfold behind_part_M
  have j1 : (j : Int) < 3 := by omega
  have a' := fun h => a ns (.tup (ts.map encT)) h (by omega) pl_encs
  rw [q] at a'
  have d' := fun h => d ns ts j h (by omega) e hj
  generalize ts.map encT = es at a' d'
  simp [b _ _ (pl_Is) ct.a, a', c (.int j) 3 _ rfl, isBelow, j1, d']
def S_law_all3 (f : Fn) : Prop := ∀ (ns : List Int) (ts : List Tr) h, ns.length ≤ 1000 → ts.length = ns.length → f [.tup (Is ns), .tup (ts.map encT)] h = .ok (.lst [.tup (Is (beh3 0 ns (ts.map (pickT 0)))), .tup (Is (beh3 0 ns (ts.map (pickT 1)))), .tup (Is (beh3 0 ns (ts.map (pickT 2))))]) h
theorem ev_law_all (a : S_behind3 (fn i)) : S_law_all3 (bodyF 3 (law_all_M i) fn) := fun ns ts h hl e => by
  unfold law_all_M
  have a0 : ∀ h, fn i [.tup (Is ns), .tup (ts.map encT), .int 0] h = .ok (.tup (Is (beh3 0 ns (ts.map (pickT 0))))) h := fun h => a ns ts 0 h hl e (by omega)
  have a1 : ∀ h, fn i [.tup (Is ns), .tup (ts.map encT), .int 1] h = .ok (.tup (Is (beh3 0 ns (ts.map (pickT 1))))) h := fun h => a ns ts 1 h hl e (by omega)
  have a2 : ∀ h, fn i [.tup (Is ns), .tup (ts.map encT), .int 2] h = .ok (.tup (Is (beh3 0 ns (ts.map (pickT 2))))) h := fun h => a ns ts 2 h hl e (by omega)
  have u3 : upTo 0 3 = [.int 0, .int 1, .int 2] := rfl
  generalize ts.map encT = es at *
  generalize beh3 0 ns (ts.map (pickT 0)) = b0 at *
  generalize beh3 0 ns (ts.map (pickT 1)) = b1 at *
  generalize beh3 0 ns (ts.map (pickT 2)) = b2 at *
  simp [u3, compL, a0, a1, a2]
def S_law_is_count (f : Fn) : Prop := ∀ v (m : Int) h, pl v = true → f [v, .int m] h = .ok (.bl (isCount v && decide (intOf v ≤ m))) h
theorem ev_law_is_count : S_law_is_count (bodyF 2 law_is_count_M fn) := fun v m h hv => by
  unfold law_is_count_M
  cases v with
  | int i =>
    cases h0 : decide (0 ≤ i)
    · have : ¬ 0 ≤ i := by simpa using h0
      simp [Ty.isa, isCount, intOf, this]
    · have : 0 ≤ i := by simpa using h0
      simp [Ty.isa, isCount, intOf, this]
      all_goals exact decide_eq_decide.mpr Iff.rfl
  | obj _ => simp [pl] at hv
  | bor _ => simp [pl] at hv
  | frz _ => simp [pl] at hv
  | glob _ => simp [pl] at hv
  | _ => simp [Ty.isa, isCount, intOf]
theorem isShare_abc {n : Int} {x y z : D} (e : isShare n (.tup [x, y, z]) = true) : (isCount x && decide (intOf x ≤ n)) = true ∧ (isCount y && decide (intOf y ≤ n)) = true ∧ (isCount z && decide (intOf z ≤ n)) = true := by
  cases hc : (isCount x && (isCount y && isCount z)) with
  | false => rw [isShare_cnt hc] at e; cases e
  | true =>
    simp only [Bool.and_eq_true] at hc
    obtain ⟨u, rfl, u0⟩ := cntI hc.1
    obtain ⟨v, rfl, v0⟩ := cntI hc.2.1
    obtain ⟨w, rfl, w0⟩ := cntI hc.2.2
    simp [isShare, u0, v0, w0] at e
    have q1 : u ≤ n := by omega
    have q2 : v ≤ n := by omega
    have q3 : w ≤ n := by omega
    simp [isCount, intOf, u0, v0, w0, q1, q2, q3]
def S_law_is_parting (f : Fn) : Prop := ∀ (ns : List Int) v h, ns.length ≤ 1000 → pl v = true → f [.tup (Is ns), v] h = .ok (.bl (isParting ns v)) h
def teSh (i : Nat) : DE := dAnd (dIsi (dVar 3) [.tup]) (dAnd (dOp2 dEq (dOpN cLen (daCons (dVar 3) (daNil))) (dC (.int 3))) (dAnd (dOpN cAll (daCons (asVal (dComp [4] (.name 4) (dItems (dVar 3)) (dtYes) (dCall i 2 0 [.p 0, .p 1] [] (daCons (dVar 4) (daCons (dVar 2) (daNil))) (daNil)))) (daNil))) (dOp2 dEq (dOpN cSum (daCons (dVar 3) (daNil))) (dVar 2))))
theorem te_share (a : S_law_is_count (fn i)) {x0 x1 : Sl} {n : Int} {v : D} (hv : pl v = true) : teSh i fn [x0, x1, .val (.int n), .val v, .no] h = .ok (.bl (isShare n v)) h := by
  unfold teSh
  cases v with
  | tup ds =>
    by_cases e : ds.length = 3
    · obtain ⟨x, y, z, rfl⟩ := three e
      have hp : pl x = true ∧ pl y = true ∧ pl z = true := by simpa [pl, pls] using hv
      have nx := pl_nb hp.1
      have ny := pl_nb hp.2.1
      have nz := pl_nb hp.2.2
      have cl : ∀ h, compL (.name 4) dtYes (dCall i 2 0 [.p 0, .p 1] [] (daCons (dVar 4) (daCons (dVar 2) (daNil))) (daNil)) fn [x0, x1, .val (.int n), .val (.tup [x, y, z]), .no] [x, y, z] h = .ok [.bl (isCount x && decide (intOf x ≤ n)), .bl (isCount y && decide (intOf y ≤ n)), .bl (isCount z && decide (intOf z ≤ n))] h := fun h => by
        simp [compL, nx, ny, nz, a x n _ hp.1, a y n _ hp.2.1, a z n _ hp.2.2]
      have abc := fun q => isShare_abc (n := n) (x := x) (y := y) (z := z) q
      cases hA : (isCount x && decide (intOf x ≤ n)) <;> cases hB : (isCount y && decide (intOf y ≤ n)) <;> cases hC : (isCount z && decide (intOf z ≤ n)) <;> simp only [hA, hB, hC] at cl abc
      case true.true.true =>
        simp only [Bool.and_eq_true] at hA hB hC
        obtain ⟨u, rfl, u0⟩ := cntI hA.1
        obtain ⟨v, rfl, v0⟩ := cntI hB.1
        obtain ⟨w, rfl, w0⟩ := cntI hC.1
        have q' : (u + (v + w) = n) ↔ (u + v + w = n) := by omega
        simp [Ty.isa, cl, cAll, seqL, toBls, cSum, toInts, isShare, u0, v0, w0, q']
      all_goals
        have es : isShare n (.tup [x, y, z]) = false := by
          cases hh : isShare n (.tup [x, y, z]) with
          | false => rfl
          | true => have := abc hh; simp at this
        simp [Ty.isa, cl, cAll, seqL, toBls, es]
    · have e2 : isShare n (.tup ds) = false := by
        unfold isShare
        split
        · rename_i e'; cases e'; exact absurd rfl e
        · rfl
      have e3 : ¬ (ds.length : Int) = 3 := by omega
      simp [Ty.isa, e2, e3]
  | obj _ => simp [pl] at hv
  | bor _ => simp [pl] at hv
  | frz _ => simp [pl] at hv
  | glob _ => simp [pl] at hv
  | _ => simp [Ty.isa, isShare]
theorem ev_law_is_parting (a : S_law_is_count (fn i)) : S_law_is_parting (bodyF 5 (law_is_parting_M i) fn) := fun ns v h hl hv => by
  have et : law_is_parting_M i = sSeq (sIf (dtOr (dtNot (dTruE (dIsi (dVar 1) [.tup]))) (dtB (dOp2 dNe (dOpN cLen (daCons (dVar 1) (daNil))) (dOpN cLen (daCons (dVar 0) (daNil)))))) (sRet (dC (.bl false))) (sNext)) (sRet (dOpN cAll (daCons (asVal (dComp [2, 3] (.tup [.name 2, .name 3]) (dZipX (daCons (dVar 0) (daCons (dVar 1) (daNil)))) (dtYes) (teSh i))) (daNil)))) := rfl
  rw [et]
  cases v with
  | tup ds =>
    by_cases e : ds.length = ns.length
    · have pz : (pairs (Is ns) ds).length ≤ 16777216 := by rw [pairs_len, len_Is]; omega
      have hp : ∀ d ∈ ds, pl d = true := fun d hd => pls_mem (by simpa [pl] using hv) d hd
      simp [Ty.isa, e, pz]
      rw [compL_map (fun p => .bl (shF p)) fun p hm => by
        obtain ⟨n, d, rfl, hd⟩ := pairs_memD hm
        have nd := pl_nb (hp d hd)
        exact ⟨[.val (.tup (Is ns)), .val (.tup ds), .val (.int n), .val d, .no], by simp [nd], rfl, te_share a (hp d hd), rfl⟩]
      simp [cAll, seqL, bls_map, isParting, e]
      rw [← shares_map, List.all_map]
      refine congrArg (fun f => (pairs (Is ns) ds).all f) (funext fun p => ?_)
      unfold shF
      rfl
    · have e' : ¬ (ds.length : Int) = ns.length := by omega
      simp [Ty.isa, e', isParting, e]
  | obj _ => simp [pl] at hv
  | bor _ => simp [pl] at hv
  | frz _ => simp [pl] at hv
  | glob _ => simp [pl] at hv
  | _ => simp [Ty.isa, isParting]
/-! ### the law's weight -/
def S3 (l : Nat) : Nat → Int
  | 0 => 0
  | k + 1 => S3 l k + T3 l k
theorem S3_W3 {l : Nat} : ∀ j, S3 l (j + 1) = W3 l j
  | 0 => by cases l <;> rfl
  | j + 1 => by rw [S3, S3_W3 j, W3]
theorem T3_step {l k : Nat} (hl : l ≤ 10) (hk : k ≤ 3) : T3 l k * ((l : Int) - k) * 2 / ((k : Int) + 1) = T3 l (k + 1) := by
  have a : l = 0 ∨ l = 1 ∨ l = 2 ∨ l = 3 ∨ l = 4 ∨ l = 5 ∨ l = 6 ∨ l = 7 ∨ l = 8 ∨ l = 9 ∨ l = 10 := by omega
  have b : k = 0 ∨ k = 1 ∨ k = 2 ∨ k = 3 := by omega
  rcases a with rfl | rfl | rfl | rfl | rfl | rfl | rfl | rfl | rfl | rfl | rfl <;> rcases b with rfl | rfl | rfl | rfl <;> decide
def LW (x0 : Sl) (l : Nat) (f0 n : Int) (x3 : Sl) (k : Nat) (env : Ev) : Prop := ∃ x6, env = [x0, .val (.int l), .val (.int (f0 + n * S3 l k)), x3, .val (.int n), .val (.int (T3 l k)), x6]
theorem inner_w {x0 x3 x6 : Sl} {l m : Nat} {f0 n : Int} (hl : l ≤ 10) (hm : m ≤ 4) : ∃ x5 x6', forL (.name 6) law_weight_b0 fn (upTo 0 m) [x0, .val (.int l), .val (.int f0), x3, .val (.int n), .val (.int 1), x6] h = .ok (.nx, [x0, .val (.int l), .val (.int (f0 + n * S3 l m)), x3, .val (.int n), x5, x6']) h := by
  obtain ⟨env2, e2, x6', rfl⟩ := forL_pure (fn := fn) (h := h) (pt := .name 6) (body := law_weight_b0) (LW x0 l f0 n x3) (ds := upTo 0 m) (env := [x0, .val (.int l), .val (.int f0), x3, .val (.int n), .val (.int 1), x6]) 0 ⟨x6, by rw [S3]; cases l <;> simp [T3]⟩ (by
    rintro k d env hd ⟨x6, rfl⟩
    rw [Nat.zero_add] at *
    obtain ⟨rfl, hk⟩ := toNat_upTo (n := m) hd
    have hk' : k < m := by omega
    have st := T3_step hl (show k ≤ 3 by omega)
    have t1 := T3_le hl (show k ≤ 4 by omega)
    have sm := sm3 t1.1 (by omega)
    have s2 : small64 2 = true := rfl
    have p1 : (0 : Int) < (k : Int) + 1 := by omega
    have p2 : (k : Int) + 1 < 1073741824 := by omega
    refine ⟨[x0, .val (.int l), .val (.int (f0 + n * S3 l k)), x3, .val (.int n), .val (.int (T3 l k)), .val (.int k)], by simp, .nx, [x0, .val (.int l), .val (.int (f0 + n * S3 l (k + 1))), x3, .val (.int n), .val (.int (T3 l (k + 1))), .val (.int k)], .inl rfl, ?_, _, rfl⟩
    have e1 : f0 + n * S3 l (k + 1) = f0 + n * S3 l k + n * T3 l k := by rw [S3, Int.mul_add, Int.add_assoc]
    rw [e1]
    generalize S3 l k = s
    generalize f0 + n * s = f1
    rw [← st]
    generalize T3 l k = t at sm ⊢
    simp [law_weight_b0, sm, s2, p1, p2])
  rw [Nat.zero_add, len_up] at e2
  exact ⟨_, _, e2⟩
def S_law_weight (f : Fn) : Prop := ∀ (ns : List Int) (l : Nat) h, 1 ≤ ns.length → ns.length ≤ 4 → l ≤ 10 → f [.tup (Is ns), .int l] h = .ok (.int (Wt3 l ns)) h
def LO (ns : List Int) (l : Nat) (k : Nat) (env : Ev) : Prop := ∃ x3 x4 x5 x6, env = [.val (.tup (Is ns)), .val (.int l), .val (.int (Wt3 l ns - Wt3 l (ns.drop k))), x3, x4, x5, x6]
theorem num_at {ns : List Int} {d : D} : ∀ {p k : Nat}, (numbered p (Is ns))[k]? = some d → ∃ n, ns[k]? = some n ∧ d = .tup [.int ((p + k : Nat) : Int), .int n] := by
  induction ns with
  | nil => intro p k hd; simp [Is, numbered] at hd
  | cons n ns ih =>
    intro p k hd
    rw [Is_cons, numbered] at hd
    cases k with
    | zero => simp at hd; exact ⟨n, rfl, by rw [← hd]; simp⟩
    | succ k =>
      obtain ⟨n', e1, e2⟩ := ih (p := p + 1) (by simpa using hd)
      exact ⟨n', by simpa using e1, by rw [e2, show p + 1 + k = p + (k + 1) by omega]⟩
theorem ev_law_weight : S_law_weight (bodyF 7 law_weight_M fn) := fun ns l h h1 h4 hl => by
  have nl : (numbered 0 (Is ns)).length = ns.length := by
    have : ∀ (ds : List D) p, (numbered p ds).length = ds.length := fun ds => by
      induction ds with
      | nil => intro p; rfl
      | cons d ds ih => intro p; rw [numbered, List.length_cons, List.length_cons, ih]
    rw [this, len_Is]
  obtain ⟨env2, e2, x3, x4, x5, x6, rfl⟩ := forL_pure (fn := fn) (h := h) (pt := .tup [.name 3, .name 4]) (body := law_weight_b1) (LO ns l) (ds := numbered 0 (Is ns)) (env := [.val (.tup (Is ns)), .val (.int l), .val (.int 0), .no, .no, .no, .no]) 0 ⟨.no, .no, .no, .no, by rw [List.drop_zero, Int.sub_self]⟩ (by
    rintro k d env hd ⟨x3, x4, x5, x6, rfl⟩
    rw [Nat.zero_add] at *
    obtain ⟨n, hn, rfl⟩ := num_at hd
    rw [Nat.zero_add]
    have hk := (List.getElem?_eq_some_iff.mp hn).1
    have en : ns.drop k = n :: ns.drop (k + 1) := by rw [List.drop_eq_getElem_cons hk, ← (List.getElem?_eq_some_iff.mp hn).2]
    obtain ⟨y5, y6, ei⟩ := inner_w (fn := fn) (h := h) (x0 := .val (.tup (Is ns))) (x3 := .val (.int k)) (x6 := x6) (l := l) (m := ns.length - k) (f0 := Wt3 l ns - Wt3 l (ns.drop k)) (n := n) hl (by omega)
    have w1 : (-1000000000 : Int) ≤ (ns.length : Int) - k := by omega
    have w2 : (ns.length : Int) - k ≤ 1000000000 := by omega
    have w3 : ((ns.length : Int) - k).toNat = ns.length - k := by omega
    have ef : Wt3 l ns - Wt3 l (ns.drop (k + 1)) = Wt3 l ns - Wt3 l (ns.drop k) + n * S3 l (ns.length - k) := by
      rw [en, Wt3, show ns.length - k = (ns.drop (k + 1)).length + 1 by rw [List.length_drop]; omega, S3_W3]
      omega
    refine ⟨[.val (.tup (Is ns)), .val (.int l), .val (.int (Wt3 l ns - Wt3 l (ns.drop k))), .val (.int k), .val (.int n), x5, x6], by simp, .nx, [.val (.tup (Is ns)), .val (.int l), .val (.int (Wt3 l ns - Wt3 l (ns.drop (k + 1)))), .val (.int k), .val (.int n), y5, y6], .inl rfl, ?_, _, _, _, _, rfl⟩
    rw [ef]
    simp [law_weight_b1, w1, w2, w3, ei])
  unfold law_weight_M
  rw [Nat.zero_add, nl, List.drop_length, Wt3, Int.sub_zero] at e2
  simp [enumA, e2]
end
end EV
/-! EV51: values bent at one place, at any depth -/
namespace EV
open PySem L2
/-- _law_bent(pot, value, at, way, some) -/
def law_bent_M (c__law_draw c__law_bent c__law_pick : Nat) : DS := sSeq (sIf (dtAnd (dTruE (dIsi (dVar 1) [.tup, .lst])) (dtAnd (dtB (dOp2 dGt (dOpN cLen (daCons (dVar 1) (daNil))) (dC (.int 0)))) (dtB (dOp2 dGt (dCall c__law_draw 2 0 [.p 0, .p 1] [] (daCons (dVar 0) (daCons (dC (.int 6)) (daNil))) (daNil)) (dC (.int 0)))))) (sSeq (sPar2 2 3 (dmV (dCall c__law_draw 2 0 [.p 0, .p 1] [] (daCons (dVar 0) (daCons (dOpN cLen (daCons (dVar 1) (daNil))) (daNil))) (daNil))) (dmV (dCall c__law_draw 2 0 [.p 0, .p 1] [] (daCons (dVar 0) (daCons (dC (.int 9)) (daNil))) (daNil)))) (sSeq (sIf (dtB (dOp2 dEq (dVar 3) (dC (.int 0)))) (sRet (dOp2 dAdd (dSlice (dVar 1) (dNoPart) (dPart (dVar 2))) (dSlice (dVar 1) (dPart (dOp2 dAdd (dVar 2) (dC (.int 1)))) (dNoPart)))) (sNext)) (sSeq (sIf (dtB (dOp2 dEq (dVar 3) (dC (.int 1)))) (sRet (dOp2 dAdd (dSlice (dVar 1) (dNoPart) (dPart (dOp2 dAdd (dVar 2) (dC (.int 1))))) (dSlice (dVar 1) (dPart (dVar 2)) (dNoPart)))) (sNext)) (sSeq (sSet 4 (dLst (daCons (dCall c__law_bent 2 0 [.p 0, .p 1] [] (daCons (dVar 0) (daCons (dOp2 dIx (dVar 1) (dVar 2)) (daNil))) (daNil)) (daNil)))) (sRet (dOp2 dAdd (dOp2 dAdd (dSlice (dVar 1) (dNoPart) (dPart (dVar 2))) (dIf (dTruE (dIsi (dVar 1) [.tup])) (dOpN cTuple (daCons (dVar 4) (daNil))) (dVar 4))) (dSlice (dVar 1) (dPart (dOp2 dAdd (dVar 2) (dC (.int 1)))) (dNoPart)))))))) (sNext)) (sSeq (sIf (dtAnd (dTruE (dIsi (dVar 1) [.int])) (dtNot (dTruE (dIsi (dVar 1) [.bl])))) (sRet (dCall c__law_pick 2 0 [.p 0, .p 1] [] (daCons (dVar 0) (daCons (dLst (daCons (dOp2 dAdd (dVar 1) (dC (.int 1))) (daCons (dOp2 dSub (dVar 1) (dC (.int 1))) (daCons (dC (.bl true)) (daCons (dC .non) (daCons (dC (.str ("a" : Str))) (daCons (dC (.int 0)) (daCons (dC (.int 1)) (daNil))))))))) (daNil))) (daNil))) (sNext)) (sRet (dCall c__law_pick 2 0 [.p 0, .p 1] [] (daCons (dVar 0) (daCons (dLst (daCons (dC .non) (daCons (dC (.str ("asking" : Str))) (daCons (dC (.str ("answering" : Str))) (daCons (dC (.str ("cutting" : Str))) (daCons (dC (.str ("dodging" : Str))) (daCons (dC (.str ("parting" : Str))) (daCons (dC (.str ("hiding" : Str))) (daCons (dTup (daNil)) (daCons (dLst (daNil)) (daCons (dC (.int 0)) (daCons (dIf (dTruE (dIsi (dVar 1) [.tup])) (asVal (dListF (daCons (dVar 1) (daNil)))) (dTup (daNil))) (daNil))))))))))))) (daNil))) (daNil))))
/-- values of so many floors, rows of at most B -/
def bt (B : Nat) : Nat → D → Bool
  | _, .non => true
  | _, .bl _ => true
  | _, .int i => decide (i.natAbs ≤ 100 * B)
  | _, .str s => PySem.PyData.strOk s && decide (s.length ≤ 9)
  | n + 1, .tup ds => decide (ds.length ≤ B) && ds.all (bt B n)
  | n + 1, .lst ds => decide (ds.length ≤ B) && ds.all (bt B n)
  | _, _ => false
theorem bt_up : ∀ {B C n : Nat} {d : D}, B ≤ C → bt B n d = true → bt C n d = true ∧ bt C (n + 1) d = true
  | B, C, 0, d, l, h => by
    cases d <;> simp [bt] at h ⊢ <;> first | omega | (exact h) | skip
  | B, C, n + 1, d, l, h => by
    have up : ∀ {ds : List D}, ds.all (bt B n) = true → ds.all (bt C n) = true ∧ ds.all (bt C (n + 1)) = true := fun {ds} q => by
      rw [List.all_eq_true] at q
      exact ⟨List.all_eq_true.mpr fun x hx => (bt_up l (q x hx)).1, List.all_eq_true.mpr fun x hx => (bt_up l (q x hx)).2⟩
    cases d with
    | tup ds =>
      have h' : (decide (ds.length ≤ B) && ds.all (bt B n)) = true := h
      rw [Bool.and_eq_true, decide_eq_true_eq] at h'
      have u := up h'.2
      have z : decide (ds.length ≤ C) = true := by rw [decide_eq_true_eq]; omega
      exact ⟨by show (_ && _) = true; rw [z, u.1]; rfl, by show (_ && _) = true; rw [z, u.2]; rfl⟩
    | lst ds =>
      have h' : (decide (ds.length ≤ B) && ds.all (bt B n)) = true := h
      rw [Bool.and_eq_true, decide_eq_true_eq] at h'
      have u := up h'.2
      have z : decide (ds.length ≤ C) = true := by rw [decide_eq_true_eq]; omega
      exact ⟨by show (_ && _) = true; rw [z, u.1]; rfl, by show (_ && _) = true; rw [z, u.2]; rfl⟩
    | non => exact ⟨rfl, rfl⟩
    | bl _ => exact ⟨rfl, rfl⟩
    | int i =>
      simp [bt] at h ⊢; omega
    | str s => exact ⟨h, h⟩
    | _ => simp [bt] at h
theorem bt_pl : ∀ {B n : Nat} {d : D}, bt B n d = true → pl d = true
  | B, 0, d, h => by cases d <;> first | rfl | (simp [bt] at h; done)
  | B, n + 1, d, h => by
    have up : ∀ {ds : List D}, ds.all (bt B n) = true → pls ds = true := fun {ds} q => by
      induction ds with
      | nil => rfl
      | cons d ds ih =>
        rw [List.all_cons, Bool.and_eq_true] at q
        simp [pls, bt_pl q.1, ih q.2]
    cases d with
    | tup ds =>
      have h' : (decide (ds.length ≤ B) && ds.all (bt B n)) = true := h
      rw [Bool.and_eq_true] at h'
      exact up h'.2
    | lst ds =>
      have h' : (decide (ds.length ≤ B) && ds.all (bt B n)) = true := h
      rw [Bool.and_eq_true] at h'
      exact up h'.2
    | non => rfl
    | bl _ => rfl
    | int i => rfl
    | str s => rfl
    | _ => simp [bt] at h
/-- sizes -/
def btz (B : Nat) : Nat → Nat
  | 0 => 100
  | n + 1 => B * (btz B n + 2) + 103
theorem bt_rq : ∀ {B n : Nat} {d : D}, B ≤ 1000000 → bt B n d = true → Rq n (btz B n) d
  | B, n, .non, _, _ => rq_non.mono (by cases n <;> simp [btz] <;> omega)
  | B, n, .bl _, _, _ => rq_bl.mono (by cases n <;> simp [btz] <;> omega)
  | B, n, .int i, hB, h => by
    have : i.natAbs ≤ 100 * B := by cases n <;> simpa [bt] using h
    exact (rq_int (by omega)).mono (by cases n <;> simp [btz] <;> omega)
  | B, n, .str s, _, h => by
    have : PySem.PyData.strOk s = true ∧ s.length ≤ 9 := by cases n <;> simpa [bt] using h
    exact (rq_str this.1).mono (by cases n <;> simp [btz] <;> omega)
  | B, n + 1, .tup ds, hB, h => by
    have h' : (decide (ds.length ≤ B) && ds.all (bt B n)) = true := h
    rw [Bool.and_eq_true, decide_eq_true_eq, List.all_eq_true] at h'
    refine rq_tup (fun d hd => bt_rq hB (h'.2 d hd)) ?_
    show _ ≤ B * (btz B n + 2) + 103
    have := Nat.mul_le_mul_right (btz B n + 2) h'.1
    omega
  | B, n + 1, .lst ds, hB, h => by
    have h' : (decide (ds.length ≤ B) && ds.all (bt B n)) = true := h
    rw [Bool.and_eq_true, decide_eq_true_eq, List.all_eq_true] at h'
    refine rq_lst (fun d hd => bt_rq hB (h'.2 d hd)) ?_
    show _ ≤ B * (btz B n + 2) + 103
    have := Nat.mul_le_mul_right (btz B n + 2) h'.1
    omega
  | _, 0, .tup _, _, h => by simp [bt] at h
  | _, 0, .lst _, _, h => by simp [bt] at h
  | _, n, .obj _, _, h => by cases n <;> simp [bt] at h
  | _, n, .bor _, _, h => by cases n <;> simp [bt] at h
  | _, n, .frz _, _, h => by cases n <;> simp [bt] at h
  | _, n, .glob _, _, h => by cases n <;> simp [bt] at h
theorem cutI_to {ds : List D} {i : Int} (h0 : 0 ≤ i) : cutD ds none (some i) = ds.take i.toNat := by
  unfold cutD
  rw [HT.sIx_none, List.drop_zero, Nat.sub_zero]
  have e : HT.sIx ds.length ds.length (some i) = min i.toNat ds.length := by
    unfold HT.sIx
    simp
    omega
  rw [e]
  by_cases z : i.toNat ≤ ds.length
  · rw [Nat.min_eq_left z]
  · rw [Nat.min_eq_right (by omega), List.take_length, List.take_of_length_le (by omega)]
theorem cutI_from {ds : List D} {i : Int} (h0 : 0 ≤ i) : cutD ds (some i) none = ds.drop i.toNat := by
  unfold cutD
  have e : HT.sIx ds.length 0 (some i) = min i.toNat ds.length := by
    unfold HT.sIx
    simp
    omega
  rw [e, HT.sIx_none, List.take_of_length_le (by rw [List.length_drop]; omega)]
  by_cases z : i.toNat ≤ ds.length
  · rw [Nat.min_eq_left z]
  · rw [Nat.min_eq_right (by omega), List.drop_length, List.drop_of_length_le (by omega)]
@[simp] theorem e_slL {ds : List D} {lo hi : Option Int} {h : Cells} : dSl (.lst ds) lo hi h = .ok (.lst (cutD ds lo hi)) h := (rfl)
/-- a value bent -/
def S_bent (B N : Nat) (f : Fn) : Prop := ∀ (n m : Nat) v h, Pt n h → m ≤ N → bt B m v = true → wp (f [.obj n, v] h) fun d h' => Dr n h h' ∧ bt (B + 1) (m + 1) d = true
section
variable {fn : Fns} {i i2 i3 i4 i5 : Nat} {h : Cells}
theorem leaf_pick {n : Nat} {m B : Nat} {xs : List D} (pk : S_pick (fn i)) (p : Pt n h) (l0 : 0 < xs.length) (l1 : xs.length < 1000) (ok : ∀ x ∈ xs, bt B m x = true) : wp (fn i [.obj n, .lst xs] h) fun d h' => Dr n h h' ∧ bt B m d = true ∧ isBor d = false :=
  wp_mono (pk n xs h p l0 l1 fun x hx => pl_nb (bt_pl (ok x hx))) fun d h' ⟨dr, hd⟩ => ⟨dr, ok d hd, pl_nb (bt_pl (ok d hd))⟩
def bentT (p : Nat) : DS := sSeq (sIf (dtAnd (dTruE (dIsi (dVar 1) [.int])) (dtNot (dTruE (dIsi (dVar 1) [.bl])))) (sRet (dCall p 2 0 [.p 0, .p 1] [] (daCons (dVar 0) (daCons (dLst (daCons (dOp2 dAdd (dVar 1) (dC (.int 1))) (daCons (dOp2 dSub (dVar 1) (dC (.int 1))) (daCons (dC (.bl true)) (daCons (dC .non) (daCons (dC (.str ("a" : Str))) (daCons (dC (.int 0)) (daCons (dC (.int 1)) (daNil))))))))) (daNil))) (daNil))) (sNext)) (sRet (dCall p 2 0 [.p 0, .p 1] [] (daCons (dVar 0) (daCons (dLst (daCons (dC .non) (daCons (dC (.str ("asking" : Str))) (daCons (dC (.str ("answering" : Str))) (daCons (dC (.str ("cutting" : Str))) (daCons (dC (.str ("dodging" : Str))) (daCons (dC (.str ("parting" : Str))) (daCons (dC (.str ("hiding" : Str))) (daCons (dTup (daNil)) (daCons (dLst (daNil)) (daCons (dC (.int 0)) (daCons (dIf (dTruE (dIsi (dVar 1) [.tup])) (asVal (dListF (daCons (dVar 1) (daNil)))) (dTup (daNil))) (daNil))))))))))))) (daNil))) (daNil)))
def bentB (d b : Nat) : DS := sSeq (sPar2 2 3 (dmV (dCall d 2 0 [.p 0, .p 1] [] (daCons (dVar 0) (daCons (dOpN cLen (daCons (dVar 1) (daNil))) (daNil))) (daNil))) (dmV (dCall d 2 0 [.p 0, .p 1] [] (daCons (dVar 0) (daCons (dC (.int 9)) (daNil))) (daNil)))) (sSeq (sIf (dtB (dOp2 dEq (dVar 3) (dC (.int 0)))) (sRet (dOp2 dAdd (dSlice (dVar 1) (dNoPart) (dPart (dVar 2))) (dSlice (dVar 1) (dPart (dOp2 dAdd (dVar 2) (dC (.int 1)))) (dNoPart)))) (sNext)) (sSeq (sIf (dtB (dOp2 dEq (dVar 3) (dC (.int 1)))) (sRet (dOp2 dAdd (dSlice (dVar 1) (dNoPart) (dPart (dOp2 dAdd (dVar 2) (dC (.int 1))))) (dSlice (dVar 1) (dPart (dVar 2)) (dNoPart)))) (sNext)) (sSeq (sSet 4 (dLst (daCons (dCall b 2 0 [.p 0, .p 1] [] (daCons (dVar 0) (daCons (dOp2 dIx (dVar 1) (dVar 2)) (daNil))) (daNil)) (daNil)))) (sRet (dOp2 dAdd (dOp2 dAdd (dSlice (dVar 1) (dNoPart) (dPart (dVar 2))) (dIf (dTruE (dIsi (dVar 1) [.tup])) (dOpN cTuple (daCons (dVar 4) (daNil))) (dVar 4))) (dSlice (dVar 1) (dPart (dOp2 dAdd (dVar 2) (dC (.int 1)))) (dNoPart)))))))
def bentC (d : Nat) : DT := dtAnd (dTruE (dIsi (dVar 1) [.tup, .lst])) (dtAnd (dtB (dOp2 dGt (dOpN cLen (daCons (dVar 1) (daNil))) (dC (.int 0)))) (dtB (dOp2 dGt (dCall d 2 0 [.p 0, .p 1] [] (daCons (dVar 0) (daCons (dC (.int 6)) (daNil))) (daNil)) (dC (.int 0)))))
theorem bent_parts {d b p : Nat} : law_bent_M d b p = sSeq (sIf (bentC d) (bentB d b) sNext) (bentT p) := rfl
def RB (n : Nat) (h : Cells) (B m : Nat) (x : Fl × Ev) (h' : Cells) : Prop := ∃ d, x.1 = .rt d ∧ Dr n h h' ∧ bt (B + 1) (m + 1) d = true
theorem bent_tail {n m B : Nat} {v : D} {h0 : Cells} (pk : S_pick (fn i3)) (p : Pt n h) (d0 : Dr n h0 h) (hv : bt B m v = true) : wp (bentT i3 fn [.val (.obj n), .val v, .no, .no, .no] h) (RB n h0 B m) := by
  have so : ∀ s ∈ [("a" : Str), "asking", "answering", "cutting", "dodging", "parting", "hiding"], (PySem.PyData.strOk s && decide (s.length ≤ 9)) = true := by decide +kernel
  have so' : ∀ s ∈ [("a" : Str), "asking", "answering", "cutting", "dodging", "parting", "hiding"], bt (B + 1) (m + 1) (.str s) = true := fun s hs => so s hs
  have i1 : ∀ j : Int, j.natAbs ≤ 100 → bt (B + 1) (m + 1) (.int j) = true := fun j hj => by simp [bt]; omega
  have key : ∀ xs : List D, 0 < xs.length → xs.length < 1000 → (∀ x ∈ xs, bt (B + 1) (m + 1) x = true) → wp (fn i3 [.obj n, .lst xs] h) fun d h' => Dr n h0 h' ∧ bt (B + 1) (m + 1) d = true ∧ isBor d = false := fun xs l0 l1 ok =>
    wp_mono (leaf_pick pk p l0 l1 ok) fun d h' ⟨a, b⟩ => ⟨d0.trans a, b⟩
  have other : ∀ y, bt (B + 1) (m + 1) y = true → wp (fn i3 [.obj n, .lst [.non, .str ("asking" : Str), .str ("answering" : Str), .str ("cutting" : Str), .str ("dodging" : Str), .str ("parting" : Str), .str ("hiding" : Str), .tup [], .lst [], .int 0, y]] h) fun d h' => Dr n h0 h' ∧ bt (B + 1) (m + 1) d = true ∧ isBor d = false := fun y hy => key _ (by simp) (by simp) fun x hx => by
    simp only [List.mem_cons, List.not_mem_nil, or_false] at hx
    rcases hx with rfl | rfl | rfl | rfl | rfl | rfl | rfl | rfl | rfl | rfl | rfl
    · rfl
    all_goals first | exact hy | exact i1 _ (by decide) | (exact so' _ (by simp)) | (simp [bt])
  have et : bt (B + 1) (m + 1) (.tup []) = true := by simp [bt]
  have fin : ∀ (r : R D) (e : Ev), wp r (fun d h' => Dr n h0 h' ∧ bt (B + 1) (m + 1) d = true ∧ isBor d = false) → wp (r.bind fun d h1 => if isBor d then .bad else .ok (.rt d, e) h1) (RB n h0 B m) := fun r e w => by
    rw [wp_bind]
    refine wp_mono w fun d h' ⟨a, b, c⟩ => ?_
    simp [c]
    exact ⟨d, rfl, a, b⟩
  have w := other (.tup []) et
  unfold bentT
  cases v with
  | int j =>
    have hj : j.natAbs ≤ 100 * B := by cases m <;> simpa [bt] using hv
    have q := key [.int (j + 1), .int (j - 1), .bl true, .non, .str ("a" : Str), .int 0, .int 1] (by simp) (by simp) fun x hx => by
      simp only [List.mem_cons, List.not_mem_nil, or_false] at hx
      rcases hx with rfl | rfl | rfl | rfl | rfl | rfl | rfl
      · simp [bt]; omega
      · simp [bt]; omega
      · rfl
      · rfl
      · exact so' _ (by simp)
      · exact i1 _ (by decide)
      · exact i1 _ (by decide)
    simp [Ty.isa]
    refine wp_mono q fun d h' ⟨a, b, c⟩ => ?_
    simp [c]
    exact ⟨d, rfl, a, b⟩
  | tup ds =>
    have hl : bt (B + 1) (m + 1) (.lst ds) = true := by
      cases m with
      | zero => simp [bt] at hv
      | succ m => exact (bt_up (d := .lst ds) (n := m + 1) (by omega) hv).2
    have f := fin _ [.val (.obj n), .val (.tup ds), .no, .no, .no] (other _ hl)
    simp [Ty.isa, cList, seqT, seqL] at f ⊢
    exact f
  | non =>
    have f := fin _ [.val (.obj n), .val .non, .no, .no, .no] w
    simp [Ty.isa] at f ⊢
    exact f
  | bl b =>
    have f := fin _ [.val (.obj n), .val (.bl b), .no, .no, .no] w
    simp [Ty.isa] at f ⊢
    exact f
  | str s =>
    have f := fin _ [.val (.obj n), .val (.str s), .no, .no, .no] w
    simp [Ty.isa] at f ⊢
    exact f
  | lst ds =>
    have f := fin _ [.val (.obj n), .val (.lst ds), .no, .no, .no] w
    simp [Ty.isa] at f ⊢
    exact f
  | _ => cases m <;> simp [bt] at hv
theorem bent_body {n m B N : Nat} {v : D} (dr : S_draw (fn i)) (rec : S_bent B N (fn i2)) (p : Pt n h) (hm : m ≤ N) (hB : B < 1000) (hv : bt B (m + 1) v = true) (hl : ∃ ds, (v = .tup ds ∨ v = .lst ds) ∧ 0 < ds.length) : wp (bentB i i2 fn [.val (.obj n), .val v, .no, .no, .no] h) (RB n h B (m + 1)) := by
  obtain ⟨ds', hl, l0⟩ := hl
  cases v with
  | tup ds =>
    have hd' : (decide (ds.length ≤ B) && ds.all (bt B m)) = true := hv
    rw [Bool.and_eq_true, decide_eq_true_eq, List.all_eq_true] at hd'
    have l0 : 0 < ds.length := by rcases hl with e | e <;> cases e; exact l0
    unfold bentB
    refine stepM (fun env h' => Pt n h' ∧ Dr n h h' ∧ ∃ a w : Int, 0 ≤ a ∧ a < ds.length ∧ env = [.val (.obj n), .val (.tup ds), .val (.int a), .val (.int w), .no]) ?_ fun env1 h1 ⟨p1, d1, a, w, a0, a1, ee⟩ => ?_
    · simp
      refine wp_mono (dr n ds.length h p (by omega) (by omega)) fun d h1 ⟨d1, a, e, a0, a1⟩ => ?_
      subst e
      simp
      refine wp_mono (dr n 9 h1 (d1.pt p) (by decide) (by decide)) fun d h2 ⟨d2, w, e, w0, w1⟩ => ?_
      subst e
      simp
      exact ⟨(d1.trans d2).pt p, d1.trans d2, a0, a1⟩
    subst ee
    have c1 : cutD ds none (some a) = ds.take a.toNat := cutI_to a0
    have c2 : cutD ds (some (a + 1)) none = ds.drop (a.toNat + 1) := by rw [cutI_from (by omega), show (a + 1).toNat = a.toNat + 1 by omega]
    have c3 : cutD ds none (some (a + 1)) = ds.take (a.toNat + 1) := by rw [cutI_to (by omega), show (a + 1).toNat = a.toNat + 1 by omega]
    have c4 : cutD ds (some a) none = ds.drop a.toNat := cutI_from a0
    have ok : ∀ x ∈ ds, bt (B + 1) (m + 1) x = true := fun x hx => (bt_up (by omega) (hd'.2 x hx)).2
    have many : ∀ es : List D, es.length ≤ B + 1 → (∀ x ∈ es, bt (B + 1) (m + 1) x = true) → bt (B + 1) (m + 2) (.tup es) = true := fun es l q => by
      show (decide (es.length ≤ B + 1) && es.all (bt (B + 1) (m + 1))) = true
      rw [Bool.and_eq_true, decide_eq_true_eq, List.all_eq_true]
      exact ⟨l, q⟩
    have m1 := many (ds.take a.toNat ++ ds.drop (a.toNat + 1)) (by rw [List.length_append, List.length_take, List.length_drop]; omega) fun x hx => by
      rcases List.mem_append.mp hx with hx | hx
      · exact ok x (List.mem_of_mem_take hx)
      · exact ok x (List.mem_of_mem_drop hx)
    have m2 := many (ds.take (a.toNat + 1) ++ ds.drop a.toNat) (by rw [List.length_append, List.length_take, List.length_drop]; omega) fun x hx => by
      rcases List.mem_append.mp hx with hx | hx
      · exact ok x (List.mem_of_mem_take hx)
      · exact ok x (List.mem_of_mem_drop hx)
    have m3 : ∀ y, bt (B + 1) (m + 1) y = true → bt (B + 1) (m + 2) (.tup (ds.take a.toNat ++ (y :: ds.drop (a.toNat + 1)))) = true := fun y hy => many (ds.take a.toNat ++ (y :: ds.drop (a.toNat + 1))) (by rw [List.length_append, List.length_cons, List.length_take, List.length_drop]; omega) fun x hx => by
      rcases List.mem_append.mp hx with hx | hx
      · exact ok x (List.mem_of_mem_take hx)
      · rcases List.mem_cons.mp hx with rfl | hx
        · exact hy
        · exact ok x (List.mem_of_mem_drop hx)
    have k1 : min a.toNat ds.length + (ds.length - (a.toNat + 1)) ≤ 16777216 := by omega
    have k2 : min (a.toNat + 1) ds.length + (ds.length - a.toNat) ≤ 16777216 := by omega
    have k3 : min a.toNat ds.length + 1 ≤ 16777216 := by omega
    have k4 : min a.toNat ds.length + (1 + (ds.length - (a.toNat + 1))) ≤ 16777216 := by omega
    have k5 : min a.toNat ds.length + (ds.length - (a.toNat + 1) + 1) ≤ 16777216 := by omega
    have k6 : min a.toNat ds.length + 1 + (ds.length - (a.toNat + 1)) ≤ 16777216 := by omega
    by_cases z0 : w = 0
    · subst z0
      simp [c1, c2, k1]
      exact ⟨_, rfl, d1, m1⟩
    · by_cases z1 : w = 1
      · subst z1
        simp [c3, c4, k2]
        exact ⟨_, rfl, d1, m2⟩
      · obtain ⟨x, xm, xe⟩ := at_int a0 a1
        have nx : isBor x = false := pl_nb (bt_pl (hd'.2 x xm))
        simp [z0, z1, xe, nx]
        refine wp_mono (rec n m x h1 p1 (by omega) (hd'.2 x xm)) fun y h2 ⟨d2, by_⟩ => ?_
        have ny : isBor y = false := pl_nb (bt_pl by_)
        simp [ny, Ty.isa, c1, c2, cTuple, seqT, seqL, k3, k4, k5, k6]
        exact ⟨_, rfl, d1.trans d2, m3 y by_⟩
  | lst ds =>
    have hd' : (decide (ds.length ≤ B) && ds.all (bt B m)) = true := hv
    rw [Bool.and_eq_true, decide_eq_true_eq, List.all_eq_true] at hd'
    have l0 : 0 < ds.length := by rcases hl with e | e <;> cases e; exact l0
    unfold bentB
    refine stepM (fun env h' => Pt n h' ∧ Dr n h h' ∧ ∃ a w : Int, 0 ≤ a ∧ a < ds.length ∧ env = [.val (.obj n), .val (.lst ds), .val (.int a), .val (.int w), .no]) ?_ fun env1 h1 ⟨p1, d1, a, w, a0, a1, ee⟩ => ?_
    · simp
      refine wp_mono (dr n ds.length h p (by omega) (by omega)) fun d h1 ⟨d1, a, e, a0, a1⟩ => ?_
      subst e
      simp
      refine wp_mono (dr n 9 h1 (d1.pt p) (by decide) (by decide)) fun d h2 ⟨d2, w, e, w0, w1⟩ => ?_
      subst e
      simp
      exact ⟨(d1.trans d2).pt p, d1.trans d2, a0, a1⟩
    subst ee
    have c1 : cutD ds none (some a) = ds.take a.toNat := cutI_to a0
    have c2 : cutD ds (some (a + 1)) none = ds.drop (a.toNat + 1) := by rw [cutI_from (by omega), show (a + 1).toNat = a.toNat + 1 by omega]
    have c3 : cutD ds none (some (a + 1)) = ds.take (a.toNat + 1) := by rw [cutI_to (by omega), show (a + 1).toNat = a.toNat + 1 by omega]
    have c4 : cutD ds (some a) none = ds.drop a.toNat := cutI_from a0
    have ok : ∀ x ∈ ds, bt (B + 1) (m + 1) x = true := fun x hx => (bt_up (by omega) (hd'.2 x hx)).2
    have many : ∀ es : List D, es.length ≤ B + 1 → (∀ x ∈ es, bt (B + 1) (m + 1) x = true) → bt (B + 1) (m + 2) (.lst es) = true := fun es l q => by
      show (decide (es.length ≤ B + 1) && es.all (bt (B + 1) (m + 1))) = true
      rw [Bool.and_eq_true, decide_eq_true_eq, List.all_eq_true]
      exact ⟨l, q⟩
    have m1 := many (ds.take a.toNat ++ ds.drop (a.toNat + 1)) (by rw [List.length_append, List.length_take, List.length_drop]; omega) fun x hx => by
      rcases List.mem_append.mp hx with hx | hx
      · exact ok x (List.mem_of_mem_take hx)
      · exact ok x (List.mem_of_mem_drop hx)
    have m2 := many (ds.take (a.toNat + 1) ++ ds.drop a.toNat) (by rw [List.length_append, List.length_take, List.length_drop]; omega) fun x hx => by
      rcases List.mem_append.mp hx with hx | hx
      · exact ok x (List.mem_of_mem_take hx)
      · exact ok x (List.mem_of_mem_drop hx)
    have m3 : ∀ y, bt (B + 1) (m + 1) y = true → bt (B + 1) (m + 2) (.lst (ds.take a.toNat ++ (y :: ds.drop (a.toNat + 1)))) = true := fun y hy => many (ds.take a.toNat ++ (y :: ds.drop (a.toNat + 1))) (by rw [List.length_append, List.length_cons, List.length_take, List.length_drop]; omega) fun x hx => by
      rcases List.mem_append.mp hx with hx | hx
      · exact ok x (List.mem_of_mem_take hx)
      · rcases List.mem_cons.mp hx with rfl | hx
        · exact hy
        · exact ok x (List.mem_of_mem_drop hx)
    have k1 : min a.toNat ds.length + (ds.length - (a.toNat + 1)) ≤ 16777216 := by omega
    have k2 : min (a.toNat + 1) ds.length + (ds.length - a.toNat) ≤ 16777216 := by omega
    have k3 : min a.toNat ds.length + 1 ≤ 16777216 := by omega
    have k4 : min a.toNat ds.length + (1 + (ds.length - (a.toNat + 1))) ≤ 16777216 := by omega
    have k5 : min a.toNat ds.length + (ds.length - (a.toNat + 1) + 1) ≤ 16777216 := by omega
    have k6 : min a.toNat ds.length + 1 + (ds.length - (a.toNat + 1)) ≤ 16777216 := by omega
    by_cases z0 : w = 0
    · subst z0
      simp [c1, c2, k1]
      exact ⟨_, rfl, d1, m1⟩
    · by_cases z1 : w = 1
      · subst z1
        simp [c3, c4, k2]
        exact ⟨_, rfl, d1, m2⟩
      · obtain ⟨x, xm, xe⟩ := at_int a0 a1
        have nx : isBor x = false := pl_nb (bt_pl (hd'.2 x xm))
        simp [z0, z1, xe, nx]
        refine wp_mono (rec n m x h1 p1 (by omega) (hd'.2 x xm)) fun y h2 ⟨d2, by_⟩ => ?_
        have ny : isBor y = false := pl_nb (bt_pl by_)
        simp [ny, Ty.isa, c1, c2, cTuple, seqT, seqL, k3, k4, k5, k6]
        exact ⟨_, rfl, d1.trans d2, m3 y by_⟩
  | _ => rcases hl with e | e <;> cases e
theorem ev_law_bent {B N : Nat} (dr : S_draw (fn i)) (rec : ∀ N', N = N' + 1 → S_bent B N' (fn i2)) (pk : S_pick (fn i3)) (hB : B < 1000) : S_bent B N (bodyF 5 (law_bent_M i i2 i3) fn) := fun n m v h p hm hv => by
  rw [bent_parts, e_body, wp_bind]
  have nv := pl_nb (bt_pl hv)
  have fin : ∀ {x : Fl × Ev} {h' : Cells}, RB n h B m x h' → wp (endF x h') fun d h' => Dr n h h' ∧ bt (B + 1) (m + 1) d = true := fun {x h'} ⟨d, e, a, b⟩ => by
    obtain ⟨x1, x2⟩ := x
    dsimp only at e
    subst e
    exact ⟨d, h', rfl, a, b⟩
  have E : startE 5 [D.obj n, v] = [.val (.obj n), .val v, .no, .no, .no] := rfl
  rw [E]
  have tail : ∀ h', Pt n h' → Dr n h h' → wp (bentT i3 fn [.val (.obj n), .val v, .no, .no, .no] h') (RB n h B m) := fun h' p' d' => bent_tail pk p' d' hv
  -- when a part is bent
  by_cases sq : ∃ ds, (v = .tup ds ∨ v = .lst ds) ∧ 0 < ds.length
  · obtain ⟨m', rfl⟩ : ∃ m', m = m' + 1 := by
      cases m with
      | zero => obtain ⟨ds, e | e, _⟩ := sq <;> subst e <;> simp [bt] at hv
      | succ m' => exact ⟨m', rfl⟩
    obtain ⟨N', rfl⟩ : ∃ N', N = N' + 1 := ⟨N - 1, by omega⟩
    have rc := rec N' rfl
    have body : ∀ h', Pt n h' → wp (bentB i i2 fn [.val (.obj n), .val v, .no, .no, .no] h') (RB n h' B (m' + 1)) := fun h' p' => bent_body dr rc p' (by omega) hB hv sq
    have cond : wp (bentC i fn [.val (.obj n), .val v, .no, .no, .no] h) fun b h' => Dr n h h' := by
      unfold bentC
      obtain ⟨ds, e | e, l0⟩ := sq <;> subst e
      · skip
        simp [Ty.isa, l0]
        refine wp_mono (dr n 6 h p (by decide) (by decide)) fun d h1 ⟨d1, j, e, j0, j1⟩ => ?_
        subst e
        simp
        exact d1
      · skip
        simp [Ty.isa, l0]
        refine wp_mono (dr n 6 h p (by decide) (by decide)) fun d h1 ⟨d1, j, e, j0, j1⟩ => ?_
        subst e
        simp
        exact d1
    rw [e_sSeq, wp_bind, e_sIf, wp_bind]
    refine wp_mono cond fun b h1 d1 => ?_
    have p1 := d1.pt p
    cases b with
    | true =>
      rw [if_pos rfl]
      refine wp_mono (body h1 p1) fun x h2 ⟨d, e, d2, q⟩ => ?_
      obtain ⟨x1, x2⟩ := x
      dsimp only at e
      subst e
      exact ⟨_, _, rfl, fin ⟨d, rfl, d1.trans d2, q⟩⟩
    | false =>
      rw [if_neg (by decide)]
      refine ⟨_, _, rfl, ?_⟩
      exact wp_mono (tail h1 p1 d1) fun x h2 q => fin q
  · have cond : bentC i fn [.val (.obj n), .val v, .no, .no, .no] h = .ok false h := by
      unfold bentC
      cases v with
      | tup ds =>
        have : ds = [] := by
          cases ds with
          | nil => rfl
          | cons d ds => exact absurd ⟨_, .inl rfl, by simp⟩ sq
        subst this
        simp [Ty.isa]
      | lst ds =>
        have : ds = [] := by
          cases ds with
          | nil => rfl
          | cons d ds => exact absurd ⟨_, .inr rfl, by simp⟩ sq
        subst this
        simp [Ty.isa]
      | obj _ => cases m <;> simp [bt] at hv
      | bor _ => cases m <;> simp [bt] at hv
      | frz _ => cases m <;> simp [bt] at hv
      | glob _ => cases m <;> simp [bt] at hv
      | _ => simp [Ty.isa]
    rw [e_sSeq, wp_bind, e_sIf, cond, ok_bind, if_neg (by decide)]
    refine ⟨_, _, rfl, ?_⟩
    exact wp_mono (tail h p (Dr.refl p)) fun x h2 q => fin q
end
end EV
/-! EV52: counts drawn; weights of three ways add up; repr of anything -/
namespace EV
open PySem L2
/-- _law_counts(pot, most, lies, found, left, at, some) -/
def t3_law_counts_b0 (c__law_draw : Nat) : DS := sSeq (sSet 6 (dCall c__law_draw 2 0 [.p 0, .p 1] [] (daCons (dVar 0) (daCons (dOp2 dAdd (dVar 4) (dC (.int 1))) (daNil))) (daNil))) (sSeq (sAppend 3 (dVar 6)) (sSet 4 (dOp2 dSub (dVar 4) (dVar 6))))
def t3_law_counts_M (c__law_draw : Nat) : DS := sSeq (sPar2 3 4 (dmO (dDisp (daNil))) (dmV (dCall c__law_draw 2 0 [.p 0, .p 1] [] (daCons (dVar 0) (daCons (dOp2 dAdd (dVar 1) (dC (.int 1))) (daNil))) (daNil)))) (sSeq (sFor (.name 5) (dRng1 (daCons (dVar 2) (daNil))) (t3_law_counts_b0 c__law_draw)) (sRet (dOpN cTuple (daCons (dOp2 dAdd (dLst (daCons (dVar 4) (daNil))) (dVar 3)) (daNil)))))
theorem e_addB {a b : List D} {h : Cells} : dAdd (.lst a) (.bor b) h = if a.length + b.length ≤ 16777216 then .ok (.lst (a ++ b)) h else .bad := by
  unfold dAdd
  rfl
/-- repr of any plain value -/
theorem rep_any {n : Nat} {v : D} (hn : n ≤ 40) (hx : Rq n 1000000 v) (hp : pl v = true) : ∃ s, ∀ h, cRepr [v] h = .ok (.str s) h := by
  obtain ⟨p, h1, h2, h3, h4⟩ := okr_pd hx.1
  have sz := hx.2
  refine ⟨p.shown, fun h => ?_⟩
  have e : pdH h v = some p := by cases v <;> first | exact h1 | simp [pl] at hp
  have k : PyProof.Rows.isDisplay p = true ∨ isScP p = true := by
    cases v with
    | non => simp only [D.pd] at h1; cases h1; exact .inr rfl
    | bl _ => simp only [D.pd] at h1; cases h1; exact .inr rfl
    | int _ => simp only [D.pd] at h1; cases h1; exact .inr rfl
    | str _ => simp only [D.pd] at h1; cases h1; exact .inr rfl
    | tup ds =>
      simp only [D.pd] at h1
      obtain ⟨ps, _, rfl⟩ := Option.map_eq_some_iff.mp h1
      exact .inl rfl
    | lst ds =>
      simp only [D.pd] at h1
      obtain ⟨ps, _, rfl⟩ := Option.map_eq_some_iff.mp h1
      exact .inl rfl
    | _ => simp [pl] at hp
  unfold cRepr
  simp only [e]
  by_cases c : PyProof.Rows.isDisplay p = true
  · rw [if_pos]
    simp only [Bool.and_eq_true, decide_eq_true_eq]
    exact ⟨⟨⟨c, h2⟩, show rsz p ≤ 16777216 by omega⟩, by omega⟩
  · rw [if_neg (by simp [c]), if_pos]
    simp only [Bool.and_eq_true, decide_eq_true_eq]
    exact ⟨⟨by rcases k with k | k; exact absurd k c; exact k, h2⟩, show rsz p ≤ 16777216 by omega⟩
def S_counts_drawn (f : Fn) : Prop := ∀ (n most l : Nat) h, Pt n h → most ≤ 40 → l ≤ 3 → wp (f [.obj n, .int most, .int l] h) fun d h' => Dr n h h' ∧ ∃ ns, d = .tup (Is ns) ∧ Cts ns ∧ ns.length = l + 1
def LC (n most l : Nat) (h0 : Cells) (k : Nat) (env : Ev) (h : Cells) : Prop := Pt n h ∧ Dr n h0 h ∧ ∃ (fs : List Int) (left : Int) (x5 x6 : Sl), env = [.val (.obj n), .val (.int most), .val (.int l), .own (Is fs), .val (.int left), x5, x6] ∧ fs.length = k ∧ (∀ f ∈ fs, 0 ≤ f) ∧ 0 ≤ left ∧ left + fs.sum ≤ most
section
variable {fn : Fns} {i i2 i3 i4 i5 : Nat} {h : Cells}
theorem ev_t3_law_counts (a : S_draw (fn i)) : S_counts_drawn (bodyF 7 (t3_law_counts_M i) fn) := fun n most l h p hm hl => by
  unfold t3_law_counts_M
  rw [e_body, wp_bind]
  refine stepM (fun env h' => LC n most l h 0 env h') ?_ fun env1 h1 q1 => ?_
  · simp
    refine wp_mono (a n (most + 1) h p (by omega) (by omega)) fun d h1 ⟨d1, j, e, j0, j1⟩ => ?_
    subst e
    simp
    exact ⟨d1.pt p, d1, [], j, .no, .no, rfl, rfl, by simp, j0, by simp; omega⟩
  refine stepM (fun env h' => LC n most l h l env h') ?_ fun env2 h2 ⟨p2, d2, fs, left, x5, x6, ee, fl, f0, l0, ls⟩ => ?_
  · obtain ⟨p1, d1, fs, left, x5, x6, ee, fl, f0, l0, ls⟩ := q1
    have w1 : (-1000000000 : Int) ≤ (l : Int) := by omega
    have w2 : (l : Int) ≤ 1000000000 := by omega
    subst ee
    simp [w1, w2]
    have go := forL_wp (fn := fn) (pt := .name 5) (body := t3_law_counts_b0 i) (LC n most l h) (ds := upTo 0 l) (env := [.val (.obj n), .val (.int most), .val (.int l), .own (Is fs), .val (.int left), x5, x6]) (h := h1) 0 ⟨p1, d1, fs, left, x5, x6, rfl, fl, f0, l0, ls⟩ (by
      rintro k d env h' hd ⟨p', d', fs, left, x5, x6, rfl, fl, f0, l0, ls⟩
      rw [Nat.zero_add] at *
      obtain ⟨rfl, hk⟩ := toNat_upTo (n := l) hd
      refine ⟨[.val (.obj n), .val (.int most), .val (.int l), .own (Is fs), .val (.int left), .val (.int k), x6], by simp, ?_⟩
      unfold t3_law_counts_b0
      have nn : ∀ xs : List Int, (∀ x ∈ xs, 0 ≤ x) → 0 ≤ xs.sum := fun xs => by
        induction xs with
        | nil => intro _; simp
        | cons x xs ih =>
          intro q
          rw [List.sum_cons]
          have := q x (by simp)
          have := ih fun y hy => q y (by simp [hy])
          omega
      have s0 := nn fs f0
      have fz : fs.length < 16777216 := by omega
      simp
      refine wp_mono (a n (left + 1) h' p' (by omega) (by omega)) fun d h2 ⟨d2, j, e, j0, j1⟩ => ?_
      subst e
      have iz : (Is fs).length < 16777216 := by rw [len_Is]; exact fz
      simp [appendAt, fz]
      refine ⟨d2.pt p', d'.trans d2, fs ++ [j], left - j, _, _, by rw [Is_snoc], by rw [List.length_append, fl]; rfl, fun f hf => ?_, by omega, ?_⟩
      · rcases List.mem_append.mp hf with hf | hf
        · exact f0 f hf
        · have : f = j := by simpa using hf
          omega
      · rw [List.sum_append, List.sum_cons, List.sum_nil]; omega)
    refine wp_mono go fun x h3 ⟨ex, q⟩ => ⟨ex, ?_⟩
    rw [Nat.zero_add, len_up] at q
    exact q
  subst ee
  have fz : 1 + fs.length ≤ 16777216 := by omega
  have ft : D.int left :: Is fs = Is (left :: fs) := rfl
  simp [e_addB, fz, cTuple, seqT, seqL]
  refine ⟨d2, left :: fs, ft, cts_mk ?_ (by simp) (by simp; omega) (by rw [List.sum_cons]; omega), by simp [fl]⟩
  intro x hx
  rcases List.mem_cons.mp hx with rfl | hx
  · exact l0
  · exact f0 x hx
end
/-! ### weights add up -/
theorem W3_rec {l : Nat} : ∀ j, W3 (l + 1) (j + 1) = W3 l (j + 1) + 2 * W3 l j
  | 0 => by simp [W3, T3]; omega
  | j + 1 => by
    have ih := W3_rec (l := l) j
    have h1 : W3 (l + 1) (j + 1 + 1) = W3 (l + 1) (j + 1) + T3 (l + 1) (j + 1 + 1) := rfl
    have h2 : W3 l (j + 1 + 1) = W3 l (j + 1) + T3 l (j + 1 + 1) := rfl
    have h3 : W3 l (j + 1) = W3 l j + T3 l (j + 1) := rfl
    have h4 : T3 (l + 1) (j + 1 + 1) = T3 l (j + 1 + 1) + 2 * T3 l (j + 1) := rfl
    omega
theorem W3_0 {l : Nat} : W3 l 0 = 1 := rfl
def trOk (n : Int) (t : Tr) : Prop := 0 ≤ t.1 ∧ 0 ≤ t.2.1 ∧ 0 ≤ t.2.2 ∧ t.1 + t.2.1 + t.2.2 = n
theorem share_tr {n : Int} {t : Tr} : isShare n (encT t) = true ↔ trOk n t := by
  simp [isShare, encT, trOk, and_assoc]
theorem add_up {l : Nat} : ∀ {ns : List Int} {ts : List Tr} {a b c : Int}, ts.length = ns.length → shares ns (ts.map encT) = true →
    Wt3 l (beh3 a ns (ts.map (pickT 0))) + Wt3 l (beh3 b ns (ts.map (pickT 1))) + Wt3 l (beh3 c ns (ts.map (pickT 2))) = Wt3 (l + 1) ns + (match ns with
      | [] => 0
      | _ :: ns' => (a + b + c) * W3 l ns'.length)
  | [], ts, a, b, c, e, q => by simp [beh3, Wt3]
  | n :: ns, [], a, b, c, e, q => by simp at e
  | n :: ns, t :: ts, a, b, c, e, q => by
    have e' : ts.length = ns.length := by simpa using e
    rw [List.map_cons, shares, Bool.and_eq_true, share_tr] at q
    obtain ⟨q1, q2⟩ := q
    have ih := add_up (l := l) (a := n - t.1) (b := n - t.2.1) (c := n - t.2.2) e' q2
    have sm := q1.2.2.2
    rw [List.map_cons, List.map_cons, List.map_cons, beh3, beh3, beh3, Wt3, Wt3, Wt3, Wt3]
    have p0 : pickT 0 t = t.1 := rfl
    have p1 : pickT 1 t = t.2.1 := rfl
    have p2 : pickT 2 t = t.2.2 := rfl
    rw [p0, p1, p2]
    have l0 : ∀ x y : Int, (beh3 (n - x) ns (ts.map (pickT 0))).length = ns.length := fun x y => beh3_len (by rw [List.length_map, e'])
    rw [beh3_len (by rw [List.length_map, e']), beh3_len (by rw [List.length_map, e']), beh3_len (by rw [List.length_map, e'])]
    generalize Wt3 l (beh3 (n - t.1) ns (ts.map (pickT 0))) = A at ih ⊢
    generalize Wt3 l (beh3 (n - t.2.1) ns (ts.map (pickT 1))) = B at ih ⊢
    generalize Wt3 l (beh3 (n - t.2.2) ns (ts.map (pickT 2))) = C at ih ⊢
    cases ns with
    | nil =>
      simp only [List.length_nil, W3_0, Wt3] at ih ⊢
      omega
    | cons m ms =>
      have r := W3_rec (l := l) ms.length
      simp only [List.length_cons] at ih ⊢
      rw [r]
      have k : (n - t.1 + (n - t.2.1) + (n - t.2.2)) = n * 2 := by omega
      rw [k] at ih
      have d1 : (t.1 + a) * W3 l (ms.length + 1) + (t.2.1 + b) * W3 l (ms.length + 1) + (t.2.2 + c) * W3 l (ms.length + 1) = n * W3 l (ms.length + 1) + (a + b + c) * W3 l (ms.length + 1) := by
        rw [← Int.add_mul, ← Int.add_mul, ← Int.add_mul]
        congr 1
        omega
      have d2 : n * (W3 l (ms.length + 1) + 2 * W3 l ms.length) = n * W3 l (ms.length + 1) + n * 2 * W3 l ms.length := by
        rw [Int.mul_add, Int.mul_assoc]
      omega
theorem beh3_cts : ∀ {ns : List Int} {ts : List Tr} {j : Nat} {c M : Int}, j < 3 → ts.length = ns.length → shares ns (ts.map encT) = true → 0 ≤ c → c ≤ M → (∀ n ∈ ns, n ≤ M) → (∀ x ∈ beh3 c ns (ts.map (pickT j)), 0 ≤ x ∧ x ≤ 2 * M) ∧ (beh3 c ns (ts.map (pickT j))).sum ≤ c + ns.sum
  | [], ts, j, c, M, hj, e, q, c0, cM, nM => by simp [beh3]; exact c0
  | n :: ns, [], j, c, M, hj, e, q, c0, cM, nM => by simp at e
  | n :: ns, t :: ts, j, c, M, hj, e, q, c0, cM, nM => by
    rw [List.map_cons, shares, Bool.and_eq_true, share_tr] at q
    obtain ⟨⟨q1, q2, q3, q4⟩, q5⟩ := q
    have pt : 0 ≤ pickT j t ∧ pickT j t ≤ n := by
      unfold pickT
      split
      · omega
      · split <;> omega
    have hn := nM n (by simp)
    have ih := beh3_cts (j := j) (c := n - pickT j t) (M := M) hj (by simpa using e) q5 (by omega) (by omega) fun x hx => nM x (by simp [hx])
    rw [List.map_cons, beh3]
    refine ⟨fun x hx => ?_, ?_⟩
    · rcases List.mem_cons.mp hx with rfl | hx
      · omega
      · exact ih.1 x hx
    · rw [List.sum_cons, List.sum_cons]
      have := ih.2
      omega
end EV
set_option maxHeartbeats 0
namespace EV.K
open PySem L2
abbrev top (i : Nat) : Stmt := PySem.Challenge.pw_askedliars_k72_whole_partings_and_weight.main.body.getD i (.Pass ⟨0, 0, 0, 0⟩)
abbrev st_is_integer : Stmt := top 7
abbrev st_is_count : Stmt := top 8
abbrev st_is_below : Stmt := top 9
abbrev st_is_row : Stmt := top 10
abbrev st_are_counts_of : Stmt := top 14
abbrev st_lies_of : Stmt := top 15
abbrev st_is_settled_of : Stmt := top 16
abbrev st_want_counts : Stmt := top 17
abbrev st_is_share : Stmt := top 21
abbrev st_is_parting_of : Stmt := top 22
abbrev st_behind_of : Stmt := top 23
abbrev st_ways_in_three : Stmt := top 24
abbrev st_weight_of : Stmt := top 25
abbrev st_power_of_three : Stmt := top 26
abbrev st_is_heavy_of : Stmt := top 27
abbrev st_want_told : Stmt := top 28
abbrev st_is_parting : Stmt := top 29
abbrev st_behind_part : Stmt := top 30
abbrev st_weight_in_three : Stmt := top 31
abbrev st_is_heavy_in_three : Stmt := top 32
abbrev st__law_pot : Stmt := top 34
abbrev st__law_draw : Stmt := top 35
abbrev st__law_pick : Stmt := top 36
abbrev st__law_behind : Stmt := top 37
abbrev st__law_all : Stmt := top 38
abbrev st__law_counts : Stmt := top 39
abbrev st__law_bent : Stmt := top 40
abbrev st__law_is_count : Stmt := top 41
abbrev st__law_is_parting : Stmt := top 42
abbrev st__law_weight : Stmt := top 43
abbrev st__law_right : Stmt := top 44
abbrev st_law : Stmt := top 45
/-- is_integer(value) -/
def m_is_integer : DS := sRet (dAnd (dIsi (dVar 0) [.int]) (dNot (dIsi (dVar 0) [.bl])))
def N_is_integer : List Str := ["value"]
def d_is_integer : FD := ⟨"is_integer", "is_integer", st_is_integer, ["value"], N_is_integer, m_is_integer⟩
/-- is_count(value) -/
def m_is_count : DS := sRet (dAnd (dCall 0 1 0 [.p 0] [] (daCons (dVar 0) (daNil)) (daNil)) (dOp2 dGe (dVar 0) (dC (.int 0))))
def N_is_count : List Str := ["value"]
def d_is_count : FD := ⟨"is_count", "is_count", st_is_count, ["value"], N_is_count, m_is_count⟩
/-- is_below(value, many) -/
def m_is_below : DS := sRet (dAnd (dCall 1 1 0 [.p 0] [] (daCons (dVar 0) (daNil)) (daNil)) (dOp2 dLt (dVar 0) (dVar 1)))
def N_is_below : List Str := ["value", "many"]
def d_is_below : FD := ⟨"is_below", "is_below", st_is_below, ["value", "many"], N_is_below, m_is_below⟩
/-- is_row(value, many) -/
def m_is_row : DS := sRet (dAnd (dIsi (dVar 0) [.tup]) (dOp2 dEq (dOpN cLen (daCons (dVar 0) (daNil))) (dVar 1)))
def N_is_row : List Str := ["value", "many"]
def d_is_row : FD := ⟨"is_row", "is_row", st_is_row, ["value", "many"], N_is_row, m_is_row⟩
/-- are_counts_of(value, number) -/
def m_are_counts_of : DS := sSeq (sIf (dtOr (dtNot (dTruE (dIsi (dVar 0) [.tup]))) (dtNot (dtB (dChain dLe dLe (dC (.int 1)) (dOpN cLen (daCons (dVar 0) (daNil))) (dOp2 dAdd (dC (.int 3)) (dC (.int 1))))))) (sRet (dC (.bl false))) (sNext)) (sRet (dAnd (dOpN cAll (daCons (asVal (dComp [1] (.name 1) (dItems (dVar 0)) (dtYes) (dCall 1 1 0 [.p 0] [] (daCons (dVar 1) (daNil)) (daNil)))) (daNil))) (dOp2 dLe (dOpN cSum (daCons (dVar 0) (daNil))) (dC (.int 40)))))
def N_are_counts_of : List Str := ["value", "number"]
def d_are_counts_of : FD := ⟨"are_counts_of", "are_counts_of", st_are_counts_of, ["value"], N_are_counts_of, m_are_counts_of⟩
/-- lies_of(counts) -/
def m_lies_of : DS := sRet (dOp2 dSub (dOpN cLen (daCons (dVar 0) (daNil))) (dC (.int 1)))
def N_lies_of : List Str := ["counts"]
def d_lies_of : FD := ⟨"lies_of", "lies_of", st_lies_of, ["counts"], N_lies_of, m_lies_of⟩
/-- is_settled_of(counts) -/
def m_is_settled_of : DS := sRet (dOp2 dLe (dOpN cSum (daCons (dVar 0) (daNil))) (dC (.int 1)))
def N_is_settled_of : List Str := ["counts"]
def d_is_settled_of : FD := ⟨"is_settled_of", "is_settled_of", st_is_settled_of, ["counts"], N_is_settled_of, m_is_settled_of⟩
/-- want_counts(value) -/
def m_want_counts : DS := sSeq (sIf (dtNot (dTruE (dCall 4 1 0 [.p 0] [] (daCons (dVar 0) (daNil)) (daNil)))) (sBad) (sNext)) (sRet (dVar 0))
def N_want_counts : List Str := ["value"]
def d_want_counts : FD := ⟨"want_counts", "want_counts", st_want_counts, ["value"], N_want_counts, m_want_counts⟩
/-- is_share(number, value, one) -/
def m_is_share : DS := sRet (dAnd (dCall 3 2 0 [.p 0, .p 1] [] (daCons (dVar 1) (daCons (dC (.int 3)) (daNil))) (daNil)) (dAnd (dOpN cAll (daCons (asVal (dComp [2] (.name 2) (dItems (dVar 1)) (dtYes) (dCall 1 1 0 [.p 0] [] (daCons (dVar 2) (daNil)) (daNil)))) (daNil))) (dOp2 dEq (dOpN cSum (daCons (dVar 1) (daNil))) (dVar 0))))
def N_is_share : List Str := ["number", "value", "one"]
def d_is_share : FD := ⟨"is_share", "is_share", st_is_share, ["number", "value"], N_is_share, m_is_share⟩
/-- is_parting_of(counts, value, number, one) -/
def m_is_parting_of : DS := sRet (dAnd (dCall 3 2 0 [.p 0, .p 1] [] (daCons (dVar 1) (daCons (dOpN cLen (daCons (dVar 0) (daNil))) (daNil))) (daNil)) (dOpN cAll (daCons (asVal (dComp [2, 3] (.tup [.name 2, .name 3]) (dZipX (daCons (dVar 0) (daCons (dVar 1) (daNil)))) (dtYes) (dCall 8 2 0 [.p 0, .p 1] [] (daCons (dVar 2) (daCons (dVar 3) (daNil))) (daNil)))) (daNil))))
def N_is_parting_of : List Str := ["counts", "value", "number", "one"]
def d_is_parting_of : FD := ⟨"is_parting_of", "is_parting_of", st_is_parting_of, ["counts", "value"], N_is_parting_of, m_is_parting_of⟩
/-- behind_of(counts, parting, part, there, others, share, number, one, other) -/
def m_behind_of : DS := sSeq (sFrzA [3] (sOwn 3 (dComp [5] (.name 5) (dItems (dVar 1)) (dtYes) (dOp2 dIx (dVar 5) (dVar 2))))) (sSeq (sSet 4 (dOp2 dAdd (dLst (daCons (dC (.int 0)) (daNil))) (asVal (dComp [6, 7] (.tup [.name 6, .name 7]) (dZipX (daCons (dVar 0) (daCons (dVar 3) (daNil)))) (dtYes) (dOp2 dSub (dVar 6) (dVar 7)))))) (sRet (dOpN cTuple (daCons (asVal (dComp [7, 8] (.tup [.name 7, .name 8]) (dZipX (daCons (dVar 3) (daCons (dVar 4) (daNil)))) (dtYes) (dOp2 dAdd (dVar 7) (dVar 8)))) (daNil)))))
def N_behind_of : List Str := ["counts", "parting", "part", "there", "others", "share", "number", "one", "other"]
def d_behind_of : FD := ⟨"behind_of", "behind_of", st_behind_of, ["counts", "parting", "part"], N_behind_of, m_behind_of⟩
/-- ways_in_three(left, most, found, term, at) -/
def b_ways_in_three_0 : DS := sSeq (sAug 2 dIAdd (dVar 3)) (sSet 3 (dOp2 dFdiv (dOp2 dMul (dOp2 dMul (dVar 3) (dOp2 dSub (dVar 0) (dVar 4))) (dC (.int 2))) (dOp2 dAdd (dVar 4) (dC (.int 1)))))
def m_ways_in_three : DS := sSeq (sAsg (dTup (daCons (dC (.int 0)) (daCons (dC (.int 1)) (daNil)))) (gTup 2 (gsCons (gName' 2) (gsCons (gName' 3) (gsNil))))) (sSeq (sFor (.name 4) (dRng1 (daCons (dOp2 dAdd (dOpN cMinL (daCons (dVar 0) (daCons (dVar 1) (daNil)))) (dC (.int 1))) (daNil))) b_ways_in_three_0) (sRet (dVar 2)))
def N_ways_in_three : List Str := ["left", "most", "found", "term", "at"]
def d_ways_in_three : FD := ⟨"ways_in_three", "ways_in_three", st_ways_in_three, ["left", "most"], N_ways_in_three, m_ways_in_three⟩
/-- weight_of(counts, left, lies, at, number) -/
def m_weight_of : DS := sSeq (sSet 2 (dCall 5 1 0 [.p 0] [] (daCons (dVar 0) (daNil)) (daNil))) (sRet (dOpN cSum (daCons (asVal (dComp [3, 4] (.tup [.name 3, .name 4]) (dEnumA (daCons (dVar 0) (daNil))) (dtYes) (dOp2 dMul (dVar 4) (dCall 11 2 0 [.p 0, .p 1] [] (daCons (dVar 1) (daCons (dOp2 dSub (dVar 2) (dVar 3)) (daNil))) (daNil))))) (daNil))))
def N_weight_of : List Str := ["counts", "left", "lies", "at", "number"]
def d_weight_of : FD := ⟨"weight_of", "weight_of", st_weight_of, ["counts", "left"], N_weight_of, m_weight_of⟩
/-- power_of_three(left, found, turn) -/
def b_power_of_three_0 : DS := sSet 1 (dOp2 dMul (dVar 1) (dC (.int 3)))
def m_power_of_three : DS := sSeq (sSet 1 (dC (.int 1))) (sSeq (sFor (.name 2) (dRng1 (daCons (dVar 0) (daNil))) b_power_of_three_0) (sRet (dVar 1)))
def N_power_of_three : List Str := ["left", "found", "turn"]
def d_power_of_three : FD := ⟨"power_of_three", "power_of_three", st_power_of_three, ["left"], N_power_of_three, m_power_of_three⟩
/-- is_heavy_of(counts, left) -/
def m_is_heavy_of : DS := sRet (dAnd (dNot (dCall 6 1 0 [.p 0] [] (daCons (dVar 0) (daNil)) (daNil))) (dOp2 dGt (dCall 12 2 0 [.p 0, .p 1] [] (daCons (dVar 0) (daCons (dVar 1) (daNil))) (daNil)) (dCall 13 1 0 [.p 0] [] (daCons (dVar 1) (daNil)) (daNil))))
def N_is_heavy_of : List Str := ["counts", "left"]
def d_is_heavy_of : FD := ⟨"is_heavy_of", "is_heavy_of", st_is_heavy_of, ["counts", "left"], N_is_heavy_of, m_is_heavy_of⟩
/-- want_told(counts, left) -/
def m_want_told : DS := sSeq (sExpr (dCall 7 1 0 [.p 0] [] (daCons (dVar 0) (daNil)) (daNil))) (sIf (dtNot (dTruE (dCall 2 2 0 [.p 0, .p 1] [] (daCons (dVar 1) (daCons (dOp2 dAdd (dC (.int 10)) (dC (.int 1))) (daNil))) (daNil)))) (sBad) (sNext))
def N_want_told : List Str := ["counts", "left"]
def d_want_told : FD := ⟨"want_told", "want_told", st_want_told, ["counts", "left"], N_want_told, m_want_told⟩
/-- is_parting(counts, value) -/
def m_is_parting : DS := sRet (dCall 9 2 0 [.p 0, .p 1] [] (daCons (dCall 7 1 0 [.p 0] [] (daCons (dVar 0) (daNil)) (daNil)) (daCons (dVar 1) (daNil))) (daNil))
def N_is_parting : List Str := ["counts", "value"]
def d_is_parting : FD := ⟨"is_parting", "is_parting", st_is_parting, ["counts", "value"], N_is_parting, m_is_parting⟩
/-- behind_part(counts, parting, part) -/
def m_behind_part : DS := sSeq (sIf (dtNot (dTruE (dCall 9 2 0 [.p 0, .p 1] [] (daCons (dCall 7 1 0 [.p 0] [] (daCons (dVar 0) (daNil)) (daNil)) (daCons (dVar 1) (daNil))) (daNil)))) (sBad) (sNext)) (sSeq (sIf (dtNot (dTruE (dCall 2 2 0 [.p 0, .p 1] [] (daCons (dVar 2) (daCons (dC (.int 3)) (daNil))) (daNil)))) (sBad) (sNext)) (sRet (dCall 10 3 0 [.p 0, .p 1, .p 2] [] (daCons (dVar 0) (daCons (dVar 1) (daCons (dVar 2) (daNil)))) (daNil))))
def N_behind_part : List Str := ["counts", "parting", "part"]
def d_behind_part : FD := ⟨"behind_part", "behind_part", st_behind_part, ["counts", "parting", "part"], N_behind_part, m_behind_part⟩
/-- weight_in_three(counts, left) -/
def m_weight_in_three : DS := sSeq (sExpr (dCall 15 2 0 [.p 0, .p 1] [] (daCons (dVar 0) (daCons (dVar 1) (daNil))) (daNil))) (sRet (dCall 12 2 0 [.p 0, .p 1] [] (daCons (dVar 0) (daCons (dVar 1) (daNil))) (daNil)))
def N_weight_in_three : List Str := ["counts", "left"]
def d_weight_in_three : FD := ⟨"weight_in_three", "weight_in_three", st_weight_in_three, ["counts", "left"], N_weight_in_three, m_weight_in_three⟩
/-- is_heavy_in_three(counts, left) -/
def m_is_heavy_in_three : DS := sSeq (sExpr (dCall 15 2 0 [.p 0, .p 1] [] (daCons (dVar 0) (daCons (dVar 1) (daNil))) (daNil))) (sRet (dCall 14 2 0 [.p 0, .p 1] [] (daCons (dVar 0) (daCons (dVar 1) (daNil))) (daNil)))
def N_is_heavy_in_three : List Str := ["counts", "left"]
def d_is_heavy_in_three : FD := ⟨"is_heavy_in_three", "is_heavy_in_three", st_is_heavy_in_three, ["counts", "left"], N_is_heavy_in_three, m_is_heavy_in_three⟩
/-- _law_pot(script, k, cell) -/
def m__law_pot : DS := sSeq (sSet 2 (dIf (dtB (dOp2 dLt (dVar 1) (dOpN cLen (daCons (dVar 0) (daNil))))) (dOpN cAbs (daCons (dOp2 dIx (dVar 0) (dVar 1)) (daNil))) (dOp2 dAdd (dOp2 dMul (dC (.int 4721)) (dVar 1)) (dC (.int 2621))))) (sRet (asCell (dDisp (daCons (dOpN cMaxL (daCons (dC (.int 0)) (daCons (dOp2 dSub (dVar 2) (dOp2 dPow (dC (.int 10)) (dC (.int 18)))) (daNil)))) (daCons (dOp2 dAdd (dOp2 dMod (dOpN cInt (daCons (dOp2 dAdd (dOp2 dAdd (dOp2 dMul (dOp2 dMod (dOpN cInt (daCons (dVar 2) (daNil))) (dC (.int 2147483549))) (dC (.int 42469))) (dOp2 dMul (dC (.int 2621)) (dVar 1))) (dC (.int 745))) (daNil))) (dC (.int 2147483563))) (dC (.int 1))) (daNil))))))
def N__law_pot : List Str := ["script", "k", "cell"]
def d__law_pot : FD := ⟨"_law_pot", "_law_pot", st__law_pot, ["script", "k"], N__law_pot, m__law_pot⟩
/-- _law_draw(pot, many, digit) -/
def m__law_draw : DS := sSeq (sIf (dtB (dOp2 dGt (dOp2 dIx (dVar 0) (dC (.int 0))) (dC (.int 0)))) (sSeq (sAsg (dOpN cDivmod (daCons (dOp2 dIx (dVar 0) (dC (.int 0))) (daCons (dVar 1) (daNil)))) (gTup 2 (gsCons (gIx 0 (dC (.int 0))) (gsCons (gName' 2) (gsNil))))) (sRet (dVar 2))) (sNext)) (sSeq (sAsg (dOp2 dMod (dOpN cInt (daCons (dOp2 dAdd (dOp2 dMul (dOp2 dIx (dVar 0) (dC (.int 1))) (dC (.int 48271))) (dC (.int 4721))) (daNil))) (dC (.int 2147483587))) (gIx 0 (dC (.int 1)))) (sRet (dOp2 dMod (dOpN cInt (daCons (dOp2 dFdiv (dOp2 dMod (dOpN cInt (daCons (dOp2 dMul (dOp2 dIx (dVar 0) (dC (.int 1))) (dOp2 dIx (dVar 0) (dC (.int 1)))) (daNil))) (dC (.int 2147483549))) (dC (.int 589))) (daNil))) (dVar 1))))
def N__law_draw : List Str := ["pot", "many", "digit"]
def d__law_draw : FD := ⟨"_law_draw", "_law_draw", st__law_draw, ["pot", "many"], N__law_draw, m__law_draw⟩
/-- _law_pick(pot, some) -/
def m__law_pick : DS := sRet (dOp2 dIx (dVar 1) (dCall 21 2 0 [.p 0, .p 1] [] (daCons (dVar 0) (daCons (dOpN cLen (daCons (dVar 1) (daNil))) (daNil))) (daNil)))
def N__law_pick : List Str := ["pot", "some"]
def d__law_pick : FD := ⟨"_law_pick", "_law_pick", st__law_pick, ["pot", "some"], N__law_pick, m__law_pick⟩
/-- _law_behind(counts, parting, part, found, gone, number, share) -/
def b__law_behind_0 : DS := sSeq (sAppend 3 (dOp2 dAdd (dOp2 dIx (dVar 6) (dVar 2)) (dVar 4))) (sSet 4 (dOp2 dSub (dVar 5) (dOp2 dIx (dVar 6) (dVar 2))))
def m__law_behind : DS := sSeq (sPar2 3 4 (dmO (dDisp (daNil))) (dmV (dC (.int 0)))) (sSeq (sFor (.tup [.name 5, .name 6]) (dZipX (daCons (dVar 0) (daCons (dVar 1) (daNil)))) b__law_behind_0) (sRet (dOpN cTuple (daCons (dVar 3) (daNil)))))
def N__law_behind : List Str := ["counts", "parting", "part", "found", "gone", "number", "share"]
def d__law_behind : FD := ⟨"_law_behind", "_law_behind", st__law_behind, ["counts", "parting", "part"], N__law_behind, m__law_behind⟩
/-- _law_all(counts, parting, part) -/
def m__law_all : DS := sRet (asVal (dComp [2] (.name 2) (dRng1 (daCons (dC (.int 3)) (daNil))) (dtYes) (dCall 23 3 0 [.p 0, .p 1, .p 2] [] (daCons (dVar 0) (daCons (dVar 1) (daCons (dVar 2) (daNil)))) (daNil))))
def N__law_all : List Str := ["counts", "parting", "part"]
def d__law_all : FD := ⟨"_law_all", "_law_all", st__law_all, ["counts", "parting"], N__law_all, m__law_all⟩
/-- _law_counts(pot, most, lies, found, left, at, some) -/
def b__law_counts_0 : DS := sSeq (sSet 6 (dCall 21 2 0 [.p 0, .p 1] [] (daCons (dVar 0) (daCons (dOp2 dAdd (dVar 4) (dC (.int 1))) (daNil))) (daNil))) (sSeq (sAppend 3 (dVar 6)) (sSet 4 (dOp2 dSub (dVar 4) (dVar 6))))
def m__law_counts : DS := sSeq (sPar2 3 4 (dmO (dDisp (daNil))) (dmV (dCall 21 2 0 [.p 0, .p 1] [] (daCons (dVar 0) (daCons (dOp2 dAdd (dVar 1) (dC (.int 1))) (daNil))) (daNil)))) (sSeq (sFor (.name 5) (dRng1 (daCons (dVar 2) (daNil))) b__law_counts_0) (sRet (dOpN cTuple (daCons (dOp2 dAdd (dLst (daCons (dVar 4) (daNil))) (dVar 3)) (daNil)))))
def N__law_counts : List Str := ["pot", "most", "lies", "found", "left", "at", "some"]
def d__law_counts : FD := ⟨"_law_counts", "_law_counts", st__law_counts, ["pot", "most", "lies"], N__law_counts, m__law_counts⟩
/-- _law_bent(pot, value, at, way, some) -/
def m__law_bent : DS := sSeq (sIf (dtAnd (dTruE (dIsi (dVar 1) [.tup, .lst])) (dtAnd (dtB (dOp2 dGt (dOpN cLen (daCons (dVar 1) (daNil))) (dC (.int 0)))) (dtB (dOp2 dGt (dCall 21 2 0 [.p 0, .p 1] [] (daCons (dVar 0) (daCons (dC (.int 6)) (daNil))) (daNil)) (dC (.int 0)))))) (sSeq (sPar2 2 3 (dmV (dCall 21 2 0 [.p 0, .p 1] [] (daCons (dVar 0) (daCons (dOpN cLen (daCons (dVar 1) (daNil))) (daNil))) (daNil))) (dmV (dCall 21 2 0 [.p 0, .p 1] [] (daCons (dVar 0) (daCons (dC (.int 9)) (daNil))) (daNil)))) (sSeq (sIf (dtB (dOp2 dEq (dVar 3) (dC (.int 0)))) (sRet (dOp2 dAdd (dSlice (dVar 1) (dNoPart) (dPart (dVar 2))) (dSlice (dVar 1) (dPart (dOp2 dAdd (dVar 2) (dC (.int 1)))) (dNoPart)))) (sNext)) (sSeq (sIf (dtB (dOp2 dEq (dVar 3) (dC (.int 1)))) (sRet (dOp2 dAdd (dSlice (dVar 1) (dNoPart) (dPart (dOp2 dAdd (dVar 2) (dC (.int 1))))) (dSlice (dVar 1) (dPart (dVar 2)) (dNoPart)))) (sNext)) (sSeq (sSet 4 (dLst (daCons (dCall 26 2 0 [.p 0, .p 1] [] (daCons (dVar 0) (daCons (dOp2 dIx (dVar 1) (dVar 2)) (daNil))) (daNil)) (daNil)))) (sRet (dOp2 dAdd (dOp2 dAdd (dSlice (dVar 1) (dNoPart) (dPart (dVar 2))) (dIf (dTruE (dIsi (dVar 1) [.tup])) (dOpN cTuple (daCons (dVar 4) (daNil))) (dVar 4))) (dSlice (dVar 1) (dPart (dOp2 dAdd (dVar 2) (dC (.int 1)))) (dNoPart)))))))) (sNext)) (sSeq (sIf (dtAnd (dTruE (dIsi (dVar 1) [.int])) (dtNot (dTruE (dIsi (dVar 1) [.bl])))) (sRet (dCall 22 2 0 [.p 0, .p 1] [] (daCons (dVar 0) (daCons (dLst (daCons (dOp2 dAdd (dVar 1) (dC (.int 1))) (daCons (dOp2 dSub (dVar 1) (dC (.int 1))) (daCons (dC (.bl true)) (daCons (dC .non) (daCons (dC (.str ("a" : Str))) (daCons (dC (.int 0)) (daCons (dC (.int 1)) (daNil))))))))) (daNil))) (daNil))) (sNext)) (sRet (dCall 22 2 0 [.p 0, .p 1] [] (daCons (dVar 0) (daCons (dLst (daCons (dC .non) (daCons (dC (.str ("asking" : Str))) (daCons (dC (.str ("answering" : Str))) (daCons (dC (.str ("cutting" : Str))) (daCons (dC (.str ("dodging" : Str))) (daCons (dC (.str ("parting" : Str))) (daCons (dC (.str ("hiding" : Str))) (daCons (dTup (daNil)) (daCons (dLst (daNil)) (daCons (dC (.int 0)) (daCons (dIf (dTruE (dIsi (dVar 1) [.tup])) (asVal (dListF (daCons (dVar 1) (daNil)))) (dTup (daNil))) (daNil))))))))))))) (daNil))) (daNil))))
def N__law_bent : List Str := ["pot", "value", "at", "way", "some"]
def d__law_bent : FD := ⟨"_law_bent", "_law_bent", st__law_bent, ["pot", "value"], N__law_bent, m__law_bent⟩
/-- _law_is_count(value, most) -/
def m__law_is_count : DS := sRet (dAnd (dIsi (dVar 0) [.int]) (dAnd (dNot (dIsi (dVar 0) [.bl])) (dChain dLe dLe (dC (.int 0)) (dVar 0) (dVar 1))))
def N__law_is_count : List Str := ["value", "most"]
def d__law_is_count : FD := ⟨"_law_is_count", "_law_is_count", st__law_is_count, ["value", "most"], N__law_is_count, m__law_is_count⟩
/-- _law_is_parting(counts, value, number, share, one) -/
def m__law_is_parting : DS := sSeq (sIf (dtOr (dtNot (dTruE (dIsi (dVar 1) [.tup]))) (dtB (dOp2 dNe (dOpN cLen (daCons (dVar 1) (daNil))) (dOpN cLen (daCons (dVar 0) (daNil)))))) (sRet (dC (.bl false))) (sNext)) (sRet (dOpN cAll (daCons (asVal (dComp [2, 3] (.tup [.name 2, .name 3]) (dZipX (daCons (dVar 0) (daCons (dVar 1) (daNil)))) (dtYes) (dAnd (dIsi (dVar 3) [.tup]) (dAnd (dOp2 dEq (dOpN cLen (daCons (dVar 3) (daNil))) (dC (.int 3))) (dAnd (dOpN cAll (daCons (asVal (dComp [4] (.name 4) (dItems (dVar 3)) (dtYes) (dCall 27 2 0 [.p 0, .p 1] [] (daCons (dVar 4) (daCons (dVar 2) (daNil))) (daNil)))) (daNil))) (dOp2 dEq (dOpN cSum (daCons (dVar 3) (daNil))) (dVar 2))))))) (daNil))))
def N__law_is_parting : List Str := ["counts", "value", "number", "share", "one"]
def d__law_is_parting : FD := ⟨"_law_is_parting", "_law_is_parting", st__law_is_parting, ["counts", "value"], N__law_is_parting, m__law_is_parting⟩
/-- _law_weight(counts, left, found, at, number, term, wrong) -/
def b__law_weight_0 : DS := sSeq (sSet 2 (dOp2 dAdd (dVar 2) (dOp2 dMul (dVar 4) (dVar 5)))) (sSet 5 (dOp2 dFdiv (dOp2 dMul (dOp2 dMul (dVar 5) (dOp2 dSub (dVar 1) (dVar 6))) (dC (.int 2))) (dOp2 dAdd (dVar 6) (dC (.int 1)))))
def b__law_weight_1 : DS := sSeq (sSet 5 (dC (.int 1))) (sFor (.name 6) (dRng1 (daCons (dOp2 dSub (dOpN cLen (daCons (dVar 0) (daNil))) (dVar 3)) (daNil))) b__law_weight_0)
def m__law_weight : DS := sSeq (sSet 2 (dC (.int 0))) (sSeq (sFor (.tup [.name 3, .name 4]) (dEnumA (daCons (dVar 0) (daNil))) b__law_weight_1) (sRet (dVar 2)))
def N__law_weight : List Str := ["counts", "left", "found", "at", "number", "term", "wrong"]
def d__law_weight : FD := ⟨"_law_weight", "_law_weight", st__law_weight, ["counts", "left"], N__law_weight, m__law_weight⟩
/-- _law_right(pot, lies, counts, left, parting, number, one, other, shown, values, value, due, late, part, whole, power, turn, heavy, share) -/
def b__law_right_0 : DS := sSeq (sSet 6 (dCall 21 2 0 [.p 0, .p 1] [] (daCons (dVar 0) (daCons (dOp2 dAdd (dVar 5) (dC (.int 1))) (daNil))) (daNil))) (sSeq (sSet 7 (dCall 21 2 0 [.p 0, .p 1] [] (daCons (dVar 0) (daCons (dOp2 dAdd (dOp2 dSub (dVar 5) (dVar 6)) (dC (.int 1))) (daNil))) (daNil))) (sAppend 4 (dTup (daCons (dVar 6) (daCons (dVar 7) (daCons (dOp2 dSub (dOp2 dSub (dVar 5) (dVar 6)) (dVar 7)) (daNil)))))))
def b__law_right_1 : DS := sSeq (sPar2 11 12 (dmV (dCall 28 2 0 [.p 0, .p 1] [] (daCons (dVar 2) (daCons (dVar 10) (daNil))) (daNil))) (dmV (dOpN cRepr (daCons (dVar 10) (daNil))))) (sIf (dtOr (dtB (dOp2 dNe (dOpN cRepr (daCons (dLst (daCons (dCall 16 2 0 [.p 0, .p 1] [] (daCons (dVar 2) (daCons (dVar 10) (daNil))) (daNil)) (daCons (dCall 16 0 2 [.k 1, .k 0] [] (daNil) (daCons (dVar 10) (daCons (dVar 2) (daNil)))) (daNil)))) (daNil))) (dOpN cRepr (daCons (dLst (daCons (dVar 11) (daCons (dVar 11) (daNil)))) (daNil))))) (dtB (dOp2 dNe (dOpN cRepr (daCons (dVar 10) (daNil))) (dVar 12)))) (sRet (dC (.bl false))) (sNext))
def b__law_right_2 : DS := sSeq (sSet 11 (dCall 23 3 0 [.p 0, .p 1, .p 2] [] (daCons (dVar 2) (daCons (dVar 4) (daCons (dVar 13) (daNil)))) (daNil))) (sIf (dtB (dOp2 dNe (dOpN cRepr (daCons (dLst (daCons (dCall 17 3 0 [.p 0, .p 1, .p 2] [] (daCons (dVar 2) (daCons (dVar 4) (daCons (dVar 13) (daNil)))) (daNil)) (daCons (dCall 17 0 3 [.k 2, .k 1, .k 0] [] (daNil) (daCons (dVar 13) (daCons (dVar 4) (daCons (dVar 2) (daNil))))) (daNil)))) (daNil))) (dOpN cRepr (daCons (dLst (daCons (dVar 11) (daCons (dVar 11) (daNil)))) (daNil))))) (sRet (dC (.bl false))) (sNext))
def b__law_right_3 : DS := sSet 15 (dOp2 dMul (dC (.int 3)) (dVar 15))
def m__law_right : DS := sSeq (sAsg (dTup (daCons (dCall 25 3 0 [.p 0, .p 1, .p 2] [] (daCons (dVar 0) (daCons (dC (.int 40)) (daCons (dVar 1) (daNil)))) (daNil)) (daCons (dCall 21 2 0 [.p 0, .p 1] [] (daCons (dVar 0) (daCons (dC (.int 11)) (daNil))) (daNil)) (daCons (asCell (dDisp (daNil))) (daNil))))) (gTup 3 (gsCons (gName' 2) (gsCons (gName' 3) (gsCons (gName' 4) (gsNil)))))) (sSeq (sFor (.name 5) (dItems (dVar 2)) b__law_right_0) (sSeq (sAsg (dTup (daCons (dOpN cTuple (daCons (dVar 4) (daNil))) (daCons (dOpN cRepr (daCons (dVar 2) (daNil))) (daNil)))) (gTup 2 (gsCons (gName' 4) (gsCons (gName' 8) (gsNil))))) (sSeq (sSet 9 (dLst (daCons (dVar 4) (daCons (asVal (dListF (daCons (dVar 4) (daNil)))) (daCons (dSlice (dVar 4) (dPart (dC (.int 1))) (dNoPart)) (daCons (dOp2 dAdd (dVar 4) (dTup (daCons (dTup (daCons (dC (.int 0)) (daCons (dC (.int 0)) (daCons (dC (.int 0)) (daNil))))) (daNil)))) (daCons (dRev (dVar 4)) (daCons (dC .non) (daCons (dTup (daNil)) (daNil)))))))))) (sSeq (sSet 9 (dOp2 dAdd (dVar 9) (dLst (daCons (dOpN cTuple (daCons (asVal (dComp [18] (.name 18) (dItems (dVar 4)) (dtYes) (dRev (dVar 18)))) (daNil))) (daCons (dOpN cTuple (daCons (asVal (dComp [18] (.name 18) (dItems (dVar 4)) (dtYes) (asVal (dListF (daCons (dVar 18) (daNil)))))) (daNil))) (daNil)))))) (sSeq (sFor (.name 10) (dItems (dOp2 dAdd (dVar 9) (asVal (dComp [16] (.name 16) (dRng1 (daCons (dC (.int 8)) (daNil))) (dtYes) (dCall 26 2 0 [.p 0, .p 1] [] (daCons (dVar 0) (daCons (dVar 4) (daNil))) (daNil)))))) b__law_right_1) (sSeq (sFor (.name 13) (dRng1 (daCons (dC (.int 3)) (daNil))) b__law_right_2) (sSeq (sPar2 14 15 (dmV (dCall 29 2 0 [.p 0, .p 1] [] (daCons (dVar 2) (daCons (dVar 3) (daNil))) (daNil))) (dmV (dC (.int 1)))) (sSeq (sFor (.name 16) (dRng1 (daCons (dVar 3) (daNil))) b__law_right_3) (sSeq (sIf (dtB (dOp2 dNe (dOpN cRepr (daCons (dLst (daCons (dCall 18 2 0 [.p 0, .p 1] [] (daCons (dVar 2) (daCons (dVar 3) (daNil))) (daNil)) (daCons (dCall 18 0 2 [.k 1, .k 0] [] (daNil) (daCons (dVar 3) (daCons (dVar 2) (daNil)))) (daNil)))) (daNil))) (dOpN cRepr (daCons (dLst (daCons (dVar 14) (daCons (dVar 14) (daNil)))) (daNil))))) (sRet (dC (.bl false))) (sNext)) (sSeq (sSet 17 (dAnd (dOp2 dGt (dOpN cSum (daCons (dVar 2) (daNil))) (dC (.int 1))) (dOp2 dGt (dVar 14) (dVar 15)))) (sSeq (sIf (dtOr (dtB (dOp2 dNe (dOpN cRepr (daCons (dLst (daCons (dCall 19 2 0 [.p 0, .p 1] [] (daCons (dVar 2) (daCons (dVar 3) (daNil))) (daNil)) (daCons (dCall 19 0 2 [.k 1, .k 0] [] (daNil) (daCons (dVar 3) (daCons (dVar 2) (daNil)))) (daNil)))) (daNil))) (dOpN cRepr (daCons (dLst (daCons (dVar 17) (daCons (dVar 17) (daNil)))) (daNil))))) (dtB (dOp2 dNe (dOpN cRepr (daCons (dVar 2) (daNil))) (dVar 8)))) (sRet (dC (.bl false))) (sNext)) (sRet (dOr (dOp2 dEq (dVar 3) (dC (.int 0))) (dOp2 dEq (dOpN cSum (daCons (asVal (dComp [12] (.name 12) (dItems (dCall 24 2 0 [.p 0, .p 1] [] (daCons (dVar 2) (daCons (dVar 4) (daNil))) (daNil))) (dtYes) (dCall 18 2 0 [.p 0, .p 1] [] (daCons (dVar 12) (daCons (dOp2 dSub (dVar 3) (dC (.int 1))) (daNil))) (daNil)))) (daNil))) (dVar 14)))))))))))))))
def N__law_right : List Str := ["pot", "lies", "counts", "left", "parting", "number", "one", "other", "shown", "values", "value", "due", "late", "part", "whole", "power", "turn", "heavy", "share"]
def d__law_right : FD := ⟨"_law_right", "_law_right", st__law_right, ["pot", "lies"], N__law_right, m__law_right⟩
/-- law(script, pot) -/
def m_law : DS := sSeq (sSet 1 (dCall 20 2 0 [.p 0, .p 1] [] (daCons (dVar 0) (daCons (dC (.int 0)) (daNil))) (daNil))) (sRet (dAnd (dCall 30 2 0 [.p 0, .p 1] [] (daCons (dVar 1) (daCons (dC (.int 0)) (daNil))) (daNil)) (dAnd (dCall 30 2 0 [.p 0, .p 1] [] (daCons (dVar 1) (daCons (dC (.int 1)) (daNil))) (daNil)) (dAnd (dCall 30 2 0 [.p 0, .p 1] [] (daCons (dVar 1) (daCons (dC (.int 2)) (daNil))) (daNil)) (dCall 30 2 0 [.p 0, .p 1] [] (daCons (dCall 20 2 0 [.p 0, .p 1] [] (daCons (dVar 0) (daCons (dC (.int 1)) (daNil))) (daNil)) (daCons (dC (.int 3)) (daNil))) (daNil))))))
def N_law : List Str := ["script", "pot"]
def d_law : FD := ⟨"law", "law", st_law, ["script"], N_law, m_law⟩
def tb : List FD := [d_is_integer, d_is_count, d_is_below, d_is_row, d_are_counts_of, d_lies_of, d_is_settled_of, d_want_counts, d_is_share, d_is_parting_of, d_behind_of, d_ways_in_three, d_weight_of, d_power_of_three, d_is_heavy_of, d_want_told, d_is_parting, d_behind_part, d_weight_in_three, d_is_heavy_in_three, d__law_pot, d__law_draw, d__law_pick, d__law_behind, d__law_all, d__law_counts, d__law_bent, d__law_is_count, d__law_is_parting, d__law_weight, d__law_right, d_law]
def T : Pg := ⟨tb, ["isinstance", "int", "bool", "tuple", "len", "all", "sum", "zip", "min", "range", "enumerate", "abs", "max", "divmod", "list", "repr"], [("MOST_LIES", .int 3), ("MOST_TOGETHER", .int 40), ("WAYS", .int 3), ("MOST_LEFT", .int 10)]⟩
section
variable {X : Cx} {G : Gx} {k : Nat}
theorem cl__law_all_2 (O : XOk X G T k) : CallOk X G "_law_all" 24 2 [] [.p 0, .p 1] [] := O.call 24 (d := d__law_all) rfl 2 [] [.p 0, .p 1] rfl fun kV doc pm an cdv ct us ws zs l1 l2 ar => match us, ws, l1, l2, ar with | [_, _], [], _, _, rfl => rfl
theorem cl__law_behind_3 (O : XOk X G T k) : CallOk X G "_law_behind" 23 3 [] [.p 0, .p 1, .p 2] [] := O.call 23 (d := d__law_behind) rfl 3 [] [.p 0, .p 1, .p 2] rfl fun kV doc pm an cdv ct us ws zs l1 l2 ar => match us, ws, l1, l2, ar with | [_, _, _], [], _, _, rfl => rfl
theorem cl__law_bent_2 (O : XOk X G T k) : CallOk X G "_law_bent" 26 2 [] [.p 0, .p 1] [] := O.call 26 (d := d__law_bent) rfl 2 [] [.p 0, .p 1] rfl fun kV doc pm an cdv ct us ws zs l1 l2 ar => match us, ws, l1, l2, ar with | [_, _], [], _, _, rfl => rfl
theorem cl__law_counts_3 (O : XOk X G T k) : CallOk X G "_law_counts" 25 3 [] [.p 0, .p 1, .p 2] [] := O.call 25 (d := d__law_counts) rfl 3 [] [.p 0, .p 1, .p 2] rfl fun kV doc pm an cdv ct us ws zs l1 l2 ar => match us, ws, l1, l2, ar with | [_, _, _], [], _, _, rfl => rfl
theorem cl__law_draw_2 (O : XOk X G T k) : CallOk X G "_law_draw" 21 2 [] [.p 0, .p 1] [] := O.call 21 (d := d__law_draw) rfl 2 [] [.p 0, .p 1] rfl fun kV doc pm an cdv ct us ws zs l1 l2 ar => match us, ws, l1, l2, ar with | [_, _], [], _, _, rfl => rfl
theorem cl__law_is_count_2 (O : XOk X G T k) : CallOk X G "_law_is_count" 27 2 [] [.p 0, .p 1] [] := O.call 27 (d := d__law_is_count) rfl 2 [] [.p 0, .p 1] rfl fun kV doc pm an cdv ct us ws zs l1 l2 ar => match us, ws, l1, l2, ar with | [_, _], [], _, _, rfl => rfl
theorem cl__law_is_parting_2 (O : XOk X G T k) : CallOk X G "_law_is_parting" 28 2 [] [.p 0, .p 1] [] := O.call 28 (d := d__law_is_parting) rfl 2 [] [.p 0, .p 1] rfl fun kV doc pm an cdv ct us ws zs l1 l2 ar => match us, ws, l1, l2, ar with | [_, _], [], _, _, rfl => rfl
theorem cl__law_pick_2 (O : XOk X G T k) : CallOk X G "_law_pick" 22 2 [] [.p 0, .p 1] [] := O.call 22 (d := d__law_pick) rfl 2 [] [.p 0, .p 1] rfl fun kV doc pm an cdv ct us ws zs l1 l2 ar => match us, ws, l1, l2, ar with | [_, _], [], _, _, rfl => rfl
theorem cl__law_pot_2 (O : XOk X G T k) : CallOk X G "_law_pot" 20 2 [] [.p 0, .p 1] [] := O.call 20 (d := d__law_pot) rfl 2 [] [.p 0, .p 1] rfl fun kV doc pm an cdv ct us ws zs l1 l2 ar => match us, ws, l1, l2, ar with | [_, _], [], _, _, rfl => rfl
theorem cl__law_right_2 (O : XOk X G T k) : CallOk X G "_law_right" 30 2 [] [.p 0, .p 1] [] := O.call 30 (d := d__law_right) rfl 2 [] [.p 0, .p 1] rfl fun kV doc pm an cdv ct us ws zs l1 l2 ar => match us, ws, l1, l2, ar with | [_, _], [], _, _, rfl => rfl
theorem cl__law_weight_2 (O : XOk X G T k) : CallOk X G "_law_weight" 29 2 [] [.p 0, .p 1] [] := O.call 29 (d := d__law_weight) rfl 2 [] [.p 0, .p 1] rfl fun kV doc pm an cdv ct us ws zs l1 l2 ar => match us, ws, l1, l2, ar with | [_, _], [], _, _, rfl => rfl
theorem cl_are_counts_of_1 (O : XOk X G T k) : CallOk X G "are_counts_of" 4 1 [] [.p 0] [] := O.call 4 (d := d_are_counts_of) rfl 1 [] [.p 0] rfl fun kV doc pm an cdv ct us ws zs l1 l2 ar => match us, ws, l1, l2, ar with | [_], [], _, _, rfl => rfl
theorem cl_behind_of_3 (O : XOk X G T k) : CallOk X G "behind_of" 10 3 [] [.p 0, .p 1, .p 2] [] := O.call 10 (d := d_behind_of) rfl 3 [] [.p 0, .p 1, .p 2] rfl fun kV doc pm an cdv ct us ws zs l1 l2 ar => match us, ws, l1, l2, ar with | [_, _, _], [], _, _, rfl => rfl
theorem cl_behind_part_0_part_parting_counts (O : XOk X G T k) : CallOk X G "behind_part" 17 0 ["part", "parting", "counts"] [.k 2, .k 1, .k 0] [] := O.call 17 (d := d_behind_part) rfl 0 ["part", "parting", "counts"] [.k 2, .k 1, .k 0] rfl fun kV doc pm an cdv ct us ws zs l1 l2 ar => match us, ws, l1, l2, ar with | [], [_, _, _], _, _, rfl => rfl
theorem cl_behind_part_3 (O : XOk X G T k) : CallOk X G "behind_part" 17 3 [] [.p 0, .p 1, .p 2] [] := O.call 17 (d := d_behind_part) rfl 3 [] [.p 0, .p 1, .p 2] rfl fun kV doc pm an cdv ct us ws zs l1 l2 ar => match us, ws, l1, l2, ar with | [_, _, _], [], _, _, rfl => rfl
theorem cl_is_below_2 (O : XOk X G T k) : CallOk X G "is_below" 2 2 [] [.p 0, .p 1] [] := O.call 2 (d := d_is_below) rfl 2 [] [.p 0, .p 1] rfl fun kV doc pm an cdv ct us ws zs l1 l2 ar => match us, ws, l1, l2, ar with | [_, _], [], _, _, rfl => rfl
theorem cl_is_count_1 (O : XOk X G T k) : CallOk X G "is_count" 1 1 [] [.p 0] [] := O.call 1 (d := d_is_count) rfl 1 [] [.p 0] rfl fun kV doc pm an cdv ct us ws zs l1 l2 ar => match us, ws, l1, l2, ar with | [_], [], _, _, rfl => rfl
theorem cl_is_heavy_in_three_0_left_counts (O : XOk X G T k) : CallOk X G "is_heavy_in_three" 19 0 ["left", "counts"] [.k 1, .k 0] [] := O.call 19 (d := d_is_heavy_in_three) rfl 0 ["left", "counts"] [.k 1, .k 0] rfl fun kV doc pm an cdv ct us ws zs l1 l2 ar => match us, ws, l1, l2, ar with | [], [_, _], _, _, rfl => rfl
theorem cl_is_heavy_in_three_2 (O : XOk X G T k) : CallOk X G "is_heavy_in_three" 19 2 [] [.p 0, .p 1] [] := O.call 19 (d := d_is_heavy_in_three) rfl 2 [] [.p 0, .p 1] rfl fun kV doc pm an cdv ct us ws zs l1 l2 ar => match us, ws, l1, l2, ar with | [_, _], [], _, _, rfl => rfl
theorem cl_is_heavy_of_2 (O : XOk X G T k) : CallOk X G "is_heavy_of" 14 2 [] [.p 0, .p 1] [] := O.call 14 (d := d_is_heavy_of) rfl 2 [] [.p 0, .p 1] rfl fun kV doc pm an cdv ct us ws zs l1 l2 ar => match us, ws, l1, l2, ar with | [_, _], [], _, _, rfl => rfl
theorem cl_is_integer_1 (O : XOk X G T k) : CallOk X G "is_integer" 0 1 [] [.p 0] [] := O.call 0 (d := d_is_integer) rfl 1 [] [.p 0] rfl fun kV doc pm an cdv ct us ws zs l1 l2 ar => match us, ws, l1, l2, ar with | [_], [], _, _, rfl => rfl
theorem cl_is_parting_0_value_counts (O : XOk X G T k) : CallOk X G "is_parting" 16 0 ["value", "counts"] [.k 1, .k 0] [] := O.call 16 (d := d_is_parting) rfl 0 ["value", "counts"] [.k 1, .k 0] rfl fun kV doc pm an cdv ct us ws zs l1 l2 ar => match us, ws, l1, l2, ar with | [], [_, _], _, _, rfl => rfl
theorem cl_is_parting_2 (O : XOk X G T k) : CallOk X G "is_parting" 16 2 [] [.p 0, .p 1] [] := O.call 16 (d := d_is_parting) rfl 2 [] [.p 0, .p 1] rfl fun kV doc pm an cdv ct us ws zs l1 l2 ar => match us, ws, l1, l2, ar with | [_, _], [], _, _, rfl => rfl
theorem cl_is_parting_of_2 (O : XOk X G T k) : CallOk X G "is_parting_of" 9 2 [] [.p 0, .p 1] [] := O.call 9 (d := d_is_parting_of) rfl 2 [] [.p 0, .p 1] rfl fun kV doc pm an cdv ct us ws zs l1 l2 ar => match us, ws, l1, l2, ar with | [_, _], [], _, _, rfl => rfl
theorem cl_is_row_2 (O : XOk X G T k) : CallOk X G "is_row" 3 2 [] [.p 0, .p 1] [] := O.call 3 (d := d_is_row) rfl 2 [] [.p 0, .p 1] rfl fun kV doc pm an cdv ct us ws zs l1 l2 ar => match us, ws, l1, l2, ar with | [_, _], [], _, _, rfl => rfl
theorem cl_is_settled_of_1 (O : XOk X G T k) : CallOk X G "is_settled_of" 6 1 [] [.p 0] [] := O.call 6 (d := d_is_settled_of) rfl 1 [] [.p 0] rfl fun kV doc pm an cdv ct us ws zs l1 l2 ar => match us, ws, l1, l2, ar with | [_], [], _, _, rfl => rfl
theorem cl_is_share_2 (O : XOk X G T k) : CallOk X G "is_share" 8 2 [] [.p 0, .p 1] [] := O.call 8 (d := d_is_share) rfl 2 [] [.p 0, .p 1] rfl fun kV doc pm an cdv ct us ws zs l1 l2 ar => match us, ws, l1, l2, ar with | [_, _], [], _, _, rfl => rfl
theorem cl_lies_of_1 (O : XOk X G T k) : CallOk X G "lies_of" 5 1 [] [.p 0] [] := O.call 5 (d := d_lies_of) rfl 1 [] [.p 0] rfl fun kV doc pm an cdv ct us ws zs l1 l2 ar => match us, ws, l1, l2, ar with | [_], [], _, _, rfl => rfl
theorem cl_power_of_three_1 (O : XOk X G T k) : CallOk X G "power_of_three" 13 1 [] [.p 0] [] := O.call 13 (d := d_power_of_three) rfl 1 [] [.p 0] rfl fun kV doc pm an cdv ct us ws zs l1 l2 ar => match us, ws, l1, l2, ar with | [_], [], _, _, rfl => rfl
theorem cl_want_counts_1 (O : XOk X G T k) : CallOk X G "want_counts" 7 1 [] [.p 0] [] := O.call 7 (d := d_want_counts) rfl 1 [] [.p 0] rfl fun kV doc pm an cdv ct us ws zs l1 l2 ar => match us, ws, l1, l2, ar with | [_], [], _, _, rfl => rfl
theorem cl_want_told_2 (O : XOk X G T k) : CallOk X G "want_told" 15 2 [] [.p 0, .p 1] [] := O.call 15 (d := d_want_told) rfl 2 [] [.p 0, .p 1] rfl fun kV doc pm an cdv ct us ws zs l1 l2 ar => match us, ws, l1, l2, ar with | [_, _], [], _, _, rfl => rfl
theorem cl_ways_in_three_2 (O : XOk X G T k) : CallOk X G "ways_in_three" 11 2 [] [.p 0, .p 1] [] := O.call 11 (d := d_ways_in_three) rfl 2 [] [.p 0, .p 1] rfl fun kV doc pm an cdv ct us ws zs l1 l2 ar => match us, ws, l1, l2, ar with | [_, _], [], _, _, rfl => rfl
theorem cl_weight_in_three_0_left_counts (O : XOk X G T k) : CallOk X G "weight_in_three" 18 0 ["left", "counts"] [.k 1, .k 0] [] := O.call 18 (d := d_weight_in_three) rfl 0 ["left", "counts"] [.k 1, .k 0] rfl fun kV doc pm an cdv ct us ws zs l1 l2 ar => match us, ws, l1, l2, ar with | [], [_, _], _, _, rfl => rfl
theorem cl_weight_in_three_2 (O : XOk X G T k) : CallOk X G "weight_in_three" 18 2 [] [.p 0, .p 1] [] := O.call 18 (d := d_weight_in_three) rfl 2 [] [.p 0, .p 1] rfl fun kV doc pm an cdv ct us ws zs l1 l2 ar => match us, ws, l1, l2, ar with | [_, _], [], _, _, rfl => rfl
theorem cl_weight_of_2 (O : XOk X G T k) : CallOk X G "weight_of" 12 2 [] [.p 0, .p 1] [] := O.call 12 (d := d_weight_of) rfl 2 [] [.p 0, .p 1] rfl fun kV doc pm an cdv ct us ws zs l1 l2 ar => match us, ws, l1, l2, ar with | [_, _], [], _, _, rfl => rfl
end
theorem ok_is_integer : BodyOk T d_is_integer := by
  refine ⟨⟨rfl, rfl, rfl, by decide +kernel, rfl, by decide +kernel, by decide +kernel⟩, fun X G g0 H0 k O0 S0 => ?_⟩
  have v0_0 := S0.var 0 ("value" : Str) (by decide +kernel)
  have b0_isinstance := O0.blt S0 ("isinstance" : Str) _ PyProof.Rows.boot_isinstance (by decide +kernel)
  have b0_int := O0.blt S0 ("int" : Str) (.type "int") PyProof.Rows.boot_int (by decide +kernel)
  have b0_bool := O0.blt S0 ("bool" : Str) (.type "bool") PyProof.Rows.boot_bool (by decide +kernel)
  exact ss_one (s_ret (s_andV (isi_ b0_isinstance (v_ v0_0) (BltOk.ty (t := .int) b0_int) rfl) (s_oneV (s_notV (isi_ b0_isinstance (v_ v0_0) (BltOk.ty (t := .bl) b0_bool) rfl)))))
theorem ok_is_count : BodyOk T d_is_count := by
  refine ⟨⟨rfl, rfl, rfl, by decide +kernel, rfl, by decide +kernel, by decide +kernel⟩, fun X G g0 H0 k O0 S0 => ?_⟩
  have v0_0 := S0.var 0 ("value" : Str) (by decide +kernel)
  have g0_is_integer := S0.glo ("is_integer" : Str) (by decide +kernel)
  exact ss_one (s_ret (s_andV (call_ O0 g0_is_integer (cl_is_integer_1 O0) (s_paCons (v_ v0_0) (s_paNil) rfl) (s_pkNil) rfl rfl (fun z => nomatch z)) (s_oneV (s_cmp o_ge (v_ v0_0) (s_int) rfl))))
theorem ok_is_below : BodyOk T d_is_below := by
  refine ⟨⟨rfl, rfl, rfl, by decide +kernel, rfl, by decide +kernel, by decide +kernel⟩, fun X G g0 H0 k O0 S0 => ?_⟩
  have v0_0 := S0.var 0 ("value" : Str) (by decide +kernel)
  have g0_is_count := S0.glo ("is_count" : Str) (by decide +kernel)
  have v0_1 := S0.var 1 ("many" : Str) (by decide +kernel)
  exact ss_one (s_ret (s_andV (call_ O0 g0_is_count (cl_is_count_1 O0) (s_paCons (v_ v0_0) (s_paNil) rfl) (s_pkNil) rfl rfl (fun z => nomatch z)) (s_oneV (s_cmp o_lt (v_ v0_0) (v_ v0_1) rfl))))
theorem ok_is_row : BodyOk T d_is_row := by
  refine ⟨⟨rfl, rfl, rfl, by decide +kernel, rfl, by decide +kernel, by decide +kernel⟩, fun X G g0 H0 k O0 S0 => ?_⟩
  have v0_0 := S0.var 0 ("value" : Str) (by decide +kernel)
  have b0_isinstance := O0.blt S0 ("isinstance" : Str) _ PyProof.Rows.boot_isinstance (by decide +kernel)
  have b0_tuple := O0.blt S0 ("tuple" : Str) (.type "tuple") PyProof.Rows.boot_tuple (by decide +kernel)
  have b0_len := O0.blt S0 ("len" : Str) _ PySem.boot_len (by decide +kernel)
  have v0_1 := S0.var 1 ("many" : Str) (by decide +kernel)
  exact ss_one (s_ret (s_andV (isi_ b0_isinstance (v_ v0_0) (BltOk.ty (t := .tup) b0_tuple) rfl) (s_oneV (s_cmp (o_eq O0.un) (bl_ b0_len c_len (s_paCons (v_ v0_0) (s_paNil) rfl) rfl) (v_ v0_1) rfl))))
theorem ok_are_counts_of : BodyOk T d_are_counts_of := by
  refine ⟨⟨rfl, rfl, rfl, by decide +kernel, rfl, by decide +kernel, by decide +kernel⟩, fun X G g0 H0 k O0 S0 => ?_⟩
  have v0_0 := S0.var 0 ("value" : Str) (by decide +kernel)
  have b0_isinstance := O0.blt S0 ("isinstance" : Str) _ PyProof.Rows.boot_isinstance (by decide +kernel)
  have b0_tuple := O0.blt S0 ("tuple" : Str) (.type "tuple") PyProof.Rows.boot_tuple (by decide +kernel)
  have b0_len := O0.blt S0 ("len" : Str) _ PySem.boot_len (by decide +kernel)
  have g0_MOST_LIES := S0.glo ("MOST_LIES" : Str) (by decide +kernel)
  have b0_all := O0.blt S0 ("all" : Str) _ PyProof.Rows.boot_all (by decide +kernel)
  have b0_sum := O0.blt S0 ("sum" : Str) _ PyProof.Rows.boot_sum (by decide +kernel)
  have g0_MOST_TOGETHER := S0.glo ("MOST_TOGETHER" : Str) (by decide +kernel)
  exact ss_cons (s_ifS ((s_or (s_notT (s_truth (isi_ b0_isinstance (v_ v0_0) (BltOk.ty (t := .tup) b0_tuple) rfl) (fun _ => rfl))) (s_or1 (s_notT (chainT_ o_le o_le (s_int) (bl_ b0_len c_len (s_paCons (v_ v0_0) (s_paNil) rfl) rfl) (s_bin o_add (O0.val g0_MOST_LIES (.head _)) (s_int)) rfl)))).pt) (ss_one (s_ret (s_bl))) (ss_nil)) (ss_one (s_ret (s_andV (bl_ b0_all (c_all O0.calm) (s_paCons (PE.val (comp_ O0 S0 [(("number" : Str), 1)] (s_items (v_ v0_0)) ⟨rfl, by decide +kernel, by decide +kernel, by decide +kernel, by decide +kernel⟩ (by decide) (fun X1 O1 S1 => by have t1_1 := S1.tgt 1 ("number" : Str) (by decide +kernel); exact g_ t1_1) (fun X1 O1 S1 => by exact pts0_) (fun X1 O1 S1 => by have v1_1 := S1.var 1 ("number" : Str) (by decide +kernel); have g1_is_count := S1.glo ("is_count" : Str) (by decide +kernel); exact call_ O1 g1_is_count (cl_is_count_1 O1) (s_paCons (v_ v1_1) (s_paNil) rfl) (s_pkNil) rfl rfl (fun z => nomatch z)) (fun _ => rfl))) (s_paNil) rfl) rfl) (s_oneV (s_cmp o_le (bl_ b0_sum (c_sum O0.calm) (s_paCons (v_ v0_0) (s_paNil) rfl) rfl) (O0.val g0_MOST_TOGETHER (.tail _ (.head _))) rfl)))))
theorem ok_lies_of : BodyOk T d_lies_of := by
  refine ⟨⟨rfl, rfl, rfl, by decide +kernel, rfl, by decide +kernel, by decide +kernel⟩, fun X G g0 H0 k O0 S0 => ?_⟩
  have v0_0 := S0.var 0 ("counts" : Str) (by decide +kernel)
  have b0_len := O0.blt S0 ("len" : Str) _ PySem.boot_len (by decide +kernel)
  exact ss_one (s_ret (s_bin o_sub (bl_ b0_len c_len (s_paCons (v_ v0_0) (s_paNil) rfl) rfl) (s_int)))
theorem ok_is_settled_of : BodyOk T d_is_settled_of := by
  refine ⟨⟨rfl, rfl, rfl, by decide +kernel, rfl, by decide +kernel, by decide +kernel⟩, fun X G g0 H0 k O0 S0 => ?_⟩
  have v0_0 := S0.var 0 ("counts" : Str) (by decide +kernel)
  have b0_sum := O0.blt S0 ("sum" : Str) _ PyProof.Rows.boot_sum (by decide +kernel)
  exact ss_one (s_ret (s_cmp o_le (bl_ b0_sum (c_sum O0.calm) (s_paCons (v_ v0_0) (s_paNil) rfl) rfl) (s_int) rfl))
theorem ok_want_counts : BodyOk T d_want_counts := by
  refine ⟨⟨rfl, rfl, rfl, by decide +kernel, rfl, by decide +kernel, by decide +kernel⟩, fun X G g0 H0 k O0 S0 => ?_⟩
  have v0_0 := S0.var 0 ("value" : Str) (by decide +kernel)
  have g0_are_counts_of := S0.glo ("are_counts_of" : Str) (by decide +kernel)
  exact ss_cons (s_ifS (s_notT (s_truth (call_ O0 g0_are_counts_of (cl_are_counts_of_1 O0) (s_paCons (v_ v0_0) (s_paNil) rfl) (s_pkNil) rfl rfl (fun z => nomatch z)) (fun _ => rfl))) (ss_one (badS_)) (ss_nil)) (ss_one (s_ret (v_ v0_0)))
theorem ok_is_share : BodyOk T d_is_share := by
  refine ⟨⟨rfl, rfl, rfl, by decide +kernel, rfl, by decide +kernel, by decide +kernel⟩, fun X G g0 H0 k O0 S0 => ?_⟩
  have g0_WAYS := S0.glo ("WAYS" : Str) (by decide +kernel)
  have v0_1 := S0.var 1 ("value" : Str) (by decide +kernel)
  have g0_is_row := S0.glo ("is_row" : Str) (by decide +kernel)
  have b0_all := O0.blt S0 ("all" : Str) _ PyProof.Rows.boot_all (by decide +kernel)
  have b0_sum := O0.blt S0 ("sum" : Str) _ PyProof.Rows.boot_sum (by decide +kernel)
  have v0_0 := S0.var 0 ("number" : Str) (by decide +kernel)
  exact ss_one (s_ret (s_andV (call_ O0 g0_is_row (cl_is_row_2 O0) (s_paCons (v_ v0_1) (s_paCons (O0.val g0_WAYS (.tail _ (.tail _ (.head _)))) (s_paNil) rfl) rfl) (s_pkNil) rfl rfl (fun z => nomatch z)) (s_andV (bl_ b0_all (c_all O0.calm) (s_paCons (PE.val (comp_ O0 S0 [(("one" : Str), 2)] (s_items (v_ v0_1)) ⟨rfl, by decide +kernel, by decide +kernel, by decide +kernel, by decide +kernel⟩ (by decide) (fun X1 O1 S1 => by have t1_2 := S1.tgt 2 ("one" : Str) (by decide +kernel); exact g_ t1_2) (fun X1 O1 S1 => by exact pts0_) (fun X1 O1 S1 => by have v1_2 := S1.var 2 ("one" : Str) (by decide +kernel); have g1_is_count := S1.glo ("is_count" : Str) (by decide +kernel); exact call_ O1 g1_is_count (cl_is_count_1 O1) (s_paCons (v_ v1_2) (s_paNil) rfl) (s_pkNil) rfl rfl (fun z => nomatch z)) (fun _ => rfl))) (s_paNil) rfl) rfl) (s_oneV (s_cmp (o_eq O0.un) (bl_ b0_sum (c_sum O0.calm) (s_paCons (v_ v0_1) (s_paNil) rfl) rfl) (v_ v0_0) rfl)))))
theorem ok_is_parting_of : BodyOk T d_is_parting_of := by
  refine ⟨⟨rfl, rfl, rfl, by decide +kernel, rfl, by decide +kernel, by decide +kernel⟩, fun X G g0 H0 k O0 S0 => ?_⟩
  have v0_0 := S0.var 0 ("counts" : Str) (by decide +kernel)
  have b0_len := O0.blt S0 ("len" : Str) _ PySem.boot_len (by decide +kernel)
  have v0_1 := S0.var 1 ("value" : Str) (by decide +kernel)
  have g0_is_row := S0.glo ("is_row" : Str) (by decide +kernel)
  have b0_zip := O0.blt S0 ("zip" : Str) _ PyProof.Rows.boot_zip (by decide +kernel)
  have b0_all := O0.blt S0 ("all" : Str) _ PyProof.Rows.boot_all (by decide +kernel)
  exact ss_one (s_ret (s_andV (call_ O0 g0_is_row (cl_is_row_2 O0) (s_paCons (v_ v0_1) (s_paCons (bl_ b0_len c_len (s_paCons (v_ v0_0) (s_paNil) rfl) rfl) (s_paNil) rfl) rfl) (s_pkNil) rfl rfl (fun z => nomatch z)) (s_oneV (bl_ b0_all (c_all O0.calm) (s_paCons (PE.val (comp_ O0 S0 [(("number" : Str), 2), (("one" : Str), 3)] (zipX_ b0_zip (s_paCons (v_ v0_0) (s_paCons (v_ v0_1) (s_paNil) rfl) rfl) rfl rfl) ⟨rfl, by decide +kernel, by decide +kernel, by decide +kernel, by decide +kernel⟩ (by decide) (fun X1 O1 S1 => by have t1_2 := S1.tgt 2 ("number" : Str) (by decide +kernel); have t1_3 := S1.tgt 3 ("one" : Str) (by decide +kernel); exact s_gTup O1.calm (s_gsCons (g_ t1_2) (s_gsCons (g_ t1_3) (s_gsNil) rfl) rfl) rfl rfl) (fun X1 O1 S1 => by exact pts0_) (fun X1 O1 S1 => by have v1_3 := S1.var 3 ("one" : Str) (by decide +kernel); have v1_2 := S1.var 2 ("number" : Str) (by decide +kernel); have g1_is_share := S1.glo ("is_share" : Str) (by decide +kernel); exact call_ O1 g1_is_share (cl_is_share_2 O1) (s_paCons (v_ v1_2) (s_paCons (v_ v1_3) (s_paNil) rfl) rfl) (s_pkNil) rfl rfl (fun z => nomatch z)) (fun _ => rfl))) (s_paNil) rfl) rfl))))
theorem ok_behind_of : BodyOk T d_behind_of := by
  refine ⟨⟨rfl, rfl, rfl, by decide +kernel, rfl, by decide +kernel, by decide +kernel⟩, fun X G g0 H0 k O0 S0 => ?_⟩
  have t0_3 := S0.tgt 3 ("there" : Str) (by decide +kernel)
  have v0_1 := S0.var 1 ("parting" : Str) (by decide +kernel)
  have l0_3 := S0.tgn 3 ("there" : Str) (by decide +kernel)
  have t0_4 := S0.tgt 4 ("others" : Str) (by decide +kernel)
  have v0_3 := S0.var 3 ("there" : Str) (by decide +kernel)
  have v0_0 := S0.var 0 ("counts" : Str) (by decide +kernel)
  have b0_zip := O0.blt S0 ("zip" : Str) _ PyProof.Rows.boot_zip (by decide +kernel)
  have v0_4 := S0.var 4 ("others" : Str) (by decide +kernel)
  have b0_tuple := O0.blt S0 ("tuple" : Str) (.type "tuple") PyProof.Rows.boot_tuple (by decide +kernel)
  exact ss_cons (frzA_ (setComp_ O0 S0 l0_3 [(("share" : Str), 5)] rfl rfl rfl (s_items (v_ v0_1)) ⟨rfl, by decide +kernel, by decide +kernel, by decide +kernel, by decide +kernel⟩ (by decide) (fun X1 O1 S1 => by have t1_5 := S1.tgt 5 ("share" : Str) (by decide +kernel); exact g_ t1_5) (fun X1 O1 S1 => by exact pts0_) (fun X1 O1 S1 => by have v1_5 := S1.var 5 ("share" : Str) (by decide +kernel); have v1_2 := S1.var 2 ("part" : Str) (by decide +kernel); exact s_ix (v_ v1_5) (v_ v1_2) rfl) (fun _ => rfl))) (ss_cons (set_ t0_4 (s_bin o_add (s_lst (s_paCons (s_int) (s_paNil) rfl)) (PE.val (comp_ O0 S0 [(("number" : Str), 6), (("one" : Str), 7)] (zipX_ b0_zip (s_paCons (v_ v0_0) (s_paCons (v_ v0_3) (s_paNil) rfl) rfl) rfl rfl) ⟨rfl, by decide +kernel, by decide +kernel, by decide +kernel, by decide +kernel⟩ (by decide) (fun X1 O1 S1 => by have t1_6 := S1.tgt 6 ("number" : Str) (by decide +kernel); have t1_7 := S1.tgt 7 ("one" : Str) (by decide +kernel); exact s_gTup O1.calm (s_gsCons (g_ t1_6) (s_gsCons (g_ t1_7) (s_gsNil) rfl) rfl) rfl rfl) (fun X1 O1 S1 => by exact pts0_) (fun X1 O1 S1 => by have v1_6 := S1.var 6 ("number" : Str) (by decide +kernel); have v1_7 := S1.var 7 ("one" : Str) (by decide +kernel); exact s_bin o_sub (v_ v1_6) (v_ v1_7)) (fun _ => rfl)))) rfl) (ss_one (s_ret (ty_ b0_tuple c_tuple (s_paCons (PE.val (comp_ O0 S0 [(("one" : Str), 7), (("other" : Str), 8)] (zipX_ b0_zip (s_paCons (v_ v0_3) (s_paCons (v_ v0_4) (s_paNil) rfl) rfl) rfl rfl) ⟨rfl, by decide +kernel, by decide +kernel, by decide +kernel, by decide +kernel⟩ (by decide) (fun X1 O1 S1 => by have t1_7 := S1.tgt 7 ("one" : Str) (by decide +kernel); have t1_8 := S1.tgt 8 ("other" : Str) (by decide +kernel); exact s_gTup O1.calm (s_gsCons (g_ t1_7) (s_gsCons (g_ t1_8) (s_gsNil) rfl) rfl) rfl rfl) (fun X1 O1 S1 => by exact pts0_) (fun X1 O1 S1 => by have v1_7 := S1.var 7 ("one" : Str) (by decide +kernel); have v1_8 := S1.var 8 ("other" : Str) (by decide +kernel); exact s_bin o_add (v_ v1_7) (v_ v1_8)) (fun _ => rfl))) (s_paNil) rfl) rfl))))
theorem ok_ways_in_three : BodyOk T d_ways_in_three := by
  refine ⟨⟨rfl, rfl, rfl, by decide +kernel, rfl, by decide +kernel, by decide +kernel⟩, fun X G g0 H0 k O0 S0 => ?_⟩
  have t0_2 := S0.tgt 2 ("found" : Str) (by decide +kernel)
  have t0_3 := S0.tgt 3 ("term" : Str) (by decide +kernel)
  have v0_1 := S0.var 1 ("most" : Str) (by decide +kernel)
  have v0_0 := S0.var 0 ("left" : Str) (by decide +kernel)
  have b0_min := O0.blt S0 ("min" : Str) _ PyProof.Rows.boot_min (by decide +kernel)
  have b0_range := O0.blt S0 ("range" : Str) _ PyProof.Rows.boot_range (by decide +kernel)
  have t0_4 := S0.tgt 4 ("at" : Str) (by decide +kernel)
  have v0_3 := S0.var 3 ("term" : Str) (by decide +kernel)
  have v0_4 := S0.var 4 ("at" : Str) (by decide +kernel)
  have v0_2 := S0.var 2 ("found" : Str) (by decide +kernel)
  exact ss_cons (s_asg (s_tup (s_paCons (s_int) (s_paCons (s_int) (s_paNil) rfl) rfl)) (s_pgTup O0.calm (s_pgsCons (pgn_ t0_2) (s_pgsCons (pgn_ t0_3) (s_pgsNil) rfl) rfl) rfl) rfl (sw_fold rfl) rfl) (ss_cons (for_ O0 (range1_ b0_range (s_paCons (s_bin o_add (bl_ b0_min (c_minL O0.calm) (s_paCons (v_ v0_0) (s_paCons (v_ v0_1) (s_paNil) rfl) rfl) rfl) (s_int)) (s_paNil) rfl) rfl) (g_ t0_4) (ss_cons (aug_ t0_2 o_iadd (v_ v0_3)) (ss_one (set_ t0_3 (s_bin o_fdiv (s_bin o_mul (s_bin o_mul (v_ v0_3) (s_bin o_sub (v_ v0_0) (v_ v0_4))) (s_int)) (s_bin o_add (v_ v0_4) (s_int))) rfl))) (fun _ => rfl)) (ss_one (s_ret (v_ v0_2))))
theorem ok_weight_of : BodyOk T d_weight_of := by
  refine ⟨⟨rfl, rfl, rfl, by decide +kernel, rfl, by decide +kernel, by decide +kernel⟩, fun X G g0 H0 k O0 S0 => ?_⟩
  have t0_2 := S0.tgt 2 ("lies" : Str) (by decide +kernel)
  have v0_0 := S0.var 0 ("counts" : Str) (by decide +kernel)
  have g0_lies_of := S0.glo ("lies_of" : Str) (by decide +kernel)
  have b0_enumerate := O0.blt S0 ("enumerate" : Str) _ PyProof.Rows.boot_enumerate (by decide +kernel)
  have b0_sum := O0.blt S0 ("sum" : Str) _ PyProof.Rows.boot_sum (by decide +kernel)
  exact ss_cons (set_ t0_2 (call_ O0 g0_lies_of (cl_lies_of_1 O0) (s_paCons (v_ v0_0) (s_paNil) rfl) (s_pkNil) rfl rfl (fun z => nomatch z)) rfl) (ss_one (s_ret (bl_ b0_sum (c_sum O0.calm) (s_paCons (PE.val (comp_ O0 S0 [(("at" : Str), 3), (("number" : Str), 4)] (enumA_ b0_enumerate (s_paCons (v_ v0_0) (s_paNil) rfl) rfl) ⟨rfl, by decide +kernel, by decide +kernel, by decide +kernel, by decide +kernel⟩ (by decide) (fun X1 O1 S1 => by have t1_3 := S1.tgt 3 ("at" : Str) (by decide +kernel); have t1_4 := S1.tgt 4 ("number" : Str) (by decide +kernel); exact s_gTup O1.calm (s_gsCons (g_ t1_3) (s_gsCons (g_ t1_4) (s_gsNil) rfl) rfl) rfl rfl) (fun X1 O1 S1 => by exact pts0_) (fun X1 O1 S1 => by have v1_4 := S1.var 4 ("number" : Str) (by decide +kernel); have v1_2 := S1.var 2 ("lies" : Str) (by decide +kernel); have v1_3 := S1.var 3 ("at" : Str) (by decide +kernel); have v1_1 := S1.var 1 ("left" : Str) (by decide +kernel); have g1_ways_in_three := S1.glo ("ways_in_three" : Str) (by decide +kernel); exact s_bin o_mul (v_ v1_4) (call_ O1 g1_ways_in_three (cl_ways_in_three_2 O1) (s_paCons (v_ v1_1) (s_paCons (s_bin o_sub (v_ v1_2) (v_ v1_3)) (s_paNil) rfl) rfl) (s_pkNil) rfl rfl (fun z => nomatch z))) (fun _ => rfl))) (s_paNil) rfl) rfl)))
theorem ok_power_of_three : BodyOk T d_power_of_three := by
  refine ⟨⟨rfl, rfl, rfl, by decide +kernel, rfl, by decide +kernel, by decide +kernel⟩, fun X G g0 H0 k O0 S0 => ?_⟩
  have t0_1 := S0.tgt 1 ("found" : Str) (by decide +kernel)
  have v0_0 := S0.var 0 ("left" : Str) (by decide +kernel)
  have b0_range := O0.blt S0 ("range" : Str) _ PyProof.Rows.boot_range (by decide +kernel)
  have t0_2 := S0.tgt 2 ("turn" : Str) (by decide +kernel)
  have v0_1 := S0.var 1 ("found" : Str) (by decide +kernel)
  have g0_WAYS := S0.glo ("WAYS" : Str) (by decide +kernel)
  exact ss_cons (set_ t0_1 (s_int) rfl) (ss_cons (for_ O0 (range1_ b0_range (s_paCons (v_ v0_0) (s_paNil) rfl) rfl) (g_ t0_2) (ss_one (set_ t0_1 (s_bin o_mul (v_ v0_1) (O0.val g0_WAYS (.tail _ (.tail _ (.head _))))) rfl)) (fun _ => rfl)) (ss_one (s_ret (v_ v0_1))))
theorem ok_is_heavy_of : BodyOk T d_is_heavy_of := by
  refine ⟨⟨rfl, rfl, rfl, by decide +kernel, rfl, by decide +kernel, by decide +kernel⟩, fun X G g0 H0 k O0 S0 => ?_⟩
  have v0_0 := S0.var 0 ("counts" : Str) (by decide +kernel)
  have g0_is_settled_of := S0.glo ("is_settled_of" : Str) (by decide +kernel)
  have v0_1 := S0.var 1 ("left" : Str) (by decide +kernel)
  have g0_weight_of := S0.glo ("weight_of" : Str) (by decide +kernel)
  have g0_power_of_three := S0.glo ("power_of_three" : Str) (by decide +kernel)
  exact ss_one (s_ret (s_andV (s_notV (call_ O0 g0_is_settled_of (cl_is_settled_of_1 O0) (s_paCons (v_ v0_0) (s_paNil) rfl) (s_pkNil) rfl rfl (fun z => nomatch z))) (s_oneV (s_cmp o_gt (call_ O0 g0_weight_of (cl_weight_of_2 O0) (s_paCons (v_ v0_0) (s_paCons (v_ v0_1) (s_paNil) rfl) rfl) (s_pkNil) rfl rfl (fun z => nomatch z)) (call_ O0 g0_power_of_three (cl_power_of_three_1 O0) (s_paCons (v_ v0_1) (s_paNil) rfl) (s_pkNil) rfl rfl (fun z => nomatch z)) rfl))))
theorem ok_want_told : BodyOk T d_want_told := by
  refine ⟨⟨rfl, rfl, rfl, by decide +kernel, rfl, by decide +kernel, by decide +kernel⟩, fun X G g0 H0 k O0 S0 => ?_⟩
  have v0_0 := S0.var 0 ("counts" : Str) (by decide +kernel)
  have g0_want_counts := S0.glo ("want_counts" : Str) (by decide +kernel)
  have g0_MOST_LEFT := S0.glo ("MOST_LEFT" : Str) (by decide +kernel)
  have v0_1 := S0.var 1 ("left" : Str) (by decide +kernel)
  have g0_is_below := S0.glo ("is_below" : Str) (by decide +kernel)
  exact ss_cons (s_expr (call_ O0 g0_want_counts (cl_want_counts_1 O0) (s_paCons (v_ v0_0) (s_paNil) rfl) (s_pkNil) rfl rfl (fun z => nomatch z)) rfl) (ss_one (s_ifS (s_notT (s_truth (call_ O0 g0_is_below (cl_is_below_2 O0) (s_paCons (v_ v0_1) (s_paCons (s_bin o_add (O0.val g0_MOST_LEFT (.tail _ (.tail _ (.tail _ (.head _))))) (s_int)) (s_paNil) rfl) rfl) (s_pkNil) rfl rfl (fun z => nomatch z)) (fun _ => rfl))) (ss_one (badS_)) (ss_nil)))
theorem ok_is_parting : BodyOk T d_is_parting := by
  refine ⟨⟨rfl, rfl, rfl, by decide +kernel, rfl, by decide +kernel, by decide +kernel⟩, fun X G g0 H0 k O0 S0 => ?_⟩
  have v0_1 := S0.var 1 ("value" : Str) (by decide +kernel)
  have v0_0 := S0.var 0 ("counts" : Str) (by decide +kernel)
  have g0_want_counts := S0.glo ("want_counts" : Str) (by decide +kernel)
  have g0_is_parting_of := S0.glo ("is_parting_of" : Str) (by decide +kernel)
  exact ss_one (s_ret (call_ O0 g0_is_parting_of (cl_is_parting_of_2 O0) (s_paCons (call_ O0 g0_want_counts (cl_want_counts_1 O0) (s_paCons (v_ v0_0) (s_paNil) rfl) (s_pkNil) rfl rfl (fun z => nomatch z)) (s_paCons (v_ v0_1) (s_paNil) rfl) rfl) (s_pkNil) rfl rfl (fun z => nomatch z)))
theorem ok_behind_part : BodyOk T d_behind_part := by
  refine ⟨⟨rfl, rfl, rfl, by decide +kernel, rfl, by decide +kernel, by decide +kernel⟩, fun X G g0 H0 k O0 S0 => ?_⟩
  have v0_1 := S0.var 1 ("parting" : Str) (by decide +kernel)
  have v0_0 := S0.var 0 ("counts" : Str) (by decide +kernel)
  have g0_want_counts := S0.glo ("want_counts" : Str) (by decide +kernel)
  have g0_is_parting_of := S0.glo ("is_parting_of" : Str) (by decide +kernel)
  have g0_WAYS := S0.glo ("WAYS" : Str) (by decide +kernel)
  have v0_2 := S0.var 2 ("part" : Str) (by decide +kernel)
  have g0_is_below := S0.glo ("is_below" : Str) (by decide +kernel)
  have g0_behind_of := S0.glo ("behind_of" : Str) (by decide +kernel)
  exact ss_cons (s_ifS (s_notT (s_truth (call_ O0 g0_is_parting_of (cl_is_parting_of_2 O0) (s_paCons (call_ O0 g0_want_counts (cl_want_counts_1 O0) (s_paCons (v_ v0_0) (s_paNil) rfl) (s_pkNil) rfl rfl (fun z => nomatch z)) (s_paCons (v_ v0_1) (s_paNil) rfl) rfl) (s_pkNil) rfl rfl (fun z => nomatch z)) (fun _ => rfl))) (ss_one (badS_)) (ss_nil)) (ss_cons (s_ifS (s_notT (s_truth (call_ O0 g0_is_below (cl_is_below_2 O0) (s_paCons (v_ v0_2) (s_paCons (O0.val g0_WAYS (.tail _ (.tail _ (.head _)))) (s_paNil) rfl) rfl) (s_pkNil) rfl rfl (fun z => nomatch z)) (fun _ => rfl))) (ss_one (badS_)) (ss_nil)) (ss_one (s_ret (call_ O0 g0_behind_of (cl_behind_of_3 O0) (s_paCons (v_ v0_0) (s_paCons (v_ v0_1) (s_paCons (v_ v0_2) (s_paNil) rfl) rfl) rfl) (s_pkNil) rfl rfl (fun z => nomatch z)))))
theorem ok_weight_in_three : BodyOk T d_weight_in_three := by
  refine ⟨⟨rfl, rfl, rfl, by decide +kernel, rfl, by decide +kernel, by decide +kernel⟩, fun X G g0 H0 k O0 S0 => ?_⟩
  have v0_1 := S0.var 1 ("left" : Str) (by decide +kernel)
  have v0_0 := S0.var 0 ("counts" : Str) (by decide +kernel)
  have g0_want_told := S0.glo ("want_told" : Str) (by decide +kernel)
  have g0_weight_of := S0.glo ("weight_of" : Str) (by decide +kernel)
  exact ss_cons (s_expr (call_ O0 g0_want_told (cl_want_told_2 O0) (s_paCons (v_ v0_0) (s_paCons (v_ v0_1) (s_paNil) rfl) rfl) (s_pkNil) rfl rfl (fun z => nomatch z)) rfl) (ss_one (s_ret (call_ O0 g0_weight_of (cl_weight_of_2 O0) (s_paCons (v_ v0_0) (s_paCons (v_ v0_1) (s_paNil) rfl) rfl) (s_pkNil) rfl rfl (fun z => nomatch z))))
theorem ok_is_heavy_in_three : BodyOk T d_is_heavy_in_three := by
  refine ⟨⟨rfl, rfl, rfl, by decide +kernel, rfl, by decide +kernel, by decide +kernel⟩, fun X G g0 H0 k O0 S0 => ?_⟩
  have v0_1 := S0.var 1 ("left" : Str) (by decide +kernel)
  have v0_0 := S0.var 0 ("counts" : Str) (by decide +kernel)
  have g0_want_told := S0.glo ("want_told" : Str) (by decide +kernel)
  have g0_is_heavy_of := S0.glo ("is_heavy_of" : Str) (by decide +kernel)
  exact ss_cons (s_expr (call_ O0 g0_want_told (cl_want_told_2 O0) (s_paCons (v_ v0_0) (s_paCons (v_ v0_1) (s_paNil) rfl) rfl) (s_pkNil) rfl rfl (fun z => nomatch z)) rfl) (ss_one (s_ret (call_ O0 g0_is_heavy_of (cl_is_heavy_of_2 O0) (s_paCons (v_ v0_0) (s_paCons (v_ v0_1) (s_paNil) rfl) rfl) (s_pkNil) rfl rfl (fun z => nomatch z))))
theorem ok__law_pot : BodyOk T d__law_pot := by
  refine ⟨⟨rfl, rfl, rfl, by decide +kernel, rfl, by decide +kernel, by decide +kernel⟩, fun X G g0 H0 k O0 S0 => ?_⟩
  have t0_2 := S0.tgt 2 ("cell" : Str) (by decide +kernel)
  have v0_1 := S0.var 1 ("k" : Str) (by decide +kernel)
  have v0_0 := S0.var 0 ("script" : Str) (by decide +kernel)
  have b0_len := O0.blt S0 ("len" : Str) _ PySem.boot_len (by decide +kernel)
  have b0_abs := O0.blt S0 ("abs" : Str) _ PyProof.Rows.boot_abs (by decide +kernel)
  have v0_2 := S0.var 2 ("cell" : Str) (by decide +kernel)
  have b0_int := O0.blt S0 ("int" : Str) (.type "int") PyProof.Rows.boot_int (by decide +kernel)
  have b0_max := O0.blt S0 ("max" : Str) _ PyProof.Rows.boot_max (by decide +kernel)
  exact ss_cons (set_ t0_2 (s_if (cmpT_ o_lt (v_ v0_1) (bl_ b0_len c_len (s_paCons (v_ v0_0) (s_paNil) rfl) rfl) rfl) (bl_ b0_abs c_abs (s_paCons (s_ix (v_ v0_0) (v_ v0_1) rfl) (s_paNil) rfl) rfl) (s_bin o_add (s_bin o_mul (s_int) (v_ v0_1)) (s_int))) rfl) (ss_one (s_ret (PE.cell (s_disp (s_paCons (bl_ b0_max (c_maxL O0.calm) (s_paCons (s_int) (s_paCons (s_bin o_sub (v_ v0_2) (s_bin o_pow (s_int) (s_int))) (s_paNil) rfl) rfl) rfl) (s_paCons (s_bin o_add (s_bin o_mod (ty_ b0_int c_int (s_paCons (s_bin o_add (s_bin o_add (s_bin o_mul (s_bin o_mod (ty_ b0_int c_int (s_paCons (v_ v0_2) (s_paNil) rfl) rfl) (s_int)) (s_int)) (s_bin o_mul (s_int) (v_ v0_1))) (s_int)) (s_paNil) rfl) rfl) (s_int)) (s_int)) (s_paNil) rfl) rfl)))))
theorem ok__law_draw : BodyOk T d__law_draw := by
  refine ⟨⟨rfl, rfl, rfl, by decide +kernel, rfl, by decide +kernel, by decide +kernel⟩, fun X G g0 H0 k O0 S0 => ?_⟩
  have v0_0 := S0.var 0 ("pot" : Str) (by decide +kernel)
  have v0_1 := S0.var 1 ("many" : Str) (by decide +kernel)
  have b0_divmod := O0.blt S0 ("divmod" : Str) _ PyProof.Rows.boot_divmod (by decide +kernel)
  have t0_2 := S0.tgt 2 ("digit" : Str) (by decide +kernel)
  have v0_2 := S0.var 2 ("digit" : Str) (by decide +kernel)
  have b0_int := O0.blt S0 ("int" : Str) (.type "int") PyProof.Rows.boot_int (by decide +kernel)
  exact ss_cons (s_ifS (cmpT_ o_gt (s_ix (v_ v0_0) (s_int) rfl) (s_int) rfl) (ss_cons (s_asg (bl_ b0_divmod c_divmod (s_paCons (s_ix (v_ v0_0) (s_int) rfl) (s_paCons (v_ v0_1) (s_paNil) rfl) rfl) rfl) (s_pgTup O0.calm (s_pgsCons (pgi_ v0_0 (s_int) rfl) (s_pgsCons (pgn_ t0_2) (s_pgsNil) rfl) rfl) rfl) rfl rfl rfl) (ss_one (s_ret (v_ v0_2)))) (ss_nil)) (ss_cons (s_asg (s_bin o_mod (ty_ b0_int c_int (s_paCons (s_bin o_add (s_bin o_mul (s_ix (v_ v0_0) (s_int) rfl) (s_int)) (s_int)) (s_paNil) rfl) rfl) (s_int)) (pgi_ v0_0 (s_int) rfl) rfl rfl rfl) (ss_one (s_ret (s_bin o_mod (ty_ b0_int c_int (s_paCons (s_bin o_fdiv (s_bin o_mod (ty_ b0_int c_int (s_paCons (s_bin o_mul (s_ix (v_ v0_0) (s_int) rfl) (s_ix (v_ v0_0) (s_int) rfl)) (s_paNil) rfl) rfl) (s_int)) (s_int)) (s_paNil) rfl) rfl) (v_ v0_1)))))
theorem ok__law_pick : BodyOk T d__law_pick := by
  refine ⟨⟨rfl, rfl, rfl, by decide +kernel, rfl, by decide +kernel, by decide +kernel⟩, fun X G g0 H0 k O0 S0 => ?_⟩
  have v0_1 := S0.var 1 ("some" : Str) (by decide +kernel)
  have b0_len := O0.blt S0 ("len" : Str) _ PySem.boot_len (by decide +kernel)
  have v0_0 := S0.var 0 ("pot" : Str) (by decide +kernel)
  have g0__law_draw := S0.glo ("_law_draw" : Str) (by decide +kernel)
  exact ss_one (s_ret (s_ix (v_ v0_1) (call_ O0 g0__law_draw (cl__law_draw_2 O0) (s_paCons (v_ v0_0) (s_paCons (bl_ b0_len c_len (s_paCons (v_ v0_1) (s_paNil) rfl) rfl) (s_paNil) rfl) rfl) (s_pkNil) rfl rfl (fun z => nomatch z)) rfl))
theorem ok__law_behind : BodyOk T d__law_behind := by
  refine ⟨⟨rfl, rfl, rfl, by decide +kernel, rfl, by decide +kernel, by decide +kernel⟩, fun X G g0 H0 k O0 S0 => ?_⟩
  have l0_3 := S0.tgn 3 ("found" : Str) (by decide +kernel)
  have l0_4 := S0.tgn 4 ("gone" : Str) (by decide +kernel)
  have v0_1 := S0.var 1 ("parting" : Str) (by decide +kernel)
  have v0_0 := S0.var 0 ("counts" : Str) (by decide +kernel)
  have b0_zip := O0.blt S0 ("zip" : Str) _ PyProof.Rows.boot_zip (by decide +kernel)
  have t0_5 := S0.tgt 5 ("number" : Str) (by decide +kernel)
  have t0_6 := S0.tgt 6 ("share" : Str) (by decide +kernel)
  have v0_3 := S0.var 3 ("found" : Str) (by decide +kernel)
  have v0_6 := S0.var 6 ("share" : Str) (by decide +kernel)
  have v0_2 := S0.var 2 ("part" : Str) (by decide +kernel)
  have v0_4 := S0.var 4 ("gone" : Str) (by decide +kernel)
  have t0_4 := S0.tgt 4 ("gone" : Str) (by decide +kernel)
  have v0_5 := S0.var 5 ("number" : Str) (by decide +kernel)
  have b0_tuple := O0.blt S0 ("tuple" : Str) (.type "tuple") PyProof.Rows.boot_tuple (by decide +kernel)
  exact ss_cons (par2s_ O0 S0 rfl l0_3 l0_4 (by decide) (s_mO (s_disp (s_paNil))) (s_mV (s_int)) rfl rfl rfl (by decide +kernel) rfl rfl) (ss_cons (for_ O0 (zipX_ b0_zip (s_paCons (v_ v0_0) (s_paCons (v_ v0_1) (s_paNil) rfl) rfl) rfl rfl) (s_gTup O0.calm (s_gsCons (g_ t0_5) (s_gsCons (g_ t0_6) (s_gsNil) rfl) rfl) rfl rfl) (ss_cons (append_ v0_3 (s_bin o_add (s_ix (v_ v0_6) (v_ v0_2) rfl) (v_ v0_4)) rfl rfl) (ss_one (set_ t0_4 (s_bin o_sub (v_ v0_5) (s_ix (v_ v0_6) (v_ v0_2) rfl)) rfl))) (fun _ => rfl)) (ss_one (s_ret (ty_ b0_tuple c_tuple (s_paCons (v_ v0_3) (s_paNil) rfl) rfl))))
theorem ok__law_all : BodyOk T d__law_all := by
  refine ⟨⟨rfl, rfl, rfl, by decide +kernel, rfl, by decide +kernel, by decide +kernel⟩, fun X G g0 H0 k O0 S0 => ?_⟩
  have b0_range := O0.blt S0 ("range" : Str) _ PyProof.Rows.boot_range (by decide +kernel)
  exact ss_one (s_ret (PE.val (comp_ O0 S0 [(("part" : Str), 2)] (range1_ b0_range (s_paCons (s_int) (s_paNil) rfl) rfl) ⟨rfl, by decide +kernel, by decide +kernel, by decide +kernel, by decide +kernel⟩ (by decide) (fun X1 O1 S1 => by have t1_2 := S1.tgt 2 ("part" : Str) (by decide +kernel); exact g_ t1_2) (fun X1 O1 S1 => by exact pts0_) (fun X1 O1 S1 => by have v1_2 := S1.var 2 ("part" : Str) (by decide +kernel); have v1_1 := S1.var 1 ("parting" : Str) (by decide +kernel); have v1_0 := S1.var 0 ("counts" : Str) (by decide +kernel); have g1__law_behind := S1.glo ("_law_behind" : Str) (by decide +kernel); exact call_ O1 g1__law_behind (cl__law_behind_3 O1) (s_paCons (v_ v1_0) (s_paCons (v_ v1_1) (s_paCons (v_ v1_2) (s_paNil) rfl) rfl) rfl) (s_pkNil) rfl rfl (fun z => nomatch z)) (fun _ => rfl))))
theorem ok__law_counts : BodyOk T d__law_counts := by
  refine ⟨⟨rfl, rfl, rfl, by decide +kernel, rfl, by decide +kernel, by decide +kernel⟩, fun X G g0 H0 k O0 S0 => ?_⟩
  have l0_3 := S0.tgn 3 ("found" : Str) (by decide +kernel)
  have l0_4 := S0.tgn 4 ("left" : Str) (by decide +kernel)
  have v0_1 := S0.var 1 ("most" : Str) (by decide +kernel)
  have v0_0 := S0.var 0 ("pot" : Str) (by decide +kernel)
  have g0__law_draw := S0.glo ("_law_draw" : Str) (by decide +kernel)
  have v0_2 := S0.var 2 ("lies" : Str) (by decide +kernel)
  have b0_range := O0.blt S0 ("range" : Str) _ PyProof.Rows.boot_range (by decide +kernel)
  have t0_5 := S0.tgt 5 ("at" : Str) (by decide +kernel)
  have t0_6 := S0.tgt 6 ("some" : Str) (by decide +kernel)
  have v0_4 := S0.var 4 ("left" : Str) (by decide +kernel)
  have v0_3 := S0.var 3 ("found" : Str) (by decide +kernel)
  have v0_6 := S0.var 6 ("some" : Str) (by decide +kernel)
  have t0_4 := S0.tgt 4 ("left" : Str) (by decide +kernel)
  have b0_tuple := O0.blt S0 ("tuple" : Str) (.type "tuple") PyProof.Rows.boot_tuple (by decide +kernel)
  exact ss_cons (par2s_ O0 S0 rfl l0_3 l0_4 (by decide) (s_mO (s_disp (s_paNil))) (s_mV (call_ O0 g0__law_draw (cl__law_draw_2 O0) (s_paCons (v_ v0_0) (s_paCons (s_bin o_add (v_ v0_1) (s_int)) (s_paNil) rfl) rfl) (s_pkNil) rfl rfl (fun z => nomatch z))) rfl rfl rfl (by decide +kernel) rfl rfl) (ss_cons (for_ O0 (range1_ b0_range (s_paCons (v_ v0_2) (s_paNil) rfl) rfl) (g_ t0_5) (ss_cons (set_ t0_6 (call_ O0 g0__law_draw (cl__law_draw_2 O0) (s_paCons (v_ v0_0) (s_paCons (s_bin o_add (v_ v0_4) (s_int)) (s_paNil) rfl) rfl) (s_pkNil) rfl rfl (fun z => nomatch z)) rfl) (ss_cons (append_ v0_3 (v_ v0_6) rfl rfl) (ss_one (set_ t0_4 (s_bin o_sub (v_ v0_4) (v_ v0_6)) rfl)))) (fun _ => rfl)) (ss_one (s_ret (ty_ b0_tuple c_tuple (s_paCons (s_bin o_add (s_lst (s_paCons (v_ v0_4) (s_paNil) rfl)) (v_ v0_3)) (s_paNil) rfl) rfl))))
theorem ok__law_bent : BodyOk T d__law_bent := by
  refine ⟨⟨rfl, rfl, rfl, by decide +kernel, rfl, by decide +kernel, by decide +kernel⟩, fun X G g0 H0 k O0 S0 => ?_⟩
  have v0_1 := S0.var 1 ("value" : Str) (by decide +kernel)
  have b0_isinstance := O0.blt S0 ("isinstance" : Str) _ PyProof.Rows.boot_isinstance (by decide +kernel)
  have b0_list := O0.blt S0 ("list" : Str) (.type "list") PyProof.Rows.boot_list (by decide +kernel)
  have b0_tuple := O0.blt S0 ("tuple" : Str) (.type "tuple") PyProof.Rows.boot_tuple (by decide +kernel)
  have b0_len := O0.blt S0 ("len" : Str) _ PySem.boot_len (by decide +kernel)
  have v0_0 := S0.var 0 ("pot" : Str) (by decide +kernel)
  have g0__law_draw := S0.glo ("_law_draw" : Str) (by decide +kernel)
  have l0_2 := S0.tgn 2 ("at" : Str) (by decide +kernel)
  have l0_3 := S0.tgn 3 ("way" : Str) (by decide +kernel)
  have v0_3 := S0.var 3 ("way" : Str) (by decide +kernel)
  have v0_2 := S0.var 2 ("at" : Str) (by decide +kernel)
  have t0_4 := S0.tgt 4 ("some" : Str) (by decide +kernel)
  have g0__law_bent := S0.glo ("_law_bent" : Str) (by decide +kernel)
  have v0_4 := S0.var 4 ("some" : Str) (by decide +kernel)
  have b0_int := O0.blt S0 ("int" : Str) (.type "int") PyProof.Rows.boot_int (by decide +kernel)
  have b0_bool := O0.blt S0 ("bool" : Str) (.type "bool") PyProof.Rows.boot_bool (by decide +kernel)
  have g0__law_pick := S0.glo ("_law_pick" : Str) (by decide +kernel)
  exact ss_cons (s_ifS ((s_and (s_truth (isiT_ b0_isinstance (v_ v0_1) (.cons (BltOk.ty (t := .tup) b0_tuple) (.cons (BltOk.ty (t := .lst) b0_list) (.nil))) rfl (by decide)) (fun _ => rfl)) (s_and (cmpT_ o_gt (bl_ b0_len c_len (s_paCons (v_ v0_1) (s_paNil) rfl) rfl) (s_int) rfl) (s_and1 (cmpT_ o_gt (call_ O0 g0__law_draw (cl__law_draw_2 O0) (s_paCons (v_ v0_0) (s_paCons (s_int) (s_paNil) rfl) rfl) (s_pkNil) rfl rfl (fun z => nomatch z)) (s_int) rfl)))).pt) (ss_cons (par2s_ O0 S0 rfl l0_2 l0_3 (by decide) (s_mV (call_ O0 g0__law_draw (cl__law_draw_2 O0) (s_paCons (v_ v0_0) (s_paCons (bl_ b0_len c_len (s_paCons (v_ v0_1) (s_paNil) rfl) rfl) (s_paNil) rfl) rfl) (s_pkNil) rfl rfl (fun z => nomatch z))) (s_mV (call_ O0 g0__law_draw (cl__law_draw_2 O0) (s_paCons (v_ v0_0) (s_paCons (s_int) (s_paNil) rfl) rfl) (s_pkNil) rfl rfl (fun z => nomatch z))) rfl rfl rfl (by decide +kernel) rfl rfl) (ss_cons (s_ifS (cmpT_ (o_eq O0.un) (v_ v0_3) (s_int) rfl) (ss_one (s_ret (s_bin o_add (s_slice (v_ v0_1) (s_noPart) (s_part (v_ v0_2))) (s_slice (v_ v0_1) (s_part (s_bin o_add (v_ v0_2) (s_int))) (s_noPart))))) (ss_nil)) (ss_cons (s_ifS (cmpT_ (o_eq O0.un) (v_ v0_3) (s_int) rfl) (ss_one (s_ret (s_bin o_add (s_slice (v_ v0_1) (s_noPart) (s_part (s_bin o_add (v_ v0_2) (s_int)))) (s_slice (v_ v0_1) (s_part (v_ v0_2)) (s_noPart))))) (ss_nil)) (ss_cons (set_ t0_4 (s_lst (s_paCons (call_ O0 g0__law_bent (cl__law_bent_2 O0) (s_paCons (v_ v0_0) (s_paCons (s_ix (v_ v0_1) (v_ v0_2) rfl) (s_paNil) rfl) rfl) (s_pkNil) rfl rfl (fun z => nomatch z)) (s_paNil) rfl)) rfl) (ss_one (s_ret (s_bin o_add (s_bin o_add (s_slice (v_ v0_1) (s_noPart) (s_part (v_ v0_2))) (s_if (s_truth (isi_ b0_isinstance (v_ v0_1) (BltOk.ty (t := .tup) b0_tuple) rfl) (fun _ => rfl)) (ty_ b0_tuple c_tuple (s_paCons (v_ v0_4) (s_paNil) rfl) rfl) (v_ v0_4))) (s_slice (v_ v0_1) (s_part (s_bin o_add (v_ v0_2) (s_int))) (s_noPart))))))))) (ss_nil)) (ss_cons (s_ifS ((s_and (s_truth (isi_ b0_isinstance (v_ v0_1) (BltOk.ty (t := .int) b0_int) rfl) (fun _ => rfl)) (s_and1 (s_notT (s_truth (isi_ b0_isinstance (v_ v0_1) (BltOk.ty (t := .bl) b0_bool) rfl) (fun _ => rfl))))).pt) (ss_one (s_ret (call_ O0 g0__law_pick (cl__law_pick_2 O0) (s_paCons (v_ v0_0) (s_paCons (s_lst (s_paCons (s_bin o_add (v_ v0_1) (s_int)) (s_paCons (s_bin o_sub (v_ v0_1) (s_int)) (s_paCons (s_bl) (s_paCons (s_non) (s_paCons (s_str) (s_paCons (s_int) (s_paCons (s_int) (s_paNil) rfl) rfl) rfl) rfl) rfl) rfl) rfl)) (s_paNil) rfl) rfl) (s_pkNil) rfl rfl (fun z => nomatch z)))) (ss_nil)) (ss_one (s_ret (call_ O0 g0__law_pick (cl__law_pick_2 O0) (s_paCons (v_ v0_0) (s_paCons (s_lst (s_paCons (s_non) (s_paCons (s_str) (s_paCons (s_str) (s_paCons (s_str) (s_paCons (s_str) (s_paCons (s_str) (s_paCons (s_str) (s_paCons (s_tup (s_paNil)) (s_paCons (s_lst (s_paNil)) (s_paCons (s_int) (s_paCons (s_if (s_truth (isi_ b0_isinstance (v_ v0_1) (BltOk.ty (t := .tup) b0_tuple) rfl) (fun _ => rfl)) (PE.val (listF_ b0_list (s_paCons (v_ v0_1) (s_paNil) rfl) rfl)) (s_tup (s_paNil))) (s_paNil) rfl) rfl) rfl) rfl) rfl) rfl) rfl) rfl) rfl) rfl) rfl)) (s_paNil) rfl) rfl) (s_pkNil) rfl rfl (fun z => nomatch z)))))
theorem ok__law_is_count : BodyOk T d__law_is_count := by
  refine ⟨⟨rfl, rfl, rfl, by decide +kernel, rfl, by decide +kernel, by decide +kernel⟩, fun X G g0 H0 k O0 S0 => ?_⟩
  have v0_0 := S0.var 0 ("value" : Str) (by decide +kernel)
  have b0_isinstance := O0.blt S0 ("isinstance" : Str) _ PyProof.Rows.boot_isinstance (by decide +kernel)
  have b0_int := O0.blt S0 ("int" : Str) (.type "int") PyProof.Rows.boot_int (by decide +kernel)
  have b0_bool := O0.blt S0 ("bool" : Str) (.type "bool") PyProof.Rows.boot_bool (by decide +kernel)
  have v0_1 := S0.var 1 ("most" : Str) (by decide +kernel)
  exact ss_one (s_ret (s_andV (isi_ b0_isinstance (v_ v0_0) (BltOk.ty (t := .int) b0_int) rfl) (s_andV (s_notV (isi_ b0_isinstance (v_ v0_0) (BltOk.ty (t := .bl) b0_bool) rfl)) (s_oneV (s_chain o_le o_le (s_int) (v_ v0_0) (v_ v0_1) rfl)))))
theorem ok__law_is_parting : BodyOk T d__law_is_parting := by
  refine ⟨⟨rfl, rfl, rfl, by decide +kernel, rfl, by decide +kernel, by decide +kernel⟩, fun X G g0 H0 k O0 S0 => ?_⟩
  have v0_1 := S0.var 1 ("value" : Str) (by decide +kernel)
  have b0_isinstance := O0.blt S0 ("isinstance" : Str) _ PyProof.Rows.boot_isinstance (by decide +kernel)
  have b0_tuple := O0.blt S0 ("tuple" : Str) (.type "tuple") PyProof.Rows.boot_tuple (by decide +kernel)
  have b0_len := O0.blt S0 ("len" : Str) _ PySem.boot_len (by decide +kernel)
  have v0_0 := S0.var 0 ("counts" : Str) (by decide +kernel)
  have b0_zip := O0.blt S0 ("zip" : Str) _ PyProof.Rows.boot_zip (by decide +kernel)
  have b0_all := O0.blt S0 ("all" : Str) _ PyProof.Rows.boot_all (by decide +kernel)
  exact ss_cons (s_ifS ((s_or (s_notT (s_truth (isi_ b0_isinstance (v_ v0_1) (BltOk.ty (t := .tup) b0_tuple) rfl) (fun _ => rfl))) (s_or1 (cmpT_ (o_ne O0.un) (bl_ b0_len c_len (s_paCons (v_ v0_1) (s_paNil) rfl) rfl) (bl_ b0_len c_len (s_paCons (v_ v0_0) (s_paNil) rfl) rfl) rfl))).pt) (ss_one (s_ret (s_bl))) (ss_nil)) (ss_one (s_ret (bl_ b0_all (c_all O0.calm) (s_paCons (PE.val (comp_ O0 S0 [(("number" : Str), 2), (("share" : Str), 3)] (zipX_ b0_zip (s_paCons (v_ v0_0) (s_paCons (v_ v0_1) (s_paNil) rfl) rfl) rfl rfl) ⟨rfl, by decide +kernel, by decide +kernel, by decide +kernel, by decide +kernel⟩ (by decide) (fun X1 O1 S1 => by have t1_2 := S1.tgt 2 ("number" : Str) (by decide +kernel); have t1_3 := S1.tgt 3 ("share" : Str) (by decide +kernel); exact s_gTup O1.calm (s_gsCons (g_ t1_2) (s_gsCons (g_ t1_3) (s_gsNil) rfl) rfl) rfl rfl) (fun X1 O1 S1 => by exact pts0_) (fun X1 O1 S1 => by have v1_3 := S1.var 3 ("share" : Str) (by decide +kernel); have b1_isinstance := O1.blt S1 ("isinstance" : Str) _ PyProof.Rows.boot_isinstance (by decide +kernel); have b1_tuple := O1.blt S1 ("tuple" : Str) (.type "tuple") PyProof.Rows.boot_tuple (by decide +kernel); have b1_len := O1.blt S1 ("len" : Str) _ PySem.boot_len (by decide +kernel); have b1_all := O1.blt S1 ("all" : Str) _ PyProof.Rows.boot_all (by decide +kernel); have b1_sum := O1.blt S1 ("sum" : Str) _ PyProof.Rows.boot_sum (by decide +kernel); have v1_2 := S1.var 2 ("number" : Str) (by decide +kernel); exact s_andV (isi_ b1_isinstance (v_ v1_3) (BltOk.ty (t := .tup) b1_tuple) rfl) (s_andV (s_cmp (o_eq O1.un) (bl_ b1_len c_len (s_paCons (v_ v1_3) (s_paNil) rfl) rfl) (s_int) rfl) (s_andV (bl_ b1_all (c_all O1.calm) (s_paCons (PE.val (comp_ O1 S1 [(("one" : Str), 4)] (s_items (v_ v1_3)) ⟨rfl, by decide +kernel, by decide +kernel, by decide +kernel, by decide +kernel⟩ (by decide) (fun X2 O2 S2 => by have t2_4 := S2.tgt 4 ("one" : Str) (by decide +kernel); exact g_ t2_4) (fun X2 O2 S2 => by exact pts0_) (fun X2 O2 S2 => by have v2_2 := S2.var 2 ("number" : Str) (by decide +kernel); have v2_4 := S2.var 4 ("one" : Str) (by decide +kernel); have g2__law_is_count := S2.glo ("_law_is_count" : Str) (by decide +kernel); exact call_ O2 g2__law_is_count (cl__law_is_count_2 O2) (s_paCons (v_ v2_4) (s_paCons (v_ v2_2) (s_paNil) rfl) rfl) (s_pkNil) rfl rfl (fun z => nomatch z)) (fun _ => rfl))) (s_paNil) rfl) rfl) (s_oneV (s_cmp (o_eq O1.un) (bl_ b1_sum (c_sum O1.calm) (s_paCons (v_ v1_3) (s_paNil) rfl) rfl) (v_ v1_2) rfl))))) (fun _ => rfl))) (s_paNil) rfl) rfl)))
theorem ok__law_weight : BodyOk T d__law_weight := by
  refine ⟨⟨rfl, rfl, rfl, by decide +kernel, rfl, by decide +kernel, by decide +kernel⟩, fun X G g0 H0 k O0 S0 => ?_⟩
  have t0_2 := S0.tgt 2 ("found" : Str) (by decide +kernel)
  have v0_0 := S0.var 0 ("counts" : Str) (by decide +kernel)
  have b0_enumerate := O0.blt S0 ("enumerate" : Str) _ PyProof.Rows.boot_enumerate (by decide +kernel)
  have t0_3 := S0.tgt 3 ("at" : Str) (by decide +kernel)
  have t0_4 := S0.tgt 4 ("number" : Str) (by decide +kernel)
  have t0_5 := S0.tgt 5 ("term" : Str) (by decide +kernel)
  have b0_len := O0.blt S0 ("len" : Str) _ PySem.boot_len (by decide +kernel)
  have v0_3 := S0.var 3 ("at" : Str) (by decide +kernel)
  have b0_range := O0.blt S0 ("range" : Str) _ PyProof.Rows.boot_range (by decide +kernel)
  have t0_6 := S0.tgt 6 ("wrong" : Str) (by decide +kernel)
  have v0_2 := S0.var 2 ("found" : Str) (by decide +kernel)
  have v0_4 := S0.var 4 ("number" : Str) (by decide +kernel)
  have v0_5 := S0.var 5 ("term" : Str) (by decide +kernel)
  have v0_1 := S0.var 1 ("left" : Str) (by decide +kernel)
  have v0_6 := S0.var 6 ("wrong" : Str) (by decide +kernel)
  exact ss_cons (set_ t0_2 (s_int) rfl) (ss_cons (for_ O0 (enumA_ b0_enumerate (s_paCons (v_ v0_0) (s_paNil) rfl) rfl) (s_gTup O0.calm (s_gsCons (g_ t0_3) (s_gsCons (g_ t0_4) (s_gsNil) rfl) rfl) rfl rfl) (ss_cons (set_ t0_5 (s_int) rfl) (ss_one (for_ O0 (range1_ b0_range (s_paCons (s_bin o_sub (bl_ b0_len c_len (s_paCons (v_ v0_0) (s_paNil) rfl) rfl) (v_ v0_3)) (s_paNil) rfl) rfl) (g_ t0_6) (ss_cons (set_ t0_2 (s_bin o_add (v_ v0_2) (s_bin o_mul (v_ v0_4) (v_ v0_5))) rfl) (ss_one (set_ t0_5 (s_bin o_fdiv (s_bin o_mul (s_bin o_mul (v_ v0_5) (s_bin o_sub (v_ v0_1) (v_ v0_6))) (s_int)) (s_bin o_add (v_ v0_6) (s_int))) rfl))) (fun _ => rfl)))) (fun _ => rfl)) (ss_one (s_ret (v_ v0_2))))
theorem ok__law_right : BodyOk T d__law_right := by
  refine ⟨⟨rfl, rfl, rfl, by decide +kernel, rfl, by decide +kernel, by decide +kernel⟩, fun X G g0 H0 k O0 S0 => ?_⟩
  have v0_0 := S0.var 0 ("pot" : Str) (by decide +kernel)
  have g0__law_draw := S0.glo ("_law_draw" : Str) (by decide +kernel)
  have v0_1 := S0.var 1 ("lies" : Str) (by decide +kernel)
  have g0__law_counts := S0.glo ("_law_counts" : Str) (by decide +kernel)
  have t0_2 := S0.tgt 2 ("counts" : Str) (by decide +kernel)
  have t0_3 := S0.tgt 3 ("left" : Str) (by decide +kernel)
  have t0_4 := S0.tgt 4 ("parting" : Str) (by decide +kernel)
  have v0_2 := S0.var 2 ("counts" : Str) (by decide +kernel)
  have t0_5 := S0.tgt 5 ("number" : Str) (by decide +kernel)
  have t0_6 := S0.tgt 6 ("one" : Str) (by decide +kernel)
  have v0_5 := S0.var 5 ("number" : Str) (by decide +kernel)
  have t0_7 := S0.tgt 7 ("other" : Str) (by decide +kernel)
  have v0_6 := S0.var 6 ("one" : Str) (by decide +kernel)
  have v0_4 := S0.var 4 ("parting" : Str) (by decide +kernel)
  have v0_7 := S0.var 7 ("other" : Str) (by decide +kernel)
  have b0_repr := O0.blt S0 ("repr" : Str) _ PyProof.Rows.boot_repr (by decide +kernel)
  have b0_tuple := O0.blt S0 ("tuple" : Str) (.type "tuple") PyProof.Rows.boot_tuple (by decide +kernel)
  have t0_8 := S0.tgt 8 ("shown" : Str) (by decide +kernel)
  have t0_9 := S0.tgt 9 ("values" : Str) (by decide +kernel)
  have b0_list := O0.blt S0 ("list" : Str) _ PyProof.Rows.boot_list (by decide +kernel)
  have v0_9 := S0.var 9 ("values" : Str) (by decide +kernel)
  have b0_range := O0.blt S0 ("range" : Str) _ PyProof.Rows.boot_range (by decide +kernel)
  have t0_10 := S0.tgt 10 ("value" : Str) (by decide +kernel)
  have l0_11 := S0.tgn 11 ("due" : Str) (by decide +kernel)
  have l0_12 := S0.tgn 12 ("late" : Str) (by decide +kernel)
  have v0_10 := S0.var 10 ("value" : Str) (by decide +kernel)
  have g0__law_is_parting := S0.glo ("_law_is_parting" : Str) (by decide +kernel)
  have g0_is_parting := S0.glo ("is_parting" : Str) (by decide +kernel)
  have v0_11 := S0.var 11 ("due" : Str) (by decide +kernel)
  have v0_12 := S0.var 12 ("late" : Str) (by decide +kernel)
  have t0_13 := S0.tgt 13 ("part" : Str) (by decide +kernel)
  have t0_11 := S0.tgt 11 ("due" : Str) (by decide +kernel)
  have v0_13 := S0.var 13 ("part" : Str) (by decide +kernel)
  have g0__law_behind := S0.glo ("_law_behind" : Str) (by decide +kernel)
  have g0_behind_part := S0.glo ("behind_part" : Str) (by decide +kernel)
  have l0_14 := S0.tgn 14 ("whole" : Str) (by decide +kernel)
  have l0_15 := S0.tgn 15 ("power" : Str) (by decide +kernel)
  have v0_3 := S0.var 3 ("left" : Str) (by decide +kernel)
  have g0__law_weight := S0.glo ("_law_weight" : Str) (by decide +kernel)
  have t0_16 := S0.tgt 16 ("turn" : Str) (by decide +kernel)
  have t0_15 := S0.tgt 15 ("power" : Str) (by decide +kernel)
  have v0_15 := S0.var 15 ("power" : Str) (by decide +kernel)
  have g0_weight_in_three := S0.glo ("weight_in_three" : Str) (by decide +kernel)
  have v0_14 := S0.var 14 ("whole" : Str) (by decide +kernel)
  have t0_17 := S0.tgt 17 ("heavy" : Str) (by decide +kernel)
  have b0_sum := O0.blt S0 ("sum" : Str) _ PyProof.Rows.boot_sum (by decide +kernel)
  have g0_is_heavy_in_three := S0.glo ("is_heavy_in_three" : Str) (by decide +kernel)
  have v0_17 := S0.var 17 ("heavy" : Str) (by decide +kernel)
  have v0_8 := S0.var 8 ("shown" : Str) (by decide +kernel)
  have g0__law_all := S0.glo ("_law_all" : Str) (by decide +kernel)
  exact ss_cons (s_asg (s_tup (s_paCons (call_ O0 g0__law_counts (cl__law_counts_3 O0) (s_paCons (v_ v0_0) (s_paCons (s_int) (s_paCons (v_ v0_1) (s_paNil) rfl) rfl) rfl) (s_pkNil) rfl rfl (fun z => nomatch z)) (s_paCons (call_ O0 g0__law_draw (cl__law_draw_2 O0) (s_paCons (v_ v0_0) (s_paCons (s_int) (s_paNil) rfl) rfl) (s_pkNil) rfl rfl (fun z => nomatch z)) (s_paCons (PE.cell (s_disp (s_paNil))) (s_paNil) rfl) rfl) rfl)) (s_pgTup O0.calm (s_pgsCons (pgn_ t0_2) (s_pgsCons (pgn_ t0_3) (s_pgsCons (pgn_ t0_4) (s_pgsNil) rfl) rfl) rfl) rfl) rfl (sw_no S0 (by decide +kernel)) rfl) (ss_cons (for_ O0 (s_items (v_ v0_2)) (g_ t0_5) (ss_cons (set_ t0_6 (call_ O0 g0__law_draw (cl__law_draw_2 O0) (s_paCons (v_ v0_0) (s_paCons (s_bin o_add (v_ v0_5) (s_int)) (s_paNil) rfl) rfl) (s_pkNil) rfl rfl (fun z => nomatch z)) rfl) (ss_cons (set_ t0_7 (call_ O0 g0__law_draw (cl__law_draw_2 O0) (s_paCons (v_ v0_0) (s_paCons (s_bin o_add (s_bin o_sub (v_ v0_5) (v_ v0_6)) (s_int)) (s_paNil) rfl) rfl) (s_pkNil) rfl rfl (fun z => nomatch z)) rfl) (ss_one (append_ v0_4 (s_tup (s_paCons (v_ v0_6) (s_paCons (v_ v0_7) (s_paCons (s_bin o_sub (s_bin o_sub (v_ v0_5) (v_ v0_6)) (v_ v0_7)) (s_paNil) rfl) rfl) rfl)) rfl rfl)))) (fun _ => rfl)) (ss_cons (s_asg (s_tup (s_paCons (ty_ b0_tuple c_tuple (s_paCons (v_ v0_4) (s_paNil) rfl) rfl) (s_paCons (bl_ b0_repr (c_repr O0.gu O0.un) (s_paCons (v_ v0_2) (s_paNil) rfl) rfl) (s_paNil) rfl) rfl)) (s_pgTup O0.calm (s_pgsCons (pgn_ t0_4) (s_pgsCons (pgn_ t0_8) (s_pgsNil) rfl) rfl) rfl) rfl (sw_no S0 (by decide +kernel)) rfl) (ss_cons (set_ t0_9 (s_lst (s_paCons (v_ v0_4) (s_paCons (PE.val (listF_ b0_list (s_paCons (v_ v0_4) (s_paNil) rfl) rfl)) (s_paCons (s_slice (v_ v0_4) (s_part (s_int)) (s_noPart)) (s_paCons (s_bin o_add (v_ v0_4) (s_tup (s_paCons (s_tup (s_paCons (s_int) (s_paCons (s_int) (s_paCons (s_int) (s_paNil) rfl) rfl) rfl)) (s_paNil) rfl))) (s_paCons (s_rev (v_ v0_4)) (s_paCons (s_non) (s_paCons (s_tup (s_paNil)) (s_paNil) rfl) rfl) rfl) rfl) rfl) rfl) rfl)) rfl) (ss_cons (set_ t0_9 (s_bin o_add (v_ v0_9) (s_lst (s_paCons (ty_ b0_tuple c_tuple (s_paCons (PE.val (comp_ O0 S0 [(("share" : Str), 18)] (s_items (v_ v0_4)) ⟨rfl, by decide +kernel, by decide +kernel, by decide +kernel, by decide +kernel⟩ (by decide) (fun X1 O1 S1 => by have t1_18 := S1.tgt 18 ("share" : Str) (by decide +kernel); exact g_ t1_18) (fun X1 O1 S1 => by exact pts0_) (fun X1 O1 S1 => by have v1_18 := S1.var 18 ("share" : Str) (by decide +kernel); exact s_rev (v_ v1_18)) (fun _ => rfl))) (s_paNil) rfl) rfl) (s_paCons (ty_ b0_tuple c_tuple (s_paCons (PE.val (comp_ O0 S0 [(("share" : Str), 18)] (s_items (v_ v0_4)) ⟨rfl, by decide +kernel, by decide +kernel, by decide +kernel, by decide +kernel⟩ (by decide) (fun X1 O1 S1 => by have t1_18 := S1.tgt 18 ("share" : Str) (by decide +kernel); exact g_ t1_18) (fun X1 O1 S1 => by exact pts0_) (fun X1 O1 S1 => by have v1_18 := S1.var 18 ("share" : Str) (by decide +kernel); have b1_list := O1.blt S1 ("list" : Str) _ PyProof.Rows.boot_list (by decide +kernel); exact PE.val (listF_ b1_list (s_paCons (v_ v1_18) (s_paNil) rfl) rfl)) (fun _ => rfl))) (s_paNil) rfl) rfl) (s_paNil) rfl) rfl))) rfl) (ss_cons (for_ O0 (s_items (s_bin o_add (v_ v0_9) (PE.val (comp_ O0 S0 [(("turn" : Str), 16)] (range1_ b0_range (s_paCons (s_int) (s_paNil) rfl) rfl) ⟨rfl, by decide +kernel, by decide +kernel, by decide +kernel, by decide +kernel⟩ (by decide) (fun X1 O1 S1 => by have t1_16 := S1.tgt 16 ("turn" : Str) (by decide +kernel); exact g_ t1_16) (fun X1 O1 S1 => by exact pts0_) (fun X1 O1 S1 => by have v1_4 := S1.var 4 ("parting" : Str) (by decide +kernel); have v1_0 := S1.var 0 ("pot" : Str) (by decide +kernel); have g1__law_bent := S1.glo ("_law_bent" : Str) (by decide +kernel); exact call_ O1 g1__law_bent (cl__law_bent_2 O1) (s_paCons (v_ v1_0) (s_paCons (v_ v1_4) (s_paNil) rfl) rfl) (s_pkNil) rfl rfl (fun z => nomatch z)) (fun _ => rfl))))) (g_ t0_10) (ss_cons (par2s_ O0 S0 rfl l0_11 l0_12 (by decide) (s_mV (call_ O0 g0__law_is_parting (cl__law_is_parting_2 O0) (s_paCons (v_ v0_2) (s_paCons (v_ v0_10) (s_paNil) rfl) rfl) (s_pkNil) rfl rfl (fun z => nomatch z))) (s_mV (bl_ b0_repr (c_repr O0.gu O0.un) (s_paCons (v_ v0_10) (s_paNil) rfl) rfl)) rfl rfl rfl (by decide +kernel) rfl rfl) (ss_one (s_ifS ((s_or (cmpT_ (o_ne O0.un) (bl_ b0_repr (c_repr O0.gu O0.un) (s_paCons (s_lst (s_paCons (call_ O0 g0_is_parting (cl_is_parting_2 O0) (s_paCons (v_ v0_2) (s_paCons (v_ v0_10) (s_paNil) rfl) rfl) (s_pkNil) rfl rfl (fun z => nomatch z)) (s_paCons (call_ O0 g0_is_parting (cl_is_parting_0_value_counts O0) (s_paNil) (s_pkCons (v_ v0_10) (s_pkCons (v_ v0_2) (s_pkNil))) rfl rfl (fun _ => rfl)) (s_paNil) rfl) rfl)) (s_paNil) rfl) rfl) (bl_ b0_repr (c_repr O0.gu O0.un) (s_paCons (s_lst (s_paCons (v_ v0_11) (s_paCons (v_ v0_11) (s_paNil) rfl) rfl)) (s_paNil) rfl) rfl) rfl) (s_or1 (cmpT_ (o_ne O0.un) (bl_ b0_repr (c_repr O0.gu O0.un) (s_paCons (v_ v0_10) (s_paNil) rfl) rfl) (v_ v0_12) rfl))).pt) (ss_one (s_ret (s_bl))) (ss_nil)))) (fun _ => rfl)) (ss_cons (for_ O0 (range1_ b0_range (s_paCons (s_int) (s_paNil) rfl) rfl) (g_ t0_13) (ss_cons (set_ t0_11 (call_ O0 g0__law_behind (cl__law_behind_3 O0) (s_paCons (v_ v0_2) (s_paCons (v_ v0_4) (s_paCons (v_ v0_13) (s_paNil) rfl) rfl) rfl) (s_pkNil) rfl rfl (fun z => nomatch z)) rfl) (ss_one (s_ifS (cmpT_ (o_ne O0.un) (bl_ b0_repr (c_repr O0.gu O0.un) (s_paCons (s_lst (s_paCons (call_ O0 g0_behind_part (cl_behind_part_3 O0) (s_paCons (v_ v0_2) (s_paCons (v_ v0_4) (s_paCons (v_ v0_13) (s_paNil) rfl) rfl) rfl) (s_pkNil) rfl rfl (fun z => nomatch z)) (s_paCons (call_ O0 g0_behind_part (cl_behind_part_0_part_parting_counts O0) (s_paNil) (s_pkCons (v_ v0_13) (s_pkCons (v_ v0_4) (s_pkCons (v_ v0_2) (s_pkNil)))) rfl rfl (fun _ => rfl)) (s_paNil) rfl) rfl)) (s_paNil) rfl) rfl) (bl_ b0_repr (c_repr O0.gu O0.un) (s_paCons (s_lst (s_paCons (v_ v0_11) (s_paCons (v_ v0_11) (s_paNil) rfl) rfl)) (s_paNil) rfl) rfl) rfl) (ss_one (s_ret (s_bl))) (ss_nil)))) (fun _ => rfl)) (ss_cons (par2s_ O0 S0 rfl l0_14 l0_15 (by decide) (s_mV (call_ O0 g0__law_weight (cl__law_weight_2 O0) (s_paCons (v_ v0_2) (s_paCons (v_ v0_3) (s_paNil) rfl) rfl) (s_pkNil) rfl rfl (fun z => nomatch z))) (s_mV (s_int)) rfl rfl rfl (by decide +kernel) rfl rfl) (ss_cons (for_ O0 (range1_ b0_range (s_paCons (v_ v0_3) (s_paNil) rfl) rfl) (g_ t0_16) (ss_one (set_ t0_15 (s_bin o_mul (s_int) (v_ v0_15)) rfl)) (fun _ => rfl)) (ss_cons (s_ifS (cmpT_ (o_ne O0.un) (bl_ b0_repr (c_repr O0.gu O0.un) (s_paCons (s_lst (s_paCons (call_ O0 g0_weight_in_three (cl_weight_in_three_2 O0) (s_paCons (v_ v0_2) (s_paCons (v_ v0_3) (s_paNil) rfl) rfl) (s_pkNil) rfl rfl (fun z => nomatch z)) (s_paCons (call_ O0 g0_weight_in_three (cl_weight_in_three_0_left_counts O0) (s_paNil) (s_pkCons (v_ v0_3) (s_pkCons (v_ v0_2) (s_pkNil))) rfl rfl (fun _ => rfl)) (s_paNil) rfl) rfl)) (s_paNil) rfl) rfl) (bl_ b0_repr (c_repr O0.gu O0.un) (s_paCons (s_lst (s_paCons (v_ v0_14) (s_paCons (v_ v0_14) (s_paNil) rfl) rfl)) (s_paNil) rfl) rfl) rfl) (ss_one (s_ret (s_bl))) (ss_nil)) (ss_cons (set_ t0_17 (s_andV (s_cmp o_gt (bl_ b0_sum (c_sum O0.calm) (s_paCons (v_ v0_2) (s_paNil) rfl) rfl) (s_int) rfl) (s_oneV (s_cmp o_gt (v_ v0_14) (v_ v0_15) rfl))) rfl) (ss_cons (s_ifS ((s_or (cmpT_ (o_ne O0.un) (bl_ b0_repr (c_repr O0.gu O0.un) (s_paCons (s_lst (s_paCons (call_ O0 g0_is_heavy_in_three (cl_is_heavy_in_three_2 O0) (s_paCons (v_ v0_2) (s_paCons (v_ v0_3) (s_paNil) rfl) rfl) (s_pkNil) rfl rfl (fun z => nomatch z)) (s_paCons (call_ O0 g0_is_heavy_in_three (cl_is_heavy_in_three_0_left_counts O0) (s_paNil) (s_pkCons (v_ v0_3) (s_pkCons (v_ v0_2) (s_pkNil))) rfl rfl (fun _ => rfl)) (s_paNil) rfl) rfl)) (s_paNil) rfl) rfl) (bl_ b0_repr (c_repr O0.gu O0.un) (s_paCons (s_lst (s_paCons (v_ v0_17) (s_paCons (v_ v0_17) (s_paNil) rfl) rfl)) (s_paNil) rfl) rfl) rfl) (s_or1 (cmpT_ (o_ne O0.un) (bl_ b0_repr (c_repr O0.gu O0.un) (s_paCons (v_ v0_2) (s_paNil) rfl) rfl) (v_ v0_8) rfl))).pt) (ss_one (s_ret (s_bl))) (ss_nil)) (ss_one (s_ret (s_orV (s_cmp (o_eq O0.un) (v_ v0_3) (s_int) rfl) (s_oneV (s_cmp (o_eq O0.un) (bl_ b0_sum (c_sum O0.calm) (s_paCons (PE.val (comp_ O0 S0 [(("late" : Str), 12)] (s_items (call_ O0 g0__law_all (cl__law_all_2 O0) (s_paCons (v_ v0_2) (s_paCons (v_ v0_4) (s_paNil) rfl) rfl) (s_pkNil) rfl rfl (fun z => nomatch z))) ⟨rfl, by decide +kernel, by decide +kernel, by decide +kernel, by decide +kernel⟩ (by decide) (fun X1 O1 S1 => by have t1_12 := S1.tgt 12 ("late" : Str) (by decide +kernel); exact g_ t1_12) (fun X1 O1 S1 => by exact pts0_) (fun X1 O1 S1 => by have v1_3 := S1.var 3 ("left" : Str) (by decide +kernel); have v1_12 := S1.var 12 ("late" : Str) (by decide +kernel); have g1_weight_in_three := S1.glo ("weight_in_three" : Str) (by decide +kernel); exact call_ O1 g1_weight_in_three (cl_weight_in_three_2 O1) (s_paCons (v_ v1_12) (s_paCons (s_bin o_sub (v_ v1_3) (s_int)) (s_paNil) rfl) rfl) (s_pkNil) rfl rfl (fun z => nomatch z)) (fun _ => rfl))) (s_paNil) rfl) rfl) (v_ v0_14) rfl))))))))))))))))
theorem ok_law : BodyOk T d_law := by
  refine ⟨⟨rfl, rfl, rfl, by decide +kernel, rfl, by decide +kernel, by decide +kernel⟩, fun X G g0 H0 k O0 S0 => ?_⟩
  have t0_1 := S0.tgt 1 ("pot" : Str) (by decide +kernel)
  have v0_0 := S0.var 0 ("script" : Str) (by decide +kernel)
  have g0__law_pot := S0.glo ("_law_pot" : Str) (by decide +kernel)
  have v0_1 := S0.var 1 ("pot" : Str) (by decide +kernel)
  have g0__law_right := S0.glo ("_law_right" : Str) (by decide +kernel)
  exact ss_cons (set_ t0_1 (call_ O0 g0__law_pot (cl__law_pot_2 O0) (s_paCons (v_ v0_0) (s_paCons (s_int) (s_paNil) rfl) rfl) (s_pkNil) rfl rfl (fun z => nomatch z)) rfl) (ss_one (s_ret (s_andV (call_ O0 g0__law_right (cl__law_right_2 O0) (s_paCons (v_ v0_1) (s_paCons (s_int) (s_paNil) rfl) rfl) (s_pkNil) rfl rfl (fun z => nomatch z)) (s_andV (call_ O0 g0__law_right (cl__law_right_2 O0) (s_paCons (v_ v0_1) (s_paCons (s_int) (s_paNil) rfl) rfl) (s_pkNil) rfl rfl (fun z => nomatch z)) (s_andV (call_ O0 g0__law_right (cl__law_right_2 O0) (s_paCons (v_ v0_1) (s_paCons (s_int) (s_paNil) rfl) rfl) (s_pkNil) rfl rfl (fun z => nomatch z)) (s_oneV (call_ O0 g0__law_right (cl__law_right_2 O0) (s_paCons (call_ O0 g0__law_pot (cl__law_pot_2 O0) (s_paCons (v_ v0_0) (s_paCons (s_int) (s_paNil) rfl) rfl) (s_pkNil) rfl rfl (fun z => nomatch z)) (s_paCons (s_int) (s_paNil) rfl) rfl) (s_pkNil) rfl rfl (fun z => nomatch z))))))))
abbrev F := fnsOf T.defs
theorem u_is_integer {k : Nat} {ds : List D} {h : Cells} : F (k + 1) 0 ds h = bodyF 1 m_is_integer (F k) ds h := rfl
theorem u_is_count {k : Nat} {ds : List D} {h : Cells} : F (k + 1) 1 ds h = bodyF 1 m_is_count (F k) ds h := rfl
theorem u_is_below {k : Nat} {ds : List D} {h : Cells} : F (k + 1) 2 ds h = bodyF 2 m_is_below (F k) ds h := rfl
theorem u_is_row {k : Nat} {ds : List D} {h : Cells} : F (k + 1) 3 ds h = bodyF 2 m_is_row (F k) ds h := rfl
theorem u_are_counts_of {k : Nat} {ds : List D} {h : Cells} : F (k + 1) 4 ds h = bodyF 2 m_are_counts_of (F k) ds h := rfl
theorem u_lies_of {k : Nat} {ds : List D} {h : Cells} : F (k + 1) 5 ds h = bodyF 1 m_lies_of (F k) ds h := rfl
theorem u_is_settled_of {k : Nat} {ds : List D} {h : Cells} : F (k + 1) 6 ds h = bodyF 1 m_is_settled_of (F k) ds h := rfl
theorem u_want_counts {k : Nat} {ds : List D} {h : Cells} : F (k + 1) 7 ds h = bodyF 1 m_want_counts (F k) ds h := rfl
theorem u_is_share {k : Nat} {ds : List D} {h : Cells} : F (k + 1) 8 ds h = bodyF 3 m_is_share (F k) ds h := rfl
theorem u_is_parting_of {k : Nat} {ds : List D} {h : Cells} : F (k + 1) 9 ds h = bodyF 4 m_is_parting_of (F k) ds h := rfl
theorem u_behind_of {k : Nat} {ds : List D} {h : Cells} : F (k + 1) 10 ds h = bodyF 9 m_behind_of (F k) ds h := rfl
theorem u_ways_in_three {k : Nat} {ds : List D} {h : Cells} : F (k + 1) 11 ds h = bodyF 5 m_ways_in_three (F k) ds h := rfl
theorem u_weight_of {k : Nat} {ds : List D} {h : Cells} : F (k + 1) 12 ds h = bodyF 5 m_weight_of (F k) ds h := rfl
theorem u_power_of_three {k : Nat} {ds : List D} {h : Cells} : F (k + 1) 13 ds h = bodyF 3 m_power_of_three (F k) ds h := rfl
theorem u_is_heavy_of {k : Nat} {ds : List D} {h : Cells} : F (k + 1) 14 ds h = bodyF 2 m_is_heavy_of (F k) ds h := rfl
theorem u_want_told {k : Nat} {ds : List D} {h : Cells} : F (k + 1) 15 ds h = bodyF 2 m_want_told (F k) ds h := rfl
theorem u_is_parting {k : Nat} {ds : List D} {h : Cells} : F (k + 1) 16 ds h = bodyF 2 m_is_parting (F k) ds h := rfl
theorem u_behind_part {k : Nat} {ds : List D} {h : Cells} : F (k + 1) 17 ds h = bodyF 3 m_behind_part (F k) ds h := rfl
theorem u_weight_in_three {k : Nat} {ds : List D} {h : Cells} : F (k + 1) 18 ds h = bodyF 2 m_weight_in_three (F k) ds h := rfl
theorem u_is_heavy_in_three {k : Nat} {ds : List D} {h : Cells} : F (k + 1) 19 ds h = bodyF 2 m_is_heavy_in_three (F k) ds h := rfl
theorem u__law_pot {k : Nat} {ds : List D} {h : Cells} : F (k + 1) 20 ds h = bodyF 3 m__law_pot (F k) ds h := rfl
theorem u__law_draw {k : Nat} {ds : List D} {h : Cells} : F (k + 1) 21 ds h = bodyF 3 m__law_draw (F k) ds h := rfl
theorem u__law_pick {k : Nat} {ds : List D} {h : Cells} : F (k + 1) 22 ds h = bodyF 2 m__law_pick (F k) ds h := rfl
theorem u__law_behind {k : Nat} {ds : List D} {h : Cells} : F (k + 1) 23 ds h = bodyF 7 m__law_behind (F k) ds h := rfl
theorem u__law_all {k : Nat} {ds : List D} {h : Cells} : F (k + 1) 24 ds h = bodyF 3 m__law_all (F k) ds h := rfl
theorem u__law_counts {k : Nat} {ds : List D} {h : Cells} : F (k + 1) 25 ds h = bodyF 7 m__law_counts (F k) ds h := rfl
theorem u__law_bent {k : Nat} {ds : List D} {h : Cells} : F (k + 1) 26 ds h = bodyF 5 m__law_bent (F k) ds h := rfl
theorem u__law_is_count {k : Nat} {ds : List D} {h : Cells} : F (k + 1) 27 ds h = bodyF 2 m__law_is_count (F k) ds h := rfl
theorem u__law_is_parting {k : Nat} {ds : List D} {h : Cells} : F (k + 1) 28 ds h = bodyF 5 m__law_is_parting (F k) ds h := rfl
theorem u__law_weight {k : Nat} {ds : List D} {h : Cells} : F (k + 1) 29 ds h = bodyF 7 m__law_weight (F k) ds h := rfl
theorem u__law_right {k : Nat} {ds : List D} {h : Cells} : F (k + 1) 30 ds h = bodyF 19 m__law_right (F k) ds h := rfl
theorem u_law {k : Nat} {ds : List D} {h : Cells} : F (k + 1) 31 ds h = bodyF 2 m_law (F k) ds h := rfl
theorem ok_all : ∀ (i : Nat) (d : FD), T.defs[i]? = some d → BodyOk T d
  | 0, _, rfl => ok_is_integer
  | 1, _, rfl => ok_is_count
  | 2, _, rfl => ok_is_below
  | 3, _, rfl => ok_is_row
  | 4, _, rfl => ok_are_counts_of
  | 5, _, rfl => ok_lies_of
  | 6, _, rfl => ok_is_settled_of
  | 7, _, rfl => ok_want_counts
  | 8, _, rfl => ok_is_share
  | 9, _, rfl => ok_is_parting_of
  | 10, _, rfl => ok_behind_of
  | 11, _, rfl => ok_ways_in_three
  | 12, _, rfl => ok_weight_of
  | 13, _, rfl => ok_power_of_three
  | 14, _, rfl => ok_is_heavy_of
  | 15, _, rfl => ok_want_told
  | 16, _, rfl => ok_is_parting
  | 17, _, rfl => ok_behind_part
  | 18, _, rfl => ok_weight_in_three
  | 19, _, rfl => ok_is_heavy_in_three
  | 20, _, rfl => ok__law_pot
  | 21, _, rfl => ok__law_draw
  | 22, _, rfl => ok__law_pick
  | 23, _, rfl => ok__law_behind
  | 24, _, rfl => ok__law_all
  | 25, _, rfl => ok__law_counts
  | 26, _, rfl => ok__law_bent
  | 27, _, rfl => ok__law_is_count
  | 28, _, rfl => ok__law_is_parting
  | 29, _, rfl => ok__law_weight
  | 30, _, rfl => ok__law_right
  | 31, _, rfl => ok_law
  | _ + 32, _, h => nomatch h
end EV.K
namespace EV.K
open PySem L2
abbrev Rw : PySem.W.OpenRow := PySem.W.OpenLaw.row PySem.Challenge.rw_askedliars_k72_whole_partings_and_weight
abbrev hk : PySem.W.Hook := He.hookD 4 (faOf T) (EV.fnOf T)
def ob (s : PySem.W.SharedT) : He.AlD := He.obsDG 4 (faOf T) (EV.fnOf T) (HandSHeadRun.getT s)
theorem ob_eq (s : PySem.W.SharedT) : ob s = hk.obs s.abs := He.obsDG_eq (HandSHeadRun.getT_eq s)
def nm0 : List PySem.Str := ["AskError", "InvalidCounts", "InvalidLeft", "InvalidPart", "InvalidParting", "is_integer", "is_count", "is_below", "is_row", "MOST_LIES", "MOST_TOGETHER", "are_counts_of", "lies_of", "is_settled_of", "want_counts", "WAYS", "MOST_LEFT", "is_share", "is_parting_of", "behind_of", "ways_in_three", "weight_of", "power_of_three", "is_heavy_of", "want_told", "is_parting", "behind_part", "weight_in_three", "is_heavy_in_three", "_law_pot"]
def nm1 : List PySem.Str := ["_law_draw", "_law_pick", "_law_behind", "_law_all", "_law_counts", "_law_bent", "_law_is_count", "_law_is_parting", "_law_weight", "_law_right"]
def names : List PySem.Str := nm0 ++ nm1
theorem runs (w : PySem.World) : HandSHeadRun.RunEq Rw (PySem.W.view Rw.prog [45]) hk ob 4000 names w := by
  intro os
  kernel_rfl
end EV.K

namespace EV.K
open PySem L2
theorem U_is_integer {k : Nat} : F (k + 1) 0 = bodyF 1 m_is_integer (F k) := funext fun ds => funext fun h => u_is_integer
theorem f_is_integer : ∀ k, 1 ≤ k → S_is_integer (F k 0)
  | 0, q => absurd q (by decide)
  | k + 1, q => by rw [U_is_integer]; exact ev_is_integer
theorem U_is_count {k : Nat} : F (k + 1) 1 = bodyF 1 m_is_count (F k) := funext fun ds => funext fun h => u_is_count
theorem f_is_count : ∀ k, 2 ≤ k → S_is_count (F k 1)
  | 0, q => absurd q (by decide)
  | k + 1, q => by rw [U_is_count]; exact ev_is_count (f_is_integer k (by omega))
theorem U_is_below {k : Nat} : F (k + 1) 2 = bodyF 2 m_is_below (F k) := funext fun ds => funext fun h => u_is_below
theorem f_is_below : ∀ k, 3 ≤ k → S_is_below (F k 2)
  | 0, q => absurd q (by decide)
  | k + 1, q => by rw [U_is_below]; exact ev_is_below (f_is_count k (by omega))
theorem U_is_row {k : Nat} : F (k + 1) 3 = bodyF 2 m_is_row (F k) := funext fun ds => funext fun h => u_is_row
theorem f_is_row : ∀ k, 1 ≤ k → S_is_row (F k 3)
  | 0, q => absurd q (by decide)
  | k + 1, q => by rw [U_is_row]; exact ev_is_row
theorem U_are_counts_of {k : Nat} : F (k + 1) 4 = bodyF 2 m_are_counts_of (F k) := funext fun ds => funext fun h => u_are_counts_of
theorem f_are_counts_of : ∀ k, 3 ≤ k → S_are_counts_of (F k 4)
  | 0, q => absurd q (by decide)
  | k + 1, q => by rw [U_are_counts_of]; exact ev_are_counts_of (f_is_count k (by omega))
theorem U_lies_of {k : Nat} : F (k + 1) 5 = bodyF 1 m_lies_of (F k) := funext fun ds => funext fun h => u_lies_of
theorem f_lies_of : ∀ k, 1 ≤ k → S_lies_of (F k 5)
  | 0, q => absurd q (by decide)
  | k + 1, q => by rw [U_lies_of]; exact ev_lies_of
theorem U_is_settled_of {k : Nat} : F (k + 1) 6 = bodyF 1 m_is_settled_of (F k) := funext fun ds => funext fun h => u_is_settled_of
theorem f_is_settled_of : ∀ k, 1 ≤ k → S_is_settled_of (F k 6)
  | 0, q => absurd q (by decide)
  | k + 1, q => by rw [U_is_settled_of]; exact ev_is_settled_of
theorem U_want_counts {k : Nat} : F (k + 1) 7 = bodyF 1 m_want_counts (F k) := funext fun ds => funext fun h => u_want_counts
theorem f_want_counts : ∀ k, 4 ≤ k → S_want_counts (F k 7)
  | 0, q => absurd q (by decide)
  | k + 1, q => by rw [U_want_counts]; exact ev_want_counts (f_are_counts_of k (by omega))
theorem U_is_share {k : Nat} : F (k + 1) 8 = bodyF 3 m_is_share (F k) := funext fun ds => funext fun h => u_is_share
theorem f_is_share : ∀ k, 3 ≤ k → S_is_share (F k 8)
  | 0, q => absurd q (by decide)
  | k + 1, q => by rw [U_is_share]; exact ev_is_share (f_is_row k (by omega)) (f_is_count k (by omega))
theorem U_is_parting_of {k : Nat} : F (k + 1) 9 = bodyF 4 m_is_parting_of (F k) := funext fun ds => funext fun h => u_is_parting_of
theorem f_is_parting_of : ∀ k, 4 ≤ k → S_is_parting_of (F k 9)
  | 0, q => absurd q (by decide)
  | k + 1, q => by rw [U_is_parting_of]; exact ev_is_parting_of (f_is_row k (by omega)) (f_is_share k (by omega))
theorem U_behind_of {k : Nat} : F (k + 1) 10 = bodyF 9 m_behind_of (F k) := funext fun ds => funext fun h => u_behind_of
theorem f_behind_of : ∀ k, 1 ≤ k → S_behind3 (F k 10)
  | 0, q => absurd q (by decide)
  | k + 1, q => by rw [U_behind_of]; exact ev_t3_behind_of
theorem U_ways_in_three {k : Nat} : F (k + 1) 11 = bodyF 5 m_ways_in_three (F k) := funext fun ds => funext fun h => u_ways_in_three
theorem f_ways_in_three : ∀ k, 1 ≤ k → S_ways3 (F k 11)
  | 0, q => absurd q (by decide)
  | k + 1, q => by rw [U_ways_in_three]; exact ev_ways_in_three
theorem U_weight_of {k : Nat} : F (k + 1) 12 = bodyF 5 m_weight_of (F k) := funext fun ds => funext fun h => u_weight_of
theorem f_weight_of : ∀ k, 2 ≤ k → S_weight3_of (F k 12)
  | 0, q => absurd q (by decide)
  | k + 1, q => by rw [U_weight_of]; exact ev_t3_weight_of (f_lies_of k (by omega)) (f_ways_in_three k (by omega))
theorem U_power_of_three {k : Nat} : F (k + 1) 13 = bodyF 3 m_power_of_three (F k) := funext fun ds => funext fun h => u_power_of_three
theorem f_power_of_three : ∀ k, 1 ≤ k → S_pow3 (F k 13)
  | 0, q => absurd q (by decide)
  | k + 1, q => by rw [U_power_of_three]; exact ev_power_of_three
theorem U_is_heavy_of {k : Nat} : F (k + 1) 14 = bodyF 2 m_is_heavy_of (F k) := funext fun ds => funext fun h => u_is_heavy_of
theorem f_is_heavy_of : ∀ k, 3 ≤ k → S_heavy3_of (F k 14)
  | 0, q => absurd q (by decide)
  | k + 1, q => by rw [U_is_heavy_of]; exact ev_t3_is_heavy_of (f_is_settled_of k (by omega)) (f_weight_of k (by omega)) (f_power_of_three k (by omega))
theorem U_want_told {k : Nat} : F (k + 1) 15 = bodyF 2 m_want_told (F k) := funext fun ds => funext fun h => u_want_told
theorem f_want_told : ∀ k, 5 ≤ k → S_told3 (F k 15)
  | 0, q => absurd q (by decide)
  | k + 1, q => by rw [U_want_told]; exact ev_t3_want_told (f_want_counts k (by omega)) (f_is_below k (by omega))
theorem U_is_parting {k : Nat} : F (k + 1) 16 = bodyF 2 m_is_parting (F k) := funext fun ds => funext fun h => u_is_parting
theorem f_is_parting : ∀ k, 5 ≤ k → S_is_parting (F k 16)
  | 0, q => absurd q (by decide)
  | k + 1, q => by rw [U_is_parting]; exact ev_is_parting (f_is_parting_of k (by omega)) (f_want_counts k (by omega))
theorem U_behind_part {k : Nat} : F (k + 1) 17 = bodyF 3 m_behind_part (F k) := funext fun ds => funext fun h => u_behind_part
theorem f_behind_part : ∀ k, 5 ≤ k → S_behind_part (F k 17)
  | 0, q => absurd q (by decide)
  | k + 1, q => by rw [U_behind_part]; exact ev_behind_part (f_is_parting_of k (by omega)) (f_want_counts k (by omega)) (f_is_below k (by omega)) (f_behind_of k (by omega))
theorem U_weight_in_three {k : Nat} : F (k + 1) 18 = bodyF 2 m_weight_in_three (F k) := funext fun ds => funext fun h => u_weight_in_three
theorem f_weight_in_three : ∀ k, 6 ≤ k → S_weight3 (F k 18)
  | 0, q => absurd q (by decide)
  | k + 1, q => by rw [U_weight_in_three]; exact ev_weight_in_three (f_want_told k (by omega)) (f_weight_of k (by omega))
theorem U_is_heavy_in_three {k : Nat} : F (k + 1) 19 = bodyF 2 m_is_heavy_in_three (F k) := funext fun ds => funext fun h => u_is_heavy_in_three
theorem f_is_heavy_in_three : ∀ k, 6 ≤ k → S_heavy3 (F k 19)
  | 0, q => absurd q (by decide)
  | k + 1, q => by rw [U_is_heavy_in_three]; exact ev_is_heavy_in_three (f_want_told k (by omega)) (f_is_heavy_of k (by omega))
theorem U__law_pot {k : Nat} : F (k + 1) 20 = bodyF 3 m__law_pot (F k) := funext fun ds => funext fun h => u__law_pot
theorem f__law_pot : ∀ k, 1 ≤ k → S_pot (F k 20)
  | 0, q => absurd q (by decide)
  | k + 1, q => by rw [U__law_pot]; refine ev_law_pot1 ?_ ?_ ?_ <;> decide
theorem U__law_draw {k : Nat} : F (k + 1) 21 = bodyF 3 m__law_draw (F k) := funext fun ds => funext fun h => u__law_draw
theorem f__law_draw : ∀ k, 1 ≤ k → S_draw (F k 21)
  | 0, q => absurd q (by decide)
  | k + 1, q => by rw [U__law_draw]; refine ev_law_draw ?_ ?_ ?_ ?_ <;> decide
theorem U__law_pick {k : Nat} : F (k + 1) 22 = bodyF 2 m__law_pick (F k) := funext fun ds => funext fun h => u__law_pick
theorem f__law_pick : ∀ k, 2 ≤ k → S_pick (F k 22)
  | 0, q => absurd q (by decide)
  | k + 1, q => by rw [U__law_pick]; exact ev_law_pick (f__law_draw k (by omega))
theorem U__law_behind {k : Nat} : F (k + 1) 23 = bodyF 7 m__law_behind (F k) := funext fun ds => funext fun h => u__law_behind
theorem f__law_behind : ∀ k, 1 ≤ k → S_behind3 (F k 23)
  | 0, q => absurd q (by decide)
  | k + 1, q => by rw [U__law_behind]; exact ev_law_behind
theorem U__law_all {k : Nat} : F (k + 1) 24 = bodyF 3 m__law_all (F k) := funext fun ds => funext fun h => u__law_all
theorem f__law_all : ∀ k, 2 ≤ k → S_law_all3 (F k 24)
  | 0, q => absurd q (by decide)
  | k + 1, q => by rw [U__law_all]; exact ev_law_all (f__law_behind k (by omega))
theorem U__law_counts {k : Nat} : F (k + 1) 25 = bodyF 7 m__law_counts (F k) := funext fun ds => funext fun h => u__law_counts
theorem f__law_counts : ∀ k, 2 ≤ k → S_counts_drawn (F k 25)
  | 0, q => absurd q (by decide)
  | k + 1, q => by rw [U__law_counts]; exact ev_t3_law_counts (f__law_draw k (by omega))
theorem U__law_is_count {k : Nat} : F (k + 1) 27 = bodyF 2 m__law_is_count (F k) := funext fun ds => funext fun h => u__law_is_count
theorem f__law_is_count : ∀ k, 1 ≤ k → S_law_is_count (F k 27)
  | 0, q => absurd q (by decide)
  | k + 1, q => by rw [U__law_is_count]; exact ev_law_is_count
theorem U__law_is_parting {k : Nat} : F (k + 1) 28 = bodyF 5 m__law_is_parting (F k) := funext fun ds => funext fun h => u__law_is_parting
theorem f__law_is_parting : ∀ k, 2 ≤ k → S_law_is_parting (F k 28)
  | 0, q => absurd q (by decide)
  | k + 1, q => by rw [U__law_is_parting]; exact ev_law_is_parting (f__law_is_count k (by omega))
theorem U__law_weight {k : Nat} : F (k + 1) 29 = bodyF 7 m__law_weight (F k) := funext fun ds => funext fun h => u__law_weight
theorem f__law_weight : ∀ k, 1 ≤ k → S_law_weight (F k 29)
  | 0, q => absurd q (by decide)
  | k + 1, q => by rw [U__law_weight]; exact ev_law_weight
end EV.K
namespace EV.K
open PySem L2
variable {fn : Fns} {h : Cells}
/-- a cell beside the pot is kept by draws -/
theorem Dr_keep {n c : Nat} {h h' : Cells} (d : Dr n h h') (ne : c ≠ n) : h'[c]? = h[c]? := by
  obtain ⟨a, b, rfl⟩ := d
  exact List.getElem?_set_ne (Ne.symm ne)
def Slots (n l0 : Nat) (ns : List Int) (l : Nat) (rest : List Sl) : Ev := [.val (.obj n), .val (.int l0), .val (.tup (Is ns)), .val (.int l)] ++ rest
def V1 (n l0 : Nat) (env : Ev) (h : Cells) : Prop := Pt n h ∧ ∃ (ns : List Int) (l c : Nat), Cts ns ∧ ns.length = l0 + 1 ∧ l ≤ 10 ∧ c ≠ n ∧ h[c]? = some (.lst []) ∧ env = [.val (.obj n), .val (.int l0), .val (.tup (Is ns)), .val (.int l), .val (.obj c), .no, .no, .no, .no, .no, .no, .no, .no, .no, .no, .no, .no, .no, .no]
def LP (n l0 : Nat) (ns : List Int) (l c : Nat) (k : Nat) (env : Ev) (h : Cells) : Prop := Pt n h ∧ ∃ (ts : List Tr) (x5 x6 x7 : Sl), ts.length = k ∧ shares (ns.take k) (ts.map encT) = true ∧ h[c]? = some (.lst (ts.map encT)) ∧ env = [.val (.obj n), .val (.int l0), .val (.tup (Is ns)), .val (.int l), .val (.obj c), x5, x6, x7, .no, .no, .no, .no, .no, .no, .no, .no, .no, .no, .no]
theorem shares_snoc {n : Int} {d : D} : ∀ {ns : List Int} {ds : List D}, ds.length = ns.length → shares ns ds = true → isShare n d = true → shares (ns ++ [n]) (ds ++ [d]) = true
  | [], [], _, _, q => by simp [shares, q]
  | m :: ns, e :: ds, el, q1, q2 => by
    rw [shares, Bool.and_eq_true] at q1
    rw [List.cons_append, List.cons_append, shares, q1.1, shares_snoc (by simpa using el) q1.2 q2]; rfl
theorem le_sum : ∀ {ns : List Int} {n : Int}, (∀ m ∈ ns, 0 ≤ m) → n ∈ ns → n ≤ ns.sum ∧ 0 ≤ ns.sum
  | [], _, _, m => by cases m
  | a :: ns, n, p, m => by
    have s0 : ∀ xs : List Int, (∀ x ∈ xs, 0 ≤ x) → 0 ≤ xs.sum := fun xs => by
      induction xs with
      | nil => intro _; simp
      | cons x xs ih =>
        intro q
        rw [List.sum_cons]
        have := q x (by simp)
        have := ih fun y hy => q y (by simp [hy])
        omega
    have z := s0 ns fun x hx => p x (by simp [hx])
    have a0 := p a (by simp)
    rw [List.sum_cons]
    rcases List.mem_cons.mp m with rfl | m
    · omega
    · have := (le_sum (fun x hx => p x (by simp [hx])) m).1
      omega
theorem loop_parts {n l0 l c : Nat} {ns : List Int} (dr : S_draw (fn 21)) (cn : c ≠ n) (ct : Cts ns) (p : Pt n h) (hc : h[c]? = some (.lst [])) :
    wp (forL (.name 5) b__law_right_0 fn (Is ns) [.val (.obj n), .val (.int l0), .val (.tup (Is ns)), .val (.int l), .val (.obj c), .no, .no, .no, .no, .no, .no, .no, .no, .no, .no, .no, .no, .no, .no] h) fun x h1 => x.1 = .nx ∧ LP n l0 ns l c ns.length x.2 h1 := by
  have go := forL_wp (fn := fn) (pt := .name 5) (body := b__law_right_0) (LP n l0 ns l c) (ds := Is ns) (env := [.val (.obj n), .val (.int l0), .val (.tup (Is ns)), .val (.int l), .val (.obj c), .no, .no, .no, .no, .no, .no, .no, .no, .no, .no, .no, .no, .no, .no]) (h := h) 0 ⟨p, [], .no, .no, .no, rfl, rfl, hc, rfl⟩ (by
    rintro k d env h' hd ⟨p', ts, x5, x6, x7, tl, sh, hc, rfl⟩
    rw [Nat.zero_add] at *
    rw [Is, List.getElem?_map] at hd
    obtain ⟨m, hm, rfl⟩ := Option.map_eq_some_iff.mp hd
    have hk := (List.getElem?_eq_some_iff.mp hm).1
    have m0 := ct.p m (List.mem_of_getElem? hm)
    have l4 := ct.l4
    have m40 : m ≤ 40 := by
      have := (le_sum ct.p (List.mem_of_getElem? hm)).1
      have := ct.s
      omega
    refine ⟨[.val (.obj n), .val (.int l0), .val (.tup (Is ns)), .val (.int l), .val (.obj c), .val (.int m), x6, x7, .no, .no, .no, .no, .no, .no, .no, .no, .no, .no, .no], by simp, ?_⟩
    unfold b__law_right_0
    simp
    refine wp_mono (dr n (m + 1) h' p' (by omega) (by omega)) fun d h1 ⟨d1, a, e, a0, a1⟩ => ?_
    subst e
    simp
    refine wp_mono (dr n (m - a + 1) h1 (d1.pt p') (by omega) (by omega)) fun d h2 ⟨d2, b, e, b0, b1⟩ => ?_
    subst e
    have hc2 : h2[c]? = some (.lst (ts.map encT)) := by rw [Dr_keep d2 cn, Dr_keep d1 cn, hc]
    have p2 := d2.pt (d1.pt p')
    have tz : ts.length < 16777216 := by omega
    have cl := (List.getElem?_eq_some_iff.mp hc2).1
    simp [hc2, appendAt, tz]
    obtain ⟨a', b', hp⟩ := p2
    refine ⟨⟨a', b', by rw [List.getElem?_set_ne cn]; exact hp⟩, ts ++ [(a, b, m - a - b)], _, _, _, by simp [tl], ?_, ?_, rfl⟩
    · have : ns.take (k + 1) = ns.take k ++ [m] := by rw [List.take_add_one, hm]; rfl
      rw [this, List.map_append]
      refine shares_snoc (by rw [List.length_map, List.length_take]; omega) sh ?_
      rw [share_tr]
      refine ⟨a0, b0, ?_, ?_⟩
      · show 0 ≤ m - a - b; omega
      · show a + b + (m - a - b) = m; omega
    · rw [List.getElem?_set_self cl, List.map_append]; rfl)
  refine wp_mono go fun x h1 ⟨e, q⟩ => ⟨e, ?_⟩
  rw [Nat.zero_add, len_Is] at q
  exact q
/-- the values that are tried -/
def revT (d : D) : D := match d with
  | .tup ds => .tup ds.reverse
  | _ => .non
def lstT (d : D) : D := match d with
  | .tup ds => .lst ds
  | _ => .non
def vals (es : List D) : List D := [.tup es, .lst es, .tup es.tail, .tup (es ++ [.tup [.int 0, .int 0, .int 0]]), .tup es.reverse, .non, .tup [], .tup (es.map revT), .tup (es.map lstT)]
theorem tr_bt {ns : List Int} {ts : List Tr} (ct : Cts ns) (e : ts.length = ns.length) (sh : shares ns (ts.map encT) = true) : ∀ t ∈ ts, 0 ≤ t.1 ∧ t.1 ≤ 40 ∧ 0 ≤ t.2.1 ∧ t.2.1 ≤ 40 ∧ 0 ≤ t.2.2 ∧ t.2.2 ≤ 40 := by
  have n40 : ∀ n ∈ ns, n ≤ 40 := fun n hn => by
    have := (le_sum ct.p hn).1
    have := ct.s
    omega
  clear ct
  induction ns generalizing ts with
  | nil =>
    have : ts = [] := List.eq_nil_of_length_eq_zero e
    subst this
    intro t ht; cases ht
  | cons n ns ih =>
    cases ts with
    | nil => intro t ht; cases ht
    | cons t ts =>
      rw [List.map_cons, shares, Bool.and_eq_true, share_tr] at sh
      obtain ⟨⟨q1, q2, q3, q4⟩, q5⟩ := sh
      have := n40 n (by simp)
      intro u hu
      rcases List.mem_cons.mp hu with rfl | hu
      · omega
      · exact ih (by simpa using e) q5 (fun x hx => n40 x (by simp [hx])) u hu
theorem vals_bt {ns : List Int} {ts : List Tr} (ct : Cts ns) (e : ts.length = ns.length) (sh : shares ns (ts.map encT) = true) : bt 8 2 (.tup (ts.map encT)) = true ∧ ∀ v ∈ vals (ts.map encT), bt 9 3 v = true := by
  have tb := tr_bt ct e sh
  have l4 := ct.l4
  have one : ∀ d ∈ ts.map encT, bt 8 1 d = true ∧ bt 8 1 (revT d) = true ∧ bt 8 1 (lstT d) = true := fun d hd => by
    obtain ⟨t, ht, rfl⟩ := List.mem_map.mp hd
    have := tb t ht
    have h1 : t.1.natAbs ≤ 800 := by omega
    have h2 : t.2.1.natAbs ≤ 800 := by omega
    have h3 : t.2.2.natAbs ≤ 800 := by omega
    simp [bt, encT, revT, lstT, h1, h2, h3]
  have many : ∀ es : List D, es.length ≤ 8 → (∀ d ∈ es, bt 8 1 d = true) → bt 8 2 (.tup es) = true ∧ bt 8 2 (.lst es) = true := fun es l q => by
    have : (decide (es.length ≤ 8) && es.all (bt 8 1)) = true := by
      rw [Bool.and_eq_true, decide_eq_true_eq, List.all_eq_true]; exact ⟨l, q⟩
    exact ⟨this, this⟩
  have up : ∀ {v : D}, bt 8 2 v = true → bt 9 3 v = true := fun h => (bt_up (by omega) h).2
  have el : (ts.map encT).length ≤ 4 := by rw [List.length_map, e]; exact l4
  have b0 := many (ts.map encT) (by omega) fun d hd => (one d hd).1
  refine ⟨b0.1, fun v hv => ?_⟩
  simp only [vals, List.mem_cons, List.not_mem_nil, or_false] at hv
  rcases hv with rfl | rfl | rfl | rfl | rfl | rfl | rfl | rfl | rfl
  · exact up b0.1
  · exact up b0.2
  · exact up (many _ (by rw [List.length_tail]; omega) fun d hd => (one d (List.mem_of_mem_tail hd)).1).1
  · refine up (many _ (by rw [List.length_append]; simp only [List.length_singleton]; omega) fun d hd => ?_).1
    rcases List.mem_append.mp hd with hd | hd
    · exact (one d hd).1
    · have : d = .tup [.int 0, .int 0, .int 0] := by simpa using hd
      subst this; decide
  · exact up (many _ (by rw [List.length_reverse]; omega) fun d hd => (one d (List.mem_reverse.mp hd)).1).1
  · rfl
  · simp [bt]
  · refine up (many _ (by rw [List.length_map]; omega) fun d hd => ?_).1
    obtain ⟨x, hx, rfl⟩ := List.mem_map.mp hd
    exact (one x hx).2.1
  · refine up (many _ (by rw [List.length_map]; omega) fun d hd => ?_).1
    obtain ⟨x, hx, rfl⟩ := List.mem_map.mp hd
    exact (one x hx).2.2
theorem bt_rep {v : D} (b : bt 9 3 v = true) : ∃ s, ∀ h, cRepr [v] h = .ok (.str s) h := rep_any (n := 3) (by omega) ((bt_rq (by omega) b).mono (by decide)) (bt_pl b)
/-- one value -/
theorem value_turn {ns : List Int} {v : D} {x0 x1 x3 x4 x5 x6 x7 x8 x9 x11 x12 x13 x14 x15 x16 x17 x18 : Sl} (ct : Cts ns) (b : bt 9 3 v = true) (a1 : S_law_is_parting (fn 28)) (a2 : S_is_parting (fn 16)) :
    ∃ y11 y12, b__law_right_1 fn [x0, x1, .val (.tup (Is ns)), x3, x4, x5, x6, x7, x8, x9, .val v, x11, x12, x13, x14, x15, x16, x17, x18] h = .ok (.nx, [x0, x1, .val (.tup (Is ns)), x3, x4, x5, x6, x7, x8, x9, .val v, y11, y12, x13, x14, x15, x16, x17, x18]) h := by
  obtain ⟨s, hs⟩ := bt_rep b
  have nb := pl_nb (bt_pl b)
  have l4 := ct.l4
  have e1 := fun h => a1 ns v h (by omega) (bt_pl b)
  have e2 := fun h => a2 ns v h ct (bt_pl b)
  generalize isParting ns v = q at e1 e2
  have r := rep2 (n := 0) (a := .bl q) (b := .bl q) (by omega) (rq_bl.mono (by omega)) (rq_bl.mono (by omega))
  exact ⟨.val (.bl q), .val (.str s), by simp [b__law_right_1, nb, hs, e1, e2, r]⟩
/-- one part -/
theorem part_turn {ns : List Int} {ts : List Tr} {j : Nat} {x0 x1 x3 x5 x6 x7 x8 x9 x10 x11 x12 x14 x15 x16 x17 x18 : Sl} (ct : Cts ns) (e : ts.length = ns.length) (sh : shares ns (ts.map encT) = true) (hj : j < 3) (a1 : S_behind3 (fn 23)) (a2 : S_behind_part (fn 17)) :
    ∃ y11, b__law_right_2 fn [x0, x1, .val (.tup (Is ns)), x3, .val (.tup (ts.map encT)), x5, x6, x7, x8, x9, x10, x11, x12, .val (.int j), x14, x15, x16, x17, x18] h = .ok (.nx, [x0, x1, .val (.tup (Is ns)), x3, .val (.tup (ts.map encT)), x5, x6, x7, x8, x9, x10, y11, x12, .val (.int j), x14, x15, x16, x17, x18]) h := by
  have l4 := ct.l4
  have n40 : ∀ n ∈ ns, n ≤ 40 := fun n hn => by
    have := (le_sum ct.p hn).1
    have := ct.s
    omega
  have ip : isParting ns (.tup (ts.map encT)) = true := by simp [isParting, sh, e]
  have e1 := fun h => a1 ns ts j h (by omega) e hj
  have e2 := fun h => a2 ns ts j h ct ip hj
  have bb := (beh3_cts (c := 0) (M := 40) hj e sh (by omega) (by omega) n40).1
  have bl : (beh3 0 ns (ts.map (pickT j))).length = ns.length := beh3_len (by rw [List.length_map, e])
  have rq := (rq_Is (n := 0) (C := 1000000) (ns := beh3 0 ns (ts.map (pickT j))) (fun i hi => by have := bb i hi; omega) (by omega)).1
  have r := rep2 (n := 1) (by omega) rq rq
  generalize beh3 0 ns (ts.map (pickT j)) = bs at e1 e2 r
  generalize ts.map encT = es at e1 e2
  exact ⟨.val (.tup (Is bs)), by simp [b__law_right_2, e1, e2, r]⟩
end EV.K
namespace EV.K
open PySem L2
variable {fn : Fns} {h : Cells}
def S_right3 (f : Fn) : Prop := ∀ (n l0 : Nat) h, Pt n h → l0 ≤ 3 → wp (f [.obj n, .int l0] h) fun d h' => d = .bl true ∧ Pt n h'
def V9 (n l0 : Nat) (ns : List Int) (l : Nat) (es : List D) (vs : D) (sh : Str) (env : Ev) (h : Cells) : Prop := Pt n h ∧ ∃ x5 x6 x7 x10 x11 x12, env = [.val (.obj n), .val (.int l0), .val (.tup (Is ns)), .val (.int l), .val (.tup es), x5, x6, x7, .val (.str sh), .val vs, x10, x11, x12, .no, .no, .no, .no, .no, .no]
def SV (n l0 : Nat) (ns : List Int) (l : Nat) (es : List D) (vs : D) (sh : Str) (x5 x6 x7 : Sl) (k : Nat) (env : Ev) : Prop := ∃ x10 x11 x12, env = [.val (.obj n), .val (.int l0), .val (.tup (Is ns)), .val (.int l), .val (.tup es), x5, x6, x7, .val (.str sh), .val vs, x10, x11, x12, .no, .no, .no, .no, .no, .no]
def SP (n l0 : Nat) (ns : List Int) (l : Nat) (es : List D) (vs : D) (sh : Str) (x5 x6 x7 x10 x12 : Sl) (k : Nat) (env : Ev) : Prop := ∃ x11 x13, env = [.val (.obj n), .val (.int l0), .val (.tup (Is ns)), .val (.int l), .val (.tup es), x5, x6, x7, .val (.str sh), .val vs, x10, x11, x12, x13, .no, .no, .no, .no, .no]
def SW (e14 : List Sl) (w : Int) (k : Nat) (env : Ev) : Prop := ∃ x16, env = e14 ++ [.val (.int w), .val (.int (P3 k)), x16, .no, .no]
theorem Wt3_le {l : Nat} (hl : l ≤ 10) : ∀ {ns : List Int}, ns.length ≤ 4 → (∀ n ∈ ns, 0 ≤ n) → 0 ≤ Wt3 l ns ∧ Wt3 l ns ≤ 100000 * ns.sum
  | [], _, _ => by simp [Wt3]
  | n :: ns, h4, p => by
    have ih := Wt3_le hl (ns := ns) (by simp at h4; omega) fun x hx => p x (by simp [hx])
    have b := W3_le hl (show ns.length ≤ 3 by simp at h4; omega)
    have n0 := p n (by simp)
    have m0 := Int.mul_nonneg n0 b.1
    have m1 := Int.mul_le_mul_of_nonneg_left b.2 n0
    rw [Wt3, List.sum_cons]
    omega
theorem right_go (dr : S_draw (fn 21)) (lc : S_counts_drawn (fn 25)) (be : S_bent 8 2 (fn 26)) (lp : S_law_is_parting (fn 28)) (ip : S_is_parting (fn 16)) (lb : S_behind3 (fn 23)) (bp : S_behind_part (fn 17)) (lw : S_law_weight (fn 29)) (wt : S_weight3 (fn 18)) (hv : S_heavy3 (fn 19)) (la : S_law_all3 (fn 24)) : S_right3 (bodyF 19 m__law_right fn) := fun n l0 h p hl0 => by
  unfold m__law_right
  rw [e_body, wp_bind]
  refine stepM (V1 n l0) ?_ fun env1 h1 ⟨p1, ns, l, c, ct, nl, l10, cn, hc, ee⟩ => ?_
  · simp
    refine wp_mono (lc n 40 l0 h p (by omega) (by omega)) fun d h1 ⟨d1, ns, e, ct, nl⟩ => ?_
    subst e
    simp
    have p1 := d1.pt p
    refine wp_mono (dr n 11 h1 p1 (by decide) (by decide)) fun d h2 ⟨d2, j, e, j0, j1⟩ => ?_
    subst e
    simp
    have p2 := d2.pt p1
    obtain ⟨l, rfl⟩ : ∃ l : Nat, j = l := ⟨j.toNat, by omega⟩
    obtain ⟨a, b, hp⟩ := p2
    have lt := (List.getElem?_eq_some_iff.mp hp).1
    exact ⟨⟨a, b, by rw [List.getElem?_append_left lt]; exact hp⟩, ns, l, h2.length, ct, nl, by omega, by omega, by simp, rfl⟩
  subst ee
  have l4 := ct.l4
  have l1 := ct.l1
  refine stepM (LP n l0 ns l c ns.length) ?_ fun env1 h2 ⟨p2, ts, x5, x6, x7, tl, sh, hc2, ee⟩ => ?_
  · have lz : (Is ns).length ≤ 16777216 := by rw [len_Is]; omega
    simp
    exact loop_parts dr cn ct p1 hc
  subst ee
  rw [List.take_length] at sh
  obtain ⟨bP, bV⟩ := vals_bt ct tl sh
  have rc := rep_t (n := 0) (xs := Is ns) (by omega) (rq_cts ct (by omega))
  have ez : (ts.map encT).length ≤ 4 := by rw [List.length_map, tl]; exact l4
  generalize hsh : shownT (Is ns) = st at rc
  refine stepE (env1 := [.val (.obj n), .val (.int l0), .val (.tup (Is ns)), .val (.int l), .val (.tup (ts.map encT)), x5, x6, x7, .val (.str st), .no, .no, .no, .no, .no, .no, .no, .no, .no, .no]) ?_ ?_
  · generalize ts.map encT = es at hc2
    simp [cTuple, seqT, seqL, hc2, rc]
  have turn := fun (v : D) (b : bt 9 3 v = true) (h : Cells) => @value_turn fn h ns v
  have pt := fun (j : Nat) (h : Cells) => @part_turn fn h ns ts j
  have all_es : ∀ d ∈ ts.map encT, ∃ a b c, d = .tup [.int a, .int b, .int c] := fun d hd => by
    obtain ⟨t, _, rfl⟩ := List.mem_map.mp hd
    exact ⟨_, _, _, rfl⟩
  have lall := fun h => la ns ts h (by omega) tl
  have au := fun (l' : Nat) => add_up (l := l') (a := 0) (b := 0) (c := 0) tl sh
  have n40 : ∀ n ∈ ns, n ≤ 40 := fun n hn => by
    have := (le_sum ct.p hn).1
    have := ct.s
    omega
  have cb : ∀ j, j < 3 → Cts (beh3 0 ns (ts.map (pickT j))) := fun j hj => by
    obtain ⟨q1, q2⟩ := beh3_cts (c := 0) (M := 40) hj tl sh (by omega) (by omega) n40
    have bl : (beh3 0 ns (ts.map (pickT j))).length = ns.length := beh3_len (by rw [List.length_map, tl])
    have := ct.s
    exact cts_mk (fun x hx => (q1 x hx).1) (by omega) (by omega) (by omega)
  have cb0 := cb 0 (by omega)
  have cb1 := cb 1 (by omega)
  have cb2 := cb 2 (by omega)
  generalize beh3 0 ns (ts.map (pickT 0)) = w0' at lall au cb0
  generalize beh3 0 ns (ts.map (pickT 1)) = w1 at lall au cb1
  generalize beh3 0 ns (ts.map (pickT 2)) = w2 at lall au cb2
  have part : ∀ (j : Nat) (h : Cells) {x5 x6 x7 x8 x9 x10 x11 x12 x14 x15 x16 x17 x18 : Sl}, j < 3 → ∃ y11, b__law_right_2 fn [.val (.obj n), .val (.int l0), .val (.tup (Is ns)), .val (.int l), .val (.tup (ts.map encT)), x5, x6, x7, x8, x9, x10, x11, x12, .val (.int j), x14, x15, x16, x17, x18] h = .ok (.nx, [.val (.obj n), .val (.int l0), .val (.tup (Is ns)), .val (.int l), .val (.tup (ts.map encT)), x5, x6, x7, x8, x9, x10, y11, x12, .val (.int j), x14, x15, x16, x17, x18]) h :=
    fun j h {x5 x6 x7 x8 x9 x10 x11 x12 x14 x15 x16 x17 x18} hj => part_turn ct tl sh hj lb bp
  clear pt turn tl hc2
  generalize ts.map encT = es at bP bV ez all_es lall part ⊢
  have sz : ∀ h, compL (.name 18) dtYes (dRev (dVar 18)) fn [.val (.obj n), .val (.int l0), .val (.tup (Is ns)), .val (.int l), .val (.tup es), x5, x6, x7, .val (.str st), .val (.lst [.tup es, .lst es, .tup es.tail, .tup (es ++ [.tup [.int 0, .int 0, .int 0]]), .tup es.reverse, .non, .tup []]), .no, .no, .no, .no, .no, .no, .no, .no, .no] es h = .ok (es.map revT) h := fun h => by
    rw [compL_map revT fun d hd => by
      obtain ⟨a, b, c, rfl⟩ := all_es d hd
      exact ⟨[.val (.obj n), .val (.int l0), .val (.tup (Is ns)), .val (.int l), .val (.tup es), x5, x6, x7, .val (.str st), .val (.lst [.tup es, .lst es, .tup es.tail, .tup (es ++ [.tup [.int 0, .int 0, .int 0]]), .tup es.reverse, .non, .tup []]), .no, .no, .no, .no, .no, .no, .no, .no, .val (.tup [.int a, .int b, .int c])], by simp, rfl, by simp [revT], rfl⟩]
  have sz2 : ∀ h, compL (.name 18) dtYes (asVal (dListF (daCons (dVar 18) (daNil)))) fn [.val (.obj n), .val (.int l0), .val (.tup (Is ns)), .val (.int l), .val (.tup es), x5, x6, x7, .val (.str st), .val (.lst [.tup es, .lst es, .tup es.tail, .tup (es ++ [.tup [.int 0, .int 0, .int 0]]), .tup es.reverse, .non, .tup []]), .no, .no, .no, .no, .no, .no, .no, .no, .no] es h = .ok (es.map lstT) h := fun h => by
    rw [compL_map lstT fun d hd => by
      obtain ⟨a, b, c, rfl⟩ := all_es d hd
      exact ⟨[.val (.obj n), .val (.int l0), .val (.tup (Is ns)), .val (.int l), .val (.tup es), x5, x6, x7, .val (.str st), .val (.lst [.tup es, .lst es, .tup es.tail, .tup (es ++ [.tup [.int 0, .int 0, .int 0]]), .tup es.reverse, .non, .tup []]), .no, .no, .no, .no, .no, .no, .no, .no, .val (.tup [.int a, .int b, .int c])], by simp, rfl, by simp [lstT, cList, seqT], rfl⟩]
  have cf : cutD es (some 1) none = es.tail := cut_tail
  have ez1 : es.length + 1 ≤ 16777216 := by omega
  have ez2 : es.length ≤ 16777216 := by omega
  refine stepE (env1 := [.val (.obj n), .val (.int l0), .val (.tup (Is ns)), .val (.int l), .val (.tup es), x5, x6, x7, .val (.str st), .val (.lst [.tup es, .lst es, .tup es.tail, .tup (es ++ [.tup [.int 0, .int 0, .int 0]]), .tup es.reverse, .non, .tup []]), .no, .no, .no, .no, .no, .no, .no, .no, .no]) ?_ ?_
  · simp [cList, seqT, cf, ez1]
  refine stepE (env1 := [.val (.obj n), .val (.int l0), .val (.tup (Is ns)), .val (.int l), .val (.tup es), x5, x6, x7, .val (.str st), .val (.lst (vals es)), .no, .no, .no, .no, .no, .no, .no, .no, .no]) ?_ ?_
  · simp [ez2, sz, sz2, cTuple, seqT, seqL, vals]
  clear sz sz2 cf
  refine stepM (V9 n l0 ns l es (.lst (vals es)) st) ?_ fun env1 h3 ⟨p3, y5, y6, y7, x10, x11, x12, ee⟩ => ?_
  · have u8 : (upTo 0 8).length ≤ 16777216 := by rw [len_up]; omega
    have vl : (vals es).length = 9 := rfl
    generalize vals es = vs at bV vl ⊢
    simp [u8]
    refine wp_mono (compL_wp (fn := fn) (fun k acc h => Pt n h ∧ (∀ d ∈ acc, bt 9 3 d = true) ∧ acc.length ≤ k) (ds := upTo 0 8) (h := h2) 0 [] ⟨p2, (fun d hd => by cases hd), by simp⟩ fun k d hd acc h' ⟨p', ok, al⟩ => ?_) fun r h' ⟨p', ok, al⟩ => ?_
    · refine ⟨[.val (.obj n), .val (.int l0), .val (.tup (Is ns)), .val (.int l), .val (.tup es), x5, x6, x7, .val (.str st), .val (.lst vs), .no, .no, .no, .no, .no, .no, .val d, .no, .no], ?_, ?_⟩
      · obtain ⟨rfl, _⟩ := toNat_upTo (n := (8 : Nat)) hd
        simp
      · simp
        refine wp_mono (be n 2 (.tup es) h' p' (by omega) bP) fun y h3 ⟨d3, by_⟩ => ?_
        refine ⟨pl_nb (bt_pl by_), d3.pt p', fun d hd => ?_, by omega⟩
        rcases hd with hd | rfl
        · exact ok d hd
        · exact by_
    · rw [List.nil_append] at ok al
      rw [len_up] at al
      have rz : vs.length + r.length ≤ 16777216 := by omega
      simp [rz]
      have okv : ∀ v ∈ vs ++ r, bt 9 3 v = true := fun v hv => by
        rcases List.mem_append.mp hv with hv | hv
        · exact bV v hv
        · exact ok v hv
      generalize vs ++ r = us at okv
      obtain ⟨env2, e2, x10, x11, x12, rfl⟩ := forL_pure (fn := fn) (h := h') (pt := .name 10) (body := b__law_right_1) (SV n l0 ns l es (.lst vs) st x5 x6 x7) (ds := us) (env := [.val (.obj n), .val (.int l0), .val (.tup (Is ns)), .val (.int l), .val (.tup es), x5, x6, x7, .val (.str st), .val (.lst vs), .no, .no, .no, .no, .no, .no, .no, .no, .no]) 0 ⟨.no, .no, .no, rfl⟩ (by
        rintro k d env hd ⟨x10, x11, x12, rfl⟩
        have bd := okv d (List.mem_of_getElem? hd)
        obtain ⟨y11, y12, e⟩ := value_turn (fn := fn) (h := h') (x0 := .val (.obj n)) (x1 := .val (.int l0)) (x3 := .val (.int l)) (x4 := .val (.tup es)) (x5 := x5) (x6 := x6) (x7 := x7) (x8 := .val (.str st)) (x9 := .val (.lst vs)) (x11 := x11) (x12 := x12) (x13 := .no) (x14 := .no) (x15 := .no) (x16 := .no) (x17 := .no) (x18 := .no) ct bd lp ip
        have nd := pl_nb (bt_pl bd)
        exact ⟨_, by simp [nd], .nx, _, .inl rfl, e, _, _, _, rfl⟩)
      rw [e2]
      exact ⟨_, _, rfl, rfl, p', _, _, _, _, _, _, rfl⟩
  subst ee
  obtain ⟨env2, e2, x11', x13', rfl⟩ := forL_pure (fn := fn) (h := h3) (pt := .name 13) (body := b__law_right_2) (SP n l0 ns l es (.lst (vals es)) st y5 y6 y7 x10 x12) (ds := upTo 0 3) (env := [.val (.obj n), .val (.int l0), .val (.tup (Is ns)), .val (.int l), .val (.tup es), y5, y6, y7, .val (.str st), .val (.lst (vals es)), x10, x11, x12, .no, .no, .no, .no, .no, .no]) 0 ⟨_, _, rfl⟩ (by
    rintro k d env hd ⟨x11, x13, rfl⟩
    obtain ⟨rfl, hk⟩ := toNat_upTo (n := (3 : Nat)) hd
    obtain ⟨y11, e⟩ := part k h3 (x5 := y5) (x6 := y6) (x7 := y7) (x8 := .val (.str st)) (x9 := .val (.lst (vals es))) (x10 := x10) (x11 := x11) (x12 := x12) (x14 := .no) (x15 := .no) (x16 := .no) (x17 := .no) (x18 := .no) (by omega)
    generalize vals es = vs at e ⊢
    exact ⟨[.val (.obj n), .val (.int l0), .val (.tup (Is ns)), .val (.int l), .val (.tup es), y5, y6, y7, .val (.str st), .val (.lst vs), x10, x11, x12, .val (.int k), .no, .no, .no, .no, .no], by simp, .nx, _, .inl rfl, e, _, _, rfl⟩)
  generalize vals es = vs at e2 ⊢
  refine stepE (env1 := [.val (.obj n), .val (.int l0), .val (.tup (Is ns)), .val (.int l), .val (.tup es), y5, y6, y7, .val (.str st), .val (.lst vs), x10, x11', x12, x13', .no, .no, .no, .no, .no]) (by simp [e2]) ?_
  have el := fun h => lw ns l h l1 l4 l10
  have ew := fun h => wt ns l h ct l10
  have eh := fun h => hv ns l h ct l10
  refine stepE (env1 := [.val (.obj n), .val (.int l0), .val (.tup (Is ns)), .val (.int l), .val (.tup es), y5, y6, y7, .val (.str st), .val (.lst vs), x10, x11', x12, x13', .val (.int (Wt3 l ns)), .val (.int 1), .no, .no, .no]) (by simp [el]) ?_
  have wl1 : (-1000000000 : Int) ≤ (l : Int) := by omega
  have wl2 : (l : Int) ≤ 1000000000 := by omega
  obtain ⟨env2, e3, x16', rfl⟩ := forL_pure (fn := fn) (h := h3) (pt := .name 16) (body := b__law_right_3) (SW [.val (.obj n), .val (.int l0), .val (.tup (Is ns)), .val (.int l), .val (.tup es), y5, y6, y7, .val (.str st), .val (.lst vs), x10, x11', x12, x13'] (Wt3 l ns)) (ds := upTo 0 l) (env := [.val (.obj n), .val (.int l0), .val (.tup (Is ns)), .val (.int l), .val (.tup es), y5, y6, y7, .val (.str st), .val (.lst vs), x10, x11', x12, x13', .val (.int (Wt3 l ns)), .val (.int 1), .no, .no, .no]) 0 ⟨_, rfl⟩ (by
    rintro k d env hd ⟨x16, rfl⟩
    rw [Nat.zero_add] at *
    obtain ⟨rfl, hk⟩ := toNat_upTo (n := l) hd
    have s3 : small64 3 = true := rfl
    have pe : P3 (k + 1) = 3 * P3 k := by rw [P3]; omega
    refine ⟨[.val (.obj n), .val (.int l0), .val (.tup (Is ns)), .val (.int l), .val (.tup es), y5, y6, y7, .val (.str st), .val (.lst vs), x10, x11', x12, x13', .val (.int (Wt3 l ns)), .val (.int (P3 k)), .val (.int k), .no, .no], by simp, .nx, [.val (.obj n), .val (.int l0), .val (.tup (Is ns)), .val (.int l), .val (.tup es), y5, y6, y7, .val (.str st), .val (.lst vs), x10, x11', x12, x13', .val (.int (Wt3 l ns)), .val (.int (P3 (k + 1))), .val (.int k), .no, .no], .inl rfl, ?_, _, rfl⟩
    rw [pe]
    generalize P3 k = q
    simp [b__law_right_3, s3])
  rw [Nat.zero_add, len_up] at e3
  have w0 : 0 ≤ Wt3 l ns ∧ Wt3 l ns ≤ 1000000000 := by
    have := Wt3_le l10 l4 ct.p
    have := ct.s
    omega
  refine stepE (env1 := [.val (.obj n), .val (.int l0), .val (.tup (Is ns)), .val (.int l), .val (.tup es), y5, y6, y7, .val (.str st), .val (.lst vs), x10, x11', x12, x13', .val (.int (Wt3 l ns)), .val (.int (P3 l)), x16', .no, .no]) (by simp [wl1, wl2]; exact e3) ?_
  have rw_ := rep2 (n := 0) (a := .int (Wt3 l ns)) (b := .int (Wt3 l ns)) (by omega) ((rq_int (by omega)).mono (by omega)) ((rq_int (by omega)).mono (by omega))
  refine stepE (env1 := [.val (.obj n), .val (.int l0), .val (.tup (Is ns)), .val (.int l), .val (.tup es), y5, y6, y7, .val (.str st), .val (.lst vs), x10, x11', x12, x13', .val (.int (Wt3 l ns)), .val (.int (P3 l)), x16', .no, .no]) ?_ ?_
  · generalize Wt3 l ns = w at *
    generalize P3 l = q at *
    simp [ew, rw_]
  refine stepE (env1 := [.val (.obj n), .val (.int l0), .val (.tup (Is ns)), .val (.int l), .val (.tup es), y5, y6, y7, .val (.str st), .val (.lst vs), x10, x11', x12, x13', .val (.int (Wt3 l ns)), .val (.int (P3 l)), x16', .val (.bl (!decide (ns.sum ≤ 1) && decide (P3 l < Wt3 l ns))), .no]) ?_ ?_
  · generalize Wt3 l ns = w at *
    generalize P3 l = q at *
    by_cases z : 1 < ns.sum
    · have z' : ¬ ns.sum ≤ 1 := by omega
      simp [cSum, toInts_Is, z, z']
    · have z' : ns.sum ≤ 1 := by omega
      simp [cSum, toInts_Is, z, z']
  generalize (!decide (ns.sum ≤ 1) && decide (P3 l < Wt3 l ns)) = hb at eh ⊢
  have rb := rep2 (n := 0) (a := .bl hb) (b := .bl hb) (by omega) (rq_bl.mono (by omega)) (rq_bl.mono (by omega))
  refine stepE (env1 := [.val (.obj n), .val (.int l0), .val (.tup (Is ns)), .val (.int l), .val (.tup es), y5, y6, y7, .val (.str st), .val (.lst vs), x10, x11', x12, x13', .val (.int (Wt3 l ns)), .val (.int (P3 l)), x16', .val (.bl hb), .no]) (by simp [eh, rb, rc]) ?_
  have fin : ∀ d : D, d = .bl true → Pt n h3 → wp (endF (.rt d, []) h3) fun d h' => d = .bl true ∧ Pt n h' := fun d e p => ⟨d, h3, rfl, e, p⟩
  cases l with
  | zero =>
    simp
    exact p3
  | succ l =>
    have au' := au l
    have t1 := fun h => wt w0' l h cb0 (by omega)
    have t2 := fun h => wt w1 l h cb1 (by omega)
    have t3 := fun h => wt w2 l h cb2 (by omega)
    have z : ¬ ((l : Int) + 1 = 0) := by omega
    have au2 : Wt3 l w0' + (Wt3 l w1 + Wt3 l w2) = Wt3 (l + 1) ns := by
      rw [← Int.add_assoc, au']
      cases ns with
      | nil => simp at l1
      | cons => simp
    generalize Wt3 (l + 1) ns = w at *
    simp [z, lall, compL, t1, t2, t3, cSum, seqL, toInts, au2]
    exact p3
end EV.K
namespace EV.K
open PySem L2
theorem f_bent : ∀ (N k : Nat), N + 3 ≤ k → S_bent 8 N (F k 26)
  | N, 0, q => absurd q (by omega)
  | 0, k + 1, q => by
    have U : F (k + 1) 26 = bodyF 5 m__law_bent (F k) := funext fun ds => funext fun h => u__law_bent
    rw [U]
    exact ev_law_bent (f__law_draw k (by omega)) (fun N' e => absurd e (by omega)) (f__law_pick k (by omega)) (by decide)
  | N + 1, k + 1, q => by
    have U : F (k + 1) 26 = bodyF 5 m__law_bent (F k) := funext fun ds => funext fun h => u__law_bent
    rw [U]
    exact ev_law_bent (f__law_draw k (by omega)) (fun N' e => by cases e; exact f_bent N k (by omega)) (f__law_pick k (by omega)) (by decide)
theorem f_right : ∀ k, 8 ≤ k → S_right3 (F k 30)
  | 0, q => absurd q (by decide)
  | k + 1, q => by
    have U : F (k + 1) 30 = bodyF 19 m__law_right (F k) := funext fun ds => funext fun h => u__law_right
    rw [U]
    exact right_go (f__law_draw k (by omega)) (f__law_counts k (by omega)) (f_bent 2 k (by omega)) (f__law_is_parting k (by omega)) (f_is_parting k (by omega)) (f__law_behind k (by omega)) (f_behind_part k (by omega)) (f__law_weight k (by omega)) (f_weight_in_three k (by omega)) (f_is_heavy_in_three k (by omega)) (f__law_all k (by omega))
theorem law_go {fn : Fns} (po : S_pot (fn 20)) (ri : S_right3 (fn 30)) : S_law (bodyF 2 m_law fn) := fun ns => by
  have b0 : ∀ h, wp (fn 20 [.frz (ns.map D.int), .int 0] h) fun d h' => d = .obj h.length ∧ ∃ a b, h' = h ++ [.lst [.int a, .int b]] := fun h => po ns 0 h
  have b1 : ∀ h, wp (fn 20 [.frz (ns.map D.int), .int 1] h) fun d h' => d = .obj h.length ∧ ∃ a b, h' = h ++ [.lst [.int a, .int b]] := fun h => po ns 1 h
  have r0 : ∀ n h, Pt n h → wp (fn 30 [.obj n, .int 0] h) fun d h' => d = .bl true ∧ Pt n h' := fun n h p => ri n 0 h p (by decide)
  have r1 : ∀ n h, Pt n h → wp (fn 30 [.obj n, .int 1] h) fun d h' => d = .bl true ∧ Pt n h' := fun n h p => ri n 1 h p (by decide)
  have r2 : ∀ n h, Pt n h → wp (fn 30 [.obj n, .int 2] h) fun d h' => d = .bl true ∧ Pt n h' := fun n h p => ri n 2 h p (by decide)
  have r3 : ∀ n h, Pt n h → wp (fn 30 [.obj n, .int 3] h) fun d h' => d = .bl true ∧ Pt n h' := fun n h p => ri n 3 h p (by decide)
  unfold m_law
  rw [e_body, wp_bind]
  refine stepM (fun env h' => ∃ n, Pt n h' ∧ env = [.val (.frz (ns.map D.int)), .val (.obj n)]) ?_ fun env1 h1 ⟨n, p1, ee⟩ => ?_
  · simp
    refine wp_mono (b0 []) fun d h' ⟨e, a, b, eh⟩ => ?_
    subst e; subst eh
    simp
    exact ⟨_, _, rfl⟩
  subst ee
  simp
  refine wp_mono (r0 n h1 p1) fun d h2 ⟨e, p2⟩ => ?_
  subst e
  simp
  refine wp_mono (r1 n h2 p2) fun d h3 ⟨e, p3⟩ => ?_
  subst e
  simp
  refine wp_mono (r2 n h3 p3) fun d h4 ⟨e, p4⟩ => ?_
  subst e
  simp
  refine wp_mono (b1 h4) fun d h5 ⟨e, a, b, eh⟩ => ?_
  subst e; subst eh
  simp
  refine wp_mono (r3 h4.length _ pt_new) fun d h6 ⟨e, p6⟩ => ?_
  subst e
  simp
theorem main (ns : List Int) (hn : ns.length ≤ 63) : ∃ h, fnsOf T.defs 100 31 [.frz (ns.map D.int)] [] = .ok (.bl true) h := by
  have U : F 100 31 = bodyF 2 m_law (F 99) := funext fun ds => funext fun h => u_law
  have a : S_law (F 100 31) := by
    rw [U]
    exact law_go (f__law_pot 99 (by decide)) (f_right 99 (by decide))
  exact main_of a ns
end EV.K

open PySem PySem.W PySem.Calls PyProof.Rows in
theorem PySem.Challenge.cw_askedliars_k72_whole_partings_and_weight_holds : PySem.Challenge.rw_askedliars_k72_whole_partings_and_weight.Holds := by
  w_on; o_law
  refine HandSHeadRun.head_any (r := OpenLaw.row PySem.Challenge.rw_askedliars_k72_whole_partings_and_weight) (q := view (OpenLaw.row PySem.Challenge.rw_askedliars_k72_whole_partings_and_weight).prog [45]) (H := EV.K.hk) (ob := EV.K.ob) (M := 4000) (loose := EV.K.names) (d := HandSHeadRun.topDef (OpenLaw.row PySem.Challenge.rw_askedliars_k72_whole_partings_and_weight).prog 45) (kwd := []) EV.K.ob_eq
    (by kernel_rfl) (fun s => by kernel_rfl) EV.K.runs (by kernel_rfl) (by kernel_rfl) (by kernel_rfl) (by rfl) (by first | assumption | decide +kernel) (by decide +kernel) ⟨rfl, rfl, rfl, rfl, rfl, by decide +kernel⟩ ?hw ?hc
  case hw => w_witness2
  case hc =>
    exact EV.walk_law (l := PySem.Challenge.rw_askedliars_k72_whole_partings_and_weight) (n := 63) (k := 100) 31 EV.K.d_law rfl (by decide) (by kernel_rfl) ⟨rfl, by decide, by decide⟩ rfl (by kernel_rfl) rfl EV.K.ok_all (fun _ _ _ _ _ _ us hl => match us, hl with | [_], _ => rfl) EV.K.main

