import PyProof.Rows.All
import Wide.All
import OpenK.AllK
import Wide.FinOn
import HandS.ForMost
import HandS.ForExc
import KE.KDictKeyed
import HandS.TupAny
import HandS.TupMul
import HandS.TupLe
import HandS.Wide
import HandS.Style
import HandS.Deep
import HandS.Flow
import HandS.Exc
import HandS.WordsExc
import HandS.Walk
import HandS.Zip
import HandS.IsInst
import HandS.RaiseMore
import HandS.WideBits
import HandS.WideMore
import PyProof.ReprRoads
import PyProof.ReprLen
import PyProof.Rows.RegStrFacts
import PyProof.Rows.NestShow
import HandS.HeadHook2
import HandS.Ends
import HandS.HeadEnd
import HandS.Head2
import HandS.HeadHook4
import KE.GoesMore
import PyProof.EnumMake
import PyProof.P3In
import HandS.Zip0
import HandS.SetFor
import HandS.SortInts
import HandS.Conv
import PyProof.Rows.TupTab
import HandS.TupSets
import HandS.TryOnly
import HandS.Strs
import PySem.Challenge.RW_askedliars_k38_whole_truths_of_rows
set_option Elab.async false
set_option linter.all false
set_option maxRecDepth  100000
set_option maxHeartbeats 0
/-! EV1: values, cells, the ghost, relations -/
namespace EV
open PySem L2
/-- values: lists by value never change; obj n is the n-th cell -/
inductive D where
  | non | bl (b : Bool) | int (i : Int) | str (s : Str)
  | tup (ds : List D) | lst (ds : List D) | bor (ds : List D) | frz (ds : List D)
  | obj (n : Nat) | glob (i : Nat)
deriving Inhabited
mutual
/-- no cell from n on is named -/
def lowD (n : Nat) : D → Bool
  | .non | .bl _ | .int _ | .str _ | .glob _ => true
  | .tup ds => lowDs n ds
  | .lst ds => lowDs n ds
  | .bor ds => lowDs n ds
  | .frz ds => lowDs n ds
  | .obj m => decide (m < n)
def lowDs (n : Nat) : List D → Bool
  | [] => true
  | d :: ds => lowD n d && lowDs n ds
end
mutual
def noLst : D → Bool
  | .non | .bl _ | .int _ | .str _ | .glob _ | .obj _ => true
  | .tup ds => noLsts ds
  | .frz ds => noLsts ds
  | .lst _ => false
  | .bor _ => false
def noLsts : List D → Bool
  | [] => true
  | d :: ds => noLst d && noLsts ds
end
/-- what is known of a dict whose pairs are not told -/
structure Memo where
  P : List (D × D) → Prop
  inh : ∃ kvs, P kvs
  low : ∀ kvs, P kvs → ∀ p ∈ kvs, (lowD 0 p.1 = true ∧ lowD 0 p.2 = true) ∧ noLst p.1 = true ∧ noLst p.2 = true
instance : Inhabited Memo := ⟨⟨fun k => k = [], ⟨[], rfl⟩, fun k e p m => by rw [e] at m; cases m⟩⟩
/-- cells -/
inductive OB where
  | lst (ds : List D) | dic (kvs : List (D × D)) | ins (c : Nat) (fs : List (Str × D)) | mem (M : Memo)
deriving Inhabited
/-- slots -/
inductive Sl where
  | no | val (d : D) | own (ds : List D)
deriving Inhabited
abbrev Cells := List OB
abbrev Ev := List Sl
structure Exc where
  cls : Nat
  fs : List (Str × D)
inductive R (α : Type) where
  | ok (a : α) (h : Cells) | exc (e : Exc) (h : Cells) | bad
def R.bind {α β : Type} (r : R α) (f : α → Cells → R β) : R β := match r with
  | .ok a h => f a h
  | .exc e h => .exc e h
  | .bad => .bad
abbrev Fns := Nat → List D → Cells → R D
/-- the ghost: where the cells stand, what may be written -/
structure Gh where
  K : PySem.W.Frag
  gA : Nat → Option Addr
  W : Addr → Prop
  ρ : List Addr
/-- a written list of the text -/
def SqK (K : PySem.W.Frag) (a : Addr) (xs : List V) : Prop :=
  ∃ (o : Obj) (its : Array Value) (n : Nat), K.lookup a = some o ∧ o.cls = .type "list" ∧ o.dict = none ∧ o.data = .seq its n ∧ its.size ≤ sizeLine ∧ Vals xs its.toList
def LstAt (g : Gh) (H : Hp) (a : Addr) (xs : List V) : Prop := H a = some (.lst xs) ∧ ¬ g.W a
def BorAt (g : Gh) (H : Hp) (a : Addr) (xs : List V) : Prop := H a = some (.lst xs) ∧ a ∉ g.ρ
def FrzAt (g : Gh) (H : Hp) (a : Addr) (xs : List V) : Prop := (∃ o, H a = some (.frz o (.lst xs))) ∨ SqK g.K a xs
theorem FrzAt.sql {g : Gh} {H : Hp} {a : Addr} {xs : List V} (h : FrzAt g H a xs) : SqL g.K H a xs := by
  rcases h with h | h
  · exact .inl (.inr h)
  · exact .inr h
mutual
def RelS (g : Gh) (H : Hp) : D → V → Prop
  | .non, v => v = .non
  | .bl b, v => v = .bl b
  | .int i, v => v = .int i
  | .str s, v => v = .str s
  | .tup ds, v => ∃ a xs, v = .ref a ∧ SqT g.K H a xs ∧ RelsS g H ds xs
  | .lst ds, v => ∃ a xs, v = .ref a ∧ LstAt g H a xs ∧ RelsS g H ds xs
  | .bor _, _ => False
  | .frz ds, v => ∃ a xs, v = .ref a ∧ FrzAt g H a xs ∧ RelsS g H ds xs
  | .obj n, v => ∃ a, v = .ref a ∧ g.ρ[n]? = some a
  | .glob i, v => ∃ a, v = .ref a ∧ g.gA i = some a
def RelsS (g : Gh) (H : Hp) : List D → List V → Prop
  | [], xs => xs = []
  | d :: ds, xs => ∃ x r, xs = x :: r ∧ RelS g H d x ∧ RelsS g H ds r
end
/-- a value on its way: a slot's own list may be read -/
def RelT (g : Gh) (H : Hp) (d : D) (v : V) : Prop := match d with
  | .bor ds => ∃ a xs, v = .ref a ∧ BorAt g H a xs ∧ RelsS g H ds xs
  | d => RelS g H d v
def RelsT (g : Gh) (H : Hp) : List D → List V → Prop
  | [], xs => xs = []
  | d :: ds, xs => ∃ x r, xs = x :: r ∧ RelT g H d x ∧ RelsT g H ds r
theorem RelS.t {g : Gh} {H : Hp} {d : D} {v : V} (h : RelS g H d v) : RelT g H d v := by
  cases d <;> first | exact h | (simp only [RelS] at h)
theorem RelsS.t {g : Gh} {H : Hp} : ∀ {ds : List D} {vs : List V}, RelsS g H ds vs → RelsT g H ds vs
  | [], _, h => by simpa [RelsS, RelsT] using h
  | _ :: _, _, h => by
    simp only [RelsS] at h
    obtain ⟨x, r, e, h1, h2⟩ := h
    exact ⟨x, r, e, h1.t, RelsS.t h2⟩
/-- how a key of a dict is told -/
def isBor : D → Bool
  | .bor _ => true
  | _ => false
theorem RelT.s {g : Gh} {H : Hp} {d : D} {v : V} (h : RelT g H d v) (n : isBor d = false) : RelS g H d v := by
  cases d <;> first | exact h | (simp [isBor] at n)
mutual
/-- a key by value -/
def D.key : D → Option NestedKey
  | .non => some NestedKey.none
  | .bl b => some (NestedKey.num (if b then 1 else 0))
  | .int i => some (NestedKey.num i)
  | .str s => some (NestedKey.text s)
  | .tup ds => (D.keys ds).map NestedKey.tup
  | _ => none
def D.keys : List D → Option (List NestedKey)
  | [] => some []
  | d :: ds => match D.key d, D.keys ds with
    | some k, some ks => some (k :: ks)
    | _, _ => none
end
/-- a key that is an int or a text -/
def keyD : Key → D
  | .inl i => .int i
  | .inr s => .str s
/-- the object of a dict whose keys are tuples -/
def dictAt (P : Program) (w : World) (a : Addr) (xs : List (NestedKey × Addr × Value)) : Heap → Prop := fun h =>
  ∃ o es ep, h.get? a = some o ∧ o.ExactDict ∧ o.data = .dict es ep ∧ es.toList = xs.map (entryOfKey (nestedKind P w))
inductive Dic (P : Program) (w : World) (g : Gh) (H : Hp) (a : Addr) (kvs : List (D × D)) : Prop where
  | k (xs : List (Key × V)) : H a = some (.dK xs) → Paired (fun (p : D × D) (q : Key × V) => p.1 = keyD q.1 ∧ RelS g H p.2 q.2) kvs xs → Dic P w g H a kvs
  | t (xs : List (NestedKey × Addr × Value)) : (a == sysModules) = false → xs.length ≤ sizeLine → (xs.map (·.1)).Nodup → H a = some (.ext (dictAt P w a xs)) →
      Paired (fun (p : D × D) (q : NestedKey × Addr × Value) => D.key p.1 = some q.1 ∧ q.1.depth ≤ 8 ∧ RelS g H p.1 (.ref q.2.1) ∧ ∃ v, RelV v q.2.2 ∧ RelS g H p.2 v) kvs xs → Dic P w g H a kvs
/-- a cell -/
def CellRel (P : Program) (w : World) (g : Gh) (H : Hp) (a : Addr) : OB → Prop
  | .lst ds => ∃ xs, H a = some (.lst xs) ∧ RelsS g H ds xs
  | .dic kvs => Dic P w g H a kvs
  | .ins c fs => ∃ C dx vs, g.gA c = some C ∧ H a = some (.ins C dx vs) ∧ Paired (fun (p : Str × D) (q : Str × V) => p.1 = q.1 ∧ RelS g H p.2 q.2) fs vs
  | .mem M => ∃ kvs, M.P kvs ∧ Dic P w g H a kvs
structure HRel (P : Program) (w : World) (g : Gh) (H : Hp) (h : Cells) : Prop where
  len : g.ρ.length = h.length
  nd : g.ρ.Nodup
  wr : ∀ a ∈ g.ρ, g.W a
  wt : ∀ a u, g.W a → H a = some u → (∀ ys, u ≠ .tup ys) ∧ ∀ ob u', u ≠ .frz ob u'
  at_ : ∀ (n : Nat) a o, g.ρ[n]? = some a → h[n]? = some o → CellRel P w g H a o
/-- what changes while code runs -/
structure Ext (g : Gh) (H : Hp) (g' : Gh) (H' : Hp) : Prop where
  K : g'.K = g.K
  gA : g'.gA = g.gA
  pre : ∃ t, g'.ρ = g.ρ ++ t
  wn : ∀ a, g'.W a → g.W a ∨ H a = none
  wk : ∀ a, g.W a → g'.W a ∨ H a = none
  rw : ∀ a ∈ g'.ρ, g'.W a
  fr : ∀ a o, H a = some o → a ∉ g.ρ → H' a = some o
  nw : ∀ a ∈ g'.ρ, a ∉ g.ρ → H a = none
section
variable {P : Program} {w : World} {g g' g'' : Gh} {H H' H'' : Hp} {h h' : Cells}
theorem Dic.some {a : Addr} {kvs : List (D × D)} (x : Dic P w g H a kvs) : ∃ o, H a = some o ∧ (∀ ys, o ≠ .tup ys) ∧ ∀ ob u, o ≠ .frz ob u := by
  cases x with
  | k xs e _ => exact ⟨_, e, (fun ys z => by cases z), (fun _ _ z => by cases z)⟩
  | t xs _ _ _ e _ => exact ⟨_, e, (fun ys z => by cases z), (fun _ _ z => by cases z)⟩
theorem CellRel.some {a : Addr} {o : OB} (x : CellRel P w g H a o) : ∃ u, H a = some u ∧ (∀ ys, u ≠ .tup ys) ∧ ∀ ob u', u ≠ .frz ob u' := by
  cases o with
  | lst ds => obtain ⟨xs, e, _⟩ := x; exact ⟨_, e, (fun ys z => by cases z), (fun _ _ z => by cases z)⟩
  | dic kvs => exact Dic.some x
  | ins c fs => obtain ⟨C, dx, vs, _, e, _⟩ := x; exact ⟨_, e, (fun ys z => by cases z), (fun _ _ z => by cases z)⟩
  | mem M => obtain ⟨kvs, _, q⟩ := x; exact Dic.some q
theorem HRel.mem (r : HRel P w g H h) {a : Addr} (m : a ∈ g.ρ) : ∃ u, H a = some u ∧ (∀ ys, u ≠ .tup ys) ∧ ∀ ob u', u ≠ .frz ob u' := by
  obtain ⟨n, hn⟩ := List.mem_iff_getElem?.mp m
  have hl : n < h.length := by rw [← r.len]; exact (List.getElem?_eq_some_iff.mp hn).1
  exact (r.at_ n a h[n] hn (by simp [hl])).some
theorem Ext.refl (r : HRel P w g H h) : Ext g H g H := ⟨rfl, rfl, ⟨[], by simp⟩, fun _ z => .inl z, fun _ z => .inl z, r.wr, fun _ _ e _ => e, fun _ z n => absurd z n⟩
theorem Ext.mem (e : Ext g H g' H') {a : Addr} (m : a ∈ g.ρ) : a ∈ g'.ρ := by
  obtain ⟨t, z⟩ := e.pre
  rw [z]; exact List.mem_append_left _ m
theorem Ext.get (e : Ext g H g' H') {n : Nat} {a : Addr} (m : g.ρ[n]? = some a) : g'.ρ[n]? = some a := by
  obtain ⟨t, z⟩ := e.pre
  rw [z, List.getElem?_append_left (List.getElem?_eq_some_iff.mp m).1]; exact m
theorem Ext.trans (a : Ext g H g' H') (b : Ext g' H' g'' H'') : Ext g H g'' H'' where
  K := b.K.trans a.K
  gA := b.gA.trans a.gA
  pre := by
    obtain ⟨t, z⟩ := a.pre
    obtain ⟨t', z'⟩ := b.pre
    exact ⟨t ++ t', by rw [z', z, List.append_assoc]⟩
  wn := fun x hx => by
    rcases b.wn x hx with z | z
    · exact a.wn x z
    · by_cases m : x ∈ g.ρ
      · have q := a.rw x (a.mem m)
        exact a.wn x q
      · cases q : H x with
        | none => exact .inr rfl
        | some o => rw [a.fr x o q m] at z; cases z
  wk := fun x hx => by
    rcases a.wk x hx with z | z
    · rcases b.wk x z with z | z
      · exact .inl z
      · by_cases m : x ∈ g.ρ
        · exact .inl (b.rw x (b.mem (a.mem m)))
        · cases q : H x with
          | none => exact .inr rfl
          | some o => rw [a.fr x o q m] at z; cases z
    · exact .inr z
  rw := b.rw
  fr := fun x o q m => by
    have q' := a.fr x o q m
    by_cases m' : x ∈ g'.ρ
    · have z := a.nw x m' m
      rw [q] at z; cases z
    · exact b.fr x o q' m'
  nw := fun x m n => by
    by_cases m' : x ∈ g'.ρ
    · exact a.nw x m' n
    · have z := b.nw x m m'
      cases q : H x with
      | none => rfl
      | some o => rw [a.fr x o q n] at z; cases z
/-- what changes while statements run: what may be written may be written -/
structure ExtS (g : Gh) (H : Hp) (g' : Gh) (H' : Hp) : Prop where
  K : g'.K = g.K
  gA : g'.gA = g.gA
  pre : ∃ t, g'.ρ = g.ρ ++ t
  wn : ∀ a, g'.W a → g.W a ∨ H a = none
  fr : ∀ a o, H a = some o → ¬ g.W a → H' a = some o
theorem Ext.s (r : HRel P w g H h) (e : Ext g H g' H') : ExtS g H g' H' := ⟨e.K, e.gA, e.pre, e.wn, fun a o q n => e.fr a o q fun m => n (r.wr a m)⟩
theorem ExtS.refl (g : Gh) (H : Hp) : ExtS g H g H := ⟨rfl, rfl, ⟨[], by simp⟩, fun _ z => .inl z, fun _ _ e _ => e⟩
theorem ExtS.trans (a : ExtS g H g' H') (b : ExtS g' H' g'' H'') : ExtS g H g'' H'' where
  K := b.K.trans a.K
  gA := b.gA.trans a.gA
  pre := by
    obtain ⟨t, z⟩ := a.pre
    obtain ⟨t', z'⟩ := b.pre
    exact ⟨t ++ t', by rw [z', z, List.append_assoc]⟩
  wn := fun x hx => by
    rcases b.wn x hx with z | z
    · exact a.wn x z
    · by_cases m : g.W x
      · exact .inl m
      · cases q : H x with
        | none => exact .inr rfl
        | some o => rw [a.fr x o q m] at z; cases z
  fr := fun x o q m => b.fr x o (a.fr x o q m) fun z => by
    rcases a.wn x z with z | z
    · exact m z
    · rw [q] at z; cases z
theorem ExtS.get (e : ExtS g H g' H') {n : Nat} {a : Addr} (m : g.ρ[n]? = some a) : g'.ρ[n]? = some a := by
  obtain ⟨t, z⟩ := e.pre
  rw [z, List.getElem?_append_left (List.getElem?_eq_some_iff.mp m).1]; exact m
theorem SqT.exts (r : HRel P w g H h) (e : ExtS g H g' H') {a : Addr} {xs : List V} (q : SqT g.K H a xs) : SqT g'.K H' a xs := by
  rcases q with q | ⟨o, its, n, q⟩
  · refine .inl ?_
    rcases q with q | ⟨o, q⟩
    · exact .inl (e.fr a _ q fun m => (r.wt a _ m q).1 xs rfl)
    · exact .inr ⟨o, e.fr a _ q fun m => (r.wt a _ m q).2 _ _ rfl⟩
  · exact .inr ⟨o, its, n, by rw [e.K]; exact q⟩
theorem LstAt.exts (e : ExtS g H g' H') {a : Addr} {xs : List V} (q : LstAt g H a xs) : LstAt g' H' a xs := by
  obtain ⟨q, n⟩ := q
  refine ⟨e.fr a _ q n, fun z => ?_⟩
  rcases e.wn a z with z | z
  · exact n z
  · rw [q] at z; cases z
theorem BorAt.ext (r : HRel P w g H h) (e : Ext g H g' H') {a : Addr} {xs : List V} (q : BorAt g H a xs) : BorAt g' H' a xs := by
  obtain ⟨q, n⟩ := q
  refine ⟨e.fr a _ q n, fun z => ?_⟩
  have z := e.nw a z n
  rw [q] at z; cases z
theorem FrzAt.exts (r : HRel P w g H h) (e : ExtS g H g' H') {a : Addr} {xs : List V} (q : FrzAt g H a xs) : FrzAt g' H' a xs := by
  rcases q with ⟨o, q⟩ | q
  · exact .inl ⟨o, e.fr a _ q fun m => (r.wt a _ m q).2 _ _ rfl⟩
  · exact .inr (by rw [e.K]; exact q)
mutual
theorem RelS.exts (r : HRel P w g H h) (e : ExtS g H g' H') : ∀ {d : D} {v : V}, RelS g H d v → RelS g' H' d v
  | .non, _, q | .bl _, _, q | .int _, _, q | .str _, _, q => by simpa only [RelS] using q
  | .tup ds, _, q => by
    simp only [RelS] at q ⊢
    obtain ⟨a, xs, e1, e2, e3⟩ := q
    exact ⟨a, xs, e1, SqT.exts r e e2, RelsS.exts r e e3⟩
  | .lst ds, _, q => by
    simp only [RelS] at q ⊢
    obtain ⟨a, xs, e1, e2, e3⟩ := q
    exact ⟨a, xs, e1, LstAt.exts e e2, RelsS.exts r e e3⟩
  | .bor _, _, q => by simp only [RelS] at q
  | .frz ds, _, q => by
    simp only [RelS] at q ⊢
    obtain ⟨a, xs, e1, e2, e3⟩ := q
    exact ⟨a, xs, e1, FrzAt.exts r e e2, RelsS.exts r e e3⟩
  | .obj n, _, q => by
    simp only [RelS] at q ⊢
    obtain ⟨a, e1, e2⟩ := q
    exact ⟨a, e1, e.get e2⟩
  | .glob i, _, q => by
    simp only [RelS] at q ⊢
    obtain ⟨a, e1, e2⟩ := q
    exact ⟨a, e1, by rw [e.gA]; exact e2⟩
theorem RelsS.exts (r : HRel P w g H h) (e : ExtS g H g' H') : ∀ {ds : List D} {vs : List V}, RelsS g H ds vs → RelsS g' H' ds vs
  | [], _, q => by simpa only [RelsS] using q
  | d :: ds, _, q => by
    simp only [RelsS] at q ⊢
    obtain ⟨x, rr, e1, e2, e3⟩ := q
    exact ⟨x, rr, e1, RelS.exts r e e2, RelsS.exts r e e3⟩
end
theorem RelS.ext (r : HRel P w g H h) (e : Ext g H g' H') {d : D} {v : V} (q : RelS g H d v) : RelS g' H' d v := RelS.exts r (e.s r) q
theorem RelsS.ext (r : HRel P w g H h) (e : Ext g H g' H') {ds : List D} {vs : List V} (q : RelsS g H ds vs) : RelsS g' H' ds vs := RelsS.exts r (e.s r) q
theorem RelT.ext (r : HRel P w g H h) (e : Ext g H g' H') {d : D} {v : V} (q : RelT g H d v) : RelT g' H' d v := by
  cases d with
  | bor ds =>
    obtain ⟨a, xs, e1, e2, e3⟩ := q
    exact ⟨a, xs, e1, BorAt.ext r e e2, RelsS.ext r e e3⟩
  | _ => exact RelS.ext r e (by exact q)
theorem RelsT.ext (r : HRel P w g H h) (e : Ext g H g' H') : ∀ {ds : List D} {vs : List V}, RelsT g H ds vs → RelsT g' H' ds vs
  | [], _, q => q
  | d :: ds, _, q => by
    obtain ⟨x, rr, e1, e2, e3⟩ := q
    exact ⟨x, rr, e1, RelT.ext r e e2, RelsT.ext r e e3⟩
theorem RelsS.len : ∀ {ds : List D} {vs : List V}, RelsS g H ds vs → ds.length = vs.length
  | [], _, q => by simp only [RelsS] at q; rw [q]; rfl
  | d :: ds, _, q => by
    simp only [RelsS] at q
    obtain ⟨x, rr, e1, _, e3⟩ := q
    rw [e1, List.length_cons, List.length_cons, RelsS.len e3]
theorem RelsS.get : ∀ {ds : List D} {vs : List V} {i : Nat} {d : D}, RelsS g H ds vs → ds[i]? = some d → ∃ v, vs[i]? = some v ∧ RelS g H d v
  | [], _, _, _, _, z => by simp at z
  | d :: ds, _, 0, _, q, z => by
    simp only [RelsS] at q
    obtain ⟨x, rr, e1, e2, e3⟩ := q
    simp at z; subst z
    exact ⟨x, by rw [e1]; rfl, e2⟩
  | d :: ds, _, i + 1, _, q, z => by
    simp only [RelsS] at q
    obtain ⟨x, rr, e1, e2, e3⟩ := q
    obtain ⟨v, h1, h2⟩ := RelsS.get (i := i) e3 (by simpa using z)
    exact ⟨v, by rw [e1]; simpa using h1, h2⟩
theorem RelsS.getV : ∀ {ds : List D} {vs : List V} {i : Nat} {v : V}, RelsS g H ds vs → vs[i]? = some v → ∃ d, ds[i]? = some d ∧ RelS g H d v
  | [], _, _, _, q, z => by simp only [RelsS] at q; rw [q] at z; simp at z
  | d :: ds, _, 0, _, q, z => by
    simp only [RelsS] at q
    obtain ⟨x, rr, e1, e2, e3⟩ := q
    rw [e1] at z
    simp at z; subst z
    exact ⟨d, rfl, e2⟩
  | d :: ds, _, i + 1, _, q, z => by
    simp only [RelsS] at q
    obtain ⟨x, rr, e1, e2, e3⟩ := q
    rw [e1] at z
    obtain ⟨d', h1, h2⟩ := RelsS.getV (i := i) e3 (by simpa using z)
    exact ⟨d', by simpa using h1, h2⟩
theorem RelsS.app : ∀ {ds es : List D} {vs us : List V}, RelsS g H ds vs → RelsS g H es us → RelsS g H (ds ++ es) (vs ++ us)
  | [], _, _, _, q, z => by simp only [RelsS] at q; rw [q]; exact z
  | d :: ds, _, _, _, q, z => by
    simp only [RelsS] at q
    obtain ⟨x, rr, e1, e2, e3⟩ := q
    rw [e1]
    exact ⟨x, _, rfl, e2, RelsS.app e3 z⟩
theorem RelsS.one {d : D} {v : V} (q : RelS g H d v) : RelsS g H [d] [v] := ⟨v, [], rfl, q, rfl⟩
theorem RelsS.set : ∀ {ds : List D} {vs : List V} {d : D} {v : V} (i : Nat), RelsS g H ds vs → RelS g H d v → RelsS g H (ds.set i d) (vs.set i v)
  | [], _, _, _, _, q, z => by simp only [RelsS] at q; rw [q]; exact rfl
  | _ :: ds, _, _, _, 0, q, z => by
    simp only [RelsS] at q
    obtain ⟨x, rr, e1, e2, e3⟩ := q
    rw [e1]
    exact ⟨_, rr, rfl, z, e3⟩
  | _ :: ds, _, _, _, i + 1, q, z => by
    simp only [RelsS] at q
    obtain ⟨x, rr, e1, e2, e3⟩ := q
    rw [e1]
    exact ⟨x, _, rfl, e2, RelsS.set i e3 z⟩
theorem RelsS.drop : ∀ {ds : List D} {vs : List V} (n : Nat), RelsS g H ds vs → RelsS g H (ds.drop n) (vs.drop n)
  | _, _, 0, q => q
  | [], _, n + 1, q => by simp only [RelsS] at q; rw [q]; exact rfl
  | _ :: _, _, n + 1, q => by
    simp only [RelsS] at q
    obtain ⟨x, rr, e1, e2, e3⟩ := q
    rw [e1]
    exact RelsS.drop n e3
theorem RelsS.take : ∀ {ds : List D} {vs : List V} (n : Nat), RelsS g H ds vs → RelsS g H (ds.take n) (vs.take n)
  | _, _, 0, q => by simp only [List.take_zero]; exact rfl
  | [], _, n + 1, q => by simp only [RelsS] at q; rw [q]; exact rfl
  | _ :: _, _, n + 1, q => by
    simp only [RelsS] at q
    obtain ⟨x, rr, e1, e2, e3⟩ := q
    rw [e1]
    exact ⟨x, _, rfl, e2, RelsS.take n e3⟩
end
end EV
/-! EV2: readings of the evaluator; names, constants, operators -/
namespace EV
open PySem L2
/-- what a slot holds -/
def SlRel (g : Gh) (own : Nat → Option Addr) (σ : L2.St) (H : Hp) (i : Nat) : Sl → Prop
  | .no => True
  | .val d => ∃ v, σ[i]? = some (some v) ∧ RelS g H d v
  | .own ds => ∃ a xs, own i = some a ∧ σ[i]? = some (some (.ref a)) ∧ H a = some (.lst xs) ∧ RelsS g H ds xs
structure LR (g : Gh) (own : Nat → Option Addr) (env : Ev) (σ : L2.St) (H : Hp) : Prop where
  len : env.length = σ.length
  inj : ∀ i j a, own i = some a → own j = some a → i = j
  ow : ∀ i a, own i = some a → g.W a ∧ a ∉ g.ρ ∧ ∃ o, H a = some o
  sl : ∀ i s, env[i]? = some s → SlRel g own σ H i s
/-- an exception in the air -/
def ExcRel (g : Gh) (H : Hp) (e : Exc) (cls : Value) (d : Option Addr) : Prop :=
  (∃ C, cls = .ref C ∧ g.gA e.cls = some C) ∧ ∃ p vs, d = some p ∧ H p = some (.xd vs) ∧ p ∉ g.ρ ∧ Paired (fun (x : Str × D) (y : Str × V) => x.1 = y.1 ∧ RelS g H x.2 y.2) e.fs vs
structure Gx where
  gA : Nat → Option Addr
  fns : Fns
  Wx : XK
def Post {α : Type} (X : Cx) (G : Gx) (g : Gh) (H : Hp) (r : R α) (K : Gh → Hp → α → Cells → Prop) : Prop := match r with
  | .ok a h' => ∀ g' H', Ext g H g' H' → HRel X.prog X.w g' H' h' → K g' H' a h'
  | .exc e h' => ∀ g' H' cls d, Ext g H g' H' → HRel X.prog X.w g' H' h' → ExcRel g' H' e cls d → G.Wx cls d H'
  | .bad => False
section
variable {α β : Type} {X : Cx} {G : Gx} {g g' : Gh} {H H' : Hp} {h h' : Cells}
theorem Post.mono {r : R α} {K : Gh → Hp → α → Cells → Prop} (p : Post X G g H r K) (e : Ext g H g' H') : Post X G g' H' r K := by
  cases r with
  | ok a h' => exact fun g2 H2 e2 r2 => p g2 H2 (e.trans e2) r2
  | exc x h' => exact fun g2 H2 c d e2 r2 q => p g2 H2 c d (e.trans e2) r2 q
  | bad => exact p
theorem Post.imp {r : R α} {K K' : Gh → Hp → α → Cells → Prop} (p : Post X G g H r K) (k : ∀ g' H' a h', Ext g H g' H' → HRel X.prog X.w g' H' h' → K g' H' a h' → K' g' H' a h') : Post X G g H r K' := by
  cases r with
  | ok a h' => exact fun g2 H2 e2 r2 => k g2 H2 a h' e2 r2 (p g2 H2 e2 r2)
  | exc x h' => exact p
  | bad => exact p
theorem Post.bind {r : R α} {f : α → Cells → R β} {K : Gh → Hp → β → Cells → Prop} (p : Post X G g H (r.bind f) K) : Post X G g H r fun g1 H1 a h1 => Post X G g1 H1 (f a h1) K := by
  cases r with
  | ok a h' => exact fun g2 H2 e2 r2 => Post.mono (show Post X G g H (f a h') K from p) e2
  | exc x h' => exact p
  | bad => exact p
theorem LR.step {own : Nat → Option Addr} {env : Ev} {σ : L2.St} (l : LR g own env σ H) (r : HRel X.prog X.w g H h) (e : Ext g H g' H') : LR g' own env σ H' where
  len := l.len
  inj := l.inj
  ow := fun i a z => by
    obtain ⟨h1, h2, o, h3⟩ := l.ow i a z
    refine ⟨?_, fun m => ?_, o, e.fr a o h3 h2⟩
    · rcases e.wk a h1 with q | q
      · exact q
      · rw [h3] at q; cases q
    · have q := e.nw a m h2
      rw [h3] at q; cases q
  sl := fun i s z => by
    have q := l.sl i s z
    cases s with
    | no => trivial
    | val d =>
      obtain ⟨v, h1, h2⟩ := q
      exact ⟨v, h1, RelS.ext r e h2⟩
    | own ds =>
      obtain ⟨a, xs, h1, h2, h3, h4⟩ := q
      exact ⟨a, xs, h1, h2, e.fr a _ h3 (l.ow i a h1).2.1, RelsS.ext r e h4⟩
theorem Dic.exts {a : Addr} {kvs : List (D × D)} (x : Dic X.prog X.w g H a kvs) (r : HRel X.prog X.w g H h) (e : ExtS g H g' H') (ea : H' a = H a) : Dic X.prog X.w g' H' a kvs := by
  cases x with
  | k xs h1 h2 => exact Dic.k xs (by rw [ea]; exact h1) (Paired.mapP h2 fun _ _ z => ⟨z.1, RelS.exts r e z.2⟩)
  | t xs h1 h2 h3 h4 h5 => exact Dic.t xs h1 h2 h3 (by rw [ea]; exact h4) (Paired.mapP h5 fun _ _ z => ⟨z.1, z.2.1, RelS.exts r e z.2.2.1, let ⟨v, z1, z2⟩ := z.2.2.2; ⟨v, z1, RelS.exts r e z2⟩⟩)
/-- cells stay -/
theorem CellRel.exts {a : Addr} {o : OB} (x : CellRel X.prog X.w g H a o) (r : HRel X.prog X.w g H h) (e : ExtS g H g' H') (ea : H' a = H a) : CellRel X.prog X.w g' H' a o := by
  cases o with
  | lst ds =>
    obtain ⟨xs, h1, h2⟩ := x
    exact ⟨xs, by rw [ea]; exact h1, RelsS.exts r e h2⟩
  | dic kvs =>
    cases (show Dic _ _ _ _ _ _ from x) with
    | k xs h1 h2 => exact Dic.k xs (by rw [ea]; exact h1) (Paired.mapP h2 fun _ _ z => ⟨z.1, RelS.exts r e z.2⟩)
    | t xs h1 h2 h3 h4 h5 => exact Dic.t xs h1 h2 h3 (by rw [ea]; exact h4) (Paired.mapP h5 fun _ _ z => ⟨z.1, z.2.1, RelS.exts r e z.2.2.1, let ⟨v, z1, z2⟩ := z.2.2.2; ⟨v, z1, RelS.exts r e z2⟩⟩)
  | ins c fs =>
    obtain ⟨C, dx, vs, h1, h2, h3⟩ := x
    exact ⟨C, dx, vs, by rw [e.gA]; exact h1, by rw [ea]; exact h2, Paired.mapP h3 fun _ _ z => ⟨z.1, RelS.exts r e z.2⟩⟩
  | mem M =>
    obtain ⟨kvs, h1, h2⟩ := x
    exact ⟨kvs, h1, Dic.exts h2 r e ea⟩
theorem CellRel.ext {a : Addr} {o : OB} (x : CellRel X.prog X.w g H a o) (r : HRel X.prog X.w g H h) (e : Ext g H g' H') (ea : H' a = H a) : CellRel X.prog X.w g' H' a o := x.exts r (e.s r) ea
/-- all cells stand, something else changed -/
theorem HRel.ext (r : HRel X.prog X.w g H h) (e : Ext g H g' H') (eρ : g'.ρ = g.ρ) (ea : ∀ a ∈ g.ρ, H' a = H a) (ew : ∀ a, g'.W a → H' a = H a) : HRel X.prog X.w g' H' h where
  len := by rw [eρ]; exact r.len
  nd := by rw [eρ]; exact r.nd
  wr := e.rw
  wt := fun a u h1 h2 => by
    rcases e.wn a h1 with z | z
    · exact r.wt a u z (by rw [← ew a h1]; exact h2)
    · rw [ew a h1, z] at h2; cases h2
  at_ := fun n a o h1 h2 => by
    rw [eρ] at h1
    exact (r.at_ n a o h1 h2).ext r e (ea a (List.mem_of_getElem? h1))
/-- the ghost with p out of what may be written -/
def Gh.less (g : Gh) (p : Addr) : Gh := { g with W := fun a => g.W a ∧ a ≠ p }
theorem Ext.new (r : HRel X.prog X.w g H h) {p : Addr} {o : HO} (hp : H p = none) : Ext g H (g.less p) (upd H p o) where
  K := rfl
  gA := rfl
  pre := ⟨[], by simp [Gh.less]⟩
  wn := fun a z => .inl z.1
  wk := fun a z => by
    by_cases q : a = p
    · exact .inr (q ▸ hp)
    · exact .inl ⟨z, q⟩
  rw := fun a m => ⟨r.wr a m, fun q => by
    obtain ⟨u, hu, _⟩ := r.mem m
    rw [q, hp] at hu; cases hu⟩
  fr := fun a u z _ => by rw [upd_ne (ne_of_none z hp)]; exact z
  nw := fun a m n => absurd m n
theorem HRel.new (r : HRel X.prog X.w g H h) {p : Addr} {o : HO} (hp : H p = none) : HRel X.prog X.w (g.less p) (upd H p o) h :=
  r.ext (Ext.new r hp) rfl (fun a m => by
    obtain ⟨u, hu, _⟩ := r.mem m
    exact upd_ne (ne_of_none hu hp)) fun a z => upd_ne z.2
/-- a new list by value, a new tuple -/
theorem RelS.newL (r : HRel X.prog X.w g H h) {p : Addr} {xs : List V} {ds : List D} (hp : H p = none) (q : RelsS g H ds xs) : RelS (g.less p) (upd H p (.lst xs)) (.lst ds) (.ref p) :=
  ⟨p, xs, rfl, ⟨upd_same, fun z => z.2 rfl⟩, RelsS.ext r (Ext.new r hp) q⟩
theorem RelS.newT (r : HRel X.prog X.w g H h) {p : Addr} {xs : List V} {ds : List D} (hp : H p = none) (q : RelsS g H ds xs) : RelS (g.less p) (upd H p (.tup xs)) (.tup ds) (.ref p) :=
  ⟨p, xs, rfl, .inl (.inl upd_same), RelsS.ext r (Ext.new r hp) q⟩
end
/-! ### readings -/
structure GOk (X : Cx) (G : Gx) (g : Gh) : Prop where
  K : g.K = X.K
  gA : g.gA = G.gA
theorem GOk.ext {X : Cx} {G : Gx} {g g' : Gh} {H H' : Hp} (o : GOk X G g) (e : Ext g H g' H') : GOk X G g' := ⟨e.K.trans o.K, e.gA.trans o.gA⟩
abbrev DE := Fns → Ev → Cells → R D
abbrev DT := Fns → Ev → Cells → R Bool
abbrev DA := Fns → Ev → Cells → R (List D)
/-- what an evaluation reads as: α told by Rel -/
def tG {α β : Type} (Rel : Gh → Hp → α → β → Prop) (X : Cx) (G : Gx) (de : Fns → Ev → Cells → R α) : L2.St → Hp → (β → Hp → Prop) → Prop := fun σ H Q =>
  ∃ g own env h, GOk X G g ∧ HRel X.prog X.w g H h ∧ LR g own env σ H ∧ Post X G g H (de G.fns env h) fun g' H' d _ => ∀ v, Rel g' H' d v → Q v H'
abbrev tD (X : Cx) (G : Gx) (de : DE) : TE := tG RelT X G de
abbrev tT (X : Cx) (G : Gx) (de : DT) : TT := tG (fun _ _ b v => v = b) X G de
abbrev tA (X : Cx) (G : Gx) (de : DA) : TA := tG RelsT X G de
theorem PE.imp {X : Cx} {e : Expr} {t t' : TE} (h : PE X e t) (k : ∀ σ H Q, t' σ H Q → t σ H Q) : PE X e t' := ⟨fun pins s σ H Q I q => h.run pins s σ H Q I (k σ H Q q)⟩
theorem PT.imp {X : Cx} {e : Expr} {t t' : TT} (h : PT X e t) (k : ∀ σ H Q, t' σ H Q → t σ H Q) : PT X e t' := ⟨fun pins s σ H Q I q => h.run pins s σ H Q I (k σ H Q q)⟩
theorem PW.imp {X : Cx} {e : Expr} {t t' : TT} (h : PW X e t) (k : ∀ σ H Q, t' σ H Q → t σ H Q) : PW X e t' := ⟨fun wh pins s σ H Q I q => h.run wh pins s σ H Q I (k σ H Q q)⟩
theorem PA.imp {X : Cx} {e : List Expr} {t t' : TA} (h : PA X e t) (k : ∀ σ H Q, t' σ H Q → t σ H Q) : PA X e t' := ⟨fun pos pins s σ H Q I q => h.run pos pins s σ H Q I (k σ H Q q)⟩
theorem PS.imp {X : Cx} {e : Stmt} {t t' : TS} (h : PS X e t) (k : ∀ D σ H, t' D σ H → t D σ H) : PS X e t' := ⟨fun pins s σ H D I q => h.run pins s σ H D I (k D σ H q)⟩
theorem PSs.imp {X : Cx} {e : List Stmt} {t t' : TS} (h : PSs X e t) (k : ∀ D σ H, t' D σ H → t D σ H) : PSs X e t' := ⟨fun pins s σ H D I q => h.run pins s σ H D I (k D σ H q)⟩
section
variable {X : Cx} {G : Gx}
/-- first de, then what follows on the value -/
theorem tG.bind {α β α' β' : Type} {Rel : Gh → Hp → α → β → Prop} {Rel' : Gh → Hp → α' → β' → Prop} {de : Fns → Ev → Cells → R α} {f : Fns → Ev → α → Cells → R α'} {σ : L2.St} {H : Hp} {Q : β' → Hp → Prop} {T : β → Hp → Prop}
    (p : tG Rel' X G (fun fn env h => (de fn env h).bind fun a h1 => f fn env a h1) σ H Q)
    (k : ∀ g own env h H1 a v, GOk X G g → HRel X.prog X.w g H1 h → LR g own env σ H1 → Rel g H1 a v → Post X G g H1 (f G.fns env a h) (fun g' H' d _ => ∀ v, Rel' g' H' d v → Q v H') → T v H1) : tG Rel X G de σ H T := by
  obtain ⟨g, own, env, h, o, r, l, p⟩ := p
  refine ⟨g, own, env, h, o, r, l, (Post.bind p).imp fun g1 H1 a h1 e1 r1 p1 v q => ?_⟩
  exact k g1 own env h1 H1 a v (o.ext e1) r1 (l.step r e1) q p1
/-- behind the first: the value stays told -/
theorem tG.mk {α β : Type} {Rel : Gh → Hp → α → β → Prop} {de : Fns → Ev → Cells → R α} {g : Gh} {own : Nat → Option Addr} {env : Ev} {h : Cells} {σ : L2.St} {H : Hp} {Q : β → Hp → Prop} (o : GOk X G g) (r : HRel X.prog X.w g H h) (l : LR g own env σ H)
    (p : Post X G g H (de G.fns env h) fun g' H' d _ => ∀ v, Rel g' H' d v → Q v H') : tG Rel X G de σ H Q := ⟨g, own, env, h, o, r, l, p⟩
/-! ### names, constants -/
def dC (d : D) : DE := fun _ _ h => .ok d h
def dVar (i : Nat) : DE := fun _ env h => match env[i]? with
  | some (.val d) => .ok d h
  | some (.own ds) => .ok (.bor ds) h
  | _ => .bad
theorem Post.now {α : Type} {g : Gh} {H : Hp} {h : Cells} {a : α} {K : Gh → Hp → α → Cells → Prop} (r : HRel X.prog X.w g H h) (p : Post X G g H (.ok a h) K) : K g H a h := p g H (Ext.refl r) r
theorem tG.c {d : D} {v : V} {σ : L2.St} {H : Hp} {Q : VK} (p : tD X G (dC d) σ H Q) (k : ∀ g, GOk X G g → RelT g H d v) : Q v H := by
  obtain ⟨g, own, env, h, o, r, l, p⟩ := p
  exact Post.now r p v (k g o)
theorem s_var {i : Nat} {x : Str} {pos : Pos} (hN : X.N[i]? = some x) (hv : Vis X.env.scope x) (hd : (x == ("__debug__" : Str)) = false) (hcd : (x == ("__classdict__" : Str)) = false) : PE X (.Name x pos) (tD X G (dVar i)) := by
  refine PE.imp (pe_var hN hv hd hcd) fun σ H Q ⟨g, own, env, h, o, r, l, p⟩ => ?_
  unfold dVar at p
  cases e : env[i]? with
  | none => rw [e] at p; exact p.elim
  | some s =>
    rw [e] at p
    have q := l.sl i s e
    cases s with
    | no => exact p.elim
    | val d =>
      obtain ⟨v, h1, h2⟩ := q
      exact ⟨v, h1, Post.now r p v h2.t⟩
    | own ds =>
      obtain ⟨a, xs, h1, h2, h3, h4⟩ := q
      exact ⟨_, h2, Post.now r p _ ⟨a, xs, rfl, ⟨h3, (l.ow i a h1).2.1⟩, h4⟩⟩
theorem s_int {i : Int} {j : Nat} {pos : Pos} : PE X (.Constant (.int i) j pos) (tD X G (dC (.int i))) := PE.imp pe_int fun _ _ _ p => p.c fun _ _ => rfl
theorem s_bl {b : Bool} {j : Nat} {pos : Pos} : PE X (.Constant (.bool b) j pos) (tD X G (dC (.bl b))) := PE.imp pe_bl fun _ _ _ p => p.c fun _ _ => rfl
theorem s_str {x : Str} {j : Nat} {pos : Pos} : PE X (.Constant (.str x) j pos) (tD X G (dC (.str x))) := PE.imp pe_str fun _ _ _ p => p.c fun _ _ => rfl
/-- a global name whose value is known -/
theorem s_glob {x : Str} {d : D} {v : V} {u : Value} {pos : Pos} (hg : Gl X x) (hm : X.mg x = some u) (r : RelV v u) (hd : (x == ("__debug__" : Str)) = false) (k : ∀ g H, GOk X G g → RelS g H d v) : PE X (.Name x pos) (tD X G (dC d)) :=
  PE.imp (pe_glob hg hm r hd) fun _ _ _ p => p.c fun g o => (k g _ o).t
/-! ### operations on values -/
abbrev O1 := D → Cells → R D
abbrev O2 := D → D → Cells → R D
abbrev ON := List D → Cells → R D
def rO1 (X : Cx) (G : Gx) (o : O1) : V → Hp → VK → Prop := fun x H Q => ∃ g h d, GOk X G g ∧ HRel X.prog X.w g H h ∧ RelT g H d x ∧ Post X G g H (o d h) fun g' H' r _ => ∀ v, RelT g' H' r v → Q v H'
def rO2 (X : Cx) (G : Gx) (o : O2) : R2 := fun x y H Q => ∃ g h d e, GOk X G g ∧ HRel X.prog X.w g H h ∧ RelT g H d x ∧ RelT g H e y ∧ Post X G g H (o d e h) fun g' H' r _ => ∀ v, RelT g' H' r v → Q v H'
def rON (X : Cx) (G : Gx) (o : ON) : List V → Hp → VK → Prop := fun xs H Q => ∃ g h ds, GOk X G g ∧ HRel X.prog X.w g H h ∧ RelsT g H ds xs ∧ Post X G g H (o ds h) fun g' H' r _ => ∀ v, RelT g' H' r v → Q v H'
def dOp1 (o : O1) (a : DE) : DE := fun fn env h => (a fn env h).bind fun x h1 => o x h1
def dOp2 (o : O2) (a b : DE) : DE := fun fn env h => (a fn env h).bind fun x h1 => (b fn env h1).bind fun y h2 => o x y h2
def dOpN (o : ON) (a : DA) : DE := fun fn env h => (a fn env h).bind fun xs h1 => o xs h1
variable {a b e : Expr} {da db : DE} {pos : Pos}
theorem tOp2 {o : O2} {σ : L2.St} {H : Hp} {Q : VK} (p : tD X G (dOp2 o da db) σ H Q) : tOp (rO2 X G o) (tD X G da) (tD X G db) σ H Q := by
  refine tG.bind (f := fun fn env x h1 => (db fn env h1).bind fun y h2 => o x y h2) p fun g own env h H1 d v og r l q p1 => ?_
  refine tG.mk og r l ((Post.bind p1).imp fun g2 H2 d2 h2 e2 r2 p2 v2 q2 => ?_)
  exact ⟨g2, h2, d, d2, og.ext e2, r2, RelT.ext r e2 q, q2, p2⟩
theorem tOp1 {o : O1} {σ : L2.St} {H : Hp} {Q : VK} (p : tD X G (dOp1 o da) σ H Q) : tUn (rO1 X G o) (tD X G da) σ H Q :=
  tG.bind (f := fun fn env x h1 => o x h1) p fun g own env h H1 d v og r l q p1 => ⟨g, h, d, og, r, q, p1⟩
theorem s_bin {op : Operator} {o : O2} (ho : OpR X (binaryOp op) (rO2 X G o)) (ha : PE X a (tD X G da)) (hb : PE X b (tD X G db)) : PE X (.BinOp a op b pos) (tD X G (dOp2 o da db)) :=
  PE.imp (pe_op ho ha hb) fun _ _ _ p => tOp2 p
theorem s_un {op : UnaryOp} {o : O1} (ho : UnR X (unaryOp op) (rO1 X G o)) (ha : PE X a (tD X G da)) : PE X (.UnaryOp op a pos) (tD X G (dOp1 o da)) :=
  PE.imp (pe_un ho ha) fun _ _ _ p => tOp1 p
theorem s_cmp {op : CmpOp} {o : O2} (ho : OpR X (compareOp op) (rO2 X G o)) (ha : PE X a (tD X G da)) (hb : PE X b (tD X G db)) (hm : behindInMarks op b = false) : PE X (.Compare a [op] [b] pos) (tD X G (dOp2 o da db)) :=
  PE.imp (pe_cmpR ho ha hb hm) fun _ _ _ p => tOp2 p
/-- a value as a test's answer -/
def asB (r : R D) : R Bool := r.bind fun d h => match d with
  | .bl b => .ok b h
  | _ => .bad
theorem tB_of {de : DE} {σ : L2.St} {H : Hp} {Q : Bool → Hp → Prop} (p : tT X G (fun fn env h => asB (de fn env h)) σ H Q) : tD X G de σ H (fun x H' => ∃ k, x = .bl k ∧ Q k H') := by
  refine tG.bind (f := fun fn env d h => match d with
    | .bl b => .ok b h
    | _ => .bad) p fun g own env h H1 d v og r l q p1 => ?_
  cases d <;> first
    | exact p1.elim
    | exact ⟨_, q, Post.now r p1 _ rfl⟩
theorem s_cmpT {op : CmpOp} {o : O2} (ho : OpR X (compareOp op) (rO2 X G o)) (ha : PE X a (tD X G da)) (hb : PE X b (tD X G db)) (hm : behindInMarks op b = false) : PT X (.Compare a [op] [b] pos) (tT X G fun fn env h => asB (dOp2 o da db fn env h)) :=
  PT.imp (pt_cmpR ho ha hb hm) fun _ _ _ p => by
    obtain ⟨g, own, env, h, og, r, l, q⟩ := tB_of p
    exact tOp2 ⟨g, own, env, h, og, r, l, q⟩
end
end EV
/-! EV3: operations on values -/
namespace EV
open PySem L2
section
open PySem.Spec PyProof.Rows
theorem tmul_none (l : Addr) (items : Array Value) (n : Nat) (dd : Option Addr) (sl : Array (Option Value)) (x : Int) (u : Tok) (e0 : (decide (x < -(2 ^ 63)) || decide (x ≥ 2 ^ 63)) = false)
    (e1 : (items.isEmpty || x == 1) = false) (e2 : (decide (x ≤ 0) || items.isEmpty) = true) :
    Meets (Builtin.«tuple.__mul__» ⟨[.ref l, .int x u], []⟩) (fun _ R s => s.heap.get? l = some { cls := .type "tuple", dict := dd, data := .seq items n, slots := sl } ∧
      R (.ok (.ret (Value.ref s.heap.objs.size))) { s with heap := s.heap.push { cls := Value.type "tuple", data := Data.seq #[] }, toks := s.toks }) :=
  .of_wp fun prog w A R s h => by
    obtain ⟨hp, g, d, tk, os⟩ := s
    obtain ⟨hl, h⟩ := h
    have f1 := AutoSeq1.idx_int
    wp_walk using wpAny_loadPart' hl
    repeat (first
      | (refine wpAny_ite_false (decide_eq_false (by rw [e0]; exact Bool.false_ne_true)) ?_; wp_walk using wpAny_loadPart' hl)
      | (refine wpAny_ite_false (decide_eq_false (by rw [e1]; exact Bool.false_ne_true)) ?_; wp_walk using wpAny_loadPart' hl)
      | (refine wpAny_ite_true (decide_eq_true e2) ?_; wp_walk using wpAny_loadPart' hl)
      | (refine wpAny_ite_false (decide_eq_false (by decide)) ?_; wp_walk using wpAny_loadPart' hl))
    all_goals exact ⟨_, rfl, h⟩
theorem tmul_same (l : Addr) (items : Array Value) (n : Nat) (dd : Option Addr) (sl : Array (Option Value)) (x : Int) (u : Tok) (e0 : (decide (x < -(2 ^ 63)) || decide (x ≥ 2 ^ 63)) = false)
    (e1 : (items.isEmpty || x == 1) = true) :
    Meets (Builtin.«tuple.__mul__» ⟨[.ref l, .int x u], []⟩) (fun _ R s => s.heap.get? l = some { cls := .type "tuple", dict := dd, data := .seq items n, slots := sl } ∧
      R (.ok (.ret (Value.ref l))) s) :=
  .of_wp fun prog w A R s h => by
    obtain ⟨hp, g, d, tk, os⟩ := s
    obtain ⟨hl, h⟩ := h
    have f1 := AutoSeq1.idx_int
    wp_walk using wpAny_loadPart' hl
    repeat (first
      | (refine wpAny_ite_false (decide_eq_false (by rw [e0]; exact Bool.false_ne_true)) ?_; wp_walk using wpAny_loadPart' hl)
      | (refine wpAny_ite_true (decide_eq_true e1) ?_; wp_walk using wpAny_loadPart' hl))
    all_goals exact ⟨_, rfl, h⟩
end
/-- what is a list now -/
def seqL (h : Cells) : D → Option (List D)
  | .lst ds => some ds
  | .bor ds => some ds
  | .frz ds => some ds
  | .obj n => match h[n]? with
    | some (.lst ds) => some ds
    | _ => none
  | _ => none
def seqM (h : Cells) : D → Option (List D)
  | .lst ds => some ds
  | .bor ds => some ds
  | .obj n => match h[n]? with
    | some (.lst ds) => some ds
    | _ => none
  | _ => none
section
variable {X : Cx} {G : Gx} {g : Gh} {H : Hp} {h : Cells}
theorem cell_at (r : HRel X.prog X.w g H h) {n : Nat} {v : V} {o : OB} (q : RelT g H (.obj n) v) (e : h[n]? = some o) : ∃ a, v = .ref a ∧ g.ρ[n]? = some a ∧ CellRel X.prog X.w g H a o := by
  obtain ⟨a, e1, e2⟩ := q
  exact ⟨a, e1, e2, r.at_ n a o e2 e⟩
theorem seqM_ok (r : HRel X.prog X.w g H h) {d : D} {v : V} {ds : List D} (q : RelT g H d v) (e : seqM h d = some ds) : ∃ a xs, v = .ref a ∧ H a = some (.lst xs) ∧ RelsS g H ds xs := by
  cases d with
  | lst es =>
    cases e
    obtain ⟨a, xs, h1, h2, h3⟩ := q
    exact ⟨a, xs, h1, h2.1, h3⟩
  | bor es =>
    cases e
    obtain ⟨a, xs, h1, h2, h3⟩ := q
    exact ⟨a, xs, h1, h2.1, h3⟩
  | obj n =>
    unfold seqM at e
    dsimp only at e
    split at e
    · rename_i es z
      cases e
      obtain ⟨a, h1, _, xs, h2, h3⟩ := cell_at r q z
      exact ⟨a, xs, h1, h2, h3⟩
    · cases e
  | _ => cases e
theorem seqL_ok (og : GOk X G g) (r : HRel X.prog X.w g H h) {d : D} {v : V} {ds : List D} (q : RelT g H d v) (e : seqL h d = some ds) : ∃ a xs, v = .ref a ∧ SqL X.K H a xs ∧ RelsS g H ds xs := by
  cases d with
  | frz es =>
    cases e
    obtain ⟨a, xs, h1, h2, h3⟩ := q
    exact ⟨a, xs, h1, by rw [← og.K]; exact h2.sql, h3⟩
  | lst es =>
    obtain ⟨a, xs, h1, h2, h3⟩ := seqM_ok r q (show seqM h (.lst es) = some ds from e)
    exact ⟨a, xs, h1, .inl (.inl h2), h3⟩
  | bor es =>
    obtain ⟨a, xs, h1, h2, h3⟩ := seqM_ok r q (show seqM h (.bor es) = some ds from e)
    exact ⟨a, xs, h1, .inl (.inl h2), h3⟩
  | obj n =>
    obtain ⟨a, xs, h1, h2, h3⟩ := seqM_ok r q (show seqM h (.obj n) = some ds from e)
    exact ⟨a, xs, h1, .inl (.inl h2), h3⟩
  | _ => cases e
theorem tup_ok (og : GOk X G g) {v : V} {ds : List D} (q : RelT g H (.tup ds) v) : ∃ a xs, v = .ref a ∧ SqT X.K H a xs ∧ RelsS g H ds xs := by
  obtain ⟨a, xs, h1, h2, h3⟩ := q
  exact ⟨a, xs, h1, by rw [← og.K]; exact h2, h3⟩
/-- what follows a new tuple, a new list -/
theorem Post.newT {K : Gh → Hp → D → Cells → Prop} (r : HRel X.prog X.w g H h) {ds : List D} {xs : List V} (q : RelsS g H ds xs) {Q : VK}
    (p : Post X G g H (.ok (.tup ds) h) fun g' H' r _ => ∀ v, RelT g' H' r v → Q v H') : ∀ a, H a = none → Q (.ref a) (upd H a (.tup xs)) := fun a ha =>
  p _ _ (Ext.new r ha) (r.new ha) _ (RelS.newT r ha q)
theorem Post.newL (r : HRel X.prog X.w g H h) {ds : List D} {xs : List V} (q : RelsS g H ds xs) {Q : VK}
    (p : Post X G g H (.ok (.lst ds) h) fun g' H' r _ => ∀ v, RelT g' H' r v → Q v H') : ∀ a, H a = none → Q (.ref a) (upd H a (.lst xs)) := fun a ha =>
  p _ _ (Ext.new r ha) (r.new ha) _ (RelS.newL r ha q)
theorem Post.val {d : D} {v : V} (r : HRel X.prog X.w g H h) (q : RelT g H d v) {Q : VK}
    (p : Post X G g H (.ok d h) fun g' H' r _ => ∀ v, RelT g' H' r v → Q v H') : Q v H := Post.now r p v q
theorem Post.int {i : Int} (r : HRel X.prog X.w g H h) {Q : VK} (p : Post X G g H (.ok (.int i) h) fun g' H' r _ => ∀ v, RelT g' H' r v → Q v H') : Q (.int i) H := Post.now r p _ rfl
theorem Post.bl {i : Bool} (r : HRel X.prog X.w g H h) {Q : VK} (p : Post X G g H (.ok (.bl i) h) fun g' H' r _ => ∀ v, RelT g' H' r v → Q v H') : Q (.bl i) H := Post.now r p _ rfl
theorem Post.str {i : Str} (r : HRel X.prog X.w g H h) {Q : VK} (p : Post X G g H (.ok (.str i) h) fun g' H' r _ => ∀ v, RelT g' H' r v → Q v H') : Q (.str i) H := Post.now r p _ rfl
theorem Post.non (r : HRel X.prog X.w g H h) {Q : VK} (p : Post X G g H (.ok .non h) fun g' H' r _ => ∀ v, RelT g' H' r v → Q v H') : Q .non H := Post.now r p _ rfl
end
/-! ### arithmetic -/
abbrev szL : Nat := 16777216
def dAdd : O2 := fun x y h => match x, y with
  | .int i, .int j => .ok (.int (i + j)) h
  | .str s, .str t => if s.length + t.length ≤ szL then .ok (.str (s ++ t)) h else .bad
  | .tup a, .tup b => if a.length + b.length ≤ szL then .ok (.tup (a ++ b)) h else .bad
  | x, y => match seqM h x, seqM h y with
    | some a, some b => if a.length + b.length ≤ szL then .ok (.lst (a ++ b)) h else .bad
    | _, _ => .bad
def dSub : O2 := fun x y h => match x, y with
  | .int i, .int j => .ok (.int (i - j)) h
  | _, _ => .bad
def small64 (i : Int) : Bool := decide (-(2 ^ 64) < i) && decide (i < 2 ^ 64)
def reps {α : Type} (k : Nat) (xs : List α) : List α := (List.replicate k xs).flatten
def dMul : O2 := fun x y h => match x, y with
  | .int i, .int j => if small64 i || small64 j then .ok (.int (i * j)) h else .bad
  | .tup a, .int k => if a.isEmpty then .bad else if 2 ≤ k && decide (k ≤ 1000) && decide (a.length ≤ 1000) then .ok (.tup (reps k.toNat a)) h else
      if k = 1 then .ok (.tup a) h else if decide (k ≤ 0) && decide (-1000 ≤ k) then .ok (.tup []) h else .bad
  | x, .int k => match seqM h x with
    | some a => if decide (-1000000 ≤ k) && decide (k ≤ 1000000) && decide (a.length * k.toNat ≤ szL) then .ok (.lst (reps k.toNat a)) h else .bad
    | none => .bad
  | _, _ => .bad
def dFdiv : O2 := fun x y h => match x, y with
  | .int i, .int j => if decide (0 < j) && decide (j < 1073741824) then .ok (.int (i / j)) h else .bad
  | _, _ => .bad
def dMod : O2 := fun x y h => match x, y with
  | .int i, .int j => if 0 < j then .ok (.int (i % j)) h else .bad
  | _, _ => .bad
def dPow : O2 := fun x y h => match x, y with
  | .int i, .int j => if decide (0 ≤ j) && decide (j ≤ 1000000) && decide (i.natAbs < 2 ^ 64) then .ok (.int (i ^ j.toNat)) h else .bad
  | _, _ => .bad
def dNeg : O1 := fun x h => match x with
  | .int i => .ok (.int (-i)) h
  | _ => .bad
section
variable {X : Cx} {G : Gx}
theorem lineE : sizeLine = 16777216 := sizeLine_eq
theorem RelsS.nil_iff {g : Gh} {H : Hp} {ds : List D} {xs : List V} (q : RelsS g H ds xs) : ds = [] ↔ xs = [] := by
  have e := q.len
  constructor
  · intro z; subst z; exact List.length_eq_zero_iff.mp e.symm
  · intro z; subst z; exact List.length_eq_zero_iff.mp e
theorem o_add : OpR X (binaryOp .Add) (rO2 X G dAdd) := by
  intro pins s σ H x y v u Q I rx ry hp
  obtain ⟨g, h, d, e, og, r, qd, qe, p⟩ := hp
  unfold dAdd at p
  split at p
  · rename_i i j
    cases (show x = V.int i from qd); cases (show y = V.int j from qe)
    exact op_add pins s σ H _ _ v u Q I rx ry ⟨i, j, rfl, rfl, Post.int r p⟩
  · rename_i i j
    cases (show x = V.str i from qd); cases (show y = V.str j from qe)
    split at p
    · rename_i hz
      exact op_add_str pins s σ H _ _ v u Q I rx ry ⟨i, j, rfl, rfl, by rw [lineE]; exact hz, Post.str r p⟩
    · exact p.elim
  · rename_i a b
    split at p
    · rename_i hz
      obtain ⟨a1, xs, rfl, h1, h2⟩ := tup_ok og qd
      obtain ⟨a2, ys, rfl, h3, h4⟩ := tup_ok og qe
      refine op_catA pins s σ H _ _ v u Q I rx ry ⟨a1, a2, xs, ys, rfl, rfl, h1, h3, by rw [lineE, ← h2.len, ← h4.len]; exact hz, fun z => ?_, fun _ z => ?_, fun _ _ => Post.newT (K := fun _ _ _ _ => True) r (h2.app h4) p⟩
      · have z' := h2.nil_iff.mpr z
        subst z'
        exact Post.val r (by rw [List.nil_append]; exact qe) p
      · have z' := h4.nil_iff.mpr z
        subst z'
        exact Post.val r (by rw [List.append_nil]; exact qd) p
    · exact p.elim
  · split at p
    · rename_i a b e1 e2
      split at p
      · rename_i hz
        obtain ⟨a1, xs, rfl, h1, h2⟩ := seqM_ok r qd e1
        obtain ⟨a2, ys, rfl, h3, h4⟩ := seqM_ok r qe e2
        exact op_cat pins s σ H _ _ v u Q I rx ry ⟨a1, a2, xs, ys, rfl, rfl, h1, h3, by rw [lineE, ← h2.len, ← h4.len]; exact hz, Post.newL r (h2.app h4) p⟩
      · exact p.elim
    · exact p.elim
theorem o_sub : OpR X (binaryOp .Sub) (rO2 X G dSub) := by
  intro pins s σ H x y v u Q I rx ry hp
  obtain ⟨g, h, d, e, og, r, qd, qe, p⟩ := hp
  unfold dSub at p
  split at p
  · rename_i i j
    cases (show x = V.int i from qd); cases (show y = V.int j from qe)
    exact op_sub pins s σ H _ _ v u Q I rx ry ⟨i, j, rfl, rfl, Post.int r p⟩
  · exact p.elim
theorem RelsS.reps {g : Gh} {H : Hp} {ds : List D} {xs : List V} (q : RelsS g H ds xs) : ∀ k : Nat, RelsS g H (EV.reps k ds) (List.replicate k xs).flatten
  | 0 => rfl
  | k + 1 => by
    have ih := RelsS.reps q k
    unfold EV.reps at ih ⊢
    rw [List.replicate_succ, List.replicate_succ, List.flatten_cons, List.flatten_cons]
    exact q.app ih
theorem o_tmul1 {pins : List (Addr × Obj)} {σ : L2.St} {H : Hp} {s : Shared} {l : Addr} {xs : List V} {v u : Value} {Q : VK} (I : Inv X pins σ H s) (hT : SqT X.K H l xs) (rx : RelV (.ref l) v) (ry : RelV (.int 1) u) (q : Q (.ref l) H) :
    wpAny (model X.prog X.w) X.A (binaryOp .Mult v u) (EP X pins σ Q) X.xe s := by
  cases rx
  obtain ⟨t, rfl⟩ := ry
  obtain ⟨its, r, ⟨⟨cls, dd, data, sl⟩, ho, hc, n, hd⟩, hs⟩ := I.tuple hT
  simp only at hc hd
  subst hc hd
  refine wpAny_binaryOp_repeat_ref (T := "tuple") (U := "int") (by decide) ⟨_, ho, rfl⟩ (fun s' => typeIs_int s' 1 t) noFill_tuple_mul F.fills_int_mul F.slot_int_rmul repeat_tuple F.slot_int_index.lookup
    (call_meets F.slot_int_rmul (typeIs_int s 1 t) F.entry_int_rmul (F.args_int_rmul_2 _ _) (int_rmul_tuple 1 t l its.toArray n dd sl)
      ⟨ho, rfl, ⟨_, ho, rfl⟩, call_meets F.slot_tuple_mul ⟨_, ho, rfl⟩ F.entry_tuple_mul (F.args_tuple_mul_2 _ _) (tmul_same l its.toArray n dd sl 1 t (by decide) (by simp)) ⟨ho, ?_⟩⟩)
  exact ⟨V.ref l, H, I, rfl, q⟩
theorem o_tmul0 {pins : List (Addr × Obj)} {σ : L2.St} {H : Hp} {s : Shared} {l : Addr} {xs : List V} {v u : Value} {Q : VK} {k : Int} (I : Inv X pins σ H s) (hT : SqT X.K H l xs) (hne : xs ≠ []) (rx : RelV (.ref l) v) (ry : RelV (.int k) u)
    (h0 : k ≤ 0) (h1 : -1000 ≤ k) (q : ∀ p, H p = none → Q (.ref p) (upd H p (.tup []))) : wpAny (model X.prog X.w) X.A (binaryOp .Mult v u) (EP X pins σ Q) X.xe s := by
  cases rx
  obtain ⟨t, rfl⟩ := ry
  obtain ⟨its, r, ⟨⟨cls, dd, data, sl⟩, ho, hc, n, hd⟩, hs⟩ := I.tuple hT
  simp only at hc hd
  subst hc hd
  have hn : its ≠ [] := fun e => hne (by rw [e] at r; cases r; rfl)
  have hi : its.toArray.isEmpty = false := by
    cases its with
    | nil => exact absurd rfl hn
    | cons a b => rfl
  have c0 : (decide (k < -(2 ^ 63)) || decide (k ≥ 2 ^ 63)) = false := by
    rw [decide_eq_false (by omega), decide_eq_false (by omega)] <;> rfl
  have c1 : (its.toArray.isEmpty || k == 1) = false := by
    rw [hi, Bool.false_or]
    exact beq_eq_false_iff_ne.mpr (by omega)
  refine wpAny_binaryOp_repeat_ref (T := "tuple") (U := "int") (by decide) ⟨_, ho, rfl⟩ (fun s' => typeIs_int s' k t) noFill_tuple_mul F.fills_int_mul F.slot_int_rmul repeat_tuple F.slot_int_index.lookup
    (call_meets F.slot_int_rmul (typeIs_int s k t) F.entry_int_rmul (F.args_int_rmul_2 _ _) (int_rmul_tuple k t l its.toArray n dd sl)
      ⟨ho, rfl, ⟨_, ho, rfl⟩, call_meets F.slot_tuple_mul ⟨_, ho, rfl⟩ F.entry_tuple_mul (F.args_tuple_mul_2 _ _) (tmul_none l its.toArray n dd sl k t c0 c1 (by rw [hi, Bool.or_false]; exact decide_eq_true h0)) ⟨ho, ?_⟩⟩)
  refine ⟨.ref s.heap.objs.size, _, I.laid (t' := s.toks) (o := .tup []) (fun b ob q => Heap.get?_push_of_some _ q) (Nat.le_refl _) ⟨Nat.zero_le _, [], .nil, PyProof.Rows.IsTup.new _ _⟩, rfl, q _ (I.hok.fresh (Nat.le_refl _))⟩
theorem o_mul : OpR X (binaryOp .Mult) (rO2 X G dMul) := by
  intro pins s σ H x y v u Q I rx ry hp
  obtain ⟨g, h, d, e, og, r, qd, qe, p⟩ := hp
  unfold dMul at p
  split at p
  · rename_i i j
    cases (show x = V.int i from qd); cases (show y = V.int j from qe)
    split at p
    · rename_i hz
      refine op_mul pins s σ H _ _ v u Q I rx ry ⟨i, j, rfl, rfl, ?_, Post.int r p⟩
      simp only [small64, Bool.or_eq_true, Bool.and_eq_true, decide_eq_true_eq] at hz
      exact hz
    · exact p.elim
  · rename_i a k
    cases (show y = V.int k from qe)
    obtain ⟨l, xs, rfl, h1, h2⟩ := tup_ok og qd
    split at p
    · exact p.elim
    · rename_i ne
      have hne : xs ≠ [] := fun z => ne (by rw [h2.nil_iff.mpr z]; rfl)
      split at p
      · rename_i hz
        simp only [Bool.and_eq_true, decide_eq_true_eq] at hz
        refine op_repT pins s σ H _ _ v u Q I rx ry ⟨l, k, xs, rfl, rfl, h1, hne, hz.1.1, hz.1.2, by rw [← h2.len]; exact hz.2, Post.newT (K := fun _ _ _ _ => True) r (h2.reps k.toNat) p⟩
      · split at p
        · rename_i hk
          subst hk
          exact o_tmul1 I h1 rx ry (Post.val r qd p)
        · split at p
          · rename_i hk
            simp only [Bool.and_eq_true, decide_eq_true_eq] at hk
            exact o_tmul0 I h1 hne rx ry hk.1 hk.2 (Post.newT (K := fun _ _ _ _ => True) (xs := []) (ds := []) r rfl p)
          · exact p.elim
  · rename_i x1 k n1 n2
    cases (show y = V.int k from qe)
    split at p
    · rename_i a ea
      split at p
      · rename_i hz
        simp only [Bool.and_eq_true, decide_eq_true_eq] at hz
        obtain ⟨l, xs, rfl, h1, h2⟩ := seqM_ok r qd ea
        refine op_rep pins s σ H _ _ v u Q I rx ry ⟨l, k, xs, rfl, rfl, h1, by omega, by omega, by rw [lineE, ← h2.len]; exact hz.2, Post.newL r (h2.reps k.toNat) p⟩
      · exact p.elim
    · exact p.elim
  · exact p.elim
theorem o_fdiv : OpR X (binaryOp .FloorDiv) (rO2 X G dFdiv) := by
  intro pins s σ H x y v u Q I rx ry hp
  obtain ⟨g, h, d, e, og, r, qd, qe, p⟩ := hp
  unfold dFdiv at p
  split at p
  · rename_i i j
    cases (show x = V.int i from qd); cases (show y = V.int j from qe)
    split at p
    · rename_i hz
      simp only [Bool.and_eq_true, decide_eq_true_eq] at hz
      exact op_fdiv pins s σ H _ _ v u Q I rx ry ⟨i, j, rfl, rfl, hz, Post.int r p⟩
    · exact p.elim
  · exact p.elim
theorem o_mod : OpR X (binaryOp .Mod) (rO2 X G dMod) := by
  intro pins s σ H x y v u Q I rx ry hp
  obtain ⟨g, h, d, e, og, r, qd, qe, p⟩ := hp
  unfold dMod at p
  split at p
  · rename_i i j
    cases (show x = V.int i from qd); cases (show y = V.int j from qe)
    split at p
    · rename_i hz
      exact op_mod pins s σ H _ _ v u Q I rx ry ⟨i, j, rfl, rfl, hz, Post.int r p⟩
    · exact p.elim
  · exact p.elim
theorem o_pow : OpR X (binaryOp .Pow) (rO2 X G dPow) := by
  intro pins s σ H x y v u Q I rx ry hp
  obtain ⟨g, h, d, e, og, r, qd, qe, p⟩ := hp
  unfold dPow at p
  split at p
  · rename_i i j
    cases (show x = V.int i from qd); cases (show y = V.int j from qe)
    split at p
    · rename_i hz
      simp only [Bool.and_eq_true, decide_eq_true_eq] at hz
      exact op_pow pins s σ H _ _ v u Q I rx ry ⟨i, j, rfl, rfl, ⟨hz.1.1, hz.1.2, hz.2⟩, Post.int r p⟩
    · exact p.elim
  · exact p.elim
theorem o_neg : UnR X (unaryOp .USub) (rO1 X G dNeg) := by
  intro pins s σ H x v Q I rx hp
  obtain ⟨g, h, d, og, r, qd, p⟩ := hp
  unfold dNeg at p
  split at p
  · rename_i i
    cases (show x = V.int i from qd)
    exact un_neg pins s σ H _ v Q I rx ⟨i, rfl, Post.int r p⟩
  · exact p.elim
end
end EV
/-! EV4: comparisons, truth, subscripts, slices -/
namespace EV
open PySem L2
mutual
/-- data without cells -/
def D.pd : D → Option PyData
  | .non => some PyData.none
  | .bl b => some (PyData.bool b)
  | .int i => some (PyData.int i)
  | .str s => some (PyData.str s)
  | .tup ds => (D.pds ds).map PyData.tuple
  | .lst ds => (D.pds ds).map PyData.list
  | .bor ds => (D.pds ds).map PyData.list
  | .frz ds => (D.pds ds).map PyData.list
  | .obj _ => none
  | .glob _ => none
def D.pds : List D → Option (List PyData)
  | [] => some []
  | d :: ds => match D.pd d, D.pds ds with
    | some x, some xs => some (x :: xs)
    | _, _ => none
end
def pdH (h : Cells) (d : D) : Option PyData := match d with
  | .obj n => match h[n]? with
    | some (.lst ds) => (D.pds ds).map PyData.list
    | _ => none
  | d => D.pd d
section
variable {X : Cx} {G : Gx} {g : Gh} {H : Hp} {h : Cells}
mutual
theorem dp_of (og : GOk X G g) : ∀ {d : D} {v : V} {p : PyData}, RelS g H d v → D.pd d = some p → Dp X.K H v p
  | .non, v, p, q, e => by simp only [D.pd] at e; cases e; cases (show v = .non from q); exact .non
  | .bl b, v, p, q, e => by simp only [D.pd] at e; cases e; cases (show v = .bl b from q); exact .bl b
  | .int b, v, p, q, e => by simp only [D.pd] at e; cases e; cases (show v = .int b from q); exact .int b
  | .str b, v, p, q, e => by simp only [D.pd] at e; cases e; cases (show v = .str b from q); exact .str b
  | .tup ds, v, p, q, e => by
    simp only [D.pd] at e
    obtain ⟨ps, e1, rfl⟩ := Option.map_eq_some_iff.mp e
    obtain ⟨a, xs, rfl, h1, h2⟩ := tup_ok og (RelS.t q)
    exact .tup h1 (dps_of og h2 e1)
  | .lst ds, v, p, q, e => by
    simp only [D.pd] at e
    obtain ⟨ps, e1, rfl⟩ := Option.map_eq_some_iff.mp e
    obtain ⟨a, xs, rfl, h1, h2⟩ := q
    exact .lst (.inl (.inl h1.1)) (dps_of og h2 e1)
  | .bor ds, v, p, q, e => by simp only [RelS] at q
  | .frz ds, v, p, q, e => by
    simp only [D.pd] at e
    obtain ⟨ps, e1, rfl⟩ := Option.map_eq_some_iff.mp e
    obtain ⟨a, xs, rfl, h1, h2⟩ := q
    exact .lst (by rw [← og.K]; exact h1.sql) (dps_of og h2 e1)
  | .obj _, v, p, q, e => by simp only [D.pd] at e; cases e
  | .glob _, v, p, q, e => by simp only [D.pd] at e; cases e
theorem dps_of (og : GOk X G g) : ∀ {ds : List D} {vs : List V} {ps : List PyData}, RelsS g H ds vs → D.pds ds = some ps → DpAll X.K H vs ps
  | [], vs, ps, q, e => by simp only [D.pds] at e; cases e; cases (show vs = [] from q); exact .nil
  | d :: ds, vs, ps, q, e => by
    simp only [RelsS] at q
    obtain ⟨x, rr, rfl, h1, h2⟩ := q
    simp only [D.pds] at e
    split at e
    · rename_i y ys e1 e2
      cases e
      exact .cons (dp_of og h1 e1) (dps_of og h2 e2)
    · cases e
end
theorem dpH_of (og : GOk X G g) (r : HRel X.prog X.w g H h) {d : D} {v : V} {p : PyData} (q : RelT g H d v) (e : pdH h d = some p) : Dp X.K H v p := by
  cases d with
  | obj n =>
    unfold pdH at e
    dsimp only at e
    split at e
    · rename_i ds z
      obtain ⟨ps, e1, rfl⟩ := Option.map_eq_some_iff.mp e
      obtain ⟨a, xs, rfl, h1, h2⟩ := seqL_ok og r (d := .obj n) (ds := ds) q (by unfold seqL; simp only [z])
      exact .lst h1 (dps_of og h2 e1)
    · cases e
  | bor ds =>
    have e' : (D.pds ds).map PyData.list = some p := by simpa only [pdH, D.pd] using e
    obtain ⟨ps, e1, rfl⟩ := Option.map_eq_some_iff.mp e'
    obtain ⟨a, xs, rfl, h1, h2⟩ := seqL_ok og r (d := .bor ds) (ds := ds) q rfl
    exact .lst h1 (dps_of og h2 e1)
  | _ => exact dp_of og (by exact q) (by exact e)
end
/-! ### ==, != -/
def dEq : O2 := fun x y h => match x, y with
  | .int i, .int j => .ok (.bl (decide (i = j))) h
  | .str i, .str j => .ok (.bl (decide (i = j))) h
  | .bl i, .bl j => .ok (.bl (decide (i = j))) h
  | x, y => match pdH h x, pdH h y with
    | some p, some q => if SeqAt.shaped p && SeqAt.shaped q then .ok (.bl (PyData.eqv p q)) h else .bad
    | _, _ => .bad
def dNe : O2 := fun x y h => match x, y with
  | .int i, .int j => .ok (.bl (!decide (i = j))) h
  | .str i, .str j => .ok (.bl (!decide (i = j))) h
  | .bl i, .bl j => .ok (.bl (!decide (i = j))) h
  | x, y => match pdH h x, pdH h y with
    | some p, some q => if SeqAt.shaped p && SeqAt.shaped q then .ok (.bl (!PyData.eqv p q)) h else .bad
    | _, _ => .bad
/-! ### order -/
def dLt : O2 := fun x y h => match x, y with
  | .int i, .int j => .ok (.bl (decide (i < j))) h
  | _, _ => .bad
def dLe : O2 := fun x y h => match x, y with
  | .int i, .int j => .ok (.bl (decide (i ≤ j))) h
  | _, _ => .bad
def dGt : O2 := fun x y h => match x, y with
  | .int i, .int j => .ok (.bl (decide (j < i))) h
  | _, _ => .bad
def dGe : O2 := fun x y h => match x, y with
  | .int i, .int j => .ok (.bl (decide (j ≤ i))) h
  | _, _ => .bad
/-! ### is -/
def dIs : O2 := fun x y h => match x, y with
  | .bl a, .bl b => .ok (.bl (decide (a = b))) h
  | .non, .non => .ok (.bl true) h
  | _, .non => .ok (.bl false) h
  | _, _ => .bad
def dIsNot : O2 := fun x y h => match x, y with
  | .bl a, .bl b => .ok (.bl (!decide (a = b))) h
  | .non, .non => .ok (.bl false) h
  | _, .non => .ok (.bl true) h
  | _, _ => .bad
/-! ### in -/
def seqT (h : Cells) : D → Option (List D)
  | .tup ds => some ds
  | d => seqL h d
section
variable {X : Cx} {G : Gx}
theorem o_eq (hu : X.A.units + 64 < cLine) : OpR X (compareOp .Eq) (rO2 X G dEq) := by
  intro pins s σ H x y v u Q I rx ry hp
  obtain ⟨g, h, d, e, og, r, qd, qe, p⟩ := hp
  unfold dEq at p
  split at p
  · rename_i i j
    cases (show x = V.int i from qd); cases (show y = V.int j from qe)
    refine op_eq pins s σ H _ _ v u Q I rx ry ⟨rfl, ?_⟩
    have e : decide (V.int i = V.int j) = decide (i = j) := by simp
    rw [e]
    exact Post.bl r p
  · rename_i i j
    cases (show x = V.str i from qd); cases (show y = V.str j from qe)
    refine op_eq pins s σ H _ _ v u Q I rx ry ⟨rfl, ?_⟩
    have e : decide (V.str i = V.str j) = decide (i = j) := by simp
    rw [e]
    exact Post.bl r p
  · rename_i i j
    cases (show x = V.bl i from qd); cases (show y = V.bl j from qe)
    refine op_eq pins s σ H _ _ v u Q I rx ry ⟨rfl, ?_⟩
    have e : decide (V.bl i = V.bl j) = decide (i = j) := by simp
    rw [e]
    exact Post.bl r p
  · split at p
    · rename_i p1 p2 e1 e2
      split at p
      · rename_i hz
        rw [Bool.and_eq_true] at hz
        exact op_eqD hu pins s σ H _ _ v u Q I rx ry ⟨p1, p2, dpH_of og r qd e1, dpH_of og r qe e2, hz.1, hz.2, Post.bl r p⟩
      · exact p.elim
    · exact p.elim
theorem o_ne (hu : X.A.units + 64 < cLine) : OpR X (compareOp .NotEq) (rO2 X G dNe) := by
  intro pins s σ H x y v u Q I rx ry hp
  obtain ⟨g, h, d, e, og, r, qd, qe, p⟩ := hp
  unfold dNe at p
  split at p
  · rename_i i j
    cases (show x = V.int i from qd); cases (show y = V.int j from qe)
    refine op_ne pins s σ H _ _ v u Q I rx ry ⟨rfl, ?_⟩
    have e : (!decide (V.int i = V.int j)) = (!decide (i = j)) := by simp
    rw [e]
    exact Post.bl r p
  · rename_i i j
    cases (show x = V.str i from qd); cases (show y = V.str j from qe)
    refine op_ne pins s σ H _ _ v u Q I rx ry ⟨rfl, ?_⟩
    have e : (!decide (V.str i = V.str j)) = (!decide (i = j)) := by simp
    rw [e]
    exact Post.bl r p
  · rename_i i j
    cases (show x = V.bl i from qd); cases (show y = V.bl j from qe)
    refine op_ne pins s σ H _ _ v u Q I rx ry ⟨rfl, ?_⟩
    have e : (!decide (V.bl i = V.bl j)) = (!decide (i = j)) := by simp
    rw [e]
    exact Post.bl r p
  · split at p
    · rename_i p1 p2 e1 e2
      split at p
      · rename_i hz
        rw [Bool.and_eq_true] at hz
        exact op_neD hu pins s σ H _ _ v u Q I rx ry ⟨p1, p2, dpH_of og r qd e1, dpH_of og r qe e2, hz.1, hz.2, Post.bl r p⟩
      · exact p.elim
    · exact p.elim
theorem o_lt : OpR X (compareOp .Lt) (rO2 X G dLt) := by
  intro pins s σ H x y v u Q I rx ry hp
  obtain ⟨g, h, d, e, og, r, qd, qe, p⟩ := hp
  unfold dLt at p
  split at p
  · rename_i i j
    cases (show x = V.int i from qd); cases (show y = V.int j from qe)
    exact op_lt pins s σ H _ _ v u Q I rx ry ⟨i, j, rfl, rfl, Post.bl r p⟩
  · exact p.elim
theorem o_le : OpR X (compareOp .LtE) (rO2 X G dLe) := by
  intro pins s σ H x y v u Q I rx ry hp
  obtain ⟨g, h, d, e, og, r, qd, qe, p⟩ := hp
  unfold dLe at p
  split at p
  · rename_i i j
    cases (show x = V.int i from qd); cases (show y = V.int j from qe)
    exact op_le pins s σ H _ _ v u Q I rx ry ⟨i, j, rfl, rfl, Post.bl r p⟩
  · exact p.elim
theorem o_gt : OpR X (compareOp .Gt) (rO2 X G dGt) := by
  intro pins s σ H x y v u Q I rx ry hp
  obtain ⟨g, h, d, e, og, r, qd, qe, p⟩ := hp
  unfold dGt at p
  split at p
  · rename_i i j
    cases (show x = V.int i from qd); cases (show y = V.int j from qe)
    exact op_gt pins s σ H _ _ v u Q I rx ry ⟨i, j, rfl, rfl, Post.bl r p⟩
  · exact p.elim
theorem o_ge : OpR X (compareOp .GtE) (rO2 X G dGe) := by
  intro pins s σ H x y v u Q I rx ry hp
  obtain ⟨g, h, d, e, og, r, qd, qe, p⟩ := hp
  unfold dGe at p
  split at p
  · rename_i i j
    cases (show x = V.int i from qd); cases (show y = V.int j from qe)
    exact op_ge pins s σ H _ _ v u Q I rx ry ⟨i, j, rfl, rfl, Post.bl r p⟩
  · exact p.elim
theorem ne_non {g : Gh} {H : Hp} {d : D} {x : V} (q : RelT g H d x) (n : d ≠ .non) : x ≠ .non := by
  intro e
  subst e
  cases d with
  | non => exact n rfl
  | bl b => exact nomatch (show V.non = V.bl b from q)
  | int b => exact nomatch (show V.non = V.int b from q)
  | str b => exact nomatch (show V.non = V.str b from q)
  | tup ds => obtain ⟨a, xs, z, _⟩ := q; cases z
  | lst ds => obtain ⟨a, xs, z, _⟩ := q; cases z
  | bor ds => obtain ⟨a, xs, z, _⟩ := q; cases z
  | frz ds => obtain ⟨a, xs, z, _⟩ := q; cases z
  | obj n => obtain ⟨a, z, _⟩ := q; cases z
  | glob n => obtain ⟨a, z, _⟩ := q; cases z
theorem o_isnot : OpR X (compareOp .IsNot) (rO2 X G dIsNot) := by
  intro pins s σ H x y v u Q I rx ry hp
  obtain ⟨g, h, d, e, og, r, qd, qe, p⟩ := hp
  unfold dIsNot at p
  split at p
  · rename_i i j
    cases (show x = V.bl i from qd); cases (show y = V.bl j from qe)
    exact op_isnot_bl pins s σ H _ _ v u Q I rx ry ⟨i, j, rfl, rfl, Post.bl r p⟩
  · cases (show x = V.non from qd); cases (show y = V.non from qe)
    exact op_notN pins s σ H _ _ v u Q I rx ry ⟨rfl, Post.bl r p⟩
  · rename_i n1
    cases (show y = V.non from qe)
    refine op_notN pins s σ H _ _ v u Q I rx ry ⟨rfl, ?_⟩
    rw [decide_eq_false (ne_non qd fun z => n1 z)]
    exact Post.bl r p
  · exact p.elim
end
/-! ### truth -/
def dTru : D → Cells → R Bool := fun x h => match x with
  | .bl b => .ok b h
  | .non => .ok false h
  | .int i => .ok (i != 0) h
  | .str s => if s.length ≤ szL then .ok ((s.length : Int) != 0) h else .bad
  | .tup ds => .ok (!ds.isEmpty) h
  | x => match seqL h x with
    | some ds => .ok (!ds.isEmpty) h
    | none => .bad
section
variable {X : Cx} {G : Gx}
def rTru (X : Cx) (G : Gx) : V → Hp → (Bool → Hp → Prop) → Prop := fun x H Q => ∃ g h d, GOk X G g ∧ HRel X.prog X.w g H h ∧ RelT g H d x ∧ Post X G g H (dTru d h) fun g' H' b _ => ∀ v, v = b → Q v H'
theorem RelsS.empty {g : Gh} {H : Hp} {ds : List D} {xs : List V} (q : RelsS g H ds xs) : ds.isEmpty = xs.isEmpty := by
  have e := q.len
  cases ds <;> cases xs <;> first | rfl | (simp at e)
theorem tru_of {x : V} {H : Hp} {Q : Bool → Hp → Prop} (hp : rTru X G x H Q) : ∃ k, TruV X.K x H k ∧ Q k H := by
  obtain ⟨g, h, d, og, r, qd, p⟩ := hp
  unfold dTru at p
  split at p
  · rename_i b
    cases (show x = V.bl b from qd)
    exact ⟨b, rfl, Post.now r p _ rfl⟩
  · cases (show x = V.non from qd)
    exact ⟨false, rfl, Post.now r p _ rfl⟩
  · rename_i b
    cases (show x = V.int b from qd)
    exact ⟨_, rfl, Post.now r p _ rfl⟩
  · rename_i b
    cases (show x = V.str b from qd)
    split at p
    · rename_i hz
      exact ⟨_, ⟨by rw [lineE]; exact hz, rfl⟩, Post.now r p _ rfl⟩
    · exact p.elim
  · obtain ⟨a, xs, rfl, h1, h2⟩ := tup_ok og qd
    exact ⟨_, .inr (.inl ⟨xs, h1, rfl⟩), by rw [← h2.empty]; exact Post.now r p _ rfl⟩
  · split at p
    · rename_i ds e
      obtain ⟨a, xs, rfl, h1, h2⟩ := seqL_ok og r qd e
      exact ⟨_, .inl ⟨xs, h1, rfl⟩, by rw [← h2.empty]; exact Post.now r p _ rfl⟩
    · exact p.elim
def dTruE (a : DE) : DT := fun fn env h => (a fn env h).bind dTru
/-- an expression as a test, by its value's truth -/
theorem s_truth {a : Expr} {da : DE} (ha : PE X a (tD X G da)) (he : ∀ whole, isTrue a X.env whole = (do let v ← whole; standAt a.pos; holding [v] (truthy v))) : PT X a (tT X G (dTruE da)) :=
  PT.imp (pt_truth ha he) fun _ _ _ p => tG.bind (f := fun fn env d h1 => dTru d h1) p fun g own env h H1 d v og r l q p1 => tru_of ⟨g, h, d, og, r, q, p1⟩
end
/-! ### subscripts -/
def dIx : O2 := fun x y h => match y with
  | .int i => match x with
    | .str s => if s.length ≤ szL then match atI s.cps.toList i with
      | some c => .ok (.str ⟨#[c]⟩) h
      | none => .bad
      else .bad
    | x => match seqT h x with
      | some ds => match atI ds i with
        | some d => .ok d h
        | none => .bad
      | none => .bad
  | _ => .bad
section
variable {X : Cx} {G : Gx}
theorem atI_rel {g : Gh} {H : Hp} {ds : List D} {xs : List V} {i : Int} {d : D} (q : RelsS g H ds xs) (e : atI ds i = some d) : ∃ v, atI xs i = some v ∧ RelS g H d v := by
  unfold atI at e ⊢
  rw [← q.len]
  cases z : ixN ds.length i with
  | none => rw [z] at e; cases e
  | some j =>
    rw [z] at e
    exact q.get e
theorem seqT_ok {g : Gh} {H : Hp} {h : Cells} (og : GOk X G g) (r : HRel X.prog X.w g H h) {d : D} {v : V} {ds : List D} (q : RelT g H d v) (e : seqT h d = some ds) : ∃ a xs, v = .ref a ∧ (SqL X.K H a xs ∨ SqT X.K H a xs) ∧ RelsS g H ds xs := by
  cases d with
  | tup es =>
    cases e
    obtain ⟨a, xs, h1, h2, h3⟩ := tup_ok og q
    exact ⟨a, xs, h1, .inr h2, h3⟩
  | _ =>
    obtain ⟨a, xs, h1, h2, h3⟩ := seqL_ok og r q (by exact e)
    exact ⟨a, xs, h1, .inl h2, h3⟩
theorem o_ix : IxR X (rO2 X G dIx) := by
  intro value slice pins s σ H x y v u Q I rx ry hp hs
  obtain ⟨g, h, d, e, og, r, qd, qe, p⟩ := hp
  unfold dIx at p
  split at p
  · rename_i i
    cases (show y = V.int i from qe)
    split at p
    · rename_i z
      cases (show x = V.str z from qd)
      split at p
      · rename_i hz
        split at p
        · rename_i c hc
          exact ix_str value slice pins s σ H _ _ v u Q I rx ry ⟨z, i, c, rfl, rfl, by rw [lineE]; exact hz, hc, Post.str r p⟩ hs
        · exact p.elim
      · exact p.elim
    · split at p
      · rename_i ds e1
        split at p
        · rename_i d' e2
          obtain ⟨a, xs, rfl, h1, h2⟩ := seqT_ok og r qd e1
          obtain ⟨w, e3, q3⟩ := atI_rel h2 e2
          refine ix_seq value slice pins s σ H _ _ v u Q I rx ry ?_ hs
          rcases h1 with h1 | h1
          · exact .inl ⟨a, xs, i, w, rfl, rfl, h1, e3, Post.val r q3.t p⟩
          · exact .inr (.inl ⟨a, xs, i, w, rfl, rfl, h1, e3, Post.val r q3.t p⟩)
        · exact p.elim
      · exact p.elim
  · exact p.elim
def isSlice : Expr → Bool
  | .Slice .. => true
  | _ => false
theorem plainIx {b : Expr} (h : isSlice b = false) : PlainIx b := by
  intro o i
  cases b <;> first | rfl | (simp [isSlice] at h)
theorem s_ix {a b : Expr} {da db : DE} {pos : Pos} (ha : PE X a (tD X G da)) (hb : PE X b (tD X G db)) (hs : isSlice b = false) : PE X (.Subscript a b pos) (tD X G (dOp2 dIx da db)) :=
  PE.imp (pe_ix o_ix ha hb (plainIx hs)) fun _ _ _ p => tOp2 p
end
/-! ### slices -/
def cutD (xs : List D) (lo hi : Option Int) : List D := (xs.drop (HT.sIx xs.length 0 lo)).take (HT.sIx xs.length xs.length hi - HT.sIx xs.length 0 lo)
def dSl (x : D) (lo hi : Option Int) (h : Cells) : R D := match x with
  | .tup ds => .ok (.tup (cutD ds lo hi)) h
  | x => match seqL h x with
    | some ds => .ok (.lst (cutD ds lo hi)) h
    | none => .bad
abbrev DO := Fns → Ev → Cells → R (Option Int)
abbrev tO (X : Cx) (G : Gx) (de : DO) : TO := tG (fun _ _ b v => v = b) X G de
def dNoPart : DO := fun _ _ h => .ok none h
def dPart (a : DE) : DO := fun fn env h => (a fn env h).bind fun d h1 => match d with
  | .int i => .ok (some i) h1
  | _ => .bad
def dSlice (a : DE) (lo hi : DO) : DE := fun fn env h => (a fn env h).bind fun d h1 => (lo fn env h1).bind fun l h2 => (hi fn env h2).bind fun u h3 => dSl d l u h3
section
variable {X : Cx} {G : Gx}
theorem PO.imp {e : Option Expr} {t t' : TO} (h : PO X e t) (k : ∀ σ H Q, t' σ H Q → t σ H Q) : PO X e t' := by
  cases h with
  | mk run => exact ⟨fun pins s σ H Q I q => run pins s σ H Q I (k σ H Q q)⟩
theorem s_noPart : PO X none (tO X G dNoPart) := PO.imp po_none fun σ H Q ⟨g, own, env, h, og, r, l, p⟩ => Post.now r p _ rfl
theorem s_part {a : Expr} {da : DE} (ha : PE X a (tD X G da)) : PO X (some a) (tO X G (dPart da)) := PO.imp (po_some ha) fun σ H Q p =>
  tG.bind (f := fun fn env d h1 => match d with
    | .int i => .ok (some i) h1
    | _ => .bad) p fun g own env h H1 d v og r l q p1 => by
    cases d with
    | int i => exact ⟨i, q, Post.now r p1 _ rfl⟩
    | _ => exact p1.elim
def rOS (X : Cx) (G : Gx) : V → Option Int → Option Int → Hp → VK → Prop := fun x lo hi H Q => ∃ g h d, GOk X G g ∧ HRel X.prog X.w g H h ∧ RelT g H d x ∧ Post X G g H (dSl d lo hi h) fun g' H' r _ => ∀ v, RelT g' H' r v → Q v H'
theorem cut_rel {g : Gh} {H : Hp} {ds : List D} {xs : List V} (q : RelsS g H ds xs) (lo hi : Option Int) : RelsS g H (cutD ds lo hi) (cutV xs lo hi) := by
  unfold cutD cutV
  rw [q.len]
  exact (q.drop _).take _
theorem sIx_all {ds : List D} {lo hi : Option Int} (w : HT.sIx ds.length 0 lo = 0 ∧ HT.sIx ds.length ds.length hi = ds.length) : cutD ds lo hi = ds := by
  unfold cutD
  rw [w.1, w.2]
  simp
theorem o_sl : SlR X (rOS X G) := by
  intro pins s σ H x v vl vu lo hi sl Q I rx hs pl pu hp
  obtain ⟨g, h, d, og, r, qd, p⟩ := hp
  unfold dSl at p
  split at p
  · rename_i ds
    obtain ⟨a, xs, rfl, h1, h2⟩ := tup_ok og qd
    refine sl_tupA pins s σ H _ v vl vu lo hi sl Q I rx hs pl pu ⟨a, xs, rfl, h1, fun w => ?_, fun _ => Post.newT (K := fun _ _ _ _ => True) r (cut_rel h2 lo hi) p⟩
    rw [← h2.len] at w
    rw [sIx_all w] at p
    exact Post.val r qd p
  · split at p
    · rename_i ds e
      obtain ⟨a, xs, rfl, h1, h2⟩ := seqL_ok og r qd e
      exact sl_list pins s σ H _ v vl vu lo hi sl Q I rx hs pl pu ⟨a, xs, rfl, h1, Post.newL r (cut_rel h2 lo hi) p⟩
    · exact p.elim
theorem s_slice {a : Expr} {lo hi : Option Expr} {da : DE} {dl du : DO} {pos p2 : Pos} (ha : PE X a (tD X G da)) (hl : PO X lo (tO X G dl)) (hh : PO X hi (tO X G du)) : PE X (.Subscript a (.Slice lo hi none p2) pos) (tD X G (dSlice da dl du)) :=
  PE.imp (pe_slice o_sl ha hl hh) fun σ H Q p =>
    tG.bind (f := fun fn env d h1 => (dl fn env h1).bind fun l h2 => (du fn env h2).bind fun u h3 => dSl d l u h3) p fun g own env h H1 d v og r l q p1 =>
      tG.mk og r l ((Post.bind p1).imp fun g2 H2 lo2 h2 e2 r2 p2 v2 q2 => by
        subst q2
        exact tG.mk (og.ext e2) r2 (l.step r e2) ((Post.bind p2).imp fun g3 H3 hi3 h3 e3 r3 p3 v3 q3 => by
          subst q3
          exact ⟨g3, h3, d, (og.ext e2).ext e3, r3, RelT.ext r2 e3 (RelT.ext r e2 q), p3⟩))
end
end EV
/-! EV5: argument lists, displays, tests, calls of the text's own defs -/
namespace EV
open PySem L2
def isStar : Expr → Bool
  | .Starred .. => true
  | _ => false
theorem star_cons {e : Expr} {es : List Expr} {env : Env} (h : isStar e = false) : starEach (e :: es) env = (false, eval e env) :: starEach es env := by
  cases e <;> first | rfl | (simp [isStar] at h)
def noStars (es : List Expr) : Bool := es.all fun e => !isStar e
theorem backTo_any {pos : Pos} : ∀ {l : List (Bool × Sem Value)}, l.any (·.1) = false → (backTo pos l).any (·.1) = false := by
  intro l h
  unfold backTo
  rw [List.any_map]
  exact h
theorem stars_any {env : Env} : ∀ {es : List Expr}, noStars es = true → (starEach es env).any (·.1) = false
  | [], _ => rfl
  | e :: es, h => by
    simp only [noStars, List.all_cons, Bool.and_eq_true] at h
    rw [star_cons (by simpa using h.1), List.any_cons, stars_any (es := es) h.2]
    rfl
/-! ### argument lists -/
def daNil : DA := fun _ _ h => .ok [] h
def daCons (a : DE) (r : DA) : DA := fun fn env h => (a fn env h).bind fun d h1 => (r fn env h1).bind fun ds h2 => .ok (d :: ds) h2
section
variable {X : Cx} {G : Gx} {e a b : Expr} {es : List Expr} {da db : DE} {dr : DA} {pos : Pos}
theorem s_paNil : PA X [] (tA X G daNil) := PA.imp pa_nil fun σ H Q ⟨g, own, env, h, og, r, l, p⟩ => Post.now r p _ rfl
theorem s_paCons (ha : PE X e (tD X G da)) (hr : PA X es (tA X G dr)) (hs : isStar e = false) : PA X (e :: es) (tA X G (daCons da dr)) :=
  PA.imp (pa_cons ha hr (star_cons hs)) fun σ H Q p =>
    tG.bind (f := fun fn env d h1 => (dr fn env h1).bind fun ds h2 => R.ok (d :: ds) h2) p fun g own env h H1 d v og r l q p1 =>
      tG.mk og r l ((Post.bind p1).imp fun g2 H2 ds h2 e2 r2 p2 vs qs => Post.now r2 p2 (v :: vs) ⟨v, vs, rfl, RelT.ext r e2 q, qs⟩)
def noBors (ds : List D) : Bool := ds.all fun d => !isBor d
theorem RelsT.s {g : Gh} {H : Hp} : ∀ {ds : List D} {vs : List V}, RelsT g H ds vs → noBors ds = true → RelsS g H ds vs
  | [], _, q, _ => q
  | d :: ds, _, q, n => by
    obtain ⟨x, rr, e1, e2, e3⟩ := q
    simp only [noBors, List.all_cons, Bool.and_eq_true] at n
    exact ⟨x, rr, e1, e2.s (by simpa using n.1), RelsT.s e3 n.2⟩
/-- displays -/
def mkTup : ON := fun ds h => if noBors ds && decide (ds.length ≤ szL) then .ok (.tup ds) h else .bad
def dTup (a : DA) : DE := dOpN mkTup a
def mkLst : ON := fun ds h => if noBors ds && decide (ds.length ≤ szL) then .ok (.lst ds) h else .bad
def dLst (a : DA) : DE := dOpN mkLst a
theorem s_tup {k : Nat} (ha : PA X es (tA X G dr)) : PE X (.Tuple es k pos) (tD X G (dTup dr)) :=
  PE.imp (pe_tup ha) fun σ H Q p =>
    tG.bind (f := fun fn env ds h1 => mkTup ds h1) p fun g own env h H1 ds vs og r l q p1 => by
      unfold mkTup at p1
      split at p1
      · rename_i hz
        rw [Bool.and_eq_true, decide_eq_true_eq] at hz
        have q' := q.s hz.1
        exact ⟨by rw [lineE, ← q'.len]; exact hz.2, Post.newT (K := fun _ _ _ _ => True) r q' p1⟩
      · exact p1.elim
theorem s_lst (ha : PA X es (tA X G dr)) : PE X (.List es pos) (tD X G (dLst dr)) :=
  PE.imp (pe_lst ha) fun σ H Q p =>
    tG.bind (f := fun fn env ds h1 => mkLst ds h1) p fun g own env h H1 ds vs og r l q p1 => by
      unfold mkLst at p1
      split at p1
      · rename_i hz
        rw [Bool.and_eq_true, decide_eq_true_eq] at hz
        have q' := q.s hz.1
        exact ⟨by rw [lineE, ← q'.len]; exact hz.2, Post.newL r q' p1⟩
      · exact p1.elim
/-! ### a new cell -/
def Gh.more (g : Gh) (p : Addr) : Gh := { g with W := fun a => g.W a ∨ a = p, ρ := g.ρ ++ [p] }
theorem Ext.cell {g : Gh} {H : Hp} {h : Cells} (r : HRel X.prog X.w g H h) {p : Addr} {o : HO} (hp : H p = none) : Ext g H (g.more p) (upd H p o) where
  K := rfl
  gA := rfl
  pre := ⟨[p], rfl⟩
  wn := fun a z => by
    rcases z with z | z
    · exact .inl z
    · exact .inr (by rw [z]; exact hp)
  wk := fun a z => .inl (.inl z)
  rw := fun a m => (List.mem_append.mp m).imp (fun m => r.wr a m) fun m => by simpa using m
  fr := fun a u z _ => by rw [upd_ne (ne_of_none z hp)]; exact z
  nw := fun a m n => (List.mem_append.mp m).elim (fun m => absurd m n) fun m => by
    have : a = p := by simpa using m
    rw [this]; exact hp
theorem HRel.cell {g : Gh} {H : Hp} {h : Cells} (r : HRel X.prog X.w g H h) {p : Addr} {o : HO} {c : OB} (hp : H p = none) (q : CellRel X.prog X.w (g.more p) (upd H p o) p c) : HRel X.prog X.w (g.more p) (upd H p o) (h ++ [c]) where
  len := by show (g.ρ ++ [p]).length = _; rw [List.length_append, List.length_append, r.len]; rfl
  nd := by
    show (g.ρ ++ [p]).Nodup
    rw [List.nodup_append]
    refine ⟨r.nd, by simp, fun a m b hb e => ?_⟩
    have : b = p := by simpa using hb
    obtain ⟨u, hu, _⟩ := r.mem m
    rw [e, this, hp] at hu; cases hu
  wr := (Ext.cell r hp (o := o)).rw
  wt := fun a u h1 h2 => by
    by_cases z : a = p
    · rw [z] at h2
      obtain ⟨u', e1, e2⟩ := q.some
      rw [h2] at e1; cases e1
      exact e2
    · rw [upd_ne z] at h2
      rcases h1 with h1 | h1
      · exact r.wt a u h1 h2
      · exact absurd h1 z
  at_ := fun n a c' h1 h2 => by
    have h1 : (g.ρ ++ [p])[n]? = some a := h1
    by_cases hn : n < g.ρ.length
    · rw [List.getElem?_append_left hn] at h1
      rw [List.getElem?_append_left (by rw [← r.len]; exact hn)] at h2
      refine (r.at_ n a c' h1 h2).ext r (Ext.cell r hp) ?_
      obtain ⟨u, hu, _⟩ := r.mem (List.mem_of_getElem? h1)
      exact upd_ne (ne_of_none hu hp)
    · rw [List.getElem?_append_right (by omega)] at h1
      rw [List.getElem?_append_right (by rw [← r.len]; omega)] at h2
      have e : n = g.ρ.length := by
        have := (List.getElem?_eq_some_iff.mp h1).1
        simp at this; omega
      subst e
      rw [← r.len, Nat.sub_self] at h2
      rw [Nat.sub_self] at h1
      simp at h1 h2
      subst h1; subst h2
      exact q
/-! ### tests -/
def dtAnd (a b : DT) : DT := fun fn env h => (a fn env h).bind fun c h1 => if c = true then b fn env h1 else .ok false h1
def dtOr (a b : DT) : DT := fun fn env h => (a fn env h).bind fun c h1 => if c = true then .ok true h1 else b fn env h1
def dtNot (a : DT) : DT := fun fn env h => (a fn env h).bind fun c h1 => .ok (!c) h1
variable {ta tb : DT} {rest : List Expr} {c : Expr}
theorem s_and1 (ha : PT X a (tT X G ta)) : PW X (.BoolOp .And [a] pos) (tT X G ta) := pw_and1 ha
theorem s_or1 (ha : PT X a (tT X G ta)) : PW X (.BoolOp .Or [a] pos) (tT X G ta) := pw_or1 ha
theorem s_and (ha : PT X a (tT X G ta)) (hb : PW X (.BoolOp .And (b :: rest) pos) (tT X G tb)) : PW X (.BoolOp .And (a :: b :: rest) pos) (tT X G (dtAnd ta tb)) :=
  PW.imp (pw_and ha hb) fun σ H Q p =>
    tG.bind (f := fun fn env c h1 => if c = true then tb fn env h1 else .ok false h1) p fun g own env h H1 c v og r l q p1 => by
      subst q
      cases v with
      | true => exact tG.mk og r l p1
      | false => exact Post.now r p1 _ rfl
theorem s_or (ha : PT X a (tT X G ta)) (hb : PW X (.BoolOp .Or (b :: rest) pos) (tT X G tb)) : PW X (.BoolOp .Or (a :: b :: rest) pos) (tT X G (dtOr ta tb)) :=
  PW.imp (pw_or ha hb) fun σ H Q p =>
    tG.bind (f := fun fn env c h1 => if c = true then .ok true h1 else tb fn env h1) p fun g own env h H1 c v og r l q p1 => by
      subst q
      cases v with
      | false => exact tG.mk og r l p1
      | true => exact Post.now r p1 _ rfl
theorem s_notT (ha : PT X a (tT X G ta)) : PT X (.UnaryOp .Not a pos) (tT X G (dtNot ta)) :=
  PT.imp (pt_not ha) fun σ H Q p =>
    tG.bind (f := fun fn env (c : Bool) h1 => R.ok (!c) h1) p fun g own env h H1 c v og r l q p1 => by
      subst q
      exact Post.now r p1 _ rfl
/-- .. as values -/
def dAnd (a b : DE) : DE := fun fn env h => (a fn env h).bind fun d h1 => (dTru d h1).bind fun k h2 => if k = true then b fn env h2 else .ok d h2
def dOr (a b : DE) : DE := fun fn env h => (a fn env h).bind fun d h1 => (dTru d h1).bind fun k h2 => if k = true then .ok d h2 else b fn env h2
def dNot (a : DE) : DE := fun fn env h => (a fn env h).bind fun d h1 => (dTru d h1).bind fun k h2 => .ok (.bl (!k)) h2
def dIf (t : DT) (a b : DE) : DE := fun fn env h => (t fn env h).bind fun k h1 => if k = true then a fn env h1 else b fn env h1
theorem dTru_h {d : D} {h : Cells} {k : Bool} {h' : Cells} (e : dTru d h = .ok k h') : h' = h := by
  unfold dTru at e
  split at e
  all_goals first
    | (cases e; rfl)
    | (split at e <;> first | (cases e; rfl) | cases e)
theorem dTru_no {d : D} {h : Cells} {x : Exc} {h' : Cells} (e : dTru d h = .exc x h') : False := by
  unfold dTru at e
  split at e
  all_goals first
    | cases e
    | (split at e <;> cases e)
/-- what follows on a truth -/
theorem tru_then {g : Gh} {H : Hp} {h : Cells} {d : D} {x : V} {α : Type} {f : Bool → Cells → R α} {K : Gh → Hp → α → Cells → Prop} (og : GOk X G g) (r : HRel X.prog X.w g H h) (q : RelT g H d x)
    (p : Post X G g H ((dTru d h).bind f) K) : ∃ k, TruV X.K x H k ∧ Post X G g H (f k h) K := by
  cases e : dTru d h with
  | bad => rw [e] at p; exact p.elim
  | exc y h' => exact (dTru_no e).elim
  | ok k h' =>
    have e' := dTru_h e
    subst e'
    rw [e] at p
    obtain ⟨k', t, z⟩ := tru_of (X := X) (G := G) (x := x) (H := H) (Q := fun b _ => b = k) ⟨g, h', d, og, r, q, by rw [e]; exact fun g' H' _ _ v hv => hv⟩
    subst z
    exact ⟨_, t, p⟩
theorem s_oneV {op : BoolOp} (ha : PE X a (tD X G da)) : PE X (.BoolOp op [a] pos) (tD X G da) := pe_one ha
theorem s_andV (ha : PE X a (tD X G da)) (hb : PE X (.BoolOp .And (b :: rest) pos) (tD X G db)) : PE X (.BoolOp .And (a :: b :: rest) pos) (tD X G (dAnd da db)) :=
  PE.imp (pe_andT ha hb) fun σ H Q p =>
    tG.bind (f := fun fn env d h1 => (dTru d h1).bind fun k h2 => if k = true then db fn env h2 else .ok d h2) p fun g own env h H1 d v og r l q p1 => by
      obtain ⟨k, t, p2⟩ := tru_then og r q p1
      refine ⟨k, t, ?_⟩
      cases k with
      | true => exact tG.mk og r l p2
      | false => exact Post.val r q p2
theorem s_notV (ha : PE X a (tD X G da)) : PE X (.UnaryOp .Not a pos) (tD X G (dNot da)) :=
  PE.imp (pe_notT ha) fun σ H Q p =>
    tG.bind (f := fun fn env d h1 => (dTru d h1).bind fun k h2 => R.ok (D.bl (!k)) h2) p fun g own env h H1 d v og r l q p1 => by
      obtain ⟨k, t, p2⟩ := tru_then og r q p1
      exact ⟨k, t, Post.bl r p2⟩
theorem s_if (hc : PT X c (tT X G ta)) (ha : PE X a (tD X G da)) (hb : PE X b (tD X G db)) : PE X (.IfExp c a b pos) (tD X G (dIf ta da db)) :=
  PE.imp (pe_ifExp hc ha hb) fun σ H Q p =>
    tG.bind (f := fun fn env k h1 => if k = true then da fn env h1 else db fn env h1) p fun g own env h H1 k v og r l q p1 => by
      subst q
      cases v with
      | true => exact tG.mk og r l p1
      | false => exact tG.mk og r l p1
/-- a op b op' c -/
def dChain (o o' : O2) (a b c : DE) : DE := fun fn env h => (a fn env h).bind fun x h1 => (b fn env h1).bind fun y h2 => (o x y h2).bind fun z h3 => match z with
  | .bl true => (c fn env h3).bind fun w h4 => o' y w h4
  | .bl false => .ok (.bl false) h3
  | _ => .bad
theorem tChain_of {o o' : O2} {dc : DE} {σ : L2.St} {H : Hp} {Q : VK} (p : tD X G (dChain o o' da db dc) σ H Q) : tChain (rO2 X G o) (rO2 X G o') (tD X G da) (tD X G db) (tD X G dc) σ H Q := by
  refine tG.bind (f := fun fn env x h1 => (db fn env h1).bind fun y h2 => (o x y h2).bind fun z h3 => match z with
    | .bl true => (dc fn env h3).bind fun w h4 => o' y w h4
    | .bl false => .ok (.bl false) h3
    | _ => .bad) p fun g own env h H1 d v og r l q p1 => ?_
  refine tG.mk og r l ((Post.bind p1).imp fun g2 H2 d2 h2 e2 r2 p2 v2 q2 => ?_)
  refine ⟨g2, h2, d, d2, og.ext e2, r2, RelT.ext r e2 q, q2, (Post.bind p2).imp fun g3 H3 z h3 e3 r3 p3 v3 q3 => ?_⟩
  cases z with
  | bl k =>
    refine ⟨k, q3, ?_⟩
    have og3 := (og.ext e2).ext e3
    have l3 := (l.step r e2).step r2 e3
    cases k with
    | true =>
      refine tG.mk og3 r3 l3 ((Post.bind p3).imp fun g4 H4 d4 h4 e4 r4 p4 v4 q4 => ?_)
      exact ⟨g4, h4, d2, d4, og3.ext e4, r4, RelT.ext r3 e4 (RelT.ext r2 e3 q2), q4, p4⟩
    | false => exact Post.bl r3 p3
  | _ => exact p3.elim
theorem s_chainT {op op' : CmpOp} {o o' : O2} {dc : DE} (ho : OpR X (compareOp op) (rO2 X G o)) (ho' : OpR X (compareOp op') (rO2 X G o')) (ha : PE X a (tD X G da)) (hb : PE X b (tD X G db)) (hc : PE X c (tD X G dc))
    (hm : lastMarks [op, op'] [b, c] = false) : PT X (.Compare a [op, op'] [b, c] pos) (tT X G fun fn env h => asB (dChain o o' da db dc fn env h)) :=
  PT.imp (pt_chain ho ho' ha hb hc hm) fun _ _ _ p => by
    obtain ⟨g, own, env, h, og, r, l, q⟩ := tB_of p
    exact tChain_of ⟨g, own, env, h, og, r, l, q⟩
end
end EV
/-! EV6: a def's contract (with the guards told), calls of the text's own defs -/
namespace EV
open PySem L2
/-- a def's contract where nothing is being shown -/
structure FnG (P : Program) (w : World) (K : PySem.W.Frag) (mg : Str → Option Value) (base : Heap) (k : Nat) (f : Addr) (fd : FuncData) (ps : List Str) (sp : Sp) : Prop where
  len : ∀ vs H Q E, sp vs H Q E → vs.length = ps.length
  run : ∀ (B : Around) (out : List Env) (s : Shared) (H : Hp) (args : Args) (us : List Value) (vs : List V) (Q : VK) (E : XK), B.guards = some [] → Room k B → Env0 P w K mg base B out s H → BindsTo s fd args (ps.zip us) →
    Vals vs us → sp vs H Q E → codeAny (model P w) B (.call (.ref f) args) (CR (L2.CX P w) out P w H s Q E) s
theorem FnG.mono {P : Program} {w : World} {K : PySem.W.Frag} {mg : Str → Option Value} {base : Heap} {j k : Nat} {f : Addr} {fd : FuncData} {ps : List Str} {sp : Sp} (F : FnG P w K mg base j f fd ps sp) (le : j ≤ k) : FnG P w K mg base k f fd ps sp :=
  ⟨F.len, fun B out s H args us vs Q E gu rm => F.run B out s H args us vs Q E gu (rm.mono le)⟩
section
variable {X : Cx} {k : Nat} {f : Addr} {fd : FuncData} {ps : List Str} {sp : Sp} {E : XK}
/-- the def runs -/
theorem FnG.go {pins : List (Addr × Obj)} {σ : L2.St} {H : Hp} {s : Shared} {Q : VK} {args : Args} {us : List Value} {vs : List V} (F : FnG X.prog X.w X.K X.mg X.base k f fd ps sp) (gu : X.A.guards = some []) (rm : Room k X.A)
    (hx : Passes (L2.CX X.prog X.w) X E) (I : Inv X pins σ H s) (hb : BindsTo s fd args (ps.zip us)) (rv : Vals vs us) (q : sp vs H Q E) :
    codeAny (model X.prog X.w) X.A (.call (.ref f) args) (fun r s' => match r with
      | .ok (.ret u) => EP X pins σ Q u s'
      | .ok _ => False
      | .error e => X.xe e s') s := by
  refine codeAny_mono (F.run X.A X.stack s H args us vs Q E gu rm I.env0 hb rv q) fun res s' z => ?_
  cases res with
  | error e => exact hx pins σ H s e s' I z
  | ok fl =>
    cases fl with
    | ret u => exact I.after z
    | next => exact False.elim z
    | brk => exact False.elim z
    | cont => exact False.elim z
end
section
open PySem.Spec PyProof.Rows
/-- a def's contract from its body -/
theorem FnG.of {P : Program} {w : World} {K : PySem.W.Frag} {mg : Str → Option Value} {base : Heap} {k : Nat} {f : Addr} {nm qual : Str} {params : Arguments} {body : List Stmt} {scope : Scope} {dV kV doc pm cdv ct oc : Value} {an od : Option Addr}
    {osl : Array (Option Value)} {N ps : List Str} {sp : Sp} (lk : K.lookup f = some ⟨oc, od, .func (PySem.W.fnOf nm qual params body scope dV kV doc pm an cdv ct), osl⟩) (hcd : PySem.W.codeIn K cdv qual = true) (S : FnScope N ps scope)
    (len : ∀ vs H Q E, sp vs H Q E → vs.length = ps.length)
    (hbody : ∀ (B : Around) (out : List Env) (s : Shared) (H : Hp) (vs : List V) (Q : VK) (E : XK), B.guards = some [] → Room (k + 1) B → sp vs H Q E →
      ∃ t, PSs (cxOf (L2.CX P w) P w K mg base N qual scope f cdv B out s H E) body t ∧ t { nx := fun _ H' => Q .non H', rt := Q } (start N vs) H) :
    FnG P w K mg base (k + 1) f (PySem.W.fnOf nm qual params body scope dV kV doc pm an cdv ct) ps sp := by
  refine ⟨len, fun B out s H args us vs Q E gu rm e0 hb rv q => ?_⟩
  have lens := len _ _ _ _ q
  have inK : K.In s.heap := e0.mod.kin.keeps fun b o z => (e0.bs b o z).1
  have nl : s.heap.NoLimit := e0.mod.nolimit.keeps fun b o z => (e0.bs b o z).1
  have kinds : ∀ y ∈ ps.zip us, scope.names.lookup y.1 = some .local ∨ (scope.names.lookup y.1 = some .cell ∧ ((cellsFrom (s.heap.objs.size + 1) scope.names []).lookup y.1).isSome = true) := by
    rintro ⟨n, v⟩ hy
    rcases S.par n (List.of_mem_zip hy).1 with z | z
    · exact .inl z
    · exact .inr ⟨z, PySem.W.cellsFrom_some _ _ _ (.inl z)⟩
  refine codeAny_call_function rm.depth (inK _ _ lk) rfl S.co S.gen rfl (PySem.W.codeRec_of inK hcd) (hb _ _ _ _ ?_)
  refine wpAny_newFunctionEnv_cells S.kind kinds fun env he s1 x => ?_
  subst he
  refine ⟨nl.keeps x.toInCall.keep, codeAny_func ?_⟩
  obtain ⟨t, ht, hq⟩ := hbody B out s H vs Q E gu rm q
  have I0 : Inv (cxOf (L2.CX P w) P w K mg base N qual scope f cdv B out s H E) [] (start N vs) H s1 := inv_start S rm.hd e0 lens rv x
  refine wpAny_mono (ht.run [] s1 (start N vs) H _ I0 hq) (fun fl s' hs => ?_) fun e s' hs => hs
  cases fl with
  | ret u =>
    obtain ⟨v, σ', H', J, rvu, z⟩ := hs
    exact ⟨v, H', J.os, J.bare, J.base, J.hok, rvu, z⟩
  | next =>
    obtain ⟨σ', H', J, z⟩ := hs
    exact ⟨.non, H', J.os, J.bare, J.base, J.hok, rfl, z⟩
  | brk =>
    obtain ⟨_, _, _, z⟩ := hs
    exact False.elim z
  | cont =>
    obtain ⟨_, _, _, z⟩ := hs
    exact False.elim z
end
/-! ### where an argument comes from -/
inductive Src where
  | p (i : Nat) | k (i : Nat) | d (i : Nat)
deriving DecidableEq
def Src.get {α : Type} (us ws ds : List α) : Src → Option α
  | .p i => us[i]?
  | .k i => ws[i]?
  | .d i => ds[i]?
def arrange {α : Type} (us ws ds : List α) : List Src → Option (List α)
  | [] => some []
  | s :: r => match s.get us ws ds, arrange us ws ds r with
    | some x, some xs => some (x :: xs)
    | _, _ => none
theorem arrange_len {α : Type} {us ws ds : List α} : ∀ {r : List Src} {zs : List α}, arrange us ws ds r = some zs → zs.length = r.length
  | [], _, h => by cases h; rfl
  | s :: r, zs, h => by
    unfold arrange at h
    split at h
    · rename_i x xs e1 e2
      cases h
      rw [List.length_cons, List.length_cons, arrange_len e2]
    · cases h
theorem arrange_vals {us ws ds : List V} {us' ws' ds' : List Value} (a : Vals us us') (b : Vals ws ws') (c : Vals ds ds') : ∀ {r : List Src} {zs : List V}, arrange us ws ds r = some zs → ∃ zs', arrange us' ws' ds' r = some zs' ∧ Vals zs zs'
  | [], _, h => by cases h; exact ⟨[], rfl, .nil⟩
  | s :: r, zs, h => by
    unfold arrange at h
    split at h
    · rename_i x xs e1 e2
      cases h
      obtain ⟨zs', h1, h2⟩ := arrange_vals a b c e2
      have : ∃ u, s.get us' ws' ds' = some u ∧ RelV x u := by
        cases s with
        | p i => exact a.get e1
        | k i => exact b.get e1
        | d i => exact c.get e1
      obtain ⟨u, h3, h4⟩ := this
      exact ⟨u :: zs', by unfold arrange; rw [h3, h1], .cons h4 h2⟩
    · cases h
theorem arrange_rel {g : Gh} {H : Hp} {us ws ds : List D} {us' ws' ds' : List V} (a : RelsS g H us us') (b : RelsS g H ws ws') (c : RelsS g H ds ds') : ∀ {r : List Src} {zs : List D}, arrange us ws ds r = some zs → ∃ zs', arrange us' ws' ds' r = some zs' ∧ RelsS g H zs zs'
  | [], _, h => by cases h; exact ⟨[], rfl, rfl⟩
  | s :: r, zs, h => by
    unfold arrange at h
    split at h
    · rename_i x xs e1 e2
      cases h
      obtain ⟨zs', h1, h2⟩ := arrange_rel a b c e2
      have : ∃ u, s.get us' ws' ds' = some u ∧ RelS g H x u := by
        cases s with
        | p i => exact a.get e1
        | k i => exact b.get e1
        | d i => exact c.get e1
      obtain ⟨u, h3, h4⟩ := this
      exact ⟨u :: zs', by unfold arrange; rw [h3, h1], ⟨u, zs', rfl, h4, h2⟩⟩
    · cases h
/-! ### what a def of the text promises: what its evaluation gives -/
def PostE {α : Type} (P : Program) (w : World) (E : XK) (g : Gh) (H : Hp) (r : R α) (K : Gh → Hp → α → Cells → Prop) : Prop := match r with
  | .ok a h' => ∀ g' H', Ext g H g' H' → HRel P w g' H' h' → K g' H' a h'
  | .exc e h' => ∀ g' H' cls d, Ext g H g' H' → HRel P w g' H' h' → ExcRel g' H' e cls d → E cls d H'
  | .bad => False
theorem PostE.eq {α : Type} {X : Cx} {G : Gx} {g : Gh} {H : Hp} {r : R α} {K : Gh → Hp → α → Cells → Prop} : PostE X.prog X.w G.Wx g H r K = Post X G g H r K := rfl
def spF (P : Program) (w : World) (K : PySem.W.Frag) (gA : Nat → Option Addr) (np : Nat) (F : List D → Cells → R D) : Sp := fun vs H Q E =>
  ∃ g h ds, g.K = K ∧ g.gA = gA ∧ HRel P w g H h ∧ RelsS g H ds vs ∧ ds.length = np ∧ PostE P w E g H (F ds h) fun g' H' d _ => ∀ v, RelS g' H' d v → Q v H'
theorem spF_len {P : Program} {w : World} {K : PySem.W.Frag} {gA : Nat → Option Addr} {np : Nat} {F : List D → Cells → R D} {vs : List V} {H : Hp} {Q : VK} {E : XK} (q : spF P w K gA np F vs H Q E) : vs.length = np := by
  obtain ⟨g, h, ds, _, _, _, q, e, _⟩ := q
  rw [← q.len, e]
/-- the def behind a global name, as it is called with n positional arguments and the keywords ks -/
structure CallOk (X : Cx) (G : Gx) (x : Str) (i n : Nat) (ks : List Str) (src : List Src) (dd : List D) : Prop where
  ex : ∃ (k : Nat) (f : Addr) (fd : FuncData) (ps : List Str) (dvs : List V) (dsV : List Value), X.mg x = some (.ref f) ∧ PySem.W.keepIn X.K (.ref f) = true ∧ Room k X.A ∧
    FnG X.prog X.w X.K X.mg X.base k f fd ps (spF X.prog X.w X.K G.gA ps.length (G.fns i)) ∧ Vals dvs dsV ∧ (∀ g H, GOk X G g → RelsS g H dd dvs) ∧ src.length = ps.length ∧
    ∀ (s : Shared) (us ws zs : List Value), X.K.In s.heap → us.length = n → ws.length = ks.length → arrange us ws dsV src = some zs → BindsTo s fd ⟨us, ks.zip ws⟩ (ps.zip zs)
def mkCall (i n nk : Nat) (src : List Src) (dd : List D) (fn : Fns) (ds ks : List D) (h : Cells) : R D :=
  if noBors ds && noBors ks && decide (ds.length = n) && decide (ks.length = nk) then match arrange ds ks dd src with
    | some zs => fn i zs h
    | none => .bad
  else .bad
def dCall (i n nk : Nat) (src : List Src) (dd : List D) (da dk : DA) : DE := fun fn env h => (da fn env h).bind fun ds h1 => (dk fn env h1).bind fun ks h2 => mkCall i n nk src dd fn ds ks h2
section
variable {X : Cx} {G : Gx} {x : Str} {i n : Nat} {ks : List Str} {src : List Src} {dd : List D} {es : List Expr} {kws : List Keyword} {da dk : DA} {p pos : Pos}
theorem PK.imp {kws : List Keyword} {t t' : TA} (h : PK X kws t) (k : ∀ σ H Q, t' σ H Q → t σ H Q) : PK X kws t' := ⟨fun pos pins s σ H Q I q => h.run pos pins s σ H Q I (k σ H Q q)⟩
theorem s_pkNil : PK X [] (tA X G daNil) := PK.imp pk_nil fun σ H Q ⟨g, own, env, h, og, r, l, p⟩ => Post.now r p _ rfl
theorem s_pkCons {nm : Option Str} {e : Expr} {de : DE} {kpos : Pos} (ha : PE X e (tD X G de)) (hr : PK X kws (tA X G dk)) : PK X (⟨nm, e, kpos⟩ :: kws) (tA X G (daCons de dk)) :=
  PK.imp (pk_cons ha hr) fun σ H Q p =>
    tG.bind (f := fun fn env d h1 => (dk fn env h1).bind fun ds h2 => R.ok (d :: ds) h2) p fun g own env h H1 d v og r l q p1 =>
      tG.mk og r l ((Post.bind p1).imp fun g2 H2 ds h2 e2 r2 p2 vs qs => Post.now r2 p2 (v :: vs) ⟨v, vs, rfl, RelT.ext r e2 q, qs⟩)
theorem RelsT.len {g : Gh} {H : Hp} : ∀ {ds : List D} {vs : List V}, RelsT g H ds vs → ds.length = vs.length
  | [], _, q => by cases (show _ = [] from q); rfl
  | d :: ds, _, q => by
    obtain ⟨y, rr, e1, _, e3⟩ := q
    rw [e1, List.length_cons, List.length_cons, RelsT.len e3]
/-- the call itself -/
theorem call_go {pins : List (Addr × Obj)} {σ : L2.St} {H : Hp} {s : Shared} {Q : VK} {g : Gh} {h : Cells} {ds kd : List D} {vs zs : List V} {us ws : List Value} (C : CallOk X G x i n ks src dd) (gu : X.A.guards = some []) (hx : Passes (L2.CX X.prog X.w) X G.Wx)
    (I : Inv X pins σ H s) (og : GOk X G g) (r : HRel X.prog X.w g H h) (q1 : RelsT g H ds vs) (q2 : RelsT g H kd zs) (r1 : Vals vs us) (r2 : Vals zs ws)
    (p : Post X G g H (mkCall i n ks.length src dd G.fns ds kd h) fun g' H' d _ => ∀ v, RelT g' H' d v → Q v H') :
    ∃ f, X.mg x = some (.ref f) ∧ PySem.W.keepIn X.K (.ref f) = true ∧ wpAny (model X.prog X.w) X.A (PySem.call (.ref f) us (ks.zip ws)) (EP X pins σ Q) X.xe s := by
  obtain ⟨k, f, fd, ps, dvs, dsV, hm, kp, rm, F, rd, hd, hl, hb⟩ := C.ex
  refine ⟨f, hm, kp, ?_⟩
  unfold mkCall at p
  split at p
  · rename_i hz
    simp only [Bool.and_eq_true, decide_eq_true_eq] at hz
    obtain ⟨⟨⟨z1, z2⟩, z3⟩, z4⟩ := hz
    split at p
    · rename_i as ea
      obtain ⟨bs, e1, t1⟩ := arrange_rel (q1.s z1) (q2.s z2) (hd g H og) ea
      obtain ⟨cs, e2, t2⟩ := arrange_vals r1 r2 rd e1
      have hbs := hb s us ws cs I.kIn (by rw [← r1.length, ← q1.len]; exact z3) (by rw [← r2.length, ← q2.len]; exact z4) e2
      have hsp : spF X.prog X.w X.K G.gA ps.length (G.fns i) bs H Q G.Wx := ⟨g, h, as, og.K, og.gA, r, t1, by rw [arrange_len ea, hl], Post.imp p fun g' H' d h' _ _ z v qv => z v qv.t⟩
      refine wpAny_call (codeAny_mono (F.go gu rm hx I hbs t2 hsp) fun res s' z => ?_)
      cases res with
      | error e => exact z
      | ok fl =>
        cases fl with
        | ret u => exact z
        | next => exact False.elim z
        | brk => exact False.elim z
        | cont => exact False.elim z
    · exact p.elim
  · exact p.elim
def kwNames (kws : List Keyword) : List (Option Str) := kws.map (·.arg)
theorem kw_names {pos : Pos} {env : Env} : ∀ {kws : List Keyword}, (backToKw pos (keywordEach kws env)).map (·.1) = kwNames kws
  | [] => rfl
  | ⟨nm, e, kp⟩ :: r => by
    have ih := @kw_names pos env r
    show nm :: (backToKw pos (keywordEach r env)).map (·.1) = nm :: kwNames r
    rw [ih]
theorem kw_facts : ∀ {ks : List Str} {l : List (Option Str × Sem Value)}, l.map (·.1) = ks.map some → l.all (·.1.isSome) = true ∧ l.filterMap (·.1) = ks ∧ l.any (·.1.isNone) = false
  | [], [], _ => ⟨rfl, rfl, rfl⟩
  | [], _ :: _, z => by cases z
  | _ :: _, [], z => by cases z
  | b :: ks, (y1, y2) :: l, z => by
    simp only [List.map_cons, List.cons.injEq] at z
    obtain ⟨z1, z2⟩ := z
    subst z1
    obtain ⟨i1, i2, i3⟩ := kw_facts z2
    refine ⟨?_, ?_, ?_⟩
    · rw [List.all_cons, i1]; rfl
    · rw [List.filterMap_cons]; simp only [i2]
    · rw [List.any_cons, i3]; rfl
theorem kw_all {pos : Pos} {env : Env} {kws : List Keyword} {ks : List Str} (h : kwNames kws = ks.map some) : (backToKw pos (keywordEach kws env)).all (·.1.isSome) = true ∧ (backToKw pos (keywordEach kws env)).filterMap (·.1) = ks ∧ (backToKw pos (keywordEach kws env)).any (·.1.isNone) = false :=
  kw_facts (by rw [kw_names, h])
theorem s_call (C : CallOk X G x i n ks src dd) (gu : X.A.guards = some []) (hx : Passes (L2.CX X.prog X.w) X G.Wx) (hg : Gl X x) (hdb : (x == ("__debug__" : Str)) = false) (ha : PA X es (tA X G da)) (hk : PK X kws (tA X G dk)) (hn : kwNames kws = ks.map some) (hst : noStars es = true) (h0 : es = [] → da = daNil) :
    PE X (.Call (.Name x p) es kws pos) (tD X G (dCall i n ks.length src dd da dk)) := by
  obtain ⟨w1, w2, w3⟩ := kw_all (pos := pos) (env := X.env) hn
  obtain ⟨k, f, fd, ps, dvs, dsV, hm, kp, _⟩ := C.ex
  refine ⟨fun pins s σ H Q I hq => ?_⟩
  refine wpAny_Call_Name_kw (ld_glob I hg hm ?_ hdb)
  obtain ⟨g, own, env, h, og, r, l, p0⟩ := hq
  -- the arguments, then the keywords, then the call
  have fin : ∀ {us : List Value} {s1 : Shared}, AP X pins σ (fun vs H1 => ∃ g1 ds h1, GOk X G g1 ∧ HRel X.prog X.w g1 H1 h1 ∧ LR g1 own env σ H1 ∧ RelsT g1 H1 ds vs ∧ Post X G g1 H1 ((dk G.fns env h1).bind fun ks' h2 => mkCall i n ks.length src dd G.fns ds ks' h2) fun g' H' d _ => ∀ v, RelT g' H' d v → Q v H') us s1 →
      wpAny (model X.prog X.w) X.A (evalAll ((backToKw pos (keywordEach kws X.env)).map (·.2))) (fun ws s2 => X.K.In s2.heap ∧ wpAny (model X.prog X.w) X.A (PySem.call (.ref f) us (ks.zip ws)) (EP X pins σ Q) X.xe s2) X.xe s1 := by
    rintro us s1 ⟨vs, H1, I1, rv, g1, ds, h1, og1, r1, l1, q1, p1⟩
    refine thn (hk.run pos pins s1 σ H1 (fun zs H2 => ∃ g2 kd h2, GOk X G g2 ∧ HRel X.prog X.w g2 H2 h2 ∧ RelsT g2 H2 ds vs ∧ RelsT g2 H2 kd zs ∧ Post X G g2 H2 (mkCall i n ks.length src dd G.fns ds kd h2) fun g' H' d _ => ∀ v, RelT g' H' d v → Q v H') I1
      (tG.mk og1 r1 l1 ((Post.bind p1).imp fun g2 H2 kd h2 e2 r2 p2 zs qz => ⟨g2, kd, h2, og1.ext e2, r2, RelsT.ext r1 e2 q1, qz, p2⟩))) fun ws s2 ⟨zs, H2, I2, rz, g2, kd, h2, og2, r2, q2, qz, p2⟩ => ⟨I2.kIn, ?_⟩
    obtain ⟨f', hm', _, run⟩ := call_go C gu hx I2 og2 r2 q2 qz rv rz p2
    rw [hm] at hm'; cases hm'
    exact run
  have args : tA X G da σ H (fun vs H1 => ∃ g1 ds h1, GOk X G g1 ∧ HRel X.prog X.w g1 H1 h1 ∧ LR g1 own env σ H1 ∧ RelsT g1 H1 ds vs ∧ Post X G g1 H1 ((dk G.fns env h1).bind fun ks' h2 => mkCall i n ks.length src dd G.fns ds ks' h2) fun g' H' d _ => ∀ v, RelT g' H' d v → Q v H') :=
    tG.mk og r l ((Post.bind p0).imp fun g1 H1 ds h1 e1 r1 p1 vs qv => ⟨g1, ds, h1, og.ext e1, r1, l.step r e1, qv, p1⟩)
  cases es with
  | nil =>
    refine PySem.W.callWith_KW0 (h₀ := X.base) I.ok.mod.kin kp w1 ?_ (by rw [w3]; rfl)
    rw [w2]
    have e := h0 rfl
    subst e
    exact fin (us := []) (s1 := s) ⟨[], H, I, .nil, g, [], h, og, r, l, rfl, p0⟩
  | cons e r' =>
    simp only [noStars, List.all_cons, Bool.and_eq_true] at hst
    refine PySem.W.callWith_KW (h₀ := X.base) I.ok.mod.kin kp w1 (thn (ha.run pos pins s σ H _ I args) fun us s1 z => ?_) ?_ (star_cons (by simpa using hst.1))
    · rw [w2]
      exact fin z
    · rw [w3, Bool.or_false]
      exact backTo_any (stars_any (es := e :: r') (by simp only [noStars, List.all_cons, Bool.and_eq_true]; exact hst))
end
end EV
/-! EV7: statements -/
namespace EV
open PySem L2
/-- where a statement leads -/
inductive Fl where
  | nx | rt (d : D) | bk | ct
abbrev DS := Fns → Ev → Cells → R (Fl × Ev)
/-- the state of a def since its entry -/
structure Ent (g0 : Gh) (H0 : Hp) (g : Gh) (H : Hp) (own : Nat → Option Addr) : Prop where
  ext : Ext g0 H0 g H
  new : ∀ i a, own i = some a → H0 a = none
def FlE (g : Gh) (σ : L2.St) (H : Hp) (D : Ends) : Fl → Prop
  | .nx => D.nx σ H
  | .rt d => ∀ v, RelS g H d v → D.rt v H
  | .bk => D.bk σ H
  | .ct => D.ct σ H
/-- what is wanted behind a statement that began at g H -/
def PostS (X : Cx) (G : Gx) (g0 : Gh) (H0 : Hp) (g : Gh) (H : Hp) (r : R (Fl × Ev)) (D : Ends) : Prop := match r with
  | .ok (fl, env') h' => ∀ g' own' H' σ', GOk X G g' → HRel X.prog X.w g' H' h' → LR g' own' env' σ' H' → Ent g0 H0 g' H' own' → ExtS g H g' H' → FlE g' σ' H' D fl
  | .exc e h' => ∀ g' H' cls d, Ext g0 H0 g' H' → HRel X.prog X.w g' H' h' → ExcRel g' H' e cls d → G.Wx cls d H'
  | .bad => False
def tS (X : Cx) (G : Gx) (g0 : Gh) (H0 : Hp) (ds : DS) : TS := fun D σ H =>
  ∃ g own env h, GOk X G g ∧ HRel X.prog X.w g H h ∧ LR g own env σ H ∧ Ent g0 H0 g H own ∧ PostS X G g0 H0 g H (ds G.fns env h) D
section
variable {X : Cx} {G : Gx} {g0 g g' : Gh} {H0 H H' : Hp} {h h' : Cells} {own : Nat → Option Addr} {env : Ev} {σ : L2.St}
theorem PostS.mono {r : R (Fl × Ev)} {D : Ends} (p : PostS X G g0 H0 g H r D) (e : ExtS g H g' H') : PostS X G g0 H0 g' H' r D := by
  cases r with
  | ok a h' =>
    obtain ⟨fl, env'⟩ := a
    exact fun g2 own2 H2 σ2 o2 r2 l2 n2 e2 => p g2 own2 H2 σ2 o2 r2 l2 n2 (e.trans e2)
  | exc x h' => exact p
  | bad => exact p
theorem Ent.step (n : Ent g0 H0 g H own) (e : Ext g H g' H') : Ent g0 H0 g' H' own := ⟨n.ext.trans e, n.new⟩
/-- an expression, then what the statement does -/
theorem Post.stmt {α : Type} {r : R α} {f : α → Cells → R (Fl × Ev)} {D : Ends} (rr : HRel X.prog X.w g H h) (n : Ent g0 H0 g H own) (p : PostS X G g0 H0 g H (r.bind f) D) :
    Post X G g H r fun g1 H1 a h1 => PostS X G g0 H0 g1 H1 (f a h1) D := by
  cases r with
  | ok a h' => exact fun g2 H2 e2 r2 => PostS.mono (show PostS X G g0 H0 g H (f a h') D from p) (e2.s rr)
  | exc x h' => exact fun g2 H2 c d e2 r2 q => p g2 H2 c d (n.ext.trans e2) r2 q
  | bad => exact p
theorem PostS.now {env' : Ev} {fl : Fl} {D : Ends} (p : PostS X G g0 H0 g H (.ok (fl, env') h) D) (o : GOk X G g) (r : HRel X.prog X.w g H h) (l : LR g own env' σ H) (n : Ent g0 H0 g H own) : FlE g σ H D fl :=
  p g own H σ o r l n (ExtS.refl g H)
/-! ### blocks -/
def sNext : DS := fun _ env h => .ok (.nx, env) h
def sSeq (a b : DS) : DS := fun fn env h => (a fn env h).bind fun x h1 => match x.1 with
  | .nx => b fn x.2 h1
  | _ => .ok x h1
variable {st : Stmt} {rest : List Stmt} {da db : DS} {pos : Pos}
theorem ss_nil : PSs X [] (tS X G g0 H0 sNext) := PSs.imp pss_nil fun D σ H ⟨g, own, env, h, o, r, l, n, p⟩ => p.now o r l n
theorem s_seq {D : Ends} (p : tS X G g0 H0 (sSeq da db) D σ H) : tSeq (tS X G g0 H0 da) (tS X G g0 H0 db) D σ H := by
  obtain ⟨g, own, env, h, o, r, l, n, p⟩ := p
  refine ⟨g, own, env, h, o, r, l, n, ?_⟩
  unfold sSeq at p
  cases e : da G.fns env h with
  | bad => rw [e] at p; exact p
  | exc x h' => rw [e] at p; exact p
  | ok a h' =>
    rw [e] at p
    obtain ⟨fl, env'⟩ := a
    cases fl with
    | nx => exact fun g2 own2 H2 σ2 o2 r2 l2 n2 e2 => ⟨g2, own2, env', h', o2, r2, l2, n2, PostS.mono p e2⟩
    | rt d => exact p
    | bk => exact p
    | ct => exact p
theorem ss_cons (h1 : PS X st (tS X G g0 H0 da)) (h2 : PSs X rest (tS X G g0 H0 db)) : PSs X (st :: rest) (tS X G g0 H0 (sSeq da db)) := PSs.imp (pss_cons h1 h2) fun _ _ _ p => s_seq p
theorem ss_one (h1 : PS X st (tS X G g0 H0 da)) : PSs X [st] (tS X G g0 H0 da) := pss_one h1
/-! ### expressions in statements -/
/-- the expression's reading, ahead of a statement -/
theorem tS.expr {α β : Type} {Rel : Gh → Hp → α → β → Prop} {de : Fns → Ev → Cells → R α} {f : Fns → Ev → α → Cells → R (Fl × Ev)} {D : Ends} {T : β → Hp → Prop}
    (p : tS X G g0 H0 (fun fn env h => (de fn env h).bind fun a h1 => f fn env a h1) D σ H)
    (k : ∀ g own env h H1 a v, GOk X G g → HRel X.prog X.w g H1 h → LR g own env σ H1 → Ent g0 H0 g H1 own → Rel g H1 a v → PostS X G g0 H0 g H1 (f G.fns env a h) D → T v H1) : tG Rel X G de σ H T := by
  obtain ⟨g, own, env, h, o, r, l, n, p⟩ := p
  refine ⟨g, own, env, h, o, r, l, (Post.stmt r n p).imp fun g1 H1 a h1 e1 r1 p1 v q => ?_⟩
  exact k g own env h1 H1 a v |> fun z => k g1 own env h1 H1 a v (o.ext e1) r1 (l.step r e1) (n.step e1) q p1
variable {e : Expr} {de : DE}
def sRet (a : DE) : DS := fun fn env h => (a fn env h).bind fun d h1 => if isBor d then .bad else .ok (.rt d, env) h1
def sRetN : DS := fun _ env h => .ok (.rt .non, env) h
def sExpr (a : DE) : DS := fun fn env h => (a fn env h).bind fun _ h1 => .ok (.nx, env) h1
theorem s_ret (he : PE X e (tD X G de)) : PS X (.Return (some e) pos) (tS X G g0 H0 (sRet de)) :=
  PS.imp (ps_ret he) fun D σ H p => tS.expr (f := fun fn env d h1 => if isBor d then R.bad else .ok (Fl.rt d, env) h1) p fun g own env h H1 d v o r l n q p1 => by
    split at p1
    · exact p1.elim
    · rename_i nb
      exact p1.now o r l n v (q.s (by simpa using nb))
theorem s_expr (he : PE X e (tD X G de)) (hs : swapsWith e none pos.line X.env = pure false) : PS X (.Expr e pos) (tS X G g0 H0 (sExpr de)) :=
  PS.imp (ps_expr he hs) fun D σ H p => tS.expr (f := fun fn env d h1 => R.ok (Fl.nx, env) h1) p fun g own env h H1 d v o r l n q p1 => p1.now o r l n
def sIf (t : DT) (a b : DS) : DS := fun fn env h => (t fn env h).bind fun k h1 => if k = true then a fn env h1 else b fn env h1
theorem s_ifS {c : Expr} {a b : List Stmt} {t : DT} (hc : PT X c (tT X G t)) (ha : PSs X a (tS X G g0 H0 da)) (hb : PSs X b (tS X G g0 H0 db)) : PS X (.If c a b pos) (tS X G g0 H0 (sIf t da db)) :=
  PS.imp (ps_if hc ha hb) fun D σ H p => tS.expr (f := fun fn env k h1 => if k = true then da fn env h1 else db fn env h1) p fun g own env h H1 k v o r l n q p1 => by
    subst q
    cases v with
    | true => exact ⟨g, own, env, h, o, r, l, n, p1⟩
    | false => exact ⟨g, own, env, h, o, r, l, n, p1⟩
/-! ### stores to names -/
/-- slot i has a value -/
theorem LR.val (l : LR g own env σ H) {i : Nat} {d : D} {v : V} (hi : i < env.length) (q : RelS g H d v) : LR g (fun j => if j = i then none else own j) (env.set i (.val d)) (σ.set i (some v)) H where
  len := by rw [List.length_set, List.length_set, l.len]
  inj := fun a b x h1 h2 => by
    by_cases ha : a = i
    · rw [if_pos ha] at h1; cases h1
    · by_cases hb : b = i
      · rw [if_pos hb] at h2; cases h2
      · rw [if_neg ha] at h1; rw [if_neg hb] at h2
        exact l.inj a b x h1 h2
  ow := fun a x h1 => by
    by_cases ha : a = i
    · rw [if_pos ha] at h1; cases h1
    · rw [if_neg ha] at h1; exact l.ow a x h1
  sl := fun j s h1 => by
    by_cases hj : j = i
    · subst hj
      rw [List.getElem?_set_self hi] at h1
      cases h1
      exact ⟨v, by rw [List.getElem?_set_self (by rw [← l.len]; exact hi)], q⟩
    · rw [List.getElem?_set_ne (Ne.symm hj)] at h1
      have z := l.sl j s h1
      cases s with
      | no => trivial
      | val d' =>
        obtain ⟨u, z1, z2⟩ := z
        exact ⟨u, by rw [List.getElem?_set_ne (Ne.symm hj)]; exact z1, z2⟩
      | own ds =>
        obtain ⟨a, xs, z1, z2, z3, z4⟩ := z
        exact ⟨a, xs, by simp only [if_neg hj]; exact z1, by rw [List.getElem?_set_ne (Ne.symm hj)]; exact z2, z3, z4⟩
theorem Ent.less (n : Ent g0 H0 g H own) (i : Nat) : Ent g0 H0 g H (fun j => if j = i then none else own j) := ⟨n.ext, fun a x h1 => by
  by_cases ha : a = i
  · simp only [if_pos ha] at h1; cases h1
  · simp only [if_neg ha] at h1; exact n.new a x h1⟩
def setV (i : Nat) (d : D) (env : Ev) (h : Cells) : R (Fl × Ev) := if isBor d || decide (env.length ≤ i) then .bad else .ok (.nx, env.set i (.val d)) h
def sSet (i : Nat) (a : DE) : DS := fun fn env h => (a fn env h).bind fun d h1 => setV i d env h1
theorem setV_ok {i : Nat} {d : D} {v : V} {D : Ends} (o : GOk X G g) (r : HRel X.prog X.w g H h) (l : LR g own env σ H) (n : Ent g0 H0 g H own) (q : RelT g H d v) (p : PostS X G g0 H0 g H (setV i d env h) D) : D.nx (σ.set i (some v)) H := by
  unfold setV at p
  split at p
  · exact p.elim
  · rename_i z
    simp only [Bool.or_eq_true, decide_eq_true_eq, not_or, Bool.not_eq_true] at z
    exact p.now o r (l.val (by omega) (q.s z.1)) (n.less i)
theorem s_set {i : Nat} {x : Str} {pos' : Pos} (hN : X.N.Nodup) (hi : X.N[i]? = some x) (hx : Loc X.env.scope x) (he : PE X e (tD X G de)) (hs : swapsWith e (some (.Name x pos')) pos.line X.env = pure false) (hf : X.fn x = true ∨ X.env.scope.names.lookup x = some .local) :
    PS X (.Assign [.Name x pos'] e pos) (tS X G g0 H0 (sSet i de)) :=
  PS.imp (ps_set hN hi hx he hs hf) fun D σ H p => tS.expr (f := fun fn env d h1 => setV i d env h1) p fun g own env h H1 d v o r l n q p1 => setV_ok o r l n q p1
end
end EV
/-! EV8: new lists, what is walked, targets, for -/
namespace EV
open PySem L2
abbrev DF := Fns → Ev → Cells → R (List D)
/-- an expression whose value is a new list of its own -/
def tF (X : Cx) (G : Gx) (df : DF) : TE := fun σ H Q => ∃ g own env h, GOk X G g ∧ HRel X.prog X.w g H h ∧ LR g own env σ H ∧
  Post X G g H (df G.fns env h) fun g' H' ds _ => ∀ p xs, H p = none → g'.W p → p ∉ g'.ρ → H' p = some (.lst xs) → RelsS g' H' ds xs → Q (.ref p) H'
/-- p may be written -/
def Gh.plus (g : Gh) (p : Addr) : Gh := { g with W := fun a => g.W a ∨ a = p }
section
variable {X : Cx} {G : Gx} {g g' : Gh} {H H' : Hp} {h h' : Cells} {own : Nat → Option Addr} {env : Ev} {σ : L2.St} {ds : List D} {xs : List V} {p : Addr}
theorem Ext.back (r : HRel X.prog X.w g H h) (r' : HRel X.prog X.w g' H' h') (e : Ext g H g' H') (hp : H' p = none) : H p = none := by
  cases q : H p with
  | none => rfl
  | some o =>
    by_cases m : p ∈ g.ρ
    · obtain ⟨u, hu, _⟩ := r'.mem (e.mem m)
      rw [hp] at hu; cases hu
    · rw [e.fr p o q m] at hp; cases hp
theorem Ext.plus (r : HRel X.prog X.w g H h) {o : HO} (hp : H p = none) : Ext g H (g.plus p) (upd H p o) where
  K := rfl
  gA := rfl
  pre := ⟨[], by simp [Gh.plus]⟩
  wn := fun a z => by
    rcases z with z | z
    · exact .inl z
    · exact .inr (by rw [z]; exact hp)
  wk := fun a z => .inl (.inl z)
  rw := fun a m => .inl (r.wr a m)
  fr := fun a u z _ => by rw [upd_ne (ne_of_none z hp)]; exact z
  nw := fun a m n => absurd m n
theorem HRel.plus (r : HRel X.prog X.w g H h) (hp : H p = none) : HRel X.prog X.w (g.plus p) (upd H p (.lst xs)) h where
  len := r.len
  nd := r.nd
  wr := fun a m => .inl (r.wr a m)
  wt := fun a u h1 h2 => by
    by_cases z : a = p
    · rw [z, upd_same] at h2
      cases h2
      exact ⟨(fun ys z => by cases z), (fun _ _ z => by cases z)⟩
    · rw [upd_ne z] at h2
      rcases h1 with h1 | h1
      · exact r.wt a u h1 h2
      · exact absurd h1 z
  at_ := fun n a c h1 h2 => by
    refine (r.at_ n a c h1 h2).ext r (Ext.plus r hp) ?_
    obtain ⟨u, hu, _⟩ := r.mem (List.mem_of_getElem? h1)
    exact upd_ne (ne_of_none hu hp)
/-- a new list has been laid -/
theorem fresh_now {g1 : Gh} {H1 : Hp} {h1 : Cells} {Q : VK} (r : HRel X.prog X.w g H h) (e : Ext g H g1 H1) (r1 : HRel X.prog X.w g1 H1 h1) (q : RelsS g1 H1 ds xs)
    (k : Post X G g1 H1 (.ok ds h1) fun g' H' ds _ => ∀ p xs, H p = none → g'.W p → p ∉ g'.ρ → H' p = some (.lst xs) → RelsS g' H' ds xs → Q (.ref p) H') : ∀ p, H1 p = none → Q (.ref p) (upd H1 p (.lst xs)) := fun p hp =>
  k _ _ (Ext.plus r1 hp) (r1.plus hp) p xs (e.back r r1 hp) (.inr rfl) (fun m => by
    obtain ⟨u, hu, _⟩ := r1.mem (show p ∈ g1.ρ from m)
    rw [hp] at hu; cases hu) upd_same (RelsS.ext r1 (Ext.plus r1 hp) q)
theorem ExtS.less : ExtS g H (g.less p) H := ⟨rfl, rfl, ⟨[], by simp [Gh.less]⟩, fun a z => .inl z.1, fun _ _ z _ => z⟩
theorem HRel.less (r : HRel X.prog X.w g H h) (hp : p ∉ g.ρ) : HRel X.prog X.w (g.less p) H h where
  len := r.len
  nd := r.nd
  wr := fun a m => ⟨r.wr a m, fun z => hp (z ▸ m)⟩
  wt := fun a u h1 h2 => r.wt a u h1.1 h2
  at_ := fun n a c h1 h2 => (r.at_ n a c h1 h2).exts r ExtS.less rfl
theorem Ext.lessNew (e : Ext g H g' H') (hp : H p = none) (hn : p ∉ g'.ρ) : Ext g H (g'.less p) H' where
  K := e.K
  gA := e.gA
  pre := e.pre
  wn := fun a z => e.wn a z.1
  wk := fun a z => by
    by_cases q : a = p
    · exact .inr (by rw [q]; exact hp)
    · exact (e.wk a z).imp (fun z => ⟨z, q⟩) id
  rw := fun a m => ⟨e.rw a m, fun z => hn (z ▸ m)⟩
  fr := e.fr
  nw := e.nw
/-- by value -/
def asVal (df : DF) : DE := fun fn env h => (df fn env h).bind fun ds h1 => .ok (.lst ds) h1
theorem tF.val {df : DF} {Q : VK} (q : tD X G (asVal df) σ H Q) : tF X G df σ H Q := by
  obtain ⟨g, own, env, h, o, r, l, q⟩ := q
  refine ⟨g, own, env, h, o, r, l, ?_⟩
  unfold asVal at q
  cases e : df G.fns env h with
  | bad => rw [e] at q; exact q.elim
  | exc x h' => rw [e] at q; exact q
  | ok ds h' =>
    rw [e] at q
    intro g' H' e' r' p xs h1 h2 h3 h4 h5
    exact q (g'.less p) H' (e'.lessNew h1 h3) (r'.less h3) _ ⟨p, xs, rfl, ⟨h4, fun z => z.2 rfl⟩, RelsS.exts r' ExtS.less h5⟩
/-- in a cell -/
def asCell (df : DF) : DE := fun fn env h => (df fn env h).bind fun ds h1 => .ok (.obj h1.length) (h1 ++ [.lst ds])
def Gh.cellAt (g : Gh) (p : Addr) : Gh := { g with ρ := g.ρ ++ [p] }
theorem ExtS.cellAt : ExtS g H (g.cellAt p) H := ⟨rfl, rfl, ⟨[p], rfl⟩, fun a z => .inl z, fun _ _ z _ => z⟩
theorem HRel.cellAt (r : HRel X.prog X.w g H h) (hw : g.W p) (hn : p ∉ g.ρ) {c : OB} (q : CellRel X.prog X.w (g.cellAt p) H p c) : HRel X.prog X.w (g.cellAt p) H (h ++ [c]) where
  len := by show (g.ρ ++ [p]).length = _; rw [List.length_append, List.length_append, r.len]; rfl
  nd := by
    show (g.ρ ++ [p]).Nodup
    rw [List.nodup_append]
    refine ⟨r.nd, by simp, fun a m b hb e => ?_⟩
    have : b = p := by simpa using hb
    exact hn (by rw [← this, ← e]; exact m)
  wr := fun a m => (List.mem_append.mp (show a ∈ g.ρ ++ [p] from m)).elim (fun m => r.wr a m) fun m => by
    have : a = p := by simpa using m
    rw [this]; exact hw
  wt := r.wt
  at_ := fun n a c' h1 h2 => by
    have h1 : (g.ρ ++ [p])[n]? = some a := h1
    by_cases hn : n < g.ρ.length
    · rw [List.getElem?_append_left hn] at h1
      rw [List.getElem?_append_left (by rw [← r.len]; exact hn)] at h2
      exact (r.at_ n a c' h1 h2).exts r ExtS.cellAt rfl
    · rw [List.getElem?_append_right (by omega)] at h1
      rw [List.getElem?_append_right (by rw [← r.len]; omega)] at h2
      have e : n = g.ρ.length := by
        have := (List.getElem?_eq_some_iff.mp h1).1
        simp at this; omega
      subst e
      rw [← r.len, Nat.sub_self] at h2
      rw [Nat.sub_self] at h1
      simp at h1 h2
      subst h1; subst h2
      exact q
theorem Ext.cellNew (e : Ext g H g' H') (hp : H p = none) (hw : g'.W p) : Ext g H (g'.cellAt p) H' where
  K := e.K
  gA := e.gA
  pre := by
    obtain ⟨t, z⟩ := e.pre
    exact ⟨t ++ [p], by show g'.ρ ++ [p] = _; rw [z, List.append_assoc]⟩
  wn := e.wn
  wk := e.wk
  rw := fun a m => (List.mem_append.mp (show a ∈ g'.ρ ++ [p] from m)).elim (fun m => e.rw a m) fun m => by
    have : a = p := by simpa using m
    rw [this]; exact hw
  fr := e.fr
  nw := fun a m n => (List.mem_append.mp (show a ∈ g'.ρ ++ [p] from m)).elim (fun m => e.nw a m n) fun m => by
    have : a = p := by simpa using m
    rw [this]; exact hp
theorem tF.cell {df : DF} {Q : VK} (q : tD X G (asCell df) σ H Q) : tF X G df σ H Q := by
  obtain ⟨g, own, env, h, o, r, l, q⟩ := q
  refine ⟨g, own, env, h, o, r, l, ?_⟩
  unfold asCell at q
  cases e : df G.fns env h with
  | bad => rw [e] at q; exact q.elim
  | exc x h' => rw [e] at q; exact q
  | ok ds h' =>
    rw [e] at q
    intro g' H' e' r' p xs h1 h2 h3 h4 h5
    refine q (g'.cellAt p) H' (e'.cellNew h1 h2) (r'.cellAt h2 h3 (c := .lst ds) ⟨xs, h4, RelsS.exts r' ExtS.cellAt h5⟩) _ ⟨p, rfl, ?_⟩
    show (g'.ρ ++ [p])[h'.length]? = _
    rw [← r'.len, List.getElem?_append_right (Nat.le_refl _), Nat.sub_self]; rfl
theorem PE.val {e : Expr} {df : DF} (he : PE X e (tF X G df)) : PE X e (tD X G (asVal df)) := PE.imp he fun _ _ _ q => tF.val q
theorem PE.cell {e : Expr} {df : DF} (he : PE X e (tF X G df)) : PE X e (tD X G (asCell df)) := PE.imp he fun _ _ _ q => tF.cell q
/-- in a slot of its own -/
def sOwn (i : Nat) (df : DF) : DS := fun fn env h => (df fn env h).bind fun ds h1 => if decide (env.length ≤ i) then .bad else .ok (.nx, env.set i (.own ds)) h1
variable {g0 : Gh} {H0 : Hp}
theorem LR.own' (l : LR g own env σ H) {i : Nat} (hi : i < env.length) (hw : g.W p) (hn : p ∉ g.ρ) (hH : H p = some (.lst xs)) (q : RelsS g H ds xs) (un : ∀ j, own j ≠ some p) :
    LR g (fun j => if j = i then some p else own j) (env.set i (.own ds)) (σ.set i (some (.ref p))) H where
  len := by rw [List.length_set, List.length_set, l.len]
  inj := fun a b x h1 h2 => by
    by_cases ha : a = i
    · by_cases hb : b = i
      · rw [ha, hb]
      · simp only [if_pos ha] at h1; simp only [if_neg hb] at h2
        cases h1
        exact absurd h2 (un b)
    · by_cases hb : b = i
      · simp only [if_neg ha] at h1; simp only [if_pos hb] at h2
        cases h2
        exact absurd h1 (un a)
      · simp only [if_neg ha] at h1; simp only [if_neg hb] at h2
        exact l.inj a b x h1 h2
  ow := fun a x h1 => by
    by_cases ha : a = i
    · simp only [if_pos ha] at h1; cases h1
      exact ⟨hw, hn, _, hH⟩
    · simp only [if_neg ha] at h1; exact l.ow a x h1
  sl := fun j s h1 => by
    by_cases hj : j = i
    · subst hj
      rw [List.getElem?_set_self hi] at h1
      cases h1
      exact ⟨p, xs, by simp, by rw [List.getElem?_set_self (by rw [← l.len]; exact hi)], hH, q⟩
    · rw [List.getElem?_set_ne (Ne.symm hj)] at h1
      have z := l.sl j s h1
      cases s with
      | no => trivial
      | val d' =>
        obtain ⟨u, z1, z2⟩ := z
        exact ⟨u, by rw [List.getElem?_set_ne (Ne.symm hj)]; exact z1, z2⟩
      | own ds =>
        obtain ⟨a, xs, z1, z2, z3, z4⟩ := z
        exact ⟨a, xs, by simp only [if_neg hj]; exact z1, by rw [List.getElem?_set_ne (Ne.symm hj)]; exact z2, z3, z4⟩
theorem own_of {D : Ends} {i : Nat} {σ : L2.St} {H : Hp} {df : DF} (q : tS X G g0 H0 (sOwn i df) D σ H) : tAsg (tF X G df) (gName i) D σ H := by
  obtain ⟨g, own, env, h, o, r, l, n, q⟩ := q
  refine ⟨g, own, env, h, o, r, l, (Post.stmt r n q).imp fun g' H' ds h' e' r' q' p xs h1 h2 h3 h4 h5 => ?_⟩
  split at q'
  · exact q'.elim
  · rename_i z
    have l' := l.step r e'
    have un : ∀ j, own j ≠ some p := fun j hj => by
      obtain ⟨_, _, u, hu⟩ := l.ow j p hj
      rw [h1] at hu; cases hu
    refine q'.now (o.ext e') r' (l'.own' (by simpa using z) h2 h3 h4 h5 un) ⟨n.ext.trans e', fun a x hx => ?_⟩
    by_cases ha : a = i
    · simp only [if_pos ha] at hx; cases hx
      cases q0 : H0 p with
      | none => rfl
      | some u =>
        by_cases m : p ∈ g0.ρ
        · obtain ⟨u', hu', _⟩ := r.mem (n.ext.mem m)
          rw [h1] at hu'; cases hu'
        · rw [n.ext.fr p u q0 m] at h1; cases h1
    · simp only [if_neg ha] at hx; exact n.new a x hx
/-- a display as a new list -/
def dDisp (da : DA) : DF := fun fn env h => (da fn env h).bind fun ds h1 => if noBors ds && decide (ds.length ≤ szL) then .ok ds h1 else .bad
theorem s_disp {es : List Expr} {pos : Pos} {dr : DA} (ha : PA X es (tA X G dr)) : PE X (.List es pos) (tF X G (dDisp dr)) :=
  PE.imp (pe_lst ha) fun σ H Q ⟨g, own, env, h, o, r, l, q⟩ => by
    refine ⟨g, own, env, h, o, r, l, (Post.bind q).imp fun g1 H1 ds h1 e1 r1 q1 vs qv => ?_⟩
    split at q1
    · rename_i hz
      rw [Bool.and_eq_true, decide_eq_true_eq] at hz
      have q' := qv.s hz.1
      exact ⟨by rw [lineE, ← q'.len]; exact hz.2, fresh_now r e1 r1 q' q1⟩
    · exact q1.elim
end
end EV
/-! EV9: what is walked; targets; for -/
namespace EV
open PySem L2
/-- an iterator that gives these items, whatever is written in the meantime -/
structure ItOk (X : Cx) (J : It) (g : Gh) (H : Hp) (ds : List D) : Prop where
  goes : ∀ g' H' h' i, i < ds.length → ExtS g H g' H' → HRel X.prog X.w g' H' h' → J.go i H'
  stops : ∀ g' H' h', ExtS g H g' H' → HRel X.prog X.w g' H' h' → J.stop ds.length H'
  yields : ∀ g' H' h' i x H'', i < ds.length → ExtS g H g' H' → HRel X.prog X.w g' H' h' → J.yld i H' x H'' → ∃ g'' d, Ext g' H' g'' H'' ∧ HRel X.prog X.w g'' H'' h' ∧ ds[i]? = some d ∧ RelS g'' H'' d x
def tI (X : Cx) (G : Gx) (di : DF) : TI := fun σ H R => ∃ g own env h, GOk X G g ∧ HRel X.prog X.w g H h ∧ LR g own env σ H ∧ Post X G g H (di G.fns env h) fun g' H' ds _ => ∀ J, ItOk X J g' H' ds → R J H'
theorem PI.imp {X : Cx} {tg e : Expr} {t t' : TI} (h : PI X tg e t) (k : ∀ σ H R, t' σ H R → t σ H R) : PI X tg e t' := ⟨fun pins s σ H R I q => h.run pins s σ H R I (k σ H R q)⟩
section
variable {X : Cx} {G : Gx} {g g' : Gh} {H H' : Hp} {h h' : Cells} {own : Nat → Option Addr} {env : Ev} {σ : L2.St} {ds : List D} {xs : List V} {a : Addr} {tg e : Expr} {da : DE}
/-- a list that stands still -/
theorem it_list (r : HRel X.prog X.w g H h) (st : ∀ g' H', ExtS g H g' H' → SqL X.K H' a xs) (q : RelsS g H ds xs) : ItOk X (Itl X.K a) g H ds where
  goes := fun g' H' h' i hi e r' => by
    have z := st g' H' e
    rw [q.len] at hi
    exact ⟨xs, xs[i], z, by simp [hi]⟩
  stops := fun g' H' h' e r' => ⟨xs, st g' H' e, by rw [q.len]; exact Nat.le_refl _⟩
  yields := fun g' H' h' i x H'' hi e r' y => by
    obtain ⟨y1, y2⟩ := y
    subst y1
    obtain ⟨d, h1, h2⟩ := (RelsS.exts r e q).getV (y2 xs (st g' _ e))
    exact ⟨g', d, Ext.refl r', r', h1, h2⟩
theorem it_tup (r : HRel X.prog X.w g H h) (og : GOk X G g) (st : SqT X.K H a xs) (q : RelsS g H ds xs) : ItOk X (Itt X.K a) g H ds := by
  have st' : ∀ g' H', ExtS g H g' H' → SqT X.K H' a xs := fun g' H' e => by
    have z := SqT.exts r e (by rw [og.K]; exact st)
    rw [e.K, og.K] at z
    exact z
  exact {
    goes := fun g' H' h' i hi e r' => by
      have z := st' g' H' e
      rw [q.len] at hi
      exact ⟨xs, xs[i], z, by simp [hi]⟩
    stops := fun g' H' h' e r' => ⟨xs, st' g' H' e, by rw [q.len]; exact Nat.le_refl _⟩
    yields := fun g' H' h' i x H'' hi e r' y => by
      obtain ⟨y1, y2⟩ := y
      subst y1
      obtain ⟨d, h1, h2⟩ := (RelsS.exts r e q).getV (y2 xs (st' g' _ e))
      exact ⟨g', d, Ext.refl r', r', h1, h2⟩ }
/-- what a list, a tuple, a text gives; a cell's or slot's own list does not stand still -/
def itemsOf (d : D) (h : Cells) : R (List D) := match d with
  | .tup ds => .ok ds h
  | .lst ds => .ok ds h
  | .frz ds => .ok ds h
  | .str s => .ok (s.cps.toList.map fun c => D.str ⟨#[c]⟩) h
  | _ => .bad
def dItems (a : DE) : DF := fun fn env h => (a fn env h).bind fun d h1 => itemsOf d h1
theorem lst_stands (og : GOk X G g) {v : V} (q : RelS g H (.lst ds) v) : ∃ a xs, v = .ref a ∧ RelsS g H ds xs ∧ SqL X.K H a xs ∧ ∀ g' H', ExtS g H g' H' → SqL X.K H' a xs := by
  obtain ⟨a, xs, h1, h2, h3⟩ := q
  exact ⟨a, xs, h1, h3, .inl (.inl h2.1), fun g' H' e => .inl (.inl (LstAt.exts e h2).1)⟩
theorem frz_stands (og : GOk X G g) (r : HRel X.prog X.w g H h) {v : V} (q : RelS g H (.frz ds) v) : ∃ a xs, v = .ref a ∧ RelsS g H ds xs ∧ SqL X.K H a xs ∧ ∀ g' H', ExtS g H g' H' → SqL X.K H' a xs := by
  obtain ⟨a, xs, h1, h2, h3⟩ := q
  refine ⟨a, xs, h1, h3, by rw [← og.K]; exact h2.sql, fun g' H' e => ?_⟩
  have z := (FrzAt.exts r e h2).sql
  rw [e.K, og.K] at z
  exact z
theorem it_str (r : HRel X.prog X.w g H h) (s : Str) : ItOk X (Its s) g H (s.cps.toList.map fun c => D.str ⟨#[c]⟩) where
  goes := fun g' H' h' i hi e r' => by
    show i < s.cps.size
    simpa using hi
  stops := fun g' H' h' e r' => by
    show s.cps.size ≤ _
    simp
  yields := fun g' H' h' i x H'' hi e r' y => by
    obtain ⟨y1, c, y2, y3⟩ := y
    subst y1; subst y3
    refine ⟨g', .str ⟨#[c]⟩, Ext.refl r', r', ?_, rfl⟩
    rw [List.getElem?_map, Array.getElem?_toList, y2]; rfl
/-- over the value of an expression -/
theorem s_items (he : PE X e (tD X G da)) : PI X tg e (tI X G (dItems da)) := by
  refine ⟨fun pins s σ H R I q => ?_⟩
  obtain ⟨g, own, env, h, o, r, l, q⟩ := q
  unfold dItems at q
  cases ed : da G.fns env h with
  | bad => rw [ed] at q; exact q.elim
  | exc x h' =>
    rw [ed] at q
    refine (pi_list he).run pins s σ H R I ⟨g, own, env, h, o, r, l, ?_⟩
    rw [ed]
    exact q
  | ok d h' =>
    rw [ed] at q
    have q : Post X G g H (itemsOf d h') fun g' H' ds _ => ∀ J, ItOk X J g' H' ds → R J H' := q
    unfold itemsOf at q
    split at q
    · refine (pi_tup he).run pins s σ H R I ⟨g, own, env, h, o, r, l, ?_⟩
      rw [ed]
      intro g1 H1 e1 r1 v qv
      obtain ⟨a, xs, rfl, h1, h2⟩ := tup_ok (o.ext e1) qv
      exact ⟨a, rfl, ⟨xs, h1⟩, q g1 H1 e1 r1 _ (it_tup r1 (o.ext e1) h1 h2)⟩
    · refine (pi_list he).run pins s σ H R I ⟨g, own, env, h, o, r, l, ?_⟩
      rw [ed]
      intro g1 H1 e1 r1 v qv
      obtain ⟨a, xs, rfl, h2, h1, h3⟩ := lst_stands (o.ext e1) qv
      exact ⟨a, rfl, ⟨xs, h1⟩, q g1 H1 e1 r1 _ (it_list r1 h3 h2)⟩
    · refine (pi_list he).run pins s σ H R I ⟨g, own, env, h, o, r, l, ?_⟩
      rw [ed]
      intro g1 H1 e1 r1 v qv
      obtain ⟨a, xs, rfl, h2, h1, h3⟩ := frz_stands (o.ext e1) r1 qv
      exact ⟨a, rfl, ⟨xs, h1⟩, q g1 H1 e1 r1 _ (it_list r1 h3 h2)⟩
    · refine (pi_str he).run pins s σ H R I ⟨g, own, env, h, o, r, l, ?_⟩
      rw [ed]
      intro g1 H1 e1 r1 v qv
      exact ⟨_, qv, q g1 H1 e1 r1 _ (it_str r1 _)⟩
    · exact q.elim
/-- range -/
def upTo (lo : Int) (n : Nat) : List D := (List.range n).map fun i => D.int (lo + (i : Nat))
theorem it_range (r : HRel X.prog X.w g H h) (lo : Int) (n : Nat) : ItOk X (Itr lo n) g H (upTo lo n) where
  goes := fun g' H' h' i hi e r' => by
    show i < n
    simpa [upTo] using hi
  stops := fun g' H' h' e r' => by
    show n ≤ _
    simp [upTo]
  yields := fun g' H' h' i x H'' hi e r' y => by
    obtain ⟨y1, y2⟩ := y
    subst y1; subst y2
    refine ⟨g', .int (lo + (i : Nat)), Ext.refl r', r', ?_, rfl⟩
    have : i < n := by simpa [upTo] using hi
    simp [upTo, this]
def rng1 (ds : List D) (h : Cells) : R (List D) := match ds with
  | [.int j] => if decide (-1000000000 ≤ j) && decide (j ≤ 1000000000) then .ok (upTo 0 j.toNat) h else .bad
  | _ => .bad
def rng2 (ds : List D) (h : Cells) : R (List D) := match ds with
  | [.int i, .int j] => if decide (-1000000000 ≤ i) && decide (i ≤ 1000000000) && decide (-1000000000 ≤ j) && decide (j ≤ 1000000000) then .ok (upTo i (j - i).toNat) h else .bad
  | _ => .bad
def dRng1 (a : DA) : DF := fun fn env h => (a fn env h).bind fun ds h1 => rng1 ds h1
def dRng2 (a : DA) : DF := fun fn env h => (a fn env h).bind fun ds h1 => rng2 ds h1
variable {dr : DA}
theorem rel1 {d : D} {vs : List V} (q : RelsT g H [d] vs) : ∃ y, vs = [y] ∧ RelT g H d y := by
  obtain ⟨y, rr, rfl, z1, z2⟩ := q
  cases (show rr = [] from z2)
  exact ⟨y, rfl, z1⟩
theorem rel2 {d e : D} {vs : List V} (q : RelsT g H [d, e] vs) : ∃ y z, vs = [y, z] ∧ RelT g H d y ∧ RelT g H e z := by
  obtain ⟨y, rr, rfl, z1, z2⟩ := q
  obtain ⟨z, rfl, z3⟩ := rel1 z2
  exact ⟨y, z, rfl, z1, z3⟩
theorem rel3 {d e f : D} {vs : List V} (q : RelsT g H [d, e, f] vs) : ∃ y z w, vs = [y, z, w] ∧ RelT g H d y ∧ RelT g H e z ∧ RelT g H f w := by
  obtain ⟨y, rr, rfl, z1, z2⟩ := q
  obtain ⟨z, w, rfl, z3, z4⟩ := rel2 z2
  exact ⟨y, z, w, rfl, z1, z3, z4⟩
theorem s_range1 {b : Expr} {p pos : Pos} (hg : Gl X "range") (hm : X.mg "range" = none) (ha : PA X [b] (tA X G dr)) (hs : isStar b = false) : PI X tg (.Call (.Name "range" p) [b] [] pos) (tI X G (dRng1 dr)) :=
  PI.imp (pi_range1 hg hm ha (by rw [star_cons hs]; rfl)) fun σ H R ⟨g, own, env, h, o, r, l, q⟩ => ⟨g, own, env, h, o, r, l, (Post.bind q).imp fun g1 H1 ds h1 e1 r1 q1 vs qv => by
    unfold rng1 at q1
    split at q1
    · rename_i j
      obtain ⟨y, rfl, z1⟩ := rel1 qv
      cases (show y = V.int j from z1)
      split at q1
      · rename_i hz
        simp only [Bool.and_eq_true, decide_eq_true_eq] at hz
        exact ⟨j, rfl, by omega, by omega, Post.now r1 q1 _ (it_range r1 0 j.toNat)⟩
      · exact q1.elim
    · exact q1.elim⟩
/-- pairs, laid new at each turn -/
theorem Ext.pair (r : HRel X.prog X.w g H h) {T : Addr} {x y : V} {d e : D} (hT : H T = none) (q1 : RelS g H d x) (q2 : RelS g H e y) : RelS (g.less T) (upd H T (.tup [x, y])) (.tup [d, e]) (.ref T) :=
  RelS.newT r hT ⟨x, [y], rfl, q1, y, [], rfl, q2, rfl⟩
def pairs : List D → List D → List D
  | d :: ds, e :: es => .tup [d, e] :: pairs ds es
  | _, _ => []
theorem pairs_len : ∀ ds es : List D, (pairs ds es).length = min ds.length es.length
  | [], _ => by simp [pairs]
  | _ :: _, [] => by simp [pairs]
  | d :: ds, e :: es => by rw [pairs, List.length_cons, pairs_len ds es, List.length_cons, List.length_cons]; omega
theorem pairs_get : ∀ {ds es : List D} {i : Nat} {d e : D}, ds[i]? = some d → es[i]? = some e → (pairs ds es)[i]? = some (.tup [d, e])
  | [], _, _, _, _, h, _ => by simp at h
  | _ :: _, [], _, _, _, _, h => by simp at h
  | _ :: _, _ :: _, 0, _, _, h1, h2 => by simp at h1 h2; subst h1; subst h2; rfl
  | _ :: ds, _ :: es, i + 1, _, _, h1, h2 => by
    rw [pairs]
    simpa using pairs_get (ds := ds) (es := es) (i := i) (by simpa using h1) (by simpa using h2)
/-- how a target takes a value apart -/
inductive Pat where
  | name (i : Nat) | tup (ps : List Pat)
mutual
def Pat.put : Pat → D → Ev → Option Ev
  | .name i, d, env => if isBor d || decide (env.length ≤ i) then none else some (env.set i (.val d))
  | .tup ps, d, env => match d with
    | .tup ds => Pat.puts ps ds env
    | _ => none
def Pat.puts : List Pat → List D → Ev → Option Ev
  | [], [], env => some env
  | p :: ps, d :: ds, env => match Pat.put p d env with
    | some env' => Pat.puts ps ds env'
    | none => none
  | _, _, _ => none
end
mutual
def Pat.slots : Pat → List Nat
  | .name i => [i]
  | .tup ps => Pat.slotss ps
def Pat.slotss : List Pat → List Nat
  | [] => []
  | p :: ps => Pat.slots p ++ Pat.slotss ps
end
/-- the other slots stand -/
def Stand (is : List Nat) (σ σ' : L2.St) : Prop := σ'.length = σ.length ∧ ∀ i, i ∉ is → σ'[i]? = σ[i]?
/-- what a target leaves: less is owned -/
def tPat (X : Cx) (G : Gx) (pt : Pat) : TG := fun v σ H Q => ∃ g own env h d env', GOk X G g ∧ HRel X.prog X.w g H h ∧ LR g own env σ H ∧ RelS g H d v ∧ Pat.put pt d env = some env' ∧
  ∀ own' σ', LR g own' env' σ' H → (∀ i a, own' i = some a → own i = some a) → Stand pt.slots σ σ' → Q σ' H
def tPats (X : Cx) (G : Gx) (ps : List Pat) : TGs := fun vs σ H Q => ∃ g own env h ds env', GOk X G g ∧ HRel X.prog X.w g H h ∧ LR g own env σ H ∧ RelsS g H ds vs ∧ Pat.puts ps ds env = some env' ∧
  ∀ own' σ', LR g own' env' σ' H → (∀ i a, own' i = some a → own i = some a) → Stand (Pat.slotss ps) σ σ' → Q σ' H
theorem PG.imp {e : Expr} {t t' : TG} (h : PG X e t) (k : ∀ v σ H Q, t' v σ H Q → t v σ H Q) : PG X e t' := ⟨fun pins s σ H v u Q I r q => h.run pins s σ H v u Q I r (k v σ H Q q)⟩
theorem PGs.imp {e : List Expr} {t t' : TGs} (h : PGs X e t) (k : ∀ v σ H Q, t' v σ H Q → t v σ H Q) : PGs X e t' := ⟨fun pins s σ H v u Q I r q => h.run pins s σ H v u Q I r (k v σ H Q q)⟩
theorem s_gName {i : Nat} {x : Str} {pos : Pos} (hN : X.N.Nodup) (hi : X.N[i]? = some x) (hx : Loc X.env.scope x) (hf : X.fn x = true ∨ X.env.scope.names.lookup x = some .local) : PG X (.Name x pos) (tPat X G (.name i)) :=
  PG.imp (pg_name hN hi hx hf) fun v σ H Q ⟨g, own, env, h, d, env', o, r, l, q, e, k⟩ => by
    unfold Pat.put at e
    split at e
    · cases e
    · rename_i z
      simp only [Bool.or_eq_true, decide_eq_true_eq, not_or, Bool.not_eq_true] at z
      cases e
      refine k _ _ (l.val (by omega) q) (fun j a hj => ?_) ⟨by rw [List.length_set], fun j hj => ?_⟩
      · by_cases hji : j = i
        · simp only [if_pos hji] at hj; cases hj
        · simp only [if_neg hji] at hj; exact hj
      · rw [List.getElem?_set_ne]
        intro e
        exact hj (by simp [Pat.slots, e])
theorem s_gsNil : PGs X [] (tPats X G []) :=
  PGs.imp pgs_nil fun v σ H Q ⟨g, own, env, h, ds, env', o, r, l, q, e, k⟩ => by
    cases ds with
    | nil =>
      cases (show v = [] from q)
      unfold Pat.puts at e
      cases e
      exact ⟨rfl, k own σ l (fun _ _ z => z) ⟨rfl, fun _ _ => rfl⟩⟩
    | cons d ds => simp [Pat.puts] at e
theorem s_gsCons {es : List Expr} {pt : Pat} {ps : List Pat} (h1 : PG X e (tPat X G pt)) (h2 : PGs X es (tPats X G ps)) (hs : (assignEach (e :: es) X.env).map (·.2) = assign e X.env :: (assignEach es X.env).map (·.2)) : PGs X (e :: es) (tPats X G (pt :: ps)) :=
  PGs.imp (pgs_cons h1 h2 hs) fun v σ H Q ⟨g, own, env, h, ds, env', o, r, l, q, e, k⟩ => by
    cases ds with
    | nil => simp [Pat.puts] at e
    | cons d ds =>
      simp only [RelsS] at q
      obtain ⟨x, rr, rfl, q1, q2⟩ := q
      unfold Pat.puts at e
      split at e
      · rename_i env1 e1
        refine ⟨x, rr, rfl, g, own, env, h, d, env1, o, r, l, q1, e1, fun own' σ' l' sub st => ?_⟩
        refine ⟨g, own', env1, h, ds, env', o, r, l', q2, e, fun own'' σ'' l'' sub' st' => k own'' σ'' l'' (fun i a z => sub i a (sub' i a z)) ⟨st'.1.trans st.1, fun i hi => ?_⟩⟩
        simp only [Pat.slotss, List.mem_append, not_or] at hi
        exact (st'.2 i hi.2).trans (st.2 i hi.1)
      · cases e
theorem puts_len : ∀ {ps : List Pat} {ds : List D} {env env' : Ev}, Pat.puts ps ds env = some env' → ds.length = ps.length
  | [], [], _, _, _ => rfl
  | [], _ :: _, _, _, h => by simp [Pat.puts] at h
  | _ :: _, [], _, _, h => by simp [Pat.puts] at h
  | p :: ps, d :: ds, env, env', h => by
    unfold Pat.puts at h
    split at h
    · rw [List.length_cons, List.length_cons, puts_len h]
    · cases h
theorem s_gTup {es : List Expr} {k : Nat} {ps : List Pat} {pos : Pos} (hc : X.calm = true) (hp : PGs X es (tPats X G ps)) (hn : (assignEach es X.env).length = ps.length) (hst : (assignEach es X.env).findIdx? (·.1) = none) : PG X (.Tuple es k pos) (tPat X G (.tup ps)) :=
  PG.imp (pg_tup hc hp hn hst) fun v σ H Q ⟨g, own, env, h, d, env', o, r, l, q, e, k⟩ => by
    cases d with
    | tup ds =>
      obtain ⟨a, xs, rfl, h1, h2⟩ := tup_ok o (RelS.t q)
      have e : Pat.puts ps ds env = some env' := by simpa only [Pat.put] using e
      exact ⟨a, xs, rfl, h1, by rw [← h2.len]; exact puts_len e, g, own, env, h, ds, env', o, r, l, h2, e, by simpa only [Pat.slots] using k⟩
    | _ => simp [Pat.put] at e
/-! ### for -/
def forL (pt : Pat) (body : DS) (fn : Fns) : List D → Ev → Cells → R (Fl × Ev)
  | [], env, h => .ok (.nx, env) h
  | d :: ds, env, h => match Pat.put pt d env with
    | none => .bad
    | some env1 => (body fn env1 h).bind fun x h1 => match x.1 with
      | .nx => forL pt body fn ds x.2 h1
      | .ct => forL pt body fn ds x.2 h1
      | .bk => .ok (.nx, x.2) h1
      | .rt d => .ok (.rt d, x.2) h1
def sFor (pt : Pat) (di : DF) (body : DS) : DS := fun fn env h => (di fn env h).bind fun ds h1 => forL pt body fn ds env h1
variable {g0 : Gh} {H0 : Hp} {body : DS} {pt : Pat}
theorem s_for {iter : Expr} {b : List Stmt} {di : DF} {pos : Pos} (hp : PassesOwn (model X.prog X.w) X.A X.env X.xe) (hc : X.calm = true) (hi : PI X tg iter (tI X G di)) (hg : PG X tg (tPat X G pt)) (hb : PSs X b (tS X G g0 H0 body))
    (hs : ∀ x, foldedSetIterable iter X.env x = pure x) : PS X (.For tg iter b [] pos) (tS X G g0 H0 (sFor pt di body)) := by
  refine PS.imp (ps_for hp hc hi hg hb hs) fun D σ H q => ?_
  obtain ⟨g, own, env, h, o, r, l, n, q⟩ := q
  refine ⟨g, own, env, h, o, r, l, (Post.stmt r n q).imp fun g1 H1 ds h1 e1 r1 q1 J it => ?_⟩
  refine ⟨fun i m σ' H' => m = ds.length - i ∧ i ≤ ds.length ∧ ∃ g2 own2 env2 h2, GOk X G g2 ∧ HRel X.prog X.w g2 H' h2 ∧ LR g2 own2 env2 σ' H' ∧ Ent g0 H0 g2 H' own2 ∧ ExtS g1 H1 g2 H' ∧ PostS X G g0 H0 g2 H' (forL pt body G.fns (ds.drop i) env2 h2) D,
    ⟨ds.length, by simp, Nat.zero_le _, g1, own, env, h1, o.ext e1, r1, l.step r e1, n.step e1, ExtS.refl _ _, q1⟩, ?_⟩
  rintro i m σ' H' ⟨rfl, hi', g2, own2, env2, h2, o2, r2, l2, n2, x2, q2⟩
  by_cases hlt : i < ds.length
  · refine .inr ⟨it.goes g2 H' h2 i hlt x2 r2, _, fun σ3 H3 z => ⟨ds.length - (i + 1), by omega, rfl, hlt, z⟩, fun x H3 y => ?_⟩
    obtain ⟨g3, d, e3, r3, ed, qd⟩ := it.yields g2 H' h2 i x H3 hlt x2 r2 y
    have edrop : ds.drop i = d :: ds.drop (i + 1) := by
      rw [List.drop_eq_getElem_cons hlt]
      congr 1
      rw [List.getElem?_eq_getElem hlt] at ed
      exact Option.some.inj ed
    rw [edrop] at q2
    unfold forL at q2
    split at q2
    · exact q2.elim
    · rename_i env3 ep
      refine ⟨g3, own2, env2, h2, d, env3, o2.ext e3, r3, l2.step r2 e3, qd, ep, fun own3 σ3 l3 sub _ => ?_⟩
      have n3 : Ent g0 H0 g3 H3 own3 := ⟨(n2.step e3).ext, fun j a z => n2.new j a (sub j a z)⟩
      have q3 := PostS.mono q2 (e3.s r2)
      refine ⟨g3, own3, env3, h2, o2.ext e3, r3, l3, n3, ?_⟩
      cases eb : body G.fns env3 h2 with
      | bad => rw [eb] at q3; exact q3.elim
      | exc z h4 => rw [eb] at q3; exact q3
      | ok z h4 =>
        rw [eb] at q3
        obtain ⟨fl, env4⟩ := z
        have x3 := x2.trans (e3.s r2)
        cases fl with
        | nx => exact fun g4 own4 H4 σ4 o4 r4 l4 n4 e4 => ⟨g4, own4, env4, h4, o4, r4, l4, n4, x3.trans e4, PostS.mono q3 e4⟩
        | ct => exact fun g4 own4 H4 σ4 o4 r4 l4 n4 e4 => ⟨g4, own4, env4, h4, o4, r4, l4, n4, x3.trans e4, PostS.mono q3 e4⟩
        | bk => exact q3
        | rt d => exact q3
  · have e : i = ds.length := by omega
    subst e
    rw [List.drop_length] at q2
    exact .inl ⟨it.stops g2 H' h2 x2 r2, q2.now o2 r2 l2 n2⟩
end
end EV
/-! EV10: list comprehensions -/
namespace EV
open PySem L2
def R.nox {α : Type} (r : R α) : R α := match r with
  | .exc _ _ => .bad
  | r => r
def wipeE (env : Ev) : List Nat → Ev
  | [] => env
  | v :: vs => (wipeE env vs).set v .no
def compL (pt : Pat) (tt : DT) (te : DE) (fn : Fns) (env : Ev) : List D → Cells → R (List D)
  | [], h => .ok [] h
  | d :: ds, h => match Pat.put pt d env with
    | none => .bad
    | some env1 => (tt fn env1 h).nox.bind fun b h1 => if b = true then (te fn env1 h1).nox.bind fun x h2 => if isBor x then .bad else (compL pt tt te fn env ds h2).bind fun r h3 => .ok (x :: r) h3
      else compL pt tt te fn env ds h1
def dComp (vs : List Nat) (pt : Pat) (di : DF) (tt : DT) (te : DE) : DF := fun fn env h => (di fn env h).bind fun ds h1 => if decide (ds.length ≤ szL) then compL pt tt te fn (wipeE env vs) ds h1 else .bad
def dtYes : DT := fun _ _ h => .ok true h
/-- no exception is let out -/
def Gx.quiet (G : Gx) : Gx := { G with Wx := fun _ _ _ => False }
section
variable {X : Cx} {G : Gx} {g g' : Gh} {H H' : Hp} {h h' : Cells} {own : Nat → Option Addr} {env : Ev} {σ : L2.St} {p : Addr} {xs : List V}
theorem LR.wipe1 (l : LR g own env σ H) (v : Nat) : LR g own (env.set v .no) (σ.set v none) H where
  len := by rw [List.length_set, List.length_set, l.len]
  inj := l.inj
  ow := l.ow
  sl := fun i s e => by
    by_cases hi : v = i
    · subst hi
      by_cases hv : v < env.length
      · rw [List.getElem?_set_self hv] at e
        cases e
        trivial
      · rw [List.getElem?_eq_none (by rw [List.length_set]; omega)] at e
        cases e
    · rw [List.getElem?_set_ne hi] at e
      have z := l.sl i s e
      cases s with
      | no => trivial
      | val d =>
        obtain ⟨u, z1, z2⟩ := z
        exact ⟨u, by rw [List.getElem?_set_ne hi]; exact z1, z2⟩
      | own ds =>
        obtain ⟨a, xs, z1, z2, z3⟩ := z
        exact ⟨a, xs, z1, by rw [List.getElem?_set_ne hi]; exact z2, z3⟩
theorem LR.wipe (l : LR g own env σ H) : ∀ vs, LR g own (wipeE env vs) (L2.wipe σ vs) H
  | [] => l
  | v :: vs => (LR.wipe l vs).wipe1 v
theorem ExtS.write (hw : g.W p) {o : HO} : ExtS g H g (upd H p o) := ⟨rfl, rfl, ⟨[], by simp⟩, fun _ z => .inl z, fun a u z n => by rw [upd_ne fun e => n (by rw [e]; exact hw)]; exact z⟩
theorem HRel.write (r : HRel X.prog X.w g H h) (hw : g.W p) (hn : p ∉ g.ρ) : HRel X.prog X.w g (upd H p (.lst xs)) h where
  len := r.len
  nd := r.nd
  wr := r.wr
  wt := fun a u h1 h2 => by
    by_cases z : a = p
    · rw [z, upd_same] at h2
      cases h2
      exact ⟨(fun ys z => by cases z), (fun _ _ z => by cases z)⟩
    · rw [upd_ne z] at h2
      exact r.wt a u h1 h2
  at_ := fun n a c h1 h2 => (r.at_ n a c h1 h2).exts r (ExtS.write hw) (upd_ne fun e => hn (by rw [← e]; exact List.mem_of_getElem? h1))
theorem Ext.write {g1 : Gh} {H1 : Hp} (e : Ext g1 H1 g H) (hp : H1 p = none) {o : HO} : Ext g1 H1 g (upd H p o) where
  K := e.K
  gA := e.gA
  pre := e.pre
  wn := e.wn
  wk := e.wk
  rw := e.rw
  fr := fun a u z n => by rw [upd_ne (ne_of_none z hp)]; exact e.fr a u z n
  nw := e.nw
theorem LR.write (l : LR g own env σ H) (r : HRel X.prog X.w g H h) (hw : g.W p) (un : ∀ j, own j ≠ some p) {o : HO} : LR g own env σ (upd H p o) where
  len := l.len
  inj := l.inj
  ow := fun i a z => by
    obtain ⟨h1, h2, u, h3⟩ := l.ow i a z
    exact ⟨h1, h2, u, by rw [upd_ne fun e => un i (by rw [← e]; exact z)]; exact h3⟩
  sl := fun i s e => by
    have z := l.sl i s e
    cases s with
    | no => trivial
    | val d =>
      obtain ⟨u, z1, z2⟩ := z
      exact ⟨u, z1, RelS.exts r (ExtS.write hw) z2⟩
    | own ds =>
      obtain ⟨a, xs, z1, z2, z3, z4⟩ := z
      exact ⟨a, xs, z1, z2, by rw [upd_ne fun e => un i (by rw [← e]; exact z1)]; exact z3, RelsS.exts r (ExtS.write hw) z4⟩
theorem Post.nox {α : Type} {r : R α} {K : Gh → Hp → α → Cells → Prop} (q : Post X G g H r.nox K) : Post X G.quiet g H r K := by
  cases r with
  | ok a h' => exact q
  | exc x h' => exact q.elim
  | bad => exact q
theorem RelsS.snoc {ds : List D} {d : D} {v : V} (q : RelsS g H ds xs) (z : RelS g H d v) : RelsS g H (ds ++ [d]) (xs ++ [v]) := q.app (RelsS.one z)
theorem GOk.q (o : GOk X G g) : GOk X G.quiet g := ⟨o.K, o.gA⟩
variable {elt tg iter : Expr} {ifs : List Expr} {scope : Scope} {own' : List (Str × Nat)} {pos : Pos} {di : DF} {pt : Pat} {tt : DT} {te : DE}
/-- the comprehension's reading -/
theorem wipe_get : ∀ (vs : List Nat) (σ : L2.St) (i : Nat), (L2.wipe σ vs)[i]? = if i ∈ vs ∧ i < σ.length then some none else σ[i]?
  | [], σ, i => by simp [L2.wipe]
  | v :: vs, σ, i => by
    unfold L2.wipe
    by_cases hi : v = i
    · subst hi
      by_cases hv : v < σ.length
      · rw [List.getElem?_set_self (by rw [wipe_length]; exact hv)]
        simp [hv]
      · rw [List.getElem?_eq_none (by rw [List.length_set, wipe_length]; omega)]
        rw [if_neg (fun z => hv z.2), List.getElem?_eq_none (by omega)]
    · rw [List.getElem?_set_ne hi, wipe_get vs σ i]
      have e : i ∈ v :: vs ↔ i ∈ vs := by simp [Ne.symm hi]
      simp only [e]
theorem wipe_stand {pt : Pat} {vs : List Nat} {σ σ' : L2.St} (st : Stand pt.slots (L2.wipe σ vs) σ') (hs : ∀ i ∈ pt.slots, i ∈ vs) : L2.wipe σ' vs = L2.wipe σ vs := by
  obtain ⟨s1, s2⟩ := st
  rw [wipe_length] at s1
  refine List.ext_getElem? fun i => ?_
  rw [wipe_get, wipe_get, s1]
  by_cases hi : i ∈ vs
  · by_cases hl : i < σ.length
    · rw [if_pos ⟨hi, hl⟩, if_pos ⟨hi, hl⟩]
    · rw [if_neg (fun z => hl z.2), if_neg (fun z => hl z.2), List.getElem?_eq_none (by omega), List.getElem?_eq_none (by omega)]
  · rw [if_neg (fun z => hi z.1), if_neg (fun z => hi z.1), s2 i fun m => hi (hs i m), wipe_get, if_neg (fun z => hi z.1)]
theorem comp_of {Q : VK} (hsl : ∀ i ∈ pt.slots, i ∈ own'.map (·.2)) (q : tF X G (dComp (own'.map (·.2)) pt di tt te) σ H Q) : tLc (tI X G di) (tPat X G.quiet pt) (tT X G.quiet tt) (tD X G.quiet te) (own'.map (·.2)) σ H Q := by
  obtain ⟨g, own, env, h, o, r, l, q⟩ := q
  refine ⟨g, own, env, h, o, r, l, (Post.bind q).imp fun g1 H1 ds h1 e1 r1 q1 J it p hp => ?_⟩
  split at q1
  · rename_i hz
    have hz : ds.length ≤ 16777216 := by simpa using hz
    have o1 := o.ext e1
    have l1 := (l.step r e1).wipe (own'.map (·.2))
    have un : ∀ j, own j ≠ some p := fun j hj => by
      obtain ⟨_, _, u, hu⟩ := l1.ow j p hj
      rw [hp] at hu; cases hu
    have hp0 : H p = none := e1.back r r1 hp
    have hnp : p ∉ g1.ρ := fun m => by
      obtain ⟨u, hu, _⟩ := r1.mem m
      rw [hp] at hu; cases hu
    refine ⟨fun i m H' => m = ds.length - i ∧ i ≤ ds.length ∧ ∃ g2 h2 accD acc, HRel X.prog X.w g2 H' h2 ∧ Ext g1 H1 g2 H' ∧ LR g2 own (wipeE env (own'.map (·.2))) (L2.wipe σ (own'.map (·.2))) H' ∧ g2.W p ∧ p ∉ g2.ρ ∧ H' p = some (.lst acc) ∧ RelsS g2 H' accD acc ∧ acc.length ≤ i ∧
      Post X G g1 H1 (compL pt tt te G.fns (wipeE env (own'.map (·.2))) (ds.drop i) h2) (fun g' H' ds' _ => ∀ xs', g'.W p → p ∉ g'.ρ → H' p = some (.lst xs') → RelsS g' H' (accD ++ ds') xs' → Q (.ref p) H'),
      ⟨ds.length, by simp, Nat.zero_le _, g1.plus p, h1, [], [], r1.plus hp, Ext.plus r1 hp, l1.step r1 (Ext.plus r1 hp), .inr rfl, hnp, upd_same, rfl, Nat.le_refl _, ?_⟩, ?_⟩
    · exact q1.imp fun g' H' ds' h' e' r' k xs' w1 w2 w3 w4 => k p xs' hp0 w1 w2 w3 (by simpa using w4)
    · rintro i m H' ⟨rfl, hi', g2, h2, accD, acc, r2, x2, l2, w2, n2, hH, qa, hacc, q2⟩
      by_cases hlt : i < ds.length
      · refine .inr ⟨it.goes g2 H' h2 i hlt (x2.s r1) r2, _, fun H3 z => ⟨ds.length - (i + 1), by omega, rfl, hlt, z⟩, fun x H3 y => ?_⟩
        obtain ⟨g3, d, e3, r3, ed, qd⟩ := it.yields g2 H' h2 i x H3 hlt (x2.s r1) r2 y
        have edrop : ds.drop i = d :: ds.drop (i + 1) := by
          rw [List.drop_eq_getElem_cons hlt]
          congr 1
          rw [List.getElem?_eq_getElem hlt] at ed
          exact Option.some.inj ed
        rw [edrop] at q2
        unfold compL at q2
        have still : ∀ {ga Ha gb Hb}, Ext ga Ha gb Hb → ga.W p → p ∉ ga.ρ → Ha p = some (.lst acc) → gb.W p ∧ p ∉ gb.ρ ∧ Hb p = some (.lst acc) := fun {ga Ha gb Hb} e a1 a2 a3 =>
          ⟨(e.wk p a1).resolve_right (fun z => by rw [a3] at z; cases z), (fun m => by have z := e.nw p m a2; rw [a3] at z; cases z), e.fr p _ a3 a2⟩
        split at q2
        · exact q2.elim
        · rename_i env3 ep
          have x3 := x2.trans e3
          have o3 := (o1.ext x3).q
          obtain ⟨w3, n3, hH3⟩ := still e3 w2 n2 hH
          have qa3 := RelsS.ext r2 e3 qa
          refine ⟨g3, own, _, h2, d, env3, o3, r3, l2.step r2 e3, qd, ep, fun own3 σ3 l3 sub st3 => ⟨wipe_stand st3 hsl, ?_⟩⟩
          have un3 : ∀ j, own3 j ≠ some p := fun j hj => un j (sub j p hj)
          cases et : tt G.fns env3 h2 with
          | bad => rw [et] at q2; exact q2.elim
          | exc z h4 => rw [et] at q2; exact q2.elim
          | ok b h4 =>
            rw [et] at q2
            refine tG.mk o3 r3 l3 ?_
            rw [show G.quiet.fns = G.fns from rfl, et]
            intro g4 H4 e4 r4 v hv
            subst hv
            have x4 := x3.trans e4
            have o4 := (o1.ext x4).q
            obtain ⟨w4, n4, hH4⟩ := still e4 w3 n3 hH3
            have qa4 := RelsS.ext r3 e4 qa3
            have l4 := l3.step r3 e4
            have lw4 := (l2.step r2 e3).step r3 e4
            cases v with
            | false =>
              exact ⟨g4, h4, accD, acc, r4, x4, lw4, w4, n4, hH4, qa4, by omega, q2⟩
            | true =>
              have q2 : Post X G g1 H1 ((te G.fns env3 h4).nox.bind fun x h2 => if isBor x then .bad else (compL pt tt te G.fns (wipeE env (own'.map (·.2))) (ds.drop (i + 1)) h2).bind fun r h3 => .ok (x :: r) h3) _ := q2
              cases ee : te G.fns env3 h4 with
              | bad => rw [ee] at q2; exact q2.elim
              | exc z h5 => rw [ee] at q2; exact q2.elim
              | ok x5 h5 =>
                rw [ee] at q2
                have q2 : Post X G g1 H1 (if isBor x5 then .bad else (compL pt tt te G.fns (wipeE env (own'.map (·.2))) (ds.drop (i + 1)) h5).bind fun r h3 => .ok (x5 :: r) h3) _ := q2
                split at q2
                · exact q2.elim
                · rename_i nb
                  refine tG.mk o4 r4 l4 ?_
                  rw [show G.quiet.fns = G.fns from rfl, ee]
                  intro g5 H5 e5 r5 v5 qv5
                  have x5' := x4.trans e5
                  obtain ⟨w5, n5, hH5⟩ := still e5 w4 n4 hH4
                  have qa5 := RelsS.ext r4 e5 qa4
                  have qx := qv5.s (by simpa using nb)
                  refine ⟨acc, hH5, by rw [lineE]; omega, g5, h5, accD ++ [x5], acc ++ [v5], r5.write w5 n5, x5'.write hp, (lw4.step r4 e5).write r5 w5 un, w5, n5, upd_same, RelsS.exts r5 (ExtS.write w5) (qa5.snoc qx), by rw [List.length_append]; simp; omega, ?_⟩
                  refine (Post.bind q2).imp fun g' H' ds' h' e' r' k => ?_
                  have k' := Post.now r' k
                  intro xs' a1 a2 a3 a4
                  exact k' xs' a1 a2 a3 (by simpa using a4)
      · have e : i = ds.length := by omega
        subst e
        rw [List.drop_length] at q2
        exact .inl ⟨it.stops g2 H' h2 (x2.s r1) r2, (show ∀ g' H', Ext g1 H1 g' H' → HRel X.prog X.w g' H' h2 → _ from q2) g2 H' x2 r2 acc w2 n2 hH (by simpa using qa)⟩
  · exact q1.elim
/-- [elt for target in iter if ..] -/
theorem s_comp (hc : X.calm = true) (hN : X.N.Nodup) (hi : PI X tg iter (tI X G di)) (ok : BlkOk X.N X.env.scope scope own') (hsl : ∀ i ∈ pt.slots, i ∈ own'.map (·.2))
    (hg : ∀ (s : Shared) (H : Hp) (C : Addr) (cl : List (Str × Addr)) (fp : List Addr), PG (X.blk s H scope (compEnvC scope cl C X.env) fp) tg (tPat X G.quiet pt))
    (ht : ∀ (s : Shared) (H : Hp) (C : Addr) (cl : List (Str × Addr)) (fp : List Addr), PTs (X.blk s H scope (compEnvC scope cl C X.env) fp) ifs (tT X G.quiet tt))
    (he : ∀ (s : Shared) (H : Hp) (C : Addr) (cl : List (Str × Addr)) (fp : List Addr), PE (X.blk s H scope (compEnvC scope cl C X.env) fp) elt (tD X G.quiet te)) (hs : ∀ x, foldedSetIterable iter X.env x = pure x) :
    PE X (.ListComp elt [⟨tg, iter, ifs, 0⟩] scope pos) (tF X G (dComp (own'.map (·.2)) pt di tt te)) :=
  PE.imp (pe_lc hc hN hi ok hg ht he hs) fun σ H Q q => comp_of hsl q
/-- name = [..], the name's own or by value -/
theorem s_setComp {g0 : Gh} {H0 : Hp} {i : Nat} {y : Str} {py spos : Pos} (hc : X.calm = true) (hN : X.N.Nodup) (hy : X.N[i]? = some y) (hyl : X.env.scope.names.lookup y = some .local)
    (hsw : swapsWith (.ListComp elt [⟨tg, iter, ifs, 0⟩] scope pos) (some (.Name y py)) spos.line X.env = pure true) (hi : PI X tg iter (tI X G di)) (ok : BlkOk X.N X.env.scope scope own') (hsl : ∀ i ∈ pt.slots, i ∈ own'.map (·.2))
    (hg : ∀ (s : Shared) (H : Hp) (C : Addr) (cl : List (Str × Addr)) (fp : List Addr), PG (X.blk s H scope (compEnvC scope cl C X.env) fp) tg (tPat X G.quiet pt))
    (ht : ∀ (s : Shared) (H : Hp) (C : Addr) (cl : List (Str × Addr)) (fp : List Addr), PTs (X.blk s H scope (compEnvC scope cl C X.env) fp) ifs (tT X G.quiet tt))
    (he : ∀ (s : Shared) (H : Hp) (C : Addr) (cl : List (Str × Addr)) (fp : List Addr), PE (X.blk s H scope (compEnvC scope cl C X.env) fp) elt (tD X G.quiet te)) (hs : ∀ x, foldedSetIterable iter X.env x = pure x) :
    PS X (.Assign [.Name y py] (.ListComp elt [⟨tg, iter, ifs, 0⟩] scope pos) spos) (tS X G g0 H0 (sOwn i (dComp (own'.map (·.2)) pt di tt te))) :=
  PS.imp (ps_setLc hc hN hy hyl hsw hi ok hg ht he hs) fun D σ H q => by
    obtain ⟨g, own, env, h, o, r, l, n, q⟩ := q
    have z := own_of (X := X) (G := G) ⟨g, own, env, h, o, r, l, n, q⟩
    exact comp_of hsl z
end
end EV
/-! EV11: lists changed in place; targets; while -/
namespace EV
open PySem L2
/-- the list of a slot, as it may be changed: its own one, or a cell's -/
def slotL (env : Ev) (h : Cells) (i : Nat) : Option (List D) := match env[i]? with
  | some (.own ds) => some ds
  | some (.val (.obj n)) => match h[n]? with
    | some (.lst ds) => some ds
    | _ => none
  | _ => none
/-- .. changed -/
def slotPut (env : Ev) (h : Cells) (i : Nat) (ds : List D) : R (Fl × Ev) := match env[i]? with
  | some (.own _) => .ok (.nx, env.set i (.own ds)) h
  | some (.val (.obj n)) => .ok (.nx, env) (h.set n (.lst ds))
  | _ => .bad
section
variable {X : Cx} {G : Gx} {g g' g0 : Gh} {H H' H0 : Hp} {h h' : Cells} {own : Nat → Option Addr} {env : Ev} {σ : L2.St} {p : Addr} {ds ds' : List D} {i : Nat} {Dn : Ends}
/-- a cell is written -/
theorem HRel.cellW (r : HRel X.prog X.w g H h) {n : Nat} {a : Addr} {c : OB} {o : HO} (ha : g.ρ[n]? = some a) (hn : n < h.length) (q : CellRel X.prog X.w g (upd H a o) a c) : HRel X.prog X.w g (upd H a o) (h.set n c) where
  len := by rw [List.length_set, r.len]
  nd := r.nd
  wr := r.wr
  wt := fun b u h1 h2 => by
    by_cases z : b = a
    · rw [z] at h2
      obtain ⟨u', e1, e2⟩ := q.some
      rw [h2] at e1; cases e1
      exact e2
    · rw [upd_ne z] at h2
      exact r.wt b u h1 h2
  at_ := fun m b c' h1 h2 => by
    have wa := r.wr a (List.mem_of_getElem? ha)
    by_cases z : m = n
    · subst z
      rw [ha] at h1; cases h1
      rw [List.getElem?_set_self hn] at h2
      cases h2
      exact q
    · rw [List.getElem?_set_ne (Ne.symm z)] at h2
      refine (r.at_ m b c' h1 h2).exts r (ExtS.write wa) (upd_ne fun e => z ?_)
      subst e
      obtain ⟨l1, e1⟩ := List.getElem?_eq_some_iff.mp h1
      obtain ⟨l2, e2⟩ := List.getElem?_eq_some_iff.mp ha
      exact (List.getElem_inj r.nd).mp (e1.trans e2.symm)
theorem Ent.cellW (n0 : Ent g0 H0 g H own) {n : Nat} {a : Addr} {o : HO} (r : HRel X.prog X.w g H h) (ha : g.ρ[n]? = some a) : Ent g0 H0 g (upd H a o) own := by
  refine ⟨⟨n0.ext.K, n0.ext.gA, n0.ext.pre, n0.ext.wn, n0.ext.wk, n0.ext.rw, fun b u z m => ?_, n0.ext.nw⟩, n0.new⟩
  by_cases e : b = a
  · subst e
    have z' := n0.ext.nw b (List.mem_of_getElem? ha) m
    rw [z] at z'; cases z'
  · rw [upd_ne e]; exact n0.ext.fr b u z m
theorem Ent.ownW (n0 : Ent g0 H0 g H own) {o : HO} (hp : own i = some p) : Ent g0 H0 g (upd H p o) own :=
  ⟨n0.ext.write (n0.new i p hp), n0.new⟩
/-- the slot's own list is written -/
theorem LR.ownW (l : LR g own env σ H) (r : HRel X.prog X.w g H h) {xs : List V} (hi : i < env.length) (hp : own i = some p) (hσ : σ[i]? = some (some (.ref p))) (q : RelsS g H ds' xs) :
    LR g own (env.set i (.own ds')) σ (upd H p (.lst xs)) where
  len := by rw [List.length_set, l.len]
  inj := l.inj
  ow := fun j a z => by
    obtain ⟨h1, h2, u, h3⟩ := l.ow j a z
    refine ⟨h1, h2, ?_⟩
    by_cases e : a = p
    · rw [e]; exact ⟨_, upd_same⟩
    · exact ⟨u, by rw [upd_ne e]; exact h3⟩
  sl := fun j s e => by
    have wp := (l.ow i p hp).1
    by_cases hj : j = i
    · subst hj
      rw [List.getElem?_set_self hi] at e
      cases e
      exact ⟨p, xs, hp, hσ, upd_same, RelsS.exts r (ExtS.write wp) q⟩
    · rw [List.getElem?_set_ne (Ne.symm hj)] at e
      have z := l.sl j s e
      cases s with
      | no => trivial
      | val d =>
        obtain ⟨u, z1, z2⟩ := z
        exact ⟨u, z1, RelS.exts r (ExtS.write wp) z2⟩
      | own ds =>
        obtain ⟨a, xs', z1, z2, z3, z4⟩ := z
        exact ⟨a, xs', z1, z2, by rw [upd_ne fun e => hj (l.inj j i p (by rw [← e]; exact z1) hp)]; exact z3, RelsS.exts r (ExtS.write wp) z4⟩
/-- a cell's write leaves the slots -/
theorem LR.cellW (l : LR g own env σ H) (r : HRel X.prog X.w g H h) {n : Nat} {a : Addr} {o : HO} (ha : g.ρ[n]? = some a) : LR g own env σ (upd H a o) :=
  l.write r (r.wr a (List.mem_of_getElem? ha)) fun j hj => (l.ow j a hj).2.1 (List.mem_of_getElem? ha)
/-- the list of a slot: where it stands, and what its change leaves -/
theorem slotL_ok (o : GOk X G g) (r : HRel X.prog X.w g H h) (l : LR g own env σ H) (n0 : Ent g0 H0 g H own) (e : slotL env h i = some ds) :
    ∃ p xs, σ[i]? = some (some (.ref p)) ∧ H p = some (.lst xs) ∧ RelsS g H ds xs ∧ ∀ ds' xs' (Dn : Ends), RelsS g H ds' xs' → PostS X G g0 H0 g H (slotPut env h i ds') Dn → Dn.nx σ (upd H p (.lst xs')) := by
  unfold slotL at e
  cases es : env[i]? with
  | none => rw [es] at e; cases e
  | some s =>
    rw [es] at e
    have hi : i < env.length := (List.getElem?_eq_some_iff.mp es).1
    have z := l.sl i s es
    cases s with
    | no => cases e
    | own es' =>
      cases e
      obtain ⟨p, xs, z1, z2, z3, z4⟩ := z
      refine ⟨p, xs, z2, z3, z4, fun ds' xs' Dn q k => ?_⟩
      unfold slotPut at k
      rw [es] at k
      have k : PostS X G g0 H0 g H (.ok (.nx, env.set i (.own ds')) h) Dn := k
      have wp := (l.ow i p z1).1
      exact k g own (upd H p (.lst xs')) σ o (r.write wp (l.ow i p z1).2.1) (l.ownW r hi z1 z2 q) (n0.ownW z1) (ExtS.write wp)
    | val d =>
      cases d with
      | obj n =>
        have e : (match h[n]? with
          | some (.lst ds) => some ds
          | _ => none) = some ds := e
        split at e
        · rename_i es' hc
          cases e
          obtain ⟨v, z1, z2⟩ := z
          obtain ⟨a, rfl, ha, xs, hx, qx⟩ := cell_at r (RelS.t z2) hc
          refine ⟨a, xs, z1, hx, qx, fun ds' xs' Dn q k => ?_⟩
          unfold slotPut at k
          rw [es] at k
          have k : PostS X G g0 H0 g H (.ok (.nx, env) (h.set n (.lst ds'))) Dn := k
          have wa := r.wr a (List.mem_of_getElem? ha)
          exact k g own (upd H a (.lst xs')) σ o (r.cellW ha (List.getElem?_eq_some_iff.mp hc).1 ⟨xs', upd_same, RelsS.exts r (ExtS.write wa) q⟩) (l.cellW r ha) (n0.cellW r ha) (ExtS.write wa)
        · cases e
      | _ => cases e
/-! ### append, extend -/
variable {x : Str} {e : Expr} {de : DE} {apos cpos pos : Pos}
def appendAt (i : Nat) (d : D) (env : Ev) (h : Cells) : R (Fl × Ev) := if isBor d then .bad else match slotL env h i with
  | some ds => if decide (ds.length < szL) then slotPut env h i (ds ++ [d]) else .bad
  | none => .bad
def withSlot (i : Nat) (f : DE) (k : D → Ev → Cells → R (Fl × Ev)) : DS := fun fn env h => match slotL env h i with
  | some _ => (f fn env h).bind fun d h1 => k d env h1
  | none => .bad
def sAppend (i : Nat) (a : DE) : DS := withSlot i a (appendAt i)
def extendAt (i : Nat) (d : D) (env : Ev) (h : Cells) : R (Fl × Ev) := match slotL env h i, seqM h d with
  | some ds, some es => if decide (ds.length + es.length ≤ szL) then slotPut env h i (ds ++ es) else .bad
  | _, _ => .bad
def sExtend (i : Nat) (a : DE) : DS := withSlot i a (extendAt i)
theorem attrName {x f : Str} {p : Pos} {env : Env} : attributeBase (.Name x p) f env (eval (.Name x p) env) = eval (.Name x p) env := rfl
theorem few_ok {pos : Pos} {env : Env} {es : List Expr} (h : noStars es = true) (hl : es.length < 30) : ((backTo pos (starEach es env)).all (fun x => !x.1) && (backToKw pos (keywordEach [] env)).all (fun x => x.1.isSome) && decide (es.length + ([] : List Keyword).length + (if ([] : List Keyword).isEmpty then 0 else 1) < 30)) = true := by
  have e1 : (backTo pos (starEach es env)).all (fun x => !x.1) = true := by
    have z := backTo_any (pos := pos) (stars_any (env := env) h)
    rw [List.all_eq_not_any_not]
    simp only [Bool.not_not]
    rw [z]; rfl
  rw [e1]
  simp [backToKw, keywordEach, hl]
/-- the slot's list is the receiver, one argument -/
theorem withSlot_ok {K : D → Ev → Cells → R (Fl × Ev)} {r : V → List V → Hp → VK → Prop}
    (key : ∀ g own H d h v p (Dn : Ends), GOk X G g → HRel X.prog X.w g H h → LR g own env σ H → Ent g0 H0 g H own → σ[i]? = some (some (.ref p)) → RelT g H d v → PostS X G g0 H0 g H (K d env h) Dn → r (.ref p) [v] H fun _ H1 => Dn.nx σ H1)
    (q : ∃ g own h, GOk X G g ∧ HRel X.prog X.w g H h ∧ LR g own env σ H ∧ Ent g0 H0 g H own ∧ PostS X G g0 H0 g H (withSlot i de K G.fns env h) Dn) : tBM X.K "list" r (tVar i) (tCons (tD X G de) tNil) σ H fun _ H1 => Dn.nx σ H1 := by
  obtain ⟨g, own, h, o, rr, l, n, q⟩ := q
  unfold withSlot at q
  split at q
  · rename_i ds ed
    obtain ⟨p, xs, s1, s2, s3, s4⟩ := slotL_ok o rr l n ed
    refine ⟨_, s1, .inl ⟨rfl, xs, SqL.of s2⟩, ?_⟩
    refine tG.mk o rr l ((Post.stmt rr n q).imp fun g1 H1 d h1 e1 r1 q1 v qv => ?_)
    exact key g1 own H1 d h1 v p Dn (o.ext e1) r1 (l.step rr e1) (n.step e1) s1 qv q1
  · exact q.elim
theorem slot_same {q : Addr} (h1 : σ[i]? = some (some (V.ref p))) (h2 : σ[i]? = some (some (V.ref q))) : q = p := by
  rw [h1] at h2
  cases h2
  rfl
theorem s_append {px : Pos} (hN : X.N[i]? = some x) (hv : Vis X.env.scope x) (hd : (x == ("__debug__" : Str)) = false) (hcd : (x == ("__classdict__" : Str)) = false) (he : PE X e (tD X G de)) (hst : isStar e = false) (hl : (apos.endLine == cpos.line) = true) (hsw : swapsWith (.Call (.Attribute (.Name x px) "append" apos) [e] [] cpos) none pos.line X.env = pure false) :
    PS X (.Expr (.Call (.Attribute (.Name x px) "append" apos) [e] [] cpos) pos) (tS X G g0 H0 (sAppend i de)) :=
  PS.imp (ps_expr (pe_bm PySem.F.plainAttrs_list PySem.F.slot_list_append PySem.F.type_list_append mt_append (pe_var hN hv hd hcd) (pa_cons he pa_nil (star_cons hst)) attrName (few_ok (by simp [noStars, hst]) (by show 1 < 30; decide)) hl (star_cons hst) rfl) hsw) fun Dn σ H ⟨g, own, env, h, o, r, l, n, q⟩ =>
    withSlot_ok (fun g own H d h v p Dn o r l n hp qv k => by
      unfold appendAt at k
      split at k
      · exact k.elim
      · rename_i nb
        split at k
        · rename_i ds ed
          split at k
          · rename_i hz
            obtain ⟨p', xs, s1, s2, s3, s4⟩ := slotL_ok o r l n ed
            cases slot_same hp s1
            exact ⟨p, xs, v, rfl, rfl, s2, by rw [lineE, ← s3.len]; simpa using hz, s4 _ _ Dn (s3.app (RelsS.one (qv.s (by simpa using nb)))) k⟩
          · exact k.elim
        · exact k.elim) ⟨g, own, h, o, r, l, n, q⟩
/-! ### targets that may write -/
abbrev DG := D → DS
def tPG (X : Cx) (G : Gx) (g0 : Gh) (H0 : Hp) (dg : DG) : TG := fun v σ H Q => ∃ g own env h d, GOk X G g ∧ HRel X.prog X.w g H h ∧ LR g own env σ H ∧ Ent g0 H0 g H own ∧ RelS g H d v ∧
  ∃ Dn : Ends, Q = Dn.nx ∧ PostS X G g0 H0 g H (dg d G.fns env h) Dn
def tPGs (X : Cx) (G : Gx) (g0 : Gh) (H0 : Hp) (dg : List D → DS) : TGs := fun v σ H Q => ∃ g own env h d, GOk X G g ∧ HRel X.prog X.w g H h ∧ LR g own env σ H ∧ Ent g0 H0 g H own ∧ RelsS g H d v ∧
  ∃ Dn : Ends, Q = Dn.nx ∧ PostS X G g0 H0 g H (dg d G.fns env h) Dn
def gName' (i : Nat) : DG := fun d _ env h => setV i d env h
def setAt (i : Nat) (k d : D) (env : Ev) (h : Cells) : R (Fl × Ev) := match k, slotL env h i with
  | .int j, some ds => match ixN ds.length j with
    | some n => if isBor d then .bad else slotPut env h i (ds.set n d)
    | none => .bad
  | _, _ => .bad
/-- x[k] = .., x a slot's list -/
def gIx (i : Nat) (a : DE) : DG := fun d fn env h => match slotL env h i with
  | some _ => (a fn env h).bind fun k h1 => setAt i k d env h1
  | none => .bad
def gsNil : List D → DS := fun ds _ env h => match ds with
  | [] => .ok (.nx, env) h
  | _ => .bad
def gsCons (a : DG) (b : List D → DS) : List D → DS := fun ds fn env h => match ds with
  | d :: ds => sSeq (a d) (b ds) fn env h
  | [] => .bad
/-- n targets -/
def gTup (n : Nat) (a : List D → DS) : DG := fun d fn env h => match d with
  | .tup ds => if ds.length = n then a ds fn env h else .bad
  | _ => .bad
def sAsg (a : DE) (b : DG) : DS := fun fn env h => (a fn env h).bind fun d h1 => if isBor d then .bad else b d fn env h1
theorem s_pgName {px : Pos} (hN : X.N.Nodup) (hi : X.N[i]? = some x) (hx : Loc X.env.scope x) (hf : X.fn x = true ∨ X.env.scope.names.lookup x = some .local) : PG X (.Name x px) (tPG X G g0 H0 (gName' i)) :=
  PG.imp (pg_name hN hi hx hf) fun v σ H Q ⟨g, own, env, h, d, o, r, l, n, q, Dn, eq, k⟩ => by
    subst eq
    exact setV_ok (X := X) (G := G) o r l n q.t k
theorem s_pgIx {px sp : Pos} {b : Expr} {db : DE} (hN : X.N[i]? = some x) (hv : Vis X.env.scope x) (hd : (x == ("__debug__" : Str)) = false) (hcd : (x == ("__classdict__" : Str)) = false) (hb : PE X b (tD X G db)) (hsl : isSlice b = false) :
    PG X (.Subscript (.Name x px) b sp) (tPG X G g0 H0 (gIx i db)) :=
  PG.imp (pg_sub (pe_var hN hv hd hcd) hb set_list (fun _ => by cases b <;> first | rfl | (simp [isSlice] at hsl))) fun v σ H Q ⟨g, own, env, h, d, o, r, l, n, q, Dn, eq, k⟩ => by
    subst eq
    unfold gIx at k
    split at k
    · rename_i ds ed
      obtain ⟨p, xs, s1, s2, s3, s4⟩ := slotL_ok o r l n ed
      refine ⟨_, s1, tG.mk o r l ((Post.stmt r n k).imp fun g1 H1 kd h1 e1 r1 k1 w qw => ?_)⟩
      unfold setAt at k1
      split at k1
      · rename_i j ds1 ed1
        cases (show w = V.int j from qw)
        split at k1
        · rename_i m hm
          split at k1
          · exact k1.elim
          · obtain ⟨p', xs', t1, t2, t3, t4⟩ := slotL_ok (o.ext e1) r1 (l.step r e1) (n.step e1) ed1
            cases slot_same s1 t1
            exact ⟨p, xs', j, m, rfl, rfl, t2, by rw [← t3.len]; exact hm, t4 _ _ _ (t3.set m (RelS.ext r e1 q)) k1⟩
        · exact k1.elim
      · exact k1.elim
    · exact k.elim
theorem s_pgsNil : PGs X [] (tPGs X G g0 H0 gsNil) :=
  PGs.imp pgs_nil fun v σ H Q ⟨g, own, env, h, ds, o, r, l, n, q, Dn, eq, k⟩ => by
    subst eq
    cases ds with
    | nil =>
      cases (show v = [] from q)
      exact ⟨rfl, PostS.now (X := X) (G := G) k o r l n⟩
    | cons d ds => exact k.elim
variable {a b : Expr} {es : List Expr} {dg : DG} {dgs : List D → DS}
theorem s_pgsCons (h1 : PG X e (tPG X G g0 H0 dg)) (h2 : PGs X es (tPGs X G g0 H0 dgs)) (hs : (assignEach (e :: es) X.env).map (·.2) = assign e X.env :: (assignEach es X.env).map (·.2)) : PGs X (e :: es) (tPGs X G g0 H0 (gsCons dg dgs)) :=
  PGs.imp (pgs_cons h1 h2 hs) fun v σ H Q ⟨g, own, env, h, ds, o, r, l, n, q, Dn, eq, k⟩ => by
    subst eq
    cases ds with
    | nil => exact k.elim
    | cons d ds =>
      simp only [RelsS] at q
      obtain ⟨x, rr, rfl, q1, q2⟩ := q
      refine ⟨x, rr, rfl, g, own, env, h, d, o, r, l, n, q1, { Dn with nx := fun σ' H' => tPGs X G g0 H0 dgs rr σ' H' Dn.nx }, rfl, ?_⟩
      have k : PostS X G g0 H0 g H (sSeq (dg d) (dgs ds) G.fns env h) Dn := k
      unfold sSeq at k
      cases ed : dg d G.fns env h with
      | bad => rw [ed] at k; exact k
      | exc x h' => rw [ed] at k; exact k
      | ok a h' =>
        rw [ed] at k
        obtain ⟨fl, env'⟩ := a
        cases fl with
        | nx => exact fun g2 own2 H2 σ2 o2 r2 l2 n2 e2 => ⟨g2, own2, env', h', ds, o2, r2, l2, n2, RelsS.exts r e2 q2, Dn, rfl, PostS.mono k e2⟩
        | rt d => exact k
        | bk => exact k
        | ct => exact k
theorem s_pgTup {k : Nat} {pos : Pos} (hc : X.calm = true) (hp : PGs X es (tPGs X G g0 H0 dgs)) (hst : (assignEach es X.env).findIdx? (·.1) = none) : PG X (.Tuple es k pos) (tPG X G g0 H0 (gTup (assignEach es X.env).length dgs)) :=
  PG.imp (pg_tup hc hp rfl hst) fun v σ H Q ⟨g, own, env, h, d, o, r, l, n, q, Dn, eq, k⟩ => by
    unfold gTup at k
    split at k
    · rename_i ds
      split at k
      · rename_i hl
        obtain ⟨a, xs, rfl, h1, h2⟩ := tup_ok o (RelS.t q)
        exact ⟨a, xs, rfl, h1, by rw [← h2.len]; exact hl, g, own, env, h, ds, o, r, l, n, h2, Dn, eq, k⟩
      · exact k.elim
    · exact k.elim
theorem s_asg {tg : Expr} (he : PE X e (tD X G de)) (hg : PG X tg (tPG X G g0 H0 dg)) (hs : swapsWithSole [tg] e pos.line X.env = pure false) (hw : swappedStores [tg] e X.env = pure none) (h1 : (assignEach [tg] X.env).map (·.2) = [assign tg X.env]) :
    PS X (.Assign [tg] e pos) (tS X G g0 H0 (sAsg de dg)) :=
  PS.imp (ps_asg he hg hs hw h1) fun Dn σ H p => tS.expr (f := fun fn env d h1 => if isBor d then R.bad else dg d fn env h1) p fun g own env h H1 d v o r l n q p1 => by
    split at p1
    · exact p1.elim
    · rename_i nb
      exact ⟨g, own, env, h, d, o, r, l, n, q.s (by simpa using nb), Dn, rfl, p1⟩
end
end EV
/-! EV12: calls of built-ins -/
namespace EV
open PySem L2
def toInts : List D → Option (List Int)
  | [] => some []
  | .int i :: ds => match toInts ds with
    | some is => some (i :: is)
    | none => none
  | _ :: _ => none
def toBls : List D → Option (List Bool)
  | [] => some []
  | .bl i :: ds => match toBls ds with
    | some is => some (i :: is)
    | none => none
  | _ :: _ => none
section
variable {X : Cx} {G : Gx} {g : Gh} {H : Hp} {h : Cells}
theorem toInts_ok : ∀ {ds : List D} {xs : List V} {is : List Int}, RelsS g H ds xs → toInts ds = some is → xs = is.map V.int
  | [], xs, is, q, e => by cases e; exact q
  | d :: ds, xs, is, q, e => by
    simp only [RelsS] at q
    obtain ⟨x, rr, rfl, q1, q2⟩ := q
    cases d with
    | int i =>
      unfold toInts at e
      split at e
      · rename_i js ej
        cases e
        cases (show x = V.int i from q1)
        rw [List.map_cons, toInts_ok q2 ej]
      · cases e
    | _ => simp [toInts] at e
theorem toBls_ok : ∀ {ds : List D} {xs : List V} {is : List Bool}, RelsS g H ds xs → toBls ds = some is → xs = is.map V.bl
  | [], xs, is, q, e => by cases e; exact q
  | d :: ds, xs, is, q, e => by
    simp only [RelsS] at q
    obtain ⟨x, rr, rfl, q1, q2⟩ := q
    cases d with
    | bl i =>
      unfold toBls at e
      split at e
      · rename_i js ej
        cases e
        cases (show x = V.bl i from q1)
        rw [List.map_cons, toBls_ok q2 ej]
      · cases e
    | _ => simp [toBls] at e
end
/-! ### sum of a tuple -/
/-! ### the operations -/
def cAbs : ON := fun ds h => match ds with
  | [.int i] => .ok (.int (if i < 0 then -i else i)) h
  | _ => .bad
def cMax : ON := fun ds h => match ds with
  | [.int i, .int j] => .ok (.int (if j > i then j else i)) h
  | _ => .bad
def cMin : ON := fun ds h => match ds with
  | [.int i, .int j] => .ok (.int (if j < i then j else i)) h
  | _ => .bad
def cInt : ON := fun ds h => match ds with
  | [.int i] => .ok (.int i) h
  | [.bl k] => .ok (.int (if k then 1 else 0)) h
  | _ => .bad
def cLen : ON := fun ds h => match ds with
  | [.str s] => if s.length ≤ szL then .ok (.int s.length) h else .bad
  | [d] => match seqT h d with
    | some es => .ok (.int es.length) h
    | none => .bad
  | _ => .bad
def cAll : ON := fun ds h => match ds with
  | [d] => match (seqL h d).bind toBls with
    | some is => .ok (.bl (is.all id)) h
    | none => .bad
  | _ => .bad
def cTuple : ON := fun ds h => match ds with
  | [.tup es] => .ok (.tup es) h
  | [d] => match seqL h d with
    | some es => .ok (.tup es) h
    | none => .bad
  | _ => .bad
def cList : List D → Cells → R (List D) := fun ds h => match ds with
  | [d] => match seqT h d with
    | some es => .ok es h
    | none => .bad
  | _ => .bad
def cDivmod : ON := fun ds h => match ds with
  | [.int i, .int j] => if decide (0 < j) && decide (j < 1073741824) then .ok (.tup [.int (i / j), .int (i % j)]) h else .bad
  | _ => .bad
section
variable {X : Cx} {G : Gx}
theorem c_abs : CallR X (.builtin "abs") (rON X G cAbs) := by
  intro pins s σ H xs us Q I rv ⟨g, h, ds, og, r, q, p⟩
  unfold cAbs at p
  split at p
  · rename_i i
    obtain ⟨y, rfl, z⟩ := rel1 q
    cases (show y = V.int i from z)
    exact call_abs pins s σ H _ us Q I rv ⟨i, rfl, Post.int r p⟩
  · exact p.elim
theorem c_int : CallR X (.type "int") (rON X G cInt) := by
  intro pins s σ H xs us Q I rv ⟨g, h, ds, og, r, q, p⟩
  unfold cInt at p
  split at p
  · rename_i i
    obtain ⟨y, rfl, z⟩ := rel1 q
    cases (show y = V.int i from z)
    exact call_int1 pins s σ H _ us Q I rv (.inl ⟨i, rfl, Post.int r p⟩)
  · rename_i i
    obtain ⟨y, rfl, z⟩ := rel1 q
    cases (show y = V.bl i from z)
    exact call_int1 pins s σ H _ us Q I rv (.inr ⟨i, rfl, Post.int r p⟩)
  · exact p.elim
theorem c_len : CallR X (.builtin "len") (rON X G cLen) := by
  intro pins s σ H xs us Q I rv ⟨g, h, ds, og, r, q, p⟩
  unfold cLen at p
  split at p
  · rename_i i
    obtain ⟨y, rfl, z⟩ := rel1 q
    cases (show y = V.str i from z)
    split at p
    · rename_i hz
      exact call_len pins s σ H _ us Q I rv ⟨_, _, rfl, ⟨by rw [lineE]; exact hz, rfl⟩, Post.int r p⟩
    · exact p.elim
  · rename_i d _
    obtain ⟨y, rfl, z⟩ := rel1 q
    split at p
    · rename_i es e
      obtain ⟨a, xs, rfl, h1, h2⟩ := seqT_ok og r z e
      exact call_len pins s σ H _ us Q I rv ⟨_, xs.length, rfl, h1.imp (fun h1 => ⟨xs, h1, rfl⟩) fun h1 => ⟨xs, h1, rfl⟩, by rw [← h2.len]; exact Post.int r p⟩
    · exact p.elim
  · exact p.elim
theorem c_all (hc : X.calm = true) : CallR X (.builtin "all") (rON X G cAll) := by
  intro pins s σ H xs us Q I rv ⟨g, h, ds, og, r, q, p⟩
  unfold cAll at p
  split at p
  · rename_i d
    obtain ⟨y, rfl, z⟩ := rel1 q
    split at p
    · rename_i is ei
      obtain ⟨es, e1, e2⟩ := Option.bind_eq_some_iff.mp ei
      obtain ⟨a, xs, rfl, h1, h2⟩ := seqL_ok og r z e1
      cases toBls_ok h2 e2
      exact cr_all hc pins s σ H _ us Q I rv ⟨a, is, rfl, h1, Post.bl r p⟩
    · exact p.elim
  · exact p.elim
theorem c_tuple : CallR X (.type "tuple") (rON X G cTuple) := by
  intro pins s σ H xs us Q I rv ⟨g, h, ds, og, r, q, p⟩
  unfold cTuple at p
  split at p
  · rename_i es
    obtain ⟨y, rfl, z⟩ := rel1 q
    obtain ⟨a, xs, rfl, h1, h2⟩ := tup_ok og z
    exact call_tuple_of pins s σ H _ us Q I rv ⟨a, xs, rfl, .inr ⟨h1, Post.val r z p⟩⟩
  · rename_i d _
    obtain ⟨y, rfl, z⟩ := rel1 q
    split at p
    · rename_i es e
      obtain ⟨a, xs, rfl, h1, h2⟩ := seqL_ok og r z e
      exact call_tuple_of pins s σ H _ us Q I rv ⟨a, xs, rfl, .inl ⟨h1, Post.newT (K := fun _ _ _ _ => True) r h2 p⟩⟩
    · exact p.elim
  · exact p.elim
theorem c_divmod : CallR X (.builtin "divmod") (rON X G cDivmod) := by
  intro pins s σ H xs us Q I rv ⟨g, h, ds, og, r, q, p⟩
  unfold cDivmod at p
  split at p
  · rename_i i j
    obtain ⟨y, z, rfl, z1, z2⟩ := rel2 q
    cases (show y = V.int i from z1); cases (show z = V.int j from z2)
    split at p
    · rename_i hz
      simp only [Bool.and_eq_true, decide_eq_true_eq] at hz
      exact call_divmod pins s σ H _ us Q I rv ⟨i, j, rfl, hz, Post.newT (K := fun _ _ _ _ => True) r (ds := [.int (i / j), .int (i % j)]) (xs := [.int (i / j), .int (i % j)]) ⟨_, _, rfl, rfl, _, _, rfl, rfl, rfl⟩ p⟩
    · exact p.elim
  · exact p.elim
variable {x : Str} {e : Expr} {es : List Expr} {da : DA} {p pos : Pos} {id T : String} {o : ON}
theorem tON {σ : L2.St} {H : Hp} {Q : VK} (q : tD X G (dOpN o da) σ H Q) : tCB (rON X G o) (tA X G da) σ H Q :=
  tG.bind (f := fun fn env ds h1 => o ds h1) q fun g own env h H1 ds v og r l q p1 => ⟨g, h, ds, og, r, q, p1⟩
theorem s_callB (hc : CallR X (.builtin id) (rON X G o)) (hg : Gl X x) (hm : X.mg x = none) (hv : bootBuiltins x = some (.builtin id)) (ha : PA X (e :: es) (tA X G da)) (hn : x ≠ "__name__") (hdb : (x == ("__debug__" : Str)) = false) (hs : noStars (e :: es) = true) :
    PE X (.Call (.Name x p) (e :: es) [] pos) (tD X G (dOpN o da)) := by
  have h1 : isStar e = false := by simp only [noStars, List.all_cons, Bool.and_eq_true] at hs; simpa using hs.1
  have h2 : noStars es = true := by simp only [noStars, List.all_cons, Bool.and_eq_true] at hs; exact hs.2
  exact PE.imp (pe_callB hc hg hm hv ha hn hdb (star_cons h1) (backTo_any (stars_any h2))) fun _ _ _ q => tON q
theorem s_callTy (hc : CallR X (.type T) (rON X G o)) (hg : Gl X x) (hm : X.mg x = none) (hv : bootBuiltins x = some (.type T)) (ha : PA X (e :: es) (tA X G da)) (hn : x ≠ "__name__") (hdb : (x == ("__debug__" : Str)) = false) (hs : noStars (e :: es) = true) :
    PE X (.Call (.Name x p) (e :: es) [] pos) (tD X G (dOpN o da)) := by
  have h1 : isStar e = false := by simp only [noStars, List.all_cons, Bool.and_eq_true] at hs; simpa using hs.1
  have h2 : noStars es = true := by simp only [noStars, List.all_cons, Bool.and_eq_true] at hs; exact hs.2
  exact PE.imp (pe_callTy hc hg hm hv ha hn hdb (star_cons h1) (backTo_any (stars_any h2))) fun _ _ _ q => tON q
/-- list(x): a new list -/
def dListF (da : DA) : DF := fun fn env h => (da fn env h).bind fun ds h1 => cList ds h1
theorem s_listF (hg : Gl X "list") (hm : X.mg "list" = none) (ha : PA X [e] (tA X G da)) (hs : isStar e = false) : PE X (.Call (.Name "list" p) [e] [] pos) (tF X G (dListF da)) :=
  PE.imp (pe_callTy call_list_of hg hm PyProof.Rows.boot_list ha (by decide) (by decide) (star_cons hs) rfl) fun σ H Q ⟨g, own, env, h, o, r, l, q⟩ => ⟨g, own, env, h, o, r, l, (Post.bind q).imp fun g1 H1 ds h1 e1 r1 q1 vs qv => by
    unfold cList at q1
    split at q1
    · rename_i d
      obtain ⟨y, rfl, z⟩ := rel1 qv
      split at q1
      · rename_i es ee
        obtain ⟨a, xs, rfl, z1, z2⟩ := seqT_ok (o.ext e1) r1 z ee
        exact ⟨a, xs, rfl, z1, fresh_now r e1 r1 z2 q1⟩
      · exact q1.elim
    · exact q1.elim⟩
end
end EV
/-! EV13: repr, isinstance -/
namespace EV
open PySem L2
mutual
/-- a bound of a shown text's length -/
def rsz : PyData → Nat
  | .none => 4
  | .bool _ => 5
  | .int i => if i.natAbs < 10 ^ 40 then 41 else 1921
  | .str x => 10 * x.length + 2
  | .list xs => rszs xs + 3
  | .tuple xs => rszs xs + 3
  | .dict _ => 0
def rszs : List PyData → Nat
  | [] => 0
  | x :: xs => rsz x + 2 + rszs xs
end
mutual
/-- what repr is asked of -/
def rok : PyData → Bool
  | .none => true
  | .bool _ => true
  | .int i => decide (i.natAbs.log2 < 1920)
  | .str x => x.cps.toList.all fun c => decide (c < 1114112)
  | .list xs => roks xs
  | .tuple xs => roks xs
  | .dict _ => false
def roks : List PyData → Bool
  | [] => true
  | x :: xs => rok x && roks xs
end
mutual
theorem rok_show : ∀ {d : PyData}, rok d = true → d.showable = true ∧ d.hasDict = false ∧ d.shown.length ≤ rsz d
  | .none, _ => ⟨by simp [PyData.showable], by simp [PyData.hasDict], by simp only [PyData.shown, rsz]; decide⟩
  | .bool b, _ => ⟨by simp [PyData.showable], by simp [PyData.hasDict], by simp only [PyData.shown, rsz]; cases b <;> decide⟩
  | .int i, h => by
    simp only [rok, decide_eq_true_eq] at h
    refine ⟨by simp [PyData.showable, h], by simp [PyData.hasDict], ?_⟩
    simp only [PyData.shown, rsz]
    split
    · rename_i hz
      rw [PyProof.Rows.ofString_len]
      exact int_text_length_le10 (k := 40) (by decide) hz
    · exact PyProof.Rows.int_text_len_1921 h
  | .str x, h => by
    simp only [rok, List.all_eq_true, decide_eq_true_eq] at h
    refine ⟨by simp [PyData.showable], by simp [PyData.hasDict], ?_⟩
    simp only [PyData.shown, rsz]
    exact StrLaws.reprText_len x fun c hc => Nat.lt_of_lt_of_le (h c hc) (by decide)
  | .list xs, h => by
    simp only [rok] at h
    obtain ⟨h1, h2, h3, h4⟩ := roks_show h
    refine ⟨by simpa [PyData.showable] using h1, by simpa [PyData.hasDict] using h2, ?_⟩
    simp only [PyData.shown, rsz]
    have := listText_len_le (PyData.shownAll xs)
    omega
  | .tuple xs, h => by
    simp only [rok] at h
    obtain ⟨h1, h2, h3, h4⟩ := roks_show h
    refine ⟨by simpa [PyData.showable] using h1, by simpa [PyData.hasDict] using h2, ?_⟩
    simp only [PyData.shown, rsz]
    have := tupleText_len_le (PyData.shownAll xs)
    omega
  | .dict _, h => by simp [rok] at h
theorem roks_show : ∀ {ds : List PyData}, roks ds = true → PyData.showableAll ds = true ∧ PyData.hasDictAll ds = false ∧ ((PyData.shownAll ds).map (·.length)).sum + 2 * (PyData.shownAll ds).length ≤ rszs ds ∧ True
  | [], _ => ⟨by simp [PyData.showableAll], by simp [PyData.hasDictAll], by simp [PyData.shownAll, rszs], True.intro⟩
  | d :: ds, h => by
    simp only [roks, Bool.and_eq_true] at h
    obtain ⟨a1, a2, a3⟩ := rok_show h.1
    obtain ⟨b1, b2, b3, _⟩ := roks_show h.2
    refine ⟨by simp [PyData.showableAll, a1, b1], by simp [PyData.hasDictAll, a2, b2], ?_, True.intro⟩
    simp only [PyData.shownAll, List.map_cons, List.sum_cons, List.length_cons, rszs]
    omega
end
/-- no list, no tuple -/
def isScP : PyData → Bool
  | .none | .bool _ | .int _ | .str _ => true
  | _ => false
def cRepr : ON := fun ds h => match ds with
  | [d] => match pdH h d with
    | some p => if PyProof.Rows.isDisplay p && rok p && decide (rsz p ≤ szL) && decide (p.depth ≤ 60) then .ok (.str p.shown) h else if isScP p && rok p && decide (rsz p ≤ szL) then .ok (.str p.shown) h else .bad
    | none => .bad
  | _ => .bad
section
open PySem.Spec PyProof.Rows
variable {X : Cx} {G : Gx}
theorem c_repr (gu : X.A.guards = some []) (hu : X.A.units + 64 < cLine) : CallR X (.builtin "repr") (rON X G cRepr) := by
  intro pins s σ H xs us Q I rv ⟨g, h, ds, og, r, q, p⟩
  unfold cRepr at p
  split at p
  · rename_i d
    obtain ⟨y, rfl, z⟩ := rel1 q
    split at p
    · rename_i pd e
      split at p
      · rename_i hz
        simp only [Bool.and_eq_true, decide_eq_true_eq] at hz
        obtain ⟨⟨⟨z1, z2⟩, z3⟩, z4⟩ := hz
        obtain ⟨u, rfl, ru⟩ := vals1 rv
        obtain ⟨as, rd⟩ := Dp.reads I pd y u (dpH_of og r z e) ru
        obtain ⟨a, rfl⟩ := isRef_of_reads rd z1
        obtain ⟨s1, s2, s3⟩ := rok_show z2
        exact repr_of_reads' rd s1 (PyData.noDict_hsm s2) gu (by omega) (fun _ _ e => e) (fun h' u tk hk => ⟨.str _, H, I.kept hk, ⟨_, rfl⟩, Post.str r p⟩) (by rw [lineE]; exact Nat.le_trans s3 z3)
      · split at p
        · rename_i hz
          simp only [Bool.and_eq_true, decide_eq_true_eq] at hz
          obtain ⟨⟨z1, z2⟩, z3⟩ := hz
          have dp := dpH_of og r z e
          cases dp with
          | non =>
            obtain ⟨u, rfl, rfl⟩ := vals1 rv
            exact PySem.P.repr_of_none ⟨.str _, H, I.tok _, ⟨_, rfl⟩, Post.str r p⟩
          | bl b =>
            obtain ⟨u, rfl, rfl⟩ := vals1 rv
            exact PySem.P.repr_of_bool ⟨.str _, H, I.tok _, ⟨_, rfl⟩, Post.str r p⟩
          | int i =>
            obtain ⟨u, rfl, t, rfl⟩ := vals1 rv
            simp only [rok, decide_eq_true_eq] at z2
            exact PySem.P.repr_of_int z2 ⟨.str _, H, I.tok _, ⟨_, rfl⟩, Post.str r p⟩
          | str x =>
            obtain ⟨u, rfl, t, rfl⟩ := vals1 rv
            have s3 := (rok_show z2).2.2
            exact PySem.P.repr_of_str ⟨.str _, H, I.tok _, ⟨_, rfl⟩, Post.str r p⟩ (by rw [lineE]; exact Nat.le_trans s3 z3)
          | _ => cases z1
        · exact p.elim
    · exact p.elim
  · exact p.elim
end
/-! ### isinstance -/
inductive Ty where
  | non | bl | int | str | lst | tup | dic
deriving DecidableEq
def Ty.name : Ty → String
  | .non => "NoneType" | .bl => "bool" | .int => "int" | .str => "str" | .lst => "list" | .tup => "tuple" | .dic => "dict"
def Ty.isa : Ty → Ty → Bool
  | .bl, .int => true
  | a, b => decide (a = b)
theorem Ty.kit : ∀ a b : Ty, kitB a.name b.name = some (a.isa b) := by
  have : ∀ a ∈ [Ty.non, .bl, .int, .str, .lst, .tup, .dic], ∀ b ∈ [Ty.bl, .int, .str, .lst, .tup, .dic], kitB a.name b.name = some (a.isa b) := by decide +kernel
  intro a b
  cases b with
  | non => cases a <;> decide +kernel
  | _ => exact this a (by cases a <;> simp) _ (by simp)
def tyOf (h : Cells) : D → Option Ty
  | .non => some .non
  | .bl _ => some .bl
  | .int _ => some .int
  | .str _ => some .str
  | .tup _ => some .tup
  | .lst _ => some .lst
  | .bor _ => some .lst
  | .frz _ => some .lst
  | .obj n => match h[n]? with
    | some (.lst _) => some .lst
    | _ => none
  | .glob _ => none
section
variable {X : Cx} {G : Gx} {g : Gh} {H : Hp} {h : Cells}
theorem tyOf_ok (og : GOk X G g) (r : HRel X.prog X.w g H h) {d : D} {v : V} {t : Ty} (q : RelT g H d v) (e : tyOf h d = some t) : TyX X.K H v (.type t.name) := by
  cases d with
  | non => cases e; cases (show v = .non from q); exact .base .non
  | bl b => cases e; cases (show v = .bl b from q); exact .base (.bl b)
  | int b => cases e; cases (show v = .int b from q); exact .base (.int b)
  | str b => cases e; cases (show v = .str b from q); exact .base (.str b)
  | tup ds =>
    cases e
    obtain ⟨a, xs, rfl, h1, _⟩ := tup_ok og q
    rcases h1 with (h1 | ⟨o, h1⟩) | ⟨o, its, n, k1, k2, _⟩
    · exact .base (.tup h1)
    · exact .fTuple h1
    · exact .kTuple k1 k2
  | lst ds =>
    cases e
    obtain ⟨a, xs, rfl, h1, _⟩ := q
    exact .base (.lst h1.1)
  | bor ds =>
    cases e
    obtain ⟨a, xs, rfl, h1, _⟩ := q
    exact .base (.lst h1.1)
  | frz ds =>
    cases e
    obtain ⟨a, xs, rfl, h1, _⟩ := q
    rcases h1 with ⟨o, h1⟩ | ⟨o, its, n, k1, k2, _⟩
    · exact .base (.frz h1)
    · exact .kList (by rw [← og.K]; exact k1) k2
  | obj n =>
    unfold tyOf at e
    dsimp only at e
    split at e
    · rename_i ds z
      cases e
      obtain ⟨a, rfl, _, xs, h2, _⟩ := cell_at r q z
      exact .base (.lst h2)
    · cases e
  | glob n => cases e
/-- isinstance(x, T), isinstance(x, (T, ..)) -/
def dIsi (a : DE) (ts : List Ty) : DE := fun fn env h => (a fn env h).bind fun d h1 => match tyOf h1 d with
  | some t => .ok (.bl (ts.any fun u => t.isa u)) h1
  | none => .bad
variable {e : Expr} {da : DE} {p pos : Pos}
/-- the class as it is written -/
structure PTyOk (X : Cx) (x : Str) (t : Ty) : Prop where
  gl : Gl X x
  mg : X.mg x = none
  bt : bootBuiltins x = some (.type t.name)
  nn : x ≠ "__name__"
  nd : (x == ("__debug__" : Str)) = false
theorem PTyOk.pe {x : Str} {t : Ty} {q : Pos} (k : PTyOk X x t) : PE X (.Name x q) (tC (.ty t.name)) := pe_bltn k.gl k.mg k.bt rfl k.nn k.nd
theorem s_isi {x : Str} {t : Ty} {px : Pos} (hg : Gl X "isinstance") (hm : X.mg "isinstance" = none) (he : PE X e (tD X G da)) (ht : PTyOk X x t) (hs : isStar e = false) :
    PE X (.Call (.Name "isinstance" p) [e, .Name x px] [] pos) (tD X G (dIsi da [t])) :=
  PE.imp (pe_callB call_isi hg hm PyProof.Rows.boot_isinstance (pa_cons he (pa_cons ht.pe pa_nil rfl) (star_cons hs)) (by decide) (by decide) (star_cons hs) rfl) fun σ H Q q =>
    tG.bind (f := fun fn env d h1 => match tyOf h1 d with
      | some t' => R.ok (D.bl ([t].any fun u => t'.isa u)) h1
      | none => .bad) q fun g own env h H1 d v og r l q p1 => by
      split at p1
      · rename_i t' et
        refine ⟨v, .ty t.name, .type t'.name, .type t.name, t'.isa t, rfl, .ty _, tyOf_ok og r q et, kit_ty (Ty.kit t' t), ?_⟩
        have := Post.bl r p1
        simpa using this
      · exact p1.elim
end
end EV
/-! EV14: a slot's list is let go, several names at once, while, augmented names -/
namespace EV
open PySem L2
section
variable {X : Cx} {G : Gx} {g g' g0 : Gh} {H H' H0 : Hp} {h h' : Cells} {own : Nat → Option Addr} {env : Ev} {σ : L2.St} {p : Addr} {ds : List D} {i : Nat} {st : Stmt} {sts : List Stmt} {da : DS}
/-! ### a slot's own list becomes a value -/
def frz1 (i : Nat) (env : Ev) : Ev := match env[i]? with
  | some (.own ds) => env.set i (.val (.lst ds))
  | _ => env
def frzs : List Nat → Ev → Ev
  | [], env => env
  | i :: is, env => frzs is (frz1 i env)
def sFrz (is : List Nat) (a : DS) : DS := fun fn env h => a fn (frzs is env) h
theorem frz1_ok (r : HRel X.prog X.w g H h) (o : GOk X G g) (l : LR g own env σ H) (n : Ent g0 H0 g H own) (i : Nat) :
    ∃ g' own', GOk X G g' ∧ HRel X.prog X.w g' H h ∧ LR g' own' (frz1 i env) σ H ∧ Ent g0 H0 g' H own' ∧ ExtS g H g' H := by
  unfold frz1
  split
  · rename_i ds es
    have hi : i < env.length := (List.getElem?_eq_some_iff.mp es).1
    obtain ⟨p, xs, z1, z2, z3, z4⟩ := l.sl i _ es
    obtain ⟨wp, np, _⟩ := l.ow i p z1
    have hp0 := n.new i p z1
    refine ⟨g.less p, fun j => if j = i then none else own j, ⟨o.K, o.gA⟩, r.less np, ?_, ⟨n.ext.lessNew hp0 np, fun j a z => ?_⟩, ExtS.less⟩
    · refine { len := by rw [List.length_set, l.len], inj := fun a b x h1 h2 => ?_, ow := fun a x h1 => ?_, sl := fun j s e => ?_ }
      · by_cases ha : a = i
        · simp only [if_pos ha] at h1; cases h1
        · by_cases hb : b = i
          · simp only [if_pos hb] at h2; cases h2
          · simp only [if_neg ha] at h1; simp only [if_neg hb] at h2
            exact l.inj a b x h1 h2
      · by_cases ha : a = i
        · simp only [if_pos ha] at h1; cases h1
        · simp only [if_neg ha] at h1
          obtain ⟨w1, w2, w3⟩ := l.ow a x h1
          exact ⟨⟨w1, fun e => ha (l.inj a i p (by rw [← e]; exact h1) z1)⟩, w2, w3⟩
      · by_cases hj : j = i
        · subst hj
          rw [List.getElem?_set_self hi] at e
          cases e
          exact ⟨.ref p, z2, p, xs, rfl, ⟨z3, fun w => w.2 rfl⟩, RelsS.exts r ExtS.less z4⟩
        · rw [List.getElem?_set_ne (Ne.symm hj)] at e
          have z := l.sl j s e
          cases s with
          | no => trivial
          | val d =>
            obtain ⟨u, y1, y2⟩ := z
            exact ⟨u, y1, RelS.exts r ExtS.less y2⟩
          | own ds' =>
            obtain ⟨a, xs', y1, y2, y3, y4⟩ := z
            exact ⟨a, xs', by simp only [if_neg hj]; exact y1, y2, y3, RelsS.exts r ExtS.less y4⟩
    · by_cases hj : j = i
      · simp only [if_pos hj] at z; cases z
      · simp only [if_neg hj] at z; exact n.new j a z
  · exact ⟨g, own, o, r, l, n, ExtS.refl _ _⟩
theorem frzs_ok : ∀ (is : List Nat) {g : Gh} {own : Nat → Option Addr} {env : Ev}, HRel X.prog X.w g H h → GOk X G g → LR g own env σ H → Ent g0 H0 g H own →
    ∃ g' own', GOk X G g' ∧ HRel X.prog X.w g' H h ∧ LR g' own' (frzs is env) σ H ∧ Ent g0 H0 g' H own' ∧ ExtS g H g' H
  | [], g, own, env, r, o, l, n => ⟨g, own, o, r, l, n, ExtS.refl _ _⟩
  | i :: is, g, own, env, r, o, l, n => by
    obtain ⟨g1, own1, o1, r1, l1, n1, e1⟩ := frz1_ok r o l n i
    obtain ⟨g2, own2, o2, r2, l2, n2, e2⟩ := frzs_ok is r1 o1 l1 n1
    exact ⟨g2, own2, o2, r2, l2, n2, e1.trans e2⟩
theorem tS.frz {is : List Nat} {Dn : Ends} (q : tS X G g0 H0 (sFrz is da) Dn σ H) : tS X G g0 H0 da Dn σ H := by
  obtain ⟨g, own, env, h, o, r, l, n, q⟩ := q
  obtain ⟨g1, own1, o1, r1, l1, n1, e1⟩ := frzs_ok is r o l n
  exact ⟨g1, own1, _, h, o1, r1, l1, n1, PostS.mono q e1⟩
/-! ### several names at once -/
inductive It' where
  | v (d : D) | o (ds : List D)
abbrev DM := Fns → Ev → Cells → R It'
def dmV (a : DE) : DM := fun fn env h => (a fn env h).bind fun d h1 => if isBor d then .bad else .ok (.v d) h1
def dmO (a : DF) : DM := fun fn env h => (a fn env h).bind fun ds h1 => .ok (.o ds) h1
def IRel (Hs : Hp) (g : Gh) (H : Hp) : It' → V → Prop
  | .v d, v => RelS g H d v
  | .o ds, v => ∃ p xs, v = .ref p ∧ H p = some (.lst xs) ∧ RelsS g H ds xs ∧ g.W p ∧ p ∉ g.ρ ∧ Hs p = none
def tM (X : Cx) (G : Gx) (dm : DM) : TE := fun σ H Q => ∃ g own env h, GOk X G g ∧ HRel X.prog X.w g H h ∧ LR g own env σ H ∧ Post X G g H (dm G.fns env h) fun g' H' it _ => ∀ v, IRel H g' H' it v → Q v H'
theorem IRel.ext {Hs : Hp} (r : HRel X.prog X.w g H h) (e : Ext g H g' H') {it : It'} {v : V} (q : IRel Hs g H it v) : IRel Hs g' H' it v := by
  cases it with
  | v d => exact RelS.ext r e q
  | o ds =>
    obtain ⟨p, xs, z1, z2, z3, z4, z5, z6⟩ := q
    exact ⟨p, xs, z1, e.fr p _ z2 z5, RelsS.ext r e z3, (e.wk p z4).resolve_right (fun z => by rw [z2] at z; cases z), (fun m => by have z := e.nw p m z5; rw [z2] at z; cases z), z6⟩
variable {e : Expr} {de : DE} {df : DF}
theorem s_mV (he : PE X e (tD X G de)) : PE X e (tM X G (dmV de)) := PE.imp he fun σ H Q ⟨g, own, env, h, o, r, l, q⟩ => ⟨g, own, env, h, o, r, l, (Post.bind q).imp fun g1 H1 d h1 e1 r1 q1 v qv => by
  split at q1
  · exact q1.elim
  · rename_i nb
    exact Post.now r1 q1 v (qv.s (by simpa using nb))⟩
theorem s_mO (he : PE X e (tF X G df)) : PE X e (tM X G (dmO df)) := PE.imp he fun σ H Q ⟨g, own, env, h, o, r, l, q⟩ => ⟨g, own, env, h, o, r, l, (Post.bind q).imp fun g1 H1 ds h1 e1 r1 q1 p xs z1 z2 z3 z4 z5 =>
  Post.now r1 q1 _ ⟨p, xs, rfl, z4, z5, z2, z3, z1⟩⟩
/-- an item goes to its slot -/
def putIt (i : Nat) (it : It') (env : Ev) : Option Ev := if env.length ≤ i then none else match it with
  | .v d => some (env.set i (.val d))
  | .o ds => some (env.set i (.own ds))
def ownIt (i : Nat) (it : It') (v : V) (own : Nat → Option Addr) : Nat → Option Addr := fun j => if j = i then match it, v with
  | .o _, .ref p => some p
  | _, _ => none
  else own j
theorem putIt_ok {it : It'} {v : V} {env' : Ev} {Hs : Hp} (l : LR g own env σ H) (q : IRel Hs g H it v) (fresh : ∀ p, (∃ ds, it = .o ds) → v = .ref p → ∀ j, own j ≠ some p) (e : putIt i it env = some env') :
    LR g (ownIt i it v own) env' (σ.set i (some v)) H := by
  unfold putIt at e
  split at e
  · cases e
  · rename_i hl
    cases it with
    | v d =>
      cases e
      have := l.val (i := i) (by omega) q
      exact this
    | o ds =>
      cases e
      obtain ⟨p, xs, rfl, z2, z3, z4, z5, z6⟩ := q
      exact l.own' (by omega) z4 z5 z2 z3 (fresh p ⟨ds, rfl⟩ rfl)
theorem ent_fresh (r : HRel X.prog X.w g H h) (n : Ent g0 H0 g H own) (hp : H p = none) : H0 p = none := by
  cases q : H0 p with
  | none => rfl
  | some u =>
    by_cases m : p ∈ g0.ρ
    · obtain ⟨u', hu', _⟩ := r.mem (n.ext.mem m)
      rw [hp] at hu'; cases hu'
    · rw [n.ext.fr p u q m] at hp; cases hp
theorem ownIt_new {it : It'} {v : V} {own : Nat → Option Addr} {i : Nat} (n : ∀ j a, own j = some a → H0 a = none) (f : ∀ p, (∃ ds, it = .o ds) → v = .ref p → H0 p = none) : ∀ j a, ownIt i it v own j = some a → H0 a = none := fun j a z => by
  unfold ownIt at z
  split at z
  · cases it with
    | v d => cases z
    | o ds =>
      cases v with
      | ref q => cases z; exact f _ ⟨ds, rfl⟩ rfl
      | _ => cases z
  · exact n j a z
def sPar2 (i j : Nat) (a b : DM) : DS := fun fn env h => (a fn env h).bind fun x h1 => (b fn env h1).bind fun y h2 => match putIt i x env with
  | some env1 => match putIt j y env1 with
    | some env2 => .ok (.nx, env2) h2
    | none => .bad
  | none => .bad
theorem par_step {it : It'} {v : V} {env' : Ev} {Hs : Hp} {gs : Gh} {hs : Cells} (rs : HRel X.prog X.w gs Hs hs) (ns : Ent g0 H0 gs Hs own) (ls : LR gs own env σ Hs) (l : LR g own env σ H) (q : IRel Hs g H it v) :
    (∀ p, (∃ ds, it = .o ds) → v = .ref p → ∀ j, own j ≠ some p) ∧ ∀ p, (∃ ds, it = .o ds) → v = .ref p → H0 p = none := by
  refine ⟨fun p ⟨ds, e⟩ ev j hj => ?_, fun p ⟨ds, e⟩ ev => ?_⟩
  · subst e
    obtain ⟨p', xs, ep, z2, z3, z4, z5, z6⟩ := q
    rw [ev] at ep; cases ep
    obtain ⟨_, _, u, hu⟩ := ls.ow j p hj
    rw [z6] at hu; cases hu
  · subst e
    obtain ⟨p', xs, ep, z2, z3, z4, z5, z6⟩ := q
    rw [ev] at ep; cases ep
    exact ent_fresh rs ns z6
theorem par2_of {j : Nat} {a b : DM} {Dn : Ends} (q : tS X G g0 H0 (sPar2 i j a b) Dn σ H) : tPar i j (tCons (tM X G a) (tCons (tM X G b) tNil)) Dn σ H := by
  obtain ⟨g, own, env, h, o, r, l, n, q⟩ := q
  refine ⟨g, own, env, h, o, r, l, (Post.stmt r n q).imp fun g1 H1 x h1 e1 r1 q1 v qv => ?_⟩
  have n1 := n.step e1
  have l1 := l.step r e1
  refine ⟨g1, own, env, h1, o.ext e1, r1, l1, (Post.stmt r1 n1 q1).imp fun g2 H2 y h2 e2 r2 q2 w qw => ?_⟩
  have n2 := n1.step e2
  have l2 := l1.step r1 e2
  have qv2 := IRel.ext r1 e2 qv
  obtain ⟨f1, f2⟩ := par_step (env' := env) r n l l2 qv2
  obtain ⟨k1, k2⟩ := par_step (env' := env) r1 n1 l1 l2 qw
  refine ⟨v, w, rfl, ?_⟩
  split at q2
  · rename_i env1 p1
    split at q2
    · rename_i env2 p2
      have la := putIt_ok l2 qv2 f1 p1
      have lb := putIt_ok la qw (fun p hp ev j' hj' => by
        unfold ownIt at hj'
        split at hj'
        · cases x with
          | v d => cases hj'
          | o ds =>
            obtain ⟨p', xs, rfl, z2, z3, z4, z5, z6⟩ := qv
            cases hj'
            obtain ⟨ds2, e2'⟩ := hp
            subst e2'
            obtain ⟨p2, xs2, ew, y2, y3, y4, y5, y6⟩ := qw
            rw [ev] at ew
            cases ew
            rw [z2] at y6; cases y6
        · exact k1 p hp ev j' hj') p2
      exact q2 g2 _ H2 _ ((o.ext e1).ext e2) r2 lb ⟨n2.ext, ownIt_new (ownIt_new n2.new f2) k2⟩ (ExtS.refl _ _)
    · exact q2.elim
  · exact q2.elim
theorem s_par2 {j : Nat} {x y : Str} {a b : Expr} {da db : DM} {px py pt pos : Pos} {kt k2 pt2} (hc : X.calm = true) (hN : X.N.Nodup) (hi : X.N[i]? = some x) (hj : X.N[j]? = some y) (hij : i ≠ j)
    (hx : X.env.scope.names.lookup x = some .local) (hy : X.env.scope.names.lookup y = some .local) (ha : PE X a (tM X G da)) (hb : PE X b (tM X G db)) (sa : isStar a = false) (sb : isStar b = false)
    (hw : swappedStores [.Tuple [.Name x px, .Name y py] kt pt] (.Tuple [a, b] k2 pt2) X.env = pure (some [x, y])) :
    PS X (.Assign [.Tuple [.Name x px, .Name y py] kt pt] (.Tuple [a, b] k2 pt2) pos) (tS X G g0 H0 (sPar2 i j da db)) :=
  PS.imp (ps_par hc hN hi hj hij hx hy (pa_cons ha (pa_cons hb pa_nil (star_cons sb)) (star_cons sa)) hw rfl) fun _ _ _ q => par2_of q
/-! ### while -/
def whileL (t : DT) (body : DS) (fn : Fns) : Nat → Ev → Cells → R (Fl × Ev)
  | 0, _, _ => .bad
  | n + 1, env, h => (t fn env h).bind fun k h1 => if k = true then (body fn env h1).bind fun x h2 => match x.1 with
      | .nx => whileL t body fn n x.2 h2
      | .ct => whileL t body fn n x.2 h2
      | .bk => .ok (.nx, x.2) h2
      | .rt d => .ok (.rt d, x.2) h2
    else .ok (.nx, env) h1
def sWhile (n : Nat) (t : DT) (body : DS) : DS := fun fn env h => whileL t body fn n env h
/-! ### name op= e -/
def sAug (i : Nat) (o : O2) (a : DE) : DS := fun fn env h => match env[i]? with
  | some (.val d) => (a fn env h).bind fun e h1 => (o d e h1).bind fun z h2 => setV i z env h2
  | _ => .bad
end
end EV
/-! EV15: the table of a text's defs, every def keeps its contract -/
namespace EV
open PySem L2
/-- a def of the text -/
structure FD where
  gn : Str
  nm : Str
  st : Stmt
  ps : List Str
  N : List Str
  sem : DS
  /-- a method's name (gn is its class), its qualified name -/
  me : Option Str
  qn : Str
/-- a text -/
structure Pg where
  defs : List FD
  free : List Str
  vals : List (Str × D)
  /-- classes, what their instances have -/
  cls : List (Nat × Str)
  attrs : List (Nat × Str)
/-- where a def stands -/
def AtF (K : PySem.W.Frag) (mg : Str → Option Value) (d : FD) (f : Addr) : Prop := match d.me with
  | none => mg d.gn = some (.ref f)
  | some m => ∃ C, mg d.gn = some (.ref C) ∧ Meth K C m f
theorem AtF.glo {K : PySem.W.Frag} {mg : Str → Option Value} {d : FD} {f : Addr} (a : AtF K mg d f) (h : d.me = none) : mg d.gn = some (.ref f) := by
  unfold AtF at a; rw [h] at a; exact a
theorem AtF.meth {K : PySem.W.Frag} {mg : Str → Option Value} {d : FD} {f : Addr} {m : Str} (a : AtF K mg d f) (h : d.me = some m) : ∃ C, mg d.gn = some (.ref C) ∧ Meth K C m f := by
  unfold AtF at a; rw [h] at a; exact a
/-- classes as they stand -/
def ClsAt (K : PySem.W.Frag) (mg : Str → Option Value) (gA : Nat → Option Addr) (T : Pg) : Prop :=
  (∀ (i : Nat) (x : Str), T.cls.lookup i = some x → ∃ C f, mg x = some (.ref C) ∧ gA i = some C ∧ Cls K C ∧ Mk K C f) ∧ ∀ p, p ∈ T.attrs → ∀ C, gA p.1 = some C → NoAttr K C p.2
def startE (n : Nat) (ds : List D) : Ev := ds.map Sl.val ++ List.replicate (n - ds.length) Sl.no
def endF (x : Fl × Ev) (h : Cells) : R D := match x.1 with
  | .nx => .ok .non h
  | .rt d => .ok d h
  | _ => .bad
def bodyF (n : Nat) (sem : DS) (fn : Fns) (ds : List D) (h : Cells) : R D := (sem fn (startE n ds) h).bind endF
def fnsOf (tb : List FD) : Nat → Fns
  | 0 => fun _ _ _ => .bad
  | k + 1 => fun i ds h => match tb[i]? with
    | some d => bodyF d.N.length d.sem (fnsOf tb k) ds h
    | none => .bad
theorem deepMk {k : Nat} {A : Around} (r : Room (k + 1) A) (env : Env) (C : Addr) (us : List Value) (kw : List (Str × Value)) : Room k ((A.deeper env).under (.builtin "type.__call__" ⟨.ref C :: us, kw⟩)) :=
  ⟨r.hd, by have := r.dp; rw [make_depth]; show A.depth + 1 + 1 + 3 * k + 5 < _; omega, by have := r.un; rw [make_units]; show A.units + 3 + 1 + 16 * k + 200 < _; omega⟩
/-- what the code of a def leans on -/
structure XOk (X : Cx) (G : Gx) (T : Pg) (k : Nat) : Prop where
  gu : X.A.guards = some []
  calm : X.calm = true
  rm : Room k X.A
  mkr : ∀ C us kw, Room k (X.A.under (.builtin "type.__call__" ⟨.ref C :: us, kw⟩))
  hx : Passes (L2.CX X.prog X.w) X G.Wx
  po : PassesOwn (model X.prog X.w) X.A X.env X.xe
  defs : ∀ (i : Nat) (d : FD), T.defs[i]? = some d → ∃ f fd, AtF X.K X.mg d f ∧ FunD X.K d.nm d.qn (defArgs d.st) (defBody d.st) (defScope d.st) [] [] f fd ∧ FnG X.prog X.w X.K X.mg X.base k f fd d.ps (spF X.prog X.w X.K G.gA d.ps.length (G.fns i))
  free : ∀ x, T.free.elem x = true → X.mg x = none
  vals : ∀ p, p ∈ T.vals → ∃ v u, X.mg p.1 = some u ∧ RelV v u ∧ ∀ g H, GOk X G g → RelS g H p.2 v
  cls : ClsAt X.K X.mg G.gA T
/-- names -/
structure Sc (X : Cx) (N : List Str) (sc : Scope) (F : Str → Bool) : Prop where
  en : X.N = N
  sc : X.env.scope = sc
  fn : X.fn = F
  nd : N.Nodup
def visB (sc : Scope) (x : Str) : Bool := match sc.names.lookup x with
  | some .local | some .cell | some .free => true
  | _ => false
def locB (sc : Scope) (x : Str) : Bool := match sc.names.lookup x with
  | some .local | some .cell => true
  | _ => false
def lclB (sc : Scope) (x : Str) : Bool := match sc.names.lookup x with
  | some .local => true
  | _ => false
def glB (sc : Scope) (x : Str) : Bool := match sc.names.lookup x with
  | some .globalImplicit => true
  | _ => false
def sameB (a : Option Str) (b : Str) : Bool := match a with
  | some c => c == b
  | none => false
structure VarOk (X : Cx) (i : Nat) (x : Str) : Prop where
  n : X.N[i]? = some x
  v : Vis X.env.scope x
  d : (x == ("__debug__" : Str)) = false
  c : (x == ("__classdict__" : Str)) = false
structure TgtOk (X : Cx) (i : Nat) (x : Str) : Prop where
  nd : X.N.Nodup
  n : X.N[i]? = some x
  l : L2.Loc X.env.scope x
  f : X.fn x = true ∨ X.env.scope.names.lookup x = some .local
section
variable {X : Cx} {G : Gx} {T : Pg} {k : Nat} {N : List Str} {sc : Scope} {F : Str → Bool} {x : Str} {i : Nat}
theorem visB_ok (h : visB sc x = true) : Vis sc x := by
  unfold visB at h; unfold Vis
  split at h <;> simp_all
theorem locB_ok (h : locB sc x = true) : L2.Loc sc x := by
  unfold locB at h; unfold L2.Loc
  split at h <;> simp_all
theorem lclB_ok (h : lclB sc x = true) : sc.names.lookup x = some .local := by
  unfold lclB at h
  split at h <;> simp_all
theorem glB_ok (h : glB sc x = true) : sc.names.lookup x = some .globalImplicit := by
  unfold glB at h
  split at h <;> simp_all
theorem sameB_ok {a : Option Str} {b : Str} (h : sameB a b = true) : a = some b := by
  unfold sameB at h
  split at h
  · simp_all
  · cases h
theorem Sc.var (S : Sc X N sc F) (i : Nat) (x : Str) (h : (sameB N[i]? x && visB sc x && !(x == ("__debug__" : Str)) && !(x == ("__classdict__" : Str))) = true) : VarOk X i x := by
  simp only [Bool.and_eq_true, Bool.not_eq_true'] at h
  obtain ⟨⟨⟨h1, h2⟩, h3⟩, h4⟩ := h
  exact ⟨by rw [S.en]; exact sameB_ok h1, by rw [S.sc]; exact visB_ok h2, h3, h4⟩
theorem Sc.tgt (S : Sc X N sc F) (i : Nat) (x : Str) (h : (sameB N[i]? x && locB sc x && (F x || lclB sc x)) = true) : TgtOk X i x := by
  simp only [Bool.and_eq_true, Bool.or_eq_true] at h
  obtain ⟨⟨h1, h2⟩, h3⟩ := h
  refine ⟨by rw [S.en]; exact S.nd, by rw [S.en]; exact sameB_ok h1, by rw [S.sc]; exact locB_ok h2, ?_⟩
  rcases h3 with z | z
  · exact .inl (by rw [S.fn]; exact z)
  · exact .inr (by rw [S.sc]; exact lclB_ok z)
theorem Sc.gl (S : Sc X N sc F) (x : Str) (h : glB sc x = true) : Gl X x := by
  show X.env.scope.names.lookup x = _
  rw [S.sc]; exact glB_ok h
theorem Sc.lcl (S : Sc X N sc F) (x : Str) (h : lclB sc x = true) : X.env.scope.names.lookup x = some .local := by
  rw [S.sc]; exact lclB_ok h
theorem XOk.blk (O : XOk X G T k) {s : Shared} {H : Hp} {scope : Scope} {cenv : Env} {fp : List Addr} : XOk (X.blk s H scope cenv fp) G.quiet T k where
  gu := O.gu
  calm := O.calm
  rm := O.rm
  mkr := O.mkr
  hx := fun pins σ H s e s' I c => by
    obtain ⟨a, B, H', cls, d, h1, h2, h3, h4, h5, h6, h7, z⟩ := c
    exact z.elim
  po := PassesOwn.never
  defs := O.defs
  free := O.free
  cls := O.cls
  vals := fun p hp => by
    obtain ⟨v, u, h1, h2, h3⟩ := O.vals p hp
    exact ⟨v, u, h1, h2, fun g H o => h3 g H ⟨o.K, o.gA⟩⟩
theorem Sc.blk (S : Sc X N sc F) {s : Shared} {H : Hp} {scope : Scope} {C : Addr} {cl : List (Str × Addr)} {fp : List Addr} : Sc (X.blk s H scope (compEnvC scope cl C X.env) fp) N (relS scope sc) (fun x => scope.names.lookup x == some .cell) where
  en := S.en
  sc := by rw [← S.sc]; rfl
  fn := rfl
  nd := S.nd
theorem XOk.un (O : XOk X G T k) : X.A.units + 64 < cLine := by have := O.rm.un; omega
/-- a call of a def without defaults -/
theorem XOk.call (O : XOk X G T k) (i : Nat) {d : FD} (hd : T.defs[i]? = some d) (n : Nat) (ks : List Str) (src : List Src) (hl : src.length = d.ps.length)
    (hb : ∀ (kV doc pm : Value) (an : Option Addr) (cdv ct : Value) (us ws zs : List Value), us.length = n → ws.length = ks.length → arrange us ws [] src = some zs →
      bindArgs (PySem.W.fnOf d.nm d.qn (defArgs d.st) (defBody d.st) (defScope d.st) .none kV doc pm an cdv ct) ⟨us, ks.zip ws⟩ = pure (d.ps.zip zs)) (hme : d.me = none := by rfl) : CallOk X G d.gn i n ks src [] := by
  obtain ⟨f, fd, hm, F, FG⟩ := O.defs i d hd
  have hm := hm.glo hme
  refine ⟨k, f, fd, d.ps, [], [], hm, F.kp, O.rm, FG, .nil, (fun g H o => rfl), hl, fun s us ws zs X1 l1 l2 ar => ?_⟩
  obtain ⟨oc, od, dV, kV, doc, pm, an, cdv, ct, osl, rfl, lk, hcd, hD, hK⟩ := F.ex
  rcases hD with ⟨_, rfl⟩ | ⟨e, _⟩
  · exact .of_eq (hb kV doc pm an cdv ct us ws zs l1 l2 ar)
  · exact absurd rfl e
end
/-! ### all defs -/
structure TxtOk (K : PySem.W.Frag) (mg : Str → Option Value) (gA : Nat → Option Addr) (T : Pg) : Prop where
  defs : ∀ (i : Nat) (d : FD), T.defs[i]? = some d → ∃ f fd, AtF K mg d f ∧ FunD K d.nm d.qn (defArgs d.st) (defBody d.st) (defScope d.st) [] [] f fd
  cls : ClsAt K mg gA T
  free : ∀ x, T.free.elem x = true → mg x = none
  vals : ∀ p, p ∈ T.vals → ∃ v u, mg p.1 = some u ∧ RelV v u ∧ ∀ (g : Gh) (H : Hp), g.K = K → g.gA = gA → RelS g H p.2 v
/-- a def's body is what it is said to be -/
structure BodyOk (T : Pg) (d : FD) : Prop where
  sc : FnScope d.N d.ps (defScope d.st)
  run : ∀ (X : Cx) (G : Gx) (g0 : Gh) (H0 : Hp) (k : Nat), XOk X G T k → Sc X d.N (defScope d.st) (fun _ => true) → PSs X (defBody d.st) (tS X G g0 H0 d.sem)
theorem start_rel {g : Gh} {H : Hp} : ∀ {ds : List D} {vs : List V} {n : Nat}, RelsS g H ds vs → ∀ (i : Nat) (s : Sl), (startE n ds)[i]? = some s → SlRel g (fun _ => none) (vs.map some ++ List.replicate (n - ds.length) none) H i s := by
  intro ds vs n q i s e
  unfold startE at e
  by_cases hi : i < ds.length
  · rw [List.getElem?_append_left (by simpa using hi), List.getElem?_map] at e
    cases ed : ds[i]? with
    | none => rw [ed] at e; cases e
    | some d =>
      rw [ed] at e
      cases e
      obtain ⟨v, h1, h2⟩ := RelsS.get q ed
      exact ⟨v, by rw [List.getElem?_append_left (by rw [List.length_map, ← q.len]; exact hi), List.getElem?_map, h1]; rfl, h2⟩
  · rw [List.getElem?_append_right (by simpa using hi), List.getElem?_replicate] at e
    split at e
    · cases e; trivial
    · cases e
section
variable {P : Program} {w : World} {K : PySem.W.Frag} {mg : Str → Option Value} {base : Heap} {gA : Nat → Option Addr} {T : Pg}
theorem all_fn (TO : TxtOk K mg gA T) (B : ∀ (i : Nat) (d : FD), T.defs[i]? = some d → BodyOk T d) : ∀ (k i : Nat) (d : FD), T.defs[i]? = some d →
    ∀ f fd, AtF K mg d f → FunD K d.nm d.qn (defArgs d.st) (defBody d.st) (defScope d.st) [] [] f fd → FnG P w K mg base k f fd d.ps (spF P w K gA d.ps.length (fnsOf T.defs k i))
  | 0, i, d, hd => by
    intro f fd h1 h2
    refine ⟨fun _ _ _ _ q => spF_len q, fun _ _ _ _ _ _ _ _ _ _ _ _ _ _ q => ?_⟩
    obtain ⟨g, h, ds, _, _, _, _, _, z⟩ := q
    exact z.elim
  | k + 1, i, d, hd => by
    have ih := all_fn TO B k
    intro f fd h1 h2
    obtain ⟨oc, od, dV, kV, doc, pm, an, cdv, ct, osl, rfl, lk, hcd, _, _⟩ := h2.ex
    refine FnG.of lk hcd (B i d hd).sc (fun _ _ _ _ q => spF_len q) fun A out s H vs Q E gu rm q => ?_
    obtain ⟨g, h, ds, gK, ggA, r, rel, len, post⟩ := q
    let G : Gx := ⟨gA, fnsOf T.defs k, E⟩
    have O : XOk (cxOf (L2.CX P w) P w K mg base d.N d.qn (defScope d.st) f cdv A out s H E) G T k :=
      { gu := gu, calm := rfl, rm := rm.deeper _, mkr := fun C us kw => deepMk rm _ C us kw, hx := passes_call (takes_of rfl rfl rfl rfl) (fun _ _ _ _ z => z), po := passes_of (K := fun e s'' => L2.CX P w out H s E e s'') rfl, defs := fun j e he => (let ⟨f, fd, z1, z2⟩ := TO.defs j e he; ⟨f, fd, z1, z2, ih j e he f fd z1 z2⟩), cls := TO.cls, free := TO.free,
        vals := fun p hp => by
          obtain ⟨v, u, z1, z2, z3⟩ := TO.vals p hp
          exact ⟨v, u, z1, z2, fun g H o => z3 g H o.K o.gA⟩ }
    refine ⟨_, (B i d hd).run _ G g H k O ⟨rfl, rfl, rfl, (B i d hd).sc.nd⟩, g, fun _ => none, startE d.N.length ds, h, ⟨gK, ggA⟩, r, ⟨?_, (fun _ _ _ z => by cases z), (fun _ _ z => by cases z), ?_⟩, ⟨Ext.refl r, fun _ _ z => by cases z⟩, ?_⟩
    · show (ds.map Sl.val ++ List.replicate _ Sl.no).length = (vs.map some ++ List.replicate _ none).length
      simp [rel.len]
    · intro j sl e
      show SlRel g _ (vs.map some ++ List.replicate (d.N.length - vs.length) none) H j sl
      rw [← rel.len]
      exact start_rel rel j sl e
    · have post : PostE P w E g H ((d.sem (fnsOf T.defs k) (startE d.N.length ds) h).bind endF) fun g' H' d x => ∀ (v : V), RelS g' H' d v → Q v H' := by
        have e : fnsOf T.defs (k + 1) i ds h = bodyF d.N.length d.sem (fnsOf T.defs k) ds h := by
          show (match T.defs[i]? with
            | some d => bodyF d.N.length d.sem (fnsOf T.defs k) ds h
            | none => .bad) = _
          rw [hd]
        rw [e] at post
        exact post
      show PostS _ G g H g H (d.sem (fnsOf T.defs k) (startE d.N.length ds) h) _
      revert post
      cases d.sem (fnsOf T.defs k) (startE d.N.length ds) h with
      | bad => exact fun z => z
      | exc e h' => exact fun z => z
      | ok x h' =>
        obtain ⟨fl, env'⟩ := x
        cases fl with
        | nx => exact fun post g' own' H' σ' _ r' _ n' _ => post g' H' n'.ext r' _ rfl
        | rt d' => exact fun post g' own' H' σ' _ r' _ n' _ v qv => post g' H' n'.ext r' v qv
        | bk => exact fun z => z.elim
        | ct => exact fun z => z.elim
end
end EV
/-! EV16: a law's end -/
namespace EV
open PySem L2
open PySem.Spec PyProof.Rows
/-- the heap that the script is taken out of, as a base -/
structure Bas (P : Program) (w : World) (K : PySem.W.Frag) (mg : Str → Option Value) (s : Shared) (H : Hp) (a : Addr) (ns : List Int) : Prop where
  e0 : ∃ base, Env0 P w K mg base callerA [] s H
  fz : (∃ o, H a = some (.frz o (.lst (ns.map V.int)))) ∨ SqK K a (ns.map V.int)
  on : ∀ b u, H b = some u → b = a ∧ ∃ o, u = .frz o (.lst (ns.map V.int))
theorem bas_of {P : Program} {w : World} {K : PySem.W.Frag} {mg mb : Str → Option Value} {a : Addr} {s : Shared} {vs : List Value} {ns : List Int}
    (KX : K.In s.heap) (gl : s.heap.Ns mainGlobals mg) (bl : s.heap.Ns builtinsNs mb) (bb : ∀ x : Str, x ≠ "__name__" → mb x = bootBuiltins x) (nl : s.heap.NoLimit) (gn : s.gens = #[])
    (oa : s.heap.get? a = some { cls := .type "list", data := .seq vs.toArray }) (iv : IntsAre vs ns) (sm : ns.length ≤ sizeLine) : ∃ H, Bas P w K mg s H a ns := by
  have rv : Vals (ns.map V.int) vs := vals_ints iv
  -- whatever is tracked is the script alone
  have build : ∀ H : Hp, (∀ b u, H b = some u → b = a ∧ u = .frz { cls := .type "list", data := .seq vs.toArray } (.lst (ns.map V.int))) → (H a ≠ none → K.lookup a = none) →
      ∃ base, Env0 P w K mg base callerA [] s H := by
    intro H on ka
    have sees : ∀ {b : Addr} {o : Obj}, s.heap.get? b = some o → (b = a → H a = none) → (hidT s.heap H).get? b = some o := fun {b o} e n => by
      refine hidT_get e ?_
      cases q : H b with
      | none => rfl
      | some u =>
        have z := (on b u q).1
        rw [z, n z] at q
        cases q
    have space : ∀ {b : Addr} {m : Str → Option Value}, s.heap.Ns b m → (hidT s.heap H).Ns b m := fun {b m} z => by
      obtain ⟨o, es, ep, h1, h2, h3⟩ := z
      refine ⟨o, es, ep, sees h1 fun e => ?_, h2, h3⟩
      rw [e, oa] at h1
      cases h1
      cases (show Data.seq vs.toArray _ = Data.dict es ep from h2)
    refine ⟨hidT s.heap H, rfl, ⟨fun b o e => sees (KX b o e) fun z => ?_, space gl, ⟨mb, space bl, bb⟩, ?_⟩, (fun b o e => of_hidT e), Nat.le_of_eq (hidT_size _ _), trivial, (fun b z => by cases z), fun b u z => ?_, .of_eq gn⟩
    · cases q : H a with
      | none => rfl
      | some u =>
        have q2 := ka (by rw [q]; simp)
        rw [z, q2] at e
        cases e
    · obtain ⟨mc, h1, h2⟩ := nl
      exact ⟨mc, space h1, h2⟩
    · obtain ⟨e1, e2⟩ := on b u z
      rw [e1, e2]
      exact ⟨oa, by rw [List.length_map]; exact sm, vs, _, rv, oa⟩
  cases kq : K.lookup a with
  | some o =>
    have oe := KX a o kq
    rw [oa] at oe
    cases oe
    refine ⟨fun _ => none, build _ (fun b u z => by cases z) fun z => absurd rfl z, .inr ⟨_, vs.toArray, _, kq, rfl, rfl, rfl, ?_, by simpa using rv⟩, fun b u z => by cases z⟩
    rw [List.size_toArray, iv.length]; exact sm
  | none =>
    have on : ∀ b u, (fun b => if b = a then some (HO.frz { cls := .type "list", data := .seq vs.toArray } (.lst (ns.map V.int))) else none) b = some u → b = a ∧ u = .frz { cls := .type "list", data := .seq vs.toArray } (.lst (ns.map V.int)) := fun b u z => by
      by_cases q : b = a
      · exact ⟨q, (Option.some.inj ((if_pos q).symm.trans z)).symm⟩
      · cases (if_neg q).symm.trans z
    exact ⟨_, build _ on fun _ => kq, .inl ⟨_, if_pos rfl⟩, fun b u z => ⟨(on b u z).1, _, (on b u z).2⟩⟩
/-- the law's call, from what the evaluation gives -/
theorem law_run {P : Program} {w : World} {K : PySem.W.Frag} {mg mb : Str → Option Value} {gA : Nat → Option Addr} {k : Nat} {fa a : Addr} {fd : FuncData} {x : Str} {F : List D → Cells → R D} {s : Shared} {vs : List Value} {ns : List Int}
    (KX : K.In s.heap) (gl : s.heap.Ns mainGlobals mg) (bl : s.heap.Ns builtinsNs mb) (bb : ∀ x : Str, x ≠ "__name__" → mb x = bootBuiltins x) (nl : s.heap.NoLimit) (gn : s.gens = #[])
    (oa : s.heap.get? a = some { cls := .type "list", data := .seq vs.toArray }) (iv : IntsAre vs ns) (sm : ns.length ≤ sizeLine) (rm : Room k callerA)
    (FG : ∀ base : Heap, FnG P w K mg base k fa fd [x] (spF P w K gA 1 F)) (hb : ∀ (s : Shared) (u : Value), BindsTo s fd ⟨[u], []⟩ [(x, u)])
    (hF : ∃ h, F [.frz (ns.map D.int)] [] = .ok (.bl true) h) :
    codeAny (model P w) callerA (.call (.ref fa) ⟨[.ref a], []⟩) (fun r s' => r = .ok (.ret (.bool true)) ∧ OldK s.heap s'.heap ∧ s'.os = s.os ∧ AllBare s'.gens) s := by
  obtain ⟨H, ⟨base, e0⟩, fz, on⟩ := bas_of (P := P) (w := w) KX gl bl bb nl gn oa iv sm
  obtain ⟨hc, hF⟩ := hF
  let g : Gh := ⟨K, gA, fun _ => False, []⟩
  have r0 : HRel P w g H [] := ⟨rfl, List.nodup_nil, (fun b z => by cases z), (fun _ _ z => z.elim), fun n b c z => by cases z⟩
  have nsR : ∀ ns : List Int, RelsS g H (ns.map D.int) (ns.map V.int) := fun ns => by
    induction ns with
    | nil => rfl
    | cons n ns ih => exact ⟨_, _, rfl, rfl, ih⟩
  have sp : spF P w K gA 1 F [.ref a] H (fun v _ => v = .bl true) (fun _ _ _ => False) :=
    ⟨g, [], [.frz (ns.map D.int)], rfl, rfl, r0, ⟨_, _, rfl, ⟨a, _, rfl, fz, nsR ns⟩, rfl⟩, rfl, by rw [hF]; exact fun _ _ _ _ v z => z⟩
  refine codeAny_mono ((FG base).run callerA [] s H ⟨[.ref a], []⟩ [.ref a] [.ref a] _ _ rfl rm e0 (hb s (.ref a)) (.cons rfl .nil) sp) fun res s' z => ?_
  cases res with
  | error e =>
    obtain ⟨_, _, _, _, _, _, _, _, _, _, _, _, n⟩ := (show L2.CX P w [] H s (fun _ _ _ => False) e s' from z)
    exact n.elim
  | ok fl => cases fl with
    | ret u =>
      obtain ⟨v, H', os, bare, un, hok, ru, q⟩ := z
      cases (show v = .bl true from q)
      cases (show u = Value.bool true from ru)
      refine ⟨rfl, .of_keep fun b o e => ?_, os, bare⟩
      cases q : H b with
      | none => exact un.keep b o e q (fun z => by cases z) (by simp)
      | some u =>
        obtain ⟨_, ⟨oz, z⟩⟩ := on b u q
        rw [z] at q
        have k1 := (e0.hok b _ q).1
        rw [e] at k1
        cases k1
        exact (hok b _ (un.frzs b _ _ q)).1
    | _ => exact False.elim z
/-- the end that a head leaves -/
theorem walk_fn {l : PySem.W.OpenLaw} {n k : Nat} {q : Program} {loose : List Str} {XP : (Str → Option Value) → Heap → Prop} {YP : World → Heap → Prop} {d : DefRec} {x : Str}
    (hn : l.most = some n) (hz : n ≤ sizeLine) (nodef : d.params.defaults = []) (rm : Room k callerA)
    (W : ∀ (w : World) (mg : Str → Option Value) (fa : Addr) (h : Heap), YP w h → h.Ns mainGlobals mg → mg d.name = some (.ref fa) →
      ∃ (K : PySem.W.Frag) (fd : FuncData) (gA : Nat → Option Addr) (F : List D → Cells → R D), K.In h ∧ (∀ (s : Shared) (u : Value), BindsTo s fd ⟨[u], []⟩ [(x, u)]) ∧ (∀ base : Heap, FnG l.prog w K mg base k fa fd [x] (spF l.prog w K gA 1 F)) ∧
        ∀ ns : List Int, ns.length ≤ n → ∃ h, F [.frz (ns.map D.int)] [] = .ok (.bl true) h) :
    PySem.W.WalkO q loose XP YP l.row.toRowW d [] (fun f vs => PySem.call f vs) := by
  refine Att.attach_call hn nodef fun w s₀ s mg mb fa o pm cd doc a vs ns G Y _ _ _ hmg oa iv hl gn => ?_
  obtain ⟨K, fd, gA, F, KX, hb, FG, hF⟩ := W w mg fa _ Y G.T.g hmg
  exact law_run KX G.T.g G.T.b G.T.builtins G.T.nolimit gn oa iv (Nat.le_trans hl hz) rm FG hb (hF ns hl)
end EV
/-! EV17: x[::-1], three names at once -/
namespace EV
open PySem L2 PySem.Spec PyProof.Rows
structure TgtN (X : Cx) (i : Nat) (x : Str) : Prop where
  nd : X.N.Nodup
  n : X.N[i]? = some x
  l : X.env.scope.names.lookup x = some .local
section
variable {X : Cx} {G : Gx} {g g' g0 : Gh} {H H' H0 : Hp} {h h' : Cells} {own : Nat → Option Addr} {env : Ev} {σ : L2.St} {e : Expr} {de : DE}
def dRevL (h : Cells) (d : D) : R D := match d with
  | .tup ds => .ok (.tup ds.reverse) h
  | d => match seqL h d with
    | some ds => .ok (.lst ds.reverse) h
    | none => .bad
def dRev (a : DE) : DE := fun fn env h => (a fn env h).bind fun d h1 => dRevL h1 d
/-! ### three names at once -/
def sPar3 (i j k : Nat) (a b c : DM) : DS := fun fn env h => (a fn env h).bind fun x h1 => (b fn env h1).bind fun y h2 => (c fn env h2).bind fun z h3 => match putIt i x env with
  | some env1 => match putIt j y env1 with
    | some env2 => match putIt k z env2 with
      | some env3 => .ok (.nx, env3) h3
      | none => .bad
    | none => .bad
  | none => .bad
/-- two items are not the same list -/
theorem it_apart {Hs : Hp} {g2 : Gh} {H2 : Hp} {x y : It'} {v w : V} {p : Addr} {own : Nat → Option Addr} {i j : Nat} (qv : IRel Hs g H x v) (qw : IRel H g2 H2 y w) (k1 : ∀ p, (∃ ds, y = .o ds) → w = .ref p → ∀ j, own j ≠ some p) :
    ∀ p, (∃ ds, y = .o ds) → w = .ref p → ∀ j, ownIt i x v own j ≠ some p := fun p hp ev j' hj' => by
  unfold ownIt at hj'
  split at hj'
  · cases x with
    | v d => cases hj'
    | o ds =>
      obtain ⟨p', xs, rfl, z2, z3, z4, z5, z6⟩ := qv
      cases hj'
      obtain ⟨ds2, e2'⟩ := hp
      subst e2'
      obtain ⟨p2, xs2, ew, y2, y3, y4, y5, y6⟩ := qw
      rw [ev] at ew
      cases ew
      rw [z2] at y6; cases y6
  · exact k1 p hp ev j' hj'
theorem IRel.base {Hs : Hp} {g1 : Gh} {H1 : Hp} {h1 : Cells} {y : It'} {w : V} (r : HRel X.prog X.w g H h) (e : Ext g H g1 H1) (r1 : HRel X.prog X.w g1 H1 h1) (q : IRel H1 g' H' y w) : IRel H g' H' y w := by
  cases y with
  | v d => exact q
  | o ds =>
    obtain ⟨p, xs, z1, z2, z3, z4, z5, z6⟩ := q
    exact ⟨p, xs, z1, z2, z3, z4, z5, e.back r r1 z6⟩
theorem par3_of {i j k : Nat} {a b c : DM} {Dn : Ends} (q : tS X G g0 H0 (sPar3 i j k a b c) Dn σ H) : tPar3 i j k (tCons (tM X G a) (tCons (tM X G b) (tCons (tM X G c) tNil))) Dn σ H := by
  obtain ⟨g, own, env, h, o, r, l, n, q⟩ := q
  refine ⟨g, own, env, h, o, r, l, (Post.stmt r n q).imp fun g1 H1 x h1 e1 r1 q1 v qv => ?_⟩
  have n1 := n.step e1
  have l1 := l.step r e1
  refine ⟨g1, own, env, h1, o.ext e1, r1, l1, (Post.stmt r1 n1 q1).imp fun g2 H2 y h2 e2 r2 q2 w qw => ?_⟩
  have n2 := n1.step e2
  have l2 := l1.step r1 e2
  refine ⟨g2, own, env, h2, (o.ext e1).ext e2, r2, l2, (Post.stmt r2 n2 q2).imp fun g3 H3 z h3 e3 r3 q3 u qu => ?_⟩
  have n3 := n2.step e3
  have l3 := l2.step r2 e3
  have qv3 := IRel.ext r1 (e2.trans e3) qv
  have qw3 := IRel.ext r2 e3 qw
  obtain ⟨f1, f2⟩ := par_step (env' := env) r n l l3 qv3
  obtain ⟨k1, k2⟩ := par_step (env' := env) r1 n1 l1 l3 qw3
  obtain ⟨m1, m2⟩ := par_step (env' := env) r2 n2 l2 l3 qu
  refine ⟨v, w, u, rfl, ?_⟩
  split at q3
  · rename_i env1 p1
    split at q3
    · rename_i env2 p2
      split at q3
      · rename_i env3 p3
        have la := putIt_ok l3 qv3 f1 p1
        have lb := putIt_ok la qw3 (it_apart (i := i) (j := i) (p := 0) qv qw k1) p2
        have lc := putIt_ok lb qu (it_apart (i := j) (j := j) (p := 0) qw qu (it_apart (i := i) (j := i) (p := 0) (IRel.ext r1 e2 qv) qu m1)) p3
        exact q3 g3 _ H3 _ (((o.ext e1).ext e2).ext e3) r3 lc ⟨n3.ext, ownIt_new (ownIt_new (ownIt_new n3.new f2) k2) m2⟩ (ExtS.refl _ _)
      · exact q3.elim
    · exact q3.elim
  · exact q3.elim
theorem s_par3 {i j m : Nat} {x y z : Str} {a b c : Expr} {da db dc : DM} {px py pz pt pos : Pos} {kt k2 pt2} (hc : X.calm = true) (ti : TgtN X i x) (tj : TgtN X j y) (tm : TgtN X m z) (hij : i ≠ j) (him : i ≠ m) (hjm : j ≠ m)
    (ha : PE X a (tM X G da)) (hb : PE X b (tM X G db)) (hd : PE X c (tM X G dc)) (sa : isStar a = false) (sb : isStar b = false) (sc : isStar c = false)
    (hw : swappedStores [.Tuple [.Name x px, .Name y py, .Name z pz] kt pt] (.Tuple [a, b, c] k2 pt2) X.env = pure (some [x, y, z])) :
    PS X (.Assign [.Tuple [.Name x px, .Name y py, .Name z pz] kt pt] (.Tuple [a, b, c] k2 pt2) pos) (tS X G g0 H0 (sPar3 i j m da db dc)) :=
  PS.imp (ps_par3 hc ti.nd ti.n tj.n tm.n hij him hjm ti.l tj.l tm.l (pa_cons ha (pa_cons hb (pa_cons hd pa_nil (star_cons sc)) (star_cons sb)) (star_cons sa)) hw rfl) fun _ _ _ q => par3_of q
end
end EV
/-! EV18: the rules as a printer writes them -/
namespace EV
open PySem L2
def dtB (a : DE) : DT := fun fn env h => asB (a fn env h)
def sFrzA (is : List Nat) (a : DS) : DS := fun fn env h => (a fn env h).bind fun x h1 => .ok (x.1, frzs is x.2) h1
structure GlOk (X : Cx) (x : Str) : Prop where
  g : Gl X x
  d : (x == ("__debug__" : Str)) = false
structure BltOk (X : Cx) (x : Str) (v : Value) : Prop where
  g : Gl X x
  m : X.mg x = none
  b : bootBuiltins x = some v
  n : x ≠ "__name__"
  d : (x == ("__debug__" : Str)) = false
section
variable {X : Cx} {G : Gx} {T : Pg} {k : Nat} {N : List Str} {sc : Scope} {F : Str → Bool} {x : Str} {i : Nat} {g g' g0 : Gh} {H H' H0 : Hp} {e a b : Expr} {es : List Expr} {da db dc de : DE} {dr dk : DA} {df di : DF} {pos pos' p p2 spos : Pos} {ta tb : DT} {st : Stmt} {ds : DS}
theorem Sc.glo (S : Sc X N sc F) (x : Str) (h : (glB sc x && !(x == ("__debug__" : Str))) = true) : GlOk X x := by
  simp only [Bool.and_eq_true, Bool.not_eq_true'] at h
  exact ⟨S.gl x h.1, h.2⟩
theorem XOk.blt (O : XOk X G T k) (S : Sc X N sc F) (x : Str) (v : Value) (hb : bootBuiltins x = some v) (h : (glB sc x && !(x == ("__debug__" : Str)) && T.free.elem x && !(x == ("__name__" : Str))) = true) : BltOk X x v := by
  simp only [Bool.and_eq_true, Bool.not_eq_true'] at h
  obtain ⟨⟨⟨h1, h2⟩, h3⟩, h4⟩ := h
  exact ⟨S.gl x h1, O.free x h3, hb, (fun z => by rw [z] at h4; simp at h4), h2⟩
theorem v_ (v : VarOk X i x) : PE X (.Name x pos) (tD X G (dVar i)) := s_var v.n v.v v.d v.c
theorem XOk.val (O : XOk X G T k) (S : GlOk X x) {d : D} (h : (x, d) ∈ T.vals) : PE X (.Name x pos) (tD X G (dC d)) := by
  obtain ⟨v, u, h1, h2, h3⟩ := O.vals _ h
  exact s_glob S.g h1 h2 S.d h3
theorem set_ (t : TgtOk X i x) (he : PE X e (tD X G de)) (hs : swapsWith e (some (.Name x pos')) pos.line X.env = pure false) : PS X (.Assign [.Name x pos'] e pos) (tS X G g0 H0 (sSet i de)) := s_set t.nd t.n t.l he hs t.f
theorem cmpT_ {op : CmpOp} {o : O2} (ho : OpR X (compareOp op) (rO2 X G o)) (ha : PE X a (tD X G da)) (hb : PE X b (tD X G db)) (hm : behindInMarks op b = false) : PT X (.Compare a [op] [b] pos) (tT X G (dtB (dOp2 o da db))) := s_cmpT ho ha hb hm
theorem chainT_ {op op' : CmpOp} {o o' : O2} {c : Expr} (ho : OpR X (compareOp op) (rO2 X G o)) (ho' : OpR X (compareOp op') (rO2 X G o')) (ha : PE X a (tD X G da)) (hb : PE X b (tD X G db)) (hc : PE X c (tD X G dc)) (hm : lastMarks [op, op'] [b, c] = false) :
    PT X (.Compare a [op, op'] [b, c] pos) (tT X G (dtB (dChain o o' da db dc))) := s_chainT ho ho' ha hb hc hm
theorem pts0_ : PTs X [] (tT X G dtYes) := ⟨fun pins s σ H Q I ⟨g, own, env, h, o, r, l, q⟩ => pts_nil.run pins s σ H Q I (Post.now r q _ rfl)⟩
theorem pts1_ (h : PT X e (tT X G ta)) : PTs X [e] (tT X G ta) := pts_one h
theorem call_ {n : Nat} {ks : List Str} {src : List Src} {dd : List D} {kws : List Keyword} (O : XOk X G T k) (g : GlOk X x) (C : CallOk X G x i n ks src dd) (ha : PA X es (tA X G dr)) (hk : PK X kws (tA X G dk)) (hn : kwNames kws = ks.map some) (hst : noStars es = true) (h0 : es = [] → dr = daNil) :
    PE X (.Call (.Name x p) es kws pos) (tD X G (dCall i n ks.length src dd dr dk)) := s_call C O.gu O.hx g.g g.d ha hk hn hst h0
theorem bl_ {id : String} {o : ON} (B : BltOk X x (.builtin id)) (hc : CallR X (.builtin id) (rON X G o)) (ha : PA X (e :: es) (tA X G dr)) (hs : noStars (e :: es) = true) : PE X (.Call (.Name x p) (e :: es) [] pos) (tD X G (dOpN o dr)) := s_callB hc B.g B.m B.b ha B.n B.d hs
theorem ty_ {id : String} {o : ON} (B : BltOk X x (.type id)) (hc : CallR X (.type id) (rON X G o)) (ha : PA X (e :: es) (tA X G dr)) (hs : noStars (e :: es) = true) : PE X (.Call (.Name x p) (e :: es) [] pos) (tD X G (dOpN o dr)) := s_callTy hc B.g B.m B.b ha B.n B.d hs
theorem listF_ {v : Value} (B : BltOk X "list" v) (ha : PA X [e] (tA X G dr)) (hs : isStar e = false) : PE X (.Call (.Name "list" p) [e] [] pos) (tF X G (dListF dr)) := s_listF B.g B.m ha hs
theorem BltOk.ty {t : Ty} (B : BltOk X x (.type t.name)) : PTyOk X x t := ⟨B.g, B.m, B.b, B.n, B.d⟩
theorem isi_ {v : Value} {t : Ty} {px : Pos} (B : BltOk X "isinstance" v) (he : PE X e (tD X G da)) (ht : PTyOk X x t) (hs : isStar e = false) : PE X (.Call (.Name "isinstance" p) [e, .Name x px] [] pos) (tD X G (dIsi da [t])) := s_isi B.g B.m he ht hs
theorem range1_ {v : Value} {tg : Expr} (B : BltOk X "range" v) (ha : PA X [b] (tA X G dr)) (hs : isStar b = false) : PI X tg (.Call (.Name "range" p) [b] [] pos) (tI X G (dRng1 dr)) := s_range1 B.g B.m ha hs
theorem g_ (t : TgtOk X i x) : PG X (.Name x pos) (tPat X G (.name i)) := s_gName t.nd t.n t.l t.f
theorem pgn_ (t : TgtOk X i x) : PG X (.Name x pos) (tPG X G g0 H0 (gName' i)) := s_pgName t.nd t.n t.l t.f
theorem pgi_ (v : VarOk X i x) (hb : PE X b (tD X G db)) (hsl : isSlice b = false) : PG X (.Subscript (.Name x p) b pos) (tPG X G g0 H0 (gIx i db)) := s_pgIx v.n v.v v.d v.c hb hsl
theorem for_ {tg iter : Expr} {bd : List Stmt} {pt : Pat} {body : DS} (O : XOk X G T k) (hi : PI X tg iter (tI X G di)) (hg : PG X tg (tPat X G pt)) (hb : PSs X bd (tS X G g0 H0 body)) (hs : ∀ x, foldedSetIterable iter X.env x = pure x) : PS X (.For tg iter bd [] pos) (tS X G g0 H0 (sFor pt di body)) := s_for O.po O.calm hi hg hb hs
theorem append_ {px apos cpos : Pos} (v : VarOk X i x) (he : PE X e (tD X G de)) (hst : isStar e = false) (hl : (apos.endLine == cpos.line) = true) :
    PS X (.Expr (.Call (.Attribute (.Name x px) "append" apos) [e] [] cpos) pos) (tS X G g0 H0 (sAppend i de)) := s_append v.n v.v v.d v.c he hst hl rfl
theorem Sc.tgn (S : Sc X N sc F) (i : Nat) (x : Str) (h : (sameB N[i]? x && lclB sc x) = true) : TgtN X i x := by
  simp only [Bool.and_eq_true] at h
  exact ⟨by rw [S.en]; exact S.nd, by rw [S.en]; exact sameB_ok h.1, S.lcl x h.2⟩
theorem Sc.ndX (S : Sc X N sc F) : X.N.Nodup := by rw [S.en]; exact S.nd
theorem Sc.blkOk (S : Sc X N sc F) {scope : Scope} {own' : List (Str × Nat)} (h : BlkOk N sc scope own') : BlkOk X.N X.env.scope scope own' := by rw [S.en, S.sc]; exact h
theorem par2_ {j : Nat} {y : Str} {dm dn : DM} {px py pt : Pos} {kt k2 pt2} (O : XOk X G T k) (ti : TgtN X i x) (tj : TgtN X j y) (hij : i ≠ j) (ha : PE X a (tM X G dm)) (hb : PE X b (tM X G dn)) (sa : isStar a = false) (sb : isStar b = false)
    (hw : swappedStores [.Tuple [.Name x px, .Name y py] kt pt] (.Tuple [a, b] k2 pt2) X.env = pure (some [x, y])) :
    PS X (.Assign [.Tuple [.Name x px, .Name y py] kt pt] (.Tuple [a, b] k2 pt2) pos) (tS X G g0 H0 (sPar2 i j dm dn)) := s_par2 O.calm ti.nd ti.n tj.n hij ti.l tj.l ha hb sa sb hw
/-- a slot's list let go behind a statement -/
theorem frzA_ {is : List Nat} (hs : PS X st (tS X G g0 H0 ds)) : PS X st (tS X G g0 H0 (sFrzA is ds)) := PS.imp hs fun Dn σ H q => by
  obtain ⟨g, own, env, h, o, r, l, n, q⟩ := q
  refine ⟨g, own, env, h, o, r, l, n, ?_⟩
  unfold sFrzA at q
  cases ed : ds G.fns env h with
  | bad => rw [ed] at q; exact q
  | exc z h' => rw [ed] at q; exact q
  | ok y h' =>
    rw [ed] at q
    obtain ⟨fl, env'⟩ := y
    intro g1 own1 H1 σ1 o1 r1 l1 n1 e1
    obtain ⟨g2, own2, o2, r2, l2, n2, e2⟩ := frzs_ok is r1 o1 l1 n1
    have z : FlE g2 σ1 H1 Dn fl := (show PostS X G g0 H0 g H (.ok (fl, frzs is env') h') Dn from q) g2 own2 H1 σ1 o2 r2 l2 n2 (e1.trans e2)
    cases fl with
    | rt d => exact fun v qv => z v (RelS.exts r1 e2 qv)
    | nx => exact z
    | bk => exact z
    | ct => exact z
end
end EV
/-! EV19: zip, enumerate of lists; what is never reached -/
namespace EV
open PySem L2
def stillL : D → Option (List D)
  | .lst ds => some ds
  | .frz ds => some ds
  | _ => none
def zipD : List D → Cells → R (List D) := fun ds h => match ds with
  | [.tup a, .tup b] => .ok (pairs a b) h
  | [x, y] => match stillL x, stillL y with
    | some a, some b => .ok (pairs a b) h
    | _, _ => .bad
  | _ => .bad
def dZip (da : DA) : DF := fun fn env h => (da fn env h).bind zipD
def numbered : Nat → List D → List D
  | _, [] => []
  | n, d :: ds => .tup [.int (n : Nat), d] :: numbered (n + 1) ds
def enumD : List D → Cells → R (List D) := fun ds h => match ds with
  | [x] => match stillL x with
    | some a => .ok (numbered 0 a) h
    | none => .bad
  | _ => .bad
def dEnum (da : DA) : DF := fun fn env h => (da fn env h).bind enumD
theorem numbered_len : ∀ (n : Nat) (ds : List D), (numbered n ds).length = ds.length
  | _, [] => rfl
  | n, d :: ds => by rw [numbered, List.length_cons, numbered_len (n + 1) ds, List.length_cons]
theorem numbered_get : ∀ {n : Nat} {ds : List D} {i : Nat} {d : D}, ds[i]? = some d → (numbered n ds)[i]? = some (.tup [.int ((n + i : Nat) : Int), d])
  | _, [], _, _, h => by simp at h
  | n, e :: ds, 0, d, h => by simp at h; subst h; rfl
  | n, e :: ds, i + 1, d, h => by
    rw [numbered]
    have z := numbered_get (n := n + 1) (ds := ds) (i := i) (by simpa using h)
    rw [List.getElem?_cons_succ, z]
    have e2 : n + 1 + i = n + (i + 1) := by omega
    rw [e2]
section
variable {X : Cx} {G : Gx} {g g' : Gh} {H H' : Hp} {h h' : Cells} {own : Nat → Option Addr} {env : Ev} {σ : L2.St} {ds es : List D} {xs ys : List V} {a b : Addr} {tg e e2 : Expr} {dr : DA} {x : Str} {v : Value} {p pos tpos : Pos} {elts : List Expr} {kk : Nat}
theorem still_ok (og : GOk X G g) (r : HRel X.prog X.w g H h) {d : D} {v : V} (q : RelT g H d v) (e : stillL d = some ds) : ∃ a xs, v = .ref a ∧ RelsS g H ds xs ∧ SqL X.K H a xs ∧ ∀ g' H', ExtS g H g' H' → SqL X.K H' a xs := by
  cases d with
  | lst es => cases e; exact lst_stands og q
  | frz es => cases e; exact frz_stands og r q
  | _ => cases e
theorem it_enum (r : HRel X.prog X.w g H h) (sx : ∀ g' H', ExtS g H g' H' → SqL X.K H' a xs) (qx : RelsS g H ds xs) : ItOk X (Ite X.K a) g H (numbered 0 ds) where
  goes := fun g' H' h' i hi e r' => by
    rw [numbered_len, qx.len] at hi
    exact ⟨xs, xs[i], sx g' H' e, by simp [hi]⟩
  stops := fun g' H' h' e r' => ⟨xs, sx g' H' e, by rw [numbered_len, qx.len]; exact Nat.le_refl _⟩
  yields := fun g' H' h' i x H'' hi e r' y => by
    obtain ⟨T, u, rfl, hT, rfl, y1⟩ := y
    obtain ⟨d, h1, h2⟩ := (RelsS.exts r e qx).getV (y1 xs (sx g' H' e))
    refine ⟨_, _, Ext.new r' hT, r'.new hT, numbered_get h1, ?_⟩
    rw [Nat.zero_add]
    exact Ext.pair r' hT rfl h2
def sBad : DS := fun _ _ _ => .bad
theorem badS_ {g0 : Gh} {H0 : Hp} {st : Stmt} : PS X st (tS X G g0 H0 sBad) := ⟨fun _ _ _ _ _ _ ⟨_, _, _, _, _, _, _, _, z⟩ => z.elim⟩
end
end EV
/-! EV20: comprehensions as a printer writes them -/
namespace EV
open PySem L2
theorem PTs.imp {X : Cx} {es : List Expr} {t t' : TT} (h : PTs X es t) (k : ∀ σ H Q, t' σ H Q → t σ H Q) : PTs X es t' := ⟨fun pins s σ H Q I q => h.run pins s σ H Q I (k σ H Q q)⟩
section
variable {X : Cx} {G : Gx} {T : Pg} {k : Nat} {N : List Str} {sc : Scope} {F : Str → Bool} {g0 : Gh} {H0 : Hp} {elt tg iter : Expr} {ifs : List Expr} {scope : Scope} {own' : List (Str × Nat)} {pos : Pos} {di : DF} {pt : Pat} {tt : DT} {te : DE}
theorem comp_ (O : XOk X G T k) (S : Sc X N sc F) (own' : List (Str × Nat)) (hi : PI X tg iter (tI X G di)) (ok : BlkOk N sc scope own') (hsl : ∀ i ∈ pt.slots, i ∈ own'.map (·.2))
    (hg : ∀ X1 : Cx, XOk X1 G.quiet T k → Sc X1 N (relS scope sc) (fun x => scope.names.lookup x == some .cell) → PG X1 tg (tPat X1 G.quiet pt))
    (ht : ∀ X1 : Cx, XOk X1 G.quiet T k → Sc X1 N (relS scope sc) (fun x => scope.names.lookup x == some .cell) → PTs X1 ifs (tT X1 G.quiet tt))
    (he : ∀ X1 : Cx, XOk X1 G.quiet T k → Sc X1 N (relS scope sc) (fun x => scope.names.lookup x == some .cell) → PE X1 elt (tD X1 G.quiet te))
    (hs : ∀ x, foldedSetIterable iter X.env x = pure x) : PE X (.ListComp elt [⟨tg, iter, ifs, 0⟩] scope pos) (tF X G (dComp (own'.map (·.2)) pt di tt te)) :=
  s_comp O.calm S.ndX hi (S.blkOk ok) hsl (fun s H C cl fp => PG.imp (hg (X.blk s H scope (compEnvC scope cl C X.env) fp) O.blk S.blk) fun v σ H Q ⟨g, own, env, h, d, env', o, r, l, p⟩ => ⟨g, own, env, h, d, env', ⟨o.K, o.gA⟩, r, l, p⟩) (fun s H C cl fp => PTs.imp (ht (X.blk s H scope (compEnvC scope cl C X.env) fp) O.blk S.blk) fun σ H Q ⟨g, own, env, h, o, r, l, p⟩ => ⟨g, own, env, h, ⟨o.K, o.gA⟩, r, l, p⟩) (fun s H C cl fp => PE.imp (he (X.blk s H scope (compEnvC scope cl C X.env) fp) O.blk S.blk) fun σ H Q ⟨g, own, env, h, o, r, l, p⟩ => ⟨g, own, env, h, ⟨o.K, o.gA⟩, r, l, p⟩) hs
theorem setComp_ {i : Nat} {y : Str} {py spos : Pos} (O : XOk X G T k) (S : Sc X N sc F) (t : TgtN X i y) (own' : List (Str × Nat)) (hl : (py.line == pos.line) = true) (hk : sc.kind = .function) (ha : (scope.names.any fun (n, k) => n == y && (k == .local || k == .cell)) = false)
    (hi : PI X tg iter (tI X G di)) (ok : BlkOk N sc scope own') (hsl : ∀ i ∈ pt.slots, i ∈ own'.map (·.2))
    (hg : ∀ X1 : Cx, XOk X1 G.quiet T k → Sc X1 N (relS scope sc) (fun x => scope.names.lookup x == some .cell) → PG X1 tg (tPat X1 G.quiet pt))
    (ht : ∀ X1 : Cx, XOk X1 G.quiet T k → Sc X1 N (relS scope sc) (fun x => scope.names.lookup x == some .cell) → PTs X1 ifs (tT X1 G.quiet tt))
    (he : ∀ X1 : Cx, XOk X1 G.quiet T k → Sc X1 N (relS scope sc) (fun x => scope.names.lookup x == some .cell) → PE X1 elt (tD X1 G.quiet te))
    (hs : ∀ x, foldedSetIterable iter X.env x = pure x) : PS X (.Assign [.Name y py] (.ListComp elt [⟨tg, iter, ifs, 0⟩] scope pos) spos) (tS X G g0 H0 (sOwn i (dComp (own'.map (·.2)) pt di tt te))) :=
  s_setComp O.calm S.ndX t.n t.l (sw_true (by rw [S.sc]; exact hk) t.l hl ha) hi (S.blkOk ok) hsl (fun s H C cl fp => PG.imp (hg (X.blk s H scope (compEnvC scope cl C X.env) fp) O.blk S.blk) fun v σ H Q ⟨g, own, env, h, d, env', o, r, l, p⟩ => ⟨g, own, env, h, d, env', ⟨o.K, o.gA⟩, r, l, p⟩) (fun s H C cl fp => PTs.imp (ht (X.blk s H scope (compEnvC scope cl C X.env) fp) O.blk S.blk) fun σ H Q ⟨g, own, env, h, o, r, l, p⟩ => ⟨g, own, env, h, ⟨o.K, o.gA⟩, r, l, p⟩) (fun s H C cl fp => PE.imp (he (X.blk s H scope (compEnvC scope cl C X.env) fp) O.blk S.blk) fun σ H Q ⟨g, own, env, h, o, r, l, p⟩ => ⟨g, own, env, h, ⟨o.K, o.gA⟩, r, l, p⟩) hs
end
end EV
/-! EV21: names at once as a printer writes them -/
namespace EV
open PySem L2
section
variable {X : Cx} {G : Gx} {T : Pg} {k : Nat} {N : List Str} {sc : Scope} {F : Str → Bool} {g0 : Gh} {H0 : Hp} {i j m : Nat} {x y z : Str} {a b c : Expr} {da db dc : DM} {px py pz pt pos : Pos} {kt k2 : Nat} {pt2 : Pos}
theorem Sc.fnk (S : Sc X N sc F) (hk : sc.kind = .function) : (X.env.blockKind != .function) = false := by
  have : X.env.scope.kind = .function := by rw [S.sc]; exact hk
  unfold Env.blockKind
  rw [this]; rfl
theorem TgtN.isL (t : TgtN X i x) : (X.env.kindOf x == some .local) = true := by
  have : X.env.kindOf x = some .local := t.l
  rw [this]; rfl
theorem not_star {es : List Expr} {f : Expr → Bool} (h : noStars es = true) (hf : ∀ e, f e = true → isStar e = true) : ¬ es.any f = true := fun z => by
  obtain ⟨e, he, z⟩ := List.any_eq_true.mp z
  have := List.all_eq_true.mp h e he
  rw [hf e z] at this
  cases this
theorem sw2_ (S : Sc X N sc F) (hk : sc.kind = .function) (ti : TgtN X i x) (tj : TgtN X j y) (hl : (py.line == px.line) = true) (hd : [x, y].eraseDups.length = 2) (hs : noStars [a, b] = true) (hf : [a, b].all (foldedForSure 8) = false) (hc : [a, b].all (constantsAlone 8) = false) :
    swappedStores [.Tuple [.Name x px, .Name y py] kt pt] (.Tuple [a, b] k2 pt2) X.env = pure (some [x, y]) := by
  unfold swappedStores
  simp only [S.fnk hk, hf, hc, ti.isL, tj.isL, hl, Expr.pos, List.head?_cons, Option.map_some, Option.getD_some, List.filterMap_cons, List.filterMap_nil, Bool.true_and, beq_self_eq_true, if_true, List.length_cons, List.length_nil, hd]
  rw [if_neg (by simp), if_neg (not_star hs (fun e z => by cases e <;> first | rfl | cases z)), if_neg (by simp [hd])]
  rfl
theorem sw3_ (S : Sc X N sc F) (hk : sc.kind = .function) (ti : TgtN X i x) (tj : TgtN X j y) (tm : TgtN X m z) (hl : (py.line == px.line) = true) (hl2 : (pz.line == px.line) = true) (hd : [x, y, z].eraseDups.length = 3) (hs : noStars [a, b, c] = true) (hf : [a, b, c].all (foldedForSure 8) = false) (hc : [a, b, c].all (constantsAlone 8) = false) :
    swappedStores [.Tuple [.Name x px, .Name y py, .Name z pz] kt pt] (.Tuple [a, b, c] k2 pt2) X.env = pure (some [x, y, z]) := by
  unfold swappedStores
  simp only [S.fnk hk, hf, hc, ti.isL, tj.isL, tm.isL, hl, hl2, Expr.pos, List.head?_cons, Option.map_some, Option.getD_some, List.filterMap_cons, List.filterMap_nil, Bool.true_and, beq_self_eq_true, if_true, List.length_cons, List.length_nil, hd]
  rw [if_neg (by simp), if_neg (not_star hs (fun e z => by cases e <;> first | rfl | cases z)), if_neg (by simp [hd])]
  rfl
theorem par2s_ (O : XOk X G T k) (S : Sc X N sc F) (hk : sc.kind = .function) (ti : TgtN X i x) (tj : TgtN X j y) (hij : i ≠ j) (ha : PE X a (tM X G da)) (hb : PE X b (tM X G db)) (sa : isStar a = false) (sb : isStar b = false)
    (hl : (py.line == px.line) = true) (hd : [x, y].eraseDups.length = 2) (hf : [a, b].all (foldedForSure 8) = false) (hc : [a, b].all (constantsAlone 8) = false) :
    PS X (.Assign [.Tuple [.Name x px, .Name y py] kt pt] (.Tuple [a, b] k2 pt2) pos) (tS X G g0 H0 (sPar2 i j da db)) :=
  par2_ O ti tj hij ha hb sa sb (sw2_ S hk ti tj hl hd (by simp [noStars, sa, sb]) hf hc)
theorem par3s_ (O : XOk X G T k) (S : Sc X N sc F) (hk : sc.kind = .function) (ti : TgtN X i x) (tj : TgtN X j y) (tm : TgtN X m z) (hij : i ≠ j) (him : i ≠ m) (hjm : j ≠ m) (ha : PE X a (tM X G da)) (hb : PE X b (tM X G db)) (hc' : PE X c (tM X G dc)) (sa : isStar a = false) (sb : isStar b = false) (ss : isStar c = false)
    (hl : (py.line == px.line) = true) (hl2 : (pz.line == px.line) = true) (hd : [x, y, z].eraseDups.length = 3) (hf : [a, b, c].all (foldedForSure 8) = false) (hc : [a, b, c].all (constantsAlone 8) = false) :
    PS X (.Assign [.Tuple [.Name x px, .Name y py, .Name z pz] kt pt] (.Tuple [a, b, c] k2 pt2) pos) (tS X G g0 H0 (sPar3 i j m da db dc)) :=
  s_par3 O.calm ti tj tm hij him hjm ha hb hc' sa sb ss (sw3_ S hk ti tj tm hl hl2 hd (by simp [noStars, sa, sb, ss]) hf hc)
end
end EV
/-! EV22: what the top has written, from a head -/
namespace EV
open PySem L2
open PySem.Spec PyProof.Rows
def FD.he (d : FD) : He.DefD := ⟨(d.gn, d.me), d.nm, d.qn, defArgs d.st, defBody d.st, defScope d.st, [], []⟩
def faVal (p : Str × D) : List He.Fa := match p.2 with
  | .int i => [.int p.1 i]
  | .str s => [.str p.1 s]
  | _ => [.glo p.1, .free p.1]
def faDef (d : FD) : List He.Fa := match d.me with
  | none => [.glo d.gn]
  | some m => [.glo d.gn, .meth d.gn m]
def faCls (T : Pg) (i : Nat) (x : Str) : List He.Fa := [.glo x, .cls x, .mkr x] ++ (T.attrs.filter fun p => p.1 == i).map fun p => .noat x p.2
def faOf (T : Pg) : List He.Fa := T.defs.flatMap faDef ++ (T.free.map .free ++ (T.vals.flatMap faVal ++ T.cls.flatMap fun p => faCls T p.1 p.2))
def gAof (T : Pg) (K : PySem.W.Frag) (i : Nat) : Option Addr := (T.cls.lookup i).map (He.ga K)
theorem lookup_mem {i : Nat} {x : Str} : ∀ {xs : List (Nat × Str)}, xs.lookup i = some x → (i, x) ∈ xs
  | [], h => by simp at h
  | (j, y) :: xs, h => by
    rw [List.lookup_cons] at h
    split at h
    · rename_i e
      cases h
      rw [beq_iff_eq.mp e]; exact .head _
    · exact .tail _ (lookup_mem h)
def fnOf (T : Pg) : List He.DefD := T.defs.map FD.he
theorem txt_of {T : Pg} {K : PySem.W.Frag} {h : Heap} {mg : Str → Option Value} (X : K.In h) (G : h.Ns mainGlobals mg) (c : He.SaysD (faOf T) (EV.fnOf T) K) : TxtOk K mg (gAof T K) T where
  defs := fun i d hd => by
    have m := List.mem_of_getElem? hd
    obtain ⟨fd, F⟩ := He.SaysD.defs c (d := d.he) (List.mem_map.mpr ⟨d, m, rfl⟩)
    have mem : ∀ f ∈ faDef d, f.ok K = true := fun f hf => c.facts (List.mem_append_left _ (List.mem_flatMap.mpr ⟨d, m, hf⟩))
    refine ⟨_, fd, ?_, F⟩
    unfold AtF
    show match d.me with
      | none => mg d.gn = some (.ref (He.fAd K (d.gn, d.me)))
      | some m => ∃ C, mg d.gn = some (.ref C) ∧ Meth K C m (He.fAd K (d.gn, d.me))
    unfold faDef at mem
    cases e : d.me with
    | none =>
      rw [e] at mem
      exact He.glo_ok X G (mem _ (.head _))
    | some q =>
      rw [e] at mem
      exact ⟨_, He.glo_ok X G (mem _ (.head _)), He.meth_ok (mem _ (.tail _ (.head _)))⟩
  cls := by
    have mem : ∀ {i : Nat} {x : Str}, T.cls.lookup i = some x → ∀ f ∈ faCls T i x, f.ok K = true := fun {i x} h f hf => c.facts (List.mem_append_right _ (List.mem_append_right _ (List.mem_append_right _ (List.mem_flatMap.mpr ⟨(i, x), lookup_mem h, hf⟩))))
    refine ⟨fun i x h => ⟨He.ga K x, _, He.glo_ok X G (mem h _ (.head _)), by unfold gAof; rw [h]; rfl, He.cls_ok (mem h _ (.tail _ (.head _))), He.mkr_ok (mem h _ (.tail _ (.tail _ (.head _))))⟩, fun p hp C hC => ?_⟩
    unfold gAof at hC
    obtain ⟨x, hx, rfl⟩ := Option.map_eq_some_iff.mp hC
    refine He.noat_ok (mem hx _ (List.mem_append_right _ (List.mem_map.mpr ⟨p, ?_, rfl⟩)))
    rw [List.mem_filter]
    exact ⟨hp, by simp⟩
  free := fun x hx => He.free_ok X G (c.facts (f := .free x) (List.mem_append_right _ (List.mem_append_left _ (List.mem_map.mpr ⟨x, by simpa using hx, rfl⟩))))
  vals := fun p hp => by
    have mem : ∀ f ∈ faVal p, f.ok K = true := fun f hf => c.facts (List.mem_append_right _ (List.mem_append_right _ (List.mem_append_left _ (List.mem_flatMap.mpr ⟨p, hp, hf⟩))))
    obtain ⟨x, d⟩ := p
    have bad : ∀ f ∈ faVal (x, d), f.ok K = true := mem
    cases d with
    | int i =>
      obtain ⟨t, e⟩ := He.int_ok X G (mem (.int x i) (.head _))
      exact ⟨.int i, _, e, ⟨t, rfl⟩, fun _ _ _ _ => rfl⟩
    | str s =>
      obtain ⟨t, e⟩ := He.str_ok X G (mem (.str x s) (.head _))
      exact ⟨.str s, _, e, ⟨t, rfl⟩, fun _ _ _ _ => rfl⟩
    | _ =>
      have e1 := He.glo_ok X G (mem (.glo x) (.head _))
      have e2 := He.free_ok X G (mem (.free x) (.tail _ (.head _)))
      rw [e1] at e2
      cases e2
/-- a law's end, from the head's facts -/
theorem walk_law {l : PySem.W.OpenLaw} {n k : Nat} {q : Program} {loose : List Str} {XP : (Str → Option Value) → Heap → Prop} {d : DefRec} {T : Pg} (i : Nat) (L : FD)
    (hn : l.most = some n) (hz : n ≤ sizeLine) (nodef : d.params.defaults = []) (rm : Room k callerA) (hi : T.defs[i]? = some L) (hd : d.name = L.gn) (hp : L.ps = [("script" : Str)])
    (B : ∀ (i : Nat) (d : FD), T.defs[i]? = some d → BodyOk T d)
    (hb : ∀ (kV doc pm : Value) (an : Option Addr) (cdv ct : Value) (us : List Value), us.length = 1 → bindArgs (PySem.W.fnOf L.nm L.qn (defArgs L.st) (defBody L.st) (defScope L.st) .none kV doc pm an cdv ct) ⟨us, []⟩ = pure ([("script" : Str)].zip us))
    (main : ∀ ns : List Int, ns.length ≤ n → ∃ h, fnsOf T.defs k i [.frz (ns.map D.int)] [] = .ok (.bl true) h) (hme : L.me = none := by rfl) :
    PySem.W.WalkO q loose XP (fun _ h => ∃ K : PySem.W.Frag, K.In h ∧ He.SaysD (faOf T) (EV.fnOf T) K) l.row.toRowW d [] (fun f vs => PySem.call f vs) := by
  refine walk_fn (n := n) (k := k) (x := "script") hn hz nodef rm fun w mg fa h Y G hmg => ?_
  obtain ⟨K, KX, c⟩ := Y
  have TO := txt_of KX G c
  obtain ⟨f, fd, m, F⟩ := TO.defs i L hi
  rw [hd, m.glo hme] at hmg
  cases hmg
  refine ⟨K, fd, gAof T K, fnsOf T.defs k i, KX, fun s u => F.bindsA (ps := [("script" : Str)]) (fun kV doc pm an cdv ct us hl => hb kV doc pm an cdv ct us hl) s [u] rfl, fun base => ?_, main⟩
  have z := all_fn (P := l.prog) (w := w) (base := base) TO B k i L hi _ fd m F
  rw [hp] at z
  exact z
end EV
/-! EV25: enumerate over tuples -/
namespace EV
open PySem L2 PySem.Spec PyProof.Rows
open AutoSeq1 (wpAny_loadPart')
theorem new_enumT (l : Addr) (items : Array Value) (n : Nat) (dct : Option Addr) (sl : Array (Option Value)) :
    Meets (Builtin.«enumerate.__new__» ⟨[.type "enumerate", .ref l], []⟩) (fun _ R s => s.heap.get? l = some { cls := .type "tuple", dict := dct, data := .seq items n, slots := sl } ∧
      R (.ok (.ret (.ref (s.heap.push { cls := .type "tuple_iterator", data := .fields #[.ref l, .int 0 0] }).objs.size)))
        { s with heap := (s.heap.push { cls := .type "tuple_iterator", data := .fields #[.ref l, .int 0 0] }).push { cls := .type "enumerate", data := .fields #[.none, .bool false, .ref s.heap.objs.size, rawInt 0, .none, .none] } }) :=
  .of_wp fun prog w A R s h => by
    obtain ⟨hp, g, d, tk, os⟩ := s; obtain ⟨hl, h⟩ := h
    have sb := sub_enumerate
    have isT : Heap.IsTuple (Shared.heap ⟨hp, g, d, tk, os⟩) l items := ⟨_, hl, rfl, n, rfl⟩
    wp_walk using wpAny_loadPart' hl
    refine wpAny_stack_any fun st => wpAny_pure ?_
    split
    · rename_i c _ _ _ _ _
      cases (c == Value.type "enumerate") <;> (wp_walk using wpAny_loadPart' hl, wpAny_pyIter_tuple isT; exact ⟨_, rfl, h⟩)
    · wp_walk using wpAny_loadPart' hl, wpAny_pyIter_tuple isT
      exact ⟨_, rfl, h⟩
section
variable {prog : Program} {w : World} {A : Around} {E : Value → Shared → Prop} {s : Shared}
theorem call_enumT {l : Addr} {items : Array Value} {Q : Value → Shared → Prop} (ht : IsTup s.heap l items)
    (h : ∀ h', IsEnum h' (s.heap.objs.size + 1) s.heap.objs.size 0 .none → h'.IsTupleIter s.heap.objs.size l 0 → h'.objs.size = s.heap.objs.size + 2 →
      (∀ b o, s.heap.get? b = some o → h'.get? b = some o) → Q (.ref (s.heap.objs.size + 1)) { s with heap := h' }) :
    wpAny (model prog w) A (call (.type "enumerate") [.ref l]) Q E s := by
  obtain ⟨⟨c, dct, dt, sl⟩, hl, hc, n, hd⟩ := ht
  obtain rfl : c = .type "tuple" := hc
  obtain rfl : dt = .seq items n := hd
  refine callType_new F.called_enumerate (by decide) (F.typeCall_enumerate_1 _) (F.newCall_enumerate_1 _) (fun obj => F.args_object_init_2 obj _) F.entry_enumerate_new (new_enumT l items n dct sl) ⟨hl, ?_⟩
  have sz : (s.heap.push { cls := .type "tuple_iterator", data := .fields #[.ref l, .int 0 0] }).objs.size = s.heap.objs.size + 1 := Heap.size_push ..
  show _ ∧ _
  rw [sz]
  have en : IsEnum ((s.heap.push { cls := .type "tuple_iterator", data := .fields #[.ref l, .int 0 0] }).push
      { cls := .type "enumerate", data := .fields #[.none, .bool false, .ref s.heap.objs.size, rawInt 0, .none, .none] }) (s.heap.objs.size + 1) s.heap.objs.size 0 .none := by
    have z := Heap.get?_push_size (s.heap.push { cls := .type "tuple_iterator", data := .fields #[.ref l, .int 0 0] }) (o := { cls := .type "enumerate", data := .fields #[.none, .bool false, .ref s.heap.objs.size, rawInt 0, .none, .none] }) rfl
    rw [sz] at z; exact z
  exact ⟨⟨_, en, rfl⟩, h _ en ⟨_, Heap.get?_push_of_some _ (Heap.get?_push_size _ rfl), rfl, rfl⟩ (by rw [Heap.size_push, sz]) fun b o x => Heap.get?_push_of_some _ (Heap.get?_push_of_some _ x)⟩
end
def IteT (K : PySem.W.Frag) (a : Addr) : It :=
  ⟨fun i H => ∃ (xs : List V) (x : V), SqT K H a xs ∧ xs[i]? = some x, fun i H v H' => ∃ T x, v = .ref T ∧ H T = none ∧ H' = upd H T (.tup [.int (i : Nat), x]) ∧ ∀ xs, SqT K H a xs → xs[i]? = some x, fun i H => ∃ xs : List V, SqT K H a xs ∧ xs.length = i⟩
theorem turn_enumT {P : Program} {w : World} {K : PySem.W.Frag} {elts : List Expr} {kk : Nat} {tpos : Pos} (a e it : Addr) :
    Turn P w K (.Tuple elts kk tpos) (IteT K a) [e, it] e (fun i h => (∃ old, IsEnum h e it ((i : Nat) : Int) old) ∧ h.IsTupleIter it a i ∧ e ≠ it) where
  mem := by simp
  obj := fun i h st b hb => by
    obtain ⟨⟨old, he⟩, ⟨o, ho, hc, hd⟩, _⟩ := st
    have e' : b = e ∨ b = it := by simpa using hb
    rcases e' with z | z
    · rw [z]; exact ⟨_, he, fun v q => nomatch q⟩
    · rw [z]; exact ⟨o, ho, fun v q => by rw [hd] at q; cases q⟩
  keep := fun i h h' st k => let ⟨⟨old, he⟩, hi, hne⟩ := st; ⟨⟨old, k e (by simp) _ he⟩, hi.at fun o q => k it (by simp) o q, hne⟩
  item := by
    intro X hP hw hK hc i pins s σ H E I hf st hg
    subst hP hw hK
    obtain ⟨⟨old, he⟩, hit, hne⟩ := st
    obtain ⟨xs, x, hq, hx⟩ := hg
    obtain ⟨its, rv, p, hz⟩ := I.tuple hq
    obtain ⟨u, hu, ru⟩ := rv.get hx
    have hel : e < s.heap.objs.size := Heap.lt_size he
    have hil : it < s.heap.objs.size := by obtain ⟨_, q, _⟩ := hit; exact Heap.lt_size q
    have tu : s.heap.IsTuple a its.toArray := p
    have nit : a ≠ it := fun z => by
      obtain ⟨o1, h1, c1, _⟩ := p
      obtain ⟨o2, h2, c2, _⟩ := hit
      rw [z, h2] at h1; cases h1
      rw [c1] at c2; exact absurd (Value.type.inj c2) (by decide)
    have nie : a ≠ e := fun z => by
      obtain ⟨o1, h1, c1, _⟩ := p
      rw [z, he] at h1; cases h1
      exact absurd (Value.type.inj c1) (by decide)
    have hil2 : i < its.toArray.size := (Array.getElem?_eq_some_iff.mp (show its.toArray[i]? = some u by simpa using hu)).1
    refine wpAny_pyNext_enum_itemD (Draws.tuple (prog := X.prog) (w := X.w) (A := X.A.in1) (I.ok.hd hc) it a nit its.toArray) he ⟨hit, tu⟩ hil2 hne (by simp; exact ⟨hne, fun z => nie z.symm⟩) fun y h' tk hy ho st' hT hsz hk => ?_
    have ey : y = u := by
      have z : its.toArray[i]? = some u := by simpa using hu
      rw [z] at hy; exact (Option.some.inj hy).symm
    subst ey
    obtain ⟨hit', tu'⟩ := st'
    refine ⟨_, rfl, wpAny_letOwnedTupleGo_enum (s := { s with heap := h', toks := tk + 1 }) ho fun h'' he' sb => ?_⟩
    have hT2 : h''.get? s.heap.objs.size = some { cls := .type "tuple", data := .seq #[.int i tk, y] } := (sb.2 _ (Nat.ne_of_gt hel)).trans hT
    have new : ObjOk X.prog X.w (upd H s.heap.objs.size (.tup [.int (i : Nat), x])) h'' s.heap.objs.size (.tup [.int (i : Nat), x]) :=
      ⟨by show 2 ≤ sizeLine; decide, [.int i tk, y], .cons ⟨_, rfl⟩ (.cons ru .nil), ⟨_, hT2, rfl, _, rfl⟩⟩
    have I1 : Inv X pins σ (upd H s.heap.objs.size (.tup [.int (i : Nat), x])) { s with heap := h'', toks := tk + 1 } :=
      I.turnedNew (ch := [e, it]) (fun b ob hb q => (sb.2 b (fun z => hb (by simp [z]))).trans (hk b ob (fun z => hb (by simp [z])) (fun z => hb (by simp [z])) q)) hf (Nat.le_refl _) new
    refine ⟨.ref s.heap.objs.size, _, I1, rfl, ⟨_, x, rfl, I.hok.fresh (Nat.le_refl _), rfl, fun ys hy => by rw [I.tuple_inj hy hq]; exact hx⟩, ⟨⟨y, ?_⟩, hit'.at fun o q => (sb.2 it (Ne.symm hne)).trans q, hne⟩, fun b hb => ?_⟩
    · rw [show ((i + 1 : Nat) : Int) = (i : Int) + 1 by omega]; exact he'
    · have hb' : b < s.heap.objs.size := by
        have e' : b = e ∨ b = it := by simpa using hb
        rcases e' with z | z
        · rw [z]; exact hel
        · rw [z]; exact hil
      rw [upd_ne (Nat.ne_of_lt hb')]
      exact (hf b hb).1
  done := by
    intro X hP hw hK hc i pins s σ H E I hf st hg
    subst hP hw hK
    obtain ⟨⟨old, he⟩, hit, hne⟩ := st
    obtain ⟨xs, hq, hx⟩ := hg
    obtain ⟨its, rv, p, hz⟩ := I.tuple hq
    obtain ⟨f0, f1, f2, f3, f4, f5⟩ := hf it (by simp)
    have hl := rv.length
    have nit : a ≠ it := fun z => by
      obtain ⟨o1, h1, c1, _⟩ := p
      obtain ⟨o2, h2, c2, _⟩ := hit
      rw [z, h2] at h1; cases h1
      rw [c1] at c2; exact absurd (Value.type.inj c2) (by decide)
    have ei : its.toArray.size = i := by rw [List.size_toArray, ← hl]; exact hx
    have st : (fun (i : Nat) (h : Heap) => h.IsTupleIter it a i ∧ h.IsTuple a its.toArray) its.toArray.size s.heap := ⟨by rw [ei]; exact hit, p⟩
    exact wpAny_pyNext_enum_endD (Draws.tuple (prog := X.prog) (w := X.w) (A := X.A.in1) (I.ok.hd hc) it a nit its.toArray) he st fun h' eb => ⟨rfl, I.turned (t' := s.toks) (fun b o hb q => eb b o hb q) f0 f1 f3 f4 f5⟩
  self := fun A i s Q E st h => let ⟨⟨_, he⟩, _⟩ := st; wpAny_pyIter_enum he h
def iEnumA (K : PySem.W.Frag) (ta : TA) : TI := fun σ H R => ta σ H fun vs H1 => ∃ a xs, vs = [.ref a] ∧ ((SqL K H1 a xs ∧ R (Ite K a) H1) ∨ (SqT K H1 a xs ∧ R (IteT K a) H1))
theorem pi_enumA {X : Cx} {e : Expr} {ta : TA} {p pos tpos : Pos} {elts : List Expr} {kk : Nat} (hg : Gl X "enumerate") (hm : X.mg "enumerate" = none) (ha : PA X [e] ta) (hs : starEach [e] X.env = [(false, eval e X.env)]) :
    PI X (.Tuple elts kk tpos) (.Call (.Name "enumerate" p) [e] [] pos) (iEnumA X.K ta) := by
  refine ⟨fun pins s σ H R I h => Call_ (ld_blt I hg hm PyProof.Rows.boot_enumerate (PyProof.Rows.callWith_type1 (thn (ha.run pos pins s σ H _ I h) fun us s1 ⟨vs, H1, I1, r1, q1⟩ => ?_) hs rfl))⟩
  obtain ⟨a, xs, ex, q1⟩ := q1
  subst ex
  cases r1 with
  | cons r rr =>
    cases rr
    cases r
    have two : ∀ b, b ∈ [s1.heap.objs.size + 1, s1.heap.objs.size] → FpOk X pins H1 b := fun b hb => by
      have le : s1.heap.objs.size ≤ b := by
        rcases (show b = s1.heap.objs.size + 1 ∨ b = s1.heap.objs.size by simpa using hb) with z | z
        · rw [z]; exact Nat.le_add_right _ _
        · rw [z]; exact Nat.le_refl _
      exact I1.fpOk le (I1.hok.fresh le)
    rcases q1 with ⟨hq, q⟩ | ⟨hq, q⟩
    · obtain ⟨its, rv, p', hz⟩ := I1.list hq
      refine call_enumerate_list p'.isList fun h' he hit hsz hk => wpAny_pyIter_enum he ?_
      exact ⟨s1.heap.objs.size + 1, [s1.heap.objs.size + 1, s1.heap.objs.size], _, _, H1, rfl, I1.kept (t' := s1.toks) hk, turn_enum a (s1.heap.objs.size + 1) s1.heap.objs.size, ⟨⟨.none, he⟩, hit, Nat.succ_ne_self _⟩, two, q⟩
    · obtain ⟨its, rv, p', hz⟩ := I1.tuple hq
      refine call_enumT p' fun h' he hit hsz hk => wpAny_pyIter_enum he ?_
      exact ⟨s1.heap.objs.size + 1, [s1.heap.objs.size + 1, s1.heap.objs.size], _, _, H1, rfl, I1.kept (t' := s1.toks) hk, turn_enumT a (s1.heap.objs.size + 1) s1.heap.objs.size, ⟨⟨.none, he⟩, hit, Nat.succ_ne_self _⟩, two, q⟩
section
variable {X : Cx} {G : Gx} {g g' : Gh} {H H' : Hp} {h h' : Cells} {ds : List D} {xs : List V} {a : Addr} {e : Expr} {dr : DA} {v : Value} {p pos tpos : Pos} {elts : List Expr} {kk : Nat}
theorem it_enumT (r : HRel X.prog X.w g H h) (og : GOk X G g) (tx : SqT X.K H a xs) (qx : RelsS g H ds xs) : ItOk X (IteT X.K a) g H (numbered 0 ds) := by
  have st : ∀ g' H', ExtS g H g' H' → SqT X.K H' a xs := fun g' H' e => by
    have z := SqT.exts r e (by rw [og.K]; exact tx)
    rw [e.K, og.K] at z
    exact z
  exact {
    goes := fun g' H' h' i hi e r' => by
      rw [numbered_len, qx.len] at hi
      exact ⟨xs, xs[i], st g' H' e, by simp [hi]⟩
    stops := fun g' H' h' e r' => ⟨xs, st g' H' e, by rw [numbered_len, qx.len]⟩
    yields := fun g' H' h' i x H'' hi e r' y => by
      obtain ⟨T, u, rfl, hT, rfl, y1⟩ := y
      obtain ⟨d, h1, h2⟩ := (RelsS.exts r e qx).getV (y1 xs (st g' H' e))
      refine ⟨_, _, Ext.new r' hT, r'.new hT, numbered_get h1, ?_⟩
      rw [Nat.zero_add]
      exact Ext.pair r' hT rfl h2 }
def enumA : List D → Cells → R (List D) := fun ds h => match ds with
  | [.tup a] => .ok (numbered 0 a) h
  | [x] => match stillL x with
    | some a => .ok (numbered 0 a) h
    | none => .bad
  | _ => .bad
def dEnumA (da : DA) : DF := fun fn env h => (da fn env h).bind enumA
theorem enumA_ (B : BltOk X "enumerate" v) (ha : PA X [e] (tA X G dr)) (hs : isStar e = false) : PI X (.Tuple elts kk tpos) (.Call (.Name "enumerate" p) [e] [] pos) (tI X G (dEnumA dr)) :=
  PI.imp (pi_enumA B.g B.m ha (by rw [star_cons hs]; rfl)) fun σ H R ⟨g, own, env, h, o, r, l, q⟩ => ⟨g, own, env, h, o, r, l, (Post.bind q).imp fun g1 H1 ds h1 e1 r1 q1 vs qv => by
    have o1 := o.ext e1
    unfold enumA at q1
    split at q1
    · obtain ⟨y, rfl, z1⟩ := rel1 qv
      obtain ⟨a, xs, rfl, w1, w2⟩ := tup_ok o1 z1
      exact ⟨a, xs, rfl, .inr ⟨w1, Post.now r1 q1 _ (it_enumT r1 o1 w1 w2)⟩⟩
    · split at q1
      · rename_i a1 s1
        obtain ⟨y, rfl, z1⟩ := rel1 qv
        obtain ⟨a, xs, rfl, w1, w2, w3⟩ := still_ok o1 r1 z1 s1
        exact ⟨a, xs, rfl, .inl ⟨w2, Post.now r1 q1 _ (it_enum r1 w3 w1)⟩⟩
      · exact q1.elim
    · exact q1.elim⟩
end
end EV
/-! EV26: x[k] op= e on a slot's list; [..] * n as a new list; xs + ys, slices as new lists -/
namespace EV
open PySem L2
section
variable {X : Cx} {G : Gx} {g g' g0 : Gh} {H H' H0 : Hp} {h h' : Cells} {own : Nat → Option Addr} {env : Ev} {σ : L2.St} {x : Str} {i : Nat} {a b e : Expr} {da db de : DE} {df : DF} {dr : DA} {pos sp px : Pos} {es : List Expr}
def dF2 (o : D → D → Cells → R (List D)) (da db : DE) : DF := fun fn env h => (da fn env h).bind fun x h1 => (db fn env h1).bind fun y h2 => o x y h2
end
end EV
/-! EV27: stores that are not swapped -/
namespace EV
open PySem L2
section
variable {X : Cx} {N : List Str} {sc : Scope} {F : Str → Bool} {ts vs : List Expr} {k k2 : Nat} {p p2 : Pos}
def plainT (sc : Scope) (t : Expr) : Bool := match t with
  | .Name id _ => lclB sc id
  | _ => false
theorem fm_len {α β : Type} {f : α → Option β} {q : α → Bool} (hq : ∀ a, (f a).isSome = true → q a = true) : ∀ {l : List α}, l.all q = false → (l.filterMap f).length < l.length
  | [], h => by cases h
  | a :: l, h => by
    rw [List.filterMap_cons]
    cases e : f a with
    | none => simp only [List.length_cons]; exact Nat.lt_succ_of_le (List.length_filterMap_le _ _)
    | some b =>
      have z := hq a (by rw [e]; rfl)
      rw [List.all_cons, z, Bool.true_and] at h
      have := fm_len hq h
      simp only [List.length_cons]
      omega
theorem sw_no (S : Sc X N sc F) (h : ts.all (plainT sc) = false) : swappedStores [.Tuple ts k p] (.Tuple vs k2 p2) X.env = pure none := by
  unfold swappedStores
  simp only
  split
  · rfl
  · split
    · rfl
    · rw [if_pos]
      rw [Bool.or_eq_true]
      refine .inl ?_
      have z := fm_len (f := fun t => match t with
        | .Name id pos => if (X.env.kindOf id == some .local && pos.line == (ts.head?.map (·.pos.line)).getD 0) = true then some id else none
        | _ => none) (q := plainT sc) (fun a ha => ?_) h
      · simp only [bne_iff_ne, ne_eq]
        intro e
        exact absurd e (Nat.ne_of_lt z)
      · cases a <;> first | (simp at ha; done) | skip
        rename_i id pos
        simp only at ha
        split at ha
        · rename_i hz
          simp only [Bool.and_eq_true] at hz
          have : X.env.kindOf id = some .local := by
            have := hz.1
            cases q : X.env.kindOf id with
            | none => rw [q] at this; cases this
            | some v => rw [q] at this; cases v <;> first | rfl | cases this
          have : sc.names.lookup id = some .local := by rw [← S.sc]; exact this
          simp [plainT, lclB, this]
        · cases ha
end
end EV
/-! EV30: in, not in; max, min of one list -/
namespace EV
open PySem L2
/-- what stands in a list, a tuple -/
def inPd (h : Cells) (x y : D) : Option Bool := match pdH h x, pdH h y with
  | some p, some (.list qs) => if SeqAt.shaped p && SeqAt.shaped (.list qs) then some (qs.any fun z => PyData.eqv z p) else none
  | some p, some (.tuple qs) => if SeqAt.shaped p && SeqAt.shaped (.tuple qs) then some (qs.any fun z => PyData.eqv z p) else none
  | _, _ => none
def dIn : O2 := fun x y h => match inPd h x y with
  | some b => .ok (.bl b) h
  | none => .bad
def dNotIn : O2 := fun x y h => match inPd h x y with
  | some b => .ok (.bl (!b)) h
  | none => .bad
def cMaxL : ON := fun ds h => match ds with
  | [.int i, .int j] => .ok (.int (if j > i then j else i)) h
  | [d] => match (seqL h d).bind toInts with
    | some (n :: ns) => .ok (.int (ns.foldl max n)) h
    | _ => .bad
  | _ => .bad
def cMinL : ON := fun ds h => match ds with
  | [.int i, .int j] => .ok (.int (if j < i then j else i)) h
  | [d] => match (seqL h d).bind toInts with
    | some (n :: ns) => .ok (.int (ns.foldl min n)) h
    | _ => .bad
  | _ => .bad
theorem fold_max : ∀ (ns : List Int) (n : Int), (∀ y ∈ n :: ns, y ≤ ns.foldl max n) ∧ ns.foldl max n ∈ n :: ns
  | [], n => ⟨fun y hy => by simp at hy; rw [hy]; exact Int.le_refl _, by simp⟩
  | m :: ns, n => by
    obtain ⟨h1, h2⟩ := fold_max ns (max n m)
    have e : (m :: ns).foldl max n = ns.foldl max (max n m) := rfl
    rw [e]
    have h0 := h1 (max n m) (.head _)
    refine ⟨fun y hy => ?_, ?_⟩
    · simp only [List.mem_cons] at hy
      rcases hy with rfl | rfl | hy
      · omega
      · omega
      · exact h1 y (.tail _ hy)
    · rcases List.mem_cons.mp h2 with z | z
      · rw [z]
        rcases Int.le_total n m with q | q
        · rw [Int.max_eq_right q]; simp
        · rw [Int.max_eq_left q]; simp
      · exact .tail _ (.tail _ z)
section
open PySem.Spec PyProof.Rows
variable {X : Cx} {G : Gx}
theorem room_in {a b : PyData} {A : Around} (h : SeqAt.shaped a = true) (hu : A.units + 65 < cLine) (n : Nat) : A.units + 1 + min n a.depth < cLine := by
  have h1 := SeqAt.depth_of_shaped h
  have h2 : min n a.depth ≤ a.depth := Nat.min_le_right _ _
  omega
theorem XOk.un65 {T : Pg} {k : Nat} (O : XOk X G T k) : X.A.units + 65 < cLine := by have := O.rm.un; omega
theorem o_in (hu : X.A.units + 65 < cLine) : OpR X (compareOp .In) (rO2 X G dIn) := by
  intro pins s σ H x y v u Q I rx ry hp
  obtain ⟨g, h, d, e, og, r, qd, qe, p⟩ := hp
  unfold dIn inPd at p
  cases e1 : pdH h d with
  | none => rw [e1] at p; exact p.elim
  | some p1 =>
    rw [e1] at p
    cases e2 : pdH h e with
    | none => rw [e2] at p; exact p.elim
    | some p2 =>
      rw [e2] at p
      obtain ⟨as, r1⟩ := Dp.reads I p1 x v (dpH_of og r qd e1) rx
      obtain ⟨bs, r2⟩ := Dp.reads I p2 y u (dpH_of og r qe e2) ry
      cases p2 with
      | list qs =>
        dsimp only at p
        split at p
        · rename_i b hb
          split at hb
          · rename_i hz
            cases hb
            rw [Bool.and_eq_true] at hz
            exact SeqAt.in_list_reads r2 r1 (SeqAt.canLay_of_shaped hz.2) (SeqAt.canLay_of_shaped hz.1) (room_in (b := p1) hz.1 hu _) ⟨.bl _, H, I, rfl, Post.bl r p⟩
          · cases hb
        · exact p.elim
      | tuple qs =>
        dsimp only at p
        split at p
        · rename_i b hb
          split at hb
          · rename_i hz
            cases hb
            rw [Bool.and_eq_true] at hz
            exact SeqAt.in_tuple_reads r2 r1 (SeqAt.canLay_of_shaped hz.2) (SeqAt.canLay_of_shaped hz.1) (room_in (b := p1) hz.1 hu _) ⟨.bl _, H, I, rfl, Post.bl r p⟩
          · cases hb
        · exact p.elim
      | _ => exact p.elim
theorem o_notin (hu : X.A.units + 65 < cLine) : OpR X (compareOp .NotIn) (rO2 X G dNotIn) := by
  intro pins s σ H x y v u Q I rx ry hp
  obtain ⟨g, h, d, e, og, r, qd, qe, p⟩ := hp
  unfold dNotIn inPd at p
  cases e1 : pdH h d with
  | none => rw [e1] at p; exact p.elim
  | some p1 =>
    rw [e1] at p
    cases e2 : pdH h e with
    | none => rw [e2] at p; exact p.elim
    | some p2 =>
      rw [e2] at p
      obtain ⟨as, r1⟩ := Dp.reads I p1 x v (dpH_of og r qd e1) rx
      obtain ⟨bs, r2⟩ := Dp.reads I p2 y u (dpH_of og r qe e2) ry
      cases p2 with
      | list qs =>
        dsimp only at p
        split at p
        · rename_i b hb
          split at hb
          · rename_i hz
            cases hb
            rw [Bool.and_eq_true] at hz
            exact SeqAt.notIn_list_reads r2 r1 (SeqAt.canLay_of_shaped hz.2) (SeqAt.canLay_of_shaped hz.1) (room_in (b := p1) hz.1 hu _) ⟨.bl _, H, I, rfl, Post.bl r p⟩
          · cases hb
        · exact p.elim
      | tuple qs =>
        dsimp only at p
        split at p
        · rename_i b hb
          split at hb
          · rename_i hz
            cases hb
            rw [Bool.and_eq_true] at hz
            exact SeqAt.notIn_tuple_reads r2 r1 (SeqAt.canLay_of_shaped hz.2) (SeqAt.canLay_of_shaped hz.1) (room_in (b := p1) hz.1 hu _) ⟨.bl _, H, I, rfl, Post.bl r p⟩
          · cases hb
        · exact p.elim
      | _ => exact p.elim
theorem c_maxL (hc : X.calm = true) : CallR X (.builtin "max") (rON X G cMaxL) := by
  intro pins s σ H xs us Q I rv ⟨g, h, ds, og, r, q, p⟩
  unfold cMaxL at p
  split at p
  · rename_i i j
    obtain ⟨y, z, rfl, z1, z2⟩ := rel2 q
    cases (show y = V.int i from z1); cases (show z = V.int j from z2)
    exact call_max2 hc pins s σ H _ us Q I rv ⟨i, j, rfl, Post.int r p⟩
  · rename_i d
    split at p
    · rename_i n ns en
      obtain ⟨y, rfl, z⟩ := rel1 q
      obtain ⟨es, e1, e2⟩ := Option.bind_eq_some_iff.mp en
      obtain ⟨a, zs, rfl, z1, z2⟩ := seqL_ok og r z e1
      have e3 := toInts_ok z2 e2
      subst e3
      obtain ⟨m1, m2⟩ := fold_max ns n
      exact cr_max hc pins s σ H _ us Q I rv ⟨a, n :: ns, rfl, z1, by simp, fun m hm hy => by
        have e : m = ns.foldl max n := Int.le_antisymm (m1 m hm) (hy _ m2)
        rw [e]
        exact Post.int r p⟩
    · exact p.elim
  · exact p.elim
end
end EV
/-! EV31: a comprehension stored to a captured name -/
/-! EV33: zip of a list and a tuple, either way round -/
namespace EV
open PySem L2
open PySem.Sem (wp)
/-- t: a tuple; else a list -/
def SqX (t : Bool) (K : PySem.W.Frag) (H : Hp) (l : Addr) (us : List V) : Prop := if t = true then SqT K H l us else SqL K H l us
def ItX (t : Bool) (h : Heap) (i l : Addr) (n : Nat) : Prop := if t = true then h.IsTupleIter i l n else h.IsListIter i l n
def IsX (t : Bool) (h : Heap) (l : Addr) (us : Array Value) : Prop := if t = true then h.IsTuple l us else h.IsList l us
section
variable {prog : Program} {w : World} {A : Around} {E : Value → Shared → Prop} {s : Shared} {t t1 t2 : Bool} {h h' : Heap} {i l c : Addr} {n : Nat} {us : Array Value}
theorem ItX.but (q : ItX t h i l n) (b : Heap.SameBut c h h') (d : i ≠ c) : ItX t h' i l n := by
  cases t
  · exact (show h.IsListIter i l n from q).extBut b.extBut d
  · exact (show h.IsTupleIter i l n from q).extBut b.extBut d
theorem IsX.but (q : IsX t h l us) (b : Heap.SameBut c h h') (d : l ≠ c) : IsX t h' l us := by
  cases t
  · exact (show h.IsList l us from q).extBut b.extBut d
  · exact (show h.IsTuple l us from q).extBut b.extBut d
theorem ItX.to (q : ItX t h i l n) (k : ∀ o, h.get? i = some o → h'.get? i = some o) : ItX t h' i l n := by
  cases t
  · exact (show h.IsListIter i l n from q).at k
  · exact (show h.IsTupleIter i l n from q).at k
theorem ItX.ob (q : ItX t h i l n) : ∃ o, h.get? i = some o ∧ ∀ v, o.data ≠ .cell v := by
  cases t
  · obtain ⟨o, a, _, b⟩ := (show h.IsListIter i l n from q)
    exact ⟨o, a, fun v z => by rw [b] at z; cases z⟩
  · obtain ⟨o, a, _, b⟩ := (show h.IsTupleIter i l n from q)
    exact ⟨o, a, fun v z => by rw [b] at z; cases z⟩
theorem nextX_item {x : Value} {Q : Value → Shared → Prop} (q : ItX t s.heap i l n) (u : IsX t s.heap l us) (hx : us[n]? = some x)
    (k : ∀ h', ItX t h' i l (n + 1) → Heap.SameBut i s.heap h' → Q x { s with heap := h' }) : wpAny (model prog w) A (Builtin.SmallTypes.nextOf (.ref i)) Q E s := by
  cases t
  · exact wpAny_nextOf_list_item (show s.heap.IsListIter i l n from q) (show s.heap.IsList l us from u) hx k
  · exact RZ.nextOf_tuple_item (show s.heap.IsTupleIter i l n from q) (show s.heap.IsTuple l us from u) hx k
theorem nextX_end {Q : Value → Shared → Prop} (hh : A.handled = none) (q : ItX t s.heap i l n) (u : IsX t s.heap l us) (hx : us[n]? = none)
    (k : ∀ h' e, Heap.ExtBut i s.heap h' → (∃ o, h'.get? e = some o ∧ o.cls = .type "StopIteration") → E (.ref e) { s with heap := h' }) : wpAny (model prog w) A (Builtin.SmallTypes.nextOf (.ref i)) Q E s := by
  cases t
  · exact wpAny_nextOf_list_end hh (show s.heap.IsListIter i l n from q) (show s.heap.IsList l us from u) hx k
  · exact RZ.nextOf_tuple_end hh (show s.heap.IsTupleIter i l n from q) (show s.heap.IsTuple l us from u) hx k
/-- what stands still in a turn -/
def KeepZ (z o i1 i2 : Addr) (h h' : Heap) : Prop := ∀ c ob, c ≠ z → c ≠ o → c ≠ i1 → c ≠ i2 → h.get? c = some ob → h'.get? c = some ob
section
variable {z TI TO i1 i2 l1 l2 : Addr} {n1 n2 : Nat} {xs ys : Array Value} {x y p q : Value}
theorem zipX_item {Q : Value → Shared → Prop} (D : ZipApart z TI TO i1 i2 l1 l2) (az : IsZip s.heap z TI TO .none) (aI : IsPair s.heap TI (.ref i1) (.ref i2)) (aO : IsPair s.heap TO p q)
    (a1 : ItX t1 s.heap i1 l1 n1) (a2 : ItX t2 s.heap i2 l2 n2) (u1 : IsX t1 s.heap l1 xs) (u2 : IsX t2 s.heap l2 ys) (e1 : xs[n1]? = some x) (e2 : ys[n2]? = some y)
    (k : ∀ h', IsZip h' z TI TO (rawInt s.heap.objs.size) → IsPair h' TO x y → ItX t1 h' i1 l1 (n1 + 1) → ItX t2 h' i2 l2 (n2 + 1) → IsPair h' s.heap.objs.size x y → h'.objs.size = s.heap.objs.size + 1 →
      KeepZ z TO i1 i2 s.heap h' → Q (.ref s.heap.objs.size) { s with heap := h' }) :
    wpAny (model prog w) A (Builtin.«zip.__next__» ⟨[.ref z], []⟩) (fun fin s' => ∃ v, fin = .done (.ret v) ∧ Q v s') E s := by
  show wpAny _ _ (field (.ref z) 2 >>= _) _ _ _
  refine wpAny_bind (wpAny_field az rfl (x := .bool false) rfl ?_)
  show wpAny _ _ (field (.ref z) 3 >>= _) _ _ _
  refine wpAny_bind (wpAny_field az rfl (x := .ref TI) rfl ?_)
  refine wpAny_bind (wpAny_seqItems aI rfl ?_)
  show wpAny _ _ (Builtin.SmallTypes.ownedTupleIsFree (.ref z) >>= _) _ _ _
  refine wpAny_bind ?_
  unfold Builtin.SmallTypes.ownedTupleIsFree
  refine wpAny_bind (wpAny_field az rfl (x := .none) rfl (wpAny_pure ?_))
  simp only [if_true]
  refine wpAny_bind (wpAny_rule ?_)
  refine wpAny_bind (wpAny_field az rfl (x := .ref TO) rfl ?_)
  refine wpAny_bind (wpAny_setField_rec az (by simp) fun j1 az1 b1 => ?_)
  replace az1 : IsZip j1 z TI TO .ellipsis := az1
  refine wpAny_bind ?_
  simp only [List.zipIdx_cons, List.zipIdx_nil, List.forIn_cons, List.forIn_nil]
  refine wpAny_bind (wpAny_bind (wpAny_onRaise ?_))
  show wpAny _ _ (Builtin.SmallTypes.nextOf (.ref i1) >>= _) _ _ _
  refine wpAny_bind (nextX_item (a1.but b1 D.i1z) (u1.but b1 D.l1z) e1 fun j2 a12 b2 => wpAny_pure ?_)
  have aO2 : IsPair j2 TO p q := b2.extBut _ _ D.TOi1 (b1.extBut _ _ D.TOz aO)
  refine wpAny_bind (wpAny_seqItems aO2 rfl ?_)
  refine wpAny_bind (wpAny_updateSeq_pair aO2 fun j3 aO3 b3 => ?_)
  replace aO3 : IsPair j3 TO x q := aO3
  refine wpAny_bind (wpAny_letGo (wpAny_pure ?_))
  refine wpAny_bind (wpAny_bind (wpAny_onRaise ?_))
  show wpAny _ _ (Builtin.SmallTypes.nextOf (.ref i2) >>= _) _ _ _
  refine wpAny_bind (nextX_item (((a2.but b1 D.i2z).but b2 D.i12.symm).but b3 D.TOi2.symm) (((u2.but b1 D.l2z).but b2 D.l2i1).but b3 D.l2TO) e2 fun j4 a24 b4 => wpAny_pure ?_)
  have aO4 : IsPair j4 TO x q := b4.extBut _ _ D.TOi2 aO3
  refine wpAny_bind (wpAny_seqItems aO4 rfl ?_)
  refine wpAny_bind (wpAny_updateSeq_pair aO4 fun j5 aO5 b5 => ?_)
  replace aO5 : IsPair j5 TO x y := aO5
  refine wpAny_bind (wpAny_letGo (wpAny_pure (wpAny_pure ?_)))
  refine wpAny_bind (wpAny_seqItems aO5 rfl ?_)
  refine wpAny_bind (wpAny_newTuple ?_)
  have sz5 : j5.objs.size = s.heap.objs.size := by rw [b5.1, b4.1, b3.1, b2.1, b1.1]
  have az5 : IsZip j5 z TI TO .ellipsis := b5.extBut _ _ D.TOz.symm (b4.extBut _ _ D.i2z.symm (b3.extBut _ _ D.TOz.symm (b2.extBut _ _ D.i1z.symm az1)))
  have st5 : KeepZ z TO i1 i2 s.heap j5 := fun c ob d1 d2 d3 d4 g => b5.extBut _ _ d2 (b4.extBut _ _ d4 (b3.extBut _ _ d2 (b2.extBut _ _ d3 (b1.extBut _ _ d1 g))))
  have a15 : ItX t1 j5 i1 l1 (n1 + 1) := ((a12.but b3 D.TOi1.symm).but b4 D.i12).but b5 D.TOi1.symm
  have a25 : ItX t2 j5 i2 l2 (n2 + 1) := a24.but b5 D.TOi2.symm
  have zlt : z < j5.objs.size := Heap.lt_size az5
  show wpAny _ _ (Builtin.SmallTypes.ownedTupleHandOut (.ref z) (.ref j5.objs.size) >>= _) _ _ _
  refine wpAny_bind ?_
  unfold Builtin.SmallTypes.ownedTupleHandOut
  have az6 : IsZip (j5.push { cls := .type "tuple", data := .seq #[x, y] }) z TI TO .ellipsis := Heap.get?_push_of_some _ az5
  refine wpAny_bind (wpAny_setField_rec az6 (by simp) fun j7 az7 b7 => ?_)
  replace az7 : IsZip j7 z TI TO (rawInt j5.objs.size) := az7
  refine wpAny_setField_rec az7 (by simp) fun j8 az8 b8 => ?_
  replace az8 : IsZip j8 z TI TO (rawInt j5.objs.size) := az8
  have up : ∀ c ob, c ≠ z → j5.get? c = some ob → j8.get? c = some ob := fun c ob d1 g => b8.extBut _ _ d1 (b7.extBut _ _ d1 (Heap.get?_push_of_some _ g))
  have pr8 : IsPair j8 j5.objs.size x y := b8.extBut _ _ (Nat.ne_of_gt zlt) (b7.extBut _ _ (Nat.ne_of_gt zlt) (Heap.get?_push_size _ rfl))
  have sz8 : j8.objs.size = j5.objs.size + 1 := by rw [b8.1, b7.1, Heap.size_push]
  rw [sz5] at az8 pr8 sz8
  refine wpAny_pure ⟨_, rfl, ?_⟩
  show Q (.ref j5.objs.size) _
  rw [sz5]
  exact k j8 az8 (up _ _ D.TOz aO5) (a15.to fun o g => up _ o D.i1z g) (a25.to fun o g => up _ o D.i2z g) pr8 sz8 fun c ob d1 d2 d3 d4 g => up c ob d1 (st5 c ob d1 d2 d3 d4 g)
theorem zipX_end {Q : Fin → Shared → Prop} (hh : A.handled = none) (D : ZipApart z TI TO i1 i2 l1 l2) (az : IsZip s.heap z TI TO .none) (aI : IsPair s.heap TI (.ref i1) (.ref i2)) (aO : IsPair s.heap TO p q)
    (a1 : ItX t1 s.heap i1 l1 n1) (a2 : ItX t2 s.heap i2 l2 n2) (u1 : IsX t1 s.heap l1 xs) (u2 : IsX t2 s.heap l2 ys) (en : xs[n1]? = none ∨ ys[n2]? = none)
    (k : ∀ h' e, KeepZ z TO i1 i2 s.heap h' → (∃ o, h'.get? e = some o ∧ o.cls = .type "StopIteration") → E (.ref e) { s with heap := h' }) :
    wpAny (model prog w) A (Builtin.«zip.__next__» ⟨[.ref z], []⟩) Q E s := by
  show wpAny _ _ (field (.ref z) 2 >>= _) _ _ _
  refine wpAny_bind (wpAny_field az rfl (x := .bool false) rfl ?_)
  show wpAny _ _ (field (.ref z) 3 >>= _) _ _ _
  refine wpAny_bind (wpAny_field az rfl (x := .ref TI) rfl ?_)
  refine wpAny_bind (wpAny_seqItems aI rfl ?_)
  show wpAny _ _ (Builtin.SmallTypes.ownedTupleIsFree (.ref z) >>= _) _ _ _
  refine wpAny_bind ?_
  unfold Builtin.SmallTypes.ownedTupleIsFree
  refine wpAny_bind (wpAny_field az rfl (x := .none) rfl (wpAny_pure ?_))
  simp only [if_true]
  refine wpAny_bind (wpAny_rule ?_)
  refine wpAny_bind (wpAny_field az rfl (x := .ref TO) rfl ?_)
  refine wpAny_bind (wpAny_setField_rec az (by simp) fun j1 az1 b1 => ?_)
  replace az1 : IsZip j1 z TI TO .ellipsis := az1
  refine wpAny_bind ?_
  simp only [List.zipIdx_cons, List.zipIdx_nil, List.forIn_cons, List.forIn_nil]
  refine wpAny_bind (wpAny_bind (wpAny_onRaise ?_))
  show wpAny _ _ (Builtin.SmallTypes.nextOf (.ref i1) >>= _) _ _ _
  cases g : xs[n1]? with
  | none =>
    refine wpAny_bind (nextX_end hh (a1.but b1 D.i1z) (u1.but b1 D.l1z) g fun j2 e b2 ⟨oe, ge, ce⟩ => ?_)
    have az2 : IsZip j2 z TI TO .ellipsis := b2 _ _ D.i1z.symm az1
    have ez : e ≠ z := fun m => by subst m; rw [az2] at ge; cases ge; simp at ce
    refine wpAny_setField_rec az2 (by simp) fun j3 _ b3 => k j3 e (fun c ob d1 _ d3 _ m => b3.extBut _ _ d1 (b2 _ _ d3 (b1.extBut _ _ d1 m))) ⟨oe, b3.extBut _ _ ez ge, ce⟩
  | some x =>
    have g2 : ys[n2]? = none := by
      rcases en with m | m
      · rw [g] at m; cases m
      · exact m
    refine wpAny_bind (nextX_item (a1.but b1 D.i1z) (u1.but b1 D.l1z) g fun j2 a12 b2 => wpAny_pure ?_)
    have aO2 : IsPair j2 TO p q := b2.extBut _ _ D.TOi1 (b1.extBut _ _ D.TOz aO)
    refine wpAny_bind (wpAny_seqItems aO2 rfl ?_)
    refine wpAny_bind (wpAny_updateSeq_pair aO2 fun j3 aO3 b3 => ?_)
    refine wpAny_bind (wpAny_letGo (wpAny_pure ?_))
    refine wpAny_bind (wpAny_bind (wpAny_onRaise ?_))
    show wpAny _ _ (Builtin.SmallTypes.nextOf (.ref i2) >>= _) _ _ _
    refine wpAny_bind (nextX_end hh (((a2.but b1 D.i2z).but b2 D.i12.symm).but b3 D.TOi2.symm) (((u2.but b1 D.l2z).but b2 D.l2i1).but b3 D.l2TO) g2 fun j4 e b4 ⟨oe, ge, ce⟩ => ?_)
    have az4 : IsZip j4 z TI TO .ellipsis := b4 _ _ D.i2z.symm (b3.extBut _ _ D.TOz.symm (b2.extBut _ _ D.i1z.symm az1))
    have ez : e ≠ z := fun m => by subst m; rw [az4] at ge; cases ge; simp at ce
    refine wpAny_setField_rec az4 (by simp) fun j5 _ b5 => k j5 e (fun c ob d1 d2 d3 d4 m => b5.extBut _ _ d1 (b4 _ _ d4 (b3.extBut _ _ d2 (b2.extBut _ _ d3 (b1.extBut _ _ d1 m))))) ⟨oe, b5.extBut _ _ ez ge, ce⟩
theorem pyNextX_item {Q : Option Value → Shared → Prop} (D : ZipApart z TI TO i1 i2 l1 l2) (az : IsZip s.heap z TI TO .none) (aI : IsPair s.heap TI (.ref i1) (.ref i2)) (aO : IsPair s.heap TO p q)
    (a1 : ItX t1 s.heap i1 l1 n1) (a2 : ItX t2 s.heap i2 l2 n2) (u1 : IsX t1 s.heap l1 xs) (u2 : IsX t2 s.heap l2 ys) (e1 : xs[n1]? = some x) (e2 : ys[n2]? = some y)
    (k : ∀ h', IsZip h' z TI TO (rawInt s.heap.objs.size) → IsPair h' TO x y → ItX t1 h' i1 l1 (n1 + 1) → ItX t2 h' i2 l2 (n2 + 1) → IsPair h' s.heap.objs.size x y → h'.objs.size = s.heap.objs.size + 1 →
      KeepZ z TO i1 i2 s.heap h' → Q (some (.ref s.heap.objs.size)) { s with heap := h' }) : wpAny (model prog w) A (pyNext (.ref z)) Q E s := by
  have ty : s.TypeIs (.ref z) "zip" := ⟨_, az, rfl⟩
  unfold pyNext
  exact wpAny_bind (wpAny_attempt (wpAny_callSpecial?_slot (name := Str.ofString "__next__") ty F.slot_zip_next (wpAny_call_entry F.slot_zip_next ty F.entry_zip_next
    (zipX_item D az aI aO a1 a2 u1 u2 e1 e2 fun h' c1 c2 c3 c4 c5 c6 c7 => wpAny_pure (k h' c1 c2 c3 c4 c5 c6 c7)) (F.args_zip_next_1 _))))
theorem pyNextX_end {Q : Option Value → Shared → Prop} (hh : A.handled = none) (D : ZipApart z TI TO i1 i2 l1 l2) (az : IsZip s.heap z TI TO .none) (aI : IsPair s.heap TI (.ref i1) (.ref i2)) (aO : IsPair s.heap TO p q)
    (a1 : ItX t1 s.heap i1 l1 n1) (a2 : ItX t2 s.heap i2 l2 n2) (u1 : IsX t1 s.heap l1 xs) (u2 : IsX t2 s.heap l2 ys) (en : xs[n1]? = none ∨ ys[n2]? = none)
    (k : ∀ h', KeepZ z TO i1 i2 s.heap h' → Q none { s with heap := h' }) : wpAny (model prog w) A (pyNext (.ref z)) Q E s := by
  have ty : s.TypeIs (.ref z) "zip" := ⟨_, az, rfl⟩
  unfold pyNext
  refine wpAny_bind (wpAny_attempt (wpAny_callSpecial?_slot (name := Str.ofString "__next__") ty F.slot_zip_next (wpAny_call_entry F.slot_zip_next ty F.entry_zip_next
    (zipX_end hh D az aI aO a1 a2 u1 u2 en fun h' e c1 ⟨o, ho, hc⟩ => ?_) (F.args_zip_next_1 _))))
  exact wpAny_bind (wpAny_isInstance (T := "StopIteration") (b := true) ⟨o, ho, hc⟩ isSubtype_stop (wpAny_pure (k _ c1)))
end
def itC (t : Bool) : Value := .type (if t = true then "tuple_iterator" else "list_iterator")
abbrev zx1 (t1 : Bool) (h : Heap) (l1 : Addr) : Heap := h.push { cls := itC t1, data := .fields #[.ref l1, .int 0 0] }
abbrev zx2 (t1 t2 : Bool) (h : Heap) (l1 l2 : Addr) : Heap := (zx1 t1 h l1).push { cls := itC t2, data := .fields #[.ref l2, .int 0 0] }
abbrev zx3 (t1 t2 : Bool) (h : Heap) (l1 l2 : Addr) : Heap := (zx2 t1 t2 h l1 l2).push { cls := .type "tuple", data := .seq #[.ref h.objs.size, .ref (zx1 t1 h l1).objs.size] }
abbrev zx4 (t1 t2 : Bool) (h : Heap) (l1 l2 : Addr) : Heap := (zx3 t1 t2 h l1 l2).push { cls := .type "tuple", data := .seq #[.none, .none] }
abbrev zx5 (t1 t2 : Bool) (h : Heap) (l1 l2 : Addr) : Heap := (zx4 t1 t2 h l1 l2).push { cls := .type "zip", data := .fields #[.none, .bool false, .bool false, .ref (zx2 t1 t2 h l1 l2).objs.size, .ref (zx3 t1 t2 h l1 l2).objs.size] }
theorem iterX {Q : Value → Shared → Prop} (u : IsX t s.heap l us) (k : Q (.ref s.heap.objs.size) { s with heap := s.heap.push { cls := itC t, data := .fields #[.ref l, .int 0 0] } }) : wpAny (model prog w) A (pyIter (.ref l)) Q E s := by
  cases t
  · exact wpAny_pyIter_list (show s.heap.IsList l us from u) k
  · exact wpAny_pyIter_tuple (show s.heap.IsTuple l us from u) k
theorem newX (l1 l2 : Addr) (xs ys : Array Value) :
    Meets (Builtin.«zip.__new__» ⟨[.type "zip", .ref l1, .ref l2], []⟩) (fun _ R s => IsX t1 s.heap l1 xs ∧ IsX t2 s.heap l2 ys ∧ R (.ok (.ret (.ref (zx4 t1 t2 s.heap l1 l2).objs.size))) { s with heap := zx5 t1 t2 s.heap l1 l2 }) :=
  .of_wp fun prog w A R s h => by
    obtain ⟨hp, g, d, tk, os⟩ := s
    obtain ⟨u1, u2, h⟩ := h
    have sb := sub_zip
    have v1 : IsX t1 (Shared.heap ⟨hp, g, d, tk, os⟩) l1 xs := u1
    have v2 : IsX t2 (Shared.heap ⟨hp.push { cls := itC t1, data := .fields #[.ref l1, .int 0 0] }, g, d, tk, os⟩) l2 ys := by
      cases t2
      · exact Heap.IsList.push (show Heap.IsList _ _ _ from u2) _
      · exact Heap.IsTuple.push (show Heap.IsTuple _ _ _ from u2) _
    wp_walk using iterX v1, iterX v2
    exact ⟨_, rfl, h⟩
theorem callX {l1 l2 : Addr} {xs ys : Array Value} {Q : Value → Shared → Prop} (u1 : IsX t1 s.heap l1 xs) (u2 : IsX t2 s.heap l2 ys)
    (k : ∀ h', IsZip h' (s.heap.objs.size + 4) (s.heap.objs.size + 2) (s.heap.objs.size + 3) .none → IsPair h' (s.heap.objs.size + 2) (.ref s.heap.objs.size) (.ref (s.heap.objs.size + 1)) → IsPair h' (s.heap.objs.size + 3) .none .none →
      ItX t1 h' s.heap.objs.size l1 0 → ItX t2 h' (s.heap.objs.size + 1) l2 0 → (∀ c o, s.heap.get? c = some o → h'.get? c = some o) → Q (.ref (s.heap.objs.size + 4)) { s with heap := h' }) :
    wpAny (model prog w) A (call (.type "zip") [.ref l1, .ref l2]) Q E s := by
  refine callType_new F.called_zip (by decide) (F.typeCall_zip_2 _ _) (F.newCall_zip_2 _ _) (fun obj => F.args_object_init_3 obj _ _) F.entry_zip_new (newX l1 l2 xs ys) ⟨u1, u2, ?_⟩
  have z1 : (zx1 t1 s.heap l1).objs.size = s.heap.objs.size + 1 := Heap.size_push ..
  have z2 : (zx2 t1 t2 s.heap l1 l2).objs.size = s.heap.objs.size + 2 := by rw [Heap.size_push, z1]
  have z3 : (zx3 t1 t2 s.heap l1 l2).objs.size = s.heap.objs.size + 3 := by rw [Heap.size_push, z2]
  have z4 : (zx4 t1 t2 s.heap l1 l2).objs.size = s.heap.objs.size + 4 := by rw [Heap.size_push, z3]
  have g5 : (zx5 t1 t2 s.heap l1 l2).get? (zx4 t1 t2 s.heap l1 l2).objs.size = some _ := Heap.get?_push_size _ rfl
  have g4 : (zx5 t1 t2 s.heap l1 l2).get? (zx3 t1 t2 s.heap l1 l2).objs.size = some _ := Heap.get?_push_of_some _ (Heap.get?_push_size _ rfl)
  have g3 : (zx5 t1 t2 s.heap l1 l2).get? (zx2 t1 t2 s.heap l1 l2).objs.size = some _ := Heap.get?_push_of_some _ (Heap.get?_push_of_some _ (Heap.get?_push_size _ rfl))
  have g2 : (zx5 t1 t2 s.heap l1 l2).get? (zx1 t1 s.heap l1).objs.size = some _ := Heap.get?_push_of_some _ (Heap.get?_push_of_some _ (Heap.get?_push_of_some _ (Heap.get?_push_size _ rfl)))
  have g1 : (zx5 t1 t2 s.heap l1 l2).get? s.heap.objs.size = some _ := Heap.get?_push_of_some _ (Heap.get?_push_of_some _ (Heap.get?_push_of_some _ (Heap.get?_push_of_some _ (Heap.get?_push_size _ rfl))))
  show _ ∧ _
  rw [z2, z3, z4] at g5
  rw [z1, z2] at g3
  rw [z3] at g4
  rw [z1] at g2
  rw [z4]
  have i1 : ItX t1 (zx5 t1 t2 s.heap l1 l2) s.heap.objs.size l1 0 := by
    cases t1
    · exact ⟨_, g1, rfl, rfl⟩
    · exact ⟨_, g1, rfl, rfl⟩
  have i2 : ItX t2 (zx5 t1 t2 s.heap l1 l2) (s.heap.objs.size + 1) l2 0 := by
    cases t2
    · exact ⟨_, g2, rfl, rfl⟩
    · exact ⟨_, g2, rfl, rfl⟩
  exact ⟨⟨_, g5, rfl⟩, k _ g5 g3 g4 i1 i2 fun c o x => Heap.get?_push_of_some _ (Heap.get?_push_of_some _ (Heap.get?_push_of_some _ (Heap.get?_push_of_some _ (Heap.get?_push_of_some _ x))))⟩
end
section
variable {X : Cx} {pins : List (Addr × Obj)} {σ : L2.St} {H : Hp} {s : Shared} {t : Bool} {a : Addr} {us ws : List V}
theorem inv_x (I : Inv X pins σ H s) (q : SqX t X.K H a us) : ∃ its, Vals us its ∧ IsX t s.heap a its.toArray ∧ a < s.heap.objs.size := by
  cases t
  · obtain ⟨its, r, p, _⟩ := I.list (show SqL X.K H a us from q)
    exact ⟨its, r, p.isList, p.lt⟩
  · obtain ⟨its, r, p, _⟩ := I.tuple (show SqT X.K H a us from q)
    have p' : s.heap.IsTuple a its.toArray := p
    obtain ⟨o, g, _⟩ := id p'
    exact ⟨its, r, p', Heap.lt_size g⟩
theorem inj_x (I : Inv X pins σ H s) (q : SqX t X.K H a us) (q' : SqX t X.K H a ws) : us = ws := by
  cases t
  · exact I.list_inj q q'
  · exact I.tuple_inj q q'
end
def ItzX (t1 t2 : Bool) (K : PySem.W.Frag) (a b : Addr) : It :=
  ⟨fun i H => ∃ (us ws : List V) (x y : V), SqX t1 K H a us ∧ SqX t2 K H b ws ∧ us[i]? = some x ∧ ws[i]? = some y,
    fun i H v H' => ∃ T x y, v = .ref T ∧ H T = none ∧ H' = upd H T (.tup [x, y]) ∧ (∀ us, SqX t1 K H a us → us[i]? = some x) ∧ ∀ ws, SqX t2 K H b ws → ws[i]? = some y,
    fun i H => ∃ us ws : List V, SqX t1 K H a us ∧ SqX t2 K H b ws ∧ (us.length ≤ i ∨ ws.length ≤ i)⟩
theorem turn_zipX {P : Program} {w : World} {K : PySem.W.Frag} {t1 t2 : Bool} {elts : List Expr} {kk : Nat} {tpos : Pos} {a b z TI TO i1 i2 : Addr} (D : ZipApart z TI TO i1 i2 a b) :
    Turn P w K (.Tuple elts kk tpos) (ItzX t1 t2 K a b) [z, TI, TO, i1, i2] z (fun i h => IsZip h z TI TO .none ∧ IsPair h TI (.ref i1) (.ref i2) ∧ (∃ x y, IsPair h TO x y) ∧ ItX t1 h i1 a i ∧ ItX t2 h i2 b i) where
  mem := by simp
  obj := fun i h st c hc => by
    obtain ⟨az, aI, ⟨x, y, aO⟩, a1, a2⟩ := st
    have e' : c = z ∨ c = TI ∨ c = TO ∨ c = i1 ∨ c = i2 := by simpa using hc
    rcases e' with m | m | m | m | m
    · rw [m]; exact ⟨_, az, fun v m => nomatch m⟩
    · rw [m]; exact ⟨_, aI, fun v m => nomatch m⟩
    · rw [m]; exact ⟨_, aO, fun v m => nomatch m⟩
    · rw [m]; exact a1.ob
    · rw [m]; exact a2.ob
  keep := fun i h h' st k => by
    obtain ⟨az, aI, ⟨x, y, aO⟩, a1, a2⟩ := st
    exact ⟨k z (by simp) _ az, k TI (by simp) _ aI, ⟨x, y, k TO (by simp) _ aO⟩, a1.to fun o m => k i1 (by simp) o m, a2.to fun o m => k i2 (by simp) o m⟩
  item := by
    intro X hP hw hK hc i pins s σ H E I hf st hg
    subst hP hw hK
    obtain ⟨az, aI, ⟨x0, y0, aO⟩, a1, a2⟩ := st
    obtain ⟨us, ws, x, y, q1, q2, e1, e2⟩ := hg
    obtain ⟨j1, r1, u1, _⟩ := inv_x I q1
    obtain ⟨j2, r2, u2, _⟩ := inv_x I q2
    obtain ⟨v1, f1, g1⟩ := r1.get e1
    obtain ⟨v2, f2, g2⟩ := r2.get e2
    have zl : z < s.heap.objs.size := Heap.lt_size az
    refine pyNextX_item D az aI aO a1 a2 u1 u2 (x := v1) (y := v2) (by simpa using f1) (by simpa using f2) fun h' z' O' b1 b2 hT hsz hk => ?_
    refine ⟨_, rfl, wpAny_letOwnedTupleGo_zip (s := { s with heap := h' }) z' fun h'' z'' sb => ?_⟩
    have hT2 : h''.get? s.heap.objs.size = some { cls := .type "tuple", data := .seq #[v1, v2] } := (sb.2 _ (Nat.ne_of_gt zl)).trans hT
    have new : ObjOk X.prog X.w (upd H s.heap.objs.size (.tup [x, y])) h'' s.heap.objs.size (.tup [x, y]) :=
      ⟨(by show 2 ≤ sizeLine; decide), [v1, v2], .cons g1 (.cons g2 .nil), ⟨_, hT2, rfl, _, rfl⟩⟩
    have I1 : Inv X pins σ (upd H s.heap.objs.size (.tup [x, y])) { s with heap := h'' } :=
      I.turnedNew (t' := s.toks) (ch := [z, TI, TO, i1, i2]) (fun c o hb m => (sb.2 c fun m' => hb (by simp [m'])).trans (hk c o (fun m' => hb (by simp [m'])) (fun m' => hb (by simp [m'])) (fun m' => hb (by simp [m'])) (fun m' => hb (by simp [m'])) m)) hf (Nat.le_refl _) new
    refine ⟨.ref s.heap.objs.size, _, I1, rfl, ⟨_, x, y, rfl, I.hok.fresh (Nat.le_refl _), rfl, fun l hl => by rw [inj_x I hl q1]; exact e1, fun l hl => by rw [inj_x I hl q2]; exact e2⟩, ⟨z'', ?_, ⟨v1, v2, ?_⟩, ?_, ?_⟩, fun c hcm => ?_⟩
    · exact (sb.2 _ D.TIz).trans (hk _ _ D.TIz D.TITO D.TIi1 D.TIi2 aI)
    · exact (sb.2 _ D.TOz).trans O'
    · exact b1.to fun o m => (sb.2 _ D.i1z).trans m
    · exact b2.to fun o m => (sb.2 _ D.i2z).trans m
    · have lt : c < s.heap.objs.size := by
        have e' : c = z ∨ c = TI ∨ c = TO ∨ c = i1 ∨ c = i2 := by simpa using hcm
        rcases e' with m | m | m | m | m
        · rw [m]; exact zl
        · rw [m]; exact Heap.lt_size aI
        · rw [m]; exact Heap.lt_size aO
        · rw [m]; obtain ⟨_, e, _⟩ := a1.ob; exact Heap.lt_size e
        · rw [m]; obtain ⟨_, e, _⟩ := a2.ob; exact Heap.lt_size e
      rw [upd_ne (Nat.ne_of_lt lt)]
      exact (hf c hcm).1
  done := by
    intro X hP hw hK hc i pins s σ H E I hf st hg
    subst hP hw hK
    obtain ⟨az, aI, ⟨x0, y0, aO⟩, a1, a2⟩ := st
    obtain ⟨us, ws, q1, q2, en⟩ := hg
    obtain ⟨j1, r1, u1, _⟩ := inv_x I q1
    obtain ⟨j2, r2, u2, _⟩ := inv_x I q2
    have l1 := r1.length
    have l2 := r2.length
    have he : j1.toArray[i]? = none ∨ j2.toArray[i]? = none := by
      rcases en with m | m
      · exact .inl (by simp; omega)
      · exact .inr (by simp; omega)
    exact pyNextX_end (I.ok.hd hc) D az aI aO a1 a2 u1 u2 he fun h' hk => ⟨rfl, I.turnedL (t' := s.toks) (ch := [z, TI, TO, i1, i2]) (fun c o hb m =>
      hk c o (fun m' => hb (by simp [m'])) (fun m' => hb (by simp [m'])) (fun m' => hb (by simp [m'])) (fun m' => hb (by simp [m'])) m) hf⟩
  self := fun A i s Q E st h => wpAny_pyIter_zip st.1 h
def iZipX (K : PySem.W.Frag) (ta : TA) : TI := fun σ H R => ta σ H fun vs H1 => ∃ t1 t2 a b us ws, vs = [.ref a, .ref b] ∧ SqX t1 K H1 a us ∧ SqX t2 K H1 b ws ∧ R (ItzX t1 t2 K a b) H1
open PySem.Spec PyProof.Rows in
theorem pi_zipX {X : Cx} {e e2 : Expr} {ta : TA} {p pos tpos : Pos} {elts : List Expr} {kk : Nat} (hg : Gl X "zip") (hm : X.mg "zip" = none) (ha : PA X [e, e2] ta)
    (hs : starEach [e, e2] X.env = (false, eval e X.env) :: starEach [e2] X.env) (hpl : (backTo pos (starEach [e2] X.env)).any (·.1) = false) :
    PI X (.Tuple elts kk tpos) (.Call (.Name "zip" p) [e, e2] [] pos) (iZipX X.K ta) := by
  refine ⟨fun pins s σ H R I h => Call_ (ld_blt I hg hm PyProof.Rows.boot_zip (PyProof.Rows.callWith_type1 (thn (ha.run pos pins s σ H _ I h) fun us s1 ⟨vs, H1, I1, r1, q1⟩ => ?_) hs hpl))⟩
  obtain ⟨t1, t2, a, b, xs, ys, rfl, q1, q2, q⟩ := q1
  obtain ⟨v1, us, rfl, r, r1⟩ : ∃ v1 us1, us = v1 :: us1 ∧ RelV (.ref a) v1 ∧ Vals [.ref b] us1 := by cases r1 with | cons r rr => exact ⟨_, _, rfl, r, rr⟩
  obtain ⟨v2, us, rfl, r', r1⟩ : ∃ v1 us1, us = v1 :: us1 ∧ RelV (.ref b) v1 ∧ Vals [] us1 := by cases r1 with | cons r rr => exact ⟨_, _, rfl, r, rr⟩
  cases r1
  cases r
  cases r'
  obtain ⟨j1, w1, u1, la⟩ := inv_x I1 q1
  obtain ⟨j2, w2, u2, lb⟩ := inv_x I1 q2
  refine callX u1 u2 fun h' az aI aO a1 a2 hk => wpAny_pyIter_zip az ?_
  have I2 : Inv X pins σ H1 { s1 with heap := h' } := I1.kept (t' := s1.toks) hk
  refine ⟨s1.heap.objs.size + 4, [s1.heap.objs.size + 4, s1.heap.objs.size + 2, s1.heap.objs.size + 3, s1.heap.objs.size, s1.heap.objs.size + 1], _, _, H1, rfl, I2, turn_zipX (PySem.W.ktu_apart s1.heap.objs.size a b la lb), ⟨az, aI, ⟨_, _, aO⟩, a1, a2⟩, fun c hcm => ?_, q⟩
  have le : s1.heap.objs.size ≤ c := by
    have e' : c = s1.heap.objs.size + 4 ∨ c = s1.heap.objs.size + 2 ∨ c = s1.heap.objs.size + 3 ∨ c = s1.heap.objs.size ∨ c = s1.heap.objs.size + 1 := by simpa using hcm
    rcases e' with m | m | m | m | m
    all_goals
      rw [m]
      first | exact Nat.le_add_right _ _ | exact Nat.le_refl _
  exact I1.fpOk le (I1.hok.fresh le)
/-- what a zip takes -/
def seqZ : D → Option (Bool × List D)
  | .tup ds => some (true, ds)
  | .lst ds => some (false, ds)
  | .frz ds => some (false, ds)
  | _ => none
def zipX : List D → Cells → R (List D) := fun ds h => match ds with
  | [x, y] => match seqZ x, seqZ y with
    | some a, some b => .ok (pairs a.2 b.2) h
    | _, _ => .bad
  | _ => .bad
def dZipX (da : DA) : DF := fun fn env h => (da fn env h).bind zipX
section
variable {X : Cx} {G : Gx} {g g' : Gh} {H H' : Hp} {h h' : Cells} {own : Nat → Option Addr} {env : Ev} {σ : L2.St} {ds es : List D} {xs ys : List V} {a b : Addr} {tg e e2 : Expr} {dr : DA} {x : Str} {v : Value} {p pos tpos : Pos} {elts : List Expr} {kk : Nat}
theorem seqZ_ok (og : GOk X G g) (r : HRel X.prog X.w g H h) {d : D} {v : V} {t : Bool} (q : RelT g H d v) (e : seqZ d = some (t, ds)) : ∃ a xs, v = .ref a ∧ RelsS g H ds xs ∧ SqX t X.K H a xs ∧ ∀ g' H', ExtS g H g' H' → SqX t X.K H' a xs := by
  cases d with
  | tup es =>
    cases e
    obtain ⟨a, xs, rfl, w1, w2⟩ := tup_ok og q
    refine ⟨a, xs, rfl, w2, w1, fun g' H' e => ?_⟩
    have z := SqT.exts r e (by rw [og.K]; exact w1)
    rw [e.K, og.K] at z
    exact z
  | lst es => cases e; exact lst_stands og q
  | frz es => cases e; exact frz_stands og r q
  | _ => cases e
theorem it_zipX {t1 t2 : Bool} (r : HRel X.prog X.w g H h) (sx : ∀ g' H', ExtS g H g' H' → SqX t1 X.K H' a xs) (sy : ∀ g' H', ExtS g H g' H' → SqX t2 X.K H' b ys) (qx : RelsS g H ds xs) (qy : RelsS g H es ys) : ItOk X (ItzX t1 t2 X.K a b) g H (pairs ds es) where
  goes := fun g' H' h' i hi e r' => by
    rw [pairs_len, qx.len, qy.len] at hi
    have h1 : i < xs.length := by omega
    have h2 : i < ys.length := by omega
    exact ⟨xs, ys, xs[i], ys[i], sx g' H' e, sy g' H' e, by simp [h1], by simp [h2]⟩
  stops := fun g' H' h' e r' => ⟨xs, ys, sx g' H' e, sy g' H' e, by rw [pairs_len, qx.len, qy.len]; omega⟩
  yields := fun g' H' h' i x H'' hi e r' y => by
    obtain ⟨T, u, w, rfl, hT, rfl, y1, y2⟩ := y
    obtain ⟨d, h1, h2⟩ := (RelsS.exts r e qx).getV (y1 xs (sx g' H' e))
    obtain ⟨d2, h3, h4⟩ := (RelsS.exts r e qy).getV (y2 ys (sy g' H' e))
    exact ⟨_, _, Ext.new r' hT, r'.new hT, pairs_get h1 h3, Ext.pair r' hT h2 h4⟩
theorem zipX_ (B : BltOk X "zip" v) (ha : PA X [e, e2] (tA X G dr)) (hs : isStar e = false) (hs2 : isStar e2 = false) : PI X (.Tuple elts kk tpos) (.Call (.Name "zip" p) [e, e2] [] pos) (tI X G (dZipX dr)) :=
  PI.imp (pi_zipX B.g B.m ha (by rw [star_cons hs]) (by rw [star_cons hs2]; rfl)) fun σ H R ⟨g, own, env, h, o, r, l, q⟩ => ⟨g, own, env, h, o, r, l, (Post.bind q).imp fun g1 H1 ds h1 e1 r1 q1 vs qv => by
    have o1 := o.ext e1
    unfold zipX at q1
    split at q1
    · split at q1
      · rename_i a1 b1 s1 s2
        obtain ⟨t1, as⟩ := a1
        obtain ⟨t2, bs⟩ := b1
        obtain ⟨y, z, rfl, z1, z2⟩ := rel2 qv
        obtain ⟨a, xs, rfl, w1, w2, w3⟩ := seqZ_ok o1 r1 z1 s1
        obtain ⟨b, ys, rfl, w4, w5, w6⟩ := seqZ_ok o1 r1 z2 s2
        exact ⟨t1, t2, a, b, xs, ys, rfl, w2, w5, Post.now r1 q1 _ (it_zipX r1 w3 w6 w1 w4)⟩
      · exact q1.elim
    · exact q1.elim⟩
end
@[simp] theorem e_dZipX {fn : Fns} {env : Ev} {h : Cells} {a : DA} : dZipX a fn env h = (a fn env h).bind zipX := (rfl)
@[simp] theorem e_zxTT {h : Cells} {a b : List D} : zipX [.tup a, .tup b] h = .ok (pairs a b) h := (rfl)
@[simp] theorem e_zxTL {h : Cells} {a b : List D} : zipX [.tup a, .lst b] h = .ok (pairs a b) h := (rfl)
@[simp] theorem e_zxLT {h : Cells} {a b : List D} : zipX [.lst a, .tup b] h = .ok (pairs a b) h := (rfl)
@[simp] theorem e_zxLL {h : Cells} {a b : List D} : zipX [.lst a, .lst b] h = .ok (pairs a b) h := (rfl)
end EV
/-! EV38: xs.count(x), sorted(xs) of ints, list(range(..)), range downwards -/
namespace EV
open PySem L2
/-- ints sorted -/
def isortI (ns : List Int) : List Int := ns.mergeSort (fun a b => decide (a ≤ b))
def cSort (ds : List D) (h : Cells) : R (List D) := match ds with
  | [d] => match (seqL h d).bind toInts with
    | some is => .ok ((isortI is).map D.int) h
    | none => .bad
  | _ => .bad
def dSortF (da : DA) : DF := fun fn env h => (da fn env h).bind fun ds h1 => cSort ds h1
def dLstRg (da : DE) : DF := fun fn env h => (da fn env h).bind fun d h1 => match d with
  | .int j => if decide (-1000000000 ≤ j) && decide (j ≤ 16777216) then .ok (upTo 0 j.toNat) h1 else .bad
  | _ => .bad
def downTo (lo : Int) (n : Nat) : List D := (List.range n).map fun i => D.int (lo - (i : Nat))
def rng3 (ds : List D) (h : Cells) : R (List D) := match ds with
  | [.int i, .int j, .int c] => if decide (-1000000000 ≤ i) && decide (i ≤ 1000000000) && decide (-1000000000 ≤ j) && decide (j ≤ 1000000000) && decide (c = -1) then .ok (downTo i (i - j).toNat) h else .bad
  | _ => .bad
def dRng3 (a : DA) : DF := fun fn env h => (a fn env h).bind fun ds h1 => rng3 ds h1
section
variable {X : Cx} {G : Gx} {T : Pg} {k i : Nat} {g g' : Gh} {H H' : Hp} {h h' : Cells} {e a b c tg : Expr} {da de : DE} {dr : DA} {x : Str} {v : Value} {p px apos cpos pos : Pos}
theorem lstRg_ {vl vr : Value} {p2 pos2 : Pos} (hc : X.calm = true) (Bl : BltOk X "list" vl) (Br : BltOk X "range" vr) (hb : PE X b (tD X G da)) (hs : isStar b = false) :
    PE X (.Call (.Name "list" p) [.Call (.Name "range" p2) [b] [] pos2] [] pos) (tF X G (dLstRg da)) :=
  PE.imp (pe_listRg hc Bl.g Bl.m (prg_1 Br.g Br.m hb (star_cons hs)) (star_cons rfl)) fun σ H Q ⟨g, own, env, h, o, r, l, q⟩ => ⟨g, own, env, h, o, r, l, (Post.bind q).imp fun g1 H1 d h1 e1 r1 q1 v qv => by
    cases d with
    | int j =>
      cases (show v = V.int j from qv)
      have q1 : Post X G g1 H1 (if decide (-1000000000 ≤ j) && decide (j ≤ 16777216) then R.ok (upTo 0 j.toNat) h1 else .bad) _ := q1
      split at q1
      · rename_i hz
        simp only [Bool.and_eq_true, decide_eq_true_eq] at hz
        by_cases neg : True
        · refine ⟨j, rfl, ⟨by decide, by decide, by omega, by omega, by omega⟩, fun p hn => ?_⟩
          have e : rgV 0 j = (List.range j.toNat).map fun i => V.int (i : Nat) := by
            unfold rgV
            rw [Int.sub_zero]
            exact List.map_congr_left fun i _ => by rw [Int.zero_add]
          have e' : upTo 0 j.toNat = (List.range j.toNat).map fun i => D.int (i : Nat) := by
            unfold upTo
            exact List.map_congr_left fun i _ => by rw [Int.zero_add]
          rw [e]
          have rel : ∀ ns : List Nat, RelsS g1 H1 (ns.map fun i => D.int (i : Nat)) (ns.map fun i => V.int (i : Nat)) := fun ns => by
            induction ns with
            | nil => rfl
            | cons n ns ih => exact ⟨_, _, rfl, rfl, ih⟩
          rw [e'] at q1
          exact fresh_now r e1 r1 (rel _) q1 p hn
        · exact absurd trivial neg
      · exact q1.elim
    | _ => exact q1.elim⟩
theorem it_down (r : HRel X.prog X.w g H h) (lo : Int) (n : Nat) : ItOk X (Itc lo (-1) n) g H (downTo lo n) where
  goes := fun g' H' h' i hi e r' => by
    show i < n
    simpa [downTo] using hi
  stops := fun g' H' h' e r' => by
    show n ≤ _
    simp [downTo]
  yields := fun g' H' h' i x H'' hi e r' y => by
    obtain ⟨y1, y2⟩ := y
    subst y1; subst y2
    refine ⟨g', .int (lo - (i : Nat)), Ext.refl r', r', ?_, ?_⟩
    · have : i < n := by simpa [downTo] using hi
      simp [downTo, this]
    · show V.int _ = V.int _
      congr 1
      omega
theorem range3_ {v : Value} (B : BltOk X "range" v) (ha : PA X [a, b, c] (tA X G dr)) (h1 : isStar a = false) (h2 : isStar b = false) (h3 : isStar c = false) : PI X tg (.Call (.Name "range" p) [a, b, c] [] pos) (tI X G (dRng3 dr)) :=
  PI.imp (pi_range3 B.g B.m ha (by rw [star_cons h1]) (by rw [star_cons h2, star_cons h3]; rfl)) fun σ H R ⟨g, own, env, h, o, r, l, q⟩ => ⟨g, own, env, h, o, r, l, (Post.bind q).imp fun g1 H1 ds h1 e1 r1 q1 vs qv => by
    unfold rng3 at q1
    split at q1
    · rename_i i j c
      obtain ⟨y, z, w, rfl, z1, z2, z3⟩ := rel3 qv
      cases (show y = V.int i from z1)
      cases (show z = V.int j from z2)
      cases (show w = V.int c from z3)
      split at q1
      · rename_i hz
        simp only [Bool.and_eq_true, decide_eq_true_eq] at hz
        obtain ⟨hz, rfl⟩ := hz
        exact ⟨i, j, -1, (i - j).toNat, rfl, RgC.neg (by omega) (by omega) (by omega) (by omega), Post.now r1 q1 _ (it_down r1 i (i - j).toNat)⟩
      · exact q1.elim
    · exact q1.elim⟩
end
end EV
/-! EV101: a head's look at fewer objects: what the top's names reach, without the insides of built-in classes -/
namespace EV
open PySem L2
def rfx (o : Obj) : List Addr := match o.data with
  | .func fd => He.refV fd.code ++ He.refV fd.defaults ++ He.refV fd.kwdefaults ++ fd.closure.map (·.2)
  | .cls cd => cd.ns :: (He.refV o.cls ++ cd.mro.flatMap He.refV)
  | .seq its _ => its.toList.flatMap He.refV
  | .cell (some v) => He.refV v
  | _ => []
def rfy (o : Obj) : List Addr := match o.data with
  | .dict es _ => es.toList.flatMap fun e => He.refV e.val
  | .cls cd => [cd.ns]
  | _ => []
def outF (f : Obj → List Addr) (g : Addr → Option Obj) (as : List Addr) : List Addr := as.flatMap fun a => match g a with
  | some o => f o
  | none => []
def asX (g : Addr → Option Obj) : List Addr :=
  let a1 := outF (fun o => He.refsD o) g [mainGlobals]
  let a2 := (outF rfx g a1).eraseDups
  let a3 := outF (fun o => rfy o ++ rfx o) g a2
  let a4 := outF rfx g a3
  mainGlobals :: (a1 ++ a2 ++ a3 ++ a4)
def obX (fa : List He.Fa) (fn : List He.DefD) (g : Addr → Option Obj) : He.AlD := He.obsD fa fn (He.frG g (asX g))
def hookX (fa : List He.Fa) (fn : List He.DefD) : PySem.W.Hook where
  α := He.AlD
  obs := fun s => obX fa fn s.heap.get?
  val := fun _ => He.valD fn
  says := fun _ h => ∃ K : PySem.W.Frag, K.In h ∧ He.SaysD fa fn K
  of := fun _ _ e => ⟨_, He.frG_in, e⟩
  keeps := fun _ _ _ ⟨K, hK, c⟩ k => ⟨K, PySem.W.Frag.In.keeps hK k, c⟩
theorem obX_eq {fa : List He.Fa} {fn : List He.DefD} {g : Addr → Option Obj} {s : Shared} (h : ∀ a, g a = s.heap.get? a) : obX fa fn g = (hookX fa fn).obs s := by
  have e : g = s.heap.get? := funext h
  rw [e] <;> rfl
end EV
/-! EV45: xs.pop(i), xs.pop() of a list that is a cell -/
namespace EV
open PySem L2
def isObjL (h : Cells) (x : D) : Bool := match x with
  | .obj n => match h[n]? with
    | some (.lst _) => true
    | _ => false
  | _ => false
def cPopAt (x y : D) (h : Cells) : R D := match x, y with
  | .obj n, .int i => match h[n]? with
    | some (.lst ds) => if decide (-1000000000 ≤ i) && decide (i ≤ 1000000000) then match ixN ds.length i with
        | some k => match ds[k]? with
          | some d => .ok d (h.set n (.lst (ds.eraseIdx k)))
          | none => .bad
        | none => .bad
      else .bad
    | _ => .bad
  | _, _ => .bad
def dPopAt (a b : DE) : DE := fun fn env h => (a fn env h).bind fun x h1 => if isObjL h1 x = true then (b fn env h1).bind fun y h2 => cPopAt x y h2 else .bad
end EV
/-! EV46: // by divisors up to 2 ** 64 -/
namespace EV
open PySem L2
def dFdivW : O2 := fun x y h => match x, y with
  | .int i, .int j => if decide (0 < j) && decide (j < 18446744073709551616) then .ok (.int (i / j)) h else .bad
  | _, _ => .bad
@[simp] theorem e_fdivW {i j : Int} {h : Cells} : dFdivW (.int i) (.int j) h = if decide (0 < j) && decide (j < 18446744073709551616) then .ok (.int (i / j)) h else .bad := (rfl)
end EV
/-! EV61: a def's own cells are let go when it ends -/
namespace EV
open PySem L2
def lowKs (n : Nat) : List (D × D) → Bool
  | [] => true
  | p :: ps => lowD n p.1 && lowD n p.2 && lowKs n ps
def lowFs (n : Nat) : List (Str × D) → Bool
  | [] => true
  | p :: ps => lowD n p.2 && lowFs n ps
def lowO (n : Nat) : OB → Bool
  | .lst ds => lowDs n ds
  | .dic kvs => lowKs n kvs
  | .ins _ fs => lowFs n fs
  | .mem _ => true
def lowH (n : Nat) : Cells → Bool
  | [] => true
  | o :: os => lowO n o && lowH n os
section
variable {X : Cx} {G : Gx} {g g' g0 : Gh} {H H' H0 : Hp} {h h' : Cells}
theorem Paired.mapM {α β : Type} {R S : α → β → Prop} : ∀ {xs : List α} {ys : List β}, Paired R xs ys → (∀ x ∈ xs, ∀ y, R x y → S x y) → Paired S xs ys := by
  intro xs ys p
  induction p with
  | nil => exact fun _ => .nil
  | cons a _ ih => exact fun k => .cons (k _ (.head _) _ a) (ih fun x hx => k x (.tail _ hx))
mutual
theorem RelS.low : ∀ {d : D} {v : V}, RelS g H d v → lowD g.ρ.length d = true
  | .non, _, _ | .bl _, _, _ | .int _, _, _ | .str _, _, _ | .glob _, _, _ => rfl
  | .tup ds, _, q => by
    simp only [RelS] at q
    obtain ⟨a, xs, e1, e2, e3⟩ := q
    simp only [lowD, RelsS.low e3]
  | .lst ds, _, q => by
    simp only [RelS] at q
    obtain ⟨a, xs, e1, e2, e3⟩ := q
    simp only [lowD, RelsS.low e3]
  | .bor ds, _, q => by simp only [RelS] at q
  | .frz ds, _, q => by
    simp only [RelS] at q
    obtain ⟨a, xs, e1, e2, e3⟩ := q
    simp only [lowD, RelsS.low e3]
  | .obj m, _, q => by
    simp only [RelS] at q
    obtain ⟨a, e1, e2⟩ := q
    simp only [lowD, (List.getElem?_eq_some_iff.mp e2).1, decide_true]
theorem RelsS.low : ∀ {ds : List D} {vs : List V}, RelsS g H ds vs → lowDs g.ρ.length ds = true
  | [], _, _ => by simp only [lowDs]
  | d :: ds, _, q => by
    simp only [RelsS] at q
    obtain ⟨x, rr, e1, e2, e3⟩ := q
    simp only [lowDs, RelS.low e2, RelsS.low e3, Bool.and_true]
end
theorem lowKs_of {n : Nat} : ∀ {ps : List (D × D)}, (∀ p ∈ ps, lowD n p.1 = true ∧ lowD n p.2 = true) → lowKs n ps = true
  | [], _ => rfl
  | q :: ps, l => by simp [lowKs, l q (.head _), lowKs_of fun p hp => l p (.tail _ hp)]
theorem lowFs_of {n : Nat} : ∀ {ps : List (Str × D)}, (∀ p ∈ ps, lowD n p.2 = true) → lowFs n ps = true
  | [], _ => rfl
  | q :: ps, l => by simp [lowFs, l q (.head _), lowFs_of fun p hp => l p (.tail _ hp)]
theorem lowH_of {n : Nat} : ∀ {os : Cells}, (∀ o ∈ os, lowO n o = true) → lowH n os = true
  | [], _ => rfl
  | q :: ps, l => by simp [lowH, l q (.head _), lowH_of fun p hp => l p (.tail _ hp)]
theorem Paired.mem1 {α β : Type} {R : α → β → Prop} : ∀ {xs : List α} {ys : List β}, Paired R xs ys → ∀ x ∈ xs, ∃ y, R x y := by
  intro xs ys p
  induction p with
  | nil => exact fun _ h => nomatch h
  | cons a _ ih =>
    intro x hx
    rcases List.mem_cons.mp hx with rfl | hx
    · exact ⟨_, a⟩
    · exact ih x hx
theorem keyD_low {n : Nat} {k : Key} : lowD n (keyD k) = true := by cases k <;> rfl
theorem HRel.low (r : HRel X.prog X.w g H h) : lowH h.length h = true := by
  rw [← r.len]
  refine lowH_of fun o ho => ?_
  obtain ⟨m, hm⟩ := List.getElem?_of_mem ho
  have hl : m < g.ρ.length := by rw [r.len]; exact (List.getElem?_eq_some_iff.mp hm).1
  have q := r.at_ m g.ρ[m] o (by simp [hl]) hm
  cases o with
  | lst ds =>
    obtain ⟨xs, h1, h2⟩ := q
    exact RelsS.low h2
  | dic kvs =>
    refine lowKs_of fun p hp => ?_
    cases (show Dic _ _ _ _ _ _ from q) with
    | k xs h1 h2 =>
      obtain ⟨y, e1, e2⟩ := Paired.mem1 h2 p hp
      exact ⟨by rw [e1]; exact keyD_low, RelS.low e2⟩
    | t xs h1 h2 h3 h4 h5 =>
      obtain ⟨y, _, _, e1, v, _, e2⟩ := Paired.mem1 h5 p hp
      exact ⟨RelS.low e1, RelS.low e2⟩
  | ins c fs =>
    obtain ⟨C, dx, vs, h1, h2, h3⟩ := q
    refine lowFs_of fun p hp => ?_
    obtain ⟨y, _, e2⟩ := Paired.mem1 h3 p hp
    exact RelS.low e2
  | mem M => rfl
end
/-! ### a list of one's own is lent -/
def noLstK : List (D × D) → Bool
  | [] => true
  | p :: ps => noLst p.1 && noLst p.2 && noLstK ps
def noLstF : List (Str × D) → Bool
  | [] => true
  | p :: ps => noLst p.2 && noLstF ps
def noLstO : OB → Bool
  | .lst ds => noLsts ds
  | .dic kvs => noLstK kvs
  | .ins _ fs => noLstF fs
  | .mem _ => true
def noLstH : Cells → Bool
  | [] => true
  | o :: os => noLstO o && noLstH os
section
variable {X : Cx} {G : Gx} {g g' g0 : Gh} {H H' H0 : Hp} {h h' : Cells} {p : Addr}
def Gh.back (g : Gh) (p : Addr) : Gh := { g with W := fun a => g.W a ∨ a = p }
mutual
theorem RelS.back : ∀ {d : D} {v : V}, noLst d = true → RelS g H d v → RelS (g.back p) H d v
  | .non, _, _, q | .bl _, _, _, q | .int _, _, _, q | .str _, _, _, q => by simpa only [RelS] using q
  | .tup ds, _, l, q => by
    simp only [RelS] at q ⊢
    obtain ⟨a, xs, e1, e2, e3⟩ := q
    exact ⟨a, xs, e1, e2, RelsS.back (by simpa only [noLst] using l) e3⟩
  | .lst ds, _, l, q => by simp only [noLst, Bool.false_eq_true] at l
  | .bor ds, _, _, q => by simp only [RelS] at q
  | .frz ds, _, l, q => by
    simp only [RelS] at q ⊢
    obtain ⟨a, xs, e1, e2, e3⟩ := q
    exact ⟨a, xs, e1, e2, RelsS.back (by simpa only [noLst] using l) e3⟩
  | .obj m, _, l, q => by
    simp only [RelS] at q ⊢
    exact q
  | .glob i, _, _, q => by
    simp only [RelS] at q ⊢
    exact q
theorem RelsS.back : ∀ {ds : List D} {vs : List V}, noLsts ds = true → RelsS g H ds vs → RelsS (g.back p) H ds vs
  | [], _, _, q => by simpa only [RelsS] using q
  | d :: ds, _, l, q => by
    simp only [noLsts, Bool.and_eq_true] at l
    simp only [RelsS] at q ⊢
    obtain ⟨x, rr, e1, e2, e3⟩ := q
    exact ⟨x, rr, e1, RelS.back l.1 e2, RelsS.back l.2 e3⟩
end
theorem noLstK_mem : ∀ {ps : List (D × D)}, noLstK ps = true → ∀ p ∈ ps, noLst p.1 = true ∧ noLst p.2 = true
  | [], _, _, m => by cases m
  | q :: ps, l, p, m => by
    simp only [noLstK, Bool.and_eq_true] at l
    rcases List.mem_cons.mp m with rfl | m
    · exact l.1
    · exact noLstK_mem l.2 p m
theorem noLstF_mem : ∀ {ps : List (Str × D)}, noLstF ps = true → ∀ p ∈ ps, noLst p.2 = true
  | [], _, _, m => by cases m
  | q :: ps, l, p, m => by
    simp only [noLstF, Bool.and_eq_true] at l
    rcases List.mem_cons.mp m with rfl | m
    · exact l.1
    · exact noLstF_mem l.2 p m
theorem noLstH_mem : ∀ {os : Cells}, noLstH os = true → ∀ o ∈ os, noLstO o = true
  | [], _, _, m => by cases m
  | q :: ps, l, p, m => by
    simp only [noLstH, Bool.and_eq_true] at l
    rcases List.mem_cons.mp m with rfl | m
    · exact l.1
    · exact noLstH_mem l.2 p m
theorem noLstH_app : ∀ {a b : Cells}, noLstH (a ++ b) = (noLstH a && noLstH b)
  | [], _ => rfl
  | o :: a, b => by simp [noLstH, noLstH_app (a := a) (b := b), Bool.and_assoc]
theorem noLstH_set {o : OB} (ho : noLstO o = true) : ∀ {a : Cells} {n : Nat}, noLstH a = true → noLstH (a.set n o) = true
  | [], _, _ => rfl
  | x :: a, 0, q => by
    simp only [noLstH, Bool.and_eq_true] at q
    simp [noLstH, ho, q.2]
  | x :: a, n + 1, q => by
    simp only [noLstH, Bool.and_eq_true] at q
    simp [noLstH, q.1, noLstH_set ho (a := a) (n := n) q.2]
theorem cellBack {a : Addr} {o : OB} (l : noLstO o = true) (q : CellRel X.prog X.w g H a o) : CellRel X.prog X.w (g.back p) H a o := by
  cases o with
  | lst ds =>
    obtain ⟨xs, h1, h2⟩ := q
    exact ⟨xs, h1, RelsS.back l h2⟩
  | dic kvs =>
    have lm := noLstK_mem (ps := kvs) l
    cases (show Dic _ _ _ _ _ _ from q) with
    | k xs h1 h2 => exact Dic.k xs h1 (Paired.mapM h2 fun x hx _ z => ⟨z.1, RelS.back (lm x hx).2 z.2⟩)
    | t xs h1 h2 h3 h4 h5 => exact Dic.t xs h1 h2 h3 h4 (Paired.mapM h5 fun x hx _ z => ⟨z.1, z.2.1, RelS.back (lm x hx).1 z.2.2.1, let ⟨v, z1, z2⟩ := z.2.2.2; ⟨v, z1, RelS.back (lm x hx).2 z2⟩⟩)
  | ins c fs =>
    have lm := noLstF_mem (ps := fs) l
    obtain ⟨C, dx, vs, h1, h2, h3⟩ := q
    exact ⟨C, dx, vs, h1, h2, Paired.mapM h3 fun x hx _ z => ⟨z.1, RelS.back (lm x hx) z.2⟩⟩
  | mem M =>
    obtain ⟨kvs, h1, h2⟩ := q
    have lm := fun x hx => (M.low kvs h1 x hx).2
    refine ⟨kvs, h1, ?_⟩
    cases h2 with
    | k xs h1 h2 => exact Dic.k xs h1 (Paired.mapM h2 fun x hx _ z => ⟨z.1, RelS.back (lm x hx).2 z.2⟩)
    | t xs h1 h2 h3 h4 h5 => exact Dic.t xs h1 h2 h3 h4 (Paired.mapM h5 fun x hx _ z => ⟨z.1, z.2.1, RelS.back (lm x hx).1 z.2.2.1, let ⟨v, z1, z2⟩ := z.2.2.2; ⟨v, z1, RelS.back (lm x hx).2 z2⟩⟩)
theorem HRel.back {xs : List V} (r : HRel X.prog X.w g' H' h') (hp : H' p = some (.lst xs)) (l : noLstH h' = true) : HRel X.prog X.w (g'.back p) H' h' where
  len := r.len
  nd := r.nd
  wr := fun a m => .inl (r.wr a m)
  wt := fun a u z e => by
    rcases z with z | rfl
    · exact r.wt a u z e
    · rw [hp] at e
      cases e
      exact ⟨(fun ys z => by cases z), (fun _ _ z => by cases z)⟩
  at_ := fun m a o e1 e2 => cellBack (noLstH_mem l o (List.mem_of_getElem? e2)) (r.at_ m a o e1 e2)
end
end EV
/-! EV71: dicts whose keys are tuples (of tuples) -/
namespace EV
open PySem L2
/-- a tuple as a key -/
def dicKey : D → Option NestedKey
  | .tup ds => match D.key (.tup ds) with
    | some k => if k.depth ≤ 8 then some k else none
    | none => none
  | _ => none
def dicAt (kvs : List (D × D)) (k : NestedKey) : Option D := (kvs.find? fun p => decide (D.key p.1 = some k)).map (·.2)
section
variable {X : Cx} {G : Gx} {g g' g0 : Gh} {H H' H0 : Hp} {h h' : Cells} {own : Nat → Option Addr} {env : Ev} {σ : L2.St} {pins : List (Addr × Obj)} {s : Shared}
abbrev KvR (g : Gh) (H : Hp) (kvs : List (D × D)) (xs : List (NestedKey × Addr × Value)) : Prop :=
  Paired (fun (p : D × D) (q : NestedKey × Addr × Value) => D.key p.1 = some q.1 ∧ q.1.depth ≤ 8 ∧ RelS g H p.1 (.ref q.2.1) ∧ ∃ v, RelV v q.2.2 ∧ RelS g H p.2 v) kvs xs
theorem KvR.get {kvs : List (D × D)} {xs : List (NestedKey × Addr × Value)} (r : KvR g H kvs xs) (k : NestedKey) :
    (dicAt kvs k = none ∧ atKey xs k = none) ∨ ∃ d p v, dicAt kvs k = some d ∧ atKey xs k = some p ∧ RelV v p.2 ∧ RelS g H d v := by
  induction r with
  | nil => exact .inl ⟨rfl, rfl⟩
  | @cons p q ps qs h t ih =>
    obtain ⟨h1, h2, h3, v, h4, h5⟩ := h
    by_cases e : q.1 = k
    · refine .inr ⟨p.2, q.2, v, ?_, ?_, h4, h5⟩
      · simp [dicAt, List.find?_cons, h1, e]
      · simp [atKey, List.find?_cons, e]
    · have a1 : dicAt (p :: ps) k = dicAt ps k := by simp [dicAt, List.find?_cons, h1, e]
      have a2 : atKey (q :: qs) k = atKey qs k := by simp [atKey, List.find?_cons, e]
      rw [a1, a2]; exact ih
end
end EV
/-! EV72: memos: dicts whose pairs are not told, only what they keep -/
/-! EV73: list(range(a, b)) -/
/-! EV23: reading what is computed, with no program in sight -/
namespace EV
open PySem L2
/-- it goes well, and then Q -/
def wp {α : Type} (r : R α) (Q : α → Cells → Prop) : Prop := ∃ a h, r = .ok a h ∧ Q a h
section
variable {α β : Type} {fn : Fns} {env : Ev} {h : Cells}
@[simp] theorem wp_ok {a : α} {Q : α → Cells → Prop} : wp (.ok a h) Q = Q a h := propext ⟨(fun ⟨_, _, e, q⟩ => by cases e; exact q), fun q => ⟨a, h, rfl, q⟩⟩
@[simp] theorem wp_bad {Q : α → Cells → Prop} : wp .bad Q = False := propext ⟨(fun ⟨_, _, e, _⟩ => by cases e), False.elim⟩
@[simp] theorem wp_bind {r : R α} {f : α → Cells → R β} {Q : β → Cells → Prop} : wp (r.bind f) Q = wp r fun a h => wp (f a h) Q := by
  cases r with
  | ok a h => rw [wp_ok]; rfl
  | exc e h => exact propext ⟨(fun ⟨_, _, e, _⟩ => by cases e), (fun ⟨_, _, e, _⟩ => by cases e)⟩
  | bad => rw [wp_bad]; exact propext ⟨(fun ⟨_, _, e, _⟩ => by cases e), False.elim⟩
theorem wp_mono {r : R α} {Q Q' : α → Cells → Prop} (w : wp r Q) (k : ∀ a h, Q a h → Q' a h) : wp r Q' := by
  obtain ⟨a, h, e, q⟩ := w
  exact ⟨a, h, e, k a h q⟩
theorem wp_get {r : R α} {Q : α → Cells → Prop} (w : wp r Q) : ∃ a h, r = .ok a h ∧ Q a h := w
@[simp] theorem ok_bind {a : α} {f : α → Cells → R β} : R.bind (.ok a h) f = f a h := (rfl)
@[simp] theorem nox_ok {a : α} : R.nox (.ok a h) = .ok a h := (rfl)
@[simp] theorem e_dC {d : D} : dC d fn env h = .ok d h := (rfl)
@[simp] theorem e_dVar {i : Nat} : dVar i fn env h = match env[i]? with
  | some (.val d) => .ok d h
  | some (.own ds) => .ok (.bor ds) h
  | _ => .bad := (rfl)
@[simp] theorem e_dOp1 {o : O1} {a : DE} : dOp1 o a fn env h = (a fn env h).bind fun x h1 => o x h1 := (rfl)
@[simp] theorem e_dOp2 {o : O2} {a b : DE} : dOp2 o a b fn env h = (a fn env h).bind fun x h1 => (b fn env h1).bind fun y h2 => o x y h2 := (rfl)
@[simp] theorem e_dOpN {o : ON} {a : DA} : dOpN o a fn env h = (a fn env h).bind fun x h1 => o x h1 := (rfl)
@[simp] theorem e_daNil : daNil fn env h = .ok [] h := (rfl)
@[simp] theorem e_daCons {a : DE} {b : DA} : daCons a b fn env h = (a fn env h).bind fun d h1 => (b fn env h1).bind fun ds h2 => .ok (d :: ds) h2 := (rfl)
@[simp] theorem e_dTup {a : DA} : dTup a fn env h = (a fn env h).bind fun ds h1 => mkTup ds h1 := (rfl)
@[simp] theorem e_dLst {a : DA} : dLst a fn env h = (a fn env h).bind fun ds h1 => mkLst ds h1 := (rfl)
@[simp] theorem e_dAnd {a b : DE} : dAnd a b fn env h = (a fn env h).bind fun d h1 => (dTru d h1).bind fun k h2 => if k = true then b fn env h2 else .ok d h2 := (rfl)
@[simp] theorem e_dOr {a b : DE} : dOr a b fn env h = (a fn env h).bind fun d h1 => (dTru d h1).bind fun k h2 => if k = true then .ok d h2 else b fn env h2 := (rfl)
@[simp] theorem e_dNot {a : DE} : dNot a fn env h = (a fn env h).bind fun d h1 => (dTru d h1).bind fun k h2 => .ok (.bl (!k)) h2 := (rfl)
@[simp] theorem e_dIf {t : DT} {a b : DE} : dIf t a b fn env h = (t fn env h).bind fun k h1 => if k = true then a fn env h1 else b fn env h1 := (rfl)
@[simp] theorem e_dtAnd {a b : DT} : dtAnd a b fn env h = (a fn env h).bind fun c h1 => if c = true then b fn env h1 else .ok false h1 := (rfl)
@[simp] theorem e_dtOr {a b : DT} : dtOr a b fn env h = (a fn env h).bind fun c h1 => if c = true then .ok true h1 else b fn env h1 := (rfl)
@[simp] theorem e_dtNot {a : DT} : dtNot a fn env h = (a fn env h).bind fun c h1 => .ok (!c) h1 := (rfl)
@[simp] theorem e_dtB {a : DE} : dtB a fn env h = (a fn env h).bind fun d h => match d with
  | .bl b => .ok b h
  | _ => .bad := (rfl)
@[simp] theorem e_dTruE {a : DE} : dTruE a fn env h = (a fn env h).bind dTru := (rfl)
@[simp] theorem e_dChain {o o' : O2} {a b c : DE} : dChain o o' a b c fn env h = (a fn env h).bind fun x h1 => (b fn env h1).bind fun y h2 => (o x y h2).bind fun z h3 => match z with
  | .bl true => (c fn env h3).bind fun w h4 => o' y w h4
  | .bl false => .ok (.bl false) h3
  | _ => .bad := (rfl)
@[simp] theorem e_dIsi {a : DE} {ts : List Ty} : dIsi a ts fn env h = (a fn env h).bind fun d h1 => match tyOf h1 d with
  | some t => .ok (.bl (ts.any fun u => t.isa u)) h1
  | none => .bad := (rfl)
@[simp] theorem e_dCall {i n nk : Nat} {src : List Src} {dd : List D} {da dk : DA} : dCall i n nk src dd da dk fn env h = (da fn env h).bind fun ds h1 => (dk fn env h1).bind fun ks h2 => mkCall i n nk src dd fn ds ks h2 := (rfl)
@[simp] theorem e_dPart {a : DE} : dPart a fn env h = (a fn env h).bind fun d h1 => match d with
  | .int i => .ok (some i) h1
  | _ => .bad := (rfl)
@[simp] theorem e_dNoPart : dNoPart fn env h = .ok none h := (rfl)
@[simp] theorem e_dSlice {a : DE} {lo hi : DO} : dSlice a lo hi fn env h = (a fn env h).bind fun d h1 => (lo fn env h1).bind fun l h2 => (hi fn env h2).bind fun u h3 => dSl d l u h3 := (rfl)
@[simp] theorem e_dRev {a : DE} : dRev a fn env h = (a fn env h).bind fun d h1 => dRevL h1 d := (rfl)
@[simp] theorem e_asVal {df : DF} : asVal df fn env h = (df fn env h).bind fun ds h1 => .ok (.lst ds) h1 := (rfl)
@[simp] theorem e_asCell {df : DF} : asCell df fn env h = (df fn env h).bind fun ds h1 => .ok (.obj h1.length) (h1 ++ [.lst ds]) := (rfl)
@[simp] theorem e_dDisp {da : DA} : dDisp da fn env h = (da fn env h).bind fun ds h1 => if noBors ds && decide (ds.length ≤ szL) then .ok ds h1 else .bad := (rfl)
@[simp] theorem e_dListF {da : DA} : dListF da fn env h = (da fn env h).bind fun ds h1 => cList ds h1 := (rfl)
@[simp] theorem e_dComp {vs : List Nat} {pt : Pat} {di : DF} {tt : DT} {te : DE} : dComp vs pt di tt te fn env h = (di fn env h).bind fun ds h1 => if decide (ds.length ≤ szL) then compL pt tt te fn (wipeE env vs) ds h1 else .bad := (rfl)
@[simp] theorem e_dtYes : dtYes fn env h = .ok true h := (rfl)
@[simp] theorem e_dItems {a : DE} : dItems a fn env h = (a fn env h).bind fun d h1 => itemsOf d h1 := (rfl)
@[simp] theorem e_dRng1 {a : DA} : dRng1 a fn env h = (a fn env h).bind fun ds h1 => rng1 ds h1 := (rfl)
@[simp] theorem e_dRng2 {a : DA} : dRng2 a fn env h = (a fn env h).bind fun ds h1 => rng2 ds h1 := (rfl)
@[simp] theorem e_dEnumA {a : DA} : dEnumA a fn env h = (a fn env h).bind enumA := (rfl)
@[simp] theorem e_dF2 {o : D → D → Cells → R (List D)} {a b : DE} : dF2 o a b fn env h = (a fn env h).bind fun x h1 => (b fn env h1).bind fun y h2 => o x y h2 := (rfl)
@[simp] theorem e_dZip {a : DA} : dZip a fn env h = (a fn env h).bind zipD := (rfl)
@[simp] theorem e_dEnum {a : DA} : dEnum a fn env h = (a fn env h).bind enumD := (rfl)
@[simp] theorem e_sRet {a : DE} : sRet a fn env h = (a fn env h).bind fun d h1 => if isBor d then .bad else .ok (.rt d, env) h1 := (rfl)
@[simp] theorem e_sRetN : sRetN fn env h = .ok (.rt .non, env) h := (rfl)
@[simp] theorem e_sNext : sNext fn env h = .ok (.nx, env) h := (rfl)
@[simp] theorem e_sSeq {a b : DS} : sSeq a b fn env h = (a fn env h).bind fun x h1 => match x.1 with
  | .nx => b fn x.2 h1
  | _ => .ok x h1 := (rfl)
@[simp] theorem e_sIf {t : DT} {a b : DS} : sIf t a b fn env h = (t fn env h).bind fun k h1 => if k = true then a fn env h1 else b fn env h1 := (rfl)
@[simp] theorem e_sSet {i : Nat} {a : DE} : sSet i a fn env h = (a fn env h).bind fun d h1 => setV i d env h1 := (rfl)
@[simp] theorem e_sOwn {i : Nat} {df : DF} : sOwn i df fn env h = (df fn env h).bind fun ds h1 => if decide (env.length ≤ i) then .bad else .ok (.nx, env.set i (.own ds)) h1 := (rfl)
@[simp] theorem e_sExpr {a : DE} : sExpr a fn env h = (a fn env h).bind fun _ h1 => .ok (.nx, env) h1 := (rfl)
@[simp] theorem e_sFor {pt : Pat} {di : DF} {b : DS} : sFor pt di b fn env h = (di fn env h).bind fun ds h1 => forL pt b fn ds env h1 := (rfl)
@[simp] theorem e_sAsg {a : DE} {b : DG} : sAsg a b fn env h = (a fn env h).bind fun d h1 => if isBor d then .bad else b d fn env h1 := (rfl)
@[simp] theorem e_sFrz {is : List Nat} {a : DS} : sFrz is a fn env h = a fn (frzs is env) h := (rfl)
@[simp] theorem e_sFrzA {is : List Nat} {a : DS} : sFrzA is a fn env h = (a fn env h).bind fun x h1 => .ok (x.1, frzs is x.2) h1 := (rfl)
@[simp] theorem e_dmV {a : DE} : dmV a fn env h = (a fn env h).bind fun d h1 => if isBor d then .bad else .ok (.v d) h1 := (rfl)
@[simp] theorem e_dmO {a : DF} : dmO a fn env h = (a fn env h).bind fun ds h1 => .ok (.o ds) h1 := (rfl)
@[simp] theorem e_sPar2 {i j : Nat} {a b : DM} : sPar2 i j a b fn env h = (a fn env h).bind fun x h1 => (b fn env h1).bind fun y h2 => match putIt i x env with
  | some env1 => match putIt j y env1 with
    | some env2 => .ok (.nx, env2) h2
    | none => .bad
  | none => .bad := (rfl)
@[simp] theorem e_sPar3 {i j k : Nat} {a b c : DM} : sPar3 i j k a b c fn env h = (a fn env h).bind fun x h1 => (b fn env h1).bind fun y h2 => (c fn env h2).bind fun z h3 => match putIt i x env with
  | some env1 => match putIt j y env1 with
    | some env2 => match putIt k z env2 with
      | some env3 => .ok (.nx, env3) h3
      | none => .bad
    | none => .bad
  | none => .bad := (rfl)
@[simp] theorem e_gName' {i : Nat} {d : D} : gName' i d fn env h = setV i d env h := (rfl)
@[simp] theorem e_gIx {i : Nat} {a : DE} {d : D} : gIx i a d fn env h = match slotL env h i with
  | some _ => (a fn env h).bind fun k h1 => setAt i k d env h1
  | none => .bad := (rfl)
@[simp] theorem e_gsNil : gsNil [] fn env h = .ok (.nx, env) h := (rfl)
@[simp] theorem e_gsCons {a : DG} {b : List D → DS} {d : D} {ds : List D} : gsCons a b (d :: ds) fn env h = sSeq (a d) (b ds) fn env h := (rfl)
@[simp] theorem e_gTup {n : Nat} {a : List D → DS} {ds : List D} : gTup n a (.tup ds) fn env h = if ds.length = n then a ds fn env h else .bad := (rfl)
@[simp] theorem e_sAug {i : Nat} {o : O2} {a : DE} : sAug i o a fn env h = match env[i]? with
  | some (.val d) => (a fn env h).bind fun e h1 => (o d e h1).bind fun z h2 => setV i z env h2
  | _ => .bad := (rfl)
@[simp] theorem e_sAppend {i : Nat} {a : DE} : sAppend i a fn env h = match slotL env h i with
  | some _ => (a fn env h).bind fun d h1 => appendAt i d env h1
  | none => .bad := (rfl)
@[simp] theorem e_sExtend {i : Nat} {a : DE} : sExtend i a fn env h = match slotL env h i with
  | some _ => (a fn env h).bind fun d h1 => extendAt i d env h1
  | none => .bad := (rfl)
@[simp] theorem e_body {n : Nat} {m : DS} {ds : List D} : bodyF n m fn ds h = (m fn (startE n ds) h).bind endF := (rfl)
@[simp] theorem e_start {n : Nat} {ds : List D} : startE n ds = ds.map Sl.val ++ List.replicate (n - ds.length) Sl.no := (rfl)
@[simp] theorem e_call {i n nk : Nat} {src : List Src} {dd ds ks : List D} : mkCall i n nk src dd fn ds ks h = if noBors ds && noBors ks && decide (ds.length = n) && decide (ks.length = nk) then match arrange ds ks dd src with
    | some zs => fn i zs h
    | none => .bad
  else .bad := (rfl)
@[simp] theorem e_nb0 : noBors [] = true := (rfl)
@[simp] theorem e_nb1 {d : D} {ds : List D} : noBors (d :: ds) = (!isBor d && noBors ds) := (rfl)
@[simp] theorem e_ar0 {α : Type} {us ws ds : List α} : arrange us ws ds [] = some [] := (rfl)
@[simp] theorem e_ar1 {α : Type} {us ws ds : List α} {s : Src} {r : List Src} : arrange us ws ds (s :: r) = match s.get us ws ds, arrange us ws ds r with
  | some x, some xs => some (x :: xs)
  | _, _ => none := (rfl)
@[simp] theorem e_srp {α : Type} {us ws ds : List α} {i : Nat} : Src.get us ws ds (.p i) = us[i]? := (rfl)
@[simp] theorem e_srk {α : Type} {us ws ds : List α} {i : Nat} : Src.get us ws ds (.k i) = ws[i]? := (rfl)
@[simp] theorem e_bor1 {ds : List D} : isBor (.bor ds) = true := (rfl)
@[simp] theorem e_bor2 : isBor .non = false := (rfl)
@[simp] theorem e_bor3 {b : Bool} : isBor (.bl b) = false := (rfl)
@[simp] theorem e_bor4 {i : Int} : isBor (.int i) = false := (rfl)
@[simp] theorem e_bor5 {s : Str} : isBor (.str s) = false := (rfl)
@[simp] theorem e_bor6 {ds : List D} : isBor (.tup ds) = false := (rfl)
@[simp] theorem e_bor7 {ds : List D} : isBor (.lst ds) = false := (rfl)
@[simp] theorem e_bor8 {ds : List D} : isBor (.frz ds) = false := (rfl)
@[simp] theorem e_bor9 {n : Nat} : isBor (.obj n) = false := (rfl)
@[simp] theorem e_endR {d : D} {env : Ev} : endF (.rt d, env) h = .ok d h := (rfl)
@[simp] theorem e_endN {env : Ev} : endF (.nx, env) h = .ok .non h := (rfl)
@[simp] theorem e_setV {i : Nat} {d : D} : setV i d env h = if isBor d || decide (env.length ≤ i) then .bad else .ok (.nx, env.set i (.val d)) h := (rfl)
@[simp] theorem e_mkTup {ds : List D} : mkTup ds h = if noBors ds && decide (ds.length ≤ szL) then .ok (.tup ds) h else .bad := (rfl)
@[simp] theorem e_mkLst {ds : List D} : mkLst ds h = if noBors ds && decide (ds.length ≤ szL) then .ok (.lst ds) h else .bad := (rfl)
@[simp] theorem e_szL : szL = 16777216 := (rfl)
@[simp] theorem e_put1 {i : Nat} {d : D} : Pat.put (.name i) d env = if isBor d || decide (env.length ≤ i) then none else some (env.set i (.val d)) := by simp [Pat.put]
@[simp] theorem e_putT {ps : List Pat} {ds : List D} : Pat.put (.tup ps) (.tup ds) env = Pat.puts ps ds env := by simp [Pat.put]
@[simp] theorem e_puts0 : Pat.puts [] [] env = some env := by simp [Pat.puts]
@[simp] theorem e_puts1 {p : Pat} {ps : List Pat} {d : D} {ds : List D} : Pat.puts (p :: ps) (d :: ds) env = match Pat.put p d env with
    | some env' => Pat.puts ps ds env'
    | none => none := by rw [Pat.puts] <;> cases Pat.put p d env <;> rfl
@[simp] theorem e_wipe0 : wipeE env [] = env := (rfl)
@[simp] theorem e_wipe1 {v : Nat} {vs : List Nat} : wipeE env (v :: vs) = (wipeE env vs).set v .no := (rfl)
@[simp] theorem e_addI {i j : Int} : dAdd (.int i) (.int j) h = .ok (.int (i + j)) h := (rfl)
@[simp] theorem e_addT {a b : List D} : dAdd (.tup a) (.tup b) h = if a.length + b.length ≤ 16777216 then .ok (.tup (a ++ b)) h else .bad := (rfl)
@[simp] theorem e_addL {a b : List D} : dAdd (.lst a) (.lst b) h = if a.length + b.length ≤ 16777216 then .ok (.lst (a ++ b)) h else .bad := (rfl)
@[simp] theorem e_subI {i j : Int} : dSub (.int i) (.int j) h = .ok (.int (i - j)) h := (rfl)
@[simp] theorem e_negI {i : Int} : dNeg (.int i) h = .ok (.int (-i)) h := (rfl)
@[simp] theorem e_modI {i j : Int} : dMod (.int i) (.int j) h = if 0 < j then .ok (.int (i % j)) h else .bad := (rfl)
@[simp] theorem e_fdivI {i j : Int} : dFdiv (.int i) (.int j) h = if decide (0 < j) && decide (j < 1073741824) then .ok (.int (i / j)) h else .bad := (rfl)
@[simp] theorem e_mulI {i j : Int} : dMul (.int i) (.int j) h = if small64 i || small64 j then .ok (.int (i * j)) h else .bad := (rfl)
@[simp] theorem e_ltI {i j : Int} : dLt (.int i) (.int j) h = .ok (.bl (decide (i < j))) h := (rfl)
@[simp] theorem e_leI {i j : Int} : dLe (.int i) (.int j) h = .ok (.bl (decide (i ≤ j))) h := (rfl)
@[simp] theorem e_gtI {i j : Int} : dGt (.int i) (.int j) h = .ok (.bl (decide (j < i))) h := (rfl)
@[simp] theorem e_geI {i j : Int} : dGe (.int i) (.int j) h = .ok (.bl (decide (j ≤ i))) h := (rfl)
@[simp] theorem e_eqI {i j : Int} : dEq (.int i) (.int j) h = .ok (.bl (decide (i = j))) h := (rfl)
@[simp] theorem e_neI {i j : Int} : dNe (.int i) (.int j) h = .ok (.bl (!decide (i = j))) h := (rfl)
@[simp] theorem e_truB {b : Bool} : dTru (.bl b) h = .ok b h := (rfl)
@[simp] theorem e_truI {i : Int} : dTru (.int i) h = .ok (i != 0) h := (rfl)
@[simp] theorem e_truN : dTru .non h = .ok false h := (rfl)
@[simp] theorem e_truT {ds : List D} : dTru (.tup ds) h = .ok (!ds.isEmpty) h := (rfl)
@[simp] theorem e_truL {ds : List D} : dTru (.lst ds) h = .ok (!ds.isEmpty) h := (rfl)
@[simp] theorem e_truBor {ds : List D} : dTru (.bor ds) h = .ok (!ds.isEmpty) h := (rfl)
@[simp] theorem e_isnB {a b : Bool} : dIsNot (.bl a) (.bl b) h = .ok (.bl (!decide (a = b))) h := (rfl)
@[simp] theorem e_isB {a b : Bool} : dIs (.bl a) (.bl b) h = .ok (.bl (decide (a = b))) h := (rfl)
@[simp] theorem e_itT {ds : List D} : itemsOf (.tup ds) h = .ok ds h := (rfl)
@[simp] theorem e_itL {ds : List D} : itemsOf (.lst ds) h = .ok ds h := (rfl)
@[simp] theorem e_itF {ds : List D} : itemsOf (.frz ds) h = .ok ds h := (rfl)
@[simp] theorem e_tyT {ds : List D} : tyOf h (.tup ds) = some .tup := (rfl)
@[simp] theorem e_tyL {ds : List D} : tyOf h (.lst ds) = some .lst := (rfl)
@[simp] theorem e_tyI {i : Int} : tyOf h (.int i) = some .int := (rfl)
@[simp] theorem e_tyB {b : Bool} : tyOf h (.bl b) = some .bl := (rfl)
@[simp] theorem e_tyS {s : Str} : tyOf h (.str s) = some .str := (rfl)
@[simp] theorem e_tyN : tyOf h .non = some .non := (rfl)
@[simp] theorem e_lenT {ds : List D} : cLen [.tup ds] h = .ok (.int ds.length) h := (rfl)
@[simp] theorem e_lenL {ds : List D} : cLen [.lst ds] h = .ok (.int ds.length) h := (rfl)
@[simp] theorem e_lenF {ds : List D} : cLen [.frz ds] h = .ok (.int ds.length) h := (rfl)
@[simp] theorem e_lenB {ds : List D} : cLen [.bor ds] h = .ok (.int ds.length) h := (rfl)
@[simp] theorem e_tupT {ds : List D} : cTuple [.tup ds] h = .ok (.tup ds) h := (rfl)
@[simp] theorem e_tupL {ds : List D} : cTuple [.lst ds] h = .ok (.tup ds) h := (rfl)
@[simp] theorem e_tupB {ds : List D} : cTuple [.bor ds] h = .ok (.tup ds) h := (rfl)
@[simp] theorem e_cListT {ds : List D} : cList [.tup ds] h = .ok ds h := (rfl)
@[simp] theorem e_cListL {ds : List D} : cList [.lst ds] h = .ok ds h := (rfl)
@[simp] theorem e_int {i : Int} : cInt [.int i] h = .ok (.int i) h := (rfl)
@[simp] theorem e_abs {i : Int} : cAbs [.int i] h = .ok (.int (if i < 0 then -i else i)) h := (rfl)
@[simp] theorem e_max {i j : Int} : cMax [.int i, .int j] h = .ok (.int (if j > i then j else i)) h := (rfl)
@[simp] theorem e_min {i j : Int} : cMin [.int i, .int j] h = .ok (.int (if j < i then j else i)) h := (rfl)
@[simp] theorem e_maxL {i j : Int} : cMaxL [.int i, .int j] h = .ok (.int (if j > i then j else i)) h := (rfl)
@[simp] theorem e_minL {i j : Int} : cMinL [.int i, .int j] h = .ok (.int (if j < i then j else i)) h := (rfl)
@[simp] theorem e_divmod {i j : Int} : cDivmod [.int i, .int j] h = if decide (0 < j) && decide (j < 1073741824) then .ok (.tup [.int (i / j), .int (i % j)]) h else .bad := (rfl)
@[simp] theorem e_rng1 {j : Int} : rng1 [.int j] h = if decide (-1000000000 ≤ j) && decide (j ≤ 1000000000) then .ok (upTo 0 j.toNat) h else .bad := (rfl)
@[simp] theorem e_ixT {ds : List D} {i : Int} : dIx (.tup ds) (.int i) h = match atI ds i with
    | some d => .ok d h
    | none => .bad := (rfl)
@[simp] theorem e_ixL {ds : List D} {i : Int} : dIx (.lst ds) (.int i) h = match atI ds i with
    | some d => .ok d h
    | none => .bad := (rfl)
@[simp] theorem e_ixF {ds : List D} {i : Int} : dIx (.frz ds) (.int i) h = match atI ds i with
    | some d => .ok d h
    | none => .bad := (rfl)
@[simp] theorem e_ixB {ds : List D} {i : Int} : dIx (.bor ds) (.int i) h = match atI ds i with
    | some d => .ok d h
    | none => .bad := (rfl)
@[simp] theorem e_slT {ds : List D} {lo hi : Option Int} : dSl (.tup ds) lo hi h = .ok (.tup (cutD ds lo hi)) h := (rfl)
@[simp] theorem e_revT {ds : List D} : dRevL h (.tup ds) = .ok (.tup ds.reverse) h := (rfl)
@[simp] theorem e_zipT {a b : List D} : zipD [.tup a, .tup b] h = .ok (pairs a b) h := (rfl)
@[simp] theorem e_putV {i : Nat} {d : D} : putIt i (.v d) env = if env.length ≤ i then none else some (env.set i (.val d)) := (rfl)
@[simp] theorem e_putO {i : Nat} {ds : List D} : putIt i (.o ds) env = if env.length ≤ i then none else some (env.set i (.own ds)) := (rfl)
@[simp] theorem e_slotL {i : Nat} : slotL env h i = match env[i]? with
  | some (.own ds) => some ds
  | some (.val (.obj n)) => match h[n]? with
    | some (.lst ds) => some ds
    | _ => none
  | _ => none := (rfl)
@[simp] theorem e_slotP {i : Nat} {ds : List D} : slotPut env h i ds = match env[i]? with
  | some (.own _) => .ok (.nx, env.set i (.own ds)) h
  | some (.val (.obj n)) => .ok (.nx, env) (h.set n (.lst ds))
  | _ => .bad := (rfl)
@[simp] theorem e_setAt {i : Nat} {j : Int} {d : D} : setAt i (.int j) d env h = match slotL env h i with
  | some ds => (match ixN ds.length j with
    | some n => if isBor d then .bad else slotPut env h i (ds.set n d)
    | none => .bad)
  | none => .bad := by unfold setAt; cases slotL env h i <;> rfl
@[simp] theorem e_appendAt {i : Nat} {d : D} : appendAt i d env h = if isBor d then .bad else match slotL env h i with
  | some ds => if decide (ds.length < szL) then slotPut env h i (ds ++ [d]) else .bad
  | none => .bad := (rfl)
@[simp] theorem e_extendL {i : Nat} {es : List D} : extendAt i (.lst es) env h = match slotL env h i with
  | some ds => if decide (ds.length + es.length ≤ szL) then slotPut env h i (ds ++ es) else .bad
  | none => .bad := by unfold extendAt; cases slotL env h i <;> rfl
@[simp] theorem e_frzs0 : frzs [] env = env := (rfl)
@[simp] theorem e_frzs1 {i : Nat} {is : List Nat} : frzs (i :: is) env = frzs is (frz1 i env) := (rfl)
@[simp] theorem e_frz1 {i : Nat} : frz1 i env = match env[i]? with
  | some (.own ds) => env.set i (.val (.lst ds))
  | _ => env := (rfl)
/-- a loop with an invariant by the turn -/
theorem forL_wp {pt : Pat} {body : DS} (P : Nat → Ev → Cells → Prop) : ∀ {ds : List D} {env : Ev} {h : Cells} (n : Nat), P n env h →
    (∀ i d env h, ds[i]? = some d → P (n + i) env h → ∃ env1, Pat.put pt d env = some env1 ∧ wp (body fn env1 h) fun x h1 => (x.1 = .nx ∨ x.1 = .ct) ∧ P (n + i + 1) x.2 h1) →
    wp (forL pt body fn ds env h) fun x h1 => x.1 = .nx ∧ P (n + ds.length) x.2 h1
  | [], env, h, n, p, _ => ⟨_, _, rfl, rfl, p⟩
  | d :: ds, env, h, n, p, st => by
    obtain ⟨env1, e1, w⟩ := st 0 d env h rfl p
    unfold forL
    rw [e1]
    show wp (R.bind _ _) _
    rw [wp_bind]
    refine wp_mono w fun x h1 ⟨hx, p1⟩ => ?_
    have go : wp (forL pt body fn ds x.2 h1) fun x h1 => x.1 = .nx ∧ P (n + (ds.length + 1)) x.2 h1 := by
      have z := forL_wp P (ds := ds) (env := x.2) (h := h1) (n + 1) p1 fun i d env h hd q => by
        obtain ⟨env2, e2, w2⟩ := st (i + 1) d env h (by simpa using hd) (by rw [show n + (i + 1) = n + 1 + i by omega]; exact q)
        exact ⟨env2, e2, wp_mono w2 fun x h ⟨a, b⟩ => ⟨a, by rw [show n + 1 + i + 1 = n + (i + 1) + 1 by omega]; exact b⟩⟩
      exact wp_mono z fun x h ⟨a, b⟩ => ⟨a, by rw [show n + (ds.length + 1) = n + 1 + ds.length by omega]; exact b⟩
    rcases hx with hx | hx
    · simp only [hx]; exact go
    · simp only [hx]; exact go
end
end EV
/-! EV24: plain data -/
namespace EV
open PySem L2
/-- data of at most so many floors -/
def okd : Nat → D → Bool
  | _, .non => true
  | _, .bl _ => true
  | _, .int _ => true
  | _, .str s => PySem.PyData.strOk s
  | n + 1, .tup ds => ds.all (okd n)
  | n + 1, .lst ds => ds.all (okd n)
  | _, _ => false
theorem okd_succ : ∀ {n : Nat} {d : D}, okd n d = true → okd (n + 1) d = true
  | 0, d, h => by cases d <;> first | rfl | (simp [okd] at h ⊢; done) | (simp [okd] at h ⊢; exact h)
  | n + 1, d, h => by
    have up : ∀ {ds : List D}, ds.all (okd n) = true → ds.all (okd (n + 1)) = true := fun {ds} q => by
      rw [List.all_eq_true] at q ⊢
      exact fun x hx => okd_succ (q x hx)
    cases d with
    | tup ds =>
      have h : ds.all (okd n) = true := h
      exact up h
    | lst ds =>
      have h : ds.all (okd n) = true := h
      exact up h
    | non => rfl
    | bl _ => rfl
    | int _ => rfl
    | str s => exact h
    | _ => simp [okd] at h
theorem okd_le {m n : Nat} {d : D} (l : m ≤ n) (h : okd m d = true) : okd n d = true := by
  induction l with
  | refl => exact h
  | step _ ih => exact okd_succ ih
theorem okd_pd : ∀ {n : Nat} {d : D}, okd n d = true → ∃ p, D.pd d = some p ∧ p.canLay0 = true ∧ p.depth ≤ n := by
  intro n
  induction n with
  | zero =>
    intro d h
    cases d <;> first | (simp [okd] at h; done) | skip
    · exact ⟨.none, by simp only [D.pd], rfl, Nat.le_refl _⟩
    · rename_i b; exact ⟨.bool b, by simp only [D.pd], rfl, Nat.le_refl _⟩
    · rename_i i; exact ⟨.int i, by simp only [D.pd], rfl, Nat.le_refl _⟩
    · rename_i s; exact ⟨.str s, by simp only [D.pd], h, Nat.le_refl _⟩
  | succ n ih =>
    have many : ∀ {ds : List D}, ds.all (okd n) = true → ∃ ps, D.pds ds = some ps ∧ PyData.canLayAll0 ps = true ∧ PyData.depthAll ps ≤ n ∧ ps.length = ds.length := by
      intro ds
      induction ds with
      | nil => exact fun _ => ⟨[], by simp only [D.pds], rfl, Nat.zero_le _, rfl⟩
      | cons d ds jh =>
        intro h
        simp only [List.all_cons, Bool.and_eq_true] at h
        obtain ⟨p, h1, h2, h3⟩ := ih h.1
        obtain ⟨ps, h4, h5, h6, h7⟩ := jh h.2
        exact ⟨p :: ps, by simp only [D.pds, h1, h4], by simp [PyData.canLayAll0, h2, h5], by simp [PyData.depthAll]; omega, by simp [h7]⟩
    intro d h
    cases d with
    | tup ds =>
      obtain ⟨ps, h1, h2, h3, _⟩ := many (show ds.all (okd n) = true from h)
      exact ⟨.tuple ps, by simp only [D.pd, h1, Option.map_some], h2, by simp [PyData.depth]; omega⟩
    | lst ds =>
      obtain ⟨ps, h1, h2, h3, _⟩ := many (show ds.all (okd n) = true from h)
      exact ⟨.list ps, by simp only [D.pd, h1, Option.map_some], h2, by simp [PyData.depth]; omega⟩
    | non => exact ⟨.none, by simp only [D.pd], rfl, Nat.zero_le _⟩
    | bl b => exact ⟨.bool b, by simp only [D.pd], rfl, Nat.zero_le _⟩
    | int i => exact ⟨.int i, by simp only [D.pd], rfl, Nat.zero_le _⟩
    | str s => exact ⟨.str s, by simp only [D.pd], h, Nat.zero_le _⟩
    | _ => simp [okd] at h
theorem pdH_eq {h : Cells} {n : Nat} {d : D} (q : okd n d = true) : pdH h d = D.pd d := by
  cases d <;> first | rfl | (cases n <;> simp [okd] at q)
theorem shaped_of {p : PyData} {n : Nat} (h1 : p.canLay0 = true) (h2 : p.depth ≤ n) (hn : n ≤ 64) : SeqAt.shaped p = true := by
  unfold SeqAt.shaped
  simp only [h1, Bool.true_and, decide_eq_true_eq]
  omega
@[simp] theorem e_neS {h : Cells} {s t : Str} : dNe (.str s) (.str t) h = .ok (.bl (!decide (s = t))) h := (rfl)
@[simp] theorem e_eqS {h : Cells} {s t : Str} : dEq (.str s) (.str t) h = .ok (.bl (decide (s = t))) h := (rfl)
@[simp] theorem e_neBl {h : Cells} {s t : Bool} : dNe (.bl s) (.bl t) h = .ok (.bl (!decide (s = t))) h := (rfl)
@[simp] theorem e_eqBl {h : Cells} {s t : Bool} : dEq (.bl s) (.bl t) h = .ok (.bl (decide (s = t))) h := (rfl)
/-! what repr is asked of -/
def okr : Nat → D → Bool
  | _, .non => true
  | _, .bl _ => true
  | _, .int i => decide (i.natAbs < 10 ^ 40)
  | _, .str s => PySem.PyData.strOk s
  | n + 1, .tup ds => ds.all (okr n)
  | n + 1, .lst ds => ds.all (okr n)
  | _, _ => false
def dsz : Nat → D → Nat
  | _, .non => 4
  | _, .bl _ => 5
  | _, .int _ => 41
  | _, .str s => 10 * s.length + 2
  | n + 1, .tup ds => (ds.map fun d => dsz n d + 2).sum + 3
  | n + 1, .lst ds => (ds.map fun d => dsz n d + 2).sum + 3
  | _, _ => 0
theorem int40 {i : Int} (h : i.natAbs < 10 ^ 40) : rok (.int i) = true ∧ rsz (.int i) = 41 := by
  refine ⟨?_, ?_⟩
  · simp only [rok, decide_eq_true_eq]
    by_cases z : i.natAbs = 0
    · rw [z]; decide
    · rw [Nat.log2_lt z]
      refine Nat.lt_of_lt_of_le h ?_
      exact Nat.le_trans (show (10 ^ 40 : Nat) ≤ 2 ^ 200 by decide) (Nat.pow_le_pow_right (by decide) (by decide))
  · simp only [rsz]
    rw [if_pos h]
theorem okr_pd : ∀ {n : Nat} {d : D}, okr n d = true → ∃ p, D.pd d = some p ∧ rok p = true ∧ rsz p ≤ dsz n d ∧ p.depth ≤ n := by
  intro n
  induction n with
  | zero =>
    intro d h
    cases d with
    | non => exact ⟨.none, by simp only [D.pd], rfl, by simp [rsz, dsz], Nat.zero_le _⟩
    | bl b => exact ⟨.bool b, by simp only [D.pd], rfl, by simp [rsz, dsz], Nat.zero_le _⟩
    | int i =>
      obtain ⟨h1, h2⟩ := int40 (by simpa [okr] using h)
      exact ⟨.int i, by simp only [D.pd], h1, by rw [h2]; exact Nat.le_refl _, Nat.zero_le _⟩
    | str s => exact ⟨.str s, by simp only [D.pd], by simpa [rok, okr, PySem.PyData.strOk] using h, by simp [rsz, dsz], Nat.zero_le _⟩
    | _ => simp [okr] at h
  | succ n ih =>
    have many : ∀ {ds : List D}, ds.all (okr n) = true → ∃ ps, D.pds ds = some ps ∧ roks ps = true ∧ rszs ps ≤ (ds.map fun d => dsz n d + 2).sum ∧ PyData.depthAll ps ≤ n := by
      intro ds
      induction ds with
      | nil => exact fun _ => ⟨[], by simp only [D.pds], rfl, Nat.le_refl _, Nat.zero_le _⟩
      | cons d ds jh =>
        intro h
        simp only [List.all_cons, Bool.and_eq_true] at h
        obtain ⟨p, h1, h2, h3, h4⟩ := ih h.1
        obtain ⟨ps, k1, k2, k3, k4⟩ := jh h.2
        exact ⟨p :: ps, by simp only [D.pds, h1, k1], by simp [roks, h2, k2], by simp only [rszs, List.map_cons, List.sum_cons]; omega, by simp [PyData.depthAll]; omega⟩
    intro d h
    cases d with
    | tup ds =>
      obtain ⟨ps, h1, h2, h3, h4⟩ := many (show ds.all (okr n) = true from h)
      exact ⟨.tuple ps, by simp only [D.pd, h1, Option.map_some], h2, by simp only [rsz, dsz]; omega, by simp [PyData.depth]; omega⟩
    | lst ds =>
      obtain ⟨ps, h1, h2, h3, h4⟩ := many (show ds.all (okr n) = true from h)
      exact ⟨.list ps, by simp only [D.pd, h1, Option.map_some], h2, by simp only [rsz, dsz]; omega, by simp [PyData.depth]; omega⟩
    | non => exact ⟨.none, by simp only [D.pd], rfl, by simp [rsz, dsz], Nat.zero_le _⟩
    | bl b => exact ⟨.bool b, by simp only [D.pd], rfl, by simp [rsz, dsz], Nat.zero_le _⟩
    | int i =>
      obtain ⟨h1, h2⟩ := int40 (by simpa [okr] using h)
      exact ⟨.int i, by simp only [D.pd], h1, by rw [h2]; exact Nat.le_refl _, Nat.zero_le _⟩
    | str s => exact ⟨.str s, by simp only [D.pd], by simpa [rok, okr, PySem.PyData.strOk] using h, by simp [rsz, dsz], Nat.zero_le _⟩
    | _ => simp [okr] at h
theorem dsz_le {n B : Nat} : ∀ {xs : List D}, (∀ x ∈ xs, dsz n x ≤ B) → (xs.map fun d => dsz n d + 2).sum ≤ xs.length * (B + 2)
  | [], _ => by simp
  | x :: xs, h => by
    have h1 := h x (List.mem_cons_self ..)
    have h2 := dsz_le (xs := xs) fun y hy => h y (List.mem_cons_of_mem _ hy)
    simp only [List.map_cons, List.sum_cons, List.length_cons, Nat.add_mul]
    omega
end EV
/-! EV28: plain facts that many laws lean on -/
namespace EV
open PySem L2
mutual
/-- a value without cells -/
def pl : D → Bool
  | .non | .bl _ | .int _ | .str _ => true
  | .tup ds => pls ds
  | .lst ds => pls ds
  | _ => false
def pls : List D → Bool
  | [] => true
  | d :: ds => pl d && pls ds
end
theorem pls_mem : ∀ {ds : List D}, pls ds = true → ∀ d ∈ ds, pl d = true
  | e :: ds, h, d, m => by
    simp only [pls, Bool.and_eq_true] at h
    rcases List.mem_cons.mp m with rfl | m
    · exact h.1
    · exact pls_mem h.2 d m
theorem pl_nb {d : D} (h : pl d = true) : isBor d = false := by cases d <;> first | rfl | simp [pl] at h
def isInt : D → Bool
  | .int _ => true
  | _ => false
def isCount : D → Bool
  | .int i => decide (0 ≤ i)
  | _ => false
def isBelow (v : D) (m : Int) : Bool := match v with
  | .int i => decide (0 ≤ i) && decide (i < m)
  | _ => false
theorem bls_map (f : D → Bool) : ∀ {ds : List D}, toBls (ds.map fun d => .bl (f d)) = some (ds.map f)
  | [] => rfl
  | d :: ds => by simp [toBls, bls_map f (ds := ds)]
theorem two {ds : List D} (e : ds.length = 2) : ∃ a b, ds = [a, b] := by
  match ds, e with
  | [a, b], _ => exact ⟨a, b, rfl⟩
theorem at0 {a : D} {ds : List D} : atI (a :: ds) 0 = some a := by
  unfold atI ixN
  simp
theorem at1 {a b : D} {ds : List D} : atI (a :: b :: ds) 1 = some b := by
  unfold atI ixN
  have : (1 : Int) < ((a :: b :: ds).length : Int) := by simp only [List.length_cons]; omega
  rw [if_pos (by decide), if_pos this]
  rfl
theorem okd_pl : ∀ {n : Nat} {d : D}, okd n d = true → pl d = true := by
  intro n
  induction n with
  | zero => intro d q; cases d <;> first | rfl | (simp [okd] at q; done)
  | succ n ih =>
    have many : ∀ {ds : List D}, ds.all (okd n) = true → pls ds = true := by
      intro ds
      induction ds with
      | nil => exact fun _ => rfl
      | cons d ds jh =>
        intro q
        simp only [List.all_cons, Bool.and_eq_true] at q
        simp [pls, ih q.1, jh q.2]
    intro d q
    cases d with
    | tup ds => exact many (show ds.all (okd n) = true from q)
    | lst ds => exact many (show ds.all (okd n) = true from q)
    | _ => first | rfl | (simp [okd] at q; done)
theorem toNat_upTo {n : Int} {i : Nat} {d : D} (e : (upTo 0 n.toNat)[i]? = some d) : d = .int i ∧ (i : Int) < n := by
  unfold upTo at e
  rw [List.getElem?_map] at e
  cases q : (List.range n.toNat)[i]? with
  | none => rw [q] at e; cases e
  | some j =>
    rw [q] at e
    obtain ⟨h1, h2⟩ := List.getElem?_eq_some_iff.mp q
    simp at h1 h2
    subst h2
    simp at e
    exact ⟨e.symm, by omega⟩
theorem str_ok {s : String} : PySem.PyData.strOk (Str.ofString s) = true := by
  unfold PySem.PyData.strOk
  rw [Str.ofString_eq_toList]
  simp
  intro c _
  have := c.valid
  show c.val.toNat < 1114112
  rcases this with z | ⟨_, z⟩
  · exact Nat.lt_trans z (by decide)
  · exact z
end EV
/-! EV29: plain facts: rows of ints, counts, questions, repr, steps through blocks -/
namespace EV
open PySem L2
variable {h : Cells}
def Is (ns : List Int) : List D := ns.map D.int
@[simp] theorem len_Is {ns : List Int} : (Is ns).length = ns.length := by simp [Is]
theorem Is_cons {n : Int} {ns : List Int} : Is (n :: ns) = .int n :: Is ns := rfl
theorem toInts_Is : ∀ {ns : List Int}, toInts (Is ns) = some ns
  | [] => rfl
  | n :: ns => by rw [Is_cons]; simp [toInts, toInts_Is (ns := ns)]
def rest (ns qs : List Int) : List Int := List.zipWith (· - ·) ns qs
def yes (ns qs : List Int) : List Int := List.zipWith (· + ·) qs (0 :: (rest ns qs).dropLast)
def no (ns qs : List Int) : List Int := yes ns (rest ns qs)
def kept (q n : Int) (b : Bool) : Int := if b then q else n - q
def gd (l : List Int) (i : Nat) : Int := l.getD i 0
def kp (ns qs : List Int) (b : Bool) (i : Nat) : Int := if b then gd qs i else gd ns i - gd qs i
def go (ns qs : List Int) (b : Bool) (i : Nat) : Int := gd ns i - kp ns qs b i
theorem stepM {a b : DS} {fn : Fns} {env : Ev} {h : Cells} {Q : Fl × Ev → Cells → Prop} (R : Ev → Cells → Prop) (ha : wp (a fn env h) fun x h1 => x.1 = .nx ∧ R x.2 h1) (hb : ∀ env1 h1, R env1 h1 → wp (b fn env1 h1) Q) : wp (sSeq a b fn env h) Q := by
  rw [e_sSeq, wp_bind]
  refine wp_mono ha fun x h1 ⟨e, r⟩ => ?_
  rw [e]
  exact hb _ _ r
theorem dsz_i {n : Nat} {i : Int} : dsz n (.int i) = 41 := by cases n <;> rfl
end EV
/-! EV32: pure loops, while, steps -/
namespace EV
open PySem L2
section
variable {α β : Type} {fn : Fns} {env : Ev} {h : Cells}
@[simp] theorem e_sWhile {n : Nat} {t : DT} {body : DS} : sWhile n t body fn env h = whileL t body fn n env h := (rfl)
theorem seqQ {a b : DS} {env1 : Ev} {h1 : Cells} (ha : a fn env h = .ok (.nx, env1) h1) : sSeq a b fn env h = b fn env1 h1 := by
  rw [e_sSeq, ha, ok_bind]
end
end EV
/-! EV34: weights -/
namespace EV
open PySem L2
/-- C(j, 0) + .. + C(j, l) -/
def W : Nat → Nat → Int
  | 0, _ => 1
  | j + 1, 0 => 1
  | j + 1, l + 1 => W j (l + 1) + W j l
/-- the parts of a weight -/
def wl : List Int → Nat → List Int
  | [], _ => []
  | n :: ns, j => n * W j ns.length :: wl ns j
end EV
/-! EV35: all questions, by turns -/
/-! EV36: what an answer leaves, by a law's own look -/
namespace EV
open PySem L2
@[simp] theorem e_isNN {h : Cells} : dIs .non .non h = .ok (.bl true) h := (rfl)
@[simp] theorem e_isIN {h : Cells} {i : Int} : dIs (.int i) .non h = .ok (.bl false) h := (rfl)
end EV
/-! EV37: pots and draws of any law -/
namespace EV
open PySem L2
/-- a pot stands at cell n -/
def Pt (n : Nat) (h : Cells) : Prop := ∃ a b, h[n]? = some (.lst [.int a, .int b])
theorem Pt.lt {n : Nat} {h : Cells} (p : Pt n h) : n < h.length := by
  obtain ⟨a, b, e⟩ := p
  exact (List.getElem?_eq_some_iff.mp e).1
/-- only the pot changed -/
def Dr (n : Nat) (h h' : Cells) : Prop := ∃ a b, h' = h.set n (.lst [.int a, .int b])
theorem Dr.pt {n : Nat} {h h' : Cells} (p : Pt n h) (d : Dr n h h') : Pt n h' := by
  obtain ⟨a, b, rfl⟩ := d
  exact ⟨a, b, List.getElem?_set_self p.lt⟩
theorem Dr.trans {n : Nat} {h h' h'' : Cells} (d : Dr n h h') (e : Dr n h' h'') : Dr n h h'' := by
  obtain ⟨a, b, rfl⟩ := d
  obtain ⟨a', b', rfl⟩ := e
  exact ⟨a', b', by rw [List.set_set]⟩
def potM2 (c1 c2 c3 c4 c5 : Int) : DS := sSeq (sSet 2 (dOp2 dAdd (dOp2 dMul (dC (.int c1)) (dVar 1)) (dC (.int c2)))) (sSeq (sIf (dtB (dOp2 dLt (dVar 1) (dOpN cLen (daCons (dVar 0) (daNil))))) (sSet 2 (dOpN cAbs (daCons (dOp2 dIx (dVar 0) (dVar 1)) (daNil)))) (sNext)) (sRet (asCell (dDisp (daCons (dOpN cMaxL (daCons (dC (.int 0)) (daCons (dOp2 dSub (dVar 2) (dOp2 dPow (dC (.int 10)) (dC (.int 18)))) (daNil)))) (daCons (dOp2 dAdd (dOp2 dMod (dOpN cInt (daCons (dOp2 dAdd (dOp2 dAdd (dOp2 dMul (dOp2 dMod (dOpN cInt (daCons (dVar 2) (daNil))) (dC (.int 2147483549))) (dC (.int c3))) (dOp2 dMul (dC (.int c4)) (dVar 1))) (dC (.int c5))) (daNil))) (dC (.int 2147483563))) (dC (.int 1))) (daNil)))))))
section
variable {fn : Fns} {h : Cells}
theorem script_at {ns : List Int} {k : Nat} (q : k < ns.length) : ∃ i, atI (ns.map D.int) (k : Int) = some (.int i) := by
  refine ⟨ns[k], ?_⟩
  unfold atI ixN
  have a1 : (0 : Int) ≤ k := by omega
  have a2 : (k : Int) < ((ns.map D.int).length : Int) := by rw [List.length_map]; omega
  rw [if_pos a1, if_pos a2]
  show (ns.map D.int)[(k : Int).toNat]? = _
  rw [List.getElem?_map, show (k : Int).toNat = k by omega, List.getElem?_eq_getElem q]; rfl
theorem pow18 : dPow (.int 10) (.int 18) h = .ok (.int 1000000000000000000) h := by
  unfold dPow
  rfl
theorem ev_pot2 {ns : List Int} {k : Nat} {c1 c2 c3 c4 c5 : Int} (s1 : c1.natAbs ≤ 1000000000) (s3 : c3.natAbs ≤ 1000000000) (s4 : c4.natAbs ≤ 1000000000) :
    wp (bodyF 3 (potM2 c1 c2 c3 c4 c5) fn [.frz (ns.map D.int), .int k] h) fun d h' => d = .obj h.length ∧ ∃ a b, h' = h ++ [.lst [.int a, .int b]] := by
  have w1 : small64 c1 = true := by simp only [small64, Bool.and_eq_true, decide_eq_true_eq]; omega
  have w3 : small64 c3 = true := by simp only [small64, Bool.and_eq_true, decide_eq_true_eq]; omega
  have w4 : small64 c4 = true := by simp only [small64, Bool.and_eq_true, decide_eq_true_eq]; omega
  by_cases z : k < ns.length
  · obtain ⟨i, ei⟩ := script_at z
    simp [potM2, z, ei, w1, w3, w4, pow18]
  · simp [potM2, z, w1, w3, w4, pow18]
theorem pt_new {a b : Int} : Pt h.length (h ++ [.lst [.int a, .int b]]) := ⟨a, b, by simp⟩
def drawM (c1 c2 m1 m2 q : Int) : DS := sSeq (sIf (dtB (dOp2 dGt (dOp2 dIx (dVar 0) (dC (.int 0))) (dC (.int 0)))) (sSeq (sAsg (dOpN cDivmod (daCons (dOp2 dIx (dVar 0) (dC (.int 0))) (daCons (dVar 1) (daNil)))) (gTup 2 (gsCons (gIx 0 (dC (.int 0))) (gsCons (gName' 2) (gsNil))))) (sRet (dVar 2))) (sNext)) (sSeq (sAsg (dOp2 dMod (dOpN cInt (daCons (dOp2 dAdd (dOp2 dMul (dOp2 dIx (dVar 0) (dC (.int 1))) (dC (.int c1))) (dC (.int c2))) (daNil))) (dC (.int m1))) (gIx 0 (dC (.int 1)))) (sRet (dOp2 dMod (dOpN cInt (daCons (dOp2 dFdiv (dOp2 dMod (dOpN cInt (daCons (dOp2 dMul (dOp2 dIx (dVar 0) (dC (.int 1))) (dOp2 dIx (dVar 0) (dC (.int 1)))) (daNil))) (dC (.int m2))) (dC (.int q))) (daNil))) (dVar 1))))
theorem ix_obj {n : Nat} {i : Int} {ds : List D} (e : h[n]? = some (.lst ds)) : dIx (.obj n) (.int i) h = match atI ds i with
    | some d => .ok d h
    | none => .bad := by
  simp [dIx, seqT, seqL, e]
  all_goals rfl
end
end EV
/-! EV39: what the program's first defs keep, whatever law they stand in -/
namespace EV
open PySem L2
abbrev Fn := List D → Cells → R D
/-- is_integer(value) -/
def is_integer_M : DS := sRet (dAnd (dIsi (dVar 0) [.int]) (dNot (dIsi (dVar 0) [.bl])))
/-- is_count(value) -/
def is_count_M (c_is_integer : Nat) : DS := sRet (dAnd (dCall c_is_integer 1 0 [.p 0] [] (daCons (dVar 0) (daNil)) (daNil)) (dOp2 dGe (dVar 0) (dC (.int 0))))
/-- is_below(value, many) -/
def is_below_M (c_is_count : Nat) : DS := sRet (dAnd (dCall c_is_count 1 0 [.p 0] [] (daCons (dVar 0) (daNil)) (daNil)) (dOp2 dLt (dVar 0) (dVar 1)))
/-- is_row(value, many) -/
def is_row_M : DS := sRet (dAnd (dIsi (dVar 0) [.tup]) (dOp2 dEq (dOpN cLen (daCons (dVar 0) (daNil))) (dVar 1)))
def S_is_integer (f : Fn) : Prop := ∀ v h, pl v = true → f [v] h = .ok (.bl (isInt v)) h
def S_is_count (f : Fn) : Prop := ∀ v h, pl v = true → f [v] h = .ok (.bl (isCount v)) h
def S_is_below (f : Fn) : Prop := ∀ v (m : Int) h, pl v = true → f [v, .int m] h = .ok (.bl (isBelow v m)) h
def isRow (v : D) (n : Int) : Bool := match v with
  | .tup ds => decide ((ds.length : Int) = n)
  | _ => false
def S_is_row (f : Fn) : Prop := ∀ v (n : Int) h, pl v = true → f [v, .int n] h = .ok (.bl (isRow v n)) h
def S_pot (f : Fn) : Prop := ∀ (ns : List Int) (k : Nat) h, wp (f [.frz (ns.map D.int), .int k] h) fun d h' => d = .obj h.length ∧ ∃ a b, h' = h ++ [.lst [.int a, .int b]]
section
variable {fn : Fns} {i i2 i3 i4 i5 : Nat}
theorem ev_is_integer : S_is_integer (bodyF 1 is_integer_M fn) := fun v h hv => by
  unfold is_integer_M
  cases v <;> first | (simp [pl] at hv; done) | (simp [Ty.isa, isInt]; done)
theorem ev_is_count (a : S_is_integer (fn i)) : S_is_count (bodyF 1 (is_count_M i) fn) := fun v h hv => by
  unfold is_count_M
  have nb := pl_nb hv
  simp [nb, a v _ hv]
  cases v <;> simp [isInt, isCount]
theorem ev_is_below (a : S_is_count (fn i)) : S_is_below (bodyF 2 (is_below_M i) fn) := fun v m h hv => by
  unfold is_below_M
  have nb := pl_nb hv
  simp [nb, a v _ hv]
  cases v <;> simp [isBelow, isCount]
  split
  · simp_all
  · simp; omega
theorem ev_is_row : S_is_row (bodyF 2 is_row_M fn) := fun v n h hv => by
  unfold is_row_M
  cases v <;> first | (simp [pl] at hv; done) | (simp [Ty.isa, isRow]; done)
theorem ev_law_pot2 {c1 c2 c3 c4 c5 : Int} (s1 : c1.natAbs ≤ 1000000000) (s3 : c3.natAbs ≤ 1000000000) (s4 : c4.natAbs ≤ 1000000000) : S_pot (bodyF 3 (potM2 c1 c2 c3 c4 c5) fn) := fun ns k h => ev_pot2 s1 s3 s4
end
end EV
/-! EV40: logs -/
namespace EV
open PySem L2
/-- a row: things, whether the answer is yes -/
structure Rw where
  ts : List Int
  a : Bool
/-- whether a row is wrong for a thing -/
def wrB (r : Rw) (t : Int) : Bool := decide (r.ts.contains t = !r.a)
def nw (rs : List Rw) (t : Int) : Nat := rs.countP fun r => wrB r t
def nats (m : Nat) : List Int := (List.range m).map fun (i : Nat) => (i : Int)
theorem upTo_nats {m : Nat} : upTo 0 m = Is (nats m) := by
  rw [upTo, Is, nats, List.map_map]
  exact List.map_congr_left fun i _ => by simp
theorem mem_nats {m : Nat} {x : Int} : x ∈ nats m ↔ 0 ≤ x ∧ x < m := by
  simp only [nats, List.mem_map, List.mem_range]
  constructor
  · rintro ⟨i, h, rfl⟩; omega
  · intro h; exact ⟨x.toNat, by omega, by omega⟩
theorem nats_len {m : Nat} : (nats m).length = m := by simp [nats]
def risI : List Int → Bool
  | a :: b :: r => decide (a < b) && risI (b :: r)
  | _ => true
/-- things of a log -/
def thOk (m : Nat) (ts : List Int) : Prop := (∀ t ∈ ts, 0 ≤ t ∧ t < m) ∧ risI ts = true
end EV
/-! EV41: logs as laws draw them, laws' own looks at logs -/
/-! EV42: laws' ends; what repr is asked of -/
namespace EV
open PySem L2
/-- repr goes: floors, size -/
def Rq (n B : Nat) (d : D) : Prop := okr n d = true ∧ dsz n d ≤ B
theorem Rq.mono {n B C : Nat} {d : D} (q : Rq n B d) (h : B ≤ C) : Rq n C d := ⟨q.1, Nat.le_trans q.2 h⟩
theorem rq_int {n : Nat} {i : Int} (h : i.natAbs ≤ 1000000000000000) : Rq n 41 (.int i) := by
  have z : i.natAbs < 10 ^ 40 := Nat.lt_of_le_of_lt h (by decide)
  refine ⟨?_, by rw [dsz_i]; decide⟩
  cases n <;> exact decide_eq_true z
theorem rq_bl {n : Nat} {b : Bool} : Rq n 5 (.bl b) := by cases n <;> exact ⟨rfl, Nat.le_refl _⟩
theorem rq_str {n : Nat} {s : Str} (h : PySem.PyData.strOk s = true) : Rq n (10 * s.length + 2) (.str s) := by cases n <;> exact ⟨h, Nat.le_refl _⟩
theorem rq_tup {n B C : Nat} {ds : List D} (h : ∀ d ∈ ds, Rq n B d) (l : ds.length * (B + 2) + 3 ≤ C) : Rq (n + 1) C (.tup ds) := by
  refine ⟨List.all_eq_true.mpr fun d hd => (h d hd).1, ?_⟩
  have := dsz_le (n := n) (B := B) (xs := ds) fun d hd => (h d hd).2
  show (ds.map fun d => dsz n d + 2).sum + 3 ≤ C
  omega
theorem rq_lst {n B C : Nat} {ds : List D} (h : ∀ d ∈ ds, Rq n B d) (l : ds.length * (B + 2) + 3 ≤ C) : Rq (n + 1) C (.lst ds) := by
  refine ⟨List.all_eq_true.mpr fun d hd => (h d hd).1, ?_⟩
  have := dsz_le (n := n) (B := B) (xs := ds) fun d hd => (h d hd).2
  show (ds.map fun d => dsz n d + 2).sum + 3 ≤ C
  omega
/-! ### a law's end -/
def S_law (f : Fn) : Prop := ∀ (ns : List Int), wp (f [.frz (ns.map D.int)] []) fun d _ => d = .bl true
theorem main_of {T : List FD} {i k : Nat} (a : S_law (fnsOf T k i)) (ns : List Int) : ∃ h, fnsOf T k i [.frz (ns.map D.int)] [] = .ok (.bl true) h := by
  obtain ⟨d, h, e, rfl⟩ := wp_get (a ns)
  exact ⟨h, e⟩
def lawB_b0 (r : Nat) : DS := sIf (dtNot (dTruE (dCall r 1 0 [.p 0] [] (daCons (dVar 2) (daNil)) (daNil)))) (sRet (dC (.bl false))) (sNext)
def lawB_b1 (r p : Nat) : DS := sSeq (sSet 2 (dCall p 2 0 [.p 0, .p 1] [] (daCons (dVar 0) (daCons (dVar 1) (daNil))) (daNil))) (sFor (.name 3) (dRng1 (daCons (dC (.int 2)) (daNil))) (lawB_b0 r))
def lawB_M (r p : Nat) : DS := sSeq (sFor (.name 1) (dItems (dTup (daCons (dC (.int 0)) (daCons (dC (.int 1)) (daNil))))) (lawB_b1 r p)) (sRet (dC (.bl true)))
end EV
/-! EV43: logs: the plain facts -/
/-! EV44: truths of rows; lists that are the same -/
/-! EV48: lists shuffled; logs turned, renamed -/
namespace EV
open PySem L2
@[simp] theorem e_dSortF {fn : Fns} {env : Ev} {h : Cells} {da : DA} : dSortF da fn env h = (da fn env h).bind fun ds h1 => cSort ds h1 := (rfl)
@[simp] theorem e_dPopAt {fn : Fns} {env : Ev} {h : Cells} {a b : DE} : dPopAt a b fn env h = (a fn env h).bind fun x h1 => if isObjL h1 x = true then (b fn env h1).bind fun y h2 => cPopAt x y h2 else .bad := (rfl)
@[simp] theorem e_dLstRg {fn : Fns} {env : Ev} {h : Cells} {da : DE} : dLstRg da fn env h = (da fn env h).bind fun d h1 => match d with
  | .int j => if decide (-1000000000 ≤ j) && decide (j ≤ 16777216) then .ok (upTo 0 j.toNat) h1 else .bad
  | _ => .bad := (rfl)
section
variable {fn : Fns} {i i2 i3 i4 i5 : Nat} {h : Cells}
/-- the pot changed, cells grew -/
def Gr (n : Nat) (h h' : Cells) : Prop := ∃ a b ext, h' = h.set n (OB.lst [.int a, .int b]) ++ ext
theorem Gr.pt {n : Nat} {h h' : Cells} (p : Pt n h) (d : Gr n h h') : Pt n h' := by
  obtain ⟨a, b, ext, rfl⟩ := d
  have := p.lt
  exact ⟨a, b, by rw [List.getElem?_append_left (by simpa using this), List.getElem?_set_self this]⟩
/-! ### logs turned, renamed -/
end
end EV
/-! EV50: questions of three ways -/
/-! EV51: values bent at one place, at any depth -/
namespace EV
open PySem L2
/-- values of so many floors, rows of at most B -/
def bt (B : Nat) : Nat → D → Bool
  | _, .non => true
  | _, .bl _ => true
  | _, .int i => decide (i.natAbs ≤ 100 * B)
  | _, .str s => PySem.PyData.strOk s && decide (s.length ≤ 9)
  | n + 1, .tup ds => decide (ds.length ≤ B) && ds.all (bt B n)
  | n + 1, .lst ds => decide (ds.length ≤ B) && ds.all (bt B n)
  | _, _ => false
@[simp] theorem e_slL {ds : List D} {lo hi : Option Int} {h : Cells} : dSl (.lst ds) lo hi h = .ok (.lst (cutD ds lo hi)) h := (rfl)
end EV
/-! EV52: counts drawn; weights of three ways add up; repr of anything -/
/-! EV53: tuples of ints in order -/
namespace EV
open PySem L2
def dLtX : O2 := fun x y h => match x, y with
  | .int i, .int j => .ok (.bl (decide (i < j))) h
  | .tup a, .tup b => match toInts a, toInts b with
    | some ns, some ms => .ok (.bl (HT.lexLt ns ms)) h
    | _, _ => .bad
  | _, _ => .bad
@[simp] theorem e_ltX_I {i j : Int} {h : Cells} : dLtX (.int i) (.int j) h = .ok (.bl (decide (i < j))) h := (rfl)
/-! ### tuples of ints sorted -/
def tupsI : List D → Option (List (List Int))
  | [] => some []
  | .tup a :: ds => match toInts a, tupsI ds with
    | some ns, some r => some (ns :: r)
    | _, _ => none
  | _ => none
def bdB (ns : List Int) : Bool := ns.all fun m => decide (0 ≤ m) && decide (m < 1000)
def tcode (ns : List Int) : Int := TS.code 1000 ns
def tsort (nss : List (List Int)) : List (List Int) := nss.mergeSort (fun a b => decide (tcode a ≤ tcode b))
def tupD (ns : List Int) : D := .tup (ns.map D.int)
def cSortT (ds : List D) (h : Cells) : R (List D) := match ds with
  | [d] => match (seqL h d).bind tupsI with
    | some (n0 :: nss) => if decide (1 ≤ n0.length) && decide ((n0 :: nss).length < 64) && (n0 :: nss).all fun ns => decide (ns.length = n0.length) && bdB ns then .ok ((tsort (n0 :: nss)).map tupD) h else .bad
    | some [] => .ok [] h
    | none => .bad
  | _ => .bad
def dSortT (da : DA) : DF := fun fn env h => (da fn env h).bind fun ds h1 => cSortT ds h1
@[simp] theorem e_dSortT {fn : Fns} {env : Ev} {h : Cells} {da : DA} : dSortT da fn env h = (da fn env h).bind fun ds h1 => cSortT ds h1 := (rfl)
end EV
/-! EV57: a comprehension over a list of one's own -/
namespace EV
open PySem L2
def itemsB (d : D) (h : Cells) : R (List D) := match d with
  | .bor ds => .ok ds h
  | _ => .bad
def dItemsB (a : DE) : DF := fun fn env h => (a fn env h).bind fun d h1 => itemsB d h1
@[simp] theorem e_dItemsB {fn : Fns} {env : Ev} {h : Cells} {a : DE} : dItemsB a fn env h = (a fn env h).bind fun d h1 => itemsB d h1 := (rfl)
end EV
/-! EV58: names stored from a list -/
namespace EV
open PySem L2
def gLstD (n : Nat) (a : List D → DS) : DG := fun d fn env h => match d with
  | .lst ds => if ds.length = n then a ds fn env h else .bad
  | _ => .bad
@[simp] theorem e_gLstD {fn : Fns} {env : Ev} {h : Cells} {n : Nat} {a : List D → DS} {ds : List D} : gLstD n a (.lst ds) fn env h = if ds.length = n then a ds fn env h else .bad := (rfl)
end EV
/-! EV62: readings of typed values -/
namespace EV
open PySem L2
/-- strings that can be laid -/
abbrev SS := {s : Str // PySem.PyData.strOk s = true}
/-- any value without cells -/
abbrev Vl := {d : D // pl d = true}
def lit (s : String) : SS := ⟨Str.ofString s, str_ok⟩
def eN (_ : Unit) : D := .non
def eO {α : Type} (e : α → D) : Option α → D
  | none => .non
  | some a => e a
def eT {α : Type} (e : α → D) (xs : List α) : D := .tup (xs.map e)
def eL {α : Type} (e : α → D) (xs : List α) : D := .lst (xs.map e)
def eF {α : Type} (e : α → D) (xs : List α) : D := .frz (xs.map e)
def eP1 {α : Type} (a : α → D) (p : α) : D := .tup [a p]
def eP2 {α β : Type} (a : α → D) (b : β → D) (p : α × β) : D := .tup [a p.1, b p.2]
def eP3 {α β γ : Type} (a : α → D) (b : β → D) (c : γ → D) (p : α × β × γ) : D := .tup [a p.1, b p.2.1, c p.2.2]
def eP4 {α β γ δ : Type} (a : α → D) (b : β → D) (c : γ → D) (d : δ → D) (p : α × β × γ × δ) : D := .tup [a p.1, b p.2.1, c p.2.2.1, d p.2.2.2]
def eP5 {α β γ δ ε : Type} (a : α → D) (b : β → D) (c : γ → D) (d : δ → D) (e : ε → D) (p : α × β × γ × δ × ε) : D := .tup [a p.1, b p.2.1, c p.2.2.1, d p.2.2.2.1, e p.2.2.2.2]
def eS (s : SS) : D := .str s.val
def eV (v : Vl) : D := v.val
/-- nothing borrowed -/
class NB {α : Type} (e : α → D) : Prop where
  nb : ∀ a, isBor (e a) = false
instance : NB D.int := ⟨fun _ => rfl⟩
instance : NB D.bl := ⟨fun _ => rfl⟩
instance : NB D.str := ⟨fun _ => rfl⟩
instance : NB eN := ⟨fun _ => rfl⟩
instance : NB eS := ⟨fun _ => rfl⟩
instance : NB eV := ⟨fun v => pl_nb v.2⟩
instance {α : Type} {e : α → D} [NB e] : NB (eO e) := ⟨fun a => by
  cases a with
  | none => rfl
  | some a => exact NB.nb (e := e) a⟩
instance {α : Type} {e : α → D} : NB (eT e) := ⟨fun _ => rfl⟩
instance {α : Type} {e : α → D} : NB (eL e) := ⟨fun _ => rfl⟩
instance {α : Type} {e : α → D} : NB (eF e) := ⟨fun _ => rfl⟩
instance {α : Type} {a : α → D} : NB (eP1 a) := ⟨fun _ => rfl⟩
instance {α β : Type} {a : α → D} {b : β → D} : NB (eP2 a b) := ⟨fun _ => rfl⟩
instance {α β γ : Type} {a : α → D} {b : β → D} {c : γ → D} : NB (eP3 a b c) := ⟨fun _ => rfl⟩
instance {α β γ δ : Type} {a : α → D} {b : β → D} {c : γ → D} {d : δ → D} : NB (eP4 a b c d) := ⟨fun _ => rfl⟩
instance {α β γ δ ε : Type} {a : α → D} {b : β → D} {c : γ → D} {d : δ → D} {e : ε → D} : NB (eP5 a b c d e) := ⟨fun _ => rfl⟩
/-- never None -/
class NNo {α : Type} (e : α → D) : Prop where
  nn : ∀ a, D.pd (e a) ≠ Option.some PyData.none
instance : NNo D.int := ⟨fun _ => by simp [D.pd]⟩
instance : NNo D.bl := ⟨fun _ => by simp [D.pd]⟩
instance : NNo eS := ⟨fun _ => by simp [D.pd, eS]⟩
instance {α : Type} {e : α → D} : NNo (eT e) := ⟨fun _ => by simp [D.pd, eT]⟩
instance {α : Type} {e : α → D} : NNo (eL e) := ⟨fun _ => by simp [D.pd, eL]⟩
instance {α : Type} {a : α → D} : NNo (eP1 a) := ⟨fun _ => by simp [D.pd, eP1]⟩
instance {α β : Type} {a : α → D} {b : β → D} : NNo (eP2 a b) := ⟨fun _ => by simp [D.pd, eP2]⟩
instance {α β γ : Type} {a : α → D} {b : β → D} {c : γ → D} : NNo (eP3 a b c) := ⟨fun _ => by simp [D.pd, eP3]⟩
instance {α β γ δ : Type} {a : α → D} {b : β → D} {c : γ → D} {d : δ → D} : NNo (eP4 a b c d) := ⟨fun _ => by simp [D.pd, eP4]⟩
/-- plain data, equal just if the same -/
class Pd {α : Type} (n : outParam Nat) (e : α → D) : Prop where
  ok : ∀ a, okd n (e a) = true
  eq : ∀ {a b p q}, D.pd (e a) = Option.some p → D.pd (e b) = Option.some q → (PyData.eqv p q = true ↔ a = b)
instance : Pd 0 D.int := ⟨fun _ => rfl, fun h1 h2 => by simp only [D.pd, Option.some.injEq] at h1 h2; subst h1 h2; simp [PyData.eqv]⟩
instance : Pd 0 D.bl := ⟨fun _ => rfl, fun {a b _ _} h1 h2 => by
  simp only [D.pd, Option.some.injEq] at h1 h2; subst h1 h2
  cases a <;> cases b <;> simp [PyData.eqv]⟩
instance : Pd 0 eS := ⟨fun a => a.2, fun {a b _ _} h1 h2 => by
  simp only [eS, D.pd, Option.some.injEq] at h1 h2; subst h1 h2
  simp [PyData.eqv, Subtype.ext_iff]⟩
instance : Pd 0 eN := ⟨fun _ => rfl, fun h1 h2 => by simp only [eN, D.pd, Option.some.injEq] at h1 h2; subst h1 h2; simp [PyData.eqv]⟩
theorem pds_map {α : Type} {n : Nat} {e : α → D} [Pd n e] : ∀ {xs ys : List α} {ps qs : List PyData}, D.pds (xs.map e) = Option.some ps → D.pds (ys.map e) = Option.some qs → (PyData.eqvAll ps qs = true ↔ xs = ys)
  | [], [], _, _, h1, h2 => by simp only [List.map_nil, D.pds, Option.some.injEq] at h1 h2; subst h1 h2; simp [PyData.eqvAll]
  | [], y :: ys, _, _, h1, h2 => by
    simp only [List.map_nil, List.map_cons, D.pds, Option.some.injEq] at h1 h2
    split at h2
    · cases h2; subst h1; simp [PyData.eqvAll]
    · cases h2
  | x :: xs, [], _, _, h1, h2 => by
    simp only [List.map_nil, List.map_cons, D.pds, Option.some.injEq] at h1 h2
    split at h1
    · cases h1; subst h2; simp [PyData.eqvAll]
    · cases h1
  | x :: xs, y :: ys, _, _, h1, h2 => by
    simp only [List.map_cons, D.pds] at h1 h2
    split at h1
    · rename_i a1 a2
      split at h2
      · rename_i b1 b2
        cases h1; cases h2
        simp only [PyData.eqvAll, Bool.and_eq_true, List.cons.injEq, Pd.eq (e := e) a1 b1, pds_map (e := e) a2 b2]
      · cases h2
    · cases h1
theorem pd_map {α : Type} {e : α → D} {n : Nat} [Pd n e] (xs : List α) : (xs.map e).all (okd n) = true := List.all_eq_true.mpr fun d hd => by
  obtain ⟨x, _, rfl⟩ := List.mem_map.mp hd
  exact Pd.ok x
instance {α : Type} {n : Nat} {e : α → D} [Pd n e] : Pd (n + 1) (eT e) := ⟨fun a => pd_map a, fun h1 h2 => by
  simp only [eT, D.pd] at h1 h2
  obtain ⟨ps, e1, rfl⟩ := Option.map_eq_some_iff.mp h1
  obtain ⟨qs, e2, rfl⟩ := Option.map_eq_some_iff.mp h2
  simp only [PyData.eqv, pds_map (e := e) e1 e2]⟩
instance {α : Type} {n : Nat} {e : α → D} [Pd n e] : Pd (n + 1) (eL e) := ⟨fun a => pd_map a, fun h1 h2 => by
  simp only [eL, D.pd] at h1 h2
  obtain ⟨ps, e1, rfl⟩ := Option.map_eq_some_iff.mp h1
  obtain ⟨qs, e2, rfl⟩ := Option.map_eq_some_iff.mp h2
  simp only [PyData.eqv, pds_map (e := e) e1 e2]⟩
theorem pds_cons {d : D} {ds : List D} {ps : List PyData} (h : D.pds (d :: ds) = Option.some ps) : ∃ p qs, D.pd d = Option.some p ∧ D.pds ds = Option.some qs ∧ ps = p :: qs := by
  simp only [D.pds] at h
  split at h
  · cases h; exact ⟨_, _, by assumption, by assumption, rfl⟩
  · cases h
theorem pds_nil {ps : List PyData} (h : D.pds [] = Option.some ps) : ps = [] := by
  simp only [D.pds, Option.some.injEq] at h; exact h.symm
theorem pd_tup {ds : List D} {p : PyData} (h : D.pd (.tup ds) = Option.some p) : ∃ ps, D.pds ds = Option.some ps ∧ p = .tuple ps := by
  simp only [D.pd] at h
  obtain ⟨ps, e1, rfl⟩ := Option.map_eq_some_iff.mp h
  exact ⟨ps, e1, rfl⟩
instance {α : Type} {n : Nat} {a : α → D} [Pd n a] : Pd (n + 1) (eP1 a) := ⟨fun x => by simp [eP1, okd, Pd.ok], fun h1 h2 => by
  obtain ⟨ps, e1, rfl⟩ := pd_tup h1
  obtain ⟨qs, e2, rfl⟩ := pd_tup h2
  obtain ⟨p1, r1, a1, b1, rfl⟩ := pds_cons e1
  obtain ⟨q1, s1, c1, d1, rfl⟩ := pds_cons e2
  cases pds_nil b1; cases pds_nil d1
  simp only [PyData.eqv, PyData.eqvAll, Bool.and_true, Pd.eq (e := a) a1 c1]⟩
instance {α β : Type} {n m : Nat} {a : α → D} {b : β → D} [Pd n a] [Pd m b] : Pd (max n m + 1) (eP2 a b) := ⟨fun x => by
  have h1 := okd_le (Nat.le_max_left n m) (Pd.ok (e := a) x.1)
  have h2 := okd_le (Nat.le_max_right n m) (Pd.ok (e := b) x.2)
  simp [eP2, okd, h1, h2], fun {x y _ _} h1 h2 => by
  obtain ⟨ps, e1, rfl⟩ := pd_tup h1
  obtain ⟨qs, e2, rfl⟩ := pd_tup h2
  obtain ⟨p1, r1, a1, b1, rfl⟩ := pds_cons e1
  obtain ⟨q1, s1, c1, d1, rfl⟩ := pds_cons e2
  obtain ⟨p2, r2, a2, b2, rfl⟩ := pds_cons b1
  obtain ⟨q2, s2, c2, d2, rfl⟩ := pds_cons d1
  cases pds_nil b2; cases pds_nil d2
  simp only [PyData.eqv, PyData.eqvAll, Bool.and_true, Bool.and_eq_true, Pd.eq (e := a) a1 c1, Pd.eq (e := b) a2 c2, Prod.ext_iff]⟩
theorem le3 {n m k : Nat} : n ≤ max n (max m k) ∧ m ≤ max n (max m k) ∧ k ≤ max n (max m k) := by omega
instance {α β γ : Type} {n m k : Nat} {a : α → D} {b : β → D} {c : γ → D} [Pd n a] [Pd m b] [Pd k c] : Pd (max n (max m k) + 1) (eP3 a b c) := ⟨fun x => by
  have h1 := okd_le (le3 (n := n) (m := m) (k := k)).1 (Pd.ok (e := a) x.1)
  have h2 := okd_le (le3 (n := n) (m := m) (k := k)).2.1 (Pd.ok (e := b) x.2.1)
  have h3 := okd_le (le3 (n := n) (m := m) (k := k)).2.2 (Pd.ok (e := c) x.2.2)
  simp [eP3, okd, h1, h2, h3], fun {x y _ _} h1 h2 => by
  obtain ⟨ps, e1, rfl⟩ := pd_tup h1
  obtain ⟨qs, e2, rfl⟩ := pd_tup h2
  obtain ⟨p1, r1, a1, b1, rfl⟩ := pds_cons e1
  obtain ⟨q1, s1, c1, d1, rfl⟩ := pds_cons e2
  obtain ⟨p2, r2, a2, b2, rfl⟩ := pds_cons b1
  obtain ⟨q2, s2, c2, d2, rfl⟩ := pds_cons d1
  obtain ⟨p3, r3, a3, b3, rfl⟩ := pds_cons b2
  obtain ⟨q3, s3, c3, d3, rfl⟩ := pds_cons d2
  cases pds_nil b3; cases pds_nil d3
  simp only [PyData.eqv, PyData.eqvAll, Bool.and_true, Bool.and_eq_true, Pd.eq (e := a) a1 c1, Pd.eq (e := b) a2 c2, Pd.eq (e := c) a3 c3, Prod.ext_iff]⟩
theorem le4 {n m k l : Nat} : n ≤ max n (max m (max k l)) ∧ m ≤ max n (max m (max k l)) ∧ k ≤ max n (max m (max k l)) ∧ l ≤ max n (max m (max k l)) := by omega
instance {α β γ δ : Type} {n m k l : Nat} {a : α → D} {b : β → D} {c : γ → D} {d : δ → D} [Pd n a] [Pd m b] [Pd k c] [Pd l d] : Pd (max n (max m (max k l)) + 1) (eP4 a b c d) := ⟨fun x => by
  have h1 := okd_le (le4 (n := n) (m := m) (k := k) (l := l)).1 (Pd.ok (e := a) x.1)
  have h2 := okd_le (le4 (n := n) (m := m) (k := k) (l := l)).2.1 (Pd.ok (e := b) x.2.1)
  have h3 := okd_le (le4 (n := n) (m := m) (k := k) (l := l)).2.2.1 (Pd.ok (e := c) x.2.2.1)
  have h4 := okd_le (le4 (n := n) (m := m) (k := k) (l := l)).2.2.2 (Pd.ok (e := d) x.2.2.2)
  simp [eP4, okd, h1, h2, h3, h4], fun {x y _ _} h1 h2 => by
  obtain ⟨ps, e1, rfl⟩ := pd_tup h1
  obtain ⟨qs, e2, rfl⟩ := pd_tup h2
  obtain ⟨p1, r1, a1, b1, rfl⟩ := pds_cons e1
  obtain ⟨q1, s1, c1, d1, rfl⟩ := pds_cons e2
  obtain ⟨p2, r2, a2, b2, rfl⟩ := pds_cons b1
  obtain ⟨q2, s2, c2, d2, rfl⟩ := pds_cons d1
  obtain ⟨p3, r3, a3, b3, rfl⟩ := pds_cons b2
  obtain ⟨q3, s3, c3, d3, rfl⟩ := pds_cons d2
  obtain ⟨p4, r4, a4, b4, rfl⟩ := pds_cons b3
  obtain ⟨q4, s4, c4, d4, rfl⟩ := pds_cons d3
  cases pds_nil b4; cases pds_nil d4
  simp only [PyData.eqv, PyData.eqvAll, Bool.and_true, Bool.and_eq_true, Pd.eq (e := a) a1 c1, Pd.eq (e := b) a2 c2, Pd.eq (e := c) a3 c3, Pd.eq (e := d) a4 c4, Prod.ext_iff]⟩
theorem eqv_none {p : PyData} : (PyData.eqv p .none = true ↔ p = .none) ∧ (PyData.eqv .none p = true ↔ p = .none) := by
  cases p <;> simp [PyData.eqv]
instance {α : Type} {n : Nat} {e : α → D} [Pd n e] [NNo e] : Pd n (eO e) := ⟨fun a => by
  cases a with
  | none => cases n <;> rfl
  | some a => exact Pd.ok (e := e) a, fun {a b p q} h1 h2 => by
  cases a with
  | none =>
    have : p = .none := by simpa [eO, D.pd] using h1.symm
    subst this
    cases b with
    | none =>
      have : q = .none := by simpa [eO, D.pd] using h2.symm
      subst this; simp [PyData.eqv]
    | some b =>
      have : q ≠ .none := fun z => NNo.nn (e := e) b (by rw [← z]; exact h2)
      simp [eqv_none.2, this]
  | some a =>
    cases b with
    | none =>
      have : q = .none := by simpa [eO, D.pd] using h2.symm
      subst this
      have : p ≠ .none := fun z => NNo.nn (e := e) a (by rw [← z]; exact h1)
      simp [eqv_none.1, this]
    | some b => simp [Pd.eq (e := e) (a := a) (b := b) h1 h2]⟩
/-- values without cells -/
class PlE {α : Type} (e : α → D) : Prop where
  pl : ∀ a, pl (e a) = true
instance {α : Type} {n : Nat} {e : α → D} [Pd n e] : PlE e := ⟨fun a => okd_pl (Pd.ok a)⟩
instance (priority := 2000) : PlE eV := ⟨fun a => a.2⟩
def toV {α : Type} (e : α → D) [PlE e] (a : α) : Vl := ⟨e a, PlE.pl a⟩
/-! ### equality, membership -/
def hasB {α : Type} [DecidableEq α] (xs : List α) (a : α) : Bool := xs.any fun z => decide (z = a)
@[simp] theorem hasB_iff {α : Type} [DecidableEq α] {xs : List α} {a : α} : hasB xs a = true ↔ a ∈ xs := by
  simp [hasB]
@[simp] theorem hasB_not {α : Type} [DecidableEq α] {xs : List α} {a : α} : hasB xs a = false ↔ a ∉ xs := by
  rw [← Bool.not_eq_true, hasB_iff]
section
theorem pd_get {α : Type} {n : Nat} {e : α → D} [Pd n e] (a : α) : ∃ p, D.pd (e a) = Option.some p ∧ p.canLay0 = true ∧ p.depth ≤ n := okd_pd (Pd.ok a)
variable {α : Type} {n : Nat} {e : α → D} [Pd n e] [DecidableEq α] {h : Cells}
/-- equality, whatever the data -/
theorem dEq_any {m : Nat} {x y : D} (hm : m ≤ 64) (hx : okd m x = true) (hy : okd m y = true) : ∃ p q, D.pd x = Option.some p ∧ D.pd y = Option.some q ∧ dEq x y h = .ok (.bl (PyData.eqv p q)) h := by
  obtain ⟨p, h1, h2, h3⟩ := okd_pd hx
  obtain ⟨q, h4, h5, h6⟩ := okd_pd hy
  refine ⟨p, q, h1, h4, ?_⟩
  have gen : (match pdH h x, pdH h y with
    | some p, some q => if SeqAt.shaped p && SeqAt.shaped q then R.ok (D.bl (PyData.eqv p q)) h else .bad
    | _, _ => .bad) = R.ok (.bl (PyData.eqv p q)) h := by
    rw [pdH_eq hx, pdH_eq hy, h1, h4]
    simp [shaped_of h2 h3 hm, shaped_of h5 h6 hm]
  unfold dEq
  split
  · simp only [D.pd, Option.some.injEq] at h1 h4; subst h1 h4; simp [PyData.eqv]; rfl
  · rename_i i j
    simp only [D.pd, Option.some.injEq] at h1 h4; subst h1 h4; simp only [PyData.eqv]
    congr 2
  · rename_i i j
    simp only [D.pd, Option.some.injEq] at h1 h4; subst h1 h4
    cases i <;> cases j <;> simp [PyData.eqv]
  · exact gen
theorem o_eqE (hn : n ≤ 64) {a b : α} : dEq (e a) (e b) h = .ok (.bl (decide (a = b))) h := by
  obtain ⟨p, q, h1, h2, h3⟩ := dEq_any (h := h) hn (Pd.ok (e := e) a) (Pd.ok (e := e) b)
  rw [h3]
  congr 2
  rw [Bool.eq_iff_iff, decide_eq_true_eq]
  exact Pd.eq (e := e) h1 h2
theorem ne_eq {x y : D} {b : Bool} (z : dEq x y h = .ok (.bl b) h) : dNe x y h = .ok (.bl (!b)) h := by
  unfold dEq at z
  unfold dNe
  split at z
  · cases z; rfl
  · cases z; rfl
  · cases z; rfl
  · rename_i g1 g2 g3
    have gen : ∀ (x y : D) (r : R D), (match pdH h x, pdH h y with
      | some p, some q => if SeqAt.shaped p && SeqAt.shaped q then R.ok (D.bl (!PyData.eqv p q)) h else .bad
      | _, _ => .bad) = r → (match pdH h x, pdH h y with
      | some p, some q => if SeqAt.shaped p && SeqAt.shaped q then R.ok (D.bl (PyData.eqv p q)) h else .bad
      | _, _ => .bad) = R.ok (.bl b) h → r = R.ok (.bl (!b)) h := fun x y r er z => by
      rw [← er]
      cases e1 : pdH h x with
      | none => rw [e1] at z; cases z
      | some p =>
        cases e2 : pdH h y with
        | none => rw [e1, e2] at z; cases z
        | some q =>
          rw [e1, e2] at z
          dsimp only at z ⊢
          split at z
          · rename_i s; rw [if_pos s]; cases z; rfl
          · cases z
    exact gen _ _ _ rfl z
theorem o_neE (hn : n ≤ 64) {a b : α} : dNe (e a) (e b) h = .ok (.bl (!decide (a = b))) h := ne_eq (o_eqE hn)
theorem pds_ex (xs : List α) : ∃ ps, D.pds (xs.map e) = Option.some ps ∧ PyData.canLayAll0 ps = true ∧ PyData.depthAll ps ≤ n ∧ ∀ a p, D.pd (e a) = Option.some p → (ps.any fun z => PyData.eqv z p) = hasB xs a := by
  induction xs with
  | nil => exact ⟨[], by simp [D.pds], rfl, Nat.zero_le _, fun _ _ _ => rfl⟩
  | cons x xs ih =>
    obtain ⟨ps, h1, h2, h3, h4⟩ := ih
    obtain ⟨p, k1, k2, k3⟩ := pd_get (e := e) x
    refine ⟨p :: ps, by simp only [List.map_cons, D.pds, k1, h1], by simp [PyData.canLayAll0, k2, h2], by simp [PyData.depthAll]; omega, fun a q hq => ?_⟩
    rw [List.any_cons, h4 a q hq, hasB, hasB, List.any_cons]
    congr 1
    rw [Bool.eq_iff_iff, decide_eq_true_eq, Pd.eq (e := e) k1 hq]
theorem inPd_T (hn : n < 64) {a : α} {xs : List α} : inPd h (e a) (eT e xs) = Option.some (hasB xs a) := by
  obtain ⟨ps, h1, h2, h3, h4⟩ := pds_ex (e := e) xs
  obtain ⟨p, k1, k2, k3⟩ := pd_get (e := e) a
  have g : pdH h (eT e xs) = Option.some (.tuple ps) := by
    show D.pd (.tup (xs.map e)) = _
    simp only [D.pd, h1, Option.map_some]
  unfold inPd
  rw [pdH_eq (Pd.ok (e := e) a), k1, g]
  dsimp only
  rw [if_pos, h4 a p k1]
  simp only [Bool.and_eq_true]
  exact ⟨shaped_of k2 k3 (by omega), shaped_of (n := n + 1) (by simpa [PyData.canLay0] using h2) (by simp [PyData.depth]; omega) (by omega)⟩
theorem inPd_L (hn : n < 64) {a : α} {xs : List α} : inPd h (e a) (eL e xs) = Option.some (hasB xs a) := by
  obtain ⟨ps, h1, h2, h3, h4⟩ := pds_ex (e := e) xs
  obtain ⟨p, k1, k2, k3⟩ := pd_get (e := e) a
  have g : pdH h (eL e xs) = Option.some (.list ps) := by
    show D.pd (.lst (xs.map e)) = _
    simp only [D.pd, h1, Option.map_some]
  unfold inPd
  rw [pdH_eq (Pd.ok (e := e) a), k1, g]
  dsimp only
  rw [if_pos, h4 a p k1]
  simp only [Bool.and_eq_true]
  exact ⟨shaped_of k2 k3 (by omega), shaped_of (n := n + 1) (by simpa [PyData.canLay0] using h2) (by simp [PyData.depth]; omega) (by omega)⟩
theorem o_inT (hn : n < 64) {a : α} {xs : List α} : dIn (e a) (eT e xs) h = .ok (.bl (hasB xs a)) h := by unfold dIn; rw [inPd_T hn]
theorem o_inL (hn : n < 64) {a : α} {xs : List α} : dIn (e a) (eL e xs) h = .ok (.bl (hasB xs a)) h := by unfold dIn; rw [inPd_L hn]
theorem o_niT (hn : n < 64) {a : α} {xs : List α} : dNotIn (e a) (eT e xs) h = .ok (.bl (!hasB xs a)) h := by unfold dNotIn; rw [inPd_T hn]
theorem o_niL (hn : n < 64) {a : α} {xs : List α} : dNotIn (e a) (eL e xs) h = .ok (.bl (!hasB xs a)) h := by unfold dNotIn; rw [inPd_L hn]
end
/-! ### repr -/
def rp (d : D) : Str := match D.pd d with
  | some p => p.shown
  | none => default
def RqX (d : D) : Prop := ∃ n, n ≤ 50 ∧ Rq n 16777216 d
theorem o_repr {d : D} {h : Cells} (q : RqX d) (p : pl d = true) : cRepr [d] h = .ok (.str (rp d)) h := by
  obtain ⟨n, hn, q1, q2⟩ := q
  obtain ⟨p', h1, h2, h3, h4⟩ := okr_pd q1
  have e : pdH h d = some p' := by cases d <;> first | exact h1 | simp [EV.pl] at p
  have k : PyProof.Rows.isDisplay p' = true ∨ isScP p' = true := by
    cases d with
    | non => simp only [D.pd] at h1; cases h1; exact .inr rfl
    | bl _ => simp only [D.pd] at h1; cases h1; exact .inr rfl
    | int _ => simp only [D.pd] at h1; cases h1; exact .inr rfl
    | str _ => simp only [D.pd] at h1; cases h1; exact .inr rfl
    | tup ds => obtain ⟨ps, _, rfl⟩ := pd_tup h1; exact .inl rfl
    | lst ds =>
      simp only [D.pd] at h1
      obtain ⟨ps, e1, rfl⟩ := Option.map_eq_some_iff.mp h1
      exact .inl rfl
    | _ => simp [EV.pl] at p
  unfold cRepr rp
  simp only [e, h1]
  have z1 : rsz p' ≤ szL := Nat.le_trans h3 q2
  have z2 : p'.depth ≤ 60 := by omega
  rcases k with k | k
  · rw [if_pos (by simp [k, h2, z1, z2])]
  · split
    · rfl
    · rw [if_pos (by simp [k, h2, z1])]
end EV
/-! EV63: what typed code reads as: values, operations -/
namespace EV
open PySem L2
/-! ### typed words -/
@[reducible] def lt {α β : Type} (v : α) (b : α → β) : β := b v
abbrev Pot2 := Int × Int
def potD (p : Pot2) : OB := .lst [.int p.1, .int p.2]
/-- the heap with the pot -/
def hp (n : Nat) (h : Cells) (p : Pot2) : Cells := h.set n (potD p)
abbrev rangeI (n : Int) : List Int := nats n.toNat
def rangeD (a b : Int) : List Int := (List.range (a - b).toNat).map fun i => a - (i : Nat)
def enumF {α : Type} : Int → List α → List (Int × α)
  | _, [] => []
  | i, x :: xs => (i, x) :: enumF (i + 1) xs
abbrev enumI {α : Type} (xs : List α) : List (Int × α) := enumF 0 xs
def getI {α : Type} [Inhabited α] (xs : List α) (i : Int) : α := if 0 ≤ i then xs.getD i.toNat default else xs.getD (i + xs.length).toNat default
def cut {α : Type} (xs : List α) (lo hi : Option Int) : List α := (xs.drop (HT.sIx xs.length 0 lo)).take (HT.sIx xs.length xs.length hi - HT.sIx xs.length 0 lo)
inductive Ct (ρ σ : Type) where
  | ret (r : ρ) | go (s : σ) | brk (s : σ)
def loopR {α ρ σ : Type} (f : σ → α → Ct ρ σ) : σ → List α → Ct ρ σ
  | s, [] => .go s
  | s, x :: xs => match f s x with
    | .go s' => loopR f s' xs
    | .ret r => .ret r
    | .brk s' => .go s'
def Ct.out {ρ σ : Type} (k : σ → ρ) : Ct ρ σ → ρ
  | .ret r => r
  | .go s => k s
  | .brk s => k s
theorem enum_len {α : Type} : ∀ {xs : List α} {i : Int}, (enumF i xs).length = xs.length
  | [], _ => rfl
  | x :: xs, i => by simp [enumF, enum_len (xs := xs)]
theorem enum_get {α : Type} : ∀ {xs : List α} {i : Int} {k : Nat} {p : Int × α}, (enumF i xs)[k]? = some p → p.1 = i + k ∧ xs[k]? = some p.2
  | [], _, _, _, e => by simp [enumF] at e
  | x :: xs, i, 0, p, e => by
    simp [enumF] at e; subst e; simp
  | x :: xs, i, k + 1, p, e => by
    simp [enumF] at e
    obtain ⟨a, b⟩ := enum_get e
    refine ⟨by rw [a]; push_cast; omega, by simpa using b⟩
theorem enum_mem {α : Type} {xs : List α} {p : Int × α} (m : p ∈ enumI xs) : ∃ k : Nat, p.1 = k ∧ xs[k]? = some p.2 := by
  obtain ⟨k, hk⟩ := List.getElem?_of_mem m
  obtain ⟨a, b⟩ := enum_get hk
  exact ⟨k, by rw [a]; omega, b⟩
theorem num_enum {α : Type} {e : α → D} : ∀ {xs : List α} {p : Nat}, numbered p (xs.map e) = (enumF p xs).map (eP2 D.int e)
  | [], _ => rfl
  | x :: xs, p => by
    rw [List.map_cons, numbered, enumF, List.map_cons, num_enum]
    congr 1
theorem pairs_map {α β : Type} {a : α → D} {b : β → D} : ∀ {xs : List α} {ys : List β}, pairs (xs.map a) (ys.map b) = (xs.zip ys).map (eP2 a b)
  | [], _ => by simp [pairs]
  | _ :: _, [] => by simp [pairs]
  | x :: xs, y :: ys => by
    simp only [List.map_cons, pairs, List.zip_cons_cons, pairs_map]
    rfl
theorem cutD_map {α : Type} {e : α → D} {xs : List α} {lo hi : Option Int} : cutD (xs.map e) lo hi = (cut xs lo hi).map e := by
  unfold cutD cut
  rw [List.length_map, List.map_take, List.map_drop]
theorem getI_nn {α : Type} [Inhabited α] {xs : List α} {i : Nat} : getI xs (i : Int) = xs.getD i default := by
  unfold getI
  rw [if_pos (by omega), Int.toNat_natCast]
theorem hp_get {n : Nat} {h : Cells} {p : Pot2} (l : n < h.length) : (hp n h p)[n]? = some (potD p) := List.getElem?_set_self l
theorem hp_hp {n : Nat} {h : Cells} {p q : Pot2} : hp n (hp n h p) q = hp n h q := by simp [hp]
theorem hp_len {n : Nat} {h : Cells} {p : Pot2} : (hp n h p).length = h.length := by simp [hp]
theorem hp_at {n : Nat} {h : Cells} {p : Pot2} (e : h[n]? = some (potD p)) : hp n h p = h := by
  refine List.ext_getElem? fun j => ?_
  rw [hp, List.getElem?_set]
  split
  · rename_i z; subst z
    rw [e]; split
    · rfl
    · have := (List.getElem?_eq_some_iff.mp e).1; omega
  · rfl
theorem reps_map {α β : Type} {f : α → β} {k : Nat} {xs : List α} : reps k (xs.map f) = (reps k xs).map f := by
  unfold reps
  rw [List.map_flatten, List.map_replicate]
/-! ### values -/
section
variable {α β γ ρ σ : Type} {fn : Fns} {env env1 : Ev} {h h1 h2 h3 : Cells} {a b c : DE} {ta tb : DT} {da dk : DA} {df di : DF} {d x y z : D} {ds ks zs xs' : List D} {i j n nk : Nat}
theorem x_c : dC d fn env h = .ok d h := rfl
theorem x_var (e : env[i]? = some (.val d)) : dVar i fn env h = .ok d h := by simp [dVar, e]
theorem x_bor (e : env[i]? = some (.own ds)) : dVar i fn env h = .ok (.bor ds) h := by simp [dVar, e]
theorem x_op1 {o : O1} (ha : a fn env h = .ok x h1) (ho : o x h1 = .ok z h2) : dOp1 o a fn env h = .ok z h2 := by simp [ha, ho]
theorem x_op2 {o : O2} (ha : a fn env h = .ok x h1) (hb : b fn env h1 = .ok y h2) (ho : o x y h2 = .ok z h3) : dOp2 o a b fn env h = .ok z h3 := by simp [ha, hb, ho]
theorem x_opN {o : ON} (ha : da fn env h = .ok ds h1) (ho : o ds h1 = .ok z h2) : dOpN o da fn env h = .ok z h2 := by simp [ha, ho]
theorem xa_nil : daNil fn env h = .ok [] h := rfl
theorem xa_cons (ha : a fn env h = .ok x h1) (hb : da fn env h1 = .ok ds h2) : daCons a da fn env h = .ok (x :: ds) h2 := by simp [ha, hb]
theorem nb_nil : noBors [] = true := rfl
theorem nb_cons (q : isBor d = false) (r : noBors ds = true) : noBors (d :: ds) = true := by simp [q, r]
theorem x_tup (ha : da fn env h = .ok ds h1) (nb : noBors ds = true) (hl : decide (ds.length ≤ szL) = true) : dTup da fn env h = .ok (.tup ds) h1 := by
  rw [e_dTup, ha, ok_bind, e_mkTup, nb, hl]; rfl
theorem x_lst (ha : da fn env h = .ok ds h1) (nb : noBors ds = true) (hl : decide (ds.length ≤ szL) = true) : dLst da fn env h = .ok (.lst ds) h1 := by
  rw [e_dLst, ha, ok_bind, e_mkLst, nb, hl]; rfl
theorem f_disp (ha : da fn env h = .ok ds h1) (nb : noBors ds = true) (hl : decide (ds.length ≤ szL) = true) : dDisp da fn env h = .ok ds h1 := by
  rw [e_dDisp, ha, ok_bind, nb, hl]; rfl
theorem x_asVal (hf : df fn env h = .ok ds h1) : asVal df fn env h = .ok (.lst ds) h1 := by simp [hf]
theorem x_and {k l : Bool} (ha : a fn env h = .ok (.bl k) h1) (hb : k = true → b fn env h1 = .ok (.bl l) h1) : dAnd a b fn env h = .ok (.bl (k && l)) h1 := by
  cases k with
  | false => simp [ha]
  | true => simp [ha, hb rfl]
theorem x_not {k : Bool} (ha : a fn env h = .ok x h1) (ht : dTru x h1 = .ok k h1) : dNot a fn env h = .ok (.bl (!k)) h1 := by simp [ha, ht]
theorem x_if {k : Bool} {e : α → D} {u v : α} (ht : ta fn env h = .ok k h1) (ha : k = true → a fn env h1 = .ok (e u) h1) (hb : k = false → b fn env h1 = .ok (e v) h1) : dIf ta a b fn env h = .ok (e (if k = true then u else v)) h1 := by
  cases k with
  | false => simp [ht, hb rfl]
  | true => simp [ht, ha rfl]
theorem x_chain {o o' : O2} {k l : Bool} (ha : a fn env h = .ok x h1) (hb : b fn env h1 = .ok y h2) (ho : o x y h2 = .ok (.bl k) h2) (hc : k = true → c fn env h2 = .ok z h2) (ho' : k = true → o' y z h2 = .ok (.bl l) h2) : dChain o o' a b c fn env h = .ok (.bl (k && l)) h2 := by
  cases k with
  | false => simp [ha, hb, ho]
  | true => simp [ha, hb, ho, hc rfl, ho' rfl]
theorem x_call {dd : List D} {src : List Src} {r : R D} (ha : da fn env h = .ok ds h1) (hk : dk fn env h1 = .ok ks h2) (nb1 : noBors ds = true) (nb2 : noBors ks = true) (l1 : decide (ds.length = n) = true) (l2 : decide (ks.length = nk) = true) (ar : arrange ds ks dd src = some zs) (hc : fn i zs h2 = r) :
    dCall i n nk src dd da dk fn env h = r := by
  rw [e_dCall, ha, ok_bind, hk, ok_bind, mkCall, nb1, nb2, l1, l2, ar]; exact hc
theorem t_B {k : Bool} (ha : a fn env h = .ok (.bl k) h1) : dtB a fn env h = .ok k h1 := by simp [ha]
theorem t_tru {k : Bool} (ha : a fn env h = .ok x h1) (ht : dTru x h1 = .ok k h1) : dTruE a fn env h = .ok k h1 := by simp [ha, ht]
theorem t_not {k : Bool} (ha : ta fn env h = .ok k h1) : dtNot ta fn env h = .ok (!k) h1 := by simp [ha]
theorem t_and {k l : Bool} (ha : ta fn env h = .ok k h1) (hb : k = true → tb fn env h1 = .ok l h1) : dtAnd ta tb fn env h = .ok (k && l) h1 := by
  cases k with
  | false => simp [ha]
  | true => simp [ha, hb rfl]
theorem t_or {k l : Bool} (ha : ta fn env h = .ok k h1) (hb : k = false → tb fn env h1 = .ok l h1) : dtOr ta tb fn env h = .ok (k || l) h1 := by
  cases k with
  | false => simp [ha, hb rfl]
  | true => simp [ha]
theorem tr_bl {k : Bool} : dTru (.bl k) h = .ok k h := rfl
/-! operations -/
theorem o_addT {e : α → D} {xs ys : List α} (l : xs.length + ys.length ≤ 16777216) : dAdd (eT e xs) (eT e ys) h = .ok (eT e (xs ++ ys)) h := by
  show dAdd (.tup (xs.map e)) (.tup (ys.map e)) h = .ok (.tup ((xs ++ ys).map e)) h
  rw [e_addT, List.length_map, List.length_map, if_pos l, List.map_append]
theorem o_repL {e : α → D} {xs : List α} {k : Int} (k0 : -1000000 ≤ k) (k1 : k ≤ 1000000) (l : xs.length * k.toNat ≤ 16777216) : dMul (eL e xs) (.int k) h = .ok (eL e (reps k.toNat xs)) h := by
  show dMul (.lst (xs.map e)) (.int k) h = .ok (.lst ((reps k.toNat xs).map e)) h
  unfold dMul
  simp only [seqM, List.length_map]
  rw [if_pos (by simp [k0, k1, l]), reps_map]
theorem at_map [Inhabited α] {e : α → D} {xs : List α} {k : Int} (k0 : -(xs.length : Int) ≤ k) (k1 : k < xs.length) : atI (xs.map e) k = some (e (getI xs k)) := by
  unfold atI ixN getI
  rw [List.length_map]
  by_cases z : 0 ≤ k
  · rw [if_pos z, if_pos k1, if_pos z]
    show (xs.map e)[k.toNat]? = _
    have hk : k.toNat < xs.length := by omega
    rw [List.getElem?_map, List.getElem?_eq_getElem hk]
    simp [List.getD_eq_getElem?_getD, hk]
  · rw [if_neg z, if_pos k0, if_neg z]
    show (xs.map e)[(k + (xs.length : Int)).toNat]? = _
    have hk : (k + (xs.length : Int)).toNat < xs.length := by omega
    rw [List.getElem?_map, List.getElem?_eq_getElem hk]
    simp [List.getD_eq_getElem?_getD, hk]
theorem o_ixT [Inhabited α] {e : α → D} {xs : List α} {k : Int} (k0 : -(xs.length : Int) ≤ k) (k1 : k < xs.length) : dIx (eT e xs) (.int k) h = .ok (e (getI xs k)) h := by
  show dIx (.tup (xs.map e)) (.int k) h = _
  rw [e_ixT, at_map k0 k1]
theorem o_ixL [Inhabited α] {e : α → D} {xs : List α} {k : Int} (k0 : -(xs.length : Int) ≤ k) (k1 : k < xs.length) : dIx (eL e xs) (.int k) h = .ok (e (getI xs k)) h := by
  show dIx (.lst (xs.map e)) (.int k) h = _
  rw [e_ixL, at_map k0 k1]
theorem x_part {k : Int} (ha : a fn env h = .ok (.int k) h1) : dPart a fn env h = .ok (some k) h1 := by simp [ha]
theorem x_noPart : dNoPart fn env h = .ok none h := rfl
theorem x_slice {lo hi : DO} {l u : Option Int} (ha : a fn env h = .ok x h1) (hl : lo fn env h1 = .ok l h2) (hh : hi fn env h2 = .ok u h3) (ho : dSl x l u h3 = .ok z h3) : dSlice a lo hi fn env h = .ok z h3 := by
  simp [ha, hl, hh, ho]
theorem o_slT {e : α → D} {xs : List α} {l u : Option Int} : dSl (eT e xs) l u h = .ok (eT e (cut xs l u)) h := by
  show dSl (.tup (xs.map e)) l u h = .ok (.tup ((cut xs l u).map e)) h
  rw [e_slT, cutD_map]
theorem o_lenT {e : α → D} {xs : List α} : cLen [eT e xs] h = .ok (.int xs.length) h := by
  show R.ok (D.int (xs.map e).length) h = _
  rw [List.length_map]
theorem o_lenL {e : α → D} {xs : List α} : cLen [eL e xs] h = .ok (.int xs.length) h := by
  show R.ok (D.int (xs.map e).length) h = _
  rw [List.length_map]
theorem ints_map {xs : List Int} : toInts (xs.map D.int) = some xs := toInts_Is
theorem bls_map' {xs : List Bool} : toBls (xs.map D.bl) = some xs := by
  have := bls_map (fun d : D => match d with
    | .bl b => b
    | _ => false) (ds := xs.map D.bl)
  rw [List.map_map, List.map_map] at this
  simpa [Function.comp_def] using this
theorem o_allL {xs : List Bool} : cAll [eL D.bl xs] h = .ok (.bl (xs.all id)) h := by
  show (match toBls (xs.map D.bl) with
    | some is => R.ok (D.bl (is.all id)) h
    | none => .bad) = _
  rw [bls_map']
theorem o_allM {f : α → Bool} {xs : List α} : cAll [eL D.bl (xs.map f)] h = .ok (.bl (xs.all f)) h := by
  rw [o_allL, List.all_map]; rfl
theorem o_tupL {e : α → D} {xs : List α} : cTuple [eL e xs] h = .ok (eT e xs) h := rfl
theorem o_tupT {e : α → D} {xs : List α} : cTuple [eT e xs] h = .ok (eT e xs) h := rfl
theorem o_tupB {e : α → D} {xs : List α} : cTuple [.bor (xs.map e)] h = .ok (eT e xs) h := rfl
theorem f_listT {e : α → D} {xs : List α} (ha : da fn env h = .ok [eT e xs] h1) : dListF da fn env h = .ok (xs.map e) h1 := by
  rw [e_dListF, ha, ok_bind]; rfl
theorem f_lstRg {k : Int} (ha : a fn env h = .ok (.int k) h1) (k0 : -1000000000 ≤ k) (k1 : k ≤ 16777216) : dLstRg a fn env h = .ok ((rangeI k).map D.int) h1 := by
  rw [e_dLstRg, ha, ok_bind]
  dsimp only
  rw [if_pos (by simp [k0, k1]), upTo_nats]; rfl
/-! None -/
/-! what is walked -/
theorem i_T {e : α → D} {xs : List α} (ha : a fn env h = .ok (eT e xs) h1) : dItems a fn env h = .ok (xs.map e) h1 := by
  rw [e_dItems, ha, ok_bind]; rfl
theorem i_L {e : α → D} {xs : List α} (ha : a fn env h = .ok (eL e xs) h1) : dItems a fn env h = .ok (xs.map e) h1 := by
  rw [e_dItems, ha, ok_bind]; rfl
theorem i_rng1 {k : Int} (ha : da fn env h = .ok [.int k] h1) (k0 : -1000000000 ≤ k) (k1 : k ≤ 1000000000) : dRng1 da fn env h = .ok ((rangeI k).map D.int) h1 := by
  rw [e_dRng1, ha, ok_bind, e_rng1, if_pos (by simp [k0, k1]), upTo_nats]; rfl
theorem i_rng3 {k l : Int} (ha : da fn env h = .ok [.int k, .int l, .int (-1)] h1) (k0 : -1000000000 ≤ k) (k1 : k ≤ 1000000000) (l0 : -1000000000 ≤ l) (l1 : l ≤ 1000000000) : dRng3 da fn env h = .ok ((rangeD k l).map D.int) h1 := by
  unfold dRng3
  rw [ha, ok_bind, rng3]
  rw [if_pos (by simp [k0, k1, l0, l1]), rangeD, downTo, List.map_map]; rfl
theorem i_zip {t1 t2 : Bool} {e : α → D} {e' : β → D} {xs : List α} {ys : List β} (ha : da fn env h = .ok [x, y] h1) (hx : seqZ x = some (t1, xs.map e)) (hy : seqZ y = some (t2, ys.map e')) : dZipX da fn env h = .ok ((xs.zip ys).map (eP2 e e')) h1 := by
  unfold dZipX
  rw [ha, ok_bind, zipX]
  simp only [hx, hy, pairs_map]
theorem i_enumT {e : α → D} {xs : List α} (ha : da fn env h = .ok [eT e xs] h1) : dEnumA da fn env h = .ok ((enumI xs).map (eP2 D.int e)) h1 := by
  rw [e_dEnumA, ha, ok_bind]
  show R.ok (numbered 0 (xs.map e)) h1 = _
  rw [num_enum]; rfl
/-! names bound -/
theorem p_name (nb : isBor d = false) (hl : decide (env.length ≤ i) = false) (he : env.set i (.val d) = env1) : Pat.put (.name i) d env = some env1 := by
  rw [e_put1, nb, hl]; simp [he]
theorem p_tup {ps : List Pat} (hd : d = .tup ds) (q : Pat.puts ps ds env = some env1) : Pat.put (.tup ps) d env = some env1 := by
  rw [hd, e_putT]; exact q
theorem p_nil : Pat.puts [] [] env = some env := e_puts0
theorem p_cons {p : Pat} {ps : List Pat} {env2 : Ev} (q : Pat.put p d env = some env1) (r : Pat.puts ps ds env1 = some env2) : Pat.puts (p :: ps) (d :: ds) env = some env2 := by
  rw [e_puts1, q]; exact r
/-! comprehensions -/
theorem f_compM {vs : List Nat} {pt : Pat} {te : DE} {en : α → D} {ev : β → D} {xs : List α} {env0 : Ev} (f : α → β) (hi : di fn env h = .ok (xs.map en) h1) (hl : xs.length ≤ 16777216) (hw : wipeE env vs = env0)
    (nb : ∀ u, isBor (ev u) = false) (hb : ∀ u ∈ xs, ∃ env1, Pat.put pt (en u) env0 = some env1 ∧ te fn env1 h1 = .ok (ev (f u)) h1) :
    dComp vs pt di dtYes te fn env h = .ok ((xs.map f).map ev) h1 := by
  rw [e_dComp, hi, ok_bind, List.length_map, decide_eq_true hl, if_pos rfl, hw]
  clear hi hl
  induction xs with
  | nil => rfl
  | cons u us ih =>
    obtain ⟨env1, e1, e2⟩ := hb u (.head _)
    rw [List.map_cons, List.map_cons, List.map_cons]
    unfold compL
    simp only [e1, e2, e_dtYes, nox_ok, ok_bind, if_true, nb, Bool.false_eq_true, if_false, ih fun v hv => hb v (.tail _ hv)]
theorem f_compF {vs : List Nat} {pt : Pat} {tt : DT} {te : DE} {en : α → D} {ev : β → D} {xs : List α} {env0 : Ev} (p : α → Bool) (f : α → β) (hi : di fn env h = .ok (xs.map en) h1) (hl : xs.length ≤ 16777216) (hw : wipeE env vs = env0)
    (nb : ∀ u, isBor (ev u) = false) (hb : ∀ u ∈ xs, ∃ env1, Pat.put pt (en u) env0 = some env1 ∧ tt fn env1 h1 = .ok (p u) h1 ∧ (p u = true → te fn env1 h1 = .ok (ev (f u)) h1)) :
    dComp vs pt di tt te fn env h = .ok (((xs.filter p).map f).map ev) h1 := by
  rw [e_dComp, hi, ok_bind, List.length_map, decide_eq_true hl, if_pos rfl, hw]
  clear hi hl
  induction xs with
  | nil => rfl
  | cons u us ih =>
    obtain ⟨env1, e1, e2, e3⟩ := hb u (.head _)
    have ih := ih fun v hv => hb v (.tail _ hv)
    rw [List.map_cons]
    unfold compL
    cases ep : p u with
    | false => simp only [e1, e2, ep, nox_ok, ok_bind, Bool.false_eq_true, if_false, ih, List.filter_cons]
    | true => simp only [e1, e2, ep, e3 ep, nox_ok, ok_bind, if_true, nb, Bool.false_eq_true, if_false, ih, List.filter_cons, List.map_cons]
end
end EV
/-! EV64: what typed code reads as: statements, blocks, loops -/
namespace EV
open PySem L2
section
variable {α β γ ρ σ τ : Type} {fn : Fns} {env env0 env1 env2 : Ev} {h h0 h1 h2 h3 : Cells} {a b c : DE} {ta tb : DT} {da dk : DA} {df di : DF} {d x y z : D} {ds ks zs : List D} {i j k n nk : Nat} {m m1 m2 : DS} {fl : Fl}
/-! simple statements -/
theorem z_set (ha : a fn env h = .ok d h1) (nb : isBor d = false) (hl : decide (env.length ≤ i) = false) (he : env.set i (.val d) = env1) : sSet i a fn env h = .ok (.nx, env1) h1 := by
  rw [e_sSet, ha, ok_bind, e_setV, nb, hl, he]; rfl
theorem z_own (hf : df fn env h = .ok ds h1) (hl : decide (env.length ≤ i) = false) (he : env.set i (.own ds) = env1) : sOwn i df fn env h = .ok (.nx, env1) h1 := by
  rw [e_sOwn, hf, ok_bind, hl, he]; rfl
theorem z_frzA {is : List Nat} (hs : m fn env h = .ok (fl, env1) h1) (he : frzs is env1 = env2) : sFrzA is m fn env h = .ok (fl, env2) h1 := by
  rw [e_sFrzA, hs, ok_bind, he]
theorem z_expr (ha : a fn env h = .ok d h1) : sExpr a fn env h = .ok (.nx, env) h1 := by
  rw [e_sExpr, ha]; rfl
theorem m_V (ha : a fn env h = .ok d h1) (nb : isBor d = false) : dmV a fn env h = .ok (.v d) h1 := by
  rw [e_dmV, ha, ok_bind, nb]; rfl
theorem m_O (ha : df fn env h = .ok ds h1) : dmO df fn env h = .ok (.o ds) h1 := by
  rw [e_dmO, ha]; rfl
def putS : It' → Sl
  | .v d => .val d
  | .o ds => .own ds
theorem putIt_eq {u : It'} (hl : decide (env.length ≤ i) = false) : putIt i u env = some (env.set i (putS u)) := by
  have : ¬ env.length ≤ i := by simpa using hl
  cases u <;> simp [this, putS]
theorem z_par2 {ma mb : DM} {u v : It'} (ha : ma fn env h = .ok u h1) (hb : mb fn env h1 = .ok v h2) (l1 : decide (env.length ≤ i) = false) (l2 : decide (env.length ≤ j) = false) (he : (env.set i (putS u)).set j (putS v) = env1) : sPar2 i j ma mb fn env h = .ok (.nx, env1) h2 := by
  rw [e_sPar2, ha, ok_bind, hb, ok_bind, putIt_eq l1]
  dsimp only
  rw [putIt_eq (by rw [List.length_set]; exact l2), he]
theorem z_par3 {ma mb mc : DM} {u v w : It'} (ha : ma fn env h = .ok u h1) (hb : mb fn env h1 = .ok v h2) (hc : mc fn env h2 = .ok w h3) (l1 : decide (env.length ≤ i) = false) (l2 : decide (env.length ≤ j) = false) (l3 : decide (env.length ≤ k) = false)
    (he : ((env.set i (putS u)).set j (putS v)).set k (putS w) = env1) : sPar3 i j k ma mb mc fn env h = .ok (.nx, env1) h3 := by
  rw [e_sPar3, ha, ok_bind, hb, ok_bind, hc, ok_bind, putIt_eq l1]
  dsimp only
  rw [putIt_eq (by rw [List.length_set]; exact l2)]
  dsimp only
  rw [putIt_eq (by rw [List.length_set, List.length_set]; exact l3), he]
theorem z_append {e : α → D} {xs : List α} {u : α} (he0 : env[i]? = some (.own (xs.map e))) (ha : a fn env h = .ok (e u) h1) (nb : isBor (e u) = false) (l : xs.length < 16777216) (he : env.set i (.own ((xs ++ [u]).map e)) = env1) : sAppend i a fn env h = .ok (.nx, env1) h1 := by
  have hs : ∀ h, slotL env h i = some (xs.map e) := fun h => by rw [e_slotL, he0]
  rw [e_sAppend, hs]
  dsimp only
  rw [ha, ok_bind, e_appendAt, nb, hs]
  dsimp only
  rw [List.length_map, decide_eq_true (by exact l), if_pos rfl, e_slotP, he0]
  dsimp only
  rw [← he, List.map_append]; rfl
theorem z_asg {dg : DG} {r : R (Fl × Ev)} (ha : a fn env h = .ok d h1) (nb : isBor d = false) (hg : dg d fn env h1 = r) : sAsg a dg fn env h = r := by
  rw [e_sAsg, ha, ok_bind, nb]; exact hg
theorem g_name (nb : isBor d = false) (hl : decide (env.length ≤ i) = false) (he : env.set i (.val d) = env1) : gName' i d fn env h = .ok (.nx, env1) h := by
  rw [e_gName', e_setV, nb, hl, he]; rfl
theorem g_nil : gsNil [] fn env h = .ok (.nx, env) h := e_gsNil
theorem g_cons {dg : DG} {db : List D → DS} {r : R (Fl × Ev)} (ha : dg d fn env h = .ok (.nx, env1) h1) (hb : db ds fn env1 h1 = r) : gsCons dg db (d :: ds) fn env h = r := by
  rw [e_gsCons, e_sSeq, ha, ok_bind]; exact hb
theorem g_tup {db : List D → DS} {r : R (Fl × Ev)} (hd : d = .tup ds) (hn : decide (ds.length = n) = true) (hb : db ds fn env h = r) : gTup n db d fn env h = r := by
  rw [hd, e_gTup, if_pos (by simpa using hn)]; exact hb
/-! blocks -/
def J (m : DS) (fn : Fns) (env : Ev) (h : Cells) (K : τ → Fl → Ev → Cells → Prop) (r : τ) : Prop := ∃ fl env' h', m fn env h = .ok (fl, env') h' ∧ K r fl env' h'
def KR (V : ρ → D × Cells) (r : ρ) (fl : Fl) (_ : Ev) (h : Cells) : Prop := fl = .rt (V r).1 ∧ h = (V r).2
def KN (E : σ → Ev → Cells → Prop) (s : σ) (fl : Fl) (env : Ev) (h : Cells) : Prop := fl = .nx ∧ E s env h
def KG (E : σ → Ev → Cells → Prop) (s : σ) (fl : Fl) (env : Ev) (h : Cells) : Prop := (fl = .nx ∨ fl = .ct) ∧ E s env h
def KC (E : σ → Ev → Cells → Prop) (V : ρ → D × Cells) : Ct ρ σ → Fl → Ev → Cells → Prop
  | .ret r, fl, _, h => fl = .rt (V r).1 ∧ h = (V r).2
  | .go s, fl, env, h => (fl = .nx ∨ fl = .ct) ∧ E s env h
  | .brk s, fl, env, h => fl = .bk ∧ E s env h
def KE (K : τ → Fl → Ev → Cells → Prop) (r : τ) (fl : Fl) (env : Ev) (h : Cells) : Prop := K r fl env h ∧ fl ≠ .nx
variable {K : τ → Fl → Ev → Cells → Prop} {r r1 r2 : τ}
theorem j_lt {v : α} {f : α → τ} (q : ∀ u, u = v → J m fn env h K (f u)) : J m fn env h K (lt v f) := q v rfl
theorem j_seq (ha : m1 fn env h = .ok (.nx, env1) h1) (q : J m2 fn env1 h1 K r) : J (sSeq m1 m2) fn env h K r := by
  obtain ⟨fl, e, h', e1, e2⟩ := q
  exact ⟨fl, e, h', by rw [seqQ ha]; exact e1, e2⟩
theorem j_last (ha : m fn env h = .ok (.nx, env1) h1) (q : K r .nx env1 h1) : J m fn env h K r := ⟨_, _, _, ha, q⟩
theorem j_ret (ha : a fn env h = .ok d h1) (nb : isBor d = false) (q : K r (.rt d) env h1) : J (sRet a) fn env h K r := ⟨_, _, _, by rw [e_sRet, ha, ok_bind, nb]; rfl, q⟩
theorem j_next (q : K r .nx env h) : J sNext fn env h K r := ⟨_, _, _, rfl, q⟩
theorem j_if {k : Bool} (ht : ta fn env h = .ok k h1) (ha : k = true → J m1 fn env h1 K r1) (hb : k = false → J m2 fn env h1 K r2) : J (sIf ta m1 m2) fn env h K (if k = true then r1 else r2) := by
  cases k with
  | true =>
    obtain ⟨fl, e, h', e1, e2⟩ := ha rfl
    exact ⟨fl, e, h', by rw [e_sIf, ht, ok_bind, if_pos rfl]; exact e1, by rw [if_pos rfl]; exact e2⟩
  | false =>
    obtain ⟨fl, e, h', e1, e2⟩ := hb rfl
    exact ⟨fl, e, h', by rw [e_sIf, ht, ok_bind, if_neg (by decide)]; exact e1, by rw [if_neg (by decide)]; exact e2⟩
/-- if .. that leaves, then the rest -/
theorem j_ifq {k : Bool} (ht : ta fn env h = .ok k h1) (ha : k = true → J m1 fn env h1 (KE K) r1) (hb : k = false → J m2 fn env h1 K r2) : J (sSeq (sIf ta m1 sNext) m2) fn env h K (if k = true then r1 else r2) := by
  cases k with
  | true =>
    obtain ⟨fl, e, h', e1, e2, e3⟩ := ha rfl
    refine ⟨fl, e, h', ?_, by rw [if_pos rfl]; exact e2⟩
    rw [e_sSeq, e_sIf, ht, ok_bind, if_pos rfl, e1, ok_bind]
    cases fl <;> first | rfl | exact absurd rfl e3
  | false =>
    obtain ⟨fl, e, h', e1, e2⟩ := hb rfl
    refine ⟨fl, e, h', ?_, by rw [if_neg (by decide)]; exact e2⟩
    rw [e_sSeq, e_sIf, ht, ok_bind, if_neg (by decide), e_sNext, ok_bind]; exact e1
/-- if .. that never holds (what it raises is not told) -/
theorem j_ifN (ht : ta fn env h = .ok false h1) (hb : J m2 fn env h1 K r2) : J (sSeq (sIf ta m1 sNext) m2) fn env h K r2 := by
  obtain ⟨fl, e, h', e1, e2⟩ := hb
  refine ⟨fl, e, h', ?_, e2⟩
  rw [e_sSeq, e_sIf, ht, ok_bind, if_neg (by decide), e_sNext, ok_bind]; exact e1
/-- if .. else .. whose ends meet, then the rest -/
theorem j_ifm {k : Bool} {E : σ → Ev → Cells → Prop} {s1 s2 : σ} {f : σ → τ} (ht : ta fn env h = .ok k h1) (ha : k = true → J m1 fn env h1 (KN E) s1) (hb : k = false → J m2 fn env h1 (KN E) s2)
    (q : ∀ s env2 h2, s = (if k = true then s1 else s2) → E s env2 h2 → J m fn env2 h2 K (f s)) : J (sSeq (sIf ta m1 m2) m) fn env h K (lt (if k = true then s1 else s2) f) := by
  obtain ⟨fl, e, h', e1, e2, e3⟩ := j_if ht ha hb
  subst e2
  exact j_seq e1 (q _ e h' rfl e3)
/-! loops -/
theorem loop_fold {pt : Pat} {body : DS} {en : α → D} (E : σ → Ev → Cells → Prop) (Inv : Nat → σ → Prop) (step : σ → α → σ) : ∀ {xs : List α} {s0 : σ} {env0 : Ev} {h0 : Cells} (p : Nat), Inv p s0 → E s0 env0 h0 →
    (∀ (i : Nat) (u : α) (s : σ) (env : Ev) (h : Cells), xs[i]? = some u → Inv (p + i) s → E s env h → Inv (p + i + 1) (step s u) ∧ ∃ env1, Pat.put pt (en u) env = some env1 ∧ J body fn env1 h (KG E) (step s u)) →
    ∃ env1 h1, forL pt body fn (xs.map en) env0 h0 = .ok (.nx, env1) h1 ∧ E (xs.foldl step s0) env1 h1 ∧ Inv (p + xs.length) (xs.foldl step s0)
  | [], s0, env0, h0, p, i0, e0, _ => ⟨env0, h0, rfl, e0, i0⟩
  | u :: us, s0, env0, h0, p, i0, e0, st => by
    obtain ⟨i1, env1, e1, fl, env2, h2, e2, hx, e3⟩ := st 0 u s0 env0 h0 rfl i0 e0
    obtain ⟨env3, h3, e4, e5, i5⟩ := loop_fold E Inv step (xs := us) (p + 1) i1 e3 fun i v s env h hv hi hE => by
      have z := st (i + 1) v s env h (by simpa using hv) (by rw [show p + (i + 1) = p + 1 + i by omega]; exact hi) hE
      rw [show p + (i + 1) = p + 1 + i by omega] at z
      exact z
    refine ⟨env3, h3, ?_, e5, by rw [List.length_cons, show p + (us.length + 1) = p + 1 + us.length by omega]; exact i5⟩
    rw [List.map_cons]
    unfold forL
    rw [e1]
    show R.bind _ _ = _
    rw [e2, ok_bind]
    rcases hx with rfl | rfl <;> exact e4
def CtR (E : σ → Ev → Cells → Prop) (V : ρ → D × Cells) (Inv : Nat → σ → Prop) (p q : Nat) (r : R (Fl × Ev)) : Ct ρ σ → Prop
  | .ret a => ∃ env1, r = .ok (.rt (V a).1, env1) (V a).2
  | .go s => ∃ env1 h1 i, r = .ok (.nx, env1) h1 ∧ E s env1 h1 ∧ p ≤ i ∧ i ≤ q ∧ Inv i s
  | .brk _ => False
theorem loop_ctl {pt : Pat} {body : DS} {en : α → D} (E : σ → Ev → Cells → Prop) (V : ρ → D × Cells) (Inv : Nat → σ → Prop) (step : σ → α → Ct ρ σ) : ∀ {xs : List α} {s0 : σ} {env0 : Ev} {h0 : Cells} (p : Nat), Inv p s0 → E s0 env0 h0 →
    (∀ (i : Nat) (u : α) (s : σ) (env : Ev) (h : Cells), xs[i]? = some u → Inv (p + i) s → E s env h → (∀ s', (step s u = .go s' ∨ step s u = .brk s') → Inv (p + i + 1) s') ∧ ∃ env1, Pat.put pt (en u) env = some env1 ∧ J body fn env1 h (KC E V) (step s u)) →
    CtR E V Inv p (p + xs.length) (forL pt body fn (xs.map en) env0 h0) (loopR step s0 xs)
  | [], s0, env0, h0, p, i0, e0, _ => ⟨env0, h0, p, rfl, e0, Nat.le_refl _, Nat.le_refl _, i0⟩
  | u :: us, s0, env0, h0, p, i0, e0, st => by
    obtain ⟨i1, env1, e1, fl, env2, h2, e2, hx⟩ := st 0 u s0 env0 h0 rfl i0 e0
    rw [List.map_cons]
    unfold forL loopR
    rw [e1]
    dsimp only
    rw [e2, ok_bind]
    cases hs : step s0 u with
    | ret a =>
      rw [hs] at hx
      obtain ⟨rfl, rfl⟩ := hx
      exact ⟨env2, rfl⟩
    | brk s =>
      rw [hs] at hx
      obtain ⟨rfl, hE⟩ := hx
      exact ⟨env2, h2, p + 1, rfl, hE, by omega, by rw [List.length_cons]; omega, i1 s (.inr hs)⟩
    | go s =>
      rw [hs] at hx
      obtain ⟨hf, hE⟩ := hx
      have z := loop_ctl E V Inv step (xs := us) (p + 1) (i1 s (.inl hs)) hE fun i v s env h hv hi hE => by
        have z := st (i + 1) v s env h (by simpa using hv) (by rw [show p + (i + 1) = p + 1 + i by omega]; exact hi) hE
        rw [show p + (i + 1) = p + 1 + i by omega] at z
        exact z
      have z2 : CtR E V Inv p (p + (u :: us).length) (forL pt body fn (us.map en) env2 h2) (loopR step s us) := by
        revert z
        cases loopR step s us with
        | ret a => exact id
        | brk s => exact id
        | go s => exact fun ⟨a, b, i, c, d, e, f, g⟩ => ⟨a, b, i, c, d, by omega, by rw [List.length_cons]; omega, g⟩
      rcases hf with rfl | rfl <;> exact z2
theorem z_for {pt : Pat} {body : DS} {r : R (Fl × Ev)} (hi : di fn env h = .ok ds h1) (hl : forL pt body fn ds env h1 = r) : sFor pt di body fn env h = r := by
  rw [e_sFor, hi, ok_bind]; exact hl
/-- for .. without an early end, then the rest -/
theorem j_for {pt : Pat} {body : DS} {E : σ → Ev → Cells → Prop} {P : σ → Prop} {s : σ} {f : σ → τ} (hi : di fn env h = .ok ds h1) (hl : ∃ env1 h2, forL pt body fn ds env h1 = .ok (.nx, env1) h2 ∧ E s env1 h2 ∧ P s)
    (q : ∀ t env2 h2, t = s → P t → E t env2 h2 → J m fn env2 h2 K (f t)) : J (sSeq (sFor pt di body) m) fn env h K (lt s f) := by
  obtain ⟨env1, h2, e1, e2, e3⟩ := hl
  exact j_seq (z_for hi e1) (q s env1 h2 rfl e3 e2)
/-- for .. that may return, then the rest, which returns -/
theorem j_forR {pt : Pat} {body : DS} {E : σ → Ev → Cells → Prop} {V : ρ → D × Cells} {Inv : Nat → σ → Prop} {p q : Nat} {w : Ct ρ σ} {f : σ → ρ} (hi : di fn env h = .ok ds h1) (hl : CtR E V Inv p q (forL pt body fn ds env h1) w)
    (hq : ∀ s env2 h2 i, w = .go s → p ≤ i → i ≤ q → Inv i s → E s env2 h2 → J m fn env2 h2 (KR V) (f s)) : J (sSeq (sFor pt di body) m) fn env h (KR V) (w.out f) := by
  cases w with
  | ret a =>
    obtain ⟨env1, e⟩ := hl
    exact ⟨_, env1, _, by rw [e_sSeq, z_for hi e, ok_bind]; rfl, rfl, rfl⟩
  | go s =>
    obtain ⟨env1, h2, i, e1, e2, e3, e4, e5⟩ := hl
    exact j_seq (z_for hi e1) (hq s env1 h2 i rfl e3 e4 e5 e2)
  | brk s => exact hl.elim
/-- within a loop: for .. that may return, then the rest -/
def Ct.bind {ρ σ τ : Type} (k : σ → Ct ρ τ) : Ct ρ σ → Ct ρ τ
  | .ret r => .ret r
  | .go s => k s
  | .brk s => k s
/-! defs -/
theorem b_ret {V : ρ → D × Cells} {r : ρ} (q : J m fn (startE n ds) h (KR V) r) : bodyF n m fn ds h = .ok (V r).1 (V r).2 := by
  obtain ⟨fl, e, h', e1, rfl, rfl⟩ := q
  rw [e_body, e1, ok_bind, e_endR]
end
end EV
/-! EV65: more of what typed code reads as; draws -/
namespace EV
open PySem L2
instance : Inhabited SS := ⟨lit ""⟩
section
variable {α β γ δ ρ σ τ : Type} {fn : Fns} {env env0 env1 env2 : Ev} {h h0 h1 h2 h3 : Cells} {a b c : DE} {ta tb : DT} {da dk : DA} {df di : DF} {d x y z : D} {ds ks zs : List D} {i j n nk : Nat} {m m1 m2 : DS} {fl : Fl}
theorem xv (v : D) (p : a fn env h = .ok v h1) : a fn env h = .ok v h1 := p
theorem fv (v : List D) (p : df fn env h = .ok v h1) : df fn env h = .ok v h1 := p
theorem t_false {k : Bool} (p : ta fn env h = .ok k h1) (q : k = false) : ta fn env h = .ok false h1 := by rw [p, q]
theorem x_isi {t : Ty} {ts : List Ty} {k : Bool} (ha : a fn env h = .ok x h1) (ht : tyOf h1 x = some t) (hk : (ts.any fun u => t.isa u) = k) : dIsi a ts fn env h = .ok (.bl k) h1 := by
  rw [e_dIsi, ha, ok_bind, ht]
  dsimp only
  rw [hk]
theorem o_ixP2_0 {ea : α → D} {eb : β → D} {p : α × β} : dIx (eP2 ea eb p) (.int 0) h = .ok (ea p.1) h := rfl
theorem o_ixP2_1 {ea : α → D} {eb : β → D} {p : α × β} : dIx (eP2 ea eb p) (.int 1) h = .ok (eb p.2) h := rfl
theorem o_ixP4_0 {ea : α → D} {eb : β → D} {ec : γ → D} {ed : δ → D} {p : α × β × γ × δ} : dIx (eP4 ea eb ec ed p) (.int 0) h = .ok (ea p.1) h := rfl
theorem o_ixP4_1 {ea : α → D} {eb : β → D} {ec : γ → D} {ed : δ → D} {p : α × β × γ × δ} : dIx (eP4 ea eb ec ed p) (.int 1) h = .ok (eb p.2.1) h := rfl
theorem o_ixP4_2 {ea : α → D} {eb : β → D} {ec : γ → D} {ed : δ → D} {p : α × β × γ × δ} : dIx (eP4 ea eb ec ed p) (.int 2) h = .ok (ec p.2.2.1) h := rfl
theorem o_ixP4_3 {ea : α → D} {eb : β → D} {ec : γ → D} {ed : δ → D} {p : α × β × γ × δ} : dIx (eP4 ea eb ec ed p) (.int 3) h = .ok (ed p.2.2.2) h := rfl
theorem lt_of_get {xs : List α} {i : Nat} {u : α} (h : xs[i]? = some u) : i < xs.length := (List.getElem?_eq_some_iff.mp h).1
theorem mem_rng {k u : Int} (h : u ∈ rangeI k) : 0 ≤ u ∧ u < k := by
  have := mem_nats.mp h; omega
theorem mem_rngD {a b u : Int} (h : u ∈ rangeD a b) : b < u ∧ u ≤ a := by
  unfold rangeD at h
  obtain ⟨i, hi, rfl⟩ := List.mem_map.mp h
  have := List.mem_range.mp hi; omega
theorem rng_get {k u : Int} {i : Nat} (h : (rangeI k)[i]? = some u) : u = i := by
  unfold rangeI nats at h
  rw [List.getElem?_map] at h
  obtain ⟨j, hj, rfl⟩ := Option.map_eq_some_iff.mp h
  have := (List.getElem?_eq_some_iff.mp hj).2
  simp at this; omega
theorem mem_enm {xs : List α} {p : Int × α} (h : p ∈ enumI xs) : 0 ≤ p.1 ∧ p.1 < xs.length ∧ p.2 ∈ xs := by
  obtain ⟨k, e, g⟩ := enum_mem h
  have := (List.getElem?_eq_some_iff.mp g).1
  exact ⟨by omega, by omega, List.mem_of_getElem? g⟩
theorem mem_zip {xs : List α} {ys : List β} {p : α × β} (h : p ∈ xs.zip ys) : p.1 ∈ xs ∧ p.2 ∈ ys := List.of_mem_zip (a := p.1) (b := p.2) h
@[simp] theorem rangeI_len {k : Int} : (rangeI k).length = k.toNat := nats_len
@[simp] theorem rangeD_len {a b : Int} : (rangeD a b).length = (a - b).toNat := by simp [rangeD]
@[simp] theorem enumI_len {xs : List α} {i : Int} : (enumF i xs).length = xs.length := enum_len
/-! what repr asks -/
theorem rqx {n B : Nat} {d : D} (h : Rq n B d) (hn : n ≤ 50) (hB : B ≤ 16777216) : RqX d := ⟨n, hn, h.mono hB⟩
theorem rqI {n : Nat} {i : Int} (h : i.natAbs ≤ 1000000000000000) : Rq n 41 (.int i) := rq_int h
theorem rqT {n B m : Nat} {e : α → D} {xs : List α} (h : ∀ x ∈ xs, Rq n B (e x)) (l : xs.length ≤ m) : Rq (n + 1) (m * (B + 2) + 3) (eT e xs) :=
  rq_tup (fun d hd => by obtain ⟨x, hx, rfl⟩ := List.mem_map.mp hd; exact h x hx) (by rw [List.length_map]; exact Nat.add_le_add_right (Nat.mul_le_mul_right _ l) _)
theorem rqL {n B m : Nat} {e : α → D} {xs : List α} (h : ∀ x ∈ xs, Rq n B (e x)) (l : xs.length ≤ m) : Rq (n + 1) (m * (B + 2) + 3) (eL e xs) :=
  rq_lst (fun d hd => by obtain ⟨x, hx, rfl⟩ := List.mem_map.mp hd; exact h x hx) (by rw [List.length_map]; exact Nat.add_le_add_right (Nat.mul_le_mul_right _ l) _)
theorem rq_succ : ∀ {n B : Nat} {d : D}, Rq n B d → Rq (n + 1) B d := by
  have ok : ∀ (n : Nat) (d : D), okr n d = true → okr (n + 1) d = true ∧ dsz (n + 1) d = dsz n d := by
    intro n
    induction n with
    | zero => intro d q; cases d <;> first | (exact ⟨q, rfl⟩) | (simp [okr] at q)
    | succ n ih =>
      have many : ∀ ds : List D, ds.all (okr n) = true → ds.all (okr (n + 1)) = true ∧ (ds.map fun d => dsz (n + 1) d + 2) = ds.map fun d => dsz n d + 2 := fun ds q => by
        rw [List.all_eq_true] at q
        refine ⟨List.all_eq_true.mpr fun d hd => (ih d (q d hd)).1, List.map_congr_left fun d hd => by rw [(ih d (q d hd)).2]⟩
      intro d q
      cases d with
      | tup ds =>
        obtain ⟨a, b⟩ := many ds q
        exact ⟨a, by show (ds.map fun d => dsz (n + 1) d + 2).sum + 3 = (ds.map fun d => dsz n d + 2).sum + 3; rw [b]⟩
      | lst ds =>
        obtain ⟨a, b⟩ := many ds q
        exact ⟨a, by show (ds.map fun d => dsz (n + 1) d + 2).sum + 3 = (ds.map fun d => dsz n d + 2).sum + 3; rw [b]⟩
      | _ => first | (exact ⟨q, rfl⟩) | (simp [okr] at q)
  intro n B d ⟨a, b⟩
  obtain ⟨c, e⟩ := ok n d a
  exact ⟨c, by rw [e]; exact b⟩
theorem rqUp {n m B : Nat} {d : D} (l : n ≤ m) (h : Rq n B d) : Rq m B d := by
  obtain ⟨a, b⟩ := h
  induction l with
  | refl => exact ⟨a, b⟩
  | step _ ih => exact rq_succ ih
theorem rqP2 {n A B : Nat} {ea : α → D} {eb : β → D} {p : α × β} (ha : Rq n A (ea p.1)) (hb : Rq n B (eb p.2)) : Rq (n + 1) (A + B + 7) (eP2 ea eb p) := by
  obtain ⟨a1, a2⟩ := ha
  obtain ⟨b1, b2⟩ := hb
  refine ⟨by simp [eP2, okr, a1, b1], ?_⟩
  show (([ea p.1, eb p.2] : List D).map fun d => dsz n d + 2).sum + 3 ≤ _
  simp; omega
theorem foldl_inv {f : σ → α → σ} (Inv : Nat → σ → Prop) : ∀ {xs : List α} {s0 : σ} (p : Nat), Inv p s0 → (∀ i u s, xs[i]? = some u → Inv (p + i) s → Inv (p + i + 1) (f s u)) → Inv (p + xs.length) (xs.foldl f s0)
  | [], s0, p, h, _ => h
  | x :: xs, s0, p, h, st => by
    have h2 := foldl_inv Inv (xs := xs) (p + 1) (st 0 x s0 rfl h) fun i u s hu hi => by
      have z := st (i + 1) u s (by simpa using hu) (by rw [show p + (i + 1) = p + 1 + i by omega]; exact hi)
      rw [show p + (i + 1) = p + 1 + i by omega] at z
      exact z
    rw [List.length_cons, show p + (xs.length + 1) = p + 1 + xs.length by omega]; exact h2
/-! blocks -/
variable {K : τ → Fl → Ev → Cells → Prop} {r r1 r2 : τ} {V : ρ → D × Cells} {E : σ → Ev → Cells → Prop} {u : ρ}
theorem j_re (q : J m fn env h (KR V) u) : J m fn env h (KE (KR V)) u := by
  obtain ⟨fl, e, h', e1, e2, e3⟩ := q
  exact ⟨fl, e, h', e1, ⟨e2, e3⟩, fun z => by rw [e2] at z; cases z⟩
theorem j_rc (q : J m fn env h (KR V) u) : J m fn env h (KE (KC E V)) (.ret u) := by
  obtain ⟨fl, e, h', e1, e2, e3⟩ := q
  exact ⟨fl, e, h', e1, ⟨e2, e3⟩, fun z => by rw [e2] at z; cases z⟩
end
/-! ### draws -/
/-- a pot's place, no list beside it -/
structure PotOk (n : Nat) (h0 : Cells) : Prop where
  lt : n < h0.length
  nl : noLstH h0 = true
theorem PotOk.nl_hp {n : Nat} {h0 : Cells} {p : Pot2} (o : PotOk n h0) : noLstH (hp n h0 p) = true := noLstH_set rfl o.nl
def drawT (c1 c2 m1 m2 q : Int) (p : Pot2) (s : Int) : Int × Pot2 :=
  if 0 < p.1 then (p.1 % s, (p.1 / s, p.2)) else
    (((p.2 * c1 + c2) % m1 * ((p.2 * c1 + c2) % m1) % m2 / q) % s, (p.1, (p.2 * c1 + c2) % m1))
theorem draw_b {c1 c2 m1 m2 q : Int} {p : Pot2} {s : Int} (h : 0 < s) : 0 ≤ (drawT c1 c2 m1 m2 q p s).1 ∧ (drawT c1 c2 m1 m2 q p s).1 < s := by
  unfold drawT
  split <;> exact ⟨Int.emod_nonneg _ (by omega), Int.emod_lt_of_pos _ h⟩
def ST_draw (t : Pot2 → Int → Int × Pot2) (f : Fn) : Prop := ∀ (n : Nat) (h0 : Cells) (p : Pot2) (s : Int), PotOk n h0 → 0 < s → s < 1073741824 → f [.obj n, .int s] (hp n h0 p) = .ok (.int (t p s).1) (hp n h0 (t p s).2)
theorem et_draw {fn : Fns} {c1 c2 m1 m2 q : Int} (s1 : c1.natAbs ≤ 1000000000) (hm1 : 0 < m1 ∧ m1 ≤ 4000000000) (hm2 : 0 < m2) (hq : 0 < q ∧ q < 1073741824) : ST_draw (drawT c1 c2 m1 m2 q) (bodyF 3 (drawM c1 c2 m1 m2 q) fn) := fun n h0 p s hn h0' h1' => by
  have hn' := hn
  have hn := hn.lt
  have e := hp_get (p := p) hn
  obtain ⟨a, b⟩ := p
  have hl : n < (hp n h0 (a, b)).length := by rw [hp_len]; exact hn
  have w1 : small64 c1 = true := by simp only [small64, Bool.and_eq_true, decide_eq_true_eq]; omega
  unfold potD at e
  dsimp only at e
  have fin : ∀ x y : Int, (hp n h0 (a, b)).set n (OB.lst [.int x, .int y]) = hp n h0 (x, y) := fun x y => hp_hp (p := (a, b)) (q := (x, y))
  generalize hp n h0 (a, b) = h at *
  by_cases z : 0 < a
  · simp [drawM, ix_obj e, at0, z, h0', h1', e, ixN, drawT, fin]
  · have g0 := Int.emod_nonneg (b * c1 + c2) (show m1 ≠ 0 by omega)
    have g1 := Int.emod_lt_of_pos (b * c1 + c2) hm1.1
    have w2 : small64 ((b * c1 + c2) % m1) = true := by simp only [small64, Bool.and_eq_true, decide_eq_true_eq]; omega
    have e2 : (hp n h0 (a, (b * c1 + c2) % m1))[n]? = some (.lst [.int a, .int ((b * c1 + c2) % m1)]) := hp_get hn
    simp [drawM, ix_obj e, at0, at1, z, h0', h1', e, ixN, w1, hm1.1, fin, ix_obj e2, w2, hm2, hq.1, hq.2, drawT]
def DrB (t : Pot2 → Int → Int × Pot2) : Prop := ∀ p s, 0 < s → 0 ≤ (t p s).1 ∧ (t p s).1 < s
theorem drawT_b {c1 c2 m1 m2 q : Int} : DrB (drawT c1 c2 m1 m2 q) := fun _ _ h => draw_b h
theorem getI_mem {α : Type} [Inhabited α] {xs : List α} {i : Int} (h0 : 0 ≤ i) (h1 : i < xs.length) : getI xs i ∈ xs := by
  unfold getI
  rw [if_pos h0]
  have hk : i.toNat < xs.length := by omega
  rw [List.getD_eq_getElem?_getD, List.getElem?_eq_getElem hk]
  exact List.getElem_mem hk
end EV
/-! EV74: memos in typed code -/
namespace EV
open PySem L2
abbrev eM : Nat → D := D.obj
instance : NB eM := ⟨fun _ => rfl⟩
/-- encodings that name no cell -/
class Low {α : Type} (e : α → D) : Prop where
  low : ∀ x, lowD 0 (e x) = true
section
variable {α β γ ρ σ τ : Type} {fn : Fns} {env env1 : Ev} {h h1 h0 : Cells} {n N m : Nat} {M : Memo} {p : Pot2} {ds : List D}
theorem lowDs_map {e : α → D} [Low e] : ∀ {xs : List α}, lowDs 0 (xs.map e) = true
  | [] => rfl
  | x :: xs => by
    rw [List.map_cons, lowDs, Low.low, lowDs_map]; rfl
instance : Low D.int := ⟨fun _ => rfl⟩
instance : Low D.bl := ⟨fun _ => rfl⟩
instance : Low D.str := ⟨fun _ => rfl⟩
instance {e : α → D} [Low e] : Low (eT e) := ⟨fun _ => by show lowD 0 (.tup _) = true; rw [lowD, lowDs_map]⟩
instance {e : α → D} [Low e] : Low (eL e) := ⟨fun _ => by show lowD 0 (.lst _) = true; rw [lowD, lowDs_map]⟩
instance {e : α → D} {f : β → D} [Low e] [Low f] : Low (eP2 e f) := ⟨fun x => by show lowD 0 (.tup [e x.1, f x.2]) = true; simp [lowD, lowDs, Low.low]⟩
theorem PotOk.app (o : PotOk n h0) : PotOk n (h0 ++ [.mem M]) := ⟨by rw [List.length_append]; have := o.lt; omega, by rw [noLstH_app, o.nl]; rfl⟩
end
end EV
/-! EV75: memos of truths: typed states -/
namespace EV
open PySem L2
/-- what a memo holds: keys, what is true of them -/
structure MT where
  κ : Type
  enc : κ → D
  dk : κ → NestedKey
  ok : ∀ k, dicKey (enc k) = some (dk k)
  inj : ∀ a b, dk a = dk b → a = b
  low : ∀ k, lowD 0 (enc k) = true ∧ noLst (enc k) = true
  φ : κ → Bool
  lv : κ → Nat
  dom : κ → Prop
  code : κ → Nat
  N : Nat
  hN : N ≤ 16000000
  cb : ∀ k, dom k → code k < N
  ci : ∀ a b, dom a → dom b → code a = code b → a = b
theorem nodup_bound : ∀ (N : Nat) (xs : List Nat), xs.Nodup → (∀ x ∈ xs, x < N) → xs.length ≤ N
  | 0, [], _, _ => Nat.le_refl _
  | 0, x :: _, _, h => absurd (h x (.head _)) (by omega)
  | N + 1, xs, nd, h => by
    have ih := nodup_bound N (xs.erase N) (nd.erase N) fun x hx => by
      have h1 := h x (List.mem_of_mem_erase hx)
      have h2 : x ≠ N := fun e => by
        subst e
        exact absurd hx (by rw [nd.mem_erase_iff]; exact fun z => z.1 rfl)
      omega
    have := List.length_erase (a := N) (l := xs)
    split at this <;> omega
section
variable (T : MT)
variable {T}
open Classical in
noncomputable def mget (es : List (T.κ × Bool)) (k : T.κ) : Option Bool := (es.find? fun e => decide (e.1 = k)).map (·.2)
theorem mget_some {es : List (T.κ × Bool)} {k : T.κ} {b : Bool} (e : mget es k = some b) : (k, b) ∈ es := by
  unfold mget at e
  obtain ⟨x, h1, h2⟩ := Option.map_eq_some_iff.mp e
  have h3 := List.mem_of_find?_eq_some h1
  have h4 := List.find?_some h1
  simp only [decide_eq_true_eq] at h4
  rw [← h4, ← h2]; exact h3
theorem mget_mem : ∀ {es : List (T.κ × Bool)}, (es.map (·.1)).Nodup → ∀ {e}, e ∈ es → mget es e.1 = some e.2
  | [], _, _, m => by cases m
  | x :: es, nd, e, m => by
    rw [List.map_cons, List.nodup_cons] at nd
    rcases List.mem_cons.mp m with rfl | m
    · simp [mget, List.find?_cons]
    · have z : ¬ x.1 = e.1 := fun q => nd.1 (by rw [q]; exact List.mem_map_of_mem m)
      have := mget_mem nd.2 m
      unfold mget at this ⊢
      rw [List.find?_cons]
      simp only [z, decide_false]
      exact this
/-- right up to level l -/
structure Good (l : Nat) (es : List (T.κ × Bool)) : Prop where
  nd : (es.map (·.1)).Nodup
  dom : ∀ e ∈ es, T.dom e.1
  ok : ∀ e ∈ es, T.lv e.1 ≤ l → e.2 = T.φ e.1
def Frame (l : Nat) (es es' : List (T.κ × Bool)) : Prop := ∀ k, l < T.lv k → mget es' k = mget es k
theorem Frame.trans {l : Nat} {es es' es'' : List (T.κ × Bool)} (a : Frame l es es') (b : Frame l es' es'') : Frame l es es'' := fun k z => (b k z).trans (a k z)
theorem Frame.mono {l l' : Nat} (h : l ≤ l') {es es' : List (T.κ × Bool)} (a : Frame l es es') : Frame l' es es' := fun k z => a k (by omega)
theorem Good.mono {l l' : Nat} (h : l' ≤ l) {es : List (T.κ × Bool)} (a : Good l es) : Good l' es := ⟨a.nd, a.dom, fun e m z => a.ok e m (by omega)⟩
theorem Good.get {l : Nat} {es : List (T.κ × Bool)} (a : Good l es) {k : T.κ} {b : Bool} (e : mget es k = some b) (z : T.lv k ≤ l) : b = T.φ k := a.ok _ (mget_some e) z
theorem Good.len {l : Nat} {es : List (T.κ × Bool)} (a : Good l es) : es.length ≤ T.N := by
  have h1 : ((es.map (·.1)).map T.code).Nodup := by
    have nd := a.nd
    have hd : ∀ k ∈ es.map (·.1), T.dom k := fun k hk => by
      obtain ⟨e, he, rfl⟩ := List.mem_map.mp hk
      exact a.dom e he
    generalize es.map (·.1) = ks at nd hd
    induction ks with
    | nil => exact List.nodup_nil
    | cons k ks ih =>
      rw [List.nodup_cons] at nd
      rw [List.map_cons, List.nodup_cons]
      refine ⟨fun hm => ?_, ih nd.2 fun j hj => hd j (.tail _ hj)⟩
      obtain ⟨j, hj, e⟩ := List.mem_map.mp hm
      exact nd.1 (T.ci j k (hd j (.tail _ hj)) (hd k (.head _)) e ▸ hj)
  have := nodup_bound T.N _ h1 fun x hx => by
    obtain ⟨k, hk, rfl⟩ := List.mem_map.mp hx
    obtain ⟨e, he, rfl⟩ := List.mem_map.mp hk
    exact T.cb _ (a.dom e he)
  simpa using this
/-- only key k, and what is up to level l, may have changed -/
def FrK (l : Nat) (k : T.κ) (es es' : List (T.κ × Bool)) : Prop := ∀ j, l < T.lv j → j ≠ k → mget es' j = mget es j
theorem FrK.call {l : Nat} {k : T.κ} {es es' es'' : List (T.κ × Bool)} (a : FrK l k es es') (b : Frame l es' es'') : FrK l k es es'' := fun j z n => (b j z).trans (a j z n)
/-- right at all levels -/
structure AllOk (es : List (T.κ × Bool)) : Prop where
  nd : (es.map (·.1)).Nodup
  dom : ∀ e ∈ es, T.dom e.1
  ok : ∀ e ∈ es, e.2 = T.φ e.1
theorem AllOk.of {l : Nat} {es es' : List (T.κ × Bool)} (a : AllOk es) (g : Good l es') (f : Frame l es es') : AllOk es' := ⟨g.nd, g.dom, fun e m => by
  by_cases z : T.lv e.1 ≤ l
  · exact g.ok e m z
  · have h1 := mget_mem g.nd m
    rw [f _ (by omega)] at h1
    exact a.ok _ (mget_some h1)⟩
variable {fn : Fns} {env env1 : Ev} {h h0 h1 : Cells} {m l : Nat} {a b : DE} {es : List (T.κ × Bool)} {k : T.κ}
end
end EV
namespace EV
open PySem L2
def t_is_integer (v : Vl) : Bool := isInt v.1
def ST_is_integer (f : Fn) : Prop := ∀ (v : Vl) h, f [eV v] h = .ok (.bl (t_is_integer v)) h
theorem et_is_integer {fn : Fns} : ST_is_integer (bodyF 1 is_integer_M fn) := fun v h => ev_is_integer v.1 h v.2
theorem s_is_integer {f : Fn} (a : ST_is_integer f) : S_is_integer f := fun v h q => a ⟨v, q⟩ h
def t_is_count (v : Vl) : Bool := isCount v.1
def ST_is_count (f : Fn) : Prop := ∀ (v : Vl) h, f [eV v] h = .ok (.bl (t_is_count v)) h
theorem s_is_count {f : Fn} (a : ST_is_count f) : S_is_count f := fun v h q => a ⟨v, q⟩ h
theorem et_is_count {fn : Fns} {i : Nat} (a : ST_is_integer (fn i)) : ST_is_count (bodyF 1 (is_count_M i) fn) := fun v h => ev_is_count (s_is_integer a) v.1 h v.2
@[simp] theorem t_is_count_int {i : Int} : t_is_count (toV D.int i) = decide (0 ≤ i) := rfl
def t_is_below (v : Vl) (m : Int) : Bool := isBelow v.1 m
def ST_is_below (f : Fn) : Prop := ∀ (v : Vl) (m : Int) h, f [eV v, .int m] h = .ok (.bl (t_is_below v m)) h
theorem et_is_below {fn : Fns} {i : Nat} (a : ST_is_count (fn i)) : ST_is_below (bodyF 2 (is_below_M i) fn) := fun v m h => ev_is_below (s_is_count a) v.1 m h v.2
@[simp] theorem t_is_below_int {i m : Int} : t_is_below (toV D.int i) m = (decide (0 ≤ i) && decide (i < m)) := rfl
@[simp] theorem t_is_integer_int {i : Int} : t_is_integer (toV D.int i) = true := rfl
def t_is_row (v : Vl) (m : Int) : Bool := isRow v.1 m
def ST_is_row (f : Fn) : Prop := ∀ (v : Vl) (m : Int) h, f [eV v, .int m] h = .ok (.bl (t_is_row v m)) h
theorem et_is_row {fn : Fns} : ST_is_row (bodyF 2 is_row_M fn) := fun v m h => ev_is_row v.1 m h v.2
@[simp] theorem t_is_row_T {α : Type} {e : α → D} [PlE (eT e)] {xs : List α} {m : Int} : t_is_row (toV (eT e) xs) m = decide ((xs.length : Int) = m) := by
  show decide (((xs.map e).length : Int) = m) = _
  rw [List.length_map]
end EV
/-! EV76: papers: a word alone, or a word and a value -/
namespace EV
open PySem L2
def eQ {α : Type} (e : α → D) (x : SS × Option α) : D := match x.2 with
  | none => .tup [eS x.1]
  | some a => .tup [eS x.1, e a]
section
variable {α : Type} {e : α → D} {h : Cells} {x : SS × Option α} {a : α}
instance : NB (eQ e) := ⟨fun x => by unfold eQ; split <;> rfl⟩
instance : NNo (eQ e) := ⟨fun x => by unfold eQ; split <;> simp [D.pd]⟩
instance [Low e] : Low (eQ e) := ⟨fun x => by unfold eQ; split <;> simp [lowD, lowDs, Low.low, eS]⟩
instance {n : Nat} [Pd n e] : Pd (n + 1) (eQ e) := ⟨fun x => by
  obtain ⟨s, o⟩ := x
  cases o with
  | none =>
    have : okd (0 + 1) (eP1 eS s) = true := Pd.ok s
    exact okd_le (by omega) this
  | some a =>
    have : okd (max 0 n + 1) (eP2 eS e (s, a)) = true := Pd.ok (s, a)
    exact okd_le (by omega) this, fun {x y p q} h1 h2 => by
  obtain ⟨s, o⟩ := x
  obtain ⟨t, u⟩ := y
  cases o with
  | none => cases u with
    | none =>
      have := Pd.eq (e := eP1 eS) (a := s) (b := t) h1 h2
      rw [this]; simp
    | some b =>
      obtain ⟨ps, e1, rfl⟩ := pd_tup h1
      obtain ⟨qs, e2, rfl⟩ := pd_tup h2
      obtain ⟨p1, r1, a1, b1, rfl⟩ := pds_cons e1
      obtain ⟨q1, s1, c1, d1, rfl⟩ := pds_cons e2
      obtain ⟨q2, s2, c2, d2, rfl⟩ := pds_cons d1
      cases pds_nil b1
      simp [PyData.eqv, PyData.eqvAll]
  | some a => cases u with
    | none =>
      obtain ⟨ps, e1, rfl⟩ := pd_tup h1
      obtain ⟨qs, e2, rfl⟩ := pd_tup h2
      obtain ⟨p1, r1, a1, b1, rfl⟩ := pds_cons e1
      obtain ⟨q1, s1, c1, d1, rfl⟩ := pds_cons e2
      obtain ⟨q2, s2, c2, d2, rfl⟩ := pds_cons b1
      cases pds_nil d1
      simp [PyData.eqv, PyData.eqvAll]
    | some b =>
      have := Pd.eq (e := eP2 eS e) (a := (s, a)) (b := (t, b)) h1 h2
      rw [this]; simp⟩
end
end EV
namespace EV
open PySem L2
def t_rest_of (counts_0 : (List Int)) (question_0 : (List Int)) : (List Int) := ((counts_0.zip question_0).map (fun u_1 => (u_1.1 - u_1.2)))
end EV
/-! EVM_finder: counts, found by the program's going through: the memo of a Finder -/
namespace EV
open PySem L2
/-- counts as a Finder meets them -/
structure COk (c : List Int) : Prop where
  l1 : 1 ≤ c.length
  l4 : c.length ≤ 4
  nn : ∀ x ∈ c, 0 ≤ x
  sm : c.sum ≤ 20
end EV
/-! EV82: counts and questions, plain -/
namespace EV
open PySem L2
/-- q asks of counts c -/
inductive QOk : List Int → List Int → Prop
  | nil : QOk [] []
  | cons {x a : Int} {c q : List Int} : 0 ≤ a → a ≤ x → QOk c q → QOk (x :: c) (a :: q)
theorem QOk.len {c q : List Int} (h : QOk c q) : q.length = c.length := by
  induction h with
  | nil => rfl
  | cons _ _ _ ih => simp [ih]
theorem QOk.nn {c q : List Int} (h : QOk c q) : ∀ x ∈ q, 0 ≤ x := by
  induction h with
  | nil => intro x m; cases m
  | cons a0 _ _ ih =>
    intro x m
    rcases List.mem_cons.mp m with rfl | m
    · exact a0
    · exact ih x m
theorem dropLast_sum : ∀ {a : List Int}, (∀ x ∈ a, 0 ≤ x) → a.dropLast.sum ≤ a.sum
  | [], _ => by simp
  | [x], h => by have := h x (.head _); simp; omega
  | x :: y :: a, h => by
    have := dropLast_sum (a := y :: a) fun z m => h z (.tail _ m)
    rw [List.dropLast_cons₂, List.sum_cons, List.sum_cons]; omega
end EV
/-! EV86: weights; what is found is not heavy -/
/-! EV87: what is found stays found: one question more, a thing with one wrong answer more, a thing less, a lie less -/
namespace EV
open PySem L2
/-- a thing has one wrong answer more, or is gone with its last -/
inductive Mv : List Int → List Int → Prop
  | last {x : Int} : 0 < x → Mv [x] [x - 1]
  | here {x y : Int} {t : List Int} : 0 < x → Mv (x :: y :: t) ((x - 1) :: (y + 1) :: t)
  | skip {x : Int} {c d : List Int} : Mv c d → Mv (x :: c) (x :: d)
theorem Mv.len {c d : List Int} (h : Mv c d) : d.length = c.length := by
  induction h with
  | last => rfl
  | here => rfl
  | skip _ ih => simp [ih]
theorem Mv.sum {c d : List Int} (h : Mv c d) : d.sum ≤ c.sum := by
  induction h with
  | last => simp; omega
  | here => simp; omega
  | skip _ ih => simp; omega
theorem Mv.nn {c d : List Int} (h : Mv c d) : (∀ x ∈ c, 0 ≤ x) → ∀ x ∈ d, 0 ≤ x := by
  induction h with
  | @last w p =>
    intro _ x m
    have : x = w - 1 := by simpa using m
    omega
  | @here x y t p =>
    intro k z m
    have := k y (by simp)
    simp only [List.mem_cons] at m
    rcases m with rfl | rfl | m
    · omega
    · omega
    · exact k z (by simp [m])
  | @skip x c d h ih =>
    intro k z m
    rcases List.mem_cons.mp m with rfl | m
    · exact k z (.head _)
    · exact ih (fun y hy => k y (.tail _ hy)) z m
theorem Mv.ok {c d : List Int} (h : Mv c d) (o : COk c) : COk d := ⟨by rw [h.len]; exact o.l1, by rw [h.len]; exact o.l4, h.nn o.nn, Int.le_trans h.sum o.sm⟩
/-- so many steps -/
inductive MvS : List Int → List Int → Prop
  | rfl {c : List Int} : MvS c c
  | step {c d e : List Int} : Mv c d → MvS d e → MvS c e
theorem MvS.len {c d : List Int} (h : MvS c d) : d.length = c.length := by
  induction h with
  | rfl => rfl
  | step m _ ih => rw [ih, m.len]
theorem QOk.drop {c q : List Int} (h : QOk c q) : QOk c.dropLast q.dropLast ∧ t_rest_of c.dropLast q.dropLast = (t_rest_of c q).dropLast := by
  induction h with
  | nil => exact ⟨.nil, rfl⟩
  | @cons x a c q a0 a1 h ih =>
    cases h with
    | nil => exact ⟨.nil, rfl⟩
    | @cons y b c q b0 b1 h =>
      rw [List.dropLast_cons₂, List.dropLast_cons₂]
      refine ⟨.cons a0 a1 ih.1, ?_⟩
      show (x - a) :: t_rest_of (y :: c).dropLast (b :: q).dropLast = ((x - a) :: (y - b) :: t_rest_of c q).dropLast
      rw [ih.2, List.dropLast_cons₂]
      rfl
theorem COk.drop {c : List Int} (o : COk c) (h : 2 ≤ c.length) : COk c.dropLast := ⟨by rw [List.length_dropLast]; omega, by rw [List.length_dropLast]; have := o.l4; omega, fun x m => o.nn x (List.dropLast_subset _ m), Int.le_trans (dropLast_sum o.nn) o.sm⟩
end EV
/-! EV79: instances of the text's classes: made, read, written, called -/
/-! EV81: code that leans on a memo in an instance: one proof for both heaps (the memo's pairs there; the memo alone) -/
namespace EV
open PySem L2
def t_is_list (v : Vl) : Bool := match v.1 with
  | .lst _ => true
  | .tup _ => true
  | _ => false
end EV
/-! EV69: one lie: weights behind told questions -/
/-! EVM_pairs: pairs of numbers (no wrong answer, one), found by going through all questions: a memo of them -/
/-! EV78: one lie: start numbers, pairs found by going through -/
/-! EV89: questions stand in their order; the least left; good questions -/
namespace EV
open PySem L2
/-! order -/
def Srt (S : List (List Int)) : Prop := S.Pairwise fun a b => TS.code 1000 a < TS.code 1000 b
theorem Srt.le {S : List (List Int)} (h : Srt S) : S.Pairwise fun a b => tcode a ≤ tcode b := h.imp fun {a b} q => Int.le_of_lt q
/-! good questions -/
/-! the least left -/
end EV
namespace EV
open PySem L2
@[simp] theorem t_is_row_P2 {α β : Type} {e : α → D} {f : β → D} [PlE (eP2 e f)] {x : α × β} {m : Int} : t_is_row (toV (eP2 e f) x) m = decide ((2 : Int) = m) := rfl
@[simp] theorem t_is_row_P3 {α β γ : Type} {e : α → D} {f : β → D} {g : γ → D} [PlE (eP3 e f g)] {x : α × β × γ} {m : Int} : t_is_row (toV (eP3 e f g) x) m = decide ((3 : Int) = m) := rfl
end EV
/-! EV70: laws' ends, typed -/
namespace EV
open PySem L2
/-- all goes well, whatever the pot -/
def S_rtP (f : Fn) : Prop := ∀ (n : Nat) h, Pt n h → noLstH h = true → wp (f [.obj n] h) fun d h' => d = .bl true ∧ Pt n h' ∧ noLstH h' = true
theorem rtP_of {t : Pot2 → Bool × Pot2} {f : Fn} (a : ∀ (n : Nat) (h0 : Cells) (p : Pot2), PotOk n h0 → f [.obj n] (hp n h0 p) = .ok (.bl (t p).1) (hp n h0 (t p).2)) (b : ∀ p, (t p).1 = true) : S_rtP f := fun n h pt nl => by
  have hl := pt.lt
  obtain ⟨x, y, e⟩ := pt
  have o : PotOk n h := ⟨hl, nl⟩
  have z := a n h (x, y) o
  rw [hp_at e, b] at z
  exact ⟨_, _, z, rfl, ⟨_, _, hp_get hl⟩, o.nl_hp⟩
theorem nl_pot {h : Cells} {a b : Int} (nl : noLstH h = true) : noLstH (h ++ [OB.lst [.int a, .int b]]) = true := by
  rw [noLstH_app, nl]; rfl
section
variable {fn : Fns} {r p : Nat}
def LIB' (s : D) (n : Nat) (env : Ev) (h : Cells) : Prop := Pt n h ∧ noLstH h = true ∧ ∃ x1 x3, env = [.val s, x1, .val (.obj n), x3]
def LIC' (s : D) (env : Ev) (h : Cells) : Prop := noLstH h = true ∧ ∃ x1 x2 x3, env = [.val s, x1, x2, x3]
theorem el_B (a : S_rtP (fn r)) (b : S_pot (fn p)) : S_law (bodyF 4 (lawB_M r p) fn) := fun ns => by
  unfold lawB_M
  rw [e_body, wp_bind]
  refine stepM (fun env1 h1 => True) ?_ fun env1 h1 _ => by simp
  rw [e_sFor]
  rw [show (dItems (dTup (daCons (dC (.int 0)) (daCons (dC (.int 1)) (daNil))))) fn (startE 4 [.frz (ns.map D.int)]) [] = .ok [.int 0, .int 1] [] from by simp, ok_bind]
  have z := forL_wp (fn := fn) (pt := .name 1) (body := lawB_b1 r p) (fun _ => LIC' (.frz (ns.map D.int))) (ds := [.int 0, .int 1]) (env := startE 4 [.frz (ns.map D.int)]) (h := []) 0 ⟨rfl, .no, .no, .no, rfl⟩ fun t d env h hd q => by
    obtain ⟨nl, x1, x2, x3, rfl⟩ := q
    obtain ⟨u, rfl⟩ : ∃ u : Nat, d = .int u := by
      match t, hd with
      | 0, hd => simp at hd; exact ⟨0, hd.symm⟩
      | 1, hd => simp at hd; exact ⟨1, hd.symm⟩
    refine ⟨[.val (.frz (ns.map D.int)), .val (.int u), x2, x3], by simp, ?_⟩
    unfold lawB_b1
    refine stepM (fun env1 h1 => ∃ n, LIB' (.frz (ns.map D.int)) n env1 h1) ?_ fun env1 h1 q => ?_
    · simp
      refine wp_mono (b ns u h) fun d h1 ⟨e, x, y, e2⟩ => ?_
      subst e e2
      simp
      exact ⟨h.length, pt_new, nl_pot nl, _, _, rfl⟩
    · obtain ⟨n, pt, nl, x1, x3, rfl⟩ := q
      rw [e_sFor]
      rw [show (dRng1 (daCons (dC (.int 2)) (daNil))) fn [Sl.val (.frz (ns.map D.int)), x1, Sl.val (D.obj n), x3] h1 = .ok (upTo 0 2) h1 from by simp, ok_bind]
      have z := forL_wp (fn := fn) (pt := .name 3) (body := lawB_b0 r) (fun _ => LIB' (.frz (ns.map D.int)) n) (ds := upTo 0 2) (env := [Sl.val (.frz (ns.map D.int)), x1, Sl.val (D.obj n), x3]) (h := h1) 0 ⟨pt, nl, x1, x3, rfl⟩ fun t d env h hd q => by
        have hd' : (upTo 0 (2 : Int).toNat)[t]? = some d := hd
        obtain ⟨rfl, _⟩ := toNat_upTo hd'
        obtain ⟨pt, nl, x1, x3, rfl⟩ := q
        refine ⟨[.val (.frz (ns.map D.int)), x1, .val (.obj n), .val (.int t)], by simp, ?_⟩
        unfold lawB_b0
        simp
        refine wp_mono (a n _ pt nl) fun d h ⟨e, p⟩ => ?_
        subst e
        simp
        exact ⟨p.1, p.2, _, _, rfl⟩
      refine wp_mono z fun x h ⟨e1, pt, nl, x1, x3, e2⟩ => ?_
      exact ⟨.inl e1, nl, _, _, _, e2⟩
  exact wp_mono z fun x h ⟨a, b⟩ => ⟨a, trivial⟩
end
end EV
/-! EV88: laws' ends: calls with a pot and more, one behind the other -/
namespace EV
open PySem L2
def is_rising_m : DS := sRet (dOpN cAll (daCons (asVal (dComp [1, 2] (.tup [.name 1, .name 2]) (dZipX (daCons (dVar 0) (daCons (dSlice (dVar 0) (dPart (dC (.int 1))) (dNoPart)) (daNil)))) (dtYes) (dOp2 dLt (dVar 1) (dVar 2)))) (daNil)))
def t_is_rising (items_0 : (List Int)) : Bool := ((items_0.zip (cut items_0 (some 1) none)).all (fun u_1 => (decide (u_1.1 < u_1.2))))
def ST_is_rising (f : Fn) : Prop := ∀ (items_0 : (List Int)), (lk : items_0.length ≤ 16777216) → ∀ h, f [(eT D.int) items_0] h = .ok (D.bl (t_is_rising items_0)) h
theorem et_is_rising {fn : Fns} : ST_is_rising (bodyF 3 (is_rising_m) fn) := by
  intro items_0 lk h
  refine b_ret (m := is_rising_m) (V := (fun (r : Bool) => (D.bl r, h))) (r := t_is_rising items_0) ?_
  unfold t_is_rising is_rising_m
  show J _ fn [.val ((eT D.int) items_0), .no, .no] _ _ _
  exact j_ret (d := D.bl ((items_0.zip (cut items_0 (some 1) none)).all (fun u_1 => (decide (u_1.1 < u_1.2))))) (x_opN (xa_cons (xv (eL D.bl ((items_0.zip (cut items_0 (some 1) none)).map (fun u_1 => (decide (u_1.1 < u_1.2))))) (x_asVal (f_compM (en := (eP2 D.int D.int)) (ev := D.bl) (fun u_1 => (decide (u_1.1 < u_1.2))) (i_zip (e := D.int) (e' := D.int) (xs := items_0) (ys := (cut items_0 (some 1) none)) (xa_cons (x_var rfl) (xa_cons (x_slice (x_var rfl) (x_part x_c) x_noPart (o_slT (e := D.int) (xs := items_0))) xa_nil)) rfl rfl) (by rw [List.length_zip]; omega) rfl (fun _ => rfl) fun u_1 hu => have hr := mem_zip hu; ⟨_, (p_tup rfl (p_cons (p_name rfl rfl rfl) (p_cons (p_name rfl rfl rfl) p_nil))), (x_op2 (x_var rfl) (x_var rfl) rfl)⟩))) xa_nil) (o_allM (f := (fun u_1 => (decide (u_1.1 < u_1.2)))) (xs := (items_0.zip (cut items_0 (some 1) none))))) rfl ⟨rfl, rfl⟩
def is_answer_m : DS := sRet (dAnd (dIsi (dVar 0) [.str]) (dOp2 dIn (dVar 0) (dTup (daCons (dC (.str ("yes" : Str))) (daCons (dC (.str ("no" : Str))) (daNil))))))
def t_is_answer (value_0 : SS) : Bool := (true && (hasB ([(lit "yes"), (lit "no")] : List SS) value_0))
def ST_is_answer (f : Fn) : Prop := ∀ (value_0 : SS), ∀ h, f [eS value_0] h = .ok (D.bl (t_is_answer value_0)) h
theorem et_is_answer {fn : Fns} : ST_is_answer (bodyF 1 (is_answer_m) fn) := by
  intro value_0 h
  refine b_ret (m := is_answer_m) (V := (fun (r : Bool) => (D.bl r, h))) (r := t_is_answer value_0) ?_
  unfold t_is_answer is_answer_m
  show J _ fn [.val (eS value_0)] _ _ _
  exact j_ret (d := D.bl (true && (hasB ([(lit "yes"), (lit "no")] : List SS) value_0))) (x_and (x_isi (x_var rfl) rfl rfl) fun hc => (x_op2 (x_var rfl) (xv ((eT eS) ([(lit "yes"), (lit "no")] : List SS)) (x_tup (xa_cons (xv (eS (lit "yes")) x_c) (xa_cons (xv (eS (lit "no")) x_c) xa_nil)) (nb_cons rfl (nb_cons rfl nb_nil)) rfl)) (o_inT (e := eS) (xs := ([(lit "yes"), (lit "no")] : List SS)) (by decide)))) rfl ⟨rfl, rfl⟩
def are_things_in_m (c_is_below c_is_rising : Nat) : DS := sRet (dAnd (dIsi (dVar 1) [.tup]) (dAnd (dOpN cAll (daCons (asVal (dComp [2] (.name 2) (dItems (dVar 1)) (dtYes) (dCall c_is_below 2 0 [.p 0, .p 1] [] (daCons (dVar 2) (daCons (dVar 0) (daNil))) (daNil)))) (daNil))) (dCall c_is_rising 1 0 [.p 0] [] (daCons (dVar 1) (daNil)) (daNil))))
def t_are_things_in (many_0 : Int) (value_0 : (List Int)) : Bool := (true && ((value_0.all (fun u_1 => (t_is_below (toV D.int u_1) many_0))) && (t_is_rising value_0)))
def ST_are_things_in (f : Fn) : Prop := ∀ (many_0 : Int) (value_0 : (List Int)), (lk : value_0.length ≤ 1000) → ∀ h, f [D.int many_0, (eT D.int) value_0] h = .ok (D.bl (t_are_things_in many_0 value_0)) h
theorem et_are_things_in {fn : Fns} {i_is_below i_is_rising : Nat} (c_is_below : ST_is_below (fn i_is_below)) (c_is_rising : ST_is_rising (fn i_is_rising)) : ST_are_things_in (bodyF 3 (are_things_in_m i_is_below i_is_rising) fn) := by
  intro many_0 value_0 lk h
  refine b_ret (m := are_things_in_m i_is_below i_is_rising) (V := (fun (r : Bool) => (D.bl r, h))) (r := t_are_things_in many_0 value_0) ?_
  unfold t_are_things_in are_things_in_m
  show J _ fn [.val (D.int many_0), .val ((eT D.int) value_0), .no] _ _ _
  exact j_ret (d := D.bl (true && ((value_0.all (fun u_1 => (t_is_below (toV D.int u_1) many_0))) && (t_is_rising value_0)))) (x_and (x_isi (x_var rfl) rfl rfl) fun hc => (x_and (x_opN (xa_cons (xv (eL D.bl (value_0.map (fun u_1 => (t_is_below (toV D.int u_1) many_0)))) (x_asVal (f_compM (en := D.int) (ev := D.bl) (fun u_1 => (t_is_below (toV D.int u_1) many_0)) (i_T (e := D.int) (xs := value_0) (x_var rfl)) (by first | assumption | omega | (dsimp only [lt] at *; omega) | (set_option maxHeartbeats 40000 in (simp; done)) | (set_option maxHeartbeats 40000 in (simp; omega)) | (set_option maxHeartbeats 40000 in (simp at *; omega)) | (set_option maxHeartbeats 40000 in (simp_all; done)) | (set_option maxHeartbeats 40000 in (simp_all; omega))) rfl (fun _ => rfl) fun u_1 hu => ⟨_, (p_name rfl rfl rfl), (x_call (xa_cons (xv (eV (toV D.int u_1)) (x_var rfl)) (xa_cons (x_var rfl) xa_nil)) xa_nil (nb_cons (NB.nb _) (nb_cons rfl nb_nil)) nb_nil rfl rfl rfl (c_is_below (toV D.int u_1) many_0 _))⟩))) xa_nil) (o_allM (f := (fun u_1 => (t_is_below (toV D.int u_1) many_0))) (xs := value_0))) fun hc => (x_call (xa_cons (x_var rfl) xa_nil) xa_nil (nb_cons rfl nb_nil) nb_nil rfl rfl rfl (c_is_rising value_0 (by first | assumption | omega | (dsimp only [lt] at *; omega) | (set_option maxHeartbeats 40000 in (simp; done)) | (set_option maxHeartbeats 40000 in (simp; omega)) | (set_option maxHeartbeats 40000 in (simp at *; omega)) | (set_option maxHeartbeats 40000 in (simp_all; done)) | (set_option maxHeartbeats 40000 in (simp_all; omega))) _)))) rfl ⟨rfl, rfl⟩
def is_log_of_m (c_is_row c_is_integer c_is_count c_are_things_in c_is_answer : Nat) : DS := sSeq (sIf (dtOr (dtNot (dTruE (dCall c_is_row 2 0 [.p 0, .p 1] [] (daCons (dVar 0) (daCons (dC (.int 4)) (daNil))) (daNil)))) (dtOr (dtNot (dTruE (dIsi (dOp2 dIx (dVar 0) (dC (.int 0))) [.str]))) (dtB (dOp2 dNe (dOp2 dIx (dVar 0) (dC (.int 0))) (dC (.str ("log" : Str))))))) (sRet (dC (.bl false))) (sNext)) (sSeq (sIf (dtOr (dtNot (dTruE (dCall c_is_integer 1 0 [.p 0] [] (daCons (dOp2 dIx (dVar 0) (dC (.int 1))) (daNil)) (daNil)))) (dtOr (dtNot (dtB (dChain dLe dLe (dC (.int 1)) (dOp2 dIx (dVar 0) (dC (.int 1))) (dC (.int 40))))) (dtOr (dtNot (dTruE (dCall c_is_count 1 0 [.p 0] [] (daCons (dOp2 dIx (dVar 0) (dC (.int 2))) (daNil)) (daNil)))) (dtB (dOp2 dGt (dOp2 dIx (dVar 0) (dC (.int 2))) (dC (.int 3))))))) (sRet (dC (.bl false))) (sNext)) (sSeq (sIf (dtOr (dtNot (dTruE (dIsi (dOp2 dIx (dVar 0) (dC (.int 3))) [.tup]))) (dtOr (dtB (dOp2 dGt (dOpN cLen (daCons (dOp2 dIx (dVar 0) (dC (.int 3))) (daNil))) (dC (.int 24)))) (dtNot (dTruE (dOpN cAll (daCons (asVal (dComp [1] (.name 1) (dItems (dOp2 dIx (dVar 0) (dC (.int 3)))) (dtYes) (dCall c_is_row 2 0 [.p 0, .p 1] [] (daCons (dVar 1) (daCons (dC (.int 2)) (daNil))) (daNil)))) (daNil))))))) (sRet (dC (.bl false))) (sNext)) (sRet (dOpN cAll (daCons (asVal (dComp [2, 3] (.tup [.name 2, .name 3]) (dItems (dOp2 dIx (dVar 0) (dC (.int 3)))) (dtYes) (dAnd (dCall c_are_things_in 2 0 [.p 0, .p 1] [] (daCons (dOp2 dIx (dVar 0) (dC (.int 1))) (daCons (dVar 2) (daNil))) (daNil)) (dCall c_is_answer 1 0 [.p 0] [] (daCons (dVar 3) (daNil)) (daNil))))) (daNil))))))
def t_is_log_of (value_0 : (SS × Int × Int × (List ((List Int) × SS)))) : Bool := if ((!(t_is_row (toV (eP4 eS D.int D.int (eT (eP2 (eT D.int) eS))) value_0) 4)) || ((!true) || (!decide (value_0.1 = (lit "log"))))) = true then (false) else (if ((!(t_is_integer (toV D.int value_0.2.1))) || ((!((decide (1 ≤ value_0.2.1)) && (decide (value_0.2.1 ≤ 40)))) || ((!(t_is_count (toV D.int value_0.2.2.1))) || (decide (3 < value_0.2.2.1))))) = true then (false) else (if ((!true) || ((decide (24 < (value_0.2.2.2.length : Int))) || (!(value_0.2.2.2.all (fun u_1 => (t_is_row (toV (eP2 (eT D.int) eS) u_1) 2)))))) = true then (false) else ((value_0.2.2.2.all (fun u_2 => ((t_are_things_in value_0.2.1 u_2.1) && (t_is_answer u_2.2)))))))
def ST_is_log_of (f : Fn) : Prop := ∀ (value_0 : (SS × Int × Int × (List ((List Int) × SS)))), (lk : value_0.2.2.2.length ≤ 1000) → (tk : ∀ r ∈ value_0.2.2.2, r.1.length ≤ 1000) → ∀ h, f [(eP4 eS D.int D.int (eT (eP2 (eT D.int) eS))) value_0] h = .ok (D.bl (t_is_log_of value_0)) h
theorem et_is_log_of {fn : Fns} {i_is_row i_is_integer i_is_count i_are_things_in i_is_answer : Nat} (c_is_row : ST_is_row (fn i_is_row)) (c_is_integer : ST_is_integer (fn i_is_integer)) (c_is_count : ST_is_count (fn i_is_count)) (c_are_things_in : ST_are_things_in (fn i_are_things_in)) (c_is_answer : ST_is_answer (fn i_is_answer)) : ST_is_log_of (bodyF 4 (is_log_of_m i_is_row i_is_integer i_is_count i_are_things_in i_is_answer) fn) := by
  intro value_0 lk tk h
  refine b_ret (m := is_log_of_m i_is_row i_is_integer i_is_count i_are_things_in i_is_answer) (V := (fun (r : Bool) => (D.bl r, h))) (r := t_is_log_of value_0) ?_
  unfold t_is_log_of is_log_of_m
  show J _ fn [.val ((eP4 eS D.int D.int (eT (eP2 (eT D.int) eS))) value_0), .no, .no, .no] _ _ _
  refine j_ifq (t_or (t_not (t_tru (x_call (xa_cons (xv (eV (toV (eP4 eS D.int D.int (eT (eP2 (eT D.int) eS))) value_0)) (x_var rfl)) (xa_cons x_c xa_nil)) xa_nil (nb_cons (NB.nb _) (nb_cons rfl nb_nil)) nb_nil rfl rfl rfl (c_is_row (toV (eP4 eS D.int D.int (eT (eP2 (eT D.int) eS))) value_0) 4 _)) tr_bl)) fun hc => (t_or (t_not (t_tru (x_isi (x_op2 (x_var rfl) x_c o_ixP4_0) rfl rfl) tr_bl)) fun hc => (t_B (x_op2 (x_op2 (x_var rfl) x_c o_ixP4_0) (xv (eS (lit "log")) x_c) (o_neE (e := eS) (a := value_0.1) (b := (lit "log")) (by decide)))))) (fun hc1 => ?_) (fun hc1 => ?_)
  · skip
    refine j_re ?_
    exact j_ret (d := D.bl false) x_c rfl ⟨rfl, rfl⟩
  · skip
    refine j_ifq (t_or (t_not (t_tru (x_call (xa_cons (xv (eV (toV D.int value_0.2.1)) (x_op2 (x_var rfl) x_c o_ixP4_1)) xa_nil) xa_nil (nb_cons (NB.nb _) nb_nil) nb_nil rfl rfl rfl (c_is_integer (toV D.int value_0.2.1) _)) tr_bl)) fun hc => (t_or (t_not (t_B (x_chain x_c (x_op2 (x_var rfl) x_c o_ixP4_1) rfl (fun hc => x_c) (fun hc => rfl)))) fun hc => (t_or (t_not (t_tru (x_call (xa_cons (xv (eV (toV D.int value_0.2.2.1)) (x_op2 (x_var rfl) x_c o_ixP4_2)) xa_nil) xa_nil (nb_cons (NB.nb _) nb_nil) nb_nil rfl rfl rfl (c_is_count (toV D.int value_0.2.2.1) _)) tr_bl)) fun hc => (t_B (x_op2 (x_op2 (x_var rfl) x_c o_ixP4_2) x_c rfl))))) (fun hc2 => ?_) (fun hc2 => ?_)
    · skip
      refine j_re ?_
      exact j_ret (d := D.bl false) x_c rfl ⟨rfl, rfl⟩
    · skip
      refine j_ifq (t_or (t_not (t_tru (x_isi (x_op2 (x_var rfl) x_c o_ixP4_3) rfl rfl) tr_bl)) fun hc => (t_or (t_B (x_op2 (x_opN (xa_cons (x_op2 (x_var rfl) x_c o_ixP4_3) xa_nil) (o_lenT (e := (eP2 (eT D.int) eS)))) x_c rfl)) fun hc => (t_not (t_tru (x_opN (xa_cons (xv (eL D.bl (value_0.2.2.2.map (fun u_1 => (t_is_row (toV (eP2 (eT D.int) eS) u_1) 2)))) (x_asVal (f_compM (en := (eP2 (eT D.int) eS)) (ev := D.bl) (fun u_1 => (t_is_row (toV (eP2 (eT D.int) eS) u_1) 2)) (i_T (e := (eP2 (eT D.int) eS)) (xs := value_0.2.2.2) (x_op2 (x_var rfl) x_c o_ixP4_3)) (by first | assumption | omega | (dsimp only [lt] at *; omega) | (set_option maxHeartbeats 40000 in (simp; done)) | (set_option maxHeartbeats 40000 in (simp; omega)) | (set_option maxHeartbeats 40000 in (simp at *; omega)) | (set_option maxHeartbeats 40000 in (simp_all; done)) | (set_option maxHeartbeats 40000 in (simp_all; omega))) rfl (fun _ => rfl) fun u_1 hu => ⟨_, (p_name rfl rfl rfl), (x_call (xa_cons (xv (eV (toV (eP2 (eT D.int) eS) u_1)) (x_var rfl)) (xa_cons x_c xa_nil)) xa_nil (nb_cons (NB.nb _) (nb_cons rfl nb_nil)) nb_nil rfl rfl rfl (c_is_row (toV (eP2 (eT D.int) eS) u_1) 2 _))⟩))) xa_nil) (o_allM (f := (fun u_1 => (t_is_row (toV (eP2 (eT D.int) eS) u_1) 2))) (xs := value_0.2.2.2))) tr_bl)))) (fun hc3 => ?_) (fun hc3 => ?_)
      · skip
        refine j_re ?_
        exact j_ret (d := D.bl false) x_c rfl ⟨rfl, rfl⟩
      · skip
        exact j_ret (d := D.bl (value_0.2.2.2.all (fun u_2 => ((t_are_things_in value_0.2.1 u_2.1) && (t_is_answer u_2.2))))) (x_opN (xa_cons (xv (eL D.bl (value_0.2.2.2.map (fun u_2 => ((t_are_things_in value_0.2.1 u_2.1) && (t_is_answer u_2.2))))) (x_asVal (f_compM (en := (eP2 (eT D.int) eS)) (ev := D.bl) (fun u_2 => ((t_are_things_in value_0.2.1 u_2.1) && (t_is_answer u_2.2))) (i_T (e := (eP2 (eT D.int) eS)) (xs := value_0.2.2.2) (x_op2 (x_var rfl) x_c o_ixP4_3)) (by first | assumption | omega | (dsimp only [lt] at *; omega) | (set_option maxHeartbeats 40000 in (simp; done)) | (set_option maxHeartbeats 40000 in (simp; omega)) | (set_option maxHeartbeats 40000 in (simp at *; omega)) | (set_option maxHeartbeats 40000 in (simp_all; done)) | (set_option maxHeartbeats 40000 in (simp_all; omega))) rfl (fun _ => rfl) fun u_2 hu => ⟨_, (p_tup rfl (p_cons (p_name rfl rfl rfl) (p_cons (p_name rfl rfl rfl) p_nil))), (x_and (x_call (xa_cons (x_op2 (x_var rfl) x_c o_ixP4_1) (xa_cons (x_var rfl) xa_nil)) xa_nil (nb_cons rfl (nb_cons rfl nb_nil)) nb_nil rfl rfl rfl (c_are_things_in value_0.2.1 u_2.1 (by exact tk _ (by assumption)) _)) fun hc => (x_call (xa_cons (x_var rfl) xa_nil) xa_nil (nb_cons rfl nb_nil) nb_nil rfl rfl rfl (c_is_answer u_2.2 _)))⟩))) xa_nil) (o_allM (f := (fun u_2 => ((t_are_things_in value_0.2.1 u_2.1) && (t_is_answer u_2.2)))) (xs := value_0.2.2.2))) rfl ⟨rfl, rfl⟩
def with_rows_m : DS := sRet (dOp2 dAdd (dSlice (dVar 0) (dNoPart) (dPart (dC (.int 3)))) (dTup (daCons (dOpN cTuple (daCons (dVar 1) (daNil))) (daNil))))
def t_with_rows (log_0 : (SS × Int × Int × (List ((List Int) × SS)))) (rows_0 : (List ((List Int) × SS))) : (SS × Int × Int × (List ((List Int) × SS))) := ((log_0.1, log_0.2.1, log_0.2.2.1).1, (log_0.1, log_0.2.1, log_0.2.2.1).2.1, (log_0.1, log_0.2.1, log_0.2.2.1).2.2, rows_0)
def ST_with_rows (f : Fn) : Prop := ∀ (log_0 : (SS × Int × Int × (List ((List Int) × SS)))) (rows_0 : (List ((List Int) × SS))), ∀ h, f [(eP4 eS D.int D.int (eT (eP2 (eT D.int) eS))) log_0, (eT (eP2 (eT D.int) eS)) rows_0] h = .ok ((eP4 eS D.int D.int (eT (eP2 (eT D.int) eS))) (t_with_rows log_0 rows_0)) h
theorem et_with_rows {fn : Fns} : ST_with_rows (bodyF 2 (with_rows_m) fn) := by
  intro log_0 rows_0 h
  refine b_ret (m := with_rows_m) (V := (fun (r : (SS × Int × Int × (List ((List Int) × SS)))) => ((eP4 eS D.int D.int (eT (eP2 (eT D.int) eS))) r, h))) (r := t_with_rows log_0 rows_0) ?_
  unfold t_with_rows with_rows_m
  show J _ fn [.val ((eP4 eS D.int D.int (eT (eP2 (eT D.int) eS))) log_0), .val ((eT (eP2 (eT D.int) eS)) rows_0)] _ _ _
  exact j_ret (d := (eP4 eS D.int D.int (eT (eP2 (eT D.int) eS))) ((log_0.1, log_0.2.1, log_0.2.2.1).1, (log_0.1, log_0.2.1, log_0.2.2.1).2.1, (log_0.1, log_0.2.1, log_0.2.2.1).2.2, rows_0)) (xv ((eP4 eS D.int D.int (eT (eP2 (eT D.int) eS))) ((log_0.1, log_0.2.1, log_0.2.2.1).1, (log_0.1, log_0.2.1, log_0.2.2.1).2.1, (log_0.1, log_0.2.1, log_0.2.2.1).2.2, rows_0)) (x_op2 (xv ((eP3 eS D.int D.int) (log_0.1, log_0.2.1, log_0.2.2.1)) (x_slice (x_var rfl) x_noPart (x_part x_c) rfl)) (xv ((eP1 (eT (eP2 (eT D.int) eS))) rows_0) (x_tup (xa_cons (x_opN (xa_cons (x_var rfl) xa_nil) (o_tupT (e := (eP2 (eT D.int) eS)))) xa_nil) (nb_cons rfl nb_nil) rfl)) rfl)) rfl ⟨rfl, rfl⟩
def is_wrong_for_m : DS := sRet (dOp2 dEq (dOp2 dIn (dVar 1) (dOp2 dIx (dVar 0) (dC (.int 0)))) (dOp2 dEq (dOp2 dIx (dVar 0) (dC (.int 1))) (dC (.str ("no" : Str)))))
def t_is_wrong_for (row_0 : ((List Int) × SS)) (thing_0 : Int) : Bool := (decide ((hasB row_0.1 thing_0) = (decide (row_0.2 = (lit "no")))))
def ST_is_wrong_for (f : Fn) : Prop := ∀ (row_0 : ((List Int) × SS)) (thing_0 : Int), ∀ h, f [(eP2 (eT D.int) eS) row_0, D.int thing_0] h = .ok (D.bl (t_is_wrong_for row_0 thing_0)) h
theorem et_is_wrong_for {fn : Fns} : ST_is_wrong_for (bodyF 2 (is_wrong_for_m) fn) := by
  intro row_0 thing_0 h
  refine b_ret (m := is_wrong_for_m) (V := (fun (r : Bool) => (D.bl r, h))) (r := t_is_wrong_for row_0 thing_0) ?_
  unfold t_is_wrong_for is_wrong_for_m
  show J _ fn [.val ((eP2 (eT D.int) eS) row_0), .val (D.int thing_0)] _ _ _
  exact j_ret (d := D.bl (decide ((hasB row_0.1 thing_0) = (decide (row_0.2 = (lit "no")))))) (x_op2 (x_op2 (x_var rfl) (x_op2 (x_var rfl) x_c o_ixP2_0) (o_inT (e := D.int) (xs := row_0.1) (by decide))) (x_op2 (x_op2 (x_var rfl) x_c o_ixP2_1) (xv (eS (lit "no")) x_c) (o_eqE (e := eS) (a := row_0.2) (b := (lit "no")) (by decide))) rfl) rfl ⟨rfl, rfl⟩
def lg_wrong_of_m (c_is_wrong_for : Nat) : DS := sRet (dOpN cTuple (daCons (asVal (dComp [2, 3] (.tup [.name 2, .name 3]) (dEnumA (daCons (dOp2 dIx (dVar 0) (dC (.int 3))) (daNil))) (dTruE (dCall c_is_wrong_for 2 0 [.p 0, .p 1] [] (daCons (dVar 3) (daCons (dVar 1) (daNil))) (daNil))) (dVar 2))) (daNil)))
def t_lg_wrong_of (log_0 : (SS × Int × Int × (List ((List Int) × SS)))) (thing_0 : Int) : (List Int) := (((enumI log_0.2.2.2).filter (fun u_1 => (t_is_wrong_for u_1.2 thing_0))).map (fun u_1 => u_1.1))
def ST_lg_wrong_of (f : Fn) : Prop := ∀ (log_0 : (SS × Int × Int × (List ((List Int) × SS)))) (thing_0 : Int), (rw : log_0.2.2.2.length ≤ 1000) → ∀ h, f [(eP4 eS D.int D.int (eT (eP2 (eT D.int) eS))) log_0, D.int thing_0] h = .ok ((eT D.int) (t_lg_wrong_of log_0 thing_0)) h
theorem et_lg_wrong_of {fn : Fns} {i_is_wrong_for : Nat} (c_is_wrong_for : ST_is_wrong_for (fn i_is_wrong_for)) : ST_lg_wrong_of (bodyF 4 (lg_wrong_of_m i_is_wrong_for) fn) := by
  intro log_0 thing_0 rw h
  refine b_ret (m := lg_wrong_of_m i_is_wrong_for) (V := (fun (r : (List Int)) => ((eT D.int) r, h))) (r := t_lg_wrong_of log_0 thing_0) ?_
  unfold t_lg_wrong_of lg_wrong_of_m
  show J _ fn [.val ((eP4 eS D.int D.int (eT (eP2 (eT D.int) eS))) log_0), .val (D.int thing_0), .no, .no] _ _ _
  exact j_ret (d := (eT D.int) (((enumI log_0.2.2.2).filter (fun u_1 => (t_is_wrong_for u_1.2 thing_0))).map (fun u_1 => u_1.1))) (x_opN (xa_cons (xv ((eL D.int) (((enumI log_0.2.2.2).filter (fun u_1 => (t_is_wrong_for u_1.2 thing_0))).map (fun u_1 => u_1.1))) (x_asVal (f_compF (en := (eP2 D.int (eP2 (eT D.int) eS))) (ev := D.int) (fun u_1 => (t_is_wrong_for u_1.2 thing_0)) (fun u_1 => u_1.1) (i_enumT (e := (eP2 (eT D.int) eS)) (xs := log_0.2.2.2) (xa_cons (x_op2 (x_var rfl) x_c o_ixP4_3) xa_nil)) (by first | assumption | omega | (dsimp only [lt] at *; omega) | (set_option maxHeartbeats 40000 in (simp; done)) | (set_option maxHeartbeats 40000 in (simp; omega)) | (set_option maxHeartbeats 40000 in (simp at *; omega)) | (set_option maxHeartbeats 40000 in (simp_all; done)) | (set_option maxHeartbeats 40000 in (simp_all; omega))) rfl (fun _ => rfl) fun u_1 hu => have hr := mem_enm hu; ⟨_, (p_tup rfl (p_cons (p_name rfl rfl rfl) (p_cons (p_name rfl rfl rfl) p_nil))), (t_tru (x_call (xa_cons (x_var rfl) (xa_cons (x_var rfl) xa_nil)) xa_nil (nb_cons rfl (nb_cons rfl nb_nil)) nb_nil rfl rfl rfl (c_is_wrong_for u_1.2 thing_0 _)) tr_bl), fun hp => (x_var rfl)⟩))) xa_nil) (o_tupL (e := D.int))) rfl ⟨rfl, rfl⟩
def lg_possible_of_m (c_wrong_of : Nat) : DS := sRet (asVal (dComp [1] (.name 1) (dRng1 (daCons (dOp2 dIx (dVar 0) (dC (.int 1))) (daNil))) (dtB (dOp2 dLe (dOpN cLen (daCons (dCall c_wrong_of 2 0 [.p 0, .p 1] [] (daCons (dVar 0) (daCons (dVar 1) (daNil))) (daNil)) (daNil))) (dOp2 dIx (dVar 0) (dC (.int 2))))) (dVar 1)))
def t_lg_possible_of (log_0 : (SS × Int × Int × (List ((List Int) × SS)))) : (List Int) := (((rangeI log_0.2.1).filter (fun u_1 => (decide (((t_lg_wrong_of log_0 u_1).length : Int) ≤ log_0.2.2.1)))).map (fun u_1 => u_1))
def ST_lg_possible_of (f : Fn) : Prop := ∀ (log_0 : (SS × Int × Int × (List ((List Int) × SS)))), (mn : log_0.2.1 ≤ 1000) → (rw : log_0.2.2.2.length ≤ 1000) → (ls : log_0.2.2.1 ≤ 100) → (m0 : -1000 ≤ log_0.2.1) → (l0 : -1000 ≤ log_0.2.2.1) → ∀ h, f [(eP4 eS D.int D.int (eT (eP2 (eT D.int) eS))) log_0] h = .ok ((eL D.int) (t_lg_possible_of log_0)) h
theorem et_lg_possible_of {fn : Fns} {i_wrong_of : Nat} (c_lg_wrong_of : ST_lg_wrong_of (fn i_wrong_of)) : ST_lg_possible_of (bodyF 2 (lg_possible_of_m i_wrong_of) fn) := by
  intro log_0 mn rw ls m0 l0 h
  refine b_ret (m := lg_possible_of_m i_wrong_of) (V := (fun (r : (List Int)) => ((eL D.int) r, h))) (r := t_lg_possible_of log_0) ?_
  unfold t_lg_possible_of lg_possible_of_m
  show J _ fn [.val ((eP4 eS D.int D.int (eT (eP2 (eT D.int) eS))) log_0), .no] _ _ _
  exact j_ret (d := (eL D.int) (((rangeI log_0.2.1).filter (fun u_1 => (decide (((t_lg_wrong_of log_0 u_1).length : Int) ≤ log_0.2.2.1)))).map (fun u_1 => u_1))) (xv ((eL D.int) (((rangeI log_0.2.1).filter (fun u_1 => (decide (((t_lg_wrong_of log_0 u_1).length : Int) ≤ log_0.2.2.1)))).map (fun u_1 => u_1))) (x_asVal (f_compF (en := D.int) (ev := D.int) (fun u_1 => (decide (((t_lg_wrong_of log_0 u_1).length : Int) ≤ log_0.2.2.1))) (fun u_1 => u_1) (i_rng1 (xa_cons (x_op2 (x_var rfl) x_c o_ixP4_1) xa_nil) (by first | assumption | omega | (dsimp only [lt] at *; omega) | (set_option maxHeartbeats 40000 in (simp; done)) | (set_option maxHeartbeats 40000 in (simp; omega)) | (set_option maxHeartbeats 40000 in (simp at *; omega)) | (set_option maxHeartbeats 40000 in (simp_all; done)) | (set_option maxHeartbeats 40000 in (simp_all; omega))) (by first | assumption | omega | (dsimp only [lt] at *; omega) | (set_option maxHeartbeats 40000 in (simp; done)) | (set_option maxHeartbeats 40000 in (simp; omega)) | (set_option maxHeartbeats 40000 in (simp at *; omega)) | (set_option maxHeartbeats 40000 in (simp_all; done)) | (set_option maxHeartbeats 40000 in (simp_all; omega)))) (by first | assumption | omega | (dsimp only [lt] at *; omega) | (set_option maxHeartbeats 40000 in (simp; done)) | (set_option maxHeartbeats 40000 in (simp; omega)) | (set_option maxHeartbeats 40000 in (simp at *; omega)) | (set_option maxHeartbeats 40000 in (simp_all; done)) | (set_option maxHeartbeats 40000 in (simp_all; omega))) rfl (fun _ => rfl) fun u_1 hu => have hr := mem_rng hu; ⟨_, (p_name rfl rfl rfl), (t_B (x_op2 (x_opN (xa_cons (x_call (xa_cons (x_var rfl) (xa_cons (x_var rfl) xa_nil)) xa_nil (nb_cons rfl (nb_cons rfl nb_nil)) nb_nil rfl rfl rfl (c_lg_wrong_of log_0 u_1 (by first | assumption | omega | (dsimp only [lt] at *; omega) | (set_option maxHeartbeats 40000 in (simp; done)) | (set_option maxHeartbeats 40000 in (simp; omega)) | (set_option maxHeartbeats 40000 in (simp at *; omega)) | (set_option maxHeartbeats 40000 in (simp_all; done)) | (set_option maxHeartbeats 40000 in (simp_all; omega))) _)) xa_nil) (o_lenT (e := D.int))) (x_op2 (x_var rfl) x_c o_ixP4_2) rfl)), fun hp => (x_var rfl)⟩))) rfl ⟨rfl, rfl⟩
def want_log_m (c_is_log_of : Nat) : DS := sSeq (sIf (dtNot (dTruE (dCall c_is_log_of 1 0 [.p 0] [] (daCons (dVar 0) (daNil)) (daNil)))) (sBad) (sNext)) (sRet (dVar 0))
abbrev LogT := SS × Int × Int × List (List Int × SS)
/-- a log -/
structure LogOk (l : LogT) : Prop where
  nm : l.1 = lit "log"
  m1 : 1 ≤ l.2.1
  m2 : l.2.1 ≤ 40
  l1 : 0 ≤ l.2.2.1
  l2 : l.2.2.1 ≤ 3
  rw : l.2.2.2.length ≤ 24
  row : ∀ r ∈ l.2.2.2, t_are_things_in l.2.1 r.1 = true ∧ t_is_answer r.2 = true ∧ r.1.length ≤ 40
theorem LogOk.is {l : LogT} (o : LogOk l) : t_is_log_of l = true := by
  unfold t_is_log_of
  have h1 := o.nm
  have h2 := o.m1
  have h3 := o.m2
  have h4 := o.l1
  have h5 := o.l2
  have h6 := o.rw
  have e1 : t_is_row (toV (eP4 eS D.int D.int (eT (eP2 (eT D.int) eS))) l) 4 = true := rfl
  have e2 : ∀ {α β : Type} {e : α → D} {f : β → D} [PlE (eP2 e f)] (x : α × β), t_is_row (toV (eP2 e f) x) 2 = true := fun _ => rfl
  rw [if_neg (by rw [e1, h1]; simp), if_neg (by simp; omega), if_neg (by simp [e2]; omega)]
  rw [List.all_eq_true]
  intro r hr
  have := o.row r hr
  rw [this.1, this.2.1]; rfl
@[reducible] def t_want_log (value_0 : (SS × Int × Int × (List ((List Int) × SS)))) : (SS × Int × Int × (List ((List Int) × SS))) := value_0
def ST_want_log (f : Fn) : Prop := ∀ (value_0 : (SS × Int × Int × (List ((List Int) × SS)))), (ok : LogOk value_0) → ∀ h, f [(eP4 eS D.int D.int (eT (eP2 (eT D.int) eS))) value_0] h = .ok ((eP4 eS D.int D.int (eT (eP2 (eT D.int) eS))) (t_want_log value_0)) h
theorem et_want_log {fn : Fns} {i_is_log_of : Nat} (c_is_log_of : ST_is_log_of (fn i_is_log_of)) : ST_want_log (bodyF 1 (want_log_m i_is_log_of) fn) := by
  intro value_0 ok h
  have o5 := ok.rw
  have o6 := ok.is
  have o7 : ∀ r ∈ value_0.2.2.2, r.1.length ≤ 1000 := fun r hr => by have := (ok.row r hr).2.2; omega
  refine b_ret (m := want_log_m i_is_log_of) (V := (fun (r : (SS × Int × Int × (List ((List Int) × SS)))) => ((eP4 eS D.int D.int (eT (eP2 (eT D.int) eS))) r, h))) (r := t_want_log value_0) ?_
  unfold t_want_log want_log_m
  show J _ fn [.val ((eP4 eS D.int D.int (eT (eP2 (eT D.int) eS))) value_0)] _ _ _
  refine j_ifN (t_false (t_not (t_tru (x_call (xa_cons (x_var rfl) xa_nil) xa_nil (nb_cons rfl nb_nil) nb_nil rfl rfl rfl (c_is_log_of value_0 (by first | assumption | omega | (dsimp only [lt] at *; omega) | (set_option maxHeartbeats 40000 in (simp; done)) | (set_option maxHeartbeats 40000 in (simp; omega)) | (set_option maxHeartbeats 40000 in (simp at *; omega)) | (set_option maxHeartbeats 40000 in (simp_all; done)) | (set_option maxHeartbeats 40000 in (simp_all; omega))) (by first | assumption | omega | (dsimp only [lt] at *; omega) | (set_option maxHeartbeats 40000 in (simp; done)) | (set_option maxHeartbeats 40000 in (simp; omega)) | (set_option maxHeartbeats 40000 in (simp at *; omega)) | (set_option maxHeartbeats 40000 in (simp_all; done)) | (set_option maxHeartbeats 40000 in (simp_all; omega))) _)) tr_bl)) (by rw [o6]; rfl)) ?_
  exact j_ret (d := (eP4 eS D.int D.int (eT (eP2 (eT D.int) eS))) value_0) (x_var rfl) rfl ⟨rfl, rfl⟩
def t_lg_possible (log_0 : (SS × Int × Int × (List ((List Int) × SS)))) : (List Int) := (t_lg_possible_of log_0)
end EV
/-! EV102: ints shuffled, typed -/
/-! EV123: sorted(set(xs)), xs a list of tuples of ints -/
namespace EV
open PySem L2
def uniqI : List (List Int) → List (List Int)
  | [] => []
  | x :: xs => if x ∈ uniqI xs then uniqI xs else x :: uniqI xs
/-- sorted(set(..)) -/
def tset (nss : List (List Int)) : List (List Int) := tsort (uniqI nss)
def cSortSet (ds : List D) (h : Cells) : R (List D) := match ds with
  | [d] => match (seqL h d).bind tupsI with
    | some (n0 :: nss) => if decide (1 ≤ n0.length) && decide ((n0 :: nss).length < 64) && (n0 :: nss).all fun ns => decide (ns.length = n0.length) && bdB ns then .ok ((tset (n0 :: nss)).map tupD) h else .bad
    | _ => .bad
  | _ => .bad
def dSortSet (da : DA) : DF := fun fn env h => (da fn env h).bind fun ds h1 => cSortSet ds h1
@[simp] theorem e_dSortSet {fn : Fns} {env : Ev} {h : Cells} {da : DA} : dSortSet da fn env h = (da fn env h).bind fun ds h1 => cSortSet ds h1 := (rfl)
section
variable {X : Cx} {G : Gx} {g : Gh} {H : Hp}
theorem rels_ints : ∀ {ns : List Int}, RelsS g H (ns.map D.int) (ns.map V.int)
  | [] => rfl
  | n :: ns => ⟨_, _, rfl, rfl, rels_ints⟩
theorem Post.ahead {α : Type} {g g2 : Gh} {H H2 : Hp} {r : R α} {K : Gh → Hp → α → Cells → Prop} (e : Ext g H g2 H2) (q : Post X G g H r K) : Post X G g2 H2 r K := by
  cases r with
  | ok a h => exact fun g' H' e' r' => q g' H' (e.trans e') r'
  | exc x h => exact fun g' H' cls d e' r' m => q g' H' cls d (e.trans e') r' m
  | bad => exact q
end
end EV
/-! EV124: sorted(set(xs)), xs a tuple of ints -/
namespace L2
open PySem PySem.Spec PyProof.Rows
/-- set(t), t a tuple of ints -/
def rSetTupI (K : PySem.W.Frag) (w : World) : List V → Hp → VK → Prop := fun vs H Q => ∃ (p : Addr) (ns : List Int), vs = [V.ref p] ∧ SqT K H p (ns.map V.int) ∧ ns.length < 64 ∧
  ∀ a c, H a = none → c ≤ ns.length → Q (.ref a) (upd H a (SetO w a (fun j => decide (j ∈ ns)) c))
theorem cr_setTupI {X : Cx} (hc : X.calm = true) : CallR X (.type "set") (rSetTupI X.K X.w) := by
  intro pins s σ H vs us Q I r h
  obtain ⟨p, ns, rfl, hq, hf, q⟩ := h
  rw [Vals.ref1 r]
  obtain ⟨its, rv, pt, hz⟩ := I.tuple hq
  have hi : IntsAre its.toArray.toList ns := ints_of_vals rv
  have hn : H s.heap.objs.size = none := I.hok.fresh (Nat.le_refl _)
  refine call_set_tupI ns (I.ok.hd hc) (show s.heap.IsTuple p its.toArray from pt) hi (by unfold scanBound; omega) fun h' tk c R1 hcn k => ?_
  exact ⟨.ref s.heap.objs.size, upd H s.heap.objs.size (SetO X.w s.heap.objs.size (fun j => decide (j ∈ ns)) c), I.laid (t' := tk) k (Nat.le_refl _) (setO_new R1), rfl, q _ c hn hcn⟩
end L2
namespace EV
open PySem L2
def uniqN : List Int → List Int
  | [] => []
  | x :: xs => if x ∈ uniqN xs then uniqN xs else x :: uniqN xs
theorem mem_uniqN {y : Int} : ∀ {xs : List Int}, y ∈ uniqN xs ↔ y ∈ xs
  | [] => Iff.rfl
  | x :: xs => by
    have ih := mem_uniqN (y := y) (xs := xs)
    unfold uniqN
    by_cases c : x ∈ uniqN xs
    · rw [if_pos c, ih, List.mem_cons]
      exact ⟨.inr, fun z => z.elim (fun e => by rw [e]; exact mem_uniqN.mp c) id⟩
    · rw [if_neg c, List.mem_cons, List.mem_cons, ih]
theorem nodup_uniqN : ∀ {xs : List Int}, (uniqN xs).Nodup
  | [] => .nil
  | x :: xs => by
    unfold uniqN
    by_cases c : x ∈ uniqN xs
    · rw [if_pos c]; exact nodup_uniqN
    · rw [if_neg c]; exact List.nodup_cons.mpr ⟨c, nodup_uniqN⟩
/-- sorted(set(..)) of ints -/
def nset (ns : List Int) : List Int := isortI (uniqN ns)
/-- rising ones with the same members are the same -/
theorem up_uniq {a b : List Int} (ha : a.Pairwise (· < ·)) (hb : b.Pairwise (· < ·)) (m : ∀ x, x ∈ a ↔ x ∈ b) : a = b := by
  have na : a.Nodup := ha.imp fun h => by omega
  have nb : b.Nodup := hb.imp fun h => by omega
  have p := (List.perm_ext_iff_of_nodup na nb).mpr m
  exact p.eq_of_pairwise (le := fun x y => x < y) (fun x y _ _ h1 h2 => by omega) ha hb
theorem nset_up {ns : List Int} : (nset ns).Pairwise (· < ·) := by
  have p2 : (nset ns).Perm (uniqN ns) := List.mergeSort_perm _ _
  have s2 : (nset ns).Pairwise (fun a b => decide (a ≤ b) = true) := List.pairwise_mergeSort (le := fun a b : Int => decide (a ≤ b)) (fun a b c h1 h2 => by simp at *; omega) (fun a b => by simp; omega) (uniqN ns)
  have n2 : (nset ns).Nodup := p2.nodup_iff.mpr nodup_uniqN
  exact (s2.and n2).imp fun h => by
    obtain ⟨h1, h2⟩ := h
    simp at h1
    omega
theorem mem_nset {x : Int} {ns : List Int} : x ∈ nset ns ↔ x ∈ ns := by
  have p2 : (nset ns).Perm (uniqN ns) := List.mergeSort_perm _ _
  rw [p2.mem_iff, mem_uniqN]
/-- rising ones are their own sorted set -/
theorem nset_self {ns : List Int} (h : ns.Pairwise (· < ·)) : nset ns = ns := up_uniq nset_up h fun _ => mem_nset
def cSortSetI (ds : List D) (h : Cells) : R (List D) := match ds with
  | [.tup es] => match toInts es with
    | some ns => if decide (ns.length < 64) then .ok ((nset ns).map D.int) h else .bad
    | none => .bad
  | _ => .bad
def dSortSetI (da : DA) : DF := fun fn env h => (da fn env h).bind fun ds h1 => cSortSetI ds h1
@[simp] theorem e_dSortSetI {fn : Fns} {env : Ev} {h : Cells} {da : DA} : dSortSetI da fn env h = (da fn env h).bind fun ds h1 => cSortSetI ds h1 := (rfl)
section
variable {X : Cx} {G : Gx} {g : Gh} {H : Hp}
theorem sortSetI_ {dr : DA} {e : Expr} {p p2 pos pos2 : Pos} (hc : X.calm = true) (B : BltOk X "sorted" (.builtin "sorted")) (B2 : BltOk X "set" (.type "set")) (ha : PA X [e] (tA X G dr)) (hs : isStar e = false) : PE X (.Call (.Name "sorted" p) [.Call (.Name "set" p2) [e] [] pos2] [] pos) (tF X G (dSortSetI dr)) :=
  PE.imp (pe_callB (cr_sortedSet hc) B.g B.m B.b (pa_cons (pe_callTy (cr_setTupI hc) B2.g B2.m B2.b ha B2.n B2.d (star_cons hs) rfl) pa_nil (star_cons rfl)) B.n B.d (star_cons rfl) rfl) fun σ H Q ⟨g, own, env, h, o, r, l, q⟩ => ⟨g, own, env, h, o, r, l, (Post.bind q).imp fun g1 H1 ds h1 e1 r1 q1 vs qv => by
    unfold cSortSetI at q1
    split at q1
    · rename_i es
      obtain ⟨y, rfl, z⟩ := rel1 qv
      split at q1
      · rename_i ns ei
        split at q1
        · rename_i ok
          have ok := of_decide_eq_true ok
          have o1 := o.ext e1
          obtain ⟨a, zs, rfl, z1, z2⟩ := tup_ok o1 z
          have e3 := toInts_ok z2 ei
          subst e3
          refine ⟨a, ns, rfl, z1, ok, fun b c hb hcn => ?_⟩
          have e2 := Ext.new r1 (o := SetO X.w b (fun j => decide (j ∈ ns)) c) hb
          have r2 := HRel.new r1 (o := SetO X.w b (fun j => decide (j ∈ ns)) c) hb
          refine ⟨b, fun j => decide (j ∈ ns), c, rfl, upd_same, by omega, fun ns' p hs hm hl hn => ?_⟩
          have em : ns' = nset ns := up_uniq hs nset_up fun x => by rw [hm, mem_nset, decide_eq_true_eq]
          rw [em]
          exact fresh_now r (e1.trans e2) r2 rels_ints (Post.ahead e2 q1) p hn
        · exact q1.elim
      · exact q1.elim
    · exact q1.elim⟩
end
theorem f_sortSetI {fn : Fns} {env : Ev} {h h1 : Cells} {da : DA} {xs : List Int} (ha : da fn env h = .ok [eT D.int xs] h1) (q : xs.length < 64) : dSortSetI da fn env h = .ok ((nset xs).map D.int) h1 := by
  unfold dSortSetI
  rw [ha, ok_bind]
  show (match toInts (xs.map D.int) with
    | some ns => if decide (ns.length < 64) then R.ok ((nset ns).map D.int) h1 else .bad
    | none => .bad) = _
  rw [ints_map]
  dsimp only
  rw [if_pos (decide_eq_true q)]
end EV
/-! EV107: new lists whose condition draws; `if a and draw` -/
namespace EV
open PySem L2
def filtS {α π : Type} (c : α → π → Bool × π) : List α → π → List α × π
  | [], p => ([], p)
  | x :: xs, p => if (c x p).1 = true then (x :: (filtS c xs (c x p).2).1, (filtS c xs (c x p).2).2) else filtS c xs (c x p).2
section
variable {fn : Fns} {env : Ev} {h : Cells} {α β : Type} {di : DF}
theorem f_compSF {π : Type} {vs : List Nat} {pt : Pat} {tt : DT} {te : DE} {en : α → D} {ev : β → D} {xs : List α} {env0 : Ev} (Hh : π → Cells) (c : α → π → Bool × π) (f : α → β) {p : π} (hi : di fn env h = .ok (xs.map en) (Hh p)) (hl : xs.length ≤ 16777216) (hw : wipeE env vs = env0)
    (nb : ∀ u, isBor (ev u) = false) (hb : ∀ u ∈ xs, ∀ p, ∃ env1, Pat.put pt (en u) env0 = some env1 ∧ tt fn env1 (Hh p) = .ok (c u p).1 (Hh (c u p).2) ∧ te fn env1 (Hh (c u p).2) = .ok (ev (f u)) (Hh (c u p).2)) :
    dComp vs pt di tt te fn env h = .ok (((filtS c xs p).1.map f).map ev) (Hh (filtS c xs p).2) := by
  rw [e_dComp, hi, ok_bind, List.length_map, decide_eq_true hl, if_pos rfl, hw]
  clear hi hl
  induction xs generalizing p with
  | nil => rfl
  | cons u us ih =>
    obtain ⟨env1, e1, e2, e3⟩ := hb u (.head _) p
    rw [List.map_cons]
    unfold compL
    cases ep : (c u p).1 with
    | false =>
      rw [ep] at e2
      simp only [e1, e2, nox_ok, ok_bind, Bool.false_eq_true, if_false, ih fun v hv => hb v (.tail _ hv), filtS, ep]
    | true =>
      rw [ep] at e2
      simp only [e1, e2, e3, nox_ok, ok_bind, if_true, nb, Bool.false_eq_true, if_false, ih fun v hv => hb v (.tail _ hv), filtS, ep, List.map_cons]
/-- if a and b: .. (b draws) -/
theorem s_ifAnd {a b : DT} {m : DS} : sIf (dtAnd a b) m sNext fn env h = sIf a (sIf b m sNext) sNext fn env h := by
  rw [e_sIf, e_sIf, e_dtAnd]
  cases a fn env h with
  | ok k h1 => cases k <;> simp [R.bind, e_sIf]
  | _ => rfl
theorem j_andq {a b : DT} {m r : DS} {τ : Type} {K : τ → Fl → Ev → Cells → Prop} {x : τ} (q : J (sSeq (sIf a (sIf b m sNext) sNext) r) fn env h K x) : J (sSeq (sIf (dtAnd a b) m sNext) r) fn env h K x := by
  obtain ⟨fl, e, h', e1, e2⟩ := q
  exact ⟨fl, e, h', by rw [e_sSeq, s_ifAnd, ← e_sSeq]; exact e1, e2⟩
end
theorem pls_V : ∀ xs : List Vl, pls (xs.map eV) = true
  | [] => rfl
  | x :: xs => by
    show (pl x.val && pls (xs.map eV)) = true
    rw [x.2, pls_V xs]; rfl
instance : PlE (eL eV) := ⟨fun xs => pls_V xs⟩
end EV
/-! EV112: laws whose own def draws: a pot made, the rest read as a typed text -/
namespace EV
open PySem L2
/-! what holds of every state that a loop's body leaves -/
section
variable {ρ σ α : Type}
def CtAll (P : σ → Prop) : Ct ρ σ → Prop
  | .ret _ => True
  | .go s => P s
  | .brk s => P s
/-- what a body does: it never returns -/
def CtGo (P : σ → Prop) (Q : σ → Prop) : Ct ρ σ → Prop
  | .ret _ => False
  | .go s => P s
  | .brk s => Q s
theorem cg_no {P Q : σ → Prop} {c : Bool} {a b : Ct ρ σ} (hc : c = false) (hb : CtGo P Q b) : CtGo P Q (if c = true then a else b) := by rw [hc]; exact hb
theorem CtGo.all {P Q : σ → Prop} {w : Ct ρ σ} (h : CtGo P Q w) (hp : ∀ s, Q s → P s) : CtAll P w := by
  cases w with
  | ret => trivial
  | go s => exact h
  | brk s => exact hp s h
theorem CtGo.mono {P Q P' Q' : σ → Prop} {w : Ct ρ σ} (h : CtGo P Q w) (hp : ∀ s, P s → P' s) (hq : ∀ s, Q s → Q' s) : CtGo P' Q' w := by
  cases w with
  | ret => exact h
  | go s => exact hp s h
  | brk s => exact hq s h
theorem loopR_cg {step : σ → α → Ct ρ σ} {P : Nat → σ → Prop} {Q : σ → Prop} {f : σ → ρ} {Z : ρ → Prop} : ∀ {xs : List α} {s0 : σ} {k : Nat}, P k s0 → (∀ (i : Nat) (u : α) (s : σ), xs[i]? = some u → P (k + i) s → CtGo (P (k + i + 1)) Q (step s u)) →
    (∀ s, P (k + xs.length) s → Z (f s)) → (∀ s, Q s → Z (f s)) → Z ((loopR step s0 xs).out f)
  | [], s0, k, h0, _, hf, _ => hf s0 h0
  | x :: xs, s0, k, h0, hs, hf, hq => by
    have z := hs 0 x s0 rfl h0
    unfold loopR
    cases e : step s0 x with
    | ret r => rw [e] at z; exact z.elim
    | brk s => rw [e] at z; exact hq s z
    | go s =>
      rw [e] at z
      exact loopR_cg (k := k + 1) z (fun i u s hu hp => by
        have := hs (i + 1) u s (by simpa using hu) (by rw [show k + (i + 1) = k + 1 + i by omega]; exact hp)
        rw [show k + (i + 1) + 1 = k + 1 + i + 1 by omega] at this
        exact this) (fun s h => hf s (by rw [List.length_cons, show k + (xs.length + 1) = k + 1 + xs.length by omega]; exact h)) hq
end
end EV
/-! EV114: any value: its kind, parts; read as a typed value where it is one -/
namespace EV
open PySem L2
instance : Inhabited Vl := ⟨⟨.non, rfl⟩⟩
/-! ### parts -/
def esD : D → List D
  | .tup ds => ds
  | .lst ds => ds
  | _ => []
theorem esD_pl {d : D} (h : pl d = true) : ∀ x ∈ esD d, pl x = true := by
  cases d with
  | tup ds => exact fun x m => pls_mem (show pls ds = true from h) x m
  | lst ds => exact fun x m => pls_mem (show pls ds = true from h) x m
  | _ => exact fun x m => by cases m
def vEs (v : Vl) : List Vl := (esD v.1).attach.map fun x => ⟨x.1, esD_pl v.2 x.1 x.2⟩
theorem vEs_eq (v : Vl) : (vEs v).map eV = esD v.1 := by
  unfold vEs
  rw [List.map_map]
  exact (List.attach_map_subtype_val (esD v.1))
def vT (v : Vl) : Bool := match v.1 with
  | .tup _ => true
  | _ => false
def vL (v : Vl) : Bool := match v.1 with
  | .lst _ => true
  | _ => false
def vSq (v : Vl) : Bool := match v.1 with
  | .tup _ => true
  | .lst _ => true
  | _ => false
def vI (v : Vl) : Bool := isInt v.1
def vB (v : Vl) : Bool := match v.1 with
  | .bl _ => true
  | _ => false
def vS (v : Vl) : Bool := match v.1 with
  | .str _ => true
  | _ => false
def vInt (v : Vl) : Int := match v.1 with
  | .int i => i
  | _ => 0
def vStr (v : Vl) : Str := match v.1 with
  | .str s => s
  | _ => Str.ofString ""
theorem vSq_T {v : Vl} (h : vT v = true) : vSq v = true := by
  unfold vT at h; unfold vSq; split at h <;> simp_all
theorem vSq_or {v : Vl} : vSq v = (vT v || vL v) := by
  unfold vSq vT vL; cases v.1 <;> rfl
theorem vT_eq {v : Vl} (h : vT v = true) : eV v = eT eV (vEs v) := by
  show v.1 = .tup ((vEs v).map eV)
  rw [vEs_eq]
  unfold vT at h
  split at h
  · rename_i ds e; rw [e]; rfl
  · cases h
theorem vL_eq {v : Vl} (h : vL v = true) : eV v = eL eV (vEs v) := by
  show v.1 = .lst ((vEs v).map eV)
  rw [vEs_eq]
  unfold vL at h
  split at h
  · rename_i ds e; rw [e]; rfl
  · cases h
theorem vS_eq {v : Vl} (h : vS v = true) : eV v = .str (vStr v) := by
  show v.1 = _
  unfold vS at h; unfold vStr
  cases e : v.1 <;> simp [e] at h ⊢
/-- kinds: at most one -/
def tyV (v : Vl) : Ty := match v.1 with
  | .bl _ => .bl
  | .int _ => .int
  | .str _ => .str
  | .tup _ => .tup
  | .lst _ => .lst
  | _ => .non
theorem tyV_of (v : Vl) (h : Cells) : tyOf h v.1 = some (tyV v) := by
  obtain ⟨d, p⟩ := v
  cases d <;> first | rfl | (simp [EV.pl] at p)
section
variable {fn : Fns} {env : Ev} {h h1 : Cells} {a : DE} {v : Vl}
theorem x_isiV (ts : List Ty) {k : Bool} (ha : a fn env h = .ok (eV v) h1) (hk : (ts.any fun u => (tyV v).isa u) = k) : dIsi a ts fn env h = .ok (.bl k) h1 := x_isi ha (tyV_of v h1) hk
theorem k_T : ([Ty.tup].any fun u => (tyV v).isa u) = vT v := by unfold tyV vT; cases v.1 <;> rfl
theorem k_S : ([Ty.str].any fun u => (tyV v).isa u) = vS v := by unfold tyV vS; cases v.1 <;> rfl
theorem o_lenV (q : vSq v = true) : cLen [eV v] h = .ok (.int (vEs v).length) h := by
  rw [vSq_or, Bool.or_eq_true] at q
  rcases q with q | q
  · rw [vT_eq q]; exact o_lenT
  · rw [vL_eq q]; exact o_lenL
theorem o_ixV {k : Int} (q : vSq v = true) (k0 : -((vEs v).length : Int) ≤ k) (k1 : k < (vEs v).length) : dIx (eV v) (.int k) h = .ok (eV (getI (vEs v) k)) h := by
  rw [vSq_or, Bool.or_eq_true] at q
  rcases q with q | q
  · rw [vT_eq q]; exact o_ixT k0 k1
  · rw [vL_eq q]; exact o_ixL k0 k1
theorem i_V (ha : a fn env h = .ok (eV v) h1) (q : vSq v = true) : dItems a fn env h = .ok ((vEs v).map eV) h1 := by
  rw [vSq_or, Bool.or_eq_true] at q
  rcases q with q | q
  · rw [vT_eq q] at ha; exact i_T ha
  · rw [vL_eq q] at ha; exact i_L ha
theorem x_vT (q : vT v = true) (ha : a fn env h = .ok (eV v) h1) : a fn env h = .ok (eT eV (vEs v)) h1 := by rw [← vT_eq q]; exact ha
theorem o_eqVS {w : SS} (q : vS v = true) : dEq (eV v) (eS w) h = .ok (.bl (decide (vStr v = w.val))) h := by rw [vS_eq q]; rfl
end
/-! ### read as a typed value -/
class Dec {α : Type} (e : α → D) where
  dec : D → Option α
  d1 : ∀ a, dec (e a) = some a
  d2 : ∀ {d a}, dec d = some a → e a = d
instance : Dec D.int := ⟨fun d => match d with
  | .int i => some i
  | _ => none, fun _ => rfl, fun {d a} h => by cases d <;> simp at h; rw [h]⟩
instance : Dec D.bl := ⟨fun d => match d with
  | .bl i => some i
  | _ => none, fun _ => rfl, fun {d a} h => by cases d <;> simp at h; rw [h]⟩
instance : Dec eS := ⟨fun d => match d with
  | .str s => if h : PySem.PyData.strOk s = true then some ⟨s, h⟩ else none
  | _ => none, fun s => by simp [eS, s.2], fun {d a} h => by
    cases d <;> simp at h
    obtain ⟨_, rfl⟩ := h
    rfl⟩
instance : Dec eN := ⟨fun d => match d with
  | .non => some ()
  | _ => none, fun _ => rfl, fun {d a} h => by cases d <;> simp at h; rfl⟩
instance : Dec eV := ⟨fun d => if h : pl d = true then some ⟨d, h⟩ else none, fun v => by simp [eV, v.2], fun {d a} h => by
  split at h
  · injection h with h; rw [← h]; rfl
  · cases h⟩
def decs {α : Type} (e : α → D) [Dec e] : List D → Option (List α)
  | [] => some []
  | d :: ds => match Dec.dec (e := e) d, decs e ds with
    | some a, some r => some (a :: r)
    | _, _ => none
theorem decs_map {α : Type} {e : α → D} [Dec e] : ∀ xs : List α, decs e (xs.map e) = some xs
  | [] => rfl
  | x :: xs => by rw [List.map_cons, decs, Dec.d1, decs_map xs]
theorem decs_of {α : Type} {e : α → D} [Dec e] : ∀ {ds : List D} {xs : List α}, decs e ds = some xs → xs.map e = ds
  | [], xs, h => by unfold decs at h; injection h with h; rw [← h]; rfl
  | d :: ds, xs, h => by
    unfold decs at h
    cases e1 : Dec.dec (e := e) d with
    | none => rw [e1] at h; cases h
    | some a =>
      cases e2 : decs e ds with
      | none => rw [e1, e2] at h; cases h
      | some r =>
        rw [e1, e2] at h
        injection h with h
        rw [← h, List.map_cons, Dec.d2 e1, decs_of e2]
instance {α : Type} {e : α → D} [Dec e] : Dec (eT e) := ⟨fun d => match d with
  | .tup ds => decs e ds
  | _ => none, fun xs => decs_map xs, fun {d a} h => by
    cases d <;> simp at h
    show D.tup (a.map e) = _
    rw [decs_of h]⟩
instance {α : Type} {e : α → D} [Dec e] : Dec (eL e) := ⟨fun d => match d with
  | .lst ds => decs e ds
  | _ => none, fun xs => decs_map xs, fun {d a} h => by
    cases d <;> simp at h
    show D.lst (a.map e) = _
    rw [decs_of h]⟩
section
variable {α β γ δ ε : Type} {a : α → D} {b : β → D} {c : γ → D} {e : δ → D} {f : ε → D}
instance [Dec a] : Dec (eP1 a) := ⟨fun d => match d with
  | .tup [x] => Dec.dec (e := a) x
  | _ => none, fun p => Dec.d1 (e := a) p, fun {d p} h => by
    split at h
    · show D.tup [a p] = _; rw [Dec.d2 h]
    · cases h⟩
instance [Dec a] [Dec b] : Dec (eP2 a b) := ⟨fun d => match d with
  | .tup [x, y] => (Dec.dec (e := a) x).bind fun p => (Dec.dec (e := b) y).map fun q => (p, q)
  | _ => none, fun p => by simp [eP2, Dec.d1], fun {d p} h => by
    split at h
    · simp only [Option.bind_eq_some_iff, Option.map_eq_some_iff] at h
      obtain ⟨p, h1, q, h2, rfl⟩ := h
      show D.tup [a p, b q] = _; rw [Dec.d2 h1, Dec.d2 h2]
    · cases h⟩
instance [Dec a] [Dec b] [Dec c] : Dec (eP3 a b c) := ⟨fun d => match d with
  | .tup [x, y, z] => (Dec.dec (e := a) x).bind fun p => (Dec.dec (e := b) y).bind fun q => (Dec.dec (e := c) z).map fun r => (p, q, r)
  | _ => none, fun p => by simp [eP3, Dec.d1], fun {d p} h => by
    split at h
    · simp only [Option.bind_eq_some_iff, Option.map_eq_some_iff] at h
      obtain ⟨p, h1, q, h2, r, h3, rfl⟩ := h
      show D.tup [a p, b q, c r] = _; rw [Dec.d2 h1, Dec.d2 h2, Dec.d2 h3]
    · cases h⟩
instance [Dec a] [Dec b] [Dec c] [Dec e] : Dec (eP4 a b c e) := ⟨fun d => match d with
  | .tup [x, y, z, w] => (Dec.dec (e := a) x).bind fun p => (Dec.dec (e := b) y).bind fun q => (Dec.dec (e := c) z).bind fun r => (Dec.dec (e := e) w).map fun s => (p, q, r, s)
  | _ => none, fun p => by simp [eP4, Dec.d1], fun {d p} h => by
    split at h
    · simp only [Option.bind_eq_some_iff, Option.map_eq_some_iff] at h
      obtain ⟨p, h1, q, h2, r, h3, s, h4, rfl⟩ := h
      show D.tup [a p, b q, c r, e s] = _; rw [Dec.d2 h1, Dec.d2 h2, Dec.d2 h3, Dec.d2 h4]
    · cases h⟩
end
def isV {α : Type} (e : α → D) [Dec e] (v : Vl) : Bool := (Dec.dec (e := e) v.1).isSome
def ofV {α : Type} (e : α → D) [Dec e] [Inhabited α] (v : Vl) : α := (Dec.dec (e := e) v.1).getD default
theorem ofV_eq {α : Type} {e : α → D} [Dec e] [Inhabited α] {v : Vl} (h : isV e v = true) : eV v = e (ofV e v) := by
  unfold isV at h
  unfold ofV
  cases z : Dec.dec (e := e) v.1 with
  | none => rw [z] at h; cases h
  | some a => exact (Dec.d2 z).symm
theorem x_ofV {α : Type} {e : α → D} [Dec e] [Inhabited α] {v : Vl} {a : DE} {fn : Fns} {env : Ev} {h h1 : Cells} (q : isV e v = true) (p : a fn env h = .ok (eV v) h1) : a fn env h = .ok (e (ofV e v)) h1 := by rw [← ofV_eq q]; exact p
theorem isV_ex {α : Type} {e : α → D} [Dec e] [PlE e] {v : Vl} : isV e v = true ↔ ∃ a, v = toV e a := by
  unfold isV
  constructor
  · intro h
    obtain ⟨a, z⟩ := Option.isSome_iff_exists.mp h
    exact ⟨a, Subtype.ext (Dec.d2 z).symm⟩
  · rintro ⟨a, rfl⟩
    show (Dec.dec (e := e) (e a)).isSome = true
    rw [Dec.d1]; rfl
@[simp] theorem isV_toV {α : Type} {e : α → D} [Dec e] [PlE e] {a : α} : isV e (toV e a) = true := isV_ex.mpr ⟨a, rfl⟩
@[simp] theorem ofV_toV {α : Type} {e : α → D} [Dec e] [PlE e] [Inhabited α] {a : α} : ofV e (toV e a) = a := by
  unfold ofV
  show (Dec.dec (e := e) (e a)).getD default = a
  rw [Dec.d1]; rfl
/-! plain values of plain values -/
theorem pls_of {α : Type} {e : α → D} [PlE e] : ∀ xs : List α, pls (xs.map e) = true
  | [] => rfl
  | x :: xs => by
    show (pl (e x) && pls (xs.map e)) = true
    rw [PlE.pl, pls_of xs]; rfl
section
variable {α β γ δ ε : Type} {a : α → D} {b : β → D} {c : γ → D} {e : δ → D} {f : ε → D}
instance (priority := 500) [PlE a] : PlE (eT a) := ⟨fun xs => pls_of xs⟩
instance (priority := 500) [PlE a] : PlE (eL a) := ⟨fun xs => pls_of xs⟩
instance (priority := 500) [PlE a] : PlE (eO a) := ⟨fun x => by
  cases x with
  | none => rfl
  | some x => exact PlE.pl (e := a) x⟩
instance (priority := 500) [PlE a] : PlE (eP1 a) := ⟨fun x => by show (pl (a x) && true) = true; rw [PlE.pl]; rfl⟩
instance (priority := 500) [PlE a] [PlE b] : PlE (eP2 a b) := ⟨fun x => by show (pl (a x.1) && (pl (b x.2) && true)) = true; rw [PlE.pl, PlE.pl]; rfl⟩
instance (priority := 500) [PlE a] [PlE b] [PlE c] : PlE (eP3 a b c) := ⟨fun x => by show (pl (a x.1) && (pl (b x.2.1) && (pl (c x.2.2) && true))) = true; rw [PlE.pl, PlE.pl, PlE.pl]; rfl⟩
instance (priority := 500) [PlE a] [PlE b] [PlE c] [PlE e] : PlE (eP4 a b c e) := ⟨fun x => by show (pl (a x.1) && (pl (b x.2.1) && (pl (c x.2.2.1) && (pl (e x.2.2.2) && true)))) = true; rw [PlE.pl, PlE.pl, PlE.pl, PlE.pl]; rfl⟩
end
/-! what kinds typed values are -/
section
variable {α β γ δ : Type} {a : α → D} {b : β → D} {c : γ → D} {e : δ → D}
@[simp] theorem vT_T [PlE (eT a)] {x : List α} : vT (toV (eT a) x) = true := rfl
@[simp] theorem vT_P1 [PlE (eP1 a)] {x : α} : vT (toV (eP1 a) x) = true := rfl
@[simp] theorem vT_P2 [PlE (eP2 a b)] {x : α × β} : vT (toV (eP2 a b) x) = true := rfl
@[simp] theorem vT_P3 [PlE (eP3 a b c)] {x : α × β × γ} : vT (toV (eP3 a b c) x) = true := rfl
@[simp] theorem vT_P4 [PlE (eP4 a b c e)] {x : α × β × γ × δ} : vT (toV (eP4 a b c e) x) = true := rfl
@[simp] theorem vSq_T' [PlE (eT a)] {x : List α} : vSq (toV (eT a) x) = true := rfl
@[simp] theorem vSq_P1 [PlE (eP1 a)] {x : α} : vSq (toV (eP1 a) x) = true := rfl
@[simp] theorem vSq_P2 [PlE (eP2 a b)] {x : α × β} : vSq (toV (eP2 a b) x) = true := rfl
@[simp] theorem vSq_P3 [PlE (eP3 a b c)] {x : α × β × γ} : vSq (toV (eP3 a b c) x) = true := rfl
@[simp] theorem vSq_P4 [PlE (eP4 a b c e)] {x : α × β × γ × δ} : vSq (toV (eP4 a b c e) x) = true := rfl
@[simp] theorem vS_S {x : SS} : vS (toV eS x) = true := rfl
@[simp] theorem vI_I {x : Int} : vI (toV D.int x) = true := rfl
@[simp] theorem vInt_I {x : Int} : vInt (toV D.int x) = x := rfl
@[simp] theorem vStr_S {x : SS} : vStr (toV eS x) = x.val := rfl
theorem vl_ext {v w : Vl} (h : eV v = eV w) : v = w := Subtype.ext h
theorem map_eV_inj : ∀ {xs ys : List Vl}, xs.map eV = ys.map eV → xs = ys
  | [], [], _ => rfl
  | [], _ :: _, h => by cases h
  | _ :: _, [], h => by cases h
  | x :: xs, y :: ys, h => by
    injection h with h1 h2
    rw [vl_ext h1, map_eV_inj h2]
@[simp] theorem vEs_T [PlE (eT a)] [PlE a] {x : List α} : vEs (toV (eT a) x) = x.map (toV a) := map_eV_inj (by rw [vEs_eq, List.map_map]; rfl)
@[simp] theorem vEs_L [PlE (eL a)] [PlE a] {x : List α} : vEs (toV (eL a) x) = x.map (toV a) := map_eV_inj (by rw [vEs_eq, List.map_map]; rfl)
@[simp] theorem vEs_P1 [PlE (eP1 a)] [PlE a] {x : α} : vEs (toV (eP1 a) x) = [toV a x] := map_eV_inj (by rw [vEs_eq]; rfl)
@[simp] theorem vEs_P2 [PlE (eP2 a b)] [PlE a] [PlE b] {x : α × β} : vEs (toV (eP2 a b) x) = [toV a x.1, toV b x.2] := map_eV_inj (by rw [vEs_eq]; rfl)
@[simp] theorem vEs_P3 [PlE (eP3 a b c)] [PlE a] [PlE b] [PlE c] {x : α × β × γ} : vEs (toV (eP3 a b c) x) = [toV a x.1, toV b x.2.1, toV c x.2.2] := map_eV_inj (by rw [vEs_eq]; rfl)
@[simp] theorem vEs_P4 [PlE (eP4 a b c e)] [PlE a] [PlE b] [PlE c] [PlE e] {x : α × β × γ × δ} : vEs (toV (eP4 a b c e) x) = [toV a x.1, toV b x.2.1, toV c x.2.2.1, toV e x.2.2.2] := map_eV_inj (by rw [vEs_eq]; rfl)
@[simp] theorem toV_V {v : Vl} : toV eV v = v := rfl
end
/-- a value by its kind and parts -/
theorem v_tup {v : Vl} (h : vT v = true) : v = toV (eT eV) (vEs v) := vl_ext (vT_eq h)
end EV
/-! EV119: judges of any value by kind and parts -/
namespace EV
open PySem L2
section
variable {v : Vl} {m : Int}
theorem es_len : (vEs v).length = (esD v.1).length := by rw [← vEs_eq, List.length_map]
theorem row_v : t_is_row v m = (vT v && decide (((vEs v).length : Int) = m)) := by
  rw [es_len]
  obtain ⟨d, p⟩ := v
  cases d <;> rfl
theorem list_v : t_is_list v = vSq v := by
  obtain ⟨d, p⟩ := v
  cases d <;> rfl
theorem integer_v : t_is_integer v = vI v := rfl
theorem count_v : t_is_count v = (vI v && decide (0 ≤ vInt v)) := by
  obtain ⟨d, p⟩ := v
  cases d <;> first | rfl | (show decide (0 ≤ _) = (true && _); rw [Bool.true_and]; rfl)
theorem below_v : t_is_below v m = (vI v && (decide (0 ≤ vInt v) && decide (vInt v < m))) := by
  obtain ⟨d, p⟩ := v
  cases d <;> first | rfl | (show (decide (0 ≤ _) && decide (_ < m)) = (true && _); rw [Bool.true_and]; rfl)
theorem isV_int : isV D.int v = vI v := by
  obtain ⟨d, p⟩ := v
  cases d <;> rfl
theorem isV_bl : isV D.bl v = vB v := by
  obtain ⟨d, p⟩ := v
  cases d <;> rfl
@[simp] theorem isV_V : isV eV v = true := by
  unfold isV
  show (if h : pl v.1 = true then some (⟨v.1, h⟩ : Vl) else none).isSome = true
  rw [dif_pos v.2]; rfl
@[simp] theorem ofV_V : ofV eV v = v := by
  have := ofV_eq (e := eV) (v := v) isV_V
  exact (vl_ext this).symm
end
section
variable {α β γ δ : Type} {e : α → D} {a : α → D} {b : β → D} {c : γ → D} {f : δ → D} {v : Vl}
theorem isV_T [Dec e] [PlE e] : isV (eT e) v = (vT v && (vEs v).all fun x => isV e x) := by
  rw [Bool.eq_iff_iff]
  constructor
  · intro h
    obtain ⟨xs, rfl⟩ := isV_ex.mp h
    simp
  · intro h
    rw [Bool.and_eq_true, List.all_eq_true] at h
    have go : ∀ (ys : List Vl), (∀ y ∈ ys, isV e y = true) → ∃ xs : List α, ys = xs.map (toV e) := by
      intro ys
      induction ys with
      | nil => intro _; exact ⟨[], rfl⟩
      | cons y ys ih =>
        intro h
        obtain ⟨x, rfl⟩ := isV_ex.mp (h y (by simp))
        obtain ⟨xs, rfl⟩ := ih fun z m => h z (by simp [m])
        exact ⟨x :: xs, rfl⟩
    obtain ⟨xs, hx⟩ := go _ h.2
    refine isV_ex.mpr ⟨xs, ?_⟩
    rw [v_tup h.1, hx]
    exact vl_ext (by show D.tup ((xs.map (toV e)).map eV) = D.tup (xs.map e); rw [List.map_map]; rfl)
end
end EV
/-! EV54: plans of words -/
namespace EV
open PySem L2
/-- a word, a plan -/
def wdOk (s : Nat) (w : List Int) : Prop := w.length = s ∧ ∀ x ∈ w, x = 0 ∨ x = 1
structure Pln where
  s : Nat
  ws : List (List Int)
def risW : List (List Int) → Bool
  | a :: b :: ws => HT.lexLt a b && risW (b :: ws)
  | _ => true
structure PlOk (p : Pln) : Prop where
  s1 : 1 ≤ p.s
  s10 : p.s ≤ 10
  w1 : 1 ≤ p.ws.length
  w64 : p.ws.length ≤ 64
  wd : ∀ w ∈ p.ws, wdOk p.s w
  ris : risW p.ws = true
end EV
namespace EV
open PySem L2
def t_rising_w (items_0 : (List (List Int))) : Bool := ((items_0.zip (cut items_0 (some 1) none)).all (fun u_1 => (HT.lexLt u_1.1 u_1.2)))
def t_is_word_of (signs_0 : Int) (value_0 : (List Int)) : Bool := ((t_is_row (toV (eT D.int) value_0) signs_0) && (value_0.all (fun u_1 => (t_is_below (toV D.int u_1) 2))))
def t_is_plan_of (value_0 : (SS × Int × (List (List Int)))) : Bool := if ((!(t_is_row (toV (eP3 eS D.int (eT (eT D.int))) value_0) 3)) || ((!true) || (!decide (value_0.1 = (lit "plan"))))) = true then (false) else (if ((!(t_is_integer (toV D.int value_0.2.1))) || ((!((decide (1 ≤ value_0.2.1)) && (decide (value_0.2.1 ≤ 10)))) || (!true))) = true then (false) else (if ((!((decide (1 ≤ (value_0.2.2.length : Int))) && (decide ((value_0.2.2.length : Int) ≤ 64)))) || (!(value_0.2.2.all (fun u_1 => (t_is_word_of value_0.2.1 u_1))))) = true then (false) else ((t_rising_w value_0.2.2))))
theorem cut_le {α : Type} {xs : List α} {lo hi : Option Int} : (cut xs lo hi).length ≤ xs.length := by
  unfold cut
  rw [List.length_take, List.length_drop]; omega
structure PlK (q : SS × Int × List (List Int)) : Prop where
  nm : q.1 = lit "plan"
  s1 : 1 ≤ q.2.1
  s10 : q.2.1 ≤ 10
  w1 : 1 ≤ q.2.2.length
  w64 : q.2.2.length ≤ 64
  wd : ∀ w ∈ q.2.2, w.length = q.2.1.toNat ∧ ∀ x ∈ w, 0 ≤ x ∧ x < 2
  ris : t_rising_w q.2.2 = true
theorem word_iff {s : Int} (h : 0 ≤ s) {w : List Int} : t_is_word_of s w = true ↔ w.length = s.toNat ∧ ∀ x ∈ w, 0 ≤ x ∧ x < 2 := by
  unfold t_is_word_of
  simp only [t_is_row_T, t_is_below_int, Bool.and_eq_true, decide_eq_true_eq, List.all_eq_true]
  constructor
  · rintro ⟨a, b⟩; exact ⟨by omega, b⟩
  · rintro ⟨a, b⟩; exact ⟨by omega, b⟩
theorem PlK.ok {q : SS × Int × List (List Int)} (k : PlK q) : t_is_plan_of q = true := by
  have hr : t_is_row (toV (eP3 eS D.int (eT (eT D.int))) q) 3 = true := rfl
  have hw : q.2.2.all (fun u => t_is_word_of q.2.1 u) = true := List.all_eq_true.mpr fun w m => (word_iff (by have := k.s1; omega)).mpr (k.wd w m)
  have a1 := k.s1
  have a2 := k.s10
  have a3 := k.w1
  have a4 := k.w64
  unfold t_is_plan_of
  rw [hr, hw, k.nm, k.ris]
  simp only [t_is_integer_int, decide_true, Bool.not_true, Bool.or_false, Bool.or_self]
  rw [if_neg (by decide), if_neg (by simp; omega), if_neg (by simp; omega)]
end EV
/-! EV55: plans, the program's own questions -/
/-! EV56: laws' words, plans otherwise -/
/-! EV59: how far words are apart: whatever their sequence, their signs' sequence and flips -/
/-! EV60: words sorted; plans otherwise are plans -/
/-! EV105: typed plans: what the program's functions say of them, in plain words -/
namespace EV
open PySem L2
theorem cut_drop {α : Type} {xs : List α} {k : Nat} : cut xs (some (k : Int)) none = xs.drop k := by
  unfold cut
  rw [HT.sIx_nat, HT.sIx_none]
  by_cases h : k ≤ xs.length
  · rw [Nat.min_eq_left h, List.take_of_length_le (by rw [List.length_drop]; exact Nat.le_refl _)]
  · rw [Nat.min_eq_right (by omega), Nat.sub_self, List.take_zero, List.drop_eq_nil_of_le (by omega)]
theorem cut_take {α : Type} {xs : List α} {k : Nat} : cut xs none (some (k : Int)) = xs.take k := by
  unfold cut
  rw [HT.sIx_nat, HT.sIx_none, List.drop_zero, Nat.sub_zero]
  by_cases h : k ≤ xs.length
  · rw [Nat.min_eq_left h]
  · rw [Nat.min_eq_right (by omega), List.take_length, List.take_of_length_le (by omega)]
theorem rising_eq : ∀ {ws : List (List Int)}, t_rising_w ws = risW ws
  | [] => rfl
  | [a] => rfl
  | a :: b :: ws => by
    have ih := rising_eq (ws := b :: ws)
    have c1 := cut_drop (xs := a :: b :: ws) (k := 1)
    have c2 := cut_drop (xs := b :: ws) (k := 1)
    unfold t_rising_w at ih ⊢
    rw [show ((1 : Int)) = ((1 : Nat) : Int) from rfl] at ih ⊢
    rw [c2] at ih
    rw [c1, List.drop_succ_cons, List.drop_zero, List.zip_cons_cons, List.all_cons, risW]
    rw [List.drop_succ_cons, List.drop_zero] at ih
    rw [ih]
theorem bits_iff {s : Nat} {w : List Int} : wdOk s w ↔ w.length = s ∧ ∀ x ∈ w, 0 ≤ x ∧ x < 2 := by
  constructor
  · rintro ⟨a, b⟩; exact ⟨a, fun x m => by rcases b x m with e | e <;> subst e <;> decide⟩
  · rintro ⟨a, b⟩; exact ⟨a, fun x m => by have := b x m; omega⟩
theorem PlK.of {s : Int} {ws : List (List Int)} (h0 : 0 ≤ s) (k : PlOk ⟨s.toNat, ws⟩) : PlK (lit "plan", s, ws) where
  nm := rfl
  s1 := by have := k.s1; dsimp only at *; omega
  s10 := by have := k.s10; dsimp only at *; omega
  w1 := k.w1
  w64 := k.w64
  wd := fun w m => bits_iff.mp (k.wd w m)
  ris := by rw [rising_eq]; exact k.ris
end EV
/-! EV110: mathematics of typed logs (from k09): wrong answers counted, counts, what is possible, a row more -/
namespace EV
open PySem L2
theorem filtS_sub {α π : Type} {c : α → π → Bool × π} : ∀ {xs : List α} {p : π}, List.Sublist (filtS c xs p).1 xs
  | [], p => .slnil
  | x :: xs, p => by
    unfold filtS
    split
    · exact (filtS_sub (xs := xs)).cons₂ x
    · exact (filtS_sub (xs := xs)).cons x
theorem rising_of : ∀ {xs : List Int}, xs.Pairwise (· < ·) → t_is_rising xs = true
  | [], _ => rfl
  | [x], _ => rfl
  | x :: y :: xs, h => by
    have ih := rising_of (List.Pairwise.of_cons h)
    have c1 := cut_drop (xs := x :: y :: xs) (k := 1)
    have c2 := cut_drop (xs := y :: xs) (k := 1)
    unfold t_is_rising at ih ⊢
    rw [show ((1 : Int)) = ((1 : Nat) : Int) from rfl] at ih ⊢
    rw [c2] at ih
    rw [c1, List.drop_succ_cons, List.drop_zero, List.zip_cons_cons, List.all_cons]
    rw [List.drop_succ_cons, List.drop_zero] at ih
    rw [ih, Bool.and_true]
    exact decide_eq_true ((List.pairwise_cons.mp h).1 y (by simp))
theorem range_lt {n : Int} : (rangeI n).Pairwise (· < ·) := by
  unfold rangeI nats
  rw [List.pairwise_map]
  exact List.pairwise_lt_range.imp fun h => by omega
theorem things_of {m : Int} {xs : List Int} (h : List.Sublist xs (rangeI m)) (m1 : m ≤ 40) : t_are_things_in m xs = true ∧ xs.length ≤ 40 := by
  refine ⟨?_, by have := h.length_le; rw [rangeI_len] at this; omega⟩
  unfold t_are_things_in
  rw [rising_of (range_lt.sublist h)]
  simp only [t_is_below_int, Bool.true_and, Bool.and_true, List.all_eq_true, Bool.and_eq_true, decide_eq_true_eq]
  intro x hx
  exact mem_rng (h.subset hx)
theorem answer_is {b : Bool} : t_is_answer (if b = true then lit "yes" else lit "no") = true := by cases b <;> rfl
def Wn (log : LogT) (x : Int) : Nat := log.2.2.2.countP fun r => t_is_wrong_for r x
theorem enum_cnt {α : Type} {P : α → Bool} : ∀ {xs : List α} {i : Int}, ((enumF i xs).filter fun u => P u.2).length = xs.countP P
  | [], _ => rfl
  | x :: xs, i => by
    rw [enumF, List.filter_cons, List.countP_cons]
    dsimp only
    cases P x with
    | true => rw [if_pos rfl, List.length_cons, enum_cnt]; rfl
    | false => rw [if_neg (by decide), enum_cnt]; rfl
theorem lg_wrong_n {log : LogT} {x : Int} : (t_lg_wrong_of log x).length = Wn log x := by
  unfold t_lg_wrong_of
  rw [List.length_map]
  exact enum_cnt (P := fun r => t_is_wrong_for r x)
theorem poss_mem {log : LogT} {x : Int} : x ∈ t_lg_possible log ↔ (0 ≤ x ∧ x < log.2.1) ∧ (Wn log x : Int) ≤ log.2.2.1 := by
  unfold t_lg_possible t_lg_possible_of
  rw [show (fun (u_1 : Int) => u_1) = id from rfl, List.map_id, List.mem_filter, lg_wrong_n, decide_eq_true_eq]
  constructor
  · rintro ⟨a, b⟩; exact ⟨mem_rng a, b⟩
  · rintro ⟨a, b⟩; exact ⟨by unfold rangeI; exact mem_nats.mpr ⟨a.1, by omega⟩, b⟩
end EV
/-! EV49: what changes of logs keep -/
namespace EV
open PySem L2
/-! ### turned -/
/-! ### renamed -/
def nm (ns : List Int) (t : Int) : Int := gd ns t.toNat
/-! ### a row more, a lie more -/
end EV
/-! EV111: typed logs and the logs of EV40: what is known of the one is known of the other -/
namespace EV
open PySem L2
theorem ans_cases {a : SS} (h : t_is_answer a = true) : a = lit "yes" ∨ a = lit "no" := by
  unfold t_is_answer at h
  rw [Bool.true_and, hasB_iff] at h
  simpa using h
theorem hasB_con {xs : List Int} {t : Int} : hasB xs t = xs.contains t := by
  rw [Bool.eq_iff_iff, hasB_iff, List.contains_iff_mem]
theorem ris_to : ∀ {xs : List Int}, t_is_rising xs = true → risI xs = true
  | [], _ => rfl
  | [x], _ => rfl
  | x :: y :: xs, h => by
    have c1 := cut_drop (xs := x :: y :: xs) (k := 1)
    have c2 := cut_drop (xs := y :: xs) (k := 1)
    unfold t_is_rising at h
    rw [show ((1 : Int)) = ((1 : Nat) : Int) from rfl, c1, List.drop_succ_cons, List.drop_zero, List.zip_cons_cons, List.all_cons, Bool.and_eq_true] at h
    have ih : risI (y :: xs) = true := ris_to (by
      unfold t_is_rising
      rw [show ((1 : Int)) = ((1 : Nat) : Int) from rfl, c2, List.drop_succ_cons, List.drop_zero]
      exact h.2)
    show (decide (x < y) && risI (y :: xs)) = true
    rw [ih, Bool.and_true]
    exact h.1
theorem th_to {m : Int} {th : List Int} (h : t_are_things_in m th = true) : thOk m.toNat th := by
  unfold t_are_things_in at h
  rw [Bool.true_and, Bool.and_eq_true] at h
  refine ⟨fun t ht => ?_, ris_to h.2⟩
  have := List.all_eq_true.mp h.1 t ht
  simp only [t_is_below_int, Bool.and_eq_true, decide_eq_true_eq] at this
  omega
end EV
/-! EV113: few questions; books of what is found (checked by counting); counts of a start's log -/
/-! EV117: a plan's questions as a log: what is read, what is possible (from k09) -/
namespace EV
open PySem L2
theorem poss_sub {log : LogT} : List.Sublist (t_lg_possible log) (rangeI log.2.1) := by
  unfold t_lg_possible t_lg_possible_of
  rw [show (fun (u_1 : Int) => u_1) = id from rfl, List.map_id]
  exact List.filter_sublist
/-! a plan's log -/
end EV
namespace EV
open PySem L2
def truth_of_m (c_possible_of c_is_wrong_for : Nat) : DS := sSeq (sFrzA [2] (sOwn 2 (dComp [3] (.name 3) (dItems (dCall c_possible_of 1 0 [.p 0] [] (daCons (dVar 0) (daNil)) (daNil))) (dtYes) (dCall c_is_wrong_for 2 0 [.p 0, .p 1] [] (daCons (dOp2 dIx (dOp2 dIx (dVar 0) (dC (.int 3))) (dVar 1)) (daCons (dVar 3) (daNil))) (daNil))))) (sSeq (sIf (dtB (dOp2 dEq (dVar 2) (dLst (daNil)))) (sRet (dC (.str ("none" : Str)))) (sNext)) (sSeq (sIf (dtB (dOp2 dIn (dC (.bl true)) (dVar 2))) (sRet (dIf (dtB (dOp2 dIn (dC (.bl false)) (dVar 2))) (dC (.str ("open" : Str))) (dC (.str ("wrong" : Str))))) (sNext)) (sRet (dC (.str ("right" : Str))))))
theorem poss_len {log : LogT} : (t_lg_possible_of log).length ≤ log.2.1.toNat := by
  have := (poss_sub (log := log)).length_le
  rwa [rangeI_len] at this
theorem wr_ok {log : LogT} (ok : LogOk log) {rows : List (List Int × SS)} (h : ∀ r ∈ rows, r ∈ log.2.2.2) (l : rows.length ≤ 24) : LogOk (log.1, log.2.1, log.2.2.1, rows) :=
  ⟨ok.nm, ok.m1, ok.m2, ok.l1, ok.l2, l, fun r hr => ok.row r (h r hr)⟩
theorem rngD_get {a b u : Int} {i : Nat} (h : (rangeD a b)[i]? = some u) : u = a - i := by
  unfold rangeD at h
  rw [List.getElem?_map] at h
  by_cases c : i < (a - b).toNat
  · rw [List.getElem?_range c] at h
    simpa using h.symm
  · rw [List.getElem?_eq_none (by simpa using c)] at h
    simp at h
theorem rows_V {n m : Int} {v : Vl} (h1 : t_is_row v n = true) (h2 : (vEs v).all (fun x => t_is_below x m) = true) : isV (eT D.int) v = true ∧ ((ofV (eT D.int) v).length : Int) = n ∧ (∀ x ∈ ofV (eT D.int) v, 0 ≤ x ∧ x < m) ∧ ∀ x ∈ vEs v, isV D.int x = true ∧ 0 ≤ ofV D.int x ∧ ofV D.int x < m := by
  rw [row_v] at h1
  simp only [Bool.and_eq_true, decide_eq_true_eq, List.all_eq_true, below_v] at h1 h2
  have i : isV (eT D.int) v = true := by
    rw [isV_T, h1.1, Bool.true_and, List.all_eq_true]
    exact fun x m => by rw [isV_int]; exact (h2 x m).1
  obtain ⟨xs, rfl⟩ := isV_ex.mp i
  rw [ofV_toV]
  simp only [vEs_T, List.mem_map] at h2
  have b : ∀ x ∈ xs, 0 ≤ x ∧ x < m := fun x hx => by
    have := (h2 (toV D.int x) ⟨x, hx, rfl⟩).2
    simpa using this
  refine ⟨i, by simpa using h1.2, b, fun y hy => ?_⟩
  simp only [vEs_T, List.mem_map] at hy
  obtain ⟨x, hx, rfl⟩ := hy
  refine ⟨isV_toV, ?_⟩
  rw [ofV_toV]
  exact b x hx
theorem below_V {m : Int} {v : Vl} (h : t_is_below v m = true) : isV D.int v = true ∧ 0 ≤ ofV D.int v ∧ ofV D.int v < m := by
  rw [below_v] at h
  simp only [Bool.and_eq_true, decide_eq_true_eq] at h
  have i : isV D.int v = true := by rw [isV_int]; exact h.1
  obtain ⟨x, rfl⟩ := isV_ex.mp i
  rw [ofV_toV]
  exact ⟨i, by simpa using h.2⟩
def t_truth_of (log_0 : (SS × Int × Int × (List ((List Int) × SS)))) (at_0 : Int) : SS := lt ((t_lg_possible_of log_0).map (fun u_1 => (t_is_wrong_for (getI log_0.2.2.2 at_0) u_1))) fun told_2 => if (decide (told_2 = ([] : List Bool))) = true then ((lit "none")) else (if (hasB told_2 true) = true then ((if (hasB told_2 false) = true then (lit "open") else (lit "wrong"))) else ((lit "right")))
def ST_truth_of (f : Fn) : Prop := ∀ (log_0 : (SS × Int × Int × (List ((List Int) × SS)))) (at_0 : Int), (ok : LogOk log_0) → (a0 : 0 ≤ at_0) → (a1 : at_0 < (log_0.2.2.2.length : Int)) → ∀ h, f [(eP4 eS D.int D.int (eT (eP2 (eT D.int) eS))) log_0, D.int at_0] h = .ok (eS (t_truth_of log_0 at_0)) h
theorem et_truth_of {fn : Fns} {i_possible_of i_is_wrong_for : Nat} (c_lg_possible_of : ST_lg_possible_of (fn i_possible_of)) (c_is_wrong_for : ST_is_wrong_for (fn i_is_wrong_for)) : ST_truth_of (bodyF 4 (truth_of_m i_possible_of i_is_wrong_for) fn) := by
  intro log_0 at_0 ok a0 a1 h
  have o1 := ok.m1
  have o2 := ok.m2
  have o3 := ok.l1
  have o4 := ok.l2
  have o5 := ok.rw
  refine b_ret (m := truth_of_m i_possible_of i_is_wrong_for) (V := (fun (r : SS) => (eS r, h))) (r := t_truth_of log_0 at_0) ?_
  unfold t_truth_of truth_of_m
  show J _ fn [.val ((eP4 eS D.int D.int (eT (eP2 (eT D.int) eS))) log_0), .val (D.int at_0), .no, .no] _ _ _
  refine j_lt fun told_2 e_told_2 => ?_
  refine j_seq (z_frzA (z_own (ds := told_2.map D.bl) (by rw [e_told_2]; exact (f_compM (en := D.int) (ev := D.bl) (fun u_1 => (t_is_wrong_for (getI log_0.2.2.2 at_0) u_1)) (i_L (e := D.int) (xs := (t_lg_possible_of log_0)) (x_call (xa_cons (x_var rfl) xa_nil) xa_nil (nb_cons rfl nb_nil) nb_nil rfl rfl rfl (c_lg_possible_of log_0 (by /-truth_of 1: possible_of: pre 0-/first | assumption | omega | (dsimp only [lt] at *; omega) | (set_option maxHeartbeats 40000 in (simp; done)) | (set_option maxHeartbeats 40000 in (simp; omega)) | (set_option maxHeartbeats 40000 in (simp at *; omega)) | (set_option maxHeartbeats 40000 in (simp_all; done)) | (set_option maxHeartbeats 40000 in (simp_all; omega))) (by /-truth_of 2: possible_of: pre 1-/first | assumption | omega | (dsimp only [lt] at *; omega) | (set_option maxHeartbeats 40000 in (simp; done)) | (set_option maxHeartbeats 40000 in (simp; omega)) | (set_option maxHeartbeats 40000 in (simp at *; omega)) | (set_option maxHeartbeats 40000 in (simp_all; done)) | (set_option maxHeartbeats 40000 in (simp_all; omega))) (by /-truth_of 3: possible_of: pre 2-/first | assumption | omega | (dsimp only [lt] at *; omega) | (set_option maxHeartbeats 40000 in (simp; done)) | (set_option maxHeartbeats 40000 in (simp; omega)) | (set_option maxHeartbeats 40000 in (simp at *; omega)) | (set_option maxHeartbeats 40000 in (simp_all; done)) | (set_option maxHeartbeats 40000 in (simp_all; omega))) (by /-truth_of 4: possible_of: pre 3-/first | assumption | omega | (dsimp only [lt] at *; omega) | (set_option maxHeartbeats 40000 in (simp; done)) | (set_option maxHeartbeats 40000 in (simp; omega)) | (set_option maxHeartbeats 40000 in (simp at *; omega)) | (set_option maxHeartbeats 40000 in (simp_all; done)) | (set_option maxHeartbeats 40000 in (simp_all; omega))) (by /-truth_of 5: possible_of: pre 4-/first | assumption | omega | (dsimp only [lt] at *; omega) | (set_option maxHeartbeats 40000 in (simp; done)) | (set_option maxHeartbeats 40000 in (simp; omega)) | (set_option maxHeartbeats 40000 in (simp at *; omega)) | (set_option maxHeartbeats 40000 in (simp_all; done)) | (set_option maxHeartbeats 40000 in (simp_all; omega))) _))) (by /-truth_of 6: (t_lg_possible_of log_0).length ≤ 16777216-/have := poss_len (log := log_0); omega) rfl (fun _ => rfl) fun u_1 hu => have hu_u_1 := hu; ⟨_, (p_name rfl rfl rfl), (x_call (xa_cons (x_op2 (x_op2 (x_var rfl) x_c o_ixP4_3) (x_var rfl) (o_ixT (e := (eP2 (eT D.int) eS)) (xs := log_0.2.2.2) (k := at_0) (by /-truth_of 7: -log_0.2.2.2.length ≤ at_0-/first | assumption | omega | (dsimp only [lt] at *; omega) | (set_option maxHeartbeats 40000 in (simp; done)) | (set_option maxHeartbeats 40000 in (simp; omega)) | (set_option maxHeartbeats 40000 in (simp at *; omega)) | (set_option maxHeartbeats 40000 in (simp_all; done)) | (set_option maxHeartbeats 40000 in (simp_all; omega))) (by /-truth_of 8: at_0 < log_0.2.2.2.length-/first | assumption | omega | (dsimp only [lt] at *; omega) | (set_option maxHeartbeats 40000 in (simp; done)) | (set_option maxHeartbeats 40000 in (simp; omega)) | (set_option maxHeartbeats 40000 in (simp at *; omega)) | (set_option maxHeartbeats 40000 in (simp_all; done)) | (set_option maxHeartbeats 40000 in (simp_all; omega))))) (xa_cons (x_var rfl) xa_nil)) xa_nil (nb_cons rfl (nb_cons rfl nb_nil)) nb_nil rfl rfl rfl (c_is_wrong_for (getI log_0.2.2.2 at_0) u_1 _))⟩)) rfl rfl) rfl) ?_
  refine j_ifq (t_B (x_op2 (x_var rfl) (xv ((eL D.bl) ([] : List Bool)) (x_lst xa_nil nb_nil rfl)) (o_eqE (e := (eL D.bl)) (a := told_2) (b := ([] : List Bool)) (by decide)))) (fun hc1 => ?_) (fun hc1 => ?_)
  · skip
    refine j_re ?_
    exact j_ret (d := eS (lit "none")) (xv (eS (lit "none")) x_c) rfl ⟨rfl, rfl⟩
  · skip
    refine j_ifq (t_B (x_op2 x_c (x_var rfl) (o_inL (e := D.bl) (xs := told_2) (by decide)))) (fun hc2 => ?_) (fun hc2 => ?_)
    · skip
      refine j_re ?_
      exact j_ret (d := eS (if (hasB told_2 false) = true then (lit "open") else (lit "wrong"))) (x_if (e := eS) (u := (lit "open")) (v := (lit "wrong")) (t_B (x_op2 x_c (x_var rfl) (o_inL (e := D.bl) (xs := told_2) (by decide)))) (fun hc => (xv (eS (lit "open")) x_c)) (fun hc => (xv (eS (lit "wrong")) x_c))) rfl ⟨rfl, rfl⟩
    · skip
      exact j_ret (d := eS (lit "right")) (xv (eS (lit "right")) x_c) rfl ⟨rfl, rfl⟩
def barred_for_m (c_wrong_of : Nat) : DS := sRet (dTup (daCons (dVar 1) (daCons (dSlice (dCall c_wrong_of 2 0 [.p 0, .p 1] [] (daCons (dVar 0) (daCons (dVar 1) (daNil))) (daNil)) (dNoPart) (dPart (dOp2 dAdd (dOp2 dIx (dVar 0) (dC (.int 2))) (dC (.int 1))))) (daNil))))
def t_barred_for (log_0 : (SS × Int × Int × (List ((List Int) × SS)))) (thing_0 : Int) : (Int × (List Int)) := (thing_0, (cut (t_lg_wrong_of log_0 thing_0) none (some (log_0.2.2.1 + 1))))
def ST_barred_for (f : Fn) : Prop := ∀ (log_0 : (SS × Int × Int × (List ((List Int) × SS)))) (thing_0 : Int), (ok : LogOk log_0) → ∀ h, f [(eP4 eS D.int D.int (eT (eP2 (eT D.int) eS))) log_0, D.int thing_0] h = .ok ((eP2 D.int (eT D.int)) (t_barred_for log_0 thing_0)) h
theorem et_barred_for {fn : Fns} {i_wrong_of : Nat} (c_lg_wrong_of : ST_lg_wrong_of (fn i_wrong_of)) : ST_barred_for (bodyF 2 (barred_for_m i_wrong_of) fn) := by
  intro log_0 thing_0 ok h
  have o1 := ok.m1
  have o2 := ok.m2
  have o3 := ok.l1
  have o4 := ok.l2
  have o5 := ok.rw
  refine b_ret (m := barred_for_m i_wrong_of) (V := (fun (r : (Int × (List Int))) => ((eP2 D.int (eT D.int)) r, h))) (r := t_barred_for log_0 thing_0) ?_
  unfold t_barred_for barred_for_m
  show J _ fn [.val ((eP4 eS D.int D.int (eT (eP2 (eT D.int) eS))) log_0), .val (D.int thing_0)] _ _ _
  exact j_ret (d := (eP2 D.int (eT D.int)) (thing_0, (cut (t_lg_wrong_of log_0 thing_0) none (some (log_0.2.2.1 + 1))))) (xv ((eP2 D.int (eT D.int)) (thing_0, (cut (t_lg_wrong_of log_0 thing_0) none (some (log_0.2.2.1 + 1))))) (x_tup (xa_cons (x_var rfl) (xa_cons (x_slice (x_call (xa_cons (x_var rfl) (xa_cons (x_var rfl) xa_nil)) xa_nil (nb_cons rfl (nb_cons rfl nb_nil)) nb_nil rfl rfl rfl (c_lg_wrong_of log_0 thing_0 (by /-barred_for 1: wrong_of: pre 0-/first | assumption | omega | (dsimp only [lt] at *; omega) | (set_option maxHeartbeats 40000 in (simp; done)) | (set_option maxHeartbeats 40000 in (simp; omega)) | (set_option maxHeartbeats 40000 in (simp at *; omega)) | (set_option maxHeartbeats 40000 in (simp_all; done)) | (set_option maxHeartbeats 40000 in (simp_all; omega))) _)) x_noPart (x_part (x_op2 (x_op2 (x_var rfl) x_c o_ixP4_2) x_c rfl)) (o_slT (e := D.int) (xs := (t_lg_wrong_of log_0 thing_0)))) xa_nil)) (nb_cons rfl (nb_cons rfl nb_nil)) rfl)) rfl ⟨rfl, rfl⟩
def others_of_m (c_is_wrong_for : Nat) : DS := sSeq (sIf (dtB (dOp2 dEq (dVar 2) (dC (.str ("none" : Str))))) (sRet (asVal (dLstRg (dOp2 dIx (dVar 0) (dC (.int 1)))))) (sNext)) (sRet (asVal (dComp [3] (.name 3) (dRng1 (daCons (dOp2 dIx (dVar 0) (dC (.int 1))) (daNil))) (dtB (dOp2 dEq (dCall c_is_wrong_for 2 0 [.p 0, .p 1] [] (daCons (dOp2 dIx (dOp2 dIx (dVar 0) (dC (.int 3))) (dVar 1)) (daCons (dVar 3) (daNil))) (daNil)) (dOp2 dEq (dVar 2) (dC (.str ("right" : Str)))))) (dVar 3))))
def t_others_of (log_0 : (SS × Int × Int × (List ((List Int) × SS)))) (at_0 : Int) (word_0 : SS) : (List Int) := if (decide (word_0 = (lit "none"))) = true then ((rangeI log_0.2.1)) else ((((rangeI log_0.2.1).filter (fun u_1 => (decide ((t_is_wrong_for (getI log_0.2.2.2 at_0) u_1) = (decide (word_0 = (lit "right"))))))).map (fun u_1 => u_1)))
def ST_others_of (f : Fn) : Prop := ∀ (log_0 : (SS × Int × Int × (List ((List Int) × SS)))) (at_0 : Int) (word_0 : SS), (ok : LogOk log_0) → (a0 : 0 ≤ at_0) → (a1 : at_0 < (log_0.2.2.2.length : Int)) → ∀ h, f [(eP4 eS D.int D.int (eT (eP2 (eT D.int) eS))) log_0, D.int at_0, eS word_0] h = .ok ((eL D.int) (t_others_of log_0 at_0 word_0)) h
theorem et_others_of {fn : Fns} {i_is_wrong_for : Nat} (c_is_wrong_for : ST_is_wrong_for (fn i_is_wrong_for)) : ST_others_of (bodyF 4 (others_of_m i_is_wrong_for) fn) := by
  intro log_0 at_0 word_0 ok a0 a1 h
  have o1 := ok.m1
  have o2 := ok.m2
  have o3 := ok.l1
  have o4 := ok.l2
  have o5 := ok.rw
  refine b_ret (m := others_of_m i_is_wrong_for) (V := (fun (r : (List Int)) => ((eL D.int) r, h))) (r := t_others_of log_0 at_0 word_0) ?_
  unfold t_others_of others_of_m
  show J _ fn [.val ((eP4 eS D.int D.int (eT (eP2 (eT D.int) eS))) log_0), .val (D.int at_0), .val (eS word_0), .no] _ _ _
  refine j_ifq (t_B (x_op2 (x_var rfl) (xv (eS (lit "none")) x_c) (o_eqE (e := eS) (a := word_0) (b := (lit "none")) (by decide)))) (fun hc1 => ?_) (fun hc1 => ?_)
  · skip
    refine j_re ?_
    exact j_ret (d := (eL D.int) (rangeI log_0.2.1)) (xv ((eL D.int) (rangeI log_0.2.1)) (x_asVal (f_lstRg (x_op2 (x_var rfl) x_c o_ixP4_1) (by /-others_of 1: -10^9 ≤ log_0.2.1-/first | assumption | omega | (dsimp only [lt] at *; omega) | (set_option maxHeartbeats 40000 in (simp; done)) | (set_option maxHeartbeats 40000 in (simp; omega)) | (set_option maxHeartbeats 40000 in (simp at *; omega)) | (set_option maxHeartbeats 40000 in (simp_all; done)) | (set_option maxHeartbeats 40000 in (simp_all; omega))) (by /-others_of 2: log_0.2.1 ≤ 16777216-/first | assumption | omega | (dsimp only [lt] at *; omega) | (set_option maxHeartbeats 40000 in (simp; done)) | (set_option maxHeartbeats 40000 in (simp; omega)) | (set_option maxHeartbeats 40000 in (simp at *; omega)) | (set_option maxHeartbeats 40000 in (simp_all; done)) | (set_option maxHeartbeats 40000 in (simp_all; omega)))))) rfl ⟨rfl, rfl⟩
  · skip
    exact j_ret (d := (eL D.int) (((rangeI log_0.2.1).filter (fun u_1 => (decide ((t_is_wrong_for (getI log_0.2.2.2 at_0) u_1) = (decide (word_0 = (lit "right"))))))).map (fun u_1 => u_1))) (xv ((eL D.int) (((rangeI log_0.2.1).filter (fun u_1 => (decide ((t_is_wrong_for (getI log_0.2.2.2 at_0) u_1) = (decide (word_0 = (lit "right"))))))).map (fun u_1 => u_1))) (x_asVal (f_compF (en := D.int) (ev := D.int) (fun u_1 => (decide ((t_is_wrong_for (getI log_0.2.2.2 at_0) u_1) = (decide (word_0 = (lit "right")))))) (fun u_1 => u_1) (i_rng1 (xa_cons (x_op2 (x_var rfl) x_c o_ixP4_1) xa_nil) (by /-others_of 3: range low-/first | assumption | omega | (dsimp only [lt] at *; omega) | (set_option maxHeartbeats 40000 in (simp; done)) | (set_option maxHeartbeats 40000 in (simp; omega)) | (set_option maxHeartbeats 40000 in (simp at *; omega)) | (set_option maxHeartbeats 40000 in (simp_all; done)) | (set_option maxHeartbeats 40000 in (simp_all; omega))) (by /-others_of 4: range log_0.2.1 ≤ 10^9-/first | assumption | omega | (dsimp only [lt] at *; omega) | (set_option maxHeartbeats 40000 in (simp; done)) | (set_option maxHeartbeats 40000 in (simp; omega)) | (set_option maxHeartbeats 40000 in (simp at *; omega)) | (set_option maxHeartbeats 40000 in (simp_all; done)) | (set_option maxHeartbeats 40000 in (simp_all; omega)))) (by /-others_of 5: (rangeI log_0.2.1).length ≤ 16777216-/first | assumption | omega | (dsimp only [lt] at *; omega) | (set_option maxHeartbeats 40000 in (simp; done)) | (set_option maxHeartbeats 40000 in (simp; omega)) | (set_option maxHeartbeats 40000 in (simp at *; omega)) | (set_option maxHeartbeats 40000 in (simp_all; done)) | (set_option maxHeartbeats 40000 in (simp_all; omega))) rfl (fun _ => rfl) fun u_1 hu => have hu_u_1 := hu; have hr := mem_rng hu; ⟨_, (p_name rfl rfl rfl), (t_B (x_op2 (x_call (xa_cons (x_op2 (x_op2 (x_var rfl) x_c o_ixP4_3) (x_var rfl) (o_ixT (e := (eP2 (eT D.int) eS)) (xs := log_0.2.2.2) (k := at_0) (by /-others_of 6: -log_0.2.2.2.length ≤ at_0-/first | assumption | omega | (dsimp only [lt] at *; omega) | (set_option maxHeartbeats 40000 in (simp; done)) | (set_option maxHeartbeats 40000 in (simp; omega)) | (set_option maxHeartbeats 40000 in (simp at *; omega)) | (set_option maxHeartbeats 40000 in (simp_all; done)) | (set_option maxHeartbeats 40000 in (simp_all; omega))) (by /-others_of 7: at_0 < log_0.2.2.2.length-/first | assumption | omega | (dsimp only [lt] at *; omega) | (set_option maxHeartbeats 40000 in (simp; done)) | (set_option maxHeartbeats 40000 in (simp; omega)) | (set_option maxHeartbeats 40000 in (simp at *; omega)) | (set_option maxHeartbeats 40000 in (simp_all; done)) | (set_option maxHeartbeats 40000 in (simp_all; omega))))) (xa_cons (x_var rfl) xa_nil)) xa_nil (nb_cons rfl (nb_cons rfl nb_nil)) nb_nil rfl rfl rfl (c_is_wrong_for (getI log_0.2.2.2 at_0) u_1 _)) (x_op2 (x_var rfl) (xv (eS (lit "right")) x_c) (o_eqE (e := eS) (a := word_0) (b := (lit "right")) (by decide))) rfl)), fun hp => (x_var rfl)⟩))) rfl ⟨rfl, rfl⟩
def first_thing_m (c_possible_of c_is_wrong_for : Nat) : DS := sRet (dOp2 dIx (asVal (dComp [3] (.name 3) (dItems (dCall c_possible_of 1 0 [.p 0] [] (daCons (dVar 0) (daNil)) (daNil))) (dtB (dOp2 dEq (dCall c_is_wrong_for 2 0 [.p 0, .p 1] [] (daCons (dOp2 dIx (dOp2 dIx (dVar 0) (dC (.int 3))) (dVar 1)) (daCons (dVar 3) (daNil))) (daNil)) (dVar 2))) (dVar 3))) (dC (.int 0)))
theorem truth_has {log : LogT} {at_ : Int} {w : SS} (e : w = t_truth_of log at_) : (w = lit "open" → ∀ b, ∃ x ∈ t_lg_possible_of log, t_is_wrong_for (getI log.2.2.2 at_) x = b) ∧ (w ≠ lit "open" → w ≠ lit "none" → ∃ x ∈ t_lg_possible_of log, t_is_wrong_for (getI log.2.2.2 at_) x = decide (w = lit "wrong")) := by
  unfold t_truth_of at e
  simp only [lt] at e
  have mem : ∀ b, hasB ((t_lg_possible_of log).map fun u => t_is_wrong_for (getI log.2.2.2 at_) u) b = true → ∃ x ∈ t_lg_possible_of log, t_is_wrong_for (getI log.2.2.2 at_) x = b := fun b h => by
    unfold hasB at h
    simp only [List.any_eq_true, List.mem_map, decide_eq_true_eq] at h
    first
      | (obtain ⟨y, ⟨x, hx, rfl⟩, h2⟩ := h; exact ⟨x, hx, h2⟩)
      | (obtain ⟨y, ⟨x, hx, rfl⟩, h2⟩ := h; exact ⟨x, hx, h2.symm⟩)
  split at e
  · subst e
    exact ⟨fun z => absurd z (by decide), fun _ z => absurd rfl z⟩
  · rename_i c0
    have c0 : ((t_lg_possible_of log).map fun u => t_is_wrong_for (getI log.2.2.2 at_) u) ≠ [] := by simpa using c0
    split at e
    · rename_i c1
      split at e
      · rename_i c2
        subst e
        exact ⟨fun _ b => by cases b; exact mem _ c2; exact mem _ c1, fun z => absurd rfl z⟩
      · subst e
        exact ⟨fun z => absurd z (by decide), fun _ _ => mem _ c1⟩
    · rename_i c1
      subst e
      refine ⟨fun z => absurd z (by decide), fun _ _ => ?_⟩
      obtain ⟨b, hb⟩ := List.exists_mem_of_ne_nil _ c0
      obtain ⟨x, hx, e⟩ := List.mem_map.mp hb
      refine ⟨x, hx, ?_⟩
      cases hw : t_is_wrong_for (getI log.2.2.2 at_) x with
      | false => decide
      | true =>
        exfalso
        apply c1
        unfold hasB
        simp only [List.any_eq_true, List.mem_map, decide_eq_true_eq]
        first | exact ⟨_, ⟨x, hx, rfl⟩, hw⟩ | exact ⟨_, ⟨x, hx, rfl⟩, hw.symm⟩
def t_first_thing (log_0 : (SS × Int × Int × (List ((List Int) × SS)))) (at_0 : Int) (is_wrong_0 : Bool) : Int := (getI (((t_lg_possible_of log_0).filter (fun u_1 => (decide ((t_is_wrong_for (getI log_0.2.2.2 at_0) u_1) = is_wrong_0)))).map (fun u_1 => u_1)) 0)
def ST_first_thing (f : Fn) : Prop := ∀ (log_0 : (SS × Int × Int × (List ((List Int) × SS)))) (at_0 : Int) (is_wrong_0 : Bool), (ok : LogOk log_0) → (a0 : 0 ≤ at_0) → (a1 : at_0 < (log_0.2.2.2.length : Int)) → (ne : ∃ x ∈ t_lg_possible_of log_0, t_is_wrong_for (getI log_0.2.2.2 at_0) x = is_wrong_0) → ∀ h, f [(eP4 eS D.int D.int (eT (eP2 (eT D.int) eS))) log_0, D.int at_0, D.bl is_wrong_0] h = .ok (D.int (t_first_thing log_0 at_0 is_wrong_0)) h
theorem et_first_thing {fn : Fns} {i_possible_of i_is_wrong_for : Nat} (c_lg_possible_of : ST_lg_possible_of (fn i_possible_of)) (c_is_wrong_for : ST_is_wrong_for (fn i_is_wrong_for)) : ST_first_thing (bodyF 4 (first_thing_m i_possible_of i_is_wrong_for) fn) := by
  intro log_0 at_0 is_wrong_0 ok a0 a1 ne h
  have o1 := ok.m1
  have o2 := ok.m2
  have o3 := ok.l1
  have o4 := ok.l2
  have o5 := ok.rw
  refine b_ret (m := first_thing_m i_possible_of i_is_wrong_for) (V := (fun (r : Int) => (D.int r, h))) (r := t_first_thing log_0 at_0 is_wrong_0) ?_
  unfold t_first_thing first_thing_m
  show J _ fn [.val ((eP4 eS D.int D.int (eT (eP2 (eT D.int) eS))) log_0), .val (D.int at_0), .val (D.bl is_wrong_0), .no] _ _ _
  exact j_ret (d := D.int (getI (((t_lg_possible_of log_0).filter (fun u_1 => (decide ((t_is_wrong_for (getI log_0.2.2.2 at_0) u_1) = is_wrong_0)))).map (fun u_1 => u_1)) 0)) (x_op2 (xv ((eL D.int) (((t_lg_possible_of log_0).filter (fun u_1 => (decide ((t_is_wrong_for (getI log_0.2.2.2 at_0) u_1) = is_wrong_0)))).map (fun u_1 => u_1))) (x_asVal (f_compF (en := D.int) (ev := D.int) (fun u_1 => (decide ((t_is_wrong_for (getI log_0.2.2.2 at_0) u_1) = is_wrong_0))) (fun u_1 => u_1) (i_L (e := D.int) (xs := (t_lg_possible_of log_0)) (x_call (xa_cons (x_var rfl) xa_nil) xa_nil (nb_cons rfl nb_nil) nb_nil rfl rfl rfl (c_lg_possible_of log_0 (by /-first_thing 1: possible_of: pre 0-/first | assumption | omega | (dsimp only [lt] at *; omega) | (set_option maxHeartbeats 40000 in (simp; done)) | (set_option maxHeartbeats 40000 in (simp; omega)) | (set_option maxHeartbeats 40000 in (simp at *; omega)) | (set_option maxHeartbeats 40000 in (simp_all; done)) | (set_option maxHeartbeats 40000 in (simp_all; omega))) (by /-first_thing 2: possible_of: pre 1-/first | assumption | omega | (dsimp only [lt] at *; omega) | (set_option maxHeartbeats 40000 in (simp; done)) | (set_option maxHeartbeats 40000 in (simp; omega)) | (set_option maxHeartbeats 40000 in (simp at *; omega)) | (set_option maxHeartbeats 40000 in (simp_all; done)) | (set_option maxHeartbeats 40000 in (simp_all; omega))) (by /-first_thing 3: possible_of: pre 2-/first | assumption | omega | (dsimp only [lt] at *; omega) | (set_option maxHeartbeats 40000 in (simp; done)) | (set_option maxHeartbeats 40000 in (simp; omega)) | (set_option maxHeartbeats 40000 in (simp at *; omega)) | (set_option maxHeartbeats 40000 in (simp_all; done)) | (set_option maxHeartbeats 40000 in (simp_all; omega))) (by /-first_thing 4: possible_of: pre 3-/first | assumption | omega | (dsimp only [lt] at *; omega) | (set_option maxHeartbeats 40000 in (simp; done)) | (set_option maxHeartbeats 40000 in (simp; omega)) | (set_option maxHeartbeats 40000 in (simp at *; omega)) | (set_option maxHeartbeats 40000 in (simp_all; done)) | (set_option maxHeartbeats 40000 in (simp_all; omega))) (by /-first_thing 5: possible_of: pre 4-/first | assumption | omega | (dsimp only [lt] at *; omega) | (set_option maxHeartbeats 40000 in (simp; done)) | (set_option maxHeartbeats 40000 in (simp; omega)) | (set_option maxHeartbeats 40000 in (simp at *; omega)) | (set_option maxHeartbeats 40000 in (simp_all; done)) | (set_option maxHeartbeats 40000 in (simp_all; omega))) _))) (by /-first_thing 6: (t_lg_possible_of log_0).length ≤ 16777216-/have := poss_len (log := log_0); omega) rfl (fun _ => rfl) fun u_1 hu => have hu_u_1 := hu; ⟨_, (p_name rfl rfl rfl), (t_B (x_op2 (x_call (xa_cons (x_op2 (x_op2 (x_var rfl) x_c o_ixP4_3) (x_var rfl) (o_ixT (e := (eP2 (eT D.int) eS)) (xs := log_0.2.2.2) (k := at_0) (by /-first_thing 7: -log_0.2.2.2.length ≤ at_0-/first | assumption | omega | (dsimp only [lt] at *; omega) | (set_option maxHeartbeats 40000 in (simp; done)) | (set_option maxHeartbeats 40000 in (simp; omega)) | (set_option maxHeartbeats 40000 in (simp at *; omega)) | (set_option maxHeartbeats 40000 in (simp_all; done)) | (set_option maxHeartbeats 40000 in (simp_all; omega))) (by /-first_thing 8: at_0 < log_0.2.2.2.length-/first | assumption | omega | (dsimp only [lt] at *; omega) | (set_option maxHeartbeats 40000 in (simp; done)) | (set_option maxHeartbeats 40000 in (simp; omega)) | (set_option maxHeartbeats 40000 in (simp at *; omega)) | (set_option maxHeartbeats 40000 in (simp_all; done)) | (set_option maxHeartbeats 40000 in (simp_all; omega))))) (xa_cons (x_var rfl) xa_nil)) xa_nil (nb_cons rfl (nb_cons rfl nb_nil)) nb_nil rfl rfl rfl (c_is_wrong_for (getI log_0.2.2.2 at_0) u_1 _)) (x_var rfl) rfl)), fun hp => (x_var rfl)⟩))) x_c (o_ixL (e := D.int) (xs := (((t_lg_possible_of log_0).filter (fun u_1 => (decide ((t_is_wrong_for (getI log_0.2.2.2 at_0) u_1) = is_wrong_0)))).map (fun u_1 => u_1))) (k := 0) (by /-first_thing 9: -(((t_lg_possible_of log_0).filter (fun u_1 => (decide ((t_i-/obtain ⟨x, hx, hw⟩ := ne; have : x ∈ ((t_lg_possible_of log_0).filter (fun u_1 => (decide ((t_is_wrong_for (getI log_0.2.2.2 at_0) u_1) = is_wrong_0)))).map (fun u_1 => u_1) := (by rw [List.map_id']; exact List.mem_filter.mpr ⟨hx, (by rw [hw]; simp)⟩); have := List.length_pos_of_mem this; omega) (by /-first_thing 10: 0 < (((t_lg_possible_of log_0).filter (fun u_1 => (decide ((-/obtain ⟨x, hx, hw⟩ := ne; have : x ∈ ((t_lg_possible_of log_0).filter (fun u_1 => (decide ((t_is_wrong_for (getI log_0.2.2.2 at_0) u_1) = is_wrong_0)))).map (fun u_1 => u_1) := (by rw [List.map_id']; exact List.mem_filter.mpr ⟨hx, (by rw [hw]; simp)⟩); have := List.length_pos_of_mem this; omega))) rfl ⟨rfl, rfl⟩
def tr_paper_of_m (c_truth_of c_first_thing c_others_of c_barred_for : Nat) : DS := sSeq (sSet 2 (dCall c_truth_of 2 0 [.p 0, .p 1] [] (daCons (dVar 0) (daCons (dVar 1) (daNil))) (daNil))) (sSeq (sIf (dtB (dOp2 dEq (dVar 2) (dC (.str ("open" : Str))))) (sRet (dTup (daCons (dC (.str ("open" : Str))) (daCons (dCall c_first_thing 3 0 [.p 0, .p 1, .p 2] [] (daCons (dVar 0) (daCons (dVar 1) (daCons (dC (.bl false)) (daNil)))) (daNil)) (daCons (dCall c_first_thing 3 0 [.p 0, .p 1, .p 2] [] (daCons (dVar 0) (daCons (dVar 1) (daCons (dC (.bl true)) (daNil)))) (daNil)) (daNil)))))) (sNext)) (sSeq (sSet 3 (dOpN cTuple (daCons (asVal (dComp [4] (.name 4) (dItems (dCall c_others_of 3 0 [.p 0, .p 1, .p 2] [] (daCons (dVar 0) (daCons (dVar 1) (daCons (dVar 2) (daNil)))) (daNil))) (dtYes) (dCall c_barred_for 2 0 [.p 0, .p 1] [] (daCons (dVar 0) (daCons (dVar 4) (daNil))) (daNil)))) (daNil)))) (sRet (dIf (dtB (dOp2 dEq (dVar 2) (dC (.str ("none" : Str))))) (dTup (daCons (dC (.str ("none" : Str))) (daCons (dVar 3) (daNil)))) (dTup (daCons (dVar 2) (daCons (dCall c_first_thing 3 0 [.p 0, .p 1, .p 2] [] (daCons (dVar 0) (daCons (dVar 1) (daCons (dOp2 dEq (dVar 2) (dC (.str ("wrong" : Str)))) (daNil)))) (daNil)) (daCons (dVar 3) (daNil)))))))))
theorem others_len {log : LogT} {at_ : Int} {w : SS} (ok : LogOk log) : (t_others_of log at_ w).length ≤ 40 := by
  have o1 := ok.m1
  have o2 := ok.m2
  unfold t_others_of
  split
  · rw [rangeI_len]; omega
  · rw [List.length_map]
    refine Nat.le_trans (List.length_filter_le _ _) ?_
    rw [rangeI_len]; omega
theorem wrong_len {log : LogT} {x : Int} : (t_lg_wrong_of log x).length ≤ log.2.2.2.length := by
  rw [lg_wrong_n]
  exact List.countP_le_length
def t_tr_paper_of (log_0 : (SS × Int × Int × (List ((List Int) × SS)))) (at_0 : Int) : Vl := lt (t_truth_of log_0 at_0) fun word_1 => if (decide (word_1 = (lit "open"))) = true then ((toV (eP3 eS D.int D.int) ((lit "open"), (t_first_thing log_0 at_0 false), (t_first_thing log_0 at_0 true)))) else (lt ((t_others_of log_0 at_0 word_1).map (fun u_2 => (t_barred_for log_0 u_2))) fun barred_3 => (if (decide (word_1 = (lit "none"))) = true then (toV (eP2 eS (eT (eP2 D.int (eT D.int)))) ((lit "none"), barred_3)) else (toV (eP3 eS D.int (eT (eP2 D.int (eT D.int)))) (word_1, (t_first_thing log_0 at_0 (decide (word_1 = (lit "wrong")))), barred_3))))
def ST_tr_paper_of (f : Fn) : Prop := ∀ (log_0 : (SS × Int × Int × (List ((List Int) × SS)))) (at_0 : Int), (ok : LogOk log_0) → (a0 : 0 ≤ at_0) → (a1 : at_0 < (log_0.2.2.2.length : Int)) → ∀ h, f [(eP4 eS D.int D.int (eT (eP2 (eT D.int) eS))) log_0, D.int at_0] h = .ok (eV (t_tr_paper_of log_0 at_0)) h
theorem et_tr_paper_of {fn : Fns} {i_truth_of i_first_thing i_others_of i_barred_for : Nat} (c_truth_of : ST_truth_of (fn i_truth_of)) (c_first_thing : ST_first_thing (fn i_first_thing)) (c_others_of : ST_others_of (fn i_others_of)) (c_barred_for : ST_barred_for (fn i_barred_for)) : ST_tr_paper_of (bodyF 5 (tr_paper_of_m i_truth_of i_first_thing i_others_of i_barred_for) fn) := by
  intro log_0 at_0 ok a0 a1 h
  have o1 := ok.m1
  have o2 := ok.m2
  have o3 := ok.l1
  have o4 := ok.l2
  have o5 := ok.rw
  refine b_ret (m := tr_paper_of_m i_truth_of i_first_thing i_others_of i_barred_for) (V := (fun (r : Vl) => (eV r, h))) (r := t_tr_paper_of log_0 at_0) ?_
  unfold t_tr_paper_of tr_paper_of_m
  show J _ fn [.val ((eP4 eS D.int D.int (eT (eP2 (eT D.int) eS))) log_0), .val (D.int at_0), .no, .no, .no] _ _ _
  refine j_lt fun word_1 e_word_1 => ?_
  have th := truth_has e_word_1
  refine j_seq (z_set (d := eS word_1) (by rw [e_word_1]; exact (x_call (xa_cons (x_var rfl) (xa_cons (x_var rfl) xa_nil)) xa_nil (nb_cons rfl (nb_cons rfl nb_nil)) nb_nil rfl rfl rfl (c_truth_of log_0 at_0 (by /-paper_of 1: truth_of: pre 0-/first | assumption | omega | (dsimp only [lt] at *; omega) | (set_option maxHeartbeats 40000 in (simp; done)) | (set_option maxHeartbeats 40000 in (simp; omega)) | (set_option maxHeartbeats 40000 in (simp at *; omega)) | (set_option maxHeartbeats 40000 in (simp_all; done)) | (set_option maxHeartbeats 40000 in (simp_all; omega))) (by /-paper_of 2: truth_of: pre 1-/first | assumption | omega | (dsimp only [lt] at *; omega) | (set_option maxHeartbeats 40000 in (simp; done)) | (set_option maxHeartbeats 40000 in (simp; omega)) | (set_option maxHeartbeats 40000 in (simp at *; omega)) | (set_option maxHeartbeats 40000 in (simp_all; done)) | (set_option maxHeartbeats 40000 in (simp_all; omega))) (by /-paper_of 3: truth_of: pre 2-/first | assumption | omega | (dsimp only [lt] at *; omega) | (set_option maxHeartbeats 40000 in (simp; done)) | (set_option maxHeartbeats 40000 in (simp; omega)) | (set_option maxHeartbeats 40000 in (simp at *; omega)) | (set_option maxHeartbeats 40000 in (simp_all; done)) | (set_option maxHeartbeats 40000 in (simp_all; omega))) _))) rfl rfl rfl) ?_
  refine j_ifq (t_B (x_op2 (x_var rfl) (xv (eS (lit "open")) x_c) (o_eqE (e := eS) (a := word_1) (b := (lit "open")) (by decide)))) (fun hc1 => ?_) (fun hc1 => ?_)
  · skip
    refine j_re ?_
    exact j_ret (d := eV (toV (eP3 eS D.int D.int) ((lit "open"), (t_first_thing log_0 at_0 false), (t_first_thing log_0 at_0 true)))) (xv (eV (toV (eP3 eS D.int D.int) ((lit "open"), (t_first_thing log_0 at_0 false), (t_first_thing log_0 at_0 true)))) (xv ((eP3 eS D.int D.int) ((lit "open"), (t_first_thing log_0 at_0 false), (t_first_thing log_0 at_0 true))) (x_tup (xa_cons (xv (eS (lit "open")) x_c) (xa_cons (x_call (xa_cons (x_var rfl) (xa_cons (x_var rfl) (xa_cons x_c xa_nil))) xa_nil (nb_cons rfl (nb_cons rfl (nb_cons rfl nb_nil))) nb_nil rfl rfl rfl (c_first_thing log_0 at_0 false (by /-paper_of 4: first_thing: pre 0-/first | assumption | omega | (dsimp only [lt] at *; omega) | (set_option maxHeartbeats 40000 in (simp; done)) | (set_option maxHeartbeats 40000 in (simp; omega)) | (set_option maxHeartbeats 40000 in (simp at *; omega)) | (set_option maxHeartbeats 40000 in (simp_all; done)) | (set_option maxHeartbeats 40000 in (simp_all; omega))) (by /-paper_of 5: first_thing: pre 1-/first | assumption | omega | (dsimp only [lt] at *; omega) | (set_option maxHeartbeats 40000 in (simp; done)) | (set_option maxHeartbeats 40000 in (simp; omega)) | (set_option maxHeartbeats 40000 in (simp at *; omega)) | (set_option maxHeartbeats 40000 in (simp_all; done)) | (set_option maxHeartbeats 40000 in (simp_all; omega))) (by /-paper_of 6: first_thing: pre 2-/first | assumption | omega | (dsimp only [lt] at *; omega) | (set_option maxHeartbeats 40000 in (simp; done)) | (set_option maxHeartbeats 40000 in (simp; omega)) | (set_option maxHeartbeats 40000 in (simp at *; omega)) | (set_option maxHeartbeats 40000 in (simp_all; done)) | (set_option maxHeartbeats 40000 in (simp_all; omega))) (by /-paper_of 7: first_thing: pre 3-/first | assumption | omega | (dsimp only [lt] at *; omega) | (set_option maxHeartbeats 40000 in (simp; done)) | (set_option maxHeartbeats 40000 in (simp; omega)) | (set_option maxHeartbeats 40000 in (simp at *; omega)) | (set_option maxHeartbeats 40000 in (simp_all; done)) | (set_option maxHeartbeats 40000 in (simp_all; omega))) _)) (xa_cons (x_call (xa_cons (x_var rfl) (xa_cons (x_var rfl) (xa_cons x_c xa_nil))) xa_nil (nb_cons rfl (nb_cons rfl (nb_cons rfl nb_nil))) nb_nil rfl rfl rfl (c_first_thing log_0 at_0 true (by /-paper_of 8: first_thing: pre 0-/first | assumption | omega | (dsimp only [lt] at *; omega) | (set_option maxHeartbeats 40000 in (simp; done)) | (set_option maxHeartbeats 40000 in (simp; omega)) | (set_option maxHeartbeats 40000 in (simp at *; omega)) | (set_option maxHeartbeats 40000 in (simp_all; done)) | (set_option maxHeartbeats 40000 in (simp_all; omega))) (by /-paper_of 9: first_thing: pre 1-/first | assumption | omega | (dsimp only [lt] at *; omega) | (set_option maxHeartbeats 40000 in (simp; done)) | (set_option maxHeartbeats 40000 in (simp; omega)) | (set_option maxHeartbeats 40000 in (simp at *; omega)) | (set_option maxHeartbeats 40000 in (simp_all; done)) | (set_option maxHeartbeats 40000 in (simp_all; omega))) (by /-paper_of 10: first_thing: pre 2-/first | assumption | omega | (dsimp only [lt] at *; omega) | (set_option maxHeartbeats 40000 in (simp; done)) | (set_option maxHeartbeats 40000 in (simp; omega)) | (set_option maxHeartbeats 40000 in (simp at *; omega)) | (set_option maxHeartbeats 40000 in (simp_all; done)) | (set_option maxHeartbeats 40000 in (simp_all; omega))) (by /-paper_of 11: first_thing: pre 3-/first | assumption | omega | (dsimp only [lt] at *; omega) | (set_option maxHeartbeats 40000 in (simp; done)) | (set_option maxHeartbeats 40000 in (simp; omega)) | (set_option maxHeartbeats 40000 in (simp at *; omega)) | (set_option maxHeartbeats 40000 in (simp_all; done)) | (set_option maxHeartbeats 40000 in (simp_all; omega))) _)) xa_nil))) (nb_cons rfl (nb_cons rfl (nb_cons rfl nb_nil))) rfl))) (NB.nb _) ⟨rfl, rfl⟩
  · skip
    refine j_lt fun barred_3 e_barred_3 => ?_
    refine j_seq (z_set (d := (eT (eP2 D.int (eT D.int))) barred_3) (by rw [e_barred_3]; exact (x_opN (xa_cons (xv ((eL (eP2 D.int (eT D.int))) ((t_others_of log_0 at_0 word_1).map (fun u_2 => (t_barred_for log_0 u_2)))) (x_asVal (f_compM (en := D.int) (ev := (eP2 D.int (eT D.int))) (fun u_2 => (t_barred_for log_0 u_2)) (i_L (e := D.int) (xs := (t_others_of log_0 at_0 word_1)) (x_call (xa_cons (x_var rfl) (xa_cons (x_var rfl) (xa_cons (x_var rfl) xa_nil))) xa_nil (nb_cons rfl (nb_cons rfl (nb_cons rfl nb_nil))) nb_nil rfl rfl rfl (c_others_of log_0 at_0 word_1 (by /-paper_of 12: others_of: pre 0-/first | assumption | omega | (dsimp only [lt] at *; omega) | (set_option maxHeartbeats 40000 in (simp; done)) | (set_option maxHeartbeats 40000 in (simp; omega)) | (set_option maxHeartbeats 40000 in (simp at *; omega)) | (set_option maxHeartbeats 40000 in (simp_all; done)) | (set_option maxHeartbeats 40000 in (simp_all; omega))) (by /-paper_of 13: others_of: pre 1-/first | assumption | omega | (dsimp only [lt] at *; omega) | (set_option maxHeartbeats 40000 in (simp; done)) | (set_option maxHeartbeats 40000 in (simp; omega)) | (set_option maxHeartbeats 40000 in (simp at *; omega)) | (set_option maxHeartbeats 40000 in (simp_all; done)) | (set_option maxHeartbeats 40000 in (simp_all; omega))) (by /-paper_of 14: others_of: pre 2-/first | assumption | omega | (dsimp only [lt] at *; omega) | (set_option maxHeartbeats 40000 in (simp; done)) | (set_option maxHeartbeats 40000 in (simp; omega)) | (set_option maxHeartbeats 40000 in (simp at *; omega)) | (set_option maxHeartbeats 40000 in (simp_all; done)) | (set_option maxHeartbeats 40000 in (simp_all; omega))) _))) (by /-paper_of 15: (t_others_of log_0 at_0 word_1).length ≤ 16777216-/have := others_len (log := log_0) (at_ := at_0) (w := word_1) ok; omega) rfl (fun _ => rfl) fun u_2 hu => have hu_u_2 := hu; ⟨_, (p_name rfl rfl rfl), (x_call (xa_cons (x_var rfl) (xa_cons (x_var rfl) xa_nil)) xa_nil (nb_cons rfl (nb_cons rfl nb_nil)) nb_nil rfl rfl rfl (c_barred_for log_0 u_2 (by /-paper_of 16: barred_for: pre 0-/first | assumption | omega | (dsimp only [lt] at *; omega) | (set_option maxHeartbeats 40000 in (simp; done)) | (set_option maxHeartbeats 40000 in (simp; omega)) | (set_option maxHeartbeats 40000 in (simp at *; omega)) | (set_option maxHeartbeats 40000 in (simp_all; done)) | (set_option maxHeartbeats 40000 in (simp_all; omega))) _))⟩))) xa_nil) (o_tupL (e := (eP2 D.int (eT D.int)))))) rfl rfl rfl) ?_
    exact j_ret (d := eV (if (decide (word_1 = (lit "none"))) = true then (toV (eP2 eS (eT (eP2 D.int (eT D.int)))) ((lit "none"), barred_3)) else (toV (eP3 eS D.int (eT (eP2 D.int (eT D.int)))) (word_1, (t_first_thing log_0 at_0 (decide (word_1 = (lit "wrong")))), barred_3)))) (x_if (e := eV) (u := (toV (eP2 eS (eT (eP2 D.int (eT D.int)))) ((lit "none"), barred_3))) (v := (toV (eP3 eS D.int (eT (eP2 D.int (eT D.int)))) (word_1, (t_first_thing log_0 at_0 (decide (word_1 = (lit "wrong")))), barred_3))) (t_B (x_op2 (x_var rfl) (xv (eS (lit "none")) x_c) (o_eqE (e := eS) (a := word_1) (b := (lit "none")) (by decide)))) (fun hc => (xv (eV (toV (eP2 eS (eT (eP2 D.int (eT D.int)))) ((lit "none"), barred_3))) (xv ((eP2 eS (eT (eP2 D.int (eT D.int)))) ((lit "none"), barred_3)) (x_tup (xa_cons (xv (eS (lit "none")) x_c) (xa_cons (x_var rfl) xa_nil)) (nb_cons rfl (nb_cons rfl nb_nil)) rfl)))) (fun hc => (xv (eV (toV (eP3 eS D.int (eT (eP2 D.int (eT D.int)))) (word_1, (t_first_thing log_0 at_0 (decide (word_1 = (lit "wrong")))), barred_3))) (xv ((eP3 eS D.int (eT (eP2 D.int (eT D.int)))) (word_1, (t_first_thing log_0 at_0 (decide (word_1 = (lit "wrong")))), barred_3)) (x_tup (xa_cons (x_var rfl) (xa_cons (x_call (xa_cons (x_var rfl) (xa_cons (x_var rfl) (xa_cons (x_op2 (x_var rfl) (xv (eS (lit "wrong")) x_c) (o_eqE (e := eS) (a := word_1) (b := (lit "wrong")) (by decide))) xa_nil))) xa_nil (nb_cons rfl (nb_cons rfl (nb_cons rfl nb_nil))) nb_nil rfl rfl rfl (c_first_thing log_0 at_0 (decide (word_1 = (lit "wrong"))) (by /-paper_of 17: first_thing: pre 0-/first | assumption | omega | (dsimp only [lt] at *; omega) | (set_option maxHeartbeats 40000 in (simp; done)) | (set_option maxHeartbeats 40000 in (simp; omega)) | (set_option maxHeartbeats 40000 in (simp at *; omega)) | (set_option maxHeartbeats 40000 in (simp_all; done)) | (set_option maxHeartbeats 40000 in (simp_all; omega))) (by /-paper_of 18: first_thing: pre 1-/first | assumption | omega | (dsimp only [lt] at *; omega) | (set_option maxHeartbeats 40000 in (simp; done)) | (set_option maxHeartbeats 40000 in (simp; omega)) | (set_option maxHeartbeats 40000 in (simp at *; omega)) | (set_option maxHeartbeats 40000 in (simp_all; done)) | (set_option maxHeartbeats 40000 in (simp_all; omega))) (by /-paper_of 19: first_thing: pre 2-/first | assumption | omega | (dsimp only [lt] at *; omega) | (set_option maxHeartbeats 40000 in (simp; done)) | (set_option maxHeartbeats 40000 in (simp; omega)) | (set_option maxHeartbeats 40000 in (simp at *; omega)) | (set_option maxHeartbeats 40000 in (simp_all; done)) | (set_option maxHeartbeats 40000 in (simp_all; omega))) (by /-paper_of 20: first_thing: pre 3-/first | assumption | omega | (dsimp only [lt] at *; omega) | (set_option maxHeartbeats 40000 in (simp; done)) | (set_option maxHeartbeats 40000 in (simp; omega)) | (set_option maxHeartbeats 40000 in (simp at *; omega)) | (set_option maxHeartbeats 40000 in (simp_all; done)) | (set_option maxHeartbeats 40000 in (simp_all; omega))) _)) (xa_cons (x_var rfl) xa_nil))) (nb_cons rfl (nb_cons rfl (nb_cons rfl nb_nil))) rfl))))) (NB.nb _) ⟨rfl, rfl⟩
def is_bar_for_m (c_is_row c_is_below c_is_rising c_is_wrong_for : Nat) : DS := sSeq (sIf (dtOr (dtNot (dTruE (dCall c_is_row 2 0 [.p 0, .p 1] [] (daCons (dVar 2) (daCons (dC (.int 2)) (daNil))) (daNil)))) (dtOr (dtNot (dTruE (dCall c_is_below 2 0 [.p 0, .p 1] [] (daCons (dOp2 dIx (dVar 2) (dC (.int 0))) (daCons (dOp2 dIx (dVar 0) (dC (.int 1))) (daNil))) (daNil)))) (dtOr (dtB (dOp2 dNe (dOp2 dIx (dVar 2) (dC (.int 0))) (dVar 1))) (dtNot (dTruE (dCall c_is_row 2 0 [.p 0, .p 1] [] (daCons (dOp2 dIx (dVar 2) (dC (.int 1))) (daCons (dOp2 dAdd (dOp2 dIx (dVar 0) (dC (.int 2))) (dC (.int 1))) (daNil))) (daNil))))))) (sRet (dC (.bl false))) (sNext)) (sSeq (sIf (dtOr (dtNot (dTruE (dOpN cAll (daCons (asVal (dComp [3] (.name 3) (dItems (dOp2 dIx (dVar 2) (dC (.int 1)))) (dtYes) (dCall c_is_below 2 0 [.p 0, .p 1] [] (daCons (dVar 3) (daCons (dOpN cLen (daCons (dOp2 dIx (dVar 0) (dC (.int 3))) (daNil))) (daNil))) (daNil)))) (daNil))))) (dtNot (dTruE (dCall c_is_rising 1 0 [.p 0] [] (daCons (dOp2 dIx (dVar 2) (dC (.int 1))) (daNil)) (daNil))))) (sRet (dC (.bl false))) (sNext)) (sRet (dOpN cAll (daCons (asVal (dComp [3] (.name 3) (dItems (dOp2 dIx (dVar 2) (dC (.int 1)))) (dtYes) (dCall c_is_wrong_for 2 0 [.p 0, .p 1] [] (daCons (dOp2 dIx (dOp2 dIx (dVar 0) (dC (.int 3))) (dVar 3)) (daCons (dVar 1) (daNil))) (daNil)))) (daNil)))))
def t_is_bar_for (log_0 : (SS × Int × Int × (List ((List Int) × SS)))) (thing_0 : Int) (value_0 : Vl) : Bool := if ((!(t_is_row value_0 2)) || ((!(t_is_below (getI (vEs value_0) 0) log_0.2.1)) || ((!decide ((ofV D.int (getI (vEs value_0) 0)) = thing_0)) || (!(t_is_row (getI (vEs value_0) 1) (log_0.2.2.1 + 1)))))) = true then (false) else (if ((!((vEs (getI (vEs value_0) 1)).all (fun u_1 => (t_is_below u_1 (log_0.2.2.2.length : Int))))) || (!(t_is_rising (ofV (eT D.int) (getI (vEs value_0) 1))))) = true then (false) else (((vEs (getI (vEs value_0) 1)).all (fun u_2 => (t_is_wrong_for (getI log_0.2.2.2 (ofV D.int u_2)) thing_0)))))
def ST_is_bar_for (f : Fn) : Prop := ∀ (log_0 : (SS × Int × Int × (List ((List Int) × SS)))) (thing_0 : Int) (value_0 : Vl), (ok : LogOk log_0) → ∀ h, f [(eP4 eS D.int D.int (eT (eP2 (eT D.int) eS))) log_0, D.int thing_0, eV value_0] h = .ok (D.bl (t_is_bar_for log_0 thing_0 value_0)) h
theorem et_is_bar_for {fn : Fns} {i_is_row i_is_below i_is_rising i_is_wrong_for : Nat} (c_is_row : ST_is_row (fn i_is_row)) (c_is_below : ST_is_below (fn i_is_below)) (c_is_rising : ST_is_rising (fn i_is_rising)) (c_is_wrong_for : ST_is_wrong_for (fn i_is_wrong_for)) : ST_is_bar_for (bodyF 4 (is_bar_for_m i_is_row i_is_below i_is_rising i_is_wrong_for) fn) := by
  intro log_0 thing_0 value_0 ok h
  have o1 := ok.m1
  have o2 := ok.m2
  have o3 := ok.l1
  have o4 := ok.l2
  have o5 := ok.rw
  refine b_ret (m := is_bar_for_m i_is_row i_is_below i_is_rising i_is_wrong_for) (V := (fun (r : Bool) => (D.bl r, h))) (r := t_is_bar_for log_0 thing_0 value_0) ?_
  unfold t_is_bar_for is_bar_for_m
  show J _ fn [.val ((eP4 eS D.int D.int (eT (eP2 (eT D.int) eS))) log_0), .val (D.int thing_0), .val (eV value_0), .no] _ _ _
  refine j_ifq (t_or (t_not (t_tru (x_call (xa_cons (x_var rfl) (xa_cons x_c xa_nil)) xa_nil (nb_cons (NB.nb _) (nb_cons rfl nb_nil)) nb_nil rfl rfl rfl (c_is_row value_0 2 _)) tr_bl)) fun hc => (t_or (t_not (t_tru (x_call (xa_cons (x_op2 (x_var rfl) x_c (o_ixV (v := value_0) (k := 0) (by /-is_bar_for 1: vSq value_0 = true-/first | assumption | omega | (set_option maxHeartbeats 400000 in (simp_all [row_v, list_v, count_v, below_v, integer_v, isV_int, isV_bl, vSq_T]; done)) | (set_option maxHeartbeats 400000 in (simp_all [row_v, list_v, count_v, below_v, integer_v, isV_int, isV_bl, vSq_T]; omega))) (by /-is_bar_for 2: -(vEs value_0).length ≤ 0-/first | assumption | omega | (set_option maxHeartbeats 400000 in (simp_all [row_v, list_v, count_v, below_v, integer_v, isV_int, isV_bl, vSq_T]; done)) | (set_option maxHeartbeats 400000 in (simp_all [row_v, list_v, count_v, below_v, integer_v, isV_int, isV_bl, vSq_T]; omega))) (by /-is_bar_for 3: 0 < (vEs value_0).length-/first | assumption | omega | (set_option maxHeartbeats 400000 in (simp_all [row_v, list_v, count_v, below_v, integer_v, isV_int, isV_bl, vSq_T]; done)) | (set_option maxHeartbeats 400000 in (simp_all [row_v, list_v, count_v, below_v, integer_v, isV_int, isV_bl, vSq_T]; omega))))) (xa_cons (x_op2 (x_var rfl) x_c o_ixP4_1) xa_nil)) xa_nil (nb_cons (NB.nb _) (nb_cons rfl nb_nil)) nb_nil rfl rfl rfl (c_is_below (getI (vEs value_0) 0) log_0.2.1 _)) tr_bl)) fun hc => (t_or (t_B (x_op2 (x_ofV (e := D.int) (v := (getI (vEs value_0) 0)) (by /-is_bar_for 7: isV D.int (getI (vEs value_0) 0) = true-/first | assumption | omega | (set_option maxHeartbeats 400000 in (simp_all [row_v, list_v, count_v, below_v, integer_v, isV_int, isV_bl, vSq_T]; done)) | (set_option maxHeartbeats 400000 in (simp_all [row_v, list_v, count_v, below_v, integer_v, isV_int, isV_bl, vSq_T]; omega))) (x_op2 (x_var rfl) x_c (o_ixV (v := value_0) (k := 0) (by /-is_bar_for 4: vSq value_0 = true-/first | assumption | omega | (set_option maxHeartbeats 400000 in (simp_all [row_v, list_v, count_v, below_v, integer_v, isV_int, isV_bl, vSq_T]; done)) | (set_option maxHeartbeats 400000 in (simp_all [row_v, list_v, count_v, below_v, integer_v, isV_int, isV_bl, vSq_T]; omega))) (by /-is_bar_for 5: -(vEs value_0).length ≤ 0-/first | assumption | omega | (set_option maxHeartbeats 400000 in (simp_all [row_v, list_v, count_v, below_v, integer_v, isV_int, isV_bl, vSq_T]; done)) | (set_option maxHeartbeats 400000 in (simp_all [row_v, list_v, count_v, below_v, integer_v, isV_int, isV_bl, vSq_T]; omega))) (by /-is_bar_for 6: 0 < (vEs value_0).length-/first | assumption | omega | (set_option maxHeartbeats 400000 in (simp_all [row_v, list_v, count_v, below_v, integer_v, isV_int, isV_bl, vSq_T]; done)) | (set_option maxHeartbeats 400000 in (simp_all [row_v, list_v, count_v, below_v, integer_v, isV_int, isV_bl, vSq_T]; omega)))))) (x_var rfl) rfl)) fun hc => (t_not (t_tru (x_call (xa_cons (x_op2 (x_var rfl) x_c (o_ixV (v := value_0) (k := 1) (by /-is_bar_for 8: vSq value_0 = true-/first | assumption | omega | (set_option maxHeartbeats 400000 in (simp_all [row_v, list_v, count_v, below_v, integer_v, isV_int, isV_bl, vSq_T]; done)) | (set_option maxHeartbeats 400000 in (simp_all [row_v, list_v, count_v, below_v, integer_v, isV_int, isV_bl, vSq_T]; omega))) (by /-is_bar_for 9: -(vEs value_0).length ≤ 1-/first | assumption | omega | (set_option maxHeartbeats 400000 in (simp_all [row_v, list_v, count_v, below_v, integer_v, isV_int, isV_bl, vSq_T]; done)) | (set_option maxHeartbeats 400000 in (simp_all [row_v, list_v, count_v, below_v, integer_v, isV_int, isV_bl, vSq_T]; omega))) (by /-is_bar_for 10: 1 < (vEs value_0).length-/first | assumption | omega | (set_option maxHeartbeats 400000 in (simp_all [row_v, list_v, count_v, below_v, integer_v, isV_int, isV_bl, vSq_T]; done)) | (set_option maxHeartbeats 400000 in (simp_all [row_v, list_v, count_v, below_v, integer_v, isV_int, isV_bl, vSq_T]; omega))))) (xa_cons (x_op2 (x_op2 (x_var rfl) x_c o_ixP4_2) x_c rfl) xa_nil)) xa_nil (nb_cons (NB.nb _) (nb_cons rfl nb_nil)) nb_nil rfl rfl rfl (c_is_row (getI (vEs value_0) 1) (log_0.2.2.1 + 1) _)) tr_bl))))) (fun hc1 => ?_) (fun hc1 => ?_)
  · skip
    refine j_re ?_
    exact j_ret (d := D.bl false) x_c rfl ⟨rfl, rfl⟩
  · skip
    refine j_ifq (t_or (t_not (t_tru (x_opN (xa_cons (xv (eL D.bl ((vEs (getI (vEs value_0) 1)).map (fun u_1 => (t_is_below u_1 (log_0.2.2.2.length : Int))))) (x_asVal (f_compM (en := eV) (ev := D.bl) (fun u_1 => (t_is_below u_1 (log_0.2.2.2.length : Int))) (i_V (v := (getI (vEs value_0) 1)) (x_op2 (x_var rfl) x_c (o_ixV (v := value_0) (k := 1) (by /-is_bar_for 11: vSq value_0 = true-/first | assumption | omega | (set_option maxHeartbeats 400000 in (simp_all [row_v, list_v, count_v, below_v, integer_v, isV_int, isV_bl, vSq_T]; done)) | (set_option maxHeartbeats 400000 in (simp_all [row_v, list_v, count_v, below_v, integer_v, isV_int, isV_bl, vSq_T]; omega))) (by /-is_bar_for 12: -(vEs value_0).length ≤ 1-/first | assumption | omega | (set_option maxHeartbeats 400000 in (simp_all [row_v, list_v, count_v, below_v, integer_v, isV_int, isV_bl, vSq_T]; done)) | (set_option maxHeartbeats 400000 in (simp_all [row_v, list_v, count_v, below_v, integer_v, isV_int, isV_bl, vSq_T]; omega))) (by /-is_bar_for 13: 1 < (vEs value_0).length-/first | assumption | omega | (set_option maxHeartbeats 400000 in (simp_all [row_v, list_v, count_v, below_v, integer_v, isV_int, isV_bl, vSq_T]; done)) | (set_option maxHeartbeats 400000 in (simp_all [row_v, list_v, count_v, below_v, integer_v, isV_int, isV_bl, vSq_T]; omega))))) (by /-is_bar_for 14: vSq (getI (vEs value_0) 1) = true-/first | assumption | omega | (set_option maxHeartbeats 400000 in (simp_all [row_v, list_v, count_v, below_v, integer_v, isV_int, isV_bl, vSq_T]; done)) | (set_option maxHeartbeats 400000 in (simp_all [row_v, list_v, count_v, below_v, integer_v, isV_int, isV_bl, vSq_T]; omega)))) (by /-is_bar_for 15: (vEs (getI (vEs value_0) 1)).length ≤ 16777216-/first | assumption | omega | (set_option maxHeartbeats 400000 in (simp_all [row_v, list_v, count_v, below_v, integer_v, isV_int, isV_bl, vSq_T]; done)) | (set_option maxHeartbeats 400000 in (simp_all [row_v, list_v, count_v, below_v, integer_v, isV_int, isV_bl, vSq_T]; omega))) rfl (fun _ => rfl) fun u_1 hu => have hu_u_1 := hu; ⟨_, (p_name (NB.nb _) rfl rfl), (x_call (xa_cons (x_var rfl) (xa_cons (x_opN (xa_cons (x_op2 (x_var rfl) x_c o_ixP4_3) xa_nil) (o_lenT (e := (eP2 (eT D.int) eS)))) xa_nil)) xa_nil (nb_cons (NB.nb _) (nb_cons rfl nb_nil)) nb_nil rfl rfl rfl (c_is_below u_1 (log_0.2.2.2.length : Int) _))⟩))) xa_nil) (o_allM (f := (fun u_1 => (t_is_below u_1 (log_0.2.2.2.length : Int)))) (xs := (vEs (getI (vEs value_0) 1))))) tr_bl)) fun hc => (t_not (t_tru (x_call (xa_cons (x_ofV (e := (eT D.int)) (v := (getI (vEs value_0) 1)) (by /-is_bar_for 19: isV (eT D.int) (getI (vEs value_0) 1) = true-/have hz := hc1; simp only [Bool.or_eq_false_iff, Bool.not_eq_false'] at hz; have hy := (by assumption : (!((vEs (getI (vEs value_0) 1)).all (fun u_1 => (t_is_below u_1 (log_0.2.2.2.length : Int))))) = false); rw [Bool.not_eq_false'] at hy; exact (rows_V hz.2.2.2 hy).1) (x_op2 (x_var rfl) x_c (o_ixV (v := value_0) (k := 1) (by /-is_bar_for 16: vSq value_0 = true-/first | assumption | omega | (set_option maxHeartbeats 400000 in (simp_all [row_v, list_v, count_v, below_v, integer_v, isV_int, isV_bl, vSq_T]; done)) | (set_option maxHeartbeats 400000 in (simp_all [row_v, list_v, count_v, below_v, integer_v, isV_int, isV_bl, vSq_T]; omega))) (by /-is_bar_for 17: -(vEs value_0).length ≤ 1-/first | assumption | omega | (set_option maxHeartbeats 400000 in (simp_all [row_v, list_v, count_v, below_v, integer_v, isV_int, isV_bl, vSq_T]; done)) | (set_option maxHeartbeats 400000 in (simp_all [row_v, list_v, count_v, below_v, integer_v, isV_int, isV_bl, vSq_T]; omega))) (by /-is_bar_for 18: 1 < (vEs value_0).length-/first | assumption | omega | (set_option maxHeartbeats 400000 in (simp_all [row_v, list_v, count_v, below_v, integer_v, isV_int, isV_bl, vSq_T]; done)) | (set_option maxHeartbeats 400000 in (simp_all [row_v, list_v, count_v, below_v, integer_v, isV_int, isV_bl, vSq_T]; omega)))))) xa_nil) xa_nil (nb_cons rfl nb_nil) nb_nil rfl rfl rfl (c_is_rising (ofV (eT D.int) (getI (vEs value_0) 1)) (by /-is_bar_for 20: is_rising: pre 0-/have hz := hc1; simp only [Bool.or_eq_false_iff, Bool.not_eq_false'] at hz; have hy := (by assumption : (!((vEs (getI (vEs value_0) 1)).all (fun u_1 => (t_is_below u_1 (log_0.2.2.2.length : Int))))) = false); rw [Bool.not_eq_false'] at hy; have := (rows_V hz.2.2.2 hy).2.1; omega) _)) tr_bl))) (fun hc2 => ?_) (fun hc2 => ?_)
    · skip
      refine j_re ?_
      exact j_ret (d := D.bl false) x_c rfl ⟨rfl, rfl⟩
    · skip
      exact j_ret (d := D.bl ((vEs (getI (vEs value_0) 1)).all (fun u_2 => (t_is_wrong_for (getI log_0.2.2.2 (ofV D.int u_2)) thing_0)))) (x_opN (xa_cons (xv (eL D.bl ((vEs (getI (vEs value_0) 1)).map (fun u_2 => (t_is_wrong_for (getI log_0.2.2.2 (ofV D.int u_2)) thing_0)))) (x_asVal (f_compM (en := eV) (ev := D.bl) (fun u_2 => (t_is_wrong_for (getI log_0.2.2.2 (ofV D.int u_2)) thing_0)) (i_V (v := (getI (vEs value_0) 1)) (x_op2 (x_var rfl) x_c (o_ixV (v := value_0) (k := 1) (by /-is_bar_for 21: vSq value_0 = true-/first | assumption | omega | (set_option maxHeartbeats 400000 in (simp_all [row_v, list_v, count_v, below_v, integer_v, isV_int, isV_bl, vSq_T]; done)) | (set_option maxHeartbeats 400000 in (simp_all [row_v, list_v, count_v, below_v, integer_v, isV_int, isV_bl, vSq_T]; omega))) (by /-is_bar_for 22: -(vEs value_0).length ≤ 1-/first | assumption | omega | (set_option maxHeartbeats 400000 in (simp_all [row_v, list_v, count_v, below_v, integer_v, isV_int, isV_bl, vSq_T]; done)) | (set_option maxHeartbeats 400000 in (simp_all [row_v, list_v, count_v, below_v, integer_v, isV_int, isV_bl, vSq_T]; omega))) (by /-is_bar_for 23: 1 < (vEs value_0).length-/first | assumption | omega | (set_option maxHeartbeats 400000 in (simp_all [row_v, list_v, count_v, below_v, integer_v, isV_int, isV_bl, vSq_T]; done)) | (set_option maxHeartbeats 400000 in (simp_all [row_v, list_v, count_v, below_v, integer_v, isV_int, isV_bl, vSq_T]; omega))))) (by /-is_bar_for 24: vSq (getI (vEs value_0) 1) = true-/first | assumption | omega | (set_option maxHeartbeats 400000 in (simp_all [row_v, list_v, count_v, below_v, integer_v, isV_int, isV_bl, vSq_T]; done)) | (set_option maxHeartbeats 400000 in (simp_all [row_v, list_v, count_v, below_v, integer_v, isV_int, isV_bl, vSq_T]; omega)))) (by /-is_bar_for 25: (vEs (getI (vEs value_0) 1)).length ≤ 16777216-/first | assumption | omega | (set_option maxHeartbeats 400000 in (simp_all [row_v, list_v, count_v, below_v, integer_v, isV_int, isV_bl, vSq_T]; done)) | (set_option maxHeartbeats 400000 in (simp_all [row_v, list_v, count_v, below_v, integer_v, isV_int, isV_bl, vSq_T]; omega))) rfl (fun _ => rfl) fun u_2 hu => have hu_u_2 := hu; ⟨_, (p_name (NB.nb _) rfl rfl), (x_call (xa_cons (x_op2 (x_op2 (x_var rfl) x_c o_ixP4_3) (x_ofV (e := D.int) (v := u_2) (by /-is_bar_for 26: isV D.int u_2 = true-/first | assumption | omega | (set_option maxHeartbeats 400000 in (simp_all [row_v, list_v, count_v, below_v, integer_v, isV_int, isV_bl, vSq_T]; done)) | (set_option maxHeartbeats 400000 in (simp_all [row_v, list_v, count_v, below_v, integer_v, isV_int, isV_bl, vSq_T]; omega))) (x_var rfl)) (o_ixT (e := (eP2 (eT D.int) eS)) (xs := log_0.2.2.2) (k := (ofV D.int u_2)) (by /-is_bar_for 27: -log_0.2.2.2.length ≤ (ofV D.int u_2)-/have hz := hc1; simp only [Bool.or_eq_false_iff, Bool.not_eq_false'] at hz; have hy := hc2; simp only [Bool.or_eq_false_iff, Bool.not_eq_false'] at hy; have := ((rows_V hz.2.2.2 hy.1).2.2.2 u_2 hu_u_2).2; omega) (by /-is_bar_for 28: (ofV D.int u_2) < log_0.2.2.2.length-/have hz := hc1; simp only [Bool.or_eq_false_iff, Bool.not_eq_false'] at hz; have hy := hc2; simp only [Bool.or_eq_false_iff, Bool.not_eq_false'] at hy; have := ((rows_V hz.2.2.2 hy.1).2.2.2 u_2 hu_u_2).2; omega))) (xa_cons (x_var rfl) xa_nil)) xa_nil (nb_cons rfl (nb_cons rfl nb_nil)) nb_nil rfl rfl rfl (c_is_wrong_for (getI log_0.2.2.2 (ofV D.int u_2)) thing_0 _))⟩))) xa_nil) (o_allM (f := (fun u_2 => (t_is_wrong_for (getI log_0.2.2.2 (ofV D.int u_2)) thing_0))) (xs := (vEs (getI (vEs value_0) 1))))) rfl ⟨rfl, rfl⟩
def are_bars_m (c_is_row c_is_bar_for : Nat) : DS := sSeq (sIf (dtNot (dTruE (dCall c_is_row 2 0 [.p 0, .p 1] [] (daCons (dVar 2) (daCons (dOpN cLen (daCons (dVar 1) (daNil))) (daNil))) (daNil)))) (sRet (dC (.bl false))) (sNext)) (sRet (dOpN cAll (daCons (asVal (dComp [3, 4] (.tup [.name 3, .name 4]) (dZipX (daCons (dVar 1) (daCons (dVar 2) (daNil)))) (dtYes) (dCall c_is_bar_for 3 0 [.p 0, .p 1, .p 2] [] (daCons (dVar 0) (daCons (dVar 3) (daCons (dVar 4) (daNil)))) (daNil)))) (daNil))))
def t_are_bars (log_0 : (SS × Int × Int × (List ((List Int) × SS)))) (things_0 : (List Int)) (value_0 : Vl) : Bool := if (!(t_is_row value_0 (things_0.length : Int))) = true then (false) else (((things_0.zip (vEs value_0)).all (fun u_1 => (t_is_bar_for log_0 u_1.1 u_1.2))))
def ST_are_bars (f : Fn) : Prop := ∀ (log_0 : (SS × Int × Int × (List ((List Int) × SS)))) (things_0 : (List Int)) (value_0 : Vl), (ok : LogOk log_0) → (tl : things_0.length ≤ 1000) → ∀ h, f [(eP4 eS D.int D.int (eT (eP2 (eT D.int) eS))) log_0, (eL D.int) things_0, eV value_0] h = .ok (D.bl (t_are_bars log_0 things_0 value_0)) h
theorem et_are_bars {fn : Fns} {i_is_row i_is_bar_for : Nat} (c_is_row : ST_is_row (fn i_is_row)) (c_is_bar_for : ST_is_bar_for (fn i_is_bar_for)) : ST_are_bars (bodyF 5 (are_bars_m i_is_row i_is_bar_for) fn) := by
  intro log_0 things_0 value_0 ok tl h
  have o1 := ok.m1
  have o2 := ok.m2
  have o3 := ok.l1
  have o4 := ok.l2
  have o5 := ok.rw
  refine b_ret (m := are_bars_m i_is_row i_is_bar_for) (V := (fun (r : Bool) => (D.bl r, h))) (r := t_are_bars log_0 things_0 value_0) ?_
  unfold t_are_bars are_bars_m
  show J _ fn [.val ((eP4 eS D.int D.int (eT (eP2 (eT D.int) eS))) log_0), .val ((eL D.int) things_0), .val (eV value_0), .no, .no] _ _ _
  refine j_ifq (t_not (t_tru (x_call (xa_cons (x_var rfl) (xa_cons (x_opN (xa_cons (x_var rfl) xa_nil) (o_lenL (e := D.int))) xa_nil)) xa_nil (nb_cons (NB.nb _) (nb_cons rfl nb_nil)) nb_nil rfl rfl rfl (c_is_row value_0 (things_0.length : Int) _)) tr_bl)) (fun hc1 => ?_) (fun hc1 => ?_)
  · skip
    refine j_re ?_
    exact j_ret (d := D.bl false) x_c rfl ⟨rfl, rfl⟩
  · skip
    exact j_ret (d := D.bl ((things_0.zip (vEs value_0)).all (fun u_1 => (t_is_bar_for log_0 u_1.1 u_1.2)))) (x_opN (xa_cons (xv (eL D.bl ((things_0.zip (vEs value_0)).map (fun u_1 => (t_is_bar_for log_0 u_1.1 u_1.2)))) (x_asVal (f_compM (en := (eP2 D.int eV)) (ev := D.bl) (fun u_1 => (t_is_bar_for log_0 u_1.1 u_1.2)) (i_zip (e := D.int) (e' := eV) (xs := things_0) (ys := (vEs value_0)) (xa_cons (x_var rfl) (xa_cons (x_vT (v := value_0) (by /-are_bars 1: vT value_0 = true-/first | assumption | omega | (set_option maxHeartbeats 400000 in (simp_all [row_v, list_v, count_v, below_v, integer_v, isV_int, isV_bl, vSq_T]; done)) | (set_option maxHeartbeats 400000 in (simp_all [row_v, list_v, count_v, below_v, integer_v, isV_int, isV_bl, vSq_T]; omega))) (x_var rfl)) xa_nil)) rfl rfl) (by /-are_bars 2: (things_0.zip (vEs value_0)).length ≤ 16777216-/rw [List.length_zip]; have := (by assumption : (!t_is_row value_0 (things_0.length : Int)) = false); omega) rfl (fun _ => rfl) fun u_1 hu => have hu_u_1 := hu; have hr := mem_zip hu; ⟨_, (p_tup rfl (p_cons (p_name rfl rfl rfl) (p_cons (p_name (NB.nb _) rfl rfl) p_nil))), (x_call (xa_cons (x_var rfl) (xa_cons (x_var rfl) (xa_cons (x_var rfl) xa_nil))) xa_nil (nb_cons rfl (nb_cons rfl (nb_cons (NB.nb _) nb_nil))) nb_nil rfl rfl rfl (c_is_bar_for log_0 u_1.1 u_1.2 (by /-are_bars 3: is_bar_for: pre 0-/first | assumption | omega | (dsimp only [lt] at *; omega) | (set_option maxHeartbeats 40000 in (simp; done)) | (set_option maxHeartbeats 40000 in (simp; omega)) | (set_option maxHeartbeats 40000 in (simp at *; omega)) | (set_option maxHeartbeats 40000 in (simp_all; done)) | (set_option maxHeartbeats 40000 in (simp_all; omega))) _))⟩))) xa_nil) (o_allM (f := (fun u_1 => (t_is_bar_for log_0 u_1.1 u_1.2))) (xs := (things_0.zip (vEs value_0))))) rfl ⟨rfl, rfl⟩
def is_possible_in_m (c_is_below c_wrong_of : Nat) : DS := sRet (dAnd (dCall c_is_below 2 0 [.p 0, .p 1] [] (daCons (dVar 1) (daCons (dOp2 dIx (dVar 0) (dC (.int 1))) (daNil))) (daNil)) (dOp2 dLe (dOpN cLen (daCons (dCall c_wrong_of 2 0 [.p 0, .p 1] [] (daCons (dVar 0) (daCons (dVar 1) (daNil))) (daNil)) (daNil))) (dOp2 dIx (dVar 0) (dC (.int 2)))))
def t_is_possible_in (log_0 : (SS × Int × Int × (List ((List Int) × SS)))) (value_0 : Vl) : Bool := ((t_is_below value_0 log_0.2.1) && (decide (((t_lg_wrong_of log_0 (ofV D.int value_0)).length : Int) ≤ log_0.2.2.1)))
def ST_is_possible_in (f : Fn) : Prop := ∀ (log_0 : (SS × Int × Int × (List ((List Int) × SS)))) (value_0 : Vl), (ok : LogOk log_0) → ∀ h, f [(eP4 eS D.int D.int (eT (eP2 (eT D.int) eS))) log_0, eV value_0] h = .ok (D.bl (t_is_possible_in log_0 value_0)) h
theorem et_is_possible_in {fn : Fns} {i_is_below i_wrong_of : Nat} (c_is_below : ST_is_below (fn i_is_below)) (c_lg_wrong_of : ST_lg_wrong_of (fn i_wrong_of)) : ST_is_possible_in (bodyF 2 (is_possible_in_m i_is_below i_wrong_of) fn) := by
  intro log_0 value_0 ok h
  have o1 := ok.m1
  have o2 := ok.m2
  have o3 := ok.l1
  have o4 := ok.l2
  have o5 := ok.rw
  refine b_ret (m := is_possible_in_m i_is_below i_wrong_of) (V := (fun (r : Bool) => (D.bl r, h))) (r := t_is_possible_in log_0 value_0) ?_
  unfold t_is_possible_in is_possible_in_m
  show J _ fn [.val ((eP4 eS D.int D.int (eT (eP2 (eT D.int) eS))) log_0), .val (eV value_0)] _ _ _
  exact j_ret (d := D.bl ((t_is_below value_0 log_0.2.1) && (decide (((t_lg_wrong_of log_0 (ofV D.int value_0)).length : Int) ≤ log_0.2.2.1)))) (x_and (x_call (xa_cons (x_var rfl) (xa_cons (x_op2 (x_var rfl) x_c o_ixP4_1) xa_nil)) xa_nil (nb_cons (NB.nb _) (nb_cons rfl nb_nil)) nb_nil rfl rfl rfl (c_is_below value_0 log_0.2.1 _)) fun hc => (x_op2 (x_opN (xa_cons (x_call (xa_cons (x_var rfl) (xa_cons (x_ofV (e := D.int) (v := value_0) (by /-is_possible_in 1: isV D.int value_0 = true-/first | assumption | omega | (set_option maxHeartbeats 400000 in (simp_all [row_v, list_v, count_v, below_v, integer_v, isV_int, isV_bl, vSq_T]; done)) | (set_option maxHeartbeats 400000 in (simp_all [row_v, list_v, count_v, below_v, integer_v, isV_int, isV_bl, vSq_T]; omega))) (x_var rfl)) xa_nil)) xa_nil (nb_cons rfl (nb_cons rfl nb_nil)) nb_nil rfl rfl rfl (c_lg_wrong_of log_0 (ofV D.int value_0) (by /-is_possible_in 2: wrong_of: pre 0-/first | assumption | omega | (dsimp only [lt] at *; omega) | (set_option maxHeartbeats 40000 in (simp; done)) | (set_option maxHeartbeats 40000 in (simp; omega)) | (set_option maxHeartbeats 40000 in (simp at *; omega)) | (set_option maxHeartbeats 40000 in (simp_all; done)) | (set_option maxHeartbeats 40000 in (simp_all; omega))) _)) xa_nil) (o_lenT (e := D.int))) (x_op2 (x_var rfl) x_c o_ixP4_2) rfl)) rfl ⟨rfl, rfl⟩
def tr_is_paper_of_m (c_are_bars c_others_of c_is_possible_in c_is_wrong_for : Nat) : DS := sSeq (sIf (dtOr (dtNot (dTruE (dIsi (dVar 2) [.tup]))) (dtOr (dtB (dOp2 dNotIn (dOpN cLen (daCons (dVar 2) (daNil))) (dTup (daCons (dC (.int 2)) (daCons (dC (.int 3)) (daNil)))))) (dtNot (dTruE (dIsi (dOp2 dIx (dVar 2) (dC (.int 0))) [.str]))))) (sRet (dC (.bl false))) (sNext)) (sSeq (sIf (dtB (dOp2 dEq (dOp2 dIx (dVar 2) (dC (.int 0))) (dC (.str ("none" : Str))))) (sRet (dAnd (dOp2 dEq (dOpN cLen (daCons (dVar 2) (daNil))) (dC (.int 2))) (dCall c_are_bars 3 0 [.p 0, .p 1, .p 2] [] (daCons (dVar 0) (daCons (dCall c_others_of 3 0 [.p 0, .p 1, .p 2] [] (daCons (dVar 0) (daCons (dVar 1) (daCons (dC (.str ("none" : Str))) (daNil)))) (daNil)) (daCons (dOp2 dIx (dVar 2) (dC (.int 1))) (daNil)))) (daNil)))) (sNext)) (sSeq (sIf (dtOr (dtB (dOp2 dNe (dOpN cLen (daCons (dVar 2) (daNil))) (dC (.int 3)))) (dtOr (dtB (dOp2 dNotIn (dOp2 dIx (dVar 2) (dC (.int 0))) (dTup (daCons (dC (.str ("right" : Str))) (daCons (dC (.str ("wrong" : Str))) (daCons (dC (.str ("open" : Str))) (daNil))))))) (dtNot (dTruE (dCall c_is_possible_in 2 0 [.p 0, .p 1] [] (daCons (dVar 0) (daCons (dOp2 dIx (dVar 2) (dC (.int 1))) (daNil))) (daNil)))))) (sRet (dC (.bl false))) (sNext)) (sSeq (sIf (dtB (dOp2 dEq (dOp2 dIx (dVar 2) (dC (.int 0))) (dC (.str ("open" : Str))))) (sSeq (sIf (dtOr (dtNot (dTruE (dCall c_is_possible_in 2 0 [.p 0, .p 1] [] (daCons (dVar 0) (daCons (dOp2 dIx (dVar 2) (dC (.int 2))) (daNil))) (daNil)))) (dTruE (dCall c_is_wrong_for 2 0 [.p 0, .p 1] [] (daCons (dOp2 dIx (dOp2 dIx (dVar 0) (dC (.int 3))) (dVar 1)) (daCons (dOp2 dIx (dVar 2) (dC (.int 1))) (daNil))) (daNil)))) (sRet (dC (.bl false))) (sNext)) (sRet (dCall c_is_wrong_for 2 0 [.p 0, .p 1] [] (daCons (dOp2 dIx (dOp2 dIx (dVar 0) (dC (.int 3))) (dVar 1)) (daCons (dOp2 dIx (dVar 2) (dC (.int 2))) (daNil))) (daNil)))) (sNext)) (sSeq (sIf (dtB (dOp2 dNe (dCall c_is_wrong_for 2 0 [.p 0, .p 1] [] (daCons (dOp2 dIx (dOp2 dIx (dVar 0) (dC (.int 3))) (dVar 1)) (daCons (dOp2 dIx (dVar 2) (dC (.int 1))) (daNil))) (daNil)) (dOp2 dEq (dOp2 dIx (dVar 2) (dC (.int 0))) (dC (.str ("wrong" : Str)))))) (sRet (dC (.bl false))) (sNext)) (sRet (dCall c_are_bars 3 0 [.p 0, .p 1, .p 2] [] (daCons (dVar 0) (daCons (dCall c_others_of 3 0 [.p 0, .p 1, .p 2] [] (daCons (dVar 0) (daCons (dVar 1) (daCons (dOp2 dIx (dVar 2) (dC (.int 0))) (daNil)))) (daNil)) (daCons (dOp2 dIx (dVar 2) (dC (.int 2))) (daNil)))) (daNil)))))))
theorem poss_in_V {log : LogT} {v : Vl} (h : t_is_possible_in log v = true) : isV D.int v = true ∧ 0 ≤ ofV D.int v ∧ ofV D.int v < log.2.1 := by
  unfold t_is_possible_in at h
  rw [Bool.and_eq_true] at h
  exact below_V h.1
def t_tr_is_paper_of (log_0 : (SS × Int × Int × (List ((List Int) × SS)))) (at_0 : Int) (value_0 : Vl) : Bool := if ((!(vT value_0)) || ((!hasB ([2, 3] : List Int) ((vEs value_0).length : Int)) || (!(vS (getI (vEs value_0) 0))))) = true then (false) else (if (decide (vStr (getI (vEs value_0) 0) = ((lit "none")).val)) = true then (((decide (((vEs value_0).length : Int) = 2)) && (t_are_bars log_0 (t_others_of log_0 at_0 (lit "none")) (getI (vEs value_0) 1)))) else (if ((!decide (((vEs value_0).length : Int) = 3)) || ((!hasB ([(lit "right"), (lit "wrong"), (lit "open")] : List SS) (ofV eS (getI (vEs value_0) 0))) || (!(t_is_possible_in log_0 (getI (vEs value_0) 1))))) = true then (false) else (if (decide (vStr (getI (vEs value_0) 0) = ((lit "open")).val)) = true then (if ((!(t_is_possible_in log_0 (getI (vEs value_0) 2))) || (t_is_wrong_for (getI log_0.2.2.2 at_0) (ofV D.int (getI (vEs value_0) 1)))) = true then (false) else ((t_is_wrong_for (getI log_0.2.2.2 at_0) (ofV D.int (getI (vEs value_0) 2))))) else (if (!decide ((t_is_wrong_for (getI log_0.2.2.2 at_0) (ofV D.int (getI (vEs value_0) 1))) = (decide (vStr (getI (vEs value_0) 0) = ((lit "wrong")).val)))) = true then (false) else ((t_are_bars log_0 (t_others_of log_0 at_0 (ofV eS (getI (vEs value_0) 0))) (getI (vEs value_0) 2)))))))
def ST_tr_is_paper_of (f : Fn) : Prop := ∀ (log_0 : (SS × Int × Int × (List ((List Int) × SS)))) (at_0 : Int) (value_0 : Vl), (ok : LogOk log_0) → (a0 : 0 ≤ at_0) → (a1 : at_0 < (log_0.2.2.2.length : Int)) → (so : vS (getI (vEs value_0) 0) = true → isV eS (getI (vEs value_0) 0) = true) → ∀ h, f [(eP4 eS D.int D.int (eT (eP2 (eT D.int) eS))) log_0, D.int at_0, eV value_0] h = .ok (D.bl (t_tr_is_paper_of log_0 at_0 value_0)) h
theorem et_tr_is_paper_of {fn : Fns} {i_are_bars i_others_of i_is_possible_in i_is_wrong_for : Nat} (c_others_of : ST_others_of (fn i_others_of)) (c_are_bars : ST_are_bars (fn i_are_bars)) (c_is_possible_in : ST_is_possible_in (fn i_is_possible_in)) (c_is_wrong_for : ST_is_wrong_for (fn i_is_wrong_for)) : ST_tr_is_paper_of (bodyF 3 (tr_is_paper_of_m i_are_bars i_others_of i_is_possible_in i_is_wrong_for) fn) := by
  intro log_0 at_0 value_0 ok a0 a1 so h
  have o1 := ok.m1
  have o2 := ok.m2
  have o3 := ok.l1
  have o4 := ok.l2
  have o5 := ok.rw
  refine b_ret (m := tr_is_paper_of_m i_are_bars i_others_of i_is_possible_in i_is_wrong_for) (V := (fun (r : Bool) => (D.bl r, h))) (r := t_tr_is_paper_of log_0 at_0 value_0) ?_
  unfold t_tr_is_paper_of tr_is_paper_of_m
  show J _ fn [.val ((eP4 eS D.int D.int (eT (eP2 (eT D.int) eS))) log_0), .val (D.int at_0), .val (eV value_0)] _ _ _
  refine j_ifq (t_or (t_not (t_tru (x_isiV (v := value_0) [.tup] (x_var rfl) k_T) tr_bl)) fun hc => (t_or (t_B (x_op2 (x_opN (xa_cons (x_var rfl) xa_nil) (o_lenV (v := value_0) (by /-is_paper_of 1: vSq value_0 = true-/first | assumption | omega | (set_option maxHeartbeats 400000 in (simp_all [row_v, list_v, count_v, below_v, integer_v, isV_int, isV_bl, vSq_T]; done)) | (set_option maxHeartbeats 400000 in (simp_all [row_v, list_v, count_v, below_v, integer_v, isV_int, isV_bl, vSq_T]; omega))))) (xv ((eT D.int) ([2, 3] : List Int)) (x_tup (xa_cons x_c (xa_cons x_c xa_nil)) (nb_cons rfl (nb_cons rfl nb_nil)) rfl)) (o_niT (e := D.int) (xs := ([2, 3] : List Int)) (by decide)))) fun hc => (t_not (t_tru (x_isiV (v := (getI (vEs value_0) 0)) [.str] (x_op2 (x_var rfl) x_c (o_ixV (v := value_0) (k := 0) (by /-is_paper_of 2: vSq value_0 = true-/first | assumption | omega | (set_option maxHeartbeats 400000 in (simp_all [row_v, list_v, count_v, below_v, integer_v, isV_int, isV_bl, vSq_T]; done)) | (set_option maxHeartbeats 400000 in (simp_all [row_v, list_v, count_v, below_v, integer_v, isV_int, isV_bl, vSq_T]; omega))) (by /-is_paper_of 3: -(vEs value_0).length ≤ 0-/first | assumption | omega | (set_option maxHeartbeats 400000 in (simp_all [row_v, list_v, count_v, below_v, integer_v, isV_int, isV_bl, vSq_T]; done)) | (set_option maxHeartbeats 400000 in (simp_all [row_v, list_v, count_v, below_v, integer_v, isV_int, isV_bl, vSq_T]; omega))) (by /-is_paper_of 4: 0 < (vEs value_0).length-/first | assumption | omega | (set_option maxHeartbeats 400000 in (simp_all [row_v, list_v, count_v, below_v, integer_v, isV_int, isV_bl, vSq_T]; done)) | (set_option maxHeartbeats 400000 in (simp_all [row_v, list_v, count_v, below_v, integer_v, isV_int, isV_bl, vSq_T]; omega))))) k_S) tr_bl)))) (fun hc1 => ?_) (fun hc1 => ?_)
  · skip
    refine j_re ?_
    exact j_ret (d := D.bl false) x_c rfl ⟨rfl, rfl⟩
  · skip
    refine j_ifq (t_B (x_op2 (x_op2 (x_var rfl) x_c (o_ixV (v := value_0) (k := 0) (by /-is_paper_of 5: vSq value_0 = true-/first | assumption | omega | (set_option maxHeartbeats 400000 in (simp_all [row_v, list_v, count_v, below_v, integer_v, isV_int, isV_bl, vSq_T]; done)) | (set_option maxHeartbeats 400000 in (simp_all [row_v, list_v, count_v, below_v, integer_v, isV_int, isV_bl, vSq_T]; omega))) (by /-is_paper_of 6: -(vEs value_0).length ≤ 0-/first | assumption | omega | (set_option maxHeartbeats 400000 in (simp_all [row_v, list_v, count_v, below_v, integer_v, isV_int, isV_bl, vSq_T]; done)) | (set_option maxHeartbeats 400000 in (simp_all [row_v, list_v, count_v, below_v, integer_v, isV_int, isV_bl, vSq_T]; omega))) (by /-is_paper_of 7: 0 < (vEs value_0).length-/first | assumption | omega | (set_option maxHeartbeats 400000 in (simp_all [row_v, list_v, count_v, below_v, integer_v, isV_int, isV_bl, vSq_T]; done)) | (set_option maxHeartbeats 400000 in (simp_all [row_v, list_v, count_v, below_v, integer_v, isV_int, isV_bl, vSq_T]; omega))))) (xv (eS (lit "none")) x_c) (o_eqVS (v := (getI (vEs value_0) 0)) (w := (lit "none")) (by /-is_paper_of 8: vS (getI (vEs value_0) 0) = true-/first | assumption | omega | (set_option maxHeartbeats 400000 in (simp_all [row_v, list_v, count_v, below_v, integer_v, isV_int, isV_bl, vSq_T]; done)) | (set_option maxHeartbeats 400000 in (simp_all [row_v, list_v, count_v, below_v, integer_v, isV_int, isV_bl, vSq_T]; omega)))))) (fun hc2 => ?_) (fun hc2 => ?_)
    · skip
      refine j_re ?_
      exact j_ret (d := D.bl ((decide (((vEs value_0).length : Int) = 2)) && (t_are_bars log_0 (t_others_of log_0 at_0 (lit "none")) (getI (vEs value_0) 1)))) (x_and (x_op2 (x_opN (xa_cons (x_var rfl) xa_nil) (o_lenV (v := value_0) (by /-is_paper_of 9: vSq value_0 = true-/first | assumption | omega | (set_option maxHeartbeats 400000 in (simp_all [row_v, list_v, count_v, below_v, integer_v, isV_int, isV_bl, vSq_T]; done)) | (set_option maxHeartbeats 400000 in (simp_all [row_v, list_v, count_v, below_v, integer_v, isV_int, isV_bl, vSq_T]; omega))))) x_c rfl) fun hc => (x_call (xa_cons (x_var rfl) (xa_cons (x_call (xa_cons (x_var rfl) (xa_cons (x_var rfl) (xa_cons (xv (eS (lit "none")) x_c) xa_nil))) xa_nil (nb_cons rfl (nb_cons rfl (nb_cons rfl nb_nil))) nb_nil rfl rfl rfl (c_others_of log_0 at_0 (lit "none") (by /-is_paper_of 10: others_of: pre 0-/first | assumption | omega | (dsimp only [lt] at *; omega) | (set_option maxHeartbeats 40000 in (simp; done)) | (set_option maxHeartbeats 40000 in (simp; omega)) | (set_option maxHeartbeats 40000 in (simp at *; omega)) | (set_option maxHeartbeats 40000 in (simp_all; done)) | (set_option maxHeartbeats 40000 in (simp_all; omega))) (by /-is_paper_of 11: others_of: pre 1-/first | assumption | omega | (dsimp only [lt] at *; omega) | (set_option maxHeartbeats 40000 in (simp; done)) | (set_option maxHeartbeats 40000 in (simp; omega)) | (set_option maxHeartbeats 40000 in (simp at *; omega)) | (set_option maxHeartbeats 40000 in (simp_all; done)) | (set_option maxHeartbeats 40000 in (simp_all; omega))) (by /-is_paper_of 12: others_of: pre 2-/first | assumption | omega | (dsimp only [lt] at *; omega) | (set_option maxHeartbeats 40000 in (simp; done)) | (set_option maxHeartbeats 40000 in (simp; omega)) | (set_option maxHeartbeats 40000 in (simp at *; omega)) | (set_option maxHeartbeats 40000 in (simp_all; done)) | (set_option maxHeartbeats 40000 in (simp_all; omega))) _)) (xa_cons (x_op2 (x_var rfl) x_c (o_ixV (v := value_0) (k := 1) (by /-is_paper_of 13: vSq value_0 = true-/first | assumption | omega | (set_option maxHeartbeats 400000 in (simp_all [row_v, list_v, count_v, below_v, integer_v, isV_int, isV_bl, vSq_T]; done)) | (set_option maxHeartbeats 400000 in (simp_all [row_v, list_v, count_v, below_v, integer_v, isV_int, isV_bl, vSq_T]; omega))) (by /-is_paper_of 14: -(vEs value_0).length ≤ 1-/first | assumption | omega | (set_option maxHeartbeats 400000 in (simp_all [row_v, list_v, count_v, below_v, integer_v, isV_int, isV_bl, vSq_T]; done)) | (set_option maxHeartbeats 400000 in (simp_all [row_v, list_v, count_v, below_v, integer_v, isV_int, isV_bl, vSq_T]; omega))) (by /-is_paper_of 15: 1 < (vEs value_0).length-/first | assumption | omega | (set_option maxHeartbeats 400000 in (simp_all [row_v, list_v, count_v, below_v, integer_v, isV_int, isV_bl, vSq_T]; done)) | (set_option maxHeartbeats 400000 in (simp_all [row_v, list_v, count_v, below_v, integer_v, isV_int, isV_bl, vSq_T]; omega))))) xa_nil))) xa_nil (nb_cons rfl (nb_cons rfl (nb_cons (NB.nb _) nb_nil))) nb_nil rfl rfl rfl (c_are_bars log_0 (t_others_of log_0 at_0 (lit "none")) (getI (vEs value_0) 1) (by /-is_paper_of 16: are_bars: pre 0-/first | assumption | omega | (dsimp only [lt] at *; omega) | (set_option maxHeartbeats 40000 in (simp; done)) | (set_option maxHeartbeats 40000 in (simp; omega)) | (set_option maxHeartbeats 40000 in (simp at *; omega)) | (set_option maxHeartbeats 40000 in (simp_all; done)) | (set_option maxHeartbeats 40000 in (simp_all; omega))) (by /-is_paper_of 17: are_bars: pre 1-/exact Nat.le_trans (others_len ok) (by decide)) _))) rfl ⟨rfl, rfl⟩
    · skip
      refine j_ifq (t_or (t_B (x_op2 (x_opN (xa_cons (x_var rfl) xa_nil) (o_lenV (v := value_0) (by /-is_paper_of 18: vSq value_0 = true-/first | assumption | omega | (set_option maxHeartbeats 400000 in (simp_all [row_v, list_v, count_v, below_v, integer_v, isV_int, isV_bl, vSq_T]; done)) | (set_option maxHeartbeats 400000 in (simp_all [row_v, list_v, count_v, below_v, integer_v, isV_int, isV_bl, vSq_T]; omega))))) x_c rfl)) fun hc => (t_or (t_B (x_op2 (x_ofV (e := eS) (v := (getI (vEs value_0) 0)) (by /-is_paper_of 22: isV eS (getI (vEs value_0) 0) = true-/first | assumption | omega | (set_option maxHeartbeats 400000 in (simp_all [row_v, list_v, count_v, below_v, integer_v, isV_int, isV_bl, vSq_T]; done)) | (set_option maxHeartbeats 400000 in (simp_all [row_v, list_v, count_v, below_v, integer_v, isV_int, isV_bl, vSq_T]; omega))) (x_op2 (x_var rfl) x_c (o_ixV (v := value_0) (k := 0) (by /-is_paper_of 19: vSq value_0 = true-/first | assumption | omega | (set_option maxHeartbeats 400000 in (simp_all [row_v, list_v, count_v, below_v, integer_v, isV_int, isV_bl, vSq_T]; done)) | (set_option maxHeartbeats 400000 in (simp_all [row_v, list_v, count_v, below_v, integer_v, isV_int, isV_bl, vSq_T]; omega))) (by /-is_paper_of 20: -(vEs value_0).length ≤ 0-/first | assumption | omega | (set_option maxHeartbeats 400000 in (simp_all [row_v, list_v, count_v, below_v, integer_v, isV_int, isV_bl, vSq_T]; done)) | (set_option maxHeartbeats 400000 in (simp_all [row_v, list_v, count_v, below_v, integer_v, isV_int, isV_bl, vSq_T]; omega))) (by /-is_paper_of 21: 0 < (vEs value_0).length-/first | assumption | omega | (set_option maxHeartbeats 400000 in (simp_all [row_v, list_v, count_v, below_v, integer_v, isV_int, isV_bl, vSq_T]; done)) | (set_option maxHeartbeats 400000 in (simp_all [row_v, list_v, count_v, below_v, integer_v, isV_int, isV_bl, vSq_T]; omega)))))) (xv ((eT eS) ([(lit "right"), (lit "wrong"), (lit "open")] : List SS)) (x_tup (xa_cons (xv (eS (lit "right")) x_c) (xa_cons (xv (eS (lit "wrong")) x_c) (xa_cons (xv (eS (lit "open")) x_c) xa_nil))) (nb_cons rfl (nb_cons rfl (nb_cons rfl nb_nil))) rfl)) (o_niT (e := eS) (xs := ([(lit "right"), (lit "wrong"), (lit "open")] : List SS)) (by decide)))) fun hc => (t_not (t_tru (x_call (xa_cons (x_var rfl) (xa_cons (x_op2 (x_var rfl) x_c (o_ixV (v := value_0) (k := 1) (by /-is_paper_of 23: vSq value_0 = true-/first | assumption | omega | (set_option maxHeartbeats 400000 in (simp_all [row_v, list_v, count_v, below_v, integer_v, isV_int, isV_bl, vSq_T]; done)) | (set_option maxHeartbeats 400000 in (simp_all [row_v, list_v, count_v, below_v, integer_v, isV_int, isV_bl, vSq_T]; omega))) (by /-is_paper_of 24: -(vEs value_0).length ≤ 1-/first | assumption | omega | (set_option maxHeartbeats 400000 in (simp_all [row_v, list_v, count_v, below_v, integer_v, isV_int, isV_bl, vSq_T]; done)) | (set_option maxHeartbeats 400000 in (simp_all [row_v, list_v, count_v, below_v, integer_v, isV_int, isV_bl, vSq_T]; omega))) (by /-is_paper_of 25: 1 < (vEs value_0).length-/first | assumption | omega | (set_option maxHeartbeats 400000 in (simp_all [row_v, list_v, count_v, below_v, integer_v, isV_int, isV_bl, vSq_T]; done)) | (set_option maxHeartbeats 400000 in (simp_all [row_v, list_v, count_v, below_v, integer_v, isV_int, isV_bl, vSq_T]; omega))))) xa_nil)) xa_nil (nb_cons rfl (nb_cons (NB.nb _) nb_nil)) nb_nil rfl rfl rfl (c_is_possible_in log_0 (getI (vEs value_0) 1) (by /-is_paper_of 26: is_possible_in: pre 0-/first | assumption | omega | (dsimp only [lt] at *; omega) | (set_option maxHeartbeats 40000 in (simp; done)) | (set_option maxHeartbeats 40000 in (simp; omega)) | (set_option maxHeartbeats 40000 in (simp at *; omega)) | (set_option maxHeartbeats 40000 in (simp_all; done)) | (set_option maxHeartbeats 40000 in (simp_all; omega))) _)) tr_bl)))) (fun hc3 => ?_) (fun hc3 => ?_)
      · skip
        refine j_re ?_
        exact j_ret (d := D.bl false) x_c rfl ⟨rfl, rfl⟩
      · skip
        refine j_ifq (t_B (x_op2 (x_op2 (x_var rfl) x_c (o_ixV (v := value_0) (k := 0) (by /-is_paper_of 27: vSq value_0 = true-/first | assumption | omega | (set_option maxHeartbeats 400000 in (simp_all [row_v, list_v, count_v, below_v, integer_v, isV_int, isV_bl, vSq_T]; done)) | (set_option maxHeartbeats 400000 in (simp_all [row_v, list_v, count_v, below_v, integer_v, isV_int, isV_bl, vSq_T]; omega))) (by /-is_paper_of 28: -(vEs value_0).length ≤ 0-/first | assumption | omega | (set_option maxHeartbeats 400000 in (simp_all [row_v, list_v, count_v, below_v, integer_v, isV_int, isV_bl, vSq_T]; done)) | (set_option maxHeartbeats 400000 in (simp_all [row_v, list_v, count_v, below_v, integer_v, isV_int, isV_bl, vSq_T]; omega))) (by /-is_paper_of 29: 0 < (vEs value_0).length-/first | assumption | omega | (set_option maxHeartbeats 400000 in (simp_all [row_v, list_v, count_v, below_v, integer_v, isV_int, isV_bl, vSq_T]; done)) | (set_option maxHeartbeats 400000 in (simp_all [row_v, list_v, count_v, below_v, integer_v, isV_int, isV_bl, vSq_T]; omega))))) (xv (eS (lit "open")) x_c) (o_eqVS (v := (getI (vEs value_0) 0)) (w := (lit "open")) (by /-is_paper_of 30: vS (getI (vEs value_0) 0) = true-/first | assumption | omega | (set_option maxHeartbeats 400000 in (simp_all [row_v, list_v, count_v, below_v, integer_v, isV_int, isV_bl, vSq_T]; done)) | (set_option maxHeartbeats 400000 in (simp_all [row_v, list_v, count_v, below_v, integer_v, isV_int, isV_bl, vSq_T]; omega)))))) (fun hc4 => ?_) (fun hc4 => ?_)
        · skip
          refine j_re ?_
          refine j_ifq (t_or (t_not (t_tru (x_call (xa_cons (x_var rfl) (xa_cons (x_op2 (x_var rfl) x_c (o_ixV (v := value_0) (k := 2) (by /-is_paper_of 31: vSq value_0 = true-/first | assumption | omega | (set_option maxHeartbeats 400000 in (simp_all [row_v, list_v, count_v, below_v, integer_v, isV_int, isV_bl, vSq_T]; done)) | (set_option maxHeartbeats 400000 in (simp_all [row_v, list_v, count_v, below_v, integer_v, isV_int, isV_bl, vSq_T]; omega))) (by /-is_paper_of 32: -(vEs value_0).length ≤ 2-/first | assumption | omega | (set_option maxHeartbeats 400000 in (simp_all [row_v, list_v, count_v, below_v, integer_v, isV_int, isV_bl, vSq_T]; done)) | (set_option maxHeartbeats 400000 in (simp_all [row_v, list_v, count_v, below_v, integer_v, isV_int, isV_bl, vSq_T]; omega))) (by /-is_paper_of 33: 2 < (vEs value_0).length-/first | assumption | omega | (set_option maxHeartbeats 400000 in (simp_all [row_v, list_v, count_v, below_v, integer_v, isV_int, isV_bl, vSq_T]; done)) | (set_option maxHeartbeats 400000 in (simp_all [row_v, list_v, count_v, below_v, integer_v, isV_int, isV_bl, vSq_T]; omega))))) xa_nil)) xa_nil (nb_cons rfl (nb_cons (NB.nb _) nb_nil)) nb_nil rfl rfl rfl (c_is_possible_in log_0 (getI (vEs value_0) 2) (by /-is_paper_of 34: is_possible_in: pre 0-/first | assumption | omega | (dsimp only [lt] at *; omega) | (set_option maxHeartbeats 40000 in (simp; done)) | (set_option maxHeartbeats 40000 in (simp; omega)) | (set_option maxHeartbeats 40000 in (simp at *; omega)) | (set_option maxHeartbeats 40000 in (simp_all; done)) | (set_option maxHeartbeats 40000 in (simp_all; omega))) _)) tr_bl)) fun hc => (t_tru (x_call (xa_cons (x_op2 (x_op2 (x_var rfl) x_c o_ixP4_3) (x_var rfl) (o_ixT (e := (eP2 (eT D.int) eS)) (xs := log_0.2.2.2) (k := at_0) (by /-is_paper_of 35: -log_0.2.2.2.length ≤ at_0-/first | assumption | omega | (dsimp only [lt] at *; omega) | (set_option maxHeartbeats 40000 in (simp; done)) | (set_option maxHeartbeats 40000 in (simp; omega)) | (set_option maxHeartbeats 40000 in (simp at *; omega)) | (set_option maxHeartbeats 40000 in (simp_all; done)) | (set_option maxHeartbeats 40000 in (simp_all; omega))) (by /-is_paper_of 36: at_0 < log_0.2.2.2.length-/first | assumption | omega | (dsimp only [lt] at *; omega) | (set_option maxHeartbeats 40000 in (simp; done)) | (set_option maxHeartbeats 40000 in (simp; omega)) | (set_option maxHeartbeats 40000 in (simp at *; omega)) | (set_option maxHeartbeats 40000 in (simp_all; done)) | (set_option maxHeartbeats 40000 in (simp_all; omega))))) (xa_cons (x_ofV (e := D.int) (v := (getI (vEs value_0) 1)) (by /-is_paper_of 40: isV D.int (getI (vEs value_0) 1) = true-/first | (have hz := hc1; simp only [Bool.or_eq_false_iff, Bool.not_eq_false'] at hz; exact (poss_in_V hz.2.2).1) | (have hz := hc2; simp only [Bool.or_eq_false_iff, Bool.not_eq_false'] at hz; exact (poss_in_V hz.2.2).1) | (have hz := hc3; simp only [Bool.or_eq_false_iff, Bool.not_eq_false'] at hz; exact (poss_in_V hz.2.2).1) | (have hz := hc4; simp only [Bool.or_eq_false_iff, Bool.not_eq_false'] at hz; exact (poss_in_V hz.2.2).1) | (have hz := hc5; simp only [Bool.or_eq_false_iff, Bool.not_eq_false'] at hz; exact (poss_in_V hz.2.2).1)) (x_op2 (x_var rfl) x_c (o_ixV (v := value_0) (k := 1) (by /-is_paper_of 37: vSq value_0 = true-/first | assumption | omega | (set_option maxHeartbeats 400000 in (simp_all [row_v, list_v, count_v, below_v, integer_v, isV_int, isV_bl, vSq_T]; done)) | (set_option maxHeartbeats 400000 in (simp_all [row_v, list_v, count_v, below_v, integer_v, isV_int, isV_bl, vSq_T]; omega))) (by /-is_paper_of 38: -(vEs value_0).length ≤ 1-/first | assumption | omega | (set_option maxHeartbeats 400000 in (simp_all [row_v, list_v, count_v, below_v, integer_v, isV_int, isV_bl, vSq_T]; done)) | (set_option maxHeartbeats 400000 in (simp_all [row_v, list_v, count_v, below_v, integer_v, isV_int, isV_bl, vSq_T]; omega))) (by /-is_paper_of 39: 1 < (vEs value_0).length-/first | assumption | omega | (set_option maxHeartbeats 400000 in (simp_all [row_v, list_v, count_v, below_v, integer_v, isV_int, isV_bl, vSq_T]; done)) | (set_option maxHeartbeats 400000 in (simp_all [row_v, list_v, count_v, below_v, integer_v, isV_int, isV_bl, vSq_T]; omega)))))) xa_nil)) xa_nil (nb_cons rfl (nb_cons rfl nb_nil)) nb_nil rfl rfl rfl (c_is_wrong_for (getI log_0.2.2.2 at_0) (ofV D.int (getI (vEs value_0) 1)) _)) tr_bl)) (fun hc5 => ?_) (fun hc5 => ?_)
          · skip
            refine j_re ?_
            exact j_ret (d := D.bl false) x_c rfl ⟨rfl, rfl⟩
          · skip
            exact j_ret (d := D.bl (t_is_wrong_for (getI log_0.2.2.2 at_0) (ofV D.int (getI (vEs value_0) 2)))) (x_call (xa_cons (x_op2 (x_op2 (x_var rfl) x_c o_ixP4_3) (x_var rfl) (o_ixT (e := (eP2 (eT D.int) eS)) (xs := log_0.2.2.2) (k := at_0) (by /-is_paper_of 41: -log_0.2.2.2.length ≤ at_0-/first | assumption | omega | (dsimp only [lt] at *; omega) | (set_option maxHeartbeats 40000 in (simp; done)) | (set_option maxHeartbeats 40000 in (simp; omega)) | (set_option maxHeartbeats 40000 in (simp at *; omega)) | (set_option maxHeartbeats 40000 in (simp_all; done)) | (set_option maxHeartbeats 40000 in (simp_all; omega))) (by /-is_paper_of 42: at_0 < log_0.2.2.2.length-/first | assumption | omega | (dsimp only [lt] at *; omega) | (set_option maxHeartbeats 40000 in (simp; done)) | (set_option maxHeartbeats 40000 in (simp; omega)) | (set_option maxHeartbeats 40000 in (simp at *; omega)) | (set_option maxHeartbeats 40000 in (simp_all; done)) | (set_option maxHeartbeats 40000 in (simp_all; omega))))) (xa_cons (x_ofV (e := D.int) (v := (getI (vEs value_0) 2)) (by /-is_paper_of 46: isV D.int (getI (vEs value_0) 2) = true-/first | (have hz := hc1; simp only [Bool.or_eq_false_iff, Bool.not_eq_false'] at hz; exact (poss_in_V hz.1).1) | (have hz := hc2; simp only [Bool.or_eq_false_iff, Bool.not_eq_false'] at hz; exact (poss_in_V hz.1).1) | (have hz := hc3; simp only [Bool.or_eq_false_iff, Bool.not_eq_false'] at hz; exact (poss_in_V hz.1).1) | (have hz := hc4; simp only [Bool.or_eq_false_iff, Bool.not_eq_false'] at hz; exact (poss_in_V hz.1).1) | (have hz := hc5; simp only [Bool.or_eq_false_iff, Bool.not_eq_false'] at hz; exact (poss_in_V hz.1).1) | (have hz := hc6; simp only [Bool.or_eq_false_iff, Bool.not_eq_false'] at hz; exact (poss_in_V hz.1).1)) (x_op2 (x_var rfl) x_c (o_ixV (v := value_0) (k := 2) (by /-is_paper_of 43: vSq value_0 = true-/first | assumption | omega | (set_option maxHeartbeats 400000 in (simp_all [row_v, list_v, count_v, below_v, integer_v, isV_int, isV_bl, vSq_T]; done)) | (set_option maxHeartbeats 400000 in (simp_all [row_v, list_v, count_v, below_v, integer_v, isV_int, isV_bl, vSq_T]; omega))) (by /-is_paper_of 44: -(vEs value_0).length ≤ 2-/first | assumption | omega | (set_option maxHeartbeats 400000 in (simp_all [row_v, list_v, count_v, below_v, integer_v, isV_int, isV_bl, vSq_T]; done)) | (set_option maxHeartbeats 400000 in (simp_all [row_v, list_v, count_v, below_v, integer_v, isV_int, isV_bl, vSq_T]; omega))) (by /-is_paper_of 45: 2 < (vEs value_0).length-/first | assumption | omega | (set_option maxHeartbeats 400000 in (simp_all [row_v, list_v, count_v, below_v, integer_v, isV_int, isV_bl, vSq_T]; done)) | (set_option maxHeartbeats 400000 in (simp_all [row_v, list_v, count_v, below_v, integer_v, isV_int, isV_bl, vSq_T]; omega)))))) xa_nil)) xa_nil (nb_cons rfl (nb_cons rfl nb_nil)) nb_nil rfl rfl rfl (c_is_wrong_for (getI log_0.2.2.2 at_0) (ofV D.int (getI (vEs value_0) 2)) _)) rfl ⟨rfl, rfl⟩
        · skip
          refine j_ifq (t_B (x_op2 (x_call (xa_cons (x_op2 (x_op2 (x_var rfl) x_c o_ixP4_3) (x_var rfl) (o_ixT (e := (eP2 (eT D.int) eS)) (xs := log_0.2.2.2) (k := at_0) (by /-is_paper_of 47: -log_0.2.2.2.length ≤ at_0-/first | assumption | omega | (dsimp only [lt] at *; omega) | (set_option maxHeartbeats 40000 in (simp; done)) | (set_option maxHeartbeats 40000 in (simp; omega)) | (set_option maxHeartbeats 40000 in (simp at *; omega)) | (set_option maxHeartbeats 40000 in (simp_all; done)) | (set_option maxHeartbeats 40000 in (simp_all; omega))) (by /-is_paper_of 48: at_0 < log_0.2.2.2.length-/first | assumption | omega | (dsimp only [lt] at *; omega) | (set_option maxHeartbeats 40000 in (simp; done)) | (set_option maxHeartbeats 40000 in (simp; omega)) | (set_option maxHeartbeats 40000 in (simp at *; omega)) | (set_option maxHeartbeats 40000 in (simp_all; done)) | (set_option maxHeartbeats 40000 in (simp_all; omega))))) (xa_cons (x_ofV (e := D.int) (v := (getI (vEs value_0) 1)) (by /-is_paper_of 52: isV D.int (getI (vEs value_0) 1) = true-/first | (have hz := hc1; simp only [Bool.or_eq_false_iff, Bool.not_eq_false'] at hz; exact (poss_in_V hz.2.2).1) | (have hz := hc2; simp only [Bool.or_eq_false_iff, Bool.not_eq_false'] at hz; exact (poss_in_V hz.2.2).1) | (have hz := hc3; simp only [Bool.or_eq_false_iff, Bool.not_eq_false'] at hz; exact (poss_in_V hz.2.2).1) | (have hz := hc4; simp only [Bool.or_eq_false_iff, Bool.not_eq_false'] at hz; exact (poss_in_V hz.2.2).1) | (have hz := hc5; simp only [Bool.or_eq_false_iff, Bool.not_eq_false'] at hz; exact (poss_in_V hz.2.2).1)) (x_op2 (x_var rfl) x_c (o_ixV (v := value_0) (k := 1) (by /-is_paper_of 49: vSq value_0 = true-/first | assumption | omega | (set_option maxHeartbeats 400000 in (simp_all [row_v, list_v, count_v, below_v, integer_v, isV_int, isV_bl, vSq_T]; done)) | (set_option maxHeartbeats 400000 in (simp_all [row_v, list_v, count_v, below_v, integer_v, isV_int, isV_bl, vSq_T]; omega))) (by /-is_paper_of 50: -(vEs value_0).length ≤ 1-/first | assumption | omega | (set_option maxHeartbeats 400000 in (simp_all [row_v, list_v, count_v, below_v, integer_v, isV_int, isV_bl, vSq_T]; done)) | (set_option maxHeartbeats 400000 in (simp_all [row_v, list_v, count_v, below_v, integer_v, isV_int, isV_bl, vSq_T]; omega))) (by /-is_paper_of 51: 1 < (vEs value_0).length-/first | assumption | omega | (set_option maxHeartbeats 400000 in (simp_all [row_v, list_v, count_v, below_v, integer_v, isV_int, isV_bl, vSq_T]; done)) | (set_option maxHeartbeats 400000 in (simp_all [row_v, list_v, count_v, below_v, integer_v, isV_int, isV_bl, vSq_T]; omega)))))) xa_nil)) xa_nil (nb_cons rfl (nb_cons rfl nb_nil)) nb_nil rfl rfl rfl (c_is_wrong_for (getI log_0.2.2.2 at_0) (ofV D.int (getI (vEs value_0) 1)) _)) (x_op2 (x_op2 (x_var rfl) x_c (o_ixV (v := value_0) (k := 0) (by /-is_paper_of 53: vSq value_0 = true-/first | assumption | omega | (set_option maxHeartbeats 400000 in (simp_all [row_v, list_v, count_v, below_v, integer_v, isV_int, isV_bl, vSq_T]; done)) | (set_option maxHeartbeats 400000 in (simp_all [row_v, list_v, count_v, below_v, integer_v, isV_int, isV_bl, vSq_T]; omega))) (by /-is_paper_of 54: -(vEs value_0).length ≤ 0-/first | assumption | omega | (set_option maxHeartbeats 400000 in (simp_all [row_v, list_v, count_v, below_v, integer_v, isV_int, isV_bl, vSq_T]; done)) | (set_option maxHeartbeats 400000 in (simp_all [row_v, list_v, count_v, below_v, integer_v, isV_int, isV_bl, vSq_T]; omega))) (by /-is_paper_of 55: 0 < (vEs value_0).length-/first | assumption | omega | (set_option maxHeartbeats 400000 in (simp_all [row_v, list_v, count_v, below_v, integer_v, isV_int, isV_bl, vSq_T]; done)) | (set_option maxHeartbeats 400000 in (simp_all [row_v, list_v, count_v, below_v, integer_v, isV_int, isV_bl, vSq_T]; omega))))) (xv (eS (lit "wrong")) x_c) (o_eqVS (v := (getI (vEs value_0) 0)) (w := (lit "wrong")) (by /-is_paper_of 56: vS (getI (vEs value_0) 0) = true-/first | assumption | omega | (set_option maxHeartbeats 400000 in (simp_all [row_v, list_v, count_v, below_v, integer_v, isV_int, isV_bl, vSq_T]; done)) | (set_option maxHeartbeats 400000 in (simp_all [row_v, list_v, count_v, below_v, integer_v, isV_int, isV_bl, vSq_T]; omega))))) rfl)) (fun hc6 => ?_) (fun hc6 => ?_)
          · skip
            refine j_re ?_
            exact j_ret (d := D.bl false) x_c rfl ⟨rfl, rfl⟩
          · skip
            exact j_ret (d := D.bl (t_are_bars log_0 (t_others_of log_0 at_0 (ofV eS (getI (vEs value_0) 0))) (getI (vEs value_0) 2))) (x_call (xa_cons (x_var rfl) (xa_cons (x_call (xa_cons (x_var rfl) (xa_cons (x_var rfl) (xa_cons (x_ofV (e := eS) (v := (getI (vEs value_0) 0)) (by /-is_paper_of 60: isV eS (getI (vEs value_0) 0) = true-/first | assumption | omega | (set_option maxHeartbeats 400000 in (simp_all [row_v, list_v, count_v, below_v, integer_v, isV_int, isV_bl, vSq_T]; done)) | (set_option maxHeartbeats 400000 in (simp_all [row_v, list_v, count_v, below_v, integer_v, isV_int, isV_bl, vSq_T]; omega))) (x_op2 (x_var rfl) x_c (o_ixV (v := value_0) (k := 0) (by /-is_paper_of 57: vSq value_0 = true-/first | assumption | omega | (set_option maxHeartbeats 400000 in (simp_all [row_v, list_v, count_v, below_v, integer_v, isV_int, isV_bl, vSq_T]; done)) | (set_option maxHeartbeats 400000 in (simp_all [row_v, list_v, count_v, below_v, integer_v, isV_int, isV_bl, vSq_T]; omega))) (by /-is_paper_of 58: -(vEs value_0).length ≤ 0-/first | assumption | omega | (set_option maxHeartbeats 400000 in (simp_all [row_v, list_v, count_v, below_v, integer_v, isV_int, isV_bl, vSq_T]; done)) | (set_option maxHeartbeats 400000 in (simp_all [row_v, list_v, count_v, below_v, integer_v, isV_int, isV_bl, vSq_T]; omega))) (by /-is_paper_of 59: 0 < (vEs value_0).length-/first | assumption | omega | (set_option maxHeartbeats 400000 in (simp_all [row_v, list_v, count_v, below_v, integer_v, isV_int, isV_bl, vSq_T]; done)) | (set_option maxHeartbeats 400000 in (simp_all [row_v, list_v, count_v, below_v, integer_v, isV_int, isV_bl, vSq_T]; omega)))))) xa_nil))) xa_nil (nb_cons rfl (nb_cons rfl (nb_cons rfl nb_nil))) nb_nil rfl rfl rfl (c_others_of log_0 at_0 (ofV eS (getI (vEs value_0) 0)) (by /-is_paper_of 61: others_of: pre 0-/first | assumption | omega | (dsimp only [lt] at *; omega) | (set_option maxHeartbeats 40000 in (simp; done)) | (set_option maxHeartbeats 40000 in (simp; omega)) | (set_option maxHeartbeats 40000 in (simp at *; omega)) | (set_option maxHeartbeats 40000 in (simp_all; done)) | (set_option maxHeartbeats 40000 in (simp_all; omega))) (by /-is_paper_of 62: others_of: pre 1-/first | assumption | omega | (dsimp only [lt] at *; omega) | (set_option maxHeartbeats 40000 in (simp; done)) | (set_option maxHeartbeats 40000 in (simp; omega)) | (set_option maxHeartbeats 40000 in (simp at *; omega)) | (set_option maxHeartbeats 40000 in (simp_all; done)) | (set_option maxHeartbeats 40000 in (simp_all; omega))) (by /-is_paper_of 63: others_of: pre 2-/first | assumption | omega | (dsimp only [lt] at *; omega) | (set_option maxHeartbeats 40000 in (simp; done)) | (set_option maxHeartbeats 40000 in (simp; omega)) | (set_option maxHeartbeats 40000 in (simp at *; omega)) | (set_option maxHeartbeats 40000 in (simp_all; done)) | (set_option maxHeartbeats 40000 in (simp_all; omega))) _)) (xa_cons (x_op2 (x_var rfl) x_c (o_ixV (v := value_0) (k := 2) (by /-is_paper_of 64: vSq value_0 = true-/first | assumption | omega | (set_option maxHeartbeats 400000 in (simp_all [row_v, list_v, count_v, below_v, integer_v, isV_int, isV_bl, vSq_T]; done)) | (set_option maxHeartbeats 400000 in (simp_all [row_v, list_v, count_v, below_v, integer_v, isV_int, isV_bl, vSq_T]; omega))) (by /-is_paper_of 65: -(vEs value_0).length ≤ 2-/first | assumption | omega | (set_option maxHeartbeats 400000 in (simp_all [row_v, list_v, count_v, below_v, integer_v, isV_int, isV_bl, vSq_T]; done)) | (set_option maxHeartbeats 400000 in (simp_all [row_v, list_v, count_v, below_v, integer_v, isV_int, isV_bl, vSq_T]; omega))) (by /-is_paper_of 66: 2 < (vEs value_0).length-/first | assumption | omega | (set_option maxHeartbeats 400000 in (simp_all [row_v, list_v, count_v, below_v, integer_v, isV_int, isV_bl, vSq_T]; done)) | (set_option maxHeartbeats 400000 in (simp_all [row_v, list_v, count_v, below_v, integer_v, isV_int, isV_bl, vSq_T]; omega))))) xa_nil))) xa_nil (nb_cons rfl (nb_cons rfl (nb_cons (NB.nb _) nb_nil))) nb_nil rfl rfl rfl (c_are_bars log_0 (t_others_of log_0 at_0 (ofV eS (getI (vEs value_0) 0))) (getI (vEs value_0) 2) (by /-is_paper_of 67: are_bars: pre 0-/first | assumption | omega | (dsimp only [lt] at *; omega) | (set_option maxHeartbeats 40000 in (simp; done)) | (set_option maxHeartbeats 40000 in (simp; omega)) | (set_option maxHeartbeats 40000 in (simp at *; omega)) | (set_option maxHeartbeats 40000 in (simp_all; done)) | (set_option maxHeartbeats 40000 in (simp_all; omega))) (by /-is_paper_of 68: are_bars: pre 1-/exact Nat.le_trans (others_len ok) (by decide)) _)) rfl ⟨rfl, rfl⟩
def without_row_m (c_with_rows : Nat) : DS := sRet (dCall c_with_rows 2 0 [.p 0, .p 1] [] (daCons (dVar 0) (daCons (dOp2 dAdd (dSlice (dOp2 dIx (dVar 0) (dC (.int 3))) (dNoPart) (dPart (dVar 1))) (dSlice (dOp2 dIx (dVar 0) (dC (.int 3))) (dPart (dOp2 dAdd (dVar 1) (dC (.int 1)))) (dNoPart))) (daNil))) (daNil))
def t_without_row (log_0 : (SS × Int × Int × (List ((List Int) × SS)))) (at_0 : Int) : (SS × Int × Int × (List ((List Int) × SS))) := (t_with_rows log_0 ((cut log_0.2.2.2 none (some at_0)) ++ (cut log_0.2.2.2 (some (at_0 + 1)) none)))
def ST_without_row (f : Fn) : Prop := ∀ (log_0 : (SS × Int × Int × (List ((List Int) × SS)))) (at_0 : Int), (ok : LogOk log_0) → (a0 : 0 ≤ at_0) → (a1 : at_0 < (log_0.2.2.2.length : Int)) → ∀ h, f [(eP4 eS D.int D.int (eT (eP2 (eT D.int) eS))) log_0, D.int at_0] h = .ok ((eP4 eS D.int D.int (eT (eP2 (eT D.int) eS))) (t_without_row log_0 at_0)) h
theorem et_without_row {fn : Fns} {i_with_rows : Nat} (c_with_rows : ST_with_rows (fn i_with_rows)) : ST_without_row (bodyF 2 (without_row_m i_with_rows) fn) := by
  intro log_0 at_0 ok a0 a1 h
  have o1 := ok.m1
  have o2 := ok.m2
  have o3 := ok.l1
  have o4 := ok.l2
  have o5 := ok.rw
  refine b_ret (m := without_row_m i_with_rows) (V := (fun (r : (SS × Int × Int × (List ((List Int) × SS)))) => ((eP4 eS D.int D.int (eT (eP2 (eT D.int) eS))) r, h))) (r := t_without_row log_0 at_0) ?_
  unfold t_without_row without_row_m
  show J _ fn [.val ((eP4 eS D.int D.int (eT (eP2 (eT D.int) eS))) log_0), .val (D.int at_0)] _ _ _
  exact j_ret (d := (eP4 eS D.int D.int (eT (eP2 (eT D.int) eS))) (t_with_rows log_0 ((cut log_0.2.2.2 none (some at_0)) ++ (cut log_0.2.2.2 (some (at_0 + 1)) none)))) (x_call (xa_cons (x_var rfl) (xa_cons (x_op2 (x_slice (x_op2 (x_var rfl) x_c o_ixP4_3) x_noPart (x_part (x_var rfl)) (o_slT (e := (eP2 (eT D.int) eS)) (xs := log_0.2.2.2))) (x_slice (x_op2 (x_var rfl) x_c o_ixP4_3) (x_part (x_op2 (x_var rfl) x_c rfl)) x_noPart (o_slT (e := (eP2 (eT D.int) eS)) (xs := log_0.2.2.2))) (o_addT (e := (eP2 (eT D.int) eS)) (xs := (cut log_0.2.2.2 none (some at_0))) (ys := (cut log_0.2.2.2 (some (at_0 + 1)) none)) (by /-without_row 1: (cut log_0.2.2.2 none (some at_0)).length + (cut log_0.2.2.2-/have h1 := cut_le (xs := log_0.2.2.2) (lo := none) (hi := some at_0); have h2 := cut_le (xs := log_0.2.2.2) (lo := some (at_0 + 1)) (hi := none); omega))) xa_nil)) xa_nil (nb_cons rfl (nb_cons rfl nb_nil)) nb_nil rfl rfl rfl (c_with_rows log_0 ((cut log_0.2.2.2 none (some at_0)) ++ (cut log_0.2.2.2 (some (at_0 + 1)) none)) _)) rfl ⟨rfl, rfl⟩
def is_idle_of_m (c_possible_of c_without_row : Nat) : DS := sRet (dOp2 dEq (dCall c_possible_of 1 0 [.p 0] [] (daCons (dCall c_without_row 2 0 [.p 0, .p 1] [] (daCons (dVar 0) (daCons (dVar 1) (daNil))) (daNil)) (daNil)) (daNil)) (dCall c_possible_of 1 0 [.p 0] [] (daCons (dVar 0) (daNil)) (daNil)))
theorem less_ok {log : LogT} {at_ : Int} (ok : LogOk log) (a0 : 0 ≤ at_) (a1 : at_ < (log.2.2.2.length : Int)) : LogOk (t_without_row log at_) ∧ ((t_without_row log at_).2.2.2.length : Int) = log.2.2.2.length - 1 := by
  obtain ⟨k, rfl⟩ : ∃ k : Nat, at_ = k := ⟨at_.toNat, by omega⟩
  have o5 := ok.rw
  have e : t_without_row log (k : Int) = (log.1, log.2.1, log.2.2.1, log.2.2.2.take k ++ log.2.2.2.drop (k + 1)) := by
    show (log.1, log.2.1, log.2.2.1, cut log.2.2.2 none (some (k : Int)) ++ cut log.2.2.2 (some ((k : Int) + 1)) none) = _
    rw [cut_take, show ((k : Int) + 1) = ((k + 1 : Nat) : Int) by omega, cut_drop]
  have l : (log.2.2.2.take k ++ log.2.2.2.drop (k + 1)).length = log.2.2.2.length - 1 := by
    rw [List.length_append, List.length_take, List.length_drop]; omega
  rw [e]
  refine ⟨wr_ok ok (fun r hr => ?_) (by rw [l]; omega), by show ((log.2.2.2.take k ++ log.2.2.2.drop (k + 1)).length : Int) = _; rw [l]; omega⟩
  rcases List.mem_append.mp hr with m | m
  · exact List.take_subset _ _ m
  · exact List.drop_subset _ _ m
def t_is_idle_of (log_0 : (SS × Int × Int × (List ((List Int) × SS)))) (at_0 : Int) : Bool := (decide ((t_lg_possible_of (t_without_row log_0 at_0)) = (t_lg_possible_of log_0)))
def ST_is_idle_of (f : Fn) : Prop := ∀ (log_0 : (SS × Int × Int × (List ((List Int) × SS)))) (at_0 : Int), (ok : LogOk log_0) → (a0 : 0 ≤ at_0) → (a1 : at_0 < (log_0.2.2.2.length : Int)) → ∀ h, f [(eP4 eS D.int D.int (eT (eP2 (eT D.int) eS))) log_0, D.int at_0] h = .ok (D.bl (t_is_idle_of log_0 at_0)) h
theorem et_is_idle_of {fn : Fns} {i_possible_of i_without_row : Nat} (c_without_row : ST_without_row (fn i_without_row)) (c_lg_possible_of : ST_lg_possible_of (fn i_possible_of)) : ST_is_idle_of (bodyF 2 (is_idle_of_m i_possible_of i_without_row) fn) := by
  intro log_0 at_0 ok a0 a1 h
  have o1 := ok.m1
  have o2 := ok.m2
  have o3 := ok.l1
  have o4 := ok.l2
  have o5 := ok.rw
  have lk := less_ok ok a0 a1
  have l1 := lk.1.m1
  have l2 := lk.1.m2
  have l3 := lk.1.l1
  have l4 := lk.1.l2
  have l5 := lk.1.rw
  refine b_ret (m := is_idle_of_m i_possible_of i_without_row) (V := (fun (r : Bool) => (D.bl r, h))) (r := t_is_idle_of log_0 at_0) ?_
  unfold t_is_idle_of is_idle_of_m
  show J _ fn [.val ((eP4 eS D.int D.int (eT (eP2 (eT D.int) eS))) log_0), .val (D.int at_0)] _ _ _
  exact j_ret (d := D.bl (decide ((t_lg_possible_of (t_without_row log_0 at_0)) = (t_lg_possible_of log_0)))) (x_op2 (x_call (xa_cons (x_call (xa_cons (x_var rfl) (xa_cons (x_var rfl) xa_nil)) xa_nil (nb_cons rfl (nb_cons rfl nb_nil)) nb_nil rfl rfl rfl (c_without_row log_0 at_0 (by /-is_idle_of 1: without_row: pre 0-/first | assumption | omega | (dsimp only [lt] at *; omega) | (set_option maxHeartbeats 40000 in (simp; done)) | (set_option maxHeartbeats 40000 in (simp; omega)) | (set_option maxHeartbeats 40000 in (simp at *; omega)) | (set_option maxHeartbeats 40000 in (simp_all; done)) | (set_option maxHeartbeats 40000 in (simp_all; omega))) (by /-is_idle_of 2: without_row: pre 1-/first | assumption | omega | (dsimp only [lt] at *; omega) | (set_option maxHeartbeats 40000 in (simp; done)) | (set_option maxHeartbeats 40000 in (simp; omega)) | (set_option maxHeartbeats 40000 in (simp at *; omega)) | (set_option maxHeartbeats 40000 in (simp_all; done)) | (set_option maxHeartbeats 40000 in (simp_all; omega))) (by /-is_idle_of 3: without_row: pre 2-/first | assumption | omega | (dsimp only [lt] at *; omega) | (set_option maxHeartbeats 40000 in (simp; done)) | (set_option maxHeartbeats 40000 in (simp; omega)) | (set_option maxHeartbeats 40000 in (simp at *; omega)) | (set_option maxHeartbeats 40000 in (simp_all; done)) | (set_option maxHeartbeats 40000 in (simp_all; omega))) _)) xa_nil) xa_nil (nb_cons rfl nb_nil) nb_nil rfl rfl rfl (c_lg_possible_of (t_without_row log_0 at_0) (by /-is_idle_of 4: possible_of: pre 0-/first | assumption | omega | (dsimp only [lt] at *; omega) | (set_option maxHeartbeats 40000 in (simp; done)) | (set_option maxHeartbeats 40000 in (simp; omega)) | (set_option maxHeartbeats 40000 in (simp at *; omega)) | (set_option maxHeartbeats 40000 in (simp_all; done)) | (set_option maxHeartbeats 40000 in (simp_all; omega))) (by /-is_idle_of 5: possible_of: pre 1-/first | assumption | omega | (dsimp only [lt] at *; omega) | (set_option maxHeartbeats 40000 in (simp; done)) | (set_option maxHeartbeats 40000 in (simp; omega)) | (set_option maxHeartbeats 40000 in (simp at *; omega)) | (set_option maxHeartbeats 40000 in (simp_all; done)) | (set_option maxHeartbeats 40000 in (simp_all; omega))) (by /-is_idle_of 6: possible_of: pre 2-/first | assumption | omega | (dsimp only [lt] at *; omega) | (set_option maxHeartbeats 40000 in (simp; done)) | (set_option maxHeartbeats 40000 in (simp; omega)) | (set_option maxHeartbeats 40000 in (simp at *; omega)) | (set_option maxHeartbeats 40000 in (simp_all; done)) | (set_option maxHeartbeats 40000 in (simp_all; omega))) (by /-is_idle_of 7: possible_of: pre 3-/first | assumption | omega | (dsimp only [lt] at *; omega) | (set_option maxHeartbeats 40000 in (simp; done)) | (set_option maxHeartbeats 40000 in (simp; omega)) | (set_option maxHeartbeats 40000 in (simp at *; omega)) | (set_option maxHeartbeats 40000 in (simp_all; done)) | (set_option maxHeartbeats 40000 in (simp_all; omega))) (by /-is_idle_of 8: possible_of: pre 4-/first | assumption | omega | (dsimp only [lt] at *; omega) | (set_option maxHeartbeats 40000 in (simp; done)) | (set_option maxHeartbeats 40000 in (simp; omega)) | (set_option maxHeartbeats 40000 in (simp at *; omega)) | (set_option maxHeartbeats 40000 in (simp_all; done)) | (set_option maxHeartbeats 40000 in (simp_all; omega))) _)) (x_call (xa_cons (x_var rfl) xa_nil) xa_nil (nb_cons rfl nb_nil) nb_nil rfl rfl rfl (c_lg_possible_of log_0 (by /-is_idle_of 9: possible_of: pre 0-/first | assumption | omega | (dsimp only [lt] at *; omega) | (set_option maxHeartbeats 40000 in (simp; done)) | (set_option maxHeartbeats 40000 in (simp; omega)) | (set_option maxHeartbeats 40000 in (simp at *; omega)) | (set_option maxHeartbeats 40000 in (simp_all; done)) | (set_option maxHeartbeats 40000 in (simp_all; omega))) (by /-is_idle_of 10: possible_of: pre 1-/first | assumption | omega | (dsimp only [lt] at *; omega) | (set_option maxHeartbeats 40000 in (simp; done)) | (set_option maxHeartbeats 40000 in (simp; omega)) | (set_option maxHeartbeats 40000 in (simp at *; omega)) | (set_option maxHeartbeats 40000 in (simp_all; done)) | (set_option maxHeartbeats 40000 in (simp_all; omega))) (by /-is_idle_of 11: possible_of: pre 2-/first | assumption | omega | (dsimp only [lt] at *; omega) | (set_option maxHeartbeats 40000 in (simp; done)) | (set_option maxHeartbeats 40000 in (simp; omega)) | (set_option maxHeartbeats 40000 in (simp at *; omega)) | (set_option maxHeartbeats 40000 in (simp_all; done)) | (set_option maxHeartbeats 40000 in (simp_all; omega))) (by /-is_idle_of 12: possible_of: pre 3-/first | assumption | omega | (dsimp only [lt] at *; omega) | (set_option maxHeartbeats 40000 in (simp; done)) | (set_option maxHeartbeats 40000 in (simp; omega)) | (set_option maxHeartbeats 40000 in (simp at *; omega)) | (set_option maxHeartbeats 40000 in (simp_all; done)) | (set_option maxHeartbeats 40000 in (simp_all; omega))) (by /-is_idle_of 13: possible_of: pre 4-/first | assumption | omega | (dsimp only [lt] at *; omega) | (set_option maxHeartbeats 40000 in (simp; done)) | (set_option maxHeartbeats 40000 in (simp; omega)) | (set_option maxHeartbeats 40000 in (simp at *; omega)) | (set_option maxHeartbeats 40000 in (simp_all; done)) | (set_option maxHeartbeats 40000 in (simp_all; omega))) _)) (o_eqE (e := (eL D.int)) (a := (t_lg_possible_of (t_without_row log_0 at_0))) (b := (t_lg_possible_of log_0)) (by decide))) rfl ⟨rfl, rfl⟩
def slim_of_l0 (c_is_idle_of c_without_row : Nat) : DS := sIf (dTruE (dCall c_is_idle_of 2 0 [.p 0, .p 1] [] (daCons (dVar 0) (daCons (dVar 1) (daNil))) (daNil))) (sSet 0 (dCall c_without_row 2 0 [.p 0, .p 1] [] (daCons (dVar 0) (daCons (dVar 1) (daNil))) (daNil))) (sNext)
def slim_of_m (c_is_idle_of c_without_row : Nat) : DS := sSeq (sFor (.name 1) (dRng3 (daCons (dOp2 dSub (dOpN cLen (daCons (dOp2 dIx (dVar 0) (dC (.int 3))) (daNil))) (dC (.int 1))) (daCons (dOp1 dNeg (dC (.int 1))) (daCons (dOp1 dNeg (dC (.int 1))) (daNil))))) (slim_of_l0 c_is_idle_of c_without_row)) (sRet (dVar 0))
def t_slim_of (log_0 : (SS × Int × Int × (List ((List Int) × SS)))) : (SS × Int × Int × (List ((List Int) × SS))) := lt ((rangeD ((log_0.2.2.2.length : Int) - 1) (-1)).foldl (fun (s_1 : (SS × Int × Int × (List ((List Int) × SS)))) u_2 => if (t_is_idle_of s_1 u_2) = true then (lt (t_without_row s_1 u_2) fun log_3 => log_3) else (s_1)) log_0) fun s_4 => s_4
def ST_slim_of (f : Fn) : Prop := ∀ (log_0 : (SS × Int × Int × (List ((List Int) × SS)))), (ok : LogOk log_0) → ∀ h, f [(eP4 eS D.int D.int (eT (eP2 (eT D.int) eS))) log_0] h = .ok ((eP4 eS D.int D.int (eT (eP2 (eT D.int) eS))) (t_slim_of log_0)) h
theorem et_slim_of {fn : Fns} {i_is_idle_of i_without_row : Nat} (c_is_idle_of : ST_is_idle_of (fn i_is_idle_of)) (c_without_row : ST_without_row (fn i_without_row)) : ST_slim_of (bodyF 2 (slim_of_m i_is_idle_of i_without_row) fn) := by
  intro log_0 ok h
  have o1 := ok.m1
  have o2 := ok.m2
  have o3 := ok.l1
  have o4 := ok.l2
  have o5 := ok.rw
  refine b_ret (m := slim_of_m i_is_idle_of i_without_row) (V := (fun (r : (SS × Int × Int × (List ((List Int) × SS)))) => ((eP4 eS D.int D.int (eT (eP2 (eT D.int) eS))) r, h))) (r := t_slim_of log_0) ?_
  unfold t_slim_of slim_of_m
  show J _ fn [.val ((eP4 eS D.int D.int (eT (eP2 (eT D.int) eS))) log_0), .no] _ _ _
  refine j_for (E := (fun (s : (SS × Int × Int × (List ((List Int) × SS)))) env h' => h = h' ∧ ∃ (j1 : Sl), [.val ((eP4 eS D.int D.int (eT (eP2 (eT D.int) eS))) s), j1] = env)) (P := (fun (i : Nat) (s : (SS × Int × Int × (List ((List Int) × SS)))) => LogOk s ∧ (log_0.2.2.2.length : Int) - i ≤ (s.2.2.2.length : Int)) (0 + (rangeD ((log_0.2.2.2.length : Int) - 1) (-1)).length)) (i_rng3 (xa_cons (x_op2 (x_opN (xa_cons (x_op2 (x_var rfl) x_c o_ixP4_3) xa_nil) (o_lenT (e := (eP2 (eT D.int) eS)))) x_c rfl) (xa_cons (x_op1 x_c rfl) (xa_cons (x_op1 x_c rfl) xa_nil))) (by /-slim_of 1: range-/first | assumption | omega | (dsimp only [lt] at *; omega) | (set_option maxHeartbeats 40000 in (simp; done)) | (set_option maxHeartbeats 40000 in (simp; omega)) | (set_option maxHeartbeats 40000 in (simp at *; omega)) | (set_option maxHeartbeats 40000 in (simp_all; done)) | (set_option maxHeartbeats 40000 in (simp_all; omega))) (by /-slim_of 2: range-/first | assumption | omega | (dsimp only [lt] at *; omega) | (set_option maxHeartbeats 40000 in (simp; done)) | (set_option maxHeartbeats 40000 in (simp; omega)) | (set_option maxHeartbeats 40000 in (simp at *; omega)) | (set_option maxHeartbeats 40000 in (simp_all; done)) | (set_option maxHeartbeats 40000 in (simp_all; omega))) (by /-slim_of 3: range-/first | assumption | omega | (dsimp only [lt] at *; omega) | (set_option maxHeartbeats 40000 in (simp; done)) | (set_option maxHeartbeats 40000 in (simp; omega)) | (set_option maxHeartbeats 40000 in (simp at *; omega)) | (set_option maxHeartbeats 40000 in (simp_all; done)) | (set_option maxHeartbeats 40000 in (simp_all; omega))) (by /-slim_of 4: range-/first | assumption | omega | (dsimp only [lt] at *; omega) | (set_option maxHeartbeats 40000 in (simp; done)) | (set_option maxHeartbeats 40000 in (simp; omega)) | (set_option maxHeartbeats 40000 in (simp at *; omega)) | (set_option maxHeartbeats 40000 in (simp_all; done)) | (set_option maxHeartbeats 40000 in (simp_all; omega)))) (loop_fold (en := D.int) (xs := (rangeD ((log_0.2.2.2.length : Int) - 1) (-1))) (s0 := log_0) (fun (s : (SS × Int × Int × (List ((List Int) × SS)))) env h' => h = h' ∧ ∃ (j1 : Sl), [.val ((eP4 eS D.int D.int (eT (eP2 (eT D.int) eS))) s), j1] = env) (fun (i : Nat) (s : (SS × Int × Int × (List ((List Int) × SS)))) => LogOk s ∧ (log_0.2.2.2.length : Int) - i ≤ (s.2.2.2.length : Int)) _ 0 (by exact ⟨ok, by omega⟩) ⟨rfl, _, rfl⟩ ?_) ?_
  · rintro i0 u_2 s_1 _ _ hx0 hi0 ⟨rfl, j1, rfl⟩
    have hlt0 := lt_of_get hx0
    have hm0 := List.mem_of_getElem? hx0
    have hr0 := mem_rngD hm0
    have ug := rngD_get hx0
    try simp only [Nat.zero_add] at hi0 ⊢
    refine ⟨(by 
              dsimp only [lt]
              split
              · have z := less_ok hi0.1 (at_ := u_2) (by omega) (by omega)
                exact ⟨z.1, by omega⟩
              · exact ⟨hi0.1, by omega⟩), [.val ((eP4 eS D.int D.int (eT (eP2 (eT D.int) eS))) s_1), .val (D.int u_2)], (p_name rfl rfl rfl), ?_⟩
    unfold slim_of_l0
    refine j_if (t_tru (x_call (xa_cons (x_var rfl) (xa_cons (x_var rfl) xa_nil)) xa_nil (nb_cons rfl (nb_cons rfl nb_nil)) nb_nil rfl rfl rfl (c_is_idle_of s_1 u_2 (by /-slim_of 5: is_idle_of: pre 0-/exact hi0.1) (by /-slim_of 6: is_idle_of: pre 1-/first | assumption | omega | (dsimp only [lt] at *; omega) | (set_option maxHeartbeats 40000 in (simp; done)) | (set_option maxHeartbeats 40000 in (simp; omega)) | (set_option maxHeartbeats 40000 in (simp at *; omega)) | (set_option maxHeartbeats 40000 in (simp_all; done)) | (set_option maxHeartbeats 40000 in (simp_all; omega))) (by /-slim_of 7: is_idle_of: pre 2-/first | assumption | omega | (dsimp only [lt] at *; omega) | (set_option maxHeartbeats 40000 in (simp; done)) | (set_option maxHeartbeats 40000 in (simp; omega)) | (set_option maxHeartbeats 40000 in (simp at *; omega)) | (set_option maxHeartbeats 40000 in (simp_all; done)) | (set_option maxHeartbeats 40000 in (simp_all; omega))) _)) tr_bl) (fun hc1 => ?_) (fun hc1 => ?_)
    · skip
      refine j_lt fun log_3 e_log_3 => ?_
      refine j_last (z_set (d := (eP4 eS D.int D.int (eT (eP2 (eT D.int) eS))) log_3) (by rw [e_log_3]; exact (x_call (xa_cons (x_var rfl) (xa_cons (x_var rfl) xa_nil)) xa_nil (nb_cons rfl (nb_cons rfl nb_nil)) nb_nil rfl rfl rfl (c_without_row s_1 u_2 (by /-slim_of 8: without_row: pre 0-/exact hi0.1) (by /-slim_of 9: without_row: pre 1-/first | assumption | omega | (dsimp only [lt] at *; omega) | (set_option maxHeartbeats 40000 in (simp; done)) | (set_option maxHeartbeats 40000 in (simp; omega)) | (set_option maxHeartbeats 40000 in (simp at *; omega)) | (set_option maxHeartbeats 40000 in (simp_all; done)) | (set_option maxHeartbeats 40000 in (simp_all; omega))) (by /-slim_of 10: without_row: pre 2-/first | assumption | omega | (dsimp only [lt] at *; omega) | (set_option maxHeartbeats 40000 in (simp; done)) | (set_option maxHeartbeats 40000 in (simp; omega)) | (set_option maxHeartbeats 40000 in (simp at *; omega)) | (set_option maxHeartbeats 40000 in (simp_all; done)) | (set_option maxHeartbeats 40000 in (simp_all; omega))) _))) rfl rfl rfl) ?_
      exact ⟨.inl rfl, ⟨rfl, _, rfl⟩⟩
    · skip
      refine j_next ?_
      exact ⟨.inl rfl, ⟨rfl, _, rfl⟩⟩
  · rintro s_4 _ _ e_s_4 inv_s_4 ⟨rfl, j1, rfl⟩
    try simp only [Nat.zero_add] at inv_s_4
    exact j_ret (d := (eP4 eS D.int D.int (eT (eP2 (eT D.int) eS))) s_4) (x_var rfl) rfl ⟨rfl, rfl⟩
def want_position_m (c_is_below : Nat) : DS := sSeq (sIf (dtNot (dTruE (dCall c_is_below 2 0 [.p 0, .p 1] [] (daCons (dVar 1) (daCons (dOpN cLen (daCons (dOp2 dIx (dVar 0) (dC (.int 3))) (daNil))) (daNil))) (daNil)))) (sBad) (sNext)) (sRet (dVar 1))
@[reducible] def t_want_position (log_0 : (SS × Int × Int × (List ((List Int) × SS)))) (value_0 : Int) : Int := value_0
def ST_want_position (f : Fn) : Prop := ∀ (log_0 : (SS × Int × Int × (List ((List Int) × SS)))) (value_0 : Int), (a0 : 0 ≤ value_0) → (a1 : value_0 < (log_0.2.2.2.length : Int)) → ∀ h, f [(eP4 eS D.int D.int (eT (eP2 (eT D.int) eS))) log_0, D.int value_0] h = .ok (D.int (t_want_position log_0 value_0)) h
theorem et_want_position {fn : Fns} {i_is_below : Nat} (c_is_below : ST_is_below (fn i_is_below)) : ST_want_position (bodyF 2 (want_position_m i_is_below) fn) := by
  intro log_0 value_0 a0 a1 h
  refine b_ret (m := want_position_m i_is_below) (V := (fun (r : Int) => (D.int r, h))) (r := t_want_position log_0 value_0) ?_
  unfold t_want_position want_position_m
  show J _ fn [.val ((eP4 eS D.int D.int (eT (eP2 (eT D.int) eS))) log_0), .val (D.int value_0)] _ _ _
  refine j_ifN (t_false (t_not (t_tru (x_call (xa_cons (xv (eV (toV D.int value_0)) (x_var rfl)) (xa_cons (x_opN (xa_cons (x_op2 (x_var rfl) x_c o_ixP4_3) xa_nil) (o_lenT (e := (eP2 (eT D.int) eS)))) xa_nil)) xa_nil (nb_cons (NB.nb _) (nb_cons rfl nb_nil)) nb_nil rfl rfl rfl (c_is_below (toV D.int value_0) (log_0.2.2.2.length : Int) _)) tr_bl)) (by /-want_position 1: (!(t_is_below (toV D.int value_0) (log_0.2.2.2.length : Int)-/first | assumption | omega | (dsimp only [lt] at *; omega) | (set_option maxHeartbeats 40000 in (simp; done)) | (set_option maxHeartbeats 40000 in (simp; omega)) | (set_option maxHeartbeats 40000 in (simp at *; omega)) | (set_option maxHeartbeats 40000 in (simp_all; done)) | (set_option maxHeartbeats 40000 in (simp_all; omega)))) ?_
  exact j_ret (d := D.int value_0) (x_var rfl) rfl ⟨rfl, rfl⟩
def truth_m (c_want_log c_truth_of c_want_position : Nat) : DS := sSeq (sExpr (dCall c_want_log 1 0 [.p 0] [] (daCons (dVar 0) (daNil)) (daNil))) (sRet (dCall c_truth_of 2 0 [.p 0, .p 1] [] (daCons (dVar 0) (daCons (dCall c_want_position 2 0 [.p 0, .p 1] [] (daCons (dVar 0) (daCons (dVar 1) (daNil))) (daNil)) (daNil))) (daNil)))
def t_truth (log_0 : (SS × Int × Int × (List ((List Int) × SS)))) (position_0 : Int) : SS := (t_truth_of log_0 position_0)
def ST_truth (f : Fn) : Prop := ∀ (log_0 : (SS × Int × Int × (List ((List Int) × SS)))) (position_0 : Int), (ok : LogOk log_0) → (a0 : 0 ≤ position_0) → (a1 : position_0 < (log_0.2.2.2.length : Int)) → ∀ h, f [(eP4 eS D.int D.int (eT (eP2 (eT D.int) eS))) log_0, D.int position_0] h = .ok (eS (t_truth log_0 position_0)) h
theorem et_truth {fn : Fns} {i_want_log i_truth_of i_want_position : Nat} (c_want_log : ST_want_log (fn i_want_log)) (c_want_position : ST_want_position (fn i_want_position)) (c_truth_of : ST_truth_of (fn i_truth_of)) : ST_truth (bodyF 2 (truth_m i_want_log i_truth_of i_want_position) fn) := by
  intro log_0 position_0 ok a0 a1 h
  have o1 := ok.m1
  have o2 := ok.m2
  have o3 := ok.l1
  have o4 := ok.l2
  have o5 := ok.rw
  refine b_ret (m := truth_m i_want_log i_truth_of i_want_position) (V := (fun (r : SS) => (eS r, h))) (r := t_truth log_0 position_0) ?_
  unfold t_truth truth_m
  show J _ fn [.val ((eP4 eS D.int D.int (eT (eP2 (eT D.int) eS))) log_0), .val (D.int position_0)] _ _ _
  refine j_seq (z_expr (x_call (xa_cons (x_var rfl) xa_nil) xa_nil (nb_cons rfl nb_nil) nb_nil rfl rfl rfl (c_want_log log_0 (by /-truth 1: want_log: pre 0-/exact ok) _))) ?_
  exact j_ret (d := eS (t_truth_of log_0 position_0)) (x_call (xa_cons (x_var rfl) (xa_cons (x_call (xa_cons (x_var rfl) (xa_cons (x_var rfl) xa_nil)) xa_nil (nb_cons rfl (nb_cons rfl nb_nil)) nb_nil rfl rfl rfl (c_want_position log_0 position_0 (by /-truth 2: want_position: pre 0-/first | assumption | omega | (dsimp only [lt] at *; omega) | (set_option maxHeartbeats 40000 in (simp; done)) | (set_option maxHeartbeats 40000 in (simp; omega)) | (set_option maxHeartbeats 40000 in (simp at *; omega)) | (set_option maxHeartbeats 40000 in (simp_all; done)) | (set_option maxHeartbeats 40000 in (simp_all; omega))) (by /-truth 3: want_position: pre 1-/first | assumption | omega | (dsimp only [lt] at *; omega) | (set_option maxHeartbeats 40000 in (simp; done)) | (set_option maxHeartbeats 40000 in (simp; omega)) | (set_option maxHeartbeats 40000 in (simp at *; omega)) | (set_option maxHeartbeats 40000 in (simp_all; done)) | (set_option maxHeartbeats 40000 in (simp_all; omega))) _)) xa_nil)) xa_nil (nb_cons rfl (nb_cons rfl nb_nil)) nb_nil rfl rfl rfl (c_truth_of log_0 position_0 (by /-truth 4: truth_of: pre 0-/first | assumption | omega | (dsimp only [lt] at *; omega) | (set_option maxHeartbeats 40000 in (simp; done)) | (set_option maxHeartbeats 40000 in (simp; omega)) | (set_option maxHeartbeats 40000 in (simp at *; omega)) | (set_option maxHeartbeats 40000 in (simp_all; done)) | (set_option maxHeartbeats 40000 in (simp_all; omega))) (by /-truth 5: truth_of: pre 1-/first | assumption | omega | (dsimp only [lt] at *; omega) | (set_option maxHeartbeats 40000 in (simp; done)) | (set_option maxHeartbeats 40000 in (simp; omega)) | (set_option maxHeartbeats 40000 in (simp at *; omega)) | (set_option maxHeartbeats 40000 in (simp_all; done)) | (set_option maxHeartbeats 40000 in (simp_all; omega))) (by /-truth 6: truth_of: pre 2-/first | assumption | omega | (dsimp only [lt] at *; omega) | (set_option maxHeartbeats 40000 in (simp; done)) | (set_option maxHeartbeats 40000 in (simp; omega)) | (set_option maxHeartbeats 40000 in (simp at *; omega)) | (set_option maxHeartbeats 40000 in (simp_all; done)) | (set_option maxHeartbeats 40000 in (simp_all; omega))) _)) rfl ⟨rfl, rfl⟩
def truths_m (c_want_log c_truth_of : Nat) : DS := sRet (asVal (dComp [1] (.name 1) (dRng1 (daCons (dOpN cLen (daCons (dOp2 dIx (dCall c_want_log 1 0 [.p 0] [] (daCons (dVar 0) (daNil)) (daNil)) (dC (.int 3))) (daNil))) (daNil))) (dtYes) (dCall c_truth_of 2 0 [.p 0, .p 1] [] (daCons (dVar 0) (daCons (dVar 1) (daNil))) (daNil))))
def t_truths (log_0 : (SS × Int × Int × (List ((List Int) × SS)))) : (List SS) := ((rangeI (log_0.2.2.2.length : Int)).map (fun u_1 => (t_truth_of log_0 u_1)))
def ST_truths (f : Fn) : Prop := ∀ (log_0 : (SS × Int × Int × (List ((List Int) × SS)))), (ok : LogOk log_0) → ∀ h, f [(eP4 eS D.int D.int (eT (eP2 (eT D.int) eS))) log_0] h = .ok ((eL eS) (t_truths log_0)) h
theorem et_truths {fn : Fns} {i_want_log i_truth_of : Nat} (c_want_log : ST_want_log (fn i_want_log)) (c_truth_of : ST_truth_of (fn i_truth_of)) : ST_truths (bodyF 2 (truths_m i_want_log i_truth_of) fn) := by
  intro log_0 ok h
  have o1 := ok.m1
  have o2 := ok.m2
  have o3 := ok.l1
  have o4 := ok.l2
  have o5 := ok.rw
  refine b_ret (m := truths_m i_want_log i_truth_of) (V := (fun (r : (List SS)) => ((eL eS) r, h))) (r := t_truths log_0) ?_
  unfold t_truths truths_m
  show J _ fn [.val ((eP4 eS D.int D.int (eT (eP2 (eT D.int) eS))) log_0), .no] _ _ _
  exact j_ret (d := (eL eS) ((rangeI (log_0.2.2.2.length : Int)).map (fun u_1 => (t_truth_of log_0 u_1)))) (xv ((eL eS) ((rangeI (log_0.2.2.2.length : Int)).map (fun u_1 => (t_truth_of log_0 u_1)))) (x_asVal (f_compM (en := D.int) (ev := eS) (fun u_1 => (t_truth_of log_0 u_1)) (i_rng1 (xa_cons (x_opN (xa_cons (x_op2 (x_call (xa_cons (x_var rfl) xa_nil) xa_nil (nb_cons rfl nb_nil) nb_nil rfl rfl rfl (c_want_log log_0 (by /-truths 1: want_log: pre 0-/exact ok) _)) x_c o_ixP4_3) xa_nil) (o_lenT (e := (eP2 (eT D.int) eS)))) xa_nil) (by /-truths 2: range low-/first | assumption | omega | (dsimp only [lt] at *; omega) | (set_option maxHeartbeats 40000 in (simp; done)) | (set_option maxHeartbeats 40000 in (simp; omega)) | (set_option maxHeartbeats 40000 in (simp at *; omega)) | (set_option maxHeartbeats 40000 in (simp_all; done)) | (set_option maxHeartbeats 40000 in (simp_all; omega))) (by /-truths 3: range (log_0.2.2.2.length : Int) ≤ 10^9-/first | assumption | omega | (dsimp only [lt] at *; omega) | (set_option maxHeartbeats 40000 in (simp; done)) | (set_option maxHeartbeats 40000 in (simp; omega)) | (set_option maxHeartbeats 40000 in (simp at *; omega)) | (set_option maxHeartbeats 40000 in (simp_all; done)) | (set_option maxHeartbeats 40000 in (simp_all; omega)))) (by /-truths 4: (rangeI (log_0.2.2.2.length : Int)).length ≤ 16777216-/first | assumption | omega | (dsimp only [lt] at *; omega) | (set_option maxHeartbeats 40000 in (simp; done)) | (set_option maxHeartbeats 40000 in (simp; omega)) | (set_option maxHeartbeats 40000 in (simp at *; omega)) | (set_option maxHeartbeats 40000 in (simp_all; done)) | (set_option maxHeartbeats 40000 in (simp_all; omega))) rfl (fun _ => rfl) fun u_1 hu => have hu_u_1 := hu; have hr := mem_rng hu; ⟨_, (p_name rfl rfl rfl), (x_call (xa_cons (x_var rfl) (xa_cons (x_var rfl) xa_nil)) xa_nil (nb_cons rfl (nb_cons rfl nb_nil)) nb_nil rfl rfl rfl (c_truth_of log_0 u_1 (by /-truths 5: truth_of: pre 0-/first | assumption | omega | (dsimp only [lt] at *; omega) | (set_option maxHeartbeats 40000 in (simp; done)) | (set_option maxHeartbeats 40000 in (simp; omega)) | (set_option maxHeartbeats 40000 in (simp at *; omega)) | (set_option maxHeartbeats 40000 in (simp_all; done)) | (set_option maxHeartbeats 40000 in (simp_all; omega))) (by /-truths 6: truth_of: pre 1-/first | assumption | omega | (dsimp only [lt] at *; omega) | (set_option maxHeartbeats 40000 in (simp; done)) | (set_option maxHeartbeats 40000 in (simp; omega)) | (set_option maxHeartbeats 40000 in (simp at *; omega)) | (set_option maxHeartbeats 40000 in (simp_all; done)) | (set_option maxHeartbeats 40000 in (simp_all; omega))) (by /-truths 7: truth_of: pre 2-/first | assumption | omega | (dsimp only [lt] at *; omega) | (set_option maxHeartbeats 40000 in (simp; done)) | (set_option maxHeartbeats 40000 in (simp; omega)) | (set_option maxHeartbeats 40000 in (simp at *; omega)) | (set_option maxHeartbeats 40000 in (simp_all; done)) | (set_option maxHeartbeats 40000 in (simp_all; omega))) _))⟩))) rfl ⟨rfl, rfl⟩
def truth_paper_m (c_want_log c_paper_of c_want_position : Nat) : DS := sSeq (sExpr (dCall c_want_log 1 0 [.p 0] [] (daCons (dVar 0) (daNil)) (daNil))) (sRet (dCall c_paper_of 2 0 [.p 0, .p 1] [] (daCons (dVar 0) (daCons (dCall c_want_position 2 0 [.p 0, .p 1] [] (daCons (dVar 0) (daCons (dVar 1) (daNil))) (daNil)) (daNil))) (daNil)))
def t_truth_paper (log_0 : (SS × Int × Int × (List ((List Int) × SS)))) (position_0 : Int) : Vl := (t_tr_paper_of log_0 position_0)
def ST_truth_paper (f : Fn) : Prop := ∀ (log_0 : (SS × Int × Int × (List ((List Int) × SS)))) (position_0 : Int), (ok : LogOk log_0) → (a0 : 0 ≤ position_0) → (a1 : position_0 < (log_0.2.2.2.length : Int)) → ∀ h, f [(eP4 eS D.int D.int (eT (eP2 (eT D.int) eS))) log_0, D.int position_0] h = .ok (eV (t_truth_paper log_0 position_0)) h
theorem et_truth_paper {fn : Fns} {i_want_log i_paper_of i_want_position : Nat} (c_want_log : ST_want_log (fn i_want_log)) (c_want_position : ST_want_position (fn i_want_position)) (c_tr_paper_of : ST_tr_paper_of (fn i_paper_of)) : ST_truth_paper (bodyF 2 (truth_paper_m i_want_log i_paper_of i_want_position) fn) := by
  intro log_0 position_0 ok a0 a1 h
  have o1 := ok.m1
  have o2 := ok.m2
  have o3 := ok.l1
  have o4 := ok.l2
  have o5 := ok.rw
  refine b_ret (m := truth_paper_m i_want_log i_paper_of i_want_position) (V := (fun (r : Vl) => (eV r, h))) (r := t_truth_paper log_0 position_0) ?_
  unfold t_truth_paper truth_paper_m
  show J _ fn [.val ((eP4 eS D.int D.int (eT (eP2 (eT D.int) eS))) log_0), .val (D.int position_0)] _ _ _
  refine j_seq (z_expr (x_call (xa_cons (x_var rfl) xa_nil) xa_nil (nb_cons rfl nb_nil) nb_nil rfl rfl rfl (c_want_log log_0 (by /-truth_paper 1: want_log: pre 0-/exact ok) _))) ?_
  exact j_ret (d := eV (t_tr_paper_of log_0 position_0)) (x_call (xa_cons (x_var rfl) (xa_cons (x_call (xa_cons (x_var rfl) (xa_cons (x_var rfl) xa_nil)) xa_nil (nb_cons rfl (nb_cons rfl nb_nil)) nb_nil rfl rfl rfl (c_want_position log_0 position_0 (by /-truth_paper 2: want_position: pre 0-/first | assumption | omega | (dsimp only [lt] at *; omega) | (set_option maxHeartbeats 40000 in (simp; done)) | (set_option maxHeartbeats 40000 in (simp; omega)) | (set_option maxHeartbeats 40000 in (simp at *; omega)) | (set_option maxHeartbeats 40000 in (simp_all; done)) | (set_option maxHeartbeats 40000 in (simp_all; omega))) (by /-truth_paper 3: want_position: pre 1-/first | assumption | omega | (dsimp only [lt] at *; omega) | (set_option maxHeartbeats 40000 in (simp; done)) | (set_option maxHeartbeats 40000 in (simp; omega)) | (set_option maxHeartbeats 40000 in (simp at *; omega)) | (set_option maxHeartbeats 40000 in (simp_all; done)) | (set_option maxHeartbeats 40000 in (simp_all; omega))) _)) xa_nil)) xa_nil (nb_cons rfl (nb_cons rfl nb_nil)) nb_nil rfl rfl rfl (c_tr_paper_of log_0 position_0 (by /-truth_paper 4: paper_of: pre 0-/first | assumption | omega | (dsimp only [lt] at *; omega) | (set_option maxHeartbeats 40000 in (simp; done)) | (set_option maxHeartbeats 40000 in (simp; omega)) | (set_option maxHeartbeats 40000 in (simp at *; omega)) | (set_option maxHeartbeats 40000 in (simp_all; done)) | (set_option maxHeartbeats 40000 in (simp_all; omega))) (by /-truth_paper 5: paper_of: pre 1-/first | assumption | omega | (dsimp only [lt] at *; omega) | (set_option maxHeartbeats 40000 in (simp; done)) | (set_option maxHeartbeats 40000 in (simp; omega)) | (set_option maxHeartbeats 40000 in (simp at *; omega)) | (set_option maxHeartbeats 40000 in (simp_all; done)) | (set_option maxHeartbeats 40000 in (simp_all; omega))) (by /-truth_paper 6: paper_of: pre 2-/first | assumption | omega | (dsimp only [lt] at *; omega) | (set_option maxHeartbeats 40000 in (simp; done)) | (set_option maxHeartbeats 40000 in (simp; omega)) | (set_option maxHeartbeats 40000 in (simp at *; omega)) | (set_option maxHeartbeats 40000 in (simp_all; done)) | (set_option maxHeartbeats 40000 in (simp_all; omega))) _)) (NB.nb _) ⟨rfl, rfl⟩
def is_truth_paper_m (c_want_log c_is_paper_of c_want_position : Nat) : DS := sSeq (sExpr (dCall c_want_log 1 0 [.p 0] [] (daCons (dVar 0) (daNil)) (daNil))) (sRet (dCall c_is_paper_of 3 0 [.p 0, .p 1, .p 2] [] (daCons (dVar 0) (daCons (dCall c_want_position 2 0 [.p 0, .p 1] [] (daCons (dVar 0) (daCons (dVar 1) (daNil))) (daNil)) (daCons (dVar 2) (daNil)))) (daNil)))
def t_is_truth_paper (log_0 : (SS × Int × Int × (List ((List Int) × SS)))) (position_0 : Int) (value_0 : Vl) : Bool := (t_tr_is_paper_of log_0 position_0 value_0)
def ST_is_truth_paper (f : Fn) : Prop := ∀ (log_0 : (SS × Int × Int × (List ((List Int) × SS)))) (position_0 : Int) (value_0 : Vl), (ok : LogOk log_0) → (a0 : 0 ≤ position_0) → (a1 : position_0 < (log_0.2.2.2.length : Int)) → (so : vS (getI (vEs value_0) 0) = true → isV eS (getI (vEs value_0) 0) = true) → ∀ h, f [(eP4 eS D.int D.int (eT (eP2 (eT D.int) eS))) log_0, D.int position_0, eV value_0] h = .ok (D.bl (t_is_truth_paper log_0 position_0 value_0)) h
theorem et_is_truth_paper {fn : Fns} {i_want_log i_is_paper_of i_want_position : Nat} (c_want_log : ST_want_log (fn i_want_log)) (c_want_position : ST_want_position (fn i_want_position)) (c_tr_is_paper_of : ST_tr_is_paper_of (fn i_is_paper_of)) : ST_is_truth_paper (bodyF 3 (is_truth_paper_m i_want_log i_is_paper_of i_want_position) fn) := by
  intro log_0 position_0 value_0 ok a0 a1 so h
  have o1 := ok.m1
  have o2 := ok.m2
  have o3 := ok.l1
  have o4 := ok.l2
  have o5 := ok.rw
  refine b_ret (m := is_truth_paper_m i_want_log i_is_paper_of i_want_position) (V := (fun (r : Bool) => (D.bl r, h))) (r := t_is_truth_paper log_0 position_0 value_0) ?_
  unfold t_is_truth_paper is_truth_paper_m
  show J _ fn [.val ((eP4 eS D.int D.int (eT (eP2 (eT D.int) eS))) log_0), .val (D.int position_0), .val (eV value_0)] _ _ _
  refine j_seq (z_expr (x_call (xa_cons (x_var rfl) xa_nil) xa_nil (nb_cons rfl nb_nil) nb_nil rfl rfl rfl (c_want_log log_0 (by /-is_truth_paper 1: want_log: pre 0-/exact ok) _))) ?_
  exact j_ret (d := D.bl (t_tr_is_paper_of log_0 position_0 value_0)) (x_call (xa_cons (x_var rfl) (xa_cons (x_call (xa_cons (x_var rfl) (xa_cons (x_var rfl) xa_nil)) xa_nil (nb_cons rfl (nb_cons rfl nb_nil)) nb_nil rfl rfl rfl (c_want_position log_0 position_0 (by /-is_truth_paper 2: want_position: pre 0-/first | assumption | omega | (dsimp only [lt] at *; omega) | (set_option maxHeartbeats 40000 in (simp; done)) | (set_option maxHeartbeats 40000 in (simp; omega)) | (set_option maxHeartbeats 40000 in (simp at *; omega)) | (set_option maxHeartbeats 40000 in (simp_all; done)) | (set_option maxHeartbeats 40000 in (simp_all; omega))) (by /-is_truth_paper 3: want_position: pre 1-/first | assumption | omega | (dsimp only [lt] at *; omega) | (set_option maxHeartbeats 40000 in (simp; done)) | (set_option maxHeartbeats 40000 in (simp; omega)) | (set_option maxHeartbeats 40000 in (simp at *; omega)) | (set_option maxHeartbeats 40000 in (simp_all; done)) | (set_option maxHeartbeats 40000 in (simp_all; omega))) _)) (xa_cons (x_var rfl) xa_nil))) xa_nil (nb_cons rfl (nb_cons rfl (nb_cons (NB.nb _) nb_nil))) nb_nil rfl rfl rfl (c_tr_is_paper_of log_0 position_0 value_0 (by /-is_truth_paper 4: is_paper_of: pre 0-/first | assumption | omega | (dsimp only [lt] at *; omega) | (set_option maxHeartbeats 40000 in (simp; done)) | (set_option maxHeartbeats 40000 in (simp; omega)) | (set_option maxHeartbeats 40000 in (simp at *; omega)) | (set_option maxHeartbeats 40000 in (simp_all; done)) | (set_option maxHeartbeats 40000 in (simp_all; omega))) (by /-is_truth_paper 5: is_paper_of: pre 1-/first | assumption | omega | (dsimp only [lt] at *; omega) | (set_option maxHeartbeats 40000 in (simp; done)) | (set_option maxHeartbeats 40000 in (simp; omega)) | (set_option maxHeartbeats 40000 in (simp at *; omega)) | (set_option maxHeartbeats 40000 in (simp_all; done)) | (set_option maxHeartbeats 40000 in (simp_all; omega))) (by /-is_truth_paper 6: is_paper_of: pre 2-/first | assumption | omega | (dsimp only [lt] at *; omega) | (set_option maxHeartbeats 40000 in (simp; done)) | (set_option maxHeartbeats 40000 in (simp; omega)) | (set_option maxHeartbeats 40000 in (simp at *; omega)) | (set_option maxHeartbeats 40000 in (simp_all; done)) | (set_option maxHeartbeats 40000 in (simp_all; omega))) (by /-is_truth_paper 7: is_paper_of: pre 3-/first | assumption | omega | (dsimp only [lt] at *; omega) | (set_option maxHeartbeats 40000 in (simp; done)) | (set_option maxHeartbeats 40000 in (simp; omega)) | (set_option maxHeartbeats 40000 in (simp at *; omega)) | (set_option maxHeartbeats 40000 in (simp_all; done)) | (set_option maxHeartbeats 40000 in (simp_all; omega))) _)) rfl ⟨rfl, rfl⟩
def is_idle_m (c_want_log c_is_idle_of c_want_position : Nat) : DS := sSeq (sExpr (dCall c_want_log 1 0 [.p 0] [] (daCons (dVar 0) (daNil)) (daNil))) (sRet (dCall c_is_idle_of 2 0 [.p 0, .p 1] [] (daCons (dVar 0) (daCons (dCall c_want_position 2 0 [.p 0, .p 1] [] (daCons (dVar 0) (daCons (dVar 1) (daNil))) (daNil)) (daNil))) (daNil)))
def t_is_idle (log_0 : (SS × Int × Int × (List ((List Int) × SS)))) (position_0 : Int) : Bool := (t_is_idle_of log_0 position_0)
def ST_is_idle (f : Fn) : Prop := ∀ (log_0 : (SS × Int × Int × (List ((List Int) × SS)))) (position_0 : Int), (ok : LogOk log_0) → (a0 : 0 ≤ position_0) → (a1 : position_0 < (log_0.2.2.2.length : Int)) → ∀ h, f [(eP4 eS D.int D.int (eT (eP2 (eT D.int) eS))) log_0, D.int position_0] h = .ok (D.bl (t_is_idle log_0 position_0)) h
theorem et_is_idle {fn : Fns} {i_want_log i_is_idle_of i_want_position : Nat} (c_want_log : ST_want_log (fn i_want_log)) (c_want_position : ST_want_position (fn i_want_position)) (c_is_idle_of : ST_is_idle_of (fn i_is_idle_of)) : ST_is_idle (bodyF 2 (is_idle_m i_want_log i_is_idle_of i_want_position) fn) := by
  intro log_0 position_0 ok a0 a1 h
  have o1 := ok.m1
  have o2 := ok.m2
  have o3 := ok.l1
  have o4 := ok.l2
  have o5 := ok.rw
  refine b_ret (m := is_idle_m i_want_log i_is_idle_of i_want_position) (V := (fun (r : Bool) => (D.bl r, h))) (r := t_is_idle log_0 position_0) ?_
  unfold t_is_idle is_idle_m
  show J _ fn [.val ((eP4 eS D.int D.int (eT (eP2 (eT D.int) eS))) log_0), .val (D.int position_0)] _ _ _
  refine j_seq (z_expr (x_call (xa_cons (x_var rfl) xa_nil) xa_nil (nb_cons rfl nb_nil) nb_nil rfl rfl rfl (c_want_log log_0 (by /-is_idle 1: want_log: pre 0-/exact ok) _))) ?_
  exact j_ret (d := D.bl (t_is_idle_of log_0 position_0)) (x_call (xa_cons (x_var rfl) (xa_cons (x_call (xa_cons (x_var rfl) (xa_cons (x_var rfl) xa_nil)) xa_nil (nb_cons rfl (nb_cons rfl nb_nil)) nb_nil rfl rfl rfl (c_want_position log_0 position_0 (by /-is_idle 2: want_position: pre 0-/first | assumption | omega | (dsimp only [lt] at *; omega) | (set_option maxHeartbeats 40000 in (simp; done)) | (set_option maxHeartbeats 40000 in (simp; omega)) | (set_option maxHeartbeats 40000 in (simp at *; omega)) | (set_option maxHeartbeats 40000 in (simp_all; done)) | (set_option maxHeartbeats 40000 in (simp_all; omega))) (by /-is_idle 3: want_position: pre 1-/first | assumption | omega | (dsimp only [lt] at *; omega) | (set_option maxHeartbeats 40000 in (simp; done)) | (set_option maxHeartbeats 40000 in (simp; omega)) | (set_option maxHeartbeats 40000 in (simp at *; omega)) | (set_option maxHeartbeats 40000 in (simp_all; done)) | (set_option maxHeartbeats 40000 in (simp_all; omega))) _)) xa_nil)) xa_nil (nb_cons rfl (nb_cons rfl nb_nil)) nb_nil rfl rfl rfl (c_is_idle_of log_0 position_0 (by /-is_idle 4: is_idle_of: pre 0-/first | assumption | omega | (dsimp only [lt] at *; omega) | (set_option maxHeartbeats 40000 in (simp; done)) | (set_option maxHeartbeats 40000 in (simp; omega)) | (set_option maxHeartbeats 40000 in (simp at *; omega)) | (set_option maxHeartbeats 40000 in (simp_all; done)) | (set_option maxHeartbeats 40000 in (simp_all; omega))) (by /-is_idle 5: is_idle_of: pre 1-/first | assumption | omega | (dsimp only [lt] at *; omega) | (set_option maxHeartbeats 40000 in (simp; done)) | (set_option maxHeartbeats 40000 in (simp; omega)) | (set_option maxHeartbeats 40000 in (simp at *; omega)) | (set_option maxHeartbeats 40000 in (simp_all; done)) | (set_option maxHeartbeats 40000 in (simp_all; omega))) (by /-is_idle 6: is_idle_of: pre 2-/first | assumption | omega | (dsimp only [lt] at *; omega) | (set_option maxHeartbeats 40000 in (simp; done)) | (set_option maxHeartbeats 40000 in (simp; omega)) | (set_option maxHeartbeats 40000 in (simp at *; omega)) | (set_option maxHeartbeats 40000 in (simp_all; done)) | (set_option maxHeartbeats 40000 in (simp_all; omega))) _)) rfl ⟨rfl, rfl⟩
def slim_m (c_slim_of c_want_log : Nat) : DS := sRet (dCall c_slim_of 1 0 [.p 0] [] (daCons (dCall c_want_log 1 0 [.p 0] [] (daCons (dVar 0) (daNil)) (daNil)) (daNil)) (daNil))
def t_slim (log_0 : (SS × Int × Int × (List ((List Int) × SS)))) : (SS × Int × Int × (List ((List Int) × SS))) := (t_slim_of log_0)
def ST_slim (f : Fn) : Prop := ∀ (log_0 : (SS × Int × Int × (List ((List Int) × SS)))), (ok : LogOk log_0) → ∀ h, f [(eP4 eS D.int D.int (eT (eP2 (eT D.int) eS))) log_0] h = .ok ((eP4 eS D.int D.int (eT (eP2 (eT D.int) eS))) (t_slim log_0)) h
theorem et_slim {fn : Fns} {i_slim_of i_want_log : Nat} (c_want_log : ST_want_log (fn i_want_log)) (c_slim_of : ST_slim_of (fn i_slim_of)) : ST_slim (bodyF 1 (slim_m i_slim_of i_want_log) fn) := by
  intro log_0 ok h
  have o1 := ok.m1
  have o2 := ok.m2
  have o3 := ok.l1
  have o4 := ok.l2
  have o5 := ok.rw
  refine b_ret (m := slim_m i_slim_of i_want_log) (V := (fun (r : (SS × Int × Int × (List ((List Int) × SS)))) => ((eP4 eS D.int D.int (eT (eP2 (eT D.int) eS))) r, h))) (r := t_slim log_0) ?_
  unfold t_slim slim_m
  show J _ fn [.val ((eP4 eS D.int D.int (eT (eP2 (eT D.int) eS))) log_0)] _ _ _
  exact j_ret (d := (eP4 eS D.int D.int (eT (eP2 (eT D.int) eS))) (t_slim_of log_0)) (x_call (xa_cons (x_call (xa_cons (x_var rfl) xa_nil) xa_nil (nb_cons rfl nb_nil) nb_nil rfl rfl rfl (c_want_log log_0 (by /-slim 1: want_log: pre 0-/exact ok) _)) xa_nil) xa_nil (nb_cons rfl nb_nil) nb_nil rfl rfl rfl (c_slim_of log_0 (by /-slim 2: slim_of: pre 0-/first | assumption | omega | (dsimp only [lt] at *; omega) | (set_option maxHeartbeats 40000 in (simp; done)) | (set_option maxHeartbeats 40000 in (simp; omega)) | (set_option maxHeartbeats 40000 in (simp at *; omega)) | (set_option maxHeartbeats 40000 in (simp_all; done)) | (set_option maxHeartbeats 40000 in (simp_all; omega))) _)) rfl ⟨rfl, rfl⟩
end EV
/-! k38: what a told truth paper is -/
namespace EV
open PySem L2
abbrev eBars := eT (eP2 D.int (eT D.int))
def BarsB (bars : List (Int × List Int)) : Prop := bars.length ≤ 40 ∧ ∀ u ∈ bars, u.2.length ≤ 24
/-- what a told paper's parts are -/
structure PapF (v : Vl) : Prop where
  sq : vSq v = true
  l2 : 2 ≤ (vEs v).length
  s0 : vS (getI (vEs v) 0) = true
  so : isV eS (getI (vEs v) 0) = true
  none : vStr (getI (vEs v) 0) = (lit "none").val → isV eBars (getI (vEs v) 1) = true ∧ BarsB (ofV eBars (getI (vEs v) 1))
  some : vStr (getI (vEs v) 0) ≠ (lit "none").val → 3 ≤ (vEs v).length ∧ isV D.int (getI (vEs v) 1) = true
  opn : vStr (getI (vEs v) 0) = (lit "open").val → isV D.int (getI (vEs v) 2) = true
  bar : vStr (getI (vEs v) 0) ≠ (lit "none").val → vStr (getI (vEs v) 0) ≠ (lit "open").val → isV eBars (getI (vEs v) 2) = true ∧ BarsB (ofV eBars (getI (vEs v) 2))
def barsOf (log : LogT) (at_ : Int) (w : SS) : List (Int × List Int) := (t_others_of log at_ w).map fun u => t_barred_for log u
theorem bars_b {log : LogT} (ok : LogOk log) {at_ : Int} {w : SS} : BarsB (barsOf log at_ w) := by
  have o5 := ok.rw
  refine ⟨by unfold barsOf; rw [List.length_map]; exact others_len ok, fun u hu => ?_⟩
  obtain ⟨x, hx, rfl⟩ := List.mem_map.mp hu
  refine Nat.le_trans cut_le (Nat.le_trans wrong_len o5)
theorem truth_in {log : LogT} {at_ : Int} : t_truth_of log at_ = lit "none" ∨ t_truth_of log at_ = lit "open" ∨ t_truth_of log at_ = lit "wrong" ∨ t_truth_of log at_ = lit "right" := by
  unfold t_truth_of
  simp only [lt]
  split
  · exact .inl rfl
  · split
    · split
      · exact .inr (.inl rfl)
      · exact .inr (.inr (.inl rfl))
    · exact .inr (.inr (.inr rfl))
theorem paper_cases {log : LogT} {at_ : Int} : (t_truth_of log at_ = lit "open" ∧ t_tr_paper_of log at_ = toV (eP3 eS D.int D.int) (lit "open", t_first_thing log at_ false, t_first_thing log at_ true)) ∨
    (t_truth_of log at_ = lit "none" ∧ t_tr_paper_of log at_ = toV (eP2 eS eBars) (lit "none", barsOf log at_ (lit "none"))) ∨
    ((t_truth_of log at_ = lit "wrong" ∨ t_truth_of log at_ = lit "right") ∧ t_tr_paper_of log at_ = toV (eP3 eS D.int eBars) (t_truth_of log at_, t_first_thing log at_ (decide (t_truth_of log at_ = lit "wrong")), barsOf log at_ (t_truth_of log at_))) := by
  have c := truth_in (log := log) (at_ := at_)
  have e : t_tr_paper_of log at_ = t_tr_paper_of log at_ := rfl
  unfold t_tr_paper_of at e ⊢
  simp only [lt] at e ⊢
  generalize t_truth_of log at_ = w at *
  rcases c with rfl | rfl | rfl | rfl
  · exact .inr (.inl ⟨rfl, rfl⟩)
  · exact .inl ⟨rfl, rfl⟩
  · exact .inr (.inr ⟨.inl rfl, rfl⟩)
  · exact .inr (.inr ⟨.inr rfl, rfl⟩)
theorem pap_f {log : LogT} (ok : LogOk log) {at_ : Int} : PapF (t_tr_paper_of log at_) := by
  rcases paper_cases (log := log) (at_ := at_) with ⟨_, e⟩ | ⟨_, e⟩ | ⟨hw, e⟩
  · rw [e]
    have h0 : vStr (getI (vEs (toV (eP3 eS D.int D.int) (lit "open", t_first_thing log at_ false, t_first_thing log at_ true))) 0) = (lit "open").val := by simp [getI]
    refine ⟨rfl, by simp, rfl, ?_, fun z => ?_, fun _ => ⟨by simp, ?_⟩, fun _ => ?_, fun _ z => ?_⟩
    · simp [getI, isV_toV]
    · exact absurd (h0.symm.trans z) (by decide)
    · simp [getI, isV_toV]
    · simp [getI, isV_toV]
    · exact absurd h0 z
  · rw [e]
    have h0 : vStr (getI (vEs (toV (eP2 eS eBars) (lit "none", barsOf log at_ (lit "none")))) 0) = (lit "none").val := by simp [getI]
    refine ⟨rfl, by simp, rfl, ?_, fun z => ?_, fun z => ?_, fun z => ?_, fun z _ => ?_⟩
    · simp [getI, isV_toV]
    · have : getI (vEs (toV (eP2 eS eBars) (lit "none", barsOf log at_ (lit "none")))) 1 = toV eBars (barsOf log at_ (lit "none")) := by simp [getI]
      rw [this, ofV_toV]
      exact ⟨isV_toV, bars_b ok⟩
    · exact absurd h0 z
    · exact absurd (h0.symm.trans z) (by decide)
    · exact absurd h0 z
  · rw [e]
    generalize t_truth_of log at_ = w at *
    have hb : getI (vEs (toV (eP3 eS D.int eBars) (w, t_first_thing log at_ (decide (w = lit "wrong")), barsOf log at_ w))) 2 = toV eBars (barsOf log at_ w) := by simp [getI]
    have h0 : vStr (getI (vEs (toV (eP3 eS D.int eBars) (w, t_first_thing log at_ (decide (w = lit "wrong")), barsOf log at_ w))) 0) = w.val := by simp [getI]
    refine ⟨rfl, by simp, rfl, ?_, fun z => ?_, fun _ => ⟨by simp, ?_⟩, fun z => ?_, fun _ _ => ?_⟩
    · simp [getI, isV_toV]
    · rw [h0] at z
      rcases hw with rfl | rfl <;> exact absurd z (by decide)
    · simp [getI, isV_toV]
    · rw [h0] at z
      rcases hw with rfl | rfl <;> exact absurd z (by decide)
    · rw [hb, ofV_toV]
      exact ⟨isV_toV, bars_b ok⟩
end EV
set_option maxHeartbeats 0
namespace EV.K
open PySem L2
abbrev top (i : Nat) : Stmt := PySem.Challenge.pw_askedliars_k38_whole_truths_of_rows.main.body.getD i (.Pass ⟨0, 0, 0, 0⟩)
abbrev st_is_integer : Stmt := top 5
abbrev st_is_count : Stmt := top 6
abbrev st_is_below : Stmt := top 7
abbrev st_is_row : Stmt := top 8
abbrev st_is_rising : Stmt := top 9
abbrev st_is_answer : Stmt := top 17
abbrev st_are_things_in : Stmt := top 18
abbrev st_is_log_of : Stmt := top 19
abbrev st_with_rows : Stmt := top 20
abbrev st_is_wrong_for : Stmt := top 21
abbrev st_wrong_of : Stmt := top 22
abbrev st_possible_of : Stmt := top 23
abbrev st_want_log : Stmt := top 24
abbrev st_want_position : Stmt := top 25
abbrev st_truth_of : Stmt := top 31
abbrev st_barred_for : Stmt := top 32
abbrev st_others_of : Stmt := top 33
abbrev st_first_thing : Stmt := top 34
abbrev st_paper_of : Stmt := top 35
abbrev st_is_bar_for : Stmt := top 36
abbrev st_are_bars : Stmt := top 37
abbrev st_is_possible_in : Stmt := top 38
abbrev st_is_paper_of : Stmt := top 39
abbrev st_without_row : Stmt := top 40
abbrev st_is_idle_of : Stmt := top 41
abbrev st_slim_of : Stmt := top 42
abbrev st_truth : Stmt := top 43
abbrev st_truths : Stmt := top 44
abbrev st_truth_paper : Stmt := top 45
abbrev st_is_truth_paper : Stmt := top 46
abbrev st_is_idle : Stmt := top 47
abbrev st_slim : Stmt := top 48
abbrev st__law_pot : Stmt := top 50
abbrev st__law_draw : Stmt := top 51
abbrev st__law_things : Stmt := top 52
abbrev st__law_is_wrong : Stmt := top 53
abbrev st__law_wrong : Stmt := top 54
abbrev st__law_possible : Stmt := top 55
abbrev st__law_log : Stmt := top 56
abbrev st__law_less : Stmt := top 57
abbrev st__law_truth : Stmt := top 58
abbrev st__law_bars_right : Stmt := top 59
abbrev st__law_paper_right : Stmt := top 60
abbrev st__law_right : Stmt := top 61
abbrev st_law : Stmt := top 62
/-- is_integer(value) -/
def m_is_integer : DS := sRet (dAnd (dIsi (dVar 0) [.int]) (dNot (dIsi (dVar 0) [.bl])))
def N_is_integer : List Str := ["value"]
def d_is_integer : FD := ⟨"is_integer", "is_integer", st_is_integer, ["value"], N_is_integer, m_is_integer, none, "is_integer"⟩
/-- is_count(value) -/
def m_is_count : DS := sRet (dAnd (dCall 0 1 0 [.p 0] [] (daCons (dVar 0) (daNil)) (daNil)) (dOp2 dGe (dVar 0) (dC (.int 0))))
def N_is_count : List Str := ["value"]
def d_is_count : FD := ⟨"is_count", "is_count", st_is_count, ["value"], N_is_count, m_is_count, none, "is_count"⟩
/-- is_below(value, many) -/
def m_is_below : DS := sRet (dAnd (dCall 1 1 0 [.p 0] [] (daCons (dVar 0) (daNil)) (daNil)) (dOp2 dLt (dVar 0) (dVar 1)))
def N_is_below : List Str := ["value", "many"]
def d_is_below : FD := ⟨"is_below", "is_below", st_is_below, ["value", "many"], N_is_below, m_is_below, none, "is_below"⟩
/-- is_row(value, many) -/
def m_is_row : DS := sRet (dAnd (dIsi (dVar 0) [.tup]) (dOp2 dEq (dOpN cLen (daCons (dVar 0) (daNil))) (dVar 1)))
def N_is_row : List Str := ["value", "many"]
def d_is_row : FD := ⟨"is_row", "is_row", st_is_row, ["value", "many"], N_is_row, m_is_row, none, "is_row"⟩
/-- is_rising(items, near, far) -/
def m_is_rising : DS := sRet (dOpN cAll (daCons (asVal (dComp [1, 2] (.tup [.name 1, .name 2]) (dZipX (daCons (dVar 0) (daCons (dSlice (dVar 0) (dPart (dC (.int 1))) (dNoPart)) (daNil)))) (dtYes) (dOp2 dLt (dVar 1) (dVar 2)))) (daNil)))
def N_is_rising : List Str := ["items", "near", "far"]
def d_is_rising : FD := ⟨"is_rising", "is_rising", st_is_rising, ["items"], N_is_rising, m_is_rising, none, "is_rising"⟩
/-- is_answer(value) -/
def m_is_answer : DS := sRet (dAnd (dIsi (dVar 0) [.str]) (dOp2 dIn (dVar 0) (dTup (daCons (dC (.str ("yes" : Str))) (daCons (dC (.str ("no" : Str))) (daNil))))))
def N_is_answer : List Str := ["value"]
def d_is_answer : FD := ⟨"is_answer", "is_answer", st_is_answer, ["value"], N_is_answer, m_is_answer, none, "is_answer"⟩
/-- are_things_in(many, value, thing) -/
def m_are_things_in : DS := sRet (dAnd (dIsi (dVar 1) [.tup]) (dAnd (dOpN cAll (daCons (asVal (dComp [2] (.name 2) (dItems (dVar 1)) (dtYes) (dCall 2 2 0 [.p 0, .p 1] [] (daCons (dVar 2) (daCons (dVar 0) (daNil))) (daNil)))) (daNil))) (dCall 4 1 0 [.p 0] [] (daCons (dVar 1) (daNil)) (daNil))))
def N_are_things_in : List Str := ["many", "value", "thing"]
def d_are_things_in : FD := ⟨"are_things_in", "are_things_in", st_are_things_in, ["many", "value"], N_are_things_in, m_are_things_in, none, "are_things_in"⟩
/-- is_log_of(value, row, things, answer) -/
def m_is_log_of : DS := sSeq (sIf (dtOr (dtNot (dTruE (dCall 3 2 0 [.p 0, .p 1] [] (daCons (dVar 0) (daCons (dC (.int 4)) (daNil))) (daNil)))) (dtOr (dtNot (dTruE (dIsi (dOp2 dIx (dVar 0) (dC (.int 0))) [.str]))) (dtB (dOp2 dNe (dOp2 dIx (dVar 0) (dC (.int 0))) (dC (.str ("log" : Str))))))) (sRet (dC (.bl false))) (sNext)) (sSeq (sIf (dtOr (dtNot (dTruE (dCall 0 1 0 [.p 0] [] (daCons (dOp2 dIx (dVar 0) (dC (.int 1))) (daNil)) (daNil)))) (dtOr (dtNot (dtB (dChain dLe dLe (dC (.int 1)) (dOp2 dIx (dVar 0) (dC (.int 1))) (dC (.int 40))))) (dtOr (dtNot (dTruE (dCall 1 1 0 [.p 0] [] (daCons (dOp2 dIx (dVar 0) (dC (.int 2))) (daNil)) (daNil)))) (dtB (dOp2 dGt (dOp2 dIx (dVar 0) (dC (.int 2))) (dC (.int 3))))))) (sRet (dC (.bl false))) (sNext)) (sSeq (sIf (dtOr (dtNot (dTruE (dIsi (dOp2 dIx (dVar 0) (dC (.int 3))) [.tup]))) (dtOr (dtB (dOp2 dGt (dOpN cLen (daCons (dOp2 dIx (dVar 0) (dC (.int 3))) (daNil))) (dC (.int 24)))) (dtNot (dTruE (dOpN cAll (daCons (asVal (dComp [1] (.name 1) (dItems (dOp2 dIx (dVar 0) (dC (.int 3)))) (dtYes) (dCall 3 2 0 [.p 0, .p 1] [] (daCons (dVar 1) (daCons (dC (.int 2)) (daNil))) (daNil)))) (daNil))))))) (sRet (dC (.bl false))) (sNext)) (sRet (dOpN cAll (daCons (asVal (dComp [2, 3] (.tup [.name 2, .name 3]) (dItems (dOp2 dIx (dVar 0) (dC (.int 3)))) (dtYes) (dAnd (dCall 6 2 0 [.p 0, .p 1] [] (daCons (dOp2 dIx (dVar 0) (dC (.int 1))) (daCons (dVar 2) (daNil))) (daNil)) (dCall 5 1 0 [.p 0] [] (daCons (dVar 3) (daNil)) (daNil))))) (daNil))))))
def N_is_log_of : List Str := ["value", "row", "things", "answer"]
def d_is_log_of : FD := ⟨"is_log_of", "is_log_of", st_is_log_of, ["value"], N_is_log_of, m_is_log_of, none, "is_log_of"⟩
/-- with_rows(log, rows) -/
def m_with_rows : DS := sRet (dOp2 dAdd (dSlice (dVar 0) (dNoPart) (dPart (dC (.int 3)))) (dTup (daCons (dOpN cTuple (daCons (dVar 1) (daNil))) (daNil))))
def N_with_rows : List Str := ["log", "rows"]
def d_with_rows : FD := ⟨"with_rows", "with_rows", st_with_rows, ["log", "rows"], N_with_rows, m_with_rows, none, "with_rows"⟩
/-- is_wrong_for(row, thing) -/
def m_is_wrong_for : DS := sRet (dOp2 dEq (dOp2 dIn (dVar 1) (dOp2 dIx (dVar 0) (dC (.int 0)))) (dOp2 dEq (dOp2 dIx (dVar 0) (dC (.int 1))) (dC (.str ("no" : Str)))))
def N_is_wrong_for : List Str := ["row", "thing"]
def d_is_wrong_for : FD := ⟨"is_wrong_for", "is_wrong_for", st_is_wrong_for, ["row", "thing"], N_is_wrong_for, m_is_wrong_for, none, "is_wrong_for"⟩
/-- wrong_of(log, thing, at, row) -/
def m_wrong_of : DS := sRet (dOpN cTuple (daCons (asVal (dComp [2, 3] (.tup [.name 2, .name 3]) (dEnumA (daCons (dOp2 dIx (dVar 0) (dC (.int 3))) (daNil))) (dTruE (dCall 9 2 0 [.p 0, .p 1] [] (daCons (dVar 3) (daCons (dVar 1) (daNil))) (daNil))) (dVar 2))) (daNil)))
def N_wrong_of : List Str := ["log", "thing", "at", "row"]
def d_wrong_of : FD := ⟨"wrong_of", "wrong_of", st_wrong_of, ["log", "thing"], N_wrong_of, m_wrong_of, none, "wrong_of"⟩
/-- possible_of(log, thing) -/
def m_possible_of : DS := sRet (asVal (dComp [1] (.name 1) (dRng1 (daCons (dOp2 dIx (dVar 0) (dC (.int 1))) (daNil))) (dtB (dOp2 dLe (dOpN cLen (daCons (dCall 10 2 0 [.p 0, .p 1] [] (daCons (dVar 0) (daCons (dVar 1) (daNil))) (daNil)) (daNil))) (dOp2 dIx (dVar 0) (dC (.int 2))))) (dVar 1)))
def N_possible_of : List Str := ["log", "thing"]
def d_possible_of : FD := ⟨"possible_of", "possible_of", st_possible_of, ["log"], N_possible_of, m_possible_of, none, "possible_of"⟩
/-- want_log(value) -/
def m_want_log : DS := sSeq (sIf (dtNot (dTruE (dCall 7 1 0 [.p 0] [] (daCons (dVar 0) (daNil)) (daNil)))) (sBad) (sNext)) (sRet (dVar 0))
def N_want_log : List Str := ["value"]
def d_want_log : FD := ⟨"want_log", "want_log", st_want_log, ["value"], N_want_log, m_want_log, none, "want_log"⟩
/-- want_position(log, value) -/
def m_want_position : DS := sSeq (sIf (dtNot (dTruE (dCall 2 2 0 [.p 0, .p 1] [] (daCons (dVar 1) (daCons (dOpN cLen (daCons (dOp2 dIx (dVar 0) (dC (.int 3))) (daNil))) (daNil))) (daNil)))) (sBad) (sNext)) (sRet (dVar 1))
def N_want_position : List Str := ["log", "value"]
def d_want_position : FD := ⟨"want_position", "want_position", st_want_position, ["log", "value"], N_want_position, m_want_position, none, "want_position"⟩
/-- truth_of(log, at, told, thing) -/
def m_truth_of : DS := sSeq (sFrzA [2] (sOwn 2 (dComp [3] (.name 3) (dItems (dCall 11 1 0 [.p 0] [] (daCons (dVar 0) (daNil)) (daNil))) (dtYes) (dCall 9 2 0 [.p 0, .p 1] [] (daCons (dOp2 dIx (dOp2 dIx (dVar 0) (dC (.int 3))) (dVar 1)) (daCons (dVar 3) (daNil))) (daNil))))) (sSeq (sIf (dtB (dOp2 dEq (dVar 2) (dLst (daNil)))) (sRet (dC (.str ("none" : Str)))) (sNext)) (sSeq (sIf (dtB (dOp2 dIn (dC (.bl true)) (dVar 2))) (sRet (dIf (dtB (dOp2 dIn (dC (.bl false)) (dVar 2))) (dC (.str ("open" : Str))) (dC (.str ("wrong" : Str))))) (sNext)) (sRet (dC (.str ("right" : Str))))))
def N_truth_of : List Str := ["log", "at", "told", "thing"]
def d_truth_of : FD := ⟨"truth_of", "truth_of", st_truth_of, ["log", "at"], N_truth_of, m_truth_of, none, "truth_of"⟩
/-- barred_for(log, thing) -/
def m_barred_for : DS := sRet (dTup (daCons (dVar 1) (daCons (dSlice (dCall 10 2 0 [.p 0, .p 1] [] (daCons (dVar 0) (daCons (dVar 1) (daNil))) (daNil)) (dNoPart) (dPart (dOp2 dAdd (dOp2 dIx (dVar 0) (dC (.int 2))) (dC (.int 1))))) (daNil))))
def N_barred_for : List Str := ["log", "thing"]
def d_barred_for : FD := ⟨"barred_for", "barred_for", st_barred_for, ["log", "thing"], N_barred_for, m_barred_for, none, "barred_for"⟩
/-- others_of(log, at, word, thing) -/
def m_others_of : DS := sSeq (sIf (dtB (dOp2 dEq (dVar 2) (dC (.str ("none" : Str))))) (sRet (asVal (dLstRg (dOp2 dIx (dVar 0) (dC (.int 1)))))) (sNext)) (sRet (asVal (dComp [3] (.name 3) (dRng1 (daCons (dOp2 dIx (dVar 0) (dC (.int 1))) (daNil))) (dtB (dOp2 dEq (dCall 9 2 0 [.p 0, .p 1] [] (daCons (dOp2 dIx (dOp2 dIx (dVar 0) (dC (.int 3))) (dVar 1)) (daCons (dVar 3) (daNil))) (daNil)) (dOp2 dEq (dVar 2) (dC (.str ("right" : Str)))))) (dVar 3))))
def N_others_of : List Str := ["log", "at", "word", "thing"]
def d_others_of : FD := ⟨"others_of", "others_of", st_others_of, ["log", "at", "word"], N_others_of, m_others_of, none, "others_of"⟩
/-- first_thing(log, at, is_wrong, thing) -/
def m_first_thing : DS := sRet (dOp2 dIx (asVal (dComp [3] (.name 3) (dItems (dCall 11 1 0 [.p 0] [] (daCons (dVar 0) (daNil)) (daNil))) (dtB (dOp2 dEq (dCall 9 2 0 [.p 0, .p 1] [] (daCons (dOp2 dIx (dOp2 dIx (dVar 0) (dC (.int 3))) (dVar 1)) (daCons (dVar 3) (daNil))) (daNil)) (dVar 2))) (dVar 3))) (dC (.int 0)))
def N_first_thing : List Str := ["log", "at", "is_wrong", "thing"]
def d_first_thing : FD := ⟨"first_thing", "first_thing", st_first_thing, ["log", "at", "is_wrong"], N_first_thing, m_first_thing, none, "first_thing"⟩
/-- paper_of(log, at, word, barred, thing) -/
def m_paper_of : DS := sSeq (sSet 2 (dCall 14 2 0 [.p 0, .p 1] [] (daCons (dVar 0) (daCons (dVar 1) (daNil))) (daNil))) (sSeq (sIf (dtB (dOp2 dEq (dVar 2) (dC (.str ("open" : Str))))) (sRet (dTup (daCons (dC (.str ("open" : Str))) (daCons (dCall 17 3 0 [.p 0, .p 1, .p 2] [] (daCons (dVar 0) (daCons (dVar 1) (daCons (dC (.bl false)) (daNil)))) (daNil)) (daCons (dCall 17 3 0 [.p 0, .p 1, .p 2] [] (daCons (dVar 0) (daCons (dVar 1) (daCons (dC (.bl true)) (daNil)))) (daNil)) (daNil)))))) (sNext)) (sSeq (sSet 3 (dOpN cTuple (daCons (asVal (dComp [4] (.name 4) (dItems (dCall 16 3 0 [.p 0, .p 1, .p 2] [] (daCons (dVar 0) (daCons (dVar 1) (daCons (dVar 2) (daNil)))) (daNil))) (dtYes) (dCall 15 2 0 [.p 0, .p 1] [] (daCons (dVar 0) (daCons (dVar 4) (daNil))) (daNil)))) (daNil)))) (sRet (dIf (dtB (dOp2 dEq (dVar 2) (dC (.str ("none" : Str))))) (dTup (daCons (dC (.str ("none" : Str))) (daCons (dVar 3) (daNil)))) (dTup (daCons (dVar 2) (daCons (dCall 17 3 0 [.p 0, .p 1, .p 2] [] (daCons (dVar 0) (daCons (dVar 1) (daCons (dOp2 dEq (dVar 2) (dC (.str ("wrong" : Str)))) (daNil)))) (daNil)) (daCons (dVar 3) (daNil)))))))))
def N_paper_of : List Str := ["log", "at", "word", "barred", "thing"]
def d_paper_of : FD := ⟨"paper_of", "paper_of", st_paper_of, ["log", "at"], N_paper_of, m_paper_of, none, "paper_of"⟩
/-- is_bar_for(log, thing, value, at) -/
def m_is_bar_for : DS := sSeq (sIf (dtOr (dtNot (dTruE (dCall 3 2 0 [.p 0, .p 1] [] (daCons (dVar 2) (daCons (dC (.int 2)) (daNil))) (daNil)))) (dtOr (dtNot (dTruE (dCall 2 2 0 [.p 0, .p 1] [] (daCons (dOp2 dIx (dVar 2) (dC (.int 0))) (daCons (dOp2 dIx (dVar 0) (dC (.int 1))) (daNil))) (daNil)))) (dtOr (dtB (dOp2 dNe (dOp2 dIx (dVar 2) (dC (.int 0))) (dVar 1))) (dtNot (dTruE (dCall 3 2 0 [.p 0, .p 1] [] (daCons (dOp2 dIx (dVar 2) (dC (.int 1))) (daCons (dOp2 dAdd (dOp2 dIx (dVar 0) (dC (.int 2))) (dC (.int 1))) (daNil))) (daNil))))))) (sRet (dC (.bl false))) (sNext)) (sSeq (sIf (dtOr (dtNot (dTruE (dOpN cAll (daCons (asVal (dComp [3] (.name 3) (dItems (dOp2 dIx (dVar 2) (dC (.int 1)))) (dtYes) (dCall 2 2 0 [.p 0, .p 1] [] (daCons (dVar 3) (daCons (dOpN cLen (daCons (dOp2 dIx (dVar 0) (dC (.int 3))) (daNil))) (daNil))) (daNil)))) (daNil))))) (dtNot (dTruE (dCall 4 1 0 [.p 0] [] (daCons (dOp2 dIx (dVar 2) (dC (.int 1))) (daNil)) (daNil))))) (sRet (dC (.bl false))) (sNext)) (sRet (dOpN cAll (daCons (asVal (dComp [3] (.name 3) (dItems (dOp2 dIx (dVar 2) (dC (.int 1)))) (dtYes) (dCall 9 2 0 [.p 0, .p 1] [] (daCons (dOp2 dIx (dOp2 dIx (dVar 0) (dC (.int 3))) (dVar 3)) (daCons (dVar 1) (daNil))) (daNil)))) (daNil)))))
def N_is_bar_for : List Str := ["log", "thing", "value", "at"]
def d_is_bar_for : FD := ⟨"is_bar_for", "is_bar_for", st_is_bar_for, ["log", "thing", "value"], N_is_bar_for, m_is_bar_for, none, "is_bar_for"⟩
/-- are_bars(log, things, value, thing, one) -/
def m_are_bars : DS := sSeq (sIf (dtNot (dTruE (dCall 3 2 0 [.p 0, .p 1] [] (daCons (dVar 2) (daCons (dOpN cLen (daCons (dVar 1) (daNil))) (daNil))) (daNil)))) (sRet (dC (.bl false))) (sNext)) (sRet (dOpN cAll (daCons (asVal (dComp [3, 4] (.tup [.name 3, .name 4]) (dZipX (daCons (dVar 1) (daCons (dVar 2) (daNil)))) (dtYes) (dCall 19 3 0 [.p 0, .p 1, .p 2] [] (daCons (dVar 0) (daCons (dVar 3) (daCons (dVar 4) (daNil)))) (daNil)))) (daNil))))
def N_are_bars : List Str := ["log", "things", "value", "thing", "one"]
def d_are_bars : FD := ⟨"are_bars", "are_bars", st_are_bars, ["log", "things", "value"], N_are_bars, m_are_bars, none, "are_bars"⟩
/-- is_possible_in(log, value) -/
def m_is_possible_in : DS := sRet (dAnd (dCall 2 2 0 [.p 0, .p 1] [] (daCons (dVar 1) (daCons (dOp2 dIx (dVar 0) (dC (.int 1))) (daNil))) (daNil)) (dOp2 dLe (dOpN cLen (daCons (dCall 10 2 0 [.p 0, .p 1] [] (daCons (dVar 0) (daCons (dVar 1) (daNil))) (daNil)) (daNil))) (dOp2 dIx (dVar 0) (dC (.int 2)))))
def N_is_possible_in : List Str := ["log", "value"]
def d_is_possible_in : FD := ⟨"is_possible_in", "is_possible_in", st_is_possible_in, ["log", "value"], N_is_possible_in, m_is_possible_in, none, "is_possible_in"⟩
/-- is_paper_of(log, at, value) -/
def m_is_paper_of : DS := sSeq (sIf (dtOr (dtNot (dTruE (dIsi (dVar 2) [.tup]))) (dtOr (dtB (dOp2 dNotIn (dOpN cLen (daCons (dVar 2) (daNil))) (dTup (daCons (dC (.int 2)) (daCons (dC (.int 3)) (daNil)))))) (dtNot (dTruE (dIsi (dOp2 dIx (dVar 2) (dC (.int 0))) [.str]))))) (sRet (dC (.bl false))) (sNext)) (sSeq (sIf (dtB (dOp2 dEq (dOp2 dIx (dVar 2) (dC (.int 0))) (dC (.str ("none" : Str))))) (sRet (dAnd (dOp2 dEq (dOpN cLen (daCons (dVar 2) (daNil))) (dC (.int 2))) (dCall 20 3 0 [.p 0, .p 1, .p 2] [] (daCons (dVar 0) (daCons (dCall 16 3 0 [.p 0, .p 1, .p 2] [] (daCons (dVar 0) (daCons (dVar 1) (daCons (dC (.str ("none" : Str))) (daNil)))) (daNil)) (daCons (dOp2 dIx (dVar 2) (dC (.int 1))) (daNil)))) (daNil)))) (sNext)) (sSeq (sIf (dtOr (dtB (dOp2 dNe (dOpN cLen (daCons (dVar 2) (daNil))) (dC (.int 3)))) (dtOr (dtB (dOp2 dNotIn (dOp2 dIx (dVar 2) (dC (.int 0))) (dTup (daCons (dC (.str ("right" : Str))) (daCons (dC (.str ("wrong" : Str))) (daCons (dC (.str ("open" : Str))) (daNil))))))) (dtNot (dTruE (dCall 21 2 0 [.p 0, .p 1] [] (daCons (dVar 0) (daCons (dOp2 dIx (dVar 2) (dC (.int 1))) (daNil))) (daNil)))))) (sRet (dC (.bl false))) (sNext)) (sSeq (sIf (dtB (dOp2 dEq (dOp2 dIx (dVar 2) (dC (.int 0))) (dC (.str ("open" : Str))))) (sSeq (sIf (dtOr (dtNot (dTruE (dCall 21 2 0 [.p 0, .p 1] [] (daCons (dVar 0) (daCons (dOp2 dIx (dVar 2) (dC (.int 2))) (daNil))) (daNil)))) (dTruE (dCall 9 2 0 [.p 0, .p 1] [] (daCons (dOp2 dIx (dOp2 dIx (dVar 0) (dC (.int 3))) (dVar 1)) (daCons (dOp2 dIx (dVar 2) (dC (.int 1))) (daNil))) (daNil)))) (sRet (dC (.bl false))) (sNext)) (sRet (dCall 9 2 0 [.p 0, .p 1] [] (daCons (dOp2 dIx (dOp2 dIx (dVar 0) (dC (.int 3))) (dVar 1)) (daCons (dOp2 dIx (dVar 2) (dC (.int 2))) (daNil))) (daNil)))) (sNext)) (sSeq (sIf (dtB (dOp2 dNe (dCall 9 2 0 [.p 0, .p 1] [] (daCons (dOp2 dIx (dOp2 dIx (dVar 0) (dC (.int 3))) (dVar 1)) (daCons (dOp2 dIx (dVar 2) (dC (.int 1))) (daNil))) (daNil)) (dOp2 dEq (dOp2 dIx (dVar 2) (dC (.int 0))) (dC (.str ("wrong" : Str)))))) (sRet (dC (.bl false))) (sNext)) (sRet (dCall 20 3 0 [.p 0, .p 1, .p 2] [] (daCons (dVar 0) (daCons (dCall 16 3 0 [.p 0, .p 1, .p 2] [] (daCons (dVar 0) (daCons (dVar 1) (daCons (dOp2 dIx (dVar 2) (dC (.int 0))) (daNil)))) (daNil)) (daCons (dOp2 dIx (dVar 2) (dC (.int 2))) (daNil)))) (daNil)))))))
def N_is_paper_of : List Str := ["log", "at", "value"]
def d_is_paper_of : FD := ⟨"is_paper_of", "is_paper_of", st_is_paper_of, ["log", "at", "value"], N_is_paper_of, m_is_paper_of, none, "is_paper_of"⟩
/-- without_row(log, at) -/
def m_without_row : DS := sRet (dCall 8 2 0 [.p 0, .p 1] [] (daCons (dVar 0) (daCons (dOp2 dAdd (dSlice (dOp2 dIx (dVar 0) (dC (.int 3))) (dNoPart) (dPart (dVar 1))) (dSlice (dOp2 dIx (dVar 0) (dC (.int 3))) (dPart (dOp2 dAdd (dVar 1) (dC (.int 1)))) (dNoPart))) (daNil))) (daNil))
def N_without_row : List Str := ["log", "at"]
def d_without_row : FD := ⟨"without_row", "without_row", st_without_row, ["log", "at"], N_without_row, m_without_row, none, "without_row"⟩
/-- is_idle_of(log, at) -/
def m_is_idle_of : DS := sRet (dOp2 dEq (dCall 11 1 0 [.p 0] [] (daCons (dCall 23 2 0 [.p 0, .p 1] [] (daCons (dVar 0) (daCons (dVar 1) (daNil))) (daNil)) (daNil)) (daNil)) (dCall 11 1 0 [.p 0] [] (daCons (dVar 0) (daNil)) (daNil)))
def N_is_idle_of : List Str := ["log", "at"]
def d_is_idle_of : FD := ⟨"is_idle_of", "is_idle_of", st_is_idle_of, ["log", "at"], N_is_idle_of, m_is_idle_of, none, "is_idle_of"⟩
/-- slim_of(log, at) -/
def b_slim_of_0 : DS := sIf (dTruE (dCall 24 2 0 [.p 0, .p 1] [] (daCons (dVar 0) (daCons (dVar 1) (daNil))) (daNil))) (sSet 0 (dCall 23 2 0 [.p 0, .p 1] [] (daCons (dVar 0) (daCons (dVar 1) (daNil))) (daNil))) (sNext)
def m_slim_of : DS := sSeq (sFor (.name 1) (dRng3 (daCons (dOp2 dSub (dOpN cLen (daCons (dOp2 dIx (dVar 0) (dC (.int 3))) (daNil))) (dC (.int 1))) (daCons (dOp1 dNeg (dC (.int 1))) (daCons (dOp1 dNeg (dC (.int 1))) (daNil))))) b_slim_of_0) (sRet (dVar 0))
def N_slim_of : List Str := ["log", "at"]
def d_slim_of : FD := ⟨"slim_of", "slim_of", st_slim_of, ["log"], N_slim_of, m_slim_of, none, "slim_of"⟩
/-- truth(log, position) -/
def m_truth : DS := sSeq (sExpr (dCall 12 1 0 [.p 0] [] (daCons (dVar 0) (daNil)) (daNil))) (sRet (dCall 14 2 0 [.p 0, .p 1] [] (daCons (dVar 0) (daCons (dCall 13 2 0 [.p 0, .p 1] [] (daCons (dVar 0) (daCons (dVar 1) (daNil))) (daNil)) (daNil))) (daNil)))
def N_truth : List Str := ["log", "position"]
def d_truth : FD := ⟨"truth", "truth", st_truth, ["log", "position"], N_truth, m_truth, none, "truth"⟩
/-- truths(log, at) -/
def m_truths : DS := sRet (asVal (dComp [1] (.name 1) (dRng1 (daCons (dOpN cLen (daCons (dOp2 dIx (dCall 12 1 0 [.p 0] [] (daCons (dVar 0) (daNil)) (daNil)) (dC (.int 3))) (daNil))) (daNil))) (dtYes) (dCall 14 2 0 [.p 0, .p 1] [] (daCons (dVar 0) (daCons (dVar 1) (daNil))) (daNil))))
def N_truths : List Str := ["log", "at"]
def d_truths : FD := ⟨"truths", "truths", st_truths, ["log"], N_truths, m_truths, none, "truths"⟩
/-- truth_paper(log, position) -/
def m_truth_paper : DS := sSeq (sExpr (dCall 12 1 0 [.p 0] [] (daCons (dVar 0) (daNil)) (daNil))) (sRet (dCall 18 2 0 [.p 0, .p 1] [] (daCons (dVar 0) (daCons (dCall 13 2 0 [.p 0, .p 1] [] (daCons (dVar 0) (daCons (dVar 1) (daNil))) (daNil)) (daNil))) (daNil)))
def N_truth_paper : List Str := ["log", "position"]
def d_truth_paper : FD := ⟨"truth_paper", "truth_paper", st_truth_paper, ["log", "position"], N_truth_paper, m_truth_paper, none, "truth_paper"⟩
/-- is_truth_paper(log, position, value) -/
def m_is_truth_paper : DS := sSeq (sExpr (dCall 12 1 0 [.p 0] [] (daCons (dVar 0) (daNil)) (daNil))) (sRet (dCall 22 3 0 [.p 0, .p 1, .p 2] [] (daCons (dVar 0) (daCons (dCall 13 2 0 [.p 0, .p 1] [] (daCons (dVar 0) (daCons (dVar 1) (daNil))) (daNil)) (daCons (dVar 2) (daNil)))) (daNil)))
def N_is_truth_paper : List Str := ["log", "position", "value"]
def d_is_truth_paper : FD := ⟨"is_truth_paper", "is_truth_paper", st_is_truth_paper, ["log", "position", "value"], N_is_truth_paper, m_is_truth_paper, none, "is_truth_paper"⟩
/-- is_idle(log, position) -/
def m_is_idle : DS := sSeq (sExpr (dCall 12 1 0 [.p 0] [] (daCons (dVar 0) (daNil)) (daNil))) (sRet (dCall 24 2 0 [.p 0, .p 1] [] (daCons (dVar 0) (daCons (dCall 13 2 0 [.p 0, .p 1] [] (daCons (dVar 0) (daCons (dVar 1) (daNil))) (daNil)) (daNil))) (daNil)))
def N_is_idle : List Str := ["log", "position"]
def d_is_idle : FD := ⟨"is_idle", "is_idle", st_is_idle, ["log", "position"], N_is_idle, m_is_idle, none, "is_idle"⟩
/-- slim(log) -/
def m_slim : DS := sRet (dCall 25 1 0 [.p 0] [] (daCons (dCall 12 1 0 [.p 0] [] (daCons (dVar 0) (daNil)) (daNil)) (daNil)) (daNil))
def N_slim : List Str := ["log"]
def d_slim : FD := ⟨"slim", "slim", st_slim, ["log"], N_slim, m_slim, none, "slim"⟩
/-- _law_pot(script, k, cell) -/
def m__law_pot : DS := sSeq (sSet 2 (dOp2 dAdd (dOp2 dMul (dC (.int 1009)) (dVar 1)) (dC (.int 617)))) (sSeq (sIf (dtB (dOp2 dLt (dVar 1) (dOpN cLen (daCons (dVar 0) (daNil))))) (sSet 2 (dOpN cAbs (daCons (dOp2 dIx (dVar 0) (dVar 1)) (daNil)))) (sNext)) (sRet (asCell (dDisp (daCons (dOpN cMaxL (daCons (dC (.int 0)) (daCons (dOp2 dSub (dVar 2) (dOp2 dPow (dC (.int 10)) (dC (.int 18)))) (daNil)))) (daCons (dOp2 dAdd (dOp2 dMod (dOpN cInt (daCons (dOp2 dAdd (dOp2 dAdd (dOp2 dMul (dOp2 dMod (dOpN cInt (daCons (dVar 2) (daNil))) (dC (.int 2147483549))) (dC (.int 41177))) (dOp2 dMul (dC (.int 617)) (dVar 1))) (dC (.int 59))) (daNil))) (dC (.int 2147483563))) (dC (.int 1))) (daNil)))))))
def N__law_pot : List Str := ["script", "k", "cell"]
def d__law_pot : FD := ⟨"_law_pot", "_law_pot", st__law_pot, ["script", "k"], N__law_pot, m__law_pot, none, "_law_pot"⟩
/-- _law_draw(pot, many, digit) -/
def m__law_draw : DS := sSeq (sIf (dtB (dOp2 dGt (dOp2 dIx (dVar 0) (dC (.int 0))) (dC (.int 0)))) (sSeq (sAsg (dOpN cDivmod (daCons (dOp2 dIx (dVar 0) (dC (.int 0))) (daCons (dVar 1) (daNil)))) (gTup 2 (gsCons (gIx 0 (dC (.int 0))) (gsCons (gName' 2) (gsNil))))) (sRet (dVar 2))) (sNext)) (sSeq (sAsg (dOp2 dMod (dOpN cInt (daCons (dOp2 dAdd (dOp2 dMul (dOp2 dIx (dVar 0) (dC (.int 1))) (dC (.int 48271))) (dC (.int 1051))) (daNil))) (dC (.int 2147483587))) (gIx 0 (dC (.int 1)))) (sRet (dOp2 dMod (dOpN cInt (daCons (dOp2 dFdiv (dOp2 dMod (dOpN cInt (daCons (dOp2 dMul (dOp2 dIx (dVar 0) (dC (.int 1))) (dOp2 dIx (dVar 0) (dC (.int 1)))) (daNil))) (dC (.int 2147483563))) (dC (.int 19))) (daNil))) (dVar 1))))
def N__law_draw : List Str := ["pot", "many", "digit"]
def d__law_draw : FD := ⟨"_law_draw", "_law_draw", st__law_draw, ["pot", "many"], N__law_draw, m__law_draw, none, "_law_draw"⟩
/-- _law_things(pot, many, thing) -/
def m__law_things : DS := sRet (dOpN cTuple (daCons (asVal (dComp [2] (.name 2) (dRng1 (daCons (dVar 1) (daNil))) (dtB (dOp2 dEq (dCall 33 2 0 [.p 0, .p 1] [] (daCons (dVar 0) (daCons (dC (.int 2)) (daNil))) (daNil)) (dC (.int 0)))) (dVar 2))) (daNil)))
def N__law_things : List Str := ["pot", "many", "thing"]
def d__law_things : FD := ⟨"_law_things", "_law_things", st__law_things, ["pot", "many"], N__law_things, m__law_things, none, "_law_things"⟩
/-- _law_is_wrong(row, thing) -/
def m__law_is_wrong : DS := sRet (dOp2 dEq (dOp2 dIn (dVar 1) (dOp2 dIx (dVar 0) (dC (.int 0)))) (dOp2 dEq (dOp2 dIx (dVar 0) (dC (.int 1))) (dC (.str ("no" : Str)))))
def N__law_is_wrong : List Str := ["row", "thing"]
def d__law_is_wrong : FD := ⟨"_law_is_wrong", "_law_is_wrong", st__law_is_wrong, ["row", "thing"], N__law_is_wrong, m__law_is_wrong, none, "_law_is_wrong"⟩
/-- _law_wrong(log, thing, at) -/
def m__law_wrong : DS := sRet (dOpN cTuple (daCons (asVal (dComp [2] (.name 2) (dRng1 (daCons (dOpN cLen (daCons (dOp2 dIx (dVar 0) (dC (.int 3))) (daNil))) (daNil))) (dTruE (dCall 35 2 0 [.p 0, .p 1] [] (daCons (dOp2 dIx (dOp2 dIx (dVar 0) (dC (.int 3))) (dVar 2)) (daCons (dVar 1) (daNil))) (daNil))) (dVar 2))) (daNil)))
def N__law_wrong : List Str := ["log", "thing", "at"]
def d__law_wrong : FD := ⟨"_law_wrong", "_law_wrong", st__law_wrong, ["log", "thing"], N__law_wrong, m__law_wrong, none, "_law_wrong"⟩
/-- _law_possible(log, thing) -/
def m__law_possible : DS := sRet (asVal (dComp [1] (.name 1) (dRng1 (daCons (dOp2 dIx (dVar 0) (dC (.int 1))) (daNil))) (dtB (dOp2 dLe (dOpN cLen (daCons (dCall 36 2 0 [.p 0, .p 1] [] (daCons (dVar 0) (daCons (dVar 1) (daNil))) (daNil)) (daNil))) (dOp2 dIx (dVar 0) (dC (.int 2))))) (dVar 1)))
def N__law_possible : List Str := ["log", "thing"]
def d__law_possible : FD := ⟨"_law_possible", "_law_possible", st__law_possible, ["log"], N__law_possible, m__law_possible, none, "_law_possible"⟩
/-- _law_log(pot, most, rows, many, lies, found, thought, told, turn, things, is_yes) -/
def b__law_log_0 : DS := sSeq (sSet 9 (dCall 34 2 0 [.p 0, .p 1] [] (daCons (dVar 0) (daCons (dVar 3) (daNil))) (daNil))) (sSeq (sSet 10 (dOp2 dIn (dVar 6) (dVar 9))) (sSeq (sIf (dtAnd (dtB (dOp2 dGt (dVar 7) (dC (.int 0)))) (dtB (dOp2 dEq (dCall 33 2 0 [.p 0, .p 1] [] (daCons (dVar 0) (daCons (dC (.int 3)) (daNil))) (daNil)) (dC (.int 0))))) (sPar2 10 7 (dmV (dNot (dVar 10))) (dmV (dOp2 dSub (dVar 7) (dC (.int 1))))) (sNext)) (sAppend 5 (dTup (daCons (dVar 9) (daCons (dIf (dTruE (dVar 10)) (dC (.str ("yes" : Str))) (dC (.str ("no" : Str)))) (daNil)))))))
def m__law_log : DS := sSeq (sPar2 3 4 (dmV (dOp2 dAdd (dC (.int 1)) (dCall 33 2 0 [.p 0, .p 1] [] (daCons (dVar 0) (daCons (dVar 1) (daNil))) (daNil)))) (dmV (dCall 33 2 0 [.p 0, .p 1] [] (daCons (dVar 0) (daCons (dC (.int 4)) (daNil))) (daNil)))) (sSeq (sPar3 5 6 7 (dmO (dDisp (daNil))) (dmV (dCall 33 2 0 [.p 0, .p 1] [] (daCons (dVar 0) (daCons (dVar 3) (daNil))) (daNil))) (dmV (dOp2 dAdd (dVar 4) (dCall 33 2 0 [.p 0, .p 1] [] (daCons (dVar 0) (daCons (dC (.int 2)) (daNil))) (daNil))))) (sSeq (sFor (.name 8) (dRng1 (daCons (dCall 33 2 0 [.p 0, .p 1] [] (daCons (dVar 0) (daCons (dOp2 dAdd (dVar 2) (dC (.int 1))) (daNil))) (daNil)) (daNil))) b__law_log_0) (sRet (dTup (daCons (dC (.str ("log" : Str))) (daCons (dVar 3) (daCons (dVar 4) (daCons (dOpN cTuple (daCons (dVar 5) (daNil))) (daNil)))))))))
def N__law_log : List Str := ["pot", "most", "rows", "many", "lies", "found", "thought", "told", "turn", "things", "is_yes"]
def d__law_log : FD := ⟨"_law_log", "_law_log", st__law_log, ["pot", "most", "rows"], N__law_log, m__law_log, none, "_law_log"⟩
/-- _law_less(log, at) -/
def m__law_less : DS := sRet (dOp2 dAdd (dSlice (dVar 0) (dNoPart) (dPart (dC (.int 3)))) (dTup (daCons (dOp2 dAdd (dSlice (dOp2 dIx (dVar 0) (dC (.int 3))) (dNoPart) (dPart (dVar 1))) (dSlice (dOp2 dIx (dVar 0) (dC (.int 3))) (dPart (dOp2 dAdd (dVar 1) (dC (.int 1)))) (dNoPart))) (daNil))))
def N__law_less : List Str := ["log", "at"]
def d__law_less : FD := ⟨"_law_less", "_law_less", st__law_less, ["log", "at"], N__law_less, m__law_less, none, "_law_less"⟩
/-- _law_truth(log, at, told, thing) -/
def m__law_truth : DS := sSeq (sFrzA [2] (sOwn 2 (dComp [3] (.name 3) (dItems (dCall 37 1 0 [.p 0] [] (daCons (dVar 0) (daNil)) (daNil))) (dtYes) (dCall 35 2 0 [.p 0, .p 1] [] (daCons (dOp2 dIx (dOp2 dIx (dVar 0) (dC (.int 3))) (dVar 1)) (daCons (dVar 3) (daNil))) (daNil))))) (sSeq (sIf (dtB (dOp2 dEq (dVar 2) (dLst (daNil)))) (sRet (dC (.str ("none" : Str)))) (sNext)) (sRet (dIf (dtAnd (dtB (dOp2 dIn (dC (.bl true)) (dVar 2))) (dtB (dOp2 dIn (dC (.bl false)) (dVar 2)))) (dC (.str ("open" : Str))) (dIf (dtB (dOp2 dIn (dC (.bl true)) (dVar 2))) (dC (.str ("wrong" : Str))) (dC (.str ("right" : Str)))))))
def N__law_truth : List Str := ["log", "at", "told", "thing"]
def d__law_truth : FD := ⟨"_law_truth", "_law_truth", st__law_truth, ["log", "at"], N__law_truth, m__law_truth, none, "_law_truth"⟩
/-- _law_bars_right(log, things, bars, thing, positions, at) -/
def b__law_bars_right_0 : DS := sIf (dtOr (dtB (dOp2 dNe (dOpN cLen (daCons (dVar 4) (daNil))) (dOp2 dAdd (dOp2 dIx (dVar 0) (dC (.int 2))) (dC (.int 1))))) (dtOr (dtB (dOp2 dNe (asVal (dListF (daCons (dVar 4) (daNil)))) (asVal (dSortSetI (daCons (dVar 4) (daNil)))))) (dtB (dOp2 dNe (asVal (dComp [5] (.name 5) (dItems (dVar 4)) (dtB (dOp2 dNotIn (dVar 5) (dCall 36 2 0 [.p 0, .p 1] [] (daCons (dVar 0) (daCons (dVar 3) (daNil))) (daNil)))) (dVar 5))) (dLst (daNil)))))) (sRet (dC (.bl false))) (sNext)
def m__law_bars_right : DS := sSeq (sIf (dtB (dOp2 dNe (asVal (dComp [3, 4] (.tup [.name 3, .name 4]) (dItems (dVar 2)) (dtYes) (dVar 3))) (dVar 1))) (sRet (dC (.bl false))) (sNext)) (sSeq (sFor (.tup [.name 3, .name 4]) (dItems (dVar 2)) b__law_bars_right_0) (sRet (dC (.bl true))))
def N__law_bars_right : List Str := ["log", "things", "bars", "thing", "positions", "at"]
def d__law_bars_right : FD := ⟨"_law_bars_right", "_law_bars_right", st__law_bars_right, ["log", "things", "bars"], N__law_bars_right, m__law_bars_right, none, "_law_bars_right"⟩
/-- _law_paper_right(log, at, paper, some, row, others, thing) -/
def m__law_paper_right : DS := sSeq (sAsg (dTup (daCons (dCall 37 1 0 [.p 0] [] (daCons (dVar 0) (daNil)) (daNil)) (daCons (dOp2 dIx (dOp2 dIx (dVar 0) (dC (.int 3))) (dVar 1)) (daNil)))) (gTup 2 (gsCons (gName' 3) (gsCons (gName' 4) (gsNil))))) (sSeq (sIf (dtB (dOp2 dEq (dOp2 dIx (dVar 2) (dC (.int 0))) (dC (.str ("none" : Str))))) (sRet (dCall 41 3 0 [.p 0, .p 1, .p 2] [] (daCons (dVar 0) (daCons (asVal (dLstRg (dOp2 dIx (dVar 0) (dC (.int 1))))) (daCons (dOp2 dIx (dVar 2) (dC (.int 1))) (daNil)))) (daNil))) (sNext)) (sSeq (sIf (dtB (dOp2 dEq (dOp2 dIx (dVar 2) (dC (.int 0))) (dC (.str ("open" : Str))))) (sRet (dAnd (dOp2 dIn (dOp2 dIx (dVar 2) (dC (.int 1))) (dVar 3)) (dAnd (dOp2 dIn (dOp2 dIx (dVar 2) (dC (.int 2))) (dVar 3)) (dAnd (dNot (dCall 35 2 0 [.p 0, .p 1] [] (daCons (dVar 4) (daCons (dOp2 dIx (dVar 2) (dC (.int 1))) (daNil))) (daNil))) (dCall 35 2 0 [.p 0, .p 1] [] (daCons (dVar 4) (daCons (dOp2 dIx (dVar 2) (dC (.int 2))) (daNil))) (daNil)))))) (sNext)) (sSeq (sFrzA [5] (sOwn 5 (dComp [6] (.name 6) (dRng1 (daCons (dOp2 dIx (dVar 0) (dC (.int 1))) (daNil))) (dtB (dOp2 dNe (dCall 35 2 0 [.p 0, .p 1] [] (daCons (dVar 4) (daCons (dVar 6) (daNil))) (daNil)) (dOp2 dEq (dOp2 dIx (dVar 2) (dC (.int 0))) (dC (.str ("wrong" : Str)))))) (dVar 6)))) (sRet (dAnd (dOp2 dIn (dOp2 dIx (dVar 2) (dC (.int 1))) (dVar 3)) (dAnd (dOp2 dNotIn (dOp2 dIx (dVar 2) (dC (.int 1))) (dVar 5)) (dCall 41 3 0 [.p 0, .p 1, .p 2] [] (daCons (dVar 0) (daCons (dVar 5) (daCons (dOp2 dIx (dVar 2) (dC (.int 2))) (daNil)))) (daNil))))))))
def N__law_paper_right : List Str := ["log", "at", "paper", "some", "row", "others", "thing"]
def d__law_paper_right : FD := ⟨"_law_paper_right", "_law_paper_right", st__law_paper_right, ["log", "at", "paper"], N__law_paper_right, m__law_paper_right, none, "_law_paper_right"⟩
/-- _law_right(pot, log, due, at, paper, idle, late) -/
def b__law_right_0 : DS := sSeq (sPar2 4 5 (dmV (dCall 28 2 0 [.p 0, .p 1] [] (daCons (dVar 1) (daCons (dVar 3) (daNil))) (daNil))) (dmV (dOp2 dEq (dCall 37 1 0 [.p 0] [] (daCons (dCall 39 2 0 [.p 0, .p 1] [] (daCons (dVar 1) (daCons (dVar 3) (daNil))) (daNil)) (daNil)) (daNil)) (dCall 37 1 0 [.p 0] [] (daCons (dVar 1) (daNil)) (daNil))))) (sSeq (sIf (dtOr (dtB (dOp2 dNe (dOpN cRepr (daCons (dLst (daCons (dCall 26 2 0 [.p 0, .p 1] [] (daCons (dVar 1) (daCons (dVar 3) (daNil))) (daNil)) (daCons (dCall 26 0 2 [.k 1, .k 0] [] (daNil) (daCons (dVar 3) (daCons (dVar 1) (daNil)))) (daCons (dOp2 dIx (dVar 4) (dC (.int 0))) (daNil))))) (daNil))) (dOpN cRepr (daCons (dOp2 dMul (dLst (daCons (dOp2 dIx (dVar 2) (dVar 3)) (daNil))) (dC (.int 3))) (daNil))))) (dtNot (dTruE (dCall 42 3 0 [.p 0, .p 1, .p 2] [] (daCons (dVar 1) (daCons (dVar 3) (daCons (dVar 4) (daNil)))) (daNil))))) (sRet (dC (.bl false))) (sNext)) (sSeq (sIf (dtOr (dtNot (dTruE (dCall 29 3 0 [.p 0, .p 1, .p 2] [] (daCons (dVar 1) (daCons (dVar 3) (daCons (dVar 4) (daNil)))) (daNil)))) (dtNot (dTruE (dCall 29 0 3 [.k 2, .k 1, .k 0] [] (daNil) (daCons (dCall 28 0 2 [.k 1, .k 0] [] (daNil) (daCons (dVar 3) (daCons (dVar 1) (daNil)))) (daCons (dVar 3) (daCons (dVar 1) (daNil)))))))) (sRet (dC (.bl false))) (sNext)) (sIf (dtB (dOp2 dNe (dOpN cRepr (daCons (dLst (daCons (dCall 30 2 0 [.p 0, .p 1] [] (daCons (dVar 1) (daCons (dVar 3) (daNil))) (daNil)) (daCons (dCall 30 0 2 [.k 1, .k 0] [] (daNil) (daCons (dVar 3) (daCons (dVar 1) (daNil)))) (daNil)))) (daNil))) (dOpN cRepr (daCons (dLst (daCons (dVar 5) (daCons (dVar 5) (daNil)))) (daNil))))) (sRet (dC (.bl false))) (sNext))))
def b__law_right_1 : DS := sSet 6 (dIf (dtB (dOp2 dEq (dCall 37 1 0 [.p 0] [] (daCons (dCall 39 2 0 [.p 0, .p 1] [] (daCons (dVar 6) (daCons (dVar 3) (daNil))) (daNil)) (daNil)) (daNil)) (dCall 37 1 0 [.p 0] [] (daCons (dVar 6) (daNil)) (daNil)))) (dCall 39 2 0 [.p 0, .p 1] [] (daCons (dVar 6) (daCons (dVar 3) (daNil))) (daNil)) (dVar 6))
def m__law_right : DS := sSeq (sSet 1 (dCall 38 3 0 [.p 0, .p 1, .p 2] [] (daCons (dVar 0) (daCons (dC (.int 10)) (daCons (dC (.int 8)) (daNil)))) (daNil))) (sSeq (sFrzA [2] (sOwn 2 (dComp [3] (.name 3) (dRng1 (daCons (dOpN cLen (daCons (dOp2 dIx (dVar 1) (dC (.int 3))) (daNil))) (daNil))) (dtYes) (dCall 40 2 0 [.p 0, .p 1] [] (daCons (dVar 1) (daCons (dVar 3) (daNil))) (daNil))))) (sSeq (sIf (dtB (dOp2 dNe (dOpN cRepr (daCons (dLst (daCons (dCall 27 1 0 [.p 0] [] (daCons (dVar 1) (daNil)) (daNil)) (daCons (dCall 27 0 1 [.k 0] [] (daNil) (daCons (dVar 1) (daNil))) (daNil)))) (daNil))) (dOpN cRepr (daCons (dLst (daCons (dVar 2) (daCons (dVar 2) (daNil)))) (daNil))))) (sRet (dC (.bl false))) (sNext)) (sSeq (sFor (.name 3) (dRng1 (daCons (dOpN cLen (daCons (dOp2 dIx (dVar 1) (dC (.int 3))) (daNil))) (daNil))) b__law_right_0) (sSeq (sSet 6 (dVar 1)) (sSeq (sFor (.name 3) (dRng3 (daCons (dOp2 dSub (dOpN cLen (daCons (dOp2 dIx (dVar 1) (dC (.int 3))) (daNil))) (dC (.int 1))) (daCons (dOp1 dNeg (dC (.int 1))) (daCons (dOp1 dNeg (dC (.int 1))) (daNil))))) b__law_right_1) (sSeq (sIf (dtOr (dtB (dOp2 dNe (dOpN cRepr (daCons (dLst (daCons (dCall 31 1 0 [.p 0] [] (daCons (dVar 1) (daNil)) (daNil)) (daCons (dCall 31 0 1 [.k 0] [] (daNil) (daCons (dVar 1) (daNil))) (daNil)))) (daNil))) (dOpN cRepr (daCons (dLst (daCons (dVar 6) (daCons (dVar 6) (daNil)))) (daNil))))) (dtB (dOp2 dNe (dCall 37 1 0 [.p 0] [] (daCons (dVar 6) (daNil)) (daNil)) (dCall 37 1 0 [.p 0] [] (daCons (dVar 1) (daNil)) (daNil))))) (sRet (dC (.bl false))) (sNext)) (sRet (dOp2 dEq (asVal (dComp [3] (.name 3) (dRng1 (daCons (dOpN cLen (daCons (dOp2 dIx (dVar 6) (dC (.int 3))) (daNil))) (daNil))) (dtB (dOp2 dIsNot (dCall 30 2 0 [.p 0, .p 1] [] (daCons (dVar 6) (daCons (dVar 3) (daNil))) (daNil)) (dC (.bl false)))) (dVar 3))) (dLst (daNil))))))))))
def N__law_right : List Str := ["pot", "log", "due", "at", "paper", "idle", "late"]
def d__law_right : FD := ⟨"_law_right", "_law_right", st__law_right, ["pot"], N__law_right, m__law_right, none, "_law_right"⟩
/-- law(script, k, pot, turn) -/
def b_law_0 : DS := sIf (dtNot (dTruE (dCall 43 1 0 [.p 0] [] (daCons (dVar 2) (daNil)) (daNil)))) (sRet (dC (.bl false))) (sNext)
def b_law_1 : DS := sSeq (sSet 2 (dCall 32 2 0 [.p 0, .p 1] [] (daCons (dVar 0) (daCons (dVar 1) (daNil))) (daNil))) (sFor (.name 3) (dRng1 (daCons (dC (.int 2)) (daNil))) b_law_0)
def m_law : DS := sSeq (sFor (.name 1) (dItems (dTup (daCons (dC (.int 0)) (daCons (dC (.int 1)) (daNil))))) b_law_1) (sRet (dC (.bl true)))
def N_law : List Str := ["script", "k", "pot", "turn"]
def d_law : FD := ⟨"law", "law", st_law, ["script"], N_law, m_law, none, "law"⟩
def tb : List FD := [d_is_integer, d_is_count, d_is_below, d_is_row, d_is_rising, d_is_answer, d_are_things_in, d_is_log_of, d_with_rows, d_is_wrong_for, d_wrong_of, d_possible_of, d_want_log, d_want_position, d_truth_of, d_barred_for, d_others_of, d_first_thing, d_paper_of, d_is_bar_for, d_are_bars, d_is_possible_in, d_is_paper_of, d_without_row, d_is_idle_of, d_slim_of, d_truth, d_truths, d_truth_paper, d_is_truth_paper, d_is_idle, d_slim, d__law_pot, d__law_draw, d__law_things, d__law_is_wrong, d__law_wrong, d__law_possible, d__law_log, d__law_less, d__law_truth, d__law_bars_right, d__law_paper_right, d__law_right, d_law]
def T : Pg := ⟨tb, ["isinstance", "int", "bool", "tuple", "len", "zip", "all", "str", "enumerate", "range", "list", "abs", "max", "divmod", "sorted", "set", "repr"], [("NO", .str ("no" : Str)), ("YES", .str ("yes" : Str)), ("LOG", .str ("log" : Str)), ("MOST_MANY", .int 40), ("MOST_LIES", .int 3), ("MOST_ROWS", .int 24), ("NONE", .str ("none" : Str)), ("OPEN", .str ("open" : Str)), ("WRONG", .str ("wrong" : Str)), ("RIGHT", .str ("right" : Str))], [], []⟩
section
variable {X : Cx} {G : Gx} {k : Nat}
theorem cl__law_bars_right_3 (O : XOk X G T k) : CallOk X G "_law_bars_right" 41 3 [] [.p 0, .p 1, .p 2] [] := O.call 41 (d := d__law_bars_right) rfl 3 [] [.p 0, .p 1, .p 2] rfl fun kV doc pm an cdv ct us ws zs l1 l2 ar => match us, ws, l1, l2, ar with | [_, _, _], [], _, _, rfl => rfl
theorem cl__law_draw_2 (O : XOk X G T k) : CallOk X G "_law_draw" 33 2 [] [.p 0, .p 1] [] := O.call 33 (d := d__law_draw) rfl 2 [] [.p 0, .p 1] rfl fun kV doc pm an cdv ct us ws zs l1 l2 ar => match us, ws, l1, l2, ar with | [_, _], [], _, _, rfl => rfl
theorem cl__law_is_wrong_2 (O : XOk X G T k) : CallOk X G "_law_is_wrong" 35 2 [] [.p 0, .p 1] [] := O.call 35 (d := d__law_is_wrong) rfl 2 [] [.p 0, .p 1] rfl fun kV doc pm an cdv ct us ws zs l1 l2 ar => match us, ws, l1, l2, ar with | [_, _], [], _, _, rfl => rfl
theorem cl__law_less_2 (O : XOk X G T k) : CallOk X G "_law_less" 39 2 [] [.p 0, .p 1] [] := O.call 39 (d := d__law_less) rfl 2 [] [.p 0, .p 1] rfl fun kV doc pm an cdv ct us ws zs l1 l2 ar => match us, ws, l1, l2, ar with | [_, _], [], _, _, rfl => rfl
theorem cl__law_log_3 (O : XOk X G T k) : CallOk X G "_law_log" 38 3 [] [.p 0, .p 1, .p 2] [] := O.call 38 (d := d__law_log) rfl 3 [] [.p 0, .p 1, .p 2] rfl fun kV doc pm an cdv ct us ws zs l1 l2 ar => match us, ws, l1, l2, ar with | [_, _, _], [], _, _, rfl => rfl
theorem cl__law_paper_right_3 (O : XOk X G T k) : CallOk X G "_law_paper_right" 42 3 [] [.p 0, .p 1, .p 2] [] := O.call 42 (d := d__law_paper_right) rfl 3 [] [.p 0, .p 1, .p 2] rfl fun kV doc pm an cdv ct us ws zs l1 l2 ar => match us, ws, l1, l2, ar with | [_, _, _], [], _, _, rfl => rfl
theorem cl__law_possible_1 (O : XOk X G T k) : CallOk X G "_law_possible" 37 1 [] [.p 0] [] := O.call 37 (d := d__law_possible) rfl 1 [] [.p 0] rfl fun kV doc pm an cdv ct us ws zs l1 l2 ar => match us, ws, l1, l2, ar with | [_], [], _, _, rfl => rfl
theorem cl__law_pot_2 (O : XOk X G T k) : CallOk X G "_law_pot" 32 2 [] [.p 0, .p 1] [] := O.call 32 (d := d__law_pot) rfl 2 [] [.p 0, .p 1] rfl fun kV doc pm an cdv ct us ws zs l1 l2 ar => match us, ws, l1, l2, ar with | [_, _], [], _, _, rfl => rfl
theorem cl__law_right_1 (O : XOk X G T k) : CallOk X G "_law_right" 43 1 [] [.p 0] [] := O.call 43 (d := d__law_right) rfl 1 [] [.p 0] rfl fun kV doc pm an cdv ct us ws zs l1 l2 ar => match us, ws, l1, l2, ar with | [_], [], _, _, rfl => rfl
theorem cl__law_things_2 (O : XOk X G T k) : CallOk X G "_law_things" 34 2 [] [.p 0, .p 1] [] := O.call 34 (d := d__law_things) rfl 2 [] [.p 0, .p 1] rfl fun kV doc pm an cdv ct us ws zs l1 l2 ar => match us, ws, l1, l2, ar with | [_, _], [], _, _, rfl => rfl
theorem cl__law_truth_2 (O : XOk X G T k) : CallOk X G "_law_truth" 40 2 [] [.p 0, .p 1] [] := O.call 40 (d := d__law_truth) rfl 2 [] [.p 0, .p 1] rfl fun kV doc pm an cdv ct us ws zs l1 l2 ar => match us, ws, l1, l2, ar with | [_, _], [], _, _, rfl => rfl
theorem cl__law_wrong_2 (O : XOk X G T k) : CallOk X G "_law_wrong" 36 2 [] [.p 0, .p 1] [] := O.call 36 (d := d__law_wrong) rfl 2 [] [.p 0, .p 1] rfl fun kV doc pm an cdv ct us ws zs l1 l2 ar => match us, ws, l1, l2, ar with | [_, _], [], _, _, rfl => rfl
theorem cl_are_bars_3 (O : XOk X G T k) : CallOk X G "are_bars" 20 3 [] [.p 0, .p 1, .p 2] [] := O.call 20 (d := d_are_bars) rfl 3 [] [.p 0, .p 1, .p 2] rfl fun kV doc pm an cdv ct us ws zs l1 l2 ar => match us, ws, l1, l2, ar with | [_, _, _], [], _, _, rfl => rfl
theorem cl_are_things_in_2 (O : XOk X G T k) : CallOk X G "are_things_in" 6 2 [] [.p 0, .p 1] [] := O.call 6 (d := d_are_things_in) rfl 2 [] [.p 0, .p 1] rfl fun kV doc pm an cdv ct us ws zs l1 l2 ar => match us, ws, l1, l2, ar with | [_, _], [], _, _, rfl => rfl
theorem cl_barred_for_2 (O : XOk X G T k) : CallOk X G "barred_for" 15 2 [] [.p 0, .p 1] [] := O.call 15 (d := d_barred_for) rfl 2 [] [.p 0, .p 1] rfl fun kV doc pm an cdv ct us ws zs l1 l2 ar => match us, ws, l1, l2, ar with | [_, _], [], _, _, rfl => rfl
theorem cl_first_thing_3 (O : XOk X G T k) : CallOk X G "first_thing" 17 3 [] [.p 0, .p 1, .p 2] [] := O.call 17 (d := d_first_thing) rfl 3 [] [.p 0, .p 1, .p 2] rfl fun kV doc pm an cdv ct us ws zs l1 l2 ar => match us, ws, l1, l2, ar with | [_, _, _], [], _, _, rfl => rfl
theorem cl_is_answer_1 (O : XOk X G T k) : CallOk X G "is_answer" 5 1 [] [.p 0] [] := O.call 5 (d := d_is_answer) rfl 1 [] [.p 0] rfl fun kV doc pm an cdv ct us ws zs l1 l2 ar => match us, ws, l1, l2, ar with | [_], [], _, _, rfl => rfl
theorem cl_is_bar_for_3 (O : XOk X G T k) : CallOk X G "is_bar_for" 19 3 [] [.p 0, .p 1, .p 2] [] := O.call 19 (d := d_is_bar_for) rfl 3 [] [.p 0, .p 1, .p 2] rfl fun kV doc pm an cdv ct us ws zs l1 l2 ar => match us, ws, l1, l2, ar with | [_, _, _], [], _, _, rfl => rfl
theorem cl_is_below_2 (O : XOk X G T k) : CallOk X G "is_below" 2 2 [] [.p 0, .p 1] [] := O.call 2 (d := d_is_below) rfl 2 [] [.p 0, .p 1] rfl fun kV doc pm an cdv ct us ws zs l1 l2 ar => match us, ws, l1, l2, ar with | [_, _], [], _, _, rfl => rfl
theorem cl_is_count_1 (O : XOk X G T k) : CallOk X G "is_count" 1 1 [] [.p 0] [] := O.call 1 (d := d_is_count) rfl 1 [] [.p 0] rfl fun kV doc pm an cdv ct us ws zs l1 l2 ar => match us, ws, l1, l2, ar with | [_], [], _, _, rfl => rfl
theorem cl_is_idle_0_position_log (O : XOk X G T k) : CallOk X G "is_idle" 30 0 ["position", "log"] [.k 1, .k 0] [] := O.call 30 (d := d_is_idle) rfl 0 ["position", "log"] [.k 1, .k 0] rfl fun kV doc pm an cdv ct us ws zs l1 l2 ar => match us, ws, l1, l2, ar with | [], [_, _], _, _, rfl => rfl
theorem cl_is_idle_2 (O : XOk X G T k) : CallOk X G "is_idle" 30 2 [] [.p 0, .p 1] [] := O.call 30 (d := d_is_idle) rfl 2 [] [.p 0, .p 1] rfl fun kV doc pm an cdv ct us ws zs l1 l2 ar => match us, ws, l1, l2, ar with | [_, _], [], _, _, rfl => rfl
theorem cl_is_idle_of_2 (O : XOk X G T k) : CallOk X G "is_idle_of" 24 2 [] [.p 0, .p 1] [] := O.call 24 (d := d_is_idle_of) rfl 2 [] [.p 0, .p 1] rfl fun kV doc pm an cdv ct us ws zs l1 l2 ar => match us, ws, l1, l2, ar with | [_, _], [], _, _, rfl => rfl
theorem cl_is_integer_1 (O : XOk X G T k) : CallOk X G "is_integer" 0 1 [] [.p 0] [] := O.call 0 (d := d_is_integer) rfl 1 [] [.p 0] rfl fun kV doc pm an cdv ct us ws zs l1 l2 ar => match us, ws, l1, l2, ar with | [_], [], _, _, rfl => rfl
theorem cl_is_log_of_1 (O : XOk X G T k) : CallOk X G "is_log_of" 7 1 [] [.p 0] [] := O.call 7 (d := d_is_log_of) rfl 1 [] [.p 0] rfl fun kV doc pm an cdv ct us ws zs l1 l2 ar => match us, ws, l1, l2, ar with | [_], [], _, _, rfl => rfl
theorem cl_is_paper_of_3 (O : XOk X G T k) : CallOk X G "is_paper_of" 22 3 [] [.p 0, .p 1, .p 2] [] := O.call 22 (d := d_is_paper_of) rfl 3 [] [.p 0, .p 1, .p 2] rfl fun kV doc pm an cdv ct us ws zs l1 l2 ar => match us, ws, l1, l2, ar with | [_, _, _], [], _, _, rfl => rfl
theorem cl_is_possible_in_2 (O : XOk X G T k) : CallOk X G "is_possible_in" 21 2 [] [.p 0, .p 1] [] := O.call 21 (d := d_is_possible_in) rfl 2 [] [.p 0, .p 1] rfl fun kV doc pm an cdv ct us ws zs l1 l2 ar => match us, ws, l1, l2, ar with | [_, _], [], _, _, rfl => rfl
theorem cl_is_rising_1 (O : XOk X G T k) : CallOk X G "is_rising" 4 1 [] [.p 0] [] := O.call 4 (d := d_is_rising) rfl 1 [] [.p 0] rfl fun kV doc pm an cdv ct us ws zs l1 l2 ar => match us, ws, l1, l2, ar with | [_], [], _, _, rfl => rfl
theorem cl_is_row_2 (O : XOk X G T k) : CallOk X G "is_row" 3 2 [] [.p 0, .p 1] [] := O.call 3 (d := d_is_row) rfl 2 [] [.p 0, .p 1] rfl fun kV doc pm an cdv ct us ws zs l1 l2 ar => match us, ws, l1, l2, ar with | [_, _], [], _, _, rfl => rfl
theorem cl_is_truth_paper_0_value_position_log (O : XOk X G T k) : CallOk X G "is_truth_paper" 29 0 ["value", "position", "log"] [.k 2, .k 1, .k 0] [] := O.call 29 (d := d_is_truth_paper) rfl 0 ["value", "position", "log"] [.k 2, .k 1, .k 0] rfl fun kV doc pm an cdv ct us ws zs l1 l2 ar => match us, ws, l1, l2, ar with | [], [_, _, _], _, _, rfl => rfl
theorem cl_is_truth_paper_3 (O : XOk X G T k) : CallOk X G "is_truth_paper" 29 3 [] [.p 0, .p 1, .p 2] [] := O.call 29 (d := d_is_truth_paper) rfl 3 [] [.p 0, .p 1, .p 2] rfl fun kV doc pm an cdv ct us ws zs l1 l2 ar => match us, ws, l1, l2, ar with | [_, _, _], [], _, _, rfl => rfl
theorem cl_is_wrong_for_2 (O : XOk X G T k) : CallOk X G "is_wrong_for" 9 2 [] [.p 0, .p 1] [] := O.call 9 (d := d_is_wrong_for) rfl 2 [] [.p 0, .p 1] rfl fun kV doc pm an cdv ct us ws zs l1 l2 ar => match us, ws, l1, l2, ar with | [_, _], [], _, _, rfl => rfl
theorem cl_others_of_3 (O : XOk X G T k) : CallOk X G "others_of" 16 3 [] [.p 0, .p 1, .p 2] [] := O.call 16 (d := d_others_of) rfl 3 [] [.p 0, .p 1, .p 2] rfl fun kV doc pm an cdv ct us ws zs l1 l2 ar => match us, ws, l1, l2, ar with | [_, _, _], [], _, _, rfl => rfl
theorem cl_paper_of_2 (O : XOk X G T k) : CallOk X G "paper_of" 18 2 [] [.p 0, .p 1] [] := O.call 18 (d := d_paper_of) rfl 2 [] [.p 0, .p 1] rfl fun kV doc pm an cdv ct us ws zs l1 l2 ar => match us, ws, l1, l2, ar with | [_, _], [], _, _, rfl => rfl
theorem cl_possible_of_1 (O : XOk X G T k) : CallOk X G "possible_of" 11 1 [] [.p 0] [] := O.call 11 (d := d_possible_of) rfl 1 [] [.p 0] rfl fun kV doc pm an cdv ct us ws zs l1 l2 ar => match us, ws, l1, l2, ar with | [_], [], _, _, rfl => rfl
theorem cl_slim_0_log (O : XOk X G T k) : CallOk X G "slim" 31 0 ["log"] [.k 0] [] := O.call 31 (d := d_slim) rfl 0 ["log"] [.k 0] rfl fun kV doc pm an cdv ct us ws zs l1 l2 ar => match us, ws, l1, l2, ar with | [], [_], _, _, rfl => rfl
theorem cl_slim_1 (O : XOk X G T k) : CallOk X G "slim" 31 1 [] [.p 0] [] := O.call 31 (d := d_slim) rfl 1 [] [.p 0] rfl fun kV doc pm an cdv ct us ws zs l1 l2 ar => match us, ws, l1, l2, ar with | [_], [], _, _, rfl => rfl
theorem cl_slim_of_1 (O : XOk X G T k) : CallOk X G "slim_of" 25 1 [] [.p 0] [] := O.call 25 (d := d_slim_of) rfl 1 [] [.p 0] rfl fun kV doc pm an cdv ct us ws zs l1 l2 ar => match us, ws, l1, l2, ar with | [_], [], _, _, rfl => rfl
theorem cl_truth_0_position_log (O : XOk X G T k) : CallOk X G "truth" 26 0 ["position", "log"] [.k 1, .k 0] [] := O.call 26 (d := d_truth) rfl 0 ["position", "log"] [.k 1, .k 0] rfl fun kV doc pm an cdv ct us ws zs l1 l2 ar => match us, ws, l1, l2, ar with | [], [_, _], _, _, rfl => rfl
theorem cl_truth_2 (O : XOk X G T k) : CallOk X G "truth" 26 2 [] [.p 0, .p 1] [] := O.call 26 (d := d_truth) rfl 2 [] [.p 0, .p 1] rfl fun kV doc pm an cdv ct us ws zs l1 l2 ar => match us, ws, l1, l2, ar with | [_, _], [], _, _, rfl => rfl
theorem cl_truth_of_2 (O : XOk X G T k) : CallOk X G "truth_of" 14 2 [] [.p 0, .p 1] [] := O.call 14 (d := d_truth_of) rfl 2 [] [.p 0, .p 1] rfl fun kV doc pm an cdv ct us ws zs l1 l2 ar => match us, ws, l1, l2, ar with | [_, _], [], _, _, rfl => rfl
theorem cl_truth_paper_0_position_log (O : XOk X G T k) : CallOk X G "truth_paper" 28 0 ["position", "log"] [.k 1, .k 0] [] := O.call 28 (d := d_truth_paper) rfl 0 ["position", "log"] [.k 1, .k 0] rfl fun kV doc pm an cdv ct us ws zs l1 l2 ar => match us, ws, l1, l2, ar with | [], [_, _], _, _, rfl => rfl
theorem cl_truth_paper_2 (O : XOk X G T k) : CallOk X G "truth_paper" 28 2 [] [.p 0, .p 1] [] := O.call 28 (d := d_truth_paper) rfl 2 [] [.p 0, .p 1] rfl fun kV doc pm an cdv ct us ws zs l1 l2 ar => match us, ws, l1, l2, ar with | [_, _], [], _, _, rfl => rfl
theorem cl_truths_0_log (O : XOk X G T k) : CallOk X G "truths" 27 0 ["log"] [.k 0] [] := O.call 27 (d := d_truths) rfl 0 ["log"] [.k 0] rfl fun kV doc pm an cdv ct us ws zs l1 l2 ar => match us, ws, l1, l2, ar with | [], [_], _, _, rfl => rfl
theorem cl_truths_1 (O : XOk X G T k) : CallOk X G "truths" 27 1 [] [.p 0] [] := O.call 27 (d := d_truths) rfl 1 [] [.p 0] rfl fun kV doc pm an cdv ct us ws zs l1 l2 ar => match us, ws, l1, l2, ar with | [_], [], _, _, rfl => rfl
theorem cl_want_log_1 (O : XOk X G T k) : CallOk X G "want_log" 12 1 [] [.p 0] [] := O.call 12 (d := d_want_log) rfl 1 [] [.p 0] rfl fun kV doc pm an cdv ct us ws zs l1 l2 ar => match us, ws, l1, l2, ar with | [_], [], _, _, rfl => rfl
theorem cl_want_position_2 (O : XOk X G T k) : CallOk X G "want_position" 13 2 [] [.p 0, .p 1] [] := O.call 13 (d := d_want_position) rfl 2 [] [.p 0, .p 1] rfl fun kV doc pm an cdv ct us ws zs l1 l2 ar => match us, ws, l1, l2, ar with | [_, _], [], _, _, rfl => rfl
theorem cl_with_rows_2 (O : XOk X G T k) : CallOk X G "with_rows" 8 2 [] [.p 0, .p 1] [] := O.call 8 (d := d_with_rows) rfl 2 [] [.p 0, .p 1] rfl fun kV doc pm an cdv ct us ws zs l1 l2 ar => match us, ws, l1, l2, ar with | [_, _], [], _, _, rfl => rfl
theorem cl_without_row_2 (O : XOk X G T k) : CallOk X G "without_row" 23 2 [] [.p 0, .p 1] [] := O.call 23 (d := d_without_row) rfl 2 [] [.p 0, .p 1] rfl fun kV doc pm an cdv ct us ws zs l1 l2 ar => match us, ws, l1, l2, ar with | [_, _], [], _, _, rfl => rfl
theorem cl_wrong_of_2 (O : XOk X G T k) : CallOk X G "wrong_of" 10 2 [] [.p 0, .p 1] [] := O.call 10 (d := d_wrong_of) rfl 2 [] [.p 0, .p 1] rfl fun kV doc pm an cdv ct us ws zs l1 l2 ar => match us, ws, l1, l2, ar with | [_, _], [], _, _, rfl => rfl
end
theorem ok_is_integer : BodyOk T d_is_integer := by
  refine ⟨⟨rfl, rfl, rfl, by decide +kernel, rfl, by decide +kernel, by decide +kernel⟩, fun X G g0 H0 k O0 S0 => ?_⟩
  have v0_0 := S0.var 0 ("value" : Str) (by decide +kernel)
  have b0_isinstance := O0.blt S0 ("isinstance" : Str) _ PyProof.Rows.boot_isinstance (by decide +kernel)
  have b0_int := O0.blt S0 ("int" : Str) (.type "int") PyProof.Rows.boot_int (by decide +kernel)
  have b0_bool := O0.blt S0 ("bool" : Str) (.type "bool") PyProof.Rows.boot_bool (by decide +kernel)
  exact ss_one (s_ret (s_andV (isi_ b0_isinstance (v_ v0_0) (BltOk.ty (t := .int) b0_int) rfl) (s_oneV (s_notV (isi_ b0_isinstance (v_ v0_0) (BltOk.ty (t := .bl) b0_bool) rfl)))))
theorem ok_is_count : BodyOk T d_is_count := by
  refine ⟨⟨rfl, rfl, rfl, by decide +kernel, rfl, by decide +kernel, by decide +kernel⟩, fun X G g0 H0 k O0 S0 => ?_⟩
  have v0_0 := S0.var 0 ("value" : Str) (by decide +kernel)
  have g0_is_integer := S0.glo ("is_integer" : Str) (by decide +kernel)
  exact ss_one (s_ret (s_andV (call_ O0 g0_is_integer (cl_is_integer_1 O0) (s_paCons (v_ v0_0) (s_paNil) rfl) (s_pkNil) rfl rfl (fun z => nomatch z)) (s_oneV (s_cmp o_ge (v_ v0_0) (s_int) rfl))))
theorem ok_is_below : BodyOk T d_is_below := by
  refine ⟨⟨rfl, rfl, rfl, by decide +kernel, rfl, by decide +kernel, by decide +kernel⟩, fun X G g0 H0 k O0 S0 => ?_⟩
  have v0_0 := S0.var 0 ("value" : Str) (by decide +kernel)
  have g0_is_count := S0.glo ("is_count" : Str) (by decide +kernel)
  have v0_1 := S0.var 1 ("many" : Str) (by decide +kernel)
  exact ss_one (s_ret (s_andV (call_ O0 g0_is_count (cl_is_count_1 O0) (s_paCons (v_ v0_0) (s_paNil) rfl) (s_pkNil) rfl rfl (fun z => nomatch z)) (s_oneV (s_cmp o_lt (v_ v0_0) (v_ v0_1) rfl))))
theorem ok_is_row : BodyOk T d_is_row := by
  refine ⟨⟨rfl, rfl, rfl, by decide +kernel, rfl, by decide +kernel, by decide +kernel⟩, fun X G g0 H0 k O0 S0 => ?_⟩
  have v0_0 := S0.var 0 ("value" : Str) (by decide +kernel)
  have b0_isinstance := O0.blt S0 ("isinstance" : Str) _ PyProof.Rows.boot_isinstance (by decide +kernel)
  have b0_tuple := O0.blt S0 ("tuple" : Str) (.type "tuple") PyProof.Rows.boot_tuple (by decide +kernel)
  have b0_len := O0.blt S0 ("len" : Str) _ PySem.boot_len (by decide +kernel)
  have v0_1 := S0.var 1 ("many" : Str) (by decide +kernel)
  exact ss_one (s_ret (s_andV (isi_ b0_isinstance (v_ v0_0) (BltOk.ty (t := .tup) b0_tuple) rfl) (s_oneV (s_cmp (o_eq O0.un) (bl_ b0_len c_len (s_paCons (v_ v0_0) (s_paNil) rfl) rfl) (v_ v0_1) rfl))))
theorem ok_is_rising : BodyOk T d_is_rising := by
  refine ⟨⟨rfl, rfl, rfl, by decide +kernel, rfl, by decide +kernel, by decide +kernel⟩, fun X G g0 H0 k O0 S0 => ?_⟩
  have v0_0 := S0.var 0 ("items" : Str) (by decide +kernel)
  have b0_zip := O0.blt S0 ("zip" : Str) _ PyProof.Rows.boot_zip (by decide +kernel)
  have b0_all := O0.blt S0 ("all" : Str) _ PyProof.Rows.boot_all (by decide +kernel)
  exact ss_one (s_ret (bl_ b0_all (c_all O0.calm) (s_paCons (PE.val (comp_ O0 S0 [(("near" : Str), 1), (("far" : Str), 2)] (zipX_ b0_zip (s_paCons (v_ v0_0) (s_paCons (s_slice (v_ v0_0) (s_part (s_int)) (s_noPart)) (s_paNil) rfl) rfl) rfl rfl) ⟨rfl, by decide +kernel, by decide +kernel, by decide +kernel, by decide +kernel⟩ (by decide) (fun X1 O1 S1 => by have t1_1 := S1.tgt 1 ("near" : Str) (by decide +kernel); have t1_2 := S1.tgt 2 ("far" : Str) (by decide +kernel); exact s_gTup O1.calm (s_gsCons (g_ t1_1) (s_gsCons (g_ t1_2) (s_gsNil) rfl) rfl) rfl rfl) (fun X1 O1 S1 => by exact pts0_) (fun X1 O1 S1 => by have v1_1 := S1.var 1 ("near" : Str) (by decide +kernel); have v1_2 := S1.var 2 ("far" : Str) (by decide +kernel); exact s_cmp o_lt (v_ v1_1) (v_ v1_2) rfl) (fun _ => rfl))) (s_paNil) rfl) rfl))
theorem ok_is_answer : BodyOk T d_is_answer := by
  refine ⟨⟨rfl, rfl, rfl, by decide +kernel, rfl, by decide +kernel, by decide +kernel⟩, fun X G g0 H0 k O0 S0 => ?_⟩
  have v0_0 := S0.var 0 ("value" : Str) (by decide +kernel)
  have b0_isinstance := O0.blt S0 ("isinstance" : Str) _ PyProof.Rows.boot_isinstance (by decide +kernel)
  have b0_str := O0.blt S0 ("str" : Str) (.type "str") PyProof.Rows.boot_str (by decide +kernel)
  have g0_NO := S0.glo ("NO" : Str) (by decide +kernel)
  have g0_YES := S0.glo ("YES" : Str) (by decide +kernel)
  exact ss_one (s_ret (s_andV (isi_ b0_isinstance (v_ v0_0) (BltOk.ty (t := .str) b0_str) rfl) (s_oneV (s_cmp (o_in O0.un65) (v_ v0_0) (s_tup (s_paCons (O0.val g0_YES (.tail _ (.head _))) (s_paCons (O0.val g0_NO (.head _)) (s_paNil) rfl) rfl)) rfl))))
theorem ok_are_things_in : BodyOk T d_are_things_in := by
  refine ⟨⟨rfl, rfl, rfl, by decide +kernel, rfl, by decide +kernel, by decide +kernel⟩, fun X G g0 H0 k O0 S0 => ?_⟩
  have v0_1 := S0.var 1 ("value" : Str) (by decide +kernel)
  have b0_isinstance := O0.blt S0 ("isinstance" : Str) _ PyProof.Rows.boot_isinstance (by decide +kernel)
  have b0_tuple := O0.blt S0 ("tuple" : Str) (.type "tuple") PyProof.Rows.boot_tuple (by decide +kernel)
  have b0_all := O0.blt S0 ("all" : Str) _ PyProof.Rows.boot_all (by decide +kernel)
  have g0_is_rising := S0.glo ("is_rising" : Str) (by decide +kernel)
  exact ss_one (s_ret (s_andV (isi_ b0_isinstance (v_ v0_1) (BltOk.ty (t := .tup) b0_tuple) rfl) (s_andV (bl_ b0_all (c_all O0.calm) (s_paCons (PE.val (comp_ O0 S0 [(("thing" : Str), 2)] (s_items (v_ v0_1)) ⟨rfl, by decide +kernel, by decide +kernel, by decide +kernel, by decide +kernel⟩ (by decide) (fun X1 O1 S1 => by have t1_2 := S1.tgt 2 ("thing" : Str) (by decide +kernel); exact g_ t1_2) (fun X1 O1 S1 => by exact pts0_) (fun X1 O1 S1 => by have v1_0 := S1.var 0 ("many" : Str) (by decide +kernel); have v1_2 := S1.var 2 ("thing" : Str) (by decide +kernel); have g1_is_below := S1.glo ("is_below" : Str) (by decide +kernel); exact call_ O1 g1_is_below (cl_is_below_2 O1) (s_paCons (v_ v1_2) (s_paCons (v_ v1_0) (s_paNil) rfl) rfl) (s_pkNil) rfl rfl (fun z => nomatch z)) (fun _ => rfl))) (s_paNil) rfl) rfl) (s_oneV (call_ O0 g0_is_rising (cl_is_rising_1 O0) (s_paCons (v_ v0_1) (s_paNil) rfl) (s_pkNil) rfl rfl (fun z => nomatch z))))))
theorem ok_is_log_of : BodyOk T d_is_log_of := by
  refine ⟨⟨rfl, rfl, rfl, by decide +kernel, rfl, by decide +kernel, by decide +kernel⟩, fun X G g0 H0 k O0 S0 => ?_⟩
  have v0_0 := S0.var 0 ("value" : Str) (by decide +kernel)
  have g0_is_row := S0.glo ("is_row" : Str) (by decide +kernel)
  have b0_isinstance := O0.blt S0 ("isinstance" : Str) _ PyProof.Rows.boot_isinstance (by decide +kernel)
  have b0_str := O0.blt S0 ("str" : Str) (.type "str") PyProof.Rows.boot_str (by decide +kernel)
  have g0_LOG := S0.glo ("LOG" : Str) (by decide +kernel)
  have g0_is_integer := S0.glo ("is_integer" : Str) (by decide +kernel)
  have g0_MOST_MANY := S0.glo ("MOST_MANY" : Str) (by decide +kernel)
  have g0_is_count := S0.glo ("is_count" : Str) (by decide +kernel)
  have g0_MOST_LIES := S0.glo ("MOST_LIES" : Str) (by decide +kernel)
  have b0_tuple := O0.blt S0 ("tuple" : Str) (.type "tuple") PyProof.Rows.boot_tuple (by decide +kernel)
  have b0_len := O0.blt S0 ("len" : Str) _ PySem.boot_len (by decide +kernel)
  have g0_MOST_ROWS := S0.glo ("MOST_ROWS" : Str) (by decide +kernel)
  have b0_all := O0.blt S0 ("all" : Str) _ PyProof.Rows.boot_all (by decide +kernel)
  exact ss_cons (s_ifS ((s_or (s_notT (s_truth (call_ O0 g0_is_row (cl_is_row_2 O0) (s_paCons (v_ v0_0) (s_paCons (s_int) (s_paNil) rfl) rfl) (s_pkNil) rfl rfl (fun z => nomatch z)) (fun _ => rfl))) (s_or (s_notT (s_truth (isi_ b0_isinstance (s_ix (v_ v0_0) (s_int) rfl) (BltOk.ty (t := .str) b0_str) rfl) (fun _ => rfl))) (s_or1 (cmpT_ (o_ne O0.un) (s_ix (v_ v0_0) (s_int) rfl) (O0.val g0_LOG (.tail _ (.tail _ (.head _)))) rfl)))).pt) (ss_one (s_ret (s_bl))) (ss_nil)) (ss_cons (s_ifS ((s_or (s_notT (s_truth (call_ O0 g0_is_integer (cl_is_integer_1 O0) (s_paCons (s_ix (v_ v0_0) (s_int) rfl) (s_paNil) rfl) (s_pkNil) rfl rfl (fun z => nomatch z)) (fun _ => rfl))) (s_or (s_notT (chainT_ o_le o_le (s_int) (s_ix (v_ v0_0) (s_int) rfl) (O0.val g0_MOST_MANY (.tail _ (.tail _ (.tail _ (.head _))))) rfl)) (s_or (s_notT (s_truth (call_ O0 g0_is_count (cl_is_count_1 O0) (s_paCons (s_ix (v_ v0_0) (s_int) rfl) (s_paNil) rfl) (s_pkNil) rfl rfl (fun z => nomatch z)) (fun _ => rfl))) (s_or1 (cmpT_ o_gt (s_ix (v_ v0_0) (s_int) rfl) (O0.val g0_MOST_LIES (.tail _ (.tail _ (.tail _ (.tail _ (.head _)))))) rfl))))).pt) (ss_one (s_ret (s_bl))) (ss_nil)) (ss_cons (s_ifS ((s_or (s_notT (s_truth (isi_ b0_isinstance (s_ix (v_ v0_0) (s_int) rfl) (BltOk.ty (t := .tup) b0_tuple) rfl) (fun _ => rfl))) (s_or (cmpT_ o_gt (bl_ b0_len c_len (s_paCons (s_ix (v_ v0_0) (s_int) rfl) (s_paNil) rfl) rfl) (O0.val g0_MOST_ROWS (.tail _ (.tail _ (.tail _ (.tail _ (.tail _ (.head _))))))) rfl) (s_or1 (s_notT (s_truth (bl_ b0_all (c_all O0.calm) (s_paCons (PE.val (comp_ O0 S0 [(("row" : Str), 1)] (s_items (s_ix (v_ v0_0) (s_int) rfl)) ⟨rfl, by decide +kernel, by decide +kernel, by decide +kernel, by decide +kernel⟩ (by decide) (fun X1 O1 S1 => by have t1_1 := S1.tgt 1 ("row" : Str) (by decide +kernel); exact g_ t1_1) (fun X1 O1 S1 => by exact pts0_) (fun X1 O1 S1 => by have v1_1 := S1.var 1 ("row" : Str) (by decide +kernel); have g1_is_row := S1.glo ("is_row" : Str) (by decide +kernel); exact call_ O1 g1_is_row (cl_is_row_2 O1) (s_paCons (v_ v1_1) (s_paCons (s_int) (s_paNil) rfl) rfl) (s_pkNil) rfl rfl (fun z => nomatch z)) (fun _ => rfl))) (s_paNil) rfl) rfl) (fun _ => rfl)))))).pt) (ss_one (s_ret (s_bl))) (ss_nil)) (ss_one (s_ret (bl_ b0_all (c_all O0.calm) (s_paCons (PE.val (comp_ O0 S0 [(("things" : Str), 2), (("answer" : Str), 3)] (s_items (s_ix (v_ v0_0) (s_int) rfl)) ⟨rfl, by decide +kernel, by decide +kernel, by decide +kernel, by decide +kernel⟩ (by decide) (fun X1 O1 S1 => by have t1_2 := S1.tgt 2 ("things" : Str) (by decide +kernel); have t1_3 := S1.tgt 3 ("answer" : Str) (by decide +kernel); exact s_gTup O1.calm (s_gsCons (g_ t1_2) (s_gsCons (g_ t1_3) (s_gsNil) rfl) rfl) rfl rfl) (fun X1 O1 S1 => by exact pts0_) (fun X1 O1 S1 => by have v1_2 := S1.var 2 ("things" : Str) (by decide +kernel); have v1_0 := S1.var 0 ("value" : Str) (by decide +kernel); have g1_are_things_in := S1.glo ("are_things_in" : Str) (by decide +kernel); have v1_3 := S1.var 3 ("answer" : Str) (by decide +kernel); have g1_is_answer := S1.glo ("is_answer" : Str) (by decide +kernel); exact s_andV (call_ O1 g1_are_things_in (cl_are_things_in_2 O1) (s_paCons (s_ix (v_ v1_0) (s_int) rfl) (s_paCons (v_ v1_2) (s_paNil) rfl) rfl) (s_pkNil) rfl rfl (fun z => nomatch z)) (s_oneV (call_ O1 g1_is_answer (cl_is_answer_1 O1) (s_paCons (v_ v1_3) (s_paNil) rfl) (s_pkNil) rfl rfl (fun z => nomatch z)))) (fun _ => rfl))) (s_paNil) rfl) rfl)))))
theorem ok_with_rows : BodyOk T d_with_rows := by
  refine ⟨⟨rfl, rfl, rfl, by decide +kernel, rfl, by decide +kernel, by decide +kernel⟩, fun X G g0 H0 k O0 S0 => ?_⟩
  have v0_0 := S0.var 0 ("log" : Str) (by decide +kernel)
  have v0_1 := S0.var 1 ("rows" : Str) (by decide +kernel)
  have b0_tuple := O0.blt S0 ("tuple" : Str) (.type "tuple") PyProof.Rows.boot_tuple (by decide +kernel)
  exact ss_one (s_ret (s_bin o_add (s_slice (v_ v0_0) (s_noPart) (s_part (s_int))) (s_tup (s_paCons (ty_ b0_tuple c_tuple (s_paCons (v_ v0_1) (s_paNil) rfl) rfl) (s_paNil) rfl))))
theorem ok_is_wrong_for : BodyOk T d_is_wrong_for := by
  refine ⟨⟨rfl, rfl, rfl, by decide +kernel, rfl, by decide +kernel, by decide +kernel⟩, fun X G g0 H0 k O0 S0 => ?_⟩
  have v0_1 := S0.var 1 ("thing" : Str) (by decide +kernel)
  have v0_0 := S0.var 0 ("row" : Str) (by decide +kernel)
  have g0_NO := S0.glo ("NO" : Str) (by decide +kernel)
  exact ss_one (s_ret (s_cmp (o_eq O0.un) (s_cmp (o_in O0.un65) (v_ v0_1) (s_ix (v_ v0_0) (s_int) rfl) rfl) (s_cmp (o_eq O0.un) (s_ix (v_ v0_0) (s_int) rfl) (O0.val g0_NO (.head _)) rfl) rfl))
theorem ok_wrong_of : BodyOk T d_wrong_of := by
  refine ⟨⟨rfl, rfl, rfl, by decide +kernel, rfl, by decide +kernel, by decide +kernel⟩, fun X G g0 H0 k O0 S0 => ?_⟩
  have v0_0 := S0.var 0 ("log" : Str) (by decide +kernel)
  have b0_enumerate := O0.blt S0 ("enumerate" : Str) _ PyProof.Rows.boot_enumerate (by decide +kernel)
  have b0_tuple := O0.blt S0 ("tuple" : Str) (.type "tuple") PyProof.Rows.boot_tuple (by decide +kernel)
  exact ss_one (s_ret (ty_ b0_tuple c_tuple (s_paCons (PE.val (comp_ O0 S0 [(("at" : Str), 2), (("row" : Str), 3)] (enumA_ b0_enumerate (s_paCons (s_ix (v_ v0_0) (s_int) rfl) (s_paNil) rfl) rfl) ⟨rfl, by decide +kernel, by decide +kernel, by decide +kernel, by decide +kernel⟩ (by decide) (fun X1 O1 S1 => by have t1_2 := S1.tgt 2 ("at" : Str) (by decide +kernel); have t1_3 := S1.tgt 3 ("row" : Str) (by decide +kernel); exact s_gTup O1.calm (s_gsCons (g_ t1_2) (s_gsCons (g_ t1_3) (s_gsNil) rfl) rfl) rfl rfl) (fun X1 O1 S1 => by have v1_1 := S1.var 1 ("thing" : Str) (by decide +kernel); have v1_3 := S1.var 3 ("row" : Str) (by decide +kernel); have g1_is_wrong_for := S1.glo ("is_wrong_for" : Str) (by decide +kernel); exact pts1_ (s_truth (call_ O1 g1_is_wrong_for (cl_is_wrong_for_2 O1) (s_paCons (v_ v1_3) (s_paCons (v_ v1_1) (s_paNil) rfl) rfl) (s_pkNil) rfl rfl (fun z => nomatch z)) (fun _ => rfl))) (fun X1 O1 S1 => by have v1_2 := S1.var 2 ("at" : Str) (by decide +kernel); exact v_ v1_2) (fun _ => rfl))) (s_paNil) rfl) rfl))
theorem ok_possible_of : BodyOk T d_possible_of := by
  refine ⟨⟨rfl, rfl, rfl, by decide +kernel, rfl, by decide +kernel, by decide +kernel⟩, fun X G g0 H0 k O0 S0 => ?_⟩
  have v0_0 := S0.var 0 ("log" : Str) (by decide +kernel)
  have b0_range := O0.blt S0 ("range" : Str) _ PyProof.Rows.boot_range (by decide +kernel)
  exact ss_one (s_ret (PE.val (comp_ O0 S0 [(("thing" : Str), 1)] (range1_ b0_range (s_paCons (s_ix (v_ v0_0) (s_int) rfl) (s_paNil) rfl) rfl) ⟨rfl, by decide +kernel, by decide +kernel, by decide +kernel, by decide +kernel⟩ (by decide) (fun X1 O1 S1 => by have t1_1 := S1.tgt 1 ("thing" : Str) (by decide +kernel); exact g_ t1_1) (fun X1 O1 S1 => by have v1_1 := S1.var 1 ("thing" : Str) (by decide +kernel); have v1_0 := S1.var 0 ("log" : Str) (by decide +kernel); have g1_wrong_of := S1.glo ("wrong_of" : Str) (by decide +kernel); have b1_len := O1.blt S1 ("len" : Str) _ PySem.boot_len (by decide +kernel); exact pts1_ (cmpT_ o_le (bl_ b1_len c_len (s_paCons (call_ O1 g1_wrong_of (cl_wrong_of_2 O1) (s_paCons (v_ v1_0) (s_paCons (v_ v1_1) (s_paNil) rfl) rfl) (s_pkNil) rfl rfl (fun z => nomatch z)) (s_paNil) rfl) rfl) (s_ix (v_ v1_0) (s_int) rfl) rfl)) (fun X1 O1 S1 => by have v1_1 := S1.var 1 ("thing" : Str) (by decide +kernel); exact v_ v1_1) (fun _ => rfl))))
theorem ok_want_log : BodyOk T d_want_log := by
  refine ⟨⟨rfl, rfl, rfl, by decide +kernel, rfl, by decide +kernel, by decide +kernel⟩, fun X G g0 H0 k O0 S0 => ?_⟩
  have v0_0 := S0.var 0 ("value" : Str) (by decide +kernel)
  have g0_is_log_of := S0.glo ("is_log_of" : Str) (by decide +kernel)
  exact ss_cons (s_ifS (s_notT (s_truth (call_ O0 g0_is_log_of (cl_is_log_of_1 O0) (s_paCons (v_ v0_0) (s_paNil) rfl) (s_pkNil) rfl rfl (fun z => nomatch z)) (fun _ => rfl))) (ss_one (badS_)) (ss_nil)) (ss_one (s_ret (v_ v0_0)))
theorem ok_want_position : BodyOk T d_want_position := by
  refine ⟨⟨rfl, rfl, rfl, by decide +kernel, rfl, by decide +kernel, by decide +kernel⟩, fun X G g0 H0 k O0 S0 => ?_⟩
  have v0_0 := S0.var 0 ("log" : Str) (by decide +kernel)
  have b0_len := O0.blt S0 ("len" : Str) _ PySem.boot_len (by decide +kernel)
  have v0_1 := S0.var 1 ("value" : Str) (by decide +kernel)
  have g0_is_below := S0.glo ("is_below" : Str) (by decide +kernel)
  exact ss_cons (s_ifS (s_notT (s_truth (call_ O0 g0_is_below (cl_is_below_2 O0) (s_paCons (v_ v0_1) (s_paCons (bl_ b0_len c_len (s_paCons (s_ix (v_ v0_0) (s_int) rfl) (s_paNil) rfl) rfl) (s_paNil) rfl) rfl) (s_pkNil) rfl rfl (fun z => nomatch z)) (fun _ => rfl))) (ss_one (badS_)) (ss_nil)) (ss_one (s_ret (v_ v0_1)))
theorem ok_truth_of : BodyOk T d_truth_of := by
  refine ⟨⟨rfl, rfl, rfl, by decide +kernel, rfl, by decide +kernel, by decide +kernel⟩, fun X G g0 H0 k O0 S0 => ?_⟩
  have t0_2 := S0.tgt 2 ("told" : Str) (by decide +kernel)
  have v0_0 := S0.var 0 ("log" : Str) (by decide +kernel)
  have g0_possible_of := S0.glo ("possible_of" : Str) (by decide +kernel)
  have l0_2 := S0.tgn 2 ("told" : Str) (by decide +kernel)
  have v0_2 := S0.var 2 ("told" : Str) (by decide +kernel)
  have g0_NONE := S0.glo ("NONE" : Str) (by decide +kernel)
  have g0_OPEN := S0.glo ("OPEN" : Str) (by decide +kernel)
  have g0_WRONG := S0.glo ("WRONG" : Str) (by decide +kernel)
  have g0_RIGHT := S0.glo ("RIGHT" : Str) (by decide +kernel)
  exact ss_cons (frzA_ (setComp_ O0 S0 l0_2 [(("thing" : Str), 3)] rfl rfl rfl (s_items (call_ O0 g0_possible_of (cl_possible_of_1 O0) (s_paCons (v_ v0_0) (s_paNil) rfl) (s_pkNil) rfl rfl (fun z => nomatch z))) ⟨rfl, by decide +kernel, by decide +kernel, by decide +kernel, by decide +kernel⟩ (by decide) (fun X1 O1 S1 => by have t1_3 := S1.tgt 3 ("thing" : Str) (by decide +kernel); exact g_ t1_3) (fun X1 O1 S1 => by exact pts0_) (fun X1 O1 S1 => by have v1_3 := S1.var 3 ("thing" : Str) (by decide +kernel); have v1_0 := S1.var 0 ("log" : Str) (by decide +kernel); have v1_1 := S1.var 1 ("at" : Str) (by decide +kernel); have g1_is_wrong_for := S1.glo ("is_wrong_for" : Str) (by decide +kernel); exact call_ O1 g1_is_wrong_for (cl_is_wrong_for_2 O1) (s_paCons (s_ix (s_ix (v_ v1_0) (s_int) rfl) (v_ v1_1) rfl) (s_paCons (v_ v1_3) (s_paNil) rfl) rfl) (s_pkNil) rfl rfl (fun z => nomatch z)) (fun _ => rfl))) (ss_cons (s_ifS (cmpT_ (o_eq O0.un) (v_ v0_2) (s_lst (s_paNil)) rfl) (ss_one (s_ret (O0.val g0_NONE (.tail _ (.tail _ (.tail _ (.tail _ (.tail _ (.tail _ (.head _)))))))))) (ss_nil)) (ss_cons (s_ifS (cmpT_ (o_in O0.un65) (s_bl) (v_ v0_2) rfl) (ss_one (s_ret (s_if (cmpT_ (o_in O0.un65) (s_bl) (v_ v0_2) rfl) (O0.val g0_OPEN (.tail _ (.tail _ (.tail _ (.tail _ (.tail _ (.tail _ (.tail _ (.head _))))))))) (O0.val g0_WRONG (.tail _ (.tail _ (.tail _ (.tail _ (.tail _ (.tail _ (.tail _ (.tail _ (.head _))))))))))))) (ss_nil)) (ss_one (s_ret (O0.val g0_RIGHT (.tail _ (.tail _ (.tail _ (.tail _ (.tail _ (.tail _ (.tail _ (.tail _ (.tail _ (.head _)))))))))))))))
theorem ok_barred_for : BodyOk T d_barred_for := by
  refine ⟨⟨rfl, rfl, rfl, by decide +kernel, rfl, by decide +kernel, by decide +kernel⟩, fun X G g0 H0 k O0 S0 => ?_⟩
  have v0_1 := S0.var 1 ("thing" : Str) (by decide +kernel)
  have v0_0 := S0.var 0 ("log" : Str) (by decide +kernel)
  have g0_wrong_of := S0.glo ("wrong_of" : Str) (by decide +kernel)
  exact ss_one (s_ret (s_tup (s_paCons (v_ v0_1) (s_paCons (s_slice (call_ O0 g0_wrong_of (cl_wrong_of_2 O0) (s_paCons (v_ v0_0) (s_paCons (v_ v0_1) (s_paNil) rfl) rfl) (s_pkNil) rfl rfl (fun z => nomatch z)) (s_noPart) (s_part (s_bin o_add (s_ix (v_ v0_0) (s_int) rfl) (s_int)))) (s_paNil) rfl) rfl)))
theorem ok_others_of : BodyOk T d_others_of := by
  refine ⟨⟨rfl, rfl, rfl, by decide +kernel, rfl, by decide +kernel, by decide +kernel⟩, fun X G g0 H0 k O0 S0 => ?_⟩
  have v0_2 := S0.var 2 ("word" : Str) (by decide +kernel)
  have g0_NONE := S0.glo ("NONE" : Str) (by decide +kernel)
  have v0_0 := S0.var 0 ("log" : Str) (by decide +kernel)
  have b0_list := O0.blt S0 ("list" : Str) _ PyProof.Rows.boot_list (by decide +kernel)
  have b0_range := O0.blt S0 ("range" : Str) _ PyProof.Rows.boot_range (by decide +kernel)
  exact ss_cons (s_ifS (cmpT_ (o_eq O0.un) (v_ v0_2) (O0.val g0_NONE (.tail _ (.tail _ (.tail _ (.tail _ (.tail _ (.tail _ (.head _)))))))) rfl) (ss_one (s_ret (PE.val (lstRg_ O0.calm b0_list b0_range (s_ix (v_ v0_0) (s_int) rfl) rfl)))) (ss_nil)) (ss_one (s_ret (PE.val (comp_ O0 S0 [(("thing" : Str), 3)] (range1_ b0_range (s_paCons (s_ix (v_ v0_0) (s_int) rfl) (s_paNil) rfl) rfl) ⟨rfl, by decide +kernel, by decide +kernel, by decide +kernel, by decide +kernel⟩ (by decide) (fun X1 O1 S1 => by have t1_3 := S1.tgt 3 ("thing" : Str) (by decide +kernel); exact g_ t1_3) (fun X1 O1 S1 => by have v1_3 := S1.var 3 ("thing" : Str) (by decide +kernel); have v1_0 := S1.var 0 ("log" : Str) (by decide +kernel); have v1_1 := S1.var 1 ("at" : Str) (by decide +kernel); have g1_is_wrong_for := S1.glo ("is_wrong_for" : Str) (by decide +kernel); have v1_2 := S1.var 2 ("word" : Str) (by decide +kernel); have g1_RIGHT := S1.glo ("RIGHT" : Str) (by decide +kernel); exact pts1_ (cmpT_ (o_eq O1.un) (call_ O1 g1_is_wrong_for (cl_is_wrong_for_2 O1) (s_paCons (s_ix (s_ix (v_ v1_0) (s_int) rfl) (v_ v1_1) rfl) (s_paCons (v_ v1_3) (s_paNil) rfl) rfl) (s_pkNil) rfl rfl (fun z => nomatch z)) (s_cmp (o_eq O1.un) (v_ v1_2) (O1.val g1_RIGHT (.tail _ (.tail _ (.tail _ (.tail _ (.tail _ (.tail _ (.tail _ (.tail _ (.tail _ (.head _))))))))))) rfl) rfl)) (fun X1 O1 S1 => by have v1_3 := S1.var 3 ("thing" : Str) (by decide +kernel); exact v_ v1_3) (fun _ => rfl)))))
theorem ok_first_thing : BodyOk T d_first_thing := by
  refine ⟨⟨rfl, rfl, rfl, by decide +kernel, rfl, by decide +kernel, by decide +kernel⟩, fun X G g0 H0 k O0 S0 => ?_⟩
  have v0_0 := S0.var 0 ("log" : Str) (by decide +kernel)
  have g0_possible_of := S0.glo ("possible_of" : Str) (by decide +kernel)
  exact ss_one (s_ret (s_ix (PE.val (comp_ O0 S0 [(("thing" : Str), 3)] (s_items (call_ O0 g0_possible_of (cl_possible_of_1 O0) (s_paCons (v_ v0_0) (s_paNil) rfl) (s_pkNil) rfl rfl (fun z => nomatch z))) ⟨rfl, by decide +kernel, by decide +kernel, by decide +kernel, by decide +kernel⟩ (by decide) (fun X1 O1 S1 => by have t1_3 := S1.tgt 3 ("thing" : Str) (by decide +kernel); exact g_ t1_3) (fun X1 O1 S1 => by have v1_3 := S1.var 3 ("thing" : Str) (by decide +kernel); have v1_0 := S1.var 0 ("log" : Str) (by decide +kernel); have v1_1 := S1.var 1 ("at" : Str) (by decide +kernel); have g1_is_wrong_for := S1.glo ("is_wrong_for" : Str) (by decide +kernel); have v1_2 := S1.var 2 ("is_wrong" : Str) (by decide +kernel); exact pts1_ (cmpT_ (o_eq O1.un) (call_ O1 g1_is_wrong_for (cl_is_wrong_for_2 O1) (s_paCons (s_ix (s_ix (v_ v1_0) (s_int) rfl) (v_ v1_1) rfl) (s_paCons (v_ v1_3) (s_paNil) rfl) rfl) (s_pkNil) rfl rfl (fun z => nomatch z)) (v_ v1_2) rfl)) (fun X1 O1 S1 => by have v1_3 := S1.var 3 ("thing" : Str) (by decide +kernel); exact v_ v1_3) (fun _ => rfl))) (s_int) rfl))
theorem ok_paper_of : BodyOk T d_paper_of := by
  refine ⟨⟨rfl, rfl, rfl, by decide +kernel, rfl, by decide +kernel, by decide +kernel⟩, fun X G g0 H0 k O0 S0 => ?_⟩
  have t0_2 := S0.tgt 2 ("word" : Str) (by decide +kernel)
  have v0_1 := S0.var 1 ("at" : Str) (by decide +kernel)
  have v0_0 := S0.var 0 ("log" : Str) (by decide +kernel)
  have g0_truth_of := S0.glo ("truth_of" : Str) (by decide +kernel)
  have v0_2 := S0.var 2 ("word" : Str) (by decide +kernel)
  have g0_OPEN := S0.glo ("OPEN" : Str) (by decide +kernel)
  have g0_first_thing := S0.glo ("first_thing" : Str) (by decide +kernel)
  have t0_3 := S0.tgt 3 ("barred" : Str) (by decide +kernel)
  have g0_others_of := S0.glo ("others_of" : Str) (by decide +kernel)
  have b0_tuple := O0.blt S0 ("tuple" : Str) (.type "tuple") PyProof.Rows.boot_tuple (by decide +kernel)
  have g0_NONE := S0.glo ("NONE" : Str) (by decide +kernel)
  have v0_3 := S0.var 3 ("barred" : Str) (by decide +kernel)
  have g0_WRONG := S0.glo ("WRONG" : Str) (by decide +kernel)
  exact ss_cons (set_ t0_2 (call_ O0 g0_truth_of (cl_truth_of_2 O0) (s_paCons (v_ v0_0) (s_paCons (v_ v0_1) (s_paNil) rfl) rfl) (s_pkNil) rfl rfl (fun z => nomatch z)) rfl) (ss_cons (s_ifS (cmpT_ (o_eq O0.un) (v_ v0_2) (O0.val g0_OPEN (.tail _ (.tail _ (.tail _ (.tail _ (.tail _ (.tail _ (.tail _ (.head _))))))))) rfl) (ss_one (s_ret (s_tup (s_paCons (O0.val g0_OPEN (.tail _ (.tail _ (.tail _ (.tail _ (.tail _ (.tail _ (.tail _ (.head _))))))))) (s_paCons (call_ O0 g0_first_thing (cl_first_thing_3 O0) (s_paCons (v_ v0_0) (s_paCons (v_ v0_1) (s_paCons (s_bl) (s_paNil) rfl) rfl) rfl) (s_pkNil) rfl rfl (fun z => nomatch z)) (s_paCons (call_ O0 g0_first_thing (cl_first_thing_3 O0) (s_paCons (v_ v0_0) (s_paCons (v_ v0_1) (s_paCons (s_bl) (s_paNil) rfl) rfl) rfl) (s_pkNil) rfl rfl (fun z => nomatch z)) (s_paNil) rfl) rfl) rfl)))) (ss_nil)) (ss_cons (set_ t0_3 (ty_ b0_tuple c_tuple (s_paCons (PE.val (comp_ O0 S0 [(("thing" : Str), 4)] (s_items (call_ O0 g0_others_of (cl_others_of_3 O0) (s_paCons (v_ v0_0) (s_paCons (v_ v0_1) (s_paCons (v_ v0_2) (s_paNil) rfl) rfl) rfl) (s_pkNil) rfl rfl (fun z => nomatch z))) ⟨rfl, by decide +kernel, by decide +kernel, by decide +kernel, by decide +kernel⟩ (by decide) (fun X1 O1 S1 => by have t1_4 := S1.tgt 4 ("thing" : Str) (by decide +kernel); exact g_ t1_4) (fun X1 O1 S1 => by exact pts0_) (fun X1 O1 S1 => by have v1_4 := S1.var 4 ("thing" : Str) (by decide +kernel); have v1_0 := S1.var 0 ("log" : Str) (by decide +kernel); have g1_barred_for := S1.glo ("barred_for" : Str) (by decide +kernel); exact call_ O1 g1_barred_for (cl_barred_for_2 O1) (s_paCons (v_ v1_0) (s_paCons (v_ v1_4) (s_paNil) rfl) rfl) (s_pkNil) rfl rfl (fun z => nomatch z)) (fun _ => rfl))) (s_paNil) rfl) rfl) rfl) (ss_one (s_ret (s_if (cmpT_ (o_eq O0.un) (v_ v0_2) (O0.val g0_NONE (.tail _ (.tail _ (.tail _ (.tail _ (.tail _ (.tail _ (.head _)))))))) rfl) (s_tup (s_paCons (O0.val g0_NONE (.tail _ (.tail _ (.tail _ (.tail _ (.tail _ (.tail _ (.head _)))))))) (s_paCons (v_ v0_3) (s_paNil) rfl) rfl)) (s_tup (s_paCons (v_ v0_2) (s_paCons (call_ O0 g0_first_thing (cl_first_thing_3 O0) (s_paCons (v_ v0_0) (s_paCons (v_ v0_1) (s_paCons (s_cmp (o_eq O0.un) (v_ v0_2) (O0.val g0_WRONG (.tail _ (.tail _ (.tail _ (.tail _ (.tail _ (.tail _ (.tail _ (.tail _ (.head _)))))))))) rfl) (s_paNil) rfl) rfl) rfl) (s_pkNil) rfl rfl (fun z => nomatch z)) (s_paCons (v_ v0_3) (s_paNil) rfl) rfl) rfl)))))))
theorem ok_is_bar_for : BodyOk T d_is_bar_for := by
  refine ⟨⟨rfl, rfl, rfl, by decide +kernel, rfl, by decide +kernel, by decide +kernel⟩, fun X G g0 H0 k O0 S0 => ?_⟩
  have v0_2 := S0.var 2 ("value" : Str) (by decide +kernel)
  have g0_is_row := S0.glo ("is_row" : Str) (by decide +kernel)
  have v0_0 := S0.var 0 ("log" : Str) (by decide +kernel)
  have g0_is_below := S0.glo ("is_below" : Str) (by decide +kernel)
  have v0_1 := S0.var 1 ("thing" : Str) (by decide +kernel)
  have b0_all := O0.blt S0 ("all" : Str) _ PyProof.Rows.boot_all (by decide +kernel)
  have g0_is_rising := S0.glo ("is_rising" : Str) (by decide +kernel)
  exact ss_cons (s_ifS ((s_or (s_notT (s_truth (call_ O0 g0_is_row (cl_is_row_2 O0) (s_paCons (v_ v0_2) (s_paCons (s_int) (s_paNil) rfl) rfl) (s_pkNil) rfl rfl (fun z => nomatch z)) (fun _ => rfl))) (s_or (s_notT (s_truth (call_ O0 g0_is_below (cl_is_below_2 O0) (s_paCons (s_ix (v_ v0_2) (s_int) rfl) (s_paCons (s_ix (v_ v0_0) (s_int) rfl) (s_paNil) rfl) rfl) (s_pkNil) rfl rfl (fun z => nomatch z)) (fun _ => rfl))) (s_or (cmpT_ (o_ne O0.un) (s_ix (v_ v0_2) (s_int) rfl) (v_ v0_1) rfl) (s_or1 (s_notT (s_truth (call_ O0 g0_is_row (cl_is_row_2 O0) (s_paCons (s_ix (v_ v0_2) (s_int) rfl) (s_paCons (s_bin o_add (s_ix (v_ v0_0) (s_int) rfl) (s_int)) (s_paNil) rfl) rfl) (s_pkNil) rfl rfl (fun z => nomatch z)) (fun _ => rfl))))))).pt) (ss_one (s_ret (s_bl))) (ss_nil)) (ss_cons (s_ifS ((s_or (s_notT (s_truth (bl_ b0_all (c_all O0.calm) (s_paCons (PE.val (comp_ O0 S0 [(("at" : Str), 3)] (s_items (s_ix (v_ v0_2) (s_int) rfl)) ⟨rfl, by decide +kernel, by decide +kernel, by decide +kernel, by decide +kernel⟩ (by decide) (fun X1 O1 S1 => by have t1_3 := S1.tgt 3 ("at" : Str) (by decide +kernel); exact g_ t1_3) (fun X1 O1 S1 => by exact pts0_) (fun X1 O1 S1 => by have v1_0 := S1.var 0 ("log" : Str) (by decide +kernel); have b1_len := O1.blt S1 ("len" : Str) _ PySem.boot_len (by decide +kernel); have v1_3 := S1.var 3 ("at" : Str) (by decide +kernel); have g1_is_below := S1.glo ("is_below" : Str) (by decide +kernel); exact call_ O1 g1_is_below (cl_is_below_2 O1) (s_paCons (v_ v1_3) (s_paCons (bl_ b1_len c_len (s_paCons (s_ix (v_ v1_0) (s_int) rfl) (s_paNil) rfl) rfl) (s_paNil) rfl) rfl) (s_pkNil) rfl rfl (fun z => nomatch z)) (fun _ => rfl))) (s_paNil) rfl) rfl) (fun _ => rfl))) (s_or1 (s_notT (s_truth (call_ O0 g0_is_rising (cl_is_rising_1 O0) (s_paCons (s_ix (v_ v0_2) (s_int) rfl) (s_paNil) rfl) (s_pkNil) rfl rfl (fun z => nomatch z)) (fun _ => rfl))))).pt) (ss_one (s_ret (s_bl))) (ss_nil)) (ss_one (s_ret (bl_ b0_all (c_all O0.calm) (s_paCons (PE.val (comp_ O0 S0 [(("at" : Str), 3)] (s_items (s_ix (v_ v0_2) (s_int) rfl)) ⟨rfl, by decide +kernel, by decide +kernel, by decide +kernel, by decide +kernel⟩ (by decide) (fun X1 O1 S1 => by have t1_3 := S1.tgt 3 ("at" : Str) (by decide +kernel); exact g_ t1_3) (fun X1 O1 S1 => by exact pts0_) (fun X1 O1 S1 => by have v1_1 := S1.var 1 ("thing" : Str) (by decide +kernel); have v1_0 := S1.var 0 ("log" : Str) (by decide +kernel); have v1_3 := S1.var 3 ("at" : Str) (by decide +kernel); have g1_is_wrong_for := S1.glo ("is_wrong_for" : Str) (by decide +kernel); exact call_ O1 g1_is_wrong_for (cl_is_wrong_for_2 O1) (s_paCons (s_ix (s_ix (v_ v1_0) (s_int) rfl) (v_ v1_3) rfl) (s_paCons (v_ v1_1) (s_paNil) rfl) rfl) (s_pkNil) rfl rfl (fun z => nomatch z)) (fun _ => rfl))) (s_paNil) rfl) rfl))))
theorem ok_are_bars : BodyOk T d_are_bars := by
  refine ⟨⟨rfl, rfl, rfl, by decide +kernel, rfl, by decide +kernel, by decide +kernel⟩, fun X G g0 H0 k O0 S0 => ?_⟩
  have v0_1 := S0.var 1 ("things" : Str) (by decide +kernel)
  have b0_len := O0.blt S0 ("len" : Str) _ PySem.boot_len (by decide +kernel)
  have v0_2 := S0.var 2 ("value" : Str) (by decide +kernel)
  have g0_is_row := S0.glo ("is_row" : Str) (by decide +kernel)
  have b0_zip := O0.blt S0 ("zip" : Str) _ PyProof.Rows.boot_zip (by decide +kernel)
  have b0_all := O0.blt S0 ("all" : Str) _ PyProof.Rows.boot_all (by decide +kernel)
  exact ss_cons (s_ifS (s_notT (s_truth (call_ O0 g0_is_row (cl_is_row_2 O0) (s_paCons (v_ v0_2) (s_paCons (bl_ b0_len c_len (s_paCons (v_ v0_1) (s_paNil) rfl) rfl) (s_paNil) rfl) rfl) (s_pkNil) rfl rfl (fun z => nomatch z)) (fun _ => rfl))) (ss_one (s_ret (s_bl))) (ss_nil)) (ss_one (s_ret (bl_ b0_all (c_all O0.calm) (s_paCons (PE.val (comp_ O0 S0 [(("thing" : Str), 3), (("one" : Str), 4)] (zipX_ b0_zip (s_paCons (v_ v0_1) (s_paCons (v_ v0_2) (s_paNil) rfl) rfl) rfl rfl) ⟨rfl, by decide +kernel, by decide +kernel, by decide +kernel, by decide +kernel⟩ (by decide) (fun X1 O1 S1 => by have t1_3 := S1.tgt 3 ("thing" : Str) (by decide +kernel); have t1_4 := S1.tgt 4 ("one" : Str) (by decide +kernel); exact s_gTup O1.calm (s_gsCons (g_ t1_3) (s_gsCons (g_ t1_4) (s_gsNil) rfl) rfl) rfl rfl) (fun X1 O1 S1 => by exact pts0_) (fun X1 O1 S1 => by have v1_4 := S1.var 4 ("one" : Str) (by decide +kernel); have v1_3 := S1.var 3 ("thing" : Str) (by decide +kernel); have v1_0 := S1.var 0 ("log" : Str) (by decide +kernel); have g1_is_bar_for := S1.glo ("is_bar_for" : Str) (by decide +kernel); exact call_ O1 g1_is_bar_for (cl_is_bar_for_3 O1) (s_paCons (v_ v1_0) (s_paCons (v_ v1_3) (s_paCons (v_ v1_4) (s_paNil) rfl) rfl) rfl) (s_pkNil) rfl rfl (fun z => nomatch z)) (fun _ => rfl))) (s_paNil) rfl) rfl)))
theorem ok_is_possible_in : BodyOk T d_is_possible_in := by
  refine ⟨⟨rfl, rfl, rfl, by decide +kernel, rfl, by decide +kernel, by decide +kernel⟩, fun X G g0 H0 k O0 S0 => ?_⟩
  have v0_0 := S0.var 0 ("log" : Str) (by decide +kernel)
  have v0_1 := S0.var 1 ("value" : Str) (by decide +kernel)
  have g0_is_below := S0.glo ("is_below" : Str) (by decide +kernel)
  have g0_wrong_of := S0.glo ("wrong_of" : Str) (by decide +kernel)
  have b0_len := O0.blt S0 ("len" : Str) _ PySem.boot_len (by decide +kernel)
  exact ss_one (s_ret (s_andV (call_ O0 g0_is_below (cl_is_below_2 O0) (s_paCons (v_ v0_1) (s_paCons (s_ix (v_ v0_0) (s_int) rfl) (s_paNil) rfl) rfl) (s_pkNil) rfl rfl (fun z => nomatch z)) (s_oneV (s_cmp o_le (bl_ b0_len c_len (s_paCons (call_ O0 g0_wrong_of (cl_wrong_of_2 O0) (s_paCons (v_ v0_0) (s_paCons (v_ v0_1) (s_paNil) rfl) rfl) (s_pkNil) rfl rfl (fun z => nomatch z)) (s_paNil) rfl) rfl) (s_ix (v_ v0_0) (s_int) rfl) rfl))))
theorem ok_is_paper_of : BodyOk T d_is_paper_of := by
  refine ⟨⟨rfl, rfl, rfl, by decide +kernel, rfl, by decide +kernel, by decide +kernel⟩, fun X G g0 H0 k O0 S0 => ?_⟩
  have v0_2 := S0.var 2 ("value" : Str) (by decide +kernel)
  have b0_isinstance := O0.blt S0 ("isinstance" : Str) _ PyProof.Rows.boot_isinstance (by decide +kernel)
  have b0_tuple := O0.blt S0 ("tuple" : Str) (.type "tuple") PyProof.Rows.boot_tuple (by decide +kernel)
  have b0_len := O0.blt S0 ("len" : Str) _ PySem.boot_len (by decide +kernel)
  have b0_str := O0.blt S0 ("str" : Str) (.type "str") PyProof.Rows.boot_str (by decide +kernel)
  have g0_NONE := S0.glo ("NONE" : Str) (by decide +kernel)
  have v0_1 := S0.var 1 ("at" : Str) (by decide +kernel)
  have v0_0 := S0.var 0 ("log" : Str) (by decide +kernel)
  have g0_others_of := S0.glo ("others_of" : Str) (by decide +kernel)
  have g0_are_bars := S0.glo ("are_bars" : Str) (by decide +kernel)
  have g0_OPEN := S0.glo ("OPEN" : Str) (by decide +kernel)
  have g0_WRONG := S0.glo ("WRONG" : Str) (by decide +kernel)
  have g0_RIGHT := S0.glo ("RIGHT" : Str) (by decide +kernel)
  have g0_is_possible_in := S0.glo ("is_possible_in" : Str) (by decide +kernel)
  have g0_is_wrong_for := S0.glo ("is_wrong_for" : Str) (by decide +kernel)
  exact ss_cons (s_ifS ((s_or (s_notT (s_truth (isi_ b0_isinstance (v_ v0_2) (BltOk.ty (t := .tup) b0_tuple) rfl) (fun _ => rfl))) (s_or (cmpT_ (o_notin O0.un65) (bl_ b0_len c_len (s_paCons (v_ v0_2) (s_paNil) rfl) rfl) (s_tup (s_paCons (s_int) (s_paCons (s_int) (s_paNil) rfl) rfl)) rfl) (s_or1 (s_notT (s_truth (isi_ b0_isinstance (s_ix (v_ v0_2) (s_int) rfl) (BltOk.ty (t := .str) b0_str) rfl) (fun _ => rfl)))))).pt) (ss_one (s_ret (s_bl))) (ss_nil)) (ss_cons (s_ifS (cmpT_ (o_eq O0.un) (s_ix (v_ v0_2) (s_int) rfl) (O0.val g0_NONE (.tail _ (.tail _ (.tail _ (.tail _ (.tail _ (.tail _ (.head _)))))))) rfl) (ss_one (s_ret (s_andV (s_cmp (o_eq O0.un) (bl_ b0_len c_len (s_paCons (v_ v0_2) (s_paNil) rfl) rfl) (s_int) rfl) (s_oneV (call_ O0 g0_are_bars (cl_are_bars_3 O0) (s_paCons (v_ v0_0) (s_paCons (call_ O0 g0_others_of (cl_others_of_3 O0) (s_paCons (v_ v0_0) (s_paCons (v_ v0_1) (s_paCons (O0.val g0_NONE (.tail _ (.tail _ (.tail _ (.tail _ (.tail _ (.tail _ (.head _)))))))) (s_paNil) rfl) rfl) rfl) (s_pkNil) rfl rfl (fun z => nomatch z)) (s_paCons (s_ix (v_ v0_2) (s_int) rfl) (s_paNil) rfl) rfl) rfl) (s_pkNil) rfl rfl (fun z => nomatch z)))))) (ss_nil)) (ss_cons (s_ifS ((s_or (cmpT_ (o_ne O0.un) (bl_ b0_len c_len (s_paCons (v_ v0_2) (s_paNil) rfl) rfl) (s_int) rfl) (s_or (cmpT_ (o_notin O0.un65) (s_ix (v_ v0_2) (s_int) rfl) (s_tup (s_paCons (O0.val g0_RIGHT (.tail _ (.tail _ (.tail _ (.tail _ (.tail _ (.tail _ (.tail _ (.tail _ (.tail _ (.head _))))))))))) (s_paCons (O0.val g0_WRONG (.tail _ (.tail _ (.tail _ (.tail _ (.tail _ (.tail _ (.tail _ (.tail _ (.head _)))))))))) (s_paCons (O0.val g0_OPEN (.tail _ (.tail _ (.tail _ (.tail _ (.tail _ (.tail _ (.tail _ (.head _))))))))) (s_paNil) rfl) rfl) rfl)) rfl) (s_or1 (s_notT (s_truth (call_ O0 g0_is_possible_in (cl_is_possible_in_2 O0) (s_paCons (v_ v0_0) (s_paCons (s_ix (v_ v0_2) (s_int) rfl) (s_paNil) rfl) rfl) (s_pkNil) rfl rfl (fun z => nomatch z)) (fun _ => rfl)))))).pt) (ss_one (s_ret (s_bl))) (ss_nil)) (ss_cons (s_ifS (cmpT_ (o_eq O0.un) (s_ix (v_ v0_2) (s_int) rfl) (O0.val g0_OPEN (.tail _ (.tail _ (.tail _ (.tail _ (.tail _ (.tail _ (.tail _ (.head _))))))))) rfl) (ss_cons (s_ifS ((s_or (s_notT (s_truth (call_ O0 g0_is_possible_in (cl_is_possible_in_2 O0) (s_paCons (v_ v0_0) (s_paCons (s_ix (v_ v0_2) (s_int) rfl) (s_paNil) rfl) rfl) (s_pkNil) rfl rfl (fun z => nomatch z)) (fun _ => rfl))) (s_or1 (s_truth (call_ O0 g0_is_wrong_for (cl_is_wrong_for_2 O0) (s_paCons (s_ix (s_ix (v_ v0_0) (s_int) rfl) (v_ v0_1) rfl) (s_paCons (s_ix (v_ v0_2) (s_int) rfl) (s_paNil) rfl) rfl) (s_pkNil) rfl rfl (fun z => nomatch z)) (fun _ => rfl)))).pt) (ss_one (s_ret (s_bl))) (ss_nil)) (ss_one (s_ret (call_ O0 g0_is_wrong_for (cl_is_wrong_for_2 O0) (s_paCons (s_ix (s_ix (v_ v0_0) (s_int) rfl) (v_ v0_1) rfl) (s_paCons (s_ix (v_ v0_2) (s_int) rfl) (s_paNil) rfl) rfl) (s_pkNil) rfl rfl (fun z => nomatch z))))) (ss_nil)) (ss_cons (s_ifS (cmpT_ (o_ne O0.un) (call_ O0 g0_is_wrong_for (cl_is_wrong_for_2 O0) (s_paCons (s_ix (s_ix (v_ v0_0) (s_int) rfl) (v_ v0_1) rfl) (s_paCons (s_ix (v_ v0_2) (s_int) rfl) (s_paNil) rfl) rfl) (s_pkNil) rfl rfl (fun z => nomatch z)) (s_cmp (o_eq O0.un) (s_ix (v_ v0_2) (s_int) rfl) (O0.val g0_WRONG (.tail _ (.tail _ (.tail _ (.tail _ (.tail _ (.tail _ (.tail _ (.tail _ (.head _)))))))))) rfl) rfl) (ss_one (s_ret (s_bl))) (ss_nil)) (ss_one (s_ret (call_ O0 g0_are_bars (cl_are_bars_3 O0) (s_paCons (v_ v0_0) (s_paCons (call_ O0 g0_others_of (cl_others_of_3 O0) (s_paCons (v_ v0_0) (s_paCons (v_ v0_1) (s_paCons (s_ix (v_ v0_2) (s_int) rfl) (s_paNil) rfl) rfl) rfl) (s_pkNil) rfl rfl (fun z => nomatch z)) (s_paCons (s_ix (v_ v0_2) (s_int) rfl) (s_paNil) rfl) rfl) rfl) (s_pkNil) rfl rfl (fun z => nomatch z))))))))
theorem ok_without_row : BodyOk T d_without_row := by
  refine ⟨⟨rfl, rfl, rfl, by decide +kernel, rfl, by decide +kernel, by decide +kernel⟩, fun X G g0 H0 k O0 S0 => ?_⟩
  have v0_0 := S0.var 0 ("log" : Str) (by decide +kernel)
  have v0_1 := S0.var 1 ("at" : Str) (by decide +kernel)
  have g0_with_rows := S0.glo ("with_rows" : Str) (by decide +kernel)
  exact ss_one (s_ret (call_ O0 g0_with_rows (cl_with_rows_2 O0) (s_paCons (v_ v0_0) (s_paCons (s_bin o_add (s_slice (s_ix (v_ v0_0) (s_int) rfl) (s_noPart) (s_part (v_ v0_1))) (s_slice (s_ix (v_ v0_0) (s_int) rfl) (s_part (s_bin o_add (v_ v0_1) (s_int))) (s_noPart))) (s_paNil) rfl) rfl) (s_pkNil) rfl rfl (fun z => nomatch z)))
theorem ok_is_idle_of : BodyOk T d_is_idle_of := by
  refine ⟨⟨rfl, rfl, rfl, by decide +kernel, rfl, by decide +kernel, by decide +kernel⟩, fun X G g0 H0 k O0 S0 => ?_⟩
  have v0_1 := S0.var 1 ("at" : Str) (by decide +kernel)
  have v0_0 := S0.var 0 ("log" : Str) (by decide +kernel)
  have g0_without_row := S0.glo ("without_row" : Str) (by decide +kernel)
  have g0_possible_of := S0.glo ("possible_of" : Str) (by decide +kernel)
  exact ss_one (s_ret (s_cmp (o_eq O0.un) (call_ O0 g0_possible_of (cl_possible_of_1 O0) (s_paCons (call_ O0 g0_without_row (cl_without_row_2 O0) (s_paCons (v_ v0_0) (s_paCons (v_ v0_1) (s_paNil) rfl) rfl) (s_pkNil) rfl rfl (fun z => nomatch z)) (s_paNil) rfl) (s_pkNil) rfl rfl (fun z => nomatch z)) (call_ O0 g0_possible_of (cl_possible_of_1 O0) (s_paCons (v_ v0_0) (s_paNil) rfl) (s_pkNil) rfl rfl (fun z => nomatch z)) rfl))
theorem ok_slim_of : BodyOk T d_slim_of := by
  refine ⟨⟨rfl, rfl, rfl, by decide +kernel, rfl, by decide +kernel, by decide +kernel⟩, fun X G g0 H0 k O0 S0 => ?_⟩
  have v0_0 := S0.var 0 ("log" : Str) (by decide +kernel)
  have b0_len := O0.blt S0 ("len" : Str) _ PySem.boot_len (by decide +kernel)
  have b0_range := O0.blt S0 ("range" : Str) _ PyProof.Rows.boot_range (by decide +kernel)
  have t0_1 := S0.tgt 1 ("at" : Str) (by decide +kernel)
  have v0_1 := S0.var 1 ("at" : Str) (by decide +kernel)
  have g0_is_idle_of := S0.glo ("is_idle_of" : Str) (by decide +kernel)
  have t0_0 := S0.tgt 0 ("log" : Str) (by decide +kernel)
  have g0_without_row := S0.glo ("without_row" : Str) (by decide +kernel)
  exact ss_cons (for_ O0 (range3_ b0_range (s_paCons (s_bin o_sub (bl_ b0_len c_len (s_paCons (s_ix (v_ v0_0) (s_int) rfl) (s_paNil) rfl) rfl) (s_int)) (s_paCons (s_un o_neg (s_int)) (s_paCons (s_un o_neg (s_int)) (s_paNil) rfl) rfl) rfl) rfl rfl rfl) (g_ t0_1) (ss_one (s_ifS (s_truth (call_ O0 g0_is_idle_of (cl_is_idle_of_2 O0) (s_paCons (v_ v0_0) (s_paCons (v_ v0_1) (s_paNil) rfl) rfl) (s_pkNil) rfl rfl (fun z => nomatch z)) (fun _ => rfl)) (ss_one (set_ t0_0 (call_ O0 g0_without_row (cl_without_row_2 O0) (s_paCons (v_ v0_0) (s_paCons (v_ v0_1) (s_paNil) rfl) rfl) (s_pkNil) rfl rfl (fun z => nomatch z)) rfl)) (ss_nil))) (fun _ => rfl)) (ss_one (s_ret (v_ v0_0)))
theorem ok_truth : BodyOk T d_truth := by
  refine ⟨⟨rfl, rfl, rfl, by decide +kernel, rfl, by decide +kernel, by decide +kernel⟩, fun X G g0 H0 k O0 S0 => ?_⟩
  have v0_0 := S0.var 0 ("log" : Str) (by decide +kernel)
  have g0_want_log := S0.glo ("want_log" : Str) (by decide +kernel)
  have v0_1 := S0.var 1 ("position" : Str) (by decide +kernel)
  have g0_want_position := S0.glo ("want_position" : Str) (by decide +kernel)
  have g0_truth_of := S0.glo ("truth_of" : Str) (by decide +kernel)
  exact ss_cons (s_expr (call_ O0 g0_want_log (cl_want_log_1 O0) (s_paCons (v_ v0_0) (s_paNil) rfl) (s_pkNil) rfl rfl (fun z => nomatch z)) rfl) (ss_one (s_ret (call_ O0 g0_truth_of (cl_truth_of_2 O0) (s_paCons (v_ v0_0) (s_paCons (call_ O0 g0_want_position (cl_want_position_2 O0) (s_paCons (v_ v0_0) (s_paCons (v_ v0_1) (s_paNil) rfl) rfl) (s_pkNil) rfl rfl (fun z => nomatch z)) (s_paNil) rfl) rfl) (s_pkNil) rfl rfl (fun z => nomatch z))))
theorem ok_truths : BodyOk T d_truths := by
  refine ⟨⟨rfl, rfl, rfl, by decide +kernel, rfl, by decide +kernel, by decide +kernel⟩, fun X G g0 H0 k O0 S0 => ?_⟩
  have v0_0 := S0.var 0 ("log" : Str) (by decide +kernel)
  have g0_want_log := S0.glo ("want_log" : Str) (by decide +kernel)
  have b0_len := O0.blt S0 ("len" : Str) _ PySem.boot_len (by decide +kernel)
  have b0_range := O0.blt S0 ("range" : Str) _ PyProof.Rows.boot_range (by decide +kernel)
  exact ss_one (s_ret (PE.val (comp_ O0 S0 [(("at" : Str), 1)] (range1_ b0_range (s_paCons (bl_ b0_len c_len (s_paCons (s_ix (call_ O0 g0_want_log (cl_want_log_1 O0) (s_paCons (v_ v0_0) (s_paNil) rfl) (s_pkNil) rfl rfl (fun z => nomatch z)) (s_int) rfl) (s_paNil) rfl) rfl) (s_paNil) rfl) rfl) ⟨rfl, by decide +kernel, by decide +kernel, by decide +kernel, by decide +kernel⟩ (by decide) (fun X1 O1 S1 => by have t1_1 := S1.tgt 1 ("at" : Str) (by decide +kernel); exact g_ t1_1) (fun X1 O1 S1 => by exact pts0_) (fun X1 O1 S1 => by have v1_1 := S1.var 1 ("at" : Str) (by decide +kernel); have v1_0 := S1.var 0 ("log" : Str) (by decide +kernel); have g1_truth_of := S1.glo ("truth_of" : Str) (by decide +kernel); exact call_ O1 g1_truth_of (cl_truth_of_2 O1) (s_paCons (v_ v1_0) (s_paCons (v_ v1_1) (s_paNil) rfl) rfl) (s_pkNil) rfl rfl (fun z => nomatch z)) (fun _ => rfl))))
theorem ok_truth_paper : BodyOk T d_truth_paper := by
  refine ⟨⟨rfl, rfl, rfl, by decide +kernel, rfl, by decide +kernel, by decide +kernel⟩, fun X G g0 H0 k O0 S0 => ?_⟩
  have v0_0 := S0.var 0 ("log" : Str) (by decide +kernel)
  have g0_want_log := S0.glo ("want_log" : Str) (by decide +kernel)
  have v0_1 := S0.var 1 ("position" : Str) (by decide +kernel)
  have g0_want_position := S0.glo ("want_position" : Str) (by decide +kernel)
  have g0_paper_of := S0.glo ("paper_of" : Str) (by decide +kernel)
  exact ss_cons (s_expr (call_ O0 g0_want_log (cl_want_log_1 O0) (s_paCons (v_ v0_0) (s_paNil) rfl) (s_pkNil) rfl rfl (fun z => nomatch z)) rfl) (ss_one (s_ret (call_ O0 g0_paper_of (cl_paper_of_2 O0) (s_paCons (v_ v0_0) (s_paCons (call_ O0 g0_want_position (cl_want_position_2 O0) (s_paCons (v_ v0_0) (s_paCons (v_ v0_1) (s_paNil) rfl) rfl) (s_pkNil) rfl rfl (fun z => nomatch z)) (s_paNil) rfl) rfl) (s_pkNil) rfl rfl (fun z => nomatch z))))
theorem ok_is_truth_paper : BodyOk T d_is_truth_paper := by
  refine ⟨⟨rfl, rfl, rfl, by decide +kernel, rfl, by decide +kernel, by decide +kernel⟩, fun X G g0 H0 k O0 S0 => ?_⟩
  have v0_0 := S0.var 0 ("log" : Str) (by decide +kernel)
  have g0_want_log := S0.glo ("want_log" : Str) (by decide +kernel)
  have v0_2 := S0.var 2 ("value" : Str) (by decide +kernel)
  have v0_1 := S0.var 1 ("position" : Str) (by decide +kernel)
  have g0_want_position := S0.glo ("want_position" : Str) (by decide +kernel)
  have g0_is_paper_of := S0.glo ("is_paper_of" : Str) (by decide +kernel)
  exact ss_cons (s_expr (call_ O0 g0_want_log (cl_want_log_1 O0) (s_paCons (v_ v0_0) (s_paNil) rfl) (s_pkNil) rfl rfl (fun z => nomatch z)) rfl) (ss_one (s_ret (call_ O0 g0_is_paper_of (cl_is_paper_of_3 O0) (s_paCons (v_ v0_0) (s_paCons (call_ O0 g0_want_position (cl_want_position_2 O0) (s_paCons (v_ v0_0) (s_paCons (v_ v0_1) (s_paNil) rfl) rfl) (s_pkNil) rfl rfl (fun z => nomatch z)) (s_paCons (v_ v0_2) (s_paNil) rfl) rfl) rfl) (s_pkNil) rfl rfl (fun z => nomatch z))))
theorem ok_is_idle : BodyOk T d_is_idle := by
  refine ⟨⟨rfl, rfl, rfl, by decide +kernel, rfl, by decide +kernel, by decide +kernel⟩, fun X G g0 H0 k O0 S0 => ?_⟩
  have v0_0 := S0.var 0 ("log" : Str) (by decide +kernel)
  have g0_want_log := S0.glo ("want_log" : Str) (by decide +kernel)
  have v0_1 := S0.var 1 ("position" : Str) (by decide +kernel)
  have g0_want_position := S0.glo ("want_position" : Str) (by decide +kernel)
  have g0_is_idle_of := S0.glo ("is_idle_of" : Str) (by decide +kernel)
  exact ss_cons (s_expr (call_ O0 g0_want_log (cl_want_log_1 O0) (s_paCons (v_ v0_0) (s_paNil) rfl) (s_pkNil) rfl rfl (fun z => nomatch z)) rfl) (ss_one (s_ret (call_ O0 g0_is_idle_of (cl_is_idle_of_2 O0) (s_paCons (v_ v0_0) (s_paCons (call_ O0 g0_want_position (cl_want_position_2 O0) (s_paCons (v_ v0_0) (s_paCons (v_ v0_1) (s_paNil) rfl) rfl) (s_pkNil) rfl rfl (fun z => nomatch z)) (s_paNil) rfl) rfl) (s_pkNil) rfl rfl (fun z => nomatch z))))
theorem ok_slim : BodyOk T d_slim := by
  refine ⟨⟨rfl, rfl, rfl, by decide +kernel, rfl, by decide +kernel, by decide +kernel⟩, fun X G g0 H0 k O0 S0 => ?_⟩
  have v0_0 := S0.var 0 ("log" : Str) (by decide +kernel)
  have g0_want_log := S0.glo ("want_log" : Str) (by decide +kernel)
  have g0_slim_of := S0.glo ("slim_of" : Str) (by decide +kernel)
  exact ss_one (s_ret (call_ O0 g0_slim_of (cl_slim_of_1 O0) (s_paCons (call_ O0 g0_want_log (cl_want_log_1 O0) (s_paCons (v_ v0_0) (s_paNil) rfl) (s_pkNil) rfl rfl (fun z => nomatch z)) (s_paNil) rfl) (s_pkNil) rfl rfl (fun z => nomatch z)))
theorem ok__law_pot : BodyOk T d__law_pot := by
  refine ⟨⟨rfl, rfl, rfl, by decide +kernel, rfl, by decide +kernel, by decide +kernel⟩, fun X G g0 H0 k O0 S0 => ?_⟩
  have t0_2 := S0.tgt 2 ("cell" : Str) (by decide +kernel)
  have v0_1 := S0.var 1 ("k" : Str) (by decide +kernel)
  have v0_0 := S0.var 0 ("script" : Str) (by decide +kernel)
  have b0_len := O0.blt S0 ("len" : Str) _ PySem.boot_len (by decide +kernel)
  have b0_abs := O0.blt S0 ("abs" : Str) _ PyProof.Rows.boot_abs (by decide +kernel)
  have v0_2 := S0.var 2 ("cell" : Str) (by decide +kernel)
  have b0_int := O0.blt S0 ("int" : Str) (.type "int") PyProof.Rows.boot_int (by decide +kernel)
  have b0_max := O0.blt S0 ("max" : Str) _ PyProof.Rows.boot_max (by decide +kernel)
  exact ss_cons (set_ t0_2 (s_bin o_add (s_bin o_mul (s_int) (v_ v0_1)) (s_int)) rfl) (ss_cons (s_ifS (cmpT_ o_lt (v_ v0_1) (bl_ b0_len c_len (s_paCons (v_ v0_0) (s_paNil) rfl) rfl) rfl) (ss_one (set_ t0_2 (bl_ b0_abs c_abs (s_paCons (s_ix (v_ v0_0) (v_ v0_1) rfl) (s_paNil) rfl) rfl) rfl)) (ss_nil)) (ss_one (s_ret (PE.cell (s_disp (s_paCons (bl_ b0_max (c_maxL O0.calm) (s_paCons (s_int) (s_paCons (s_bin o_sub (v_ v0_2) (s_bin o_pow (s_int) (s_int))) (s_paNil) rfl) rfl) rfl) (s_paCons (s_bin o_add (s_bin o_mod (ty_ b0_int c_int (s_paCons (s_bin o_add (s_bin o_add (s_bin o_mul (s_bin o_mod (ty_ b0_int c_int (s_paCons (v_ v0_2) (s_paNil) rfl) rfl) (s_int)) (s_int)) (s_bin o_mul (s_int) (v_ v0_1))) (s_int)) (s_paNil) rfl) rfl) (s_int)) (s_int)) (s_paNil) rfl) rfl))))))
theorem ok__law_draw : BodyOk T d__law_draw := by
  refine ⟨⟨rfl, rfl, rfl, by decide +kernel, rfl, by decide +kernel, by decide +kernel⟩, fun X G g0 H0 k O0 S0 => ?_⟩
  have v0_0 := S0.var 0 ("pot" : Str) (by decide +kernel)
  have v0_1 := S0.var 1 ("many" : Str) (by decide +kernel)
  have b0_divmod := O0.blt S0 ("divmod" : Str) _ PyProof.Rows.boot_divmod (by decide +kernel)
  have t0_2 := S0.tgt 2 ("digit" : Str) (by decide +kernel)
  have v0_2 := S0.var 2 ("digit" : Str) (by decide +kernel)
  have b0_int := O0.blt S0 ("int" : Str) (.type "int") PyProof.Rows.boot_int (by decide +kernel)
  exact ss_cons (s_ifS (cmpT_ o_gt (s_ix (v_ v0_0) (s_int) rfl) (s_int) rfl) (ss_cons (s_asg (bl_ b0_divmod c_divmod (s_paCons (s_ix (v_ v0_0) (s_int) rfl) (s_paCons (v_ v0_1) (s_paNil) rfl) rfl) rfl) (s_pgTup O0.calm (s_pgsCons (pgi_ v0_0 (s_int) rfl) (s_pgsCons (pgn_ t0_2) (s_pgsNil) rfl) rfl) rfl) rfl rfl rfl) (ss_one (s_ret (v_ v0_2)))) (ss_nil)) (ss_cons (s_asg (s_bin o_mod (ty_ b0_int c_int (s_paCons (s_bin o_add (s_bin o_mul (s_ix (v_ v0_0) (s_int) rfl) (s_int)) (s_int)) (s_paNil) rfl) rfl) (s_int)) (pgi_ v0_0 (s_int) rfl) rfl rfl rfl) (ss_one (s_ret (s_bin o_mod (ty_ b0_int c_int (s_paCons (s_bin o_fdiv (s_bin o_mod (ty_ b0_int c_int (s_paCons (s_bin o_mul (s_ix (v_ v0_0) (s_int) rfl) (s_ix (v_ v0_0) (s_int) rfl)) (s_paNil) rfl) rfl) (s_int)) (s_int)) (s_paNil) rfl) rfl) (v_ v0_1)))))
theorem ok__law_things : BodyOk T d__law_things := by
  refine ⟨⟨rfl, rfl, rfl, by decide +kernel, rfl, by decide +kernel, by decide +kernel⟩, fun X G g0 H0 k O0 S0 => ?_⟩
  have v0_1 := S0.var 1 ("many" : Str) (by decide +kernel)
  have b0_range := O0.blt S0 ("range" : Str) _ PyProof.Rows.boot_range (by decide +kernel)
  have b0_tuple := O0.blt S0 ("tuple" : Str) (.type "tuple") PyProof.Rows.boot_tuple (by decide +kernel)
  exact ss_one (s_ret (ty_ b0_tuple c_tuple (s_paCons (PE.val (comp_ O0 S0 [(("thing" : Str), 2)] (range1_ b0_range (s_paCons (v_ v0_1) (s_paNil) rfl) rfl) ⟨rfl, by decide +kernel, by decide +kernel, by decide +kernel, by decide +kernel⟩ (by decide) (fun X1 O1 S1 => by have t1_2 := S1.tgt 2 ("thing" : Str) (by decide +kernel); exact g_ t1_2) (fun X1 O1 S1 => by have v1_0 := S1.var 0 ("pot" : Str) (by decide +kernel); have g1__law_draw := S1.glo ("_law_draw" : Str) (by decide +kernel); exact pts1_ (cmpT_ (o_eq O1.un) (call_ O1 g1__law_draw (cl__law_draw_2 O1) (s_paCons (v_ v1_0) (s_paCons (s_int) (s_paNil) rfl) rfl) (s_pkNil) rfl rfl (fun z => nomatch z)) (s_int) rfl)) (fun X1 O1 S1 => by have v1_2 := S1.var 2 ("thing" : Str) (by decide +kernel); exact v_ v1_2) (fun _ => rfl))) (s_paNil) rfl) rfl))
theorem ok__law_is_wrong : BodyOk T d__law_is_wrong := by
  refine ⟨⟨rfl, rfl, rfl, by decide +kernel, rfl, by decide +kernel, by decide +kernel⟩, fun X G g0 H0 k O0 S0 => ?_⟩
  have v0_1 := S0.var 1 ("thing" : Str) (by decide +kernel)
  have v0_0 := S0.var 0 ("row" : Str) (by decide +kernel)
  exact ss_one (s_ret (s_cmp (o_eq O0.un) (s_cmp (o_in O0.un65) (v_ v0_1) (s_ix (v_ v0_0) (s_int) rfl) rfl) (s_cmp (o_eq O0.un) (s_ix (v_ v0_0) (s_int) rfl) (s_str) rfl) rfl))
theorem ok__law_wrong : BodyOk T d__law_wrong := by
  refine ⟨⟨rfl, rfl, rfl, by decide +kernel, rfl, by decide +kernel, by decide +kernel⟩, fun X G g0 H0 k O0 S0 => ?_⟩
  have v0_0 := S0.var 0 ("log" : Str) (by decide +kernel)
  have b0_len := O0.blt S0 ("len" : Str) _ PySem.boot_len (by decide +kernel)
  have b0_range := O0.blt S0 ("range" : Str) _ PyProof.Rows.boot_range (by decide +kernel)
  have b0_tuple := O0.blt S0 ("tuple" : Str) (.type "tuple") PyProof.Rows.boot_tuple (by decide +kernel)
  exact ss_one (s_ret (ty_ b0_tuple c_tuple (s_paCons (PE.val (comp_ O0 S0 [(("at" : Str), 2)] (range1_ b0_range (s_paCons (bl_ b0_len c_len (s_paCons (s_ix (v_ v0_0) (s_int) rfl) (s_paNil) rfl) rfl) (s_paNil) rfl) rfl) ⟨rfl, by decide +kernel, by decide +kernel, by decide +kernel, by decide +kernel⟩ (by decide) (fun X1 O1 S1 => by have t1_2 := S1.tgt 2 ("at" : Str) (by decide +kernel); exact g_ t1_2) (fun X1 O1 S1 => by have v1_1 := S1.var 1 ("thing" : Str) (by decide +kernel); have v1_0 := S1.var 0 ("log" : Str) (by decide +kernel); have v1_2 := S1.var 2 ("at" : Str) (by decide +kernel); have g1__law_is_wrong := S1.glo ("_law_is_wrong" : Str) (by decide +kernel); exact pts1_ (s_truth (call_ O1 g1__law_is_wrong (cl__law_is_wrong_2 O1) (s_paCons (s_ix (s_ix (v_ v1_0) (s_int) rfl) (v_ v1_2) rfl) (s_paCons (v_ v1_1) (s_paNil) rfl) rfl) (s_pkNil) rfl rfl (fun z => nomatch z)) (fun _ => rfl))) (fun X1 O1 S1 => by have v1_2 := S1.var 2 ("at" : Str) (by decide +kernel); exact v_ v1_2) (fun _ => rfl))) (s_paNil) rfl) rfl))
theorem ok__law_possible : BodyOk T d__law_possible := by
  refine ⟨⟨rfl, rfl, rfl, by decide +kernel, rfl, by decide +kernel, by decide +kernel⟩, fun X G g0 H0 k O0 S0 => ?_⟩
  have v0_0 := S0.var 0 ("log" : Str) (by decide +kernel)
  have b0_range := O0.blt S0 ("range" : Str) _ PyProof.Rows.boot_range (by decide +kernel)
  exact ss_one (s_ret (PE.val (comp_ O0 S0 [(("thing" : Str), 1)] (range1_ b0_range (s_paCons (s_ix (v_ v0_0) (s_int) rfl) (s_paNil) rfl) rfl) ⟨rfl, by decide +kernel, by decide +kernel, by decide +kernel, by decide +kernel⟩ (by decide) (fun X1 O1 S1 => by have t1_1 := S1.tgt 1 ("thing" : Str) (by decide +kernel); exact g_ t1_1) (fun X1 O1 S1 => by have v1_1 := S1.var 1 ("thing" : Str) (by decide +kernel); have v1_0 := S1.var 0 ("log" : Str) (by decide +kernel); have g1__law_wrong := S1.glo ("_law_wrong" : Str) (by decide +kernel); have b1_len := O1.blt S1 ("len" : Str) _ PySem.boot_len (by decide +kernel); exact pts1_ (cmpT_ o_le (bl_ b1_len c_len (s_paCons (call_ O1 g1__law_wrong (cl__law_wrong_2 O1) (s_paCons (v_ v1_0) (s_paCons (v_ v1_1) (s_paNil) rfl) rfl) (s_pkNil) rfl rfl (fun z => nomatch z)) (s_paNil) rfl) rfl) (s_ix (v_ v1_0) (s_int) rfl) rfl)) (fun X1 O1 S1 => by have v1_1 := S1.var 1 ("thing" : Str) (by decide +kernel); exact v_ v1_1) (fun _ => rfl))))
theorem ok__law_log : BodyOk T d__law_log := by
  refine ⟨⟨rfl, rfl, rfl, by decide +kernel, rfl, by decide +kernel, by decide +kernel⟩, fun X G g0 H0 k O0 S0 => ?_⟩
  have l0_3 := S0.tgn 3 ("many" : Str) (by decide +kernel)
  have l0_4 := S0.tgn 4 ("lies" : Str) (by decide +kernel)
  have v0_1 := S0.var 1 ("most" : Str) (by decide +kernel)
  have v0_0 := S0.var 0 ("pot" : Str) (by decide +kernel)
  have g0__law_draw := S0.glo ("_law_draw" : Str) (by decide +kernel)
  have l0_5 := S0.tgn 5 ("found" : Str) (by decide +kernel)
  have l0_6 := S0.tgn 6 ("thought" : Str) (by decide +kernel)
  have l0_7 := S0.tgn 7 ("told" : Str) (by decide +kernel)
  have v0_3 := S0.var 3 ("many" : Str) (by decide +kernel)
  have v0_4 := S0.var 4 ("lies" : Str) (by decide +kernel)
  have v0_2 := S0.var 2 ("rows" : Str) (by decide +kernel)
  have b0_range := O0.blt S0 ("range" : Str) _ PyProof.Rows.boot_range (by decide +kernel)
  have t0_8 := S0.tgt 8 ("turn" : Str) (by decide +kernel)
  have t0_9 := S0.tgt 9 ("things" : Str) (by decide +kernel)
  have g0__law_things := S0.glo ("_law_things" : Str) (by decide +kernel)
  have t0_10 := S0.tgt 10 ("is_yes" : Str) (by decide +kernel)
  have v0_6 := S0.var 6 ("thought" : Str) (by decide +kernel)
  have v0_9 := S0.var 9 ("things" : Str) (by decide +kernel)
  have v0_7 := S0.var 7 ("told" : Str) (by decide +kernel)
  have l0_10 := S0.tgn 10 ("is_yes" : Str) (by decide +kernel)
  have v0_10 := S0.var 10 ("is_yes" : Str) (by decide +kernel)
  have v0_5 := S0.var 5 ("found" : Str) (by decide +kernel)
  have b0_tuple := O0.blt S0 ("tuple" : Str) (.type "tuple") PyProof.Rows.boot_tuple (by decide +kernel)
  exact ss_cons (par2s_ O0 S0 rfl l0_3 l0_4 (by decide) (s_mV (s_bin o_add (s_int) (call_ O0 g0__law_draw (cl__law_draw_2 O0) (s_paCons (v_ v0_0) (s_paCons (v_ v0_1) (s_paNil) rfl) rfl) (s_pkNil) rfl rfl (fun z => nomatch z)))) (s_mV (call_ O0 g0__law_draw (cl__law_draw_2 O0) (s_paCons (v_ v0_0) (s_paCons (s_int) (s_paNil) rfl) rfl) (s_pkNil) rfl rfl (fun z => nomatch z))) rfl rfl rfl (by decide +kernel) rfl rfl) (ss_cons (par3s_ O0 S0 rfl l0_5 l0_6 l0_7 (by decide) (by decide) (by decide) (s_mO (s_disp (s_paNil))) (s_mV (call_ O0 g0__law_draw (cl__law_draw_2 O0) (s_paCons (v_ v0_0) (s_paCons (v_ v0_3) (s_paNil) rfl) rfl) (s_pkNil) rfl rfl (fun z => nomatch z))) (s_mV (s_bin o_add (v_ v0_4) (call_ O0 g0__law_draw (cl__law_draw_2 O0) (s_paCons (v_ v0_0) (s_paCons (s_int) (s_paNil) rfl) rfl) (s_pkNil) rfl rfl (fun z => nomatch z)))) rfl rfl rfl rfl rfl (by decide +kernel) rfl rfl) (ss_cons (for_ O0 (range1_ b0_range (s_paCons (call_ O0 g0__law_draw (cl__law_draw_2 O0) (s_paCons (v_ v0_0) (s_paCons (s_bin o_add (v_ v0_2) (s_int)) (s_paNil) rfl) rfl) (s_pkNil) rfl rfl (fun z => nomatch z)) (s_paNil) rfl) rfl) (g_ t0_8) (ss_cons (set_ t0_9 (call_ O0 g0__law_things (cl__law_things_2 O0) (s_paCons (v_ v0_0) (s_paCons (v_ v0_3) (s_paNil) rfl) rfl) (s_pkNil) rfl rfl (fun z => nomatch z)) rfl) (ss_cons (set_ t0_10 (s_cmp (o_in O0.un65) (v_ v0_6) (v_ v0_9) rfl) rfl) (ss_cons (s_ifS ((s_and (cmpT_ o_gt (v_ v0_7) (s_int) rfl) (s_and1 (cmpT_ (o_eq O0.un) (call_ O0 g0__law_draw (cl__law_draw_2 O0) (s_paCons (v_ v0_0) (s_paCons (s_int) (s_paNil) rfl) rfl) (s_pkNil) rfl rfl (fun z => nomatch z)) (s_int) rfl))).pt) (ss_one (par2s_ O0 S0 rfl l0_10 l0_7 (by decide) (s_mV (s_notV (v_ v0_10))) (s_mV (s_bin o_sub (v_ v0_7) (s_int))) rfl rfl rfl (by decide +kernel) rfl rfl)) (ss_nil)) (ss_one (append_ v0_5 (s_tup (s_paCons (v_ v0_9) (s_paCons (s_if (s_truth (v_ v0_10) (fun _ => rfl)) (s_str) (s_str)) (s_paNil) rfl) rfl)) rfl rfl))))) (fun _ => rfl)) (ss_one (s_ret (s_tup (s_paCons (s_str) (s_paCons (v_ v0_3) (s_paCons (v_ v0_4) (s_paCons (ty_ b0_tuple c_tuple (s_paCons (v_ v0_5) (s_paNil) rfl) rfl) (s_paNil) rfl) rfl) rfl) rfl))))))
theorem ok__law_less : BodyOk T d__law_less := by
  refine ⟨⟨rfl, rfl, rfl, by decide +kernel, rfl, by decide +kernel, by decide +kernel⟩, fun X G g0 H0 k O0 S0 => ?_⟩
  have v0_0 := S0.var 0 ("log" : Str) (by decide +kernel)
  have v0_1 := S0.var 1 ("at" : Str) (by decide +kernel)
  exact ss_one (s_ret (s_bin o_add (s_slice (v_ v0_0) (s_noPart) (s_part (s_int))) (s_tup (s_paCons (s_bin o_add (s_slice (s_ix (v_ v0_0) (s_int) rfl) (s_noPart) (s_part (v_ v0_1))) (s_slice (s_ix (v_ v0_0) (s_int) rfl) (s_part (s_bin o_add (v_ v0_1) (s_int))) (s_noPart))) (s_paNil) rfl))))
theorem ok__law_truth : BodyOk T d__law_truth := by
  refine ⟨⟨rfl, rfl, rfl, by decide +kernel, rfl, by decide +kernel, by decide +kernel⟩, fun X G g0 H0 k O0 S0 => ?_⟩
  have t0_2 := S0.tgt 2 ("told" : Str) (by decide +kernel)
  have v0_0 := S0.var 0 ("log" : Str) (by decide +kernel)
  have g0__law_possible := S0.glo ("_law_possible" : Str) (by decide +kernel)
  have l0_2 := S0.tgn 2 ("told" : Str) (by decide +kernel)
  have v0_2 := S0.var 2 ("told" : Str) (by decide +kernel)
  exact ss_cons (frzA_ (setComp_ O0 S0 l0_2 [(("thing" : Str), 3)] rfl rfl rfl (s_items (call_ O0 g0__law_possible (cl__law_possible_1 O0) (s_paCons (v_ v0_0) (s_paNil) rfl) (s_pkNil) rfl rfl (fun z => nomatch z))) ⟨rfl, by decide +kernel, by decide +kernel, by decide +kernel, by decide +kernel⟩ (by decide) (fun X1 O1 S1 => by have t1_3 := S1.tgt 3 ("thing" : Str) (by decide +kernel); exact g_ t1_3) (fun X1 O1 S1 => by exact pts0_) (fun X1 O1 S1 => by have v1_3 := S1.var 3 ("thing" : Str) (by decide +kernel); have v1_0 := S1.var 0 ("log" : Str) (by decide +kernel); have v1_1 := S1.var 1 ("at" : Str) (by decide +kernel); have g1__law_is_wrong := S1.glo ("_law_is_wrong" : Str) (by decide +kernel); exact call_ O1 g1__law_is_wrong (cl__law_is_wrong_2 O1) (s_paCons (s_ix (s_ix (v_ v1_0) (s_int) rfl) (v_ v1_1) rfl) (s_paCons (v_ v1_3) (s_paNil) rfl) rfl) (s_pkNil) rfl rfl (fun z => nomatch z)) (fun _ => rfl))) (ss_cons (s_ifS (cmpT_ (o_eq O0.un) (v_ v0_2) (s_lst (s_paNil)) rfl) (ss_one (s_ret (s_str))) (ss_nil)) (ss_one (s_ret (s_if ((s_and (cmpT_ (o_in O0.un65) (s_bl) (v_ v0_2) rfl) (s_and1 (cmpT_ (o_in O0.un65) (s_bl) (v_ v0_2) rfl))).pt) (s_str) (s_if (cmpT_ (o_in O0.un65) (s_bl) (v_ v0_2) rfl) (s_str) (s_str))))))
theorem ok__law_bars_right : BodyOk T d__law_bars_right := by
  refine ⟨⟨rfl, rfl, rfl, by decide +kernel, rfl, by decide +kernel, by decide +kernel⟩, fun X G g0 H0 k O0 S0 => ?_⟩
  have v0_2 := S0.var 2 ("bars" : Str) (by decide +kernel)
  have v0_1 := S0.var 1 ("things" : Str) (by decide +kernel)
  have t0_3 := S0.tgt 3 ("thing" : Str) (by decide +kernel)
  have t0_4 := S0.tgt 4 ("positions" : Str) (by decide +kernel)
  have v0_4 := S0.var 4 ("positions" : Str) (by decide +kernel)
  have b0_len := O0.blt S0 ("len" : Str) _ PySem.boot_len (by decide +kernel)
  have v0_0 := S0.var 0 ("log" : Str) (by decide +kernel)
  have b0_list := O0.blt S0 ("list" : Str) _ PyProof.Rows.boot_list (by decide +kernel)
  have b0_sorted := O0.blt S0 ("sorted" : Str) (.builtin "sorted") PyProof.Rows.boot_sorted (by decide +kernel)
  have b0_set := O0.blt S0 ("set" : Str) (.type "set") PyProof.Rows.boot_set (by decide +kernel)
  exact ss_cons (s_ifS (cmpT_ (o_ne O0.un) (PE.val (comp_ O0 S0 [(("thing" : Str), 3), (("positions" : Str), 4)] (s_items (v_ v0_2)) ⟨rfl, by decide +kernel, by decide +kernel, by decide +kernel, by decide +kernel⟩ (by decide) (fun X1 O1 S1 => by have t1_3 := S1.tgt 3 ("thing" : Str) (by decide +kernel); have t1_4 := S1.tgt 4 ("positions" : Str) (by decide +kernel); exact s_gTup O1.calm (s_gsCons (g_ t1_3) (s_gsCons (g_ t1_4) (s_gsNil) rfl) rfl) rfl rfl) (fun X1 O1 S1 => by exact pts0_) (fun X1 O1 S1 => by have v1_3 := S1.var 3 ("thing" : Str) (by decide +kernel); exact v_ v1_3) (fun _ => rfl))) (v_ v0_1) rfl) (ss_one (s_ret (s_bl))) (ss_nil)) (ss_cons (for_ O0 (s_items (v_ v0_2)) (s_gTup O0.calm (s_gsCons (g_ t0_3) (s_gsCons (g_ t0_4) (s_gsNil) rfl) rfl) rfl rfl) (ss_one (s_ifS ((s_or (cmpT_ (o_ne O0.un) (bl_ b0_len c_len (s_paCons (v_ v0_4) (s_paNil) rfl) rfl) (s_bin o_add (s_ix (v_ v0_0) (s_int) rfl) (s_int)) rfl) (s_or (cmpT_ (o_ne O0.un) (PE.val (listF_ b0_list (s_paCons (v_ v0_4) (s_paNil) rfl) rfl)) (PE.val (sortSetI_ O0.calm b0_sorted b0_set (s_paCons (v_ v0_4) (s_paNil) rfl) rfl)) rfl) (s_or1 (cmpT_ (o_ne O0.un) (PE.val (comp_ O0 S0 [(("at" : Str), 5)] (s_items (v_ v0_4)) ⟨rfl, by decide +kernel, by decide +kernel, by decide +kernel, by decide +kernel⟩ (by decide) (fun X1 O1 S1 => by have t1_5 := S1.tgt 5 ("at" : Str) (by decide +kernel); exact g_ t1_5) (fun X1 O1 S1 => by have v1_5 := S1.var 5 ("at" : Str) (by decide +kernel); have v1_3 := S1.var 3 ("thing" : Str) (by decide +kernel); have v1_0 := S1.var 0 ("log" : Str) (by decide +kernel); have g1__law_wrong := S1.glo ("_law_wrong" : Str) (by decide +kernel); exact pts1_ (cmpT_ (o_notin O1.un65) (v_ v1_5) (call_ O1 g1__law_wrong (cl__law_wrong_2 O1) (s_paCons (v_ v1_0) (s_paCons (v_ v1_3) (s_paNil) rfl) rfl) (s_pkNil) rfl rfl (fun z => nomatch z)) rfl)) (fun X1 O1 S1 => by have v1_5 := S1.var 5 ("at" : Str) (by decide +kernel); exact v_ v1_5) (fun _ => rfl))) (s_lst (s_paNil)) rfl)))).pt) (ss_one (s_ret (s_bl))) (ss_nil))) (fun _ => rfl)) (ss_one (s_ret (s_bl))))
theorem ok__law_paper_right : BodyOk T d__law_paper_right := by
  refine ⟨⟨rfl, rfl, rfl, by decide +kernel, rfl, by decide +kernel, by decide +kernel⟩, fun X G g0 H0 k O0 S0 => ?_⟩
  have v0_0 := S0.var 0 ("log" : Str) (by decide +kernel)
  have v0_1 := S0.var 1 ("at" : Str) (by decide +kernel)
  have g0__law_possible := S0.glo ("_law_possible" : Str) (by decide +kernel)
  have t0_3 := S0.tgt 3 ("some" : Str) (by decide +kernel)
  have t0_4 := S0.tgt 4 ("row" : Str) (by decide +kernel)
  have v0_2 := S0.var 2 ("paper" : Str) (by decide +kernel)
  have b0_list := O0.blt S0 ("list" : Str) _ PyProof.Rows.boot_list (by decide +kernel)
  have b0_range := O0.blt S0 ("range" : Str) _ PyProof.Rows.boot_range (by decide +kernel)
  have g0__law_bars_right := S0.glo ("_law_bars_right" : Str) (by decide +kernel)
  have v0_3 := S0.var 3 ("some" : Str) (by decide +kernel)
  have v0_4 := S0.var 4 ("row" : Str) (by decide +kernel)
  have g0__law_is_wrong := S0.glo ("_law_is_wrong" : Str) (by decide +kernel)
  have t0_5 := S0.tgt 5 ("others" : Str) (by decide +kernel)
  have l0_5 := S0.tgn 5 ("others" : Str) (by decide +kernel)
  have v0_5 := S0.var 5 ("others" : Str) (by decide +kernel)
  exact ss_cons (s_asg (s_tup (s_paCons (call_ O0 g0__law_possible (cl__law_possible_1 O0) (s_paCons (v_ v0_0) (s_paNil) rfl) (s_pkNil) rfl rfl (fun z => nomatch z)) (s_paCons (s_ix (s_ix (v_ v0_0) (s_int) rfl) (v_ v0_1) rfl) (s_paNil) rfl) rfl)) (s_pgTup O0.calm (s_pgsCons (pgn_ t0_3) (s_pgsCons (pgn_ t0_4) (s_pgsNil) rfl) rfl) rfl) rfl (sw_no S0 (by decide +kernel)) rfl) (ss_cons (s_ifS (cmpT_ (o_eq O0.un) (s_ix (v_ v0_2) (s_int) rfl) (s_str) rfl) (ss_one (s_ret (call_ O0 g0__law_bars_right (cl__law_bars_right_3 O0) (s_paCons (v_ v0_0) (s_paCons (PE.val (lstRg_ O0.calm b0_list b0_range (s_ix (v_ v0_0) (s_int) rfl) rfl)) (s_paCons (s_ix (v_ v0_2) (s_int) rfl) (s_paNil) rfl) rfl) rfl) (s_pkNil) rfl rfl (fun z => nomatch z)))) (ss_nil)) (ss_cons (s_ifS (cmpT_ (o_eq O0.un) (s_ix (v_ v0_2) (s_int) rfl) (s_str) rfl) (ss_one (s_ret (s_andV (s_cmp (o_in O0.un65) (s_ix (v_ v0_2) (s_int) rfl) (v_ v0_3) rfl) (s_andV (s_cmp (o_in O0.un65) (s_ix (v_ v0_2) (s_int) rfl) (v_ v0_3) rfl) (s_andV (s_notV (call_ O0 g0__law_is_wrong (cl__law_is_wrong_2 O0) (s_paCons (v_ v0_4) (s_paCons (s_ix (v_ v0_2) (s_int) rfl) (s_paNil) rfl) rfl) (s_pkNil) rfl rfl (fun z => nomatch z))) (s_oneV (call_ O0 g0__law_is_wrong (cl__law_is_wrong_2 O0) (s_paCons (v_ v0_4) (s_paCons (s_ix (v_ v0_2) (s_int) rfl) (s_paNil) rfl) rfl) (s_pkNil) rfl rfl (fun z => nomatch z)))))))) (ss_nil)) (ss_cons (frzA_ (setComp_ O0 S0 l0_5 [(("thing" : Str), 6)] rfl rfl rfl (range1_ b0_range (s_paCons (s_ix (v_ v0_0) (s_int) rfl) (s_paNil) rfl) rfl) ⟨rfl, by decide +kernel, by decide +kernel, by decide +kernel, by decide +kernel⟩ (by decide) (fun X1 O1 S1 => by have t1_6 := S1.tgt 6 ("thing" : Str) (by decide +kernel); exact g_ t1_6) (fun X1 O1 S1 => by have v1_6 := S1.var 6 ("thing" : Str) (by decide +kernel); have v1_4 := S1.var 4 ("row" : Str) (by decide +kernel); have g1__law_is_wrong := S1.glo ("_law_is_wrong" : Str) (by decide +kernel); have v1_2 := S1.var 2 ("paper" : Str) (by decide +kernel); exact pts1_ (cmpT_ (o_ne O1.un) (call_ O1 g1__law_is_wrong (cl__law_is_wrong_2 O1) (s_paCons (v_ v1_4) (s_paCons (v_ v1_6) (s_paNil) rfl) rfl) (s_pkNil) rfl rfl (fun z => nomatch z)) (s_cmp (o_eq O1.un) (s_ix (v_ v1_2) (s_int) rfl) (s_str) rfl) rfl)) (fun X1 O1 S1 => by have v1_6 := S1.var 6 ("thing" : Str) (by decide +kernel); exact v_ v1_6) (fun _ => rfl))) (ss_one (s_ret (s_andV (s_cmp (o_in O0.un65) (s_ix (v_ v0_2) (s_int) rfl) (v_ v0_3) rfl) (s_andV (s_cmp (o_notin O0.un65) (s_ix (v_ v0_2) (s_int) rfl) (v_ v0_5) rfl) (s_oneV (call_ O0 g0__law_bars_right (cl__law_bars_right_3 O0) (s_paCons (v_ v0_0) (s_paCons (v_ v0_5) (s_paCons (s_ix (v_ v0_2) (s_int) rfl) (s_paNil) rfl) rfl) rfl) (s_pkNil) rfl rfl (fun z => nomatch z))))))))))
theorem ok__law_right : BodyOk T d__law_right := by
  refine ⟨⟨rfl, rfl, rfl, by decide +kernel, rfl, by decide +kernel, by decide +kernel⟩, fun X G g0 H0 k O0 S0 => ?_⟩
  have t0_1 := S0.tgt 1 ("log" : Str) (by decide +kernel)
  have v0_0 := S0.var 0 ("pot" : Str) (by decide +kernel)
  have g0__law_log := S0.glo ("_law_log" : Str) (by decide +kernel)
  have t0_2 := S0.tgt 2 ("due" : Str) (by decide +kernel)
  have v0_1 := S0.var 1 ("log" : Str) (by decide +kernel)
  have b0_len := O0.blt S0 ("len" : Str) _ PySem.boot_len (by decide +kernel)
  have b0_range := O0.blt S0 ("range" : Str) _ PyProof.Rows.boot_range (by decide +kernel)
  have l0_2 := S0.tgn 2 ("due" : Str) (by decide +kernel)
  have g0_truths := S0.glo ("truths" : Str) (by decide +kernel)
  have b0_repr := O0.blt S0 ("repr" : Str) _ PyProof.Rows.boot_repr (by decide +kernel)
  have v0_2 := S0.var 2 ("due" : Str) (by decide +kernel)
  have t0_3 := S0.tgt 3 ("at" : Str) (by decide +kernel)
  have l0_4 := S0.tgn 4 ("paper" : Str) (by decide +kernel)
  have l0_5 := S0.tgn 5 ("idle" : Str) (by decide +kernel)
  have v0_3 := S0.var 3 ("at" : Str) (by decide +kernel)
  have g0_truth_paper := S0.glo ("truth_paper" : Str) (by decide +kernel)
  have g0__law_less := S0.glo ("_law_less" : Str) (by decide +kernel)
  have g0__law_possible := S0.glo ("_law_possible" : Str) (by decide +kernel)
  have v0_4 := S0.var 4 ("paper" : Str) (by decide +kernel)
  have g0_truth := S0.glo ("truth" : Str) (by decide +kernel)
  have g0__law_paper_right := S0.glo ("_law_paper_right" : Str) (by decide +kernel)
  have g0_is_truth_paper := S0.glo ("is_truth_paper" : Str) (by decide +kernel)
  have g0_is_idle := S0.glo ("is_idle" : Str) (by decide +kernel)
  have v0_5 := S0.var 5 ("idle" : Str) (by decide +kernel)
  have t0_6 := S0.tgt 6 ("late" : Str) (by decide +kernel)
  have v0_6 := S0.var 6 ("late" : Str) (by decide +kernel)
  have g0_slim := S0.glo ("slim" : Str) (by decide +kernel)
  exact ss_cons (set_ t0_1 (call_ O0 g0__law_log (cl__law_log_3 O0) (s_paCons (v_ v0_0) (s_paCons (s_int) (s_paCons (s_int) (s_paNil) rfl) rfl) rfl) (s_pkNil) rfl rfl (fun z => nomatch z)) rfl) (ss_cons (frzA_ (setComp_ O0 S0 l0_2 [(("at" : Str), 3)] rfl rfl rfl (range1_ b0_range (s_paCons (bl_ b0_len c_len (s_paCons (s_ix (v_ v0_1) (s_int) rfl) (s_paNil) rfl) rfl) (s_paNil) rfl) rfl) ⟨rfl, by decide +kernel, by decide +kernel, by decide +kernel, by decide +kernel⟩ (by decide) (fun X1 O1 S1 => by have t1_3 := S1.tgt 3 ("at" : Str) (by decide +kernel); exact g_ t1_3) (fun X1 O1 S1 => by exact pts0_) (fun X1 O1 S1 => by have v1_3 := S1.var 3 ("at" : Str) (by decide +kernel); have v1_1 := S1.var 1 ("log" : Str) (by decide +kernel); have g1__law_truth := S1.glo ("_law_truth" : Str) (by decide +kernel); exact call_ O1 g1__law_truth (cl__law_truth_2 O1) (s_paCons (v_ v1_1) (s_paCons (v_ v1_3) (s_paNil) rfl) rfl) (s_pkNil) rfl rfl (fun z => nomatch z)) (fun _ => rfl))) (ss_cons (s_ifS (cmpT_ (o_ne O0.un) (bl_ b0_repr (c_repr O0.gu O0.un) (s_paCons (s_lst (s_paCons (call_ O0 g0_truths (cl_truths_1 O0) (s_paCons (v_ v0_1) (s_paNil) rfl) (s_pkNil) rfl rfl (fun z => nomatch z)) (s_paCons (call_ O0 g0_truths (cl_truths_0_log O0) (s_paNil) (s_pkCons (v_ v0_1) (s_pkNil)) rfl rfl (fun _ => rfl)) (s_paNil) rfl) rfl)) (s_paNil) rfl) rfl) (bl_ b0_repr (c_repr O0.gu O0.un) (s_paCons (s_lst (s_paCons (v_ v0_2) (s_paCons (v_ v0_2) (s_paNil) rfl) rfl)) (s_paNil) rfl) rfl) rfl) (ss_one (s_ret (s_bl))) (ss_nil)) (ss_cons (for_ O0 (range1_ b0_range (s_paCons (bl_ b0_len c_len (s_paCons (s_ix (v_ v0_1) (s_int) rfl) (s_paNil) rfl) rfl) (s_paNil) rfl) rfl) (g_ t0_3) (ss_cons (par2s_ O0 S0 rfl l0_4 l0_5 (by decide) (s_mV (call_ O0 g0_truth_paper (cl_truth_paper_2 O0) (s_paCons (v_ v0_1) (s_paCons (v_ v0_3) (s_paNil) rfl) rfl) (s_pkNil) rfl rfl (fun z => nomatch z))) (s_mV (s_cmp (o_eq O0.un) (call_ O0 g0__law_possible (cl__law_possible_1 O0) (s_paCons (call_ O0 g0__law_less (cl__law_less_2 O0) (s_paCons (v_ v0_1) (s_paCons (v_ v0_3) (s_paNil) rfl) rfl) (s_pkNil) rfl rfl (fun z => nomatch z)) (s_paNil) rfl) (s_pkNil) rfl rfl (fun z => nomatch z)) (call_ O0 g0__law_possible (cl__law_possible_1 O0) (s_paCons (v_ v0_1) (s_paNil) rfl) (s_pkNil) rfl rfl (fun z => nomatch z)) rfl)) rfl rfl rfl (by decide +kernel) rfl rfl) (ss_cons (s_ifS ((s_or (cmpT_ (o_ne O0.un) (bl_ b0_repr (c_repr O0.gu O0.un) (s_paCons (s_lst (s_paCons (call_ O0 g0_truth (cl_truth_2 O0) (s_paCons (v_ v0_1) (s_paCons (v_ v0_3) (s_paNil) rfl) rfl) (s_pkNil) rfl rfl (fun z => nomatch z)) (s_paCons (call_ O0 g0_truth (cl_truth_0_position_log O0) (s_paNil) (s_pkCons (v_ v0_3) (s_pkCons (v_ v0_1) (s_pkNil))) rfl rfl (fun _ => rfl)) (s_paCons (s_ix (v_ v0_4) (s_int) rfl) (s_paNil) rfl) rfl) rfl)) (s_paNil) rfl) rfl) (bl_ b0_repr (c_repr O0.gu O0.un) (s_paCons (s_bin o_mul (s_lst (s_paCons (s_ix (v_ v0_2) (v_ v0_3) rfl) (s_paNil) rfl)) (s_int)) (s_paNil) rfl) rfl) rfl) (s_or1 (s_notT (s_truth (call_ O0 g0__law_paper_right (cl__law_paper_right_3 O0) (s_paCons (v_ v0_1) (s_paCons (v_ v0_3) (s_paCons (v_ v0_4) (s_paNil) rfl) rfl) rfl) (s_pkNil) rfl rfl (fun z => nomatch z)) (fun _ => rfl))))).pt) (ss_one (s_ret (s_bl))) (ss_nil)) (ss_cons (s_ifS ((s_or (s_notT (s_truth (call_ O0 g0_is_truth_paper (cl_is_truth_paper_3 O0) (s_paCons (v_ v0_1) (s_paCons (v_ v0_3) (s_paCons (v_ v0_4) (s_paNil) rfl) rfl) rfl) (s_pkNil) rfl rfl (fun z => nomatch z)) (fun _ => rfl))) (s_or1 (s_notT (s_truth (call_ O0 g0_is_truth_paper (cl_is_truth_paper_0_value_position_log O0) (s_paNil) (s_pkCons (call_ O0 g0_truth_paper (cl_truth_paper_0_position_log O0) (s_paNil) (s_pkCons (v_ v0_3) (s_pkCons (v_ v0_1) (s_pkNil))) rfl rfl (fun _ => rfl)) (s_pkCons (v_ v0_3) (s_pkCons (v_ v0_1) (s_pkNil)))) rfl rfl (fun _ => rfl)) (fun _ => rfl))))).pt) (ss_one (s_ret (s_bl))) (ss_nil)) (ss_one (s_ifS (cmpT_ (o_ne O0.un) (bl_ b0_repr (c_repr O0.gu O0.un) (s_paCons (s_lst (s_paCons (call_ O0 g0_is_idle (cl_is_idle_2 O0) (s_paCons (v_ v0_1) (s_paCons (v_ v0_3) (s_paNil) rfl) rfl) (s_pkNil) rfl rfl (fun z => nomatch z)) (s_paCons (call_ O0 g0_is_idle (cl_is_idle_0_position_log O0) (s_paNil) (s_pkCons (v_ v0_3) (s_pkCons (v_ v0_1) (s_pkNil))) rfl rfl (fun _ => rfl)) (s_paNil) rfl) rfl)) (s_paNil) rfl) rfl) (bl_ b0_repr (c_repr O0.gu O0.un) (s_paCons (s_lst (s_paCons (v_ v0_5) (s_paCons (v_ v0_5) (s_paNil) rfl) rfl)) (s_paNil) rfl) rfl) rfl) (ss_one (s_ret (s_bl))) (ss_nil)))))) (fun _ => rfl)) (ss_cons (set_ t0_6 (v_ v0_1) rfl) (ss_cons (for_ O0 (range3_ b0_range (s_paCons (s_bin o_sub (bl_ b0_len c_len (s_paCons (s_ix (v_ v0_1) (s_int) rfl) (s_paNil) rfl) rfl) (s_int)) (s_paCons (s_un o_neg (s_int)) (s_paCons (s_un o_neg (s_int)) (s_paNil) rfl) rfl) rfl) rfl rfl rfl) (g_ t0_3) (ss_one (set_ t0_6 (s_if (cmpT_ (o_eq O0.un) (call_ O0 g0__law_possible (cl__law_possible_1 O0) (s_paCons (call_ O0 g0__law_less (cl__law_less_2 O0) (s_paCons (v_ v0_6) (s_paCons (v_ v0_3) (s_paNil) rfl) rfl) (s_pkNil) rfl rfl (fun z => nomatch z)) (s_paNil) rfl) (s_pkNil) rfl rfl (fun z => nomatch z)) (call_ O0 g0__law_possible (cl__law_possible_1 O0) (s_paCons (v_ v0_6) (s_paNil) rfl) (s_pkNil) rfl rfl (fun z => nomatch z)) rfl) (call_ O0 g0__law_less (cl__law_less_2 O0) (s_paCons (v_ v0_6) (s_paCons (v_ v0_3) (s_paNil) rfl) rfl) (s_pkNil) rfl rfl (fun z => nomatch z)) (v_ v0_6)) rfl)) (fun _ => rfl)) (ss_cons (s_ifS ((s_or (cmpT_ (o_ne O0.un) (bl_ b0_repr (c_repr O0.gu O0.un) (s_paCons (s_lst (s_paCons (call_ O0 g0_slim (cl_slim_1 O0) (s_paCons (v_ v0_1) (s_paNil) rfl) (s_pkNil) rfl rfl (fun z => nomatch z)) (s_paCons (call_ O0 g0_slim (cl_slim_0_log O0) (s_paNil) (s_pkCons (v_ v0_1) (s_pkNil)) rfl rfl (fun _ => rfl)) (s_paNil) rfl) rfl)) (s_paNil) rfl) rfl) (bl_ b0_repr (c_repr O0.gu O0.un) (s_paCons (s_lst (s_paCons (v_ v0_6) (s_paCons (v_ v0_6) (s_paNil) rfl) rfl)) (s_paNil) rfl) rfl) rfl) (s_or1 (cmpT_ (o_ne O0.un) (call_ O0 g0__law_possible (cl__law_possible_1 O0) (s_paCons (v_ v0_6) (s_paNil) rfl) (s_pkNil) rfl rfl (fun z => nomatch z)) (call_ O0 g0__law_possible (cl__law_possible_1 O0) (s_paCons (v_ v0_1) (s_paNil) rfl) (s_pkNil) rfl rfl (fun z => nomatch z)) rfl))).pt) (ss_one (s_ret (s_bl))) (ss_nil)) (ss_one (s_ret (s_cmp (o_eq O0.un) (PE.val (comp_ O0 S0 [(("at" : Str), 3)] (range1_ b0_range (s_paCons (bl_ b0_len c_len (s_paCons (s_ix (v_ v0_6) (s_int) rfl) (s_paNil) rfl) rfl) (s_paNil) rfl) rfl) ⟨rfl, by decide +kernel, by decide +kernel, by decide +kernel, by decide +kernel⟩ (by decide) (fun X1 O1 S1 => by have t1_3 := S1.tgt 3 ("at" : Str) (by decide +kernel); exact g_ t1_3) (fun X1 O1 S1 => by have v1_3 := S1.var 3 ("at" : Str) (by decide +kernel); have v1_6 := S1.var 6 ("late" : Str) (by decide +kernel); have g1_is_idle := S1.glo ("is_idle" : Str) (by decide +kernel); exact pts1_ (cmpT_ o_isnot (call_ O1 g1_is_idle (cl_is_idle_2 O1) (s_paCons (v_ v1_6) (s_paCons (v_ v1_3) (s_paNil) rfl) rfl) (s_pkNil) rfl rfl (fun z => nomatch z)) (s_bl) rfl)) (fun X1 O1 S1 => by have v1_3 := S1.var 3 ("at" : Str) (by decide +kernel); exact v_ v1_3) (fun _ => rfl))) (s_lst (s_paNil)) rfl)))))))))
theorem ok_law : BodyOk T d_law := by
  refine ⟨⟨rfl, rfl, rfl, by decide +kernel, rfl, by decide +kernel, by decide +kernel⟩, fun X G g0 H0 k O0 S0 => ?_⟩
  have t0_1 := S0.tgt 1 ("k" : Str) (by decide +kernel)
  have t0_2 := S0.tgt 2 ("pot" : Str) (by decide +kernel)
  have v0_1 := S0.var 1 ("k" : Str) (by decide +kernel)
  have v0_0 := S0.var 0 ("script" : Str) (by decide +kernel)
  have g0__law_pot := S0.glo ("_law_pot" : Str) (by decide +kernel)
  have b0_range := O0.blt S0 ("range" : Str) _ PyProof.Rows.boot_range (by decide +kernel)
  have t0_3 := S0.tgt 3 ("turn" : Str) (by decide +kernel)
  have v0_2 := S0.var 2 ("pot" : Str) (by decide +kernel)
  have g0__law_right := S0.glo ("_law_right" : Str) (by decide +kernel)
  exact ss_cons (for_ O0 (s_items (s_tup (s_paCons (s_int) (s_paCons (s_int) (s_paNil) rfl) rfl))) (g_ t0_1) (ss_cons (set_ t0_2 (call_ O0 g0__law_pot (cl__law_pot_2 O0) (s_paCons (v_ v0_0) (s_paCons (v_ v0_1) (s_paNil) rfl) rfl) (s_pkNil) rfl rfl (fun z => nomatch z)) rfl) (ss_one (for_ O0 (range1_ b0_range (s_paCons (s_int) (s_paNil) rfl) rfl) (g_ t0_3) (ss_one (s_ifS (s_notT (s_truth (call_ O0 g0__law_right (cl__law_right_1 O0) (s_paCons (v_ v0_2) (s_paNil) rfl) (s_pkNil) rfl rfl (fun z => nomatch z)) (fun _ => rfl))) (ss_one (s_ret (s_bl))) (ss_nil))) (fun _ => rfl)))) (fun _ => rfl)) (ss_one (s_ret (s_bl)))
abbrev F := fnsOf T.defs
theorem u_is_integer {k : Nat} {ds : List D} {h : Cells} : F (k + 1) 0 ds h = bodyF 1 m_is_integer (F k) ds h := rfl
theorem u_is_count {k : Nat} {ds : List D} {h : Cells} : F (k + 1) 1 ds h = bodyF 1 m_is_count (F k) ds h := rfl
theorem u_is_below {k : Nat} {ds : List D} {h : Cells} : F (k + 1) 2 ds h = bodyF 2 m_is_below (F k) ds h := rfl
theorem u_is_row {k : Nat} {ds : List D} {h : Cells} : F (k + 1) 3 ds h = bodyF 2 m_is_row (F k) ds h := rfl
theorem u_is_rising {k : Nat} {ds : List D} {h : Cells} : F (k + 1) 4 ds h = bodyF 3 m_is_rising (F k) ds h := rfl
theorem u_is_answer {k : Nat} {ds : List D} {h : Cells} : F (k + 1) 5 ds h = bodyF 1 m_is_answer (F k) ds h := rfl
theorem u_are_things_in {k : Nat} {ds : List D} {h : Cells} : F (k + 1) 6 ds h = bodyF 3 m_are_things_in (F k) ds h := rfl
theorem u_is_log_of {k : Nat} {ds : List D} {h : Cells} : F (k + 1) 7 ds h = bodyF 4 m_is_log_of (F k) ds h := rfl
theorem u_with_rows {k : Nat} {ds : List D} {h : Cells} : F (k + 1) 8 ds h = bodyF 2 m_with_rows (F k) ds h := rfl
theorem u_is_wrong_for {k : Nat} {ds : List D} {h : Cells} : F (k + 1) 9 ds h = bodyF 2 m_is_wrong_for (F k) ds h := rfl
theorem u_wrong_of {k : Nat} {ds : List D} {h : Cells} : F (k + 1) 10 ds h = bodyF 4 m_wrong_of (F k) ds h := rfl
theorem u_possible_of {k : Nat} {ds : List D} {h : Cells} : F (k + 1) 11 ds h = bodyF 2 m_possible_of (F k) ds h := rfl
theorem u_want_log {k : Nat} {ds : List D} {h : Cells} : F (k + 1) 12 ds h = bodyF 1 m_want_log (F k) ds h := rfl
theorem u_want_position {k : Nat} {ds : List D} {h : Cells} : F (k + 1) 13 ds h = bodyF 2 m_want_position (F k) ds h := rfl
theorem u_truth_of {k : Nat} {ds : List D} {h : Cells} : F (k + 1) 14 ds h = bodyF 4 m_truth_of (F k) ds h := rfl
theorem u_barred_for {k : Nat} {ds : List D} {h : Cells} : F (k + 1) 15 ds h = bodyF 2 m_barred_for (F k) ds h := rfl
theorem u_others_of {k : Nat} {ds : List D} {h : Cells} : F (k + 1) 16 ds h = bodyF 4 m_others_of (F k) ds h := rfl
theorem u_first_thing {k : Nat} {ds : List D} {h : Cells} : F (k + 1) 17 ds h = bodyF 4 m_first_thing (F k) ds h := rfl
theorem u_paper_of {k : Nat} {ds : List D} {h : Cells} : F (k + 1) 18 ds h = bodyF 5 m_paper_of (F k) ds h := rfl
theorem u_is_bar_for {k : Nat} {ds : List D} {h : Cells} : F (k + 1) 19 ds h = bodyF 4 m_is_bar_for (F k) ds h := rfl
theorem u_are_bars {k : Nat} {ds : List D} {h : Cells} : F (k + 1) 20 ds h = bodyF 5 m_are_bars (F k) ds h := rfl
theorem u_is_possible_in {k : Nat} {ds : List D} {h : Cells} : F (k + 1) 21 ds h = bodyF 2 m_is_possible_in (F k) ds h := rfl
theorem u_is_paper_of {k : Nat} {ds : List D} {h : Cells} : F (k + 1) 22 ds h = bodyF 3 m_is_paper_of (F k) ds h := rfl
theorem u_without_row {k : Nat} {ds : List D} {h : Cells} : F (k + 1) 23 ds h = bodyF 2 m_without_row (F k) ds h := rfl
theorem u_is_idle_of {k : Nat} {ds : List D} {h : Cells} : F (k + 1) 24 ds h = bodyF 2 m_is_idle_of (F k) ds h := rfl
theorem u_slim_of {k : Nat} {ds : List D} {h : Cells} : F (k + 1) 25 ds h = bodyF 2 m_slim_of (F k) ds h := rfl
theorem u_truth {k : Nat} {ds : List D} {h : Cells} : F (k + 1) 26 ds h = bodyF 2 m_truth (F k) ds h := rfl
theorem u_truths {k : Nat} {ds : List D} {h : Cells} : F (k + 1) 27 ds h = bodyF 2 m_truths (F k) ds h := rfl
theorem u_truth_paper {k : Nat} {ds : List D} {h : Cells} : F (k + 1) 28 ds h = bodyF 2 m_truth_paper (F k) ds h := rfl
theorem u_is_truth_paper {k : Nat} {ds : List D} {h : Cells} : F (k + 1) 29 ds h = bodyF 3 m_is_truth_paper (F k) ds h := rfl
theorem u_is_idle {k : Nat} {ds : List D} {h : Cells} : F (k + 1) 30 ds h = bodyF 2 m_is_idle (F k) ds h := rfl
theorem u_slim {k : Nat} {ds : List D} {h : Cells} : F (k + 1) 31 ds h = bodyF 1 m_slim (F k) ds h := rfl
theorem u__law_pot {k : Nat} {ds : List D} {h : Cells} : F (k + 1) 32 ds h = bodyF 3 m__law_pot (F k) ds h := rfl
theorem u__law_draw {k : Nat} {ds : List D} {h : Cells} : F (k + 1) 33 ds h = bodyF 3 m__law_draw (F k) ds h := rfl
theorem u__law_things {k : Nat} {ds : List D} {h : Cells} : F (k + 1) 34 ds h = bodyF 3 m__law_things (F k) ds h := rfl
theorem u__law_is_wrong {k : Nat} {ds : List D} {h : Cells} : F (k + 1) 35 ds h = bodyF 2 m__law_is_wrong (F k) ds h := rfl
theorem u__law_wrong {k : Nat} {ds : List D} {h : Cells} : F (k + 1) 36 ds h = bodyF 3 m__law_wrong (F k) ds h := rfl
theorem u__law_possible {k : Nat} {ds : List D} {h : Cells} : F (k + 1) 37 ds h = bodyF 2 m__law_possible (F k) ds h := rfl
theorem u__law_log {k : Nat} {ds : List D} {h : Cells} : F (k + 1) 38 ds h = bodyF 11 m__law_log (F k) ds h := rfl
theorem u__law_less {k : Nat} {ds : List D} {h : Cells} : F (k + 1) 39 ds h = bodyF 2 m__law_less (F k) ds h := rfl
theorem u__law_truth {k : Nat} {ds : List D} {h : Cells} : F (k + 1) 40 ds h = bodyF 4 m__law_truth (F k) ds h := rfl
theorem u__law_bars_right {k : Nat} {ds : List D} {h : Cells} : F (k + 1) 41 ds h = bodyF 6 m__law_bars_right (F k) ds h := rfl
theorem u__law_paper_right {k : Nat} {ds : List D} {h : Cells} : F (k + 1) 42 ds h = bodyF 7 m__law_paper_right (F k) ds h := rfl
theorem u__law_right {k : Nat} {ds : List D} {h : Cells} : F (k + 1) 43 ds h = bodyF 7 m__law_right (F k) ds h := rfl
theorem u_law {k : Nat} {ds : List D} {h : Cells} : F (k + 1) 44 ds h = bodyF 4 m_law (F k) ds h := rfl
theorem ok_all : ∀ (i : Nat) (d : FD), T.defs[i]? = some d → BodyOk T d
  | 0, _, rfl => ok_is_integer
  | 1, _, rfl => ok_is_count
  | 2, _, rfl => ok_is_below
  | 3, _, rfl => ok_is_row
  | 4, _, rfl => ok_is_rising
  | 5, _, rfl => ok_is_answer
  | 6, _, rfl => ok_are_things_in
  | 7, _, rfl => ok_is_log_of
  | 8, _, rfl => ok_with_rows
  | 9, _, rfl => ok_is_wrong_for
  | 10, _, rfl => ok_wrong_of
  | 11, _, rfl => ok_possible_of
  | 12, _, rfl => ok_want_log
  | 13, _, rfl => ok_want_position
  | 14, _, rfl => ok_truth_of
  | 15, _, rfl => ok_barred_for
  | 16, _, rfl => ok_others_of
  | 17, _, rfl => ok_first_thing
  | 18, _, rfl => ok_paper_of
  | 19, _, rfl => ok_is_bar_for
  | 20, _, rfl => ok_are_bars
  | 21, _, rfl => ok_is_possible_in
  | 22, _, rfl => ok_is_paper_of
  | 23, _, rfl => ok_without_row
  | 24, _, rfl => ok_is_idle_of
  | 25, _, rfl => ok_slim_of
  | 26, _, rfl => ok_truth
  | 27, _, rfl => ok_truths
  | 28, _, rfl => ok_truth_paper
  | 29, _, rfl => ok_is_truth_paper
  | 30, _, rfl => ok_is_idle
  | 31, _, rfl => ok_slim
  | 32, _, rfl => ok__law_pot
  | 33, _, rfl => ok__law_draw
  | 34, _, rfl => ok__law_things
  | 35, _, rfl => ok__law_is_wrong
  | 36, _, rfl => ok__law_wrong
  | 37, _, rfl => ok__law_possible
  | 38, _, rfl => ok__law_log
  | 39, _, rfl => ok__law_less
  | 40, _, rfl => ok__law_truth
  | 41, _, rfl => ok__law_bars_right
  | 42, _, rfl => ok__law_paper_right
  | 43, _, rfl => ok__law_right
  | 44, _, rfl => ok_law
  | _ + 45, _, h => nomatch h
end EV.K
namespace EV.K
open PySem L2
abbrev Rw : PySem.W.OpenRow := PySem.W.OpenLaw.row PySem.Challenge.rw_askedliars_k38_whole_truths_of_rows
abbrev hk : PySem.W.Hook := hookX (faOf T) (EV.fnOf T)
def ob (s : PySem.W.SharedT) : He.AlD := obX (faOf T) (EV.fnOf T) (HandSHeadRun.getT s)
theorem ob_eq (s : PySem.W.SharedT) : ob s = hk.obs s.abs := obX_eq (HandSHeadRun.getT_eq s)
def nm0 : List PySem.Str := ["AskError", "InvalidLog", "InvalidPosition", "is_integer", "is_count", "is_below", "is_row", "is_rising", "LOG", "YES", "NO", "MOST_MANY", "MOST_LIES", "MOST_ROWS", "is_answer", "are_things_in", "is_log_of", "with_rows", "is_wrong_for", "wrong_of", "possible_of", "want_log", "want_position", "NONE", "RIGHT", "WRONG", "OPEN", "truth_of", "barred_for", "others_of"]
def nm1 : List PySem.Str := ["first_thing", "paper_of", "is_bar_for", "are_bars", "is_possible_in", "is_paper_of", "without_row", "is_idle_of", "slim_of", "truth", "truths", "truth_paper", "is_truth_paper", "is_idle", "slim", "_law_pot", "_law_draw", "_law_things", "_law_is_wrong", "_law_wrong", "_law_possible", "_law_log", "_law_less", "_law_truth", "_law_bars_right", "_law_paper_right", "_law_right"]
def names : List PySem.Str := nm0 ++ nm1
theorem runs (w : PySem.World) : HandSHeadRun.RunEq Rw (PySem.W.view Rw.prog [62]) hk ob 8000 names w := by
  intro os
  kernel_rfl
end EV.K
namespace EV
open PySem L2
abbrev t_law_draw : Pot2 → Int → Int × Pot2 := drawT 48271 1051 2147483587 2147483563 19
theorem law_draw_b : DrB t_law_draw := drawT_b
def law_things_m (c__law_draw : Nat) : DS := sRet (dOpN cTuple (daCons (asVal (dComp [2] (.name 2) (dRng1 (daCons (dVar 1) (daNil))) (dtB (dOp2 dEq (dCall c__law_draw 2 0 [.p 0, .p 1] [] (daCons (dVar 0) (daCons (dC (.int 2)) (daNil))) (daNil)) (dC (.int 0)))) (dVar 2))) (daNil)))
def t_law_things (p_0 : Pot2) (many_0 : Int) : ((List Int) × Pot2) := lt (filtS (fun u_2 q_3 => ((decide ((t_law_draw q_3 2).1 = 0)), (t_law_draw q_3 2).2)) (rangeI many_0) p_0) fun q_1 => ((q_1.1.map (fun u_2 => u_2)), q_1.2)
def ST_law_things (f : Fn) : Prop := ∀ (n : Nat) (h0 : Cells) (p_0 : Pot2) (many_0 : Int), PotOk n h0 → (m0 : 0 ≤ many_0) → (m1 : many_0 ≤ 1000) → f [.obj n, D.int many_0] (hp n h0 p_0) = .ok ((eT D.int) (t_law_things p_0 many_0).1) (hp n h0 (t_law_things p_0 many_0).2)
theorem et_law_things {fn : Fns} {i__law_draw : Nat} (c_draw : ST_draw t_law_draw (fn i__law_draw)) : ST_law_things (bodyF 3 (law_things_m i__law_draw) fn) := by
  intro n h0 p_0 many_0 hn m0 m1
  refine b_ret (m := law_things_m i__law_draw) (V := (fun (r : ((List Int) × Pot2)) => ((eT D.int) r.1, hp n h0 r.2))) (r := t_law_things p_0 many_0) ?_
  unfold t_law_things law_things_m
  show J _ fn [.val (.obj n), .val (D.int many_0), .no] _ _ _
  refine j_lt fun q_1 e_q_1 => ?_
  exact j_ret (d := (eT D.int) (q_1.1.map (fun u_2 => u_2))) (x_opN (xa_cons (xv ((eL D.int) (q_1.1.map (fun u_2 => u_2))) (x_asVal (show _ = R.ok ((q_1.1.map (fun u_2 => u_2)).map D.int) (hp n h0 q_1.2) from by rw [e_q_1]; exact (f_compSF (en := D.int) (ev := D.int) (hp n h0) (fun u_2 q_3 => ((decide ((t_law_draw q_3 2).1 = 0)), (t_law_draw q_3 2).2)) (fun u_2 => u_2) (i_rng1 (xa_cons (x_var rfl) xa_nil) (by /-_law_things 1: range low-/first | assumption | omega | (dsimp only [lt] at *; omega) | (set_option maxHeartbeats 40000 in (simp; done)) | (set_option maxHeartbeats 40000 in (simp; omega)) | (set_option maxHeartbeats 40000 in (simp at *; omega)) | (set_option maxHeartbeats 40000 in (simp_all; done)) | (set_option maxHeartbeats 40000 in (simp_all; omega))) (by /-_law_things 2: range many_0 ≤ 10^9-/first | assumption | omega | (dsimp only [lt] at *; omega) | (set_option maxHeartbeats 40000 in (simp; done)) | (set_option maxHeartbeats 40000 in (simp; omega)) | (set_option maxHeartbeats 40000 in (simp at *; omega)) | (set_option maxHeartbeats 40000 in (simp_all; done)) | (set_option maxHeartbeats 40000 in (simp_all; omega)))) (by /-_law_things 3: (rangeI many_0).length ≤ 16777216-/first | assumption | omega | (dsimp only [lt] at *; omega) | (set_option maxHeartbeats 40000 in (simp; done)) | (set_option maxHeartbeats 40000 in (simp; omega)) | (set_option maxHeartbeats 40000 in (simp at *; omega)) | (set_option maxHeartbeats 40000 in (simp_all; done)) | (set_option maxHeartbeats 40000 in (simp_all; omega))) rfl (fun _ => rfl) fun u_2 hu q_3 => have hu_u_2 := hu; have hr := mem_rng hu; ⟨_, (p_name rfl rfl rfl), (t_B (x_op2 (x_call (xa_cons (x_var rfl) (xa_cons x_c xa_nil)) xa_nil (nb_cons rfl (nb_cons rfl nb_nil)) nb_nil rfl rfl rfl (c_draw n h0 q_3 2 hn (by /-_law_things 4: _law_draw: pre 0-/first | assumption | omega | (dsimp only [lt] at *; omega) | (set_option maxHeartbeats 40000 in (simp; done)) | (set_option maxHeartbeats 40000 in (simp; omega)) | (set_option maxHeartbeats 40000 in (simp at *; omega)) | (set_option maxHeartbeats 40000 in (simp_all; done)) | (set_option maxHeartbeats 40000 in (simp_all; omega))) (by /-_law_things 5: _law_draw: pre 1-/first | assumption | omega | (dsimp only [lt] at *; omega) | (set_option maxHeartbeats 40000 in (simp; done)) | (set_option maxHeartbeats 40000 in (simp; omega)) | (set_option maxHeartbeats 40000 in (simp at *; omega)) | (set_option maxHeartbeats 40000 in (simp_all; done)) | (set_option maxHeartbeats 40000 in (simp_all; omega))))) x_c rfl)), (x_var rfl)⟩)))) xa_nil) (o_tupL (e := D.int))) rfl ⟨rfl, rfl⟩
def law_is_wrong_m : DS := sRet (dOp2 dEq (dOp2 dIn (dVar 1) (dOp2 dIx (dVar 0) (dC (.int 0)))) (dOp2 dEq (dOp2 dIx (dVar 0) (dC (.int 1))) (dC (.str ("no" : Str)))))
def t_law_is_wrong (row_0 : ((List Int) × SS)) (thing_0 : Int) : Bool := (decide ((hasB row_0.1 thing_0) = (decide (row_0.2 = (lit "no")))))
def ST_law_is_wrong (f : Fn) : Prop := ∀ (row_0 : ((List Int) × SS)) (thing_0 : Int), ∀ h, f [(eP2 (eT D.int) eS) row_0, D.int thing_0] h = .ok (D.bl (t_law_is_wrong row_0 thing_0)) h
theorem et_law_is_wrong {fn : Fns} : ST_law_is_wrong (bodyF 2 (law_is_wrong_m) fn) := by
  intro row_0 thing_0 h
  refine b_ret (m := law_is_wrong_m) (V := (fun (r : Bool) => (D.bl r, h))) (r := t_law_is_wrong row_0 thing_0) ?_
  unfold t_law_is_wrong law_is_wrong_m
  show J _ fn [.val ((eP2 (eT D.int) eS) row_0), .val (D.int thing_0)] _ _ _
  exact j_ret (d := D.bl (decide ((hasB row_0.1 thing_0) = (decide (row_0.2 = (lit "no")))))) (x_op2 (x_op2 (x_var rfl) (x_op2 (x_var rfl) x_c o_ixP2_0) (o_inT (e := D.int) (xs := row_0.1) (by decide))) (x_op2 (x_op2 (x_var rfl) x_c o_ixP2_1) (xv (eS (lit "no")) x_c) (o_eqE (e := eS) (a := row_0.2) (b := (lit "no")) (by decide))) rfl) rfl ⟨rfl, rfl⟩
def law_wrong_m (c__law_is_wrong : Nat) : DS := sRet (dOpN cTuple (daCons (asVal (dComp [2] (.name 2) (dRng1 (daCons (dOpN cLen (daCons (dOp2 dIx (dVar 0) (dC (.int 3))) (daNil))) (daNil))) (dTruE (dCall c__law_is_wrong 2 0 [.p 0, .p 1] [] (daCons (dOp2 dIx (dOp2 dIx (dVar 0) (dC (.int 3))) (dVar 2)) (daCons (dVar 1) (daNil))) (daNil))) (dVar 2))) (daNil)))
def t_law_wrong (log_0 : (SS × Int × Int × (List ((List Int) × SS)))) (thing_0 : Int) : (List Int) := (((rangeI (log_0.2.2.2.length : Int)).filter (fun u_1 => (t_law_is_wrong (getI log_0.2.2.2 u_1) thing_0))).map (fun u_1 => u_1))
def ST_law_wrong (f : Fn) : Prop := ∀ (log_0 : (SS × Int × Int × (List ((List Int) × SS)))) (thing_0 : Int), (rw : log_0.2.2.2.length ≤ 1000) → ∀ h, f [(eP4 eS D.int D.int (eT (eP2 (eT D.int) eS))) log_0, D.int thing_0] h = .ok ((eT D.int) (t_law_wrong log_0 thing_0)) h
theorem et_law_wrong {fn : Fns} {i__law_is_wrong : Nat} (c_law_is_wrong : ST_law_is_wrong (fn i__law_is_wrong)) : ST_law_wrong (bodyF 3 (law_wrong_m i__law_is_wrong) fn) := by
  intro log_0 thing_0 rw h
  refine b_ret (m := law_wrong_m i__law_is_wrong) (V := (fun (r : (List Int)) => ((eT D.int) r, h))) (r := t_law_wrong log_0 thing_0) ?_
  unfold t_law_wrong law_wrong_m
  show J _ fn [.val ((eP4 eS D.int D.int (eT (eP2 (eT D.int) eS))) log_0), .val (D.int thing_0), .no] _ _ _
  exact j_ret (d := (eT D.int) (((rangeI (log_0.2.2.2.length : Int)).filter (fun u_1 => (t_law_is_wrong (getI log_0.2.2.2 u_1) thing_0))).map (fun u_1 => u_1))) (x_opN (xa_cons (xv ((eL D.int) (((rangeI (log_0.2.2.2.length : Int)).filter (fun u_1 => (t_law_is_wrong (getI log_0.2.2.2 u_1) thing_0))).map (fun u_1 => u_1))) (x_asVal (f_compF (en := D.int) (ev := D.int) (fun u_1 => (t_law_is_wrong (getI log_0.2.2.2 u_1) thing_0)) (fun u_1 => u_1) (i_rng1 (xa_cons (x_opN (xa_cons (x_op2 (x_var rfl) x_c o_ixP4_3) xa_nil) (o_lenT (e := (eP2 (eT D.int) eS)))) xa_nil) (by /-_law_wrong 1: range low-/first | assumption | omega | (dsimp only [lt] at *; omega) | (set_option maxHeartbeats 40000 in (simp; done)) | (set_option maxHeartbeats 40000 in (simp; omega)) | (set_option maxHeartbeats 40000 in (simp at *; omega)) | (set_option maxHeartbeats 40000 in (simp_all; done)) | (set_option maxHeartbeats 40000 in (simp_all; omega))) (by /-_law_wrong 2: range (log_0.2.2.2.length : Int) ≤ 10^9-/first | assumption | omega | (dsimp only [lt] at *; omega) | (set_option maxHeartbeats 40000 in (simp; done)) | (set_option maxHeartbeats 40000 in (simp; omega)) | (set_option maxHeartbeats 40000 in (simp at *; omega)) | (set_option maxHeartbeats 40000 in (simp_all; done)) | (set_option maxHeartbeats 40000 in (simp_all; omega)))) (by /-_law_wrong 3: (rangeI (log_0.2.2.2.length : Int)).length ≤ 16777216-/first | assumption | omega | (dsimp only [lt] at *; omega) | (set_option maxHeartbeats 40000 in (simp; done)) | (set_option maxHeartbeats 40000 in (simp; omega)) | (set_option maxHeartbeats 40000 in (simp at *; omega)) | (set_option maxHeartbeats 40000 in (simp_all; done)) | (set_option maxHeartbeats 40000 in (simp_all; omega))) rfl (fun _ => rfl) fun u_1 hu => have hu_u_1 := hu; have hr := mem_rng hu; ⟨_, (p_name rfl rfl rfl), (t_tru (x_call (xa_cons (x_op2 (x_op2 (x_var rfl) x_c o_ixP4_3) (x_var rfl) (o_ixT (e := (eP2 (eT D.int) eS)) (xs := log_0.2.2.2) (k := u_1) (by /-_law_wrong 4: -log_0.2.2.2.length ≤ u_1-/first | assumption | omega | (dsimp only [lt] at *; omega) | (set_option maxHeartbeats 40000 in (simp; done)) | (set_option maxHeartbeats 40000 in (simp; omega)) | (set_option maxHeartbeats 40000 in (simp at *; omega)) | (set_option maxHeartbeats 40000 in (simp_all; done)) | (set_option maxHeartbeats 40000 in (simp_all; omega))) (by /-_law_wrong 5: u_1 < log_0.2.2.2.length-/first | assumption | omega | (dsimp only [lt] at *; omega) | (set_option maxHeartbeats 40000 in (simp; done)) | (set_option maxHeartbeats 40000 in (simp; omega)) | (set_option maxHeartbeats 40000 in (simp at *; omega)) | (set_option maxHeartbeats 40000 in (simp_all; done)) | (set_option maxHeartbeats 40000 in (simp_all; omega))))) (xa_cons (x_var rfl) xa_nil)) xa_nil (nb_cons rfl (nb_cons rfl nb_nil)) nb_nil rfl rfl rfl (c_law_is_wrong (getI log_0.2.2.2 u_1) thing_0 _)) tr_bl), fun hp => (x_var rfl)⟩))) xa_nil) (o_tupL (e := D.int))) rfl ⟨rfl, rfl⟩
def law_possible_m (c__law_wrong : Nat) : DS := sRet (asVal (dComp [1] (.name 1) (dRng1 (daCons (dOp2 dIx (dVar 0) (dC (.int 1))) (daNil))) (dtB (dOp2 dLe (dOpN cLen (daCons (dCall c__law_wrong 2 0 [.p 0, .p 1] [] (daCons (dVar 0) (daCons (dVar 1) (daNil))) (daNil)) (daNil))) (dOp2 dIx (dVar 0) (dC (.int 2))))) (dVar 1)))
def t_law_possible (log_0 : (SS × Int × Int × (List ((List Int) × SS)))) : (List Int) := (((rangeI log_0.2.1).filter (fun u_1 => (decide (((t_law_wrong log_0 u_1).length : Int) ≤ log_0.2.2.1)))).map (fun u_1 => u_1))
def ST_law_possible (f : Fn) : Prop := ∀ (log_0 : (SS × Int × Int × (List ((List Int) × SS)))), (mn : log_0.2.1 ≤ 1000) → (m1 : -1000 ≤ log_0.2.1) → (rw : log_0.2.2.2.length ≤ 1000) → ∀ h, f [(eP4 eS D.int D.int (eT (eP2 (eT D.int) eS))) log_0] h = .ok ((eL D.int) (t_law_possible log_0)) h
theorem et_law_possible {fn : Fns} {i__law_wrong : Nat} (c_law_wrong : ST_law_wrong (fn i__law_wrong)) : ST_law_possible (bodyF 2 (law_possible_m i__law_wrong) fn) := by
  intro log_0 mn m1 rw h
  refine b_ret (m := law_possible_m i__law_wrong) (V := (fun (r : (List Int)) => ((eL D.int) r, h))) (r := t_law_possible log_0) ?_
  unfold t_law_possible law_possible_m
  show J _ fn [.val ((eP4 eS D.int D.int (eT (eP2 (eT D.int) eS))) log_0), .no] _ _ _
  exact j_ret (d := (eL D.int) (((rangeI log_0.2.1).filter (fun u_1 => (decide (((t_law_wrong log_0 u_1).length : Int) ≤ log_0.2.2.1)))).map (fun u_1 => u_1))) (xv ((eL D.int) (((rangeI log_0.2.1).filter (fun u_1 => (decide (((t_law_wrong log_0 u_1).length : Int) ≤ log_0.2.2.1)))).map (fun u_1 => u_1))) (x_asVal (f_compF (en := D.int) (ev := D.int) (fun u_1 => (decide (((t_law_wrong log_0 u_1).length : Int) ≤ log_0.2.2.1))) (fun u_1 => u_1) (i_rng1 (xa_cons (x_op2 (x_var rfl) x_c o_ixP4_1) xa_nil) (by /-_law_possible 1: range low-/first | assumption | omega | (dsimp only [lt] at *; omega) | (set_option maxHeartbeats 40000 in (simp; done)) | (set_option maxHeartbeats 40000 in (simp; omega)) | (set_option maxHeartbeats 40000 in (simp at *; omega)) | (set_option maxHeartbeats 40000 in (simp_all; done)) | (set_option maxHeartbeats 40000 in (simp_all; omega))) (by /-_law_possible 2: range log_0.2.1 ≤ 10^9-/first | assumption | omega | (dsimp only [lt] at *; omega) | (set_option maxHeartbeats 40000 in (simp; done)) | (set_option maxHeartbeats 40000 in (simp; omega)) | (set_option maxHeartbeats 40000 in (simp at *; omega)) | (set_option maxHeartbeats 40000 in (simp_all; done)) | (set_option maxHeartbeats 40000 in (simp_all; omega)))) (by /-_law_possible 3: (rangeI log_0.2.1).length ≤ 16777216-/first | assumption | omega | (dsimp only [lt] at *; omega) | (set_option maxHeartbeats 40000 in (simp; done)) | (set_option maxHeartbeats 40000 in (simp; omega)) | (set_option maxHeartbeats 40000 in (simp at *; omega)) | (set_option maxHeartbeats 40000 in (simp_all; done)) | (set_option maxHeartbeats 40000 in (simp_all; omega))) rfl (fun _ => rfl) fun u_1 hu => have hu_u_1 := hu; have hr := mem_rng hu; ⟨_, (p_name rfl rfl rfl), (t_B (x_op2 (x_opN (xa_cons (x_call (xa_cons (x_var rfl) (xa_cons (x_var rfl) xa_nil)) xa_nil (nb_cons rfl (nb_cons rfl nb_nil)) nb_nil rfl rfl rfl (c_law_wrong log_0 u_1 (by /-_law_possible 4: _law_wrong: pre 0-/first | assumption | omega | (dsimp only [lt] at *; omega) | (set_option maxHeartbeats 40000 in (simp; done)) | (set_option maxHeartbeats 40000 in (simp; omega)) | (set_option maxHeartbeats 40000 in (simp at *; omega)) | (set_option maxHeartbeats 40000 in (simp_all; done)) | (set_option maxHeartbeats 40000 in (simp_all; omega))) _)) xa_nil) (o_lenT (e := D.int))) (x_op2 (x_var rfl) x_c o_ixP4_2) rfl)), fun hp => (x_var rfl)⟩))) rfl ⟨rfl, rfl⟩
def law_log_l0 (c__law_things c__law_draw : Nat) : DS := sSeq (sSet 9 (dCall c__law_things 2 0 [.p 0, .p 1] [] (daCons (dVar 0) (daCons (dVar 3) (daNil))) (daNil))) (sSeq (sSet 10 (dOp2 dIn (dVar 6) (dVar 9))) (sSeq (sIf (dtAnd (dtB (dOp2 dGt (dVar 7) (dC (.int 0)))) (dtB (dOp2 dEq (dCall c__law_draw 2 0 [.p 0, .p 1] [] (daCons (dVar 0) (daCons (dC (.int 3)) (daNil))) (daNil)) (dC (.int 0))))) (sPar2 10 7 (dmV (dNot (dVar 10))) (dmV (dOp2 dSub (dVar 7) (dC (.int 1))))) (sNext)) (sAppend 5 (dTup (daCons (dVar 9) (daCons (dIf (dTruE (dVar 10)) (dC (.str ("yes" : Str))) (dC (.str ("no" : Str)))) (daNil)))))))
def law_log_m (c__law_things c__law_draw : Nat) : DS := sSeq (sPar2 3 4 (dmV (dOp2 dAdd (dC (.int 1)) (dCall c__law_draw 2 0 [.p 0, .p 1] [] (daCons (dVar 0) (daCons (dVar 1) (daNil))) (daNil)))) (dmV (dCall c__law_draw 2 0 [.p 0, .p 1] [] (daCons (dVar 0) (daCons (dC (.int 4)) (daNil))) (daNil)))) (sSeq (sPar3 5 6 7 (dmO (dDisp (daNil))) (dmV (dCall c__law_draw 2 0 [.p 0, .p 1] [] (daCons (dVar 0) (daCons (dVar 3) (daNil))) (daNil))) (dmV (dOp2 dAdd (dVar 4) (dCall c__law_draw 2 0 [.p 0, .p 1] [] (daCons (dVar 0) (daCons (dC (.int 2)) (daNil))) (daNil))))) (sSeq (sFor (.name 8) (dRng1 (daCons (dCall c__law_draw 2 0 [.p 0, .p 1] [] (daCons (dVar 0) (daCons (dOp2 dAdd (dVar 2) (dC (.int 1))) (daNil))) (daNil)) (daNil))) (law_log_l0 c__law_things c__law_draw)) (sRet (dTup (daCons (dC (.str ("log" : Str))) (daCons (dVar 3) (daCons (dVar 4) (daCons (dOpN cTuple (daCons (dVar 5) (daNil))) (daNil)))))))))
def t_law_log (p_0 : Pot2) (most_0 : Int) (rows_0 : Int) : ((SS × Int × Int × (List ((List Int) × SS))) × Pot2) := lt (t_law_draw p_0 most_0) fun q_1 => lt (t_law_draw q_1.2 4) fun q_2 => lt (1 + q_1.1) fun many_3 => lt (t_law_draw q_2.2 many_3) fun q_4 => lt (t_law_draw q_4.2 2) fun q_5 => lt ([] : List ((List Int) × SS)) fun found_6 => lt (q_2.1 + q_5.1) fun told_7 => lt (t_law_draw q_5.2 (rows_0 + 1)) fun q_8 => lt ((rangeI q_8.1).foldl (fun (s_9 : ((List ((List Int) × SS)) × Int × Pot2)) u_10 => lt (t_law_things s_9.2.2 many_3) fun q_11 => lt (hasB q_11.1 q_4.1) fun is_yes_12 => lt (if (decide (0 < s_9.2.1)) = true then (lt (t_law_draw q_11.2 3) fun q_14 => if (decide (q_14.1 = 0)) = true then (lt (!is_yes_12) fun is_yes_15 => lt (s_9.2.1 - 1) fun told_16 => (is_yes_15, told_16, q_14.2)) else ((is_yes_12, s_9.2.1, q_14.2))) else ((is_yes_12, s_9.2.1, q_11.2))) fun s_13 => ((s_9.1 ++ [(q_11.1, (if s_13.1 = true then (lit "yes") else (lit "no")))]), s_13.2.1, s_13.2.2)) (found_6, told_7, q_8.2)) fun s_17 => (((lit "log"), many_3, q_2.1, s_17.1), s_17.2.2)
def ST_law_log (f : Fn) : Prop := ∀ (n : Nat) (h0 : Cells) (p_0 : Pot2) (most_0 : Int) (rows_0 : Int), PotOk n h0 → (m0 : 1 ≤ most_0) → (m1 : most_0 ≤ 40) → (r0 : 0 ≤ rows_0) → (r1 : rows_0 ≤ 24) → f [.obj n, D.int most_0, D.int rows_0] (hp n h0 p_0) = .ok ((eP4 eS D.int D.int (eT (eP2 (eT D.int) eS))) (t_law_log p_0 most_0 rows_0).1) (hp n h0 (t_law_log p_0 most_0 rows_0).2)
theorem et_law_log {fn : Fns} {i__law_things i__law_draw : Nat} (c_draw : ST_draw t_law_draw (fn i__law_draw)) (c_law_things : ST_law_things (fn i__law_things)) : ST_law_log (bodyF 11 (law_log_m i__law_things i__law_draw) fn) := by
  intro n h0 p_0 most_0 rows_0 hn m0 m1 r0 r1
  refine b_ret (m := law_log_m i__law_things i__law_draw) (V := (fun (r : ((SS × Int × Int × (List ((List Int) × SS))) × Pot2)) => ((eP4 eS D.int D.int (eT (eP2 (eT D.int) eS))) r.1, hp n h0 r.2))) (r := t_law_log p_0 most_0 rows_0) ?_
  unfold t_law_log law_log_m
  show J _ fn [.val (.obj n), .val (D.int most_0), .val (D.int rows_0), .no, .no, .no, .no, .no, .no, .no, .no] _ _ _
  refine j_lt fun q_1 e_q_1 => ?_
  have bd_q_1 : 0 ≤ q_1.1 ∧ q_1.1 < most_0 := by rw [e_q_1]; exact law_draw_b _ _ (by /-_law_log 3: 0 < many-/first | assumption | omega | (dsimp only [lt] at *; omega) | (set_option maxHeartbeats 40000 in (simp; done)) | (set_option maxHeartbeats 40000 in (simp; omega)) | (set_option maxHeartbeats 40000 in (simp at *; omega)) | (set_option maxHeartbeats 40000 in (simp_all; done)) | (set_option maxHeartbeats 40000 in (simp_all; omega)))
  refine j_lt fun q_2 e_q_2 => ?_
  have bd_q_2 : 0 ≤ q_2.1 ∧ q_2.1 < 4 := by rw [e_q_2]; exact law_draw_b _ _ (by /-_law_log 6: 0 < many-/first | assumption | omega | (dsimp only [lt] at *; omega) | (set_option maxHeartbeats 40000 in (simp; done)) | (set_option maxHeartbeats 40000 in (simp; omega)) | (set_option maxHeartbeats 40000 in (simp at *; omega)) | (set_option maxHeartbeats 40000 in (simp_all; done)) | (set_option maxHeartbeats 40000 in (simp_all; omega)))
  refine j_lt fun many_3 e_many_3 => ?_
  refine j_seq (z_par2 (m_V (d := D.int many_3) (by rw [e_many_3]; exact (x_op2 x_c (x_call (xa_cons (x_var rfl) (xa_cons (x_var rfl) xa_nil)) xa_nil (nb_cons rfl (nb_cons rfl nb_nil)) nb_nil rfl rfl rfl (show _ = R.ok (D.int q_1.1) (hp n h0 q_1.2) from by rw [e_q_1]; exact c_draw n h0 p_0 most_0 hn (by /-_law_log 1: _law_draw: pre 0-/first | assumption | omega | (dsimp only [lt] at *; omega) | (set_option maxHeartbeats 40000 in (simp; done)) | (set_option maxHeartbeats 40000 in (simp; omega)) | (set_option maxHeartbeats 40000 in (simp at *; omega)) | (set_option maxHeartbeats 40000 in (simp_all; done)) | (set_option maxHeartbeats 40000 in (simp_all; omega))) (by /-_law_log 2: _law_draw: pre 1-/first | assumption | omega | (dsimp only [lt] at *; omega) | (set_option maxHeartbeats 40000 in (simp; done)) | (set_option maxHeartbeats 40000 in (simp; omega)) | (set_option maxHeartbeats 40000 in (simp at *; omega)) | (set_option maxHeartbeats 40000 in (simp_all; done)) | (set_option maxHeartbeats 40000 in (simp_all; omega))))) rfl)) rfl) (m_V (d := D.int q_2.1) (x_call (xa_cons (x_var rfl) (xa_cons x_c xa_nil)) xa_nil (nb_cons rfl (nb_cons rfl nb_nil)) nb_nil rfl rfl rfl (show _ = R.ok (D.int q_2.1) (hp n h0 q_2.2) from by rw [e_q_2]; exact c_draw n h0 q_1.2 4 hn (by /-_law_log 4: _law_draw: pre 0-/first | assumption | omega | (dsimp only [lt] at *; omega) | (set_option maxHeartbeats 40000 in (simp; done)) | (set_option maxHeartbeats 40000 in (simp; omega)) | (set_option maxHeartbeats 40000 in (simp at *; omega)) | (set_option maxHeartbeats 40000 in (simp_all; done)) | (set_option maxHeartbeats 40000 in (simp_all; omega))) (by /-_law_log 5: _law_draw: pre 1-/first | assumption | omega | (dsimp only [lt] at *; omega) | (set_option maxHeartbeats 40000 in (simp; done)) | (set_option maxHeartbeats 40000 in (simp; omega)) | (set_option maxHeartbeats 40000 in (simp at *; omega)) | (set_option maxHeartbeats 40000 in (simp_all; done)) | (set_option maxHeartbeats 40000 in (simp_all; omega))))) rfl) rfl rfl rfl) ?_
  refine j_lt fun q_4 e_q_4 => ?_
  have bd_q_4 : 0 ≤ q_4.1 ∧ q_4.1 < many_3 := by rw [e_q_4]; exact law_draw_b _ _ (by /-_law_log 9: 0 < many-/first | assumption | omega | (dsimp only [lt] at *; omega) | (set_option maxHeartbeats 40000 in (simp; done)) | (set_option maxHeartbeats 40000 in (simp; omega)) | (set_option maxHeartbeats 40000 in (simp at *; omega)) | (set_option maxHeartbeats 40000 in (simp_all; done)) | (set_option maxHeartbeats 40000 in (simp_all; omega)))
  refine j_lt fun q_5 e_q_5 => ?_
  have bd_q_5 : 0 ≤ q_5.1 ∧ q_5.1 < 2 := by rw [e_q_5]; exact law_draw_b _ _ (by /-_law_log 12: 0 < many-/first | assumption | omega | (dsimp only [lt] at *; omega) | (set_option maxHeartbeats 40000 in (simp; done)) | (set_option maxHeartbeats 40000 in (simp; omega)) | (set_option maxHeartbeats 40000 in (simp at *; omega)) | (set_option maxHeartbeats 40000 in (simp_all; done)) | (set_option maxHeartbeats 40000 in (simp_all; omega)))
  refine j_lt fun found_6 e_found_6 => ?_
  refine j_lt fun told_7 e_told_7 => ?_
  refine j_seq (z_par3 (m_O (ds := found_6.map (eP2 (eT D.int) eS)) (by rw [e_found_6]; exact (fv (([] : List ((List Int) × SS)).map (eP2 (eT D.int) eS)) (f_disp xa_nil nb_nil rfl)))) (m_V (d := D.int q_4.1) (x_call (xa_cons (x_var rfl) (xa_cons (x_var rfl) xa_nil)) xa_nil (nb_cons rfl (nb_cons rfl nb_nil)) nb_nil rfl rfl rfl (show _ = R.ok (D.int q_4.1) (hp n h0 q_4.2) from by rw [e_q_4]; exact c_draw n h0 q_2.2 many_3 hn (by /-_law_log 7: _law_draw: pre 0-/first | assumption | omega | (dsimp only [lt] at *; omega) | (set_option maxHeartbeats 40000 in (simp; done)) | (set_option maxHeartbeats 40000 in (simp; omega)) | (set_option maxHeartbeats 40000 in (simp at *; omega)) | (set_option maxHeartbeats 40000 in (simp_all; done)) | (set_option maxHeartbeats 40000 in (simp_all; omega))) (by /-_law_log 8: _law_draw: pre 1-/first | assumption | omega | (dsimp only [lt] at *; omega) | (set_option maxHeartbeats 40000 in (simp; done)) | (set_option maxHeartbeats 40000 in (simp; omega)) | (set_option maxHeartbeats 40000 in (simp at *; omega)) | (set_option maxHeartbeats 40000 in (simp_all; done)) | (set_option maxHeartbeats 40000 in (simp_all; omega))))) rfl) (m_V (d := D.int told_7) (by rw [e_told_7]; exact (x_op2 (x_var rfl) (x_call (xa_cons (x_var rfl) (xa_cons x_c xa_nil)) xa_nil (nb_cons rfl (nb_cons rfl nb_nil)) nb_nil rfl rfl rfl (show _ = R.ok (D.int q_5.1) (hp n h0 q_5.2) from by rw [e_q_5]; exact c_draw n h0 q_4.2 2 hn (by /-_law_log 10: _law_draw: pre 0-/first | assumption | omega | (dsimp only [lt] at *; omega) | (set_option maxHeartbeats 40000 in (simp; done)) | (set_option maxHeartbeats 40000 in (simp; omega)) | (set_option maxHeartbeats 40000 in (simp at *; omega)) | (set_option maxHeartbeats 40000 in (simp_all; done)) | (set_option maxHeartbeats 40000 in (simp_all; omega))) (by /-_law_log 11: _law_draw: pre 1-/first | assumption | omega | (dsimp only [lt] at *; omega) | (set_option maxHeartbeats 40000 in (simp; done)) | (set_option maxHeartbeats 40000 in (simp; omega)) | (set_option maxHeartbeats 40000 in (simp at *; omega)) | (set_option maxHeartbeats 40000 in (simp_all; done)) | (set_option maxHeartbeats 40000 in (simp_all; omega))))) rfl)) rfl) rfl rfl rfl rfl) ?_
  refine j_lt fun q_8 e_q_8 => ?_
  have bd_q_8 : 0 ≤ q_8.1 ∧ q_8.1 < (rows_0 + 1) := by rw [e_q_8]; exact law_draw_b _ _ (by /-_law_log 15: 0 < many-/first | assumption | omega | (dsimp only [lt] at *; omega) | (set_option maxHeartbeats 40000 in (simp; done)) | (set_option maxHeartbeats 40000 in (simp; omega)) | (set_option maxHeartbeats 40000 in (simp at *; omega)) | (set_option maxHeartbeats 40000 in (simp_all; done)) | (set_option maxHeartbeats 40000 in (simp_all; omega)))
  refine j_for (E := (fun (s : ((List ((List Int) × SS)) × Int × Pot2)) env h' => (hp n h0 s.2.2) = h' ∧ ∃ (j8 : Sl) (j9 : Sl) (j10 : Sl), [.val (.obj n), .val (D.int most_0), .val (D.int rows_0), .val (D.int many_3), .val (D.int q_2.1), .own (s.1.map (eP2 (eT D.int) eS)), .val (D.int q_4.1), .val (D.int s.2.1), j8, j9, j10] = env)) (P := (fun (i : Nat) (s : ((List ((List Int) × SS)) × Int × Pot2)) => s.1.length ≤ i) (0 + (rangeI q_8.1).length)) (i_rng1 (xa_cons (x_call (xa_cons (x_var rfl) (xa_cons (x_op2 (x_var rfl) x_c rfl) xa_nil)) xa_nil (nb_cons rfl (nb_cons rfl nb_nil)) nb_nil rfl rfl rfl (show _ = R.ok (D.int q_8.1) (hp n h0 q_8.2) from by rw [e_q_8]; exact c_draw n h0 q_5.2 (rows_0 + 1) hn (by /-_law_log 13: _law_draw: pre 0-/first | assumption | omega | (dsimp only [lt] at *; omega) | (set_option maxHeartbeats 40000 in (simp; done)) | (set_option maxHeartbeats 40000 in (simp; omega)) | (set_option maxHeartbeats 40000 in (simp at *; omega)) | (set_option maxHeartbeats 40000 in (simp_all; done)) | (set_option maxHeartbeats 40000 in (simp_all; omega))) (by /-_law_log 14: _law_draw: pre 1-/first | assumption | omega | (dsimp only [lt] at *; omega) | (set_option maxHeartbeats 40000 in (simp; done)) | (set_option maxHeartbeats 40000 in (simp; omega)) | (set_option maxHeartbeats 40000 in (simp at *; omega)) | (set_option maxHeartbeats 40000 in (simp_all; done)) | (set_option maxHeartbeats 40000 in (simp_all; omega))))) xa_nil) (by /-_law_log 16: range low-/first | assumption | omega | (dsimp only [lt] at *; omega) | (set_option maxHeartbeats 40000 in (simp; done)) | (set_option maxHeartbeats 40000 in (simp; omega)) | (set_option maxHeartbeats 40000 in (simp at *; omega)) | (set_option maxHeartbeats 40000 in (simp_all; done)) | (set_option maxHeartbeats 40000 in (simp_all; omega))) (by /-_law_log 17: range q_8.1 ≤ 10^9-/first | assumption | omega | (dsimp only [lt] at *; omega) | (set_option maxHeartbeats 40000 in (simp; done)) | (set_option maxHeartbeats 40000 in (simp; omega)) | (set_option maxHeartbeats 40000 in (simp at *; omega)) | (set_option maxHeartbeats 40000 in (simp_all; done)) | (set_option maxHeartbeats 40000 in (simp_all; omega)))) (loop_fold (en := D.int) (xs := (rangeI q_8.1)) (s0 := (found_6, told_7, q_8.2)) (fun (s : ((List ((List Int) × SS)) × Int × Pot2)) env h' => (hp n h0 s.2.2) = h' ∧ ∃ (j8 : Sl) (j9 : Sl) (j10 : Sl), [.val (.obj n), .val (D.int most_0), .val (D.int rows_0), .val (D.int many_3), .val (D.int q_2.1), .own (s.1.map (eP2 (eT D.int) eS)), .val (D.int q_4.1), .val (D.int s.2.1), j8, j9, j10] = env) (fun (i : Nat) (s : ((List ((List Int) × SS)) × Int × Pot2)) => s.1.length ≤ i) _ 0 (by first | assumption | omega | (dsimp only [lt] at *; omega) | (set_option maxHeartbeats 40000 in (simp; done)) | (set_option maxHeartbeats 40000 in (simp; omega)) | (set_option maxHeartbeats 40000 in (simp at *; omega)) | (set_option maxHeartbeats 40000 in (simp_all; done)) | (set_option maxHeartbeats 40000 in (simp_all; omega))) ⟨rfl, _, _, _, rfl⟩ ?_) ?_
  · rintro i0 u_10 s_9 _ _ hx0 hi0 ⟨rfl, j8, j9, j10, rfl⟩
    have hlt0 := lt_of_get hx0
    have hm0 := List.mem_of_getElem? hx0
    have hr0 := mem_rng hm0
    have hri0 := rng_get hx0
    try simp only [Nat.zero_add] at hi0 ⊢
    refine ⟨(by first | assumption | omega | (dsimp only [lt] at *; omega) | (set_option maxHeartbeats 40000 in (simp; done)) | (set_option maxHeartbeats 40000 in (simp; omega)) | (set_option maxHeartbeats 40000 in (simp at *; omega)) | (set_option maxHeartbeats 40000 in (simp_all; done)) | (set_option maxHeartbeats 40000 in (simp_all; omega))), [.val (.obj n), .val (D.int most_0), .val (D.int rows_0), .val (D.int many_3), .val (D.int q_2.1), .own (s_9.1.map (eP2 (eT D.int) eS)), .val (D.int q_4.1), .val (D.int s_9.2.1), .val (D.int u_10), j9, j10], (p_name rfl rfl rfl), ?_⟩
    unfold law_log_l0
    refine j_lt fun q_11 e_q_11 => ?_
    refine j_seq (z_set (d := (eT D.int) q_11.1) (x_call (xa_cons (x_var rfl) (xa_cons (x_var rfl) xa_nil)) xa_nil (nb_cons rfl (nb_cons rfl nb_nil)) nb_nil rfl rfl rfl (show _ = R.ok ((eT D.int) q_11.1) (hp n h0 q_11.2) from by rw [e_q_11]; exact c_law_things n h0 s_9.2.2 many_3 hn (by /-_law_log 18: _law_things: pre 0-/first | assumption | omega | (dsimp only [lt] at *; omega) | (set_option maxHeartbeats 40000 in (simp; done)) | (set_option maxHeartbeats 40000 in (simp; omega)) | (set_option maxHeartbeats 40000 in (simp at *; omega)) | (set_option maxHeartbeats 40000 in (simp_all; done)) | (set_option maxHeartbeats 40000 in (simp_all; omega))) (by /-_law_log 19: _law_things: pre 1-/first | assumption | omega | (dsimp only [lt] at *; omega) | (set_option maxHeartbeats 40000 in (simp; done)) | (set_option maxHeartbeats 40000 in (simp; omega)) | (set_option maxHeartbeats 40000 in (simp at *; omega)) | (set_option maxHeartbeats 40000 in (simp_all; done)) | (set_option maxHeartbeats 40000 in (simp_all; omega))))) rfl rfl rfl) ?_
    refine j_lt fun is_yes_12 e_is_yes_12 => ?_
    refine j_seq (z_set (d := D.bl is_yes_12) (by rw [e_is_yes_12]; exact (x_op2 (x_var rfl) (x_var rfl) (o_inT (e := D.int) (xs := q_11.1) (by decide)))) rfl rfl rfl) ?_
    refine j_andq ?_
    refine j_ifm (E := (fun (s : (Bool × Int × Pot2)) env h' => (hp n h0 s.2.2) = h' ∧ [.val (.obj n), .val (D.int most_0), .val (D.int rows_0), .val (D.int many_3), .val (D.int q_2.1), .own (s_9.1.map (eP2 (eT D.int) eS)), .val (D.int q_4.1), .val (D.int s.2.1), .val (D.int u_10), .val ((eT D.int) q_11.1), .val (D.bl s.1)] = env)) (t_B (x_op2 (x_var rfl) x_c rfl)) (fun hc1 => ?_) (fun hc1 => ?_) ?_
    · skip
      refine j_lt fun q_14 e_q_14 => ?_
      have bd_q_14 : 0 ≤ q_14.1 ∧ q_14.1 < 3 := by rw [e_q_14]; exact law_draw_b _ _ (by /-_law_log 22: 0 < many-/first | assumption | omega | (dsimp only [lt] at *; omega) | (set_option maxHeartbeats 40000 in (simp; done)) | (set_option maxHeartbeats 40000 in (simp; omega)) | (set_option maxHeartbeats 40000 in (simp at *; omega)) | (set_option maxHeartbeats 40000 in (simp_all; done)) | (set_option maxHeartbeats 40000 in (simp_all; omega)))
      refine j_if (t_B (x_op2 (x_call (xa_cons (x_var rfl) (xa_cons x_c xa_nil)) xa_nil (nb_cons rfl (nb_cons rfl nb_nil)) nb_nil rfl rfl rfl (show _ = R.ok (D.int q_14.1) (hp n h0 q_14.2) from by rw [e_q_14]; exact c_draw n h0 q_11.2 3 hn (by /-_law_log 20: _law_draw: pre 0-/first | assumption | omega | (dsimp only [lt] at *; omega) | (set_option maxHeartbeats 40000 in (simp; done)) | (set_option maxHeartbeats 40000 in (simp; omega)) | (set_option maxHeartbeats 40000 in (simp at *; omega)) | (set_option maxHeartbeats 40000 in (simp_all; done)) | (set_option maxHeartbeats 40000 in (simp_all; omega))) (by /-_law_log 21: _law_draw: pre 1-/first | assumption | omega | (dsimp only [lt] at *; omega) | (set_option maxHeartbeats 40000 in (simp; done)) | (set_option maxHeartbeats 40000 in (simp; omega)) | (set_option maxHeartbeats 40000 in (simp at *; omega)) | (set_option maxHeartbeats 40000 in (simp_all; done)) | (set_option maxHeartbeats 40000 in (simp_all; omega))))) x_c rfl)) (fun hc2 => ?_) (fun hc2 => ?_)
      · skip
        refine j_lt fun is_yes_15 e_is_yes_15 => ?_
        refine j_lt fun told_16 e_told_16 => ?_
        refine j_last (z_par2 (m_V (d := D.bl is_yes_15) (by rw [e_is_yes_15]; exact (x_not (x_var rfl) tr_bl)) rfl) (m_V (d := D.int told_16) (by rw [e_told_16]; exact (x_op2 (x_var rfl) x_c rfl)) rfl) rfl rfl rfl) ?_
        exact ⟨rfl, ⟨rfl, rfl⟩⟩
      · skip
        refine j_next ?_
        exact ⟨rfl, ⟨rfl, rfl⟩⟩
    · skip
      refine j_next ?_
      exact ⟨rfl, ⟨rfl, rfl⟩⟩
    · rintro s_13 _ _ e_s_13 ⟨rfl, rfl⟩
      refine j_last (z_append (e := (eP2 (eT D.int) eS)) (xs := s_9.1) (u := (q_11.1, (if s_13.1 = true then (lit "yes") else (lit "no")))) rfl (xv ((eP2 (eT D.int) eS) (q_11.1, (if s_13.1 = true then (lit "yes") else (lit "no")))) (x_tup (xa_cons (x_var rfl) (xa_cons (x_if (e := eS) (u := (lit "yes")) (v := (lit "no")) (t_tru (x_var rfl) tr_bl) (fun hc => (xv (eS (lit "yes")) x_c)) (fun hc => (xv (eS (lit "no")) x_c))) xa_nil)) (nb_cons rfl (nb_cons rfl nb_nil)) rfl)) rfl (by /-_law_log 23: s_9.1.length < 16777216-/rw [rangeI_len] at hlt0; omega) rfl) ?_
      exact ⟨.inl rfl, ⟨rfl, _, _, _, rfl⟩⟩
  · rintro s_17 _ _ e_s_17 inv_s_17 ⟨rfl, j8, j9, j10, rfl⟩
    try simp only [Nat.zero_add] at inv_s_17
    exact j_ret (d := (eP4 eS D.int D.int (eT (eP2 (eT D.int) eS))) ((lit "log"), many_3, q_2.1, s_17.1)) (xv ((eP4 eS D.int D.int (eT (eP2 (eT D.int) eS))) ((lit "log"), many_3, q_2.1, s_17.1)) (x_tup (xa_cons (xv (eS (lit "log")) x_c) (xa_cons (x_var rfl) (xa_cons (x_var rfl) (xa_cons (x_opN (xa_cons (x_bor rfl) xa_nil) (o_tupB (e := (eP2 (eT D.int) eS)))) xa_nil)))) (nb_cons rfl (nb_cons rfl (nb_cons rfl (nb_cons rfl nb_nil)))) rfl)) rfl ⟨rfl, rfl⟩
def law_less_m : DS := sRet (dOp2 dAdd (dSlice (dVar 0) (dNoPart) (dPart (dC (.int 3)))) (dTup (daCons (dOp2 dAdd (dSlice (dOp2 dIx (dVar 0) (dC (.int 3))) (dNoPart) (dPart (dVar 1))) (dSlice (dOp2 dIx (dVar 0) (dC (.int 3))) (dPart (dOp2 dAdd (dVar 1) (dC (.int 1)))) (dNoPart))) (daNil))))
def t_law_less (log_0 : (SS × Int × Int × (List ((List Int) × SS)))) (at_0 : Int) : (SS × Int × Int × (List ((List Int) × SS))) := ((log_0.1, log_0.2.1, log_0.2.2.1).1, (log_0.1, log_0.2.1, log_0.2.2.1).2.1, (log_0.1, log_0.2.1, log_0.2.2.1).2.2, ((cut log_0.2.2.2 none (some at_0)) ++ (cut log_0.2.2.2 (some (at_0 + 1)) none)))
def ST_law_less (f : Fn) : Prop := ∀ (log_0 : (SS × Int × Int × (List ((List Int) × SS)))) (at_0 : Int), (rw : log_0.2.2.2.length ≤ 1000) → ∀ h, f [(eP4 eS D.int D.int (eT (eP2 (eT D.int) eS))) log_0, D.int at_0] h = .ok ((eP4 eS D.int D.int (eT (eP2 (eT D.int) eS))) (t_law_less log_0 at_0)) h
theorem et_law_less {fn : Fns} : ST_law_less (bodyF 2 (law_less_m) fn) := by
  intro log_0 at_0 rw h
  refine b_ret (m := law_less_m) (V := (fun (r : (SS × Int × Int × (List ((List Int) × SS)))) => ((eP4 eS D.int D.int (eT (eP2 (eT D.int) eS))) r, h))) (r := t_law_less log_0 at_0) ?_
  unfold t_law_less law_less_m
  show J _ fn [.val ((eP4 eS D.int D.int (eT (eP2 (eT D.int) eS))) log_0), .val (D.int at_0)] _ _ _
  exact j_ret (d := (eP4 eS D.int D.int (eT (eP2 (eT D.int) eS))) ((log_0.1, log_0.2.1, log_0.2.2.1).1, (log_0.1, log_0.2.1, log_0.2.2.1).2.1, (log_0.1, log_0.2.1, log_0.2.2.1).2.2, ((cut log_0.2.2.2 none (some at_0)) ++ (cut log_0.2.2.2 (some (at_0 + 1)) none)))) (xv ((eP4 eS D.int D.int (eT (eP2 (eT D.int) eS))) ((log_0.1, log_0.2.1, log_0.2.2.1).1, (log_0.1, log_0.2.1, log_0.2.2.1).2.1, (log_0.1, log_0.2.1, log_0.2.2.1).2.2, ((cut log_0.2.2.2 none (some at_0)) ++ (cut log_0.2.2.2 (some (at_0 + 1)) none)))) (x_op2 (xv ((eP3 eS D.int D.int) (log_0.1, log_0.2.1, log_0.2.2.1)) (x_slice (x_var rfl) x_noPart (x_part x_c) rfl)) (xv ((eP1 (eT (eP2 (eT D.int) eS))) ((cut log_0.2.2.2 none (some at_0)) ++ (cut log_0.2.2.2 (some (at_0 + 1)) none))) (x_tup (xa_cons (x_op2 (x_slice (x_op2 (x_var rfl) x_c o_ixP4_3) x_noPart (x_part (x_var rfl)) (o_slT (e := (eP2 (eT D.int) eS)) (xs := log_0.2.2.2))) (x_slice (x_op2 (x_var rfl) x_c o_ixP4_3) (x_part (x_op2 (x_var rfl) x_c rfl)) x_noPart (o_slT (e := (eP2 (eT D.int) eS)) (xs := log_0.2.2.2))) (o_addT (e := (eP2 (eT D.int) eS)) (xs := (cut log_0.2.2.2 none (some at_0))) (ys := (cut log_0.2.2.2 (some (at_0 + 1)) none)) (by /-_law_less 1: (cut log_0.2.2.2 none (some at_0)).length + (cut log_0.2.2.2-/have h1 := cut_le (xs := log_0.2.2.2) (lo := none) (hi := some at_0); have h2 := cut_le (xs := log_0.2.2.2) (lo := some (at_0 + 1)) (hi := none); omega))) xa_nil) (nb_cons rfl nb_nil) rfl)) rfl)) rfl ⟨rfl, rfl⟩
def law_truth_m (c__law_possible c__law_is_wrong : Nat) : DS := sSeq (sFrzA [2] (sOwn 2 (dComp [3] (.name 3) (dItems (dCall c__law_possible 1 0 [.p 0] [] (daCons (dVar 0) (daNil)) (daNil))) (dtYes) (dCall c__law_is_wrong 2 0 [.p 0, .p 1] [] (daCons (dOp2 dIx (dOp2 dIx (dVar 0) (dC (.int 3))) (dVar 1)) (daCons (dVar 3) (daNil))) (daNil))))) (sSeq (sIf (dtB (dOp2 dEq (dVar 2) (dLst (daNil)))) (sRet (dC (.str ("none" : Str)))) (sNext)) (sRet (dIf (dtAnd (dtB (dOp2 dIn (dC (.bl true)) (dVar 2))) (dtB (dOp2 dIn (dC (.bl false)) (dVar 2)))) (dC (.str ("open" : Str))) (dIf (dtB (dOp2 dIn (dC (.bl true)) (dVar 2))) (dC (.str ("wrong" : Str))) (dC (.str ("right" : Str)))))))
theorem law_possible_len {log : LogT} : (t_law_possible log).length ≤ log.2.1.toNat := by
  unfold t_law_possible
  rw [List.length_map]
  refine Nat.le_trans (List.length_filter_le _ _) ?_
  rw [rangeI_len]; omega
def t_law_truth (log_0 : (SS × Int × Int × (List ((List Int) × SS)))) (at_0 : Int) : SS := lt ((t_law_possible log_0).map (fun u_1 => (t_law_is_wrong (getI log_0.2.2.2 at_0) u_1))) fun told_2 => if (decide (told_2 = ([] : List Bool))) = true then ((lit "none")) else ((if ((hasB told_2 true) && (hasB told_2 false)) = true then (lit "open") else (if (hasB told_2 true) = true then (lit "wrong") else (lit "right"))))
def ST_law_truth (f : Fn) : Prop := ∀ (log_0 : (SS × Int × Int × (List ((List Int) × SS)))) (at_0 : Int), (mn : log_0.2.1 ≤ 1000) → (m1 : -1000 ≤ log_0.2.1) → (rw : log_0.2.2.2.length ≤ 1000) → (a0 : 0 ≤ at_0) → (a1 : at_0 < (log_0.2.2.2.length : Int)) → ∀ h, f [(eP4 eS D.int D.int (eT (eP2 (eT D.int) eS))) log_0, D.int at_0] h = .ok (eS (t_law_truth log_0 at_0)) h
theorem et_law_truth {fn : Fns} {i__law_possible i__law_is_wrong : Nat} (c_law_possible : ST_law_possible (fn i__law_possible)) (c_law_is_wrong : ST_law_is_wrong (fn i__law_is_wrong)) : ST_law_truth (bodyF 4 (law_truth_m i__law_possible i__law_is_wrong) fn) := by
  intro log_0 at_0 mn m1 rw a0 a1 h
  refine b_ret (m := law_truth_m i__law_possible i__law_is_wrong) (V := (fun (r : SS) => (eS r, h))) (r := t_law_truth log_0 at_0) ?_
  unfold t_law_truth law_truth_m
  show J _ fn [.val ((eP4 eS D.int D.int (eT (eP2 (eT D.int) eS))) log_0), .val (D.int at_0), .no, .no] _ _ _
  refine j_lt fun told_2 e_told_2 => ?_
  refine j_seq (z_frzA (z_own (ds := told_2.map D.bl) (by rw [e_told_2]; exact (f_compM (en := D.int) (ev := D.bl) (fun u_1 => (t_law_is_wrong (getI log_0.2.2.2 at_0) u_1)) (i_L (e := D.int) (xs := (t_law_possible log_0)) (x_call (xa_cons (x_var rfl) xa_nil) xa_nil (nb_cons rfl nb_nil) nb_nil rfl rfl rfl (c_law_possible log_0 (by /-_law_truth 1: _law_possible: pre 0-/first | assumption | omega | (dsimp only [lt] at *; omega) | (set_option maxHeartbeats 40000 in (simp; done)) | (set_option maxHeartbeats 40000 in (simp; omega)) | (set_option maxHeartbeats 40000 in (simp at *; omega)) | (set_option maxHeartbeats 40000 in (simp_all; done)) | (set_option maxHeartbeats 40000 in (simp_all; omega))) (by /-_law_truth 2: _law_possible: pre 1-/first | assumption | omega | (dsimp only [lt] at *; omega) | (set_option maxHeartbeats 40000 in (simp; done)) | (set_option maxHeartbeats 40000 in (simp; omega)) | (set_option maxHeartbeats 40000 in (simp at *; omega)) | (set_option maxHeartbeats 40000 in (simp_all; done)) | (set_option maxHeartbeats 40000 in (simp_all; omega))) (by /-_law_truth 3: _law_possible: pre 2-/first | assumption | omega | (dsimp only [lt] at *; omega) | (set_option maxHeartbeats 40000 in (simp; done)) | (set_option maxHeartbeats 40000 in (simp; omega)) | (set_option maxHeartbeats 40000 in (simp at *; omega)) | (set_option maxHeartbeats 40000 in (simp_all; done)) | (set_option maxHeartbeats 40000 in (simp_all; omega))) _))) (by /-_law_truth 4: (t_law_possible log_0).length ≤ 16777216-/have := law_possible_len (log := log_0); omega) rfl (fun _ => rfl) fun u_1 hu => have hu_u_1 := hu; ⟨_, (p_name rfl rfl rfl), (x_call (xa_cons (x_op2 (x_op2 (x_var rfl) x_c o_ixP4_3) (x_var rfl) (o_ixT (e := (eP2 (eT D.int) eS)) (xs := log_0.2.2.2) (k := at_0) (by /-_law_truth 5: -log_0.2.2.2.length ≤ at_0-/first | assumption | omega | (dsimp only [lt] at *; omega) | (set_option maxHeartbeats 40000 in (simp; done)) | (set_option maxHeartbeats 40000 in (simp; omega)) | (set_option maxHeartbeats 40000 in (simp at *; omega)) | (set_option maxHeartbeats 40000 in (simp_all; done)) | (set_option maxHeartbeats 40000 in (simp_all; omega))) (by /-_law_truth 6: at_0 < log_0.2.2.2.length-/first | assumption | omega | (dsimp only [lt] at *; omega) | (set_option maxHeartbeats 40000 in (simp; done)) | (set_option maxHeartbeats 40000 in (simp; omega)) | (set_option maxHeartbeats 40000 in (simp at *; omega)) | (set_option maxHeartbeats 40000 in (simp_all; done)) | (set_option maxHeartbeats 40000 in (simp_all; omega))))) (xa_cons (x_var rfl) xa_nil)) xa_nil (nb_cons rfl (nb_cons rfl nb_nil)) nb_nil rfl rfl rfl (c_law_is_wrong (getI log_0.2.2.2 at_0) u_1 _))⟩)) rfl rfl) rfl) ?_
  refine j_ifq (t_B (x_op2 (x_var rfl) (xv ((eL D.bl) ([] : List Bool)) (x_lst xa_nil nb_nil rfl)) (o_eqE (e := (eL D.bl)) (a := told_2) (b := ([] : List Bool)) (by decide)))) (fun hc1 => ?_) (fun hc1 => ?_)
  · skip
    refine j_re ?_
    exact j_ret (d := eS (lit "none")) (xv (eS (lit "none")) x_c) rfl ⟨rfl, rfl⟩
  · skip
    exact j_ret (d := eS (if ((hasB told_2 true) && (hasB told_2 false)) = true then (lit "open") else (if (hasB told_2 true) = true then (lit "wrong") else (lit "right")))) (x_if (e := eS) (u := (lit "open")) (v := (if (hasB told_2 true) = true then (lit "wrong") else (lit "right"))) (t_and (t_B (x_op2 x_c (x_var rfl) (o_inL (e := D.bl) (xs := told_2) (by decide)))) fun hc => (t_B (x_op2 x_c (x_var rfl) (o_inL (e := D.bl) (xs := told_2) (by decide))))) (fun hc => (xv (eS (lit "open")) x_c)) (fun hc => (x_if (e := eS) (u := (lit "wrong")) (v := (lit "right")) (t_B (x_op2 x_c (x_var rfl) (o_inL (e := D.bl) (xs := told_2) (by decide)))) (fun hc => (xv (eS (lit "wrong")) x_c)) (fun hc => (xv (eS (lit "right")) x_c))))) rfl ⟨rfl, rfl⟩
def law_bars_right_l0 (c__law_wrong : Nat) : DS := sIf (dtOr (dtB (dOp2 dNe (dOpN cLen (daCons (dVar 4) (daNil))) (dOp2 dAdd (dOp2 dIx (dVar 0) (dC (.int 2))) (dC (.int 1))))) (dtOr (dtB (dOp2 dNe (asVal (dListF (daCons (dVar 4) (daNil)))) (asVal (dSortSetI (daCons (dVar 4) (daNil)))))) (dtB (dOp2 dNe (asVal (dComp [5] (.name 5) (dItems (dVar 4)) (dtB (dOp2 dNotIn (dVar 5) (dCall c__law_wrong 2 0 [.p 0, .p 1] [] (daCons (dVar 0) (daCons (dVar 3) (daNil))) (daNil)))) (dVar 5))) (dLst (daNil)))))) (sRet (dC (.bl false))) (sNext)
def law_bars_right_m (c__law_wrong : Nat) : DS := sSeq (sIf (dtB (dOp2 dNe (asVal (dComp [3, 4] (.tup [.name 3, .name 4]) (dItems (dVar 2)) (dtYes) (dVar 3))) (dVar 1))) (sRet (dC (.bl false))) (sNext)) (sSeq (sFor (.tup [.name 3, .name 4]) (dItems (dVar 2)) (law_bars_right_l0 c__law_wrong)) (sRet (dC (.bl true))))
def t_law_bars_right (log_0 : (SS × Int × Int × (List ((List Int) × SS)))) (things_0 : (List Int)) (bars_0 : (List (Int × (List Int)))) : Bool := if (!decide ((bars_0.map (fun u_1 => u_1.1)) = things_0)) = true then (false) else ((loopR (fun (s_2 : Unit) u_3 => (if ((!decide ((u_3.2.length : Int) = (log_0.2.2.1 + 1))) || ((!decide (u_3.2 = (nset u_3.2))) || (!decide (((u_3.2.filter (fun u_4 => (!hasB (t_law_wrong log_0 u_3.1) u_4))).map (fun u_4 => u_4)) = ([] : List Int))))) = true then (.ret false) else (.go ()) : Ct Bool Unit)) () bars_0).out fun s_5 => true)
def ST_law_bars_right (f : Fn) : Prop := ∀ (log_0 : (SS × Int × Int × (List ((List Int) × SS)))) (things_0 : (List Int)) (bars_0 : (List (Int × (List Int)))), (bl : bars_0.length ≤ 1000) → (pl : ∀ u ∈ bars_0, u.2.length ≤ 24) → (rw : log_0.2.2.2.length ≤ 1000) → ∀ h, f [(eP4 eS D.int D.int (eT (eP2 (eT D.int) eS))) log_0, (eL D.int) things_0, (eT (eP2 D.int (eT D.int))) bars_0] h = .ok (D.bl (t_law_bars_right log_0 things_0 bars_0)) h
theorem et_law_bars_right {fn : Fns} {i__law_wrong : Nat} (c_law_wrong : ST_law_wrong (fn i__law_wrong)) : ST_law_bars_right (bodyF 6 (law_bars_right_m i__law_wrong) fn) := by
  intro log_0 things_0 bars_0 bl pl rw h
  refine b_ret (m := law_bars_right_m i__law_wrong) (V := (fun (r : Bool) => (D.bl r, h))) (r := t_law_bars_right log_0 things_0 bars_0) ?_
  unfold t_law_bars_right law_bars_right_m
  show J _ fn [.val ((eP4 eS D.int D.int (eT (eP2 (eT D.int) eS))) log_0), .val ((eL D.int) things_0), .val ((eT (eP2 D.int (eT D.int))) bars_0), .no, .no, .no] _ _ _
  refine j_ifq (t_B (x_op2 (xv ((eL D.int) (bars_0.map (fun u_1 => u_1.1))) (x_asVal (f_compM (en := (eP2 D.int (eT D.int))) (ev := D.int) (fun u_1 => u_1.1) (i_T (e := (eP2 D.int (eT D.int))) (xs := bars_0) (x_var rfl)) (by /-_law_bars_right 1: bars_0.length ≤ 16777216-/first | assumption | omega | (dsimp only [lt] at *; omega) | (set_option maxHeartbeats 40000 in (simp; done)) | (set_option maxHeartbeats 40000 in (simp; omega)) | (set_option maxHeartbeats 40000 in (simp at *; omega)) | (set_option maxHeartbeats 40000 in (simp_all; done)) | (set_option maxHeartbeats 40000 in (simp_all; omega))) rfl (fun _ => rfl) fun u_1 hu => have hu_u_1 := hu; ⟨_, (p_tup rfl (p_cons (p_name rfl rfl rfl) (p_cons (p_name rfl rfl rfl) p_nil))), (x_var rfl)⟩))) (x_var rfl) (o_neE (e := (eL D.int)) (a := (bars_0.map (fun u_1 => u_1.1))) (b := things_0) (by decide)))) (fun hc1 => ?_) (fun hc1 => ?_)
  · skip
    refine j_re ?_
    exact j_ret (d := D.bl false) x_c rfl ⟨rfl, rfl⟩
  · skip
    refine j_forR (E := (fun (s : Unit) env h' => h = h' ∧ ∃ (j3 : Sl) (j4 : Sl), [.val ((eP4 eS D.int D.int (eT (eP2 (eT D.int) eS))) log_0), .val ((eL D.int) things_0), .val ((eT (eP2 D.int (eT D.int))) bars_0), j3, j4, .no] = env)) (V := (fun (r : Bool) => (D.bl r, h))) (Inv := (fun (_ : Nat) (_ : Unit) => True)) (i_T (e := (eP2 D.int (eT D.int))) (xs := bars_0) (x_var rfl)) (loop_ctl (en := (eP2 D.int (eT D.int))) (xs := bars_0) (s0 := ()) (fun (s : Unit) env h' => h = h' ∧ ∃ (j3 : Sl) (j4 : Sl), [.val ((eP4 eS D.int D.int (eT (eP2 (eT D.int) eS))) log_0), .val ((eL D.int) things_0), .val ((eT (eP2 D.int (eT D.int))) bars_0), j3, j4, .no] = env) (fun (r : Bool) => (D.bl r, h)) (fun (_ : Nat) (_ : Unit) => True) _ 0 trivial ⟨rfl, _, _, rfl⟩ ?_) ?_
    · rintro i0 u_3 s_2 _ _ hx0 hi0 ⟨rfl, j3, j4, rfl⟩
      have hlt0 := lt_of_get hx0
      have hm0 := List.mem_of_getElem? hx0
      refine ⟨fun s' hs => trivial, [.val ((eP4 eS D.int D.int (eT (eP2 (eT D.int) eS))) log_0), .val ((eL D.int) things_0), .val ((eT (eP2 D.int (eT D.int))) bars_0), .val (D.int u_3.1), .val ((eT D.int) u_3.2), .no], (p_tup rfl (p_cons (p_name rfl rfl rfl) (p_cons (p_name rfl rfl rfl) p_nil))), ?_⟩
      unfold law_bars_right_l0
      refine j_if (t_or (t_B (x_op2 (x_opN (xa_cons (x_var rfl) xa_nil) (o_lenT (e := D.int))) (x_op2 (x_op2 (x_var rfl) x_c o_ixP4_2) x_c rfl) rfl)) fun hc => (t_or (t_B (x_op2 (xv ((eL D.int) u_3.2) (x_asVal (f_listT (e := D.int) (xs := u_3.2) (xa_cons (x_var rfl) xa_nil)))) (xv ((eL D.int) (nset u_3.2)) (x_asVal (f_sortSetI (xs := u_3.2) (xa_cons (x_var rfl) xa_nil) (by /-_law_bars_right 2: u_3.2.length < 64-/have := pl _ hm0; omega)))) (o_neE (e := (eL D.int)) (a := u_3.2) (b := (nset u_3.2)) (by decide)))) fun hc => (t_B (x_op2 (xv ((eL D.int) ((u_3.2.filter (fun u_4 => (!hasB (t_law_wrong log_0 u_3.1) u_4))).map (fun u_4 => u_4))) (x_asVal (f_compF (en := D.int) (ev := D.int) (fun u_4 => (!hasB (t_law_wrong log_0 u_3.1) u_4)) (fun u_4 => u_4) (i_T (e := D.int) (xs := u_3.2) (x_var rfl)) (by /-_law_bars_right 3: u_3.2.length ≤ 16777216-/have := pl _ hm0; omega) rfl (fun _ => rfl) fun u_4 hu => have hu_u_4 := hu; ⟨_, (p_name rfl rfl rfl), (t_B (x_op2 (x_var rfl) (x_call (xa_cons (x_var rfl) (xa_cons (x_var rfl) xa_nil)) xa_nil (nb_cons rfl (nb_cons rfl nb_nil)) nb_nil rfl rfl rfl (c_law_wrong log_0 u_3.1 (by /-_law_bars_right 4: _law_wrong: pre 0-/first | assumption | omega | (dsimp only [lt] at *; omega) | (set_option maxHeartbeats 40000 in (simp; done)) | (set_option maxHeartbeats 40000 in (simp; omega)) | (set_option maxHeartbeats 40000 in (simp at *; omega)) | (set_option maxHeartbeats 40000 in (simp_all; done)) | (set_option maxHeartbeats 40000 in (simp_all; omega))) _)) (o_niT (e := D.int) (xs := (t_law_wrong log_0 u_3.1)) (by decide)))), fun hp => (x_var rfl)⟩))) (xv ((eL D.int) ([] : List Int)) (x_lst xa_nil nb_nil rfl)) (o_neE (e := (eL D.int)) (a := ((u_3.2.filter (fun u_4 => (!hasB (t_law_wrong log_0 u_3.1) u_4))).map (fun u_4 => u_4))) (b := ([] : List Int)) (by decide)))))) (fun hc2 => ?_) (fun hc2 => ?_)
      · skip
        exact j_ret (d := D.bl false) x_c rfl ⟨rfl, rfl⟩
      · skip
        refine j_next ?_
        exact ⟨.inl rfl, ⟨rfl, _, _, rfl⟩⟩
    · rintro s_5 _ _ i e_s_5 _ hi inv_s_5 ⟨rfl, j3, j4, rfl⟩
      exact j_ret (d := D.bl true) x_c rfl ⟨rfl, rfl⟩
def law_paper_right_m (c__law_possible c__law_bars_right c__law_is_wrong : Nat) : DS := sSeq (sAsg (dTup (daCons (dCall c__law_possible 1 0 [.p 0] [] (daCons (dVar 0) (daNil)) (daNil)) (daCons (dOp2 dIx (dOp2 dIx (dVar 0) (dC (.int 3))) (dVar 1)) (daNil)))) (gTup 2 (gsCons (gName' 3) (gsCons (gName' 4) (gsNil))))) (sSeq (sIf (dtB (dOp2 dEq (dOp2 dIx (dVar 2) (dC (.int 0))) (dC (.str ("none" : Str))))) (sRet (dCall c__law_bars_right 3 0 [.p 0, .p 1, .p 2] [] (daCons (dVar 0) (daCons (asVal (dLstRg (dOp2 dIx (dVar 0) (dC (.int 1))))) (daCons (dOp2 dIx (dVar 2) (dC (.int 1))) (daNil)))) (daNil))) (sNext)) (sSeq (sIf (dtB (dOp2 dEq (dOp2 dIx (dVar 2) (dC (.int 0))) (dC (.str ("open" : Str))))) (sRet (dAnd (dOp2 dIn (dOp2 dIx (dVar 2) (dC (.int 1))) (dVar 3)) (dAnd (dOp2 dIn (dOp2 dIx (dVar 2) (dC (.int 2))) (dVar 3)) (dAnd (dNot (dCall c__law_is_wrong 2 0 [.p 0, .p 1] [] (daCons (dVar 4) (daCons (dOp2 dIx (dVar 2) (dC (.int 1))) (daNil))) (daNil))) (dCall c__law_is_wrong 2 0 [.p 0, .p 1] [] (daCons (dVar 4) (daCons (dOp2 dIx (dVar 2) (dC (.int 2))) (daNil))) (daNil)))))) (sNext)) (sSeq (sFrzA [5] (sOwn 5 (dComp [6] (.name 6) (dRng1 (daCons (dOp2 dIx (dVar 0) (dC (.int 1))) (daNil))) (dtB (dOp2 dNe (dCall c__law_is_wrong 2 0 [.p 0, .p 1] [] (daCons (dVar 4) (daCons (dVar 6) (daNil))) (daNil)) (dOp2 dEq (dOp2 dIx (dVar 2) (dC (.int 0))) (dC (.str ("wrong" : Str)))))) (dVar 6)))) (sRet (dAnd (dOp2 dIn (dOp2 dIx (dVar 2) (dC (.int 1))) (dVar 3)) (dAnd (dOp2 dNotIn (dOp2 dIx (dVar 2) (dC (.int 1))) (dVar 5)) (dCall c__law_bars_right 3 0 [.p 0, .p 1, .p 2] [] (daCons (dVar 0) (daCons (dVar 5) (daCons (dOp2 dIx (dVar 2) (dC (.int 2))) (daNil)))) (daNil))))))))
def t_law_paper_right (log_0 : (SS × Int × Int × (List ((List Int) × SS)))) (at_0 : Int) (paper_0 : Vl) : Bool := lt (t_law_possible log_0) fun some_1 => lt (getI log_0.2.2.2 at_0) fun row_2 => if (decide (vStr (getI (vEs paper_0) 0) = ((lit "none")).val)) = true then ((t_law_bars_right log_0 (rangeI log_0.2.1) (ofV (eT (eP2 D.int (eT D.int))) (getI (vEs paper_0) 1)))) else (if (decide (vStr (getI (vEs paper_0) 0) = ((lit "open")).val)) = true then (((hasB some_1 (ofV D.int (getI (vEs paper_0) 1))) && ((hasB some_1 (ofV D.int (getI (vEs paper_0) 2))) && ((!(t_law_is_wrong row_2 (ofV D.int (getI (vEs paper_0) 1)))) && (t_law_is_wrong row_2 (ofV D.int (getI (vEs paper_0) 2))))))) else (lt (((rangeI log_0.2.1).filter (fun u_3 => (!decide ((t_law_is_wrong row_2 u_3) = (decide (vStr (getI (vEs paper_0) 0) = ((lit "wrong")).val)))))).map (fun u_3 => u_3)) fun others_4 => ((hasB some_1 (ofV D.int (getI (vEs paper_0) 1))) && ((!hasB others_4 (ofV D.int (getI (vEs paper_0) 1))) && (t_law_bars_right log_0 others_4 (ofV (eT (eP2 D.int (eT D.int))) (getI (vEs paper_0) 2)))))))
def ST_law_paper_right (f : Fn) : Prop := ∀ (log_0 : (SS × Int × Int × (List ((List Int) × SS)))) (at_0 : Int) (paper_0 : Vl), (mn : log_0.2.1 ≤ 1000) → (m1 : -1000 ≤ log_0.2.1) → (rw : log_0.2.2.2.length ≤ 1000) → (a0 : 0 ≤ at_0) → (a1 : at_0 < (log_0.2.2.2.length : Int)) → (pf : PapF paper_0) → ∀ h, f [(eP4 eS D.int D.int (eT (eP2 (eT D.int) eS))) log_0, D.int at_0, eV paper_0] h = .ok (D.bl (t_law_paper_right log_0 at_0 paper_0)) h
theorem et_law_paper_right {fn : Fns} {i__law_possible i__law_bars_right i__law_is_wrong : Nat} (c_law_possible : ST_law_possible (fn i__law_possible)) (c_law_bars_right : ST_law_bars_right (fn i__law_bars_right)) (c_law_is_wrong : ST_law_is_wrong (fn i__law_is_wrong)) : ST_law_paper_right (bodyF 7 (law_paper_right_m i__law_possible i__law_bars_right i__law_is_wrong) fn) := by
  intro log_0 at_0 paper_0 mn m1 rw a0 a1 pf h
  have l2 := pf.l2
  have s0 := pf.s0
  refine b_ret (m := law_paper_right_m i__law_possible i__law_bars_right i__law_is_wrong) (V := (fun (r : Bool) => (D.bl r, h))) (r := t_law_paper_right log_0 at_0 paper_0) ?_
  unfold t_law_paper_right law_paper_right_m
  show J _ fn [.val ((eP4 eS D.int D.int (eT (eP2 (eT D.int) eS))) log_0), .val (D.int at_0), .val (eV paper_0), .no, .no, .no, .no] _ _ _
  refine j_lt fun some_1 e_some_1 => ?_
  refine j_lt fun row_2 e_row_2 => ?_
  refine j_seq (z_asg (d := .tup [(eL D.int) some_1, (eP2 (eT D.int) eS) row_2]) (x_tup (xa_cons (x := (eL D.int) some_1) (by rw [e_some_1]; exact (x_call (xa_cons (x_var rfl) xa_nil) xa_nil (nb_cons rfl nb_nil) nb_nil rfl rfl rfl (c_law_possible log_0 (by /-_law_paper_right 1: _law_possible: pre 0-/first | assumption | omega | (dsimp only [lt] at *; omega) | (set_option maxHeartbeats 40000 in (simp; done)) | (set_option maxHeartbeats 40000 in (simp; omega)) | (set_option maxHeartbeats 40000 in (simp at *; omega)) | (set_option maxHeartbeats 40000 in (simp_all; done)) | (set_option maxHeartbeats 40000 in (simp_all; omega))) (by /-_law_paper_right 2: _law_possible: pre 1-/first | assumption | omega | (dsimp only [lt] at *; omega) | (set_option maxHeartbeats 40000 in (simp; done)) | (set_option maxHeartbeats 40000 in (simp; omega)) | (set_option maxHeartbeats 40000 in (simp at *; omega)) | (set_option maxHeartbeats 40000 in (simp_all; done)) | (set_option maxHeartbeats 40000 in (simp_all; omega))) (by /-_law_paper_right 3: _law_possible: pre 2-/first | assumption | omega | (dsimp only [lt] at *; omega) | (set_option maxHeartbeats 40000 in (simp; done)) | (set_option maxHeartbeats 40000 in (simp; omega)) | (set_option maxHeartbeats 40000 in (simp at *; omega)) | (set_option maxHeartbeats 40000 in (simp_all; done)) | (set_option maxHeartbeats 40000 in (simp_all; omega))) _))) (xa_cons (x := (eP2 (eT D.int) eS) row_2) (by rw [e_row_2]; exact (x_op2 (x_op2 (x_var rfl) x_c o_ixP4_3) (x_var rfl) (o_ixT (e := (eP2 (eT D.int) eS)) (xs := log_0.2.2.2) (k := at_0) (by /-_law_paper_right 4: -log_0.2.2.2.length ≤ at_0-/first | assumption | omega | (dsimp only [lt] at *; omega) | (set_option maxHeartbeats 40000 in (simp; done)) | (set_option maxHeartbeats 40000 in (simp; omega)) | (set_option maxHeartbeats 40000 in (simp at *; omega)) | (set_option maxHeartbeats 40000 in (simp_all; done)) | (set_option maxHeartbeats 40000 in (simp_all; omega))) (by /-_law_paper_right 5: at_0 < log_0.2.2.2.length-/first | assumption | omega | (dsimp only [lt] at *; omega) | (set_option maxHeartbeats 40000 in (simp; done)) | (set_option maxHeartbeats 40000 in (simp; omega)) | (set_option maxHeartbeats 40000 in (simp at *; omega)) | (set_option maxHeartbeats 40000 in (simp_all; done)) | (set_option maxHeartbeats 40000 in (simp_all; omega)))))) xa_nil)) (nb_cons rfl (nb_cons rfl nb_nil)) rfl) rfl (g_tup rfl rfl (g_cons (g_name rfl rfl rfl) (g_cons (g_name rfl rfl rfl) g_nil)))) ?_
  refine j_ifq (t_B (x_op2 (x_op2 (x_var rfl) x_c (o_ixV (v := paper_0) (k := 0) (by /-_law_paper_right 6: vSq paper_0 = true-/exact pf.sq) (by /-_law_paper_right 7: -(vEs paper_0).length ≤ 0-/first | assumption | omega | (set_option maxHeartbeats 400000 in (simp_all [row_v, list_v, count_v, below_v, integer_v, isV_int, isV_bl, vSq_T]; done)) | (set_option maxHeartbeats 400000 in (simp_all [row_v, list_v, count_v, below_v, integer_v, isV_int, isV_bl, vSq_T]; omega))) (by /-_law_paper_right 8: 0 < (vEs paper_0).length-/first | assumption | omega | (set_option maxHeartbeats 400000 in (simp_all [row_v, list_v, count_v, below_v, integer_v, isV_int, isV_bl, vSq_T]; done)) | (set_option maxHeartbeats 400000 in (simp_all [row_v, list_v, count_v, below_v, integer_v, isV_int, isV_bl, vSq_T]; omega))))) (xv (eS (lit "none")) x_c) (o_eqVS (v := (getI (vEs paper_0) 0)) (w := (lit "none")) (by /-_law_paper_right 9: vS (getI (vEs paper_0) 0) = true-/exact pf.s0)))) (fun hc1 => ?_) (fun hc1 => ?_)
  · skip
    refine j_re ?_
    exact j_ret (d := D.bl (t_law_bars_right log_0 (rangeI log_0.2.1) (ofV (eT (eP2 D.int (eT D.int))) (getI (vEs paper_0) 1)))) (x_call (xa_cons (x_var rfl) (xa_cons (xv ((eL D.int) (rangeI log_0.2.1)) (x_asVal (f_lstRg (x_op2 (x_var rfl) x_c o_ixP4_1) (by /-_law_paper_right 10: -10^9 ≤ log_0.2.1-/first | assumption | omega | (dsimp only [lt] at *; omega) | (set_option maxHeartbeats 40000 in (simp; done)) | (set_option maxHeartbeats 40000 in (simp; omega)) | (set_option maxHeartbeats 40000 in (simp at *; omega)) | (set_option maxHeartbeats 40000 in (simp_all; done)) | (set_option maxHeartbeats 40000 in (simp_all; omega))) (by /-_law_paper_right 11: log_0.2.1 ≤ 16777216-/first | assumption | omega | (dsimp only [lt] at *; omega) | (set_option maxHeartbeats 40000 in (simp; done)) | (set_option maxHeartbeats 40000 in (simp; omega)) | (set_option maxHeartbeats 40000 in (simp at *; omega)) | (set_option maxHeartbeats 40000 in (simp_all; done)) | (set_option maxHeartbeats 40000 in (simp_all; omega)))))) (xa_cons (x_ofV (e := (eT (eP2 D.int (eT D.int)))) (v := (getI (vEs paper_0) 1)) (by /-_law_paper_right 15: isV (eT (eP2 D.int (eT D.int))) (getI (vEs paper_0) 1) = tru-/exact (pf.none (of_decide_eq_true hc1)).1) (x_op2 (x_var rfl) x_c (o_ixV (v := paper_0) (k := 1) (by /-_law_paper_right 12: vSq paper_0 = true-/exact pf.sq) (by /-_law_paper_right 13: -(vEs paper_0).length ≤ 1-/first | assumption | omega | (set_option maxHeartbeats 400000 in (simp_all [row_v, list_v, count_v, below_v, integer_v, isV_int, isV_bl, vSq_T]; done)) | (set_option maxHeartbeats 400000 in (simp_all [row_v, list_v, count_v, below_v, integer_v, isV_int, isV_bl, vSq_T]; omega))) (by /-_law_paper_right 14: 1 < (vEs paper_0).length-/first | assumption | omega | (set_option maxHeartbeats 400000 in (simp_all [row_v, list_v, count_v, below_v, integer_v, isV_int, isV_bl, vSq_T]; done)) | (set_option maxHeartbeats 400000 in (simp_all [row_v, list_v, count_v, below_v, integer_v, isV_int, isV_bl, vSq_T]; omega)))))) xa_nil))) xa_nil (nb_cons rfl (nb_cons rfl (nb_cons rfl nb_nil))) nb_nil rfl rfl rfl (c_law_bars_right log_0 (rangeI log_0.2.1) (ofV (eT (eP2 D.int (eT D.int))) (getI (vEs paper_0) 1)) (by /-_law_paper_right 16: _law_bars_right: pre 0-/first | (have b := (pf.none (of_decide_eq_true hc1)).2; exact Nat.le_trans b.1 (by decide)) | (have nn : vStr (getI (vEs paper_0) 0) ≠ (lit "none").val := of_decide_eq_false hc1; have oo : vStr (getI (vEs paper_0) 0) ≠ (lit "open").val := of_decide_eq_false hc2; have b := (pf.bar nn oo).2; exact Nat.le_trans b.1 (by decide))) (by /-_law_paper_right 17: _law_bars_right: pre 1-/first | (have b := (pf.none (of_decide_eq_true hc1)).2; exact b.2) | (have nn : vStr (getI (vEs paper_0) 0) ≠ (lit "none").val := of_decide_eq_false hc1; have oo : vStr (getI (vEs paper_0) 0) ≠ (lit "open").val := of_decide_eq_false hc2; have b := (pf.bar nn oo).2; exact b.2)) (by /-_law_paper_right 18: _law_bars_right: pre 2-/first | assumption | omega | (dsimp only [lt] at *; omega) | (set_option maxHeartbeats 40000 in (simp; done)) | (set_option maxHeartbeats 40000 in (simp; omega)) | (set_option maxHeartbeats 40000 in (simp at *; omega)) | (set_option maxHeartbeats 40000 in (simp_all; done)) | (set_option maxHeartbeats 40000 in (simp_all; omega))) _)) rfl ⟨rfl, rfl⟩
  · skip
    refine j_ifq (t_B (x_op2 (x_op2 (x_var rfl) x_c (o_ixV (v := paper_0) (k := 0) (by /-_law_paper_right 19: vSq paper_0 = true-/exact pf.sq) (by /-_law_paper_right 20: -(vEs paper_0).length ≤ 0-/first | assumption | omega | (set_option maxHeartbeats 400000 in (simp_all [row_v, list_v, count_v, below_v, integer_v, isV_int, isV_bl, vSq_T]; done)) | (set_option maxHeartbeats 400000 in (simp_all [row_v, list_v, count_v, below_v, integer_v, isV_int, isV_bl, vSq_T]; omega))) (by /-_law_paper_right 21: 0 < (vEs paper_0).length-/first | assumption | omega | (set_option maxHeartbeats 400000 in (simp_all [row_v, list_v, count_v, below_v, integer_v, isV_int, isV_bl, vSq_T]; done)) | (set_option maxHeartbeats 400000 in (simp_all [row_v, list_v, count_v, below_v, integer_v, isV_int, isV_bl, vSq_T]; omega))))) (xv (eS (lit "open")) x_c) (o_eqVS (v := (getI (vEs paper_0) 0)) (w := (lit "open")) (by /-_law_paper_right 22: vS (getI (vEs paper_0) 0) = true-/exact pf.s0)))) (fun hc2 => ?_) (fun hc2 => ?_)
    · skip
      refine j_re ?_
      exact j_ret (d := D.bl ((hasB some_1 (ofV D.int (getI (vEs paper_0) 1))) && ((hasB some_1 (ofV D.int (getI (vEs paper_0) 2))) && ((!(t_law_is_wrong row_2 (ofV D.int (getI (vEs paper_0) 1)))) && (t_law_is_wrong row_2 (ofV D.int (getI (vEs paper_0) 2))))))) (x_and (x_op2 (x_ofV (e := D.int) (v := (getI (vEs paper_0) 1)) (by /-_law_paper_right 26: isV D.int (getI (vEs paper_0) 1) = true-/have nn : vStr (getI (vEs paper_0) 0) ≠ (lit "none").val := of_decide_eq_false hc1; exact (pf.some nn).2) (x_op2 (x_var rfl) x_c (o_ixV (v := paper_0) (k := 1) (by /-_law_paper_right 23: vSq paper_0 = true-/exact pf.sq) (by /-_law_paper_right 24: -(vEs paper_0).length ≤ 1-/first | assumption | omega | (set_option maxHeartbeats 400000 in (simp_all [row_v, list_v, count_v, below_v, integer_v, isV_int, isV_bl, vSq_T]; done)) | (set_option maxHeartbeats 400000 in (simp_all [row_v, list_v, count_v, below_v, integer_v, isV_int, isV_bl, vSq_T]; omega))) (by /-_law_paper_right 25: 1 < (vEs paper_0).length-/first | assumption | omega | (set_option maxHeartbeats 400000 in (simp_all [row_v, list_v, count_v, below_v, integer_v, isV_int, isV_bl, vSq_T]; done)) | (set_option maxHeartbeats 400000 in (simp_all [row_v, list_v, count_v, below_v, integer_v, isV_int, isV_bl, vSq_T]; omega)))))) (x_var rfl) (o_inL (e := D.int) (xs := some_1) (by decide))) fun hc => (x_and (x_op2 (x_ofV (e := D.int) (v := (getI (vEs paper_0) 2)) (by /-_law_paper_right 30: isV D.int (getI (vEs paper_0) 2) = true-/have nn : vStr (getI (vEs paper_0) 0) ≠ (lit "none").val := of_decide_eq_false hc1; exact pf.opn (of_decide_eq_true hc2)) (x_op2 (x_var rfl) x_c (o_ixV (v := paper_0) (k := 2) (by /-_law_paper_right 27: vSq paper_0 = true-/exact pf.sq) (by /-_law_paper_right 28: -(vEs paper_0).length ≤ 2-/first | assumption | omega | (set_option maxHeartbeats 400000 in (simp_all [row_v, list_v, count_v, below_v, integer_v, isV_int, isV_bl, vSq_T]; done)) | (set_option maxHeartbeats 400000 in (simp_all [row_v, list_v, count_v, below_v, integer_v, isV_int, isV_bl, vSq_T]; omega))) (by /-_law_paper_right 29: 2 < (vEs paper_0).length-/have nn : vStr (getI (vEs paper_0) 0) ≠ (lit "none").val := of_decide_eq_false hc1; have := (pf.some nn).1; omega)))) (x_var rfl) (o_inL (e := D.int) (xs := some_1) (by decide))) fun hc => (x_and (x_not (x_call (xa_cons (x_var rfl) (xa_cons (x_ofV (e := D.int) (v := (getI (vEs paper_0) 1)) (by /-_law_paper_right 34: isV D.int (getI (vEs paper_0) 1) = true-/have nn : vStr (getI (vEs paper_0) 0) ≠ (lit "none").val := of_decide_eq_false hc1; exact (pf.some nn).2) (x_op2 (x_var rfl) x_c (o_ixV (v := paper_0) (k := 1) (by /-_law_paper_right 31: vSq paper_0 = true-/exact pf.sq) (by /-_law_paper_right 32: -(vEs paper_0).length ≤ 1-/first | assumption | omega | (set_option maxHeartbeats 400000 in (simp_all [row_v, list_v, count_v, below_v, integer_v, isV_int, isV_bl, vSq_T]; done)) | (set_option maxHeartbeats 400000 in (simp_all [row_v, list_v, count_v, below_v, integer_v, isV_int, isV_bl, vSq_T]; omega))) (by /-_law_paper_right 33: 1 < (vEs paper_0).length-/first | assumption | omega | (set_option maxHeartbeats 400000 in (simp_all [row_v, list_v, count_v, below_v, integer_v, isV_int, isV_bl, vSq_T]; done)) | (set_option maxHeartbeats 400000 in (simp_all [row_v, list_v, count_v, below_v, integer_v, isV_int, isV_bl, vSq_T]; omega)))))) xa_nil)) xa_nil (nb_cons rfl (nb_cons rfl nb_nil)) nb_nil rfl rfl rfl (c_law_is_wrong row_2 (ofV D.int (getI (vEs paper_0) 1)) _)) tr_bl) fun hc => (x_call (xa_cons (x_var rfl) (xa_cons (x_ofV (e := D.int) (v := (getI (vEs paper_0) 2)) (by /-_law_paper_right 38: isV D.int (getI (vEs paper_0) 2) = true-/have nn : vStr (getI (vEs paper_0) 0) ≠ (lit "none").val := of_decide_eq_false hc1; exact pf.opn (of_decide_eq_true hc2)) (x_op2 (x_var rfl) x_c (o_ixV (v := paper_0) (k := 2) (by /-_law_paper_right 35: vSq paper_0 = true-/exact pf.sq) (by /-_law_paper_right 36: -(vEs paper_0).length ≤ 2-/first | assumption | omega | (set_option maxHeartbeats 400000 in (simp_all [row_v, list_v, count_v, below_v, integer_v, isV_int, isV_bl, vSq_T]; done)) | (set_option maxHeartbeats 400000 in (simp_all [row_v, list_v, count_v, below_v, integer_v, isV_int, isV_bl, vSq_T]; omega))) (by /-_law_paper_right 37: 2 < (vEs paper_0).length-/have nn : vStr (getI (vEs paper_0) 0) ≠ (lit "none").val := of_decide_eq_false hc1; have := (pf.some nn).1; omega)))) xa_nil)) xa_nil (nb_cons rfl (nb_cons rfl nb_nil)) nb_nil rfl rfl rfl (c_law_is_wrong row_2 (ofV D.int (getI (vEs paper_0) 2)) _))))) rfl ⟨rfl, rfl⟩
    · skip
      refine j_lt fun others_4 e_others_4 => ?_
      refine j_seq (z_frzA (z_own (ds := others_4.map D.int) (by rw [e_others_4]; exact (f_compF (en := D.int) (ev := D.int) (fun u_3 => (!decide ((t_law_is_wrong row_2 u_3) = (decide (vStr (getI (vEs paper_0) 0) = ((lit "wrong")).val))))) (fun u_3 => u_3) (i_rng1 (xa_cons (x_op2 (x_var rfl) x_c o_ixP4_1) xa_nil) (by /-_law_paper_right 39: range low-/first | assumption | omega | (dsimp only [lt] at *; omega) | (set_option maxHeartbeats 40000 in (simp; done)) | (set_option maxHeartbeats 40000 in (simp; omega)) | (set_option maxHeartbeats 40000 in (simp at *; omega)) | (set_option maxHeartbeats 40000 in (simp_all; done)) | (set_option maxHeartbeats 40000 in (simp_all; omega))) (by /-_law_paper_right 40: range log_0.2.1 ≤ 10^9-/first | assumption | omega | (dsimp only [lt] at *; omega) | (set_option maxHeartbeats 40000 in (simp; done)) | (set_option maxHeartbeats 40000 in (simp; omega)) | (set_option maxHeartbeats 40000 in (simp at *; omega)) | (set_option maxHeartbeats 40000 in (simp_all; done)) | (set_option maxHeartbeats 40000 in (simp_all; omega)))) (by /-_law_paper_right 41: (rangeI log_0.2.1).length ≤ 16777216-/first | assumption | omega | (dsimp only [lt] at *; omega) | (set_option maxHeartbeats 40000 in (simp; done)) | (set_option maxHeartbeats 40000 in (simp; omega)) | (set_option maxHeartbeats 40000 in (simp at *; omega)) | (set_option maxHeartbeats 40000 in (simp_all; done)) | (set_option maxHeartbeats 40000 in (simp_all; omega))) rfl (fun _ => rfl) fun u_3 hu => have hu_u_3 := hu; have hr := mem_rng hu; ⟨_, (p_name rfl rfl rfl), (t_B (x_op2 (x_call (xa_cons (x_var rfl) (xa_cons (x_var rfl) xa_nil)) xa_nil (nb_cons rfl (nb_cons rfl nb_nil)) nb_nil rfl rfl rfl (c_law_is_wrong row_2 u_3 _)) (x_op2 (x_op2 (x_var rfl) x_c (o_ixV (v := paper_0) (k := 0) (by /-_law_paper_right 42: vSq paper_0 = true-/exact pf.sq) (by /-_law_paper_right 43: -(vEs paper_0).length ≤ 0-/first | assumption | omega | (set_option maxHeartbeats 400000 in (simp_all [row_v, list_v, count_v, below_v, integer_v, isV_int, isV_bl, vSq_T]; done)) | (set_option maxHeartbeats 400000 in (simp_all [row_v, list_v, count_v, below_v, integer_v, isV_int, isV_bl, vSq_T]; omega))) (by /-_law_paper_right 44: 0 < (vEs paper_0).length-/first | assumption | omega | (set_option maxHeartbeats 400000 in (simp_all [row_v, list_v, count_v, below_v, integer_v, isV_int, isV_bl, vSq_T]; done)) | (set_option maxHeartbeats 400000 in (simp_all [row_v, list_v, count_v, below_v, integer_v, isV_int, isV_bl, vSq_T]; omega))))) (xv (eS (lit "wrong")) x_c) (o_eqVS (v := (getI (vEs paper_0) 0)) (w := (lit "wrong")) (by /-_law_paper_right 45: vS (getI (vEs paper_0) 0) = true-/exact pf.s0))) rfl)), fun hp => (x_var rfl)⟩)) rfl rfl) rfl) ?_
      exact j_ret (d := D.bl ((hasB some_1 (ofV D.int (getI (vEs paper_0) 1))) && ((!hasB others_4 (ofV D.int (getI (vEs paper_0) 1))) && (t_law_bars_right log_0 others_4 (ofV (eT (eP2 D.int (eT D.int))) (getI (vEs paper_0) 2)))))) (x_and (x_op2 (x_ofV (e := D.int) (v := (getI (vEs paper_0) 1)) (by /-_law_paper_right 49: isV D.int (getI (vEs paper_0) 1) = true-/have nn : vStr (getI (vEs paper_0) 0) ≠ (lit "none").val := of_decide_eq_false hc1; exact (pf.some nn).2) (x_op2 (x_var rfl) x_c (o_ixV (v := paper_0) (k := 1) (by /-_law_paper_right 46: vSq paper_0 = true-/exact pf.sq) (by /-_law_paper_right 47: -(vEs paper_0).length ≤ 1-/first | assumption | omega | (set_option maxHeartbeats 400000 in (simp_all [row_v, list_v, count_v, below_v, integer_v, isV_int, isV_bl, vSq_T]; done)) | (set_option maxHeartbeats 400000 in (simp_all [row_v, list_v, count_v, below_v, integer_v, isV_int, isV_bl, vSq_T]; omega))) (by /-_law_paper_right 48: 1 < (vEs paper_0).length-/first | assumption | omega | (set_option maxHeartbeats 400000 in (simp_all [row_v, list_v, count_v, below_v, integer_v, isV_int, isV_bl, vSq_T]; done)) | (set_option maxHeartbeats 400000 in (simp_all [row_v, list_v, count_v, below_v, integer_v, isV_int, isV_bl, vSq_T]; omega)))))) (x_var rfl) (o_inL (e := D.int) (xs := some_1) (by decide))) fun hc => (x_and (x_op2 (x_ofV (e := D.int) (v := (getI (vEs paper_0) 1)) (by /-_law_paper_right 53: isV D.int (getI (vEs paper_0) 1) = true-/have nn : vStr (getI (vEs paper_0) 0) ≠ (lit "none").val := of_decide_eq_false hc1; exact (pf.some nn).2) (x_op2 (x_var rfl) x_c (o_ixV (v := paper_0) (k := 1) (by /-_law_paper_right 50: vSq paper_0 = true-/exact pf.sq) (by /-_law_paper_right 51: -(vEs paper_0).length ≤ 1-/first | assumption | omega | (set_option maxHeartbeats 400000 in (simp_all [row_v, list_v, count_v, below_v, integer_v, isV_int, isV_bl, vSq_T]; done)) | (set_option maxHeartbeats 400000 in (simp_all [row_v, list_v, count_v, below_v, integer_v, isV_int, isV_bl, vSq_T]; omega))) (by /-_law_paper_right 52: 1 < (vEs paper_0).length-/first | assumption | omega | (set_option maxHeartbeats 400000 in (simp_all [row_v, list_v, count_v, below_v, integer_v, isV_int, isV_bl, vSq_T]; done)) | (set_option maxHeartbeats 400000 in (simp_all [row_v, list_v, count_v, below_v, integer_v, isV_int, isV_bl, vSq_T]; omega)))))) (x_var rfl) (o_niL (e := D.int) (xs := others_4) (by decide))) fun hc => (x_call (xa_cons (x_var rfl) (xa_cons (x_var rfl) (xa_cons (x_ofV (e := (eT (eP2 D.int (eT D.int)))) (v := (getI (vEs paper_0) 2)) (by /-_law_paper_right 57: isV (eT (eP2 D.int (eT D.int))) (getI (vEs paper_0) 2) = tru-/have nn : vStr (getI (vEs paper_0) 0) ≠ (lit "none").val := of_decide_eq_false hc1; have oo : vStr (getI (vEs paper_0) 0) ≠ (lit "open").val := of_decide_eq_false hc2; exact (pf.bar nn oo).1) (x_op2 (x_var rfl) x_c (o_ixV (v := paper_0) (k := 2) (by /-_law_paper_right 54: vSq paper_0 = true-/exact pf.sq) (by /-_law_paper_right 55: -(vEs paper_0).length ≤ 2-/first | assumption | omega | (set_option maxHeartbeats 400000 in (simp_all [row_v, list_v, count_v, below_v, integer_v, isV_int, isV_bl, vSq_T]; done)) | (set_option maxHeartbeats 400000 in (simp_all [row_v, list_v, count_v, below_v, integer_v, isV_int, isV_bl, vSq_T]; omega))) (by /-_law_paper_right 56: 2 < (vEs paper_0).length-/have nn : vStr (getI (vEs paper_0) 0) ≠ (lit "none").val := of_decide_eq_false hc1; have := (pf.some nn).1; omega)))) xa_nil))) xa_nil (nb_cons rfl (nb_cons rfl (nb_cons rfl nb_nil))) nb_nil rfl rfl rfl (c_law_bars_right log_0 others_4 (ofV (eT (eP2 D.int (eT D.int))) (getI (vEs paper_0) 2)) (by /-_law_paper_right 58: _law_bars_right: pre 0-/first | (have b := (pf.none (of_decide_eq_true hc1)).2; exact Nat.le_trans b.1 (by decide)) | (have nn : vStr (getI (vEs paper_0) 0) ≠ (lit "none").val := of_decide_eq_false hc1; have oo : vStr (getI (vEs paper_0) 0) ≠ (lit "open").val := of_decide_eq_false hc2; have b := (pf.bar nn oo).2; exact Nat.le_trans b.1 (by decide))) (by /-_law_paper_right 59: _law_bars_right: pre 1-/first | (have b := (pf.none (of_decide_eq_true hc1)).2; exact b.2) | (have nn : vStr (getI (vEs paper_0) 0) ≠ (lit "none").val := of_decide_eq_false hc1; have oo : vStr (getI (vEs paper_0) 0) ≠ (lit "open").val := of_decide_eq_false hc2; have b := (pf.bar nn oo).2; exact b.2)) (by /-_law_paper_right 60: _law_bars_right: pre 2-/first | assumption | omega | (dsimp only [lt] at *; omega) | (set_option maxHeartbeats 40000 in (simp; done)) | (set_option maxHeartbeats 40000 in (simp; omega)) | (set_option maxHeartbeats 40000 in (simp at *; omega)) | (set_option maxHeartbeats 40000 in (simp_all; done)) | (set_option maxHeartbeats 40000 in (simp_all; omega))) _)))) rfl ⟨rfl, rfl⟩
end EV
/-! k38: the law's own looks -/
namespace EV
open PySem L2
theorem things_sub {p : Pot2} {m : Int} : List.Sublist (t_law_things p m).1 (rangeI m) := by
  unfold t_law_things
  simp only [lt]
  rw [show (fun (u_2 : Int) => u_2) = id from rfl, List.map_id]
  exact filtS_sub
theorem log_ok {p : Pot2} {most rows : Int} (m0 : 1 ≤ most) (m1 : most ≤ 40) (r0 : 0 ≤ rows) (r1 : rows ≤ 24) : LogOk (t_law_log p most rows).1 ∧ ((t_law_log p most rows).1.2.2.2.length : Int) ≤ rows := by
  have b1 := law_draw_b p most (by omega)
  unfold t_law_log
  simp only [lt]
  generalize t_law_draw p most = q1 at *
  have b2 := law_draw_b q1.2 4 (by decide)
  generalize t_law_draw q1.2 4 = q2 at *
  generalize t_law_draw q2.2 (1 + q1.1) = q4 at *
  generalize t_law_draw q4.2 2 = q5 at *
  have b8 := law_draw_b q5.2 (rows + 1) (by omega)
  generalize t_law_draw q5.2 (rows + 1) = q8 at *
  generalize hf : (fun (s_9 : ((List ((List Int) × SS)) × Int × Pot2)) (u_10 : Int) => ((s_9.1 ++ [((t_law_things s_9.2.2 (1 + q1.1)).1, (if (if (decide (0 < s_9.2.1)) = true then (if (decide ((t_law_draw (t_law_things s_9.2.2 (1 + q1.1)).2 3).1 = 0)) = true then (!hasB (t_law_things s_9.2.2 (1 + q1.1)).1 q4.1, s_9.2.1 - 1, (t_law_draw (t_law_things s_9.2.2 (1 + q1.1)).2 3).2) else ((hasB (t_law_things s_9.2.2 (1 + q1.1)).1 q4.1, s_9.2.1, (t_law_draw (t_law_things s_9.2.2 (1 + q1.1)).2 3).2))) else ((hasB (t_law_things s_9.2.2 (1 + q1.1)).1 q4.1, s_9.2.1, (t_law_things s_9.2.2 (1 + q1.1)).2))).1 = true then (lit "yes") else (lit "no")))]), (if (decide (0 < s_9.2.1)) = true then (if (decide ((t_law_draw (t_law_things s_9.2.2 (1 + q1.1)).2 3).1 = 0)) = true then (!hasB (t_law_things s_9.2.2 (1 + q1.1)).1 q4.1, s_9.2.1 - 1, (t_law_draw (t_law_things s_9.2.2 (1 + q1.1)).2 3).2) else ((hasB (t_law_things s_9.2.2 (1 + q1.1)).1 q4.1, s_9.2.1, (t_law_draw (t_law_things s_9.2.2 (1 + q1.1)).2 3).2))) else ((hasB (t_law_things s_9.2.2 (1 + q1.1)).1 q4.1, s_9.2.1, (t_law_things s_9.2.2 (1 + q1.1)).2))).2.1, (if (decide (0 < s_9.2.1)) = true then (if (decide ((t_law_draw (t_law_things s_9.2.2 (1 + q1.1)).2 3).1 = 0)) = true then (!hasB (t_law_things s_9.2.2 (1 + q1.1)).1 q4.1, s_9.2.1 - 1, (t_law_draw (t_law_things s_9.2.2 (1 + q1.1)).2 3).2) else ((hasB (t_law_things s_9.2.2 (1 + q1.1)).1 q4.1, s_9.2.1, (t_law_draw (t_law_things s_9.2.2 (1 + q1.1)).2 3).2))) else ((hasB (t_law_things s_9.2.2 (1 + q1.1)).1 q4.1, s_9.2.1, (t_law_things s_9.2.2 (1 + q1.1)).2))).2.2)) = f
  have z := foldl_inv (fun i (s : List (List Int × SS) × Int × Pot2) => s.1.length = i ∧ ∀ r ∈ s.1, t_are_things_in (1 + q1.1) r.1 = true ∧ t_is_answer r.2 = true ∧ r.1.length ≤ 40) (xs := rangeI q8.1) (s0 := (([] : List (List Int × SS)), q2.1 + q5.1, q8.2)) (f := f) 0 ⟨rfl, fun r m => by cases m⟩ fun i u s hu hi => by
    obtain ⟨h1, h2⟩ := hi
    subst hf
    dsimp only
    refine ⟨by rw [List.length_append, h1]; rfl, fun r m => ?_⟩
    rcases List.mem_append.mp m with m | m
    · exact h2 r m
    · rw [List.mem_singleton] at m
      subst m
      have t := things_of (things_sub (p := s.2.2) (m := 1 + q1.1)) (by omega)
      exact ⟨t.1, answer_is, t.2⟩
  rw [rangeI_len, Nat.zero_add] at z
  exact ⟨⟨rfl, by dsimp only; omega, by dsimp only; omega, b2.1, by dsimp only; omega, by first | omega | (dsimp only; omega), z.2⟩, by first | omega | (dsimp only; omega)⟩
theorem enumF_map2 {α : Type} [Inhabited α] : ∀ {xs : List α} {i : Int}, enumF i xs = (List.range xs.length).map fun n : Nat => (i + n, xs.getD n default)
  | [], i => rfl
  | x :: xs, i => by
    rw [enumF, enumF_map2 (xs := xs) (i := i + 1), List.length_cons, List.range_succ_eq_map, List.map_cons, List.map_map]
    congr 1
    · simp
    · refine List.map_congr_left fun n _ => ?_
      show (i + 1 + (n : Int), xs.getD n default) = (i + ((n + 1 : Nat) : Int), (x :: xs).getD (n + 1) default)
      rw [List.getD_cons_succ]
      congr 1
      omega
theorem filt_eq2 {α : Type} [Inhabited α] {xs : List α} {P Q : α → Bool} (h : ∀ x ∈ xs, P x = Q x) : ((rangeI (xs.length : Int)).filter fun u => P (getI xs u)).map (fun u => u) = ((enumI xs).filter fun u => Q u.2).map fun u => u.1 := by
  rw [List.map_id', enumI, enumF_map2]
  unfold rangeI nats
  rw [Int.toNat_natCast, List.filter_map, List.filter_map, List.map_map]
  have e : (List.range xs.length).filter ((fun u => P (getI xs u)) ∘ fun i : Nat => (i : Int)) = (List.range xs.length).filter ((fun u : Int × α => Q u.2) ∘ fun n : Nat => ((0 : Int) + n, xs.getD n default)) := by
    refine List.filter_congr fun t ht => ?_
    have ht := List.mem_range.mp ht
    show P (getI xs (t : Int)) = Q (xs.getD t default)
    have g : getI xs (t : Int) = xs.getD t default := by
      unfold getI
      rw [if_pos (by omega), Int.toNat_natCast]
    rw [g]
    refine h _ ?_
    rw [List.getD_eq_getElem?_getD, List.getElem?_eq_getElem ht]
    exact List.getElem_mem ht
  rw [e]
  refine List.map_congr_left fun t _ => ?_
  show (t : Int) = 0 + (t : Int)
  omega
theorem lwrong_eq {log : LogT} {x : Int} : t_law_wrong log x = t_lg_wrong_of log x :=
  filt_eq2 (P := fun r => t_law_is_wrong r x) (Q := fun r => t_is_wrong_for r x) fun _ _ => rfl
theorem lposs_eq {log : LogT} : t_law_possible log = t_lg_possible_of log := by
  unfold t_law_possible t_lg_possible_of
  simp only [lwrong_eq]
theorem ltruth_eq {log : LogT} {at_ : Int} : t_law_truth log at_ = t_truth_of log at_ := by
  unfold t_law_truth t_truth_of
  rw [lposs_eq]
  simp only [lt]
  show (if _ then _ else if _ then _ else _) = _
  have e : (fun u_1 : Int => t_law_is_wrong (getI log.2.2.2 at_) u_1) = fun u_1 => t_is_wrong_for (getI log.2.2.2 at_) u_1 := rfl
  rw [e]
  generalize (t_lg_possible_of log).map (fun u_1 => t_is_wrong_for (getI log.2.2.2 at_) u_1) = told
  cases hasB told true <;> cases hasB told false <;> rfl
theorem lless_eq {log : LogT} {at_ : Int} : t_law_less log at_ = t_without_row log at_ := rfl
/-! ### bars -/
theorem poss_iff {log : LogT} {x : Int} : x ∈ t_lg_possible_of log ↔ (0 ≤ x ∧ x < log.2.1) ∧ (Wn log x : Int) ≤ log.2.2.1 := poss_mem
theorem wrong_up {log : LogT} {x : Int} : (t_lg_wrong_of log x).Pairwise (· < ·) := by
  rw [← lwrong_eq]
  unfold t_law_wrong
  rw [List.map_id']
  exact range_lt.sublist List.filter_sublist
theorem wrong_mem {log : LogT} {x u : Int} (h : u ∈ t_lg_wrong_of log x) : (0 ≤ u ∧ u < (log.2.2.2.length : Int)) ∧ t_is_wrong_for (getI log.2.2.2 u) x = true := by
  rw [← lwrong_eq] at h
  unfold t_law_wrong at h
  rw [List.map_id', List.mem_filter] at h
  exact ⟨mem_rng h.1, h.2⟩
theorem others_np {log : LogT} {at_ x : Int} {w : SS} (ew : t_truth_of log at_ = w) (no : w ≠ lit "open") (h : x ∈ t_others_of log at_ w) : (0 ≤ x ∧ x < log.2.1) ∧ log.2.2.1 < (Wn log x : Int) := by
  have key : x ∉ t_lg_possible_of log → (0 ≤ x ∧ x < log.2.1) → (0 ≤ x ∧ x < log.2.1) ∧ log.2.2.1 < (Wn log x : Int) := fun np b => ⟨b, by
    by_cases c : (Wn log x : Int) ≤ log.2.2.1
    · exact absurd (poss_iff.mpr ⟨b, c⟩) np
    · omega⟩
  have tm : ∀ b, x ∈ t_lg_possible_of log → t_is_wrong_for (getI log.2.2.2 at_) x = b → hasB ((t_lg_possible_of log).map fun u => t_is_wrong_for (getI log.2.2.2 at_) u) b = true := fun b m e => by
    unfold hasB
    simp only [List.any_eq_true, List.mem_map, decide_eq_true_eq]
    first | exact ⟨_, ⟨x, m, rfl⟩, e⟩ | exact ⟨_, ⟨x, m, rfl⟩, e.symm⟩
  unfold t_truth_of at ew
  simp only [lt] at ew
  unfold t_others_of at h
  split at ew
  · rename_i c0
    subst ew
    rw [if_pos (by decide)] at h
    refine key (fun m => ?_) (mem_rng h)
    have c0 := of_decide_eq_true c0
    rw [List.map_eq_nil_iff] at c0
    rw [c0] at m
    cases m
  · split at ew
    · rename_i c1
      split at ew
      · exact absurd ew.symm no
      · rename_i c2
        subst ew
        rw [if_neg (by decide), List.map_id', List.mem_filter] at h
        refine key (fun m => ?_) (mem_rng h.1)
        have h2 : t_is_wrong_for (getI log.2.2.2 at_) x = false := by
          have := of_decide_eq_true h.2
          rw [this]; decide
        exact c2 (tm false m h2)
    · rename_i c1
      subst ew
      rw [if_neg (by decide), List.map_id', List.mem_filter] at h
      refine key (fun m => ?_) (mem_rng h.1)
      have h2 : t_is_wrong_for (getI log.2.2.2 at_) x = true := by
        have := of_decide_eq_true h.2
        rw [this]; decide
      exact c1 (tm true m h2)
structure BarOk (log : LogT) (x : Int) (pos : List Int) : Prop where
  len : (pos.length : Int) = log.2.2.1 + 1
  up : pos.Pairwise (· < ·)
  mem : ∀ u ∈ pos, u ∈ t_lg_wrong_of log x
theorem bar_ok {log : LogT} (ok : LogOk log) {x : Int} (h : log.2.2.1 < (Wn log x : Int)) : BarOk log x (t_barred_for log x).2 := by
  have l1 := ok.l1
  obtain ⟨k, hk⟩ : ∃ k : Nat, log.2.2.1 + 1 = k := ⟨(log.2.2.1 + 1).toNat, by omega⟩
  have e : (t_barred_for log x).2 = (t_lg_wrong_of log x).take k := by
    show cut (t_lg_wrong_of log x) none (some (log.2.2.1 + 1)) = _
    rw [hk, cut_take]
  have wl : (t_lg_wrong_of log x).length = Wn log x := lg_wrong_n
  rw [e]
  refine ⟨by rw [List.length_take]; omega, wrong_up.sublist (List.take_sublist _ _), fun u m => List.take_subset _ _ m⟩
theorem lbars_right {log : LogT} (ok : LogOk log) {things : List Int} (h : ∀ x ∈ things, log.2.2.1 < (Wn log x : Int)) : t_law_bars_right log things (things.map fun u => t_barred_for log u) = true := by
  unfold t_law_bars_right
  rw [if_neg (by
    rw [List.map_map]
    have : ((fun u_1 : Int × List Int => u_1.1) ∘ fun u => t_barred_for log u) = id := rfl
    rw [this, List.map_id]; simp)]
  refine loopR_cg (Z := fun r : Bool => r = true) (P := fun _ _ => True) (Q := fun _ => False) (k := 0) trivial (fun i u s hu _ => ?_) (fun s _ => rfl) (fun s h => h.elim)
  refine cg_no ?_ trivial
  obtain ⟨x, hx, rfl⟩ := List.mem_map.mp (List.mem_of_getElem? hu)
  have b := bar_ok ok (h x hx)
  have e3 : (((t_barred_for log x).2.filter (fun u_4 => (!hasB (t_law_wrong log (t_barred_for log x).1) u_4))).map (fun u_4 => u_4)) = ([] : List Int) := by
    rw [List.map_id', List.filter_eq_nil_iff]
    intro u m
    have m2 : hasB (t_law_wrong log (t_barred_for log x).1) u = true := by
      rw [lwrong_eq, hasB_con, List.contains_iff_mem]
      exact b.mem u m
    rw [m2]; decide
  rw [e3, nset_self b.up, b.len]
  simp
theorem is_bar {log : LogT} {x : Int} {pos : List Int} (b : BarOk log x pos) (x0 : 0 ≤ x) (x1 : x < log.2.1) : t_is_bar_for log x (toV (eP2 D.int (eT D.int)) (x, pos)) = true := by
  have g0 : getI (vEs (toV (eP2 D.int (eT D.int)) (x, pos))) 0 = toV D.int x := by simp [getI]
  have g1 : getI (vEs (toV (eP2 D.int (eT D.int)) (x, pos))) 1 = toV (eT D.int) pos := by simp [getI]
  unfold t_is_bar_for
  rw [g0, g1, ofV_toV, ofV_toV]
  have r1 : t_is_row (toV (eP2 D.int (eT D.int)) (x, pos)) 2 = true := rfl
  have r2 : t_is_below (toV D.int x) log.2.1 = true := by rw [below_v]; simp [x0, x1]
  have r3 : t_is_row (toV (eT D.int) pos) (log.2.2.1 + 1) = true := by rw [row_v]; simp [b.len]
  have r4 : (vEs (toV (eT D.int) pos)).all (fun u_1 => t_is_below u_1 (log.2.2.2.length : Int)) = true := by
    rw [vEs_T, List.all_map, List.all_eq_true]
    intro u m
    have := wrong_mem (b.mem u m)
    show t_is_below (toV D.int u) _ = true
    rw [below_v]; simp [this.1.1, this.1.2]
  have r5 : t_is_rising pos = true := rising_of b.up
  have r6 : (vEs (toV (eT D.int) pos)).all (fun u_2 => t_is_wrong_for (getI log.2.2.2 (ofV D.int u_2)) x) = true := by
    rw [vEs_T, List.all_map, List.all_eq_true]
    intro u m
    show t_is_wrong_for (getI log.2.2.2 (ofV D.int (toV D.int u))) x = true
    rw [ofV_toV]
    exact (wrong_mem (b.mem u m)).2
  rw [r1, r2, r3, r4, r5, r6]
  simp
theorem are_bars_ok {log : LogT} (ok : LogOk log) {things : List Int} (h : ∀ x ∈ things, (0 ≤ x ∧ x < log.2.1) ∧ log.2.2.1 < (Wn log x : Int)) : t_are_bars log things (toV eBars (things.map fun u => t_barred_for log u)) = true := by
  unfold t_are_bars
  rw [if_neg (by rw [row_v]; simp), vEs_T, List.map_map, List.all_eq_true]
  intro u hu
  have z : ∀ {xs : List Int} {g : Int → Vl}, u ∈ xs.zip (xs.map g) → u.1 ∈ xs ∧ u.2 = g u.1 := fun {xs g} => by
    induction xs with
    | nil => intro m; cases m
    | cons y ys ih =>
      intro m
      rw [List.map_cons, List.zip_cons_cons] at m
      rcases List.mem_cons.mp m with rfl | m
      · exact ⟨.head _, rfl⟩
      · exact ⟨.tail _ (ih m).1, (ih m).2⟩
  obtain ⟨m1, m2⟩ := z hu
  obtain ⟨hb, hw⟩ := h u.1 m1
  rw [m2]
  exact is_bar (bar_ok ok hw) hb.1 hb.2
end EV
/-! k38: told papers are right -/
namespace EV
open PySem L2
theorem first_ok {log : LogT} {at_ : Int} {b : Bool} (ne : ∃ x ∈ t_lg_possible_of log, t_is_wrong_for (getI log.2.2.2 at_) x = b) : t_first_thing log at_ b ∈ t_lg_possible_of log ∧ t_is_wrong_for (getI log.2.2.2 at_) (t_first_thing log at_ b) = b := by
  unfold t_first_thing
  rw [List.map_id']
  obtain ⟨x, hx, hw⟩ := ne
  have m : x ∈ (t_lg_possible_of log).filter (fun u_1 => (decide ((t_is_wrong_for (getI log.2.2.2 at_) u_1) = b))) := List.mem_filter.mpr ⟨hx, by rw [hw]; simp⟩
  have l := List.length_pos_of_mem m
  have g := getI_mem (xs := (t_lg_possible_of log).filter (fun u_1 => (decide ((t_is_wrong_for (getI log.2.2.2 at_) u_1) = b)))) (i := 0) (by omega) (by omega)
  obtain ⟨g1, g2⟩ := List.mem_filter.mp g
  exact ⟨g1, of_decide_eq_true g2⟩
theorem poss_inV {log : LogT} {x : Int} (h : x ∈ t_lg_possible_of log) : t_is_possible_in log (toV D.int x) = true := by
  obtain ⟨b, w⟩ := poss_iff.mp h
  unfold t_is_possible_in
  rw [ofV_toV, below_v, lg_wrong_n]
  simp [b.1, b.2, w]
theorem hasB_mem {xs : List Int} {x : Int} (h : x ∈ xs) : hasB xs x = true := by rw [hasB_con]; exact List.contains_iff_mem.mpr h
theorem told_right {log : LogT} (ok : LogOk log) {at_ : Int} : t_law_paper_right log at_ (t_tr_paper_of log at_) = true ∧ t_tr_is_paper_of log at_ (t_tr_paper_of log at_) = true ∧ getI (vEs (t_tr_paper_of log at_)) 0 = toV eS (t_truth_of log at_) := by
  have th := truth_has (log := log) (at_ := at_) rfl
  rcases paper_cases (log := log) (at_ := at_) with ⟨ew, e⟩ | ⟨ew, e⟩ | ⟨hw, e⟩
  · obtain ⟨a1, a2⟩ := first_ok (th.1 ew false)
    obtain ⟨b1, b2⟩ := first_ok (th.1 ew true)
    rw [e, ew]
    generalize t_first_thing log at_ false = x at *
    generalize t_first_thing log at_ true = y at *
    have g0 : getI (vEs (toV (eP3 eS D.int D.int) (lit "open", x, y))) 0 = toV eS (lit "open") := by simp [getI]
    have g1 : getI (vEs (toV (eP3 eS D.int D.int) (lit "open", x, y))) 1 = toV D.int x := by simp [getI]
    have g2 : getI (vEs (toV (eP3 eS D.int D.int) (lit "open", x, y))) 2 = toV D.int y := by simp [getI]
    have gl : (vEs (toV (eP3 eS D.int D.int) (lit "open", x, y))).length = 3 := by simp
    refine ⟨?_, ?_, g0⟩
    · unfold t_law_paper_right
      simp only [lt]
      rw [g0, g1, g2, ofV_toV, ofV_toV, vStr_S, if_neg (by decide), if_pos (by decide), lposs_eq, hasB_mem a1, hasB_mem b1]
      rw [show t_law_is_wrong (getI log.2.2.2 at_) x = false from a2, show t_law_is_wrong (getI log.2.2.2 at_) y = true from b2]
      rfl
    · unfold t_tr_is_paper_of
      rw [g0, g1, g2, ofV_toV, ofV_toV, ofV_toV, vStr_S, gl]
      rw [if_neg (by rw [vT_P3, vS_S]; decide), if_neg (by decide), if_neg (by rw [poss_inV a1]; decide), if_pos (by decide), if_neg (by rw [poss_inV b1, a2]; decide), b2]
  · rw [e, ew]
    have hs : ∀ x ∈ t_others_of log at_ (lit "none"), (0 ≤ x ∧ x < log.2.1) ∧ log.2.2.1 < (Wn log x : Int) := fun x m => others_np ew (by decide) m
    have g0 : getI (vEs (toV (eP2 eS eBars) (lit "none", barsOf log at_ (lit "none")))) 0 = toV eS (lit "none") := by simp [getI]
    have g1 : getI (vEs (toV (eP2 eS eBars) (lit "none", barsOf log at_ (lit "none")))) 1 = toV eBars (barsOf log at_ (lit "none")) := by simp [getI]
    have gl : (vEs (toV (eP2 eS eBars) (lit "none", barsOf log at_ (lit "none")))).length = 2 := by simp
    refine ⟨?_, ?_, g0⟩
    · unfold t_law_paper_right
      simp only [lt]
      rw [g0, g1, ofV_toV, vStr_S, if_pos (by decide)]
      exact lbars_right ok fun x m => (hs x m).2
    · unfold t_tr_is_paper_of
      rw [g0, g1, vStr_S, gl, if_neg (by rw [vT_P2, vS_S]; decide), if_pos (by decide)]
      have := are_bars_ok ok hs
      unfold barsOf
      rw [this]; decide
  · obtain ⟨a1, a2⟩ := first_ok (th.2 (by rcases hw with h | h <;> rw [h] <;> decide) (by rcases hw with h | h <;> rw [h] <;> decide))
    rw [e]
    have hs : ∀ x ∈ t_others_of log at_ (t_truth_of log at_), (0 ≤ x ∧ x < log.2.1) ∧ log.2.2.1 < (Wn log x : Int) := fun x m => others_np rfl (by rcases hw with h | h <;> rw [h] <;> decide) m
    generalize t_truth_of log at_ = w at *
    generalize t_first_thing log at_ (decide (w = lit "wrong")) = x at *
    have g0 : getI (vEs (toV (eP3 eS D.int eBars) (w, x, barsOf log at_ w))) 0 = toV eS w := by simp [getI]
    have g1 : getI (vEs (toV (eP3 eS D.int eBars) (w, x, barsOf log at_ w))) 1 = toV D.int x := by simp [getI]
    have g2 : getI (vEs (toV (eP3 eS D.int eBars) (w, x, barsOf log at_ w))) 2 = toV eBars (barsOf log at_ w) := by simp [getI]
    have gl : (vEs (toV (eP3 eS D.int eBars) (w, x, barsOf log at_ w))).length = 3 := by simp
    have nn : w.val ≠ (lit "none").val := by rcases hw with rfl | rfl <;> decide
    have oo : w.val ≠ (lit "open").val := by rcases hw with rfl | rfl <;> decide
    have ev : decide (w.val = (lit "wrong").val) = decide (w = lit "wrong") := by rcases hw with rfl | rfl <;> decide
    have eo : (((rangeI log.2.1).filter (fun u_3 => (!decide ((t_law_is_wrong (getI log.2.2.2 at_) u_3) = (decide (w.val = (lit "wrong").val)))))).map (fun u_3 => u_3)) = t_others_of log at_ w := by
      unfold t_others_of
      rw [if_neg (by rcases hw with rfl | rfl <;> decide)]
      congr 1
      refine List.filter_congr fun u _ => ?_
      show (!decide (t_is_wrong_for (getI log.2.2.2 at_) u = _)) = _
      rcases hw with rfl | rfl <;> cases t_is_wrong_for (getI log.2.2.2 at_) u <;> decide
    have xo : hasB (t_others_of log at_ w) x = false := by
      cases c : hasB (t_others_of log at_ w) x with
      | false => rfl
      | true =>
        rw [hasB_con, List.contains_iff_mem] at c
        have h1 := (hs x c).2
        have h2 := (poss_iff.mp a1).2
        omega
    refine ⟨?_, ?_, g0⟩
    · unfold t_law_paper_right
      simp only [lt]
      rw [g0, g1, g2, ofV_toV, ofV_toV, vStr_S, if_neg (by simpa using nn), if_neg (by simpa using oo), eo, lposs_eq, hasB_mem a1, xo]
      rw [show t_law_bars_right log (t_others_of log at_ w) (barsOf log at_ w) = true from lbars_right ok fun x m => (hs x m).2]
      rfl
    · unfold t_tr_is_paper_of
      rw [g0, g1, g2, ofV_toV, ofV_toV, vStr_S, gl]
      rw [if_neg (by rw [vT_P3, vS_S]; decide), if_neg (by simpa using nn), if_neg (by rw [poss_inV a1]; rcases hw with rfl | rfl <;> decide), if_neg (by simpa using oo), if_neg (by rw [a2, ev]; simp)]
      exact are_bars_ok ok hs
/-! ### slim logs -/
theorem lslim_eq {log : LogT} : ((rangeD ((log.2.2.2.length : Int) - 1) (-1)).foldl (fun (s_9 : LogT) u_10 => if (decide ((t_law_possible (t_law_less s_9 u_10)) = (t_law_possible s_9))) = true then (t_law_less s_9 u_10) else s_9) log) = t_slim log := by
  show _ = t_slim_of log
  unfold t_slim_of
  simp only [lt]
  congr 1
  funext s u
  rw [lposs_eq, lposs_eq, lless_eq]
  rfl
theorem less_sub {log : LogT} {k : Nat} : t_without_row log (k : Int) = (log.1, log.2.1, log.2.2.1, log.2.2.2.eraseIdx k) := by
  show (log.1, log.2.1, log.2.2.1, cut log.2.2.2 none (some (k : Int)) ++ cut log.2.2.2 (some ((k : Int) + 1)) none) = _
  rw [cut_take, show ((k : Int) + 1) = ((k + 1 : Nat) : Int) by omega, cut_drop, List.eraseIdx_eq_take_drop_succ]
theorem poss_moreV {log log' : LogT} (hm : log'.2.1 = log.2.1) (hl : log'.2.2.1 = log.2.2.1) (h : List.Sublist log'.2.2.2 log.2.2.2) {x : Int} (m : x ∈ t_lg_possible_of log) : x ∈ t_lg_possible_of log' := by
  rw [poss_iff] at m ⊢
  rw [hm, hl]
  refine ⟨m.1, ?_⟩
  have : Wn log' x ≤ Wn log x := h.countP_le
  omega
theorem poss_same {log log' : LogT} (hm : log'.2.1 = log.2.1) (hl : log'.2.2.1 = log.2.2.1) (h : List.Sublist log'.2.2.2 log.2.2.2) : t_lg_possible_of log' = t_lg_possible_of log ↔ ∀ x ∈ t_lg_possible_of log', x ∈ t_lg_possible_of log := by
  constructor
  · intro e x m
    rw [← e]; exact m
  · intro a
    have e : ∀ l : LogT, t_lg_possible_of l = (rangeI l.2.1).filter fun x => decide ((Wn l x : Int) ≤ l.2.2.1) := fun l => by
      unfold t_lg_possible_of
      rw [List.map_id']
      refine List.filter_congr fun x _ => ?_
      rw [lg_wrong_n]
    rw [e, e, hm]
    refine List.filter_congr fun x hx => ?_
    have i : x ∈ t_lg_possible_of log' ↔ x ∈ t_lg_possible_of log := ⟨a x, poss_moreV hm hl h⟩
    rw [poss_iff, poss_iff, hm] at i
    have b := mem_rng hx
    rw [decide_eq_decide]
    constructor
    · intro z; exact (i.mp ⟨b, z⟩).2
    · intro z; exact (i.mpr ⟨b, z⟩).2
structure SlimI (log s : LogT) (u : Nat) : Prop where
  ok : LogOk s
  mn : s.2.1 = log.2.1
  ls : s.2.2.1 = log.2.2.1
  ps : t_lg_possible_of s = t_lg_possible_of log
  ln : u ≤ s.2.2.2.length
  le : s.2.2.2.length ≤ log.2.2.2.length
  bz : ∀ j, u ≤ j → j < s.2.2.2.length → t_is_idle_of s (j : Int) = false
theorem erase_two {α : Type} {xs : List α} {u j : Nat} (h : u ≤ j) : List.Sublist ((xs.eraseIdx u).eraseIdx j) (xs.eraseIdx (j + 1)) := by
  induction xs generalizing u j with
  | nil => simp
  | cons x xs ih =>
    cases u with
    | zero =>
      rw [List.eraseIdx_cons_zero, List.eraseIdx_cons_succ]
      exact List.sublist_cons_self _ _
    | succ u =>
      cases j with
      | zero => omega
      | succ j =>
        rw [List.eraseIdx_cons_succ, List.eraseIdx_cons_succ, List.eraseIdx_cons_succ]
        exact (ih (by omega)).cons₂ x
theorem slim_step {log s : LogT} {u : Nat} (h : SlimI log s (u + 1)) : SlimI log (if t_is_idle_of s (u : Int) = true then t_without_row s (u : Int) else s) u := by
  have ln := h.ln
  cases c : t_is_idle_of s (u : Int) with
  | false =>
    rw [if_neg (by decide)]
    refine ⟨h.ok, h.mn, h.ls, h.ps, by omega, h.le, fun j h1 h2 => ?_⟩
    by_cases e : j = u
    · subst e; exact c
    · exact h.bz j (by omega) h2
  | true =>
    rw [if_pos rfl]
    have lo := less_ok h.ok (at_ := (u : Int)) (by omega) (by omega)
    have same : t_lg_possible_of (t_without_row s (u : Int)) = t_lg_possible_of s := of_decide_eq_true c
    refine ⟨lo.1, h.mn, h.ls, same.trans h.ps, by omega, by have := h.le; omega, fun j h1 h2 => ?_⟩
    cases d : t_is_idle_of (t_without_row s (u : Int)) (j : Int) with
    | false => rfl
    | true =>
      exfalso
      have d2 : t_lg_possible_of (t_without_row (t_without_row s (u : Int)) (j : Int)) = t_lg_possible_of (t_without_row s (u : Int)) := of_decide_eq_true d
      have b := h.bz (j + 1) (by omega) (by omega)
      have nb : ¬ t_lg_possible_of (t_without_row s ((j + 1 : Nat) : Int)) = t_lg_possible_of s := of_decide_eq_false b
      apply nb
      have s1 : List.Sublist (t_without_row s ((j + 1 : Nat) : Int)).2.2.2 s.2.2.2 := by rw [less_sub]; exact List.eraseIdx_sublist _ _
      refine (poss_same (log := s) (log' := t_without_row s ((j + 1 : Nat) : Int)) rfl rfl s1).mpr fun x m => ?_
      have s2 : List.Sublist (t_without_row (t_without_row s (u : Int)) (j : Int)).2.2.2 (t_without_row s ((j + 1 : Nat) : Int)).2.2.2 := by
        rw [less_sub, less_sub, less_sub]
        exact erase_two h1
      have m2 := poss_moreV (log := t_without_row s ((j + 1 : Nat) : Int)) (log' := t_without_row (t_without_row s (u : Int)) (j : Int)) rfl rfl s2 m
      rw [d2, same] at m2
      exact m2
theorem slim_ok {log : LogT} (ok : LogOk log) : SlimI log (t_slim log) 0 := by
  show SlimI log (t_slim_of log) 0
  unfold t_slim_of
  simp only [lt]
  have z := foldl_inv (fun i (s : LogT) => SlimI log s (log.2.2.2.length - i)) (xs := rangeD ((log.2.2.2.length : Int) - 1) (-1)) (s0 := log)
    (f := fun (s_1 : LogT) u_2 => if (t_is_idle_of s_1 u_2) = true then t_without_row s_1 u_2 else s_1) 0
    ⟨ok, rfl, rfl, rfl, by omega, Nat.le_refl _, fun j h1 h2 => by omega⟩ fun i u s hu hi => by
      have ug := rngD_get hu
      have il := (List.getElem?_eq_some_iff.mp hu).1
      rw [rangeD_len] at il
      obtain ⟨k, hk⟩ : ∃ k : Nat, u = k := ⟨u.toNat, by omega⟩
      subst hk
      have e1 : log.2.2.2.length - (0 + i) = k + 1 := by omega
      have e2 : log.2.2.2.length - (0 + i + 1) = k := by omega
      rw [e1] at hi
      rw [e2]
      exact slim_step hi
  rw [rangeD_len] at z
  rw [show log.2.2.2.length - (0 + ((log.2.2.2.length : Int) - 1 - -1).toNat) = 0 by omega] at z
  exact z
end EV
namespace EV
open PySem L2
def law_right_l0 (c_truth_paper c__law_possible c__law_less c_truth c__law_paper_right c_is_truth_paper c_is_idle c__law_log c__law_truth c_truths c_slim : Nat) : DS := sSeq (sPar2 4 5 (dmV (dCall c_truth_paper 2 0 [.p 0, .p 1] [] (daCons (dVar 1) (daCons (dVar 3) (daNil))) (daNil))) (dmV (dOp2 dEq (dCall c__law_possible 1 0 [.p 0] [] (daCons (dCall c__law_less 2 0 [.p 0, .p 1] [] (daCons (dVar 1) (daCons (dVar 3) (daNil))) (daNil)) (daNil)) (daNil)) (dCall c__law_possible 1 0 [.p 0] [] (daCons (dVar 1) (daNil)) (daNil))))) (sSeq (sIf (dtOr (dtB (dOp2 dNe (dOpN cRepr (daCons (dLst (daCons (dCall c_truth 2 0 [.p 0, .p 1] [] (daCons (dVar 1) (daCons (dVar 3) (daNil))) (daNil)) (daCons (dCall c_truth 0 2 [.k 1, .k 0] [] (daNil) (daCons (dVar 3) (daCons (dVar 1) (daNil)))) (daCons (dOp2 dIx (dVar 4) (dC (.int 0))) (daNil))))) (daNil))) (dOpN cRepr (daCons (dOp2 dMul (dLst (daCons (dOp2 dIx (dVar 2) (dVar 3)) (daNil))) (dC (.int 3))) (daNil))))) (dtNot (dTruE (dCall c__law_paper_right 3 0 [.p 0, .p 1, .p 2] [] (daCons (dVar 1) (daCons (dVar 3) (daCons (dVar 4) (daNil)))) (daNil))))) (sRet (dC (.bl false))) (sNext)) (sSeq (sIf (dtOr (dtNot (dTruE (dCall c_is_truth_paper 3 0 [.p 0, .p 1, .p 2] [] (daCons (dVar 1) (daCons (dVar 3) (daCons (dVar 4) (daNil)))) (daNil)))) (dtNot (dTruE (dCall c_is_truth_paper 0 3 [.k 2, .k 1, .k 0] [] (daNil) (daCons (dCall c_truth_paper 0 2 [.k 1, .k 0] [] (daNil) (daCons (dVar 3) (daCons (dVar 1) (daNil)))) (daCons (dVar 3) (daCons (dVar 1) (daNil)))))))) (sRet (dC (.bl false))) (sNext)) (sIf (dtB (dOp2 dNe (dOpN cRepr (daCons (dLst (daCons (dCall c_is_idle 2 0 [.p 0, .p 1] [] (daCons (dVar 1) (daCons (dVar 3) (daNil))) (daNil)) (daCons (dCall c_is_idle 0 2 [.k 1, .k 0] [] (daNil) (daCons (dVar 3) (daCons (dVar 1) (daNil)))) (daNil)))) (daNil))) (dOpN cRepr (daCons (dLst (daCons (dVar 5) (daCons (dVar 5) (daNil)))) (daNil))))) (sRet (dC (.bl false))) (sNext))))
def law_right_l1 (c_truth_paper c__law_possible c__law_less c_truth c__law_paper_right c_is_truth_paper c_is_idle c__law_log c__law_truth c_truths c_slim : Nat) : DS := sSet 6 (dIf (dtB (dOp2 dEq (dCall c__law_possible 1 0 [.p 0] [] (daCons (dCall c__law_less 2 0 [.p 0, .p 1] [] (daCons (dVar 6) (daCons (dVar 3) (daNil))) (daNil)) (daNil)) (daNil)) (dCall c__law_possible 1 0 [.p 0] [] (daCons (dVar 6) (daNil)) (daNil)))) (dCall c__law_less 2 0 [.p 0, .p 1] [] (daCons (dVar 6) (daCons (dVar 3) (daNil))) (daNil)) (dVar 6))
def law_right_m (c_truth_paper c__law_possible c__law_less c_truth c__law_paper_right c_is_truth_paper c_is_idle c__law_log c__law_truth c_truths c_slim : Nat) : DS := sSeq (sSet 1 (dCall c__law_log 3 0 [.p 0, .p 1, .p 2] [] (daCons (dVar 0) (daCons (dC (.int 10)) (daCons (dC (.int 8)) (daNil)))) (daNil))) (sSeq (sFrzA [2] (sOwn 2 (dComp [3] (.name 3) (dRng1 (daCons (dOpN cLen (daCons (dOp2 dIx (dVar 1) (dC (.int 3))) (daNil))) (daNil))) (dtYes) (dCall c__law_truth 2 0 [.p 0, .p 1] [] (daCons (dVar 1) (daCons (dVar 3) (daNil))) (daNil))))) (sSeq (sIf (dtB (dOp2 dNe (dOpN cRepr (daCons (dLst (daCons (dCall c_truths 1 0 [.p 0] [] (daCons (dVar 1) (daNil)) (daNil)) (daCons (dCall c_truths 0 1 [.k 0] [] (daNil) (daCons (dVar 1) (daNil))) (daNil)))) (daNil))) (dOpN cRepr (daCons (dLst (daCons (dVar 2) (daCons (dVar 2) (daNil)))) (daNil))))) (sRet (dC (.bl false))) (sNext)) (sSeq (sFor (.name 3) (dRng1 (daCons (dOpN cLen (daCons (dOp2 dIx (dVar 1) (dC (.int 3))) (daNil))) (daNil))) (law_right_l0 c_truth_paper c__law_possible c__law_less c_truth c__law_paper_right c_is_truth_paper c_is_idle c__law_log c__law_truth c_truths c_slim)) (sSeq (sSet 6 (dVar 1)) (sSeq (sFor (.name 3) (dRng3 (daCons (dOp2 dSub (dOpN cLen (daCons (dOp2 dIx (dVar 1) (dC (.int 3))) (daNil))) (dC (.int 1))) (daCons (dOp1 dNeg (dC (.int 1))) (daCons (dOp1 dNeg (dC (.int 1))) (daNil))))) (law_right_l1 c_truth_paper c__law_possible c__law_less c_truth c__law_paper_right c_is_truth_paper c_is_idle c__law_log c__law_truth c_truths c_slim)) (sSeq (sIf (dtOr (dtB (dOp2 dNe (dOpN cRepr (daCons (dLst (daCons (dCall c_slim 1 0 [.p 0] [] (daCons (dVar 1) (daNil)) (daNil)) (daCons (dCall c_slim 0 1 [.k 0] [] (daNil) (daCons (dVar 1) (daNil))) (daNil)))) (daNil))) (dOpN cRepr (daCons (dLst (daCons (dVar 6) (daCons (dVar 6) (daNil)))) (daNil))))) (dtB (dOp2 dNe (dCall c__law_possible 1 0 [.p 0] [] (daCons (dVar 6) (daNil)) (daNil)) (dCall c__law_possible 1 0 [.p 0] [] (daCons (dVar 1) (daNil)) (daNil))))) (sRet (dC (.bl false))) (sNext)) (sRet (dOp2 dEq (asVal (dComp [3] (.name 3) (dRng1 (daCons (dOpN cLen (daCons (dOp2 dIx (dVar 6) (dC (.int 3))) (daNil))) (daNil))) (dtB (dOp2 dIsNot (dCall c_is_idle 2 0 [.p 0, .p 1] [] (daCons (dVar 6) (daCons (dVar 3) (daNil))) (daNil)) (dC (.bl false)))) (dVar 3))) (dLst (daNil))))))))))
theorem rqYN {n : Nat} {a : SS} (h : t_is_answer a = true) : Rq n 32 (eS a) := by
  rcases ans_cases h with rfl | rfl
  · exact (rq_str (s := ("yes" : Str)) (by decide +kernel)).mono (by decide)
  · exact (rq_str (s := ("no" : Str)) (by decide +kernel)).mono (by decide)
theorem rq4 {n : Nat} {x : SS} (h : x = lit "none" ∨ x = lit "open" ∨ x = lit "wrong" ∨ x = lit "right") : Rq n 52 (eS x) := by
  rcases h with rfl | rfl | rfl | rfl
  · exact (rq_str (s := ("none" : Str)) (by decide +kernel)).mono (by decide)
  · exact (rq_str (s := ("open" : Str)) (by decide +kernel)).mono (by decide)
  · exact (rq_str (s := ("wrong" : Str)) (by decide +kernel)).mono (by decide)
  · exact (rq_str (s := ("right" : Str)) (by decide +kernel)).mono (by decide)
theorem rqStr {xss : List (List SS)} (h : ∀ xs ∈ xss, xs.length ≤ 24 ∧ ∀ x ∈ xs, x = lit "none" ∨ x = lit "open" ∨ x = lit "wrong" ∨ x = lit "right") (hk : xss.length ≤ 3) : RqX (eL (eL eS) xss) := by
  refine rqx (rqL (n := 1) (B := 1299) (m := 3) (fun x hx => ?_) hk) (by decide) (by decide)
  exact rqL (n := 0) (B := 52) (m := 24) (fun y hy => rq4 ((h x hx).2 y hy)) (h x hx).1
theorem rqLog {log : LogT} (ok : LogOk log) : Rq 4 169367 (eP4 eS D.int D.int (eT (eP2 (eT D.int) eS)) log) := by
  have o1 := ok.m1
  have o2 := ok.m2
  have o3 := ok.l1
  have o4 := ok.l2
  have rows : Rq 3 42339 (eT (eP2 (eT D.int) eS) log.2.2.2) := rqT (n := 2) (B := 1762) (m := 24) (fun r hr => by
    obtain ⟨t1, t2, t3⟩ := ok.row r hr
    refine (rqP2 (n := 1) (A := 1723) (B := 32) ?_ (rqYN t2))
    refine rqT (n := 0) (B := 41) (m := 40) (fun y hy => ?_) t3
    have := th_to t1
    have b := this.1 y hy
    exact rqI (by omega)) ok.rw
  have nm : Rq 3 42339 (eS log.1) := by
    rw [ok.nm]
    exact (rq_str (s := ("log" : Str)) (by decide +kernel)).mono (by decide)
  refine rq_tup (n := 3) (B := 42339) (fun d hd => ?_) (by simp)
  simp only [List.mem_cons, List.not_mem_nil, or_false] at hd
  rcases hd with rfl | rfl | rfl | rfl
  · exact nm
  · exact rqUp (by decide) ((rqI (n := 0) (by omega)).mono (by decide))
  · exact rqUp (by decide) ((rqI (n := 0) (by omega)).mono (by decide))
  · exact rows
theorem rqLogs {ls : List LogT} (h : ∀ l ∈ ls, LogOk l) (hk : ls.length ≤ 3) : RqX (eL (eP4 eS D.int D.int (eT (eP2 (eT D.int) eS))) ls) :=
  rqx (rqL (n := 4) (B := 169367) (m := 3) (fun l hl => rqLog (h l hl)) hk) (by decide) (by decide)
theorem truths_in {log : LogT} : ∀ x ∈ t_truths log, x = lit "none" ∨ x = lit "open" ∨ x = lit "wrong" ∨ x = lit "right" := fun x m => by
  obtain ⟨u, _, rfl⟩ := List.mem_map.mp m
  exact truth_in
theorem truths_len {log : LogT} : (t_truths log).length = log.2.2.2.length := by
  show ((rangeI (log.2.2.2.length : Int)).map _).length = _
  rw [List.length_map, rangeI_len]; omega
theorem truths_get {log : LogT} {u : Int} (u0 : 0 ≤ u) (u1 : u < (log.2.2.2.length : Int)) : getI (t_truths log) u = t_truth log u := by
  obtain ⟨k, rfl⟩ : ∃ k : Nat, u = k := ⟨u.toNat, by omega⟩
  show getI ((rangeI (log.2.2.2.length : Int)).map fun u => t_truth_of log u) (k : Int) = _
  rw [getI_nn, List.getD_eq_getElem?_getD, List.getElem?_map]
  unfold rangeI nats
  rw [List.getElem?_map, List.getElem?_range (by omega)]
  rfl
theorem mem_reps' {α : Type} {k : Nat} {x y : α} (h : x ∈ reps k [y]) : x = y := by
  unfold reps at h
  simp at h
  exact h.2
theorem lless_ok {log : LogT} (ok : LogOk log) {u : Int} (u0 : 0 ≤ u) (u1 : u < (log.2.2.2.length : Int)) : LogOk (t_law_less log u) ∧ ((t_law_less log u).2.2.2.length : Int) = log.2.2.2.length - 1 := less_ok ok u0 u1
theorem loopI_step {q s : LogT} {i : Nat} {u : Int} (h : LogOk s ∧ (q.2.2.2.length : Int) - i ≤ (s.2.2.2.length : Int)) (ug : u = (q.2.2.2.length : Int) - 1 - i) (b : -1 < u) : LogOk (if (decide ((t_law_possible (t_law_less s u)) = (t_law_possible s))) = true then (t_law_less s u) else s) ∧ (q.2.2.2.length : Int) - ((i + 1 : Nat) : Int) ≤ ((if (decide ((t_law_possible (t_law_less s u)) = (t_law_possible s))) = true then (t_law_less s u) else s).2.2.2.length : Int) := by
  split
  · have z := lless_ok h.1 (u := u) (by omega) (by omega)
    exact ⟨z.1, by omega⟩
  · exact ⟨h.1, by omega⟩
def t_law_right (p_0 : Pot2) : (Bool × Pot2) := lt (t_law_log p_0 10 8) fun q_1 => lt ((rangeI (q_1.1.2.2.2.length : Int)).map (fun u_2 => (t_law_truth q_1.1 u_2))) fun due_3 => if (!decide ((rp ((eL (eL eS)) ([(t_truths q_1.1), (t_truths q_1.1)] : List (List SS)))) = (rp ((eL (eL eS)) ([due_3, due_3] : List (List SS)))))) = true then ((false, q_1.2)) else ((loopR (fun (s_4 : Unit) u_5 => (lt (t_truth_paper q_1.1 u_5) fun paper_6 => lt (decide ((t_law_possible (t_law_less q_1.1 u_5)) = (t_law_possible q_1.1))) fun idle_7 => if ((!decide ((rp ((eL eV) ([(toV eS (t_truth q_1.1 u_5)), (toV eS (t_truth q_1.1 u_5)), (getI (vEs paper_6) 0)] : List Vl))) = (rp ((eL eS) (reps (3 : Int).toNat ([(getI due_3 u_5)] : List SS)))))) || (!(t_law_paper_right q_1.1 u_5 paper_6))) = true then (.ret ((false, q_1.2))) else (if ((!(t_is_truth_paper q_1.1 u_5 paper_6)) || (!(t_is_truth_paper q_1.1 u_5 (t_truth_paper q_1.1 u_5)))) = true then (.ret ((false, q_1.2))) else (if (!decide ((rp ((eL D.bl) ([(t_is_idle q_1.1 u_5), (t_is_idle q_1.1 u_5)] : List Bool))) = (rp ((eL D.bl) ([idle_7, idle_7] : List Bool))))) = true then (.ret (false, q_1.2)) else (.go ()))) : Ct (Bool × Pot2) Unit)) () (rangeI (q_1.1.2.2.2.length : Int))).out fun s_8 => lt ((rangeD ((q_1.1.2.2.2.length : Int) - 1) (-1)).foldl (fun (s_9 : (SS × Int × Int × (List ((List Int) × SS)))) u_10 => lt (if (decide ((t_law_possible (t_law_less s_9 u_10)) = (t_law_possible s_9))) = true then (t_law_less s_9 u_10) else s_9) fun late_11 => late_11) q_1.1) fun s_12 => if ((!decide ((rp ((eL (eP4 eS D.int D.int (eT (eP2 (eT D.int) eS)))) ([(t_slim q_1.1), (t_slim q_1.1)] : List (SS × Int × Int × (List ((List Int) × SS)))))) = (rp ((eL (eP4 eS D.int D.int (eT (eP2 (eT D.int) eS)))) ([s_12, s_12] : List (SS × Int × Int × (List ((List Int) × SS)))))))) || (!decide ((t_law_possible s_12) = (t_law_possible q_1.1)))) = true then ((false, q_1.2)) else (((decide ((((rangeI (s_12.2.2.2.length : Int)).filter (fun u_13 => (!decide ((t_is_idle s_12 u_13) = false)))).map (fun u_13 => u_13)) = ([] : List Int))), q_1.2)))
def ST_law_right (f : Fn) : Prop := ∀ (n : Nat) (h0 : Cells) (p_0 : Pot2), PotOk n h0 → f [.obj n] (hp n h0 p_0) = .ok (D.bl (t_law_right p_0).1) (hp n h0 (t_law_right p_0).2)
theorem et_law_right {fn : Fns} {i_truth_paper i__law_possible i__law_less i_truth i__law_paper_right i_is_truth_paper i_is_idle i__law_log i__law_truth i_truths i_slim : Nat} (c_law_log : ST_law_log (fn i__law_log)) (c_law_truth : ST_law_truth (fn i__law_truth)) (c_truths : ST_truths (fn i_truths)) (c_truth_paper : ST_truth_paper (fn i_truth_paper)) (c_law_less : ST_law_less (fn i__law_less)) (c_law_possible : ST_law_possible (fn i__law_possible)) (c_truth : ST_truth (fn i_truth)) (c_law_paper_right : ST_law_paper_right (fn i__law_paper_right)) (c_is_truth_paper : ST_is_truth_paper (fn i_is_truth_paper)) (c_is_idle : ST_is_idle (fn i_is_idle)) (c_slim : ST_slim (fn i_slim)) : ST_law_right (bodyF 7 (law_right_m i_truth_paper i__law_possible i__law_less i_truth i__law_paper_right i_is_truth_paper i_is_idle i__law_log i__law_truth i_truths i_slim) fn) := by
  intro n h0 p_0 hn
  refine b_ret (m := law_right_m i_truth_paper i__law_possible i__law_less i_truth i__law_paper_right i_is_truth_paper i_is_idle i__law_log i__law_truth i_truths i_slim) (V := (fun (r : (Bool × Pot2)) => (D.bl r.1, hp n h0 r.2))) (r := t_law_right p_0) ?_
  unfold t_law_right law_right_m
  show J _ fn [.val (.obj n), .no, .no, .no, .no, .no, .no] _ _ _
  refine j_lt fun q_1 e_q_1 => ?_
  have lk := log_ok (p := p_0) (most := 10) (rows := 8) (by decide) (by decide) (by decide) (by decide)
  rw [← e_q_1] at lk
  have ok := lk.1
  have o1 := ok.m1
  have o2 := ok.m2
  have o3 := ok.l1
  have o4 := ok.l2
  have o5 := lk.2
  refine j_seq (z_set (d := (eP4 eS D.int D.int (eT (eP2 (eT D.int) eS))) q_1.1) (x_call (xa_cons (x_var rfl) (xa_cons x_c (xa_cons x_c xa_nil))) xa_nil (nb_cons rfl (nb_cons rfl (nb_cons rfl nb_nil))) nb_nil rfl rfl rfl (show _ = R.ok ((eP4 eS D.int D.int (eT (eP2 (eT D.int) eS))) q_1.1) (hp n h0 q_1.2) from by rw [e_q_1]; exact c_law_log n h0 p_0 10 8 hn (by /-_law_right 1: _law_log: pre 0-/first | assumption | omega | (dsimp only [lt] at *; omega) | (set_option maxHeartbeats 40000 in (simp; done)) | (set_option maxHeartbeats 40000 in (simp; omega)) | (set_option maxHeartbeats 40000 in (simp at *; omega)) | (set_option maxHeartbeats 40000 in (simp_all; done)) | (set_option maxHeartbeats 40000 in (simp_all; omega))) (by /-_law_right 2: _law_log: pre 1-/first | assumption | omega | (dsimp only [lt] at *; omega) | (set_option maxHeartbeats 40000 in (simp; done)) | (set_option maxHeartbeats 40000 in (simp; omega)) | (set_option maxHeartbeats 40000 in (simp at *; omega)) | (set_option maxHeartbeats 40000 in (simp_all; done)) | (set_option maxHeartbeats 40000 in (simp_all; omega))) (by /-_law_right 3: _law_log: pre 2-/first | assumption | omega | (dsimp only [lt] at *; omega) | (set_option maxHeartbeats 40000 in (simp; done)) | (set_option maxHeartbeats 40000 in (simp; omega)) | (set_option maxHeartbeats 40000 in (simp at *; omega)) | (set_option maxHeartbeats 40000 in (simp_all; done)) | (set_option maxHeartbeats 40000 in (simp_all; omega))) (by /-_law_right 4: _law_log: pre 3-/first | assumption | omega | (dsimp only [lt] at *; omega) | (set_option maxHeartbeats 40000 in (simp; done)) | (set_option maxHeartbeats 40000 in (simp; omega)) | (set_option maxHeartbeats 40000 in (simp at *; omega)) | (set_option maxHeartbeats 40000 in (simp_all; done)) | (set_option maxHeartbeats 40000 in (simp_all; omega))))) rfl rfl rfl) ?_
  refine j_lt fun due_3 e_due_3 => ?_
  have ed : due_3 = t_truths q_1.1 := by rw [e_due_3]; exact List.map_congr_left fun u _ => ltruth_eq
  have dl : due_3.length = q_1.1.2.2.2.length := by rw [ed]; exact truths_len
  refine j_seq (z_frzA (z_own (ds := due_3.map eS) (by rw [e_due_3]; exact (f_compM (en := D.int) (ev := eS) (fun u_2 => (t_law_truth q_1.1 u_2)) (i_rng1 (xa_cons (x_opN (xa_cons (x_op2 (x_var rfl) x_c o_ixP4_3) xa_nil) (o_lenT (e := (eP2 (eT D.int) eS)))) xa_nil) (by /-_law_right 5: range low-/first | assumption | omega | (dsimp only [lt] at *; omega) | (set_option maxHeartbeats 40000 in (simp; done)) | (set_option maxHeartbeats 40000 in (simp; omega)) | (set_option maxHeartbeats 40000 in (simp at *; omega)) | (set_option maxHeartbeats 40000 in (simp_all; done)) | (set_option maxHeartbeats 40000 in (simp_all; omega))) (by /-_law_right 6: range (q_1.1.2.2.2.length : Int) ≤ 10^9-/first | assumption | omega | (dsimp only [lt] at *; omega) | (set_option maxHeartbeats 40000 in (simp; done)) | (set_option maxHeartbeats 40000 in (simp; omega)) | (set_option maxHeartbeats 40000 in (simp at *; omega)) | (set_option maxHeartbeats 40000 in (simp_all; done)) | (set_option maxHeartbeats 40000 in (simp_all; omega)))) (by /-_law_right 7: (rangeI (q_1.1.2.2.2.length : Int)).length ≤ 16777216-/first | assumption | omega | (dsimp only [lt] at *; omega) | (set_option maxHeartbeats 40000 in (simp; done)) | (set_option maxHeartbeats 40000 in (simp; omega)) | (set_option maxHeartbeats 40000 in (simp at *; omega)) | (set_option maxHeartbeats 40000 in (simp_all; done)) | (set_option maxHeartbeats 40000 in (simp_all; omega))) rfl (fun _ => rfl) fun u_2 hu => have hu_u_2 := hu; have hr := mem_rng hu; ⟨_, (p_name rfl rfl rfl), (x_call (xa_cons (x_var rfl) (xa_cons (x_var rfl) xa_nil)) xa_nil (nb_cons rfl (nb_cons rfl nb_nil)) nb_nil rfl rfl rfl (c_law_truth q_1.1 u_2 (by /-_law_right 8: _law_truth: pre 0-/first | assumption | omega | (dsimp only [lt] at *; omega) | (set_option maxHeartbeats 40000 in (simp; done)) | (set_option maxHeartbeats 40000 in (simp; omega)) | (set_option maxHeartbeats 40000 in (simp at *; omega)) | (set_option maxHeartbeats 40000 in (simp_all; done)) | (set_option maxHeartbeats 40000 in (simp_all; omega))) (by /-_law_right 9: _law_truth: pre 1-/first | assumption | omega | (dsimp only [lt] at *; omega) | (set_option maxHeartbeats 40000 in (simp; done)) | (set_option maxHeartbeats 40000 in (simp; omega)) | (set_option maxHeartbeats 40000 in (simp at *; omega)) | (set_option maxHeartbeats 40000 in (simp_all; done)) | (set_option maxHeartbeats 40000 in (simp_all; omega))) (by /-_law_right 10: _law_truth: pre 2-/first | assumption | omega | (dsimp only [lt] at *; omega) | (set_option maxHeartbeats 40000 in (simp; done)) | (set_option maxHeartbeats 40000 in (simp; omega)) | (set_option maxHeartbeats 40000 in (simp at *; omega)) | (set_option maxHeartbeats 40000 in (simp_all; done)) | (set_option maxHeartbeats 40000 in (simp_all; omega))) (by /-_law_right 11: _law_truth: pre 3-/first | assumption | omega | (dsimp only [lt] at *; omega) | (set_option maxHeartbeats 40000 in (simp; done)) | (set_option maxHeartbeats 40000 in (simp; omega)) | (set_option maxHeartbeats 40000 in (simp at *; omega)) | (set_option maxHeartbeats 40000 in (simp_all; done)) | (set_option maxHeartbeats 40000 in (simp_all; omega))) (by /-_law_right 12: _law_truth: pre 4-/first | assumption | omega | (dsimp only [lt] at *; omega) | (set_option maxHeartbeats 40000 in (simp; done)) | (set_option maxHeartbeats 40000 in (simp; omega)) | (set_option maxHeartbeats 40000 in (simp at *; omega)) | (set_option maxHeartbeats 40000 in (simp_all; done)) | (set_option maxHeartbeats 40000 in (simp_all; omega))) _))⟩)) rfl rfl) rfl) ?_
  refine j_ifq (t_B (x_op2 (x_opN (xa_cons (xv ((eL (eL eS)) ([(t_truths q_1.1), (t_truths q_1.1)] : List (List SS))) (x_lst (xa_cons (x_call (xa_cons (x_var rfl) xa_nil) xa_nil (nb_cons rfl nb_nil) nb_nil rfl rfl rfl (c_truths q_1.1 (by /-_law_right 13: truths: pre 0-/exact ok) _)) (xa_cons (x_call xa_nil (xa_cons (x_var rfl) xa_nil) nb_nil (nb_cons rfl nb_nil) rfl rfl rfl (c_truths q_1.1 (by /-_law_right 14: truths: pre 0-/exact ok) _)) xa_nil)) (nb_cons rfl (nb_cons rfl nb_nil)) rfl)) xa_nil) (o_repr (by /-_law_right 15: RqX ((eL (eL eS)) ([(t_truths q_1.1), (t_truths q_1.1)] : Li-/exact rqStr (fun xs hx => by simp only [List.mem_cons, List.not_mem_nil, or_false, or_self] at hx; rw [hx]; exact ⟨by rw [truths_len]; omega, truths_in⟩) (by simp)) (PlE.pl (e := (eL (eL eS))) _))) (x_opN (xa_cons (xv ((eL (eL eS)) ([due_3, due_3] : List (List SS))) (x_lst (xa_cons (x_var rfl) (xa_cons (x_var rfl) xa_nil)) (nb_cons rfl (nb_cons rfl nb_nil)) rfl)) xa_nil) (o_repr (by /-_law_right 16: RqX ((eL (eL eS)) ([due_3, due_3] : List (List SS)))-/rw [ed]; exact rqStr (fun xs hx => by simp only [List.mem_cons, List.not_mem_nil, or_false, or_self] at hx; rw [hx]; exact ⟨by rw [truths_len]; omega, truths_in⟩) (by simp)) (PlE.pl (e := (eL (eL eS))) _))) rfl)) (fun hc1 => ?_) (fun hc1 => ?_)
  · skip
    refine j_re ?_
    exact j_ret (d := D.bl false) x_c rfl ⟨rfl, rfl⟩
  · skip
    refine j_forR (E := (fun (s : Unit) env h' => (hp n h0 q_1.2) = h' ∧ ∃ (j3 : Sl) (j4 : Sl) (j5 : Sl), [.val (.obj n), .val ((eP4 eS D.int D.int (eT (eP2 (eT D.int) eS))) q_1.1), .val ((eL eS) due_3), j3, j4, j5, .no] = env)) (V := (fun (r : (Bool × Pot2)) => (D.bl r.1, hp n h0 r.2))) (Inv := (fun (_ : Nat) (_ : Unit) => True)) (i_rng1 (xa_cons (x_opN (xa_cons (x_op2 (x_var rfl) x_c o_ixP4_3) xa_nil) (o_lenT (e := (eP2 (eT D.int) eS)))) xa_nil) (by /-_law_right 17: range low-/first | assumption | omega | (dsimp only [lt] at *; omega) | (set_option maxHeartbeats 40000 in (simp; done)) | (set_option maxHeartbeats 40000 in (simp; omega)) | (set_option maxHeartbeats 40000 in (simp at *; omega)) | (set_option maxHeartbeats 40000 in (simp_all; done)) | (set_option maxHeartbeats 40000 in (simp_all; omega))) (by /-_law_right 18: range (q_1.1.2.2.2.length : Int) ≤ 10^9-/first | assumption | omega | (dsimp only [lt] at *; omega) | (set_option maxHeartbeats 40000 in (simp; done)) | (set_option maxHeartbeats 40000 in (simp; omega)) | (set_option maxHeartbeats 40000 in (simp at *; omega)) | (set_option maxHeartbeats 40000 in (simp_all; done)) | (set_option maxHeartbeats 40000 in (simp_all; omega)))) (loop_ctl (en := D.int) (xs := (rangeI (q_1.1.2.2.2.length : Int))) (s0 := ()) (fun (s : Unit) env h' => (hp n h0 q_1.2) = h' ∧ ∃ (j3 : Sl) (j4 : Sl) (j5 : Sl), [.val (.obj n), .val ((eP4 eS D.int D.int (eT (eP2 (eT D.int) eS))) q_1.1), .val ((eL eS) due_3), j3, j4, j5, .no] = env) (fun (r : (Bool × Pot2)) => (D.bl r.1, hp n h0 r.2)) (fun (_ : Nat) (_ : Unit) => True) _ 0 trivial ⟨rfl, _, _, _, rfl⟩ ?_) ?_
    · rintro i0 u_5 s_4 _ _ hx0 hi0 ⟨rfl, j3, j4, j5, rfl⟩
      have hlt0 := lt_of_get hx0
      have hm0 := List.mem_of_getElem? hx0
      have hr0 := mem_rng hm0
      have hri0 := rng_get hx0
      have lw := lless_ok ok (u := u_5) (by omega) (by omega)
      have w1 := lw.1.m1
      have w2 := lw.1.m2
      refine ⟨fun s' hs => trivial, [.val (.obj n), .val ((eP4 eS D.int D.int (eT (eP2 (eT D.int) eS))) q_1.1), .val ((eL eS) due_3), .val (D.int u_5), j4, j5, .no], (p_name rfl rfl rfl), ?_⟩
      unfold law_right_l0
      refine j_lt fun paper_6 e_paper_6 => ?_
      refine j_lt fun idle_7 e_idle_7 => ?_
      refine j_seq (z_par2 (m_V (d := eV paper_6) (by rw [e_paper_6]; exact (x_call (xa_cons (x_var rfl) (xa_cons (x_var rfl) xa_nil)) xa_nil (nb_cons rfl (nb_cons rfl nb_nil)) nb_nil rfl rfl rfl (c_truth_paper q_1.1 u_5 (by /-_law_right 19: truth_paper: pre 0-/exact ok) (by /-_law_right 20: truth_paper: pre 1-/first | assumption | omega | (dsimp only [lt] at *; omega) | (set_option maxHeartbeats 40000 in (simp; done)) | (set_option maxHeartbeats 40000 in (simp; omega)) | (set_option maxHeartbeats 40000 in (simp at *; omega)) | (set_option maxHeartbeats 40000 in (simp_all; done)) | (set_option maxHeartbeats 40000 in (simp_all; omega))) (by /-_law_right 21: truth_paper: pre 2-/first | assumption | omega | (dsimp only [lt] at *; omega) | (set_option maxHeartbeats 40000 in (simp; done)) | (set_option maxHeartbeats 40000 in (simp; omega)) | (set_option maxHeartbeats 40000 in (simp at *; omega)) | (set_option maxHeartbeats 40000 in (simp_all; done)) | (set_option maxHeartbeats 40000 in (simp_all; omega))) _))) (NB.nb _)) (m_V (d := D.bl idle_7) (by rw [e_idle_7]; exact (x_op2 (x_call (xa_cons (x_call (xa_cons (x_var rfl) (xa_cons (x_var rfl) xa_nil)) xa_nil (nb_cons rfl (nb_cons rfl nb_nil)) nb_nil rfl rfl rfl (c_law_less q_1.1 u_5 (by /-_law_right 22: _law_less: pre 0-/first | assumption | omega | (dsimp only [lt] at *; omega) | (set_option maxHeartbeats 40000 in (simp; done)) | (set_option maxHeartbeats 40000 in (simp; omega)) | (set_option maxHeartbeats 40000 in (simp at *; omega)) | (set_option maxHeartbeats 40000 in (simp_all; done)) | (set_option maxHeartbeats 40000 in (simp_all; omega))) _)) xa_nil) xa_nil (nb_cons rfl nb_nil) nb_nil rfl rfl rfl (c_law_possible (t_law_less q_1.1 u_5) (by /-_law_right 23: _law_possible: pre 0-/first | assumption | omega | (dsimp only [lt] at *; omega) | (set_option maxHeartbeats 40000 in (simp; done)) | (set_option maxHeartbeats 40000 in (simp; omega)) | (set_option maxHeartbeats 40000 in (simp at *; omega)) | (set_option maxHeartbeats 40000 in (simp_all; done)) | (set_option maxHeartbeats 40000 in (simp_all; omega))) (by /-_law_right 24: _law_possible: pre 1-/first | assumption | omega | (dsimp only [lt] at *; omega) | (set_option maxHeartbeats 40000 in (simp; done)) | (set_option maxHeartbeats 40000 in (simp; omega)) | (set_option maxHeartbeats 40000 in (simp at *; omega)) | (set_option maxHeartbeats 40000 in (simp_all; done)) | (set_option maxHeartbeats 40000 in (simp_all; omega))) (by /-_law_right 25: _law_possible: pre 2-/first | assumption | omega | (dsimp only [lt] at *; omega) | (set_option maxHeartbeats 40000 in (simp; done)) | (set_option maxHeartbeats 40000 in (simp; omega)) | (set_option maxHeartbeats 40000 in (simp at *; omega)) | (set_option maxHeartbeats 40000 in (simp_all; done)) | (set_option maxHeartbeats 40000 in (simp_all; omega))) _)) (x_call (xa_cons (x_var rfl) xa_nil) xa_nil (nb_cons rfl nb_nil) nb_nil rfl rfl rfl (c_law_possible q_1.1 (by /-_law_right 26: _law_possible: pre 0-/first | assumption | omega | (dsimp only [lt] at *; omega) | (set_option maxHeartbeats 40000 in (simp; done)) | (set_option maxHeartbeats 40000 in (simp; omega)) | (set_option maxHeartbeats 40000 in (simp at *; omega)) | (set_option maxHeartbeats 40000 in (simp_all; done)) | (set_option maxHeartbeats 40000 in (simp_all; omega))) (by /-_law_right 27: _law_possible: pre 1-/first | assumption | omega | (dsimp only [lt] at *; omega) | (set_option maxHeartbeats 40000 in (simp; done)) | (set_option maxHeartbeats 40000 in (simp; omega)) | (set_option maxHeartbeats 40000 in (simp at *; omega)) | (set_option maxHeartbeats 40000 in (simp_all; done)) | (set_option maxHeartbeats 40000 in (simp_all; omega))) (by /-_law_right 28: _law_possible: pre 2-/first | assumption | omega | (dsimp only [lt] at *; omega) | (set_option maxHeartbeats 40000 in (simp; done)) | (set_option maxHeartbeats 40000 in (simp; omega)) | (set_option maxHeartbeats 40000 in (simp at *; omega)) | (set_option maxHeartbeats 40000 in (simp_all; done)) | (set_option maxHeartbeats 40000 in (simp_all; omega))) _)) (o_eqE (e := (eL D.int)) (a := (t_law_possible (t_law_less q_1.1 u_5))) (b := (t_law_possible q_1.1)) (by decide)))) rfl) rfl rfl rfl) ?_
      refine j_ifq (t_or (t_B (x_op2 (x_opN (xa_cons (xv ((eL eV) ([(toV eS (t_truth q_1.1 u_5)), (toV eS (t_truth q_1.1 u_5)), (getI (vEs paper_6) 0)] : List Vl)) (x_lst (xa_cons (xv (eV (toV eS (t_truth q_1.1 u_5))) (x_call (xa_cons (x_var rfl) (xa_cons (x_var rfl) xa_nil)) xa_nil (nb_cons rfl (nb_cons rfl nb_nil)) nb_nil rfl rfl rfl (c_truth q_1.1 u_5 (by /-_law_right 29: truth: pre 0-/exact ok) (by /-_law_right 30: truth: pre 1-/first | assumption | omega | (dsimp only [lt] at *; omega) | (set_option maxHeartbeats 40000 in (simp; done)) | (set_option maxHeartbeats 40000 in (simp; omega)) | (set_option maxHeartbeats 40000 in (simp at *; omega)) | (set_option maxHeartbeats 40000 in (simp_all; done)) | (set_option maxHeartbeats 40000 in (simp_all; omega))) (by /-_law_right 31: truth: pre 2-/first | assumption | omega | (dsimp only [lt] at *; omega) | (set_option maxHeartbeats 40000 in (simp; done)) | (set_option maxHeartbeats 40000 in (simp; omega)) | (set_option maxHeartbeats 40000 in (simp at *; omega)) | (set_option maxHeartbeats 40000 in (simp_all; done)) | (set_option maxHeartbeats 40000 in (simp_all; omega))) _))) (xa_cons (xv (eV (toV eS (t_truth q_1.1 u_5))) (x_call xa_nil (xa_cons (x_var rfl) (xa_cons (x_var rfl) xa_nil)) nb_nil (nb_cons rfl (nb_cons rfl nb_nil)) rfl rfl rfl (c_truth q_1.1 u_5 (by /-_law_right 32: truth: pre 0-/exact ok) (by /-_law_right 33: truth: pre 1-/first | assumption | omega | (dsimp only [lt] at *; omega) | (set_option maxHeartbeats 40000 in (simp; done)) | (set_option maxHeartbeats 40000 in (simp; omega)) | (set_option maxHeartbeats 40000 in (simp at *; omega)) | (set_option maxHeartbeats 40000 in (simp_all; done)) | (set_option maxHeartbeats 40000 in (simp_all; omega))) (by /-_law_right 34: truth: pre 2-/first | assumption | omega | (dsimp only [lt] at *; omega) | (set_option maxHeartbeats 40000 in (simp; done)) | (set_option maxHeartbeats 40000 in (simp; omega)) | (set_option maxHeartbeats 40000 in (simp at *; omega)) | (set_option maxHeartbeats 40000 in (simp_all; done)) | (set_option maxHeartbeats 40000 in (simp_all; omega))) _))) (xa_cons (x_op2 (x_var rfl) x_c (o_ixV (v := paper_6) (k := 0) (by /-_law_right 35: vSq paper_6 = true-/have pf : PapF paper_6 := (by rw [e_paper_6]; exact pap_f ok); have pl := pf.l2; exact pf.sq) (by /-_law_right 36: -(vEs paper_6).length ≤ 0-/first | assumption | omega | (set_option maxHeartbeats 400000 in (simp_all [row_v, list_v, count_v, below_v, integer_v, isV_int, isV_bl, vSq_T]; done)) | (set_option maxHeartbeats 400000 in (simp_all [row_v, list_v, count_v, below_v, integer_v, isV_int, isV_bl, vSq_T]; omega))) (by /-_law_right 37: 0 < (vEs paper_6).length-/have pf : PapF paper_6 := (by rw [e_paper_6]; exact pap_f ok); have pl := pf.l2; omega))) xa_nil))) (nb_cons (NB.nb _) (nb_cons (NB.nb _) (nb_cons (NB.nb _) nb_nil))) rfl)) xa_nil) (o_repr (by /-_law_right 38: RqX ((eL eV) ([(toV eS (t_truth q_1.1 u_5)), (toV eS (t_trut-/have p0 : getI (vEs paper_6) 0 = toV eS (t_truth q_1.1 u_5) := (by rw [e_paper_6]; exact (told_right ok).2.2); rw [p0]; exact rqx (rqL (n := 0) (B := 52) (m := 3) (fun x hx => by simp only [List.mem_cons, List.not_mem_nil, or_false, or_self] at hx; rw [hx]; exact rq4 truth_in) (by simp)) (by decide) (by decide)) (PlE.pl (e := (eL eV)) _))) (x_opN (xa_cons (x_op2 (xv ((eL eS) ([(getI due_3 u_5)] : List SS)) (x_lst (xa_cons (x_op2 (x_var rfl) (x_var rfl) (o_ixL (e := eS) (xs := due_3) (k := u_5) (by /-_law_right 39: -due_3.length ≤ u_5-/first | assumption | omega | (dsimp only [lt] at *; omega) | (set_option maxHeartbeats 40000 in (simp; done)) | (set_option maxHeartbeats 40000 in (simp; omega)) | (set_option maxHeartbeats 40000 in (simp at *; omega)) | (set_option maxHeartbeats 40000 in (simp_all; done)) | (set_option maxHeartbeats 40000 in (simp_all; omega))) (by /-_law_right 40: u_5 < due_3.length-/first | assumption | omega | (dsimp only [lt] at *; omega) | (set_option maxHeartbeats 40000 in (simp; done)) | (set_option maxHeartbeats 40000 in (simp; omega)) | (set_option maxHeartbeats 40000 in (simp at *; omega)) | (set_option maxHeartbeats 40000 in (simp_all; done)) | (set_option maxHeartbeats 40000 in (simp_all; omega))))) xa_nil) (nb_cons rfl nb_nil) rfl)) x_c (o_repL (e := eS) (xs := ([(getI due_3 u_5)] : List SS)) (by /-_law_right 41: low-/first | assumption | omega | (dsimp only [lt] at *; omega) | (set_option maxHeartbeats 40000 in (simp; done)) | (set_option maxHeartbeats 40000 in (simp; omega)) | (set_option maxHeartbeats 40000 in (simp at *; omega)) | (set_option maxHeartbeats 40000 in (simp_all; done)) | (set_option maxHeartbeats 40000 in (simp_all; omega))) (by /-_law_right 42: high-/first | assumption | omega | (dsimp only [lt] at *; omega) | (set_option maxHeartbeats 40000 in (simp; done)) | (set_option maxHeartbeats 40000 in (simp; omega)) | (set_option maxHeartbeats 40000 in (simp at *; omega)) | (set_option maxHeartbeats 40000 in (simp_all; done)) | (set_option maxHeartbeats 40000 in (simp_all; omega))) (by /-_law_right 43: size-/first | assumption | omega | (dsimp only [lt] at *; omega) | (set_option maxHeartbeats 40000 in (simp; done)) | (set_option maxHeartbeats 40000 in (simp; omega)) | (set_option maxHeartbeats 40000 in (simp at *; omega)) | (set_option maxHeartbeats 40000 in (simp_all; done)) | (set_option maxHeartbeats 40000 in (simp_all; omega))))) xa_nil) (o_repr (by /-_law_right 44: RqX ((eL eS) (reps (3 : Int).toNat ([(getI due_3 u_5)] : Lis-/rw [ed]; exact rqx (rqL (n := 0) (B := 52) (m := 3) (fun x hx => by rw [mem_reps' hx, truths_get (by omega) (by omega)]; exact rq4 truth_in) (by simp [reps])) (by decide) (by decide)) (PlE.pl (e := (eL eS)) _))) rfl)) fun hc => (t_not (t_tru (x_call (xa_cons (x_var rfl) (xa_cons (x_var rfl) (xa_cons (x_var rfl) xa_nil))) xa_nil (nb_cons rfl (nb_cons rfl (nb_cons (NB.nb _) nb_nil))) nb_nil rfl rfl rfl (c_law_paper_right q_1.1 u_5 paper_6 (by /-_law_right 45: _law_paper_right: pre 0-/first | assumption | omega | (dsimp only [lt] at *; omega) | (set_option maxHeartbeats 40000 in (simp; done)) | (set_option maxHeartbeats 40000 in (simp; omega)) | (set_option maxHeartbeats 40000 in (simp at *; omega)) | (set_option maxHeartbeats 40000 in (simp_all; done)) | (set_option maxHeartbeats 40000 in (simp_all; omega))) (by /-_law_right 46: _law_paper_right: pre 1-/first | assumption | omega | (dsimp only [lt] at *; omega) | (set_option maxHeartbeats 40000 in (simp; done)) | (set_option maxHeartbeats 40000 in (simp; omega)) | (set_option maxHeartbeats 40000 in (simp at *; omega)) | (set_option maxHeartbeats 40000 in (simp_all; done)) | (set_option maxHeartbeats 40000 in (simp_all; omega))) (by /-_law_right 47: _law_paper_right: pre 2-/first | assumption | omega | (dsimp only [lt] at *; omega) | (set_option maxHeartbeats 40000 in (simp; done)) | (set_option maxHeartbeats 40000 in (simp; omega)) | (set_option maxHeartbeats 40000 in (simp at *; omega)) | (set_option maxHeartbeats 40000 in (simp_all; done)) | (set_option maxHeartbeats 40000 in (simp_all; omega))) (by /-_law_right 48: _law_paper_right: pre 3-/first | assumption | omega | (dsimp only [lt] at *; omega) | (set_option maxHeartbeats 40000 in (simp; done)) | (set_option maxHeartbeats 40000 in (simp; omega)) | (set_option maxHeartbeats 40000 in (simp at *; omega)) | (set_option maxHeartbeats 40000 in (simp_all; done)) | (set_option maxHeartbeats 40000 in (simp_all; omega))) (by /-_law_right 49: _law_paper_right: pre 4-/first | assumption | omega | (dsimp only [lt] at *; omega) | (set_option maxHeartbeats 40000 in (simp; done)) | (set_option maxHeartbeats 40000 in (simp; omega)) | (set_option maxHeartbeats 40000 in (simp at *; omega)) | (set_option maxHeartbeats 40000 in (simp_all; done)) | (set_option maxHeartbeats 40000 in (simp_all; omega))) (by /-_law_right 50: _law_paper_right: pre 5-/have pf : PapF paper_6 := (by rw [e_paper_6]; exact pap_f ok); have pl := pf.l2; exact pf) _)) tr_bl))) (fun hc2 => ?_) (fun hc2 => ?_)
      · skip
        refine j_rc ?_
        exact j_ret (d := D.bl false) x_c rfl ⟨rfl, rfl⟩
      · skip
        refine j_ifq (t_or (t_not (t_tru (x_call (xa_cons (x_var rfl) (xa_cons (x_var rfl) (xa_cons (x_var rfl) xa_nil))) xa_nil (nb_cons rfl (nb_cons rfl (nb_cons (NB.nb _) nb_nil))) nb_nil rfl rfl rfl (c_is_truth_paper q_1.1 u_5 paper_6 (by /-_law_right 51: is_truth_paper: pre 0-/exact ok) (by /-_law_right 52: is_truth_paper: pre 1-/first | assumption | omega | (dsimp only [lt] at *; omega) | (set_option maxHeartbeats 40000 in (simp; done)) | (set_option maxHeartbeats 40000 in (simp; omega)) | (set_option maxHeartbeats 40000 in (simp at *; omega)) | (set_option maxHeartbeats 40000 in (simp_all; done)) | (set_option maxHeartbeats 40000 in (simp_all; omega))) (by /-_law_right 53: is_truth_paper: pre 2-/first | assumption | omega | (dsimp only [lt] at *; omega) | (set_option maxHeartbeats 40000 in (simp; done)) | (set_option maxHeartbeats 40000 in (simp; omega)) | (set_option maxHeartbeats 40000 in (simp at *; omega)) | (set_option maxHeartbeats 40000 in (simp_all; done)) | (set_option maxHeartbeats 40000 in (simp_all; omega))) (by /-_law_right 54: is_truth_paper: pre 3-/have pf : PapF paper_6 := (by rw [e_paper_6]; exact pap_f ok); have pl := pf.l2; exact fun _ => pf.so) _)) tr_bl)) fun hc => (t_not (t_tru (x_call xa_nil (xa_cons (x_call xa_nil (xa_cons (x_var rfl) (xa_cons (x_var rfl) xa_nil)) nb_nil (nb_cons rfl (nb_cons rfl nb_nil)) rfl rfl rfl (c_truth_paper q_1.1 u_5 (by /-_law_right 55: truth_paper: pre 0-/exact ok) (by /-_law_right 56: truth_paper: pre 1-/first | assumption | omega | (dsimp only [lt] at *; omega) | (set_option maxHeartbeats 40000 in (simp; done)) | (set_option maxHeartbeats 40000 in (simp; omega)) | (set_option maxHeartbeats 40000 in (simp at *; omega)) | (set_option maxHeartbeats 40000 in (simp_all; done)) | (set_option maxHeartbeats 40000 in (simp_all; omega))) (by /-_law_right 57: truth_paper: pre 2-/first | assumption | omega | (dsimp only [lt] at *; omega) | (set_option maxHeartbeats 40000 in (simp; done)) | (set_option maxHeartbeats 40000 in (simp; omega)) | (set_option maxHeartbeats 40000 in (simp at *; omega)) | (set_option maxHeartbeats 40000 in (simp_all; done)) | (set_option maxHeartbeats 40000 in (simp_all; omega))) _)) (xa_cons (x_var rfl) (xa_cons (x_var rfl) xa_nil))) nb_nil (nb_cons (NB.nb _) (nb_cons rfl (nb_cons rfl nb_nil))) rfl rfl rfl (c_is_truth_paper q_1.1 u_5 (t_truth_paper q_1.1 u_5) (by /-_law_right 58: is_truth_paper: pre 0-/exact ok) (by /-_law_right 59: is_truth_paper: pre 1-/first | assumption | omega | (dsimp only [lt] at *; omega) | (set_option maxHeartbeats 40000 in (simp; done)) | (set_option maxHeartbeats 40000 in (simp; omega)) | (set_option maxHeartbeats 40000 in (simp at *; omega)) | (set_option maxHeartbeats 40000 in (simp_all; done)) | (set_option maxHeartbeats 40000 in (simp_all; omega))) (by /-_law_right 60: is_truth_paper: pre 2-/first | assumption | omega | (dsimp only [lt] at *; omega) | (set_option maxHeartbeats 40000 in (simp; done)) | (set_option maxHeartbeats 40000 in (simp; omega)) | (set_option maxHeartbeats 40000 in (simp at *; omega)) | (set_option maxHeartbeats 40000 in (simp_all; done)) | (set_option maxHeartbeats 40000 in (simp_all; omega))) (by /-_law_right 61: is_truth_paper: pre 3-/exact fun _ => (pap_f ok).so) _)) tr_bl))) (fun hc3 => ?_) (fun hc3 => ?_)
        · skip
          refine j_rc ?_
          exact j_ret (d := D.bl false) x_c rfl ⟨rfl, rfl⟩
        · skip
          refine j_if (t_B (x_op2 (x_opN (xa_cons (xv ((eL D.bl) ([(t_is_idle q_1.1 u_5), (t_is_idle q_1.1 u_5)] : List Bool)) (x_lst (xa_cons (x_call (xa_cons (x_var rfl) (xa_cons (x_var rfl) xa_nil)) xa_nil (nb_cons rfl (nb_cons rfl nb_nil)) nb_nil rfl rfl rfl (c_is_idle q_1.1 u_5 (by /-_law_right 62: is_idle: pre 0-/exact ok) (by /-_law_right 63: is_idle: pre 1-/first | assumption | omega | (dsimp only [lt] at *; omega) | (set_option maxHeartbeats 40000 in (simp; done)) | (set_option maxHeartbeats 40000 in (simp; omega)) | (set_option maxHeartbeats 40000 in (simp at *; omega)) | (set_option maxHeartbeats 40000 in (simp_all; done)) | (set_option maxHeartbeats 40000 in (simp_all; omega))) (by /-_law_right 64: is_idle: pre 2-/first | assumption | omega | (dsimp only [lt] at *; omega) | (set_option maxHeartbeats 40000 in (simp; done)) | (set_option maxHeartbeats 40000 in (simp; omega)) | (set_option maxHeartbeats 40000 in (simp at *; omega)) | (set_option maxHeartbeats 40000 in (simp_all; done)) | (set_option maxHeartbeats 40000 in (simp_all; omega))) _)) (xa_cons (x_call xa_nil (xa_cons (x_var rfl) (xa_cons (x_var rfl) xa_nil)) nb_nil (nb_cons rfl (nb_cons rfl nb_nil)) rfl rfl rfl (c_is_idle q_1.1 u_5 (by /-_law_right 65: is_idle: pre 0-/exact ok) (by /-_law_right 66: is_idle: pre 1-/first | assumption | omega | (dsimp only [lt] at *; omega) | (set_option maxHeartbeats 40000 in (simp; done)) | (set_option maxHeartbeats 40000 in (simp; omega)) | (set_option maxHeartbeats 40000 in (simp at *; omega)) | (set_option maxHeartbeats 40000 in (simp_all; done)) | (set_option maxHeartbeats 40000 in (simp_all; omega))) (by /-_law_right 67: is_idle: pre 2-/first | assumption | omega | (dsimp only [lt] at *; omega) | (set_option maxHeartbeats 40000 in (simp; done)) | (set_option maxHeartbeats 40000 in (simp; omega)) | (set_option maxHeartbeats 40000 in (simp at *; omega)) | (set_option maxHeartbeats 40000 in (simp_all; done)) | (set_option maxHeartbeats 40000 in (simp_all; omega))) _)) xa_nil)) (nb_cons rfl (nb_cons rfl nb_nil)) rfl)) xa_nil) (o_repr (by /-_law_right 68: RqX ((eL D.bl) ([(t_is_idle q_1.1 u_5), (t_is_idle q_1.1 u_5-/first | exact rqx (n := 0) (B := 5) rq_bl (by decide) (by decide) | exact rqx (rqL (n := 0) (B := 5) (m := 2) (fun x _ => rq_bl) (by simp)) (by decide) (by decide) | exact rqx (n := 0) (B := 41) (rqI (by omega)) (by decide) (by decide) | exact rqx (rqL (n := 0) (B := 41) (m := 2) (fun x hx => rqI (by simp at hx; omega)) (by simp)) (by decide) (by decide) | first | assumption | omega | (dsimp only [lt] at *; omega) | (set_option maxHeartbeats 40000 in (simp; done)) | (set_option maxHeartbeats 40000 in (simp; omega)) | (set_option maxHeartbeats 40000 in (simp at *; omega)) | (set_option maxHeartbeats 40000 in (simp_all; done)) | (set_option maxHeartbeats 40000 in (simp_all; omega))) (PlE.pl (e := (eL D.bl)) _))) (x_opN (xa_cons (xv ((eL D.bl) ([idle_7, idle_7] : List Bool)) (x_lst (xa_cons (x_var rfl) (xa_cons (x_var rfl) xa_nil)) (nb_cons rfl (nb_cons rfl nb_nil)) rfl)) xa_nil) (o_repr (by /-_law_right 69: RqX ((eL D.bl) ([idle_7, idle_7] : List Bool))-/first | exact rqx (n := 0) (B := 5) rq_bl (by decide) (by decide) | exact rqx (rqL (n := 0) (B := 5) (m := 2) (fun x _ => rq_bl) (by simp)) (by decide) (by decide) | exact rqx (n := 0) (B := 41) (rqI (by omega)) (by decide) (by decide) | exact rqx (rqL (n := 0) (B := 41) (m := 2) (fun x hx => rqI (by simp at hx; omega)) (by simp)) (by decide) (by decide) | first | assumption | omega | (dsimp only [lt] at *; omega) | (set_option maxHeartbeats 40000 in (simp; done)) | (set_option maxHeartbeats 40000 in (simp; omega)) | (set_option maxHeartbeats 40000 in (simp at *; omega)) | (set_option maxHeartbeats 40000 in (simp_all; done)) | (set_option maxHeartbeats 40000 in (simp_all; omega))) (PlE.pl (e := (eL D.bl)) _))) rfl)) (fun hc4 => ?_) (fun hc4 => ?_)
          · skip
            exact j_ret (d := D.bl false) x_c rfl ⟨rfl, rfl⟩
          · skip
            refine j_next ?_
            exact ⟨.inl rfl, ⟨rfl, _, _, _, rfl⟩⟩
    · rintro s_8 _ _ i e_s_8 _ hi inv_s_8 ⟨rfl, j3, j4, j5, rfl⟩
      refine j_seq (z_set (d := (eP4 eS D.int D.int (eT (eP2 (eT D.int) eS))) q_1.1) (x_var rfl) rfl rfl rfl) ?_
      refine j_for (E := (fun (s : (SS × Int × Int × (List ((List Int) × SS)))) env h' => (hp n h0 q_1.2) = h' ∧ ∃ (j3 : Sl), [.val (.obj n), .val ((eP4 eS D.int D.int (eT (eP2 (eT D.int) eS))) q_1.1), .val ((eL eS) due_3), j3, j4, j5, .val ((eP4 eS D.int D.int (eT (eP2 (eT D.int) eS))) s)] = env)) (P := (fun (i : Nat) (s : (SS × Int × Int × (List ((List Int) × SS)))) => LogOk s ∧ (q_1.1.2.2.2.length : Int) - i ≤ (s.2.2.2.length : Int)) (0 + (rangeD ((q_1.1.2.2.2.length : Int) - 1) (-1)).length)) (i_rng3 (xa_cons (x_op2 (x_opN (xa_cons (x_op2 (x_var rfl) x_c o_ixP4_3) xa_nil) (o_lenT (e := (eP2 (eT D.int) eS)))) x_c rfl) (xa_cons (x_op1 x_c rfl) (xa_cons (x_op1 x_c rfl) xa_nil))) (by /-_law_right 70: range-/first | assumption | omega | (dsimp only [lt] at *; omega) | (set_option maxHeartbeats 40000 in (simp; done)) | (set_option maxHeartbeats 40000 in (simp; omega)) | (set_option maxHeartbeats 40000 in (simp at *; omega)) | (set_option maxHeartbeats 40000 in (simp_all; done)) | (set_option maxHeartbeats 40000 in (simp_all; omega))) (by /-_law_right 71: range-/first | assumption | omega | (dsimp only [lt] at *; omega) | (set_option maxHeartbeats 40000 in (simp; done)) | (set_option maxHeartbeats 40000 in (simp; omega)) | (set_option maxHeartbeats 40000 in (simp at *; omega)) | (set_option maxHeartbeats 40000 in (simp_all; done)) | (set_option maxHeartbeats 40000 in (simp_all; omega))) (by /-_law_right 72: range-/first | assumption | omega | (dsimp only [lt] at *; omega) | (set_option maxHeartbeats 40000 in (simp; done)) | (set_option maxHeartbeats 40000 in (simp; omega)) | (set_option maxHeartbeats 40000 in (simp at *; omega)) | (set_option maxHeartbeats 40000 in (simp_all; done)) | (set_option maxHeartbeats 40000 in (simp_all; omega))) (by /-_law_right 73: range-/first | assumption | omega | (dsimp only [lt] at *; omega) | (set_option maxHeartbeats 40000 in (simp; done)) | (set_option maxHeartbeats 40000 in (simp; omega)) | (set_option maxHeartbeats 40000 in (simp at *; omega)) | (set_option maxHeartbeats 40000 in (simp_all; done)) | (set_option maxHeartbeats 40000 in (simp_all; omega)))) (loop_fold (en := D.int) (xs := (rangeD ((q_1.1.2.2.2.length : Int) - 1) (-1))) (s0 := q_1.1) (fun (s : (SS × Int × Int × (List ((List Int) × SS)))) env h' => (hp n h0 q_1.2) = h' ∧ ∃ (j3 : Sl), [.val (.obj n), .val ((eP4 eS D.int D.int (eT (eP2 (eT D.int) eS))) q_1.1), .val ((eL eS) due_3), j3, j4, j5, .val ((eP4 eS D.int D.int (eT (eP2 (eT D.int) eS))) s)] = env) (fun (i : Nat) (s : (SS × Int × Int × (List ((List Int) × SS)))) => LogOk s ∧ (q_1.1.2.2.2.length : Int) - i ≤ (s.2.2.2.length : Int)) _ 0 (by exact ⟨ok, by omega⟩) ⟨rfl, _, rfl⟩ ?_) ?_
      · rintro i1 u_10 s_9 _ _ hx1 hi1 ⟨rfl, j3, rfl⟩
        have hlt1 := lt_of_get hx1
        have hm1 := List.mem_of_getElem? hx1
        have hr1 := mem_rngD hm1
        have ug1 := rngD_get hx1
        have lw := lless_ok hi1.1 (u := u_10) (by omega) (by omega)
        have v1 := hi1.1.m1
        have v2 := hi1.1.m2
        have v3 := hi1.1.rw
        have w1 := lw.1.m1
        have w2 := lw.1.m2
        try simp only [Nat.zero_add] at hi1 ⊢
        refine ⟨(by dsimp only [lt]; exact loopI_step hi1 ug1 (by omega)), [.val (.obj n), .val ((eP4 eS D.int D.int (eT (eP2 (eT D.int) eS))) q_1.1), .val ((eL eS) due_3), .val (D.int u_10), j4, j5, .val ((eP4 eS D.int D.int (eT (eP2 (eT D.int) eS))) s_9)], (p_name rfl rfl rfl), ?_⟩
        unfold law_right_l1
        refine j_lt fun late_11 e_late_11 => ?_
        refine j_last (z_set (d := (eP4 eS D.int D.int (eT (eP2 (eT D.int) eS))) late_11) (by rw [e_late_11]; exact (x_if (e := (eP4 eS D.int D.int (eT (eP2 (eT D.int) eS)))) (u := (t_law_less s_9 u_10)) (v := s_9) (t_B (x_op2 (x_call (xa_cons (x_call (xa_cons (x_var rfl) (xa_cons (x_var rfl) xa_nil)) xa_nil (nb_cons rfl (nb_cons rfl nb_nil)) nb_nil rfl rfl rfl (c_law_less s_9 u_10 (by /-_law_right 74: _law_less: pre 0-/first | assumption | omega | (dsimp only [lt] at *; omega) | (set_option maxHeartbeats 40000 in (simp; done)) | (set_option maxHeartbeats 40000 in (simp; omega)) | (set_option maxHeartbeats 40000 in (simp at *; omega)) | (set_option maxHeartbeats 40000 in (simp_all; done)) | (set_option maxHeartbeats 40000 in (simp_all; omega))) _)) xa_nil) xa_nil (nb_cons rfl nb_nil) nb_nil rfl rfl rfl (c_law_possible (t_law_less s_9 u_10) (by /-_law_right 75: _law_possible: pre 0-/first | assumption | omega | (dsimp only [lt] at *; omega) | (set_option maxHeartbeats 40000 in (simp; done)) | (set_option maxHeartbeats 40000 in (simp; omega)) | (set_option maxHeartbeats 40000 in (simp at *; omega)) | (set_option maxHeartbeats 40000 in (simp_all; done)) | (set_option maxHeartbeats 40000 in (simp_all; omega))) (by /-_law_right 76: _law_possible: pre 1-/first | assumption | omega | (dsimp only [lt] at *; omega) | (set_option maxHeartbeats 40000 in (simp; done)) | (set_option maxHeartbeats 40000 in (simp; omega)) | (set_option maxHeartbeats 40000 in (simp at *; omega)) | (set_option maxHeartbeats 40000 in (simp_all; done)) | (set_option maxHeartbeats 40000 in (simp_all; omega))) (by /-_law_right 77: _law_possible: pre 2-/first | assumption | omega | (dsimp only [lt] at *; omega) | (set_option maxHeartbeats 40000 in (simp; done)) | (set_option maxHeartbeats 40000 in (simp; omega)) | (set_option maxHeartbeats 40000 in (simp at *; omega)) | (set_option maxHeartbeats 40000 in (simp_all; done)) | (set_option maxHeartbeats 40000 in (simp_all; omega))) _)) (x_call (xa_cons (x_var rfl) xa_nil) xa_nil (nb_cons rfl nb_nil) nb_nil rfl rfl rfl (c_law_possible s_9 (by /-_law_right 78: _law_possible: pre 0-/first | assumption | omega | (dsimp only [lt] at *; omega) | (set_option maxHeartbeats 40000 in (simp; done)) | (set_option maxHeartbeats 40000 in (simp; omega)) | (set_option maxHeartbeats 40000 in (simp at *; omega)) | (set_option maxHeartbeats 40000 in (simp_all; done)) | (set_option maxHeartbeats 40000 in (simp_all; omega))) (by /-_law_right 79: _law_possible: pre 1-/first | assumption | omega | (dsimp only [lt] at *; omega) | (set_option maxHeartbeats 40000 in (simp; done)) | (set_option maxHeartbeats 40000 in (simp; omega)) | (set_option maxHeartbeats 40000 in (simp at *; omega)) | (set_option maxHeartbeats 40000 in (simp_all; done)) | (set_option maxHeartbeats 40000 in (simp_all; omega))) (by /-_law_right 80: _law_possible: pre 2-/first | assumption | omega | (dsimp only [lt] at *; omega) | (set_option maxHeartbeats 40000 in (simp; done)) | (set_option maxHeartbeats 40000 in (simp; omega)) | (set_option maxHeartbeats 40000 in (simp at *; omega)) | (set_option maxHeartbeats 40000 in (simp_all; done)) | (set_option maxHeartbeats 40000 in (simp_all; omega))) _)) (o_eqE (e := (eL D.int)) (a := (t_law_possible (t_law_less s_9 u_10))) (b := (t_law_possible s_9)) (by decide)))) (fun hc => (x_call (xa_cons (x_var rfl) (xa_cons (x_var rfl) xa_nil)) xa_nil (nb_cons rfl (nb_cons rfl nb_nil)) nb_nil rfl rfl rfl (c_law_less s_9 u_10 (by /-_law_right 81: _law_less: pre 0-/first | assumption | omega | (dsimp only [lt] at *; omega) | (set_option maxHeartbeats 40000 in (simp; done)) | (set_option maxHeartbeats 40000 in (simp; omega)) | (set_option maxHeartbeats 40000 in (simp at *; omega)) | (set_option maxHeartbeats 40000 in (simp_all; done)) | (set_option maxHeartbeats 40000 in (simp_all; omega))) _))) (fun hc => (x_var rfl)))) rfl rfl rfl) ?_
        exact ⟨.inl rfl, ⟨rfl, _, rfl⟩⟩
      · rintro s_12 _ _ e_s_12 inv_s_12 ⟨rfl, j3, rfl⟩
        try simp only [Nat.zero_add] at inv_s_12
        have x1 := inv_s_12.1.m1
        have x2 := inv_s_12.1.m2
        have x3 := inv_s_12.1.rw
        refine j_ifq (t_or (t_B (x_op2 (x_opN (xa_cons (xv ((eL (eP4 eS D.int D.int (eT (eP2 (eT D.int) eS)))) ([(t_slim q_1.1), (t_slim q_1.1)] : List (SS × Int × Int × (List ((List Int) × SS))))) (x_lst (xa_cons (x_call (xa_cons (x_var rfl) xa_nil) xa_nil (nb_cons rfl nb_nil) nb_nil rfl rfl rfl (c_slim q_1.1 (by /-_law_right 82: slim: pre 0-/exact ok) _)) (xa_cons (x_call xa_nil (xa_cons (x_var rfl) xa_nil) nb_nil (nb_cons rfl nb_nil) rfl rfl rfl (c_slim q_1.1 (by /-_law_right 83: slim: pre 0-/exact ok) _)) xa_nil)) (nb_cons rfl (nb_cons rfl nb_nil)) rfl)) xa_nil) (o_repr (by /-_law_right 84: RqX ((eL (eP4 eS D.int D.int (eT (eP2 (eT D.int) eS)))) ([(t-/exact rqLogs (fun l hl => by simp only [List.mem_cons, List.not_mem_nil, or_false, or_self] at hl; rw [hl]; exact (slim_ok ok).ok) (by simp)) (PlE.pl (e := (eL (eP4 eS D.int D.int (eT (eP2 (eT D.int) eS))))) _))) (x_opN (xa_cons (xv ((eL (eP4 eS D.int D.int (eT (eP2 (eT D.int) eS)))) ([s_12, s_12] : List (SS × Int × Int × (List ((List Int) × SS))))) (x_lst (xa_cons (x_var rfl) (xa_cons (x_var rfl) xa_nil)) (nb_cons rfl (nb_cons rfl nb_nil)) rfl)) xa_nil) (o_repr (by /-_law_right 85: RqX ((eL (eP4 eS D.int D.int (eT (eP2 (eT D.int) eS)))) ([s_-/exact rqLogs (fun l hl => by simp only [List.mem_cons, List.not_mem_nil, or_false, or_self] at hl; rw [hl]; exact inv_s_12.1) (by simp)) (PlE.pl (e := (eL (eP4 eS D.int D.int (eT (eP2 (eT D.int) eS))))) _))) rfl)) fun hc => (t_B (x_op2 (x_call (xa_cons (x_var rfl) xa_nil) xa_nil (nb_cons rfl nb_nil) nb_nil rfl rfl rfl (c_law_possible s_12 (by /-_law_right 86: _law_possible: pre 0-/first | assumption | omega | (dsimp only [lt] at *; omega) | (set_option maxHeartbeats 40000 in (simp; done)) | (set_option maxHeartbeats 40000 in (simp; omega)) | (set_option maxHeartbeats 40000 in (simp at *; omega)) | (set_option maxHeartbeats 40000 in (simp_all; done)) | (set_option maxHeartbeats 40000 in (simp_all; omega))) (by /-_law_right 87: _law_possible: pre 1-/first | assumption | omega | (dsimp only [lt] at *; omega) | (set_option maxHeartbeats 40000 in (simp; done)) | (set_option maxHeartbeats 40000 in (simp; omega)) | (set_option maxHeartbeats 40000 in (simp at *; omega)) | (set_option maxHeartbeats 40000 in (simp_all; done)) | (set_option maxHeartbeats 40000 in (simp_all; omega))) (by /-_law_right 88: _law_possible: pre 2-/first | assumption | omega | (dsimp only [lt] at *; omega) | (set_option maxHeartbeats 40000 in (simp; done)) | (set_option maxHeartbeats 40000 in (simp; omega)) | (set_option maxHeartbeats 40000 in (simp at *; omega)) | (set_option maxHeartbeats 40000 in (simp_all; done)) | (set_option maxHeartbeats 40000 in (simp_all; omega))) _)) (x_call (xa_cons (x_var rfl) xa_nil) xa_nil (nb_cons rfl nb_nil) nb_nil rfl rfl rfl (c_law_possible q_1.1 (by /-_law_right 89: _law_possible: pre 0-/first | assumption | omega | (dsimp only [lt] at *; omega) | (set_option maxHeartbeats 40000 in (simp; done)) | (set_option maxHeartbeats 40000 in (simp; omega)) | (set_option maxHeartbeats 40000 in (simp at *; omega)) | (set_option maxHeartbeats 40000 in (simp_all; done)) | (set_option maxHeartbeats 40000 in (simp_all; omega))) (by /-_law_right 90: _law_possible: pre 1-/first | assumption | omega | (dsimp only [lt] at *; omega) | (set_option maxHeartbeats 40000 in (simp; done)) | (set_option maxHeartbeats 40000 in (simp; omega)) | (set_option maxHeartbeats 40000 in (simp at *; omega)) | (set_option maxHeartbeats 40000 in (simp_all; done)) | (set_option maxHeartbeats 40000 in (simp_all; omega))) (by /-_law_right 91: _law_possible: pre 2-/first | assumption | omega | (dsimp only [lt] at *; omega) | (set_option maxHeartbeats 40000 in (simp; done)) | (set_option maxHeartbeats 40000 in (simp; omega)) | (set_option maxHeartbeats 40000 in (simp at *; omega)) | (set_option maxHeartbeats 40000 in (simp_all; done)) | (set_option maxHeartbeats 40000 in (simp_all; omega))) _)) (o_neE (e := (eL D.int)) (a := (t_law_possible s_12)) (b := (t_law_possible q_1.1)) (by decide))))) (fun hc5 => ?_) (fun hc5 => ?_)
        · skip
          refine j_re ?_
          exact j_ret (d := D.bl false) x_c rfl ⟨rfl, rfl⟩
        · skip
          exact j_ret (d := D.bl (decide ((((rangeI (s_12.2.2.2.length : Int)).filter (fun u_13 => (!decide ((t_is_idle s_12 u_13) = false)))).map (fun u_13 => u_13)) = ([] : List Int)))) (x_op2 (xv ((eL D.int) (((rangeI (s_12.2.2.2.length : Int)).filter (fun u_13 => (!decide ((t_is_idle s_12 u_13) = false)))).map (fun u_13 => u_13))) (x_asVal (f_compF (en := D.int) (ev := D.int) (fun u_13 => (!decide ((t_is_idle s_12 u_13) = false))) (fun u_13 => u_13) (i_rng1 (xa_cons (x_opN (xa_cons (x_op2 (x_var rfl) x_c o_ixP4_3) xa_nil) (o_lenT (e := (eP2 (eT D.int) eS)))) xa_nil) (by /-_law_right 92: range low-/first | assumption | omega | (dsimp only [lt] at *; omega) | (set_option maxHeartbeats 40000 in (simp; done)) | (set_option maxHeartbeats 40000 in (simp; omega)) | (set_option maxHeartbeats 40000 in (simp at *; omega)) | (set_option maxHeartbeats 40000 in (simp_all; done)) | (set_option maxHeartbeats 40000 in (simp_all; omega))) (by /-_law_right 93: range (s_12.2.2.2.length : Int) ≤ 10^9-/first | assumption | omega | (dsimp only [lt] at *; omega) | (set_option maxHeartbeats 40000 in (simp; done)) | (set_option maxHeartbeats 40000 in (simp; omega)) | (set_option maxHeartbeats 40000 in (simp at *; omega)) | (set_option maxHeartbeats 40000 in (simp_all; done)) | (set_option maxHeartbeats 40000 in (simp_all; omega)))) (by /-_law_right 94: (rangeI (s_12.2.2.2.length : Int)).length ≤ 16777216-/first | assumption | omega | (dsimp only [lt] at *; omega) | (set_option maxHeartbeats 40000 in (simp; done)) | (set_option maxHeartbeats 40000 in (simp; omega)) | (set_option maxHeartbeats 40000 in (simp at *; omega)) | (set_option maxHeartbeats 40000 in (simp_all; done)) | (set_option maxHeartbeats 40000 in (simp_all; omega))) rfl (fun _ => rfl) fun u_13 hu => have hu_u_13 := hu; have hr := mem_rng hu; ⟨_, (p_name rfl rfl rfl), (t_B (x_op2 (x_call (xa_cons (x_var rfl) (xa_cons (x_var rfl) xa_nil)) xa_nil (nb_cons rfl (nb_cons rfl nb_nil)) nb_nil rfl rfl rfl (c_is_idle s_12 u_13 (by /-_law_right 95: is_idle: pre 0-/exact inv_s_12.1) (by /-_law_right 96: is_idle: pre 1-/first | assumption | omega | (dsimp only [lt] at *; omega) | (set_option maxHeartbeats 40000 in (simp; done)) | (set_option maxHeartbeats 40000 in (simp; omega)) | (set_option maxHeartbeats 40000 in (simp at *; omega)) | (set_option maxHeartbeats 40000 in (simp_all; done)) | (set_option maxHeartbeats 40000 in (simp_all; omega))) (by /-_law_right 97: is_idle: pre 2-/first | assumption | omega | (dsimp only [lt] at *; omega) | (set_option maxHeartbeats 40000 in (simp; done)) | (set_option maxHeartbeats 40000 in (simp; omega)) | (set_option maxHeartbeats 40000 in (simp at *; omega)) | (set_option maxHeartbeats 40000 in (simp_all; done)) | (set_option maxHeartbeats 40000 in (simp_all; omega))) _)) x_c rfl)), fun hp => (x_var rfl)⟩))) (xv ((eL D.int) ([] : List Int)) (x_lst xa_nil nb_nil rfl)) (o_eqE (e := (eL D.int)) (a := (((rangeI (s_12.2.2.2.length : Int)).filter (fun u_13 => (!decide ((t_is_idle s_12 u_13) = false)))).map (fun u_13 => u_13))) (b := ([] : List Int)) (by decide))) rfl ⟨rfl, rfl⟩
end EV
/-! k38: the law's right -/
namespace EV
open PySem L2
theorem right_true {p : Pot2} : (t_law_right p).1 = true := by
  unfold t_law_right
  simp only [lt]
  have lk := log_ok (p := p) (most := 10) (rows := 8) (by decide) (by decide) (by decide) (by decide)
  generalize t_law_log p 10 8 = q1 at *
  have ok := lk.1
  have ed : ((rangeI (q1.1.2.2.2.length : Int)).map (fun u_2 => (t_law_truth q1.1 u_2))) = t_truths q1.1 := List.map_congr_left fun u _ => ltruth_eq
  rw [ed, if_neg (by simp)]
  refine loopR_cg (Z := fun r : Bool × Pot2 => r.1 = true) (P := fun _ _ => True) (Q := fun _ => False) (k := 0) trivial (fun i u s hu _ => ?_) (fun s _ => ?_) (fun s h => h.elim)
  · have hb := mem_rng (List.mem_of_getElem? hu)
    obtain ⟨t1, t2, t3⟩ := told_right ok (at_ := u)
    refine cg_no ?_ (cg_no ?_ (cg_no ?_ trivial))
    · rw [show t_truth_paper q1.1 u = t_tr_paper_of q1.1 u from rfl, t1, t3, truths_get hb.1 hb.2, show reps (3 : Int).toNat [t_truth q1.1 u] = [t_truth q1.1 u, t_truth q1.1 u, t_truth q1.1 u] from rfl, show t_truth_of q1.1 u = t_truth q1.1 u from rfl]
      have e : rp (eL eV [toV eS (t_truth q1.1 u), toV eS (t_truth q1.1 u), toV eS (t_truth q1.1 u)]) = rp (eL eS [t_truth q1.1 u, t_truth q1.1 u, t_truth q1.1 u]) := rfl
      rw [e]
      simp
    · rw [show t_truth_paper q1.1 u = t_tr_paper_of q1.1 u from rfl, show t_is_truth_paper q1.1 u (t_tr_paper_of q1.1 u) = true from t2]
      rfl
    · rw [show t_is_idle q1.1 u = decide (t_law_possible (t_law_less q1.1 u) = t_law_possible q1.1) from by rw [lposs_eq, lposs_eq, lless_eq]; rfl]
      simp
  · rw [lslim_eq]
    have so := slim_ok ok
    rw [lposs_eq, lposs_eq, so.ps]
    rw [if_neg (by simp)]
    show decide (_ = _) = true
    refine decide_eq_true ?_
    rw [List.map_id', List.filter_eq_nil_iff]
    intro u hu
    obtain ⟨u0, u1⟩ := mem_rng hu
    obtain ⟨k, rfl⟩ : ∃ k : Nat, u = k := ⟨u.toNat, by omega⟩
    rw [show t_is_idle (t_slim q1.1) (k : Int) = false from so.bz k (by omega) (by omega)]
    decide
end EV
namespace EV.K
open PySem L2
theorem U_is_integer {k : Nat} : F (k + 1) 0 = bodyF 1 m_is_integer (F k) := funext fun ds => funext fun h => u_is_integer
theorem f_is_integer : ∀ k, 1 ≤ k → ST_is_integer (F k 0)
  | 0, q => absurd q (by decide)
  | k + 1, q => by rw [U_is_integer]; exact et_is_integer
theorem U_is_count {k : Nat} : F (k + 1) 1 = bodyF 1 m_is_count (F k) := funext fun ds => funext fun h => u_is_count
theorem f_is_count : ∀ k, 2 ≤ k → ST_is_count (F k 1)
  | 0, q => absurd q (by decide)
  | k + 1, q => by rw [U_is_count]; exact et_is_count (f_is_integer k (by omega))
theorem U_is_below {k : Nat} : F (k + 1) 2 = bodyF 2 m_is_below (F k) := funext fun ds => funext fun h => u_is_below
theorem f_is_below : ∀ k, 3 ≤ k → ST_is_below (F k 2)
  | 0, q => absurd q (by decide)
  | k + 1, q => by rw [U_is_below]; exact et_is_below (f_is_count k (by omega))
theorem U_is_row {k : Nat} : F (k + 1) 3 = bodyF 2 m_is_row (F k) := funext fun ds => funext fun h => u_is_row
theorem f_is_row : ∀ k, 1 ≤ k → ST_is_row (F k 3)
  | 0, q => absurd q (by decide)
  | k + 1, q => by rw [U_is_row]; exact et_is_row
theorem U_is_rising {k : Nat} : F (k + 1) 4 = bodyF 3 m_is_rising (F k) := funext fun ds => funext fun h => u_is_rising
theorem f_is_rising : ∀ k, 1 ≤ k → ST_is_rising (F k 4)
  | 0, q => absurd q (by decide)
  | k + 1, q => by rw [U_is_rising]; exact et_is_rising
theorem U_is_answer {k : Nat} : F (k + 1) 5 = bodyF 1 m_is_answer (F k) := funext fun ds => funext fun h => u_is_answer
theorem f_is_answer : ∀ k, 1 ≤ k → ST_is_answer (F k 5)
  | 0, q => absurd q (by decide)
  | k + 1, q => by rw [U_is_answer]; exact et_is_answer
theorem U_are_things_in {k : Nat} : F (k + 1) 6 = bodyF 3 m_are_things_in (F k) := funext fun ds => funext fun h => u_are_things_in
theorem f_are_things_in : ∀ k, 4 ≤ k → ST_are_things_in (F k 6)
  | 0, q => absurd q (by decide)
  | k + 1, q => by rw [U_are_things_in]; exact et_are_things_in (f_is_below k (by omega)) (f_is_rising k (by omega))
theorem U_is_log_of {k : Nat} : F (k + 1) 7 = bodyF 4 m_is_log_of (F k) := funext fun ds => funext fun h => u_is_log_of
theorem f_is_log_of : ∀ k, 5 ≤ k → ST_is_log_of (F k 7)
  | 0, q => absurd q (by decide)
  | k + 1, q => by rw [U_is_log_of]; exact et_is_log_of (f_is_row k (by omega)) (f_is_integer k (by omega)) (f_is_count k (by omega)) (f_are_things_in k (by omega)) (f_is_answer k (by omega))
theorem U_with_rows {k : Nat} : F (k + 1) 8 = bodyF 2 m_with_rows (F k) := funext fun ds => funext fun h => u_with_rows
theorem f_with_rows : ∀ k, 1 ≤ k → ST_with_rows (F k 8)
  | 0, q => absurd q (by decide)
  | k + 1, q => by rw [U_with_rows]; exact et_with_rows
theorem U_is_wrong_for {k : Nat} : F (k + 1) 9 = bodyF 2 m_is_wrong_for (F k) := funext fun ds => funext fun h => u_is_wrong_for
theorem f_is_wrong_for : ∀ k, 1 ≤ k → ST_is_wrong_for (F k 9)
  | 0, q => absurd q (by decide)
  | k + 1, q => by rw [U_is_wrong_for]; exact et_is_wrong_for
theorem U_wrong_of {k : Nat} : F (k + 1) 10 = bodyF 4 m_wrong_of (F k) := funext fun ds => funext fun h => u_wrong_of
theorem f_lg_wrong_of : ∀ k, 2 ≤ k → ST_lg_wrong_of (F k 10)
  | 0, q => absurd q (by decide)
  | k + 1, q => by rw [U_wrong_of]; exact et_lg_wrong_of (f_is_wrong_for k (by omega))
theorem U_possible_of {k : Nat} : F (k + 1) 11 = bodyF 2 m_possible_of (F k) := funext fun ds => funext fun h => u_possible_of
theorem f_lg_possible_of : ∀ k, 3 ≤ k → ST_lg_possible_of (F k 11)
  | 0, q => absurd q (by decide)
  | k + 1, q => by rw [U_possible_of]; exact et_lg_possible_of (f_lg_wrong_of k (by omega))
theorem U_want_log {k : Nat} : F (k + 1) 12 = bodyF 1 m_want_log (F k) := funext fun ds => funext fun h => u_want_log
theorem f_want_log : ∀ k, 6 ≤ k → ST_want_log (F k 12)
  | 0, q => absurd q (by decide)
  | k + 1, q => by rw [U_want_log]; exact et_want_log (f_is_log_of k (by omega))
theorem U_want_position {k : Nat} : F (k + 1) 13 = bodyF 2 m_want_position (F k) := funext fun ds => funext fun h => u_want_position
theorem f_want_position : ∀ k, 4 ≤ k → ST_want_position (F k 13)
  | 0, q => absurd q (by decide)
  | k + 1, q => by rw [U_want_position]; exact et_want_position (f_is_below k (by omega))
theorem U_truth_of {k : Nat} : F (k + 1) 14 = bodyF 4 m_truth_of (F k) := funext fun ds => funext fun h => u_truth_of
theorem f_truth_of : ∀ k, 4 ≤ k → ST_truth_of (F k 14)
  | 0, q => absurd q (by decide)
  | k + 1, q => by rw [U_truth_of]; exact et_truth_of (f_lg_possible_of k (by omega)) (f_is_wrong_for k (by omega))
theorem U_barred_for {k : Nat} : F (k + 1) 15 = bodyF 2 m_barred_for (F k) := funext fun ds => funext fun h => u_barred_for
theorem f_barred_for : ∀ k, 3 ≤ k → ST_barred_for (F k 15)
  | 0, q => absurd q (by decide)
  | k + 1, q => by rw [U_barred_for]; exact et_barred_for (f_lg_wrong_of k (by omega))
theorem U_others_of {k : Nat} : F (k + 1) 16 = bodyF 4 m_others_of (F k) := funext fun ds => funext fun h => u_others_of
theorem f_others_of : ∀ k, 2 ≤ k → ST_others_of (F k 16)
  | 0, q => absurd q (by decide)
  | k + 1, q => by rw [U_others_of]; exact et_others_of (f_is_wrong_for k (by omega))
theorem U_first_thing {k : Nat} : F (k + 1) 17 = bodyF 4 m_first_thing (F k) := funext fun ds => funext fun h => u_first_thing
theorem f_first_thing : ∀ k, 4 ≤ k → ST_first_thing (F k 17)
  | 0, q => absurd q (by decide)
  | k + 1, q => by rw [U_first_thing]; exact et_first_thing (f_lg_possible_of k (by omega)) (f_is_wrong_for k (by omega))
theorem U_paper_of {k : Nat} : F (k + 1) 18 = bodyF 5 m_paper_of (F k) := funext fun ds => funext fun h => u_paper_of
theorem f_tr_paper_of : ∀ k, 5 ≤ k → ST_tr_paper_of (F k 18)
  | 0, q => absurd q (by decide)
  | k + 1, q => by rw [U_paper_of]; exact et_tr_paper_of (f_truth_of k (by omega)) (f_first_thing k (by omega)) (f_others_of k (by omega)) (f_barred_for k (by omega))
theorem U_is_bar_for {k : Nat} : F (k + 1) 19 = bodyF 4 m_is_bar_for (F k) := funext fun ds => funext fun h => u_is_bar_for
theorem f_is_bar_for : ∀ k, 4 ≤ k → ST_is_bar_for (F k 19)
  | 0, q => absurd q (by decide)
  | k + 1, q => by rw [U_is_bar_for]; exact et_is_bar_for (f_is_row k (by omega)) (f_is_below k (by omega)) (f_is_rising k (by omega)) (f_is_wrong_for k (by omega))
theorem U_are_bars {k : Nat} : F (k + 1) 20 = bodyF 5 m_are_bars (F k) := funext fun ds => funext fun h => u_are_bars
theorem f_are_bars : ∀ k, 5 ≤ k → ST_are_bars (F k 20)
  | 0, q => absurd q (by decide)
  | k + 1, q => by rw [U_are_bars]; exact et_are_bars (f_is_row k (by omega)) (f_is_bar_for k (by omega))
theorem U_is_possible_in {k : Nat} : F (k + 1) 21 = bodyF 2 m_is_possible_in (F k) := funext fun ds => funext fun h => u_is_possible_in
theorem f_is_possible_in : ∀ k, 4 ≤ k → ST_is_possible_in (F k 21)
  | 0, q => absurd q (by decide)
  | k + 1, q => by rw [U_is_possible_in]; exact et_is_possible_in (f_is_below k (by omega)) (f_lg_wrong_of k (by omega))
theorem U_is_paper_of {k : Nat} : F (k + 1) 22 = bodyF 3 m_is_paper_of (F k) := funext fun ds => funext fun h => u_is_paper_of
theorem f_tr_is_paper_of : ∀ k, 6 ≤ k → ST_tr_is_paper_of (F k 22)
  | 0, q => absurd q (by decide)
  | k + 1, q => by rw [U_is_paper_of]; exact et_tr_is_paper_of (f_others_of k (by omega)) (f_are_bars k (by omega)) (f_is_possible_in k (by omega)) (f_is_wrong_for k (by omega))
theorem U_without_row {k : Nat} : F (k + 1) 23 = bodyF 2 m_without_row (F k) := funext fun ds => funext fun h => u_without_row
theorem f_without_row : ∀ k, 2 ≤ k → ST_without_row (F k 23)
  | 0, q => absurd q (by decide)
  | k + 1, q => by rw [U_without_row]; exact et_without_row (f_with_rows k (by omega))
theorem U_is_idle_of {k : Nat} : F (k + 1) 24 = bodyF 2 m_is_idle_of (F k) := funext fun ds => funext fun h => u_is_idle_of
theorem f_is_idle_of : ∀ k, 4 ≤ k → ST_is_idle_of (F k 24)
  | 0, q => absurd q (by decide)
  | k + 1, q => by rw [U_is_idle_of]; exact et_is_idle_of (f_without_row k (by omega)) (f_lg_possible_of k (by omega))
theorem U_slim_of {k : Nat} : F (k + 1) 25 = bodyF 2 m_slim_of (F k) := funext fun ds => funext fun h => u_slim_of
theorem f_slim_of : ∀ k, 5 ≤ k → ST_slim_of (F k 25)
  | 0, q => absurd q (by decide)
  | k + 1, q => by rw [U_slim_of]; exact et_slim_of (f_is_idle_of k (by omega)) (f_without_row k (by omega))
theorem U_truth {k : Nat} : F (k + 1) 26 = bodyF 2 m_truth (F k) := funext fun ds => funext fun h => u_truth
theorem f_truth : ∀ k, 7 ≤ k → ST_truth (F k 26)
  | 0, q => absurd q (by decide)
  | k + 1, q => by rw [U_truth]; exact et_truth (f_want_log k (by omega)) (f_want_position k (by omega)) (f_truth_of k (by omega))
theorem U_truths {k : Nat} : F (k + 1) 27 = bodyF 2 m_truths (F k) := funext fun ds => funext fun h => u_truths
theorem f_truths : ∀ k, 7 ≤ k → ST_truths (F k 27)
  | 0, q => absurd q (by decide)
  | k + 1, q => by rw [U_truths]; exact et_truths (f_want_log k (by omega)) (f_truth_of k (by omega))
theorem U_truth_paper {k : Nat} : F (k + 1) 28 = bodyF 2 m_truth_paper (F k) := funext fun ds => funext fun h => u_truth_paper
theorem f_truth_paper : ∀ k, 7 ≤ k → ST_truth_paper (F k 28)
  | 0, q => absurd q (by decide)
  | k + 1, q => by rw [U_truth_paper]; exact et_truth_paper (f_want_log k (by omega)) (f_want_position k (by omega)) (f_tr_paper_of k (by omega))
theorem U_is_truth_paper {k : Nat} : F (k + 1) 29 = bodyF 3 m_is_truth_paper (F k) := funext fun ds => funext fun h => u_is_truth_paper
theorem f_is_truth_paper : ∀ k, 7 ≤ k → ST_is_truth_paper (F k 29)
  | 0, q => absurd q (by decide)
  | k + 1, q => by rw [U_is_truth_paper]; exact et_is_truth_paper (f_want_log k (by omega)) (f_want_position k (by omega)) (f_tr_is_paper_of k (by omega))
theorem U_is_idle {k : Nat} : F (k + 1) 30 = bodyF 2 m_is_idle (F k) := funext fun ds => funext fun h => u_is_idle
theorem f_is_idle : ∀ k, 7 ≤ k → ST_is_idle (F k 30)
  | 0, q => absurd q (by decide)
  | k + 1, q => by rw [U_is_idle]; exact et_is_idle (f_want_log k (by omega)) (f_want_position k (by omega)) (f_is_idle_of k (by omega))
theorem U_slim {k : Nat} : F (k + 1) 31 = bodyF 1 m_slim (F k) := funext fun ds => funext fun h => u_slim
theorem f_slim : ∀ k, 7 ≤ k → ST_slim (F k 31)
  | 0, q => absurd q (by decide)
  | k + 1, q => by rw [U_slim]; exact et_slim (f_want_log k (by omega)) (f_slim_of k (by omega))
theorem U__law_draw {k : Nat} : F (k + 1) 33 = bodyF 3 m__law_draw (F k) := funext fun ds => funext fun h => u__law_draw
theorem f_draw : ∀ k, 1 ≤ k → ST_draw t_law_draw (F k 33)
  | 0, q => absurd q (by decide)
  | k + 1, q => by rw [U__law_draw]; refine et_draw ?_ ?_ ?_ ?_ <;> decide
theorem U__law_things {k : Nat} : F (k + 1) 34 = bodyF 3 m__law_things (F k) := funext fun ds => funext fun h => u__law_things
theorem f_law_things : ∀ k, 2 ≤ k → ST_law_things (F k 34)
  | 0, q => absurd q (by decide)
  | k + 1, q => by rw [U__law_things]; exact et_law_things (f_draw k (by omega))
theorem U__law_is_wrong {k : Nat} : F (k + 1) 35 = bodyF 2 m__law_is_wrong (F k) := funext fun ds => funext fun h => u__law_is_wrong
theorem f_law_is_wrong : ∀ k, 1 ≤ k → ST_law_is_wrong (F k 35)
  | 0, q => absurd q (by decide)
  | k + 1, q => by rw [U__law_is_wrong]; exact et_law_is_wrong
theorem U__law_wrong {k : Nat} : F (k + 1) 36 = bodyF 3 m__law_wrong (F k) := funext fun ds => funext fun h => u__law_wrong
theorem f_law_wrong : ∀ k, 2 ≤ k → ST_law_wrong (F k 36)
  | 0, q => absurd q (by decide)
  | k + 1, q => by rw [U__law_wrong]; exact et_law_wrong (f_law_is_wrong k (by omega))
theorem U__law_possible {k : Nat} : F (k + 1) 37 = bodyF 2 m__law_possible (F k) := funext fun ds => funext fun h => u__law_possible
theorem f_law_possible : ∀ k, 3 ≤ k → ST_law_possible (F k 37)
  | 0, q => absurd q (by decide)
  | k + 1, q => by rw [U__law_possible]; exact et_law_possible (f_law_wrong k (by omega))
theorem U__law_log {k : Nat} : F (k + 1) 38 = bodyF 11 m__law_log (F k) := funext fun ds => funext fun h => u__law_log
theorem f_law_log : ∀ k, 3 ≤ k → ST_law_log (F k 38)
  | 0, q => absurd q (by decide)
  | k + 1, q => by rw [U__law_log]; exact et_law_log (f_draw k (by omega)) (f_law_things k (by omega))
theorem U__law_less {k : Nat} : F (k + 1) 39 = bodyF 2 m__law_less (F k) := funext fun ds => funext fun h => u__law_less
theorem f_law_less : ∀ k, 1 ≤ k → ST_law_less (F k 39)
  | 0, q => absurd q (by decide)
  | k + 1, q => by rw [U__law_less]; exact et_law_less
theorem U__law_truth {k : Nat} : F (k + 1) 40 = bodyF 4 m__law_truth (F k) := funext fun ds => funext fun h => u__law_truth
theorem f_law_truth : ∀ k, 4 ≤ k → ST_law_truth (F k 40)
  | 0, q => absurd q (by decide)
  | k + 1, q => by rw [U__law_truth]; exact et_law_truth (f_law_possible k (by omega)) (f_law_is_wrong k (by omega))
theorem U__law_bars_right {k : Nat} : F (k + 1) 41 = bodyF 6 m__law_bars_right (F k) := funext fun ds => funext fun h => u__law_bars_right
theorem f_law_bars_right : ∀ k, 3 ≤ k → ST_law_bars_right (F k 41)
  | 0, q => absurd q (by decide)
  | k + 1, q => by rw [U__law_bars_right]; exact et_law_bars_right (f_law_wrong k (by omega))
theorem U__law_paper_right {k : Nat} : F (k + 1) 42 = bodyF 7 m__law_paper_right (F k) := funext fun ds => funext fun h => u__law_paper_right
theorem f_law_paper_right : ∀ k, 4 ≤ k → ST_law_paper_right (F k 42)
  | 0, q => absurd q (by decide)
  | k + 1, q => by rw [U__law_paper_right]; exact et_law_paper_right (f_law_possible k (by omega)) (f_law_bars_right k (by omega)) (f_law_is_wrong k (by omega))
theorem U__law_right {k : Nat} : F (k + 1) 43 = bodyF 7 m__law_right (F k) := funext fun ds => funext fun h => u__law_right
theorem f_law_right : ∀ k, 8 ≤ k → ST_law_right (F k 43)
  | 0, q => absurd q (by decide)
  | k + 1, q => by rw [U__law_right]; exact et_law_right (f_law_log k (by omega)) (f_law_truth k (by omega)) (f_truths k (by omega)) (f_truth_paper k (by omega)) (f_law_less k (by omega)) (f_law_possible k (by omega)) (f_truth k (by omega)) (f_law_paper_right k (by omega)) (f_is_truth_paper k (by omega)) (f_is_idle k (by omega)) (f_slim k (by omega))
theorem U__law_pot {k : Nat} : F (k + 1) 32 = bodyF 3 m__law_pot (F k) := funext fun ds => funext fun h => u__law_pot
theorem f_pot : ∀ k, 1 ≤ k → S_pot (F k 32)
  | 0, q => absurd q (by decide)
  | k + 1, q => by rw [U__law_pot]; refine ev_law_pot2 ?_ ?_ ?_ <;> decide
theorem main (ns : List Int) (hn : ns.length ≤ 63) : ∃ h, fnsOf T.defs 100 44 [.frz (ns.map D.int)] [] = .ok (.bl true) h := by
  have U : F 100 44 = bodyF 4 m_law (F 99) := funext fun ds => funext fun h => u_law
  have a : S_law (F 100 44) := by
    rw [U]
    exact el_B (rtP_of (f_law_right 99 (by decide)) (fun _ => right_true)) (f_pot 99 (by decide))
  exact main_of a ns
end EV.K
open PySem PySem.W PySem.Calls PyProof.Rows in
theorem PySem.Challenge.cw_askedliars_k38_whole_truths_of_rows_holds : PySem.Challenge.rw_askedliars_k38_whole_truths_of_rows.Holds := by
  w_on; o_law
  refine HandSHeadRun.head_any (r := OpenLaw.row PySem.Challenge.rw_askedliars_k38_whole_truths_of_rows) (q := view (OpenLaw.row PySem.Challenge.rw_askedliars_k38_whole_truths_of_rows).prog [62]) (H := EV.K.hk) (ob := EV.K.ob) (M := 8000) (loose := EV.K.names) (d := HandSHeadRun.topDef (OpenLaw.row PySem.Challenge.rw_askedliars_k38_whole_truths_of_rows).prog 62) (kwd := []) EV.K.ob_eq
    (by kernel_rfl) (fun s => by kernel_rfl) EV.K.runs (by kernel_rfl) (by kernel_rfl) (by kernel_rfl) (by rfl) (by first | assumption | decide +kernel) (by decide +kernel) ⟨rfl, rfl, rfl, rfl, rfl, by decide +kernel⟩ ?hw ?hc
  case hw => w_witness2
  case hc =>
    exact EV.walk_law (l := PySem.Challenge.rw_askedliars_k38_whole_truths_of_rows) (n := 63) (k := 100) 44 EV.K.d_law rfl (by decide) (by kernel_rfl) ⟨rfl, by decide, by decide⟩ rfl (by kernel_rfl) rfl EV.K.ok_all (fun _ _ _ _ _ _ us hl => match us, hl with | [_], _ => rfl) EV.K.main
