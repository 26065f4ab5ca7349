import PyProof.Rows.All
import Wide.All
import OpenK.AllK
import Wide.FinOn
import HandS.ForMost
import HandS.ForExc
import KE.KDictKeyed
import HandS.TupAny
import HandS.TupMul
import HandS.TupLe
import HandS.Wide
import HandS.Style
import HandS.Deep
import HandS.Flow
import HandS.Exc
import HandS.WordsExc
import HandS.Walk
import HandS.Zip
import HandS.IsInst
import HandS.RaiseMore
import HandS.WideBits
import HandS.WideMore
import PyProof.ReprRoads
import PyProof.ReprLen
import PyProof.Rows.RegStrFacts
import PyProof.Rows.NestShow
import HandS.HeadHook2
import HandS.Ends
import HandS.HeadEnd
import HandS.Head2
import HandS.HeadHook4
import KE.GoesMore
import PyProof.EnumMake
import PyProof.P3In
import HandS.Zip0
import HandS.SetFor
import HandS.SortInts
import HandS.Conv
import PyProof.Rows.TupTab
import HandS.TupSets
import HandS.TryOnly
import PySem.Challenge.RW_askedliars_k51_whole_half_lies_never_har
set_option Elab.async false
set_option linter.all false
set_option maxRecDepth  100000
set_option maxHeartbeats 0
/-! EV1: values, cells, the ghost, relations -/
namespace EV
open PySem L2
/-- values: lists by value never change; obj n is the n-th cell -/
inductive D where
  | non | bl (b : Bool) | int (i : Int) | str (s : Str)
  | tup (ds : List D) | lst (ds : List D) | bor (ds : List D) | frz (ds : List D)
  | obj (n : Nat) | glob (i : Nat)
deriving Inhabited
mutual
/-- no cell from n on is named -/
def lowD (n : Nat) : D → Bool
  | .non | .bl _ | .int _ | .str _ | .glob _ => true
  | .tup ds => lowDs n ds
  | .lst ds => lowDs n ds
  | .bor ds => lowDs n ds
  | .frz ds => lowDs n ds
  | .obj m => decide (m < n)
def lowDs (n : Nat) : List D → Bool
  | [] => true
  | d :: ds => lowD n d && lowDs n ds
end
mutual
def noLst : D → Bool
  | .non | .bl _ | .int _ | .str _ | .glob _ | .obj _ => true
  | .tup ds => noLsts ds
  | .frz ds => noLsts ds
  | .lst _ => false
  | .bor _ => false
def noLsts : List D → Bool
  | [] => true
  | d :: ds => noLst d && noLsts ds
end
/-- what is known of a dict whose pairs are not told -/
structure Memo where
  P : List (D × D) → Prop
  inh : ∃ kvs, P kvs
  low : ∀ kvs, P kvs → ∀ p ∈ kvs, (lowD 0 p.1 = true ∧ lowD 0 p.2 = true) ∧ noLst p.1 = true ∧ noLst p.2 = true
/-- a memo that may hold nothing -/
class NilM (M : Memo) : Prop where
  nil : M.P []
instance : Inhabited Memo := ⟨⟨fun k => k = [], ⟨[], rfl⟩, fun k e p m => by rw [e] at m; cases m⟩⟩
/-- cells -/
inductive OB where
  | lst (ds : List D) | dic (kvs : List (D × D)) | ins (c : Nat) (fs : List (Str × D)) | mem (M : Memo)
deriving Inhabited
/-- slots -/
inductive Sl where
  | no | val (d : D) | own (ds : List D)
deriving Inhabited
abbrev Cells := List OB
abbrev Ev := List Sl
structure Exc where
  cls : Nat
  fs : List (Str × D)
inductive R (α : Type) where
  | ok (a : α) (h : Cells) | exc (e : Exc) (h : Cells) | bad
def R.bind {α β : Type} (r : R α) (f : α → Cells → R β) : R β := match r with
  | .ok a h => f a h
  | .exc e h => .exc e h
  | .bad => .bad
abbrev Fns := Nat → List D → Cells → R D
/-- the ghost: where the cells stand, what may be written -/
structure Gh where
  K : PySem.W.Frag
  gA : Nat → Option Addr
  W : Addr → Prop
  ρ : List Addr
/-- a written list of the text -/
def SqK (K : PySem.W.Frag) (a : Addr) (xs : List V) : Prop :=
  ∃ (o : Obj) (its : Array Value) (n : Nat), K.lookup a = some o ∧ o.cls = .type "list" ∧ o.dict = none ∧ o.data = .seq its n ∧ its.size ≤ sizeLine ∧ Vals xs its.toList
def LstAt (g : Gh) (H : Hp) (a : Addr) (xs : List V) : Prop := H a = some (.lst xs) ∧ ¬ g.W a
def BorAt (g : Gh) (H : Hp) (a : Addr) (xs : List V) : Prop := H a = some (.lst xs) ∧ a ∉ g.ρ
def FrzAt (g : Gh) (H : Hp) (a : Addr) (xs : List V) : Prop := (∃ o, H a = some (.frz o (.lst xs))) ∨ SqK g.K a xs
theorem FrzAt.sql {g : Gh} {H : Hp} {a : Addr} {xs : List V} (h : FrzAt g H a xs) : SqL g.K H a xs := by
  rcases h with h | h
  · exact .inl (.inr h)
  · exact .inr h
mutual
def RelS (g : Gh) (H : Hp) : D → V → Prop
  | .non, v => v = .non
  | .bl b, v => v = .bl b
  | .int i, v => v = .int i
  | .str s, v => v = .str s
  | .tup ds, v => ∃ a xs, v = .ref a ∧ SqT g.K H a xs ∧ RelsS g H ds xs
  | .lst ds, v => ∃ a xs, v = .ref a ∧ LstAt g H a xs ∧ RelsS g H ds xs
  | .bor _, _ => False
  | .frz ds, v => ∃ a xs, v = .ref a ∧ FrzAt g H a xs ∧ RelsS g H ds xs
  | .obj n, v => ∃ a, v = .ref a ∧ g.ρ[n]? = some a
  | .glob i, v => ∃ a, v = .ref a ∧ g.gA i = some a
def RelsS (g : Gh) (H : Hp) : List D → List V → Prop
  | [], xs => xs = []
  | d :: ds, xs => ∃ x r, xs = x :: r ∧ RelS g H d x ∧ RelsS g H ds r
end
/-- a value on its way: a slot's own list may be read -/
def RelT (g : Gh) (H : Hp) (d : D) (v : V) : Prop := match d with
  | .bor ds => ∃ a xs, v = .ref a ∧ BorAt g H a xs ∧ RelsS g H ds xs
  | d => RelS g H d v
def RelsT (g : Gh) (H : Hp) : List D → List V → Prop
  | [], xs => xs = []
  | d :: ds, xs => ∃ x r, xs = x :: r ∧ RelT g H d x ∧ RelsT g H ds r
theorem RelS.t {g : Gh} {H : Hp} {d : D} {v : V} (h : RelS g H d v) : RelT g H d v := by
  cases d <;> first | exact h | (simp only [RelS] at h)
theorem RelsS.t {g : Gh} {H : Hp} : ∀ {ds : List D} {vs : List V}, RelsS g H ds vs → RelsT g H ds vs
  | [], _, h => by simpa [RelsS, RelsT] using h
  | _ :: _, _, h => by
    simp only [RelsS] at h
    obtain ⟨x, r, e, h1, h2⟩ := h
    exact ⟨x, r, e, h1.t, RelsS.t h2⟩
/-- how a key of a dict is told -/
def isBor : D → Bool
  | .bor _ => true
  | _ => false
theorem RelT.s {g : Gh} {H : Hp} {d : D} {v : V} (h : RelT g H d v) (n : isBor d = false) : RelS g H d v := by
  cases d <;> first | exact h | (simp [isBor] at n)
mutual
/-- a key by value -/
def D.key : D → Option NestedKey
  | .non => some NestedKey.none
  | .bl b => some (NestedKey.num (if b then 1 else 0))
  | .int i => some (NestedKey.num i)
  | .str s => some (NestedKey.text s)
  | .tup ds => (D.keys ds).map NestedKey.tup
  | _ => none
def D.keys : List D → Option (List NestedKey)
  | [] => some []
  | d :: ds => match D.key d, D.keys ds with
    | some k, some ks => some (k :: ks)
    | _, _ => none
end
/-- a key that is an int or a text -/
def keyD : Key → D
  | .inl i => .int i
  | .inr s => .str s
/-- the object of a dict whose keys are tuples -/
def dictAt (P : Program) (w : World) (a : Addr) (xs : List (NestedKey × Addr × Value)) : Heap → Prop := fun h =>
  ∃ o es ep, h.get? a = some o ∧ o.ExactDict ∧ o.data = .dict es ep ∧ es.toList = xs.map (entryOfKey (nestedKind P w))
inductive Dic (P : Program) (w : World) (g : Gh) (H : Hp) (a : Addr) (kvs : List (D × D)) : Prop where
  | k (xs : List (Key × V)) : H a = some (.dK xs) → Paired (fun (p : D × D) (q : Key × V) => p.1 = keyD q.1 ∧ RelS g H p.2 q.2) kvs xs → Dic P w g H a kvs
  | t (xs : List (NestedKey × Addr × Value)) : (a == sysModules) = false → xs.length ≤ sizeLine → (xs.map (·.1)).Nodup → H a = some (.ext (dictAt P w a xs)) →
      Paired (fun (p : D × D) (q : NestedKey × Addr × Value) => D.key p.1 = some q.1 ∧ q.1.depth ≤ 8 ∧ RelS g H p.1 (.ref q.2.1) ∧ ∃ v, RelV v q.2.2 ∧ RelS g H p.2 v) kvs xs → Dic P w g H a kvs
/-- a cell -/
def CellRel (P : Program) (w : World) (g : Gh) (H : Hp) (a : Addr) : OB → Prop
  | .lst ds => ∃ xs, H a = some (.lst xs) ∧ RelsS g H ds xs
  | .dic kvs => Dic P w g H a kvs
  | .ins c fs => ∃ C dx vs, g.gA c = some C ∧ H a = some (.ins C dx vs) ∧ Paired (fun (p : Str × D) (q : Str × V) => p.1 = q.1 ∧ RelS g H p.2 q.2) fs vs
  | .mem M => ∃ kvs, M.P kvs ∧ Dic P w g H a kvs
structure HRel (P : Program) (w : World) (g : Gh) (H : Hp) (h : Cells) : Prop where
  len : g.ρ.length = h.length
  nd : g.ρ.Nodup
  wr : ∀ a ∈ g.ρ, g.W a
  wt : ∀ a u, g.W a → H a = some u → (∀ ys, u ≠ .tup ys) ∧ ∀ ob u', u ≠ .frz ob u'
  at_ : ∀ (n : Nat) a o, g.ρ[n]? = some a → h[n]? = some o → CellRel P w g H a o
/-- what changes while code runs -/
structure Ext (g : Gh) (H : Hp) (g' : Gh) (H' : Hp) : Prop where
  K : g'.K = g.K
  gA : g'.gA = g.gA
  pre : ∃ t, g'.ρ = g.ρ ++ t
  wn : ∀ a, g'.W a → g.W a ∨ H a = none
  wk : ∀ a, g.W a → g'.W a ∨ H a = none
  rw : ∀ a ∈ g'.ρ, g'.W a
  fr : ∀ a o, H a = some o → a ∉ g.ρ → H' a = some o
  nw : ∀ a ∈ g'.ρ, a ∉ g.ρ → H a = none
section
variable {P : Program} {w : World} {g g' g'' : Gh} {H H' H'' : Hp} {h h' : Cells}
theorem Dic.some {a : Addr} {kvs : List (D × D)} (x : Dic P w g H a kvs) : ∃ o, H a = some o ∧ (∀ ys, o ≠ .tup ys) ∧ ∀ ob u, o ≠ .frz ob u := by
  cases x with
  | k xs e _ => exact ⟨_, e, (fun ys z => by cases z), (fun _ _ z => by cases z)⟩
  | t xs _ _ _ e _ => exact ⟨_, e, (fun ys z => by cases z), (fun _ _ z => by cases z)⟩
theorem CellRel.some {a : Addr} {o : OB} (x : CellRel P w g H a o) : ∃ u, H a = some u ∧ (∀ ys, u ≠ .tup ys) ∧ ∀ ob u', u ≠ .frz ob u' := by
  cases o with
  | lst ds => obtain ⟨xs, e, _⟩ := x; exact ⟨_, e, (fun ys z => by cases z), (fun _ _ z => by cases z)⟩
  | dic kvs => exact Dic.some x
  | ins c fs => obtain ⟨C, dx, vs, _, e, _⟩ := x; exact ⟨_, e, (fun ys z => by cases z), (fun _ _ z => by cases z)⟩
  | mem M => obtain ⟨kvs, _, q⟩ := x; exact Dic.some q
theorem HRel.mem (r : HRel P w g H h) {a : Addr} (m : a ∈ g.ρ) : ∃ u, H a = some u ∧ (∀ ys, u ≠ .tup ys) ∧ ∀ ob u', u ≠ .frz ob u' := by
  obtain ⟨n, hn⟩ := List.mem_iff_getElem?.mp m
  have hl : n < h.length := by rw [← r.len]; exact (List.getElem?_eq_some_iff.mp hn).1
  exact (r.at_ n a h[n] hn (by simp [hl])).some
theorem Ext.refl (r : HRel P w g H h) : Ext g H g H := ⟨rfl, rfl, ⟨[], by simp⟩, fun _ z => .inl z, fun _ z => .inl z, r.wr, fun _ _ e _ => e, fun _ z n => absurd z n⟩
theorem Ext.mem (e : Ext g H g' H') {a : Addr} (m : a ∈ g.ρ) : a ∈ g'.ρ := by
  obtain ⟨t, z⟩ := e.pre
  rw [z]; exact List.mem_append_left _ m
theorem Ext.get (e : Ext g H g' H') {n : Nat} {a : Addr} (m : g.ρ[n]? = some a) : g'.ρ[n]? = some a := by
  obtain ⟨t, z⟩ := e.pre
  rw [z, List.getElem?_append_left (List.getElem?_eq_some_iff.mp m).1]; exact m
theorem Ext.trans (a : Ext g H g' H') (b : Ext g' H' g'' H'') : Ext g H g'' H'' where
  K := b.K.trans a.K
  gA := b.gA.trans a.gA
  pre := by
    obtain ⟨t, z⟩ := a.pre
    obtain ⟨t', z'⟩ := b.pre
    exact ⟨t ++ t', by rw [z', z, List.append_assoc]⟩
  wn := fun x hx => by
    rcases b.wn x hx with z | z
    · exact a.wn x z
    · by_cases m : x ∈ g.ρ
      · have q := a.rw x (a.mem m)
        exact a.wn x q
      · cases q : H x with
        | none => exact .inr rfl
        | some o => rw [a.fr x o q m] at z; cases z
  wk := fun x hx => by
    rcases a.wk x hx with z | z
    · rcases b.wk x z with z | z
      · exact .inl z
      · by_cases m : x ∈ g.ρ
        · exact .inl (b.rw x (b.mem (a.mem m)))
        · cases q : H x with
          | none => exact .inr rfl
          | some o => rw [a.fr x o q m] at z; cases z
    · exact .inr z
  rw := b.rw
  fr := fun x o q m => by
    have q' := a.fr x o q m
    by_cases m' : x ∈ g'.ρ
    · have z := a.nw x m' m
      rw [q] at z; cases z
    · exact b.fr x o q' m'
  nw := fun x m n => by
    by_cases m' : x ∈ g'.ρ
    · exact a.nw x m' n
    · have z := b.nw x m m'
      cases q : H x with
      | none => rfl
      | some o => rw [a.fr x o q n] at z; cases z
/-- what changes while statements run: what may be written may be written -/
structure ExtS (g : Gh) (H : Hp) (g' : Gh) (H' : Hp) : Prop where
  K : g'.K = g.K
  gA : g'.gA = g.gA
  pre : ∃ t, g'.ρ = g.ρ ++ t
  wn : ∀ a, g'.W a → g.W a ∨ H a = none
  fr : ∀ a o, H a = some o → ¬ g.W a → H' a = some o
theorem Ext.s (r : HRel P w g H h) (e : Ext g H g' H') : ExtS g H g' H' := ⟨e.K, e.gA, e.pre, e.wn, fun a o q n => e.fr a o q fun m => n (r.wr a m)⟩
theorem ExtS.refl (g : Gh) (H : Hp) : ExtS g H g H := ⟨rfl, rfl, ⟨[], by simp⟩, fun _ z => .inl z, fun _ _ e _ => e⟩
theorem ExtS.trans (a : ExtS g H g' H') (b : ExtS g' H' g'' H'') : ExtS g H g'' H'' where
  K := b.K.trans a.K
  gA := b.gA.trans a.gA
  pre := by
    obtain ⟨t, z⟩ := a.pre
    obtain ⟨t', z'⟩ := b.pre
    exact ⟨t ++ t', by rw [z', z, List.append_assoc]⟩
  wn := fun x hx => by
    rcases b.wn x hx with z | z
    · exact a.wn x z
    · by_cases m : g.W x
      · exact .inl m
      · cases q : H x with
        | none => exact .inr rfl
        | some o => rw [a.fr x o q m] at z; cases z
  fr := fun x o q m => b.fr x o (a.fr x o q m) fun z => by
    rcases a.wn x z with z | z
    · exact m z
    · rw [q] at z; cases z
theorem ExtS.get (e : ExtS g H g' H') {n : Nat} {a : Addr} (m : g.ρ[n]? = some a) : g'.ρ[n]? = some a := by
  obtain ⟨t, z⟩ := e.pre
  rw [z, List.getElem?_append_left (List.getElem?_eq_some_iff.mp m).1]; exact m
theorem SqT.exts (r : HRel P w g H h) (e : ExtS g H g' H') {a : Addr} {xs : List V} (q : SqT g.K H a xs) : SqT g'.K H' a xs := by
  rcases q with q | ⟨o, its, n, q⟩
  · refine .inl ?_
    rcases q with q | ⟨o, q⟩
    · exact .inl (e.fr a _ q fun m => (r.wt a _ m q).1 xs rfl)
    · exact .inr ⟨o, e.fr a _ q fun m => (r.wt a _ m q).2 _ _ rfl⟩
  · exact .inr ⟨o, its, n, by rw [e.K]; exact q⟩
theorem LstAt.exts (e : ExtS g H g' H') {a : Addr} {xs : List V} (q : LstAt g H a xs) : LstAt g' H' a xs := by
  obtain ⟨q, n⟩ := q
  refine ⟨e.fr a _ q n, fun z => ?_⟩
  rcases e.wn a z with z | z
  · exact n z
  · rw [q] at z; cases z
theorem BorAt.ext (r : HRel P w g H h) (e : Ext g H g' H') {a : Addr} {xs : List V} (q : BorAt g H a xs) : BorAt g' H' a xs := by
  obtain ⟨q, n⟩ := q
  refine ⟨e.fr a _ q n, fun z => ?_⟩
  have z := e.nw a z n
  rw [q] at z; cases z
theorem FrzAt.exts (r : HRel P w g H h) (e : ExtS g H g' H') {a : Addr} {xs : List V} (q : FrzAt g H a xs) : FrzAt g' H' a xs := by
  rcases q with ⟨o, q⟩ | q
  · exact .inl ⟨o, e.fr a _ q fun m => (r.wt a _ m q).2 _ _ rfl⟩
  · exact .inr (by rw [e.K]; exact q)
mutual
theorem RelS.exts (r : HRel P w g H h) (e : ExtS g H g' H') : ∀ {d : D} {v : V}, RelS g H d v → RelS g' H' d v
  | .non, _, q | .bl _, _, q | .int _, _, q | .str _, _, q => by simpa only [RelS] using q
  | .tup ds, _, q => by
    simp only [RelS] at q ⊢
    obtain ⟨a, xs, e1, e2, e3⟩ := q
    exact ⟨a, xs, e1, SqT.exts r e e2, RelsS.exts r e e3⟩
  | .lst ds, _, q => by
    simp only [RelS] at q ⊢
    obtain ⟨a, xs, e1, e2, e3⟩ := q
    exact ⟨a, xs, e1, LstAt.exts e e2, RelsS.exts r e e3⟩
  | .bor _, _, q => by simp only [RelS] at q
  | .frz ds, _, q => by
    simp only [RelS] at q ⊢
    obtain ⟨a, xs, e1, e2, e3⟩ := q
    exact ⟨a, xs, e1, FrzAt.exts r e e2, RelsS.exts r e e3⟩
  | .obj n, _, q => by
    simp only [RelS] at q ⊢
    obtain ⟨a, e1, e2⟩ := q
    exact ⟨a, e1, e.get e2⟩
  | .glob i, _, q => by
    simp only [RelS] at q ⊢
    obtain ⟨a, e1, e2⟩ := q
    exact ⟨a, e1, by rw [e.gA]; exact e2⟩
theorem RelsS.exts (r : HRel P w g H h) (e : ExtS g H g' H') : ∀ {ds : List D} {vs : List V}, RelsS g H ds vs → RelsS g' H' ds vs
  | [], _, q => by simpa only [RelsS] using q
  | d :: ds, _, q => by
    simp only [RelsS] at q ⊢
    obtain ⟨x, rr, e1, e2, e3⟩ := q
    exact ⟨x, rr, e1, RelS.exts r e e2, RelsS.exts r e e3⟩
end
theorem RelS.ext (r : HRel P w g H h) (e : Ext g H g' H') {d : D} {v : V} (q : RelS g H d v) : RelS g' H' d v := RelS.exts r (e.s r) q
theorem RelsS.ext (r : HRel P w g H h) (e : Ext g H g' H') {ds : List D} {vs : List V} (q : RelsS g H ds vs) : RelsS g' H' ds vs := RelsS.exts r (e.s r) q
theorem RelT.ext (r : HRel P w g H h) (e : Ext g H g' H') {d : D} {v : V} (q : RelT g H d v) : RelT g' H' d v := by
  cases d with
  | bor ds =>
    obtain ⟨a, xs, e1, e2, e3⟩ := q
    exact ⟨a, xs, e1, BorAt.ext r e e2, RelsS.ext r e e3⟩
  | _ => exact RelS.ext r e (by exact q)
theorem RelsT.ext (r : HRel P w g H h) (e : Ext g H g' H') : ∀ {ds : List D} {vs : List V}, RelsT g H ds vs → RelsT g' H' ds vs
  | [], _, q => q
  | d :: ds, _, q => by
    obtain ⟨x, rr, e1, e2, e3⟩ := q
    exact ⟨x, rr, e1, RelT.ext r e e2, RelsT.ext r e e3⟩
theorem RelsS.len : ∀ {ds : List D} {vs : List V}, RelsS g H ds vs → ds.length = vs.length
  | [], _, q => by simp only [RelsS] at q; rw [q]; rfl
  | d :: ds, _, q => by
    simp only [RelsS] at q
    obtain ⟨x, rr, e1, _, e3⟩ := q
    rw [e1, List.length_cons, List.length_cons, RelsS.len e3]
theorem RelsS.get : ∀ {ds : List D} {vs : List V} {i : Nat} {d : D}, RelsS g H ds vs → ds[i]? = some d → ∃ v, vs[i]? = some v ∧ RelS g H d v
  | [], _, _, _, _, z => by simp at z
  | d :: ds, _, 0, _, q, z => by
    simp only [RelsS] at q
    obtain ⟨x, rr, e1, e2, e3⟩ := q
    simp at z; subst z
    exact ⟨x, by rw [e1]; rfl, e2⟩
  | d :: ds, _, i + 1, _, q, z => by
    simp only [RelsS] at q
    obtain ⟨x, rr, e1, e2, e3⟩ := q
    obtain ⟨v, h1, h2⟩ := RelsS.get (i := i) e3 (by simpa using z)
    exact ⟨v, by rw [e1]; simpa using h1, h2⟩
theorem RelsS.getV : ∀ {ds : List D} {vs : List V} {i : Nat} {v : V}, RelsS g H ds vs → vs[i]? = some v → ∃ d, ds[i]? = some d ∧ RelS g H d v
  | [], _, _, _, q, z => by simp only [RelsS] at q; rw [q] at z; simp at z
  | d :: ds, _, 0, _, q, z => by
    simp only [RelsS] at q
    obtain ⟨x, rr, e1, e2, e3⟩ := q
    rw [e1] at z
    simp at z; subst z
    exact ⟨d, rfl, e2⟩
  | d :: ds, _, i + 1, _, q, z => by
    simp only [RelsS] at q
    obtain ⟨x, rr, e1, e2, e3⟩ := q
    rw [e1] at z
    obtain ⟨d', h1, h2⟩ := RelsS.getV (i := i) e3 (by simpa using z)
    exact ⟨d', by simpa using h1, h2⟩
theorem RelsS.app : ∀ {ds es : List D} {vs us : List V}, RelsS g H ds vs → RelsS g H es us → RelsS g H (ds ++ es) (vs ++ us)
  | [], _, _, _, q, z => by simp only [RelsS] at q; rw [q]; exact z
  | d :: ds, _, _, _, q, z => by
    simp only [RelsS] at q
    obtain ⟨x, rr, e1, e2, e3⟩ := q
    rw [e1]
    exact ⟨x, _, rfl, e2, RelsS.app e3 z⟩
theorem RelsS.one {d : D} {v : V} (q : RelS g H d v) : RelsS g H [d] [v] := ⟨v, [], rfl, q, rfl⟩
theorem RelsS.set : ∀ {ds : List D} {vs : List V} {d : D} {v : V} (i : Nat), RelsS g H ds vs → RelS g H d v → RelsS g H (ds.set i d) (vs.set i v)
  | [], _, _, _, _, q, z => by simp only [RelsS] at q; rw [q]; exact rfl
  | _ :: ds, _, _, _, 0, q, z => by
    simp only [RelsS] at q
    obtain ⟨x, rr, e1, e2, e3⟩ := q
    rw [e1]
    exact ⟨_, rr, rfl, z, e3⟩
  | _ :: ds, _, _, _, i + 1, q, z => by
    simp only [RelsS] at q
    obtain ⟨x, rr, e1, e2, e3⟩ := q
    rw [e1]
    exact ⟨x, _, rfl, e2, RelsS.set i e3 z⟩
theorem RelsS.drop : ∀ {ds : List D} {vs : List V} (n : Nat), RelsS g H ds vs → RelsS g H (ds.drop n) (vs.drop n)
  | _, _, 0, q => q
  | [], _, n + 1, q => by simp only [RelsS] at q; rw [q]; exact rfl
  | _ :: _, _, n + 1, q => by
    simp only [RelsS] at q
    obtain ⟨x, rr, e1, e2, e3⟩ := q
    rw [e1]
    exact RelsS.drop n e3
theorem RelsS.take : ∀ {ds : List D} {vs : List V} (n : Nat), RelsS g H ds vs → RelsS g H (ds.take n) (vs.take n)
  | _, _, 0, q => by simp only [List.take_zero]; exact rfl
  | [], _, n + 1, q => by simp only [RelsS] at q; rw [q]; exact rfl
  | _ :: _, _, n + 1, q => by
    simp only [RelsS] at q
    obtain ⟨x, rr, e1, e2, e3⟩ := q
    rw [e1]
    exact ⟨x, _, rfl, e2, RelsS.take n e3⟩
end
end EV
/-! EV2: readings of the evaluator; names, constants, operators -/
namespace EV
open PySem L2
/-- what a slot holds -/
def SlRel (g : Gh) (own : Nat → Option Addr) (σ : L2.St) (H : Hp) (i : Nat) : Sl → Prop
  | .no => True
  | .val d => ∃ v, σ[i]? = some (some v) ∧ RelS g H d v
  | .own ds => ∃ a xs, own i = some a ∧ σ[i]? = some (some (.ref a)) ∧ H a = some (.lst xs) ∧ RelsS g H ds xs
structure LR (g : Gh) (own : Nat → Option Addr) (env : Ev) (σ : L2.St) (H : Hp) : Prop where
  len : env.length = σ.length
  inj : ∀ i j a, own i = some a → own j = some a → i = j
  ow : ∀ i a, own i = some a → g.W a ∧ a ∉ g.ρ ∧ ∃ o, H a = some o
  sl : ∀ i s, env[i]? = some s → SlRel g own σ H i s
/-- an exception in the air -/
def ExcRel (g : Gh) (H : Hp) (e : Exc) (cls : Value) (d : Option Addr) : Prop :=
  (∃ C, cls = .ref C ∧ g.gA e.cls = some C) ∧ ∃ p vs, d = some p ∧ H p = some (.xd vs) ∧ p ∉ g.ρ ∧ Paired (fun (x : Str × D) (y : Str × V) => x.1 = y.1 ∧ RelS g H x.2 y.2) e.fs vs
structure Gx where
  gA : Nat → Option Addr
  fns : Fns
  Wx : XK
def Post {α : Type} (X : Cx) (G : Gx) (g : Gh) (H : Hp) (r : R α) (K : Gh → Hp → α → Cells → Prop) : Prop := match r with
  | .ok a h' => ∀ g' H', Ext g H g' H' → HRel X.prog X.w g' H' h' → K g' H' a h'
  | .exc e h' => ∀ g' H' cls d, Ext g H g' H' → HRel X.prog X.w g' H' h' → ExcRel g' H' e cls d → G.Wx cls d H'
  | .bad => False
section
variable {α β : Type} {X : Cx} {G : Gx} {g g' : Gh} {H H' : Hp} {h h' : Cells}
theorem Post.mono {r : R α} {K : Gh → Hp → α → Cells → Prop} (p : Post X G g H r K) (e : Ext g H g' H') : Post X G g' H' r K := by
  cases r with
  | ok a h' => exact fun g2 H2 e2 r2 => p g2 H2 (e.trans e2) r2
  | exc x h' => exact fun g2 H2 c d e2 r2 q => p g2 H2 c d (e.trans e2) r2 q
  | bad => exact p
theorem Post.imp {r : R α} {K K' : Gh → Hp → α → Cells → Prop} (p : Post X G g H r K) (k : ∀ g' H' a h', Ext g H g' H' → HRel X.prog X.w g' H' h' → K g' H' a h' → K' g' H' a h') : Post X G g H r K' := by
  cases r with
  | ok a h' => exact fun g2 H2 e2 r2 => k g2 H2 a h' e2 r2 (p g2 H2 e2 r2)
  | exc x h' => exact p
  | bad => exact p
theorem Post.bind {r : R α} {f : α → Cells → R β} {K : Gh → Hp → β → Cells → Prop} (p : Post X G g H (r.bind f) K) : Post X G g H r fun g1 H1 a h1 => Post X G g1 H1 (f a h1) K := by
  cases r with
  | ok a h' => exact fun g2 H2 e2 r2 => Post.mono (show Post X G g H (f a h') K from p) e2
  | exc x h' => exact p
  | bad => exact p
theorem LR.step {own : Nat → Option Addr} {env : Ev} {σ : L2.St} (l : LR g own env σ H) (r : HRel X.prog X.w g H h) (e : Ext g H g' H') : LR g' own env σ H' where
  len := l.len
  inj := l.inj
  ow := fun i a z => by
    obtain ⟨h1, h2, o, h3⟩ := l.ow i a z
    refine ⟨?_, fun m => ?_, o, e.fr a o h3 h2⟩
    · rcases e.wk a h1 with q | q
      · exact q
      · rw [h3] at q; cases q
    · have q := e.nw a m h2
      rw [h3] at q; cases q
  sl := fun i s z => by
    have q := l.sl i s z
    cases s with
    | no => trivial
    | val d =>
      obtain ⟨v, h1, h2⟩ := q
      exact ⟨v, h1, RelS.ext r e h2⟩
    | own ds =>
      obtain ⟨a, xs, h1, h2, h3, h4⟩ := q
      exact ⟨a, xs, h1, h2, e.fr a _ h3 (l.ow i a h1).2.1, RelsS.ext r e h4⟩
theorem Dic.exts {a : Addr} {kvs : List (D × D)} (x : Dic X.prog X.w g H a kvs) (r : HRel X.prog X.w g H h) (e : ExtS g H g' H') (ea : H' a = H a) : Dic X.prog X.w g' H' a kvs := by
  cases x with
  | k xs h1 h2 => exact Dic.k xs (by rw [ea]; exact h1) (Paired.mapP h2 fun _ _ z => ⟨z.1, RelS.exts r e z.2⟩)
  | t xs h1 h2 h3 h4 h5 => exact Dic.t xs h1 h2 h3 (by rw [ea]; exact h4) (Paired.mapP h5 fun _ _ z => ⟨z.1, z.2.1, RelS.exts r e z.2.2.1, let ⟨v, z1, z2⟩ := z.2.2.2; ⟨v, z1, RelS.exts r e z2⟩⟩)
/-- cells stay -/
theorem CellRel.exts {a : Addr} {o : OB} (x : CellRel X.prog X.w g H a o) (r : HRel X.prog X.w g H h) (e : ExtS g H g' H') (ea : H' a = H a) : CellRel X.prog X.w g' H' a o := by
  cases o with
  | lst ds =>
    obtain ⟨xs, h1, h2⟩ := x
    exact ⟨xs, by rw [ea]; exact h1, RelsS.exts r e h2⟩
  | dic kvs =>
    cases (show Dic _ _ _ _ _ _ from x) with
    | k xs h1 h2 => exact Dic.k xs (by rw [ea]; exact h1) (Paired.mapP h2 fun _ _ z => ⟨z.1, RelS.exts r e z.2⟩)
    | t xs h1 h2 h3 h4 h5 => exact Dic.t xs h1 h2 h3 (by rw [ea]; exact h4) (Paired.mapP h5 fun _ _ z => ⟨z.1, z.2.1, RelS.exts r e z.2.2.1, let ⟨v, z1, z2⟩ := z.2.2.2; ⟨v, z1, RelS.exts r e z2⟩⟩)
  | ins c fs =>
    obtain ⟨C, dx, vs, h1, h2, h3⟩ := x
    exact ⟨C, dx, vs, by rw [e.gA]; exact h1, by rw [ea]; exact h2, Paired.mapP h3 fun _ _ z => ⟨z.1, RelS.exts r e z.2⟩⟩
  | mem M =>
    obtain ⟨kvs, h1, h2⟩ := x
    exact ⟨kvs, h1, Dic.exts h2 r e ea⟩
theorem CellRel.ext {a : Addr} {o : OB} (x : CellRel X.prog X.w g H a o) (r : HRel X.prog X.w g H h) (e : Ext g H g' H') (ea : H' a = H a) : CellRel X.prog X.w g' H' a o := x.exts r (e.s r) ea
/-- all cells stand, something else changed -/
theorem HRel.ext (r : HRel X.prog X.w g H h) (e : Ext g H g' H') (eρ : g'.ρ = g.ρ) (ea : ∀ a ∈ g.ρ, H' a = H a) (ew : ∀ a, g'.W a → H' a = H a) : HRel X.prog X.w g' H' h where
  len := by rw [eρ]; exact r.len
  nd := by rw [eρ]; exact r.nd
  wr := e.rw
  wt := fun a u h1 h2 => by
    rcases e.wn a h1 with z | z
    · exact r.wt a u z (by rw [← ew a h1]; exact h2)
    · rw [ew a h1, z] at h2; cases h2
  at_ := fun n a o h1 h2 => by
    rw [eρ] at h1
    exact (r.at_ n a o h1 h2).ext r e (ea a (List.mem_of_getElem? h1))
/-- the ghost with p out of what may be written -/
def Gh.less (g : Gh) (p : Addr) : Gh := { g with W := fun a => g.W a ∧ a ≠ p }
theorem Ext.new (r : HRel X.prog X.w g H h) {p : Addr} {o : HO} (hp : H p = none) : Ext g H (g.less p) (upd H p o) where
  K := rfl
  gA := rfl
  pre := ⟨[], by simp [Gh.less]⟩
  wn := fun a z => .inl z.1
  wk := fun a z => by
    by_cases q : a = p
    · exact .inr (q ▸ hp)
    · exact .inl ⟨z, q⟩
  rw := fun a m => ⟨r.wr a m, fun q => by
    obtain ⟨u, hu, _⟩ := r.mem m
    rw [q, hp] at hu; cases hu⟩
  fr := fun a u z _ => by rw [upd_ne (ne_of_none z hp)]; exact z
  nw := fun a m n => absurd m n
theorem HRel.new (r : HRel X.prog X.w g H h) {p : Addr} {o : HO} (hp : H p = none) : HRel X.prog X.w (g.less p) (upd H p o) h :=
  r.ext (Ext.new r hp) rfl (fun a m => by
    obtain ⟨u, hu, _⟩ := r.mem m
    exact upd_ne (ne_of_none hu hp)) fun a z => upd_ne z.2
/-- a new list by value, a new tuple -/
theorem RelS.newL (r : HRel X.prog X.w g H h) {p : Addr} {xs : List V} {ds : List D} (hp : H p = none) (q : RelsS g H ds xs) : RelS (g.less p) (upd H p (.lst xs)) (.lst ds) (.ref p) :=
  ⟨p, xs, rfl, ⟨upd_same, fun z => z.2 rfl⟩, RelsS.ext r (Ext.new r hp) q⟩
theorem RelS.newT (r : HRel X.prog X.w g H h) {p : Addr} {xs : List V} {ds : List D} (hp : H p = none) (q : RelsS g H ds xs) : RelS (g.less p) (upd H p (.tup xs)) (.tup ds) (.ref p) :=
  ⟨p, xs, rfl, .inl (.inl upd_same), RelsS.ext r (Ext.new r hp) q⟩
end
/-! ### readings -/
structure GOk (X : Cx) (G : Gx) (g : Gh) : Prop where
  K : g.K = X.K
  gA : g.gA = G.gA
theorem GOk.ext {X : Cx} {G : Gx} {g g' : Gh} {H H' : Hp} (o : GOk X G g) (e : Ext g H g' H') : GOk X G g' := ⟨e.K.trans o.K, e.gA.trans o.gA⟩
abbrev DE := Fns → Ev → Cells → R D
abbrev DT := Fns → Ev → Cells → R Bool
abbrev DA := Fns → Ev → Cells → R (List D)
/-- what an evaluation reads as: α told by Rel -/
def tG {α β : Type} (Rel : Gh → Hp → α → β → Prop) (X : Cx) (G : Gx) (de : Fns → Ev → Cells → R α) : L2.St → Hp → (β → Hp → Prop) → Prop := fun σ H Q =>
  ∃ g own env h, GOk X G g ∧ HRel X.prog X.w g H h ∧ LR g own env σ H ∧ Post X G g H (de G.fns env h) fun g' H' d _ => ∀ v, Rel g' H' d v → Q v H'
abbrev tD (X : Cx) (G : Gx) (de : DE) : TE := tG RelT X G de
abbrev tT (X : Cx) (G : Gx) (de : DT) : TT := tG (fun _ _ b v => v = b) X G de
abbrev tA (X : Cx) (G : Gx) (de : DA) : TA := tG RelsT X G de
theorem PE.imp {X : Cx} {e : Expr} {t t' : TE} (h : PE X e t) (k : ∀ σ H Q, t' σ H Q → t σ H Q) : PE X e t' := ⟨fun pins s σ H Q I q => h.run pins s σ H Q I (k σ H Q q)⟩
theorem PT.imp {X : Cx} {e : Expr} {t t' : TT} (h : PT X e t) (k : ∀ σ H Q, t' σ H Q → t σ H Q) : PT X e t' := ⟨fun pins s σ H Q I q => h.run pins s σ H Q I (k σ H Q q)⟩
theorem PW.imp {X : Cx} {e : Expr} {t t' : TT} (h : PW X e t) (k : ∀ σ H Q, t' σ H Q → t σ H Q) : PW X e t' := ⟨fun wh pins s σ H Q I q => h.run wh pins s σ H Q I (k σ H Q q)⟩
theorem PA.imp {X : Cx} {e : List Expr} {t t' : TA} (h : PA X e t) (k : ∀ σ H Q, t' σ H Q → t σ H Q) : PA X e t' := ⟨fun pos pins s σ H Q I q => h.run pos pins s σ H Q I (k σ H Q q)⟩
theorem PS.imp {X : Cx} {e : Stmt} {t t' : TS} (h : PS X e t) (k : ∀ D σ H, t' D σ H → t D σ H) : PS X e t' := ⟨fun pins s σ H D I q => h.run pins s σ H D I (k D σ H q)⟩
theorem PSs.imp {X : Cx} {e : List Stmt} {t t' : TS} (h : PSs X e t) (k : ∀ D σ H, t' D σ H → t D σ H) : PSs X e t' := ⟨fun pins s σ H D I q => h.run pins s σ H D I (k D σ H q)⟩
section
variable {X : Cx} {G : Gx}
/-- first de, then what follows on the value -/
theorem tG.bind {α β α' β' : Type} {Rel : Gh → Hp → α → β → Prop} {Rel' : Gh → Hp → α' → β' → Prop} {de : Fns → Ev → Cells → R α} {f : Fns → Ev → α → Cells → R α'} {σ : L2.St} {H : Hp} {Q : β' → Hp → Prop} {T : β → Hp → Prop}
    (p : tG Rel' X G (fun fn env h => (de fn env h).bind fun a h1 => f fn env a h1) σ H Q)
    (k : ∀ g own env h H1 a v, GOk X G g → HRel X.prog X.w g H1 h → LR g own env σ H1 → Rel g H1 a v → Post X G g H1 (f G.fns env a h) (fun g' H' d _ => ∀ v, Rel' g' H' d v → Q v H') → T v H1) : tG Rel X G de σ H T := by
  obtain ⟨g, own, env, h, o, r, l, p⟩ := p
  refine ⟨g, own, env, h, o, r, l, (Post.bind p).imp fun g1 H1 a h1 e1 r1 p1 v q => ?_⟩
  exact k g1 own env h1 H1 a v (o.ext e1) r1 (l.step r e1) q p1
/-- behind the first: the value stays told -/
theorem tG.mk {α β : Type} {Rel : Gh → Hp → α → β → Prop} {de : Fns → Ev → Cells → R α} {g : Gh} {own : Nat → Option Addr} {env : Ev} {h : Cells} {σ : L2.St} {H : Hp} {Q : β → Hp → Prop} (o : GOk X G g) (r : HRel X.prog X.w g H h) (l : LR g own env σ H)
    (p : Post X G g H (de G.fns env h) fun g' H' d _ => ∀ v, Rel g' H' d v → Q v H') : tG Rel X G de σ H Q := ⟨g, own, env, h, o, r, l, p⟩
/-! ### names, constants -/
def dC (d : D) : DE := fun _ _ h => .ok d h
def dVar (i : Nat) : DE := fun _ env h => match env[i]? with
  | some (.val d) => .ok d h
  | some (.own ds) => .ok (.bor ds) h
  | _ => .bad
theorem Post.now {α : Type} {g : Gh} {H : Hp} {h : Cells} {a : α} {K : Gh → Hp → α → Cells → Prop} (r : HRel X.prog X.w g H h) (p : Post X G g H (.ok a h) K) : K g H a h := p g H (Ext.refl r) r
theorem tG.c {d : D} {v : V} {σ : L2.St} {H : Hp} {Q : VK} (p : tD X G (dC d) σ H Q) (k : ∀ g, GOk X G g → RelT g H d v) : Q v H := by
  obtain ⟨g, own, env, h, o, r, l, p⟩ := p
  exact Post.now r p v (k g o)
theorem s_var {i : Nat} {x : Str} {pos : Pos} (hN : X.N[i]? = some x) (hv : Vis X.env.scope x) (hd : (x == ("__debug__" : Str)) = false) (hcd : (x == ("__classdict__" : Str)) = false) : PE X (.Name x pos) (tD X G (dVar i)) := by
  refine PE.imp (pe_var hN hv hd hcd) fun σ H Q ⟨g, own, env, h, o, r, l, p⟩ => ?_
  unfold dVar at p
  cases e : env[i]? with
  | none => rw [e] at p; exact p.elim
  | some s =>
    rw [e] at p
    have q := l.sl i s e
    cases s with
    | no => exact p.elim
    | val d =>
      obtain ⟨v, h1, h2⟩ := q
      exact ⟨v, h1, Post.now r p v h2.t⟩
    | own ds =>
      obtain ⟨a, xs, h1, h2, h3, h4⟩ := q
      exact ⟨_, h2, Post.now r p _ ⟨a, xs, rfl, ⟨h3, (l.ow i a h1).2.1⟩, h4⟩⟩
theorem s_int {i : Int} {j : Nat} {pos : Pos} : PE X (.Constant (.int i) j pos) (tD X G (dC (.int i))) := PE.imp pe_int fun _ _ _ p => p.c fun _ _ => rfl
theorem s_bl {b : Bool} {j : Nat} {pos : Pos} : PE X (.Constant (.bool b) j pos) (tD X G (dC (.bl b))) := PE.imp pe_bl fun _ _ _ p => p.c fun _ _ => rfl
theorem s_non {j : Nat} {pos : Pos} : PE X (.Constant .none j pos) (tD X G (dC .non)) := PE.imp pe_non fun _ _ _ p => p.c fun _ _ => rfl
theorem s_str {x : Str} {j : Nat} {pos : Pos} : PE X (.Constant (.str x) j pos) (tD X G (dC (.str x))) := PE.imp pe_str fun _ _ _ p => p.c fun _ _ => rfl
/-- a global name whose value is known -/
theorem s_glob {x : Str} {d : D} {v : V} {u : Value} {pos : Pos} (hg : Gl X x) (hm : X.mg x = some u) (r : RelV v u) (hd : (x == ("__debug__" : Str)) = false) (k : ∀ g H, GOk X G g → RelS g H d v) : PE X (.Name x pos) (tD X G (dC d)) :=
  PE.imp (pe_glob hg hm r hd) fun _ _ _ p => p.c fun g o => (k g _ o).t
/-! ### operations on values -/
abbrev O1 := D → Cells → R D
abbrev O2 := D → D → Cells → R D
abbrev ON := List D → Cells → R D
def rO1 (X : Cx) (G : Gx) (o : O1) : V → Hp → VK → Prop := fun x H Q => ∃ g h d, GOk X G g ∧ HRel X.prog X.w g H h ∧ RelT g H d x ∧ Post X G g H (o d h) fun g' H' r _ => ∀ v, RelT g' H' r v → Q v H'
def rO2 (X : Cx) (G : Gx) (o : O2) : R2 := fun x y H Q => ∃ g h d e, GOk X G g ∧ HRel X.prog X.w g H h ∧ RelT g H d x ∧ RelT g H e y ∧ Post X G g H (o d e h) fun g' H' r _ => ∀ v, RelT g' H' r v → Q v H'
def rON (X : Cx) (G : Gx) (o : ON) : List V → Hp → VK → Prop := fun xs H Q => ∃ g h ds, GOk X G g ∧ HRel X.prog X.w g H h ∧ RelsT g H ds xs ∧ Post X G g H (o ds h) fun g' H' r _ => ∀ v, RelT g' H' r v → Q v H'
def dOp1 (o : O1) (a : DE) : DE := fun fn env h => (a fn env h).bind fun x h1 => o x h1
def dOp2 (o : O2) (a b : DE) : DE := fun fn env h => (a fn env h).bind fun x h1 => (b fn env h1).bind fun y h2 => o x y h2
def dOpN (o : ON) (a : DA) : DE := fun fn env h => (a fn env h).bind fun xs h1 => o xs h1
variable {a b e : Expr} {da db : DE} {pos : Pos}
theorem tOp2 {o : O2} {σ : L2.St} {H : Hp} {Q : VK} (p : tD X G (dOp2 o da db) σ H Q) : tOp (rO2 X G o) (tD X G da) (tD X G db) σ H Q := by
  refine tG.bind (f := fun fn env x h1 => (db fn env h1).bind fun y h2 => o x y h2) p fun g own env h H1 d v og r l q p1 => ?_
  refine tG.mk og r l ((Post.bind p1).imp fun g2 H2 d2 h2 e2 r2 p2 v2 q2 => ?_)
  exact ⟨g2, h2, d, d2, og.ext e2, r2, RelT.ext r e2 q, q2, p2⟩
theorem tOp1 {o : O1} {σ : L2.St} {H : Hp} {Q : VK} (p : tD X G (dOp1 o da) σ H Q) : tUn (rO1 X G o) (tD X G da) σ H Q :=
  tG.bind (f := fun fn env x h1 => o x h1) p fun g own env h H1 d v og r l q p1 => ⟨g, h, d, og, r, q, p1⟩
theorem s_bin {op : Operator} {o : O2} (ho : OpR X (binaryOp op) (rO2 X G o)) (ha : PE X a (tD X G da)) (hb : PE X b (tD X G db)) : PE X (.BinOp a op b pos) (tD X G (dOp2 o da db)) :=
  PE.imp (pe_op ho ha hb) fun _ _ _ p => tOp2 p
theorem s_un {op : UnaryOp} {o : O1} (ho : UnR X (unaryOp op) (rO1 X G o)) (ha : PE X a (tD X G da)) : PE X (.UnaryOp op a pos) (tD X G (dOp1 o da)) :=
  PE.imp (pe_un ho ha) fun _ _ _ p => tOp1 p
theorem s_cmp {op : CmpOp} {o : O2} (ho : OpR X (compareOp op) (rO2 X G o)) (ha : PE X a (tD X G da)) (hb : PE X b (tD X G db)) (hm : behindInMarks op b = false) : PE X (.Compare a [op] [b] pos) (tD X G (dOp2 o da db)) :=
  PE.imp (pe_cmpR ho ha hb hm) fun _ _ _ p => tOp2 p
/-- a value as a test's answer -/
def asB (r : R D) : R Bool := r.bind fun d h => match d with
  | .bl b => .ok b h
  | _ => .bad
theorem tB_of {de : DE} {σ : L2.St} {H : Hp} {Q : Bool → Hp → Prop} (p : tT X G (fun fn env h => asB (de fn env h)) σ H Q) : tD X G de σ H (fun x H' => ∃ k, x = .bl k ∧ Q k H') := by
  refine tG.bind (f := fun fn env d h => match d with
    | .bl b => .ok b h
    | _ => .bad) p fun g own env h H1 d v og r l q p1 => ?_
  cases d <;> first
    | exact p1.elim
    | exact ⟨_, q, Post.now r p1 _ rfl⟩
theorem s_cmpT {op : CmpOp} {o : O2} (ho : OpR X (compareOp op) (rO2 X G o)) (ha : PE X a (tD X G da)) (hb : PE X b (tD X G db)) (hm : behindInMarks op b = false) : PT X (.Compare a [op] [b] pos) (tT X G fun fn env h => asB (dOp2 o da db fn env h)) :=
  PT.imp (pt_cmpR ho ha hb hm) fun _ _ _ p => by
    obtain ⟨g, own, env, h, og, r, l, q⟩ := tB_of p
    exact tOp2 ⟨g, own, env, h, og, r, l, q⟩
end
end EV
/-! EV3: operations on values -/
namespace EV
open PySem L2
section
open PySem.Spec PyProof.Rows
theorem tmul_none (l : Addr) (items : Array Value) (n : Nat) (dd : Option Addr) (sl : Array (Option Value)) (x : Int) (u : Tok) (e0 : (decide (x < -(2 ^ 63)) || decide (x ≥ 2 ^ 63)) = false)
    (e1 : (items.isEmpty || x == 1) = false) (e2 : (decide (x ≤ 0) || items.isEmpty) = true) :
    Meets (Builtin.«tuple.__mul__» ⟨[.ref l, .int x u], []⟩) (fun _ R s => s.heap.get? l = some { cls := .type "tuple", dict := dd, data := .seq items n, slots := sl } ∧
      R (.ok (.ret (Value.ref s.heap.objs.size))) { s with heap := s.heap.push { cls := Value.type "tuple", data := Data.seq #[] }, toks := s.toks }) :=
  .of_wp fun prog w A R s h => by
    obtain ⟨hp, g, d, tk, os⟩ := s
    obtain ⟨hl, h⟩ := h
    have f1 := AutoSeq1.idx_int
    wp_walk using wpAny_loadPart' hl
    repeat (first
      | (refine wpAny_ite_false (decide_eq_false (by rw [e0]; exact Bool.false_ne_true)) ?_; wp_walk using wpAny_loadPart' hl)
      | (refine wpAny_ite_false (decide_eq_false (by rw [e1]; exact Bool.false_ne_true)) ?_; wp_walk using wpAny_loadPart' hl)
      | (refine wpAny_ite_true (decide_eq_true e2) ?_; wp_walk using wpAny_loadPart' hl)
      | (refine wpAny_ite_false (decide_eq_false (by decide)) ?_; wp_walk using wpAny_loadPart' hl))
    all_goals exact ⟨_, rfl, h⟩
theorem tmul_same (l : Addr) (items : Array Value) (n : Nat) (dd : Option Addr) (sl : Array (Option Value)) (x : Int) (u : Tok) (e0 : (decide (x < -(2 ^ 63)) || decide (x ≥ 2 ^ 63)) = false)
    (e1 : (items.isEmpty || x == 1) = true) :
    Meets (Builtin.«tuple.__mul__» ⟨[.ref l, .int x u], []⟩) (fun _ R s => s.heap.get? l = some { cls := .type "tuple", dict := dd, data := .seq items n, slots := sl } ∧
      R (.ok (.ret (Value.ref l))) s) :=
  .of_wp fun prog w A R s h => by
    obtain ⟨hp, g, d, tk, os⟩ := s
    obtain ⟨hl, h⟩ := h
    have f1 := AutoSeq1.idx_int
    wp_walk using wpAny_loadPart' hl
    repeat (first
      | (refine wpAny_ite_false (decide_eq_false (by rw [e0]; exact Bool.false_ne_true)) ?_; wp_walk using wpAny_loadPart' hl)
      | (refine wpAny_ite_true (decide_eq_true e1) ?_; wp_walk using wpAny_loadPart' hl))
    all_goals exact ⟨_, rfl, h⟩
end
/-- what is a list now -/
def seqL (h : Cells) : D → Option (List D)
  | .lst ds => some ds
  | .bor ds => some ds
  | .frz ds => some ds
  | .obj n => match h[n]? with
    | some (.lst ds) => some ds
    | _ => none
  | _ => none
def seqM (h : Cells) : D → Option (List D)
  | .lst ds => some ds
  | .bor ds => some ds
  | .obj n => match h[n]? with
    | some (.lst ds) => some ds
    | _ => none
  | _ => none
section
variable {X : Cx} {G : Gx} {g : Gh} {H : Hp} {h : Cells}
theorem cell_at (r : HRel X.prog X.w g H h) {n : Nat} {v : V} {o : OB} (q : RelT g H (.obj n) v) (e : h[n]? = some o) : ∃ a, v = .ref a ∧ g.ρ[n]? = some a ∧ CellRel X.prog X.w g H a o := by
  obtain ⟨a, e1, e2⟩ := q
  exact ⟨a, e1, e2, r.at_ n a o e2 e⟩
theorem seqM_ok (r : HRel X.prog X.w g H h) {d : D} {v : V} {ds : List D} (q : RelT g H d v) (e : seqM h d = some ds) : ∃ a xs, v = .ref a ∧ H a = some (.lst xs) ∧ RelsS g H ds xs := by
  cases d with
  | lst es =>
    cases e
    obtain ⟨a, xs, h1, h2, h3⟩ := q
    exact ⟨a, xs, h1, h2.1, h3⟩
  | bor es =>
    cases e
    obtain ⟨a, xs, h1, h2, h3⟩ := q
    exact ⟨a, xs, h1, h2.1, h3⟩
  | obj n =>
    unfold seqM at e
    dsimp only at e
    split at e
    · rename_i es z
      cases e
      obtain ⟨a, h1, _, xs, h2, h3⟩ := cell_at r q z
      exact ⟨a, xs, h1, h2, h3⟩
    · cases e
  | _ => cases e
theorem seqL_ok (og : GOk X G g) (r : HRel X.prog X.w g H h) {d : D} {v : V} {ds : List D} (q : RelT g H d v) (e : seqL h d = some ds) : ∃ a xs, v = .ref a ∧ SqL X.K H a xs ∧ RelsS g H ds xs := by
  cases d with
  | frz es =>
    cases e
    obtain ⟨a, xs, h1, h2, h3⟩ := q
    exact ⟨a, xs, h1, by rw [← og.K]; exact h2.sql, h3⟩
  | lst es =>
    obtain ⟨a, xs, h1, h2, h3⟩ := seqM_ok r q (show seqM h (.lst es) = some ds from e)
    exact ⟨a, xs, h1, .inl (.inl h2), h3⟩
  | bor es =>
    obtain ⟨a, xs, h1, h2, h3⟩ := seqM_ok r q (show seqM h (.bor es) = some ds from e)
    exact ⟨a, xs, h1, .inl (.inl h2), h3⟩
  | obj n =>
    obtain ⟨a, xs, h1, h2, h3⟩ := seqM_ok r q (show seqM h (.obj n) = some ds from e)
    exact ⟨a, xs, h1, .inl (.inl h2), h3⟩
  | _ => cases e
theorem tup_ok (og : GOk X G g) {v : V} {ds : List D} (q : RelT g H (.tup ds) v) : ∃ a xs, v = .ref a ∧ SqT X.K H a xs ∧ RelsS g H ds xs := by
  obtain ⟨a, xs, h1, h2, h3⟩ := q
  exact ⟨a, xs, h1, by rw [← og.K]; exact h2, h3⟩
/-- what follows a new tuple, a new list -/
theorem Post.newT {K : Gh → Hp → D → Cells → Prop} (r : HRel X.prog X.w g H h) {ds : List D} {xs : List V} (q : RelsS g H ds xs) {Q : VK}
    (p : Post X G g H (.ok (.tup ds) h) fun g' H' r _ => ∀ v, RelT g' H' r v → Q v H') : ∀ a, H a = none → Q (.ref a) (upd H a (.tup xs)) := fun a ha =>
  p _ _ (Ext.new r ha) (r.new ha) _ (RelS.newT r ha q)
theorem Post.newL (r : HRel X.prog X.w g H h) {ds : List D} {xs : List V} (q : RelsS g H ds xs) {Q : VK}
    (p : Post X G g H (.ok (.lst ds) h) fun g' H' r _ => ∀ v, RelT g' H' r v → Q v H') : ∀ a, H a = none → Q (.ref a) (upd H a (.lst xs)) := fun a ha =>
  p _ _ (Ext.new r ha) (r.new ha) _ (RelS.newL r ha q)
theorem Post.val {d : D} {v : V} (r : HRel X.prog X.w g H h) (q : RelT g H d v) {Q : VK}
    (p : Post X G g H (.ok d h) fun g' H' r _ => ∀ v, RelT g' H' r v → Q v H') : Q v H := Post.now r p v q
theorem Post.int {i : Int} (r : HRel X.prog X.w g H h) {Q : VK} (p : Post X G g H (.ok (.int i) h) fun g' H' r _ => ∀ v, RelT g' H' r v → Q v H') : Q (.int i) H := Post.now r p _ rfl
theorem Post.bl {i : Bool} (r : HRel X.prog X.w g H h) {Q : VK} (p : Post X G g H (.ok (.bl i) h) fun g' H' r _ => ∀ v, RelT g' H' r v → Q v H') : Q (.bl i) H := Post.now r p _ rfl
theorem Post.str {i : Str} (r : HRel X.prog X.w g H h) {Q : VK} (p : Post X G g H (.ok (.str i) h) fun g' H' r _ => ∀ v, RelT g' H' r v → Q v H') : Q (.str i) H := Post.now r p _ rfl
theorem Post.non (r : HRel X.prog X.w g H h) {Q : VK} (p : Post X G g H (.ok .non h) fun g' H' r _ => ∀ v, RelT g' H' r v → Q v H') : Q .non H := Post.now r p _ rfl
end
/-! ### arithmetic -/
abbrev szL : Nat := 16777216
def dAdd : O2 := fun x y h => match x, y with
  | .int i, .int j => .ok (.int (i + j)) h
  | .str s, .str t => if s.length + t.length ≤ szL then .ok (.str (s ++ t)) h else .bad
  | .tup a, .tup b => if a.length + b.length ≤ szL then .ok (.tup (a ++ b)) h else .bad
  | x, y => match seqM h x, seqM h y with
    | some a, some b => if a.length + b.length ≤ szL then .ok (.lst (a ++ b)) h else .bad
    | _, _ => .bad
def dSub : O2 := fun x y h => match x, y with
  | .int i, .int j => .ok (.int (i - j)) h
  | _, _ => .bad
def small64 (i : Int) : Bool := decide (-(2 ^ 64) < i) && decide (i < 2 ^ 64)
def reps {α : Type} (k : Nat) (xs : List α) : List α := (List.replicate k xs).flatten
def dMul : O2 := fun x y h => match x, y with
  | .int i, .int j => if small64 i || small64 j then .ok (.int (i * j)) h else .bad
  | .tup a, .int k => if a.isEmpty then .bad else if 2 ≤ k && decide (k ≤ 1000) && decide (a.length ≤ 1000) then .ok (.tup (reps k.toNat a)) h else
      if k = 1 then .ok (.tup a) h else if decide (k ≤ 0) && decide (-1000 ≤ k) then .ok (.tup []) h else .bad
  | x, .int k => match seqM h x with
    | some a => if decide (-1000000 ≤ k) && decide (k ≤ 1000000) && decide (a.length * k.toNat ≤ szL) then .ok (.lst (reps k.toNat a)) h else .bad
    | none => .bad
  | _, _ => .bad
def dFdiv : O2 := fun x y h => match x, y with
  | .int i, .int j => if decide (0 < j) && decide (j < 1073741824) then .ok (.int (i / j)) h else .bad
  | _, _ => .bad
def dMod : O2 := fun x y h => match x, y with
  | .int i, .int j => if 0 < j then .ok (.int (i % j)) h else .bad
  | _, _ => .bad
def dPow : O2 := fun x y h => match x, y with
  | .int i, .int j => if decide (0 ≤ j) && decide (j ≤ 1000000) && decide (i.natAbs < 2 ^ 64) then .ok (.int (i ^ j.toNat)) h else .bad
  | _, _ => .bad
def dNeg : O1 := fun x h => match x with
  | .int i => .ok (.int (-i)) h
  | _ => .bad
section
variable {X : Cx} {G : Gx}
theorem lineE : sizeLine = 16777216 := sizeLine_eq
theorem RelsS.nil_iff {g : Gh} {H : Hp} {ds : List D} {xs : List V} (q : RelsS g H ds xs) : ds = [] ↔ xs = [] := by
  have e := q.len
  constructor
  · intro z; subst z; exact List.length_eq_zero_iff.mp e.symm
  · intro z; subst z; exact List.length_eq_zero_iff.mp e
theorem o_add : OpR X (binaryOp .Add) (rO2 X G dAdd) := by
  intro pins s σ H x y v u Q I rx ry hp
  obtain ⟨g, h, d, e, og, r, qd, qe, p⟩ := hp
  unfold dAdd at p
  split at p
  · rename_i i j
    cases (show x = V.int i from qd); cases (show y = V.int j from qe)
    exact op_add pins s σ H _ _ v u Q I rx ry ⟨i, j, rfl, rfl, Post.int r p⟩
  · rename_i i j
    cases (show x = V.str i from qd); cases (show y = V.str j from qe)
    split at p
    · rename_i hz
      exact op_add_str pins s σ H _ _ v u Q I rx ry ⟨i, j, rfl, rfl, by rw [lineE]; exact hz, Post.str r p⟩
    · exact p.elim
  · rename_i a b
    split at p
    · rename_i hz
      obtain ⟨a1, xs, rfl, h1, h2⟩ := tup_ok og qd
      obtain ⟨a2, ys, rfl, h3, h4⟩ := tup_ok og qe
      refine op_catA pins s σ H _ _ v u Q I rx ry ⟨a1, a2, xs, ys, rfl, rfl, h1, h3, by rw [lineE, ← h2.len, ← h4.len]; exact hz, fun z => ?_, fun _ z => ?_, fun _ _ => Post.newT (K := fun _ _ _ _ => True) r (h2.app h4) p⟩
      · have z' := h2.nil_iff.mpr z
        subst z'
        exact Post.val r (by rw [List.nil_append]; exact qe) p
      · have z' := h4.nil_iff.mpr z
        subst z'
        exact Post.val r (by rw [List.append_nil]; exact qd) p
    · exact p.elim
  · split at p
    · rename_i a b e1 e2
      split at p
      · rename_i hz
        obtain ⟨a1, xs, rfl, h1, h2⟩ := seqM_ok r qd e1
        obtain ⟨a2, ys, rfl, h3, h4⟩ := seqM_ok r qe e2
        exact op_cat pins s σ H _ _ v u Q I rx ry ⟨a1, a2, xs, ys, rfl, rfl, h1, h3, by rw [lineE, ← h2.len, ← h4.len]; exact hz, Post.newL r (h2.app h4) p⟩
      · exact p.elim
    · exact p.elim
theorem o_sub : OpR X (binaryOp .Sub) (rO2 X G dSub) := by
  intro pins s σ H x y v u Q I rx ry hp
  obtain ⟨g, h, d, e, og, r, qd, qe, p⟩ := hp
  unfold dSub at p
  split at p
  · rename_i i j
    cases (show x = V.int i from qd); cases (show y = V.int j from qe)
    exact op_sub pins s σ H _ _ v u Q I rx ry ⟨i, j, rfl, rfl, Post.int r p⟩
  · exact p.elim
theorem RelsS.reps {g : Gh} {H : Hp} {ds : List D} {xs : List V} (q : RelsS g H ds xs) : ∀ k : Nat, RelsS g H (EV.reps k ds) (List.replicate k xs).flatten
  | 0 => rfl
  | k + 1 => by
    have ih := RelsS.reps q k
    unfold EV.reps at ih ⊢
    rw [List.replicate_succ, List.replicate_succ, List.flatten_cons, List.flatten_cons]
    exact q.app ih
theorem o_tmul1 {pins : List (Addr × Obj)} {σ : L2.St} {H : Hp} {s : Shared} {l : Addr} {xs : List V} {v u : Value} {Q : VK} (I : Inv X pins σ H s) (hT : SqT X.K H l xs) (rx : RelV (.ref l) v) (ry : RelV (.int 1) u) (q : Q (.ref l) H) :
    wpAny (model X.prog X.w) X.A (binaryOp .Mult v u) (EP X pins σ Q) X.xe s := by
  cases rx
  obtain ⟨t, rfl⟩ := ry
  obtain ⟨its, r, ⟨⟨cls, dd, data, sl⟩, ho, hc, n, hd⟩, hs⟩ := I.tuple hT
  simp only at hc hd
  subst hc hd
  refine wpAny_binaryOp_repeat_ref (T := "tuple") (U := "int") (by decide) ⟨_, ho, rfl⟩ (fun s' => typeIs_int s' 1 t) noFill_tuple_mul F.fills_int_mul F.slot_int_rmul repeat_tuple F.slot_int_index.lookup
    (call_meets F.slot_int_rmul (typeIs_int s 1 t) F.entry_int_rmul (F.args_int_rmul_2 _ _) (int_rmul_tuple 1 t l its.toArray n dd sl)
      ⟨ho, rfl, ⟨_, ho, rfl⟩, call_meets F.slot_tuple_mul ⟨_, ho, rfl⟩ F.entry_tuple_mul (F.args_tuple_mul_2 _ _) (tmul_same l its.toArray n dd sl 1 t (by decide) (by simp)) ⟨ho, ?_⟩⟩)
  exact ⟨V.ref l, H, I, rfl, q⟩
theorem o_tmul0 {pins : List (Addr × Obj)} {σ : L2.St} {H : Hp} {s : Shared} {l : Addr} {xs : List V} {v u : Value} {Q : VK} {k : Int} (I : Inv X pins σ H s) (hT : SqT X.K H l xs) (hne : xs ≠ []) (rx : RelV (.ref l) v) (ry : RelV (.int k) u)
    (h0 : k ≤ 0) (h1 : -1000 ≤ k) (q : ∀ p, H p = none → Q (.ref p) (upd H p (.tup []))) : wpAny (model X.prog X.w) X.A (binaryOp .Mult v u) (EP X pins σ Q) X.xe s := by
  cases rx
  obtain ⟨t, rfl⟩ := ry
  obtain ⟨its, r, ⟨⟨cls, dd, data, sl⟩, ho, hc, n, hd⟩, hs⟩ := I.tuple hT
  simp only at hc hd
  subst hc hd
  have hn : its ≠ [] := fun e => hne (by rw [e] at r; cases r; rfl)
  have hi : its.toArray.isEmpty = false := by
    cases its with
    | nil => exact absurd rfl hn
    | cons a b => rfl
  have c0 : (decide (k < -(2 ^ 63)) || decide (k ≥ 2 ^ 63)) = false := by
    rw [decide_eq_false (by omega), decide_eq_false (by omega)] <;> rfl
  have c1 : (its.toArray.isEmpty || k == 1) = false := by
    rw [hi, Bool.false_or]
    exact beq_eq_false_iff_ne.mpr (by omega)
  refine wpAny_binaryOp_repeat_ref (T := "tuple") (U := "int") (by decide) ⟨_, ho, rfl⟩ (fun s' => typeIs_int s' k t) noFill_tuple_mul F.fills_int_mul F.slot_int_rmul repeat_tuple F.slot_int_index.lookup
    (call_meets F.slot_int_rmul (typeIs_int s k t) F.entry_int_rmul (F.args_int_rmul_2 _ _) (int_rmul_tuple k t l its.toArray n dd sl)
      ⟨ho, rfl, ⟨_, ho, rfl⟩, call_meets F.slot_tuple_mul ⟨_, ho, rfl⟩ F.entry_tuple_mul (F.args_tuple_mul_2 _ _) (tmul_none l its.toArray n dd sl k t c0 c1 (by rw [hi, Bool.or_false]; exact decide_eq_true h0)) ⟨ho, ?_⟩⟩)
  refine ⟨.ref s.heap.objs.size, _, I.laid (t' := s.toks) (o := .tup []) (fun b ob q => Heap.get?_push_of_some _ q) (Nat.le_refl _) ⟨Nat.zero_le _, [], .nil, PyProof.Rows.IsTup.new _ _⟩, rfl, q _ (I.hok.fresh (Nat.le_refl _))⟩
theorem o_mul : OpR X (binaryOp .Mult) (rO2 X G dMul) := by
  intro pins s σ H x y v u Q I rx ry hp
  obtain ⟨g, h, d, e, og, r, qd, qe, p⟩ := hp
  unfold dMul at p
  split at p
  · rename_i i j
    cases (show x = V.int i from qd); cases (show y = V.int j from qe)
    split at p
    · rename_i hz
      refine op_mul pins s σ H _ _ v u Q I rx ry ⟨i, j, rfl, rfl, ?_, Post.int r p⟩
      simp only [small64, Bool.or_eq_true, Bool.and_eq_true, decide_eq_true_eq] at hz
      exact hz
    · exact p.elim
  · rename_i a k
    cases (show y = V.int k from qe)
    obtain ⟨l, xs, rfl, h1, h2⟩ := tup_ok og qd
    split at p
    · exact p.elim
    · rename_i ne
      have hne : xs ≠ [] := fun z => ne (by rw [h2.nil_iff.mpr z]; rfl)
      split at p
      · rename_i hz
        simp only [Bool.and_eq_true, decide_eq_true_eq] at hz
        refine op_repT pins s σ H _ _ v u Q I rx ry ⟨l, k, xs, rfl, rfl, h1, hne, hz.1.1, hz.1.2, by rw [← h2.len]; exact hz.2, Post.newT (K := fun _ _ _ _ => True) r (h2.reps k.toNat) p⟩
      · split at p
        · rename_i hk
          subst hk
          exact o_tmul1 I h1 rx ry (Post.val r qd p)
        · split at p
          · rename_i hk
            simp only [Bool.and_eq_true, decide_eq_true_eq] at hk
            exact o_tmul0 I h1 hne rx ry hk.1 hk.2 (Post.newT (K := fun _ _ _ _ => True) (xs := []) (ds := []) r rfl p)
          · exact p.elim
  · rename_i x1 k n1 n2
    cases (show y = V.int k from qe)
    split at p
    · rename_i a ea
      split at p
      · rename_i hz
        simp only [Bool.and_eq_true, decide_eq_true_eq] at hz
        obtain ⟨l, xs, rfl, h1, h2⟩ := seqM_ok r qd ea
        refine op_rep pins s σ H _ _ v u Q I rx ry ⟨l, k, xs, rfl, rfl, h1, by omega, by omega, by rw [lineE, ← h2.len]; exact hz.2, Post.newL r (h2.reps k.toNat) p⟩
      · exact p.elim
    · exact p.elim
  · exact p.elim
theorem o_fdiv : OpR X (binaryOp .FloorDiv) (rO2 X G dFdiv) := by
  intro pins s σ H x y v u Q I rx ry hp
  obtain ⟨g, h, d, e, og, r, qd, qe, p⟩ := hp
  unfold dFdiv at p
  split at p
  · rename_i i j
    cases (show x = V.int i from qd); cases (show y = V.int j from qe)
    split at p
    · rename_i hz
      simp only [Bool.and_eq_true, decide_eq_true_eq] at hz
      exact op_fdiv pins s σ H _ _ v u Q I rx ry ⟨i, j, rfl, rfl, hz, Post.int r p⟩
    · exact p.elim
  · exact p.elim
theorem o_mod : OpR X (binaryOp .Mod) (rO2 X G dMod) := by
  intro pins s σ H x y v u Q I rx ry hp
  obtain ⟨g, h, d, e, og, r, qd, qe, p⟩ := hp
  unfold dMod at p
  split at p
  · rename_i i j
    cases (show x = V.int i from qd); cases (show y = V.int j from qe)
    split at p
    · rename_i hz
      exact op_mod pins s σ H _ _ v u Q I rx ry ⟨i, j, rfl, rfl, hz, Post.int r p⟩
    · exact p.elim
  · exact p.elim
theorem o_pow : OpR X (binaryOp .Pow) (rO2 X G dPow) := by
  intro pins s σ H x y v u Q I rx ry hp
  obtain ⟨g, h, d, e, og, r, qd, qe, p⟩ := hp
  unfold dPow at p
  split at p
  · rename_i i j
    cases (show x = V.int i from qd); cases (show y = V.int j from qe)
    split at p
    · rename_i hz
      simp only [Bool.and_eq_true, decide_eq_true_eq] at hz
      exact op_pow pins s σ H _ _ v u Q I rx ry ⟨i, j, rfl, rfl, ⟨hz.1.1, hz.1.2, hz.2⟩, Post.int r p⟩
    · exact p.elim
  · exact p.elim
theorem o_neg : UnR X (unaryOp .USub) (rO1 X G dNeg) := by
  intro pins s σ H x v Q I rx hp
  obtain ⟨g, h, d, og, r, qd, p⟩ := hp
  unfold dNeg at p
  split at p
  · rename_i i
    cases (show x = V.int i from qd)
    exact un_neg pins s σ H _ v Q I rx ⟨i, rfl, Post.int r p⟩
  · exact p.elim
end
end EV
/-! EV4: comparisons, truth, subscripts, slices -/
namespace EV
open PySem L2
mutual
/-- data without cells -/
def D.pd : D → Option PyData
  | .non => some PyData.none
  | .bl b => some (PyData.bool b)
  | .int i => some (PyData.int i)
  | .str s => some (PyData.str s)
  | .tup ds => (D.pds ds).map PyData.tuple
  | .lst ds => (D.pds ds).map PyData.list
  | .bor ds => (D.pds ds).map PyData.list
  | .frz ds => (D.pds ds).map PyData.list
  | .obj _ => none
  | .glob _ => none
def D.pds : List D → Option (List PyData)
  | [] => some []
  | d :: ds => match D.pd d, D.pds ds with
    | some x, some xs => some (x :: xs)
    | _, _ => none
end
def pdH (h : Cells) (d : D) : Option PyData := match d with
  | .obj n => match h[n]? with
    | some (.lst ds) => (D.pds ds).map PyData.list
    | _ => none
  | d => D.pd d
section
variable {X : Cx} {G : Gx} {g : Gh} {H : Hp} {h : Cells}
mutual
theorem dp_of (og : GOk X G g) : ∀ {d : D} {v : V} {p : PyData}, RelS g H d v → D.pd d = some p → Dp X.K H v p
  | .non, v, p, q, e => by simp only [D.pd] at e; cases e; cases (show v = .non from q); exact .non
  | .bl b, v, p, q, e => by simp only [D.pd] at e; cases e; cases (show v = .bl b from q); exact .bl b
  | .int b, v, p, q, e => by simp only [D.pd] at e; cases e; cases (show v = .int b from q); exact .int b
  | .str b, v, p, q, e => by simp only [D.pd] at e; cases e; cases (show v = .str b from q); exact .str b
  | .tup ds, v, p, q, e => by
    simp only [D.pd] at e
    obtain ⟨ps, e1, rfl⟩ := Option.map_eq_some_iff.mp e
    obtain ⟨a, xs, rfl, h1, h2⟩ := tup_ok og (RelS.t q)
    exact .tup h1 (dps_of og h2 e1)
  | .lst ds, v, p, q, e => by
    simp only [D.pd] at e
    obtain ⟨ps, e1, rfl⟩ := Option.map_eq_some_iff.mp e
    obtain ⟨a, xs, rfl, h1, h2⟩ := q
    exact .lst (.inl (.inl h1.1)) (dps_of og h2 e1)
  | .bor ds, v, p, q, e => by simp only [RelS] at q
  | .frz ds, v, p, q, e => by
    simp only [D.pd] at e
    obtain ⟨ps, e1, rfl⟩ := Option.map_eq_some_iff.mp e
    obtain ⟨a, xs, rfl, h1, h2⟩ := q
    exact .lst (by rw [← og.K]; exact h1.sql) (dps_of og h2 e1)
  | .obj _, v, p, q, e => by simp only [D.pd] at e; cases e
  | .glob _, v, p, q, e => by simp only [D.pd] at e; cases e
theorem dps_of (og : GOk X G g) : ∀ {ds : List D} {vs : List V} {ps : List PyData}, RelsS g H ds vs → D.pds ds = some ps → DpAll X.K H vs ps
  | [], vs, ps, q, e => by simp only [D.pds] at e; cases e; cases (show vs = [] from q); exact .nil
  | d :: ds, vs, ps, q, e => by
    simp only [RelsS] at q
    obtain ⟨x, rr, rfl, h1, h2⟩ := q
    simp only [D.pds] at e
    split at e
    · rename_i y ys e1 e2
      cases e
      exact .cons (dp_of og h1 e1) (dps_of og h2 e2)
    · cases e
end
theorem dpH_of (og : GOk X G g) (r : HRel X.prog X.w g H h) {d : D} {v : V} {p : PyData} (q : RelT g H d v) (e : pdH h d = some p) : Dp X.K H v p := by
  cases d with
  | obj n =>
    unfold pdH at e
    dsimp only at e
    split at e
    · rename_i ds z
      obtain ⟨ps, e1, rfl⟩ := Option.map_eq_some_iff.mp e
      obtain ⟨a, xs, rfl, h1, h2⟩ := seqL_ok og r (d := .obj n) (ds := ds) q (by unfold seqL; simp only [z])
      exact .lst h1 (dps_of og h2 e1)
    · cases e
  | bor ds =>
    have e' : (D.pds ds).map PyData.list = some p := by simpa only [pdH, D.pd] using e
    obtain ⟨ps, e1, rfl⟩ := Option.map_eq_some_iff.mp e'
    obtain ⟨a, xs, rfl, h1, h2⟩ := seqL_ok og r (d := .bor ds) (ds := ds) q rfl
    exact .lst h1 (dps_of og h2 e1)
  | _ => exact dp_of og (by exact q) (by exact e)
end
/-! ### ==, != -/
def dEq : O2 := fun x y h => match x, y with
  | .int i, .int j => .ok (.bl (decide (i = j))) h
  | .str i, .str j => .ok (.bl (decide (i = j))) h
  | .bl i, .bl j => .ok (.bl (decide (i = j))) h
  | x, y => match pdH h x, pdH h y with
    | some p, some q => if SeqAt.shaped p && SeqAt.shaped q then .ok (.bl (PyData.eqv p q)) h else .bad
    | _, _ => .bad
def dNe : O2 := fun x y h => match x, y with
  | .int i, .int j => .ok (.bl (!decide (i = j))) h
  | .str i, .str j => .ok (.bl (!decide (i = j))) h
  | .bl i, .bl j => .ok (.bl (!decide (i = j))) h
  | x, y => match pdH h x, pdH h y with
    | some p, some q => if SeqAt.shaped p && SeqAt.shaped q then .ok (.bl (!PyData.eqv p q)) h else .bad
    | _, _ => .bad
/-! ### order -/
def dLt : O2 := fun x y h => match x, y with
  | .int i, .int j => .ok (.bl (decide (i < j))) h
  | _, _ => .bad
def dLe : O2 := fun x y h => match x, y with
  | .int i, .int j => .ok (.bl (decide (i ≤ j))) h
  | _, _ => .bad
def dGt : O2 := fun x y h => match x, y with
  | .int i, .int j => .ok (.bl (decide (j < i))) h
  | _, _ => .bad
def dGe : O2 := fun x y h => match x, y with
  | .int i, .int j => .ok (.bl (decide (j ≤ i))) h
  | _, _ => .bad
/-! ### is -/
def dIs : O2 := fun x y h => match x, y with
  | .bl a, .bl b => .ok (.bl (decide (a = b))) h
  | .non, .non => .ok (.bl true) h
  | _, .non => .ok (.bl false) h
  | _, _ => .bad
def dIsNot : O2 := fun x y h => match x, y with
  | .bl a, .bl b => .ok (.bl (!decide (a = b))) h
  | .non, .non => .ok (.bl false) h
  | _, .non => .ok (.bl true) h
  | _, _ => .bad
/-! ### in -/
def seqT (h : Cells) : D → Option (List D)
  | .tup ds => some ds
  | d => seqL h d
section
variable {X : Cx} {G : Gx}
theorem o_eq (hu : X.A.units + 64 < cLine) : OpR X (compareOp .Eq) (rO2 X G dEq) := by
  intro pins s σ H x y v u Q I rx ry hp
  obtain ⟨g, h, d, e, og, r, qd, qe, p⟩ := hp
  unfold dEq at p
  split at p
  · rename_i i j
    cases (show x = V.int i from qd); cases (show y = V.int j from qe)
    refine op_eq pins s σ H _ _ v u Q I rx ry ⟨rfl, ?_⟩
    have e : decide (V.int i = V.int j) = decide (i = j) := by simp
    rw [e]
    exact Post.bl r p
  · rename_i i j
    cases (show x = V.str i from qd); cases (show y = V.str j from qe)
    refine op_eq pins s σ H _ _ v u Q I rx ry ⟨rfl, ?_⟩
    have e : decide (V.str i = V.str j) = decide (i = j) := by simp
    rw [e]
    exact Post.bl r p
  · rename_i i j
    cases (show x = V.bl i from qd); cases (show y = V.bl j from qe)
    refine op_eq pins s σ H _ _ v u Q I rx ry ⟨rfl, ?_⟩
    have e : decide (V.bl i = V.bl j) = decide (i = j) := by simp
    rw [e]
    exact Post.bl r p
  · split at p
    · rename_i p1 p2 e1 e2
      split at p
      · rename_i hz
        rw [Bool.and_eq_true] at hz
        exact op_eqD hu pins s σ H _ _ v u Q I rx ry ⟨p1, p2, dpH_of og r qd e1, dpH_of og r qe e2, hz.1, hz.2, Post.bl r p⟩
      · exact p.elim
    · exact p.elim
theorem o_ne (hu : X.A.units + 64 < cLine) : OpR X (compareOp .NotEq) (rO2 X G dNe) := by
  intro pins s σ H x y v u Q I rx ry hp
  obtain ⟨g, h, d, e, og, r, qd, qe, p⟩ := hp
  unfold dNe at p
  split at p
  · rename_i i j
    cases (show x = V.int i from qd); cases (show y = V.int j from qe)
    refine op_ne pins s σ H _ _ v u Q I rx ry ⟨rfl, ?_⟩
    have e : (!decide (V.int i = V.int j)) = (!decide (i = j)) := by simp
    rw [e]
    exact Post.bl r p
  · rename_i i j
    cases (show x = V.str i from qd); cases (show y = V.str j from qe)
    refine op_ne pins s σ H _ _ v u Q I rx ry ⟨rfl, ?_⟩
    have e : (!decide (V.str i = V.str j)) = (!decide (i = j)) := by simp
    rw [e]
    exact Post.bl r p
  · rename_i i j
    cases (show x = V.bl i from qd); cases (show y = V.bl j from qe)
    refine op_ne pins s σ H _ _ v u Q I rx ry ⟨rfl, ?_⟩
    have e : (!decide (V.bl i = V.bl j)) = (!decide (i = j)) := by simp
    rw [e]
    exact Post.bl r p
  · split at p
    · rename_i p1 p2 e1 e2
      split at p
      · rename_i hz
        rw [Bool.and_eq_true] at hz
        exact op_neD hu pins s σ H _ _ v u Q I rx ry ⟨p1, p2, dpH_of og r qd e1, dpH_of og r qe e2, hz.1, hz.2, Post.bl r p⟩
      · exact p.elim
    · exact p.elim
theorem o_lt : OpR X (compareOp .Lt) (rO2 X G dLt) := by
  intro pins s σ H x y v u Q I rx ry hp
  obtain ⟨g, h, d, e, og, r, qd, qe, p⟩ := hp
  unfold dLt at p
  split at p
  · rename_i i j
    cases (show x = V.int i from qd); cases (show y = V.int j from qe)
    exact op_lt pins s σ H _ _ v u Q I rx ry ⟨i, j, rfl, rfl, Post.bl r p⟩
  · exact p.elim
theorem o_le : OpR X (compareOp .LtE) (rO2 X G dLe) := by
  intro pins s σ H x y v u Q I rx ry hp
  obtain ⟨g, h, d, e, og, r, qd, qe, p⟩ := hp
  unfold dLe at p
  split at p
  · rename_i i j
    cases (show x = V.int i from qd); cases (show y = V.int j from qe)
    exact op_le pins s σ H _ _ v u Q I rx ry ⟨i, j, rfl, rfl, Post.bl r p⟩
  · exact p.elim
theorem o_gt : OpR X (compareOp .Gt) (rO2 X G dGt) := by
  intro pins s σ H x y v u Q I rx ry hp
  obtain ⟨g, h, d, e, og, r, qd, qe, p⟩ := hp
  unfold dGt at p
  split at p
  · rename_i i j
    cases (show x = V.int i from qd); cases (show y = V.int j from qe)
    exact op_gt pins s σ H _ _ v u Q I rx ry ⟨i, j, rfl, rfl, Post.bl r p⟩
  · exact p.elim
theorem o_ge : OpR X (compareOp .GtE) (rO2 X G dGe) := by
  intro pins s σ H x y v u Q I rx ry hp
  obtain ⟨g, h, d, e, og, r, qd, qe, p⟩ := hp
  unfold dGe at p
  split at p
  · rename_i i j
    cases (show x = V.int i from qd); cases (show y = V.int j from qe)
    exact op_ge pins s σ H _ _ v u Q I rx ry ⟨i, j, rfl, rfl, Post.bl r p⟩
  · exact p.elim
theorem ne_non {g : Gh} {H : Hp} {d : D} {x : V} (q : RelT g H d x) (n : d ≠ .non) : x ≠ .non := by
  intro e
  subst e
  cases d with
  | non => exact n rfl
  | bl b => exact nomatch (show V.non = V.bl b from q)
  | int b => exact nomatch (show V.non = V.int b from q)
  | str b => exact nomatch (show V.non = V.str b from q)
  | tup ds => obtain ⟨a, xs, z, _⟩ := q; cases z
  | lst ds => obtain ⟨a, xs, z, _⟩ := q; cases z
  | bor ds => obtain ⟨a, xs, z, _⟩ := q; cases z
  | frz ds => obtain ⟨a, xs, z, _⟩ := q; cases z
  | obj n => obtain ⟨a, z, _⟩ := q; cases z
  | glob n => obtain ⟨a, z, _⟩ := q; cases z
theorem o_is : OpR X (compareOp .Is) (rO2 X G dIs) := by
  intro pins s σ H x y v u Q I rx ry hp
  obtain ⟨g, h, d, e, og, r, qd, qe, p⟩ := hp
  unfold dIs at p
  split at p
  · rename_i i j
    cases (show x = V.bl i from qd); cases (show y = V.bl j from qe)
    exact op_is_bl pins s σ H _ _ v u Q I rx ry ⟨i, j, rfl, rfl, Post.bl r p⟩
  · cases (show x = V.non from qd); cases (show y = V.non from qe)
    exact op_isN pins s σ H _ _ v u Q I rx ry ⟨rfl, Post.bl r p⟩
  · rename_i n1
    cases (show y = V.non from qe)
    refine op_isN pins s σ H _ _ v u Q I rx ry ⟨rfl, ?_⟩
    rw [decide_eq_false (ne_non qd fun z => n1 z)]
    exact Post.bl r p
  · exact p.elim
theorem o_isnot : OpR X (compareOp .IsNot) (rO2 X G dIsNot) := by
  intro pins s σ H x y v u Q I rx ry hp
  obtain ⟨g, h, d, e, og, r, qd, qe, p⟩ := hp
  unfold dIsNot at p
  split at p
  · rename_i i j
    cases (show x = V.bl i from qd); cases (show y = V.bl j from qe)
    exact op_isnot_bl pins s σ H _ _ v u Q I rx ry ⟨i, j, rfl, rfl, Post.bl r p⟩
  · cases (show x = V.non from qd); cases (show y = V.non from qe)
    exact op_notN pins s σ H _ _ v u Q I rx ry ⟨rfl, Post.bl r p⟩
  · rename_i n1
    cases (show y = V.non from qe)
    refine op_notN pins s σ H _ _ v u Q I rx ry ⟨rfl, ?_⟩
    rw [decide_eq_false (ne_non qd fun z => n1 z)]
    exact Post.bl r p
  · exact p.elim
end
/-! ### truth -/
def dTru : D → Cells → R Bool := fun x h => match x with
  | .bl b => .ok b h
  | .non => .ok false h
  | .int i => .ok (i != 0) h
  | .str s => if s.length ≤ szL then .ok ((s.length : Int) != 0) h else .bad
  | .tup ds => .ok (!ds.isEmpty) h
  | x => match seqL h x with
    | some ds => .ok (!ds.isEmpty) h
    | none => .bad
section
variable {X : Cx} {G : Gx}
def rTru (X : Cx) (G : Gx) : V → Hp → (Bool → Hp → Prop) → Prop := fun x H Q => ∃ g h d, GOk X G g ∧ HRel X.prog X.w g H h ∧ RelT g H d x ∧ Post X G g H (dTru d h) fun g' H' b _ => ∀ v, v = b → Q v H'
theorem RelsS.empty {g : Gh} {H : Hp} {ds : List D} {xs : List V} (q : RelsS g H ds xs) : ds.isEmpty = xs.isEmpty := by
  have e := q.len
  cases ds <;> cases xs <;> first | rfl | (simp at e)
theorem tru_of {x : V} {H : Hp} {Q : Bool → Hp → Prop} (hp : rTru X G x H Q) : ∃ k, TruV X.K x H k ∧ Q k H := by
  obtain ⟨g, h, d, og, r, qd, p⟩ := hp
  unfold dTru at p
  split at p
  · rename_i b
    cases (show x = V.bl b from qd)
    exact ⟨b, rfl, Post.now r p _ rfl⟩
  · cases (show x = V.non from qd)
    exact ⟨false, rfl, Post.now r p _ rfl⟩
  · rename_i b
    cases (show x = V.int b from qd)
    exact ⟨_, rfl, Post.now r p _ rfl⟩
  · rename_i b
    cases (show x = V.str b from qd)
    split at p
    · rename_i hz
      exact ⟨_, ⟨by rw [lineE]; exact hz, rfl⟩, Post.now r p _ rfl⟩
    · exact p.elim
  · obtain ⟨a, xs, rfl, h1, h2⟩ := tup_ok og qd
    exact ⟨_, .inr (.inl ⟨xs, h1, rfl⟩), by rw [← h2.empty]; exact Post.now r p _ rfl⟩
  · split at p
    · rename_i ds e
      obtain ⟨a, xs, rfl, h1, h2⟩ := seqL_ok og r qd e
      exact ⟨_, .inl ⟨xs, h1, rfl⟩, by rw [← h2.empty]; exact Post.now r p _ rfl⟩
    · exact p.elim
def dTruE (a : DE) : DT := fun fn env h => (a fn env h).bind dTru
/-- an expression as a test, by its value's truth -/
theorem s_truth {a : Expr} {da : DE} (ha : PE X a (tD X G da)) (he : ∀ whole, isTrue a X.env whole = (do let v ← whole; standAt a.pos; holding [v] (truthy v))) : PT X a (tT X G (dTruE da)) :=
  PT.imp (pt_truth ha he) fun _ _ _ p => tG.bind (f := fun fn env d h1 => dTru d h1) p fun g own env h H1 d v og r l q p1 => tru_of ⟨g, h, d, og, r, q, p1⟩
end
/-! ### subscripts -/
def dIx : O2 := fun x y h => match y with
  | .int i => match x with
    | .str s => if s.length ≤ szL then match atI s.cps.toList i with
      | some c => .ok (.str ⟨#[c]⟩) h
      | none => .bad
      else .bad
    | x => match seqT h x with
      | some ds => match atI ds i with
        | some d => .ok d h
        | none => .bad
      | none => .bad
  | _ => .bad
section
variable {X : Cx} {G : Gx}
theorem atI_rel {g : Gh} {H : Hp} {ds : List D} {xs : List V} {i : Int} {d : D} (q : RelsS g H ds xs) (e : atI ds i = some d) : ∃ v, atI xs i = some v ∧ RelS g H d v := by
  unfold atI at e ⊢
  rw [← q.len]
  cases z : ixN ds.length i with
  | none => rw [z] at e; cases e
  | some j =>
    rw [z] at e
    exact q.get e
theorem seqT_ok {g : Gh} {H : Hp} {h : Cells} (og : GOk X G g) (r : HRel X.prog X.w g H h) {d : D} {v : V} {ds : List D} (q : RelT g H d v) (e : seqT h d = some ds) : ∃ a xs, v = .ref a ∧ (SqL X.K H a xs ∨ SqT X.K H a xs) ∧ RelsS g H ds xs := by
  cases d with
  | tup es =>
    cases e
    obtain ⟨a, xs, h1, h2, h3⟩ := tup_ok og q
    exact ⟨a, xs, h1, .inr h2, h3⟩
  | _ =>
    obtain ⟨a, xs, h1, h2, h3⟩ := seqL_ok og r q (by exact e)
    exact ⟨a, xs, h1, .inl h2, h3⟩
theorem o_ix : IxR X (rO2 X G dIx) := by
  intro value slice pins s σ H x y v u Q I rx ry hp hs
  obtain ⟨g, h, d, e, og, r, qd, qe, p⟩ := hp
  unfold dIx at p
  split at p
  · rename_i i
    cases (show y = V.int i from qe)
    split at p
    · rename_i z
      cases (show x = V.str z from qd)
      split at p
      · rename_i hz
        split at p
        · rename_i c hc
          exact ix_str value slice pins s σ H _ _ v u Q I rx ry ⟨z, i, c, rfl, rfl, by rw [lineE]; exact hz, hc, Post.str r p⟩ hs
        · exact p.elim
      · exact p.elim
    · split at p
      · rename_i ds e1
        split at p
        · rename_i d' e2
          obtain ⟨a, xs, rfl, h1, h2⟩ := seqT_ok og r qd e1
          obtain ⟨w, e3, q3⟩ := atI_rel h2 e2
          refine ix_seq value slice pins s σ H _ _ v u Q I rx ry ?_ hs
          rcases h1 with h1 | h1
          · exact .inl ⟨a, xs, i, w, rfl, rfl, h1, e3, Post.val r q3.t p⟩
          · exact .inr (.inl ⟨a, xs, i, w, rfl, rfl, h1, e3, Post.val r q3.t p⟩)
        · exact p.elim
      · exact p.elim
  · exact p.elim
def isSlice : Expr → Bool
  | .Slice .. => true
  | _ => false
theorem plainIx {b : Expr} (h : isSlice b = false) : PlainIx b := by
  intro o i
  cases b <;> first | rfl | (simp [isSlice] at h)
theorem s_ix {a b : Expr} {da db : DE} {pos : Pos} (ha : PE X a (tD X G da)) (hb : PE X b (tD X G db)) (hs : isSlice b = false) : PE X (.Subscript a b pos) (tD X G (dOp2 dIx da db)) :=
  PE.imp (pe_ix o_ix ha hb (plainIx hs)) fun _ _ _ p => tOp2 p
end
/-! ### slices -/
def cutD (xs : List D) (lo hi : Option Int) : List D := (xs.drop (HT.sIx xs.length 0 lo)).take (HT.sIx xs.length xs.length hi - HT.sIx xs.length 0 lo)
def dSl (x : D) (lo hi : Option Int) (h : Cells) : R D := match x with
  | .tup ds => .ok (.tup (cutD ds lo hi)) h
  | x => match seqL h x with
    | some ds => .ok (.lst (cutD ds lo hi)) h
    | none => .bad
abbrev DO := Fns → Ev → Cells → R (Option Int)
abbrev tO (X : Cx) (G : Gx) (de : DO) : TO := tG (fun _ _ b v => v = b) X G de
def dNoPart : DO := fun _ _ h => .ok none h
def dPart (a : DE) : DO := fun fn env h => (a fn env h).bind fun d h1 => match d with
  | .int i => .ok (some i) h1
  | _ => .bad
def dSlice (a : DE) (lo hi : DO) : DE := fun fn env h => (a fn env h).bind fun d h1 => (lo fn env h1).bind fun l h2 => (hi fn env h2).bind fun u h3 => dSl d l u h3
section
variable {X : Cx} {G : Gx}
theorem PO.imp {e : Option Expr} {t t' : TO} (h : PO X e t) (k : ∀ σ H Q, t' σ H Q → t σ H Q) : PO X e t' := by
  cases h with
  | mk run => exact ⟨fun pins s σ H Q I q => run pins s σ H Q I (k σ H Q q)⟩
theorem s_noPart : PO X none (tO X G dNoPart) := PO.imp po_none fun σ H Q ⟨g, own, env, h, og, r, l, p⟩ => Post.now r p _ rfl
theorem s_part {a : Expr} {da : DE} (ha : PE X a (tD X G da)) : PO X (some a) (tO X G (dPart da)) := PO.imp (po_some ha) fun σ H Q p =>
  tG.bind (f := fun fn env d h1 => match d with
    | .int i => .ok (some i) h1
    | _ => .bad) p fun g own env h H1 d v og r l q p1 => by
    cases d with
    | int i => exact ⟨i, q, Post.now r p1 _ rfl⟩
    | _ => exact p1.elim
def rOS (X : Cx) (G : Gx) : V → Option Int → Option Int → Hp → VK → Prop := fun x lo hi H Q => ∃ g h d, GOk X G g ∧ HRel X.prog X.w g H h ∧ RelT g H d x ∧ Post X G g H (dSl d lo hi h) fun g' H' r _ => ∀ v, RelT g' H' r v → Q v H'
theorem cut_rel {g : Gh} {H : Hp} {ds : List D} {xs : List V} (q : RelsS g H ds xs) (lo hi : Option Int) : RelsS g H (cutD ds lo hi) (cutV xs lo hi) := by
  unfold cutD cutV
  rw [q.len]
  exact (q.drop _).take _
theorem sIx_all {ds : List D} {lo hi : Option Int} (w : HT.sIx ds.length 0 lo = 0 ∧ HT.sIx ds.length ds.length hi = ds.length) : cutD ds lo hi = ds := by
  unfold cutD
  rw [w.1, w.2]
  simp
theorem o_sl : SlR X (rOS X G) := by
  intro pins s σ H x v vl vu lo hi sl Q I rx hs pl pu hp
  obtain ⟨g, h, d, og, r, qd, p⟩ := hp
  unfold dSl at p
  split at p
  · rename_i ds
    obtain ⟨a, xs, rfl, h1, h2⟩ := tup_ok og qd
    refine sl_tupA pins s σ H _ v vl vu lo hi sl Q I rx hs pl pu ⟨a, xs, rfl, h1, fun w => ?_, fun _ => Post.newT (K := fun _ _ _ _ => True) r (cut_rel h2 lo hi) p⟩
    rw [← h2.len] at w
    rw [sIx_all w] at p
    exact Post.val r qd p
  · split at p
    · rename_i ds e
      obtain ⟨a, xs, rfl, h1, h2⟩ := seqL_ok og r qd e
      exact sl_list pins s σ H _ v vl vu lo hi sl Q I rx hs pl pu ⟨a, xs, rfl, h1, Post.newL r (cut_rel h2 lo hi) p⟩
    · exact p.elim
theorem s_slice {a : Expr} {lo hi : Option Expr} {da : DE} {dl du : DO} {pos p2 : Pos} (ha : PE X a (tD X G da)) (hl : PO X lo (tO X G dl)) (hh : PO X hi (tO X G du)) : PE X (.Subscript a (.Slice lo hi none p2) pos) (tD X G (dSlice da dl du)) :=
  PE.imp (pe_slice o_sl ha hl hh) fun σ H Q p =>
    tG.bind (f := fun fn env d h1 => (dl fn env h1).bind fun l h2 => (du fn env h2).bind fun u h3 => dSl d l u h3) p fun g own env h H1 d v og r l q p1 =>
      tG.mk og r l ((Post.bind p1).imp fun g2 H2 lo2 h2 e2 r2 p2 v2 q2 => by
        subst q2
        exact tG.mk (og.ext e2) r2 (l.step r e2) ((Post.bind p2).imp fun g3 H3 hi3 h3 e3 r3 p3 v3 q3 => by
          subst q3
          exact ⟨g3, h3, d, (og.ext e2).ext e3, r3, RelT.ext r2 e3 (RelT.ext r e2 q), p3⟩))
end
end EV
/-! EV5: argument lists, displays, tests, calls of the text's own defs -/
namespace EV
open PySem L2
def isStar : Expr → Bool
  | .Starred .. => true
  | _ => false
theorem star_cons {e : Expr} {es : List Expr} {env : Env} (h : isStar e = false) : starEach (e :: es) env = (false, eval e env) :: starEach es env := by
  cases e <;> first | rfl | (simp [isStar] at h)
def noStars (es : List Expr) : Bool := es.all fun e => !isStar e
theorem backTo_any {pos : Pos} : ∀ {l : List (Bool × Sem Value)}, l.any (·.1) = false → (backTo pos l).any (·.1) = false := by
  intro l h
  unfold backTo
  rw [List.any_map]
  exact h
theorem stars_any {env : Env} : ∀ {es : List Expr}, noStars es = true → (starEach es env).any (·.1) = false
  | [], _ => rfl
  | e :: es, h => by
    simp only [noStars, List.all_cons, Bool.and_eq_true] at h
    rw [star_cons (by simpa using h.1), List.any_cons, stars_any (es := es) h.2]
    rfl
/-! ### argument lists -/
def daNil : DA := fun _ _ h => .ok [] h
def daCons (a : DE) (r : DA) : DA := fun fn env h => (a fn env h).bind fun d h1 => (r fn env h1).bind fun ds h2 => .ok (d :: ds) h2
section
variable {X : Cx} {G : Gx} {e a b : Expr} {es : List Expr} {da db : DE} {dr : DA} {pos : Pos}
theorem s_paNil : PA X [] (tA X G daNil) := PA.imp pa_nil fun σ H Q ⟨g, own, env, h, og, r, l, p⟩ => Post.now r p _ rfl
theorem s_paCons (ha : PE X e (tD X G da)) (hr : PA X es (tA X G dr)) (hs : isStar e = false) : PA X (e :: es) (tA X G (daCons da dr)) :=
  PA.imp (pa_cons ha hr (star_cons hs)) fun σ H Q p =>
    tG.bind (f := fun fn env d h1 => (dr fn env h1).bind fun ds h2 => R.ok (d :: ds) h2) p fun g own env h H1 d v og r l q p1 =>
      tG.mk og r l ((Post.bind p1).imp fun g2 H2 ds h2 e2 r2 p2 vs qs => Post.now r2 p2 (v :: vs) ⟨v, vs, rfl, RelT.ext r e2 q, qs⟩)
def noBors (ds : List D) : Bool := ds.all fun d => !isBor d
theorem RelsT.s {g : Gh} {H : Hp} : ∀ {ds : List D} {vs : List V}, RelsT g H ds vs → noBors ds = true → RelsS g H ds vs
  | [], _, q, _ => q
  | d :: ds, _, q, n => by
    obtain ⟨x, rr, e1, e2, e3⟩ := q
    simp only [noBors, List.all_cons, Bool.and_eq_true] at n
    exact ⟨x, rr, e1, e2.s (by simpa using n.1), RelsT.s e3 n.2⟩
/-- displays -/
def mkTup : ON := fun ds h => if noBors ds && decide (ds.length ≤ szL) then .ok (.tup ds) h else .bad
def dTup (a : DA) : DE := dOpN mkTup a
def mkLst : ON := fun ds h => if noBors ds && decide (ds.length ≤ szL) then .ok (.lst ds) h else .bad
def dLst (a : DA) : DE := dOpN mkLst a
theorem s_tup {k : Nat} (ha : PA X es (tA X G dr)) : PE X (.Tuple es k pos) (tD X G (dTup dr)) :=
  PE.imp (pe_tup ha) fun σ H Q p =>
    tG.bind (f := fun fn env ds h1 => mkTup ds h1) p fun g own env h H1 ds vs og r l q p1 => by
      unfold mkTup at p1
      split at p1
      · rename_i hz
        rw [Bool.and_eq_true, decide_eq_true_eq] at hz
        have q' := q.s hz.1
        exact ⟨by rw [lineE, ← q'.len]; exact hz.2, Post.newT (K := fun _ _ _ _ => True) r q' p1⟩
      · exact p1.elim
theorem s_lst (ha : PA X es (tA X G dr)) : PE X (.List es pos) (tD X G (dLst dr)) :=
  PE.imp (pe_lst ha) fun σ H Q p =>
    tG.bind (f := fun fn env ds h1 => mkLst ds h1) p fun g own env h H1 ds vs og r l q p1 => by
      unfold mkLst at p1
      split at p1
      · rename_i hz
        rw [Bool.and_eq_true, decide_eq_true_eq] at hz
        have q' := q.s hz.1
        exact ⟨by rw [lineE, ← q'.len]; exact hz.2, Post.newL r q' p1⟩
      · exact p1.elim
/-! ### a new cell -/
def Gh.more (g : Gh) (p : Addr) : Gh := { g with W := fun a => g.W a ∨ a = p, ρ := g.ρ ++ [p] }
theorem Ext.cell {g : Gh} {H : Hp} {h : Cells} (r : HRel X.prog X.w g H h) {p : Addr} {o : HO} (hp : H p = none) : Ext g H (g.more p) (upd H p o) where
  K := rfl
  gA := rfl
  pre := ⟨[p], rfl⟩
  wn := fun a z => by
    rcases z with z | z
    · exact .inl z
    · exact .inr (by rw [z]; exact hp)
  wk := fun a z => .inl (.inl z)
  rw := fun a m => (List.mem_append.mp m).imp (fun m => r.wr a m) fun m => by simpa using m
  fr := fun a u z _ => by rw [upd_ne (ne_of_none z hp)]; exact z
  nw := fun a m n => (List.mem_append.mp m).elim (fun m => absurd m n) fun m => by
    have : a = p := by simpa using m
    rw [this]; exact hp
theorem HRel.cell {g : Gh} {H : Hp} {h : Cells} (r : HRel X.prog X.w g H h) {p : Addr} {o : HO} {c : OB} (hp : H p = none) (q : CellRel X.prog X.w (g.more p) (upd H p o) p c) : HRel X.prog X.w (g.more p) (upd H p o) (h ++ [c]) where
  len := by show (g.ρ ++ [p]).length = _; rw [List.length_append, List.length_append, r.len]; rfl
  nd := by
    show (g.ρ ++ [p]).Nodup
    rw [List.nodup_append]
    refine ⟨r.nd, by simp, fun a m b hb e => ?_⟩
    have : b = p := by simpa using hb
    obtain ⟨u, hu, _⟩ := r.mem m
    rw [e, this, hp] at hu; cases hu
  wr := (Ext.cell r hp (o := o)).rw
  wt := fun a u h1 h2 => by
    by_cases z : a = p
    · rw [z] at h2
      obtain ⟨u', e1, e2⟩ := q.some
      rw [h2] at e1; cases e1
      exact e2
    · rw [upd_ne z] at h2
      rcases h1 with h1 | h1
      · exact r.wt a u h1 h2
      · exact absurd h1 z
  at_ := fun n a c' h1 h2 => by
    have h1 : (g.ρ ++ [p])[n]? = some a := h1
    by_cases hn : n < g.ρ.length
    · rw [List.getElem?_append_left hn] at h1
      rw [List.getElem?_append_left (by rw [← r.len]; exact hn)] at h2
      refine (r.at_ n a c' h1 h2).ext r (Ext.cell r hp) ?_
      obtain ⟨u, hu, _⟩ := r.mem (List.mem_of_getElem? h1)
      exact upd_ne (ne_of_none hu hp)
    · rw [List.getElem?_append_right (by omega)] at h1
      rw [List.getElem?_append_right (by rw [← r.len]; omega)] at h2
      have e : n = g.ρ.length := by
        have := (List.getElem?_eq_some_iff.mp h1).1
        simp at this; omega
      subst e
      rw [← r.len, Nat.sub_self] at h2
      rw [Nat.sub_self] at h1
      simp at h1 h2
      subst h1; subst h2
      exact q
theorem Post.newC {g : Gh} {H : Hp} {h : Cells} {Q : VK} {c : OB} {o : HO} (r : HRel X.prog X.w g H h) (qc : ∀ p, H p = none → CellRel X.prog X.w (g.more p) (upd H p o) p c)
    (p : Post X G g H (.ok (.obj h.length) (h ++ [c])) fun g' H' r _ => ∀ v, RelT g' H' r v → Q v H') : ∀ a, H a = none → Q (.ref a) (upd H a o) := fun a ha =>
  p _ _ (Ext.cell r ha) (r.cell ha (qc a ha)) _ ⟨a, rfl, by show (g.ρ ++ [a])[h.length]? = _; rw [← r.len, List.getElem?_append_right (Nat.le_refl _), Nat.sub_self]; rfl⟩
/-! ### tests -/
def dtAnd (a b : DT) : DT := fun fn env h => (a fn env h).bind fun c h1 => if c = true then b fn env h1 else .ok false h1
def dtOr (a b : DT) : DT := fun fn env h => (a fn env h).bind fun c h1 => if c = true then .ok true h1 else b fn env h1
def dtNot (a : DT) : DT := fun fn env h => (a fn env h).bind fun c h1 => .ok (!c) h1
variable {ta tb : DT} {rest : List Expr} {c : Expr}
theorem s_and1 (ha : PT X a (tT X G ta)) : PW X (.BoolOp .And [a] pos) (tT X G ta) := pw_and1 ha
theorem s_or1 (ha : PT X a (tT X G ta)) : PW X (.BoolOp .Or [a] pos) (tT X G ta) := pw_or1 ha
theorem s_and (ha : PT X a (tT X G ta)) (hb : PW X (.BoolOp .And (b :: rest) pos) (tT X G tb)) : PW X (.BoolOp .And (a :: b :: rest) pos) (tT X G (dtAnd ta tb)) :=
  PW.imp (pw_and ha hb) fun σ H Q p =>
    tG.bind (f := fun fn env c h1 => if c = true then tb fn env h1 else .ok false h1) p fun g own env h H1 c v og r l q p1 => by
      subst q
      cases v with
      | true => exact tG.mk og r l p1
      | false => exact Post.now r p1 _ rfl
theorem s_or (ha : PT X a (tT X G ta)) (hb : PW X (.BoolOp .Or (b :: rest) pos) (tT X G tb)) : PW X (.BoolOp .Or (a :: b :: rest) pos) (tT X G (dtOr ta tb)) :=
  PW.imp (pw_or ha hb) fun σ H Q p =>
    tG.bind (f := fun fn env c h1 => if c = true then .ok true h1 else tb fn env h1) p fun g own env h H1 c v og r l q p1 => by
      subst q
      cases v with
      | false => exact tG.mk og r l p1
      | true => exact Post.now r p1 _ rfl
theorem s_notT (ha : PT X a (tT X G ta)) : PT X (.UnaryOp .Not a pos) (tT X G (dtNot ta)) :=
  PT.imp (pt_not ha) fun σ H Q p =>
    tG.bind (f := fun fn env (c : Bool) h1 => R.ok (!c) h1) p fun g own env h H1 c v og r l q p1 => by
      subst q
      exact Post.now r p1 _ rfl
/-- .. as values -/
def dAnd (a b : DE) : DE := fun fn env h => (a fn env h).bind fun d h1 => (dTru d h1).bind fun k h2 => if k = true then b fn env h2 else .ok d h2
def dOr (a b : DE) : DE := fun fn env h => (a fn env h).bind fun d h1 => (dTru d h1).bind fun k h2 => if k = true then .ok d h2 else b fn env h2
def dNot (a : DE) : DE := fun fn env h => (a fn env h).bind fun d h1 => (dTru d h1).bind fun k h2 => .ok (.bl (!k)) h2
def dIf (t : DT) (a b : DE) : DE := fun fn env h => (t fn env h).bind fun k h1 => if k = true then a fn env h1 else b fn env h1
theorem dTru_h {d : D} {h : Cells} {k : Bool} {h' : Cells} (e : dTru d h = .ok k h') : h' = h := by
  unfold dTru at e
  split at e
  all_goals first
    | (cases e; rfl)
    | (split at e <;> first | (cases e; rfl) | cases e)
theorem dTru_no {d : D} {h : Cells} {x : Exc} {h' : Cells} (e : dTru d h = .exc x h') : False := by
  unfold dTru at e
  split at e
  all_goals first
    | cases e
    | (split at e <;> cases e)
/-- what follows on a truth -/
theorem tru_then {g : Gh} {H : Hp} {h : Cells} {d : D} {x : V} {α : Type} {f : Bool → Cells → R α} {K : Gh → Hp → α → Cells → Prop} (og : GOk X G g) (r : HRel X.prog X.w g H h) (q : RelT g H d x)
    (p : Post X G g H ((dTru d h).bind f) K) : ∃ k, TruV X.K x H k ∧ Post X G g H (f k h) K := by
  cases e : dTru d h with
  | bad => rw [e] at p; exact p.elim
  | exc y h' => exact (dTru_no e).elim
  | ok k h' =>
    have e' := dTru_h e
    subst e'
    rw [e] at p
    obtain ⟨k', t, z⟩ := tru_of (X := X) (G := G) (x := x) (H := H) (Q := fun b _ => b = k) ⟨g, h', d, og, r, q, by rw [e]; exact fun g' H' _ _ v hv => hv⟩
    subst z
    exact ⟨_, t, p⟩
theorem s_oneV {op : BoolOp} (ha : PE X a (tD X G da)) : PE X (.BoolOp op [a] pos) (tD X G da) := pe_one ha
theorem s_andV (ha : PE X a (tD X G da)) (hb : PE X (.BoolOp .And (b :: rest) pos) (tD X G db)) : PE X (.BoolOp .And (a :: b :: rest) pos) (tD X G (dAnd da db)) :=
  PE.imp (pe_andT ha hb) fun σ H Q p =>
    tG.bind (f := fun fn env d h1 => (dTru d h1).bind fun k h2 => if k = true then db fn env h2 else .ok d h2) p fun g own env h H1 d v og r l q p1 => by
      obtain ⟨k, t, p2⟩ := tru_then og r q p1
      refine ⟨k, t, ?_⟩
      cases k with
      | true => exact tG.mk og r l p2
      | false => exact Post.val r q p2
theorem s_notV (ha : PE X a (tD X G da)) : PE X (.UnaryOp .Not a pos) (tD X G (dNot da)) :=
  PE.imp (pe_notT ha) fun σ H Q p =>
    tG.bind (f := fun fn env d h1 => (dTru d h1).bind fun k h2 => R.ok (D.bl (!k)) h2) p fun g own env h H1 d v og r l q p1 => by
      obtain ⟨k, t, p2⟩ := tru_then og r q p1
      exact ⟨k, t, Post.bl r p2⟩
theorem s_if (hc : PT X c (tT X G ta)) (ha : PE X a (tD X G da)) (hb : PE X b (tD X G db)) : PE X (.IfExp c a b pos) (tD X G (dIf ta da db)) :=
  PE.imp (pe_ifExp hc ha hb) fun σ H Q p =>
    tG.bind (f := fun fn env k h1 => if k = true then da fn env h1 else db fn env h1) p fun g own env h H1 k v og r l q p1 => by
      subst q
      cases v with
      | true => exact tG.mk og r l p1
      | false => exact tG.mk og r l p1
/-- a op b op' c -/
def dChain (o o' : O2) (a b c : DE) : DE := fun fn env h => (a fn env h).bind fun x h1 => (b fn env h1).bind fun y h2 => (o x y h2).bind fun z h3 => match z with
  | .bl true => (c fn env h3).bind fun w h4 => o' y w h4
  | .bl false => .ok (.bl false) h3
  | _ => .bad
theorem tChain_of {o o' : O2} {dc : DE} {σ : L2.St} {H : Hp} {Q : VK} (p : tD X G (dChain o o' da db dc) σ H Q) : tChain (rO2 X G o) (rO2 X G o') (tD X G da) (tD X G db) (tD X G dc) σ H Q := by
  refine tG.bind (f := fun fn env x h1 => (db fn env h1).bind fun y h2 => (o x y h2).bind fun z h3 => match z with
    | .bl true => (dc fn env h3).bind fun w h4 => o' y w h4
    | .bl false => .ok (.bl false) h3
    | _ => .bad) p fun g own env h H1 d v og r l q p1 => ?_
  refine tG.mk og r l ((Post.bind p1).imp fun g2 H2 d2 h2 e2 r2 p2 v2 q2 => ?_)
  refine ⟨g2, h2, d, d2, og.ext e2, r2, RelT.ext r e2 q, q2, (Post.bind p2).imp fun g3 H3 z h3 e3 r3 p3 v3 q3 => ?_⟩
  cases z with
  | bl k =>
    refine ⟨k, q3, ?_⟩
    have og3 := (og.ext e2).ext e3
    have l3 := (l.step r e2).step r2 e3
    cases k with
    | true =>
      refine tG.mk og3 r3 l3 ((Post.bind p3).imp fun g4 H4 d4 h4 e4 r4 p4 v4 q4 => ?_)
      exact ⟨g4, h4, d2, d4, og3.ext e4, r4, RelT.ext r3 e4 (RelT.ext r2 e3 q2), q4, p4⟩
    | false => exact Post.bl r3 p3
  | _ => exact p3.elim
theorem s_chainT {op op' : CmpOp} {o o' : O2} {dc : DE} (ho : OpR X (compareOp op) (rO2 X G o)) (ho' : OpR X (compareOp op') (rO2 X G o')) (ha : PE X a (tD X G da)) (hb : PE X b (tD X G db)) (hc : PE X c (tD X G dc))
    (hm : lastMarks [op, op'] [b, c] = false) : PT X (.Compare a [op, op'] [b, c] pos) (tT X G fun fn env h => asB (dChain o o' da db dc fn env h)) :=
  PT.imp (pt_chain ho ho' ha hb hc hm) fun _ _ _ p => by
    obtain ⟨g, own, env, h, og, r, l, q⟩ := tB_of p
    exact tChain_of ⟨g, own, env, h, og, r, l, q⟩
end
end EV
/-! EV6: a def's contract (with the guards told), calls of the text's own defs -/
namespace EV
open PySem L2
/-- a def's contract where nothing is being shown -/
structure FnG (P : Program) (w : World) (K : PySem.W.Frag) (mg : Str → Option Value) (base : Heap) (k : Nat) (f : Addr) (fd : FuncData) (ps : List Str) (sp : Sp) : Prop where
  len : ∀ vs H Q E, sp vs H Q E → vs.length = ps.length
  run : ∀ (B : Around) (out : List Env) (s : Shared) (H : Hp) (args : Args) (us : List Value) (vs : List V) (Q : VK) (E : XK), B.guards = some [] → Room k B → Env0 P w K mg base B out s H → BindsTo s fd args (ps.zip us) →
    Vals vs us → sp vs H Q E → codeAny (model P w) B (.call (.ref f) args) (CR (L2.CX P w) out P w H s Q E) s
theorem FnG.mono {P : Program} {w : World} {K : PySem.W.Frag} {mg : Str → Option Value} {base : Heap} {j k : Nat} {f : Addr} {fd : FuncData} {ps : List Str} {sp : Sp} (F : FnG P w K mg base j f fd ps sp) (le : j ≤ k) : FnG P w K mg base k f fd ps sp :=
  ⟨F.len, fun B out s H args us vs Q E gu rm => F.run B out s H args us vs Q E gu (rm.mono le)⟩
section
variable {X : Cx} {k : Nat} {f : Addr} {fd : FuncData} {ps : List Str} {sp : Sp} {E : XK}
/-- the def runs -/
theorem FnG.go {pins : List (Addr × Obj)} {σ : L2.St} {H : Hp} {s : Shared} {Q : VK} {args : Args} {us : List Value} {vs : List V} (F : FnG X.prog X.w X.K X.mg X.base k f fd ps sp) (gu : X.A.guards = some []) (rm : Room k X.A)
    (hx : Passes (L2.CX X.prog X.w) X E) (I : Inv X pins σ H s) (hb : BindsTo s fd args (ps.zip us)) (rv : Vals vs us) (q : sp vs H Q E) :
    codeAny (model X.prog X.w) X.A (.call (.ref f) args) (fun r s' => match r with
      | .ok (.ret u) => EP X pins σ Q u s'
      | .ok _ => False
      | .error e => X.xe e s') s := by
  refine codeAny_mono (F.run X.A X.stack s H args us vs Q E gu rm I.env0 hb rv q) fun res s' z => ?_
  cases res with
  | error e => exact hx pins σ H s e s' I z
  | ok fl =>
    cases fl with
    | ret u => exact I.after z
    | next => exact False.elim z
    | brk => exact False.elim z
    | cont => exact False.elim z
end
section
open PySem.Spec PyProof.Rows
/-- a def's contract from its body -/
theorem FnG.of {P : Program} {w : World} {K : PySem.W.Frag} {mg : Str → Option Value} {base : Heap} {k : Nat} {f : Addr} {nm qual : Str} {params : Arguments} {body : List Stmt} {scope : Scope} {dV kV doc pm cdv ct oc : Value} {an od : Option Addr}
    {osl : Array (Option Value)} {N ps : List Str} {sp : Sp} (lk : K.lookup f = some ⟨oc, od, .func (PySem.W.fnOf nm qual params body scope dV kV doc pm an cdv ct), osl⟩) (hcd : PySem.W.codeIn K cdv qual = true) (S : FnScope N ps scope)
    (len : ∀ vs H Q E, sp vs H Q E → vs.length = ps.length)
    (hbody : ∀ (B : Around) (out : List Env) (s : Shared) (H : Hp) (vs : List V) (Q : VK) (E : XK), B.guards = some [] → Room (k + 1) B → sp vs H Q E →
      ∃ t, PSs (cxOf (L2.CX P w) P w K mg base N qual scope f cdv B out s H E) body t ∧ t { nx := fun _ H' => Q .non H', rt := Q } (start N vs) H) :
    FnG P w K mg base (k + 1) f (PySem.W.fnOf nm qual params body scope dV kV doc pm an cdv ct) ps sp := by
  refine ⟨len, fun B out s H args us vs Q E gu rm e0 hb rv q => ?_⟩
  have lens := len _ _ _ _ q
  have inK : K.In s.heap := e0.mod.kin.keeps fun b o z => (e0.bs b o z).1
  have nl : s.heap.NoLimit := e0.mod.nolimit.keeps fun b o z => (e0.bs b o z).1
  have kinds : ∀ y ∈ ps.zip us, scope.names.lookup y.1 = some .local ∨ (scope.names.lookup y.1 = some .cell ∧ ((cellsFrom (s.heap.objs.size + 1) scope.names []).lookup y.1).isSome = true) := by
    rintro ⟨n, v⟩ hy
    rcases S.par n (List.of_mem_zip hy).1 with z | z
    · exact .inl z
    · exact .inr ⟨z, PySem.W.cellsFrom_some _ _ _ (.inl z)⟩
  refine codeAny_call_function rm.depth (inK _ _ lk) rfl S.co S.gen rfl (PySem.W.codeRec_of inK hcd) (hb _ _ _ _ ?_)
  refine wpAny_newFunctionEnv_cells S.kind kinds fun env he s1 x => ?_
  subst he
  refine ⟨nl.keeps x.toInCall.keep, codeAny_func ?_⟩
  obtain ⟨t, ht, hq⟩ := hbody B out s H vs Q E gu rm q
  have I0 : Inv (cxOf (L2.CX P w) P w K mg base N qual scope f cdv B out s H E) [] (start N vs) H s1 := inv_start S rm.hd e0 lens rv x
  refine wpAny_mono (ht.run [] s1 (start N vs) H _ I0 hq) (fun fl s' hs => ?_) fun e s' hs => hs
  cases fl with
  | ret u =>
    obtain ⟨v, σ', H', J, rvu, z⟩ := hs
    exact ⟨v, H', J.os, J.bare, J.base, J.hok, rvu, z⟩
  | next =>
    obtain ⟨σ', H', J, z⟩ := hs
    exact ⟨.non, H', J.os, J.bare, J.base, J.hok, rfl, z⟩
  | brk =>
    obtain ⟨_, _, _, z⟩ := hs
    exact False.elim z
  | cont =>
    obtain ⟨_, _, _, z⟩ := hs
    exact False.elim z
end
/-! ### where an argument comes from -/
inductive Src where
  | p (i : Nat) | k (i : Nat) | d (i : Nat)
deriving DecidableEq
def Src.get {α : Type} (us ws ds : List α) : Src → Option α
  | .p i => us[i]?
  | .k i => ws[i]?
  | .d i => ds[i]?
def arrange {α : Type} (us ws ds : List α) : List Src → Option (List α)
  | [] => some []
  | s :: r => match s.get us ws ds, arrange us ws ds r with
    | some x, some xs => some (x :: xs)
    | _, _ => none
theorem arrange_len {α : Type} {us ws ds : List α} : ∀ {r : List Src} {zs : List α}, arrange us ws ds r = some zs → zs.length = r.length
  | [], _, h => by cases h; rfl
  | s :: r, zs, h => by
    unfold arrange at h
    split at h
    · rename_i x xs e1 e2
      cases h
      rw [List.length_cons, List.length_cons, arrange_len e2]
    · cases h
theorem arrange_vals {us ws ds : List V} {us' ws' ds' : List Value} (a : Vals us us') (b : Vals ws ws') (c : Vals ds ds') : ∀ {r : List Src} {zs : List V}, arrange us ws ds r = some zs → ∃ zs', arrange us' ws' ds' r = some zs' ∧ Vals zs zs'
  | [], _, h => by cases h; exact ⟨[], rfl, .nil⟩
  | s :: r, zs, h => by
    unfold arrange at h
    split at h
    · rename_i x xs e1 e2
      cases h
      obtain ⟨zs', h1, h2⟩ := arrange_vals a b c e2
      have : ∃ u, s.get us' ws' ds' = some u ∧ RelV x u := by
        cases s with
        | p i => exact a.get e1
        | k i => exact b.get e1
        | d i => exact c.get e1
      obtain ⟨u, h3, h4⟩ := this
      exact ⟨u :: zs', by unfold arrange; rw [h3, h1], .cons h4 h2⟩
    · cases h
theorem arrange_rel {g : Gh} {H : Hp} {us ws ds : List D} {us' ws' ds' : List V} (a : RelsS g H us us') (b : RelsS g H ws ws') (c : RelsS g H ds ds') : ∀ {r : List Src} {zs : List D}, arrange us ws ds r = some zs → ∃ zs', arrange us' ws' ds' r = some zs' ∧ RelsS g H zs zs'
  | [], _, h => by cases h; exact ⟨[], rfl, rfl⟩
  | s :: r, zs, h => by
    unfold arrange at h
    split at h
    · rename_i x xs e1 e2
      cases h
      obtain ⟨zs', h1, h2⟩ := arrange_rel a b c e2
      have : ∃ u, s.get us' ws' ds' = some u ∧ RelS g H x u := by
        cases s with
        | p i => exact a.get e1
        | k i => exact b.get e1
        | d i => exact c.get e1
      obtain ⟨u, h3, h4⟩ := this
      exact ⟨u :: zs', by unfold arrange; rw [h3, h1], ⟨u, zs', rfl, h4, h2⟩⟩
    · cases h
/-! ### what a def of the text promises: what its evaluation gives -/
def PostE {α : Type} (P : Program) (w : World) (E : XK) (g : Gh) (H : Hp) (r : R α) (K : Gh → Hp → α → Cells → Prop) : Prop := match r with
  | .ok a h' => ∀ g' H', Ext g H g' H' → HRel P w g' H' h' → K g' H' a h'
  | .exc e h' => ∀ g' H' cls d, Ext g H g' H' → HRel P w g' H' h' → ExcRel g' H' e cls d → E cls d H'
  | .bad => False
theorem PostE.eq {α : Type} {X : Cx} {G : Gx} {g : Gh} {H : Hp} {r : R α} {K : Gh → Hp → α → Cells → Prop} : PostE X.prog X.w G.Wx g H r K = Post X G g H r K := rfl
def spF (P : Program) (w : World) (K : PySem.W.Frag) (gA : Nat → Option Addr) (np : Nat) (F : List D → Cells → R D) : Sp := fun vs H Q E =>
  ∃ g h ds, g.K = K ∧ g.gA = gA ∧ HRel P w g H h ∧ RelsS g H ds vs ∧ ds.length = np ∧ PostE P w E g H (F ds h) fun g' H' d _ => ∀ v, RelS g' H' d v → Q v H'
theorem spF_len {P : Program} {w : World} {K : PySem.W.Frag} {gA : Nat → Option Addr} {np : Nat} {F : List D → Cells → R D} {vs : List V} {H : Hp} {Q : VK} {E : XK} (q : spF P w K gA np F vs H Q E) : vs.length = np := by
  obtain ⟨g, h, ds, _, _, _, q, e, _⟩ := q
  rw [← q.len, e]
/-- the def behind a global name, as it is called with n positional arguments and the keywords ks -/
structure CallOk (X : Cx) (G : Gx) (x : Str) (i n : Nat) (ks : List Str) (src : List Src) (dd : List D) : Prop where
  ex : ∃ (k : Nat) (f : Addr) (fd : FuncData) (ps : List Str) (dvs : List V) (dsV : List Value), X.mg x = some (.ref f) ∧ PySem.W.keepIn X.K (.ref f) = true ∧ Room k X.A ∧
    FnG X.prog X.w X.K X.mg X.base k f fd ps (spF X.prog X.w X.K G.gA ps.length (G.fns i)) ∧ Vals dvs dsV ∧ (∀ g H, GOk X G g → RelsS g H dd dvs) ∧ src.length = ps.length ∧
    ∀ (s : Shared) (us ws zs : List Value), X.K.In s.heap → us.length = n → ws.length = ks.length → arrange us ws dsV src = some zs → BindsTo s fd ⟨us, ks.zip ws⟩ (ps.zip zs)
def mkCall (i n nk : Nat) (src : List Src) (dd : List D) (fn : Fns) (ds ks : List D) (h : Cells) : R D :=
  if noBors ds && noBors ks && decide (ds.length = n) && decide (ks.length = nk) then match arrange ds ks dd src with
    | some zs => fn i zs h
    | none => .bad
  else .bad
def dCall (i n nk : Nat) (src : List Src) (dd : List D) (da dk : DA) : DE := fun fn env h => (da fn env h).bind fun ds h1 => (dk fn env h1).bind fun ks h2 => mkCall i n nk src dd fn ds ks h2
section
variable {X : Cx} {G : Gx} {x : Str} {i n : Nat} {ks : List Str} {src : List Src} {dd : List D} {es : List Expr} {kws : List Keyword} {da dk : DA} {p pos : Pos}
theorem PK.imp {kws : List Keyword} {t t' : TA} (h : PK X kws t) (k : ∀ σ H Q, t' σ H Q → t σ H Q) : PK X kws t' := ⟨fun pos pins s σ H Q I q => h.run pos pins s σ H Q I (k σ H Q q)⟩
theorem s_pkNil : PK X [] (tA X G daNil) := PK.imp pk_nil fun σ H Q ⟨g, own, env, h, og, r, l, p⟩ => Post.now r p _ rfl
theorem RelsT.len {g : Gh} {H : Hp} : ∀ {ds : List D} {vs : List V}, RelsT g H ds vs → ds.length = vs.length
  | [], _, q => by cases (show _ = [] from q); rfl
  | d :: ds, _, q => by
    obtain ⟨y, rr, e1, _, e3⟩ := q
    rw [e1, List.length_cons, List.length_cons, RelsT.len e3]
/-- the call itself -/
theorem call_go {pins : List (Addr × Obj)} {σ : L2.St} {H : Hp} {s : Shared} {Q : VK} {g : Gh} {h : Cells} {ds kd : List D} {vs zs : List V} {us ws : List Value} (C : CallOk X G x i n ks src dd) (gu : X.A.guards = some []) (hx : Passes (L2.CX X.prog X.w) X G.Wx)
    (I : Inv X pins σ H s) (og : GOk X G g) (r : HRel X.prog X.w g H h) (q1 : RelsT g H ds vs) (q2 : RelsT g H kd zs) (r1 : Vals vs us) (r2 : Vals zs ws)
    (p : Post X G g H (mkCall i n ks.length src dd G.fns ds kd h) fun g' H' d _ => ∀ v, RelT g' H' d v → Q v H') :
    ∃ f, X.mg x = some (.ref f) ∧ PySem.W.keepIn X.K (.ref f) = true ∧ wpAny (model X.prog X.w) X.A (PySem.call (.ref f) us (ks.zip ws)) (EP X pins σ Q) X.xe s := by
  obtain ⟨k, f, fd, ps, dvs, dsV, hm, kp, rm, F, rd, hd, hl, hb⟩ := C.ex
  refine ⟨f, hm, kp, ?_⟩
  unfold mkCall at p
  split at p
  · rename_i hz
    simp only [Bool.and_eq_true, decide_eq_true_eq] at hz
    obtain ⟨⟨⟨z1, z2⟩, z3⟩, z4⟩ := hz
    split at p
    · rename_i as ea
      obtain ⟨bs, e1, t1⟩ := arrange_rel (q1.s z1) (q2.s z2) (hd g H og) ea
      obtain ⟨cs, e2, t2⟩ := arrange_vals r1 r2 rd e1
      have hbs := hb s us ws cs I.kIn (by rw [← r1.length, ← q1.len]; exact z3) (by rw [← r2.length, ← q2.len]; exact z4) e2
      have hsp : spF X.prog X.w X.K G.gA ps.length (G.fns i) bs H Q G.Wx := ⟨g, h, as, og.K, og.gA, r, t1, by rw [arrange_len ea, hl], Post.imp p fun g' H' d h' _ _ z v qv => z v qv.t⟩
      refine wpAny_call (codeAny_mono (F.go gu rm hx I hbs t2 hsp) fun res s' z => ?_)
      cases res with
      | error e => exact z
      | ok fl =>
        cases fl with
        | ret u => exact z
        | next => exact False.elim z
        | brk => exact False.elim z
        | cont => exact False.elim z
    · exact p.elim
  · exact p.elim
def kwNames (kws : List Keyword) : List (Option Str) := kws.map (·.arg)
theorem kw_names {pos : Pos} {env : Env} : ∀ {kws : List Keyword}, (backToKw pos (keywordEach kws env)).map (·.1) = kwNames kws
  | [] => rfl
  | ⟨nm, e, kp⟩ :: r => by
    have ih := @kw_names pos env r
    show nm :: (backToKw pos (keywordEach r env)).map (·.1) = nm :: kwNames r
    rw [ih]
theorem kw_facts : ∀ {ks : List Str} {l : List (Option Str × Sem Value)}, l.map (·.1) = ks.map some → l.all (·.1.isSome) = true ∧ l.filterMap (·.1) = ks ∧ l.any (·.1.isNone) = false
  | [], [], _ => ⟨rfl, rfl, rfl⟩
  | [], _ :: _, z => by cases z
  | _ :: _, [], z => by cases z
  | b :: ks, (y1, y2) :: l, z => by
    simp only [List.map_cons, List.cons.injEq] at z
    obtain ⟨z1, z2⟩ := z
    subst z1
    obtain ⟨i1, i2, i3⟩ := kw_facts z2
    refine ⟨?_, ?_, ?_⟩
    · rw [List.all_cons, i1]; rfl
    · rw [List.filterMap_cons]; simp only [i2]
    · rw [List.any_cons, i3]; rfl
theorem kw_all {pos : Pos} {env : Env} {kws : List Keyword} {ks : List Str} (h : kwNames kws = ks.map some) : (backToKw pos (keywordEach kws env)).all (·.1.isSome) = true ∧ (backToKw pos (keywordEach kws env)).filterMap (·.1) = ks ∧ (backToKw pos (keywordEach kws env)).any (·.1.isNone) = false :=
  kw_facts (by rw [kw_names, h])
theorem s_call (C : CallOk X G x i n ks src dd) (gu : X.A.guards = some []) (hx : Passes (L2.CX X.prog X.w) X G.Wx) (hg : Gl X x) (hdb : (x == ("__debug__" : Str)) = false) (ha : PA X es (tA X G da)) (hk : PK X kws (tA X G dk)) (hn : kwNames kws = ks.map some) (hst : noStars es = true) (h0 : es = [] → da = daNil) :
    PE X (.Call (.Name x p) es kws pos) (tD X G (dCall i n ks.length src dd da dk)) := by
  obtain ⟨w1, w2, w3⟩ := kw_all (pos := pos) (env := X.env) hn
  obtain ⟨k, f, fd, ps, dvs, dsV, hm, kp, _⟩ := C.ex
  refine ⟨fun pins s σ H Q I hq => ?_⟩
  refine wpAny_Call_Name_kw (ld_glob I hg hm ?_ hdb)
  obtain ⟨g, own, env, h, og, r, l, p0⟩ := hq
  -- the arguments, then the keywords, then the call
  have fin : ∀ {us : List Value} {s1 : Shared}, AP X pins σ (fun vs H1 => ∃ g1 ds h1, GOk X G g1 ∧ HRel X.prog X.w g1 H1 h1 ∧ LR g1 own env σ H1 ∧ RelsT g1 H1 ds vs ∧ Post X G g1 H1 ((dk G.fns env h1).bind fun ks' h2 => mkCall i n ks.length src dd G.fns ds ks' h2) fun g' H' d _ => ∀ v, RelT g' H' d v → Q v H') us s1 →
      wpAny (model X.prog X.w) X.A (evalAll ((backToKw pos (keywordEach kws X.env)).map (·.2))) (fun ws s2 => X.K.In s2.heap ∧ wpAny (model X.prog X.w) X.A (PySem.call (.ref f) us (ks.zip ws)) (EP X pins σ Q) X.xe s2) X.xe s1 := by
    rintro us s1 ⟨vs, H1, I1, rv, g1, ds, h1, og1, r1, l1, q1, p1⟩
    refine thn (hk.run pos pins s1 σ H1 (fun zs H2 => ∃ g2 kd h2, GOk X G g2 ∧ HRel X.prog X.w g2 H2 h2 ∧ RelsT g2 H2 ds vs ∧ RelsT g2 H2 kd zs ∧ Post X G g2 H2 (mkCall i n ks.length src dd G.fns ds kd h2) fun g' H' d _ => ∀ v, RelT g' H' d v → Q v H') I1
      (tG.mk og1 r1 l1 ((Post.bind p1).imp fun g2 H2 kd h2 e2 r2 p2 zs qz => ⟨g2, kd, h2, og1.ext e2, r2, RelsT.ext r1 e2 q1, qz, p2⟩))) fun ws s2 ⟨zs, H2, I2, rz, g2, kd, h2, og2, r2, q2, qz, p2⟩ => ⟨I2.kIn, ?_⟩
    obtain ⟨f', hm', _, run⟩ := call_go C gu hx I2 og2 r2 q2 qz rv rz p2
    rw [hm] at hm'; cases hm'
    exact run
  have args : tA X G da σ H (fun vs H1 => ∃ g1 ds h1, GOk X G g1 ∧ HRel X.prog X.w g1 H1 h1 ∧ LR g1 own env σ H1 ∧ RelsT g1 H1 ds vs ∧ Post X G g1 H1 ((dk G.fns env h1).bind fun ks' h2 => mkCall i n ks.length src dd G.fns ds ks' h2) fun g' H' d _ => ∀ v, RelT g' H' d v → Q v H') :=
    tG.mk og r l ((Post.bind p0).imp fun g1 H1 ds h1 e1 r1 p1 vs qv => ⟨g1, ds, h1, og.ext e1, r1, l.step r e1, qv, p1⟩)
  cases es with
  | nil =>
    refine PySem.W.callWith_KW0 (h₀ := X.base) I.ok.mod.kin kp w1 ?_ (by rw [w3]; rfl)
    rw [w2]
    have e := h0 rfl
    subst e
    exact fin (us := []) (s1 := s) ⟨[], H, I, .nil, g, [], h, og, r, l, rfl, p0⟩
  | cons e r' =>
    simp only [noStars, List.all_cons, Bool.and_eq_true] at hst
    refine PySem.W.callWith_KW (h₀ := X.base) I.ok.mod.kin kp w1 (thn (ha.run pos pins s σ H _ I args) fun us s1 z => ?_) ?_ (star_cons (by simpa using hst.1))
    · rw [w2]
      exact fin z
    · rw [w3, Bool.or_false]
      exact backTo_any (stars_any (es := e :: r') (by simp only [noStars, List.all_cons, Bool.and_eq_true]; exact hst))
end
end EV
/-! EV7: statements -/
namespace EV
open PySem L2
/-- where a statement leads -/
inductive Fl where
  | nx | rt (d : D) | bk | ct
abbrev DS := Fns → Ev → Cells → R (Fl × Ev)
/-- the state of a def since its entry -/
structure Ent (g0 : Gh) (H0 : Hp) (g : Gh) (H : Hp) (own : Nat → Option Addr) : Prop where
  ext : Ext g0 H0 g H
  new : ∀ i a, own i = some a → H0 a = none
def FlE (g : Gh) (σ : L2.St) (H : Hp) (D : Ends) : Fl → Prop
  | .nx => D.nx σ H
  | .rt d => ∀ v, RelS g H d v → D.rt v H
  | .bk => D.bk σ H
  | .ct => D.ct σ H
/-- what is wanted behind a statement that began at g H -/
def PostS (X : Cx) (G : Gx) (g0 : Gh) (H0 : Hp) (g : Gh) (H : Hp) (r : R (Fl × Ev)) (D : Ends) : Prop := match r with
  | .ok (fl, env') h' => ∀ g' own' H' σ', GOk X G g' → HRel X.prog X.w g' H' h' → LR g' own' env' σ' H' → Ent g0 H0 g' H' own' → ExtS g H g' H' → FlE g' σ' H' D fl
  | .exc e h' => ∀ g' H' cls d, Ext g0 H0 g' H' → HRel X.prog X.w g' H' h' → ExcRel g' H' e cls d → G.Wx cls d H'
  | .bad => False
def tS (X : Cx) (G : Gx) (g0 : Gh) (H0 : Hp) (ds : DS) : TS := fun D σ H =>
  ∃ g own env h, GOk X G g ∧ HRel X.prog X.w g H h ∧ LR g own env σ H ∧ Ent g0 H0 g H own ∧ PostS X G g0 H0 g H (ds G.fns env h) D
section
variable {X : Cx} {G : Gx} {g0 g g' : Gh} {H0 H H' : Hp} {h h' : Cells} {own : Nat → Option Addr} {env : Ev} {σ : L2.St}
theorem PostS.mono {r : R (Fl × Ev)} {D : Ends} (p : PostS X G g0 H0 g H r D) (e : ExtS g H g' H') : PostS X G g0 H0 g' H' r D := by
  cases r with
  | ok a h' =>
    obtain ⟨fl, env'⟩ := a
    exact fun g2 own2 H2 σ2 o2 r2 l2 n2 e2 => p g2 own2 H2 σ2 o2 r2 l2 n2 (e.trans e2)
  | exc x h' => exact p
  | bad => exact p
theorem Ent.step (n : Ent g0 H0 g H own) (e : Ext g H g' H') : Ent g0 H0 g' H' own := ⟨n.ext.trans e, n.new⟩
/-- an expression, then what the statement does -/
theorem Post.stmt {α : Type} {r : R α} {f : α → Cells → R (Fl × Ev)} {D : Ends} (rr : HRel X.prog X.w g H h) (n : Ent g0 H0 g H own) (p : PostS X G g0 H0 g H (r.bind f) D) :
    Post X G g H r fun g1 H1 a h1 => PostS X G g0 H0 g1 H1 (f a h1) D := by
  cases r with
  | ok a h' => exact fun g2 H2 e2 r2 => PostS.mono (show PostS X G g0 H0 g H (f a h') D from p) (e2.s rr)
  | exc x h' => exact fun g2 H2 c d e2 r2 q => p g2 H2 c d (n.ext.trans e2) r2 q
  | bad => exact p
theorem PostS.now {env' : Ev} {fl : Fl} {D : Ends} (p : PostS X G g0 H0 g H (.ok (fl, env') h) D) (o : GOk X G g) (r : HRel X.prog X.w g H h) (l : LR g own env' σ H) (n : Ent g0 H0 g H own) : FlE g σ H D fl :=
  p g own H σ o r l n (ExtS.refl g H)
/-! ### blocks -/
def sNext : DS := fun _ env h => .ok (.nx, env) h
def sSeq (a b : DS) : DS := fun fn env h => (a fn env h).bind fun x h1 => match x.1 with
  | .nx => b fn x.2 h1
  | _ => .ok x h1
variable {st : Stmt} {rest : List Stmt} {da db : DS} {pos : Pos}
theorem ss_nil : PSs X [] (tS X G g0 H0 sNext) := PSs.imp pss_nil fun D σ H ⟨g, own, env, h, o, r, l, n, p⟩ => p.now o r l n
theorem s_seq {D : Ends} (p : tS X G g0 H0 (sSeq da db) D σ H) : tSeq (tS X G g0 H0 da) (tS X G g0 H0 db) D σ H := by
  obtain ⟨g, own, env, h, o, r, l, n, p⟩ := p
  refine ⟨g, own, env, h, o, r, l, n, ?_⟩
  unfold sSeq at p
  cases e : da G.fns env h with
  | bad => rw [e] at p; exact p
  | exc x h' => rw [e] at p; exact p
  | ok a h' =>
    rw [e] at p
    obtain ⟨fl, env'⟩ := a
    cases fl with
    | nx => exact fun g2 own2 H2 σ2 o2 r2 l2 n2 e2 => ⟨g2, own2, env', h', o2, r2, l2, n2, PostS.mono p e2⟩
    | rt d => exact p
    | bk => exact p
    | ct => exact p
theorem ss_cons (h1 : PS X st (tS X G g0 H0 da)) (h2 : PSs X rest (tS X G g0 H0 db)) : PSs X (st :: rest) (tS X G g0 H0 (sSeq da db)) := PSs.imp (pss_cons h1 h2) fun _ _ _ p => s_seq p
theorem ss_one (h1 : PS X st (tS X G g0 H0 da)) : PSs X [st] (tS X G g0 H0 da) := pss_one h1
/-! ### expressions in statements -/
/-- the expression's reading, ahead of a statement -/
theorem tS.expr {α β : Type} {Rel : Gh → Hp → α → β → Prop} {de : Fns → Ev → Cells → R α} {f : Fns → Ev → α → Cells → R (Fl × Ev)} {D : Ends} {T : β → Hp → Prop}
    (p : tS X G g0 H0 (fun fn env h => (de fn env h).bind fun a h1 => f fn env a h1) D σ H)
    (k : ∀ g own env h H1 a v, GOk X G g → HRel X.prog X.w g H1 h → LR g own env σ H1 → Ent g0 H0 g H1 own → Rel g H1 a v → PostS X G g0 H0 g H1 (f G.fns env a h) D → T v H1) : tG Rel X G de σ H T := by
  obtain ⟨g, own, env, h, o, r, l, n, p⟩ := p
  refine ⟨g, own, env, h, o, r, l, (Post.stmt r n p).imp fun g1 H1 a h1 e1 r1 p1 v q => ?_⟩
  exact k g own env h1 H1 a v |> fun z => k g1 own env h1 H1 a v (o.ext e1) r1 (l.step r e1) (n.step e1) q p1
variable {e : Expr} {de : DE}
def sRet (a : DE) : DS := fun fn env h => (a fn env h).bind fun d h1 => if isBor d then .bad else .ok (.rt d, env) h1
def sRetN : DS := fun _ env h => .ok (.rt .non, env) h
def sExpr (a : DE) : DS := fun fn env h => (a fn env h).bind fun _ h1 => .ok (.nx, env) h1
theorem s_ret (he : PE X e (tD X G de)) : PS X (.Return (some e) pos) (tS X G g0 H0 (sRet de)) :=
  PS.imp (ps_ret he) fun D σ H p => tS.expr (f := fun fn env d h1 => if isBor d then R.bad else .ok (Fl.rt d, env) h1) p fun g own env h H1 d v o r l n q p1 => by
    split at p1
    · exact p1.elim
    · rename_i nb
      exact p1.now o r l n v (q.s (by simpa using nb))
theorem s_expr (he : PE X e (tD X G de)) (hs : swapsWith e none pos.line X.env = pure false) : PS X (.Expr e pos) (tS X G g0 H0 (sExpr de)) :=
  PS.imp (ps_expr he hs) fun D σ H p => tS.expr (f := fun fn env d h1 => R.ok (Fl.nx, env) h1) p fun g own env h H1 d v o r l n q p1 => p1.now o r l n
def sIf (t : DT) (a b : DS) : DS := fun fn env h => (t fn env h).bind fun k h1 => if k = true then a fn env h1 else b fn env h1
theorem s_ifS {c : Expr} {a b : List Stmt} {t : DT} (hc : PT X c (tT X G t)) (ha : PSs X a (tS X G g0 H0 da)) (hb : PSs X b (tS X G g0 H0 db)) : PS X (.If c a b pos) (tS X G g0 H0 (sIf t da db)) :=
  PS.imp (ps_if hc ha hb) fun D σ H p => tS.expr (f := fun fn env k h1 => if k = true then da fn env h1 else db fn env h1) p fun g own env h H1 k v o r l n q p1 => by
    subst q
    cases v with
    | true => exact ⟨g, own, env, h, o, r, l, n, p1⟩
    | false => exact ⟨g, own, env, h, o, r, l, n, p1⟩
/-! ### stores to names -/
/-- slot i has a value -/
theorem LR.val (l : LR g own env σ H) {i : Nat} {d : D} {v : V} (hi : i < env.length) (q : RelS g H d v) : LR g (fun j => if j = i then none else own j) (env.set i (.val d)) (σ.set i (some v)) H where
  len := by rw [List.length_set, List.length_set, l.len]
  inj := fun a b x h1 h2 => by
    by_cases ha : a = i
    · rw [if_pos ha] at h1; cases h1
    · by_cases hb : b = i
      · rw [if_pos hb] at h2; cases h2
      · rw [if_neg ha] at h1; rw [if_neg hb] at h2
        exact l.inj a b x h1 h2
  ow := fun a x h1 => by
    by_cases ha : a = i
    · rw [if_pos ha] at h1; cases h1
    · rw [if_neg ha] at h1; exact l.ow a x h1
  sl := fun j s h1 => by
    by_cases hj : j = i
    · subst hj
      rw [List.getElem?_set_self hi] at h1
      cases h1
      exact ⟨v, by rw [List.getElem?_set_self (by rw [← l.len]; exact hi)], q⟩
    · rw [List.getElem?_set_ne (Ne.symm hj)] at h1
      have z := l.sl j s h1
      cases s with
      | no => trivial
      | val d' =>
        obtain ⟨u, z1, z2⟩ := z
        exact ⟨u, by rw [List.getElem?_set_ne (Ne.symm hj)]; exact z1, z2⟩
      | own ds =>
        obtain ⟨a, xs, z1, z2, z3, z4⟩ := z
        exact ⟨a, xs, by simp only [if_neg hj]; exact z1, by rw [List.getElem?_set_ne (Ne.symm hj)]; exact z2, z3, z4⟩
theorem Ent.less (n : Ent g0 H0 g H own) (i : Nat) : Ent g0 H0 g H (fun j => if j = i then none else own j) := ⟨n.ext, fun a x h1 => by
  by_cases ha : a = i
  · simp only [if_pos ha] at h1; cases h1
  · simp only [if_neg ha] at h1; exact n.new a x h1⟩
def setV (i : Nat) (d : D) (env : Ev) (h : Cells) : R (Fl × Ev) := if isBor d || decide (env.length ≤ i) then .bad else .ok (.nx, env.set i (.val d)) h
def sSet (i : Nat) (a : DE) : DS := fun fn env h => (a fn env h).bind fun d h1 => setV i d env h1
theorem setV_ok {i : Nat} {d : D} {v : V} {D : Ends} (o : GOk X G g) (r : HRel X.prog X.w g H h) (l : LR g own env σ H) (n : Ent g0 H0 g H own) (q : RelT g H d v) (p : PostS X G g0 H0 g H (setV i d env h) D) : D.nx (σ.set i (some v)) H := by
  unfold setV at p
  split at p
  · exact p.elim
  · rename_i z
    simp only [Bool.or_eq_true, decide_eq_true_eq, not_or, Bool.not_eq_true] at z
    exact p.now o r (l.val (by omega) (q.s z.1)) (n.less i)
theorem s_set {i : Nat} {x : Str} {pos' : Pos} (hN : X.N.Nodup) (hi : X.N[i]? = some x) (hx : Loc X.env.scope x) (he : PE X e (tD X G de)) (hs : swapsWith e (some (.Name x pos')) pos.line X.env = pure false) (hf : X.fn x = true ∨ X.env.scope.names.lookup x = some .local) :
    PS X (.Assign [.Name x pos'] e pos) (tS X G g0 H0 (sSet i de)) :=
  PS.imp (ps_set hN hi hx he hs hf) fun D σ H p => tS.expr (f := fun fn env d h1 => setV i d env h1) p fun g own env h H1 d v o r l n q p1 => setV_ok o r l n q p1
end
end EV
/-! EV8: new lists, what is walked, targets, for -/
namespace EV
open PySem L2
abbrev DF := Fns → Ev → Cells → R (List D)
/-- an expression whose value is a new list of its own -/
def tF (X : Cx) (G : Gx) (df : DF) : TE := fun σ H Q => ∃ g own env h, GOk X G g ∧ HRel X.prog X.w g H h ∧ LR g own env σ H ∧
  Post X G g H (df G.fns env h) fun g' H' ds _ => ∀ p xs, H p = none → g'.W p → p ∉ g'.ρ → H' p = some (.lst xs) → RelsS g' H' ds xs → Q (.ref p) H'
/-- p may be written -/
def Gh.plus (g : Gh) (p : Addr) : Gh := { g with W := fun a => g.W a ∨ a = p }
section
variable {X : Cx} {G : Gx} {g g' : Gh} {H H' : Hp} {h h' : Cells} {own : Nat → Option Addr} {env : Ev} {σ : L2.St} {ds : List D} {xs : List V} {p : Addr}
theorem Ext.back (r : HRel X.prog X.w g H h) (r' : HRel X.prog X.w g' H' h') (e : Ext g H g' H') (hp : H' p = none) : H p = none := by
  cases q : H p with
  | none => rfl
  | some o =>
    by_cases m : p ∈ g.ρ
    · obtain ⟨u, hu, _⟩ := r'.mem (e.mem m)
      rw [hp] at hu; cases hu
    · rw [e.fr p o q m] at hp; cases hp
theorem Ext.plus (r : HRel X.prog X.w g H h) {o : HO} (hp : H p = none) : Ext g H (g.plus p) (upd H p o) where
  K := rfl
  gA := rfl
  pre := ⟨[], by simp [Gh.plus]⟩
  wn := fun a z => by
    rcases z with z | z
    · exact .inl z
    · exact .inr (by rw [z]; exact hp)
  wk := fun a z => .inl (.inl z)
  rw := fun a m => .inl (r.wr a m)
  fr := fun a u z _ => by rw [upd_ne (ne_of_none z hp)]; exact z
  nw := fun a m n => absurd m n
theorem HRel.plus (r : HRel X.prog X.w g H h) (hp : H p = none) : HRel X.prog X.w (g.plus p) (upd H p (.lst xs)) h where
  len := r.len
  nd := r.nd
  wr := fun a m => .inl (r.wr a m)
  wt := fun a u h1 h2 => by
    by_cases z : a = p
    · rw [z, upd_same] at h2
      cases h2
      exact ⟨(fun ys z => by cases z), (fun _ _ z => by cases z)⟩
    · rw [upd_ne z] at h2
      rcases h1 with h1 | h1
      · exact r.wt a u h1 h2
      · exact absurd h1 z
  at_ := fun n a c h1 h2 => by
    refine (r.at_ n a c h1 h2).ext r (Ext.plus r hp) ?_
    obtain ⟨u, hu, _⟩ := r.mem (List.mem_of_getElem? h1)
    exact upd_ne (ne_of_none hu hp)
/-- a new list has been laid -/
theorem fresh_now {g1 : Gh} {H1 : Hp} {h1 : Cells} {Q : VK} (r : HRel X.prog X.w g H h) (e : Ext g H g1 H1) (r1 : HRel X.prog X.w g1 H1 h1) (q : RelsS g1 H1 ds xs)
    (k : Post X G g1 H1 (.ok ds h1) fun g' H' ds _ => ∀ p xs, H p = none → g'.W p → p ∉ g'.ρ → H' p = some (.lst xs) → RelsS g' H' ds xs → Q (.ref p) H') : ∀ p, H1 p = none → Q (.ref p) (upd H1 p (.lst xs)) := fun p hp =>
  k _ _ (Ext.plus r1 hp) (r1.plus hp) p xs (e.back r r1 hp) (.inr rfl) (fun m => by
    obtain ⟨u, hu, _⟩ := r1.mem (show p ∈ g1.ρ from m)
    rw [hp] at hu; cases hu) upd_same (RelsS.ext r1 (Ext.plus r1 hp) q)
theorem ExtS.less : ExtS g H (g.less p) H := ⟨rfl, rfl, ⟨[], by simp [Gh.less]⟩, fun a z => .inl z.1, fun _ _ z _ => z⟩
theorem HRel.less (r : HRel X.prog X.w g H h) (hp : p ∉ g.ρ) : HRel X.prog X.w (g.less p) H h where
  len := r.len
  nd := r.nd
  wr := fun a m => ⟨r.wr a m, fun z => hp (z ▸ m)⟩
  wt := fun a u h1 h2 => r.wt a u h1.1 h2
  at_ := fun n a c h1 h2 => (r.at_ n a c h1 h2).exts r ExtS.less rfl
theorem Ext.lessNew (e : Ext g H g' H') (hp : H p = none) (hn : p ∉ g'.ρ) : Ext g H (g'.less p) H' where
  K := e.K
  gA := e.gA
  pre := e.pre
  wn := fun a z => e.wn a z.1
  wk := fun a z => by
    by_cases q : a = p
    · exact .inr (by rw [q]; exact hp)
    · exact (e.wk a z).imp (fun z => ⟨z, q⟩) id
  rw := fun a m => ⟨e.rw a m, fun z => hn (z ▸ m)⟩
  fr := e.fr
  nw := e.nw
/-- by value -/
def asVal (df : DF) : DE := fun fn env h => (df fn env h).bind fun ds h1 => .ok (.lst ds) h1
theorem tF.val {df : DF} {Q : VK} (q : tD X G (asVal df) σ H Q) : tF X G df σ H Q := by
  obtain ⟨g, own, env, h, o, r, l, q⟩ := q
  refine ⟨g, own, env, h, o, r, l, ?_⟩
  unfold asVal at q
  cases e : df G.fns env h with
  | bad => rw [e] at q; exact q.elim
  | exc x h' => rw [e] at q; exact q
  | ok ds h' =>
    rw [e] at q
    intro g' H' e' r' p xs h1 h2 h3 h4 h5
    exact q (g'.less p) H' (e'.lessNew h1 h3) (r'.less h3) _ ⟨p, xs, rfl, ⟨h4, fun z => z.2 rfl⟩, RelsS.exts r' ExtS.less h5⟩
/-- in a cell -/
def asCell (df : DF) : DE := fun fn env h => (df fn env h).bind fun ds h1 => .ok (.obj h1.length) (h1 ++ [.lst ds])
def Gh.cellAt (g : Gh) (p : Addr) : Gh := { g with ρ := g.ρ ++ [p] }
theorem ExtS.cellAt : ExtS g H (g.cellAt p) H := ⟨rfl, rfl, ⟨[p], rfl⟩, fun a z => .inl z, fun _ _ z _ => z⟩
theorem HRel.cellAt (r : HRel X.prog X.w g H h) (hw : g.W p) (hn : p ∉ g.ρ) {c : OB} (q : CellRel X.prog X.w (g.cellAt p) H p c) : HRel X.prog X.w (g.cellAt p) H (h ++ [c]) where
  len := by show (g.ρ ++ [p]).length = _; rw [List.length_append, List.length_append, r.len]; rfl
  nd := by
    show (g.ρ ++ [p]).Nodup
    rw [List.nodup_append]
    refine ⟨r.nd, by simp, fun a m b hb e => ?_⟩
    have : b = p := by simpa using hb
    exact hn (by rw [← this, ← e]; exact m)
  wr := fun a m => (List.mem_append.mp (show a ∈ g.ρ ++ [p] from m)).elim (fun m => r.wr a m) fun m => by
    have : a = p := by simpa using m
    rw [this]; exact hw
  wt := r.wt
  at_ := fun n a c' h1 h2 => by
    have h1 : (g.ρ ++ [p])[n]? = some a := h1
    by_cases hn : n < g.ρ.length
    · rw [List.getElem?_append_left hn] at h1
      rw [List.getElem?_append_left (by rw [← r.len]; exact hn)] at h2
      exact (r.at_ n a c' h1 h2).exts r ExtS.cellAt rfl
    · rw [List.getElem?_append_right (by omega)] at h1
      rw [List.getElem?_append_right (by rw [← r.len]; omega)] at h2
      have e : n = g.ρ.length := by
        have := (List.getElem?_eq_some_iff.mp h1).1
        simp at this; omega
      subst e
      rw [← r.len, Nat.sub_self] at h2
      rw [Nat.sub_self] at h1
      simp at h1 h2
      subst h1; subst h2
      exact q
theorem Ext.cellNew (e : Ext g H g' H') (hp : H p = none) (hw : g'.W p) : Ext g H (g'.cellAt p) H' where
  K := e.K
  gA := e.gA
  pre := by
    obtain ⟨t, z⟩ := e.pre
    exact ⟨t ++ [p], by show g'.ρ ++ [p] = _; rw [z, List.append_assoc]⟩
  wn := e.wn
  wk := e.wk
  rw := fun a m => (List.mem_append.mp (show a ∈ g'.ρ ++ [p] from m)).elim (fun m => e.rw a m) fun m => by
    have : a = p := by simpa using m
    rw [this]; exact hw
  fr := e.fr
  nw := fun a m n => (List.mem_append.mp (show a ∈ g'.ρ ++ [p] from m)).elim (fun m => e.nw a m n) fun m => by
    have : a = p := by simpa using m
    rw [this]; exact hp
theorem tF.cell {df : DF} {Q : VK} (q : tD X G (asCell df) σ H Q) : tF X G df σ H Q := by
  obtain ⟨g, own, env, h, o, r, l, q⟩ := q
  refine ⟨g, own, env, h, o, r, l, ?_⟩
  unfold asCell at q
  cases e : df G.fns env h with
  | bad => rw [e] at q; exact q.elim
  | exc x h' => rw [e] at q; exact q
  | ok ds h' =>
    rw [e] at q
    intro g' H' e' r' p xs h1 h2 h3 h4 h5
    refine q (g'.cellAt p) H' (e'.cellNew h1 h2) (r'.cellAt h2 h3 (c := .lst ds) ⟨xs, h4, RelsS.exts r' ExtS.cellAt h5⟩) _ ⟨p, rfl, ?_⟩
    show (g'.ρ ++ [p])[h'.length]? = _
    rw [← r'.len, List.getElem?_append_right (Nat.le_refl _), Nat.sub_self]; rfl
theorem PE.val {e : Expr} {df : DF} (he : PE X e (tF X G df)) : PE X e (tD X G (asVal df)) := PE.imp he fun _ _ _ q => tF.val q
theorem PE.cell {e : Expr} {df : DF} (he : PE X e (tF X G df)) : PE X e (tD X G (asCell df)) := PE.imp he fun _ _ _ q => tF.cell q
/-- in a slot of its own -/
def sOwn (i : Nat) (df : DF) : DS := fun fn env h => (df fn env h).bind fun ds h1 => if decide (env.length ≤ i) then .bad else .ok (.nx, env.set i (.own ds)) h1
variable {g0 : Gh} {H0 : Hp}
theorem LR.own' (l : LR g own env σ H) {i : Nat} (hi : i < env.length) (hw : g.W p) (hn : p ∉ g.ρ) (hH : H p = some (.lst xs)) (q : RelsS g H ds xs) (un : ∀ j, own j ≠ some p) :
    LR g (fun j => if j = i then some p else own j) (env.set i (.own ds)) (σ.set i (some (.ref p))) H where
  len := by rw [List.length_set, List.length_set, l.len]
  inj := fun a b x h1 h2 => by
    by_cases ha : a = i
    · by_cases hb : b = i
      · rw [ha, hb]
      · simp only [if_pos ha] at h1; simp only [if_neg hb] at h2
        cases h1
        exact absurd h2 (un b)
    · by_cases hb : b = i
      · simp only [if_neg ha] at h1; simp only [if_pos hb] at h2
        cases h2
        exact absurd h1 (un a)
      · simp only [if_neg ha] at h1; simp only [if_neg hb] at h2
        exact l.inj a b x h1 h2
  ow := fun a x h1 => by
    by_cases ha : a = i
    · simp only [if_pos ha] at h1; cases h1
      exact ⟨hw, hn, _, hH⟩
    · simp only [if_neg ha] at h1; exact l.ow a x h1
  sl := fun j s h1 => by
    by_cases hj : j = i
    · subst hj
      rw [List.getElem?_set_self hi] at h1
      cases h1
      exact ⟨p, xs, by simp, by rw [List.getElem?_set_self (by rw [← l.len]; exact hi)], hH, q⟩
    · rw [List.getElem?_set_ne (Ne.symm hj)] at h1
      have z := l.sl j s h1
      cases s with
      | no => trivial
      | val d' =>
        obtain ⟨u, z1, z2⟩ := z
        exact ⟨u, by rw [List.getElem?_set_ne (Ne.symm hj)]; exact z1, z2⟩
      | own ds =>
        obtain ⟨a, xs, z1, z2, z3, z4⟩ := z
        exact ⟨a, xs, by simp only [if_neg hj]; exact z1, by rw [List.getElem?_set_ne (Ne.symm hj)]; exact z2, z3, z4⟩
theorem own_of {D : Ends} {i : Nat} {σ : L2.St} {H : Hp} {df : DF} (q : tS X G g0 H0 (sOwn i df) D σ H) : tAsg (tF X G df) (gName i) D σ H := by
  obtain ⟨g, own, env, h, o, r, l, n, q⟩ := q
  refine ⟨g, own, env, h, o, r, l, (Post.stmt r n q).imp fun g' H' ds h' e' r' q' p xs h1 h2 h3 h4 h5 => ?_⟩
  split at q'
  · exact q'.elim
  · rename_i z
    have l' := l.step r e'
    have un : ∀ j, own j ≠ some p := fun j hj => by
      obtain ⟨_, _, u, hu⟩ := l.ow j p hj
      rw [h1] at hu; cases hu
    refine q'.now (o.ext e') r' (l'.own' (by simpa using z) h2 h3 h4 h5 un) ⟨n.ext.trans e', fun a x hx => ?_⟩
    by_cases ha : a = i
    · simp only [if_pos ha] at hx; cases hx
      cases q0 : H0 p with
      | none => rfl
      | some u =>
        by_cases m : p ∈ g0.ρ
        · obtain ⟨u', hu', _⟩ := r.mem (n.ext.mem m)
          rw [h1] at hu'; cases hu'
        · rw [n.ext.fr p u q0 m] at h1; cases h1
    · simp only [if_neg ha] at hx; exact n.new a x hx
theorem s_own {i : Nat} {x : Str} {pos pos' : Pos} {e : Expr} {df : DF} (hN : X.N.Nodup) (hi : X.N[i]? = some x) (hx : Loc X.env.scope x) (he : PE X e (tF X G df)) (hs : swapsWith e (some (.Name x pos')) pos.line X.env = pure false) (hf : X.fn x = true ∨ X.env.scope.names.lookup x = some .local) :
    PS X (.Assign [.Name x pos'] e pos) (tS X G g0 H0 (sOwn i df)) :=
  PS.imp (ps_set hN hi hx he hs hf) fun D σ H q => own_of q
/-- a display as a new list -/
def dDisp (da : DA) : DF := fun fn env h => (da fn env h).bind fun ds h1 => if noBors ds && decide (ds.length ≤ szL) then .ok ds h1 else .bad
theorem s_disp {es : List Expr} {pos : Pos} {dr : DA} (ha : PA X es (tA X G dr)) : PE X (.List es pos) (tF X G (dDisp dr)) :=
  PE.imp (pe_lst ha) fun σ H Q ⟨g, own, env, h, o, r, l, q⟩ => by
    refine ⟨g, own, env, h, o, r, l, (Post.bind q).imp fun g1 H1 ds h1 e1 r1 q1 vs qv => ?_⟩
    split at q1
    · rename_i hz
      rw [Bool.and_eq_true, decide_eq_true_eq] at hz
      have q' := qv.s hz.1
      exact ⟨by rw [lineE, ← q'.len]; exact hz.2, fresh_now r e1 r1 q' q1⟩
    · exact q1.elim
end
end EV
/-! EV9: what is walked; targets; for -/
namespace EV
open PySem L2
/-- an iterator that gives these items, whatever is written in the meantime -/
structure ItOk (X : Cx) (J : It) (g : Gh) (H : Hp) (ds : List D) : Prop where
  goes : ∀ g' H' h' i, i < ds.length → ExtS g H g' H' → HRel X.prog X.w g' H' h' → J.go i H'
  stops : ∀ g' H' h', ExtS g H g' H' → HRel X.prog X.w g' H' h' → J.stop ds.length H'
  yields : ∀ g' H' h' i x H'', i < ds.length → ExtS g H g' H' → HRel X.prog X.w g' H' h' → J.yld i H' x H'' → ∃ g'' d, Ext g' H' g'' H'' ∧ HRel X.prog X.w g'' H'' h' ∧ ds[i]? = some d ∧ RelS g'' H'' d x
def tI (X : Cx) (G : Gx) (di : DF) : TI := fun σ H R => ∃ g own env h, GOk X G g ∧ HRel X.prog X.w g H h ∧ LR g own env σ H ∧ Post X G g H (di G.fns env h) fun g' H' ds _ => ∀ J, ItOk X J g' H' ds → R J H'
theorem PI.imp {X : Cx} {tg e : Expr} {t t' : TI} (h : PI X tg e t) (k : ∀ σ H R, t' σ H R → t σ H R) : PI X tg e t' := ⟨fun pins s σ H R I q => h.run pins s σ H R I (k σ H R q)⟩
section
variable {X : Cx} {G : Gx} {g g' : Gh} {H H' : Hp} {h h' : Cells} {own : Nat → Option Addr} {env : Ev} {σ : L2.St} {ds : List D} {xs : List V} {a : Addr} {tg e : Expr} {da : DE}
/-- a list that stands still -/
theorem it_list (r : HRel X.prog X.w g H h) (st : ∀ g' H', ExtS g H g' H' → SqL X.K H' a xs) (q : RelsS g H ds xs) : ItOk X (Itl X.K a) g H ds where
  goes := fun g' H' h' i hi e r' => by
    have z := st g' H' e
    rw [q.len] at hi
    exact ⟨xs, xs[i], z, by simp [hi]⟩
  stops := fun g' H' h' e r' => ⟨xs, st g' H' e, by rw [q.len]; exact Nat.le_refl _⟩
  yields := fun g' H' h' i x H'' hi e r' y => by
    obtain ⟨y1, y2⟩ := y
    subst y1
    obtain ⟨d, h1, h2⟩ := (RelsS.exts r e q).getV (y2 xs (st g' _ e))
    exact ⟨g', d, Ext.refl r', r', h1, h2⟩
theorem it_tup (r : HRel X.prog X.w g H h) (og : GOk X G g) (st : SqT X.K H a xs) (q : RelsS g H ds xs) : ItOk X (Itt X.K a) g H ds := by
  have st' : ∀ g' H', ExtS g H g' H' → SqT X.K H' a xs := fun g' H' e => by
    have z := SqT.exts r e (by rw [og.K]; exact st)
    rw [e.K, og.K] at z
    exact z
  exact {
    goes := fun g' H' h' i hi e r' => by
      have z := st' g' H' e
      rw [q.len] at hi
      exact ⟨xs, xs[i], z, by simp [hi]⟩
    stops := fun g' H' h' e r' => ⟨xs, st' g' H' e, by rw [q.len]; exact Nat.le_refl _⟩
    yields := fun g' H' h' i x H'' hi e r' y => by
      obtain ⟨y1, y2⟩ := y
      subst y1
      obtain ⟨d, h1, h2⟩ := (RelsS.exts r e q).getV (y2 xs (st' g' _ e))
      exact ⟨g', d, Ext.refl r', r', h1, h2⟩ }
/-- what a list, a tuple, a text gives; a cell's or slot's own list does not stand still -/
def itemsOf (d : D) (h : Cells) : R (List D) := match d with
  | .tup ds => .ok ds h
  | .lst ds => .ok ds h
  | .frz ds => .ok ds h
  | .str s => .ok (s.cps.toList.map fun c => D.str ⟨#[c]⟩) h
  | _ => .bad
def dItems (a : DE) : DF := fun fn env h => (a fn env h).bind fun d h1 => itemsOf d h1
theorem lst_stands (og : GOk X G g) {v : V} (q : RelS g H (.lst ds) v) : ∃ a xs, v = .ref a ∧ RelsS g H ds xs ∧ SqL X.K H a xs ∧ ∀ g' H', ExtS g H g' H' → SqL X.K H' a xs := by
  obtain ⟨a, xs, h1, h2, h3⟩ := q
  exact ⟨a, xs, h1, h3, .inl (.inl h2.1), fun g' H' e => .inl (.inl (LstAt.exts e h2).1)⟩
theorem frz_stands (og : GOk X G g) (r : HRel X.prog X.w g H h) {v : V} (q : RelS g H (.frz ds) v) : ∃ a xs, v = .ref a ∧ RelsS g H ds xs ∧ SqL X.K H a xs ∧ ∀ g' H', ExtS g H g' H' → SqL X.K H' a xs := by
  obtain ⟨a, xs, h1, h2, h3⟩ := q
  refine ⟨a, xs, h1, h3, by rw [← og.K]; exact h2.sql, fun g' H' e => ?_⟩
  have z := (FrzAt.exts r e h2).sql
  rw [e.K, og.K] at z
  exact z
theorem it_str (r : HRel X.prog X.w g H h) (s : Str) : ItOk X (Its s) g H (s.cps.toList.map fun c => D.str ⟨#[c]⟩) where
  goes := fun g' H' h' i hi e r' => by
    show i < s.cps.size
    simpa using hi
  stops := fun g' H' h' e r' => by
    show s.cps.size ≤ _
    simp
  yields := fun g' H' h' i x H'' hi e r' y => by
    obtain ⟨y1, c, y2, y3⟩ := y
    subst y1; subst y3
    refine ⟨g', .str ⟨#[c]⟩, Ext.refl r', r', ?_, rfl⟩
    rw [List.getElem?_map, Array.getElem?_toList, y2]; rfl
/-- over the value of an expression -/
theorem s_items (he : PE X e (tD X G da)) : PI X tg e (tI X G (dItems da)) := by
  refine ⟨fun pins s σ H R I q => ?_⟩
  obtain ⟨g, own, env, h, o, r, l, q⟩ := q
  unfold dItems at q
  cases ed : da G.fns env h with
  | bad => rw [ed] at q; exact q.elim
  | exc x h' =>
    rw [ed] at q
    refine (pi_list he).run pins s σ H R I ⟨g, own, env, h, o, r, l, ?_⟩
    rw [ed]
    exact q
  | ok d h' =>
    rw [ed] at q
    have q : Post X G g H (itemsOf d h') fun g' H' ds _ => ∀ J, ItOk X J g' H' ds → R J H' := q
    unfold itemsOf at q
    split at q
    · refine (pi_tup he).run pins s σ H R I ⟨g, own, env, h, o, r, l, ?_⟩
      rw [ed]
      intro g1 H1 e1 r1 v qv
      obtain ⟨a, xs, rfl, h1, h2⟩ := tup_ok (o.ext e1) qv
      exact ⟨a, rfl, ⟨xs, h1⟩, q g1 H1 e1 r1 _ (it_tup r1 (o.ext e1) h1 h2)⟩
    · refine (pi_list he).run pins s σ H R I ⟨g, own, env, h, o, r, l, ?_⟩
      rw [ed]
      intro g1 H1 e1 r1 v qv
      obtain ⟨a, xs, rfl, h2, h1, h3⟩ := lst_stands (o.ext e1) qv
      exact ⟨a, rfl, ⟨xs, h1⟩, q g1 H1 e1 r1 _ (it_list r1 h3 h2)⟩
    · refine (pi_list he).run pins s σ H R I ⟨g, own, env, h, o, r, l, ?_⟩
      rw [ed]
      intro g1 H1 e1 r1 v qv
      obtain ⟨a, xs, rfl, h2, h1, h3⟩ := frz_stands (o.ext e1) r1 qv
      exact ⟨a, rfl, ⟨xs, h1⟩, q g1 H1 e1 r1 _ (it_list r1 h3 h2)⟩
    · refine (pi_str he).run pins s σ H R I ⟨g, own, env, h, o, r, l, ?_⟩
      rw [ed]
      intro g1 H1 e1 r1 v qv
      exact ⟨_, qv, q g1 H1 e1 r1 _ (it_str r1 _)⟩
    · exact q.elim
/-- range -/
def upTo (lo : Int) (n : Nat) : List D := (List.range n).map fun i => D.int (lo + (i : Nat))
theorem it_range (r : HRel X.prog X.w g H h) (lo : Int) (n : Nat) : ItOk X (Itr lo n) g H (upTo lo n) where
  goes := fun g' H' h' i hi e r' => by
    show i < n
    simpa [upTo] using hi
  stops := fun g' H' h' e r' => by
    show n ≤ _
    simp [upTo]
  yields := fun g' H' h' i x H'' hi e r' y => by
    obtain ⟨y1, y2⟩ := y
    subst y1; subst y2
    refine ⟨g', .int (lo + (i : Nat)), Ext.refl r', r', ?_, rfl⟩
    have : i < n := by simpa [upTo] using hi
    simp [upTo, this]
def rng1 (ds : List D) (h : Cells) : R (List D) := match ds with
  | [.int j] => if decide (-1000000000 ≤ j) && decide (j ≤ 1000000000) then .ok (upTo 0 j.toNat) h else .bad
  | _ => .bad
def rng2 (ds : List D) (h : Cells) : R (List D) := match ds with
  | [.int i, .int j] => if decide (-1000000000 ≤ i) && decide (i ≤ 1000000000) && decide (-1000000000 ≤ j) && decide (j ≤ 1000000000) then .ok (upTo i (j - i).toNat) h else .bad
  | _ => .bad
def dRng1 (a : DA) : DF := fun fn env h => (a fn env h).bind fun ds h1 => rng1 ds h1
def dRng2 (a : DA) : DF := fun fn env h => (a fn env h).bind fun ds h1 => rng2 ds h1
variable {dr : DA}
theorem rel1 {d : D} {vs : List V} (q : RelsT g H [d] vs) : ∃ y, vs = [y] ∧ RelT g H d y := by
  obtain ⟨y, rr, rfl, z1, z2⟩ := q
  cases (show rr = [] from z2)
  exact ⟨y, rfl, z1⟩
theorem rel2 {d e : D} {vs : List V} (q : RelsT g H [d, e] vs) : ∃ y z, vs = [y, z] ∧ RelT g H d y ∧ RelT g H e z := by
  obtain ⟨y, rr, rfl, z1, z2⟩ := q
  obtain ⟨z, rfl, z3⟩ := rel1 z2
  exact ⟨y, z, rfl, z1, z3⟩
theorem s_range1 {b : Expr} {p pos : Pos} (hg : Gl X "range") (hm : X.mg "range" = none) (ha : PA X [b] (tA X G dr)) (hs : isStar b = false) : PI X tg (.Call (.Name "range" p) [b] [] pos) (tI X G (dRng1 dr)) :=
  PI.imp (pi_range1 hg hm ha (by rw [star_cons hs]; rfl)) fun σ H R ⟨g, own, env, h, o, r, l, q⟩ => ⟨g, own, env, h, o, r, l, (Post.bind q).imp fun g1 H1 ds h1 e1 r1 q1 vs qv => by
    unfold rng1 at q1
    split at q1
    · rename_i j
      obtain ⟨y, rfl, z1⟩ := rel1 qv
      cases (show y = V.int j from z1)
      split at q1
      · rename_i hz
        simp only [Bool.and_eq_true, decide_eq_true_eq] at hz
        exact ⟨j, rfl, by omega, by omega, Post.now r1 q1 _ (it_range r1 0 j.toNat)⟩
      · exact q1.elim
    · exact q1.elim⟩
/-- pairs, laid new at each turn -/
theorem Ext.pair (r : HRel X.prog X.w g H h) {T : Addr} {x y : V} {d e : D} (hT : H T = none) (q1 : RelS g H d x) (q2 : RelS g H e y) : RelS (g.less T) (upd H T (.tup [x, y])) (.tup [d, e]) (.ref T) :=
  RelS.newT r hT ⟨x, [y], rfl, q1, y, [], rfl, q2, rfl⟩
def pairs : List D → List D → List D
  | d :: ds, e :: es => .tup [d, e] :: pairs ds es
  | _, _ => []
theorem pairs_len : ∀ ds es : List D, (pairs ds es).length = min ds.length es.length
  | [], _ => by simp [pairs]
  | _ :: _, [] => by simp [pairs]
  | d :: ds, e :: es => by rw [pairs, List.length_cons, pairs_len ds es, List.length_cons, List.length_cons]; omega
theorem pairs_get : ∀ {ds es : List D} {i : Nat} {d e : D}, ds[i]? = some d → es[i]? = some e → (pairs ds es)[i]? = some (.tup [d, e])
  | [], _, _, _, _, h, _ => by simp at h
  | _ :: _, [], _, _, _, _, h => by simp at h
  | _ :: _, _ :: _, 0, _, _, h1, h2 => by simp at h1 h2; subst h1; subst h2; rfl
  | _ :: ds, _ :: es, i + 1, _, _, h1, h2 => by
    rw [pairs]
    simpa using pairs_get (ds := ds) (es := es) (i := i) (by simpa using h1) (by simpa using h2)
/-- how a target takes a value apart -/
inductive Pat where
  | name (i : Nat) | tup (ps : List Pat)
mutual
def Pat.put : Pat → D → Ev → Option Ev
  | .name i, d, env => if isBor d || decide (env.length ≤ i) then none else some (env.set i (.val d))
  | .tup ps, d, env => match d with
    | .tup ds => Pat.puts ps ds env
    | _ => none
def Pat.puts : List Pat → List D → Ev → Option Ev
  | [], [], env => some env
  | p :: ps, d :: ds, env => match Pat.put p d env with
    | some env' => Pat.puts ps ds env'
    | none => none
  | _, _, _ => none
end
mutual
def Pat.slots : Pat → List Nat
  | .name i => [i]
  | .tup ps => Pat.slotss ps
def Pat.slotss : List Pat → List Nat
  | [] => []
  | p :: ps => Pat.slots p ++ Pat.slotss ps
end
/-- the other slots stand -/
def Stand (is : List Nat) (σ σ' : L2.St) : Prop := σ'.length = σ.length ∧ ∀ i, i ∉ is → σ'[i]? = σ[i]?
/-- what a target leaves: less is owned -/
def tPat (X : Cx) (G : Gx) (pt : Pat) : TG := fun v σ H Q => ∃ g own env h d env', GOk X G g ∧ HRel X.prog X.w g H h ∧ LR g own env σ H ∧ RelS g H d v ∧ Pat.put pt d env = some env' ∧
  ∀ own' σ', LR g own' env' σ' H → (∀ i a, own' i = some a → own i = some a) → Stand pt.slots σ σ' → Q σ' H
def tPats (X : Cx) (G : Gx) (ps : List Pat) : TGs := fun vs σ H Q => ∃ g own env h ds env', GOk X G g ∧ HRel X.prog X.w g H h ∧ LR g own env σ H ∧ RelsS g H ds vs ∧ Pat.puts ps ds env = some env' ∧
  ∀ own' σ', LR g own' env' σ' H → (∀ i a, own' i = some a → own i = some a) → Stand (Pat.slotss ps) σ σ' → Q σ' H
theorem PG.imp {e : Expr} {t t' : TG} (h : PG X e t) (k : ∀ v σ H Q, t' v σ H Q → t v σ H Q) : PG X e t' := ⟨fun pins s σ H v u Q I r q => h.run pins s σ H v u Q I r (k v σ H Q q)⟩
theorem PGs.imp {e : List Expr} {t t' : TGs} (h : PGs X e t) (k : ∀ v σ H Q, t' v σ H Q → t v σ H Q) : PGs X e t' := ⟨fun pins s σ H v u Q I r q => h.run pins s σ H v u Q I r (k v σ H Q q)⟩
theorem s_gName {i : Nat} {x : Str} {pos : Pos} (hN : X.N.Nodup) (hi : X.N[i]? = some x) (hx : Loc X.env.scope x) (hf : X.fn x = true ∨ X.env.scope.names.lookup x = some .local) : PG X (.Name x pos) (tPat X G (.name i)) :=
  PG.imp (pg_name hN hi hx hf) fun v σ H Q ⟨g, own, env, h, d, env', o, r, l, q, e, k⟩ => by
    unfold Pat.put at e
    split at e
    · cases e
    · rename_i z
      simp only [Bool.or_eq_true, decide_eq_true_eq, not_or, Bool.not_eq_true] at z
      cases e
      refine k _ _ (l.val (by omega) q) (fun j a hj => ?_) ⟨by rw [List.length_set], fun j hj => ?_⟩
      · by_cases hji : j = i
        · simp only [if_pos hji] at hj; cases hj
        · simp only [if_neg hji] at hj; exact hj
      · rw [List.getElem?_set_ne]
        intro e
        exact hj (by simp [Pat.slots, e])
theorem s_gsNil : PGs X [] (tPats X G []) :=
  PGs.imp pgs_nil fun v σ H Q ⟨g, own, env, h, ds, env', o, r, l, q, e, k⟩ => by
    cases ds with
    | nil =>
      cases (show v = [] from q)
      unfold Pat.puts at e
      cases e
      exact ⟨rfl, k own σ l (fun _ _ z => z) ⟨rfl, fun _ _ => rfl⟩⟩
    | cons d ds => simp [Pat.puts] at e
theorem s_gsCons {es : List Expr} {pt : Pat} {ps : List Pat} (h1 : PG X e (tPat X G pt)) (h2 : PGs X es (tPats X G ps)) (hs : (assignEach (e :: es) X.env).map (·.2) = assign e X.env :: (assignEach es X.env).map (·.2)) : PGs X (e :: es) (tPats X G (pt :: ps)) :=
  PGs.imp (pgs_cons h1 h2 hs) fun v σ H Q ⟨g, own, env, h, ds, env', o, r, l, q, e, k⟩ => by
    cases ds with
    | nil => simp [Pat.puts] at e
    | cons d ds =>
      simp only [RelsS] at q
      obtain ⟨x, rr, rfl, q1, q2⟩ := q
      unfold Pat.puts at e
      split at e
      · rename_i env1 e1
        refine ⟨x, rr, rfl, g, own, env, h, d, env1, o, r, l, q1, e1, fun own' σ' l' sub st => ?_⟩
        refine ⟨g, own', env1, h, ds, env', o, r, l', q2, e, fun own'' σ'' l'' sub' st' => k own'' σ'' l'' (fun i a z => sub i a (sub' i a z)) ⟨st'.1.trans st.1, fun i hi => ?_⟩⟩
        simp only [Pat.slotss, List.mem_append, not_or] at hi
        exact (st'.2 i hi.2).trans (st.2 i hi.1)
      · cases e
theorem puts_len : ∀ {ps : List Pat} {ds : List D} {env env' : Ev}, Pat.puts ps ds env = some env' → ds.length = ps.length
  | [], [], _, _, _ => rfl
  | [], _ :: _, _, _, h => by simp [Pat.puts] at h
  | _ :: _, [], _, _, h => by simp [Pat.puts] at h
  | p :: ps, d :: ds, env, env', h => by
    unfold Pat.puts at h
    split at h
    · rw [List.length_cons, List.length_cons, puts_len h]
    · cases h
theorem s_gTup {es : List Expr} {k : Nat} {ps : List Pat} {pos : Pos} (hc : X.calm = true) (hp : PGs X es (tPats X G ps)) (hn : (assignEach es X.env).length = ps.length) (hst : (assignEach es X.env).findIdx? (·.1) = none) : PG X (.Tuple es k pos) (tPat X G (.tup ps)) :=
  PG.imp (pg_tup hc hp hn hst) fun v σ H Q ⟨g, own, env, h, d, env', o, r, l, q, e, k⟩ => by
    cases d with
    | tup ds =>
      obtain ⟨a, xs, rfl, h1, h2⟩ := tup_ok o (RelS.t q)
      have e : Pat.puts ps ds env = some env' := by simpa only [Pat.put] using e
      exact ⟨a, xs, rfl, h1, by rw [← h2.len]; exact puts_len e, g, own, env, h, ds, env', o, r, l, h2, e, by simpa only [Pat.slots] using k⟩
    | _ => simp [Pat.put] at e
/-! ### for -/
def forL (pt : Pat) (body : DS) (fn : Fns) : List D → Ev → Cells → R (Fl × Ev)
  | [], env, h => .ok (.nx, env) h
  | d :: ds, env, h => match Pat.put pt d env with
    | none => .bad
    | some env1 => (body fn env1 h).bind fun x h1 => match x.1 with
      | .nx => forL pt body fn ds x.2 h1
      | .ct => forL pt body fn ds x.2 h1
      | .bk => .ok (.nx, x.2) h1
      | .rt d => .ok (.rt d, x.2) h1
def sFor (pt : Pat) (di : DF) (body : DS) : DS := fun fn env h => (di fn env h).bind fun ds h1 => forL pt body fn ds env h1
variable {g0 : Gh} {H0 : Hp} {body : DS} {pt : Pat}
theorem s_for {iter : Expr} {b : List Stmt} {di : DF} {pos : Pos} (hp : PassesOwn (model X.prog X.w) X.A X.env X.xe) (hc : X.calm = true) (hi : PI X tg iter (tI X G di)) (hg : PG X tg (tPat X G pt)) (hb : PSs X b (tS X G g0 H0 body))
    (hs : ∀ x, foldedSetIterable iter X.env x = pure x) : PS X (.For tg iter b [] pos) (tS X G g0 H0 (sFor pt di body)) := by
  refine PS.imp (ps_for hp hc hi hg hb hs) fun D σ H q => ?_
  obtain ⟨g, own, env, h, o, r, l, n, q⟩ := q
  refine ⟨g, own, env, h, o, r, l, (Post.stmt r n q).imp fun g1 H1 ds h1 e1 r1 q1 J it => ?_⟩
  refine ⟨fun i m σ' H' => m = ds.length - i ∧ i ≤ ds.length ∧ ∃ g2 own2 env2 h2, GOk X G g2 ∧ HRel X.prog X.w g2 H' h2 ∧ LR g2 own2 env2 σ' H' ∧ Ent g0 H0 g2 H' own2 ∧ ExtS g1 H1 g2 H' ∧ PostS X G g0 H0 g2 H' (forL pt body G.fns (ds.drop i) env2 h2) D,
    ⟨ds.length, by simp, Nat.zero_le _, g1, own, env, h1, o.ext e1, r1, l.step r e1, n.step e1, ExtS.refl _ _, q1⟩, ?_⟩
  rintro i m σ' H' ⟨rfl, hi', g2, own2, env2, h2, o2, r2, l2, n2, x2, q2⟩
  by_cases hlt : i < ds.length
  · refine .inr ⟨it.goes g2 H' h2 i hlt x2 r2, _, fun σ3 H3 z => ⟨ds.length - (i + 1), by omega, rfl, hlt, z⟩, fun x H3 y => ?_⟩
    obtain ⟨g3, d, e3, r3, ed, qd⟩ := it.yields g2 H' h2 i x H3 hlt x2 r2 y
    have edrop : ds.drop i = d :: ds.drop (i + 1) := by
      rw [List.drop_eq_getElem_cons hlt]
      congr 1
      rw [List.getElem?_eq_getElem hlt] at ed
      exact Option.some.inj ed
    rw [edrop] at q2
    unfold forL at q2
    split at q2
    · exact q2.elim
    · rename_i env3 ep
      refine ⟨g3, own2, env2, h2, d, env3, o2.ext e3, r3, l2.step r2 e3, qd, ep, fun own3 σ3 l3 sub _ => ?_⟩
      have n3 : Ent g0 H0 g3 H3 own3 := ⟨(n2.step e3).ext, fun j a z => n2.new j a (sub j a z)⟩
      have q3 := PostS.mono q2 (e3.s r2)
      refine ⟨g3, own3, env3, h2, o2.ext e3, r3, l3, n3, ?_⟩
      cases eb : body G.fns env3 h2 with
      | bad => rw [eb] at q3; exact q3.elim
      | exc z h4 => rw [eb] at q3; exact q3
      | ok z h4 =>
        rw [eb] at q3
        obtain ⟨fl, env4⟩ := z
        have x3 := x2.trans (e3.s r2)
        cases fl with
        | nx => exact fun g4 own4 H4 σ4 o4 r4 l4 n4 e4 => ⟨g4, own4, env4, h4, o4, r4, l4, n4, x3.trans e4, PostS.mono q3 e4⟩
        | ct => exact fun g4 own4 H4 σ4 o4 r4 l4 n4 e4 => ⟨g4, own4, env4, h4, o4, r4, l4, n4, x3.trans e4, PostS.mono q3 e4⟩
        | bk => exact q3
        | rt d => exact q3
  · have e : i = ds.length := by omega
    subst e
    rw [List.drop_length] at q2
    exact .inl ⟨it.stops g2 H' h2 x2 r2, q2.now o2 r2 l2 n2⟩
end
end EV
/-! EV10: list comprehensions -/
namespace EV
open PySem L2
def R.nox {α : Type} (r : R α) : R α := match r with
  | .exc _ _ => .bad
  | r => r
def wipeE (env : Ev) : List Nat → Ev
  | [] => env
  | v :: vs => (wipeE env vs).set v .no
def compL (pt : Pat) (tt : DT) (te : DE) (fn : Fns) (env : Ev) : List D → Cells → R (List D)
  | [], h => .ok [] h
  | d :: ds, h => match Pat.put pt d env with
    | none => .bad
    | some env1 => (tt fn env1 h).nox.bind fun b h1 => if b = true then (te fn env1 h1).nox.bind fun x h2 => if isBor x then .bad else (compL pt tt te fn env ds h2).bind fun r h3 => .ok (x :: r) h3
      else compL pt tt te fn env ds h1
def dComp (vs : List Nat) (pt : Pat) (di : DF) (tt : DT) (te : DE) : DF := fun fn env h => (di fn env h).bind fun ds h1 => if decide (ds.length ≤ szL) then compL pt tt te fn (wipeE env vs) ds h1 else .bad
def dtYes : DT := fun _ _ h => .ok true h
/-- no exception is let out -/
def Gx.quiet (G : Gx) : Gx := { G with Wx := fun _ _ _ => False }
section
variable {X : Cx} {G : Gx} {g g' : Gh} {H H' : Hp} {h h' : Cells} {own : Nat → Option Addr} {env : Ev} {σ : L2.St} {p : Addr} {xs : List V}
theorem LR.wipe1 (l : LR g own env σ H) (v : Nat) : LR g own (env.set v .no) (σ.set v none) H where
  len := by rw [List.length_set, List.length_set, l.len]
  inj := l.inj
  ow := l.ow
  sl := fun i s e => by
    by_cases hi : v = i
    · subst hi
      by_cases hv : v < env.length
      · rw [List.getElem?_set_self hv] at e
        cases e
        trivial
      · rw [List.getElem?_eq_none (by rw [List.length_set]; omega)] at e
        cases e
    · rw [List.getElem?_set_ne hi] at e
      have z := l.sl i s e
      cases s with
      | no => trivial
      | val d =>
        obtain ⟨u, z1, z2⟩ := z
        exact ⟨u, by rw [List.getElem?_set_ne hi]; exact z1, z2⟩
      | own ds =>
        obtain ⟨a, xs, z1, z2, z3⟩ := z
        exact ⟨a, xs, z1, by rw [List.getElem?_set_ne hi]; exact z2, z3⟩
theorem LR.wipe (l : LR g own env σ H) : ∀ vs, LR g own (wipeE env vs) (L2.wipe σ vs) H
  | [] => l
  | v :: vs => (LR.wipe l vs).wipe1 v
theorem ExtS.write (hw : g.W p) {o : HO} : ExtS g H g (upd H p o) := ⟨rfl, rfl, ⟨[], by simp⟩, fun _ z => .inl z, fun a u z n => by rw [upd_ne fun e => n (by rw [e]; exact hw)]; exact z⟩
theorem HRel.write (r : HRel X.prog X.w g H h) (hw : g.W p) (hn : p ∉ g.ρ) : HRel X.prog X.w g (upd H p (.lst xs)) h where
  len := r.len
  nd := r.nd
  wr := r.wr
  wt := fun a u h1 h2 => by
    by_cases z : a = p
    · rw [z, upd_same] at h2
      cases h2
      exact ⟨(fun ys z => by cases z), (fun _ _ z => by cases z)⟩
    · rw [upd_ne z] at h2
      exact r.wt a u h1 h2
  at_ := fun n a c h1 h2 => (r.at_ n a c h1 h2).exts r (ExtS.write hw) (upd_ne fun e => hn (by rw [← e]; exact List.mem_of_getElem? h1))
theorem Ext.write {g1 : Gh} {H1 : Hp} (e : Ext g1 H1 g H) (hp : H1 p = none) {o : HO} : Ext g1 H1 g (upd H p o) where
  K := e.K
  gA := e.gA
  pre := e.pre
  wn := e.wn
  wk := e.wk
  rw := e.rw
  fr := fun a u z n => by rw [upd_ne (ne_of_none z hp)]; exact e.fr a u z n
  nw := e.nw
theorem LR.write (l : LR g own env σ H) (r : HRel X.prog X.w g H h) (hw : g.W p) (un : ∀ j, own j ≠ some p) {o : HO} : LR g own env σ (upd H p o) where
  len := l.len
  inj := l.inj
  ow := fun i a z => by
    obtain ⟨h1, h2, u, h3⟩ := l.ow i a z
    exact ⟨h1, h2, u, by rw [upd_ne fun e => un i (by rw [← e]; exact z)]; exact h3⟩
  sl := fun i s e => by
    have z := l.sl i s e
    cases s with
    | no => trivial
    | val d =>
      obtain ⟨u, z1, z2⟩ := z
      exact ⟨u, z1, RelS.exts r (ExtS.write hw) z2⟩
    | own ds =>
      obtain ⟨a, xs, z1, z2, z3, z4⟩ := z
      exact ⟨a, xs, z1, z2, by rw [upd_ne fun e => un i (by rw [← e]; exact z1)]; exact z3, RelsS.exts r (ExtS.write hw) z4⟩
theorem Post.nox {α : Type} {r : R α} {K : Gh → Hp → α → Cells → Prop} (q : Post X G g H r.nox K) : Post X G.quiet g H r K := by
  cases r with
  | ok a h' => exact q
  | exc x h' => exact q.elim
  | bad => exact q
theorem RelsS.snoc {ds : List D} {d : D} {v : V} (q : RelsS g H ds xs) (z : RelS g H d v) : RelsS g H (ds ++ [d]) (xs ++ [v]) := q.app (RelsS.one z)
theorem GOk.q (o : GOk X G g) : GOk X G.quiet g := ⟨o.K, o.gA⟩
variable {elt tg iter : Expr} {ifs : List Expr} {scope : Scope} {own' : List (Str × Nat)} {pos : Pos} {di : DF} {pt : Pat} {tt : DT} {te : DE}
/-- the comprehension's reading -/
theorem wipe_get : ∀ (vs : List Nat) (σ : L2.St) (i : Nat), (L2.wipe σ vs)[i]? = if i ∈ vs ∧ i < σ.length then some none else σ[i]?
  | [], σ, i => by simp [L2.wipe]
  | v :: vs, σ, i => by
    unfold L2.wipe
    by_cases hi : v = i
    · subst hi
      by_cases hv : v < σ.length
      · rw [List.getElem?_set_self (by rw [wipe_length]; exact hv)]
        simp [hv]
      · rw [List.getElem?_eq_none (by rw [List.length_set, wipe_length]; omega)]
        rw [if_neg (fun z => hv z.2), List.getElem?_eq_none (by omega)]
    · rw [List.getElem?_set_ne hi, wipe_get vs σ i]
      have e : i ∈ v :: vs ↔ i ∈ vs := by simp [Ne.symm hi]
      simp only [e]
theorem wipe_stand {pt : Pat} {vs : List Nat} {σ σ' : L2.St} (st : Stand pt.slots (L2.wipe σ vs) σ') (hs : ∀ i ∈ pt.slots, i ∈ vs) : L2.wipe σ' vs = L2.wipe σ vs := by
  obtain ⟨s1, s2⟩ := st
  rw [wipe_length] at s1
  refine List.ext_getElem? fun i => ?_
  rw [wipe_get, wipe_get, s1]
  by_cases hi : i ∈ vs
  · by_cases hl : i < σ.length
    · rw [if_pos ⟨hi, hl⟩, if_pos ⟨hi, hl⟩]
    · rw [if_neg (fun z => hl z.2), if_neg (fun z => hl z.2), List.getElem?_eq_none (by omega), List.getElem?_eq_none (by omega)]
  · rw [if_neg (fun z => hi z.1), if_neg (fun z => hi z.1), s2 i fun m => hi (hs i m), wipe_get, if_neg (fun z => hi z.1)]
theorem comp_of {Q : VK} (hsl : ∀ i ∈ pt.slots, i ∈ own'.map (·.2)) (q : tF X G (dComp (own'.map (·.2)) pt di tt te) σ H Q) : tLc (tI X G di) (tPat X G.quiet pt) (tT X G.quiet tt) (tD X G.quiet te) (own'.map (·.2)) σ H Q := by
  obtain ⟨g, own, env, h, o, r, l, q⟩ := q
  refine ⟨g, own, env, h, o, r, l, (Post.bind q).imp fun g1 H1 ds h1 e1 r1 q1 J it p hp => ?_⟩
  split at q1
  · rename_i hz
    have hz : ds.length ≤ 16777216 := by simpa using hz
    have o1 := o.ext e1
    have l1 := (l.step r e1).wipe (own'.map (·.2))
    have un : ∀ j, own j ≠ some p := fun j hj => by
      obtain ⟨_, _, u, hu⟩ := l1.ow j p hj
      rw [hp] at hu; cases hu
    have hp0 : H p = none := e1.back r r1 hp
    have hnp : p ∉ g1.ρ := fun m => by
      obtain ⟨u, hu, _⟩ := r1.mem m
      rw [hp] at hu; cases hu
    refine ⟨fun i m H' => m = ds.length - i ∧ i ≤ ds.length ∧ ∃ g2 h2 accD acc, HRel X.prog X.w g2 H' h2 ∧ Ext g1 H1 g2 H' ∧ LR g2 own (wipeE env (own'.map (·.2))) (L2.wipe σ (own'.map (·.2))) H' ∧ g2.W p ∧ p ∉ g2.ρ ∧ H' p = some (.lst acc) ∧ RelsS g2 H' accD acc ∧ acc.length ≤ i ∧
      Post X G g1 H1 (compL pt tt te G.fns (wipeE env (own'.map (·.2))) (ds.drop i) h2) (fun g' H' ds' _ => ∀ xs', g'.W p → p ∉ g'.ρ → H' p = some (.lst xs') → RelsS g' H' (accD ++ ds') xs' → Q (.ref p) H'),
      ⟨ds.length, by simp, Nat.zero_le _, g1.plus p, h1, [], [], r1.plus hp, Ext.plus r1 hp, l1.step r1 (Ext.plus r1 hp), .inr rfl, hnp, upd_same, rfl, Nat.le_refl _, ?_⟩, ?_⟩
    · exact q1.imp fun g' H' ds' h' e' r' k xs' w1 w2 w3 w4 => k p xs' hp0 w1 w2 w3 (by simpa using w4)
    · rintro i m H' ⟨rfl, hi', g2, h2, accD, acc, r2, x2, l2, w2, n2, hH, qa, hacc, q2⟩
      by_cases hlt : i < ds.length
      · refine .inr ⟨it.goes g2 H' h2 i hlt (x2.s r1) r2, _, fun H3 z => ⟨ds.length - (i + 1), by omega, rfl, hlt, z⟩, fun x H3 y => ?_⟩
        obtain ⟨g3, d, e3, r3, ed, qd⟩ := it.yields g2 H' h2 i x H3 hlt (x2.s r1) r2 y
        have edrop : ds.drop i = d :: ds.drop (i + 1) := by
          rw [List.drop_eq_getElem_cons hlt]
          congr 1
          rw [List.getElem?_eq_getElem hlt] at ed
          exact Option.some.inj ed
        rw [edrop] at q2
        unfold compL at q2
        have still : ∀ {ga Ha gb Hb}, Ext ga Ha gb Hb → ga.W p → p ∉ ga.ρ → Ha p = some (.lst acc) → gb.W p ∧ p ∉ gb.ρ ∧ Hb p = some (.lst acc) := fun {ga Ha gb Hb} e a1 a2 a3 =>
          ⟨(e.wk p a1).resolve_right (fun z => by rw [a3] at z; cases z), (fun m => by have z := e.nw p m a2; rw [a3] at z; cases z), e.fr p _ a3 a2⟩
        split at q2
        · exact q2.elim
        · rename_i env3 ep
          have x3 := x2.trans e3
          have o3 := (o1.ext x3).q
          obtain ⟨w3, n3, hH3⟩ := still e3 w2 n2 hH
          have qa3 := RelsS.ext r2 e3 qa
          refine ⟨g3, own, _, h2, d, env3, o3, r3, l2.step r2 e3, qd, ep, fun own3 σ3 l3 sub st3 => ⟨wipe_stand st3 hsl, ?_⟩⟩
          have un3 : ∀ j, own3 j ≠ some p := fun j hj => un j (sub j p hj)
          cases et : tt G.fns env3 h2 with
          | bad => rw [et] at q2; exact q2.elim
          | exc z h4 => rw [et] at q2; exact q2.elim
          | ok b h4 =>
            rw [et] at q2
            refine tG.mk o3 r3 l3 ?_
            rw [show G.quiet.fns = G.fns from rfl, et]
            intro g4 H4 e4 r4 v hv
            subst hv
            have x4 := x3.trans e4
            have o4 := (o1.ext x4).q
            obtain ⟨w4, n4, hH4⟩ := still e4 w3 n3 hH3
            have qa4 := RelsS.ext r3 e4 qa3
            have l4 := l3.step r3 e4
            have lw4 := (l2.step r2 e3).step r3 e4
            cases v with
            | false =>
              exact ⟨g4, h4, accD, acc, r4, x4, lw4, w4, n4, hH4, qa4, by omega, q2⟩
            | true =>
              have q2 : Post X G g1 H1 ((te G.fns env3 h4).nox.bind fun x h2 => if isBor x then .bad else (compL pt tt te G.fns (wipeE env (own'.map (·.2))) (ds.drop (i + 1)) h2).bind fun r h3 => .ok (x :: r) h3) _ := q2
              cases ee : te G.fns env3 h4 with
              | bad => rw [ee] at q2; exact q2.elim
              | exc z h5 => rw [ee] at q2; exact q2.elim
              | ok x5 h5 =>
                rw [ee] at q2
                have q2 : Post X G g1 H1 (if isBor x5 then .bad else (compL pt tt te G.fns (wipeE env (own'.map (·.2))) (ds.drop (i + 1)) h5).bind fun r h3 => .ok (x5 :: r) h3) _ := q2
                split at q2
                · exact q2.elim
                · rename_i nb
                  refine tG.mk o4 r4 l4 ?_
                  rw [show G.quiet.fns = G.fns from rfl, ee]
                  intro g5 H5 e5 r5 v5 qv5
                  have x5' := x4.trans e5
                  obtain ⟨w5, n5, hH5⟩ := still e5 w4 n4 hH4
                  have qa5 := RelsS.ext r4 e5 qa4
                  have qx := qv5.s (by simpa using nb)
                  refine ⟨acc, hH5, by rw [lineE]; omega, g5, h5, accD ++ [x5], acc ++ [v5], r5.write w5 n5, x5'.write hp, (lw4.step r4 e5).write r5 w5 un, w5, n5, upd_same, RelsS.exts r5 (ExtS.write w5) (qa5.snoc qx), by rw [List.length_append]; simp; omega, ?_⟩
                  refine (Post.bind q2).imp fun g' H' ds' h' e' r' k => ?_
                  have k' := Post.now r' k
                  intro xs' a1 a2 a3 a4
                  exact k' xs' a1 a2 a3 (by simpa using a4)
      · have e : i = ds.length := by omega
        subst e
        rw [List.drop_length] at q2
        exact .inl ⟨it.stops g2 H' h2 (x2.s r1) r2, (show ∀ g' H', Ext g1 H1 g' H' → HRel X.prog X.w g' H' h2 → _ from q2) g2 H' x2 r2 acc w2 n2 hH (by simpa using qa)⟩
  · exact q1.elim
/-- [elt for target in iter if ..] -/
theorem s_comp (hc : X.calm = true) (hN : X.N.Nodup) (hi : PI X tg iter (tI X G di)) (ok : BlkOk X.N X.env.scope scope own') (hsl : ∀ i ∈ pt.slots, i ∈ own'.map (·.2))
    (hg : ∀ (s : Shared) (H : Hp) (C : Addr) (cl : List (Str × Addr)) (fp : List Addr), PG (X.blk s H scope (compEnvC scope cl C X.env) fp) tg (tPat X G.quiet pt))
    (ht : ∀ (s : Shared) (H : Hp) (C : Addr) (cl : List (Str × Addr)) (fp : List Addr), PTs (X.blk s H scope (compEnvC scope cl C X.env) fp) ifs (tT X G.quiet tt))
    (he : ∀ (s : Shared) (H : Hp) (C : Addr) (cl : List (Str × Addr)) (fp : List Addr), PE (X.blk s H scope (compEnvC scope cl C X.env) fp) elt (tD X G.quiet te)) (hs : ∀ x, foldedSetIterable iter X.env x = pure x) :
    PE X (.ListComp elt [⟨tg, iter, ifs, 0⟩] scope pos) (tF X G (dComp (own'.map (·.2)) pt di tt te)) :=
  PE.imp (pe_lc hc hN hi ok hg ht he hs) fun σ H Q q => comp_of hsl q
end
end EV
/-! EV11: lists changed in place; targets; while -/
namespace EV
open PySem L2
/-- the list of a slot, as it may be changed: its own one, or a cell's -/
def slotL (env : Ev) (h : Cells) (i : Nat) : Option (List D) := match env[i]? with
  | some (.own ds) => some ds
  | some (.val (.obj n)) => match h[n]? with
    | some (.lst ds) => some ds
    | _ => none
  | _ => none
/-- .. changed -/
def slotPut (env : Ev) (h : Cells) (i : Nat) (ds : List D) : R (Fl × Ev) := match env[i]? with
  | some (.own _) => .ok (.nx, env.set i (.own ds)) h
  | some (.val (.obj n)) => .ok (.nx, env) (h.set n (.lst ds))
  | _ => .bad
section
variable {X : Cx} {G : Gx} {g g' g0 : Gh} {H H' H0 : Hp} {h h' : Cells} {own : Nat → Option Addr} {env : Ev} {σ : L2.St} {p : Addr} {ds ds' : List D} {i : Nat} {Dn : Ends}
/-- a cell is written -/
theorem HRel.cellW (r : HRel X.prog X.w g H h) {n : Nat} {a : Addr} {c : OB} {o : HO} (ha : g.ρ[n]? = some a) (hn : n < h.length) (q : CellRel X.prog X.w g (upd H a o) a c) : HRel X.prog X.w g (upd H a o) (h.set n c) where
  len := by rw [List.length_set, r.len]
  nd := r.nd
  wr := r.wr
  wt := fun b u h1 h2 => by
    by_cases z : b = a
    · rw [z] at h2
      obtain ⟨u', e1, e2⟩ := q.some
      rw [h2] at e1; cases e1
      exact e2
    · rw [upd_ne z] at h2
      exact r.wt b u h1 h2
  at_ := fun m b c' h1 h2 => by
    have wa := r.wr a (List.mem_of_getElem? ha)
    by_cases z : m = n
    · subst z
      rw [ha] at h1; cases h1
      rw [List.getElem?_set_self hn] at h2
      cases h2
      exact q
    · rw [List.getElem?_set_ne (Ne.symm z)] at h2
      refine (r.at_ m b c' h1 h2).exts r (ExtS.write wa) (upd_ne fun e => z ?_)
      subst e
      obtain ⟨l1, e1⟩ := List.getElem?_eq_some_iff.mp h1
      obtain ⟨l2, e2⟩ := List.getElem?_eq_some_iff.mp ha
      exact (List.getElem_inj r.nd).mp (e1.trans e2.symm)
theorem Ent.cellW (n0 : Ent g0 H0 g H own) {n : Nat} {a : Addr} {o : HO} (r : HRel X.prog X.w g H h) (ha : g.ρ[n]? = some a) : Ent g0 H0 g (upd H a o) own := by
  refine ⟨⟨n0.ext.K, n0.ext.gA, n0.ext.pre, n0.ext.wn, n0.ext.wk, n0.ext.rw, fun b u z m => ?_, n0.ext.nw⟩, n0.new⟩
  by_cases e : b = a
  · subst e
    have z' := n0.ext.nw b (List.mem_of_getElem? ha) m
    rw [z] at z'; cases z'
  · rw [upd_ne e]; exact n0.ext.fr b u z m
theorem Ent.ownW (n0 : Ent g0 H0 g H own) {o : HO} (hp : own i = some p) : Ent g0 H0 g (upd H p o) own :=
  ⟨n0.ext.write (n0.new i p hp), n0.new⟩
/-- the slot's own list is written -/
theorem LR.ownW (l : LR g own env σ H) (r : HRel X.prog X.w g H h) {xs : List V} (hi : i < env.length) (hp : own i = some p) (hσ : σ[i]? = some (some (.ref p))) (q : RelsS g H ds' xs) :
    LR g own (env.set i (.own ds')) σ (upd H p (.lst xs)) where
  len := by rw [List.length_set, l.len]
  inj := l.inj
  ow := fun j a z => by
    obtain ⟨h1, h2, u, h3⟩ := l.ow j a z
    refine ⟨h1, h2, ?_⟩
    by_cases e : a = p
    · rw [e]; exact ⟨_, upd_same⟩
    · exact ⟨u, by rw [upd_ne e]; exact h3⟩
  sl := fun j s e => by
    have wp := (l.ow i p hp).1
    by_cases hj : j = i
    · subst hj
      rw [List.getElem?_set_self hi] at e
      cases e
      exact ⟨p, xs, hp, hσ, upd_same, RelsS.exts r (ExtS.write wp) q⟩
    · rw [List.getElem?_set_ne (Ne.symm hj)] at e
      have z := l.sl j s e
      cases s with
      | no => trivial
      | val d =>
        obtain ⟨u, z1, z2⟩ := z
        exact ⟨u, z1, RelS.exts r (ExtS.write wp) z2⟩
      | own ds =>
        obtain ⟨a, xs', z1, z2, z3, z4⟩ := z
        exact ⟨a, xs', z1, z2, by rw [upd_ne fun e => hj (l.inj j i p (by rw [← e]; exact z1) hp)]; exact z3, RelsS.exts r (ExtS.write wp) z4⟩
/-- a cell's write leaves the slots -/
theorem LR.cellW (l : LR g own env σ H) (r : HRel X.prog X.w g H h) {n : Nat} {a : Addr} {o : HO} (ha : g.ρ[n]? = some a) : LR g own env σ (upd H a o) :=
  l.write r (r.wr a (List.mem_of_getElem? ha)) fun j hj => (l.ow j a hj).2.1 (List.mem_of_getElem? ha)
/-- the list of a slot: where it stands, and what its change leaves -/
theorem slotL_ok (o : GOk X G g) (r : HRel X.prog X.w g H h) (l : LR g own env σ H) (n0 : Ent g0 H0 g H own) (e : slotL env h i = some ds) :
    ∃ p xs, σ[i]? = some (some (.ref p)) ∧ H p = some (.lst xs) ∧ RelsS g H ds xs ∧ ∀ ds' xs' (Dn : Ends), RelsS g H ds' xs' → PostS X G g0 H0 g H (slotPut env h i ds') Dn → Dn.nx σ (upd H p (.lst xs')) := by
  unfold slotL at e
  cases es : env[i]? with
  | none => rw [es] at e; cases e
  | some s =>
    rw [es] at e
    have hi : i < env.length := (List.getElem?_eq_some_iff.mp es).1
    have z := l.sl i s es
    cases s with
    | no => cases e
    | own es' =>
      cases e
      obtain ⟨p, xs, z1, z2, z3, z4⟩ := z
      refine ⟨p, xs, z2, z3, z4, fun ds' xs' Dn q k => ?_⟩
      unfold slotPut at k
      rw [es] at k
      have k : PostS X G g0 H0 g H (.ok (.nx, env.set i (.own ds')) h) Dn := k
      have wp := (l.ow i p z1).1
      exact k g own (upd H p (.lst xs')) σ o (r.write wp (l.ow i p z1).2.1) (l.ownW r hi z1 z2 q) (n0.ownW z1) (ExtS.write wp)
    | val d =>
      cases d with
      | obj n =>
        have e : (match h[n]? with
          | some (.lst ds) => some ds
          | _ => none) = some ds := e
        split at e
        · rename_i es' hc
          cases e
          obtain ⟨v, z1, z2⟩ := z
          obtain ⟨a, rfl, ha, xs, hx, qx⟩ := cell_at r (RelS.t z2) hc
          refine ⟨a, xs, z1, hx, qx, fun ds' xs' Dn q k => ?_⟩
          unfold slotPut at k
          rw [es] at k
          have k : PostS X G g0 H0 g H (.ok (.nx, env) (h.set n (.lst ds'))) Dn := k
          have wa := r.wr a (List.mem_of_getElem? ha)
          exact k g own (upd H a (.lst xs')) σ o (r.cellW ha (List.getElem?_eq_some_iff.mp hc).1 ⟨xs', upd_same, RelsS.exts r (ExtS.write wa) q⟩) (l.cellW r ha) (n0.cellW r ha) (ExtS.write wa)
        · cases e
      | _ => cases e
/-! ### append, extend -/
variable {x : Str} {e : Expr} {de : DE} {apos cpos pos : Pos}
def appendAt (i : Nat) (d : D) (env : Ev) (h : Cells) : R (Fl × Ev) := if isBor d then .bad else match slotL env h i with
  | some ds => if decide (ds.length < szL) then slotPut env h i (ds ++ [d]) else .bad
  | none => .bad
def withSlot (i : Nat) (f : DE) (k : D → Ev → Cells → R (Fl × Ev)) : DS := fun fn env h => match slotL env h i with
  | some _ => (f fn env h).bind fun d h1 => k d env h1
  | none => .bad
def sAppend (i : Nat) (a : DE) : DS := withSlot i a (appendAt i)
def extendAt (i : Nat) (d : D) (env : Ev) (h : Cells) : R (Fl × Ev) := match slotL env h i, seqM h d with
  | some ds, some es => if decide (ds.length + es.length ≤ szL) then slotPut env h i (ds ++ es) else .bad
  | _, _ => .bad
def sExtend (i : Nat) (a : DE) : DS := withSlot i a (extendAt i)
theorem attrName {x f : Str} {p : Pos} {env : Env} : attributeBase (.Name x p) f env (eval (.Name x p) env) = eval (.Name x p) env := rfl
theorem few_ok {pos : Pos} {env : Env} {es : List Expr} (h : noStars es = true) (hl : es.length < 30) : ((backTo pos (starEach es env)).all (fun x => !x.1) && (backToKw pos (keywordEach [] env)).all (fun x => x.1.isSome) && decide (es.length + ([] : List Keyword).length + (if ([] : List Keyword).isEmpty then 0 else 1) < 30)) = true := by
  have e1 : (backTo pos (starEach es env)).all (fun x => !x.1) = true := by
    have z := backTo_any (pos := pos) (stars_any (env := env) h)
    rw [List.all_eq_not_any_not]
    simp only [Bool.not_not]
    rw [z]; rfl
  rw [e1]
  simp [backToKw, keywordEach, hl]
/-- the slot's list is the receiver, one argument -/
theorem withSlot_ok {K : D → Ev → Cells → R (Fl × Ev)} {r : V → List V → Hp → VK → Prop}
    (key : ∀ g own H d h v p (Dn : Ends), GOk X G g → HRel X.prog X.w g H h → LR g own env σ H → Ent g0 H0 g H own → σ[i]? = some (some (.ref p)) → RelT g H d v → PostS X G g0 H0 g H (K d env h) Dn → r (.ref p) [v] H fun _ H1 => Dn.nx σ H1)
    (q : ∃ g own h, GOk X G g ∧ HRel X.prog X.w g H h ∧ LR g own env σ H ∧ Ent g0 H0 g H own ∧ PostS X G g0 H0 g H (withSlot i de K G.fns env h) Dn) : tBM X.K "list" r (tVar i) (tCons (tD X G de) tNil) σ H fun _ H1 => Dn.nx σ H1 := by
  obtain ⟨g, own, h, o, rr, l, n, q⟩ := q
  unfold withSlot at q
  split at q
  · rename_i ds ed
    obtain ⟨p, xs, s1, s2, s3, s4⟩ := slotL_ok o rr l n ed
    refine ⟨_, s1, .inl ⟨rfl, xs, SqL.of s2⟩, ?_⟩
    refine tG.mk o rr l ((Post.stmt rr n q).imp fun g1 H1 d h1 e1 r1 q1 v qv => ?_)
    exact key g1 own H1 d h1 v p Dn (o.ext e1) r1 (l.step rr e1) (n.step e1) s1 qv q1
  · exact q.elim
theorem slot_same {q : Addr} (h1 : σ[i]? = some (some (V.ref p))) (h2 : σ[i]? = some (some (V.ref q))) : q = p := by
  rw [h1] at h2
  cases h2
  rfl
theorem s_append {px : Pos} (hN : X.N[i]? = some x) (hv : Vis X.env.scope x) (hd : (x == ("__debug__" : Str)) = false) (hcd : (x == ("__classdict__" : Str)) = false) (he : PE X e (tD X G de)) (hst : isStar e = false) (hl : (apos.endLine == cpos.line) = true) (hsw : swapsWith (.Call (.Attribute (.Name x px) "append" apos) [e] [] cpos) none pos.line X.env = pure false) :
    PS X (.Expr (.Call (.Attribute (.Name x px) "append" apos) [e] [] cpos) pos) (tS X G g0 H0 (sAppend i de)) :=
  PS.imp (ps_expr (pe_bm PySem.F.plainAttrs_list PySem.F.slot_list_append PySem.F.type_list_append mt_append (pe_var hN hv hd hcd) (pa_cons he pa_nil (star_cons hst)) attrName (few_ok (by simp [noStars, hst]) (by show 1 < 30; decide)) hl (star_cons hst) rfl) hsw) fun Dn σ H ⟨g, own, env, h, o, r, l, n, q⟩ =>
    withSlot_ok (fun g own H d h v p Dn o r l n hp qv k => by
      unfold appendAt at k
      split at k
      · exact k.elim
      · rename_i nb
        split at k
        · rename_i ds ed
          split at k
          · rename_i hz
            obtain ⟨p', xs, s1, s2, s3, s4⟩ := slotL_ok o r l n ed
            cases slot_same hp s1
            exact ⟨p, xs, v, rfl, rfl, s2, by rw [lineE, ← s3.len]; simpa using hz, s4 _ _ Dn (s3.app (RelsS.one (qv.s (by simpa using nb)))) k⟩
          · exact k.elim
        · exact k.elim) ⟨g, own, h, o, r, l, n, q⟩
theorem s_extend {px : Pos} (hN : X.N[i]? = some x) (hv : Vis X.env.scope x) (hd : (x == ("__debug__" : Str)) = false) (hcd : (x == ("__classdict__" : Str)) = false) (he : PE X e (tD X G de)) (hst : isStar e = false) (hl : (apos.endLine == cpos.line) = true) (hsw : swapsWith (.Call (.Attribute (.Name x px) "extend" apos) [e] [] cpos) none pos.line X.env = pure false) :
    PS X (.Expr (.Call (.Attribute (.Name x px) "extend" apos) [e] [] cpos) pos) (tS X G g0 H0 (sExtend i de)) :=
  PS.imp (ps_expr (pe_bm PySem.F.plainAttrs_list PySem.F.slot_list_extend PySem.F.type_list_extend mt_extend (pe_var hN hv hd hcd) (pa_cons he pa_nil (star_cons hst)) attrName (few_ok (by simp [noStars, hst]) (by show 1 < 30; decide)) hl (star_cons hst) rfl) hsw) fun Dn σ H ⟨g, own, env, h, o, r, l, n, q⟩ =>
    withSlot_ok (fun g own H d h v p Dn o r l n hp qv k => by
      unfold extendAt at k
      split at k
      · rename_i ds es ed ee
        split at k
        · rename_i hz
          obtain ⟨p', xs, s1, s2, s3, s4⟩ := slotL_ok o r l n ed
          cases slot_same hp s1
          obtain ⟨b, zs, rfl, z1, z2⟩ := seqM_ok r qv ee
          exact ⟨p, b, xs, zs, rfl, rfl, s2, z1, by rw [lineE, ← s3.len, ← z2.len]; simpa using hz, s4 _ _ Dn (s3.app z2) k⟩
        · exact k.elim
      · exact k.elim) ⟨g, own, h, o, r, l, n, q⟩
/-! ### targets that may write -/
abbrev DG := D → DS
def tPG (X : Cx) (G : Gx) (g0 : Gh) (H0 : Hp) (dg : DG) : TG := fun v σ H Q => ∃ g own env h d, GOk X G g ∧ HRel X.prog X.w g H h ∧ LR g own env σ H ∧ Ent g0 H0 g H own ∧ RelS g H d v ∧
  ∃ Dn : Ends, Q = Dn.nx ∧ PostS X G g0 H0 g H (dg d G.fns env h) Dn
def tPGs (X : Cx) (G : Gx) (g0 : Gh) (H0 : Hp) (dg : List D → DS) : TGs := fun v σ H Q => ∃ g own env h d, GOk X G g ∧ HRel X.prog X.w g H h ∧ LR g own env σ H ∧ Ent g0 H0 g H own ∧ RelsS g H d v ∧
  ∃ Dn : Ends, Q = Dn.nx ∧ PostS X G g0 H0 g H (dg d G.fns env h) Dn
def gName' (i : Nat) : DG := fun d _ env h => setV i d env h
def setAt (i : Nat) (k d : D) (env : Ev) (h : Cells) : R (Fl × Ev) := match k, slotL env h i with
  | .int j, some ds => match ixN ds.length j with
    | some n => if isBor d then .bad else slotPut env h i (ds.set n d)
    | none => .bad
  | _, _ => .bad
/-- x[k] = .., x a slot's list -/
def gIx (i : Nat) (a : DE) : DG := fun d fn env h => match slotL env h i with
  | some _ => (a fn env h).bind fun k h1 => setAt i k d env h1
  | none => .bad
def gsNil : List D → DS := fun ds _ env h => match ds with
  | [] => .ok (.nx, env) h
  | _ => .bad
def gsCons (a : DG) (b : List D → DS) : List D → DS := fun ds fn env h => match ds with
  | d :: ds => sSeq (a d) (b ds) fn env h
  | [] => .bad
/-- n targets -/
def gTup (n : Nat) (a : List D → DS) : DG := fun d fn env h => match d with
  | .tup ds => if ds.length = n then a ds fn env h else .bad
  | _ => .bad
def sAsg (a : DE) (b : DG) : DS := fun fn env h => (a fn env h).bind fun d h1 => if isBor d then .bad else b d fn env h1
theorem s_pgName {px : Pos} (hN : X.N.Nodup) (hi : X.N[i]? = some x) (hx : Loc X.env.scope x) (hf : X.fn x = true ∨ X.env.scope.names.lookup x = some .local) : PG X (.Name x px) (tPG X G g0 H0 (gName' i)) :=
  PG.imp (pg_name hN hi hx hf) fun v σ H Q ⟨g, own, env, h, d, o, r, l, n, q, Dn, eq, k⟩ => by
    subst eq
    exact setV_ok (X := X) (G := G) o r l n q.t k
theorem s_pgIx {px sp : Pos} {b : Expr} {db : DE} (hN : X.N[i]? = some x) (hv : Vis X.env.scope x) (hd : (x == ("__debug__" : Str)) = false) (hcd : (x == ("__classdict__" : Str)) = false) (hb : PE X b (tD X G db)) (hsl : isSlice b = false) :
    PG X (.Subscript (.Name x px) b sp) (tPG X G g0 H0 (gIx i db)) :=
  PG.imp (pg_sub (pe_var hN hv hd hcd) hb set_list (fun _ => by cases b <;> first | rfl | (simp [isSlice] at hsl))) fun v σ H Q ⟨g, own, env, h, d, o, r, l, n, q, Dn, eq, k⟩ => by
    subst eq
    unfold gIx at k
    split at k
    · rename_i ds ed
      obtain ⟨p, xs, s1, s2, s3, s4⟩ := slotL_ok o r l n ed
      refine ⟨_, s1, tG.mk o r l ((Post.stmt r n k).imp fun g1 H1 kd h1 e1 r1 k1 w qw => ?_)⟩
      unfold setAt at k1
      split at k1
      · rename_i j ds1 ed1
        cases (show w = V.int j from qw)
        split at k1
        · rename_i m hm
          split at k1
          · exact k1.elim
          · obtain ⟨p', xs', t1, t2, t3, t4⟩ := slotL_ok (o.ext e1) r1 (l.step r e1) (n.step e1) ed1
            cases slot_same s1 t1
            exact ⟨p, xs', j, m, rfl, rfl, t2, by rw [← t3.len]; exact hm, t4 _ _ _ (t3.set m (RelS.ext r e1 q)) k1⟩
        · exact k1.elim
      · exact k1.elim
    · exact k.elim
theorem s_pgsNil : PGs X [] (tPGs X G g0 H0 gsNil) :=
  PGs.imp pgs_nil fun v σ H Q ⟨g, own, env, h, ds, o, r, l, n, q, Dn, eq, k⟩ => by
    subst eq
    cases ds with
    | nil =>
      cases (show v = [] from q)
      exact ⟨rfl, PostS.now (X := X) (G := G) k o r l n⟩
    | cons d ds => exact k.elim
variable {a b : Expr} {es : List Expr} {dg : DG} {dgs : List D → DS}
theorem s_pgsCons (h1 : PG X e (tPG X G g0 H0 dg)) (h2 : PGs X es (tPGs X G g0 H0 dgs)) (hs : (assignEach (e :: es) X.env).map (·.2) = assign e X.env :: (assignEach es X.env).map (·.2)) : PGs X (e :: es) (tPGs X G g0 H0 (gsCons dg dgs)) :=
  PGs.imp (pgs_cons h1 h2 hs) fun v σ H Q ⟨g, own, env, h, ds, o, r, l, n, q, Dn, eq, k⟩ => by
    subst eq
    cases ds with
    | nil => exact k.elim
    | cons d ds =>
      simp only [RelsS] at q
      obtain ⟨x, rr, rfl, q1, q2⟩ := q
      refine ⟨x, rr, rfl, g, own, env, h, d, o, r, l, n, q1, { Dn with nx := fun σ' H' => tPGs X G g0 H0 dgs rr σ' H' Dn.nx }, rfl, ?_⟩
      have k : PostS X G g0 H0 g H (sSeq (dg d) (dgs ds) G.fns env h) Dn := k
      unfold sSeq at k
      cases ed : dg d G.fns env h with
      | bad => rw [ed] at k; exact k
      | exc x h' => rw [ed] at k; exact k
      | ok a h' =>
        rw [ed] at k
        obtain ⟨fl, env'⟩ := a
        cases fl with
        | nx => exact fun g2 own2 H2 σ2 o2 r2 l2 n2 e2 => ⟨g2, own2, env', h', ds, o2, r2, l2, n2, RelsS.exts r e2 q2, Dn, rfl, PostS.mono k e2⟩
        | rt d => exact k
        | bk => exact k
        | ct => exact k
theorem s_pgTup {k : Nat} {pos : Pos} (hc : X.calm = true) (hp : PGs X es (tPGs X G g0 H0 dgs)) (hst : (assignEach es X.env).findIdx? (·.1) = none) : PG X (.Tuple es k pos) (tPG X G g0 H0 (gTup (assignEach es X.env).length dgs)) :=
  PG.imp (pg_tup hc hp rfl hst) fun v σ H Q ⟨g, own, env, h, d, o, r, l, n, q, Dn, eq, k⟩ => by
    unfold gTup at k
    split at k
    · rename_i ds
      split at k
      · rename_i hl
        obtain ⟨a, xs, rfl, h1, h2⟩ := tup_ok o (RelS.t q)
        exact ⟨a, xs, rfl, h1, by rw [← h2.len]; exact hl, g, own, env, h, ds, o, r, l, n, h2, Dn, eq, k⟩
      · exact k.elim
    · exact k.elim
theorem s_asg {tg : Expr} (he : PE X e (tD X G de)) (hg : PG X tg (tPG X G g0 H0 dg)) (hs : swapsWithSole [tg] e pos.line X.env = pure false) (hw : swappedStores [tg] e X.env = pure none) (h1 : (assignEach [tg] X.env).map (·.2) = [assign tg X.env]) :
    PS X (.Assign [tg] e pos) (tS X G g0 H0 (sAsg de dg)) :=
  PS.imp (ps_asg he hg hs hw h1) fun Dn σ H p => tS.expr (f := fun fn env d h1 => if isBor d then R.bad else dg d fn env h1) p fun g own env h H1 d v o r l n q p1 => by
    split at p1
    · exact p1.elim
    · rename_i nb
      exact ⟨g, own, env, h, d, o, r, l, n, q.s (by simpa using nb), Dn, rfl, p1⟩
end
end EV
/-! EV12: calls of built-ins -/
namespace EV
open PySem L2
def toInts : List D → Option (List Int)
  | [] => some []
  | .int i :: ds => match toInts ds with
    | some is => some (i :: is)
    | none => none
  | _ :: _ => none
def toBls : List D → Option (List Bool)
  | [] => some []
  | .bl i :: ds => match toBls ds with
    | some is => some (i :: is)
    | none => none
  | _ :: _ => none
section
variable {X : Cx} {G : Gx} {g : Gh} {H : Hp} {h : Cells}
theorem toInts_ok : ∀ {ds : List D} {xs : List V} {is : List Int}, RelsS g H ds xs → toInts ds = some is → xs = is.map V.int
  | [], xs, is, q, e => by cases e; exact q
  | d :: ds, xs, is, q, e => by
    simp only [RelsS] at q
    obtain ⟨x, rr, rfl, q1, q2⟩ := q
    cases d with
    | int i =>
      unfold toInts at e
      split at e
      · rename_i js ej
        cases e
        cases (show x = V.int i from q1)
        rw [List.map_cons, toInts_ok q2 ej]
      · cases e
    | _ => simp [toInts] at e
theorem toBls_ok : ∀ {ds : List D} {xs : List V} {is : List Bool}, RelsS g H ds xs → toBls ds = some is → xs = is.map V.bl
  | [], xs, is, q, e => by cases e; exact q
  | d :: ds, xs, is, q, e => by
    simp only [RelsS] at q
    obtain ⟨x, rr, rfl, q1, q2⟩ := q
    cases d with
    | bl i =>
      unfold toBls at e
      split at e
      · rename_i js ej
        cases e
        cases (show x = V.bl i from q1)
        rw [List.map_cons, toBls_ok q2 ej]
      · cases e
    | _ => simp [toBls] at e
end
/-! ### sum of a tuple -/
section
open PySem.Spec PyProof.Rows
variable {X : Cx}
theorem preSum_getD (ns : List Int) : ∀ n, n ≤ ns.length → preSum (fun i => ns.getD i 0) n = (ns.take n).sum
  | 0, _ => by simp [preSum]
  | n + 1, hn => by
    have ih := preSum_getD ns n (by omega)
    have e : ns.take (n + 1) = ns.take n ++ [ns.getD n 0] := by
      rw [List.take_succ, List.getElem?_eq_getElem (by omega)]
      simp [List.getD, List.getElem?_eq_getElem (show n < ns.length by omega)]
    rw [e, List.sum_append, ← ih]
    simp [preSum]
theorem sum_tup (hc : X.calm = true) : CallR X (.builtin "sum") (fun vs H Q => ∃ (a : Addr) (ns : List Int), vs = [V.ref a] ∧ SqT X.K H a (ns.map V.int) ∧ Q (.int ns.sum) H) := by
  intro pins s σ H vs us Q I rv hq
  obtain ⟨a, ns, rfl, hs, q⟩ := hq
  obtain ⟨its, rt, tp, hz⟩ := I.tuple hs
  rw [Vals.ref1 rv]
  have lenE : its.length = ns.length := by rw [← rt.length, List.length_map]
  have lt : a < s.heap.objs.size := tp.lt
  refine call_sum_walkG (wpAny_pyIter_tuple (show s.heap.IsTuple a its.toArray from tp) ?_)
  have hI : ({ s with heap := s.heap.push { cls := .type "tuple_iterator", data := .fields #[.ref a, .int 0 0] } } : Shared).heap.IsTupleIter s.heap.objs.size a 0 := ⟨_, Heap.get?_push_size _ rfl, rfl, rfl⟩
  have hT : ({ s with heap := s.heap.push { cls := .type "tuple_iterator", data := .fields #[.ref a, .int 0 0] } } : Shared).heap.IsTuple a its.toArray := by
    obtain ⟨o, e1, e2⟩ := tp
    exact ⟨o, Heap.get?_push_of_some _ e1, e2⟩
  refine ⟨_, _, _, _, _, _, fun i => ns.getD i 0, rfl, Walks.tuple (A := X.A.in1) (I.ok.hd hc) _ a (Nat.ne_of_lt lt) its.toArray, ⟨hI, hT⟩, ?_, ?_, fun h' tk t' hk => ?_⟩
  · intro b hb
    rw [Heap.size_push]
    rcases List.mem_cons.mp hb with z | hb
    · rw [z]; exact Nat.lt_succ_self _
    · have : b = a := by simpa using hb
      rw [this]; exact Nat.lt_succ_of_lt lt
  · intro i v hv
    have hv' : its[i]? = some v := by simpa using hv
    have hi : i < its.length := (List.getElem?_eq_some_iff.mp hv').1
    obtain ⟨u, hu, ru⟩ := rt.get (i := i) (x := V.int (ns.getD i 0)) (by
      rw [List.getElem?_map, List.getElem?_eq_getElem (by omega)]
      simp [List.getD, List.getElem?_eq_getElem (show i < ns.length by omega)])
    rw [hv'] at hu; cases hu
    exact ru
  · have e1 : preSum (fun i => ns.getD i 0) its.toArray.size = ns.sum := by
      rw [List.size_toArray, lenE, preSum_getD ns _ (Nat.le_refl _), List.take_of_length_le (Nat.le_refl _)]
    rw [e1]
    refine ⟨.int ns.sum, H, I.kept fun b o eo => hk b o (fun hmem => ?_) (Heap.get?_push_of_some _ eo), ⟨_, rfl⟩, q⟩
    have : b = s.heap.objs.size := by simpa using hmem
    exact absurd (this ▸ Heap.lt_size eo) (Nat.lt_irrefl _)
end
/-! ### the operations -/
def cAbs : ON := fun ds h => match ds with
  | [.int i] => .ok (.int (if i < 0 then -i else i)) h
  | _ => .bad
def cMax : ON := fun ds h => match ds with
  | [.int i, .int j] => .ok (.int (if j > i then j else i)) h
  | _ => .bad
def cMin : ON := fun ds h => match ds with
  | [.int i, .int j] => .ok (.int (if j < i then j else i)) h
  | _ => .bad
def cInt : ON := fun ds h => match ds with
  | [.int i] => .ok (.int i) h
  | [.bl k] => .ok (.int (if k then 1 else 0)) h
  | _ => .bad
def cLen : ON := fun ds h => match ds with
  | [.str s] => if s.length ≤ szL then .ok (.int s.length) h else .bad
  | [d] => match seqT h d with
    | some es => .ok (.int es.length) h
    | none => .bad
  | _ => .bad
def cSum : ON := fun ds h => match ds with
  | [.tup es] => match toInts es with
    | some is => .ok (.int is.sum) h
    | none => .bad
  | [d] => match (seqL h d).bind toInts with
    | some is => .ok (.int is.sum) h
    | none => .bad
  | _ => .bad
def cAll : ON := fun ds h => match ds with
  | [d] => match (seqL h d).bind toBls with
    | some is => .ok (.bl (is.all id)) h
    | none => .bad
  | _ => .bad
def cTuple : ON := fun ds h => match ds with
  | [.tup es] => .ok (.tup es) h
  | [d] => match seqL h d with
    | some es => .ok (.tup es) h
    | none => .bad
  | _ => .bad
def cList : List D → Cells → R (List D) := fun ds h => match ds with
  | [d] => match seqT h d with
    | some es => .ok es h
    | none => .bad
  | _ => .bad
def cDivmod : ON := fun ds h => match ds with
  | [.int i, .int j] => if decide (0 < j) && decide (j < 1073741824) then .ok (.tup [.int (i / j), .int (i % j)]) h else .bad
  | _ => .bad
section
variable {X : Cx} {G : Gx}
theorem c_abs : CallR X (.builtin "abs") (rON X G cAbs) := by
  intro pins s σ H xs us Q I rv ⟨g, h, ds, og, r, q, p⟩
  unfold cAbs at p
  split at p
  · rename_i i
    obtain ⟨y, rfl, z⟩ := rel1 q
    cases (show y = V.int i from z)
    exact call_abs pins s σ H _ us Q I rv ⟨i, rfl, Post.int r p⟩
  · exact p.elim
theorem c_int : CallR X (.type "int") (rON X G cInt) := by
  intro pins s σ H xs us Q I rv ⟨g, h, ds, og, r, q, p⟩
  unfold cInt at p
  split at p
  · rename_i i
    obtain ⟨y, rfl, z⟩ := rel1 q
    cases (show y = V.int i from z)
    exact call_int1 pins s σ H _ us Q I rv (.inl ⟨i, rfl, Post.int r p⟩)
  · rename_i i
    obtain ⟨y, rfl, z⟩ := rel1 q
    cases (show y = V.bl i from z)
    exact call_int1 pins s σ H _ us Q I rv (.inr ⟨i, rfl, Post.int r p⟩)
  · exact p.elim
theorem c_len : CallR X (.builtin "len") (rON X G cLen) := by
  intro pins s σ H xs us Q I rv ⟨g, h, ds, og, r, q, p⟩
  unfold cLen at p
  split at p
  · rename_i i
    obtain ⟨y, rfl, z⟩ := rel1 q
    cases (show y = V.str i from z)
    split at p
    · rename_i hz
      exact call_len pins s σ H _ us Q I rv ⟨_, _, rfl, ⟨by rw [lineE]; exact hz, rfl⟩, Post.int r p⟩
    · exact p.elim
  · rename_i d _
    obtain ⟨y, rfl, z⟩ := rel1 q
    split at p
    · rename_i es e
      obtain ⟨a, xs, rfl, h1, h2⟩ := seqT_ok og r z e
      exact call_len pins s σ H _ us Q I rv ⟨_, xs.length, rfl, h1.imp (fun h1 => ⟨xs, h1, rfl⟩) fun h1 => ⟨xs, h1, rfl⟩, by rw [← h2.len]; exact Post.int r p⟩
    · exact p.elim
  · exact p.elim
theorem c_sum (hc : X.calm = true) : CallR X (.builtin "sum") (rON X G cSum) := by
  intro pins s σ H xs us Q I rv ⟨g, h, ds, og, r, q, p⟩
  unfold cSum at p
  split at p
  · rename_i es
    obtain ⟨y, rfl, z⟩ := rel1 q
    split at p
    · rename_i is ei
      obtain ⟨a, xs, rfl, h1, h2⟩ := tup_ok og z
      cases toInts_ok h2 ei
      exact sum_tup hc pins s σ H _ us Q I rv ⟨a, is, rfl, h1, Post.int r p⟩
    · exact p.elim
  · rename_i d _
    obtain ⟨y, rfl, z⟩ := rel1 q
    split at p
    · rename_i is ei
      obtain ⟨es, e1, e2⟩ := Option.bind_eq_some_iff.mp ei
      obtain ⟨a, xs, rfl, h1, h2⟩ := seqL_ok og r z e1
      cases toInts_ok h2 e2
      exact cr_sum hc pins s σ H _ us Q I rv ⟨a, is, rfl, h1, Post.int r p⟩
    · exact p.elim
  · exact p.elim
theorem c_all (hc : X.calm = true) : CallR X (.builtin "all") (rON X G cAll) := by
  intro pins s σ H xs us Q I rv ⟨g, h, ds, og, r, q, p⟩
  unfold cAll at p
  split at p
  · rename_i d
    obtain ⟨y, rfl, z⟩ := rel1 q
    split at p
    · rename_i is ei
      obtain ⟨es, e1, e2⟩ := Option.bind_eq_some_iff.mp ei
      obtain ⟨a, xs, rfl, h1, h2⟩ := seqL_ok og r z e1
      cases toBls_ok h2 e2
      exact cr_all hc pins s σ H _ us Q I rv ⟨a, is, rfl, h1, Post.bl r p⟩
    · exact p.elim
  · exact p.elim
theorem c_tuple : CallR X (.type "tuple") (rON X G cTuple) := by
  intro pins s σ H xs us Q I rv ⟨g, h, ds, og, r, q, p⟩
  unfold cTuple at p
  split at p
  · rename_i es
    obtain ⟨y, rfl, z⟩ := rel1 q
    obtain ⟨a, xs, rfl, h1, h2⟩ := tup_ok og z
    exact call_tuple_of pins s σ H _ us Q I rv ⟨a, xs, rfl, .inr ⟨h1, Post.val r z p⟩⟩
  · rename_i d _
    obtain ⟨y, rfl, z⟩ := rel1 q
    split at p
    · rename_i es e
      obtain ⟨a, xs, rfl, h1, h2⟩ := seqL_ok og r z e
      exact call_tuple_of pins s σ H _ us Q I rv ⟨a, xs, rfl, .inl ⟨h1, Post.newT (K := fun _ _ _ _ => True) r h2 p⟩⟩
    · exact p.elim
  · exact p.elim
theorem c_divmod : CallR X (.builtin "divmod") (rON X G cDivmod) := by
  intro pins s σ H xs us Q I rv ⟨g, h, ds, og, r, q, p⟩
  unfold cDivmod at p
  split at p
  · rename_i i j
    obtain ⟨y, z, rfl, z1, z2⟩ := rel2 q
    cases (show y = V.int i from z1); cases (show z = V.int j from z2)
    split at p
    · rename_i hz
      simp only [Bool.and_eq_true, decide_eq_true_eq] at hz
      exact call_divmod pins s σ H _ us Q I rv ⟨i, j, rfl, hz, Post.newT (K := fun _ _ _ _ => True) r (ds := [.int (i / j), .int (i % j)]) (xs := [.int (i / j), .int (i % j)]) ⟨_, _, rfl, rfl, _, _, rfl, rfl, rfl⟩ p⟩
    · exact p.elim
  · exact p.elim
variable {x : Str} {e : Expr} {es : List Expr} {da : DA} {p pos : Pos} {id T : String} {o : ON}
theorem tON {σ : L2.St} {H : Hp} {Q : VK} (q : tD X G (dOpN o da) σ H Q) : tCB (rON X G o) (tA X G da) σ H Q :=
  tG.bind (f := fun fn env ds h1 => o ds h1) q fun g own env h H1 ds v og r l q p1 => ⟨g, h, ds, og, r, q, p1⟩
theorem s_callB (hc : CallR X (.builtin id) (rON X G o)) (hg : Gl X x) (hm : X.mg x = none) (hv : bootBuiltins x = some (.builtin id)) (ha : PA X (e :: es) (tA X G da)) (hn : x ≠ "__name__") (hdb : (x == ("__debug__" : Str)) = false) (hs : noStars (e :: es) = true) :
    PE X (.Call (.Name x p) (e :: es) [] pos) (tD X G (dOpN o da)) := by
  have h1 : isStar e = false := by simp only [noStars, List.all_cons, Bool.and_eq_true] at hs; simpa using hs.1
  have h2 : noStars es = true := by simp only [noStars, List.all_cons, Bool.and_eq_true] at hs; exact hs.2
  exact PE.imp (pe_callB hc hg hm hv ha hn hdb (star_cons h1) (backTo_any (stars_any h2))) fun _ _ _ q => tON q
theorem s_callTy (hc : CallR X (.type T) (rON X G o)) (hg : Gl X x) (hm : X.mg x = none) (hv : bootBuiltins x = some (.type T)) (ha : PA X (e :: es) (tA X G da)) (hn : x ≠ "__name__") (hdb : (x == ("__debug__" : Str)) = false) (hs : noStars (e :: es) = true) :
    PE X (.Call (.Name x p) (e :: es) [] pos) (tD X G (dOpN o da)) := by
  have h1 : isStar e = false := by simp only [noStars, List.all_cons, Bool.and_eq_true] at hs; simpa using hs.1
  have h2 : noStars es = true := by simp only [noStars, List.all_cons, Bool.and_eq_true] at hs; exact hs.2
  exact PE.imp (pe_callTy hc hg hm hv ha hn hdb (star_cons h1) (backTo_any (stars_any h2))) fun _ _ _ q => tON q
/-- list(x): a new list -/
def dListF (da : DA) : DF := fun fn env h => (da fn env h).bind fun ds h1 => cList ds h1
end
end EV
/-! EV13: repr, isinstance -/
namespace EV
open PySem L2
mutual
/-- a bound of a shown text's length -/
def rsz : PyData → Nat
  | .none => 4
  | .bool _ => 5
  | .int i => if i.natAbs < 10 ^ 40 then 41 else 1921
  | .str x => 10 * x.length + 2
  | .list xs => rszs xs + 3
  | .tuple xs => rszs xs + 3
  | .dict _ => 0
def rszs : List PyData → Nat
  | [] => 0
  | x :: xs => rsz x + 2 + rszs xs
end
mutual
/-- what repr is asked of -/
def rok : PyData → Bool
  | .none => true
  | .bool _ => true
  | .int i => decide (i.natAbs.log2 < 1920)
  | .str x => x.cps.toList.all fun c => decide (c < 1114112)
  | .list xs => roks xs
  | .tuple xs => roks xs
  | .dict _ => false
def roks : List PyData → Bool
  | [] => true
  | x :: xs => rok x && roks xs
end
mutual
theorem rok_show : ∀ {d : PyData}, rok d = true → d.showable = true ∧ d.hasDict = false ∧ d.shown.length ≤ rsz d
  | .none, _ => ⟨by simp [PyData.showable], by simp [PyData.hasDict], by simp only [PyData.shown, rsz]; decide⟩
  | .bool b, _ => ⟨by simp [PyData.showable], by simp [PyData.hasDict], by simp only [PyData.shown, rsz]; cases b <;> decide⟩
  | .int i, h => by
    simp only [rok, decide_eq_true_eq] at h
    refine ⟨by simp [PyData.showable, h], by simp [PyData.hasDict], ?_⟩
    simp only [PyData.shown, rsz]
    split
    · rename_i hz
      rw [PyProof.Rows.ofString_len]
      exact int_text_length_le10 (k := 40) (by decide) hz
    · exact PyProof.Rows.int_text_len_1921 h
  | .str x, h => by
    simp only [rok, List.all_eq_true, decide_eq_true_eq] at h
    refine ⟨by simp [PyData.showable], by simp [PyData.hasDict], ?_⟩
    simp only [PyData.shown, rsz]
    exact StrLaws.reprText_len x fun c hc => Nat.lt_of_lt_of_le (h c hc) (by decide)
  | .list xs, h => by
    simp only [rok] at h
    obtain ⟨h1, h2, h3, h4⟩ := roks_show h
    refine ⟨by simpa [PyData.showable] using h1, by simpa [PyData.hasDict] using h2, ?_⟩
    simp only [PyData.shown, rsz]
    have := listText_len_le (PyData.shownAll xs)
    omega
  | .tuple xs, h => by
    simp only [rok] at h
    obtain ⟨h1, h2, h3, h4⟩ := roks_show h
    refine ⟨by simpa [PyData.showable] using h1, by simpa [PyData.hasDict] using h2, ?_⟩
    simp only [PyData.shown, rsz]
    have := tupleText_len_le (PyData.shownAll xs)
    omega
  | .dict _, h => by simp [rok] at h
theorem roks_show : ∀ {ds : List PyData}, roks ds = true → PyData.showableAll ds = true ∧ PyData.hasDictAll ds = false ∧ ((PyData.shownAll ds).map (·.length)).sum + 2 * (PyData.shownAll ds).length ≤ rszs ds ∧ True
  | [], _ => ⟨by simp [PyData.showableAll], by simp [PyData.hasDictAll], by simp [PyData.shownAll, rszs], True.intro⟩
  | d :: ds, h => by
    simp only [roks, Bool.and_eq_true] at h
    obtain ⟨a1, a2, a3⟩ := rok_show h.1
    obtain ⟨b1, b2, b3, _⟩ := roks_show h.2
    refine ⟨by simp [PyData.showableAll, a1, b1], by simp [PyData.hasDictAll, a2, b2], ?_, True.intro⟩
    simp only [PyData.shownAll, List.map_cons, List.sum_cons, List.length_cons, rszs]
    omega
end
/-- no list, no tuple -/
def isScP : PyData → Bool
  | .none | .bool _ | .int _ | .str _ => true
  | _ => false
def cRepr : ON := fun ds h => match ds with
  | [d] => match pdH h d with
    | some p => if PyProof.Rows.isDisplay p && rok p && decide (rsz p ≤ szL) && decide (p.depth ≤ 60) then .ok (.str p.shown) h else if isScP p && rok p && decide (rsz p ≤ szL) then .ok (.str p.shown) h else .bad
    | none => .bad
  | _ => .bad
section
open PySem.Spec PyProof.Rows
variable {X : Cx} {G : Gx}
theorem c_repr (gu : X.A.guards = some []) (hu : X.A.units + 64 < cLine) : CallR X (.builtin "repr") (rON X G cRepr) := by
  intro pins s σ H xs us Q I rv ⟨g, h, ds, og, r, q, p⟩
  unfold cRepr at p
  split at p
  · rename_i d
    obtain ⟨y, rfl, z⟩ := rel1 q
    split at p
    · rename_i pd e
      split at p
      · rename_i hz
        simp only [Bool.and_eq_true, decide_eq_true_eq] at hz
        obtain ⟨⟨⟨z1, z2⟩, z3⟩, z4⟩ := hz
        obtain ⟨u, rfl, ru⟩ := vals1 rv
        obtain ⟨as, rd⟩ := Dp.reads I pd y u (dpH_of og r z e) ru
        obtain ⟨a, rfl⟩ := isRef_of_reads rd z1
        obtain ⟨s1, s2, s3⟩ := rok_show z2
        exact repr_of_reads' rd s1 (PyData.noDict_hsm s2) gu (by omega) (fun _ _ e => e) (fun h' u tk hk => ⟨.str _, H, I.kept hk, ⟨_, rfl⟩, Post.str r p⟩) (by rw [lineE]; exact Nat.le_trans s3 z3)
      · split at p
        · rename_i hz
          simp only [Bool.and_eq_true, decide_eq_true_eq] at hz
          obtain ⟨⟨z1, z2⟩, z3⟩ := hz
          have dp := dpH_of og r z e
          cases dp with
          | non =>
            obtain ⟨u, rfl, rfl⟩ := vals1 rv
            exact PySem.P.repr_of_none ⟨.str _, H, I.tok _, ⟨_, rfl⟩, Post.str r p⟩
          | bl b =>
            obtain ⟨u, rfl, rfl⟩ := vals1 rv
            exact PySem.P.repr_of_bool ⟨.str _, H, I.tok _, ⟨_, rfl⟩, Post.str r p⟩
          | int i =>
            obtain ⟨u, rfl, t, rfl⟩ := vals1 rv
            simp only [rok, decide_eq_true_eq] at z2
            exact PySem.P.repr_of_int z2 ⟨.str _, H, I.tok _, ⟨_, rfl⟩, Post.str r p⟩
          | str x =>
            obtain ⟨u, rfl, t, rfl⟩ := vals1 rv
            have s3 := (rok_show z2).2.2
            exact PySem.P.repr_of_str ⟨.str _, H, I.tok _, ⟨_, rfl⟩, Post.str r p⟩ (by rw [lineE]; exact Nat.le_trans s3 z3)
          | _ => cases z1
        · exact p.elim
    · exact p.elim
  · exact p.elim
end
/-! ### isinstance -/
inductive Ty where
  | non | bl | int | str | lst | tup | dic
deriving DecidableEq
def Ty.name : Ty → String
  | .non => "NoneType" | .bl => "bool" | .int => "int" | .str => "str" | .lst => "list" | .tup => "tuple" | .dic => "dict"
def Ty.isa : Ty → Ty → Bool
  | .bl, .int => true
  | a, b => decide (a = b)
theorem Ty.kit : ∀ a b : Ty, kitB a.name b.name = some (a.isa b) := by
  have : ∀ a ∈ [Ty.non, .bl, .int, .str, .lst, .tup, .dic], ∀ b ∈ [Ty.bl, .int, .str, .lst, .tup, .dic], kitB a.name b.name = some (a.isa b) := by decide +kernel
  intro a b
  cases b with
  | non => cases a <;> decide +kernel
  | _ => exact this a (by cases a <;> simp) _ (by simp)
def tyOf (h : Cells) : D → Option Ty
  | .non => some .non
  | .bl _ => some .bl
  | .int _ => some .int
  | .str _ => some .str
  | .tup _ => some .tup
  | .lst _ => some .lst
  | .bor _ => some .lst
  | .frz _ => some .lst
  | .obj n => match h[n]? with
    | some (.lst _) => some .lst
    | _ => none
  | .glob _ => none
section
variable {X : Cx} {G : Gx} {g : Gh} {H : Hp} {h : Cells}
theorem tyOf_ok (og : GOk X G g) (r : HRel X.prog X.w g H h) {d : D} {v : V} {t : Ty} (q : RelT g H d v) (e : tyOf h d = some t) : TyX X.K H v (.type t.name) := by
  cases d with
  | non => cases e; cases (show v = .non from q); exact .base .non
  | bl b => cases e; cases (show v = .bl b from q); exact .base (.bl b)
  | int b => cases e; cases (show v = .int b from q); exact .base (.int b)
  | str b => cases e; cases (show v = .str b from q); exact .base (.str b)
  | tup ds =>
    cases e
    obtain ⟨a, xs, rfl, h1, _⟩ := tup_ok og q
    rcases h1 with (h1 | ⟨o, h1⟩) | ⟨o, its, n, k1, k2, _⟩
    · exact .base (.tup h1)
    · exact .fTuple h1
    · exact .kTuple k1 k2
  | lst ds =>
    cases e
    obtain ⟨a, xs, rfl, h1, _⟩ := q
    exact .base (.lst h1.1)
  | bor ds =>
    cases e
    obtain ⟨a, xs, rfl, h1, _⟩ := q
    exact .base (.lst h1.1)
  | frz ds =>
    cases e
    obtain ⟨a, xs, rfl, h1, _⟩ := q
    rcases h1 with ⟨o, h1⟩ | ⟨o, its, n, k1, k2, _⟩
    · exact .base (.frz h1)
    · exact .kList (by rw [← og.K]; exact k1) k2
  | obj n =>
    unfold tyOf at e
    dsimp only at e
    split at e
    · rename_i ds z
      cases e
      obtain ⟨a, rfl, _, xs, h2, _⟩ := cell_at r q z
      exact .base (.lst h2)
    · cases e
  | glob n => cases e
/-- isinstance(x, T), isinstance(x, (T, ..)) -/
def dIsi (a : DE) (ts : List Ty) : DE := fun fn env h => (a fn env h).bind fun d h1 => match tyOf h1 d with
  | some t => .ok (.bl (ts.any fun u => t.isa u)) h1
  | none => .bad
variable {e : Expr} {da : DE} {p pos : Pos}
/-- the class as it is written -/
structure PTyOk (X : Cx) (x : Str) (t : Ty) : Prop where
  gl : Gl X x
  mg : X.mg x = none
  bt : bootBuiltins x = some (.type t.name)
  nn : x ≠ "__name__"
  nd : (x == ("__debug__" : Str)) = false
theorem PTyOk.pe {x : Str} {t : Ty} {q : Pos} (k : PTyOk X x t) : PE X (.Name x q) (tC (.ty t.name)) := pe_bltn k.gl k.mg k.bt rfl k.nn k.nd
theorem s_isi {x : Str} {t : Ty} {px : Pos} (hg : Gl X "isinstance") (hm : X.mg "isinstance" = none) (he : PE X e (tD X G da)) (ht : PTyOk X x t) (hs : isStar e = false) :
    PE X (.Call (.Name "isinstance" p) [e, .Name x px] [] pos) (tD X G (dIsi da [t])) :=
  PE.imp (pe_callB call_isi hg hm PyProof.Rows.boot_isinstance (pa_cons he (pa_cons ht.pe pa_nil rfl) (star_cons hs)) (by decide) (by decide) (star_cons hs) rfl) fun σ H Q q =>
    tG.bind (f := fun fn env d h1 => match tyOf h1 d with
      | some t' => R.ok (D.bl ([t].any fun u => t'.isa u)) h1
      | none => .bad) q fun g own env h H1 d v og r l q p1 => by
      split at p1
      · rename_i t' et
        refine ⟨v, .ty t.name, .type t'.name, .type t.name, t'.isa t, rfl, .ty _, tyOf_ok og r q et, kit_ty (Ty.kit t' t), ?_⟩
        have := Post.bl r p1
        simpa using this
      · exact p1.elim
end
end EV
/-! EV14: a slot's list is let go, several names at once, while, augmented names -/
namespace EV
open PySem L2
section
variable {X : Cx} {G : Gx} {g g' g0 : Gh} {H H' H0 : Hp} {h h' : Cells} {own : Nat → Option Addr} {env : Ev} {σ : L2.St} {p : Addr} {ds : List D} {i : Nat} {st : Stmt} {sts : List Stmt} {da : DS}
/-! ### a slot's own list becomes a value -/
def frz1 (i : Nat) (env : Ev) : Ev := match env[i]? with
  | some (.own ds) => env.set i (.val (.lst ds))
  | _ => env
def frzs : List Nat → Ev → Ev
  | [], env => env
  | i :: is, env => frzs is (frz1 i env)
def sFrz (is : List Nat) (a : DS) : DS := fun fn env h => a fn (frzs is env) h
theorem frz1_ok (r : HRel X.prog X.w g H h) (o : GOk X G g) (l : LR g own env σ H) (n : Ent g0 H0 g H own) (i : Nat) :
    ∃ g' own', GOk X G g' ∧ HRel X.prog X.w g' H h ∧ LR g' own' (frz1 i env) σ H ∧ Ent g0 H0 g' H own' ∧ ExtS g H g' H := by
  unfold frz1
  split
  · rename_i ds es
    have hi : i < env.length := (List.getElem?_eq_some_iff.mp es).1
    obtain ⟨p, xs, z1, z2, z3, z4⟩ := l.sl i _ es
    obtain ⟨wp, np, _⟩ := l.ow i p z1
    have hp0 := n.new i p z1
    refine ⟨g.less p, fun j => if j = i then none else own j, ⟨o.K, o.gA⟩, r.less np, ?_, ⟨n.ext.lessNew hp0 np, fun j a z => ?_⟩, ExtS.less⟩
    · refine { len := by rw [List.length_set, l.len], inj := fun a b x h1 h2 => ?_, ow := fun a x h1 => ?_, sl := fun j s e => ?_ }
      · by_cases ha : a = i
        · simp only [if_pos ha] at h1; cases h1
        · by_cases hb : b = i
          · simp only [if_pos hb] at h2; cases h2
          · simp only [if_neg ha] at h1; simp only [if_neg hb] at h2
            exact l.inj a b x h1 h2
      · by_cases ha : a = i
        · simp only [if_pos ha] at h1; cases h1
        · simp only [if_neg ha] at h1
          obtain ⟨w1, w2, w3⟩ := l.ow a x h1
          exact ⟨⟨w1, fun e => ha (l.inj a i p (by rw [← e]; exact h1) z1)⟩, w2, w3⟩
      · by_cases hj : j = i
        · subst hj
          rw [List.getElem?_set_self hi] at e
          cases e
          exact ⟨.ref p, z2, p, xs, rfl, ⟨z3, fun w => w.2 rfl⟩, RelsS.exts r ExtS.less z4⟩
        · rw [List.getElem?_set_ne (Ne.symm hj)] at e
          have z := l.sl j s e
          cases s with
          | no => trivial
          | val d =>
            obtain ⟨u, y1, y2⟩ := z
            exact ⟨u, y1, RelS.exts r ExtS.less y2⟩
          | own ds' =>
            obtain ⟨a, xs', y1, y2, y3, y4⟩ := z
            exact ⟨a, xs', by simp only [if_neg hj]; exact y1, y2, y3, RelsS.exts r ExtS.less y4⟩
    · by_cases hj : j = i
      · simp only [if_pos hj] at z; cases z
      · simp only [if_neg hj] at z; exact n.new j a z
  · exact ⟨g, own, o, r, l, n, ExtS.refl _ _⟩
theorem frzs_ok : ∀ (is : List Nat) {g : Gh} {own : Nat → Option Addr} {env : Ev}, HRel X.prog X.w g H h → GOk X G g → LR g own env σ H → Ent g0 H0 g H own →
    ∃ g' own', GOk X G g' ∧ HRel X.prog X.w g' H h ∧ LR g' own' (frzs is env) σ H ∧ Ent g0 H0 g' H own' ∧ ExtS g H g' H
  | [], g, own, env, r, o, l, n => ⟨g, own, o, r, l, n, ExtS.refl _ _⟩
  | i :: is, g, own, env, r, o, l, n => by
    obtain ⟨g1, own1, o1, r1, l1, n1, e1⟩ := frz1_ok r o l n i
    obtain ⟨g2, own2, o2, r2, l2, n2, e2⟩ := frzs_ok is r1 o1 l1 n1
    exact ⟨g2, own2, o2, r2, l2, n2, e1.trans e2⟩
theorem tS.frz {is : List Nat} {Dn : Ends} (q : tS X G g0 H0 (sFrz is da) Dn σ H) : tS X G g0 H0 da Dn σ H := by
  obtain ⟨g, own, env, h, o, r, l, n, q⟩ := q
  obtain ⟨g1, own1, o1, r1, l1, n1, e1⟩ := frzs_ok is r o l n
  exact ⟨g1, own1, _, h, o1, r1, l1, n1, PostS.mono q e1⟩
theorem s_frz {is : List Nat} (hs : PS X st (tS X G g0 H0 da)) : PS X st (tS X G g0 H0 (sFrz is da)) := PS.imp hs fun _ _ _ q => tS.frz q
/-! ### several names at once -/
inductive It' where
  | v (d : D) | o (ds : List D)
abbrev DM := Fns → Ev → Cells → R It'
def dmV (a : DE) : DM := fun fn env h => (a fn env h).bind fun d h1 => if isBor d then .bad else .ok (.v d) h1
def dmO (a : DF) : DM := fun fn env h => (a fn env h).bind fun ds h1 => .ok (.o ds) h1
def IRel (Hs : Hp) (g : Gh) (H : Hp) : It' → V → Prop
  | .v d, v => RelS g H d v
  | .o ds, v => ∃ p xs, v = .ref p ∧ H p = some (.lst xs) ∧ RelsS g H ds xs ∧ g.W p ∧ p ∉ g.ρ ∧ Hs p = none
def tM (X : Cx) (G : Gx) (dm : DM) : TE := fun σ H Q => ∃ g own env h, GOk X G g ∧ HRel X.prog X.w g H h ∧ LR g own env σ H ∧ Post X G g H (dm G.fns env h) fun g' H' it _ => ∀ v, IRel H g' H' it v → Q v H'
theorem IRel.ext {Hs : Hp} (r : HRel X.prog X.w g H h) (e : Ext g H g' H') {it : It'} {v : V} (q : IRel Hs g H it v) : IRel Hs g' H' it v := by
  cases it with
  | v d => exact RelS.ext r e q
  | o ds =>
    obtain ⟨p, xs, z1, z2, z3, z4, z5, z6⟩ := q
    exact ⟨p, xs, z1, e.fr p _ z2 z5, RelsS.ext r e z3, (e.wk p z4).resolve_right (fun z => by rw [z2] at z; cases z), (fun m => by have z := e.nw p m z5; rw [z2] at z; cases z), z6⟩
variable {e : Expr} {de : DE} {df : DF}
theorem s_mV (he : PE X e (tD X G de)) : PE X e (tM X G (dmV de)) := PE.imp he fun σ H Q ⟨g, own, env, h, o, r, l, q⟩ => ⟨g, own, env, h, o, r, l, (Post.bind q).imp fun g1 H1 d h1 e1 r1 q1 v qv => by
  split at q1
  · exact q1.elim
  · rename_i nb
    exact Post.now r1 q1 v (qv.s (by simpa using nb))⟩
theorem s_mO (he : PE X e (tF X G df)) : PE X e (tM X G (dmO df)) := PE.imp he fun σ H Q ⟨g, own, env, h, o, r, l, q⟩ => ⟨g, own, env, h, o, r, l, (Post.bind q).imp fun g1 H1 ds h1 e1 r1 q1 p xs z1 z2 z3 z4 z5 =>
  Post.now r1 q1 _ ⟨p, xs, rfl, z4, z5, z2, z3, z1⟩⟩
/-- an item goes to its slot -/
def putIt (i : Nat) (it : It') (env : Ev) : Option Ev := if env.length ≤ i then none else match it with
  | .v d => some (env.set i (.val d))
  | .o ds => some (env.set i (.own ds))
def ownIt (i : Nat) (it : It') (v : V) (own : Nat → Option Addr) : Nat → Option Addr := fun j => if j = i then match it, v with
  | .o _, .ref p => some p
  | _, _ => none
  else own j
theorem putIt_ok {it : It'} {v : V} {env' : Ev} {Hs : Hp} (l : LR g own env σ H) (q : IRel Hs g H it v) (fresh : ∀ p, (∃ ds, it = .o ds) → v = .ref p → ∀ j, own j ≠ some p) (e : putIt i it env = some env') :
    LR g (ownIt i it v own) env' (σ.set i (some v)) H := by
  unfold putIt at e
  split at e
  · cases e
  · rename_i hl
    cases it with
    | v d =>
      cases e
      have := l.val (i := i) (by omega) q
      exact this
    | o ds =>
      cases e
      obtain ⟨p, xs, rfl, z2, z3, z4, z5, z6⟩ := q
      exact l.own' (by omega) z4 z5 z2 z3 (fresh p ⟨ds, rfl⟩ rfl)
theorem ent_fresh (r : HRel X.prog X.w g H h) (n : Ent g0 H0 g H own) (hp : H p = none) : H0 p = none := by
  cases q : H0 p with
  | none => rfl
  | some u =>
    by_cases m : p ∈ g0.ρ
    · obtain ⟨u', hu', _⟩ := r.mem (n.ext.mem m)
      rw [hp] at hu'; cases hu'
    · rw [n.ext.fr p u q m] at hp; cases hp
theorem ownIt_new {it : It'} {v : V} {own : Nat → Option Addr} {i : Nat} (n : ∀ j a, own j = some a → H0 a = none) (f : ∀ p, (∃ ds, it = .o ds) → v = .ref p → H0 p = none) : ∀ j a, ownIt i it v own j = some a → H0 a = none := fun j a z => by
  unfold ownIt at z
  split at z
  · cases it with
    | v d => cases z
    | o ds =>
      cases v with
      | ref q => cases z; exact f _ ⟨ds, rfl⟩ rfl
      | _ => cases z
  · exact n j a z
def sPar2 (i j : Nat) (a b : DM) : DS := fun fn env h => (a fn env h).bind fun x h1 => (b fn env h1).bind fun y h2 => match putIt i x env with
  | some env1 => match putIt j y env1 with
    | some env2 => .ok (.nx, env2) h2
    | none => .bad
  | none => .bad
theorem par_step {it : It'} {v : V} {env' : Ev} {Hs : Hp} {gs : Gh} {hs : Cells} (rs : HRel X.prog X.w gs Hs hs) (ns : Ent g0 H0 gs Hs own) (ls : LR gs own env σ Hs) (l : LR g own env σ H) (q : IRel Hs g H it v) :
    (∀ p, (∃ ds, it = .o ds) → v = .ref p → ∀ j, own j ≠ some p) ∧ ∀ p, (∃ ds, it = .o ds) → v = .ref p → H0 p = none := by
  refine ⟨fun p ⟨ds, e⟩ ev j hj => ?_, fun p ⟨ds, e⟩ ev => ?_⟩
  · subst e
    obtain ⟨p', xs, ep, z2, z3, z4, z5, z6⟩ := q
    rw [ev] at ep; cases ep
    obtain ⟨_, _, u, hu⟩ := ls.ow j p hj
    rw [z6] at hu; cases hu
  · subst e
    obtain ⟨p', xs, ep, z2, z3, z4, z5, z6⟩ := q
    rw [ev] at ep; cases ep
    exact ent_fresh rs ns z6
theorem par2_of {j : Nat} {a b : DM} {Dn : Ends} (q : tS X G g0 H0 (sPar2 i j a b) Dn σ H) : tPar i j (tCons (tM X G a) (tCons (tM X G b) tNil)) Dn σ H := by
  obtain ⟨g, own, env, h, o, r, l, n, q⟩ := q
  refine ⟨g, own, env, h, o, r, l, (Post.stmt r n q).imp fun g1 H1 x h1 e1 r1 q1 v qv => ?_⟩
  have n1 := n.step e1
  have l1 := l.step r e1
  refine ⟨g1, own, env, h1, o.ext e1, r1, l1, (Post.stmt r1 n1 q1).imp fun g2 H2 y h2 e2 r2 q2 w qw => ?_⟩
  have n2 := n1.step e2
  have l2 := l1.step r1 e2
  have qv2 := IRel.ext r1 e2 qv
  obtain ⟨f1, f2⟩ := par_step (env' := env) r n l l2 qv2
  obtain ⟨k1, k2⟩ := par_step (env' := env) r1 n1 l1 l2 qw
  refine ⟨v, w, rfl, ?_⟩
  split at q2
  · rename_i env1 p1
    split at q2
    · rename_i env2 p2
      have la := putIt_ok l2 qv2 f1 p1
      have lb := putIt_ok la qw (fun p hp ev j' hj' => by
        unfold ownIt at hj'
        split at hj'
        · cases x with
          | v d => cases hj'
          | o ds =>
            obtain ⟨p', xs, rfl, z2, z3, z4, z5, z6⟩ := qv
            cases hj'
            obtain ⟨ds2, e2'⟩ := hp
            subst e2'
            obtain ⟨p2, xs2, ew, y2, y3, y4, y5, y6⟩ := qw
            rw [ev] at ew
            cases ew
            rw [z2] at y6; cases y6
        · exact k1 p hp ev j' hj') p2
      exact q2 g2 _ H2 _ ((o.ext e1).ext e2) r2 lb ⟨n2.ext, ownIt_new (ownIt_new n2.new f2) k2⟩ (ExtS.refl _ _)
    · exact q2.elim
  · exact q2.elim
theorem s_par2 {j : Nat} {x y : Str} {a b : Expr} {da db : DM} {px py pt pos : Pos} {kt k2 pt2} (hc : X.calm = true) (hN : X.N.Nodup) (hi : X.N[i]? = some x) (hj : X.N[j]? = some y) (hij : i ≠ j)
    (hx : X.env.scope.names.lookup x = some .local) (hy : X.env.scope.names.lookup y = some .local) (ha : PE X a (tM X G da)) (hb : PE X b (tM X G db)) (sa : isStar a = false) (sb : isStar b = false)
    (hw : swappedStores [.Tuple [.Name x px, .Name y py] kt pt] (.Tuple [a, b] k2 pt2) X.env = pure (some [x, y])) :
    PS X (.Assign [.Tuple [.Name x px, .Name y py] kt pt] (.Tuple [a, b] k2 pt2) pos) (tS X G g0 H0 (sPar2 i j da db)) :=
  PS.imp (ps_par hc hN hi hj hij hx hy (pa_cons ha (pa_cons hb pa_nil (star_cons sb)) (star_cons sa)) hw rfl) fun _ _ _ q => par2_of q
/-! ### while -/
def whileL (t : DT) (body : DS) (fn : Fns) : Nat → Ev → Cells → R (Fl × Ev)
  | 0, _, _ => .bad
  | n + 1, env, h => (t fn env h).bind fun k h1 => if k = true then (body fn env h1).bind fun x h2 => match x.1 with
      | .nx => whileL t body fn n x.2 h2
      | .ct => whileL t body fn n x.2 h2
      | .bk => .ok (.nx, x.2) h2
      | .rt d => .ok (.rt d, x.2) h2
    else .ok (.nx, env) h1
def sWhile (n : Nat) (t : DT) (body : DS) : DS := fun fn env h => whileL t body fn n env h
/-! ### name op= e -/
def dIAdd : O2 := fun x y h => match x, y with
  | .int i, .int j => .ok (.int (i + j)) h
  | .str s, .str t => if s.length + t.length ≤ szL then .ok (.str (s ++ t)) h else .bad
  | _, _ => .bad
theorem o_iadd : OpR X (inplaceOp .Add) (rO2 X G dIAdd) := by
  intro pins s σ H x y v u Q I rx ry ⟨g, h, d, e, og, r, qd, qe, p⟩
  unfold dIAdd at p
  split at p
  · rename_i i j
    cases (show x = V.int i from qd); cases (show y = V.int j from qe)
    exact iop_add pins s σ H _ _ v u Q I rx ry ⟨i, j, rfl, rfl, Post.int r p⟩
  · rename_i i j
    cases (show x = V.str i from qd); cases (show y = V.str j from qe)
    split at p
    · rename_i hz
      exact iop_add_str pins s σ H _ _ v u Q I rx ry ⟨i, j, rfl, rfl, by rw [lineE]; exact hz, Post.str r p⟩
    · exact p.elim
  · exact p.elim
def sAug (i : Nat) (o : O2) (a : DE) : DS := fun fn env h => match env[i]? with
  | some (.val d) => (a fn env h).bind fun e h1 => (o d e h1).bind fun z h2 => setV i z env h2
  | _ => .bad
theorem s_aug {x : Str} {op : Operator} {o : O2} {pos pos' : Pos} (hN : X.N.Nodup) (hi : X.N[i]? = some x) (hx : Loc X.env.scope x) (he : PE X e (tD X G de)) (ho : OpR X (inplaceOp op) (rO2 X G o)) (hf : X.fn x = true ∨ X.env.scope.names.lookup x = some .local) :
    PS X (.AugAssign (.Name x pos') op e pos) (tS X G g0 H0 (sAug i o de)) :=
  PS.imp (ps_aug hN hi hx he (show PIp X op (rO2 X G o) from ho) hf) fun Dn σ H ⟨g, own, env, h, og, r, l, n, q⟩ => by
    unfold sAug at q
    split at q
    · rename_i d ed
      obtain ⟨v, z1, z2⟩ := l.sl i _ ed
      refine ⟨v, z1, tG.mk og r l ((Post.stmt r n q).imp fun g1 H1 e h1 e1 r1 q1 w qw => ?_)⟩
      refine ⟨g1, h1, d, e, og.ext e1, r1, RelT.ext r e1 z2.t, qw, (Post.stmt r1 (n.step e1) q1).imp fun g2 H2 z h2 e2 r2 q2 u qu => ?_⟩
      exact setV_ok (X := X) (G := G) ((og.ext e1).ext e2) r2 ((l.step r e1).step r1 e2) ((n.step e1).step e2) qu q2
    · exact q.elim
end
end EV
/-! EV15: the table of a text's defs, every def keeps its contract -/
namespace EV
open PySem L2
/-- a def of the text -/
structure FD where
  gn : Str
  nm : Str
  st : Stmt
  ps : List Str
  N : List Str
  sem : DS
  /-- a method's name (gn is its class), its qualified name -/
  me : Option Str
  qn : Str
/-- a text -/
structure Pg where
  defs : List FD
  free : List Str
  vals : List (Str × D)
  /-- classes, what their instances have -/
  cls : List (Nat × Str)
  attrs : List (Nat × Str)
/-- where a def stands -/
def AtF (K : PySem.W.Frag) (mg : Str → Option Value) (d : FD) (f : Addr) : Prop := match d.me with
  | none => mg d.gn = some (.ref f)
  | some m => ∃ C, mg d.gn = some (.ref C) ∧ Meth K C m f
theorem AtF.glo {K : PySem.W.Frag} {mg : Str → Option Value} {d : FD} {f : Addr} (a : AtF K mg d f) (h : d.me = none) : mg d.gn = some (.ref f) := by
  unfold AtF at a; rw [h] at a; exact a
theorem AtF.meth {K : PySem.W.Frag} {mg : Str → Option Value} {d : FD} {f : Addr} {m : Str} (a : AtF K mg d f) (h : d.me = some m) : ∃ C, mg d.gn = some (.ref C) ∧ Meth K C m f := by
  unfold AtF at a; rw [h] at a; exact a
/-- classes as they stand -/
def ClsAt (K : PySem.W.Frag) (mg : Str → Option Value) (gA : Nat → Option Addr) (T : Pg) : Prop :=
  (∀ (i : Nat) (x : Str), T.cls.lookup i = some x → ∃ C f, mg x = some (.ref C) ∧ gA i = some C ∧ Cls K C ∧ Mk K C f) ∧ ∀ p, p ∈ T.attrs → ∀ C, gA p.1 = some C → NoAttr K C p.2
def startE (n : Nat) (ds : List D) : Ev := ds.map Sl.val ++ List.replicate (n - ds.length) Sl.no
def endF (x : Fl × Ev) (h : Cells) : R D := match x.1 with
  | .nx => .ok .non h
  | .rt d => .ok d h
  | _ => .bad
def bodyF (n : Nat) (sem : DS) (fn : Fns) (ds : List D) (h : Cells) : R D := (sem fn (startE n ds) h).bind endF
def fnsOf (tb : List FD) : Nat → Fns
  | 0 => fun _ _ _ => .bad
  | k + 1 => fun i ds h => match tb[i]? with
    | some d => bodyF d.N.length d.sem (fnsOf tb k) ds h
    | none => .bad
theorem deepMk {k : Nat} {A : Around} (r : Room (k + 1) A) (env : Env) (C : Addr) (us : List Value) (kw : List (Str × Value)) : Room k ((A.deeper env).under (.builtin "type.__call__" ⟨.ref C :: us, kw⟩)) :=
  ⟨r.hd, by have := r.dp; rw [make_depth]; show A.depth + 1 + 1 + 3 * k + 5 < _; omega, by have := r.un; rw [make_units]; show A.units + 3 + 1 + 16 * k + 200 < _; omega⟩
/-- what the code of a def leans on -/
structure XOk (X : Cx) (G : Gx) (T : Pg) (k : Nat) : Prop where
  gu : X.A.guards = some []
  calm : X.calm = true
  rm : Room k X.A
  mkr : ∀ C us kw, Room k (X.A.under (.builtin "type.__call__" ⟨.ref C :: us, kw⟩))
  hx : Passes (L2.CX X.prog X.w) X G.Wx
  po : PassesOwn (model X.prog X.w) X.A X.env X.xe
  defs : ∀ (i : Nat) (d : FD), T.defs[i]? = some d → ∃ f fd, AtF X.K X.mg d f ∧ FunD X.K d.nm d.qn (defArgs d.st) (defBody d.st) (defScope d.st) [] [] f fd ∧ FnG X.prog X.w X.K X.mg X.base k f fd d.ps (spF X.prog X.w X.K G.gA d.ps.length (G.fns i))
  free : ∀ x, T.free.elem x = true → X.mg x = none
  vals : ∀ p, p ∈ T.vals → ∃ v u, X.mg p.1 = some u ∧ RelV v u ∧ ∀ g H, GOk X G g → RelS g H p.2 v
  cls : ClsAt X.K X.mg G.gA T
/-- names -/
structure Sc (X : Cx) (N : List Str) (sc : Scope) (F : Str → Bool) : Prop where
  en : X.N = N
  sc : X.env.scope = sc
  fn : X.fn = F
  nd : N.Nodup
def visB (sc : Scope) (x : Str) : Bool := match sc.names.lookup x with
  | some .local | some .cell | some .free => true
  | _ => false
def locB (sc : Scope) (x : Str) : Bool := match sc.names.lookup x with
  | some .local | some .cell => true
  | _ => false
def lclB (sc : Scope) (x : Str) : Bool := match sc.names.lookup x with
  | some .local => true
  | _ => false
def glB (sc : Scope) (x : Str) : Bool := match sc.names.lookup x with
  | some .globalImplicit => true
  | _ => false
def sameB (a : Option Str) (b : Str) : Bool := match a with
  | some c => c == b
  | none => false
structure VarOk (X : Cx) (i : Nat) (x : Str) : Prop where
  n : X.N[i]? = some x
  v : Vis X.env.scope x
  d : (x == ("__debug__" : Str)) = false
  c : (x == ("__classdict__" : Str)) = false
structure TgtOk (X : Cx) (i : Nat) (x : Str) : Prop where
  nd : X.N.Nodup
  n : X.N[i]? = some x
  l : L2.Loc X.env.scope x
  f : X.fn x = true ∨ X.env.scope.names.lookup x = some .local
section
variable {X : Cx} {G : Gx} {T : Pg} {k : Nat} {N : List Str} {sc : Scope} {F : Str → Bool} {x : Str} {i : Nat}
theorem visB_ok (h : visB sc x = true) : Vis sc x := by
  unfold visB at h; unfold Vis
  split at h <;> simp_all
theorem locB_ok (h : locB sc x = true) : L2.Loc sc x := by
  unfold locB at h; unfold L2.Loc
  split at h <;> simp_all
theorem lclB_ok (h : lclB sc x = true) : sc.names.lookup x = some .local := by
  unfold lclB at h
  split at h <;> simp_all
theorem glB_ok (h : glB sc x = true) : sc.names.lookup x = some .globalImplicit := by
  unfold glB at h
  split at h <;> simp_all
theorem sameB_ok {a : Option Str} {b : Str} (h : sameB a b = true) : a = some b := by
  unfold sameB at h
  split at h
  · simp_all
  · cases h
theorem Sc.var (S : Sc X N sc F) (i : Nat) (x : Str) (h : (sameB N[i]? x && visB sc x && !(x == ("__debug__" : Str)) && !(x == ("__classdict__" : Str))) = true) : VarOk X i x := by
  simp only [Bool.and_eq_true, Bool.not_eq_true'] at h
  obtain ⟨⟨⟨h1, h2⟩, h3⟩, h4⟩ := h
  exact ⟨by rw [S.en]; exact sameB_ok h1, by rw [S.sc]; exact visB_ok h2, h3, h4⟩
theorem Sc.tgt (S : Sc X N sc F) (i : Nat) (x : Str) (h : (sameB N[i]? x && locB sc x && (F x || lclB sc x)) = true) : TgtOk X i x := by
  simp only [Bool.and_eq_true, Bool.or_eq_true] at h
  obtain ⟨⟨h1, h2⟩, h3⟩ := h
  refine ⟨by rw [S.en]; exact S.nd, by rw [S.en]; exact sameB_ok h1, by rw [S.sc]; exact locB_ok h2, ?_⟩
  rcases h3 with z | z
  · exact .inl (by rw [S.fn]; exact z)
  · exact .inr (by rw [S.sc]; exact lclB_ok z)
theorem Sc.gl (S : Sc X N sc F) (x : Str) (h : glB sc x = true) : Gl X x := by
  show X.env.scope.names.lookup x = _
  rw [S.sc]; exact glB_ok h
theorem Sc.lcl (S : Sc X N sc F) (x : Str) (h : lclB sc x = true) : X.env.scope.names.lookup x = some .local := by
  rw [S.sc]; exact lclB_ok h
theorem XOk.blk (O : XOk X G T k) {s : Shared} {H : Hp} {scope : Scope} {cenv : Env} {fp : List Addr} : XOk (X.blk s H scope cenv fp) G.quiet T k where
  gu := O.gu
  calm := O.calm
  rm := O.rm
  mkr := O.mkr
  hx := fun pins σ H s e s' I c => by
    obtain ⟨a, B, H', cls, d, h1, h2, h3, h4, h5, h6, h7, z⟩ := c
    exact z.elim
  po := PassesOwn.never
  defs := O.defs
  free := O.free
  cls := O.cls
  vals := fun p hp => by
    obtain ⟨v, u, h1, h2, h3⟩ := O.vals p hp
    exact ⟨v, u, h1, h2, fun g H o => h3 g H ⟨o.K, o.gA⟩⟩
theorem Sc.blk (S : Sc X N sc F) {s : Shared} {H : Hp} {scope : Scope} {C : Addr} {cl : List (Str × Addr)} {fp : List Addr} : Sc (X.blk s H scope (compEnvC scope cl C X.env) fp) N (relS scope sc) (fun x => scope.names.lookup x == some .cell) where
  en := S.en
  sc := by rw [← S.sc]; rfl
  fn := rfl
  nd := S.nd
theorem XOk.un (O : XOk X G T k) : X.A.units + 64 < cLine := by have := O.rm.un; omega
/-- a call of a def without defaults -/
theorem XOk.call (O : XOk X G T k) (i : Nat) {d : FD} (hd : T.defs[i]? = some d) (n : Nat) (ks : List Str) (src : List Src) (hl : src.length = d.ps.length)
    (hb : ∀ (kV doc pm : Value) (an : Option Addr) (cdv ct : Value) (us ws zs : List Value), us.length = n → ws.length = ks.length → arrange us ws [] src = some zs →
      bindArgs (PySem.W.fnOf d.nm d.qn (defArgs d.st) (defBody d.st) (defScope d.st) .none kV doc pm an cdv ct) ⟨us, ks.zip ws⟩ = pure (d.ps.zip zs)) (hme : d.me = none := by rfl) : CallOk X G d.gn i n ks src [] := by
  obtain ⟨f, fd, hm, F, FG⟩ := O.defs i d hd
  have hm := hm.glo hme
  refine ⟨k, f, fd, d.ps, [], [], hm, F.kp, O.rm, FG, .nil, (fun g H o => rfl), hl, fun s us ws zs X1 l1 l2 ar => ?_⟩
  obtain ⟨oc, od, dV, kV, doc, pm, an, cdv, ct, osl, rfl, lk, hcd, hD, hK⟩ := F.ex
  rcases hD with ⟨_, rfl⟩ | ⟨e, _⟩
  · exact .of_eq (hb kV doc pm an cdv ct us ws zs l1 l2 ar)
  · exact absurd rfl e
end
/-! ### all defs -/
structure TxtOk (K : PySem.W.Frag) (mg : Str → Option Value) (gA : Nat → Option Addr) (T : Pg) : Prop where
  defs : ∀ (i : Nat) (d : FD), T.defs[i]? = some d → ∃ f fd, AtF K mg d f ∧ FunD K d.nm d.qn (defArgs d.st) (defBody d.st) (defScope d.st) [] [] f fd
  cls : ClsAt K mg gA T
  free : ∀ x, T.free.elem x = true → mg x = none
  vals : ∀ p, p ∈ T.vals → ∃ v u, mg p.1 = some u ∧ RelV v u ∧ ∀ (g : Gh) (H : Hp), g.K = K → g.gA = gA → RelS g H p.2 v
/-- a def's body is what it is said to be -/
structure BodyOk (T : Pg) (d : FD) : Prop where
  sc : FnScope d.N d.ps (defScope d.st)
  run : ∀ (X : Cx) (G : Gx) (g0 : Gh) (H0 : Hp) (k : Nat), XOk X G T k → Sc X d.N (defScope d.st) (fun _ => true) → PSs X (defBody d.st) (tS X G g0 H0 d.sem)
theorem start_rel {g : Gh} {H : Hp} : ∀ {ds : List D} {vs : List V} {n : Nat}, RelsS g H ds vs → ∀ (i : Nat) (s : Sl), (startE n ds)[i]? = some s → SlRel g (fun _ => none) (vs.map some ++ List.replicate (n - ds.length) none) H i s := by
  intro ds vs n q i s e
  unfold startE at e
  by_cases hi : i < ds.length
  · rw [List.getElem?_append_left (by simpa using hi), List.getElem?_map] at e
    cases ed : ds[i]? with
    | none => rw [ed] at e; cases e
    | some d =>
      rw [ed] at e
      cases e
      obtain ⟨v, h1, h2⟩ := RelsS.get q ed
      exact ⟨v, by rw [List.getElem?_append_left (by rw [List.length_map, ← q.len]; exact hi), List.getElem?_map, h1]; rfl, h2⟩
  · rw [List.getElem?_append_right (by simpa using hi), List.getElem?_replicate] at e
    split at e
    · cases e; trivial
    · cases e
section
variable {P : Program} {w : World} {K : PySem.W.Frag} {mg : Str → Option Value} {base : Heap} {gA : Nat → Option Addr} {T : Pg}
theorem all_fn (TO : TxtOk K mg gA T) (B : ∀ (i : Nat) (d : FD), T.defs[i]? = some d → BodyOk T d) : ∀ (k i : Nat) (d : FD), T.defs[i]? = some d →
    ∀ f fd, AtF K mg d f → FunD K d.nm d.qn (defArgs d.st) (defBody d.st) (defScope d.st) [] [] f fd → FnG P w K mg base k f fd d.ps (spF P w K gA d.ps.length (fnsOf T.defs k i))
  | 0, i, d, hd => by
    intro f fd h1 h2
    refine ⟨fun _ _ _ _ q => spF_len q, fun _ _ _ _ _ _ _ _ _ _ _ _ _ _ q => ?_⟩
    obtain ⟨g, h, ds, _, _, _, _, _, z⟩ := q
    exact z.elim
  | k + 1, i, d, hd => by
    have ih := all_fn TO B k
    intro f fd h1 h2
    obtain ⟨oc, od, dV, kV, doc, pm, an, cdv, ct, osl, rfl, lk, hcd, _, _⟩ := h2.ex
    refine FnG.of lk hcd (B i d hd).sc (fun _ _ _ _ q => spF_len q) fun A out s H vs Q E gu rm q => ?_
    obtain ⟨g, h, ds, gK, ggA, r, rel, len, post⟩ := q
    let G : Gx := ⟨gA, fnsOf T.defs k, E⟩
    have O : XOk (cxOf (L2.CX P w) P w K mg base d.N d.qn (defScope d.st) f cdv A out s H E) G T k :=
      { gu := gu, calm := rfl, rm := rm.deeper _, mkr := fun C us kw => deepMk rm _ C us kw, hx := passes_call (takes_of rfl rfl rfl rfl) (fun _ _ _ _ z => z), po := passes_of (K := fun e s'' => L2.CX P w out H s E e s'') rfl, defs := fun j e he => (let ⟨f, fd, z1, z2⟩ := TO.defs j e he; ⟨f, fd, z1, z2, ih j e he f fd z1 z2⟩), cls := TO.cls, free := TO.free,
        vals := fun p hp => by
          obtain ⟨v, u, z1, z2, z3⟩ := TO.vals p hp
          exact ⟨v, u, z1, z2, fun g H o => z3 g H o.K o.gA⟩ }
    refine ⟨_, (B i d hd).run _ G g H k O ⟨rfl, rfl, rfl, (B i d hd).sc.nd⟩, g, fun _ => none, startE d.N.length ds, h, ⟨gK, ggA⟩, r, ⟨?_, (fun _ _ _ z => by cases z), (fun _ _ z => by cases z), ?_⟩, ⟨Ext.refl r, fun _ _ z => by cases z⟩, ?_⟩
    · show (ds.map Sl.val ++ List.replicate _ Sl.no).length = (vs.map some ++ List.replicate _ none).length
      simp [rel.len]
    · intro j sl e
      show SlRel g _ (vs.map some ++ List.replicate (d.N.length - vs.length) none) H j sl
      rw [← rel.len]
      exact start_rel rel j sl e
    · have post : PostE P w E g H ((d.sem (fnsOf T.defs k) (startE d.N.length ds) h).bind endF) fun g' H' d x => ∀ (v : V), RelS g' H' d v → Q v H' := by
        have e : fnsOf T.defs (k + 1) i ds h = bodyF d.N.length d.sem (fnsOf T.defs k) ds h := by
          show (match T.defs[i]? with
            | some d => bodyF d.N.length d.sem (fnsOf T.defs k) ds h
            | none => .bad) = _
          rw [hd]
        rw [e] at post
        exact post
      show PostS _ G g H g H (d.sem (fnsOf T.defs k) (startE d.N.length ds) h) _
      revert post
      cases d.sem (fnsOf T.defs k) (startE d.N.length ds) h with
      | bad => exact fun z => z
      | exc e h' => exact fun z => z
      | ok x h' =>
        obtain ⟨fl, env'⟩ := x
        cases fl with
        | nx => exact fun post g' own' H' σ' _ r' _ n' _ => post g' H' n'.ext r' _ rfl
        | rt d' => exact fun post g' own' H' σ' _ r' _ n' _ v qv => post g' H' n'.ext r' v qv
        | bk => exact fun z => z.elim
        | ct => exact fun z => z.elim
end
end EV
/-! EV16: a law's end -/
namespace EV
open PySem L2
open PySem.Spec PyProof.Rows
/-- the heap that the script is taken out of, as a base -/
structure Bas (P : Program) (w : World) (K : PySem.W.Frag) (mg : Str → Option Value) (s : Shared) (H : Hp) (a : Addr) (ns : List Int) : Prop where
  e0 : ∃ base, Env0 P w K mg base callerA [] s H
  fz : (∃ o, H a = some (.frz o (.lst (ns.map V.int)))) ∨ SqK K a (ns.map V.int)
  on : ∀ b u, H b = some u → b = a ∧ ∃ o, u = .frz o (.lst (ns.map V.int))
theorem bas_of {P : Program} {w : World} {K : PySem.W.Frag} {mg mb : Str → Option Value} {a : Addr} {s : Shared} {vs : List Value} {ns : List Int}
    (KX : K.In s.heap) (gl : s.heap.Ns mainGlobals mg) (bl : s.heap.Ns builtinsNs mb) (bb : ∀ x : Str, x ≠ "__name__" → mb x = bootBuiltins x) (nl : s.heap.NoLimit) (gn : s.gens = #[])
    (oa : s.heap.get? a = some { cls := .type "list", data := .seq vs.toArray }) (iv : IntsAre vs ns) (sm : ns.length ≤ sizeLine) : ∃ H, Bas P w K mg s H a ns := by
  have rv : Vals (ns.map V.int) vs := vals_ints iv
  -- whatever is tracked is the script alone
  have build : ∀ H : Hp, (∀ b u, H b = some u → b = a ∧ u = .frz { cls := .type "list", data := .seq vs.toArray } (.lst (ns.map V.int))) → (H a ≠ none → K.lookup a = none) →
      ∃ base, Env0 P w K mg base callerA [] s H := by
    intro H on ka
    have sees : ∀ {b : Addr} {o : Obj}, s.heap.get? b = some o → (b = a → H a = none) → (hidT s.heap H).get? b = some o := fun {b o} e n => by
      refine hidT_get e ?_
      cases q : H b with
      | none => rfl
      | some u =>
        have z := (on b u q).1
        rw [z, n z] at q
        cases q
    have space : ∀ {b : Addr} {m : Str → Option Value}, s.heap.Ns b m → (hidT s.heap H).Ns b m := fun {b m} z => by
      obtain ⟨o, es, ep, h1, h2, h3⟩ := z
      refine ⟨o, es, ep, sees h1 fun e => ?_, h2, h3⟩
      rw [e, oa] at h1
      cases h1
      cases (show Data.seq vs.toArray _ = Data.dict es ep from h2)
    refine ⟨hidT s.heap H, rfl, ⟨fun b o e => sees (KX b o e) fun z => ?_, space gl, ⟨mb, space bl, bb⟩, ?_⟩, (fun b o e => of_hidT e), Nat.le_of_eq (hidT_size _ _), trivial, (fun b z => by cases z), fun b u z => ?_, .of_eq gn⟩
    · cases q : H a with
      | none => rfl
      | some u =>
        have q2 := ka (by rw [q]; simp)
        rw [z, q2] at e
        cases e
    · obtain ⟨mc, h1, h2⟩ := nl
      exact ⟨mc, space h1, h2⟩
    · obtain ⟨e1, e2⟩ := on b u z
      rw [e1, e2]
      exact ⟨oa, by rw [List.length_map]; exact sm, vs, _, rv, oa⟩
  cases kq : K.lookup a with
  | some o =>
    have oe := KX a o kq
    rw [oa] at oe
    cases oe
    refine ⟨fun _ => none, build _ (fun b u z => by cases z) fun z => absurd rfl z, .inr ⟨_, vs.toArray, _, kq, rfl, rfl, rfl, ?_, by simpa using rv⟩, fun b u z => by cases z⟩
    rw [List.size_toArray, iv.length]; exact sm
  | none =>
    have on : ∀ b u, (fun b => if b = a then some (HO.frz { cls := .type "list", data := .seq vs.toArray } (.lst (ns.map V.int))) else none) b = some u → b = a ∧ u = .frz { cls := .type "list", data := .seq vs.toArray } (.lst (ns.map V.int)) := fun b u z => by
      by_cases q : b = a
      · exact ⟨q, (Option.some.inj ((if_pos q).symm.trans z)).symm⟩
      · cases (if_neg q).symm.trans z
    exact ⟨_, build _ on fun _ => kq, .inl ⟨_, if_pos rfl⟩, fun b u z => ⟨(on b u z).1, _, (on b u z).2⟩⟩
/-- the law's call, from what the evaluation gives -/
theorem law_run {P : Program} {w : World} {K : PySem.W.Frag} {mg mb : Str → Option Value} {gA : Nat → Option Addr} {k : Nat} {fa a : Addr} {fd : FuncData} {x : Str} {F : List D → Cells → R D} {s : Shared} {vs : List Value} {ns : List Int}
    (KX : K.In s.heap) (gl : s.heap.Ns mainGlobals mg) (bl : s.heap.Ns builtinsNs mb) (bb : ∀ x : Str, x ≠ "__name__" → mb x = bootBuiltins x) (nl : s.heap.NoLimit) (gn : s.gens = #[])
    (oa : s.heap.get? a = some { cls := .type "list", data := .seq vs.toArray }) (iv : IntsAre vs ns) (sm : ns.length ≤ sizeLine) (rm : Room k callerA)
    (FG : ∀ base : Heap, FnG P w K mg base k fa fd [x] (spF P w K gA 1 F)) (hb : ∀ (s : Shared) (u : Value), BindsTo s fd ⟨[u], []⟩ [(x, u)])
    (hF : ∃ h, F [.frz (ns.map D.int)] [] = .ok (.bl true) h) :
    codeAny (model P w) callerA (.call (.ref fa) ⟨[.ref a], []⟩) (fun r s' => r = .ok (.ret (.bool true)) ∧ OldK s.heap s'.heap ∧ s'.os = s.os ∧ AllBare s'.gens) s := by
  obtain ⟨H, ⟨base, e0⟩, fz, on⟩ := bas_of (P := P) (w := w) KX gl bl bb nl gn oa iv sm
  obtain ⟨hc, hF⟩ := hF
  let g : Gh := ⟨K, gA, fun _ => False, []⟩
  have r0 : HRel P w g H [] := ⟨rfl, List.nodup_nil, (fun b z => by cases z), (fun _ _ z => z.elim), fun n b c z => by cases z⟩
  have nsR : ∀ ns : List Int, RelsS g H (ns.map D.int) (ns.map V.int) := fun ns => by
    induction ns with
    | nil => rfl
    | cons n ns ih => exact ⟨_, _, rfl, rfl, ih⟩
  have sp : spF P w K gA 1 F [.ref a] H (fun v _ => v = .bl true) (fun _ _ _ => False) :=
    ⟨g, [], [.frz (ns.map D.int)], rfl, rfl, r0, ⟨_, _, rfl, ⟨a, _, rfl, fz, nsR ns⟩, rfl⟩, rfl, by rw [hF]; exact fun _ _ _ _ v z => z⟩
  refine codeAny_mono ((FG base).run callerA [] s H ⟨[.ref a], []⟩ [.ref a] [.ref a] _ _ rfl rm e0 (hb s (.ref a)) (.cons rfl .nil) sp) fun res s' z => ?_
  cases res with
  | error e =>
    obtain ⟨_, _, _, _, _, _, _, _, _, _, _, _, n⟩ := (show L2.CX P w [] H s (fun _ _ _ => False) e s' from z)
    exact n.elim
  | ok fl => cases fl with
    | ret u =>
      obtain ⟨v, H', os, bare, un, hok, ru, q⟩ := z
      cases (show v = .bl true from q)
      cases (show u = Value.bool true from ru)
      refine ⟨rfl, .of_keep fun b o e => ?_, os, bare⟩
      cases q : H b with
      | none => exact un.keep b o e q (fun z => by cases z) (by simp)
      | some u =>
        obtain ⟨_, ⟨oz, z⟩⟩ := on b u q
        rw [z] at q
        have k1 := (e0.hok b _ q).1
        rw [e] at k1
        cases k1
        exact (hok b _ (un.frzs b _ _ q)).1
    | _ => exact False.elim z
/-- the end that a head leaves -/
theorem walk_fn {l : PySem.W.OpenLaw} {n k : Nat} {q : Program} {loose : List Str} {XP : (Str → Option Value) → Heap → Prop} {YP : World → Heap → Prop} {d : DefRec} {x : Str}
    (hn : l.most = some n) (hz : n ≤ sizeLine) (nodef : d.params.defaults = []) (rm : Room k callerA)
    (W : ∀ (w : World) (mg : Str → Option Value) (fa : Addr) (h : Heap), YP w h → h.Ns mainGlobals mg → mg d.name = some (.ref fa) →
      ∃ (K : PySem.W.Frag) (fd : FuncData) (gA : Nat → Option Addr) (F : List D → Cells → R D), K.In h ∧ (∀ (s : Shared) (u : Value), BindsTo s fd ⟨[u], []⟩ [(x, u)]) ∧ (∀ base : Heap, FnG l.prog w K mg base k fa fd [x] (spF l.prog w K gA 1 F)) ∧
        ∀ ns : List Int, ns.length ≤ n → ∃ h, F [.frz (ns.map D.int)] [] = .ok (.bl true) h) :
    PySem.W.WalkO q loose XP YP l.row.toRowW d [] (fun f vs => PySem.call f vs) := by
  refine Att.attach_call hn nodef fun w s₀ s mg mb fa o pm cd doc a vs ns G Y _ _ _ hmg oa iv hl gn => ?_
  obtain ⟨K, fd, gA, F, KX, hb, FG, hF⟩ := W w mg fa _ Y G.T.g hmg
  exact law_run KX G.T.g G.T.b G.T.builtins G.T.nolimit gn oa iv (Nat.le_trans hl hz) rm FG hb (hF ns hl)
end EV
/-! EV17: x[::-1], three names at once -/
namespace EV
open PySem L2 PySem.Spec PyProof.Rows
theorem rev_pick (xs : Array Value) : ((List.range xs.size).filterMap fun (m : Nat) => xs[((xs.size : Int) - 1 + (m : Int) * (-1)).toNat]?).toArray = xs.toList.reverse.toArray := by
  rw [← PySem.W.krv_pick]
  unfold slicePick
  rw [PySem.W.krv_bounds]
  show _ = ((sliceRange ((xs.size : Int) - 1) (-1) (-1)).filterMap (xs[·]?)).toArray
  rw [PySem.W.krv_sliceRange, List.filterMap_map]
  have go : ∀ l : List Nat, (∀ m ∈ l, m < xs.size) → (l.filterMap fun (m : Nat) => xs[((xs.size : Int) - 1 + (m : Int) * (-1)).toNat]?) = l.filterMap ((xs[·]?) ∘ fun k => xs.size - 1 - k) := by
    intro l
    induction l with
    | nil => intro _; rfl
    | cons m l ih =>
      intro hm
      have hm0 := hm m (List.mem_cons_self ..)
      have e : ((xs.size : Int) - 1 + (m : Int) * (-1)).toNat = xs.size - 1 - m := by omega
      rw [List.filterMap_cons, List.filterMap_cons, ih fun k hk => hm k (List.mem_cons_of_mem _ hk), e]
      rfl
  rw [go _ fun m hm => List.mem_range.mp hm]
theorem rev_places (n : Nat) : Builtin.Slice.slicePlaces ((n : Int) - 1) (-1) (-1) = n := by
  unfold Builtin.Slice.slicePlaces
  rw [if_neg (by decide)]
  have e : ((n : Int) - 1 - -1 - 1) / (- -1) + 1 = n := by
    rw [show (- -1 : Int) = 1 by decide, Int.ediv_one]; omega
  split
  · rw [e]; omega
  · omega
section
variable {prog : Program} {w : World} {A : Around} {E : Value → Shared → Prop} {s : Shared}
theorem rev_applied {sl : Addr} {vs : Value} {n : Nat} {Q : Int × Int × Nat → Shared → Prop} (hs : s.heap.IsSliceOf sl .none .none vs) (ps : IsPart vs (some (-1)))
    (h : Q ((n : Int) - 1, -1, n) s) : wpAny (model prog w) A (Builtin.Slice.sliceApplied (.ref sl) (pure (n : Int))) Q E s := by
  obtain ⟨os, h1, h2, h3⟩ := hs
  unfold Builtin.Slice.sliceApplied Builtin.Slice.sliceFields
  refine wpAny_bind (wpAny_bind (wpAny_field h1 h3 (x := .none) rfl (wpAny_bind (wpAny_field h1 h3 (x := .none) rfl (wpAny_bind (wpAny_field h1 h3 (x := vs) rfl (wpAny_pure ?_)))))))
  refine wpAny_bind (HT.slicePart_ ps ?_)
  show wpAny _ _ (if ((-1 : Int) == 0) = true then _ else _) _ _ s
  rw [if_neg (by decide)]
  refine wpAny_bind (HT.slicePart_ .none (wpAny_bind (HT.slicePart_ .none (wpAny_bind (wpAny_pure ?_)))))
  show wpAny _ _ (pure ((n : Int) - 1, (-1 : Int), Builtin.Slice.slicePlaces ((n : Int) - 1) (-1) (-1))) _ _ s
  rw [rev_places]
  exact wpAny_pure h
theorem get_rev {t sl : Addr} {items : Array Value} {vs : Value} {Q : Value → Shared → Prop} (ht : IsTup s.heap t items) (hs : s.heap.IsSliceOf sl .none .none vs) (ps : IsPart vs (some (-1)))
    (h : Q (.ref s.heap.objs.size) { s with heap := s.heap.push { cls := .type "tuple", data := .seq items.toList.reverse.toArray } }) (sz : items.size ≤ sizeLine) : wpAny (model prog w) A (getItem (.ref t) (.ref sl)) Q E s := by
  have fits : sizeOk (.seq items.toList.reverse.toArray) := by
    show items.toList.reverse.toArray.size ≤ sizeLine
    rw [List.size_toArray, List.length_reverse, Array.length_toList]; exact sz
  obtain ⟨os, ho, hc, hd⟩ := id hs
  have isS : s.TypeIs (.ref sl) "slice" := ⟨os, ho, hc⟩
  unfold getItem
  try with_reducible refine wpAny_holding ?_
  first | refine wpAny_bind (wpAny_pure ?_) | skip
  refine wpAny_bind (wpAny_sequenceKey ht.typeIs (by decide) ?_)
  refine wpAny_bind (wpAny_callSpecial?_slot (name := Str.ofString "__getitem__") ht.typeIs PyProof.Rows.slot_tuple_getitem (wpAny_call_entry PyProof.Rows.slot_tuple_getitem ht.typeIs entry_tuple_getitem ?_ (args_tuple_getitem _ _)))
  show wpAny _ _ (Builtin.Tuple.tupleItemsOf (.ref t) >>= _) _ _ s
  refine wpAny_bind (tupleItemsOf_ ht (wpAny_bind (wpAny_typeOf isS ?_)))
  rw [if_pos (by decide)]
  refine wpAny_bind (rev_applied hs ps ?_)
  show wpAny _ _ (if (((items.size : Int) - 1) == 0 && (-1 : Int) == 1 && items.size == items.size) = true then _ else _) _ _ s
  rw [if_neg (by rw [show ((-1 : Int) == 1) = false by decide, Bool.and_false, Bool.false_and]; exact Bool.false_ne_true), rev_pick]
  first
    | exact wpAny_bind (m := Builtin.Tuple.tupleExact _) (wpAny_newObj_type (wpAny_pure ⟨_, rfl, wpAny_pure h⟩) fits)
    | exact wpAny_bind (m := Builtin.Tuple.tupleExact _) (wpAny_newObj_type (wpAny_bind (wpAny_pure (wpAny_pure ⟨_, rfl, wpAny_pure h⟩))) fits)
    | exact wpAny_bind (wpAny_bind (m := Builtin.Tuple.tupleExact _) (wpAny_newObj_type (wpAny_pure (wpAny_pure ⟨_, rfl, wpAny_pure h⟩)) fits))
    | exact wpAny_bind (wpAny_bind (m := Builtin.Tuple.tupleExact _) (wpAny_newObj_type (wpAny_pure ⟨_, rfl, wpAny_pure h⟩) fits))
end
structure TgtN (X : Cx) (i : Nat) (x : Str) : Prop where
  nd : X.N.Nodup
  n : X.N[i]? = some x
  l : X.env.scope.names.lookup x = some .local
section
variable {X : Cx} {G : Gx} {g g' g0 : Gh} {H H' H0 : Hp} {h h' : Cells} {own : Nat → Option Addr} {env : Ev} {σ : L2.St} {e : Expr} {de : DE}
def tRevT (K : PySem.W.Frag) (te : TE) : TE := fun σ H Q => te σ H fun x H1 => ∃ a xs, x = .ref a ∧ SqT K H1 a xs ∧ ∀ p, H1 p = none → Q (.ref p) (upd H1 p (.tup xs.reverse))
theorem pe_revT {te : TE} {k : Nat} {p1 p2 p3 pos : Pos} (he : PE X e te) : PE X (.Subscript e (.Slice none none (some (.UnaryOp .USub (.Constant (.int 1) k p1) p2)) p3) pos) (tRevT X.K te) := by
  refine ⟨fun pins s σ H Q I h => Subscript_ (thn (he.run pins s σ H _ I h) fun v s1 ⟨x, H1, I1, r1, a, xs, ex, hx, q⟩ => ?_)⟩
  subst ex
  cases r1
  have step : PO X (some (.UnaryOp .USub (.Constant (.int 1) k p1) p2)) (tPart (tUn (rU fun i => .int (-i)) (tC (.int 1)))) := po_some (pe_un un_neg pe_int)
  refine wpAny_Slice (thn (po_none.run pins s1 σ H1 (fun o H2 => o = none ∧ H2 = H1) I1 ⟨rfl, rfl⟩) fun vl s2 ⟨l, H2, I2, pl, el, e2⟩ => ?_)
  subst el e2
  refine thn (po_none.run pins s2 σ H2 (fun o H3 => o = none ∧ H3 = H2) I2 ⟨rfl, rfl⟩) fun vu s3 ⟨u, H3, I3, pu, eu, e3⟩ => ?_
  subst eu e3
  refine thn (step.run pins s3 σ H3 (fun o H4 => o = some (-1) ∧ H4 = H3) I3 ⟨1, rfl, -1, rfl, rfl, rfl⟩) fun vs s4 ⟨o, H4, I4, ps, eo, e4⟩ => ?_
  subst eo e4
  cases pl
  cases pu
  have I5 : Inv X pins σ H4 { s4 with heap := s4.heap.push { cls := .type "slice", data := .fields #[.none, .none, vs] } } := I4.kept (t' := s4.toks) fun b ob z => Heap.get?_push_of_some _ z
  obtain ⟨its, r, ht, hz⟩ := I5.tuple hx
  have hlen := r.length
  show wpAny (model X.prog X.w) X.A (subscriptTail e (.Slice none none (some (.UnaryOp .USub (.Constant (.int 1) k p1) p2)) p3) (.ref a) (.ref s4.heap.objs.size)) (EP X pins σ Q) X.xe { s4 with heap := s4.heap.push { cls := .type "slice", data := .fields #[.none, .none, vs] } }
  refine tail_any (ops := [.ref a, .ref s4.heap.objs.size]) ht.typeIs (PyProof.Rows.slot_tuple_getitem.lookup) ?_ (by with_unfolding_all rfl)
  refine get_rev ht (Heap.IsSliceOf.new _ .none .none vs) ps ?_ (by rw [List.size_toArray]; omega)
  refine ⟨.ref _, _, I5.laid (t' := s4.toks) (o := .tup xs.reverse) (fun b ob z => Heap.get?_push_of_some _ z) (Nat.le_refl _) ?_, rfl, q _ (I5.hok.fresh (Nat.le_refl _))⟩
  exact ⟨by rw [List.length_reverse]; exact hz, _, r.reverse, IsTup.new _ _⟩
def dRevL (h : Cells) (d : D) : R D := match d with
  | .tup ds => .ok (.tup ds.reverse) h
  | d => match seqL h d with
    | some ds => .ok (.lst ds.reverse) h
    | none => .bad
def dRev (a : DE) : DE := fun fn env h => (a fn env h).bind fun d h1 => dRevL h1 d
theorem RelsS.rev {g : Gh} {H : Hp} : ∀ {ds : List D} {xs : List V}, RelsS g H ds xs → RelsS g H ds.reverse xs.reverse
  | [], _, q => by cases (show _ = [] from q); rfl
  | d :: ds, _, q => by
    obtain ⟨x, r, rfl, h1, h2⟩ := q
    rw [List.reverse_cons, List.reverse_cons]
    exact (RelsS.rev h2).snoc h1
theorem s_rev {k : Nat} {p1 p2 p3 pos : Pos} (he : PE X e (tD X G de)) : PE X (.Subscript e (.Slice none none (some (.UnaryOp .USub (.Constant (.int 1) k p1) p2)) p3) pos) (tD X G (dRev de)) := by
  refine ⟨fun pins s σ H Q I hq => ?_⟩
  obtain ⟨g, own, env, h, o, r, l, p⟩ := hq
  unfold dRev at p
  cases ed : de G.fns env h with
  | bad => rw [ed] at p; exact (show False from p).elim
  | exc z h1 =>
    rw [ed] at p
    exact (pe_revL he).run pins s σ H Q I ⟨g, own, env, h, o, r, l, by rw [ed]; exact p⟩
  | ok d h1 =>
    rw [ed] at p
    have p : Post X G g H (dRevL h1 d) fun g' H' d x => ∀ (v : V), RelT g' H' d v → Q v H' := p
    by_cases hd : ∃ ds, d = .tup ds
    · obtain ⟨ds, rfl⟩ := hd
      have p : Post X G g H (R.ok (D.tup ds.reverse) h1) fun g' H' d x => ∀ (v : V), RelT g' H' d v → Q v H' := p
      refine (pe_revT he).run pins s σ H Q I ⟨g, own, env, h, o, r, l, ?_⟩
      rw [ed]
      intro g1 H1 e1 r1 v qv
      obtain ⟨a, xs, rfl, z1, z2⟩ := tup_ok (o.ext e1) qv
      exact ⟨a, xs, rfl, z1, Post.newT (K := fun _ _ _ _ => True) r1 z2.rev (Post.mono p e1)⟩
    · refine (pe_revL he).run pins s σ H Q I ⟨g, own, env, h, o, r, l, ?_⟩
      rw [ed]
      intro g1 H1 e1 r1 v qv
      unfold dRevL at p
      split at p
      · exact (hd ⟨_, rfl⟩).elim
      · split at p
        · rename_i ds es
          obtain ⟨a, xs, rfl, z1, z2⟩ := seqL_ok (o.ext e1) r1 qv es
          exact ⟨a, xs, rfl, z1, Post.newL r1 z2.rev (Post.mono p e1)⟩
        · exact p.elim
/-! ### three names at once -/
def sPar3 (i j k : Nat) (a b c : DM) : DS := fun fn env h => (a fn env h).bind fun x h1 => (b fn env h1).bind fun y h2 => (c fn env h2).bind fun z h3 => match putIt i x env with
  | some env1 => match putIt j y env1 with
    | some env2 => match putIt k z env2 with
      | some env3 => .ok (.nx, env3) h3
      | none => .bad
    | none => .bad
  | none => .bad
/-- two items are not the same list -/
theorem it_apart {Hs : Hp} {g2 : Gh} {H2 : Hp} {x y : It'} {v w : V} {p : Addr} {own : Nat → Option Addr} {i j : Nat} (qv : IRel Hs g H x v) (qw : IRel H g2 H2 y w) (k1 : ∀ p, (∃ ds, y = .o ds) → w = .ref p → ∀ j, own j ≠ some p) :
    ∀ p, (∃ ds, y = .o ds) → w = .ref p → ∀ j, ownIt i x v own j ≠ some p := fun p hp ev j' hj' => by
  unfold ownIt at hj'
  split at hj'
  · cases x with
    | v d => cases hj'
    | o ds =>
      obtain ⟨p', xs, rfl, z2, z3, z4, z5, z6⟩ := qv
      cases hj'
      obtain ⟨ds2, e2'⟩ := hp
      subst e2'
      obtain ⟨p2, xs2, ew, y2, y3, y4, y5, y6⟩ := qw
      rw [ev] at ew
      cases ew
      rw [z2] at y6; cases y6
  · exact k1 p hp ev j' hj'
theorem IRel.base {Hs : Hp} {g1 : Gh} {H1 : Hp} {h1 : Cells} {y : It'} {w : V} (r : HRel X.prog X.w g H h) (e : Ext g H g1 H1) (r1 : HRel X.prog X.w g1 H1 h1) (q : IRel H1 g' H' y w) : IRel H g' H' y w := by
  cases y with
  | v d => exact q
  | o ds =>
    obtain ⟨p, xs, z1, z2, z3, z4, z5, z6⟩ := q
    exact ⟨p, xs, z1, z2, z3, z4, z5, e.back r r1 z6⟩
theorem par3_of {i j k : Nat} {a b c : DM} {Dn : Ends} (q : tS X G g0 H0 (sPar3 i j k a b c) Dn σ H) : tPar3 i j k (tCons (tM X G a) (tCons (tM X G b) (tCons (tM X G c) tNil))) Dn σ H := by
  obtain ⟨g, own, env, h, o, r, l, n, q⟩ := q
  refine ⟨g, own, env, h, o, r, l, (Post.stmt r n q).imp fun g1 H1 x h1 e1 r1 q1 v qv => ?_⟩
  have n1 := n.step e1
  have l1 := l.step r e1
  refine ⟨g1, own, env, h1, o.ext e1, r1, l1, (Post.stmt r1 n1 q1).imp fun g2 H2 y h2 e2 r2 q2 w qw => ?_⟩
  have n2 := n1.step e2
  have l2 := l1.step r1 e2
  refine ⟨g2, own, env, h2, (o.ext e1).ext e2, r2, l2, (Post.stmt r2 n2 q2).imp fun g3 H3 z h3 e3 r3 q3 u qu => ?_⟩
  have n3 := n2.step e3
  have l3 := l2.step r2 e3
  have qv3 := IRel.ext r1 (e2.trans e3) qv
  have qw3 := IRel.ext r2 e3 qw
  obtain ⟨f1, f2⟩ := par_step (env' := env) r n l l3 qv3
  obtain ⟨k1, k2⟩ := par_step (env' := env) r1 n1 l1 l3 qw3
  obtain ⟨m1, m2⟩ := par_step (env' := env) r2 n2 l2 l3 qu
  refine ⟨v, w, u, rfl, ?_⟩
  split at q3
  · rename_i env1 p1
    split at q3
    · rename_i env2 p2
      split at q3
      · rename_i env3 p3
        have la := putIt_ok l3 qv3 f1 p1
        have lb := putIt_ok la qw3 (it_apart (i := i) (j := i) (p := 0) qv qw k1) p2
        have lc := putIt_ok lb qu (it_apart (i := j) (j := j) (p := 0) qw qu (it_apart (i := i) (j := i) (p := 0) (IRel.ext r1 e2 qv) qu m1)) p3
        exact q3 g3 _ H3 _ (((o.ext e1).ext e2).ext e3) r3 lc ⟨n3.ext, ownIt_new (ownIt_new (ownIt_new n3.new f2) k2) m2⟩ (ExtS.refl _ _)
      · exact q3.elim
    · exact q3.elim
  · exact q3.elim
theorem s_par3 {i j m : Nat} {x y z : Str} {a b c : Expr} {da db dc : DM} {px py pz pt pos : Pos} {kt k2 pt2} (hc : X.calm = true) (ti : TgtN X i x) (tj : TgtN X j y) (tm : TgtN X m z) (hij : i ≠ j) (him : i ≠ m) (hjm : j ≠ m)
    (ha : PE X a (tM X G da)) (hb : PE X b (tM X G db)) (hd : PE X c (tM X G dc)) (sa : isStar a = false) (sb : isStar b = false) (sc : isStar c = false)
    (hw : swappedStores [.Tuple [.Name x px, .Name y py, .Name z pz] kt pt] (.Tuple [a, b, c] k2 pt2) X.env = pure (some [x, y, z])) :
    PS X (.Assign [.Tuple [.Name x px, .Name y py, .Name z pz] kt pt] (.Tuple [a, b, c] k2 pt2) pos) (tS X G g0 H0 (sPar3 i j m da db dc)) :=
  PS.imp (ps_par3 hc ti.nd ti.n tj.n tm.n hij him hjm ti.l tj.l tm.l (pa_cons ha (pa_cons hb (pa_cons hd pa_nil (star_cons sc)) (star_cons sb)) (star_cons sa)) hw rfl) fun _ _ _ q => par3_of q
end
end EV
/-! EV18: the rules as a printer writes them -/
namespace EV
open PySem L2
def dtB (a : DE) : DT := fun fn env h => asB (a fn env h)
def sFrzA (is : List Nat) (a : DS) : DS := fun fn env h => (a fn env h).bind fun x h1 => .ok (x.1, frzs is x.2) h1
structure GlOk (X : Cx) (x : Str) : Prop where
  g : Gl X x
  d : (x == ("__debug__" : Str)) = false
structure BltOk (X : Cx) (x : Str) (v : Value) : Prop where
  g : Gl X x
  m : X.mg x = none
  b : bootBuiltins x = some v
  n : x ≠ "__name__"
  d : (x == ("__debug__" : Str)) = false
section
variable {X : Cx} {G : Gx} {T : Pg} {k : Nat} {N : List Str} {sc : Scope} {F : Str → Bool} {x : Str} {i : Nat} {g g' g0 : Gh} {H H' H0 : Hp} {e a b : Expr} {es : List Expr} {da db dc de : DE} {dr dk : DA} {df di : DF} {pos pos' p p2 spos : Pos} {ta tb : DT} {st : Stmt} {ds : DS}
theorem Sc.glo (S : Sc X N sc F) (x : Str) (h : (glB sc x && !(x == ("__debug__" : Str))) = true) : GlOk X x := by
  simp only [Bool.and_eq_true, Bool.not_eq_true'] at h
  exact ⟨S.gl x h.1, h.2⟩
theorem XOk.blt (O : XOk X G T k) (S : Sc X N sc F) (x : Str) (v : Value) (hb : bootBuiltins x = some v) (h : (glB sc x && !(x == ("__debug__" : Str)) && T.free.elem x && !(x == ("__name__" : Str))) = true) : BltOk X x v := by
  simp only [Bool.and_eq_true, Bool.not_eq_true'] at h
  obtain ⟨⟨⟨h1, h2⟩, h3⟩, h4⟩ := h
  exact ⟨S.gl x h1, O.free x h3, hb, (fun z => by rw [z] at h4; simp at h4), h2⟩
theorem v_ (v : VarOk X i x) : PE X (.Name x pos) (tD X G (dVar i)) := s_var v.n v.v v.d v.c
theorem XOk.val (O : XOk X G T k) (S : GlOk X x) {d : D} (h : (x, d) ∈ T.vals) : PE X (.Name x pos) (tD X G (dC d)) := by
  obtain ⟨v, u, h1, h2, h3⟩ := O.vals _ h
  exact s_glob S.g h1 h2 S.d h3
theorem set_ (t : TgtOk X i x) (he : PE X e (tD X G de)) (hs : swapsWith e (some (.Name x pos')) pos.line X.env = pure false) : PS X (.Assign [.Name x pos'] e pos) (tS X G g0 H0 (sSet i de)) := s_set t.nd t.n t.l he hs t.f
theorem own_ (t : TgtOk X i x) (he : PE X e (tF X G df)) (hs : swapsWith e (some (.Name x pos')) pos.line X.env = pure false) : PS X (.Assign [.Name x pos'] e pos) (tS X G g0 H0 (sOwn i df)) := s_own t.nd t.n t.l he hs t.f
theorem aug_ {op : Operator} {o : O2} (t : TgtOk X i x) (ho : OpR X (inplaceOp op) (rO2 X G o)) (he : PE X e (tD X G de)) : PS X (.AugAssign (.Name x pos') op e pos) (tS X G g0 H0 (sAug i o de)) := s_aug t.nd t.n t.l he ho t.f
theorem cmpT_ {op : CmpOp} {o : O2} (ho : OpR X (compareOp op) (rO2 X G o)) (ha : PE X a (tD X G da)) (hb : PE X b (tD X G db)) (hm : behindInMarks op b = false) : PT X (.Compare a [op] [b] pos) (tT X G (dtB (dOp2 o da db))) := s_cmpT ho ha hb hm
theorem chainT_ {op op' : CmpOp} {o o' : O2} {c : Expr} (ho : OpR X (compareOp op) (rO2 X G o)) (ho' : OpR X (compareOp op') (rO2 X G o')) (ha : PE X a (tD X G da)) (hb : PE X b (tD X G db)) (hc : PE X c (tD X G dc)) (hm : lastMarks [op, op'] [b, c] = false) :
    PT X (.Compare a [op, op'] [b, c] pos) (tT X G (dtB (dChain o o' da db dc))) := s_chainT ho ho' ha hb hc hm
theorem pts0_ : PTs X [] (tT X G dtYes) := ⟨fun pins s σ H Q I ⟨g, own, env, h, o, r, l, q⟩ => pts_nil.run pins s σ H Q I (Post.now r q _ rfl)⟩
theorem call_ {n : Nat} {ks : List Str} {src : List Src} {dd : List D} {kws : List Keyword} (O : XOk X G T k) (g : GlOk X x) (C : CallOk X G x i n ks src dd) (ha : PA X es (tA X G dr)) (hk : PK X kws (tA X G dk)) (hn : kwNames kws = ks.map some) (hst : noStars es = true) (h0 : es = [] → dr = daNil) :
    PE X (.Call (.Name x p) es kws pos) (tD X G (dCall i n ks.length src dd dr dk)) := s_call C O.gu O.hx g.g g.d ha hk hn hst h0
theorem bl_ {id : String} {o : ON} (B : BltOk X x (.builtin id)) (hc : CallR X (.builtin id) (rON X G o)) (ha : PA X (e :: es) (tA X G dr)) (hs : noStars (e :: es) = true) : PE X (.Call (.Name x p) (e :: es) [] pos) (tD X G (dOpN o dr)) := s_callB hc B.g B.m B.b ha B.n B.d hs
theorem ty_ {id : String} {o : ON} (B : BltOk X x (.type id)) (hc : CallR X (.type id) (rON X G o)) (ha : PA X (e :: es) (tA X G dr)) (hs : noStars (e :: es) = true) : PE X (.Call (.Name x p) (e :: es) [] pos) (tD X G (dOpN o dr)) := s_callTy hc B.g B.m B.b ha B.n B.d hs
theorem BltOk.ty {t : Ty} (B : BltOk X x (.type t.name)) : PTyOk X x t := ⟨B.g, B.m, B.b, B.n, B.d⟩
theorem isi_ {v : Value} {t : Ty} {px : Pos} (B : BltOk X "isinstance" v) (he : PE X e (tD X G da)) (ht : PTyOk X x t) (hs : isStar e = false) : PE X (.Call (.Name "isinstance" p) [e, .Name x px] [] pos) (tD X G (dIsi da [t])) := s_isi B.g B.m he ht hs
theorem range1_ {v : Value} {tg : Expr} (B : BltOk X "range" v) (ha : PA X [b] (tA X G dr)) (hs : isStar b = false) : PI X tg (.Call (.Name "range" p) [b] [] pos) (tI X G (dRng1 dr)) := s_range1 B.g B.m ha hs
theorem g_ (t : TgtOk X i x) : PG X (.Name x pos) (tPat X G (.name i)) := s_gName t.nd t.n t.l t.f
theorem pgn_ (t : TgtOk X i x) : PG X (.Name x pos) (tPG X G g0 H0 (gName' i)) := s_pgName t.nd t.n t.l t.f
theorem pgi_ (v : VarOk X i x) (hb : PE X b (tD X G db)) (hsl : isSlice b = false) : PG X (.Subscript (.Name x p) b pos) (tPG X G g0 H0 (gIx i db)) := s_pgIx v.n v.v v.d v.c hb hsl
theorem for_ {tg iter : Expr} {bd : List Stmt} {pt : Pat} {body : DS} (O : XOk X G T k) (hi : PI X tg iter (tI X G di)) (hg : PG X tg (tPat X G pt)) (hb : PSs X bd (tS X G g0 H0 body)) (hs : ∀ x, foldedSetIterable iter X.env x = pure x) : PS X (.For tg iter bd [] pos) (tS X G g0 H0 (sFor pt di body)) := s_for O.po O.calm hi hg hb hs
theorem append_ {px apos cpos : Pos} (v : VarOk X i x) (he : PE X e (tD X G de)) (hst : isStar e = false) (hl : (apos.endLine == cpos.line) = true) :
    PS X (.Expr (.Call (.Attribute (.Name x px) "append" apos) [e] [] cpos) pos) (tS X G g0 H0 (sAppend i de)) := s_append v.n v.v v.d v.c he hst hl rfl
theorem extend_ {px apos cpos : Pos} (v : VarOk X i x) (he : PE X e (tD X G de)) (hst : isStar e = false) (hl : (apos.endLine == cpos.line) = true) :
    PS X (.Expr (.Call (.Attribute (.Name x px) "extend" apos) [e] [] cpos) pos) (tS X G g0 H0 (sExtend i de)) := s_extend v.n v.v v.d v.c he hst hl rfl
theorem Sc.tgn (S : Sc X N sc F) (i : Nat) (x : Str) (h : (sameB N[i]? x && lclB sc x) = true) : TgtN X i x := by
  simp only [Bool.and_eq_true] at h
  exact ⟨by rw [S.en]; exact S.nd, by rw [S.en]; exact sameB_ok h.1, S.lcl x h.2⟩
theorem Sc.ndX (S : Sc X N sc F) : X.N.Nodup := by rw [S.en]; exact S.nd
theorem Sc.blkOk (S : Sc X N sc F) {scope : Scope} {own' : List (Str × Nat)} (h : BlkOk N sc scope own') : BlkOk X.N X.env.scope scope own' := by rw [S.en, S.sc]; exact h
theorem par2_ {j : Nat} {y : Str} {dm dn : DM} {px py pt : Pos} {kt k2 pt2} (O : XOk X G T k) (ti : TgtN X i x) (tj : TgtN X j y) (hij : i ≠ j) (ha : PE X a (tM X G dm)) (hb : PE X b (tM X G dn)) (sa : isStar a = false) (sb : isStar b = false)
    (hw : swappedStores [.Tuple [.Name x px, .Name y py] kt pt] (.Tuple [a, b] k2 pt2) X.env = pure (some [x, y])) :
    PS X (.Assign [.Tuple [.Name x px, .Name y py] kt pt] (.Tuple [a, b] k2 pt2) pos) (tS X G g0 H0 (sPar2 i j dm dn)) := s_par2 O.calm ti.nd ti.n tj.n hij ti.l tj.l ha hb sa sb hw
end
end EV
/-! EV19: zip, enumerate of lists; what is never reached -/
namespace EV
open PySem L2
def stillL : D → Option (List D)
  | .lst ds => some ds
  | .frz ds => some ds
  | _ => none
def zipD : List D → Cells → R (List D) := fun ds h => match ds with
  | [.tup a, .tup b] => .ok (pairs a b) h
  | [x, y] => match stillL x, stillL y with
    | some a, some b => .ok (pairs a b) h
    | _, _ => .bad
  | _ => .bad
def dZip (da : DA) : DF := fun fn env h => (da fn env h).bind zipD
def numbered : Nat → List D → List D
  | _, [] => []
  | n, d :: ds => .tup [.int (n : Nat), d] :: numbered (n + 1) ds
def enumD : List D → Cells → R (List D) := fun ds h => match ds with
  | [x] => match stillL x with
    | some a => .ok (numbered 0 a) h
    | none => .bad
  | _ => .bad
def dEnum (da : DA) : DF := fun fn env h => (da fn env h).bind enumD
theorem numbered_len : ∀ (n : Nat) (ds : List D), (numbered n ds).length = ds.length
  | _, [] => rfl
  | n, d :: ds => by rw [numbered, List.length_cons, numbered_len (n + 1) ds, List.length_cons]
theorem numbered_get : ∀ {n : Nat} {ds : List D} {i : Nat} {d : D}, ds[i]? = some d → (numbered n ds)[i]? = some (.tup [.int ((n + i : Nat) : Int), d])
  | _, [], _, _, h => by simp at h
  | n, e :: ds, 0, d, h => by simp at h; subst h; rfl
  | n, e :: ds, i + 1, d, h => by
    rw [numbered]
    have z := numbered_get (n := n + 1) (ds := ds) (i := i) (by simpa using h)
    rw [List.getElem?_cons_succ, z]
    have e2 : n + 1 + i = n + (i + 1) := by omega
    rw [e2]
section
variable {X : Cx} {G : Gx} {g g' : Gh} {H H' : Hp} {h h' : Cells} {own : Nat → Option Addr} {env : Ev} {σ : L2.St} {ds es : List D} {xs ys : List V} {a b : Addr} {tg e e2 : Expr} {dr : DA} {x : Str} {v : Value} {p pos tpos : Pos} {elts : List Expr} {kk : Nat}
theorem still_ok (og : GOk X G g) (r : HRel X.prog X.w g H h) {d : D} {v : V} (q : RelT g H d v) (e : stillL d = some ds) : ∃ a xs, v = .ref a ∧ RelsS g H ds xs ∧ SqL X.K H a xs ∧ ∀ g' H', ExtS g H g' H' → SqL X.K H' a xs := by
  cases d with
  | lst es => cases e; exact lst_stands og q
  | frz es => cases e; exact frz_stands og r q
  | _ => cases e
theorem it_enum (r : HRel X.prog X.w g H h) (sx : ∀ g' H', ExtS g H g' H' → SqL X.K H' a xs) (qx : RelsS g H ds xs) : ItOk X (Ite X.K a) g H (numbered 0 ds) where
  goes := fun g' H' h' i hi e r' => by
    rw [numbered_len, qx.len] at hi
    exact ⟨xs, xs[i], sx g' H' e, by simp [hi]⟩
  stops := fun g' H' h' e r' => ⟨xs, sx g' H' e, by rw [numbered_len, qx.len]; exact Nat.le_refl _⟩
  yields := fun g' H' h' i x H'' hi e r' y => by
    obtain ⟨T, u, rfl, hT, rfl, y1⟩ := y
    obtain ⟨d, h1, h2⟩ := (RelsS.exts r e qx).getV (y1 xs (sx g' H' e))
    refine ⟨_, _, Ext.new r' hT, r'.new hT, numbered_get h1, ?_⟩
    rw [Nat.zero_add]
    exact Ext.pair r' hT rfl h2
def sBad : DS := fun _ _ _ => .bad
theorem badS_ {g0 : Gh} {H0 : Hp} {st : Stmt} : PS X st (tS X G g0 H0 sBad) := ⟨fun _ _ _ _ _ _ ⟨_, _, _, _, _, _, _, _, z⟩ => z.elim⟩
end
end EV
/-! EV20: comprehensions as a printer writes them -/
namespace EV
open PySem L2
theorem PTs.imp {X : Cx} {es : List Expr} {t t' : TT} (h : PTs X es t) (k : ∀ σ H Q, t' σ H Q → t σ H Q) : PTs X es t' := ⟨fun pins s σ H Q I q => h.run pins s σ H Q I (k σ H Q q)⟩
section
variable {X : Cx} {G : Gx} {T : Pg} {k : Nat} {N : List Str} {sc : Scope} {F : Str → Bool} {g0 : Gh} {H0 : Hp} {elt tg iter : Expr} {ifs : List Expr} {scope : Scope} {own' : List (Str × Nat)} {pos : Pos} {di : DF} {pt : Pat} {tt : DT} {te : DE}
theorem comp_ (O : XOk X G T k) (S : Sc X N sc F) (own' : List (Str × Nat)) (hi : PI X tg iter (tI X G di)) (ok : BlkOk N sc scope own') (hsl : ∀ i ∈ pt.slots, i ∈ own'.map (·.2))
    (hg : ∀ X1 : Cx, XOk X1 G.quiet T k → Sc X1 N (relS scope sc) (fun x => scope.names.lookup x == some .cell) → PG X1 tg (tPat X1 G.quiet pt))
    (ht : ∀ X1 : Cx, XOk X1 G.quiet T k → Sc X1 N (relS scope sc) (fun x => scope.names.lookup x == some .cell) → PTs X1 ifs (tT X1 G.quiet tt))
    (he : ∀ X1 : Cx, XOk X1 G.quiet T k → Sc X1 N (relS scope sc) (fun x => scope.names.lookup x == some .cell) → PE X1 elt (tD X1 G.quiet te))
    (hs : ∀ x, foldedSetIterable iter X.env x = pure x) : PE X (.ListComp elt [⟨tg, iter, ifs, 0⟩] scope pos) (tF X G (dComp (own'.map (·.2)) pt di tt te)) :=
  s_comp O.calm S.ndX hi (S.blkOk ok) hsl (fun s H C cl fp => PG.imp (hg (X.blk s H scope (compEnvC scope cl C X.env) fp) O.blk S.blk) fun v σ H Q ⟨g, own, env, h, d, env', o, r, l, p⟩ => ⟨g, own, env, h, d, env', ⟨o.K, o.gA⟩, r, l, p⟩) (fun s H C cl fp => PTs.imp (ht (X.blk s H scope (compEnvC scope cl C X.env) fp) O.blk S.blk) fun σ H Q ⟨g, own, env, h, o, r, l, p⟩ => ⟨g, own, env, h, ⟨o.K, o.gA⟩, r, l, p⟩) (fun s H C cl fp => PE.imp (he (X.blk s H scope (compEnvC scope cl C X.env) fp) O.blk S.blk) fun σ H Q ⟨g, own, env, h, o, r, l, p⟩ => ⟨g, own, env, h, ⟨o.K, o.gA⟩, r, l, p⟩) hs
end
end EV
/-! EV21: names at once as a printer writes them -/
namespace EV
open PySem L2
section
variable {X : Cx} {G : Gx} {T : Pg} {k : Nat} {N : List Str} {sc : Scope} {F : Str → Bool} {g0 : Gh} {H0 : Hp} {i j m : Nat} {x y z : Str} {a b c : Expr} {da db dc : DM} {px py pz pt pos : Pos} {kt k2 : Nat} {pt2 : Pos}
theorem Sc.fnk (S : Sc X N sc F) (hk : sc.kind = .function) : (X.env.blockKind != .function) = false := by
  have : X.env.scope.kind = .function := by rw [S.sc]; exact hk
  unfold Env.blockKind
  rw [this]; rfl
theorem TgtN.isL (t : TgtN X i x) : (X.env.kindOf x == some .local) = true := by
  have : X.env.kindOf x = some .local := t.l
  rw [this]; rfl
theorem not_star {es : List Expr} {f : Expr → Bool} (h : noStars es = true) (hf : ∀ e, f e = true → isStar e = true) : ¬ es.any f = true := fun z => by
  obtain ⟨e, he, z⟩ := List.any_eq_true.mp z
  have := List.all_eq_true.mp h e he
  rw [hf e z] at this
  cases this
theorem sw2_ (S : Sc X N sc F) (hk : sc.kind = .function) (ti : TgtN X i x) (tj : TgtN X j y) (hl : (py.line == px.line) = true) (hd : [x, y].eraseDups.length = 2) (hs : noStars [a, b] = true) (hf : [a, b].all (foldedForSure 8) = false) (hc : [a, b].all (constantsAlone 8) = false) :
    swappedStores [.Tuple [.Name x px, .Name y py] kt pt] (.Tuple [a, b] k2 pt2) X.env = pure (some [x, y]) := by
  unfold swappedStores
  simp only [S.fnk hk, hf, hc, ti.isL, tj.isL, hl, Expr.pos, List.head?_cons, Option.map_some, Option.getD_some, List.filterMap_cons, List.filterMap_nil, Bool.true_and, beq_self_eq_true, if_true, List.length_cons, List.length_nil, hd]
  rw [if_neg (by simp), if_neg (not_star hs (fun e z => by cases e <;> first | rfl | cases z)), if_neg (by simp [hd])]
  rfl
theorem sw3_ (S : Sc X N sc F) (hk : sc.kind = .function) (ti : TgtN X i x) (tj : TgtN X j y) (tm : TgtN X m z) (hl : (py.line == px.line) = true) (hl2 : (pz.line == px.line) = true) (hd : [x, y, z].eraseDups.length = 3) (hs : noStars [a, b, c] = true) (hf : [a, b, c].all (foldedForSure 8) = false) (hc : [a, b, c].all (constantsAlone 8) = false) :
    swappedStores [.Tuple [.Name x px, .Name y py, .Name z pz] kt pt] (.Tuple [a, b, c] k2 pt2) X.env = pure (some [x, y, z]) := by
  unfold swappedStores
  simp only [S.fnk hk, hf, hc, ti.isL, tj.isL, tm.isL, hl, hl2, Expr.pos, List.head?_cons, Option.map_some, Option.getD_some, List.filterMap_cons, List.filterMap_nil, Bool.true_and, beq_self_eq_true, if_true, List.length_cons, List.length_nil, hd]
  rw [if_neg (by simp), if_neg (not_star hs (fun e z => by cases e <;> first | rfl | cases z)), if_neg (by simp [hd])]
  rfl
theorem par2s_ (O : XOk X G T k) (S : Sc X N sc F) (hk : sc.kind = .function) (ti : TgtN X i x) (tj : TgtN X j y) (hij : i ≠ j) (ha : PE X a (tM X G da)) (hb : PE X b (tM X G db)) (sa : isStar a = false) (sb : isStar b = false)
    (hl : (py.line == px.line) = true) (hd : [x, y].eraseDups.length = 2) (hf : [a, b].all (foldedForSure 8) = false) (hc : [a, b].all (constantsAlone 8) = false) :
    PS X (.Assign [.Tuple [.Name x px, .Name y py] kt pt] (.Tuple [a, b] k2 pt2) pos) (tS X G g0 H0 (sPar2 i j da db)) :=
  par2_ O ti tj hij ha hb sa sb (sw2_ S hk ti tj hl hd (by simp [noStars, sa, sb]) hf hc)
theorem par3s_ (O : XOk X G T k) (S : Sc X N sc F) (hk : sc.kind = .function) (ti : TgtN X i x) (tj : TgtN X j y) (tm : TgtN X m z) (hij : i ≠ j) (him : i ≠ m) (hjm : j ≠ m) (ha : PE X a (tM X G da)) (hb : PE X b (tM X G db)) (hc' : PE X c (tM X G dc)) (sa : isStar a = false) (sb : isStar b = false) (ss : isStar c = false)
    (hl : (py.line == px.line) = true) (hl2 : (pz.line == px.line) = true) (hd : [x, y, z].eraseDups.length = 3) (hf : [a, b, c].all (foldedForSure 8) = false) (hc : [a, b, c].all (constantsAlone 8) = false) :
    PS X (.Assign [.Tuple [.Name x px, .Name y py, .Name z pz] kt pt] (.Tuple [a, b, c] k2 pt2) pos) (tS X G g0 H0 (sPar3 i j m da db dc)) :=
  s_par3 O.calm ti tj tm hij him hjm ha hb hc' sa sb ss (sw3_ S hk ti tj tm hl hl2 hd (by simp [noStars, sa, sb, ss]) hf hc)
end
end EV
/-! EV22: what the top has written, from a head -/
namespace EV
open PySem L2
open PySem.Spec PyProof.Rows
def FD.he (d : FD) : He.DefD := ⟨(d.gn, d.me), d.nm, d.qn, defArgs d.st, defBody d.st, defScope d.st, [], []⟩
def faVal (p : Str × D) : List He.Fa := match p.2 with
  | .int i => [.int p.1 i]
  | .str s => [.str p.1 s]
  | _ => [.glo p.1, .free p.1]
def faDef (d : FD) : List He.Fa := match d.me with
  | none => [.glo d.gn]
  | some m => [.glo d.gn, .meth d.gn m]
def faCls (T : Pg) (i : Nat) (x : Str) : List He.Fa := [.glo x, .cls x, .mkr x] ++ (T.attrs.filter fun p => p.1 == i).map fun p => .noat x p.2
def faOf (T : Pg) : List He.Fa := T.defs.flatMap faDef ++ (T.free.map .free ++ (T.vals.flatMap faVal ++ T.cls.flatMap fun p => faCls T p.1 p.2))
def gAof (T : Pg) (K : PySem.W.Frag) (i : Nat) : Option Addr := (T.cls.lookup i).map (He.ga K)
theorem lookup_mem {i : Nat} {x : Str} : ∀ {xs : List (Nat × Str)}, xs.lookup i = some x → (i, x) ∈ xs
  | [], h => by simp at h
  | (j, y) :: xs, h => by
    rw [List.lookup_cons] at h
    split at h
    · rename_i e
      cases h
      rw [beq_iff_eq.mp e]; exact .head _
    · exact .tail _ (lookup_mem h)
def fnOf (T : Pg) : List He.DefD := T.defs.map FD.he
theorem txt_of {T : Pg} {K : PySem.W.Frag} {h : Heap} {mg : Str → Option Value} (X : K.In h) (G : h.Ns mainGlobals mg) (c : He.SaysD (faOf T) (EV.fnOf T) K) : TxtOk K mg (gAof T K) T where
  defs := fun i d hd => by
    have m := List.mem_of_getElem? hd
    obtain ⟨fd, F⟩ := He.SaysD.defs c (d := d.he) (List.mem_map.mpr ⟨d, m, rfl⟩)
    have mem : ∀ f ∈ faDef d, f.ok K = true := fun f hf => c.facts (List.mem_append_left _ (List.mem_flatMap.mpr ⟨d, m, hf⟩))
    refine ⟨_, fd, ?_, F⟩
    unfold AtF
    show match d.me with
      | none => mg d.gn = some (.ref (He.fAd K (d.gn, d.me)))
      | some m => ∃ C, mg d.gn = some (.ref C) ∧ Meth K C m (He.fAd K (d.gn, d.me))
    unfold faDef at mem
    cases e : d.me with
    | none =>
      rw [e] at mem
      exact He.glo_ok X G (mem _ (.head _))
    | some q =>
      rw [e] at mem
      exact ⟨_, He.glo_ok X G (mem _ (.head _)), He.meth_ok (mem _ (.tail _ (.head _)))⟩
  cls := by
    have mem : ∀ {i : Nat} {x : Str}, T.cls.lookup i = some x → ∀ f ∈ faCls T i x, f.ok K = true := fun {i x} h f hf => c.facts (List.mem_append_right _ (List.mem_append_right _ (List.mem_append_right _ (List.mem_flatMap.mpr ⟨(i, x), lookup_mem h, hf⟩))))
    refine ⟨fun i x h => ⟨He.ga K x, _, He.glo_ok X G (mem h _ (.head _)), by unfold gAof; rw [h]; rfl, He.cls_ok (mem h _ (.tail _ (.head _))), He.mkr_ok (mem h _ (.tail _ (.tail _ (.head _))))⟩, fun p hp C hC => ?_⟩
    unfold gAof at hC
    obtain ⟨x, hx, rfl⟩ := Option.map_eq_some_iff.mp hC
    refine He.noat_ok (mem hx _ (List.mem_append_right _ (List.mem_map.mpr ⟨p, ?_, rfl⟩)))
    rw [List.mem_filter]
    exact ⟨hp, by simp⟩
  free := fun x hx => He.free_ok X G (c.facts (f := .free x) (List.mem_append_right _ (List.mem_append_left _ (List.mem_map.mpr ⟨x, by simpa using hx, rfl⟩))))
  vals := fun p hp => by
    have mem : ∀ f ∈ faVal p, f.ok K = true := fun f hf => c.facts (List.mem_append_right _ (List.mem_append_right _ (List.mem_append_left _ (List.mem_flatMap.mpr ⟨p, hp, hf⟩))))
    obtain ⟨x, d⟩ := p
    have bad : ∀ f ∈ faVal (x, d), f.ok K = true := mem
    cases d with
    | int i =>
      obtain ⟨t, e⟩ := He.int_ok X G (mem (.int x i) (.head _))
      exact ⟨.int i, _, e, ⟨t, rfl⟩, fun _ _ _ _ => rfl⟩
    | str s =>
      obtain ⟨t, e⟩ := He.str_ok X G (mem (.str x s) (.head _))
      exact ⟨.str s, _, e, ⟨t, rfl⟩, fun _ _ _ _ => rfl⟩
    | _ =>
      have e1 := He.glo_ok X G (mem (.glo x) (.head _))
      have e2 := He.free_ok X G (mem (.free x) (.tail _ (.head _)))
      rw [e1] at e2
      cases e2
/-- a law's end, from the head's facts -/
theorem walk_law {l : PySem.W.OpenLaw} {n k : Nat} {q : Program} {loose : List Str} {XP : (Str → Option Value) → Heap → Prop} {d : DefRec} {T : Pg} (i : Nat) (L : FD)
    (hn : l.most = some n) (hz : n ≤ sizeLine) (nodef : d.params.defaults = []) (rm : Room k callerA) (hi : T.defs[i]? = some L) (hd : d.name = L.gn) (hp : L.ps = [("script" : Str)])
    (B : ∀ (i : Nat) (d : FD), T.defs[i]? = some d → BodyOk T d)
    (hb : ∀ (kV doc pm : Value) (an : Option Addr) (cdv ct : Value) (us : List Value), us.length = 1 → bindArgs (PySem.W.fnOf L.nm L.qn (defArgs L.st) (defBody L.st) (defScope L.st) .none kV doc pm an cdv ct) ⟨us, []⟩ = pure ([("script" : Str)].zip us))
    (main : ∀ ns : List Int, ns.length ≤ n → ∃ h, fnsOf T.defs k i [.frz (ns.map D.int)] [] = .ok (.bl true) h) (hme : L.me = none := by rfl) :
    PySem.W.WalkO q loose XP (fun _ h => ∃ K : PySem.W.Frag, K.In h ∧ He.SaysD (faOf T) (EV.fnOf T) K) l.row.toRowW d [] (fun f vs => PySem.call f vs) := by
  refine walk_fn (n := n) (k := k) (x := "script") hn hz nodef rm fun w mg fa h Y G hmg => ?_
  obtain ⟨K, KX, c⟩ := Y
  have TO := txt_of KX G c
  obtain ⟨f, fd, m, F⟩ := TO.defs i L hi
  rw [hd, m.glo hme] at hmg
  cases hmg
  refine ⟨K, fd, gAof T K, fnsOf T.defs k i, KX, fun s u => F.bindsA (ps := [("script" : Str)]) (fun kV doc pm an cdv ct us hl => hb kV doc pm an cdv ct us hl) s [u] rfl, fun base => ?_, main⟩
  have z := all_fn (P := l.prog) (w := w) (base := base) TO B k i L hi _ fd m F
  rw [hp] at z
  exact z
end EV
/-! EV25: enumerate over tuples -/
namespace EV
open PySem L2 PySem.Spec PyProof.Rows
open AutoSeq1 (wpAny_loadPart')
theorem new_enumT (l : Addr) (items : Array Value) (n : Nat) (dct : Option Addr) (sl : Array (Option Value)) :
    Meets (Builtin.«enumerate.__new__» ⟨[.type "enumerate", .ref l], []⟩) (fun _ R s => s.heap.get? l = some { cls := .type "tuple", dict := dct, data := .seq items n, slots := sl } ∧
      R (.ok (.ret (.ref (s.heap.push { cls := .type "tuple_iterator", data := .fields #[.ref l, .int 0 0] }).objs.size)))
        { s with heap := (s.heap.push { cls := .type "tuple_iterator", data := .fields #[.ref l, .int 0 0] }).push { cls := .type "enumerate", data := .fields #[.none, .bool false, .ref s.heap.objs.size, rawInt 0, .none, .none] } }) :=
  .of_wp fun prog w A R s h => by
    obtain ⟨hp, g, d, tk, os⟩ := s; obtain ⟨hl, h⟩ := h
    have sb := sub_enumerate
    have isT : Heap.IsTuple (Shared.heap ⟨hp, g, d, tk, os⟩) l items := ⟨_, hl, rfl, n, rfl⟩
    wp_walk using wpAny_loadPart' hl
    refine wpAny_stack_any fun st => wpAny_pure ?_
    split
    · rename_i c _ _ _ _ _
      cases (c == Value.type "enumerate") <;> (wp_walk using wpAny_loadPart' hl, wpAny_pyIter_tuple isT; exact ⟨_, rfl, h⟩)
    · wp_walk using wpAny_loadPart' hl, wpAny_pyIter_tuple isT
      exact ⟨_, rfl, h⟩
section
variable {prog : Program} {w : World} {A : Around} {E : Value → Shared → Prop} {s : Shared}
theorem call_enumT {l : Addr} {items : Array Value} {Q : Value → Shared → Prop} (ht : IsTup s.heap l items)
    (h : ∀ h', IsEnum h' (s.heap.objs.size + 1) s.heap.objs.size 0 .none → h'.IsTupleIter s.heap.objs.size l 0 → h'.objs.size = s.heap.objs.size + 2 →
      (∀ b o, s.heap.get? b = some o → h'.get? b = some o) → Q (.ref (s.heap.objs.size + 1)) { s with heap := h' }) :
    wpAny (model prog w) A (call (.type "enumerate") [.ref l]) Q E s := by
  obtain ⟨⟨c, dct, dt, sl⟩, hl, hc, n, hd⟩ := ht
  obtain rfl : c = .type "tuple" := hc
  obtain rfl : dt = .seq items n := hd
  refine callType_new F.called_enumerate (by decide) (F.typeCall_enumerate_1 _) (F.newCall_enumerate_1 _) (fun obj => F.args_object_init_2 obj _) F.entry_enumerate_new (new_enumT l items n dct sl) ⟨hl, ?_⟩
  have sz : (s.heap.push { cls := .type "tuple_iterator", data := .fields #[.ref l, .int 0 0] }).objs.size = s.heap.objs.size + 1 := Heap.size_push ..
  show _ ∧ _
  rw [sz]
  have en : IsEnum ((s.heap.push { cls := .type "tuple_iterator", data := .fields #[.ref l, .int 0 0] }).push
      { cls := .type "enumerate", data := .fields #[.none, .bool false, .ref s.heap.objs.size, rawInt 0, .none, .none] }) (s.heap.objs.size + 1) s.heap.objs.size 0 .none := by
    have z := Heap.get?_push_size (s.heap.push { cls := .type "tuple_iterator", data := .fields #[.ref l, .int 0 0] }) (o := { cls := .type "enumerate", data := .fields #[.none, .bool false, .ref s.heap.objs.size, rawInt 0, .none, .none] }) rfl
    rw [sz] at z; exact z
  exact ⟨⟨_, en, rfl⟩, h _ en ⟨_, Heap.get?_push_of_some _ (Heap.get?_push_size _ rfl), rfl, rfl⟩ (by rw [Heap.size_push, sz]) fun b o x => Heap.get?_push_of_some _ (Heap.get?_push_of_some _ x)⟩
end
def IteT (K : PySem.W.Frag) (a : Addr) : It :=
  ⟨fun i H => ∃ (xs : List V) (x : V), SqT K H a xs ∧ xs[i]? = some x, fun i H v H' => ∃ T x, v = .ref T ∧ H T = none ∧ H' = upd H T (.tup [.int (i : Nat), x]) ∧ ∀ xs, SqT K H a xs → xs[i]? = some x, fun i H => ∃ xs : List V, SqT K H a xs ∧ xs.length = i⟩
theorem turn_enumT {P : Program} {w : World} {K : PySem.W.Frag} {elts : List Expr} {kk : Nat} {tpos : Pos} (a e it : Addr) :
    Turn P w K (.Tuple elts kk tpos) (IteT K a) [e, it] e (fun i h => (∃ old, IsEnum h e it ((i : Nat) : Int) old) ∧ h.IsTupleIter it a i ∧ e ≠ it) where
  mem := by simp
  obj := fun i h st b hb => by
    obtain ⟨⟨old, he⟩, ⟨o, ho, hc, hd⟩, _⟩ := st
    have e' : b = e ∨ b = it := by simpa using hb
    rcases e' with z | z
    · rw [z]; exact ⟨_, he, fun v q => nomatch q⟩
    · rw [z]; exact ⟨o, ho, fun v q => by rw [hd] at q; cases q⟩
  keep := fun i h h' st k => let ⟨⟨old, he⟩, hi, hne⟩ := st; ⟨⟨old, k e (by simp) _ he⟩, hi.at fun o q => k it (by simp) o q, hne⟩
  item := by
    intro X hP hw hK hc i pins s σ H E I hf st hg
    subst hP hw hK
    obtain ⟨⟨old, he⟩, hit, hne⟩ := st
    obtain ⟨xs, x, hq, hx⟩ := hg
    obtain ⟨its, rv, p, hz⟩ := I.tuple hq
    obtain ⟨u, hu, ru⟩ := rv.get hx
    have hel : e < s.heap.objs.size := Heap.lt_size he
    have hil : it < s.heap.objs.size := by obtain ⟨_, q, _⟩ := hit; exact Heap.lt_size q
    have tu : s.heap.IsTuple a its.toArray := p
    have nit : a ≠ it := fun z => by
      obtain ⟨o1, h1, c1, _⟩ := p
      obtain ⟨o2, h2, c2, _⟩ := hit
      rw [z, h2] at h1; cases h1
      rw [c1] at c2; exact absurd (Value.type.inj c2) (by decide)
    have nie : a ≠ e := fun z => by
      obtain ⟨o1, h1, c1, _⟩ := p
      rw [z, he] at h1; cases h1
      exact absurd (Value.type.inj c1) (by decide)
    have hil2 : i < its.toArray.size := (Array.getElem?_eq_some_iff.mp (show its.toArray[i]? = some u by simpa using hu)).1
    refine wpAny_pyNext_enum_itemD (Draws.tuple (prog := X.prog) (w := X.w) (A := X.A.in1) (I.ok.hd hc) it a nit its.toArray) he ⟨hit, tu⟩ hil2 hne (by simp; exact ⟨hne, fun z => nie z.symm⟩) fun y h' tk hy ho st' hT hsz hk => ?_
    have ey : y = u := by
      have z : its.toArray[i]? = some u := by simpa using hu
      rw [z] at hy; exact (Option.some.inj hy).symm
    subst ey
    obtain ⟨hit', tu'⟩ := st'
    refine ⟨_, rfl, wpAny_letOwnedTupleGo_enum (s := { s with heap := h', toks := tk + 1 }) ho fun h'' he' sb => ?_⟩
    have hT2 : h''.get? s.heap.objs.size = some { cls := .type "tuple", data := .seq #[.int i tk, y] } := (sb.2 _ (Nat.ne_of_gt hel)).trans hT
    have new : ObjOk X.prog X.w (upd H s.heap.objs.size (.tup [.int (i : Nat), x])) h'' s.heap.objs.size (.tup [.int (i : Nat), x]) :=
      ⟨by show 2 ≤ sizeLine; decide, [.int i tk, y], .cons ⟨_, rfl⟩ (.cons ru .nil), ⟨_, hT2, rfl, _, rfl⟩⟩
    have I1 : Inv X pins σ (upd H s.heap.objs.size (.tup [.int (i : Nat), x])) { s with heap := h'', toks := tk + 1 } :=
      I.turnedNew (ch := [e, it]) (fun b ob hb q => (sb.2 b (fun z => hb (by simp [z]))).trans (hk b ob (fun z => hb (by simp [z])) (fun z => hb (by simp [z])) q)) hf (Nat.le_refl _) new
    refine ⟨.ref s.heap.objs.size, _, I1, rfl, ⟨_, x, rfl, I.hok.fresh (Nat.le_refl _), rfl, fun ys hy => by rw [I.tuple_inj hy hq]; exact hx⟩, ⟨⟨y, ?_⟩, hit'.at fun o q => (sb.2 it (Ne.symm hne)).trans q, hne⟩, fun b hb => ?_⟩
    · rw [show ((i + 1 : Nat) : Int) = (i : Int) + 1 by omega]; exact he'
    · have hb' : b < s.heap.objs.size := by
        have e' : b = e ∨ b = it := by simpa using hb
        rcases e' with z | z
        · rw [z]; exact hel
        · rw [z]; exact hil
      rw [upd_ne (Nat.ne_of_lt hb')]
      exact (hf b hb).1
  done := by
    intro X hP hw hK hc i pins s σ H E I hf st hg
    subst hP hw hK
    obtain ⟨⟨old, he⟩, hit, hne⟩ := st
    obtain ⟨xs, hq, hx⟩ := hg
    obtain ⟨its, rv, p, hz⟩ := I.tuple hq
    obtain ⟨f0, f1, f2, f3, f4, f5⟩ := hf it (by simp)
    have hl := rv.length
    have nit : a ≠ it := fun z => by
      obtain ⟨o1, h1, c1, _⟩ := p
      obtain ⟨o2, h2, c2, _⟩ := hit
      rw [z, h2] at h1; cases h1
      rw [c1] at c2; exact absurd (Value.type.inj c2) (by decide)
    have ei : its.toArray.size = i := by rw [List.size_toArray, ← hl]; exact hx
    have st : (fun (i : Nat) (h : Heap) => h.IsTupleIter it a i ∧ h.IsTuple a its.toArray) its.toArray.size s.heap := ⟨by rw [ei]; exact hit, p⟩
    exact wpAny_pyNext_enum_endD (Draws.tuple (prog := X.prog) (w := X.w) (A := X.A.in1) (I.ok.hd hc) it a nit its.toArray) he st fun h' eb => ⟨rfl, I.turned (t' := s.toks) (fun b o hb q => eb b o hb q) f0 f1 f3 f4 f5⟩
  self := fun A i s Q E st h => let ⟨⟨_, he⟩, _⟩ := st; wpAny_pyIter_enum he h
def iEnumA (K : PySem.W.Frag) (ta : TA) : TI := fun σ H R => ta σ H fun vs H1 => ∃ a xs, vs = [.ref a] ∧ ((SqL K H1 a xs ∧ R (Ite K a) H1) ∨ (SqT K H1 a xs ∧ R (IteT K a) H1))
theorem pi_enumA {X : Cx} {e : Expr} {ta : TA} {p pos tpos : Pos} {elts : List Expr} {kk : Nat} (hg : Gl X "enumerate") (hm : X.mg "enumerate" = none) (ha : PA X [e] ta) (hs : starEach [e] X.env = [(false, eval e X.env)]) :
    PI X (.Tuple elts kk tpos) (.Call (.Name "enumerate" p) [e] [] pos) (iEnumA X.K ta) := by
  refine ⟨fun pins s σ H R I h => Call_ (ld_blt I hg hm PyProof.Rows.boot_enumerate (PyProof.Rows.callWith_type1 (thn (ha.run pos pins s σ H _ I h) fun us s1 ⟨vs, H1, I1, r1, q1⟩ => ?_) hs rfl))⟩
  obtain ⟨a, xs, ex, q1⟩ := q1
  subst ex
  cases r1 with
  | cons r rr =>
    cases rr
    cases r
    have two : ∀ b, b ∈ [s1.heap.objs.size + 1, s1.heap.objs.size] → FpOk X pins H1 b := fun b hb => by
      have le : s1.heap.objs.size ≤ b := by
        rcases (show b = s1.heap.objs.size + 1 ∨ b = s1.heap.objs.size by simpa using hb) with z | z
        · rw [z]; exact Nat.le_add_right _ _
        · rw [z]; exact Nat.le_refl _
      exact I1.fpOk le (I1.hok.fresh le)
    rcases q1 with ⟨hq, q⟩ | ⟨hq, q⟩
    · obtain ⟨its, rv, p', hz⟩ := I1.list hq
      refine call_enumerate_list p'.isList fun h' he hit hsz hk => wpAny_pyIter_enum he ?_
      exact ⟨s1.heap.objs.size + 1, [s1.heap.objs.size + 1, s1.heap.objs.size], _, _, H1, rfl, I1.kept (t' := s1.toks) hk, turn_enum a (s1.heap.objs.size + 1) s1.heap.objs.size, ⟨⟨.none, he⟩, hit, Nat.succ_ne_self _⟩, two, q⟩
    · obtain ⟨its, rv, p', hz⟩ := I1.tuple hq
      refine call_enumT p' fun h' he hit hsz hk => wpAny_pyIter_enum he ?_
      exact ⟨s1.heap.objs.size + 1, [s1.heap.objs.size + 1, s1.heap.objs.size], _, _, H1, rfl, I1.kept (t' := s1.toks) hk, turn_enumT a (s1.heap.objs.size + 1) s1.heap.objs.size, ⟨⟨.none, he⟩, hit, Nat.succ_ne_self _⟩, two, q⟩
section
variable {X : Cx} {G : Gx} {g g' : Gh} {H H' : Hp} {h h' : Cells} {ds : List D} {xs : List V} {a : Addr} {e : Expr} {dr : DA} {v : Value} {p pos tpos : Pos} {elts : List Expr} {kk : Nat}
theorem it_enumT (r : HRel X.prog X.w g H h) (og : GOk X G g) (tx : SqT X.K H a xs) (qx : RelsS g H ds xs) : ItOk X (IteT X.K a) g H (numbered 0 ds) := by
  have st : ∀ g' H', ExtS g H g' H' → SqT X.K H' a xs := fun g' H' e => by
    have z := SqT.exts r e (by rw [og.K]; exact tx)
    rw [e.K, og.K] at z
    exact z
  exact {
    goes := fun g' H' h' i hi e r' => by
      rw [numbered_len, qx.len] at hi
      exact ⟨xs, xs[i], st g' H' e, by simp [hi]⟩
    stops := fun g' H' h' e r' => ⟨xs, st g' H' e, by rw [numbered_len, qx.len]⟩
    yields := fun g' H' h' i x H'' hi e r' y => by
      obtain ⟨T, u, rfl, hT, rfl, y1⟩ := y
      obtain ⟨d, h1, h2⟩ := (RelsS.exts r e qx).getV (y1 xs (st g' H' e))
      refine ⟨_, _, Ext.new r' hT, r'.new hT, numbered_get h1, ?_⟩
      rw [Nat.zero_add]
      exact Ext.pair r' hT rfl h2 }
def enumA : List D → Cells → R (List D) := fun ds h => match ds with
  | [.tup a] => .ok (numbered 0 a) h
  | [x] => match stillL x with
    | some a => .ok (numbered 0 a) h
    | none => .bad
  | _ => .bad
def dEnumA (da : DA) : DF := fun fn env h => (da fn env h).bind enumA
theorem enumA_ (B : BltOk X "enumerate" v) (ha : PA X [e] (tA X G dr)) (hs : isStar e = false) : PI X (.Tuple elts kk tpos) (.Call (.Name "enumerate" p) [e] [] pos) (tI X G (dEnumA dr)) :=
  PI.imp (pi_enumA B.g B.m ha (by rw [star_cons hs]; rfl)) fun σ H R ⟨g, own, env, h, o, r, l, q⟩ => ⟨g, own, env, h, o, r, l, (Post.bind q).imp fun g1 H1 ds h1 e1 r1 q1 vs qv => by
    have o1 := o.ext e1
    unfold enumA at q1
    split at q1
    · obtain ⟨y, rfl, z1⟩ := rel1 qv
      obtain ⟨a, xs, rfl, w1, w2⟩ := tup_ok o1 z1
      exact ⟨a, xs, rfl, .inr ⟨w1, Post.now r1 q1 _ (it_enumT r1 o1 w1 w2)⟩⟩
    · split at q1
      · rename_i a1 s1
        obtain ⟨y, rfl, z1⟩ := rel1 qv
        obtain ⟨a, xs, rfl, w1, w2, w3⟩ := still_ok o1 r1 z1 s1
        exact ⟨a, xs, rfl, .inl ⟨w2, Post.now r1 q1 _ (it_enum r1 w3 w1)⟩⟩
      · exact q1.elim
    · exact q1.elim⟩
end
end EV
/-! EV26: x[k] op= e on a slot's list; [..] * n as a new list; xs + ys, slices as new lists -/
namespace EV
open PySem L2
section
variable {X : Cx} {G : Gx} {g g' g0 : Gh} {H H' H0 : Hp} {h h' : Cells} {own : Nat → Option Addr} {env : Ev} {σ : L2.St} {x : Str} {i : Nat} {a b e : Expr} {da db de : DE} {df : DF} {dr : DA} {pos sp px : Pos} {es : List Expr}
/-- xs * n, xs + ys as a new list -/
def repD : D → D → Cells → R (List D) := fun d k h => match k with
  | .int k => (match seqM h d with
    | some ds => if decide (-1000000 ≤ k) && decide (k ≤ 1000000) && decide (ds.length * k.toNat ≤ szL) then .ok (reps k.toNat ds) h else .bad
    | none => .bad)
  | _ => .bad
def dF2 (o : D → D → Cells → R (List D)) (da db : DE) : DF := fun fn env h => (da fn env h).bind fun x h1 => (db fn env h1).bind fun y h2 => o x y h2
theorem s_rep (ha : PE X a (tD X G da)) (hb : PE X b (tD X G db)) : PE X (.BinOp a .Mult b pos) (tF X G (dF2 repD da db)) :=
  PE.imp (pe_op op_rep ha hb) fun σ H Q ⟨g, own, env, h, o, r, l, q⟩ => by
    refine ⟨g, own, env, h, o, r, l, (Post.bind q).imp fun g1 H1 x h1 e1 r1 q1 v qv => ?_⟩
    refine ⟨g1, own, env, h1, o.ext e1, r1, l.step r e1, (Post.bind q1).imp fun g2 H2 y h2 e2 r2 q2 w qw => ?_⟩
    unfold repD at q2
    split at q2
    · rename_i k
      cases (show w = V.int k from qw)
      split at q2
      · rename_i ds es
        split at q2
        · rename_i hz
          simp only [Bool.and_eq_true, decide_eq_true_eq] at hz
          obtain ⟨p, xs, rfl, z1, z2⟩ := seqM_ok r2 (RelT.ext r1 e2 qv) es
          exact ⟨p, k, xs, rfl, rfl, z1, by omega, by omega, by rw [lineE, ← z2.len]; exact hz.2, fresh_now r (e1.trans e2) r2 (z2.reps k.toNat) q2⟩
        · exact q2.elim
      · exact q2.elim
    · exact q2.elim
end
end EV
/-! EV27: stores that are not swapped -/
namespace EV
open PySem L2
section
variable {X : Cx} {N : List Str} {sc : Scope} {F : Str → Bool} {ts vs : List Expr} {k k2 : Nat} {p p2 : Pos}
theorem sw_fold {env : Env} (h : vs.all (foldedForSure 8) = true) : swappedStores [.Tuple ts k p] (.Tuple vs k2 p2) env = pure none := by
  unfold swappedStores
  simp only
  split
  · rfl
  · split
    · rfl
    · split
      · rfl
      · rfl
end
end EV
/-! EV30: in, not in; max, min of one list -/
namespace EV
open PySem L2
/-- what stands in a list, a tuple -/
def inPd (h : Cells) (x y : D) : Option Bool := match pdH h x, pdH h y with
  | some p, some (.list qs) => if SeqAt.shaped p && SeqAt.shaped (.list qs) then some (qs.any fun z => PyData.eqv z p) else none
  | some p, some (.tuple qs) => if SeqAt.shaped p && SeqAt.shaped (.tuple qs) then some (qs.any fun z => PyData.eqv z p) else none
  | _, _ => none
def dNotIn : O2 := fun x y h => match inPd h x y with
  | some b => .ok (.bl (!b)) h
  | none => .bad
def cMaxL : ON := fun ds h => match ds with
  | [.int i, .int j] => .ok (.int (if j > i then j else i)) h
  | [d] => match (seqL h d).bind toInts with
    | some (n :: ns) => .ok (.int (ns.foldl max n)) h
    | _ => .bad
  | _ => .bad
def cMinL : ON := fun ds h => match ds with
  | [.int i, .int j] => .ok (.int (if j < i then j else i)) h
  | [d] => match (seqL h d).bind toInts with
    | some (n :: ns) => .ok (.int (ns.foldl min n)) h
    | _ => .bad
  | _ => .bad
theorem fold_max : ∀ (ns : List Int) (n : Int), (∀ y ∈ n :: ns, y ≤ ns.foldl max n) ∧ ns.foldl max n ∈ n :: ns
  | [], n => ⟨fun y hy => by simp at hy; rw [hy]; exact Int.le_refl _, by simp⟩
  | m :: ns, n => by
    obtain ⟨h1, h2⟩ := fold_max ns (max n m)
    have e : (m :: ns).foldl max n = ns.foldl max (max n m) := rfl
    rw [e]
    have h0 := h1 (max n m) (.head _)
    refine ⟨fun y hy => ?_, ?_⟩
    · simp only [List.mem_cons] at hy
      rcases hy with rfl | rfl | hy
      · omega
      · omega
      · exact h1 y (.tail _ hy)
    · rcases List.mem_cons.mp h2 with z | z
      · rw [z]
        rcases Int.le_total n m with q | q
        · rw [Int.max_eq_right q]; simp
        · rw [Int.max_eq_left q]; simp
      · exact .tail _ (.tail _ z)
theorem fold_min : ∀ (ns : List Int) (n : Int), (∀ y ∈ n :: ns, ns.foldl min n ≤ y) ∧ ns.foldl min n ∈ n :: ns
  | [], n => ⟨fun y hy => by simp at hy; rw [hy]; exact Int.le_refl _, by simp⟩
  | m :: ns, n => by
    obtain ⟨h1, h2⟩ := fold_min ns (min n m)
    have e : (m :: ns).foldl min n = ns.foldl min (min n m) := rfl
    rw [e]
    have h0 := h1 (min n m) (.head _)
    refine ⟨fun y hy => ?_, ?_⟩
    · simp only [List.mem_cons] at hy
      rcases hy with rfl | rfl | hy
      · omega
      · omega
      · exact h1 y (.tail _ hy)
    · rcases List.mem_cons.mp h2 with z | z
      · rw [z]
        rcases Int.le_total n m with q | q
        · rw [Int.min_eq_left q]; simp
        · rw [Int.min_eq_right q]; simp
      · exact .tail _ (.tail _ z)
section
open PySem.Spec PyProof.Rows
variable {X : Cx} {G : Gx}
theorem room_in {a b : PyData} {A : Around} (h : SeqAt.shaped a = true) (hu : A.units + 65 < cLine) (n : Nat) : A.units + 1 + min n a.depth < cLine := by
  have h1 := SeqAt.depth_of_shaped h
  have h2 : min n a.depth ≤ a.depth := Nat.min_le_right _ _
  omega
theorem XOk.un65 {T : Pg} {k : Nat} (O : XOk X G T k) : X.A.units + 65 < cLine := by have := O.rm.un; omega
theorem o_notin (hu : X.A.units + 65 < cLine) : OpR X (compareOp .NotIn) (rO2 X G dNotIn) := by
  intro pins s σ H x y v u Q I rx ry hp
  obtain ⟨g, h, d, e, og, r, qd, qe, p⟩ := hp
  unfold dNotIn inPd at p
  cases e1 : pdH h d with
  | none => rw [e1] at p; exact p.elim
  | some p1 =>
    rw [e1] at p
    cases e2 : pdH h e with
    | none => rw [e2] at p; exact p.elim
    | some p2 =>
      rw [e2] at p
      obtain ⟨as, r1⟩ := Dp.reads I p1 x v (dpH_of og r qd e1) rx
      obtain ⟨bs, r2⟩ := Dp.reads I p2 y u (dpH_of og r qe e2) ry
      cases p2 with
      | list qs =>
        dsimp only at p
        split at p
        · rename_i b hb
          split at hb
          · rename_i hz
            cases hb
            rw [Bool.and_eq_true] at hz
            exact SeqAt.notIn_list_reads r2 r1 (SeqAt.canLay_of_shaped hz.2) (SeqAt.canLay_of_shaped hz.1) (room_in (b := p1) hz.1 hu _) ⟨.bl _, H, I, rfl, Post.bl r p⟩
          · cases hb
        · exact p.elim
      | tuple qs =>
        dsimp only at p
        split at p
        · rename_i b hb
          split at hb
          · rename_i hz
            cases hb
            rw [Bool.and_eq_true] at hz
            exact SeqAt.notIn_tuple_reads r2 r1 (SeqAt.canLay_of_shaped hz.2) (SeqAt.canLay_of_shaped hz.1) (room_in (b := p1) hz.1 hu _) ⟨.bl _, H, I, rfl, Post.bl r p⟩
          · cases hb
        · exact p.elim
      | _ => exact p.elim
theorem c_maxL (hc : X.calm = true) : CallR X (.builtin "max") (rON X G cMaxL) := by
  intro pins s σ H xs us Q I rv ⟨g, h, ds, og, r, q, p⟩
  unfold cMaxL at p
  split at p
  · rename_i i j
    obtain ⟨y, z, rfl, z1, z2⟩ := rel2 q
    cases (show y = V.int i from z1); cases (show z = V.int j from z2)
    exact call_max2 hc pins s σ H _ us Q I rv ⟨i, j, rfl, Post.int r p⟩
  · rename_i d
    split at p
    · rename_i n ns en
      obtain ⟨y, rfl, z⟩ := rel1 q
      obtain ⟨es, e1, e2⟩ := Option.bind_eq_some_iff.mp en
      obtain ⟨a, zs, rfl, z1, z2⟩ := seqL_ok og r z e1
      have e3 := toInts_ok z2 e2
      subst e3
      obtain ⟨m1, m2⟩ := fold_max ns n
      exact cr_max hc pins s σ H _ us Q I rv ⟨a, n :: ns, rfl, z1, by simp, fun m hm hy => by
        have e : m = ns.foldl max n := Int.le_antisymm (m1 m hm) (hy _ m2)
        rw [e]
        exact Post.int r p⟩
    · exact p.elim
  · exact p.elim
theorem c_minL (hc : X.calm = true) : CallR X (.builtin "min") (rON X G cMinL) := by
  intro pins s σ H xs us Q I rv ⟨g, h, ds, og, r, q, p⟩
  unfold cMinL at p
  split at p
  · rename_i i j
    obtain ⟨y, z, rfl, z1, z2⟩ := rel2 q
    cases (show y = V.int i from z1); cases (show z = V.int j from z2)
    exact call_min2 hc pins s σ H _ us Q I rv ⟨i, j, rfl, Post.int r p⟩
  · rename_i d
    split at p
    · rename_i n ns en
      obtain ⟨y, rfl, z⟩ := rel1 q
      obtain ⟨es, e1, e2⟩ := Option.bind_eq_some_iff.mp en
      obtain ⟨a, zs, rfl, z1, z2⟩ := seqL_ok og r z e1
      have e3 := toInts_ok z2 e2
      subst e3
      obtain ⟨m1, m2⟩ := fold_min ns n
      exact cr_min hc pins s σ H _ us Q I rv ⟨a, n :: ns, rfl, z1, by simp, fun m hm hy => by
        have e : m = ns.foldl min n := Int.le_antisymm (hy _ m2) (m1 m hm)
        rw [e]
        exact Post.int r p⟩
    · exact p.elim
  · exact p.elim
end
end EV
/-! EV31: a comprehension stored to a captured name -/
/-! EV33: zip of a list and a tuple, either way round -/
namespace EV
open PySem L2
open PySem.Sem (wp)
/-- t: a tuple; else a list -/
def SqX (t : Bool) (K : PySem.W.Frag) (H : Hp) (l : Addr) (us : List V) : Prop := if t = true then SqT K H l us else SqL K H l us
def ItX (t : Bool) (h : Heap) (i l : Addr) (n : Nat) : Prop := if t = true then h.IsTupleIter i l n else h.IsListIter i l n
def IsX (t : Bool) (h : Heap) (l : Addr) (us : Array Value) : Prop := if t = true then h.IsTuple l us else h.IsList l us
section
variable {prog : Program} {w : World} {A : Around} {E : Value → Shared → Prop} {s : Shared} {t t1 t2 : Bool} {h h' : Heap} {i l c : Addr} {n : Nat} {us : Array Value}
theorem ItX.but (q : ItX t h i l n) (b : Heap.SameBut c h h') (d : i ≠ c) : ItX t h' i l n := by
  cases t
  · exact (show h.IsListIter i l n from q).extBut b.extBut d
  · exact (show h.IsTupleIter i l n from q).extBut b.extBut d
theorem IsX.but (q : IsX t h l us) (b : Heap.SameBut c h h') (d : l ≠ c) : IsX t h' l us := by
  cases t
  · exact (show h.IsList l us from q).extBut b.extBut d
  · exact (show h.IsTuple l us from q).extBut b.extBut d
theorem ItX.to (q : ItX t h i l n) (k : ∀ o, h.get? i = some o → h'.get? i = some o) : ItX t h' i l n := by
  cases t
  · exact (show h.IsListIter i l n from q).at k
  · exact (show h.IsTupleIter i l n from q).at k
theorem ItX.ob (q : ItX t h i l n) : ∃ o, h.get? i = some o ∧ ∀ v, o.data ≠ .cell v := by
  cases t
  · obtain ⟨o, a, _, b⟩ := (show h.IsListIter i l n from q)
    exact ⟨o, a, fun v z => by rw [b] at z; cases z⟩
  · obtain ⟨o, a, _, b⟩ := (show h.IsTupleIter i l n from q)
    exact ⟨o, a, fun v z => by rw [b] at z; cases z⟩
theorem nextX_item {x : Value} {Q : Value → Shared → Prop} (q : ItX t s.heap i l n) (u : IsX t s.heap l us) (hx : us[n]? = some x)
    (k : ∀ h', ItX t h' i l (n + 1) → Heap.SameBut i s.heap h' → Q x { s with heap := h' }) : wpAny (model prog w) A (Builtin.SmallTypes.nextOf (.ref i)) Q E s := by
  cases t
  · exact wpAny_nextOf_list_item (show s.heap.IsListIter i l n from q) (show s.heap.IsList l us from u) hx k
  · exact RZ.nextOf_tuple_item (show s.heap.IsTupleIter i l n from q) (show s.heap.IsTuple l us from u) hx k
theorem nextX_end {Q : Value → Shared → Prop} (hh : A.handled = none) (q : ItX t s.heap i l n) (u : IsX t s.heap l us) (hx : us[n]? = none)
    (k : ∀ h' e, Heap.ExtBut i s.heap h' → (∃ o, h'.get? e = some o ∧ o.cls = .type "StopIteration") → E (.ref e) { s with heap := h' }) : wpAny (model prog w) A (Builtin.SmallTypes.nextOf (.ref i)) Q E s := by
  cases t
  · exact wpAny_nextOf_list_end hh (show s.heap.IsListIter i l n from q) (show s.heap.IsList l us from u) hx k
  · exact RZ.nextOf_tuple_end hh (show s.heap.IsTupleIter i l n from q) (show s.heap.IsTuple l us from u) hx k
/-- what stands still in a turn -/
def KeepZ (z o i1 i2 : Addr) (h h' : Heap) : Prop := ∀ c ob, c ≠ z → c ≠ o → c ≠ i1 → c ≠ i2 → h.get? c = some ob → h'.get? c = some ob
section
variable {z TI TO i1 i2 l1 l2 : Addr} {n1 n2 : Nat} {xs ys : Array Value} {x y p q : Value}
theorem zipX_item {Q : Value → Shared → Prop} (D : ZipApart z TI TO i1 i2 l1 l2) (az : IsZip s.heap z TI TO .none) (aI : IsPair s.heap TI (.ref i1) (.ref i2)) (aO : IsPair s.heap TO p q)
    (a1 : ItX t1 s.heap i1 l1 n1) (a2 : ItX t2 s.heap i2 l2 n2) (u1 : IsX t1 s.heap l1 xs) (u2 : IsX t2 s.heap l2 ys) (e1 : xs[n1]? = some x) (e2 : ys[n2]? = some y)
    (k : ∀ h', IsZip h' z TI TO (rawInt s.heap.objs.size) → IsPair h' TO x y → ItX t1 h' i1 l1 (n1 + 1) → ItX t2 h' i2 l2 (n2 + 1) → IsPair h' s.heap.objs.size x y → h'.objs.size = s.heap.objs.size + 1 →
      KeepZ z TO i1 i2 s.heap h' → Q (.ref s.heap.objs.size) { s with heap := h' }) :
    wpAny (model prog w) A (Builtin.«zip.__next__» ⟨[.ref z], []⟩) (fun fin s' => ∃ v, fin = .done (.ret v) ∧ Q v s') E s := by
  show wpAny _ _ (field (.ref z) 2 >>= _) _ _ _
  refine wpAny_bind (wpAny_field az rfl (x := .bool false) rfl ?_)
  show wpAny _ _ (field (.ref z) 3 >>= _) _ _ _
  refine wpAny_bind (wpAny_field az rfl (x := .ref TI) rfl ?_)
  refine wpAny_bind (wpAny_seqItems aI rfl ?_)
  show wpAny _ _ (Builtin.SmallTypes.ownedTupleIsFree (.ref z) >>= _) _ _ _
  refine wpAny_bind ?_
  unfold Builtin.SmallTypes.ownedTupleIsFree
  refine wpAny_bind (wpAny_field az rfl (x := .none) rfl (wpAny_pure ?_))
  simp only [if_true]
  refine wpAny_bind (wpAny_rule ?_)
  refine wpAny_bind (wpAny_field az rfl (x := .ref TO) rfl ?_)
  refine wpAny_bind (wpAny_setField_rec az (by simp) fun j1 az1 b1 => ?_)
  replace az1 : IsZip j1 z TI TO .ellipsis := az1
  refine wpAny_bind ?_
  simp only [List.zipIdx_cons, List.zipIdx_nil, List.forIn_cons, List.forIn_nil]
  refine wpAny_bind (wpAny_bind (wpAny_onRaise ?_))
  show wpAny _ _ (Builtin.SmallTypes.nextOf (.ref i1) >>= _) _ _ _
  refine wpAny_bind (nextX_item (a1.but b1 D.i1z) (u1.but b1 D.l1z) e1 fun j2 a12 b2 => wpAny_pure ?_)
  have aO2 : IsPair j2 TO p q := b2.extBut _ _ D.TOi1 (b1.extBut _ _ D.TOz aO)
  refine wpAny_bind (wpAny_seqItems aO2 rfl ?_)
  refine wpAny_bind (wpAny_updateSeq_pair aO2 fun j3 aO3 b3 => ?_)
  replace aO3 : IsPair j3 TO x q := aO3
  refine wpAny_bind (wpAny_letGo (wpAny_pure ?_))
  refine wpAny_bind (wpAny_bind (wpAny_onRaise ?_))
  show wpAny _ _ (Builtin.SmallTypes.nextOf (.ref i2) >>= _) _ _ _
  refine wpAny_bind (nextX_item (((a2.but b1 D.i2z).but b2 D.i12.symm).but b3 D.TOi2.symm) (((u2.but b1 D.l2z).but b2 D.l2i1).but b3 D.l2TO) e2 fun j4 a24 b4 => wpAny_pure ?_)
  have aO4 : IsPair j4 TO x q := b4.extBut _ _ D.TOi2 aO3
  refine wpAny_bind (wpAny_seqItems aO4 rfl ?_)
  refine wpAny_bind (wpAny_updateSeq_pair aO4 fun j5 aO5 b5 => ?_)
  replace aO5 : IsPair j5 TO x y := aO5
  refine wpAny_bind (wpAny_letGo (wpAny_pure (wpAny_pure ?_)))
  refine wpAny_bind (wpAny_seqItems aO5 rfl ?_)
  refine wpAny_bind (wpAny_newTuple ?_)
  have sz5 : j5.objs.size = s.heap.objs.size := by rw [b5.1, b4.1, b3.1, b2.1, b1.1]
  have az5 : IsZip j5 z TI TO .ellipsis := b5.extBut _ _ D.TOz.symm (b4.extBut _ _ D.i2z.symm (b3.extBut _ _ D.TOz.symm (b2.extBut _ _ D.i1z.symm az1)))
  have st5 : KeepZ z TO i1 i2 s.heap j5 := fun c ob d1 d2 d3 d4 g => b5.extBut _ _ d2 (b4.extBut _ _ d4 (b3.extBut _ _ d2 (b2.extBut _ _ d3 (b1.extBut _ _ d1 g))))
  have a15 : ItX t1 j5 i1 l1 (n1 + 1) := ((a12.but b3 D.TOi1.symm).but b4 D.i12).but b5 D.TOi1.symm
  have a25 : ItX t2 j5 i2 l2 (n2 + 1) := a24.but b5 D.TOi2.symm
  have zlt : z < j5.objs.size := Heap.lt_size az5
  show wpAny _ _ (Builtin.SmallTypes.ownedTupleHandOut (.ref z) (.ref j5.objs.size) >>= _) _ _ _
  refine wpAny_bind ?_
  unfold Builtin.SmallTypes.ownedTupleHandOut
  have az6 : IsZip (j5.push { cls := .type "tuple", data := .seq #[x, y] }) z TI TO .ellipsis := Heap.get?_push_of_some _ az5
  refine wpAny_bind (wpAny_setField_rec az6 (by simp) fun j7 az7 b7 => ?_)
  replace az7 : IsZip j7 z TI TO (rawInt j5.objs.size) := az7
  refine wpAny_setField_rec az7 (by simp) fun j8 az8 b8 => ?_
  replace az8 : IsZip j8 z TI TO (rawInt j5.objs.size) := az8
  have up : ∀ c ob, c ≠ z → j5.get? c = some ob → j8.get? c = some ob := fun c ob d1 g => b8.extBut _ _ d1 (b7.extBut _ _ d1 (Heap.get?_push_of_some _ g))
  have pr8 : IsPair j8 j5.objs.size x y := b8.extBut _ _ (Nat.ne_of_gt zlt) (b7.extBut _ _ (Nat.ne_of_gt zlt) (Heap.get?_push_size _ rfl))
  have sz8 : j8.objs.size = j5.objs.size + 1 := by rw [b8.1, b7.1, Heap.size_push]
  rw [sz5] at az8 pr8 sz8
  refine wpAny_pure ⟨_, rfl, ?_⟩
  show Q (.ref j5.objs.size) _
  rw [sz5]
  exact k j8 az8 (up _ _ D.TOz aO5) (a15.to fun o g => up _ o D.i1z g) (a25.to fun o g => up _ o D.i2z g) pr8 sz8 fun c ob d1 d2 d3 d4 g => up c ob d1 (st5 c ob d1 d2 d3 d4 g)
theorem zipX_end {Q : Fin → Shared → Prop} (hh : A.handled = none) (D : ZipApart z TI TO i1 i2 l1 l2) (az : IsZip s.heap z TI TO .none) (aI : IsPair s.heap TI (.ref i1) (.ref i2)) (aO : IsPair s.heap TO p q)
    (a1 : ItX t1 s.heap i1 l1 n1) (a2 : ItX t2 s.heap i2 l2 n2) (u1 : IsX t1 s.heap l1 xs) (u2 : IsX t2 s.heap l2 ys) (en : xs[n1]? = none ∨ ys[n2]? = none)
    (k : ∀ h' e, KeepZ z TO i1 i2 s.heap h' → (∃ o, h'.get? e = some o ∧ o.cls = .type "StopIteration") → E (.ref e) { s with heap := h' }) :
    wpAny (model prog w) A (Builtin.«zip.__next__» ⟨[.ref z], []⟩) Q E s := by
  show wpAny _ _ (field (.ref z) 2 >>= _) _ _ _
  refine wpAny_bind (wpAny_field az rfl (x := .bool false) rfl ?_)
  show wpAny _ _ (field (.ref z) 3 >>= _) _ _ _
  refine wpAny_bind (wpAny_field az rfl (x := .ref TI) rfl ?_)
  refine wpAny_bind (wpAny_seqItems aI rfl ?_)
  show wpAny _ _ (Builtin.SmallTypes.ownedTupleIsFree (.ref z) >>= _) _ _ _
  refine wpAny_bind ?_
  unfold Builtin.SmallTypes.ownedTupleIsFree
  refine wpAny_bind (wpAny_field az rfl (x := .none) rfl (wpAny_pure ?_))
  simp only [if_true]
  refine wpAny_bind (wpAny_rule ?_)
  refine wpAny_bind (wpAny_field az rfl (x := .ref TO) rfl ?_)
  refine wpAny_bind (wpAny_setField_rec az (by simp) fun j1 az1 b1 => ?_)
  replace az1 : IsZip j1 z TI TO .ellipsis := az1
  refine wpAny_bind ?_
  simp only [List.zipIdx_cons, List.zipIdx_nil, List.forIn_cons, List.forIn_nil]
  refine wpAny_bind (wpAny_bind (wpAny_onRaise ?_))
  show wpAny _ _ (Builtin.SmallTypes.nextOf (.ref i1) >>= _) _ _ _
  cases g : xs[n1]? with
  | none =>
    refine wpAny_bind (nextX_end hh (a1.but b1 D.i1z) (u1.but b1 D.l1z) g fun j2 e b2 ⟨oe, ge, ce⟩ => ?_)
    have az2 : IsZip j2 z TI TO .ellipsis := b2 _ _ D.i1z.symm az1
    have ez : e ≠ z := fun m => by subst m; rw [az2] at ge; cases ge; simp at ce
    refine wpAny_setField_rec az2 (by simp) fun j3 _ b3 => k j3 e (fun c ob d1 _ d3 _ m => b3.extBut _ _ d1 (b2 _ _ d3 (b1.extBut _ _ d1 m))) ⟨oe, b3.extBut _ _ ez ge, ce⟩
  | some x =>
    have g2 : ys[n2]? = none := by
      rcases en with m | m
      · rw [g] at m; cases m
      · exact m
    refine wpAny_bind (nextX_item (a1.but b1 D.i1z) (u1.but b1 D.l1z) g fun j2 a12 b2 => wpAny_pure ?_)
    have aO2 : IsPair j2 TO p q := b2.extBut _ _ D.TOi1 (b1.extBut _ _ D.TOz aO)
    refine wpAny_bind (wpAny_seqItems aO2 rfl ?_)
    refine wpAny_bind (wpAny_updateSeq_pair aO2 fun j3 aO3 b3 => ?_)
    refine wpAny_bind (wpAny_letGo (wpAny_pure ?_))
    refine wpAny_bind (wpAny_bind (wpAny_onRaise ?_))
    show wpAny _ _ (Builtin.SmallTypes.nextOf (.ref i2) >>= _) _ _ _
    refine wpAny_bind (nextX_end hh (((a2.but b1 D.i2z).but b2 D.i12.symm).but b3 D.TOi2.symm) (((u2.but b1 D.l2z).but b2 D.l2i1).but b3 D.l2TO) g2 fun j4 e b4 ⟨oe, ge, ce⟩ => ?_)
    have az4 : IsZip j4 z TI TO .ellipsis := b4 _ _ D.i2z.symm (b3.extBut _ _ D.TOz.symm (b2.extBut _ _ D.i1z.symm az1))
    have ez : e ≠ z := fun m => by subst m; rw [az4] at ge; cases ge; simp at ce
    refine wpAny_setField_rec az4 (by simp) fun j5 _ b5 => k j5 e (fun c ob d1 d2 d3 d4 m => b5.extBut _ _ d1 (b4 _ _ d4 (b3.extBut _ _ d2 (b2.extBut _ _ d3 (b1.extBut _ _ d1 m))))) ⟨oe, b5.extBut _ _ ez ge, ce⟩
theorem pyNextX_item {Q : Option Value → Shared → Prop} (D : ZipApart z TI TO i1 i2 l1 l2) (az : IsZip s.heap z TI TO .none) (aI : IsPair s.heap TI (.ref i1) (.ref i2)) (aO : IsPair s.heap TO p q)
    (a1 : ItX t1 s.heap i1 l1 n1) (a2 : ItX t2 s.heap i2 l2 n2) (u1 : IsX t1 s.heap l1 xs) (u2 : IsX t2 s.heap l2 ys) (e1 : xs[n1]? = some x) (e2 : ys[n2]? = some y)
    (k : ∀ h', IsZip h' z TI TO (rawInt s.heap.objs.size) → IsPair h' TO x y → ItX t1 h' i1 l1 (n1 + 1) → ItX t2 h' i2 l2 (n2 + 1) → IsPair h' s.heap.objs.size x y → h'.objs.size = s.heap.objs.size + 1 →
      KeepZ z TO i1 i2 s.heap h' → Q (some (.ref s.heap.objs.size)) { s with heap := h' }) : wpAny (model prog w) A (pyNext (.ref z)) Q E s := by
  have ty : s.TypeIs (.ref z) "zip" := ⟨_, az, rfl⟩
  unfold pyNext
  exact wpAny_bind (wpAny_attempt (wpAny_callSpecial?_slot (name := Str.ofString "__next__") ty F.slot_zip_next (wpAny_call_entry F.slot_zip_next ty F.entry_zip_next
    (zipX_item D az aI aO a1 a2 u1 u2 e1 e2 fun h' c1 c2 c3 c4 c5 c6 c7 => wpAny_pure (k h' c1 c2 c3 c4 c5 c6 c7)) (F.args_zip_next_1 _))))
theorem pyNextX_end {Q : Option Value → Shared → Prop} (hh : A.handled = none) (D : ZipApart z TI TO i1 i2 l1 l2) (az : IsZip s.heap z TI TO .none) (aI : IsPair s.heap TI (.ref i1) (.ref i2)) (aO : IsPair s.heap TO p q)
    (a1 : ItX t1 s.heap i1 l1 n1) (a2 : ItX t2 s.heap i2 l2 n2) (u1 : IsX t1 s.heap l1 xs) (u2 : IsX t2 s.heap l2 ys) (en : xs[n1]? = none ∨ ys[n2]? = none)
    (k : ∀ h', KeepZ z TO i1 i2 s.heap h' → Q none { s with heap := h' }) : wpAny (model prog w) A (pyNext (.ref z)) Q E s := by
  have ty : s.TypeIs (.ref z) "zip" := ⟨_, az, rfl⟩
  unfold pyNext
  refine wpAny_bind (wpAny_attempt (wpAny_callSpecial?_slot (name := Str.ofString "__next__") ty F.slot_zip_next (wpAny_call_entry F.slot_zip_next ty F.entry_zip_next
    (zipX_end hh D az aI aO a1 a2 u1 u2 en fun h' e c1 ⟨o, ho, hc⟩ => ?_) (F.args_zip_next_1 _))))
  exact wpAny_bind (wpAny_isInstance (T := "StopIteration") (b := true) ⟨o, ho, hc⟩ isSubtype_stop (wpAny_pure (k _ c1)))
end
def itC (t : Bool) : Value := .type (if t = true then "tuple_iterator" else "list_iterator")
abbrev zx1 (t1 : Bool) (h : Heap) (l1 : Addr) : Heap := h.push { cls := itC t1, data := .fields #[.ref l1, .int 0 0] }
abbrev zx2 (t1 t2 : Bool) (h : Heap) (l1 l2 : Addr) : Heap := (zx1 t1 h l1).push { cls := itC t2, data := .fields #[.ref l2, .int 0 0] }
abbrev zx3 (t1 t2 : Bool) (h : Heap) (l1 l2 : Addr) : Heap := (zx2 t1 t2 h l1 l2).push { cls := .type "tuple", data := .seq #[.ref h.objs.size, .ref (zx1 t1 h l1).objs.size] }
abbrev zx4 (t1 t2 : Bool) (h : Heap) (l1 l2 : Addr) : Heap := (zx3 t1 t2 h l1 l2).push { cls := .type "tuple", data := .seq #[.none, .none] }
abbrev zx5 (t1 t2 : Bool) (h : Heap) (l1 l2 : Addr) : Heap := (zx4 t1 t2 h l1 l2).push { cls := .type "zip", data := .fields #[.none, .bool false, .bool false, .ref (zx2 t1 t2 h l1 l2).objs.size, .ref (zx3 t1 t2 h l1 l2).objs.size] }
theorem iterX {Q : Value → Shared → Prop} (u : IsX t s.heap l us) (k : Q (.ref s.heap.objs.size) { s with heap := s.heap.push { cls := itC t, data := .fields #[.ref l, .int 0 0] } }) : wpAny (model prog w) A (pyIter (.ref l)) Q E s := by
  cases t
  · exact wpAny_pyIter_list (show s.heap.IsList l us from u) k
  · exact wpAny_pyIter_tuple (show s.heap.IsTuple l us from u) k
theorem newX (l1 l2 : Addr) (xs ys : Array Value) :
    Meets (Builtin.«zip.__new__» ⟨[.type "zip", .ref l1, .ref l2], []⟩) (fun _ R s => IsX t1 s.heap l1 xs ∧ IsX t2 s.heap l2 ys ∧ R (.ok (.ret (.ref (zx4 t1 t2 s.heap l1 l2).objs.size))) { s with heap := zx5 t1 t2 s.heap l1 l2 }) :=
  .of_wp fun prog w A R s h => by
    obtain ⟨hp, g, d, tk, os⟩ := s
    obtain ⟨u1, u2, h⟩ := h
    have sb := sub_zip
    have v1 : IsX t1 (Shared.heap ⟨hp, g, d, tk, os⟩) l1 xs := u1
    have v2 : IsX t2 (Shared.heap ⟨hp.push { cls := itC t1, data := .fields #[.ref l1, .int 0 0] }, g, d, tk, os⟩) l2 ys := by
      cases t2
      · exact Heap.IsList.push (show Heap.IsList _ _ _ from u2) _
      · exact Heap.IsTuple.push (show Heap.IsTuple _ _ _ from u2) _
    wp_walk using iterX v1, iterX v2
    exact ⟨_, rfl, h⟩
theorem callX {l1 l2 : Addr} {xs ys : Array Value} {Q : Value → Shared → Prop} (u1 : IsX t1 s.heap l1 xs) (u2 : IsX t2 s.heap l2 ys)
    (k : ∀ h', IsZip h' (s.heap.objs.size + 4) (s.heap.objs.size + 2) (s.heap.objs.size + 3) .none → IsPair h' (s.heap.objs.size + 2) (.ref s.heap.objs.size) (.ref (s.heap.objs.size + 1)) → IsPair h' (s.heap.objs.size + 3) .none .none →
      ItX t1 h' s.heap.objs.size l1 0 → ItX t2 h' (s.heap.objs.size + 1) l2 0 → (∀ c o, s.heap.get? c = some o → h'.get? c = some o) → Q (.ref (s.heap.objs.size + 4)) { s with heap := h' }) :
    wpAny (model prog w) A (call (.type "zip") [.ref l1, .ref l2]) Q E s := by
  refine callType_new F.called_zip (by decide) (F.typeCall_zip_2 _ _) (F.newCall_zip_2 _ _) (fun obj => F.args_object_init_3 obj _ _) F.entry_zip_new (newX l1 l2 xs ys) ⟨u1, u2, ?_⟩
  have z1 : (zx1 t1 s.heap l1).objs.size = s.heap.objs.size + 1 := Heap.size_push ..
  have z2 : (zx2 t1 t2 s.heap l1 l2).objs.size = s.heap.objs.size + 2 := by rw [Heap.size_push, z1]
  have z3 : (zx3 t1 t2 s.heap l1 l2).objs.size = s.heap.objs.size + 3 := by rw [Heap.size_push, z2]
  have z4 : (zx4 t1 t2 s.heap l1 l2).objs.size = s.heap.objs.size + 4 := by rw [Heap.size_push, z3]
  have g5 : (zx5 t1 t2 s.heap l1 l2).get? (zx4 t1 t2 s.heap l1 l2).objs.size = some _ := Heap.get?_push_size _ rfl
  have g4 : (zx5 t1 t2 s.heap l1 l2).get? (zx3 t1 t2 s.heap l1 l2).objs.size = some _ := Heap.get?_push_of_some _ (Heap.get?_push_size _ rfl)
  have g3 : (zx5 t1 t2 s.heap l1 l2).get? (zx2 t1 t2 s.heap l1 l2).objs.size = some _ := Heap.get?_push_of_some _ (Heap.get?_push_of_some _ (Heap.get?_push_size _ rfl))
  have g2 : (zx5 t1 t2 s.heap l1 l2).get? (zx1 t1 s.heap l1).objs.size = some _ := Heap.get?_push_of_some _ (Heap.get?_push_of_some _ (Heap.get?_push_of_some _ (Heap.get?_push_size _ rfl)))
  have g1 : (zx5 t1 t2 s.heap l1 l2).get? s.heap.objs.size = some _ := Heap.get?_push_of_some _ (Heap.get?_push_of_some _ (Heap.get?_push_of_some _ (Heap.get?_push_of_some _ (Heap.get?_push_size _ rfl))))
  show _ ∧ _
  rw [z2, z3, z4] at g5
  rw [z1, z2] at g3
  rw [z3] at g4
  rw [z1] at g2
  rw [z4]
  have i1 : ItX t1 (zx5 t1 t2 s.heap l1 l2) s.heap.objs.size l1 0 := by
    cases t1
    · exact ⟨_, g1, rfl, rfl⟩
    · exact ⟨_, g1, rfl, rfl⟩
  have i2 : ItX t2 (zx5 t1 t2 s.heap l1 l2) (s.heap.objs.size + 1) l2 0 := by
    cases t2
    · exact ⟨_, g2, rfl, rfl⟩
    · exact ⟨_, g2, rfl, rfl⟩
  exact ⟨⟨_, g5, rfl⟩, k _ g5 g3 g4 i1 i2 fun c o x => Heap.get?_push_of_some _ (Heap.get?_push_of_some _ (Heap.get?_push_of_some _ (Heap.get?_push_of_some _ (Heap.get?_push_of_some _ x))))⟩
end
section
variable {X : Cx} {pins : List (Addr × Obj)} {σ : L2.St} {H : Hp} {s : Shared} {t : Bool} {a : Addr} {us ws : List V}
theorem inv_x (I : Inv X pins σ H s) (q : SqX t X.K H a us) : ∃ its, Vals us its ∧ IsX t s.heap a its.toArray ∧ a < s.heap.objs.size := by
  cases t
  · obtain ⟨its, r, p, _⟩ := I.list (show SqL X.K H a us from q)
    exact ⟨its, r, p.isList, p.lt⟩
  · obtain ⟨its, r, p, _⟩ := I.tuple (show SqT X.K H a us from q)
    have p' : s.heap.IsTuple a its.toArray := p
    obtain ⟨o, g, _⟩ := id p'
    exact ⟨its, r, p', Heap.lt_size g⟩
theorem inj_x (I : Inv X pins σ H s) (q : SqX t X.K H a us) (q' : SqX t X.K H a ws) : us = ws := by
  cases t
  · exact I.list_inj q q'
  · exact I.tuple_inj q q'
end
def ItzX (t1 t2 : Bool) (K : PySem.W.Frag) (a b : Addr) : It :=
  ⟨fun i H => ∃ (us ws : List V) (x y : V), SqX t1 K H a us ∧ SqX t2 K H b ws ∧ us[i]? = some x ∧ ws[i]? = some y,
    fun i H v H' => ∃ T x y, v = .ref T ∧ H T = none ∧ H' = upd H T (.tup [x, y]) ∧ (∀ us, SqX t1 K H a us → us[i]? = some x) ∧ ∀ ws, SqX t2 K H b ws → ws[i]? = some y,
    fun i H => ∃ us ws : List V, SqX t1 K H a us ∧ SqX t2 K H b ws ∧ (us.length ≤ i ∨ ws.length ≤ i)⟩
theorem turn_zipX {P : Program} {w : World} {K : PySem.W.Frag} {t1 t2 : Bool} {elts : List Expr} {kk : Nat} {tpos : Pos} {a b z TI TO i1 i2 : Addr} (D : ZipApart z TI TO i1 i2 a b) :
    Turn P w K (.Tuple elts kk tpos) (ItzX t1 t2 K a b) [z, TI, TO, i1, i2] z (fun i h => IsZip h z TI TO .none ∧ IsPair h TI (.ref i1) (.ref i2) ∧ (∃ x y, IsPair h TO x y) ∧ ItX t1 h i1 a i ∧ ItX t2 h i2 b i) where
  mem := by simp
  obj := fun i h st c hc => by
    obtain ⟨az, aI, ⟨x, y, aO⟩, a1, a2⟩ := st
    have e' : c = z ∨ c = TI ∨ c = TO ∨ c = i1 ∨ c = i2 := by simpa using hc
    rcases e' with m | m | m | m | m
    · rw [m]; exact ⟨_, az, fun v m => nomatch m⟩
    · rw [m]; exact ⟨_, aI, fun v m => nomatch m⟩
    · rw [m]; exact ⟨_, aO, fun v m => nomatch m⟩
    · rw [m]; exact a1.ob
    · rw [m]; exact a2.ob
  keep := fun i h h' st k => by
    obtain ⟨az, aI, ⟨x, y, aO⟩, a1, a2⟩ := st
    exact ⟨k z (by simp) _ az, k TI (by simp) _ aI, ⟨x, y, k TO (by simp) _ aO⟩, a1.to fun o m => k i1 (by simp) o m, a2.to fun o m => k i2 (by simp) o m⟩
  item := by
    intro X hP hw hK hc i pins s σ H E I hf st hg
    subst hP hw hK
    obtain ⟨az, aI, ⟨x0, y0, aO⟩, a1, a2⟩ := st
    obtain ⟨us, ws, x, y, q1, q2, e1, e2⟩ := hg
    obtain ⟨j1, r1, u1, _⟩ := inv_x I q1
    obtain ⟨j2, r2, u2, _⟩ := inv_x I q2
    obtain ⟨v1, f1, g1⟩ := r1.get e1
    obtain ⟨v2, f2, g2⟩ := r2.get e2
    have zl : z < s.heap.objs.size := Heap.lt_size az
    refine pyNextX_item D az aI aO a1 a2 u1 u2 (x := v1) (y := v2) (by simpa using f1) (by simpa using f2) fun h' z' O' b1 b2 hT hsz hk => ?_
    refine ⟨_, rfl, wpAny_letOwnedTupleGo_zip (s := { s with heap := h' }) z' fun h'' z'' sb => ?_⟩
    have hT2 : h''.get? s.heap.objs.size = some { cls := .type "tuple", data := .seq #[v1, v2] } := (sb.2 _ (Nat.ne_of_gt zl)).trans hT
    have new : ObjOk X.prog X.w (upd H s.heap.objs.size (.tup [x, y])) h'' s.heap.objs.size (.tup [x, y]) :=
      ⟨(by show 2 ≤ sizeLine; decide), [v1, v2], .cons g1 (.cons g2 .nil), ⟨_, hT2, rfl, _, rfl⟩⟩
    have I1 : Inv X pins σ (upd H s.heap.objs.size (.tup [x, y])) { s with heap := h'' } :=
      I.turnedNew (t' := s.toks) (ch := [z, TI, TO, i1, i2]) (fun c o hb m => (sb.2 c fun m' => hb (by simp [m'])).trans (hk c o (fun m' => hb (by simp [m'])) (fun m' => hb (by simp [m'])) (fun m' => hb (by simp [m'])) (fun m' => hb (by simp [m'])) m)) hf (Nat.le_refl _) new
    refine ⟨.ref s.heap.objs.size, _, I1, rfl, ⟨_, x, y, rfl, I.hok.fresh (Nat.le_refl _), rfl, fun l hl => by rw [inj_x I hl q1]; exact e1, fun l hl => by rw [inj_x I hl q2]; exact e2⟩, ⟨z'', ?_, ⟨v1, v2, ?_⟩, ?_, ?_⟩, fun c hcm => ?_⟩
    · exact (sb.2 _ D.TIz).trans (hk _ _ D.TIz D.TITO D.TIi1 D.TIi2 aI)
    · exact (sb.2 _ D.TOz).trans O'
    · exact b1.to fun o m => (sb.2 _ D.i1z).trans m
    · exact b2.to fun o m => (sb.2 _ D.i2z).trans m
    · have lt : c < s.heap.objs.size := by
        have e' : c = z ∨ c = TI ∨ c = TO ∨ c = i1 ∨ c = i2 := by simpa using hcm
        rcases e' with m | m | m | m | m
        · rw [m]; exact zl
        · rw [m]; exact Heap.lt_size aI
        · rw [m]; exact Heap.lt_size aO
        · rw [m]; obtain ⟨_, e, _⟩ := a1.ob; exact Heap.lt_size e
        · rw [m]; obtain ⟨_, e, _⟩ := a2.ob; exact Heap.lt_size e
      rw [upd_ne (Nat.ne_of_lt lt)]
      exact (hf c hcm).1
  done := by
    intro X hP hw hK hc i pins s σ H E I hf st hg
    subst hP hw hK
    obtain ⟨az, aI, ⟨x0, y0, aO⟩, a1, a2⟩ := st
    obtain ⟨us, ws, q1, q2, en⟩ := hg
    obtain ⟨j1, r1, u1, _⟩ := inv_x I q1
    obtain ⟨j2, r2, u2, _⟩ := inv_x I q2
    have l1 := r1.length
    have l2 := r2.length
    have he : j1.toArray[i]? = none ∨ j2.toArray[i]? = none := by
      rcases en with m | m
      · exact .inl (by simp; omega)
      · exact .inr (by simp; omega)
    exact pyNextX_end (I.ok.hd hc) D az aI aO a1 a2 u1 u2 he fun h' hk => ⟨rfl, I.turnedL (t' := s.toks) (ch := [z, TI, TO, i1, i2]) (fun c o hb m =>
      hk c o (fun m' => hb (by simp [m'])) (fun m' => hb (by simp [m'])) (fun m' => hb (by simp [m'])) (fun m' => hb (by simp [m'])) m) hf⟩
  self := fun A i s Q E st h => wpAny_pyIter_zip st.1 h
def iZipX (K : PySem.W.Frag) (ta : TA) : TI := fun σ H R => ta σ H fun vs H1 => ∃ t1 t2 a b us ws, vs = [.ref a, .ref b] ∧ SqX t1 K H1 a us ∧ SqX t2 K H1 b ws ∧ R (ItzX t1 t2 K a b) H1
open PySem.Spec PyProof.Rows in
theorem pi_zipX {X : Cx} {e e2 : Expr} {ta : TA} {p pos tpos : Pos} {elts : List Expr} {kk : Nat} (hg : Gl X "zip") (hm : X.mg "zip" = none) (ha : PA X [e, e2] ta)
    (hs : starEach [e, e2] X.env = (false, eval e X.env) :: starEach [e2] X.env) (hpl : (backTo pos (starEach [e2] X.env)).any (·.1) = false) :
    PI X (.Tuple elts kk tpos) (.Call (.Name "zip" p) [e, e2] [] pos) (iZipX X.K ta) := by
  refine ⟨fun pins s σ H R I h => Call_ (ld_blt I hg hm PyProof.Rows.boot_zip (PyProof.Rows.callWith_type1 (thn (ha.run pos pins s σ H _ I h) fun us s1 ⟨vs, H1, I1, r1, q1⟩ => ?_) hs hpl))⟩
  obtain ⟨t1, t2, a, b, xs, ys, rfl, q1, q2, q⟩ := q1
  obtain ⟨v1, us, rfl, r, r1⟩ : ∃ v1 us1, us = v1 :: us1 ∧ RelV (.ref a) v1 ∧ Vals [.ref b] us1 := by cases r1 with | cons r rr => exact ⟨_, _, rfl, r, rr⟩
  obtain ⟨v2, us, rfl, r', r1⟩ : ∃ v1 us1, us = v1 :: us1 ∧ RelV (.ref b) v1 ∧ Vals [] us1 := by cases r1 with | cons r rr => exact ⟨_, _, rfl, r, rr⟩
  cases r1
  cases r
  cases r'
  obtain ⟨j1, w1, u1, la⟩ := inv_x I1 q1
  obtain ⟨j2, w2, u2, lb⟩ := inv_x I1 q2
  refine callX u1 u2 fun h' az aI aO a1 a2 hk => wpAny_pyIter_zip az ?_
  have I2 : Inv X pins σ H1 { s1 with heap := h' } := I1.kept (t' := s1.toks) hk
  refine ⟨s1.heap.objs.size + 4, [s1.heap.objs.size + 4, s1.heap.objs.size + 2, s1.heap.objs.size + 3, s1.heap.objs.size, s1.heap.objs.size + 1], _, _, H1, rfl, I2, turn_zipX (PySem.W.ktu_apart s1.heap.objs.size a b la lb), ⟨az, aI, ⟨_, _, aO⟩, a1, a2⟩, fun c hcm => ?_, q⟩
  have le : s1.heap.objs.size ≤ c := by
    have e' : c = s1.heap.objs.size + 4 ∨ c = s1.heap.objs.size + 2 ∨ c = s1.heap.objs.size + 3 ∨ c = s1.heap.objs.size ∨ c = s1.heap.objs.size + 1 := by simpa using hcm
    rcases e' with m | m | m | m | m
    all_goals
      rw [m]
      first | exact Nat.le_add_right _ _ | exact Nat.le_refl _
  exact I1.fpOk le (I1.hok.fresh le)
/-- what a zip takes -/
def seqZ : D → Option (Bool × List D)
  | .tup ds => some (true, ds)
  | .lst ds => some (false, ds)
  | .frz ds => some (false, ds)
  | _ => none
def zipX : List D → Cells → R (List D) := fun ds h => match ds with
  | [x, y] => match seqZ x, seqZ y with
    | some a, some b => .ok (pairs a.2 b.2) h
    | _, _ => .bad
  | _ => .bad
def dZipX (da : DA) : DF := fun fn env h => (da fn env h).bind zipX
section
variable {X : Cx} {G : Gx} {g g' : Gh} {H H' : Hp} {h h' : Cells} {own : Nat → Option Addr} {env : Ev} {σ : L2.St} {ds es : List D} {xs ys : List V} {a b : Addr} {tg e e2 : Expr} {dr : DA} {x : Str} {v : Value} {p pos tpos : Pos} {elts : List Expr} {kk : Nat}
theorem seqZ_ok (og : GOk X G g) (r : HRel X.prog X.w g H h) {d : D} {v : V} {t : Bool} (q : RelT g H d v) (e : seqZ d = some (t, ds)) : ∃ a xs, v = .ref a ∧ RelsS g H ds xs ∧ SqX t X.K H a xs ∧ ∀ g' H', ExtS g H g' H' → SqX t X.K H' a xs := by
  cases d with
  | tup es =>
    cases e
    obtain ⟨a, xs, rfl, w1, w2⟩ := tup_ok og q
    refine ⟨a, xs, rfl, w2, w1, fun g' H' e => ?_⟩
    have z := SqT.exts r e (by rw [og.K]; exact w1)
    rw [e.K, og.K] at z
    exact z
  | lst es => cases e; exact lst_stands og q
  | frz es => cases e; exact frz_stands og r q
  | _ => cases e
theorem it_zipX {t1 t2 : Bool} (r : HRel X.prog X.w g H h) (sx : ∀ g' H', ExtS g H g' H' → SqX t1 X.K H' a xs) (sy : ∀ g' H', ExtS g H g' H' → SqX t2 X.K H' b ys) (qx : RelsS g H ds xs) (qy : RelsS g H es ys) : ItOk X (ItzX t1 t2 X.K a b) g H (pairs ds es) where
  goes := fun g' H' h' i hi e r' => by
    rw [pairs_len, qx.len, qy.len] at hi
    have h1 : i < xs.length := by omega
    have h2 : i < ys.length := by omega
    exact ⟨xs, ys, xs[i], ys[i], sx g' H' e, sy g' H' e, by simp [h1], by simp [h2]⟩
  stops := fun g' H' h' e r' => ⟨xs, ys, sx g' H' e, sy g' H' e, by rw [pairs_len, qx.len, qy.len]; omega⟩
  yields := fun g' H' h' i x H'' hi e r' y => by
    obtain ⟨T, u, w, rfl, hT, rfl, y1, y2⟩ := y
    obtain ⟨d, h1, h2⟩ := (RelsS.exts r e qx).getV (y1 xs (sx g' H' e))
    obtain ⟨d2, h3, h4⟩ := (RelsS.exts r e qy).getV (y2 ys (sy g' H' e))
    exact ⟨_, _, Ext.new r' hT, r'.new hT, pairs_get h1 h3, Ext.pair r' hT h2 h4⟩
theorem zipX_ (B : BltOk X "zip" v) (ha : PA X [e, e2] (tA X G dr)) (hs : isStar e = false) (hs2 : isStar e2 = false) : PI X (.Tuple elts kk tpos) (.Call (.Name "zip" p) [e, e2] [] pos) (tI X G (dZipX dr)) :=
  PI.imp (pi_zipX B.g B.m ha (by rw [star_cons hs]) (by rw [star_cons hs2]; rfl)) fun σ H R ⟨g, own, env, h, o, r, l, q⟩ => ⟨g, own, env, h, o, r, l, (Post.bind q).imp fun g1 H1 ds h1 e1 r1 q1 vs qv => by
    have o1 := o.ext e1
    unfold zipX at q1
    split at q1
    · split at q1
      · rename_i a1 b1 s1 s2
        obtain ⟨t1, as⟩ := a1
        obtain ⟨t2, bs⟩ := b1
        obtain ⟨y, z, rfl, z1, z2⟩ := rel2 qv
        obtain ⟨a, xs, rfl, w1, w2, w3⟩ := seqZ_ok o1 r1 z1 s1
        obtain ⟨b, ys, rfl, w4, w5, w6⟩ := seqZ_ok o1 r1 z2 s2
        exact ⟨t1, t2, a, b, xs, ys, rfl, w2, w5, Post.now r1 q1 _ (it_zipX r1 w3 w6 w1 w4)⟩
      · exact q1.elim
    · exact q1.elim⟩
end
@[simp] theorem e_dZipX {fn : Fns} {env : Ev} {h : Cells} {a : DA} : dZipX a fn env h = (a fn env h).bind zipX := (rfl)
@[simp] theorem e_zxTT {h : Cells} {a b : List D} : zipX [.tup a, .tup b] h = .ok (pairs a b) h := (rfl)
@[simp] theorem e_zxTL {h : Cells} {a b : List D} : zipX [.tup a, .lst b] h = .ok (pairs a b) h := (rfl)
@[simp] theorem e_zxLT {h : Cells} {a b : List D} : zipX [.lst a, .tup b] h = .ok (pairs a b) h := (rfl)
@[simp] theorem e_zxLL {h : Cells} {a b : List D} : zipX [.lst a, .lst b] h = .ok (pairs a b) h := (rfl)
end EV
/-! EV38: xs.count(x), sorted(xs) of ints, list(range(..)), range downwards -/
namespace EV
open PySem L2
/-- ints sorted -/
def isortI (ns : List Int) : List Int := ns.mergeSort (fun a b => decide (a ≤ b))
def cSort (ds : List D) (h : Cells) : R (List D) := match ds with
  | [d] => match (seqL h d).bind toInts with
    | some is => .ok ((isortI is).map D.int) h
    | none => .bad
  | _ => .bad
def dSortF (da : DA) : DF := fun fn env h => (da fn env h).bind fun ds h1 => cSort ds h1
def dLstRg (da : DE) : DF := fun fn env h => (da fn env h).bind fun d h1 => match d with
  | .int j => if decide (-1000000000 ≤ j) && decide (j ≤ 16777216) then .ok (upTo 0 j.toNat) h1 else .bad
  | _ => .bad
end EV
/-! EV101: a head's look at fewer objects: what the top's names reach, without the insides of built-in classes -/
namespace EV
open PySem L2
def rfx (o : Obj) : List Addr := match o.data with
  | .func fd => He.refV fd.code ++ He.refV fd.defaults ++ He.refV fd.kwdefaults ++ fd.closure.map (·.2)
  | .cls cd => cd.ns :: (He.refV o.cls ++ cd.mro.flatMap He.refV)
  | .seq its _ => its.toList.flatMap He.refV
  | .cell (some v) => He.refV v
  | _ => []
def rfy (o : Obj) : List Addr := match o.data with
  | .dict es _ => es.toList.flatMap fun e => He.refV e.val
  | .cls cd => [cd.ns]
  | _ => []
def outF (f : Obj → List Addr) (g : Addr → Option Obj) (as : List Addr) : List Addr := as.flatMap fun a => match g a with
  | some o => f o
  | none => []
def asX (g : Addr → Option Obj) : List Addr :=
  let a1 := outF (fun o => He.refsD o) g [mainGlobals]
  let a2 := (outF rfx g a1).eraseDups
  let a3 := outF (fun o => rfy o ++ rfx o) g a2
  let a4 := outF rfx g a3
  mainGlobals :: (a1 ++ a2 ++ a3 ++ a4)
def obX (fa : List He.Fa) (fn : List He.DefD) (g : Addr → Option Obj) : He.AlD := He.obsD fa fn (He.frG g (asX g))
def hookX (fa : List He.Fa) (fn : List He.DefD) : PySem.W.Hook where
  α := He.AlD
  obs := fun s => obX fa fn s.heap.get?
  val := fun _ => He.valD fn
  says := fun _ h => ∃ K : PySem.W.Frag, K.In h ∧ He.SaysD fa fn K
  of := fun _ _ e => ⟨_, He.frG_in, e⟩
  keeps := fun _ _ _ ⟨K, hK, c⟩ k => ⟨K, PySem.W.Frag.In.keeps hK k, c⟩
theorem obX_eq {fa : List He.Fa} {fn : List He.DefD} {g : Addr → Option Obj} {s : Shared} (h : ∀ a, g a = s.heap.get? a) : obX fa fn g = (hookX fa fn).obs s := by
  have e : g = s.heap.get? := funext h
  rw [e] <;> rfl
end EV
/-! EV45: xs.pop(i), xs.pop() of a list that is a cell -/
namespace EV
open PySem L2
def isObjL (h : Cells) (x : D) : Bool := match x with
  | .obj n => match h[n]? with
    | some (.lst _) => true
    | _ => false
  | _ => false
def cPopAt (x y : D) (h : Cells) : R D := match x, y with
  | .obj n, .int i => match h[n]? with
    | some (.lst ds) => if decide (-1000000000 ≤ i) && decide (i ≤ 1000000000) then match ixN ds.length i with
        | some k => match ds[k]? with
          | some d => .ok d (h.set n (.lst (ds.eraseIdx k)))
          | none => .bad
        | none => .bad
      else .bad
    | _ => .bad
  | _, _ => .bad
def dPopAt (a b : DE) : DE := fun fn env h => (a fn env h).bind fun x h1 => if isObjL h1 x = true then (b fn env h1).bind fun y h2 => cPopAt x y h2 else .bad
end EV
/-! EV46: // by divisors up to 2 ** 64 -/
namespace EV
open PySem L2
def dFdivW : O2 := fun x y h => match x, y with
  | .int i, .int j => if decide (0 < j) && decide (j < 18446744073709551616) then .ok (.int (i / j)) h else .bad
  | _, _ => .bad
@[simp] theorem e_fdivW {i j : Int} {h : Cells} : dFdivW (.int i) (.int j) h = if decide (0 < j) && decide (j < 18446744073709551616) then .ok (.int (i / j)) h else .bad := (rfl)
end EV
/-! EV61: a def's own cells are let go when it ends -/
namespace EV
open PySem L2
def lowKs (n : Nat) : List (D × D) → Bool
  | [] => true
  | p :: ps => lowD n p.1 && lowD n p.2 && lowKs n ps
def lowFs (n : Nat) : List (Str × D) → Bool
  | [] => true
  | p :: ps => lowD n p.2 && lowFs n ps
def lowO (n : Nat) : OB → Bool
  | .lst ds => lowDs n ds
  | .dic kvs => lowKs n kvs
  | .ins _ fs => lowFs n fs
  | .mem _ => true
def lowH (n : Nat) : Cells → Bool
  | [] => true
  | o :: os => lowO n o && lowH n os
def lowFl (n : Nat) : Fl → Bool
  | .rt d => lowD n d
  | _ => true
def noEnv (env : Ev) : Ev := env.map fun _ => .no
def cleanR (n : Nat) (h0 : Cells) (r : R (Fl × Ev)) : R (Fl × Ev) := match r with
  | .ok x h => if lowFl n x.1 && (!lowH n h0 || lowH n (h.take n)) then .ok (x.1, noEnv x.2) (h.take n) else .bad
  | .exc e h => .exc e h
  | .bad => .bad
def sClean (a : DS) : DS := fun fn env h => cleanR h.length h (a fn env h)
section
variable {X : Cx} {G : Gx} {g g' g0 : Gh} {H H' H0 : Hp} {h h' : Cells}
def Gh.cut (g' g : Gh) : Gh := { g' with ρ := g.ρ }
mutual
theorem RelS.cut {n : Nat} (hρ : ∀ m a, m < n → g'.ρ[m]? = some a → g.ρ[m]? = some a) : ∀ {d : D} {v : V}, lowD n d = true → RelS g' H d v → RelS (g'.cut g) H d v
  | .non, _, _, q | .bl _, _, _, q | .int _, _, _, q | .str _, _, _, q => by simpa only [RelS] using q
  | .tup ds, _, l, q => by
    simp only [RelS] at q ⊢
    obtain ⟨a, xs, e1, e2, e3⟩ := q
    exact ⟨a, xs, e1, e2, RelsS.cut hρ (by simpa only [lowD] using l) e3⟩
  | .lst ds, _, l, q => by
    simp only [RelS] at q ⊢
    obtain ⟨a, xs, e1, e2, e3⟩ := q
    exact ⟨a, xs, e1, e2, RelsS.cut hρ (by simpa only [lowD] using l) e3⟩
  | .bor ds, _, _, q => by simp only [RelS] at q
  | .frz ds, _, l, q => by
    simp only [RelS] at q ⊢
    obtain ⟨a, xs, e1, e2, e3⟩ := q
    exact ⟨a, xs, e1, e2, RelsS.cut hρ (by simpa only [lowD] using l) e3⟩
  | .obj m, _, l, q => by
    simp only [RelS] at q ⊢
    obtain ⟨a, e1, e2⟩ := q
    exact ⟨a, e1, hρ m a (by simpa only [lowD, decide_eq_true_eq] using l) e2⟩
  | .glob i, _, _, q => by
    simp only [RelS] at q ⊢
    exact q
theorem RelsS.cut {n : Nat} (hρ : ∀ m a, m < n → g'.ρ[m]? = some a → g.ρ[m]? = some a) : ∀ {ds : List D} {vs : List V}, lowDs n ds = true → RelsS g' H ds vs → RelsS (g'.cut g) H ds vs
  | [], _, _, q => by simpa only [RelsS] using q
  | d :: ds, _, l, q => by
    simp only [lowDs, Bool.and_eq_true] at l
    simp only [RelsS] at q ⊢
    obtain ⟨x, rr, e1, e2, e3⟩ := q
    exact ⟨x, rr, e1, RelS.cut hρ l.1 e2, RelsS.cut hρ l.2 e3⟩
end
theorem lowKs_mem {n : Nat} : ∀ {ps : List (D × D)}, lowKs n ps = true → ∀ p ∈ ps, lowD n p.1 = true ∧ lowD n p.2 = true
  | [], _, _, m => by cases m
  | q :: ps, l, p, m => by
    simp only [lowKs, Bool.and_eq_true] at l
    rcases List.mem_cons.mp m with rfl | m
    · exact l.1
    · exact lowKs_mem l.2 p m
theorem lowFs_mem {n : Nat} : ∀ {ps : List (Str × D)}, lowFs n ps = true → ∀ p ∈ ps, lowD n p.2 = true
  | [], _, _, m => by cases m
  | q :: ps, l, p, m => by
    simp only [lowFs, Bool.and_eq_true] at l
    rcases List.mem_cons.mp m with rfl | m
    · exact l.1
    · exact lowFs_mem l.2 p m
theorem lowH_mem {n : Nat} : ∀ {os : Cells}, lowH n os = true → ∀ o ∈ os, lowO n o = true
  | [], _, _, m => by cases m
  | q :: ps, l, p, m => by
    simp only [lowH, Bool.and_eq_true] at l
    rcases List.mem_cons.mp m with rfl | m
    · exact l.1
    · exact lowH_mem l.2 p m
theorem Paired.mapM {α β : Type} {R S : α → β → Prop} : ∀ {xs : List α} {ys : List β}, Paired R xs ys → (∀ x ∈ xs, ∀ y, R x y → S x y) → Paired S xs ys := by
  intro xs ys p
  induction p with
  | nil => exact fun _ => .nil
  | cons a _ ih => exact fun k => .cons (k _ (.head _) _ a) (ih fun x hx => k x (.tail _ hx))
mutual
theorem lowD0 {n : Nat} : ∀ {d : D}, lowD 0 d = true → lowD n d = true
  | .non, _ | .bl _, _ | .int _, _ | .str _, _ | .glob _, _ => by simp only [lowD]
  | .tup ds, q | .lst ds, q | .bor ds, q | .frz ds, q => by
    simp only [lowD] at q ⊢
    exact lowDs0 q
  | .obj m, q => by simp [lowD] at q
theorem lowDs0 {n : Nat} : ∀ {ds : List D}, lowDs 0 ds = true → lowDs n ds = true
  | [], _ => by simp only [lowDs]
  | d :: ds, q => by
    simp only [lowDs, Bool.and_eq_true] at q ⊢
    exact ⟨lowD0 q.1, lowDs0 q.2⟩
end
theorem dicCut {n : Nat} (hρ : ∀ m a, m < n → g'.ρ[m]? = Option.some a → g.ρ[m]? = Option.some a) {a : Addr} {kvs : List (D × D)} (lm : ∀ p ∈ kvs, lowD n p.1 = true ∧ lowD n p.2 = true) (q : Dic X.prog X.w g' H a kvs) : Dic X.prog X.w (g'.cut g) H a kvs := by
  cases q with
  | k xs h1 h2 => exact Dic.k xs h1 (Paired.mapM h2 fun x hx _ z => ⟨z.1, RelS.cut hρ (lm x hx).2 z.2⟩)
  | t xs h1 h2 h3 h4 h5 => exact Dic.t xs h1 h2 h3 h4 (Paired.mapM h5 fun x hx _ z => ⟨z.1, z.2.1, RelS.cut hρ (lm x hx).1 z.2.2.1, let ⟨v, z1, z2⟩ := z.2.2.2; ⟨v, z1, RelS.cut hρ (lm x hx).2 z2⟩⟩)
theorem cellCut {n : Nat} (hρ : ∀ m a, m < n → g'.ρ[m]? = Option.some a → g.ρ[m]? = Option.some a) {a : Addr} {o : OB} (l : lowO n o = true) (q : CellRel X.prog X.w g' H a o) : CellRel X.prog X.w (g'.cut g) H a o := by
  cases o with
  | lst ds =>
    obtain ⟨xs, h1, h2⟩ := q
    exact ⟨xs, h1, RelsS.cut hρ l h2⟩
  | dic kvs =>
    have lm := lowKs_mem (ps := kvs) l
    cases (show Dic _ _ _ _ _ _ from q) with
    | k xs h1 h2 => exact Dic.k xs h1 (Paired.mapM h2 fun x hx _ z => ⟨z.1, RelS.cut hρ (lm x hx).2 z.2⟩)
    | t xs h1 h2 h3 h4 h5 => exact Dic.t xs h1 h2 h3 h4 (Paired.mapM h5 fun x hx _ z => ⟨z.1, z.2.1, RelS.cut hρ (lm x hx).1 z.2.2.1, let ⟨v, z1, z2⟩ := z.2.2.2; ⟨v, z1, RelS.cut hρ (lm x hx).2 z2⟩⟩)
  | ins c fs =>
    have lm := lowFs_mem (ps := fs) l
    obtain ⟨C, dx, vs, h1, h2, h3⟩ := q
    exact ⟨C, dx, vs, h1, h2, Paired.mapM h3 fun x hx _ z => ⟨z.1, RelS.cut hρ (lm x hx) z.2⟩⟩
  | mem M =>
    obtain ⟨kvs, h1, h2⟩ := q
    exact ⟨kvs, h1, dicCut hρ (fun p hp => let z := (M.low kvs h1 p hp).1; ⟨lowD0 z.1, lowD0 z.2⟩) h2⟩
theorem cutρ (r : HRel X.prog X.w g H h) (pre : ∃ t, g'.ρ = g.ρ ++ t) : ∀ m a, m < h.length → g'.ρ[m]? = some a → g.ρ[m]? = some a := by
  intro m a hm e
  obtain ⟨t, z⟩ := pre
  rw [z, List.getElem?_append_left (by rw [r.len]; exact hm)] at e
  exact e
theorem HRel.cut {h1 : Cells} (r : HRel X.prog X.w g H h) (pre : ∃ t, g'.ρ = g.ρ ++ t) (r' : HRel X.prog X.w g' H' h1) (l : lowH h.length (h1.take h.length) = true) : HRel X.prog X.w (g'.cut g) H' (h1.take h.length) where
  len := by
    obtain ⟨t, z⟩ := pre
    have := r'.len
    rw [z, List.length_append, r.len] at this
    show g.ρ.length = _
    rw [List.length_take, r.len]; omega
  nd := r.nd
  wr := fun a m => r'.wr a (by obtain ⟨t, z⟩ := pre; rw [z]; exact List.mem_append_left _ m)
  wt := r'.wt
  at_ := fun m a o e1 e2 => by
    have hm : m < h.length := by
      have := (List.getElem?_eq_some_iff.mp e1).1
      rwa [show (g'.cut g).ρ = g.ρ from rfl, r.len] at this
    have e1' : g'.ρ[m]? = some a := by
      obtain ⟨t, z⟩ := pre
      rw [z, List.getElem?_append_left (by rw [r.len]; exact hm)]
      exact e1
    have e2' : h1[m]? = some o := by
      rw [List.getElem?_take, if_pos hm] at e2; exact e2
    exact cellCut (cutρ r pre) (lowH_mem l o (List.mem_of_getElem? e2)) (r'.at_ m a o e1' e2')
mutual
theorem RelS.low : ∀ {d : D} {v : V}, RelS g H d v → lowD g.ρ.length d = true
  | .non, _, _ | .bl _, _, _ | .int _, _, _ | .str _, _, _ | .glob _, _, _ => rfl
  | .tup ds, _, q => by
    simp only [RelS] at q
    obtain ⟨a, xs, e1, e2, e3⟩ := q
    simp only [lowD, RelsS.low e3]
  | .lst ds, _, q => by
    simp only [RelS] at q
    obtain ⟨a, xs, e1, e2, e3⟩ := q
    simp only [lowD, RelsS.low e3]
  | .bor ds, _, q => by simp only [RelS] at q
  | .frz ds, _, q => by
    simp only [RelS] at q
    obtain ⟨a, xs, e1, e2, e3⟩ := q
    simp only [lowD, RelsS.low e3]
  | .obj m, _, q => by
    simp only [RelS] at q
    obtain ⟨a, e1, e2⟩ := q
    simp only [lowD, (List.getElem?_eq_some_iff.mp e2).1, decide_true]
theorem RelsS.low : ∀ {ds : List D} {vs : List V}, RelsS g H ds vs → lowDs g.ρ.length ds = true
  | [], _, _ => by simp only [lowDs]
  | d :: ds, _, q => by
    simp only [RelsS] at q
    obtain ⟨x, rr, e1, e2, e3⟩ := q
    simp only [lowDs, RelS.low e2, RelsS.low e3, Bool.and_true]
end
theorem lowKs_of {n : Nat} : ∀ {ps : List (D × D)}, (∀ p ∈ ps, lowD n p.1 = true ∧ lowD n p.2 = true) → lowKs n ps = true
  | [], _ => rfl
  | q :: ps, l => by simp [lowKs, l q (.head _), lowKs_of fun p hp => l p (.tail _ hp)]
theorem lowFs_of {n : Nat} : ∀ {ps : List (Str × D)}, (∀ p ∈ ps, lowD n p.2 = true) → lowFs n ps = true
  | [], _ => rfl
  | q :: ps, l => by simp [lowFs, l q (.head _), lowFs_of fun p hp => l p (.tail _ hp)]
theorem lowH_of {n : Nat} : ∀ {os : Cells}, (∀ o ∈ os, lowO n o = true) → lowH n os = true
  | [], _ => rfl
  | q :: ps, l => by simp [lowH, l q (.head _), lowH_of fun p hp => l p (.tail _ hp)]
theorem Paired.mem1 {α β : Type} {R : α → β → Prop} : ∀ {xs : List α} {ys : List β}, Paired R xs ys → ∀ x ∈ xs, ∃ y, R x y := by
  intro xs ys p
  induction p with
  | nil => exact fun _ h => nomatch h
  | cons a _ ih =>
    intro x hx
    rcases List.mem_cons.mp hx with rfl | hx
    · exact ⟨_, a⟩
    · exact ih x hx
theorem keyD_low {n : Nat} {k : Key} : lowD n (keyD k) = true := by cases k <;> rfl
theorem HRel.low (r : HRel X.prog X.w g H h) : lowH h.length h = true := by
  rw [← r.len]
  refine lowH_of fun o ho => ?_
  obtain ⟨m, hm⟩ := List.getElem?_of_mem ho
  have hl : m < g.ρ.length := by rw [r.len]; exact (List.getElem?_eq_some_iff.mp hm).1
  have q := r.at_ m g.ρ[m] o (by simp [hl]) hm
  cases o with
  | lst ds =>
    obtain ⟨xs, h1, h2⟩ := q
    exact RelsS.low h2
  | dic kvs =>
    refine lowKs_of fun p hp => ?_
    cases (show Dic _ _ _ _ _ _ from q) with
    | k xs h1 h2 =>
      obtain ⟨y, e1, e2⟩ := Paired.mem1 h2 p hp
      exact ⟨by rw [e1]; exact keyD_low, RelS.low e2⟩
    | t xs h1 h2 h3 h4 h5 =>
      obtain ⟨y, _, _, e1, v, _, e2⟩ := Paired.mem1 h5 p hp
      exact ⟨RelS.low e1, RelS.low e2⟩
  | ins c fs =>
    obtain ⟨C, dx, vs, h1, h2, h3⟩ := q
    refine lowFs_of fun p hp => ?_
    obtain ⟨y, _, e2⟩ := Paired.mem1 h3 p hp
    exact RelS.low e2
  | mem M => rfl
theorem tS.clean {ds : DS} {Dn : Ends} {σ : L2.St} (q : tS X G g0 H0 (sClean ds) Dn σ H) : tS X G g0 H0 ds Dn σ H := by
  obtain ⟨g, own, env, h, og, r, l, en, p⟩ := q
  refine ⟨g, own, env, h, og, r, l, en, ?_⟩
  unfold sClean at p
  cases e : ds G.fns env h with
  | bad => rw [e] at p; exact p
  | ok x h1 =>
    obtain ⟨fl, env1⟩ := x
    rw [e] at p
    unfold cleanR at p
    dsimp only at p
    split at p
    · rename_i c
      simp only [Bool.and_eq_true] at c
      rw [r.low] at c
      simp only [Bool.not_true, Bool.false_or] at c
      intro g' own' H' σ' og' r' l' en' ex'
      have q := p (g'.cut g) (fun _ => none) H' σ' ⟨og'.K, og'.gA⟩ (HRel.cut r ex'.pre r' c.2)
        { len := by rw [noEnv, List.length_map]; exact l'.len
          inj := fun i j a z => by cases z
          ow := fun i a z => by cases z
          sl := fun i s z => by
            rw [noEnv, List.getElem?_map] at z
            obtain ⟨_, _, rfl⟩ := Option.map_eq_some_iff.mp z
            trivial }
        ⟨{ K := en'.ext.K, gA := en'.ext.gA, pre := en.ext.pre, wn := en'.ext.wn, wk := en'.ext.wk
           rw := fun a m => r'.wr a (by obtain ⟨t, z⟩ := ex'.pre; rw [z]; exact List.mem_append_left _ m)
           fr := en'.ext.fr, nw := en.ext.nw }, fun i a z => by cases z⟩
        { K := ex'.K, gA := ex'.gA, pre := ⟨[], by simp [Gh.cut]⟩, wn := ex'.wn, fr := ex'.fr }
      cases fl with
      | rt d => exact fun v rv => q v (RelS.cut (cutρ r ex'.pre) c.1 rv)
      | nx => exact q
      | bk => exact q
      | ct => exact q
    · exact p.elim
  | exc e1 h1 =>
    rw [e] at p
    exact p
theorem ss_clean {sts : List Stmt} {da : DS} (h : PSs X sts (tS X G g0 H0 da)) : PSs X sts (tS X G g0 H0 (sClean da)) := PSs.imp h fun _ _ _ q => q.clean
end
/-! ### a list of one's own is lent -/
def noLstK : List (D × D) → Bool
  | [] => true
  | p :: ps => noLst p.1 && noLst p.2 && noLstK ps
def noLstF : List (Str × D) → Bool
  | [] => true
  | p :: ps => noLst p.2 && noLstF ps
def noLstO : OB → Bool
  | .lst ds => noLsts ds
  | .dic kvs => noLstK kvs
  | .ins _ fs => noLstF fs
  | .mem _ => true
def noLstH : Cells → Bool
  | [] => true
  | o :: os => noLstO o && noLstH os
section
variable {X : Cx} {G : Gx} {g g' g0 : Gh} {H H' H0 : Hp} {h h' : Cells} {p : Addr}
def Gh.back (g : Gh) (p : Addr) : Gh := { g with W := fun a => g.W a ∨ a = p }
mutual
theorem RelS.back : ∀ {d : D} {v : V}, noLst d = true → RelS g H d v → RelS (g.back p) H d v
  | .non, _, _, q | .bl _, _, _, q | .int _, _, _, q | .str _, _, _, q => by simpa only [RelS] using q
  | .tup ds, _, l, q => by
    simp only [RelS] at q ⊢
    obtain ⟨a, xs, e1, e2, e3⟩ := q
    exact ⟨a, xs, e1, e2, RelsS.back (by simpa only [noLst] using l) e3⟩
  | .lst ds, _, l, q => by simp only [noLst, Bool.false_eq_true] at l
  | .bor ds, _, _, q => by simp only [RelS] at q
  | .frz ds, _, l, q => by
    simp only [RelS] at q ⊢
    obtain ⟨a, xs, e1, e2, e3⟩ := q
    exact ⟨a, xs, e1, e2, RelsS.back (by simpa only [noLst] using l) e3⟩
  | .obj m, _, l, q => by
    simp only [RelS] at q ⊢
    exact q
  | .glob i, _, _, q => by
    simp only [RelS] at q ⊢
    exact q
theorem RelsS.back : ∀ {ds : List D} {vs : List V}, noLsts ds = true → RelsS g H ds vs → RelsS (g.back p) H ds vs
  | [], _, _, q => by simpa only [RelsS] using q
  | d :: ds, _, l, q => by
    simp only [noLsts, Bool.and_eq_true] at l
    simp only [RelsS] at q ⊢
    obtain ⟨x, rr, e1, e2, e3⟩ := q
    exact ⟨x, rr, e1, RelS.back l.1 e2, RelsS.back l.2 e3⟩
end
theorem noLstK_mem : ∀ {ps : List (D × D)}, noLstK ps = true → ∀ p ∈ ps, noLst p.1 = true ∧ noLst p.2 = true
  | [], _, _, m => by cases m
  | q :: ps, l, p, m => by
    simp only [noLstK, Bool.and_eq_true] at l
    rcases List.mem_cons.mp m with rfl | m
    · exact l.1
    · exact noLstK_mem l.2 p m
theorem noLstF_mem : ∀ {ps : List (Str × D)}, noLstF ps = true → ∀ p ∈ ps, noLst p.2 = true
  | [], _, _, m => by cases m
  | q :: ps, l, p, m => by
    simp only [noLstF, Bool.and_eq_true] at l
    rcases List.mem_cons.mp m with rfl | m
    · exact l.1
    · exact noLstF_mem l.2 p m
theorem noLstH_mem : ∀ {os : Cells}, noLstH os = true → ∀ o ∈ os, noLstO o = true
  | [], _, _, m => by cases m
  | q :: ps, l, p, m => by
    simp only [noLstH, Bool.and_eq_true] at l
    rcases List.mem_cons.mp m with rfl | m
    · exact l.1
    · exact noLstH_mem l.2 p m
theorem noLstH_app : ∀ {a b : Cells}, noLstH (a ++ b) = (noLstH a && noLstH b)
  | [], _ => rfl
  | o :: a, b => by simp [noLstH, noLstH_app (a := a) (b := b), Bool.and_assoc]
theorem noLstH_set {o : OB} (ho : noLstO o = true) : ∀ {a : Cells} {n : Nat}, noLstH a = true → noLstH (a.set n o) = true
  | [], _, _ => rfl
  | x :: a, 0, q => by
    simp only [noLstH, Bool.and_eq_true] at q
    simp [noLstH, ho, q.2]
  | x :: a, n + 1, q => by
    simp only [noLstH, Bool.and_eq_true] at q
    simp [noLstH, q.1, noLstH_set ho (a := a) (n := n) q.2]
theorem cellBack {a : Addr} {o : OB} (l : noLstO o = true) (q : CellRel X.prog X.w g H a o) : CellRel X.prog X.w (g.back p) H a o := by
  cases o with
  | lst ds =>
    obtain ⟨xs, h1, h2⟩ := q
    exact ⟨xs, h1, RelsS.back l h2⟩
  | dic kvs =>
    have lm := noLstK_mem (ps := kvs) l
    cases (show Dic _ _ _ _ _ _ from q) with
    | k xs h1 h2 => exact Dic.k xs h1 (Paired.mapM h2 fun x hx _ z => ⟨z.1, RelS.back (lm x hx).2 z.2⟩)
    | t xs h1 h2 h3 h4 h5 => exact Dic.t xs h1 h2 h3 h4 (Paired.mapM h5 fun x hx _ z => ⟨z.1, z.2.1, RelS.back (lm x hx).1 z.2.2.1, let ⟨v, z1, z2⟩ := z.2.2.2; ⟨v, z1, RelS.back (lm x hx).2 z2⟩⟩)
  | ins c fs =>
    have lm := noLstF_mem (ps := fs) l
    obtain ⟨C, dx, vs, h1, h2, h3⟩ := q
    exact ⟨C, dx, vs, h1, h2, Paired.mapM h3 fun x hx _ z => ⟨z.1, RelS.back (lm x hx) z.2⟩⟩
  | mem M =>
    obtain ⟨kvs, h1, h2⟩ := q
    have lm := fun x hx => (M.low kvs h1 x hx).2
    refine ⟨kvs, h1, ?_⟩
    cases h2 with
    | k xs h1 h2 => exact Dic.k xs h1 (Paired.mapM h2 fun x hx _ z => ⟨z.1, RelS.back (lm x hx).2 z.2⟩)
    | t xs h1 h2 h3 h4 h5 => exact Dic.t xs h1 h2 h3 h4 (Paired.mapM h5 fun x hx _ z => ⟨z.1, z.2.1, RelS.back (lm x hx).1 z.2.2.1, let ⟨v, z1, z2⟩ := z.2.2.2; ⟨v, z1, RelS.back (lm x hx).2 z2⟩⟩)
theorem HRel.back {xs : List V} (r : HRel X.prog X.w g' H' h') (hp : H' p = some (.lst xs)) (l : noLstH h' = true) : HRel X.prog X.w (g'.back p) H' h' where
  len := r.len
  nd := r.nd
  wr := fun a m => .inl (r.wr a m)
  wt := fun a u z e => by
    rcases z with z | rfl
    · exact r.wt a u z e
    · rw [hp] at e
      cases e
      exact ⟨(fun ys z => by cases z), (fun _ _ z => by cases z)⟩
  at_ := fun m a o e1 e2 => cellBack (noLstH_mem l o (List.mem_of_getElem? e2)) (r.at_ m a o e1 e2)
end
end EV
/-! EV71: dicts whose keys are tuples (of tuples) -/
namespace EV
open PySem L2
/-- a tuple as a key -/
def dicKey : D → Option NestedKey
  | .tup ds => match D.key (.tup ds) with
    | some k => if k.depth ≤ 8 then some k else none
    | none => none
  | _ => none
def isTup : D → Bool
  | .tup _ => true
  | _ => false
def dicAt (kvs : List (D × D)) (k : NestedKey) : Option D := (kvs.find? fun p => decide (D.key p.1 = some k)).map (·.2)
def dicPut (kvs : List (D × D)) (d : D) (k : NestedKey) (v : D) : List (D × D) :=
  if (dicAt kvs k).isSome then kvs.map fun p => if D.key p.1 = some k then (p.1, v) else p else kvs ++ [(d, v)]
def dicOf (h : Cells) : D → Option (List (D × D))
  | .obj n => match h[n]? with
    | some (.dic kvs) => if kvs.all fun p => isTup p.1 then some kvs else none
    | _ => none
  | _ => none
def dNotInM : O2 := fun x y h => match dicOf h y, dicKey x with
  | some kvs, some k => .ok (.bl (!(dicAt kvs k).isSome)) h
  | _, _ => .bad
def dGet : O2 := fun x y h => match dicOf h x, dicKey y with
  | some kvs, some k => match dicAt kvs k with
    | some v => .ok v h
    | none => .bad
  | _, _ => .bad
def putDic (y k v : D) (env : Ev) (h : Cells) : R (Fl × Ev) := match y, dicOf h y, dicKey k with
  | .obj n, some kvs, some q => if isBor v || decide (szL ≤ kvs.length) then .bad else .ok (.nx, env) (h.set n (.dic (dicPut kvs k q v)))
  | _, _, _ => .bad
/-- o[k] = .. -/
def gDic (a b : DE) : DG := fun d fn env h => (a fn env h).bind fun y h1 => (b fn env h1).bind fun k h2 => putDic y k d env h2
section
variable {X : Cx} {G : Gx} {g g' g0 : Gh} {H H' H0 : Hp} {h h' : Cells} {own : Nat → Option Addr} {env : Ev} {σ : L2.St} {pins : List (Addr × Obj)} {s : Shared}
mutual
theorem nestIs (I : Inv X pins σ H s) (og : GOk X G g) : ∀ {d : D} {v : V} {u : Value} {k : NestedKey}, RelS g H d v → D.key d = some k → RelV v u → NestedIs s.heap k u
  | .non, _, _, _, q, e, r => by
    simp only [RelS] at q
    simp only [D.key, Option.some.injEq] at e
    subst q; subst e
    cases (show _ = Value.none from r)
    exact .none
  | .bl b, _, _, _, q, e, r => by
    simp only [RelS] at q
    simp only [D.key, Option.some.injEq] at e
    subst q; subst e
    cases (show _ = Value.bool b from r)
    exact .bool rfl
  | .int i, _, _, _, q, e, r => by
    simp only [RelS] at q
    simp only [D.key, Option.some.injEq] at e
    subst q; subst e
    obtain ⟨t, rfl⟩ := r
    exact .int i t
  | .str x, _, _, _, q, e, r => by
    simp only [RelS] at q
    simp only [D.key, Option.some.injEq] at e
    subst q; subst e
    obtain ⟨t, rfl⟩ := r
    exact .text x t
  | .tup ds, _, _, _, q, e, r => by
    simp only [RelS] at q
    obtain ⟨a, xs, rfl, e2, e3⟩ := q
    cases (show _ = Value.ref a from r)
    simp only [D.key, Option.map_eq_some_iff] at e
    obtain ⟨ks, e4, rfl⟩ := e
    obtain ⟨its, r1, ⟨o, h1, h2, n, h3⟩, _⟩ := I.tuple (by rw [← og.K]; exact e2)
    exact .tup h1 h2 h3 (by simpa using nestAll I og e3 e4 r1)
  | .lst _, _, _, _, _, e, _ | .bor _, _, _, _, _, e, _ | .frz _, _, _, _, _, e, _ | .obj _, _, _, _, _, e, _ | .glob _, _, _, _, _, e, _ => by simp [D.key] at e
theorem nestAll (I : Inv X pins σ H s) (og : GOk X G g) : ∀ {ds : List D} {vs : List V} {us : List Value} {ks : List NestedKey}, RelsS g H ds vs → D.keys ds = some ks → Vals vs us → NestedAll s.heap ks us
  | [], _, _, _, q, e, r => by
    simp only [RelsS] at q
    simp only [D.keys, Option.some.injEq] at e
    subst q; subst e
    cases r
    exact .nil
  | d :: ds, _, _, _, q, e, r => by
    simp only [RelsS] at q
    obtain ⟨x, rr, rfl, e2, e3⟩ := q
    simp only [D.keys] at e
    cases e4 : D.key d with
    | none => rw [e4] at e; cases e
    | some k =>
      cases e5 : D.keys ds with
      | none => rw [e4, e5] at e; cases e
      | some ks =>
        rw [e4, e5] at e
        cases e
        cases r with
        | cons r1 r2 => exact .cons (nestIs I og e2 e4 r1) (nestAll I og e3 e5 r2)
end
abbrev KvR (g : Gh) (H : Hp) (kvs : List (D × D)) (xs : List (NestedKey × Addr × Value)) : Prop :=
  Paired (fun (p : D × D) (q : NestedKey × Addr × Value) => D.key p.1 = some q.1 ∧ q.1.depth ≤ 8 ∧ RelS g H p.1 (.ref q.2.1) ∧ ∃ v, RelV v q.2.2 ∧ RelS g H p.2 v) kvs xs
theorem KvR.get {kvs : List (D × D)} {xs : List (NestedKey × Addr × Value)} (r : KvR g H kvs xs) (k : NestedKey) :
    (dicAt kvs k = none ∧ atKey xs k = none) ∨ ∃ d p v, dicAt kvs k = some d ∧ atKey xs k = some p ∧ RelV v p.2 ∧ RelS g H d v := by
  induction r with
  | nil => exact .inl ⟨rfl, rfl⟩
  | @cons p q ps qs h t ih =>
    obtain ⟨h1, h2, h3, v, h4, h5⟩ := h
    by_cases e : q.1 = k
    · refine .inr ⟨p.2, q.2, v, ?_, ?_, h4, h5⟩
      · simp [dicAt, List.find?_cons, h1, e]
      · simp [atKey, List.find?_cons, e]
    · have a1 : dicAt (p :: ps) k = dicAt ps k := by simp [dicAt, List.find?_cons, h1, e]
      have a2 : atKey (q :: qs) k = atKey qs k := by simp [atKey, List.find?_cons, e]
      rw [a1, a2]; exact ih
theorem KvR.repl {kvs : List (D × D)} {xs : List (NestedKey × Addr × Value)} (r : KvR g H kvs xs) (k : NestedKey) {d : D} {v : V} {u : Value} (q1 : RelS g H d v) (q2 : RelV v u) :
    KvR g H (kvs.map fun p => if D.key p.1 = some k then (p.1, d) else p) (xs.map (putAt k u)) := by
  induction r with
  | nil => exact .nil
  | @cons p q ps qs h t ih =>
    rw [List.map_cons, List.map_cons]
    refine .cons ?_ ih
    obtain ⟨h1, h2, h3, h4⟩ := h
    unfold putAt
    by_cases e : q.1 = k
    · rw [if_pos (by rw [h1, e]), if_pos e]
      exact ⟨h1, h2, h3, v, q2, q1⟩
    · rw [if_neg (by rw [h1]; exact fun z => e (Option.some.inj z)), if_neg e]
      exact ⟨h1, h2, h3, h4⟩
theorem KvR.put {kvs : List (D × D)} {xs : List (NestedKey × Addr × Value)} (r : KvR g H kvs xs) {kd : D} {k : NestedKey} {b : Addr} {d : D} {v : V} {u : Value} (k1 : D.key kd = some k) (k2 : k.depth ≤ 8) (k3 : RelS g H kd (.ref b)) (q1 : RelS g H d v) (q2 : RelV v u) :
    KvR g H (dicPut kvs kd k d) (storedH xs k b u) := by
  unfold dicPut storedH
  rcases r.get k with ⟨e1, e2⟩ | ⟨d', p, v', e1, e2, _⟩
  · rw [e1, e2]
    exact Paired.snoc r ⟨k1, k2, k3, v, q2, q1⟩
  · rw [e1, e2]
    exact r.repl k q1 q2
theorem KvR.nested (I : Inv X pins σ H s) (og : GOk X G g) {kvs : List (D × D)} {xs : List (NestedKey × Addr × Value)} (r : KvR g H kvs xs) : ∀ x ∈ xs, (nestedKind X.prog X.w).is s.heap x.1 x.2.1 := by
  induction r with
  | nil => intro x m; cases m
  | @cons p q ps qs h t ih =>
    intro x m
    rcases List.mem_cons.mp m with rfl | m
    · exact ⟨nestIs I og h.2.2.1 h.1 rfl, h.2.1⟩
    · exact ih x m
theorem dicKey_eq {d : D} {k : NestedKey} (e : dicKey d = some k) : D.key d = some k ∧ k.depth ≤ 8 ∧ isBor d = false := by
  cases d with
  | tup ds =>
    simp only [dicKey] at e
    split at e
    · rename_i q hq
      split at e
      · rename_i hz
        cases e
        exact ⟨hq, hz, rfl⟩
      · cases e
    · cases e
  | _ => simp [dicKey] at e
theorem dicKey_ref (og : GOk X G g) (I : Inv X pins σ H s) {d : D} {v : V} {u : Value} {k : NestedKey} (e : dicKey d = some k) (q : RelT g H d v) (r : RelV v u) : ∃ b, v = .ref b ∧ u = .ref b ∧ RelS g H d (.ref b) ∧ (nestedKind X.prog X.w).is s.heap k b := by
  have q := q.s (dicKey_eq e).2.2
  cases d with
  | tup ds =>
    have q' := q
    simp only [RelS] at q'
    obtain ⟨a, xs, rfl, _, _⟩ := q'
    cases (show u = Value.ref a from r)
    exact ⟨a, rfl, rfl, q, nestIs I og q (dicKey_eq e).1 r, (dicKey_eq e).2.1⟩
  | _ => simp [dicKey] at e
/-- the dict where it stands -/
theorem dic_ok (I : Inv X pins σ H s) (og : GOk X G g) (r : HRel X.prog X.w g H h) {d : D} {v : V} {kvs : List (D × D)} (q : RelT g H d v) (e : dicOf h d = some kvs) :
    ∃ a n xs, v = .ref a ∧ d = .obj n ∧ g.ρ[n]? = some a ∧ n < h.length ∧ (a == sysModules) = false ∧ xs.length ≤ sizeLine ∧ s.heap.DictOfH (nestedKind X.prog X.w) a xs ∧ Mut (H a) ∧ KvR g H kvs xs := by
  cases d with
  | obj n =>
    unfold dicOf at e
    dsimp only at e
    split at e
    · rename_i kvs' hc
      split at e
      · rename_i hz
        cases e
        obtain ⟨a, rfl, h1, h2⟩ := cell_at r q hc
        have hn := (List.getElem?_eq_some_iff.mp hc).1
        cases (show Dic _ _ _ _ _ _ from h2) with
        | k xs h3 h4 =>
          cases h4 with
          | nil =>
            obtain ⟨_, hd, vs, rel, dd⟩ := dk_of I.hok h3
            cases rel
            obtain ⟨o, es, ep, e1, e2, e3, _, e5, _⟩ := dd
            refine ⟨a, n, [], rfl, rfl, h1, hn, hd, Nat.zero_le _, ⟨o, es, ep, e1, e2, e3, ?_, (fun x m => by cases m), List.nodup_nil⟩, (by rw [h3]; trivial), .nil⟩
            cases e6 : es.toList with
            | nil => rfl
            | cons x xs => rw [e6] at e5; cases e5
          | cons h5 h6 =>
            rename_i p q ps qs
            rw [List.all_cons, Bool.and_eq_true] at hz
            rw [h5.1] at hz
            exact absurd hz.1 (by unfold keyD; split <;> simp [isTup])
        | t xs h3 h4 h5 h6 h7 =>
          obtain ⟨⟨o, es, ep, e1, e2, e3, e4⟩, _⟩ := I.hok a _ h6
          exact ⟨a, n, xs, rfl, rfl, h1, hn, h3, h4, ⟨o, es, ep, e1, e2, e3, e4, KvR.nested I og h7, h5⟩, by rw [h6]; trivial, h7⟩
      · cases e
    · cases e
  | _ => cases e
theorem room9 (hu : X.A.units + 65 < cLine) : (nestedKind X.prog X.w).room X.A.in1 := by
  show X.A.in1.units + 8 < cLine
  have : X.A.in1.units = X.A.units + 1 := rfl
  omega
theorem o_notinM (hu : X.A.units + 65 < cLine) : OpR X (compareOp .NotIn) (rO2 X G dNotInM) := by
  intro pins s σ H x y v u Q I rx ry hp
  obtain ⟨g, h, d, e, og, r, qd, qe, p⟩ := hp
  unfold dNotInM at p
  split at p
  · rename_i kvs k h1 h2
    obtain ⟨a, n, xs, rfl, _, _, _, hs, hz, hm, _, rel⟩ := dic_ok I og r qe h1
    obtain ⟨b, rfl, rfl, q3, hk⟩ := dicKey_ref og I h2 qd rx
    cases (show u = Value.ref a from ry)
    refine PyProof.Rows.wpAny_notIn_heap (room9 hu) hk hs hm ?_
    have e : (atKey xs k).isSome = (dicAt kvs k).isSome := by
      rcases rel.get k with ⟨e1, e2⟩ | ⟨_, _, _, e1, e2, _⟩ <;> rw [e1, e2] <;> rfl
    rw [e]
    exact ⟨.bl _, H, I.tok _, rfl, Post.bl r p⟩
  · exact p.elim
theorem noSl {b : Expr} (h : isSlice b = false) : NoSl b := by
  intro ov iv
  cases b <;> first | rfl | (simp [isSlice] at h)
theorem s_dget {a b : Expr} {da db : DE} {pos : Pos} (hu : X.A.units + 65 < cLine) (ha : PE X a (tD X G da)) (hb : PE X b (tD X G db)) (hsl : isSlice b = false) : PE X (.Subscript a b pos) (tD X G (dOp2 dGet da db)) := by
  refine ⟨fun pins s σ H Q I q => ?_⟩
  refine subD_of PySem.F.slot_dict_getitem.lookup (noSl hsl) ?_
  refine thn (ha.run pins s σ H _ I (tG.bind (T := fun x H1 => tD X G db σ H1 fun y H2 => rO2 X G dGet x y H2 Q) (f := fun fn env x h1 => (db fn env h1).bind fun y h2 => dGet x y h2) q fun g own env h H1 d v og r l qd p1 => ?_)) fun u s1 ⟨x, H1, I1, rx, q1⟩ => ?_
  · refine tG.mk og r l ((Post.bind p1).imp fun g2 H2 d2 h2 e2 r2 p2 v2 q2 => ?_)
    exact ⟨g2, h2, d, d2, og.ext e2, r2, RelT.ext r e2 qd, q2, p2⟩
  · refine thn (hb.run pins s1 σ H1 _ I1 q1) fun iv s2 ⟨y, H2, I2, ry, q2⟩ => ?_
    obtain ⟨g, h, d, e, og, r, qd, qe, p⟩ := q2
    unfold dGet at p
    split at p
    · rename_i kvs k h1 h2
      split at p
      · rename_i w hw
        obtain ⟨a, n, xs, rfl, _, _, _, hs, hz, hm, _, rel⟩ := dic_ok I2 og r qd h1
        obtain ⟨b, rfl, rfl, q3, hk⟩ := dicKey_ref og I2 h2 qe ry
        cases (show u = Value.ref a from rx)
        rcases rel.get k with ⟨e1, _⟩ | ⟨d', p', v', e1, e2, e3, e4⟩
        · rw [e1] at hw; cases hw
        · rw [e1] at hw; cases hw
          exact ⟨hm.typeIs, wpAny_getItem_heap (room9 hu) hk hm e2 ⟨v', H2, I2.tok _, e3, Post.val r e4.t p⟩⟩
      · exact p.elim
    · exact p.elim
/-- writes at a dict's cell -/
def rPut (X : Cx) (G : Gx) (g0 : Gh) (H0 : Hp) (σ : L2.St) (Dn : Ends) : V → V → V → Hp → (Hp → Prop) → Prop := fun o i v H Q => ∃ g own env h y k d, GOk X G g ∧ HRel X.prog X.w g H h ∧ LR g own env σ H ∧ Ent g0 H0 g H own ∧ RelT g H y o ∧ RelT g H k i ∧ RelS g H d v ∧
  Q = Dn.nx σ ∧ PostS X G g0 H0 g H (putDic y k d env h) Dn
theorem set_dic (hu : X.A.units + 65 < cLine) {Dn : Ends} {pins : List (Addr × Obj)} {s : Shared} {H : Hp} {o i v : V} {ov iv u : Value} {Q : Hp → Prop} (I : Inv X pins σ H s) (ro : RelV o ov) (ri : RelV i iv) (rv : RelV v u) (q : rPut X G g0 H0 σ Dn o i v H Q) :
    wpAny (model X.prog X.w) X.A (setItem ov iv u) (fun _ s' => ∃ H', Inv X pins σ H' s' ∧ Q H') X.xe s := by
  obtain ⟨g, own, env, h, y, k, d, og, r, l, n0, qy, qk, qd, rfl, p⟩ := q
  unfold putDic at p
  split at p
  · rename_i n kvs q h2 h1
    split at p
    · exact p.elim
    · rename_i hb
      rw [Bool.or_eq_true, not_or, decide_eq_true_eq] at hb
      obtain ⟨a, n', xs, rfl, en, ha, hn, hs, hz, hm, mu, rel⟩ := dic_ok I og r qy h1
      cases en
      obtain ⟨b, rfl, rfl, q3, hk⟩ := dicKey_ref og I h2 qk ri
      cases (show ov = Value.ref a from ro)
      refine wpAny_setItem_heap (hsz := hz) (room9 hu) hk hm fun h1 hm' hs' => ?_
      have kk := dicKey_eq h2
      have wa := r.wr a (List.mem_of_getElem? ha)
      obtain ⟨ob, es, ep, e1, e2, e3, e4, _, e6⟩ := hm'
      have dat : dictAt X.prog X.w a (storedH xs q b u) h1 := ⟨ob, es, ep, e1, e2, e3, e4⟩
      refine ⟨upd H a (.ext (dictAt X.prog X.w a (storedH xs q b u))), d_write I mu hs' ⟨ob, e1⟩ ⟨dat, ⟨ob, e1⟩, fun k1 k2 z hk => ?_⟩, ?_⟩
      · obtain ⟨o1, es1, ep1, z1, z2, z3, z4⟩ := z
        exact ⟨o1, es1, ep1, hk _ z1, z2, z3, z4⟩
      · have hl : (storedH xs q b u).length ≤ sizeLine := by
          have e7 := rel.length
          have e8 : szL = sizeLine := lineE.symm
          have : (storedH xs q b u).length ≤ xs.length + 1 := by
            unfold storedH
            split
            · rw [List.length_map]; omega
            · rw [List.length_append]; simp
          omega
        have kv : KvR g (upd H a (.ext (dictAt X.prog X.w a (storedH xs q b u)))) (dicPut kvs k q d) (storedH xs q b u) :=
          Paired.mapP (rel.put kk.1 kk.2.1 q3 qd rv) fun _ _ z => ⟨z.1, z.2.1, RelS.exts r (ExtS.write wa) z.2.2.1, let ⟨v, z1, z2⟩ := z.2.2.2; ⟨v, z1, RelS.exts r (ExtS.write wa) z2⟩⟩
        exact p g own _ σ og (r.cellW ha hn (Dic.t _ hs hl e6 upd_same kv)) (l.cellW r ha) (n0.cellW r ha) (ExtS.write wa)
  · exact p.elim
theorem s_pgDic {a b : Expr} {da db : DE} {sp : Pos} (hu : X.A.units + 65 < cLine) (ha : PE X a (tD X G da)) (hb : PE X b (tD X G db)) (hsl : isSlice b = false) :
    PG X (.Subscript a b sp) (tPG X G g0 H0 (gDic da db)) := by
  refine ⟨fun pins s σ H v u Q I rv q => ?_⟩
  obtain ⟨g, own, env, h, d, og, r, l, n0, qd, Dn, rfl, k⟩ := q
  have ea : ∀ v, assign (.Subscript a b sp) X.env v = (do
      let ov ← holding [v] (eval a X.env)
      let iv ← holding [v, ov] (eval b X.env)
      standAt sp
      holding [v, ov, iv] (setItem ov iv v)
      release [v, ov, iv] []) := fun _ => by cases b <;> first | rfl | (simp [isSlice] at hsl)
  rw [ea]
  unfold gDic at k
  refine wpAny_bind (wpAny_holding (thn (ha.run pins s σ H (fun o H1 => tD X G db σ H1 fun i H2 => rPut X G g0 H0 σ Dn o i v H2 (Dn.nx σ)) I ?_) fun ov s1 ⟨x, H1, I1, r1, q1⟩ => ?_))
  · refine ⟨g, own, env, h, og, r, l, (Post.stmt r n0 k).imp fun g1 H1 y h1 e1 r1 k1 vy qy => ?_⟩
    refine ⟨g1, own, env, h1, og.ext e1, r1, l.step r e1, (Post.stmt r1 (n0.step e1) k1).imp fun g2 H2 kd h2 e2 r2 k2 vk qk => ?_⟩
    exact ⟨g2, own, env, h2, y, kd, d, (og.ext e1).ext e2, r2, (l.step r e1).step r1 e2, (n0.step e1).step e2, RelT.ext r1 e2 qy, qk, RelS.ext r1 e2 (RelS.ext r e1 qd), rfl, k2⟩
  · refine wpAny_bind (wpAny_holding (thn (hb.run pins s1 σ H1 _ I1 q1) fun iv s2 ⟨y, H2, I2, r2, q2⟩ => ?_))
    refine wpAny_bind (wpAny_standAt (wpAny_bind (wpAny_holding (thn (set_dic hu I2 r1 r2 rv q2) fun _ s3 ⟨H3, I3, q3⟩ => ?_))))
    exact wpAny_release ⟨σ, H3, I3, q3⟩
end
end EV
/-! EV79: instances of the text's classes: made, read, written, called -/
namespace EV
open PySem L2
open PySem.Spec PyProof.Rows
/-- a class's statement -/
abbrev inCls (s : Stmt) (j : Nat) : Stmt := match s with
  | .ClassDef _ _ _ body .. => body.getD j (.Pass ⟨0, 0, 0, 0⟩)
  | _ => .Pass ⟨0, 0, 0, 0⟩
/-- the attributes of an instance of class c -/
def insOf (c : Nat) (h : Cells) : D → Option (Nat × List (Str × D))
  | .obj n => match h[n]? with
    | some (.ins c' fs) => if c' = c then some (n, fs) else none
    | _ => none
  | _ => none
def putFD (f : Str) (v : D) : List (Str × D) → List (Str × D)
  | [] => [(f, v)]
  | (g, x) :: r => if g = f then (g, v) :: r else (g, x) :: putFD f v r
def fldD (c : Nat) (f : Str) (d : D) (h : Cells) : R D := match insOf c h d with
  | some (_, fs) => match fs.lookup f with
    | some v => .ok v h
    | none => .bad
  | none => .bad
/-- o.f -/
def dFld (c : Nat) (f : Str) (a : DE) : DE := fun fn env h => (a fn env h).bind fun d h1 => fldD c f d h1
def storeF (c : Nat) (f : Str) (v d : D) (env : Ev) (h : Cells) : R (Fl × Ev) := match insOf c h d with
  | some (n, fs) => if isBor v || decide (1000 ≤ fs.length) then .bad else .ok (.nx, env) (h.set n (.ins c (putFD f v fs)))
  | none => .bad
/-- o.f = v -/
def sFldP (c : Nat) (f : Str) (a v : DE) : DS := fun fn env h => (v fn env h).bind fun y h1 => (a fn env h1).bind fun d h2 => storeF c f y d env h2
def methD (c : Nat) (m : Str) (i n : Nat) (fn : Fns) (d : D) (ds : List D) (h : Cells) : R D :=
  if noBors ds && decide (ds.length = n) then fn i (d :: ds) h else .bad
/-- o.m(..) -/
def dMeth (c : Nat) (m : Str) (i n : Nat) (a : DE) (da : DA) : DE := fun fn env h => (a fn env h).bind fun d h1 => match insOf c h1 d with
  | some (_, fs) => if (fs.lookup m).isSome then .bad else (da fn env h1).bind fun ds h2 => methD c m i n fn d ds h2
  | none => .bad
def madeD (n : Nat) (r : D) (h : Cells) : R D := match r with
  | .non => .ok (.obj n) h
  | _ => .bad
def makeD (c i n : Nat) (fn : Fns) (ds : List D) (h : Cells) : R D :=
  if noBors ds && decide (ds.length = n) then (fn i (.obj h.length :: ds) (h ++ [.ins c []])).bind fun r h2 => madeD h.length r h2 else .bad
/-- C(..) -/
def dMake (c i n : Nat) (da : DA) : DE := fun fn env h => (da fn env h).bind fun ds h1 => makeD c i n fn ds h1
section
variable {X : Cx} {G : Gx} {T : Pg} {k : Nat} {g g' g0 : Gh} {H H' H0 : Hp} {h h' : Cells} {own : Nat → Option Addr} {env : Ev} {σ : L2.St} {c i n : Nat} {f m x : Str} {a b o value : Expr} {da db : DE} {dr : DA} {es : List Expr} {pos pos' apos p : Pos} {a' : Addr}
theorem ins_ok (O : XOk X G T k) (og : GOk X G g) (r : HRel X.prog X.w g H h) {d : D} {v : V} {n : Nat} {fs : List (Str × D)} {xc : Str} (hc : T.cls.lookup c = some xc) (q : RelT g H d v) (e : insOf c h d = some (n, fs)) :
    ∃ a C dx vs, v = .ref a ∧ d = .obj n ∧ g.ρ[n]? = some a ∧ n < h.length ∧ g.gA c = some C ∧ X.mg xc = some (.ref C) ∧ H a = some (.ins C dx vs) ∧ Cls X.K C ∧ Paired (fun (p : Str × D) (q : Str × V) => p.1 = q.1 ∧ RelS g H p.2 q.2) fs vs := by
  cases d with
  | obj n' =>
    simp only [insOf] at e
    split at e
    · rename_i c' fs' hcell
      split at e
      · rename_i hz
        cases e
        subst hz
        obtain ⟨a, rfl, ha, C, dx, vs, h1, h2, h3⟩ := cell_at r q hcell
        obtain ⟨C', f, w1, w2, w3, _⟩ := O.cls.1 _ _ hc
        rw [og.gA, w2] at h1
        cases h1
        exact ⟨a, C, dx, vs, rfl, rfl, ha, (List.getElem?_eq_some_iff.mp hcell).1, by rw [og.gA]; exact w2, w1, h2, w3, h3⟩
      · cases e
    · cases e
  | _ => simp [insOf] at e
theorem fs_lookup {fs : List (Str × D)} {vs : List (Str × V)} (q : Paired (fun (p : Str × D) (q : Str × V) => p.1 = q.1 ∧ RelS g H p.2 q.2) fs vs) (f : Str) :
    (fs.lookup f = none ∧ vs.lookup f = none) ∨ ∃ d v, fs.lookup f = some d ∧ vs.lookup f = some v ∧ RelS g H d v := by
  induction q with
  | nil => exact .inl ⟨rfl, rfl⟩
  | @cons p q ps qs hh t ih =>
    obtain ⟨p1, p2⟩ := p
    obtain ⟨q1, q2⟩ := q
    obtain ⟨e, r⟩ := hh
    dsimp only at e r
    subst e
    rw [List.lookup_cons, List.lookup_cons]
    cases z : (f == p1) with
    | true => exact .inr ⟨p2, q2, rfl, rfl, r⟩
    | false => exact ih
theorem fs_put {fs : List (Str × D)} {vs : List (Str × V)} (q : Paired (fun (p : Str × D) (q : Str × V) => p.1 = q.1 ∧ RelS g H p.2 q.2) fs vs) {f : Str} {d : D} {v : V} (r : RelS g H d v) :
    Paired (fun (p : Str × D) (q : Str × V) => p.1 = q.1 ∧ RelS g H p.2 q.2) (putFD f d fs) (putF f v vs) := by
  induction q with
  | nil => exact .cons ⟨rfl, r⟩ .nil
  | @cons p q ps qs hh t ih =>
    obtain ⟨p1, p2⟩ := p
    obtain ⟨q1, q2⟩ := q
    obtain ⟨e, r'⟩ := hh
    dsimp only at e r'
    subst e
    unfold putFD putF
    split
    · exact .cons ⟨rfl, r⟩ t
    · exact .cons ⟨rfl, r'⟩ ih
theorem s_fld {xc : Str} (O : XOk X G T k) (hc : T.cls.lookup c = some xc) (hf : (c, f) ∈ T.attrs) (he : PE X a (tD X G da)) (hb : attributeBase a f X.env (eval a X.env) = eval a X.env) : PE X (.Attribute a f pos) (tD X G (dFld c f da)) :=
  PE.imp (pe_fld he hb) fun σ H Q q => tG.bind (f := fun fn env d h1 => fldD c f d h1) q fun g own env h H1 d v og r l qd p1 => by
    unfold fldD at p1
    split at p1
    · rename_i n' fs e
      split at p1
      · rename_i y hy
        obtain ⟨ad, C, dx, vs, rfl, _, _, _, hC, _, hH, cl, rel⟩ := ins_ok O og r hc qd e
        rcases fs_lookup rel f with ⟨z, _⟩ | ⟨y', v', z1, z2, z3⟩
        · rw [z] at hy; cases hy
        · rw [z1] at hy; cases hy
          exact ⟨ad, C, dx, vs, v', rfl, hH, cl, O.cls.2 _ hf C (by rw [← og.gA]; exact hC), z2, Post.val r z3.t p1⟩
      · exact p1.elim
    · exact p1.elim
theorem s_fldP {xc : Str} (O : XOk X G T k) (hc : T.cls.lookup c = some xc) (hf : (c, f) ∈ T.attrs) (ha : PE X o (tD X G da)) (hv : PE X value (tD X G db)) (hs : swapsWith value (some (.Attribute o f pos')) pos.line X.env = pure false) :
    PS X (.Assign [.Attribute o f pos'] value pos) (tS X G g0 H0 (sFldP c f da db)) :=
  PS.imp (ps_fld ha hv hs) fun Dn σ H ⟨g, own, env, h, og, r, l, n0, q⟩ => by
    refine ⟨g, own, env, h, og, r, l, (Post.stmt r n0 q).imp fun g1 H1 y h1 e1 r1 q1 vy qy => ?_⟩
    refine ⟨g1, own, env, h1, og.ext e1, r1, l.step r e1, (Post.stmt r1 (n0.step e1) q1).imp fun g2 H2 d h2 e2 r2 q2 vd qd => ?_⟩
    unfold storeF at q2
    split at q2
    · rename_i n' fs e
      split at q2
      · exact q2.elim
      · rename_i hz
        rw [Bool.or_eq_true, not_or, decide_eq_true_eq] at hz
        have og2 := (og.ext e1).ext e2
        obtain ⟨ad, C, dx, vs, rfl, _, hρ, hn, hC, _, hH, cl, rel⟩ := ins_ok O og2 r2 hc qd e
        have wa := r2.wr ad (List.mem_of_getElem? hρ)
        have qy2 := (RelT.ext r1 e2 qy).s (by simpa using hz.1)
        refine ⟨ad, C, dx, vs, rfl, hH, cl, O.cls.2 _ hf C (by rw [← og2.gA]; exact hC), by rw [← rel.length]; omega, ?_⟩
        exact q2 g2 own _ σ og2 (r2.cellW hρ hn ⟨C, dx, _, hC, upd_same, Paired.mapP (fs_put rel qy2) fun _ _ z => ⟨z.1, RelS.exts r2 (ExtS.write wa) z.2⟩⟩) (((l.step r e1).step r1 e2).cellW r2 hρ) (((n0.step e1).step e2).cellW r2 hρ) (ExtS.write wa)
    · exact q2.elim
/-- how a method's positional arguments bind -/
def MBind (d : FD) : Prop := ∀ (kV doc pm : Value) (an : Option Addr) (cdv ct : Value) (us : List Value), us.length = d.ps.length → bindArgs (PySem.W.fnOf d.nm d.qn (defArgs d.st) (defBody d.st) (defScope d.st) .none kV doc pm an cdv ct) ⟨us, []⟩ = pure (d.ps.zip us)
theorem mbinds {K : PySem.W.Frag} {d : FD} {f : Addr} {fd : FuncData} (F : FunD K d.nm d.qn (defArgs d.st) (defBody d.st) (defScope d.st) [] [] f fd) (hb : MBind d) (s : Shared) (us : List Value) (hl : us.length = d.ps.length) : BindsTo s fd ⟨us, []⟩ (d.ps.zip us) := by
  obtain ⟨oc, od, dV, kV, doc, pm, an, cdv, ct, osl, rfl, lk, hcd, hD, hK⟩ := F.ex
  rcases hD with ⟨_, rfl⟩ | ⟨e, _⟩
  · exact .of_eq (hb kV doc pm an cdv ct us hl)
  · exact absurd rfl e
/-- the call of a method, its arguments there -/
theorem meth_go (O : XOk X G T k) {d : FD} {f : Addr} {fd : FuncData} (F : FunD X.K d.nm d.qn (defArgs d.st) (defBody d.st) (defScope d.st) [] [] f fd) (FG : FnG X.prog X.w X.K X.mg X.base k f fd d.ps (spF X.prog X.w X.K G.gA d.ps.length (G.fns i))) (hb : MBind d) (hn : d.ps.length = n + 1)
    {pins : List (Addr × Obj)} {s : Shared} {Q : VK} {ob : D} {ad : Addr} {ds : List D} {vs : List V} {us : List Value} (I : Inv X pins σ H s) (og : GOk X G g) (r : HRel X.prog X.w g H h) (qo : RelT g H ob (.ref ad)) (nb : isBor ob = false) (qs : RelsT g H ds vs) (rv : Vals vs us)
    (q : Post X G g H (methD c m i n G.fns ob ds h) fun g' H' d _ => ∀ v, RelT g' H' d v → Q v H') : wpAny (model X.prog X.w) X.A (PySem.call (.ref f) (.ref ad :: us)) (EP X pins σ Q) X.xe s := by
  unfold methD at q
  split at q
  · rename_i hz
    rw [Bool.and_eq_true, decide_eq_true_eq] at hz
    have hl : (Value.ref ad :: us).length = d.ps.length := by rw [hn, List.length_cons, ← rv.length, ← qs.len, hz.2]
    have hsp : spF X.prog X.w X.K G.gA d.ps.length (G.fns i) (.ref ad :: vs) H Q G.Wx := ⟨g, h, ob :: ds, og.K, og.gA, r, ⟨_, _, rfl, qo.s nb, qs.s hz.1⟩, by rw [List.length_cons, hz.2, hn], Post.imp q fun g' H' d h' _ _ z v qv => z v qv.t⟩
    refine wpAny_call (codeAny_mono (FG.go O.gu O.rm O.hx I (mbinds F hb s _ hl) (.cons (show RelV (V.ref ad) (Value.ref ad) from rfl) rv) hsp) fun res s' z => ?_)
    cases res with
    | error e => exact z
    | ok fl =>
      cases fl with
      | ret u => exact z
      | next => exact False.elim z
      | brk => exact False.elim z
      | cont => exact False.elim z
  · exact q.elim
theorem insOf_nb {d : D} {z : Nat × List (Str × D)} (e : insOf c h d = some z) : isBor d = false := by
  cases d with
  | obj n => rfl
  | _ => simp [insOf] at e
theorem s_meth {pl : Sem Bool} {xc : Str} {d : FD} {e : Expr} (O : XOk X G T k) (hc : T.cls.lookup c = some xc) (hd : T.defs[i]? = some d) (hm : d.me = some m) (hg : d.gn = xc) (hn : d.ps.length = n + 1) (hb : MBind d)
    (he : PE X o (tD X G da)) (ha : PA X (e :: es) (tA X G dr)) (hs : noStars (e :: es) = true)
    (ht : eval (.Call (.Attribute o m apos) (e :: es) [] pos) X.env = (do
      let ov ← eval o X.env
      standAt apos.atName
      let (f, first) ← holding [ov] (getMethod ov m pl)
      callWith pos f first (backTo pos (starEach (e :: es) X.env)) (backToKw pos (keywordEach [] X.env))) := by rfl) :
    PE X (.Call (.Attribute o m apos) (e :: es) [] pos) (tD X G (dMeth c m i n da dr)) := by
  refine ⟨fun pins s σ H Q I q => ?_⟩
  obtain ⟨f, fd, hat, F, FG⟩ := O.defs i d hd
  obtain ⟨C', hC', M⟩ := hat.meth hm
  rw [hg] at hC'
  obtain ⟨g, own, env, h, og, r, l, p0⟩ := q
  refine PySem.W.methodCall_KW (pl := pl) (thn (he.run pins s σ H (fun x H1 => ∃ g1 ob h1, GOk X G g1 ∧ HRel X.prog X.w g1 H1 h1 ∧ LR g1 own env σ H1 ∧ RelT g1 H1 ob x ∧ Post X G g1 H1 (match insOf c h1 ob with
      | some (_, fs) => if (fs.lookup m).isSome then .bad else (dr G.fns env h1).bind fun ds h2 => methD c m i n G.fns ob ds h2
      | none => .bad) fun g' H' d _ => ∀ v, RelT g' H' d v → Q v H') I
    (tG.mk og r l ((Post.bind p0).imp fun g1 H1 ob h1 e1 r1 p1 x qx => ⟨g1, ob, h1, og.ext e1, r1, l.step r e1, qx, p1⟩))) fun u s1 ⟨x, H1, I1, rx, g1, ob, h1, og1, r1, l1, qo, p1⟩ => ?_) ht
  split at p1
  · rename_i n' fs hi
    split at p1
    · exact p1.elim
    · rename_i hnone
      obtain ⟨ad, C, dx, vs, rfl, _, _, _, hgC, hmC, hH, cl, rel⟩ := ins_ok O og1 r1 hc qo hi
      rw [hmC] at hC'
      cases hC'
      cases (show u = Value.ref ad from rx)
      have lk : vs.lookup m = none := by
        rcases fs_lookup rel m with ⟨_, z⟩ | ⟨_, _, z, _, _⟩
        · exact z
        · rw [z] at hnone; exact absurd rfl hnone
      refine getmeth_ok I1 hH cl M lk ?_
      have h1s : isStar e = false := by
        simp only [noStars, List.all_cons, Bool.and_eq_true] at hs
        simpa using hs.1
      have h2s : noStars es = true := by
        simp only [noStars, List.all_cons, Bool.and_eq_true] at hs
        exact hs.2
      refine PySem.W.callWith_K (first := [.ref ad]) (h₀ := X.base) I.ok.mod.kin M.kp (thn (ha.run pos pins s1 σ H1 (fun vs H2 => ∃ g2 ds h2, GOk X G g2 ∧ HRel X.prog X.w g2 H2 h2 ∧ RelT g2 H2 ob (.ref ad) ∧ RelsT g2 H2 ds vs ∧ Post X G g2 H2 (methD c m i n G.fns ob ds h2) fun g' H' d _ => ∀ v, RelT g' H' d v → Q v H') I1
        (tG.mk og1 r1 l1 ((Post.bind p1).imp fun g2 H2 ds h2 e2 r2 p2 zs qz => ⟨g2, ds, h2, og1.ext e2, r2, RelT.ext r1 e2 qo, qz, p2⟩))) fun us s2 ⟨vs, H2, I2, rv, g2, ds, h2, og2, r2, qo2, qs, p2⟩ => ⟨I2.kIn, ?_⟩) (star_cons h1s) (backTo_any (stars_any h2s))
      exact meth_go O F FG hb hn I2 og2 r2 qo2 (insOf_nb hi) qs rv p2
  · exact p1.elim
/-- a new instance, its __init__ run -/
theorem make_go {C : Addr} (O : XOk X G T k) (M : Mk X.K C a') {d : FD} {fd : FuncData} (F : FunD X.K d.nm d.qn (defArgs d.st) (defBody d.st) (defScope d.st) [] [] a' fd) (FG : FnG X.prog X.w X.K X.mg X.base k a' fd d.ps (spF X.prog X.w X.K G.gA d.ps.length (G.fns i))) (hb : MBind d) (hn : d.ps.length = n + 1) (hC : G.gA c = some C)
    {pins : List (Addr × Obj)} {s : Shared} {Q : VK} {ds : List D} {vs : List V} {us : List Value} (I : Inv X pins σ H s) (og : GOk X G g) (r : HRel X.prog X.w g H h) (qs : RelsT g H ds vs) (rv : Vals vs us)
    (q : Post X G g H (makeD c i n G.fns ds h) fun g' H' d _ => ∀ v, RelT g' H' d v → Q v H') : wpAny (model X.prog X.w) X.A (PySem.call (.ref C) us) (EP X pins σ Q) X.xe s := by
  unfold makeD at q
  split at q
  · rename_i hz
    rw [Bool.and_eq_true, decide_eq_true_eq] at hz
    have I2 := Inv.made (C := C) I
    have hx0 : H (s.heap.objs.size + 1) = none := I.hok.fresh (Nat.le_succ _)
    have hd0 : H s.heap.objs.size = none := I.hok.fresh (Nat.le_refl _)
    have ne : s.heap.objs.size ≠ s.heap.objs.size + 1 := Nat.ne_of_lt (Nat.lt_succ_self _)
    have e1 := Ext.new r hd0 (o := .own (s.heap.objs.size + 1))
    have r1 := HRel.new r hd0 (o := .own (s.heap.objs.size + 1))
    have hx1 : upd H s.heap.objs.size (.own (s.heap.objs.size + 1)) (s.heap.objs.size + 1) = none := by rw [upd_ne ne.symm]; exact hx0
    have e2 := Ext.cell r1 hx1 (o := .ins C s.heap.objs.size [])
    have r2 : HRel X.prog X.w _ _ (h ++ [.ins c []]) := r1.cell hx1 (o := .ins C s.heap.objs.size []) (c := .ins c []) ⟨C, _, [], by show g.gA c = some C; rw [og.gA]; exact hC, upd_same, .nil⟩
    have og2 := (og.ext e1).ext e2
    have hl : (Value.ref (s.heap.objs.size + 1) :: us).length = d.ps.length := by rw [hn, List.length_cons, ← rv.length, ← qs.len, hz.2]
    have cellx : ((g.less s.heap.objs.size).more (s.heap.objs.size + 1)).ρ[h.length]? = some (s.heap.objs.size + 1) := by
      show (g.ρ ++ [_])[h.length]? = _
      rw [← r.len, List.getElem?_append_right (Nat.le_refl _), Nat.sub_self]; rfl
    have hsp : spF X.prog X.w X.K G.gA d.ps.length (G.fns i) (.ref (s.heap.objs.size + 1) :: vs) (upd (upd H s.heap.objs.size (.own (s.heap.objs.size + 1))) (s.heap.objs.size + 1) (.ins C s.heap.objs.size [])) (fun v H2 => v = .non ∧ Q (.ref (s.heap.objs.size + 1)) H2) G.Wx := by
      refine ⟨_, _, .obj h.length :: ds, og2.K, og2.gA, r2, ⟨_, _, rfl, ⟨_, rfl, cellx⟩, RelsS.ext r1 e2 (RelsS.ext r e1 (qs.s hz.1))⟩, by rw [List.length_cons, hz.2, hn], ?_⟩
      refine ((Post.bind q).mono (e1.trans e2)).imp fun g' H' y h' e3 r3 p3 v qv => ?_
      unfold madeD at p3
      split at p3
      · exact ⟨qv, Post.now r3 p3 _ ⟨_, rfl, e3.get cellx⟩⟩
      · exact p3.elim
    have gu : (X.A.under (.builtin "type.__call__" ⟨.ref C :: us, []⟩)).guards = some [] := by
      have := O.gu
      first | exact this | (simp [Around.under, Code.isGuard, guardIds]; exact this)
    refine wpAny_call (make_map (f := a') I.kIn M.makes M.init (beq_iff_eq.mp M.fn) (codeAny_mono (FG.run _ X.stack _ _ ⟨Value.ref (s.heap.objs.size + 1) :: us, []⟩ _ _ _ G.Wx gu (O.mkr C us []) (I2.env0.make C us []) (mbinds F hb _ _ hl) (.cons (show RelV (V.ref _) (Value.ref _) from rfl) rv) hsp) fun res s' z => ?_))
    cases res with
    | error e => exact O.hx pins σ _ _ e s' I2 z
    | ok fl =>
      cases fl with
      | ret u =>
        obtain ⟨v, H', I3, rv', ev, q3⟩ := I2.after z
        subst ev
        exact ⟨rv', ⟨V.ref (s.heap.objs.size + 1), H', I3, rfl, q3⟩⟩
      | next => exact False.elim z
      | brk => exact False.elim z
      | cont => exact False.elim z
  · exact q.elim
theorem mk_at {xc : Str} {d : FD} (O : XOk X G T k) (hc : T.cls.lookup c = some xc) (hd : T.defs[i]? = some d) (hm : d.me = some ("__init__" : Str)) (hg : d.gn = xc) :
    ∃ C f fd, X.mg xc = some (.ref C) ∧ G.gA c = some C ∧ Mk X.K C f ∧ FunD X.K d.nm d.qn (defArgs d.st) (defBody d.st) (defScope d.st) [] [] f fd ∧ FnG X.prog X.w X.K X.mg X.base k f fd d.ps (spF X.prog X.w X.K G.gA d.ps.length (G.fns i)) := by
  obtain ⟨f, fd, hat, F, FG⟩ := O.defs i d hd
  obtain ⟨C', hC', M⟩ := hat.meth hm
  obtain ⟨C, f2, w1, w2, _, M2⟩ := O.cls.1 _ _ hc
  rw [hg, w1] at hC'
  cases hC'
  have : f2 = f := by
    have a := M2.init
    have b := M.at_
    rw [a] at b
    cases b; rfl
  subst this
  exact ⟨_, f2, fd, w1, w2, M2, F, FG⟩
theorem s_make0 {xc : Str} {d : FD} (O : XOk X G T k) (gl : GlOk X xc) (hc : T.cls.lookup c = some xc) (hd : T.defs[i]? = some d) (hm : d.me = some ("__init__" : Str)) (hg : d.gn = xc) (hn : d.ps.length = 0 + 1) (hb : MBind d) :
    PE X (.Call (.Name xc p) [] [] pos) (tD X G (dMake c i 0 daNil)) := by
  obtain ⟨C, f, fd, w1, w2, M, F, FG⟩ := mk_at O hc hd hm hg
  refine ⟨fun pins s σ H Q I q => ?_⟩
  obtain ⟨g, own, env, h, og, r, l, p0⟩ := q
  refine wpAny_Call_Name_kw (ld_glob I gl.g w1 ?_ gl.d)
  exact PySem.W.callWith_K0 I.kIn M.kp (make_go (us := []) (ds := []) (vs := []) (h := h) O M F FG hb hn w2 I og r rfl .nil p0)
theorem s_make {xc : Str} {d : FD} {e : Expr} (O : XOk X G T k) (gl : GlOk X xc) (hc : T.cls.lookup c = some xc) (hd : T.defs[i]? = some d) (hm : d.me = some ("__init__" : Str)) (hg : d.gn = xc) (hn : d.ps.length = n + 1) (hb : MBind d) (ha : PA X (e :: es) (tA X G dr)) (hs : noStars (e :: es) = true) :
    PE X (.Call (.Name xc p) (e :: es) [] pos) (tD X G (dMake c i n dr)) := by
  obtain ⟨C, f, fd, w1, w2, M, F, FG⟩ := mk_at O hc hd hm hg
  refine ⟨fun pins s σ H Q I q => ?_⟩
  obtain ⟨g, own, env, h, og, r, l, p0⟩ := q
  have hs2 := hs
  simp only [noStars, List.all_cons, Bool.and_eq_true] at hs2
  refine wpAny_Call_Name_kw (ld_glob I gl.g w1 ?_ gl.d)
  refine PySem.W.callWith_K (h₀ := X.base) I.ok.mod.kin M.kp (thn (ha.run pos pins s σ H (fun vs H1 => ∃ g1 ds h1, GOk X G g1 ∧ HRel X.prog X.w g1 H1 h1 ∧ RelsT g1 H1 ds vs ∧ Post X G g1 H1 (makeD c i n G.fns ds h1) fun g' H' d _ => ∀ v, RelT g' H' d v → Q v H') I
    (tG.mk og r l ((Post.bind p0).imp fun g1 H1 ds h1 e1 r1 p1 zs qz => ⟨g1, ds, h1, og.ext e1, r1, qz, p1⟩))) fun us s1 ⟨vs, H1, I1, rv, g1, ds, h1, og1, r1, qs, p1⟩ => ⟨I1.kIn, ?_⟩) (star_cons (by simpa using hs2.1)) (backTo_any (stars_any (by simp only [noStars]; exact hs2.2)))
  exact make_go O M F FG hb hn w2 I1 og1 r1 qs rv p1
end
end EV
/-! EV72: memos: dicts whose pairs are not told, only what they keep -/
namespace EV
open PySem L2
def MemR (M : Memo) (m : Nat) (h : Cells) (n : Nat) (f : Cells → R (Fl × Ev)) (v : D) : Prop :=
  ∀ kvs, M.P kvs → ∃ kvs' env', M.P kvs' ∧ env'.length = n ∧ f (h.set m (.dic kvs)) = .ok (.rt v, env') (h.set m (.dic kvs'))
open Classical in
noncomputable def memRun (M : Memo) (m : Nat) (h : Cells) (env : Ev) (f : Cells → R (Fl × Ev)) : R (Fl × Ev) :=
  if p : ∃ v, MemR M m h env.length f v then .ok (.rt (choose p), noEnv env) h else .bad
/-- the cell of a slot's memo -/
def memAt (env : Ev) (h : Cells) (j : Nat) : Option (Nat × Memo) := match env[j]? with
  | some (.val (.obj m)) => match h[m]? with
    | some (.mem M) => some (m, M)
    | _ => none
  | _ => none
/-- the body of a def that leans on a memo: from the memo alone -/
noncomputable def sMemo (at_ : Ev → Cells → Option (Nat × Memo)) (ds : DS) : DS := fun fn env h => match at_ env h with
  | some (m, M) => memRun M m h env fun h' => ds fn env h'
  | none => ds fn env h
/-- the memo in an attribute of what a slot holds -/
def memIn (f : Str) (env : Ev) (h : Cells) (j : Nat) : Option (Nat × Memo) := match env[j]? with
  | some (.val (.obj k)) => match h[k]? with
    | some (.ins _ fs) => match fs.lookup f with
      | some (.obj m) => match h[m]? with
        | some (.mem M) => some (m, M)
        | _ => none
      | _ => none
    | _ => none
  | _ => none
def AtOk (at_ : Ev → Cells → Option (Nat × Memo)) : Prop := ∀ env h m M, at_ env h = some (m, M) → h[m]? = some (.mem M)
theorem memAt_ok {j : Nat} : AtOk fun env h => memAt env h j := by
  intro env h m M e
  dsimp only at e
  unfold memAt at e
  split at e
  · split at e
    · rename_i e'
      cases e
      exact e'
    · cases e
  · cases e
theorem memIn_ok {f : Str} {j : Nat} : AtOk fun env h => memIn f env h j := by
  intro env h m M e
  dsimp only at e
  unfold memIn at e
  repeat' split at e
  all_goals first | (cases e; done) | skip
  rename_i e'
  cases e
  exact e'
def dNewMem (M : Memo) : DE := fun _ _ h => .ok (.obj h.length) (h ++ [.mem M])
section
variable {X : Cx} {G : Gx} {g g' g0 : Gh} {H H' H0 : Hp} {h h' : Cells} {own : Nat → Option Addr} {env : Ev} {σ : L2.St}
theorem s_newMem {pos : Pos} (M : Memo) [NilM M] : PE X (.Dict [] [] pos) (tD X G (dNewMem M)) :=
  PE.imp pe_dnewK fun σ H Q ⟨g, own, env, h, og, r, l, p⟩ => Post.newC (c := .mem M) r (fun p hp => ⟨[], NilM.nil, (Dic.k [] upd_same .nil : Dic _ _ _ _ _ _)⟩) p
/-- a memo's pairs, as they stand -/
theorem HRel.open_ (r : HRel X.prog X.w g H h) {m : Nat} {M : Memo} (e : h[m]? = some (.mem M)) : ∃ kvs, M.P kvs ∧ HRel X.prog X.w g H (h.set m (.dic kvs)) := by
  have hm : m < h.length := (List.getElem?_eq_some_iff.mp e).1
  have hl : m < g.ρ.length := by rw [r.len]; exact hm
  obtain ⟨kvs, h1, h2⟩ := r.at_ m g.ρ[m] _ (by simp [hl]) e
  refine ⟨kvs, h1, ⟨by rw [List.length_set]; exact r.len, r.nd, r.wr, r.wt, fun n a c e1 e2 => ?_⟩⟩
  by_cases z : n = m
  · subst z
    rw [List.getElem?_set_self hm] at e2
    cases e2
    have : g.ρ[n] = a := by rw [List.getElem?_eq_getElem hl] at e1; exact Option.some.inj e1
    rw [← this]; exact h2
  · rw [List.getElem?_set_ne (Ne.symm z)] at e2
    exact r.at_ n a c e1 e2
theorem HRel.close_ {m : Nat} {M : Memo} {kvs : List (D × D)} (e : h[m]? = some (.mem M)) (k : M.P kvs) (r : HRel X.prog X.w g H (h.set m (.dic kvs))) : HRel X.prog X.w g H h := by
  have hm : m < h.length := (List.getElem?_eq_some_iff.mp e).1
  refine ⟨by have := r.len; rwa [List.length_set] at this, r.nd, r.wr, r.wt, fun n a c e1 e2 => ?_⟩
  by_cases z : n = m
  · subst z
    rw [e] at e2
    cases e2
    exact ⟨kvs, k, r.at_ n a (.dic kvs) e1 (List.getElem?_set_self hm)⟩
  · exact r.at_ n a c e1 (by rw [List.getElem?_set_ne (Ne.symm z)]; exact e2)
theorem tS.memo {at_ : Ev → Cells → Option (Nat × Memo)} (ha : AtOk at_) {ds : DS} {Dn : Ends} (q : tS X G g0 H0 (sMemo at_ ds) Dn σ H) : tS X G g0 H0 ds Dn σ H := by
  obtain ⟨g, own, env, h, og, r, l, en, p⟩ := q
  unfold sMemo at p
  split at p
  · rename_i m M em
    have e := ha _ _ _ _ em
    unfold memRun at p
    split at p
    · rename_i hv
      have hf := Classical.choose_spec hv
      obtain ⟨kvs, h1, r1⟩ := r.open_ e
      obtain ⟨kvs', env', h2, hn, e2⟩ := hf kvs h1
      refine ⟨g, own, env, h.set m (.dic kvs), og, r1, l, en, ?_⟩
      dsimp only at e2
      rw [e2]
      intro g' own' H' σ' og' r' l' en' ex'
      have r2 := HRel.close_ e h2 r'
      have q := p g' (fun _ => none) H' σ' og' r2
        { len := by
            rw [noEnv, List.length_map, ← hn]
            exact l'.len
          inj := fun i j a z => by cases z
          ow := fun i a z => by cases z
          sl := fun i s z => by
            rw [noEnv, List.getElem?_map] at z
            obtain ⟨_, _, rfl⟩ := Option.map_eq_some_iff.mp z
            trivial }
        ⟨en'.ext, fun i a z => by cases z⟩ ex'
      exact q
    · exact p.elim
  · exact ⟨g, own, env, h, og, r, l, en, p⟩
theorem ss_memo {at_ : Ev → Cells → Option (Nat × Memo)} (ha : AtOk at_) {sts : List Stmt} {da : DS} (h : PSs X sts (tS X G g0 H0 da)) : PSs X sts (tS X G g0 H0 (sMemo at_ da)) := PSs.imp h fun _ _ _ q => q.memo ha
end
theorem memRun_eq {M : Memo} {m : Nat} {h : Cells} {env : Ev} {f : Cells → R (Fl × Ev)} {v : D} (k : MemR M m h env.length f v) : memRun M m h env f = .ok (.rt v, noEnv env) h := by
  have p : ∃ v, MemR M m h env.length f v := ⟨v, k⟩
  have hc := Classical.choose_spec p
  unfold memRun
  rw [dif_pos p]
  obtain ⟨k0, p0⟩ := M.inh
  obtain ⟨k1, e1, _, _, q1⟩ := hc k0 p0
  obtain ⟨k2, e2, _, _, q2⟩ := k k0 p0
  rw [q1] at q2
  injection q2 with q2
  injection q2 with q2
  injection q2 with q2
  rw [q2]
end EV
/-! EV73: list(range(a, b)) -/
/-! EV23: reading what is computed, with no program in sight -/
namespace EV
open PySem L2
/-- it goes well, and then Q -/
def wp {α : Type} (r : R α) (Q : α → Cells → Prop) : Prop := ∃ a h, r = .ok a h ∧ Q a h
section
variable {α β : Type} {fn : Fns} {env : Ev} {h : Cells}
@[simp] theorem wp_ok {a : α} {Q : α → Cells → Prop} : wp (.ok a h) Q = Q a h := propext ⟨(fun ⟨_, _, e, q⟩ => by cases e; exact q), fun q => ⟨a, h, rfl, q⟩⟩
@[simp] theorem wp_bad {Q : α → Cells → Prop} : wp .bad Q = False := propext ⟨(fun ⟨_, _, e, _⟩ => by cases e), False.elim⟩
@[simp] theorem wp_bind {r : R α} {f : α → Cells → R β} {Q : β → Cells → Prop} : wp (r.bind f) Q = wp r fun a h => wp (f a h) Q := by
  cases r with
  | ok a h => rw [wp_ok]; rfl
  | exc e h => exact propext ⟨(fun ⟨_, _, e, _⟩ => by cases e), (fun ⟨_, _, e, _⟩ => by cases e)⟩
  | bad => rw [wp_bad]; exact propext ⟨(fun ⟨_, _, e, _⟩ => by cases e), False.elim⟩
theorem wp_mono {r : R α} {Q Q' : α → Cells → Prop} (w : wp r Q) (k : ∀ a h, Q a h → Q' a h) : wp r Q' := by
  obtain ⟨a, h, e, q⟩ := w
  exact ⟨a, h, e, k a h q⟩
theorem wp_get {r : R α} {Q : α → Cells → Prop} (w : wp r Q) : ∃ a h, r = .ok a h ∧ Q a h := w
@[simp] theorem ok_bind {a : α} {f : α → Cells → R β} : R.bind (.ok a h) f = f a h := (rfl)
@[simp] theorem nox_ok {a : α} : R.nox (.ok a h) = .ok a h := (rfl)
@[simp] theorem e_dC {d : D} : dC d fn env h = .ok d h := (rfl)
@[simp] theorem e_dVar {i : Nat} : dVar i fn env h = match env[i]? with
  | some (.val d) => .ok d h
  | some (.own ds) => .ok (.bor ds) h
  | _ => .bad := (rfl)
@[simp] theorem e_dOp1 {o : O1} {a : DE} : dOp1 o a fn env h = (a fn env h).bind fun x h1 => o x h1 := (rfl)
@[simp] theorem e_dOp2 {o : O2} {a b : DE} : dOp2 o a b fn env h = (a fn env h).bind fun x h1 => (b fn env h1).bind fun y h2 => o x y h2 := (rfl)
@[simp] theorem e_dOpN {o : ON} {a : DA} : dOpN o a fn env h = (a fn env h).bind fun x h1 => o x h1 := (rfl)
@[simp] theorem e_daNil : daNil fn env h = .ok [] h := (rfl)
@[simp] theorem e_daCons {a : DE} {b : DA} : daCons a b fn env h = (a fn env h).bind fun d h1 => (b fn env h1).bind fun ds h2 => .ok (d :: ds) h2 := (rfl)
@[simp] theorem e_dTup {a : DA} : dTup a fn env h = (a fn env h).bind fun ds h1 => mkTup ds h1 := (rfl)
@[simp] theorem e_dLst {a : DA} : dLst a fn env h = (a fn env h).bind fun ds h1 => mkLst ds h1 := (rfl)
@[simp] theorem e_dAnd {a b : DE} : dAnd a b fn env h = (a fn env h).bind fun d h1 => (dTru d h1).bind fun k h2 => if k = true then b fn env h2 else .ok d h2 := (rfl)
@[simp] theorem e_dOr {a b : DE} : dOr a b fn env h = (a fn env h).bind fun d h1 => (dTru d h1).bind fun k h2 => if k = true then .ok d h2 else b fn env h2 := (rfl)
@[simp] theorem e_dNot {a : DE} : dNot a fn env h = (a fn env h).bind fun d h1 => (dTru d h1).bind fun k h2 => .ok (.bl (!k)) h2 := (rfl)
@[simp] theorem e_dIf {t : DT} {a b : DE} : dIf t a b fn env h = (t fn env h).bind fun k h1 => if k = true then a fn env h1 else b fn env h1 := (rfl)
@[simp] theorem e_dtAnd {a b : DT} : dtAnd a b fn env h = (a fn env h).bind fun c h1 => if c = true then b fn env h1 else .ok false h1 := (rfl)
@[simp] theorem e_dtOr {a b : DT} : dtOr a b fn env h = (a fn env h).bind fun c h1 => if c = true then .ok true h1 else b fn env h1 := (rfl)
@[simp] theorem e_dtNot {a : DT} : dtNot a fn env h = (a fn env h).bind fun c h1 => .ok (!c) h1 := (rfl)
@[simp] theorem e_dtB {a : DE} : dtB a fn env h = (a fn env h).bind fun d h => match d with
  | .bl b => .ok b h
  | _ => .bad := (rfl)
@[simp] theorem e_dTruE {a : DE} : dTruE a fn env h = (a fn env h).bind dTru := (rfl)
@[simp] theorem e_dChain {o o' : O2} {a b c : DE} : dChain o o' a b c fn env h = (a fn env h).bind fun x h1 => (b fn env h1).bind fun y h2 => (o x y h2).bind fun z h3 => match z with
  | .bl true => (c fn env h3).bind fun w h4 => o' y w h4
  | .bl false => .ok (.bl false) h3
  | _ => .bad := (rfl)
@[simp] theorem e_dIsi {a : DE} {ts : List Ty} : dIsi a ts fn env h = (a fn env h).bind fun d h1 => match tyOf h1 d with
  | some t => .ok (.bl (ts.any fun u => t.isa u)) h1
  | none => .bad := (rfl)
@[simp] theorem e_dCall {i n nk : Nat} {src : List Src} {dd : List D} {da dk : DA} : dCall i n nk src dd da dk fn env h = (da fn env h).bind fun ds h1 => (dk fn env h1).bind fun ks h2 => mkCall i n nk src dd fn ds ks h2 := (rfl)
@[simp] theorem e_dPart {a : DE} : dPart a fn env h = (a fn env h).bind fun d h1 => match d with
  | .int i => .ok (some i) h1
  | _ => .bad := (rfl)
@[simp] theorem e_dNoPart : dNoPart fn env h = .ok none h := (rfl)
@[simp] theorem e_dSlice {a : DE} {lo hi : DO} : dSlice a lo hi fn env h = (a fn env h).bind fun d h1 => (lo fn env h1).bind fun l h2 => (hi fn env h2).bind fun u h3 => dSl d l u h3 := (rfl)
@[simp] theorem e_dRev {a : DE} : dRev a fn env h = (a fn env h).bind fun d h1 => dRevL h1 d := (rfl)
@[simp] theorem e_asVal {df : DF} : asVal df fn env h = (df fn env h).bind fun ds h1 => .ok (.lst ds) h1 := (rfl)
@[simp] theorem e_asCell {df : DF} : asCell df fn env h = (df fn env h).bind fun ds h1 => .ok (.obj h1.length) (h1 ++ [.lst ds]) := (rfl)
@[simp] theorem e_dDisp {da : DA} : dDisp da fn env h = (da fn env h).bind fun ds h1 => if noBors ds && decide (ds.length ≤ szL) then .ok ds h1 else .bad := (rfl)
@[simp] theorem e_dListF {da : DA} : dListF da fn env h = (da fn env h).bind fun ds h1 => cList ds h1 := (rfl)
@[simp] theorem e_dComp {vs : List Nat} {pt : Pat} {di : DF} {tt : DT} {te : DE} : dComp vs pt di tt te fn env h = (di fn env h).bind fun ds h1 => if decide (ds.length ≤ szL) then compL pt tt te fn (wipeE env vs) ds h1 else .bad := (rfl)
@[simp] theorem e_dtYes : dtYes fn env h = .ok true h := (rfl)
@[simp] theorem e_dItems {a : DE} : dItems a fn env h = (a fn env h).bind fun d h1 => itemsOf d h1 := (rfl)
@[simp] theorem e_dRng1 {a : DA} : dRng1 a fn env h = (a fn env h).bind fun ds h1 => rng1 ds h1 := (rfl)
@[simp] theorem e_dRng2 {a : DA} : dRng2 a fn env h = (a fn env h).bind fun ds h1 => rng2 ds h1 := (rfl)
@[simp] theorem e_dEnumA {a : DA} : dEnumA a fn env h = (a fn env h).bind enumA := (rfl)
@[simp] theorem e_dF2 {o : D → D → Cells → R (List D)} {a b : DE} : dF2 o a b fn env h = (a fn env h).bind fun x h1 => (b fn env h1).bind fun y h2 => o x y h2 := (rfl)
@[simp] theorem e_dZip {a : DA} : dZip a fn env h = (a fn env h).bind zipD := (rfl)
@[simp] theorem e_dEnum {a : DA} : dEnum a fn env h = (a fn env h).bind enumD := (rfl)
@[simp] theorem e_sRet {a : DE} : sRet a fn env h = (a fn env h).bind fun d h1 => if isBor d then .bad else .ok (.rt d, env) h1 := (rfl)
@[simp] theorem e_sRetN : sRetN fn env h = .ok (.rt .non, env) h := (rfl)
@[simp] theorem e_sNext : sNext fn env h = .ok (.nx, env) h := (rfl)
@[simp] theorem e_sSeq {a b : DS} : sSeq a b fn env h = (a fn env h).bind fun x h1 => match x.1 with
  | .nx => b fn x.2 h1
  | _ => .ok x h1 := (rfl)
@[simp] theorem e_sIf {t : DT} {a b : DS} : sIf t a b fn env h = (t fn env h).bind fun k h1 => if k = true then a fn env h1 else b fn env h1 := (rfl)
@[simp] theorem e_sSet {i : Nat} {a : DE} : sSet i a fn env h = (a fn env h).bind fun d h1 => setV i d env h1 := (rfl)
@[simp] theorem e_sOwn {i : Nat} {df : DF} : sOwn i df fn env h = (df fn env h).bind fun ds h1 => if decide (env.length ≤ i) then .bad else .ok (.nx, env.set i (.own ds)) h1 := (rfl)
@[simp] theorem e_sExpr {a : DE} : sExpr a fn env h = (a fn env h).bind fun _ h1 => .ok (.nx, env) h1 := (rfl)
@[simp] theorem e_sFor {pt : Pat} {di : DF} {b : DS} : sFor pt di b fn env h = (di fn env h).bind fun ds h1 => forL pt b fn ds env h1 := (rfl)
@[simp] theorem e_sAsg {a : DE} {b : DG} : sAsg a b fn env h = (a fn env h).bind fun d h1 => if isBor d then .bad else b d fn env h1 := (rfl)
@[simp] theorem e_sFrz {is : List Nat} {a : DS} : sFrz is a fn env h = a fn (frzs is env) h := (rfl)
@[simp] theorem e_sFrzA {is : List Nat} {a : DS} : sFrzA is a fn env h = (a fn env h).bind fun x h1 => .ok (x.1, frzs is x.2) h1 := (rfl)
@[simp] theorem e_dmV {a : DE} : dmV a fn env h = (a fn env h).bind fun d h1 => if isBor d then .bad else .ok (.v d) h1 := (rfl)
@[simp] theorem e_dmO {a : DF} : dmO a fn env h = (a fn env h).bind fun ds h1 => .ok (.o ds) h1 := (rfl)
@[simp] theorem e_sPar2 {i j : Nat} {a b : DM} : sPar2 i j a b fn env h = (a fn env h).bind fun x h1 => (b fn env h1).bind fun y h2 => match putIt i x env with
  | some env1 => match putIt j y env1 with
    | some env2 => .ok (.nx, env2) h2
    | none => .bad
  | none => .bad := (rfl)
@[simp] theorem e_sPar3 {i j k : Nat} {a b c : DM} : sPar3 i j k a b c fn env h = (a fn env h).bind fun x h1 => (b fn env h1).bind fun y h2 => (c fn env h2).bind fun z h3 => match putIt i x env with
  | some env1 => match putIt j y env1 with
    | some env2 => match putIt k z env2 with
      | some env3 => .ok (.nx, env3) h3
      | none => .bad
    | none => .bad
  | none => .bad := (rfl)
@[simp] theorem e_gName' {i : Nat} {d : D} : gName' i d fn env h = setV i d env h := (rfl)
@[simp] theorem e_gIx {i : Nat} {a : DE} {d : D} : gIx i a d fn env h = match slotL env h i with
  | some _ => (a fn env h).bind fun k h1 => setAt i k d env h1
  | none => .bad := (rfl)
@[simp] theorem e_gsNil : gsNil [] fn env h = .ok (.nx, env) h := (rfl)
@[simp] theorem e_gsCons {a : DG} {b : List D → DS} {d : D} {ds : List D} : gsCons a b (d :: ds) fn env h = sSeq (a d) (b ds) fn env h := (rfl)
@[simp] theorem e_gTup {n : Nat} {a : List D → DS} {ds : List D} : gTup n a (.tup ds) fn env h = if ds.length = n then a ds fn env h else .bad := (rfl)
@[simp] theorem e_sAug {i : Nat} {o : O2} {a : DE} : sAug i o a fn env h = match env[i]? with
  | some (.val d) => (a fn env h).bind fun e h1 => (o d e h1).bind fun z h2 => setV i z env h2
  | _ => .bad := (rfl)
@[simp] theorem e_sAppend {i : Nat} {a : DE} : sAppend i a fn env h = match slotL env h i with
  | some _ => (a fn env h).bind fun d h1 => appendAt i d env h1
  | none => .bad := (rfl)
@[simp] theorem e_sExtend {i : Nat} {a : DE} : sExtend i a fn env h = match slotL env h i with
  | some _ => (a fn env h).bind fun d h1 => extendAt i d env h1
  | none => .bad := (rfl)
@[simp] theorem e_body {n : Nat} {m : DS} {ds : List D} : bodyF n m fn ds h = (m fn (startE n ds) h).bind endF := (rfl)
@[simp] theorem e_start {n : Nat} {ds : List D} : startE n ds = ds.map Sl.val ++ List.replicate (n - ds.length) Sl.no := (rfl)
@[simp] theorem e_call {i n nk : Nat} {src : List Src} {dd ds ks : List D} : mkCall i n nk src dd fn ds ks h = if noBors ds && noBors ks && decide (ds.length = n) && decide (ks.length = nk) then match arrange ds ks dd src with
    | some zs => fn i zs h
    | none => .bad
  else .bad := (rfl)
@[simp] theorem e_nb0 : noBors [] = true := (rfl)
@[simp] theorem e_nb1 {d : D} {ds : List D} : noBors (d :: ds) = (!isBor d && noBors ds) := (rfl)
@[simp] theorem e_ar0 {α : Type} {us ws ds : List α} : arrange us ws ds [] = some [] := (rfl)
@[simp] theorem e_ar1 {α : Type} {us ws ds : List α} {s : Src} {r : List Src} : arrange us ws ds (s :: r) = match s.get us ws ds, arrange us ws ds r with
  | some x, some xs => some (x :: xs)
  | _, _ => none := (rfl)
@[simp] theorem e_srp {α : Type} {us ws ds : List α} {i : Nat} : Src.get us ws ds (.p i) = us[i]? := (rfl)
@[simp] theorem e_srk {α : Type} {us ws ds : List α} {i : Nat} : Src.get us ws ds (.k i) = ws[i]? := (rfl)
@[simp] theorem e_bor1 {ds : List D} : isBor (.bor ds) = true := (rfl)
@[simp] theorem e_bor2 : isBor .non = false := (rfl)
@[simp] theorem e_bor3 {b : Bool} : isBor (.bl b) = false := (rfl)
@[simp] theorem e_bor4 {i : Int} : isBor (.int i) = false := (rfl)
@[simp] theorem e_bor5 {s : Str} : isBor (.str s) = false := (rfl)
@[simp] theorem e_bor6 {ds : List D} : isBor (.tup ds) = false := (rfl)
@[simp] theorem e_bor7 {ds : List D} : isBor (.lst ds) = false := (rfl)
@[simp] theorem e_bor8 {ds : List D} : isBor (.frz ds) = false := (rfl)
@[simp] theorem e_bor9 {n : Nat} : isBor (.obj n) = false := (rfl)
@[simp] theorem e_endR {d : D} {env : Ev} : endF (.rt d, env) h = .ok d h := (rfl)
@[simp] theorem e_endN {env : Ev} : endF (.nx, env) h = .ok .non h := (rfl)
@[simp] theorem e_setV {i : Nat} {d : D} : setV i d env h = if isBor d || decide (env.length ≤ i) then .bad else .ok (.nx, env.set i (.val d)) h := (rfl)
@[simp] theorem e_mkTup {ds : List D} : mkTup ds h = if noBors ds && decide (ds.length ≤ szL) then .ok (.tup ds) h else .bad := (rfl)
@[simp] theorem e_mkLst {ds : List D} : mkLst ds h = if noBors ds && decide (ds.length ≤ szL) then .ok (.lst ds) h else .bad := (rfl)
@[simp] theorem e_szL : szL = 16777216 := (rfl)
@[simp] theorem e_put1 {i : Nat} {d : D} : Pat.put (.name i) d env = if isBor d || decide (env.length ≤ i) then none else some (env.set i (.val d)) := by simp [Pat.put]
@[simp] theorem e_putT {ps : List Pat} {ds : List D} : Pat.put (.tup ps) (.tup ds) env = Pat.puts ps ds env := by simp [Pat.put]
@[simp] theorem e_puts0 : Pat.puts [] [] env = some env := by simp [Pat.puts]
@[simp] theorem e_puts1 {p : Pat} {ps : List Pat} {d : D} {ds : List D} : Pat.puts (p :: ps) (d :: ds) env = match Pat.put p d env with
    | some env' => Pat.puts ps ds env'
    | none => none := by rw [Pat.puts] <;> cases Pat.put p d env <;> rfl
@[simp] theorem e_wipe0 : wipeE env [] = env := (rfl)
@[simp] theorem e_wipe1 {v : Nat} {vs : List Nat} : wipeE env (v :: vs) = (wipeE env vs).set v .no := (rfl)
@[simp] theorem e_addI {i j : Int} : dAdd (.int i) (.int j) h = .ok (.int (i + j)) h := (rfl)
@[simp] theorem e_addT {a b : List D} : dAdd (.tup a) (.tup b) h = if a.length + b.length ≤ 16777216 then .ok (.tup (a ++ b)) h else .bad := (rfl)
@[simp] theorem e_addL {a b : List D} : dAdd (.lst a) (.lst b) h = if a.length + b.length ≤ 16777216 then .ok (.lst (a ++ b)) h else .bad := (rfl)
@[simp] theorem e_subI {i j : Int} : dSub (.int i) (.int j) h = .ok (.int (i - j)) h := (rfl)
@[simp] theorem e_negI {i : Int} : dNeg (.int i) h = .ok (.int (-i)) h := (rfl)
@[simp] theorem e_modI {i j : Int} : dMod (.int i) (.int j) h = if 0 < j then .ok (.int (i % j)) h else .bad := (rfl)
@[simp] theorem e_fdivI {i j : Int} : dFdiv (.int i) (.int j) h = if decide (0 < j) && decide (j < 1073741824) then .ok (.int (i / j)) h else .bad := (rfl)
@[simp] theorem e_mulI {i j : Int} : dMul (.int i) (.int j) h = if small64 i || small64 j then .ok (.int (i * j)) h else .bad := (rfl)
@[simp] theorem e_ltI {i j : Int} : dLt (.int i) (.int j) h = .ok (.bl (decide (i < j))) h := (rfl)
@[simp] theorem e_leI {i j : Int} : dLe (.int i) (.int j) h = .ok (.bl (decide (i ≤ j))) h := (rfl)
@[simp] theorem e_gtI {i j : Int} : dGt (.int i) (.int j) h = .ok (.bl (decide (j < i))) h := (rfl)
@[simp] theorem e_geI {i j : Int} : dGe (.int i) (.int j) h = .ok (.bl (decide (j ≤ i))) h := (rfl)
@[simp] theorem e_eqI {i j : Int} : dEq (.int i) (.int j) h = .ok (.bl (decide (i = j))) h := (rfl)
@[simp] theorem e_neI {i j : Int} : dNe (.int i) (.int j) h = .ok (.bl (!decide (i = j))) h := (rfl)
@[simp] theorem e_truB {b : Bool} : dTru (.bl b) h = .ok b h := (rfl)
@[simp] theorem e_truI {i : Int} : dTru (.int i) h = .ok (i != 0) h := (rfl)
@[simp] theorem e_truN : dTru .non h = .ok false h := (rfl)
@[simp] theorem e_truT {ds : List D} : dTru (.tup ds) h = .ok (!ds.isEmpty) h := (rfl)
@[simp] theorem e_truL {ds : List D} : dTru (.lst ds) h = .ok (!ds.isEmpty) h := (rfl)
@[simp] theorem e_truBor {ds : List D} : dTru (.bor ds) h = .ok (!ds.isEmpty) h := (rfl)
@[simp] theorem e_isnB {a b : Bool} : dIsNot (.bl a) (.bl b) h = .ok (.bl (!decide (a = b))) h := (rfl)
@[simp] theorem e_isB {a b : Bool} : dIs (.bl a) (.bl b) h = .ok (.bl (decide (a = b))) h := (rfl)
@[simp] theorem e_itT {ds : List D} : itemsOf (.tup ds) h = .ok ds h := (rfl)
@[simp] theorem e_itL {ds : List D} : itemsOf (.lst ds) h = .ok ds h := (rfl)
@[simp] theorem e_itF {ds : List D} : itemsOf (.frz ds) h = .ok ds h := (rfl)
@[simp] theorem e_tyT {ds : List D} : tyOf h (.tup ds) = some .tup := (rfl)
@[simp] theorem e_tyL {ds : List D} : tyOf h (.lst ds) = some .lst := (rfl)
@[simp] theorem e_tyI {i : Int} : tyOf h (.int i) = some .int := (rfl)
@[simp] theorem e_tyB {b : Bool} : tyOf h (.bl b) = some .bl := (rfl)
@[simp] theorem e_tyS {s : Str} : tyOf h (.str s) = some .str := (rfl)
@[simp] theorem e_tyN : tyOf h .non = some .non := (rfl)
@[simp] theorem e_lenT {ds : List D} : cLen [.tup ds] h = .ok (.int ds.length) h := (rfl)
@[simp] theorem e_lenL {ds : List D} : cLen [.lst ds] h = .ok (.int ds.length) h := (rfl)
@[simp] theorem e_lenF {ds : List D} : cLen [.frz ds] h = .ok (.int ds.length) h := (rfl)
@[simp] theorem e_lenB {ds : List D} : cLen [.bor ds] h = .ok (.int ds.length) h := (rfl)
@[simp] theorem e_tupT {ds : List D} : cTuple [.tup ds] h = .ok (.tup ds) h := (rfl)
@[simp] theorem e_tupL {ds : List D} : cTuple [.lst ds] h = .ok (.tup ds) h := (rfl)
@[simp] theorem e_tupB {ds : List D} : cTuple [.bor ds] h = .ok (.tup ds) h := (rfl)
@[simp] theorem e_cListT {ds : List D} : cList [.tup ds] h = .ok ds h := (rfl)
@[simp] theorem e_cListL {ds : List D} : cList [.lst ds] h = .ok ds h := (rfl)
@[simp] theorem e_int {i : Int} : cInt [.int i] h = .ok (.int i) h := (rfl)
@[simp] theorem e_abs {i : Int} : cAbs [.int i] h = .ok (.int (if i < 0 then -i else i)) h := (rfl)
@[simp] theorem e_max {i j : Int} : cMax [.int i, .int j] h = .ok (.int (if j > i then j else i)) h := (rfl)
@[simp] theorem e_min {i j : Int} : cMin [.int i, .int j] h = .ok (.int (if j < i then j else i)) h := (rfl)
@[simp] theorem e_maxL {i j : Int} : cMaxL [.int i, .int j] h = .ok (.int (if j > i then j else i)) h := (rfl)
@[simp] theorem e_minL {i j : Int} : cMinL [.int i, .int j] h = .ok (.int (if j < i then j else i)) h := (rfl)
@[simp] theorem e_divmod {i j : Int} : cDivmod [.int i, .int j] h = if decide (0 < j) && decide (j < 1073741824) then .ok (.tup [.int (i / j), .int (i % j)]) h else .bad := (rfl)
@[simp] theorem e_rng1 {j : Int} : rng1 [.int j] h = if decide (-1000000000 ≤ j) && decide (j ≤ 1000000000) then .ok (upTo 0 j.toNat) h else .bad := (rfl)
@[simp] theorem e_ixT {ds : List D} {i : Int} : dIx (.tup ds) (.int i) h = match atI ds i with
    | some d => .ok d h
    | none => .bad := (rfl)
@[simp] theorem e_ixL {ds : List D} {i : Int} : dIx (.lst ds) (.int i) h = match atI ds i with
    | some d => .ok d h
    | none => .bad := (rfl)
@[simp] theorem e_ixF {ds : List D} {i : Int} : dIx (.frz ds) (.int i) h = match atI ds i with
    | some d => .ok d h
    | none => .bad := (rfl)
@[simp] theorem e_ixB {ds : List D} {i : Int} : dIx (.bor ds) (.int i) h = match atI ds i with
    | some d => .ok d h
    | none => .bad := (rfl)
@[simp] theorem e_slT {ds : List D} {lo hi : Option Int} : dSl (.tup ds) lo hi h = .ok (.tup (cutD ds lo hi)) h := (rfl)
@[simp] theorem e_revT {ds : List D} : dRevL h (.tup ds) = .ok (.tup ds.reverse) h := (rfl)
@[simp] theorem e_zipT {a b : List D} : zipD [.tup a, .tup b] h = .ok (pairs a b) h := (rfl)
@[simp] theorem e_putV {i : Nat} {d : D} : putIt i (.v d) env = if env.length ≤ i then none else some (env.set i (.val d)) := (rfl)
@[simp] theorem e_putO {i : Nat} {ds : List D} : putIt i (.o ds) env = if env.length ≤ i then none else some (env.set i (.own ds)) := (rfl)
@[simp] theorem e_slotL {i : Nat} : slotL env h i = match env[i]? with
  | some (.own ds) => some ds
  | some (.val (.obj n)) => match h[n]? with
    | some (.lst ds) => some ds
    | _ => none
  | _ => none := (rfl)
@[simp] theorem e_slotP {i : Nat} {ds : List D} : slotPut env h i ds = match env[i]? with
  | some (.own _) => .ok (.nx, env.set i (.own ds)) h
  | some (.val (.obj n)) => .ok (.nx, env) (h.set n (.lst ds))
  | _ => .bad := (rfl)
@[simp] theorem e_setAt {i : Nat} {j : Int} {d : D} : setAt i (.int j) d env h = match slotL env h i with
  | some ds => (match ixN ds.length j with
    | some n => if isBor d then .bad else slotPut env h i (ds.set n d)
    | none => .bad)
  | none => .bad := by unfold setAt; cases slotL env h i <;> rfl
@[simp] theorem e_appendAt {i : Nat} {d : D} : appendAt i d env h = if isBor d then .bad else match slotL env h i with
  | some ds => if decide (ds.length < szL) then slotPut env h i (ds ++ [d]) else .bad
  | none => .bad := (rfl)
@[simp] theorem e_extendL {i : Nat} {es : List D} : extendAt i (.lst es) env h = match slotL env h i with
  | some ds => if decide (ds.length + es.length ≤ szL) then slotPut env h i (ds ++ es) else .bad
  | none => .bad := by unfold extendAt; cases slotL env h i <;> rfl
@[simp] theorem e_frzs0 : frzs [] env = env := (rfl)
@[simp] theorem e_frzs1 {i : Nat} {is : List Nat} : frzs (i :: is) env = frzs is (frz1 i env) := (rfl)
@[simp] theorem e_frz1 {i : Nat} : frz1 i env = match env[i]? with
  | some (.own ds) => env.set i (.val (.lst ds))
  | _ => env := (rfl)
/-- a comprehension with an invariant by the turn, what was gathered, the cells -/
theorem compL_wp {pt : Pat} {tt : DT} {te : DE} (P : Nat → List D → Cells → Prop) : ∀ {ds : List D} {h : Cells} (n : Nat) (acc : List D), P n acc h →
    (∀ i d, ds[i]? = some d → ∀ acc h, P (n + i) acc h → ∃ env1, Pat.put pt d env = some env1 ∧ wp (tt fn env1 h) fun b h1 => if b = true then wp (te fn env1 h1) fun x h2 => isBor x = false ∧ P (n + i + 1) (acc ++ [x]) h2 else P (n + i + 1) acc h1) →
    wp (compL pt tt te fn env ds h) fun r h1 => P (n + ds.length) (acc ++ r) h1
  | [], h, n, acc, p, _ => ⟨_, _, rfl, by
    show P n (acc ++ []) h
    rw [List.append_nil]; exact p⟩
  | d :: ds, h, n, acc, p, st => by
    obtain ⟨env1, e1, w⟩ := st 0 d rfl acc h p
    have st' : ∀ i d, ds[i]? = some d → ∀ acc h, P (n + 1 + i) acc h → ∃ env1, Pat.put pt d env = some env1 ∧ wp (tt fn env1 h) fun b h1 => if b = true then wp (te fn env1 h1) fun x h2 => isBor x = false ∧ P (n + 1 + i + 1) (acc ++ [x]) h2 else P (n + 1 + i + 1) acc h1 := fun i d hd acc h q => by
      have z := st (i + 1) d (by simpa using hd) acc h (by rw [show n + (i + 1) = n + 1 + i by omega]; exact q)
      rw [show n + (i + 1) = n + 1 + i by omega] at z
      exact z
    have len : n + (d :: ds).length = n + 1 + ds.length := by rw [List.length_cons]; omega
    rw [len]
    unfold compL
    simp only [e1]
    obtain ⟨b, h1, e2, w⟩ := wp_get w
    simp only [e2, nox_ok, ok_bind]
    by_cases hb : b = true
    · rw [if_pos hb] at w ⊢
      obtain ⟨x, h2, e3, nb, p2⟩ := wp_get w
      simp only [e3, nox_ok, ok_bind, nb, Bool.false_eq_true, if_false]
      rw [wp_bind]
      refine wp_mono (compL_wp P (n + 1) (acc ++ [x]) p2 st') fun r h3 z => ?_
      rw [wp_ok]
      show P _ (acc ++ x :: r) h3
      rw [show acc ++ x :: r = acc ++ [x] ++ r by simp]; exact z
    · rw [if_neg hb] at w ⊢
      exact compL_wp P (n + 1) acc w st'
end
end EV
/-! EV24: plain data -/
namespace EV
open PySem L2
/-- data of at most so many floors -/
def okd : Nat → D → Bool
  | _, .non => true
  | _, .bl _ => true
  | _, .int _ => true
  | _, .str s => PySem.PyData.strOk s
  | n + 1, .tup ds => ds.all (okd n)
  | n + 1, .lst ds => ds.all (okd n)
  | _, _ => false
theorem okd_succ : ∀ {n : Nat} {d : D}, okd n d = true → okd (n + 1) d = true
  | 0, d, h => by cases d <;> first | rfl | (simp [okd] at h ⊢; done) | (simp [okd] at h ⊢; exact h)
  | n + 1, d, h => by
    have up : ∀ {ds : List D}, ds.all (okd n) = true → ds.all (okd (n + 1)) = true := fun {ds} q => by
      rw [List.all_eq_true] at q ⊢
      exact fun x hx => okd_succ (q x hx)
    cases d with
    | tup ds =>
      have h : ds.all (okd n) = true := h
      exact up h
    | lst ds =>
      have h : ds.all (okd n) = true := h
      exact up h
    | non => rfl
    | bl _ => rfl
    | int _ => rfl
    | str s => exact h
    | _ => simp [okd] at h
theorem okd_le {m n : Nat} {d : D} (l : m ≤ n) (h : okd m d = true) : okd n d = true := by
  induction l with
  | refl => exact h
  | step _ ih => exact okd_succ ih
theorem okd_pd : ∀ {n : Nat} {d : D}, okd n d = true → ∃ p, D.pd d = some p ∧ p.canLay0 = true ∧ p.depth ≤ n := by
  intro n
  induction n with
  | zero =>
    intro d h
    cases d <;> first | (simp [okd] at h; done) | skip
    · exact ⟨.none, by simp only [D.pd], rfl, Nat.le_refl _⟩
    · rename_i b; exact ⟨.bool b, by simp only [D.pd], rfl, Nat.le_refl _⟩
    · rename_i i; exact ⟨.int i, by simp only [D.pd], rfl, Nat.le_refl _⟩
    · rename_i s; exact ⟨.str s, by simp only [D.pd], h, Nat.le_refl _⟩
  | succ n ih =>
    have many : ∀ {ds : List D}, ds.all (okd n) = true → ∃ ps, D.pds ds = some ps ∧ PyData.canLayAll0 ps = true ∧ PyData.depthAll ps ≤ n ∧ ps.length = ds.length := by
      intro ds
      induction ds with
      | nil => exact fun _ => ⟨[], by simp only [D.pds], rfl, Nat.zero_le _, rfl⟩
      | cons d ds jh =>
        intro h
        simp only [List.all_cons, Bool.and_eq_true] at h
        obtain ⟨p, h1, h2, h3⟩ := ih h.1
        obtain ⟨ps, h4, h5, h6, h7⟩ := jh h.2
        exact ⟨p :: ps, by simp only [D.pds, h1, h4], by simp [PyData.canLayAll0, h2, h5], by simp [PyData.depthAll]; omega, by simp [h7]⟩
    intro d h
    cases d with
    | tup ds =>
      obtain ⟨ps, h1, h2, h3, _⟩ := many (show ds.all (okd n) = true from h)
      exact ⟨.tuple ps, by simp only [D.pd, h1, Option.map_some], h2, by simp [PyData.depth]; omega⟩
    | lst ds =>
      obtain ⟨ps, h1, h2, h3, _⟩ := many (show ds.all (okd n) = true from h)
      exact ⟨.list ps, by simp only [D.pd, h1, Option.map_some], h2, by simp [PyData.depth]; omega⟩
    | non => exact ⟨.none, by simp only [D.pd], rfl, Nat.zero_le _⟩
    | bl b => exact ⟨.bool b, by simp only [D.pd], rfl, Nat.zero_le _⟩
    | int i => exact ⟨.int i, by simp only [D.pd], rfl, Nat.zero_le _⟩
    | str s => exact ⟨.str s, by simp only [D.pd], h, Nat.zero_le _⟩
    | _ => simp [okd] at h
theorem pdH_eq {h : Cells} {n : Nat} {d : D} (q : okd n d = true) : pdH h d = D.pd d := by
  cases d <;> first | rfl | (cases n <;> simp [okd] at q)
theorem shaped_of {p : PyData} {n : Nat} (h1 : p.canLay0 = true) (h2 : p.depth ≤ n) (hn : n ≤ 64) : SeqAt.shaped p = true := by
  unfold SeqAt.shaped
  simp only [h1, Bool.true_and, decide_eq_true_eq]
  omega
@[simp] theorem e_neS {h : Cells} {s t : Str} : dNe (.str s) (.str t) h = .ok (.bl (!decide (s = t))) h := (rfl)
@[simp] theorem e_eqS {h : Cells} {s t : Str} : dEq (.str s) (.str t) h = .ok (.bl (decide (s = t))) h := (rfl)
@[simp] theorem e_neBl {h : Cells} {s t : Bool} : dNe (.bl s) (.bl t) h = .ok (.bl (!decide (s = t))) h := (rfl)
@[simp] theorem e_eqBl {h : Cells} {s t : Bool} : dEq (.bl s) (.bl t) h = .ok (.bl (decide (s = t))) h := (rfl)
/-! what repr is asked of -/
def okr : Nat → D → Bool
  | _, .non => true
  | _, .bl _ => true
  | _, .int i => decide (i.natAbs < 10 ^ 40)
  | _, .str s => PySem.PyData.strOk s
  | n + 1, .tup ds => ds.all (okr n)
  | n + 1, .lst ds => ds.all (okr n)
  | _, _ => false
def dsz : Nat → D → Nat
  | _, .non => 4
  | _, .bl _ => 5
  | _, .int _ => 41
  | _, .str s => 10 * s.length + 2
  | n + 1, .tup ds => (ds.map fun d => dsz n d + 2).sum + 3
  | n + 1, .lst ds => (ds.map fun d => dsz n d + 2).sum + 3
  | _, _ => 0
theorem int40 {i : Int} (h : i.natAbs < 10 ^ 40) : rok (.int i) = true ∧ rsz (.int i) = 41 := by
  refine ⟨?_, ?_⟩
  · simp only [rok, decide_eq_true_eq]
    by_cases z : i.natAbs = 0
    · rw [z]; decide
    · rw [Nat.log2_lt z]
      refine Nat.lt_of_lt_of_le h ?_
      exact Nat.le_trans (show (10 ^ 40 : Nat) ≤ 2 ^ 200 by decide) (Nat.pow_le_pow_right (by decide) (by decide))
  · simp only [rsz]
    rw [if_pos h]
theorem okr_pd : ∀ {n : Nat} {d : D}, okr n d = true → ∃ p, D.pd d = some p ∧ rok p = true ∧ rsz p ≤ dsz n d ∧ p.depth ≤ n := by
  intro n
  induction n with
  | zero =>
    intro d h
    cases d with
    | non => exact ⟨.none, by simp only [D.pd], rfl, by simp [rsz, dsz], Nat.zero_le _⟩
    | bl b => exact ⟨.bool b, by simp only [D.pd], rfl, by simp [rsz, dsz], Nat.zero_le _⟩
    | int i =>
      obtain ⟨h1, h2⟩ := int40 (by simpa [okr] using h)
      exact ⟨.int i, by simp only [D.pd], h1, by rw [h2]; exact Nat.le_refl _, Nat.zero_le _⟩
    | str s => exact ⟨.str s, by simp only [D.pd], by simpa [rok, okr, PySem.PyData.strOk] using h, by simp [rsz, dsz], Nat.zero_le _⟩
    | _ => simp [okr] at h
  | succ n ih =>
    have many : ∀ {ds : List D}, ds.all (okr n) = true → ∃ ps, D.pds ds = some ps ∧ roks ps = true ∧ rszs ps ≤ (ds.map fun d => dsz n d + 2).sum ∧ PyData.depthAll ps ≤ n := by
      intro ds
      induction ds with
      | nil => exact fun _ => ⟨[], by simp only [D.pds], rfl, Nat.le_refl _, Nat.zero_le _⟩
      | cons d ds jh =>
        intro h
        simp only [List.all_cons, Bool.and_eq_true] at h
        obtain ⟨p, h1, h2, h3, h4⟩ := ih h.1
        obtain ⟨ps, k1, k2, k3, k4⟩ := jh h.2
        exact ⟨p :: ps, by simp only [D.pds, h1, k1], by simp [roks, h2, k2], by simp only [rszs, List.map_cons, List.sum_cons]; omega, by simp [PyData.depthAll]; omega⟩
    intro d h
    cases d with
    | tup ds =>
      obtain ⟨ps, h1, h2, h3, h4⟩ := many (show ds.all (okr n) = true from h)
      exact ⟨.tuple ps, by simp only [D.pd, h1, Option.map_some], h2, by simp only [rsz, dsz]; omega, by simp [PyData.depth]; omega⟩
    | lst ds =>
      obtain ⟨ps, h1, h2, h3, h4⟩ := many (show ds.all (okr n) = true from h)
      exact ⟨.list ps, by simp only [D.pd, h1, Option.map_some], h2, by simp only [rsz, dsz]; omega, by simp [PyData.depth]; omega⟩
    | non => exact ⟨.none, by simp only [D.pd], rfl, by simp [rsz, dsz], Nat.zero_le _⟩
    | bl b => exact ⟨.bool b, by simp only [D.pd], rfl, by simp [rsz, dsz], Nat.zero_le _⟩
    | int i =>
      obtain ⟨h1, h2⟩ := int40 (by simpa [okr] using h)
      exact ⟨.int i, by simp only [D.pd], h1, by rw [h2]; exact Nat.le_refl _, Nat.zero_le _⟩
    | str s => exact ⟨.str s, by simp only [D.pd], by simpa [rok, okr, PySem.PyData.strOk] using h, by simp [rsz, dsz], Nat.zero_le _⟩
    | _ => simp [okr] at h
theorem dsz_le {n B : Nat} : ∀ {xs : List D}, (∀ x ∈ xs, dsz n x ≤ B) → (xs.map fun d => dsz n d + 2).sum ≤ xs.length * (B + 2)
  | [], _ => by simp
  | x :: xs, h => by
    have h1 := h x (List.mem_cons_self ..)
    have h2 := dsz_le (xs := xs) fun y hy => h y (List.mem_cons_of_mem _ hy)
    simp only [List.map_cons, List.sum_cons, List.length_cons, Nat.add_mul]
    omega
end EV
/-! EV28: plain facts that many laws lean on -/
namespace EV
open PySem L2
mutual
/-- a value without cells -/
def pl : D → Bool
  | .non | .bl _ | .int _ | .str _ => true
  | .tup ds => pls ds
  | .lst ds => pls ds
  | _ => false
def pls : List D → Bool
  | [] => true
  | d :: ds => pl d && pls ds
end
theorem pl_nb {d : D} (h : pl d = true) : isBor d = false := by cases d <;> first | rfl | simp [pl] at h
def isInt : D → Bool
  | .int _ => true
  | _ => false
def isCount : D → Bool
  | .int i => decide (0 ≤ i)
  | _ => false
def isBelow (v : D) (m : Int) : Bool := match v with
  | .int i => decide (0 ≤ i) && decide (i < m)
  | _ => false
theorem bls_map (f : D → Bool) : ∀ {ds : List D}, toBls (ds.map fun d => .bl (f d)) = some (ds.map f)
  | [] => rfl
  | d :: ds => by simp [toBls, bls_map f (ds := ds)]
theorem two {ds : List D} (e : ds.length = 2) : ∃ a b, ds = [a, b] := by
  match ds, e with
  | [a, b], _ => exact ⟨a, b, rfl⟩
theorem at0 {a : D} {ds : List D} : atI (a :: ds) 0 = some a := by
  unfold atI ixN
  simp
theorem at1 {a b : D} {ds : List D} : atI (a :: b :: ds) 1 = some b := by
  unfold atI ixN
  have : (1 : Int) < ((a :: b :: ds).length : Int) := by simp only [List.length_cons]; omega
  rw [if_pos (by decide), if_pos this]
  rfl
theorem okd_pl : ∀ {n : Nat} {d : D}, okd n d = true → pl d = true := by
  intro n
  induction n with
  | zero => intro d q; cases d <;> first | rfl | (simp [okd] at q; done)
  | succ n ih =>
    have many : ∀ {ds : List D}, ds.all (okd n) = true → pls ds = true := by
      intro ds
      induction ds with
      | nil => exact fun _ => rfl
      | cons d ds jh =>
        intro q
        simp only [List.all_cons, Bool.and_eq_true] at q
        simp [pls, ih q.1, jh q.2]
    intro d q
    cases d with
    | tup ds => exact many (show ds.all (okd n) = true from q)
    | lst ds => exact many (show ds.all (okd n) = true from q)
    | _ => first | rfl | (simp [okd] at q; done)
theorem toNat_upTo {n : Int} {i : Nat} {d : D} (e : (upTo 0 n.toNat)[i]? = some d) : d = .int i ∧ (i : Int) < n := by
  unfold upTo at e
  rw [List.getElem?_map] at e
  cases q : (List.range n.toNat)[i]? with
  | none => rw [q] at e; cases e
  | some j =>
    rw [q] at e
    obtain ⟨h1, h2⟩ := List.getElem?_eq_some_iff.mp q
    simp at h1 h2
    subst h2
    simp at e
    exact ⟨e.symm, by omega⟩
theorem str_ok {s : String} : PySem.PyData.strOk (Str.ofString s) = true := by
  unfold PySem.PyData.strOk
  rw [Str.ofString_eq_toList]
  simp
  intro c _
  have := c.valid
  show c.val.toNat < 1114112
  rcases this with z | ⟨_, z⟩
  · exact Nat.lt_trans z (by decide)
  · exact z
end EV
/-! EV29: plain facts: rows of ints, counts, questions, repr, steps through blocks -/
namespace EV
open PySem L2
variable {h : Cells}
def Is (ns : List Int) : List D := ns.map D.int
@[simp] theorem len_Is {ns : List Int} : (Is ns).length = ns.length := by simp [Is]
theorem Is_cons {n : Int} {ns : List Int} : Is (n :: ns) = .int n :: Is ns := rfl
theorem toInts_Is : ∀ {ns : List Int}, toInts (Is ns) = some ns
  | [] => rfl
  | n :: ns => by rw [Is_cons]; simp [toInts, toInts_Is (ns := ns)]
def rest (ns qs : List Int) : List Int := List.zipWith (· - ·) ns qs
theorem len_rest {ns qs : List Int} : (rest ns qs).length = min ns.length qs.length := by simp [rest]
def yes (ns qs : List Int) : List Int := List.zipWith (· + ·) qs (0 :: (rest ns qs).dropLast)
def no (ns qs : List Int) : List Int := yes ns (rest ns qs)
def kept (q n : Int) (b : Bool) : Int := if b then q else n - q
def gd (l : List Int) (i : Nat) : Int := l.getD i 0
def kp (ns qs : List Int) (b : Bool) (i : Nat) : Int := if b then gd qs i else gd ns i - gd qs i
def go (ns qs : List Int) (b : Bool) (i : Nat) : Int := gd ns i - kp ns qs b i
theorem len_rest' {qs ns : List Int} (e : qs.length = ns.length) : (rest ns qs).length = ns.length := by rw [len_rest]; omega
end EV
/-! EV32: pure loops, while, steps -/
namespace EV
open PySem L2
section
variable {α β : Type} {fn : Fns} {env : Ev} {h : Cells}
@[simp] theorem e_sWhile {n : Nat} {t : DT} {body : DS} : sWhile n t body fn env h = whileL t body fn n env h := (rfl)
theorem seqQ {a b : DS} {env1 : Ev} {h1 : Cells} (ha : a fn env h = .ok (.nx, env1) h1) : sSeq a b fn env h = b fn env1 h1 := by
  rw [e_sSeq, ha, ok_bind]
end
theorem len_up {lo : Int} {n : Nat} : (upTo lo n).length = n := by simp [upTo]
end EV
/-! EV34: weights -/
namespace EV
open PySem L2
/-- C(j, 0) + .. + C(j, l) -/
def W : Nat → Nat → Int
  | 0, _ => 1
  | j + 1, 0 => 1
  | j + 1, l + 1 => W j (l + 1) + W j l
theorem W_zero : ∀ j, W j 0 = 1
  | 0 => rfl
  | _ + 1 => rfl
theorem W_pos : ∀ j l, 1 ≤ W j l
  | 0, _ => Int.le_refl _
  | _ + 1, 0 => Int.le_refl _
  | j + 1, l + 1 => by have a := W_pos j (l + 1); have b := W_pos j l; show 1 ≤ W j (l + 1) + W j l; omega
theorem W_mono : ∀ j l, W j l ≤ W j (l + 1)
  | 0, _ => Int.le_refl _
  | j + 1, 0 => by have a := W_pos j 1; have b := W_pos j 0; show 1 ≤ W j 1 + W j 0; omega
  | j + 1, l + 1 => by have a : W j (l + 1) ≤ W j (l + 2) := W_mono j (l + 1); have b := W_mono j l; show W j (l + 1) + W j l ≤ W j (l + 2) + W j (l + 1); omega
theorem W_two : ∀ j l, W (j + 1) l ≤ 2 * W j l
  | j, 0 => by show 1 ≤ 2 * W j 0; rw [W_zero]; decide
  | j, l + 1 => by have := W_mono j l; show W j (l + 1) + W j l ≤ _; omega
theorem W_pow : ∀ j l, W j l ≤ 2 ^ j
  | 0, _ => Int.le_refl _
  | j + 1, l => by
    have a := W_two j l
    have b := W_pow j l
    rw [Int.pow_succ]
    omega
/-- the parts of a weight -/
def wl : List Int → Nat → List Int
  | [], _ => []
  | n :: ns, j => n * W j ns.length :: wl ns j
def Wt (ns : List Int) (j : Nat) : Int := (wl ns j).sum
theorem Wt_cons {n : Int} {ns : List Int} {j : Nat} : Wt (n :: ns) j = n * W j ns.length + Wt ns j := by simp [Wt, wl]
theorem Wt_nil {j : Nat} : Wt [] j = 0 := rfl
/-- what answers leave, c from the place before -/
def Yc : Int → List Int → List Int → List Int
  | c, q :: qs, n :: ns => (q + c) :: Yc (n - q) qs ns
  | _, _, _ => []
theorem yc_go : ∀ (c : Int) (qs ns : List Int), qs.length = ns.length → List.zipWith (· + ·) qs ((c :: rest ns qs).dropLast) = Yc c qs ns
  | _, [], [], _ => rfl
  | c, q :: qs, n :: ns, e => by
    have ih := yc_go (n - q) qs ns (by simpa using e)
    simp only [rest, List.zipWith_cons_cons, List.dropLast_cons_cons, Yc] at ih ⊢
    rw [ih]
theorem yes_yc {qs ns : List Int} (e : qs.length = ns.length) : yes ns qs = Yc 0 qs ns := by
  rw [← yc_go 0 qs ns e, yes]
  cases qs with
  | nil => rfl
  | cons q qs =>
    cases ns with
    | nil => simp at e
    | cons n ns => simp [rest]
theorem no_yc {qs ns : List Int} (e : qs.length = ns.length) : no ns qs = Yc 0 (rest ns qs) ns := by
  rw [no]; exact yes_yc (len_rest' e)
def Wp (j : Nat) : Nat → Int
  | 0 => 0
  | l + 1 => W j l
theorem W_up (j l : Nat) : W (j + 1) l = W j l + Wp j l := by
  cases l with
  | zero => rw [W_zero, W_zero]; rfl
  | succ l => rfl
theorem yc_len : ∀ {c : Int} {qs ns : List Int}, qs.length = ns.length → (Yc c qs ns).length = ns.length
  | _, [], [], _ => rfl
  | c, q :: qs, n :: ns, e => by simp [Yc, yc_len (c := n - q) (qs := qs) (ns := ns) (by simpa using e)]
/-- weights behind both answers -/
theorem wt_sum (j : Nat) : ∀ (c c' : Int) (qs ns : List Int), qs.length = ns.length → Wt (Yc c qs ns) j + Wt (Yc c' (rest ns qs) ns) j = (c + c') * Wp j ns.length + Wt ns (j + 1)
  | c, c', [], [], _ => by simp [Yc, rest, Wt_nil, Wp]
  | c, c', q :: qs, n :: ns, e => by
    have e' : qs.length = ns.length := by simpa using e
    have ih := wt_sum j (n - q) (n - (n - q)) qs ns e'
    have er : rest (n :: ns) (q :: qs) = (n - q) :: rest ns qs := rfl
    rw [er]
    simp only [Yc, Wt_cons, yc_len e', yc_len (len_rest' e'), List.length_cons, W_up j ns.length]
    have w : Wp j (ns.length + 1) = W j ns.length := rfl
    rw [w]
    have h1 : (n - q + (n - (n - q))) * Wp j ns.length = n * Wp j ns.length := by congr 1; omega
    rw [h1] at ih
    simp only [Int.add_mul, Int.mul_add, Int.sub_mul] at ih ⊢
    omega
theorem wt_both {qs ns : List Int} (j : Nat) (e : qs.length = ns.length) : Wt (yes ns qs) j + Wt (no ns qs) j = Wt ns (j + 1) := by
  rw [yes_yc e, no_yc e, wt_sum j 0 0 qs ns e]; simp
def Nn (ns : List Int) : Prop := ∀ n ∈ ns, 0 ≤ n
theorem Nn.tl {n : Int} {ns : List Int} (p : Nn (n :: ns)) : Nn ns := fun m h => p m (.tail _ h)
theorem nn_sum : ∀ {ns : List Int}, Nn ns → 0 ≤ ns.sum
  | [], _ => by simp
  | n :: ns, p => by
    have := nn_sum p.tl
    have := p n (.head _)
    simp; omega
theorem wt_le {B : Int} {j : Nat} (hB : ∀ l, l ≤ 3 → W j l ≤ B) : ∀ {ns : List Int}, Nn ns → ns.length ≤ 4 → Wt ns j ≤ ns.sum * B
  | [], _, _ => by simp [Wt_nil]
  | n :: ns, p, l => by
    have ih := wt_le hB (ns := ns) p.tl (by simp at l; omega)
    have n0 := p n (.head _)
    have := Int.mul_le_mul_of_nonneg_left (hB ns.length (by simp at l; omega)) n0
    rw [Wt_cons, List.sum_cons, Int.add_mul]
    omega
def Hv (ns : List Int) (j : Nat) : Bool := decide (1 < ns.sum) && decide ((2 : Int) ^ j < Wt ns j)
theorem hv_mono {ns : List Int} {j : Nat} (p : Nn ns) (l : ns.length ≤ 4) (q : Hv ns j = false) : Wt ns j ≤ (2 : Int) ^ j := by
  unfold Hv at q
  by_cases z : 1 < ns.sum
  · simp [z] at q; exact q
  · have h1 := wt_le (B := (2 : Int) ^ j) (j := j) (fun l _ => W_pow j l) p l
    have h0 := nn_sum p
    have h2 : ns.sum * (2 : Int) ^ j ≤ 1 * (2 : Int) ^ j := Int.mul_le_mul_of_nonneg_right (by omega) (Int.le_of_lt (Int.pow_pos (by decide)))
    omega
end EV
/-! EV35: all questions, by turns -/
/-! EV36: what an answer leaves, by a law's own look -/
namespace EV
open PySem L2
@[simp] theorem e_isNN {h : Cells} : dIs .non .non h = .ok (.bl true) h := (rfl)
@[simp] theorem e_isIN {h : Cells} {i : Int} : dIs (.int i) .non h = .ok (.bl false) h := (rfl)
end EV
/-! EV37: pots and draws of any law -/
namespace EV
open PySem L2
/-- a pot stands at cell n -/
def Pt (n : Nat) (h : Cells) : Prop := ∃ a b, h[n]? = some (.lst [.int a, .int b])
theorem Pt.lt {n : Nat} {h : Cells} (p : Pt n h) : n < h.length := by
  obtain ⟨a, b, e⟩ := p
  exact (List.getElem?_eq_some_iff.mp e).1
/-- only the pot changed -/
def Dr (n : Nat) (h h' : Cells) : Prop := ∃ a b, h' = h.set n (.lst [.int a, .int b])
theorem Dr.pt {n : Nat} {h h' : Cells} (p : Pt n h) (d : Dr n h h') : Pt n h' := by
  obtain ⟨a, b, rfl⟩ := d
  exact ⟨a, b, List.getElem?_set_self p.lt⟩
theorem Dr.trans {n : Nat} {h h' h'' : Cells} (d : Dr n h h') (e : Dr n h' h'') : Dr n h h'' := by
  obtain ⟨a, b, rfl⟩ := d
  obtain ⟨a', b', rfl⟩ := e
  exact ⟨a', b', by rw [List.set_set]⟩
def potM1 (c1 c2 c3 c4 c5 : Int) : DS := sSeq (sSet 2 (dIf (dtB (dOp2 dLt (dVar 1) (dOpN cLen (daCons (dVar 0) (daNil))))) (dOpN cAbs (daCons (dOp2 dIx (dVar 0) (dVar 1)) (daNil))) (dOp2 dAdd (dOp2 dMul (dC (.int c1)) (dVar 1)) (dC (.int c2))))) (sRet (asCell (dDisp (daCons (dOpN cMaxL (daCons (dC (.int 0)) (daCons (dOp2 dSub (dVar 2) (dOp2 dPow (dC (.int 10)) (dC (.int 18)))) (daNil)))) (daCons (dOp2 dAdd (dOp2 dMod (dOpN cInt (daCons (dOp2 dAdd (dOp2 dAdd (dOp2 dMul (dOp2 dMod (dOpN cInt (daCons (dVar 2) (daNil))) (dC (.int 2147483549))) (dC (.int c3))) (dOp2 dMul (dC (.int c4)) (dVar 1))) (dC (.int c5))) (daNil))) (dC (.int 2147483563))) (dC (.int 1))) (daNil))))))
section
variable {fn : Fns} {h : Cells}
theorem script_at {ns : List Int} {k : Nat} (q : k < ns.length) : ∃ i, atI (ns.map D.int) (k : Int) = some (.int i) := by
  refine ⟨ns[k], ?_⟩
  unfold atI ixN
  have a1 : (0 : Int) ≤ k := by omega
  have a2 : (k : Int) < ((ns.map D.int).length : Int) := by rw [List.length_map]; omega
  rw [if_pos a1, if_pos a2]
  show (ns.map D.int)[(k : Int).toNat]? = _
  rw [List.getElem?_map, show (k : Int).toNat = k by omega, List.getElem?_eq_getElem q]; rfl
theorem pow18 : dPow (.int 10) (.int 18) h = .ok (.int 1000000000000000000) h := by
  unfold dPow
  rfl
theorem ev_pot1 {ns : List Int} {k : Nat} {c1 c2 c3 c4 c5 : Int} (s1 : c1.natAbs ≤ 1000000000) (s3 : c3.natAbs ≤ 1000000000) (s4 : c4.natAbs ≤ 1000000000) :
    wp (bodyF 3 (potM1 c1 c2 c3 c4 c5) fn [.frz (ns.map D.int), .int k] h) fun d h' => d = .obj h.length ∧ ∃ a b, h' = h ++ [.lst [.int a, .int b]] := by
  have w1 : small64 c1 = true := by simp only [small64, Bool.and_eq_true, decide_eq_true_eq]; omega
  have w3 : small64 c3 = true := by simp only [small64, Bool.and_eq_true, decide_eq_true_eq]; omega
  have w4 : small64 c4 = true := by simp only [small64, Bool.and_eq_true, decide_eq_true_eq]; omega
  by_cases z : k < ns.length
  · obtain ⟨i, ei⟩ := script_at z
    simp [potM1, z, ei, w1, w3, w4, pow18]
  · simp [potM1, z, w1, w3, w4, pow18]
theorem pt_new {a b : Int} : Pt h.length (h ++ [.lst [.int a, .int b]]) := ⟨a, b, by simp⟩
def drawM (c1 c2 m1 m2 q : Int) : DS := sSeq (sIf (dtB (dOp2 dGt (dOp2 dIx (dVar 0) (dC (.int 0))) (dC (.int 0)))) (sSeq (sAsg (dOpN cDivmod (daCons (dOp2 dIx (dVar 0) (dC (.int 0))) (daCons (dVar 1) (daNil)))) (gTup 2 (gsCons (gIx 0 (dC (.int 0))) (gsCons (gName' 2) (gsNil))))) (sRet (dVar 2))) (sNext)) (sSeq (sAsg (dOp2 dMod (dOpN cInt (daCons (dOp2 dAdd (dOp2 dMul (dOp2 dIx (dVar 0) (dC (.int 1))) (dC (.int c1))) (dC (.int c2))) (daNil))) (dC (.int m1))) (gIx 0 (dC (.int 1)))) (sRet (dOp2 dMod (dOpN cInt (daCons (dOp2 dFdiv (dOp2 dMod (dOpN cInt (daCons (dOp2 dMul (dOp2 dIx (dVar 0) (dC (.int 1))) (dOp2 dIx (dVar 0) (dC (.int 1)))) (daNil))) (dC (.int m2))) (dC (.int q))) (daNil))) (dVar 1))))
theorem ix_obj {n : Nat} {i : Int} {ds : List D} (e : h[n]? = some (.lst ds)) : dIx (.obj n) (.int i) h = match atI ds i with
    | some d => .ok d h
    | none => .bad := by
  simp [dIx, seqT, seqL, e]
  all_goals rfl
def pickM (i : Nat) : DS := sRet (dOp2 dIx (dVar 1) (dCall i 2 0 [.p 0, .p 1] [] (daCons (dVar 0) (daCons (dOpN cLen (daCons (dVar 1) (daNil))) (daNil))) (daNil)))
end
end EV
/-! EV39: what the program's first defs keep, whatever law they stand in -/
namespace EV
open PySem L2
abbrev Fn := List D → Cells → R D
/-- is_integer(value) -/
def is_integer_M : DS := sRet (dAnd (dIsi (dVar 0) [.int]) (dNot (dIsi (dVar 0) [.bl])))
/-- is_count(value) -/
def is_count_M (c_is_integer : Nat) : DS := sRet (dAnd (dCall c_is_integer 1 0 [.p 0] [] (daCons (dVar 0) (daNil)) (daNil)) (dOp2 dGe (dVar 0) (dC (.int 0))))
/-- is_below(value, many) -/
def is_below_M (c_is_count : Nat) : DS := sRet (dAnd (dCall c_is_count 1 0 [.p 0] [] (daCons (dVar 0) (daNil)) (daNil)) (dOp2 dLt (dVar 0) (dVar 1)))
/-- is_row(value, many) -/
def is_row_M : DS := sRet (dAnd (dIsi (dVar 0) [.tup]) (dOp2 dEq (dOpN cLen (daCons (dVar 0) (daNil))) (dVar 1)))
def S_is_integer (f : Fn) : Prop := ∀ v h, pl v = true → f [v] h = .ok (.bl (isInt v)) h
def S_is_count (f : Fn) : Prop := ∀ v h, pl v = true → f [v] h = .ok (.bl (isCount v)) h
def S_is_below (f : Fn) : Prop := ∀ v (m : Int) h, pl v = true → f [v, .int m] h = .ok (.bl (isBelow v m)) h
def isRow (v : D) (n : Int) : Bool := match v with
  | .tup ds => decide ((ds.length : Int) = n)
  | _ => false
def S_is_row (f : Fn) : Prop := ∀ v (n : Int) h, pl v = true → f [v, .int n] h = .ok (.bl (isRow v n)) h
def S_pot (f : Fn) : Prop := ∀ (ns : List Int) (k : Nat) h, wp (f [.frz (ns.map D.int), .int k] h) fun d h' => d = .obj h.length ∧ ∃ a b, h' = h ++ [.lst [.int a, .int b]]
section
variable {fn : Fns} {i i2 i3 i4 i5 : Nat}
theorem ev_is_integer : S_is_integer (bodyF 1 is_integer_M fn) := fun v h hv => by
  unfold is_integer_M
  cases v <;> first | (simp [pl] at hv; done) | (simp [Ty.isa, isInt]; done)
theorem ev_is_count (a : S_is_integer (fn i)) : S_is_count (bodyF 1 (is_count_M i) fn) := fun v h hv => by
  unfold is_count_M
  have nb := pl_nb hv
  simp [nb, a v _ hv]
  cases v <;> simp [isInt, isCount]
theorem ev_is_below (a : S_is_count (fn i)) : S_is_below (bodyF 2 (is_below_M i) fn) := fun v m h hv => by
  unfold is_below_M
  have nb := pl_nb hv
  simp [nb, a v _ hv]
  cases v <;> simp [isBelow, isCount]
  split
  · simp_all
  · simp; omega
theorem ev_is_row : S_is_row (bodyF 2 is_row_M fn) := fun v n h hv => by
  unfold is_row_M
  cases v <;> first | (simp [pl] at hv; done) | (simp [Ty.isa, isRow]; done)
theorem ev_law_pot1 {c1 c2 c3 c4 c5 : Int} (s1 : c1.natAbs ≤ 1000000000) (s3 : c3.natAbs ≤ 1000000000) (s4 : c4.natAbs ≤ 1000000000) : S_pot (bodyF 3 (potM1 c1 c2 c3 c4 c5) fn) := fun ns k h => ev_pot1 s1 s3 s4
end
end EV
/-! EV40: logs -/
namespace EV
open PySem L2
/-- a row: things, whether the answer is yes -/
structure Rw where
  ts : List Int
  a : Bool
/-- whether a row is wrong for a thing -/
def wrB (r : Rw) (t : Int) : Bool := decide (r.ts.contains t = !r.a)
def nw (rs : List Rw) (t : Int) : Nat := rs.countP fun r => wrB r t
def nats (m : Nat) : List Int := (List.range m).map fun (i : Nat) => (i : Int)
theorem upTo_nats {m : Nat} : upTo 0 m = Is (nats m) := by
  rw [upTo, Is, nats, List.map_map]
  exact List.map_congr_left fun i _ => by simp
theorem mem_nats {m : Nat} {x : Int} : x ∈ nats m ↔ 0 ≤ x ∧ x < m := by
  simp only [nats, List.mem_map, List.mem_range]
  constructor
  · rintro ⟨i, h, rfl⟩; omega
  · intro h; exact ⟨x.toNat, by omega, by omega⟩
theorem nats_len {m : Nat} : (nats m).length = m := by simp [nats]
end EV
/-! EV41: logs as laws draw them, laws' own looks at logs -/
/-! EV42: laws' ends; what repr is asked of -/
namespace EV
open PySem L2
/-- repr goes: floors, size -/
def Rq (n B : Nat) (d : D) : Prop := okr n d = true ∧ dsz n d ≤ B
theorem Rq.mono {n B C : Nat} {d : D} (q : Rq n B d) (h : B ≤ C) : Rq n C d := ⟨q.1, Nat.le_trans q.2 h⟩
theorem rq_bl {n : Nat} {b : Bool} : Rq n 5 (.bl b) := by cases n <;> exact ⟨rfl, Nat.le_refl _⟩
theorem rq_lst {n B C : Nat} {ds : List D} (h : ∀ d ∈ ds, Rq n B d) (l : ds.length * (B + 2) + 3 ≤ C) : Rq (n + 1) C (.lst ds) := by
  refine ⟨List.all_eq_true.mpr fun d hd => (h d hd).1, ?_⟩
  have := dsz_le (n := n) (B := B) (xs := ds) fun d hd => (h d hd).2
  show (ds.map fun d => dsz n d + 2).sum + 3 ≤ C
  omega
/-! ### a law's end -/
def S_law (f : Fn) : Prop := ∀ (ns : List Int), wp (f [.frz (ns.map D.int)] []) fun d _ => d = .bl true
theorem main_of {T : List FD} {i k : Nat} (a : S_law (fnsOf T k i)) (ns : List Int) : ∃ h, fnsOf T k i [.frz (ns.map D.int)] [] = .ok (.bl true) h := by
  obtain ⟨d, h, e, rfl⟩ := wp_get (a ns)
  exact ⟨h, e⟩
def lawE_M (r p : Nat) (N : Int) : DS := sRet (dOpN cAll (daCons (asVal (dComp [1] (.name 1) (dRng1 (daCons (dOpN cMaxL (daCons (dC (.int 1)) (daCons (dOpN cMinL (daCons (dC (.int N)) (daCons (dOpN cLen (daCons (dVar 0) (daNil))) (daNil)))) (daNil)))) (daNil))) (dtYes) (dCall r 1 0 [.p 0] [] (daCons (dCall p 2 0 [.p 0, .p 1] [] (daCons (dVar 0) (daCons (dVar 1) (daNil))) (daNil)) (daNil)) (daNil)))) (daNil)))
section
variable {fn : Fns} {r p : Nat}
theorem allT {k : Nat} {ds : List D} {h : Cells} (e : ∀ d ∈ ds, d = .bl true) : cAll [.lst ds] h = .ok (.bl true) h := by
  have z : toBls ds = some (ds.map fun _ => true) := by
    induction ds with
    | nil => rfl
    | cons d ds ih =>
      rw [e d (.head _)]
      simp [toBls, ih fun x hx => e x (.tail _ hx)]
  unfold cAll
  simp [seqL, z]
end
end EV
/-! EV43: logs: the plain facts -/
/-! EV44: truths of rows; lists that are the same -/
/-! EV48: lists shuffled; logs turned, renamed -/
namespace EV
open PySem L2
@[simp] theorem e_dSortF {fn : Fns} {env : Ev} {h : Cells} {da : DA} : dSortF da fn env h = (da fn env h).bind fun ds h1 => cSort ds h1 := (rfl)
@[simp] theorem e_dPopAt {fn : Fns} {env : Ev} {h : Cells} {a b : DE} : dPopAt a b fn env h = (a fn env h).bind fun x h1 => if isObjL h1 x = true then (b fn env h1).bind fun y h2 => cPopAt x y h2 else .bad := (rfl)
@[simp] theorem e_dLstRg {fn : Fns} {env : Ev} {h : Cells} {da : DE} : dLstRg da fn env h = (da fn env h).bind fun d h1 => match d with
  | .int j => if decide (-1000000000 ≤ j) && decide (j ≤ 16777216) then .ok (upTo 0 j.toNat) h1 else .bad
  | _ => .bad := (rfl)
section
variable {fn : Fns} {i i2 i3 i4 i5 : Nat} {h : Cells}
/-- the pot changed, cells grew -/
def Gr (n : Nat) (h h' : Cells) : Prop := ∃ a b ext, h' = h.set n (OB.lst [.int a, .int b]) ++ ext
theorem Gr.pt {n : Nat} {h h' : Cells} (p : Pt n h) (d : Gr n h h') : Pt n h' := by
  obtain ⟨a, b, ext, rfl⟩ := d
  have := p.lt
  exact ⟨a, b, by rw [List.getElem?_append_left (by simpa using this), List.getElem?_set_self this]⟩
/-! ### logs turned, renamed -/
end
end EV
/-! EV50: questions of three ways -/
/-! EV51: values bent at one place, at any depth -/
namespace EV
open PySem L2
/-- values of so many floors, rows of at most B -/
def bt (B : Nat) : Nat → D → Bool
  | _, .non => true
  | _, .bl _ => true
  | _, .int i => decide (i.natAbs ≤ 100 * B)
  | _, .str s => PySem.PyData.strOk s && decide (s.length ≤ 9)
  | n + 1, .tup ds => decide (ds.length ≤ B) && ds.all (bt B n)
  | n + 1, .lst ds => decide (ds.length ≤ B) && ds.all (bt B n)
  | _, _ => false
@[simp] theorem e_slL {ds : List D} {lo hi : Option Int} {h : Cells} : dSl (.lst ds) lo hi h = .ok (.lst (cutD ds lo hi)) h := (rfl)
end EV
/-! EV52: counts drawn; weights of three ways add up; repr of anything -/
/-! EV53: tuples of ints in order -/
namespace EV
open PySem L2
def dLtX : O2 := fun x y h => match x, y with
  | .int i, .int j => .ok (.bl (decide (i < j))) h
  | .tup a, .tup b => match toInts a, toInts b with
    | some ns, some ms => .ok (.bl (HT.lexLt ns ms)) h
    | _, _ => .bad
  | _, _ => .bad
@[simp] theorem e_ltX_I {i j : Int} {h : Cells} : dLtX (.int i) (.int j) h = .ok (.bl (decide (i < j))) h := (rfl)
/-! ### tuples of ints sorted -/
def tupsI : List D → Option (List (List Int))
  | [] => some []
  | .tup a :: ds => match toInts a, tupsI ds with
    | some ns, some r => some (ns :: r)
    | _, _ => none
  | _ => none
def bdB (ns : List Int) : Bool := ns.all fun m => decide (0 ≤ m) && decide (m < 1000)
def tcode (ns : List Int) : Int := TS.code 1000 ns
def tsort (nss : List (List Int)) : List (List Int) := nss.mergeSort (fun a b => decide (tcode a ≤ tcode b))
def tupD (ns : List Int) : D := .tup (ns.map D.int)
def cSortT (ds : List D) (h : Cells) : R (List D) := match ds with
  | [d] => match (seqL h d).bind tupsI with
    | some (n0 :: nss) => if decide (1 ≤ n0.length) && decide ((n0 :: nss).length < 64) && (n0 :: nss).all fun ns => decide (ns.length = n0.length) && bdB ns then .ok ((tsort (n0 :: nss)).map tupD) h else .bad
    | some [] => .ok [] h
    | none => .bad
  | _ => .bad
def dSortT (da : DA) : DF := fun fn env h => (da fn env h).bind fun ds h1 => cSortT ds h1
@[simp] theorem e_dSortT {fn : Fns} {env : Ev} {h : Cells} {da : DA} : dSortT da fn env h = (da fn env h).bind fun ds h1 => cSortT ds h1 := (rfl)
end EV
/-! EV57: a comprehension over a list of one's own -/
namespace EV
open PySem L2
def itemsB (d : D) (h : Cells) : R (List D) := match d with
  | .bor ds => .ok ds h
  | _ => .bad
def dItemsB (a : DE) : DF := fun fn env h => (a fn env h).bind fun d h1 => itemsB d h1
@[simp] theorem e_dItemsB {fn : Fns} {env : Ev} {h : Cells} {a : DE} : dItemsB a fn env h = (a fn env h).bind fun d h1 => itemsB d h1 := (rfl)
end EV
/-! EV58: names stored from a list -/
namespace EV
open PySem L2
def gLstD (n : Nat) (a : List D → DS) : DG := fun d fn env h => match d with
  | .lst ds => if ds.length = n then a ds fn env h else .bad
  | _ => .bad
@[simp] theorem e_gLstD {fn : Fns} {env : Ev} {h : Cells} {n : Nat} {a : List D → DS} {ds : List D} : gLstD n a (.lst ds) fn env h = if ds.length = n then a ds fn env h else .bad := (rfl)
end EV
/-! EV62: readings of typed values -/
namespace EV
open PySem L2
/-- strings that can be laid -/
abbrev SS := {s : Str // PySem.PyData.strOk s = true}
/-- any value without cells -/
abbrev Vl := {d : D // pl d = true}
def lit (s : String) : SS := ⟨Str.ofString s, str_ok⟩
def eN (_ : Unit) : D := .non
def eO {α : Type} (e : α → D) : Option α → D
  | none => .non
  | some a => e a
def eT {α : Type} (e : α → D) (xs : List α) : D := .tup (xs.map e)
def eL {α : Type} (e : α → D) (xs : List α) : D := .lst (xs.map e)
def eF {α : Type} (e : α → D) (xs : List α) : D := .frz (xs.map e)
def eP1 {α : Type} (a : α → D) (p : α) : D := .tup [a p]
def eP2 {α β : Type} (a : α → D) (b : β → D) (p : α × β) : D := .tup [a p.1, b p.2]
def eP3 {α β γ : Type} (a : α → D) (b : β → D) (c : γ → D) (p : α × β × γ) : D := .tup [a p.1, b p.2.1, c p.2.2]
def eP4 {α β γ δ : Type} (a : α → D) (b : β → D) (c : γ → D) (d : δ → D) (p : α × β × γ × δ) : D := .tup [a p.1, b p.2.1, c p.2.2.1, d p.2.2.2]
def eP5 {α β γ δ ε : Type} (a : α → D) (b : β → D) (c : γ → D) (d : δ → D) (e : ε → D) (p : α × β × γ × δ × ε) : D := .tup [a p.1, b p.2.1, c p.2.2.1, d p.2.2.2.1, e p.2.2.2.2]
def eS (s : SS) : D := .str s.val
def eV (v : Vl) : D := v.val
/-- nothing borrowed -/
class NB {α : Type} (e : α → D) : Prop where
  nb : ∀ a, isBor (e a) = false
instance : NB D.int := ⟨fun _ => rfl⟩
instance : NB D.bl := ⟨fun _ => rfl⟩
instance : NB D.str := ⟨fun _ => rfl⟩
instance : NB eN := ⟨fun _ => rfl⟩
instance : NB eS := ⟨fun _ => rfl⟩
instance : NB eV := ⟨fun v => pl_nb v.2⟩
instance {α : Type} {e : α → D} [NB e] : NB (eO e) := ⟨fun a => by
  cases a with
  | none => rfl
  | some a => exact NB.nb (e := e) a⟩
instance {α : Type} {e : α → D} : NB (eT e) := ⟨fun _ => rfl⟩
instance {α : Type} {e : α → D} : NB (eL e) := ⟨fun _ => rfl⟩
instance {α : Type} {e : α → D} : NB (eF e) := ⟨fun _ => rfl⟩
instance {α : Type} {a : α → D} : NB (eP1 a) := ⟨fun _ => rfl⟩
instance {α β : Type} {a : α → D} {b : β → D} : NB (eP2 a b) := ⟨fun _ => rfl⟩
instance {α β γ : Type} {a : α → D} {b : β → D} {c : γ → D} : NB (eP3 a b c) := ⟨fun _ => rfl⟩
instance {α β γ δ : Type} {a : α → D} {b : β → D} {c : γ → D} {d : δ → D} : NB (eP4 a b c d) := ⟨fun _ => rfl⟩
instance {α β γ δ ε : Type} {a : α → D} {b : β → D} {c : γ → D} {d : δ → D} {e : ε → D} : NB (eP5 a b c d e) := ⟨fun _ => rfl⟩
/-- never None -/
class NNo {α : Type} (e : α → D) : Prop where
  nn : ∀ a, D.pd (e a) ≠ Option.some PyData.none
instance : NNo D.int := ⟨fun _ => by simp [D.pd]⟩
instance : NNo D.bl := ⟨fun _ => by simp [D.pd]⟩
instance : NNo eS := ⟨fun _ => by simp [D.pd, eS]⟩
instance {α : Type} {e : α → D} : NNo (eT e) := ⟨fun _ => by simp [D.pd, eT]⟩
instance {α : Type} {e : α → D} : NNo (eL e) := ⟨fun _ => by simp [D.pd, eL]⟩
instance {α : Type} {a : α → D} : NNo (eP1 a) := ⟨fun _ => by simp [D.pd, eP1]⟩
instance {α β : Type} {a : α → D} {b : β → D} : NNo (eP2 a b) := ⟨fun _ => by simp [D.pd, eP2]⟩
instance {α β γ : Type} {a : α → D} {b : β → D} {c : γ → D} : NNo (eP3 a b c) := ⟨fun _ => by simp [D.pd, eP3]⟩
instance {α β γ δ : Type} {a : α → D} {b : β → D} {c : γ → D} {d : δ → D} : NNo (eP4 a b c d) := ⟨fun _ => by simp [D.pd, eP4]⟩
/-- plain data, equal just if the same -/
class Pd {α : Type} (n : outParam Nat) (e : α → D) : Prop where
  ok : ∀ a, okd n (e a) = true
  eq : ∀ {a b p q}, D.pd (e a) = Option.some p → D.pd (e b) = Option.some q → (PyData.eqv p q = true ↔ a = b)
instance : Pd 0 D.int := ⟨fun _ => rfl, fun h1 h2 => by simp only [D.pd, Option.some.injEq] at h1 h2; subst h1 h2; simp [PyData.eqv]⟩
instance : Pd 0 D.bl := ⟨fun _ => rfl, fun {a b _ _} h1 h2 => by
  simp only [D.pd, Option.some.injEq] at h1 h2; subst h1 h2
  cases a <;> cases b <;> simp [PyData.eqv]⟩
instance : Pd 0 eS := ⟨fun a => a.2, fun {a b _ _} h1 h2 => by
  simp only [eS, D.pd, Option.some.injEq] at h1 h2; subst h1 h2
  simp [PyData.eqv, Subtype.ext_iff]⟩
instance : Pd 0 eN := ⟨fun _ => rfl, fun h1 h2 => by simp only [eN, D.pd, Option.some.injEq] at h1 h2; subst h1 h2; simp [PyData.eqv]⟩
theorem pds_map {α : Type} {n : Nat} {e : α → D} [Pd n e] : ∀ {xs ys : List α} {ps qs : List PyData}, D.pds (xs.map e) = Option.some ps → D.pds (ys.map e) = Option.some qs → (PyData.eqvAll ps qs = true ↔ xs = ys)
  | [], [], _, _, h1, h2 => by simp only [List.map_nil, D.pds, Option.some.injEq] at h1 h2; subst h1 h2; simp [PyData.eqvAll]
  | [], y :: ys, _, _, h1, h2 => by
    simp only [List.map_nil, List.map_cons, D.pds, Option.some.injEq] at h1 h2
    split at h2
    · cases h2; subst h1; simp [PyData.eqvAll]
    · cases h2
  | x :: xs, [], _, _, h1, h2 => by
    simp only [List.map_nil, List.map_cons, D.pds, Option.some.injEq] at h1 h2
    split at h1
    · cases h1; subst h2; simp [PyData.eqvAll]
    · cases h1
  | x :: xs, y :: ys, _, _, h1, h2 => by
    simp only [List.map_cons, D.pds] at h1 h2
    split at h1
    · rename_i a1 a2
      split at h2
      · rename_i b1 b2
        cases h1; cases h2
        simp only [PyData.eqvAll, Bool.and_eq_true, List.cons.injEq, Pd.eq (e := e) a1 b1, pds_map (e := e) a2 b2]
      · cases h2
    · cases h1
theorem pd_map {α : Type} {e : α → D} {n : Nat} [Pd n e] (xs : List α) : (xs.map e).all (okd n) = true := List.all_eq_true.mpr fun d hd => by
  obtain ⟨x, _, rfl⟩ := List.mem_map.mp hd
  exact Pd.ok x
instance {α : Type} {n : Nat} {e : α → D} [Pd n e] : Pd (n + 1) (eT e) := ⟨fun a => pd_map a, fun h1 h2 => by
  simp only [eT, D.pd] at h1 h2
  obtain ⟨ps, e1, rfl⟩ := Option.map_eq_some_iff.mp h1
  obtain ⟨qs, e2, rfl⟩ := Option.map_eq_some_iff.mp h2
  simp only [PyData.eqv, pds_map (e := e) e1 e2]⟩
instance {α : Type} {n : Nat} {e : α → D} [Pd n e] : Pd (n + 1) (eL e) := ⟨fun a => pd_map a, fun h1 h2 => by
  simp only [eL, D.pd] at h1 h2
  obtain ⟨ps, e1, rfl⟩ := Option.map_eq_some_iff.mp h1
  obtain ⟨qs, e2, rfl⟩ := Option.map_eq_some_iff.mp h2
  simp only [PyData.eqv, pds_map (e := e) e1 e2]⟩
theorem pds_cons {d : D} {ds : List D} {ps : List PyData} (h : D.pds (d :: ds) = Option.some ps) : ∃ p qs, D.pd d = Option.some p ∧ D.pds ds = Option.some qs ∧ ps = p :: qs := by
  simp only [D.pds] at h
  split at h
  · cases h; exact ⟨_, _, by assumption, by assumption, rfl⟩
  · cases h
theorem pds_nil {ps : List PyData} (h : D.pds [] = Option.some ps) : ps = [] := by
  simp only [D.pds, Option.some.injEq] at h; exact h.symm
theorem pd_tup {ds : List D} {p : PyData} (h : D.pd (.tup ds) = Option.some p) : ∃ ps, D.pds ds = Option.some ps ∧ p = .tuple ps := by
  simp only [D.pd] at h
  obtain ⟨ps, e1, rfl⟩ := Option.map_eq_some_iff.mp h
  exact ⟨ps, e1, rfl⟩
instance {α : Type} {n : Nat} {a : α → D} [Pd n a] : Pd (n + 1) (eP1 a) := ⟨fun x => by simp [eP1, okd, Pd.ok], fun h1 h2 => by
  obtain ⟨ps, e1, rfl⟩ := pd_tup h1
  obtain ⟨qs, e2, rfl⟩ := pd_tup h2
  obtain ⟨p1, r1, a1, b1, rfl⟩ := pds_cons e1
  obtain ⟨q1, s1, c1, d1, rfl⟩ := pds_cons e2
  cases pds_nil b1; cases pds_nil d1
  simp only [PyData.eqv, PyData.eqvAll, Bool.and_true, Pd.eq (e := a) a1 c1]⟩
instance {α β : Type} {n m : Nat} {a : α → D} {b : β → D} [Pd n a] [Pd m b] : Pd (max n m + 1) (eP2 a b) := ⟨fun x => by
  have h1 := okd_le (Nat.le_max_left n m) (Pd.ok (e := a) x.1)
  have h2 := okd_le (Nat.le_max_right n m) (Pd.ok (e := b) x.2)
  simp [eP2, okd, h1, h2], fun {x y _ _} h1 h2 => by
  obtain ⟨ps, e1, rfl⟩ := pd_tup h1
  obtain ⟨qs, e2, rfl⟩ := pd_tup h2
  obtain ⟨p1, r1, a1, b1, rfl⟩ := pds_cons e1
  obtain ⟨q1, s1, c1, d1, rfl⟩ := pds_cons e2
  obtain ⟨p2, r2, a2, b2, rfl⟩ := pds_cons b1
  obtain ⟨q2, s2, c2, d2, rfl⟩ := pds_cons d1
  cases pds_nil b2; cases pds_nil d2
  simp only [PyData.eqv, PyData.eqvAll, Bool.and_true, Bool.and_eq_true, Pd.eq (e := a) a1 c1, Pd.eq (e := b) a2 c2, Prod.ext_iff]⟩
theorem le3 {n m k : Nat} : n ≤ max n (max m k) ∧ m ≤ max n (max m k) ∧ k ≤ max n (max m k) := by omega
instance {α β γ : Type} {n m k : Nat} {a : α → D} {b : β → D} {c : γ → D} [Pd n a] [Pd m b] [Pd k c] : Pd (max n (max m k) + 1) (eP3 a b c) := ⟨fun x => by
  have h1 := okd_le (le3 (n := n) (m := m) (k := k)).1 (Pd.ok (e := a) x.1)
  have h2 := okd_le (le3 (n := n) (m := m) (k := k)).2.1 (Pd.ok (e := b) x.2.1)
  have h3 := okd_le (le3 (n := n) (m := m) (k := k)).2.2 (Pd.ok (e := c) x.2.2)
  simp [eP3, okd, h1, h2, h3], fun {x y _ _} h1 h2 => by
  obtain ⟨ps, e1, rfl⟩ := pd_tup h1
  obtain ⟨qs, e2, rfl⟩ := pd_tup h2
  obtain ⟨p1, r1, a1, b1, rfl⟩ := pds_cons e1
  obtain ⟨q1, s1, c1, d1, rfl⟩ := pds_cons e2
  obtain ⟨p2, r2, a2, b2, rfl⟩ := pds_cons b1
  obtain ⟨q2, s2, c2, d2, rfl⟩ := pds_cons d1
  obtain ⟨p3, r3, a3, b3, rfl⟩ := pds_cons b2
  obtain ⟨q3, s3, c3, d3, rfl⟩ := pds_cons d2
  cases pds_nil b3; cases pds_nil d3
  simp only [PyData.eqv, PyData.eqvAll, Bool.and_true, Bool.and_eq_true, Pd.eq (e := a) a1 c1, Pd.eq (e := b) a2 c2, Pd.eq (e := c) a3 c3, Prod.ext_iff]⟩
theorem le4 {n m k l : Nat} : n ≤ max n (max m (max k l)) ∧ m ≤ max n (max m (max k l)) ∧ k ≤ max n (max m (max k l)) ∧ l ≤ max n (max m (max k l)) := by omega
instance {α β γ δ : Type} {n m k l : Nat} {a : α → D} {b : β → D} {c : γ → D} {d : δ → D} [Pd n a] [Pd m b] [Pd k c] [Pd l d] : Pd (max n (max m (max k l)) + 1) (eP4 a b c d) := ⟨fun x => by
  have h1 := okd_le (le4 (n := n) (m := m) (k := k) (l := l)).1 (Pd.ok (e := a) x.1)
  have h2 := okd_le (le4 (n := n) (m := m) (k := k) (l := l)).2.1 (Pd.ok (e := b) x.2.1)
  have h3 := okd_le (le4 (n := n) (m := m) (k := k) (l := l)).2.2.1 (Pd.ok (e := c) x.2.2.1)
  have h4 := okd_le (le4 (n := n) (m := m) (k := k) (l := l)).2.2.2 (Pd.ok (e := d) x.2.2.2)
  simp [eP4, okd, h1, h2, h3, h4], fun {x y _ _} h1 h2 => by
  obtain ⟨ps, e1, rfl⟩ := pd_tup h1
  obtain ⟨qs, e2, rfl⟩ := pd_tup h2
  obtain ⟨p1, r1, a1, b1, rfl⟩ := pds_cons e1
  obtain ⟨q1, s1, c1, d1, rfl⟩ := pds_cons e2
  obtain ⟨p2, r2, a2, b2, rfl⟩ := pds_cons b1
  obtain ⟨q2, s2, c2, d2, rfl⟩ := pds_cons d1
  obtain ⟨p3, r3, a3, b3, rfl⟩ := pds_cons b2
  obtain ⟨q3, s3, c3, d3, rfl⟩ := pds_cons d2
  obtain ⟨p4, r4, a4, b4, rfl⟩ := pds_cons b3
  obtain ⟨q4, s4, c4, d4, rfl⟩ := pds_cons d3
  cases pds_nil b4; cases pds_nil d4
  simp only [PyData.eqv, PyData.eqvAll, Bool.and_true, Bool.and_eq_true, Pd.eq (e := a) a1 c1, Pd.eq (e := b) a2 c2, Pd.eq (e := c) a3 c3, Pd.eq (e := d) a4 c4, Prod.ext_iff]⟩
theorem eqv_none {p : PyData} : (PyData.eqv p .none = true ↔ p = .none) ∧ (PyData.eqv .none p = true ↔ p = .none) := by
  cases p <;> simp [PyData.eqv]
instance {α : Type} {n : Nat} {e : α → D} [Pd n e] [NNo e] : Pd n (eO e) := ⟨fun a => by
  cases a with
  | none => cases n <;> rfl
  | some a => exact Pd.ok (e := e) a, fun {a b p q} h1 h2 => by
  cases a with
  | none =>
    have : p = .none := by simpa [eO, D.pd] using h1.symm
    subst this
    cases b with
    | none =>
      have : q = .none := by simpa [eO, D.pd] using h2.symm
      subst this; simp [PyData.eqv]
    | some b =>
      have : q ≠ .none := fun z => NNo.nn (e := e) b (by rw [← z]; exact h2)
      simp [eqv_none.2, this]
  | some a =>
    cases b with
    | none =>
      have : q = .none := by simpa [eO, D.pd] using h2.symm
      subst this
      have : p ≠ .none := fun z => NNo.nn (e := e) a (by rw [← z]; exact h1)
      simp [eqv_none.1, this]
    | some b => simp [Pd.eq (e := e) (a := a) (b := b) h1 h2]⟩
/-- values without cells -/
class PlE {α : Type} (e : α → D) : Prop where
  pl : ∀ a, pl (e a) = true
instance {α : Type} {n : Nat} {e : α → D} [Pd n e] : PlE e := ⟨fun a => okd_pl (Pd.ok a)⟩
instance (priority := 2000) : PlE eV := ⟨fun a => a.2⟩
def toV {α : Type} (e : α → D) [PlE e] (a : α) : Vl := ⟨e a, PlE.pl a⟩
/-! ### equality, membership -/
def hasB {α : Type} [DecidableEq α] (xs : List α) (a : α) : Bool := xs.any fun z => decide (z = a)
@[simp] theorem hasB_iff {α : Type} [DecidableEq α] {xs : List α} {a : α} : hasB xs a = true ↔ a ∈ xs := by
  simp [hasB]
@[simp] theorem hasB_not {α : Type} [DecidableEq α] {xs : List α} {a : α} : hasB xs a = false ↔ a ∉ xs := by
  rw [← Bool.not_eq_true, hasB_iff]
section
theorem pd_get {α : Type} {n : Nat} {e : α → D} [Pd n e] (a : α) : ∃ p, D.pd (e a) = Option.some p ∧ p.canLay0 = true ∧ p.depth ≤ n := okd_pd (Pd.ok a)
variable {α : Type} {n : Nat} {e : α → D} [Pd n e] [DecidableEq α] {h : Cells}
/-- equality, whatever the data -/
theorem dEq_any {m : Nat} {x y : D} (hm : m ≤ 64) (hx : okd m x = true) (hy : okd m y = true) : ∃ p q, D.pd x = Option.some p ∧ D.pd y = Option.some q ∧ dEq x y h = .ok (.bl (PyData.eqv p q)) h := by
  obtain ⟨p, h1, h2, h3⟩ := okd_pd hx
  obtain ⟨q, h4, h5, h6⟩ := okd_pd hy
  refine ⟨p, q, h1, h4, ?_⟩
  have gen : (match pdH h x, pdH h y with
    | some p, some q => if SeqAt.shaped p && SeqAt.shaped q then R.ok (D.bl (PyData.eqv p q)) h else .bad
    | _, _ => .bad) = R.ok (.bl (PyData.eqv p q)) h := by
    rw [pdH_eq hx, pdH_eq hy, h1, h4]
    simp [shaped_of h2 h3 hm, shaped_of h5 h6 hm]
  unfold dEq
  split
  · simp only [D.pd, Option.some.injEq] at h1 h4; subst h1 h4; simp [PyData.eqv]; rfl
  · rename_i i j
    simp only [D.pd, Option.some.injEq] at h1 h4; subst h1 h4; simp only [PyData.eqv]
    congr 2
  · rename_i i j
    simp only [D.pd, Option.some.injEq] at h1 h4; subst h1 h4
    cases i <;> cases j <;> simp [PyData.eqv]
  · exact gen
theorem o_eqE (hn : n ≤ 64) {a b : α} : dEq (e a) (e b) h = .ok (.bl (decide (a = b))) h := by
  obtain ⟨p, q, h1, h2, h3⟩ := dEq_any (h := h) hn (Pd.ok (e := e) a) (Pd.ok (e := e) b)
  rw [h3]
  congr 2
  rw [Bool.eq_iff_iff, decide_eq_true_eq]
  exact Pd.eq (e := e) h1 h2
theorem ne_eq {x y : D} {b : Bool} (z : dEq x y h = .ok (.bl b) h) : dNe x y h = .ok (.bl (!b)) h := by
  unfold dEq at z
  unfold dNe
  split at z
  · cases z; rfl
  · cases z; rfl
  · cases z; rfl
  · rename_i g1 g2 g3
    have gen : ∀ (x y : D) (r : R D), (match pdH h x, pdH h y with
      | some p, some q => if SeqAt.shaped p && SeqAt.shaped q then R.ok (D.bl (!PyData.eqv p q)) h else .bad
      | _, _ => .bad) = r → (match pdH h x, pdH h y with
      | some p, some q => if SeqAt.shaped p && SeqAt.shaped q then R.ok (D.bl (PyData.eqv p q)) h else .bad
      | _, _ => .bad) = R.ok (.bl b) h → r = R.ok (.bl (!b)) h := fun x y r er z => by
      rw [← er]
      cases e1 : pdH h x with
      | none => rw [e1] at z; cases z
      | some p =>
        cases e2 : pdH h y with
        | none => rw [e1, e2] at z; cases z
        | some q =>
          rw [e1, e2] at z
          dsimp only at z ⊢
          split at z
          · rename_i s; rw [if_pos s]; cases z; rfl
          · cases z
    exact gen _ _ _ rfl z
theorem o_neE (hn : n ≤ 64) {a b : α} : dNe (e a) (e b) h = .ok (.bl (!decide (a = b))) h := ne_eq (o_eqE hn)
theorem pds_ex (xs : List α) : ∃ ps, D.pds (xs.map e) = Option.some ps ∧ PyData.canLayAll0 ps = true ∧ PyData.depthAll ps ≤ n ∧ ∀ a p, D.pd (e a) = Option.some p → (ps.any fun z => PyData.eqv z p) = hasB xs a := by
  induction xs with
  | nil => exact ⟨[], by simp [D.pds], rfl, Nat.zero_le _, fun _ _ _ => rfl⟩
  | cons x xs ih =>
    obtain ⟨ps, h1, h2, h3, h4⟩ := ih
    obtain ⟨p, k1, k2, k3⟩ := pd_get (e := e) x
    refine ⟨p :: ps, by simp only [List.map_cons, D.pds, k1, h1], by simp [PyData.canLayAll0, k2, h2], by simp [PyData.depthAll]; omega, fun a q hq => ?_⟩
    rw [List.any_cons, h4 a q hq, hasB, hasB, List.any_cons]
    congr 1
    rw [Bool.eq_iff_iff, decide_eq_true_eq, Pd.eq (e := e) k1 hq]
theorem inPd_T (hn : n < 64) {a : α} {xs : List α} : inPd h (e a) (eT e xs) = Option.some (hasB xs a) := by
  obtain ⟨ps, h1, h2, h3, h4⟩ := pds_ex (e := e) xs
  obtain ⟨p, k1, k2, k3⟩ := pd_get (e := e) a
  have g : pdH h (eT e xs) = Option.some (.tuple ps) := by
    show D.pd (.tup (xs.map e)) = _
    simp only [D.pd, h1, Option.map_some]
  unfold inPd
  rw [pdH_eq (Pd.ok (e := e) a), k1, g]
  dsimp only
  rw [if_pos, h4 a p k1]
  simp only [Bool.and_eq_true]
  exact ⟨shaped_of k2 k3 (by omega), shaped_of (n := n + 1) (by simpa [PyData.canLay0] using h2) (by simp [PyData.depth]; omega) (by omega)⟩
theorem o_niT (hn : n < 64) {a : α} {xs : List α} : dNotIn (e a) (eT e xs) h = .ok (.bl (!hasB xs a)) h := by unfold dNotIn; rw [inPd_T hn]
end
/-! ### repr -/
def rp (d : D) : Str := match D.pd d with
  | some p => p.shown
  | none => default
def RqX (d : D) : Prop := ∃ n, n ≤ 50 ∧ Rq n 16777216 d
theorem o_repr {d : D} {h : Cells} (q : RqX d) (p : pl d = true) : cRepr [d] h = .ok (.str (rp d)) h := by
  obtain ⟨n, hn, q1, q2⟩ := q
  obtain ⟨p', h1, h2, h3, h4⟩ := okr_pd q1
  have e : pdH h d = some p' := by cases d <;> first | exact h1 | simp [EV.pl] at p
  have k : PyProof.Rows.isDisplay p' = true ∨ isScP p' = true := by
    cases d with
    | non => simp only [D.pd] at h1; cases h1; exact .inr rfl
    | bl _ => simp only [D.pd] at h1; cases h1; exact .inr rfl
    | int _ => simp only [D.pd] at h1; cases h1; exact .inr rfl
    | str _ => simp only [D.pd] at h1; cases h1; exact .inr rfl
    | tup ds => obtain ⟨ps, _, rfl⟩ := pd_tup h1; exact .inl rfl
    | lst ds =>
      simp only [D.pd] at h1
      obtain ⟨ps, e1, rfl⟩ := Option.map_eq_some_iff.mp h1
      exact .inl rfl
    | _ => simp [EV.pl] at p
  unfold cRepr rp
  simp only [e, h1]
  have z1 : rsz p' ≤ szL := Nat.le_trans h3 q2
  have z2 : p'.depth ≤ 60 := by omega
  rcases k with k | k
  · rw [if_pos (by simp [k, h2, z1, z2])]
  · split
    · rfl
    · rw [if_pos (by simp [k, h2, z1])]
end EV
/-! EV63: what typed code reads as: values, operations -/
namespace EV
open PySem L2
/-! ### typed words -/
@[reducible] def lt {α β : Type} (v : α) (b : α → β) : β := b v
abbrev Pot2 := Int × Int
def potD (p : Pot2) : OB := .lst [.int p.1, .int p.2]
/-- the heap with the pot -/
def hp (n : Nat) (h : Cells) (p : Pot2) : Cells := h.set n (potD p)
abbrev rangeI (n : Int) : List Int := nats n.toNat
def enumF {α : Type} : Int → List α → List (Int × α)
  | _, [] => []
  | i, x :: xs => (i, x) :: enumF (i + 1) xs
abbrev enumI {α : Type} (xs : List α) : List (Int × α) := enumF 0 xs
def getI {α : Type} [Inhabited α] (xs : List α) (i : Int) : α := if 0 ≤ i then xs.getD i.toNat default else xs.getD (i + xs.length).toNat default
def cut {α : Type} (xs : List α) (lo hi : Option Int) : List α := (xs.drop (HT.sIx xs.length 0 lo)).take (HT.sIx xs.length xs.length hi - HT.sIx xs.length 0 lo)
inductive Ct (ρ σ : Type) where
  | ret (r : ρ) | go (s : σ) | brk (s : σ)
def loopR {α ρ σ : Type} (f : σ → α → Ct ρ σ) : σ → List α → Ct ρ σ
  | s, [] => .go s
  | s, x :: xs => match f s x with
    | .go s' => loopR f s' xs
    | .ret r => .ret r
    | .brk s' => .go s'
def Ct.out {ρ σ : Type} (k : σ → ρ) : Ct ρ σ → ρ
  | .ret r => r
  | .go s => k s
  | .brk s => k s
theorem enum_len {α : Type} : ∀ {xs : List α} {i : Int}, (enumF i xs).length = xs.length
  | [], _ => rfl
  | x :: xs, i => by simp [enumF, enum_len (xs := xs)]
theorem enum_get {α : Type} : ∀ {xs : List α} {i : Int} {k : Nat} {p : Int × α}, (enumF i xs)[k]? = some p → p.1 = i + k ∧ xs[k]? = some p.2
  | [], _, _, _, e => by simp [enumF] at e
  | x :: xs, i, 0, p, e => by
    simp [enumF] at e; subst e; simp
  | x :: xs, i, k + 1, p, e => by
    simp [enumF] at e
    obtain ⟨a, b⟩ := enum_get e
    refine ⟨by rw [a]; push_cast; omega, by simpa using b⟩
theorem enum_mem {α : Type} {xs : List α} {p : Int × α} (m : p ∈ enumI xs) : ∃ k : Nat, p.1 = k ∧ xs[k]? = some p.2 := by
  obtain ⟨k, hk⟩ := List.getElem?_of_mem m
  obtain ⟨a, b⟩ := enum_get hk
  exact ⟨k, by rw [a]; omega, b⟩
theorem num_enum {α : Type} {e : α → D} : ∀ {xs : List α} {p : Nat}, numbered p (xs.map e) = (enumF p xs).map (eP2 D.int e)
  | [], _ => rfl
  | x :: xs, p => by
    rw [List.map_cons, numbered, enumF, List.map_cons, num_enum]
    congr 1
theorem pairs_map {α β : Type} {a : α → D} {b : β → D} : ∀ {xs : List α} {ys : List β}, pairs (xs.map a) (ys.map b) = (xs.zip ys).map (eP2 a b)
  | [], _ => by simp [pairs]
  | _ :: _, [] => by simp [pairs]
  | x :: xs, y :: ys => by
    simp only [List.map_cons, pairs, List.zip_cons_cons, pairs_map]
    rfl
theorem cutD_map {α : Type} {e : α → D} {xs : List α} {lo hi : Option Int} : cutD (xs.map e) lo hi = (cut xs lo hi).map e := by
  unfold cutD cut
  rw [List.length_map, List.map_take, List.map_drop]
theorem cut_hi {α : Type} {xs : List α} {n : Nat} : cut xs none (some (n : Int)) = xs.take n := by
  unfold cut
  rw [HT.sIx_nat, HT.sIx_none, List.drop_zero, Nat.sub_zero]
  by_cases z : n ≤ xs.length
  · rw [Nat.min_eq_left z]
  · rw [Nat.min_eq_right (by omega), List.take_of_length_le (Nat.le_refl _), List.take_of_length_le (by omega)]
theorem cut_lo {α : Type} {xs : List α} {n : Nat} : cut xs (some (n : Int)) none = xs.drop n := by
  unfold cut
  rw [HT.sIx_nat, HT.sIx_none]
  by_cases z : n ≤ xs.length
  · rw [Nat.min_eq_left z, List.take_of_length_le (by rw [List.length_drop]; exact Nat.le_refl _)]
  · rw [Nat.min_eq_right (by omega), List.drop_eq_nil_of_le (Nat.le_refl _), List.drop_eq_nil_of_le (by omega), List.take_nil]
theorem cut_init {α : Type} {xs : List α} : cut xs none (some (-1)) = xs.dropLast := by
  unfold cut
  rw [HT.sIx_none, List.drop_zero, Nat.sub_zero, List.dropLast_eq_take]
  have e : HT.sIx xs.length xs.length (some (-1)) = xs.length - 1 := by
    unfold HT.sIx
    simp
    omega
  rw [e]
theorem hp_get {n : Nat} {h : Cells} {p : Pot2} (l : n < h.length) : (hp n h p)[n]? = some (potD p) := List.getElem?_set_self l
theorem hp_hp {n : Nat} {h : Cells} {p q : Pot2} : hp n (hp n h p) q = hp n h q := by simp [hp]
theorem hp_len {n : Nat} {h : Cells} {p : Pot2} : (hp n h p).length = h.length := by simp [hp]
theorem hp_at {n : Nat} {h : Cells} {p : Pot2} (e : h[n]? = some (potD p)) : hp n h p = h := by
  refine List.ext_getElem? fun j => ?_
  rw [hp, List.getElem?_set]
  split
  · rename_i z; subst z
    rw [e]; split
    · rfl
    · have := (List.getElem?_eq_some_iff.mp e).1; omega
  · rfl
/-! ### values -/
section
variable {α β γ ρ σ : Type} {fn : Fns} {env env1 : Ev} {h h1 h2 h3 : Cells} {a b c : DE} {ta tb : DT} {da dk : DA} {df di : DF} {d x y z : D} {ds ks zs xs' : List D} {i j n nk : Nat}
theorem x_c : dC d fn env h = .ok d h := rfl
theorem x_var (e : env[i]? = some (.val d)) : dVar i fn env h = .ok d h := by simp [dVar, e]
theorem x_bor (e : env[i]? = some (.own ds)) : dVar i fn env h = .ok (.bor ds) h := by simp [dVar, e]
theorem x_op1 {o : O1} (ha : a fn env h = .ok x h1) (ho : o x h1 = .ok z h2) : dOp1 o a fn env h = .ok z h2 := by simp [ha, ho]
theorem x_op2 {o : O2} (ha : a fn env h = .ok x h1) (hb : b fn env h1 = .ok y h2) (ho : o x y h2 = .ok z h3) : dOp2 o a b fn env h = .ok z h3 := by simp [ha, hb, ho]
theorem x_opN {o : ON} (ha : da fn env h = .ok ds h1) (ho : o ds h1 = .ok z h2) : dOpN o da fn env h = .ok z h2 := by simp [ha, ho]
theorem xa_nil : daNil fn env h = .ok [] h := rfl
theorem xa_cons (ha : a fn env h = .ok x h1) (hb : da fn env h1 = .ok ds h2) : daCons a da fn env h = .ok (x :: ds) h2 := by simp [ha, hb]
theorem nb_nil : noBors [] = true := rfl
theorem nb_cons (q : isBor d = false) (r : noBors ds = true) : noBors (d :: ds) = true := by simp [q, r]
theorem x_tup (ha : da fn env h = .ok ds h1) (nb : noBors ds = true) (hl : decide (ds.length ≤ szL) = true) : dTup da fn env h = .ok (.tup ds) h1 := by
  rw [e_dTup, ha, ok_bind, e_mkTup, nb, hl]; rfl
theorem x_lst (ha : da fn env h = .ok ds h1) (nb : noBors ds = true) (hl : decide (ds.length ≤ szL) = true) : dLst da fn env h = .ok (.lst ds) h1 := by
  rw [e_dLst, ha, ok_bind, e_mkLst, nb, hl]; rfl
theorem f_disp (ha : da fn env h = .ok ds h1) (nb : noBors ds = true) (hl : decide (ds.length ≤ szL) = true) : dDisp da fn env h = .ok ds h1 := by
  rw [e_dDisp, ha, ok_bind, nb, hl]; rfl
theorem x_asVal (hf : df fn env h = .ok ds h1) : asVal df fn env h = .ok (.lst ds) h1 := by simp [hf]
theorem x_and {k l : Bool} (ha : a fn env h = .ok (.bl k) h1) (hb : k = true → b fn env h1 = .ok (.bl l) h1) : dAnd a b fn env h = .ok (.bl (k && l)) h1 := by
  cases k with
  | false => simp [ha]
  | true => simp [ha, hb rfl]
theorem x_not {k : Bool} (ha : a fn env h = .ok x h1) (ht : dTru x h1 = .ok k h1) : dNot a fn env h = .ok (.bl (!k)) h1 := by simp [ha, ht]
theorem x_if {k : Bool} {e : α → D} {u v : α} (ht : ta fn env h = .ok k h1) (ha : k = true → a fn env h1 = .ok (e u) h1) (hb : k = false → b fn env h1 = .ok (e v) h1) : dIf ta a b fn env h = .ok (e (if k = true then u else v)) h1 := by
  cases k with
  | false => simp [ht, hb rfl]
  | true => simp [ht, ha rfl]
theorem x_chain {o o' : O2} {k l : Bool} (ha : a fn env h = .ok x h1) (hb : b fn env h1 = .ok y h2) (ho : o x y h2 = .ok (.bl k) h2) (hc : k = true → c fn env h2 = .ok z h2) (ho' : k = true → o' y z h2 = .ok (.bl l) h2) : dChain o o' a b c fn env h = .ok (.bl (k && l)) h2 := by
  cases k with
  | false => simp [ha, hb, ho]
  | true => simp [ha, hb, ho, hc rfl, ho' rfl]
theorem x_call {dd : List D} {src : List Src} {r : R D} (ha : da fn env h = .ok ds h1) (hk : dk fn env h1 = .ok ks h2) (nb1 : noBors ds = true) (nb2 : noBors ks = true) (l1 : decide (ds.length = n) = true) (l2 : decide (ks.length = nk) = true) (ar : arrange ds ks dd src = some zs) (hc : fn i zs h2 = r) :
    dCall i n nk src dd da dk fn env h = r := by
  rw [e_dCall, ha, ok_bind, hk, ok_bind, mkCall, nb1, nb2, l1, l2, ar]; exact hc
theorem t_B {k : Bool} (ha : a fn env h = .ok (.bl k) h1) : dtB a fn env h = .ok k h1 := by simp [ha]
theorem t_tru {k : Bool} (ha : a fn env h = .ok x h1) (ht : dTru x h1 = .ok k h1) : dTruE a fn env h = .ok k h1 := by simp [ha, ht]
theorem t_not {k : Bool} (ha : ta fn env h = .ok k h1) : dtNot ta fn env h = .ok (!k) h1 := by simp [ha]
theorem t_and {k l : Bool} (ha : ta fn env h = .ok k h1) (hb : k = true → tb fn env h1 = .ok l h1) : dtAnd ta tb fn env h = .ok (k && l) h1 := by
  cases k with
  | false => simp [ha]
  | true => simp [ha, hb rfl]
theorem t_or {k l : Bool} (ha : ta fn env h = .ok k h1) (hb : k = false → tb fn env h1 = .ok l h1) : dtOr ta tb fn env h = .ok (k || l) h1 := by
  cases k with
  | false => simp [ha, hb rfl]
  | true => simp [ha]
theorem tr_bl {k : Bool} : dTru (.bl k) h = .ok k h := rfl
/-! operations -/
theorem o_mulI {u v : Int} (q : small64 u = true ∨ small64 v = true) : dMul (.int u) (.int v) h = .ok (.int (u * v)) h := by
  rcases q with q | q <;> simp [q]
theorem sm64 {u : Int} (a : -18446744073709551616 < u) (b : u < 18446744073709551616) : small64 u = true := by
  unfold small64
  rw [Bool.and_eq_true, decide_eq_true_eq, decide_eq_true_eq]
  exact ⟨a, b⟩
theorem o_divI {u v : Int} (a : 0 < v) (b : v < 1073741824) : dFdiv (.int u) (.int v) h = .ok (.int (u / v)) h := by simp [a, b]
theorem o_addT {e : α → D} {xs ys : List α} (l : xs.length + ys.length ≤ 16777216) : dAdd (eT e xs) (eT e ys) h = .ok (eT e (xs ++ ys)) h := by
  show dAdd (.tup (xs.map e)) (.tup (ys.map e)) h = .ok (.tup ((xs ++ ys).map e)) h
  rw [e_addT, List.length_map, List.length_map, if_pos l, List.map_append]
theorem at_map [Inhabited α] {e : α → D} {xs : List α} {k : Int} (k0 : -(xs.length : Int) ≤ k) (k1 : k < xs.length) : atI (xs.map e) k = some (e (getI xs k)) := by
  unfold atI ixN getI
  rw [List.length_map]
  by_cases z : 0 ≤ k
  · rw [if_pos z, if_pos k1, if_pos z]
    show (xs.map e)[k.toNat]? = _
    have hk : k.toNat < xs.length := by omega
    rw [List.getElem?_map, List.getElem?_eq_getElem hk]
    simp [List.getD_eq_getElem?_getD, hk]
  · rw [if_neg z, if_pos k0, if_neg z]
    show (xs.map e)[(k + (xs.length : Int)).toNat]? = _
    have hk : (k + (xs.length : Int)).toNat < xs.length := by omega
    rw [List.getElem?_map, List.getElem?_eq_getElem hk]
    simp [List.getD_eq_getElem?_getD, hk]
theorem o_ixT [Inhabited α] {e : α → D} {xs : List α} {k : Int} (k0 : -(xs.length : Int) ≤ k) (k1 : k < xs.length) : dIx (eT e xs) (.int k) h = .ok (e (getI xs k)) h := by
  show dIx (.tup (xs.map e)) (.int k) h = _
  rw [e_ixT, at_map k0 k1]
theorem o_ixL [Inhabited α] {e : α → D} {xs : List α} {k : Int} (k0 : -(xs.length : Int) ≤ k) (k1 : k < xs.length) : dIx (eL e xs) (.int k) h = .ok (e (getI xs k)) h := by
  show dIx (.lst (xs.map e)) (.int k) h = _
  rw [e_ixL, at_map k0 k1]
theorem x_part {k : Int} (ha : a fn env h = .ok (.int k) h1) : dPart a fn env h = .ok (some k) h1 := by simp [ha]
theorem x_noPart : dNoPart fn env h = .ok none h := rfl
theorem x_slice {lo hi : DO} {l u : Option Int} (ha : a fn env h = .ok x h1) (hl : lo fn env h1 = .ok l h2) (hh : hi fn env h2 = .ok u h3) (ho : dSl x l u h3 = .ok z h3) : dSlice a lo hi fn env h = .ok z h3 := by
  simp [ha, hl, hh, ho]
theorem o_slT {e : α → D} {xs : List α} {l u : Option Int} : dSl (eT e xs) l u h = .ok (eT e (cut xs l u)) h := by
  show dSl (.tup (xs.map e)) l u h = .ok (.tup ((cut xs l u).map e)) h
  rw [e_slT, cutD_map]
theorem x_rev (ha : a fn env h = .ok x h1) (ho : dRevL h1 x = .ok z h1) : dRev a fn env h = .ok z h1 := by simp [ha, ho]
theorem o_lenT {e : α → D} {xs : List α} : cLen [eT e xs] h = .ok (.int xs.length) h := by
  show R.ok (D.int (xs.map e).length) h = _
  rw [List.length_map]
theorem ints_map {xs : List Int} : toInts (xs.map D.int) = some xs := toInts_Is
theorem bls_map' {xs : List Bool} : toBls (xs.map D.bl) = some xs := by
  have := bls_map (fun d : D => match d with
    | .bl b => b
    | _ => false) (ds := xs.map D.bl)
  rw [List.map_map, List.map_map] at this
  simpa [Function.comp_def] using this
theorem o_sumT {xs : List Int} : cSum [eT D.int xs] h = .ok (.int xs.sum) h := by
  show (match toInts (xs.map D.int) with
    | some is => R.ok (D.int is.sum) h
    | none => .bad) = _
  rw [ints_map]
theorem o_sumL {xs : List Int} : cSum [eL D.int xs] h = .ok (.int xs.sum) h := by
  show (match toInts (xs.map D.int) with
    | some is => R.ok (D.int is.sum) h
    | none => .bad) = _
  rw [ints_map]
theorem o_allL {xs : List Bool} : cAll [eL D.bl xs] h = .ok (.bl (xs.all id)) h := by
  show (match toBls (xs.map D.bl) with
    | some is => R.ok (D.bl (is.all id)) h
    | none => .bad) = _
  rw [bls_map']
theorem o_allM {f : α → Bool} {xs : List α} : cAll [eL D.bl (xs.map f)] h = .ok (.bl (xs.all f)) h := by
  rw [o_allL, List.all_map]; rfl
theorem o_min2 {u v : Int} : cMinL [.int u, .int v] h = .ok (.int (min u v)) h := by
  rw [e_minL, Int.min_def]
  congr 2
  split <;> split <;> omega
theorem o_tupL {e : α → D} {xs : List α} : cTuple [eL e xs] h = .ok (eT e xs) h := rfl
theorem o_tupB {e : α → D} {xs : List α} : cTuple [.bor (xs.map e)] h = .ok (eT e xs) h := rfl
/-! None -/
theorem nno_ne {e : α → D} [NNo e] (u : α) : e u ≠ .non := fun z => NNo.nn (e := e) u (by rw [z]; simp [D.pd])
theorem is_ne {d : D} (q : d ≠ .non) : dIs d .non h = .ok (.bl false) h ∧ dIsNot d .non h = .ok (.bl true) h := by
  cases d <;> first | exact absurd rfl q | exact ⟨rfl, rfl⟩
theorem o_isN {e : α → D} [NNo e] {u : Option α} : dIs (eO e u) .non h = .ok (.bl u.isNone) h := by
  cases u with
  | none => rfl
  | some u => exact (is_ne (nno_ne (e := e) u)).1
theorem o_isnN {e : α → D} [NNo e] {u : Option α} : dIsNot (eO e u) .non h = .ok (.bl u.isSome) h := by
  cases u with
  | none => rfl
  | some u => exact (is_ne (nno_ne (e := e) u)).2
/-! what is walked -/
theorem i_T {e : α → D} {xs : List α} (ha : a fn env h = .ok (eT e xs) h1) : dItems a fn env h = .ok (xs.map e) h1 := by
  rw [e_dItems, ha, ok_bind]; rfl
theorem i_L {e : α → D} {xs : List α} (ha : a fn env h = .ok (eL e xs) h1) : dItems a fn env h = .ok (xs.map e) h1 := by
  rw [e_dItems, ha, ok_bind]; rfl
theorem i_rng1 {k : Int} (ha : da fn env h = .ok [.int k] h1) (k0 : -1000000000 ≤ k) (k1 : k ≤ 1000000000) : dRng1 da fn env h = .ok ((rangeI k).map D.int) h1 := by
  rw [e_dRng1, ha, ok_bind, e_rng1, if_pos (by simp [k0, k1]), upTo_nats]; rfl
theorem i_zip {t1 t2 : Bool} {e : α → D} {e' : β → D} {xs : List α} {ys : List β} (ha : da fn env h = .ok [x, y] h1) (hx : seqZ x = some (t1, xs.map e)) (hy : seqZ y = some (t2, ys.map e')) : dZipX da fn env h = .ok ((xs.zip ys).map (eP2 e e')) h1 := by
  unfold dZipX
  rw [ha, ok_bind, zipX]
  simp only [hx, hy, pairs_map]
theorem i_enumT {e : α → D} {xs : List α} (ha : da fn env h = .ok [eT e xs] h1) : dEnumA da fn env h = .ok ((enumI xs).map (eP2 D.int e)) h1 := by
  rw [e_dEnumA, ha, ok_bind]
  show R.ok (numbered 0 (xs.map e)) h1 = _
  rw [num_enum]; rfl
/-! names bound -/
theorem p_name (nb : isBor d = false) (hl : decide (env.length ≤ i) = false) (he : env.set i (.val d) = env1) : Pat.put (.name i) d env = some env1 := by
  rw [e_put1, nb, hl]; simp [he]
theorem p_tup {ps : List Pat} (hd : d = .tup ds) (q : Pat.puts ps ds env = some env1) : Pat.put (.tup ps) d env = some env1 := by
  rw [hd, e_putT]; exact q
theorem p_nil : Pat.puts [] [] env = some env := e_puts0
theorem p_cons {p : Pat} {ps : List Pat} {env2 : Ev} (q : Pat.put p d env = some env1) (r : Pat.puts ps ds env1 = some env2) : Pat.puts (p :: ps) (d :: ds) env = some env2 := by
  rw [e_puts1, q]; exact r
/-! comprehensions -/
theorem f_compM {vs : List Nat} {pt : Pat} {te : DE} {en : α → D} {ev : β → D} {xs : List α} {env0 : Ev} (f : α → β) (hi : di fn env h = .ok (xs.map en) h1) (hl : xs.length ≤ 16777216) (hw : wipeE env vs = env0)
    (nb : ∀ u, isBor (ev u) = false) (hb : ∀ u ∈ xs, ∃ env1, Pat.put pt (en u) env0 = some env1 ∧ te fn env1 h1 = .ok (ev (f u)) h1) :
    dComp vs pt di dtYes te fn env h = .ok ((xs.map f).map ev) h1 := by
  rw [e_dComp, hi, ok_bind, List.length_map, decide_eq_true hl, if_pos rfl, hw]
  clear hi hl
  induction xs with
  | nil => rfl
  | cons u us ih =>
    obtain ⟨env1, e1, e2⟩ := hb u (.head _)
    rw [List.map_cons, List.map_cons, List.map_cons]
    unfold compL
    simp only [e1, e2, e_dtYes, nox_ok, ok_bind, if_true, nb, Bool.false_eq_true, if_false, ih fun v hv => hb v (.tail _ hv)]
end
end EV
/-! EV64: what typed code reads as: statements, blocks, loops -/
namespace EV
open PySem L2
section
variable {α β γ ρ σ τ : Type} {fn : Fns} {env env0 env1 env2 : Ev} {h h0 h1 h2 h3 : Cells} {a b c : DE} {ta tb : DT} {da dk : DA} {df di : DF} {d x y z : D} {ds ks zs : List D} {i j k n nk : Nat} {m m1 m2 : DS} {fl : Fl}
/-! simple statements -/
theorem z_set (ha : a fn env h = .ok d h1) (nb : isBor d = false) (hl : decide (env.length ≤ i) = false) (he : env.set i (.val d) = env1) : sSet i a fn env h = .ok (.nx, env1) h1 := by
  rw [e_sSet, ha, ok_bind, e_setV, nb, hl, he]; rfl
theorem z_own (hf : df fn env h = .ok ds h1) (hl : decide (env.length ≤ i) = false) (he : env.set i (.own ds) = env1) : sOwn i df fn env h = .ok (.nx, env1) h1 := by
  rw [e_sOwn, hf, ok_bind, hl, he]; rfl
theorem z_frz {is : List Nat} {r : R (Fl × Ev)} (he : frzs is env = env1) (hs : m fn env1 h = r) : sFrz is m fn env h = r := by
  rw [e_sFrz, he]; exact hs
theorem z_expr (ha : a fn env h = .ok d h1) : sExpr a fn env h = .ok (.nx, env) h1 := by
  rw [e_sExpr, ha]; rfl
theorem m_V (ha : a fn env h = .ok d h1) (nb : isBor d = false) : dmV a fn env h = .ok (.v d) h1 := by
  rw [e_dmV, ha, ok_bind, nb]; rfl
theorem m_O (ha : df fn env h = .ok ds h1) : dmO df fn env h = .ok (.o ds) h1 := by
  rw [e_dmO, ha]; rfl
def putS : It' → Sl
  | .v d => .val d
  | .o ds => .own ds
theorem putIt_eq {u : It'} (hl : decide (env.length ≤ i) = false) : putIt i u env = some (env.set i (putS u)) := by
  have : ¬ env.length ≤ i := by simpa using hl
  cases u <;> simp [this, putS]
theorem z_par2 {ma mb : DM} {u v : It'} (ha : ma fn env h = .ok u h1) (hb : mb fn env h1 = .ok v h2) (l1 : decide (env.length ≤ i) = false) (l2 : decide (env.length ≤ j) = false) (he : (env.set i (putS u)).set j (putS v) = env1) : sPar2 i j ma mb fn env h = .ok (.nx, env1) h2 := by
  rw [e_sPar2, ha, ok_bind, hb, ok_bind, putIt_eq l1]
  dsimp only
  rw [putIt_eq (by rw [List.length_set]; exact l2), he]
theorem z_par3 {ma mb mc : DM} {u v w : It'} (ha : ma fn env h = .ok u h1) (hb : mb fn env h1 = .ok v h2) (hc : mc fn env h2 = .ok w h3) (l1 : decide (env.length ≤ i) = false) (l2 : decide (env.length ≤ j) = false) (l3 : decide (env.length ≤ k) = false)
    (he : ((env.set i (putS u)).set j (putS v)).set k (putS w) = env1) : sPar3 i j k ma mb mc fn env h = .ok (.nx, env1) h3 := by
  rw [e_sPar3, ha, ok_bind, hb, ok_bind, hc, ok_bind, putIt_eq l1]
  dsimp only
  rw [putIt_eq (by rw [List.length_set]; exact l2)]
  dsimp only
  rw [putIt_eq (by rw [List.length_set, List.length_set]; exact l3), he]
theorem z_aug {o : O2} (he0 : env[i]? = some (.val d)) (ha : a fn env h = .ok x h1) (ho : o d x h1 = .ok z h2) (nb : isBor z = false) (hl : decide (env.length ≤ i) = false) (he : env.set i (.val z) = env1) : sAug i o a fn env h = .ok (.nx, env1) h2 := by
  rw [e_sAug, he0]
  dsimp only
  rw [ha, ok_bind, ho, ok_bind, e_setV, nb, hl, he]; rfl
theorem z_append {e : α → D} {xs : List α} {u : α} (he0 : env[i]? = some (.own (xs.map e))) (ha : a fn env h = .ok (e u) h1) (nb : isBor (e u) = false) (l : xs.length < 16777216) (he : env.set i (.own ((xs ++ [u]).map e)) = env1) : sAppend i a fn env h = .ok (.nx, env1) h1 := by
  have hs : ∀ h, slotL env h i = some (xs.map e) := fun h => by rw [e_slotL, he0]
  rw [e_sAppend, hs]
  dsimp only
  rw [ha, ok_bind, e_appendAt, nb, hs]
  dsimp only
  rw [List.length_map, decide_eq_true (by exact l), if_pos rfl, e_slotP, he0]
  dsimp only
  rw [← he, List.map_append]; rfl
theorem z_extend {e : α → D} {xs ys : List α} (he0 : env[i]? = some (.own (xs.map e))) (ha : a fn env h = .ok (eL e ys) h1) (l : xs.length + ys.length ≤ 16777216) (he : env.set i (.own ((xs ++ ys).map e)) = env1) : sExtend i a fn env h = .ok (.nx, env1) h1 := by
  have hs : ∀ h, slotL env h i = some (xs.map e) := fun h => by rw [e_slotL, he0]
  rw [e_sExtend, hs]
  dsimp only
  rw [ha, ok_bind]
  show extendAt i (.lst (ys.map e)) env h1 = _
  rw [e_extendL, hs]
  dsimp only
  rw [List.length_map, List.length_map, decide_eq_true (by exact l), if_pos rfl, e_slotP, he0]
  dsimp only
  rw [← he, List.map_append]
theorem z_asg {dg : DG} {r : R (Fl × Ev)} (ha : a fn env h = .ok d h1) (nb : isBor d = false) (hg : dg d fn env h1 = r) : sAsg a dg fn env h = r := by
  rw [e_sAsg, ha, ok_bind, nb]; exact hg
theorem g_name (nb : isBor d = false) (hl : decide (env.length ≤ i) = false) (he : env.set i (.val d) = env1) : gName' i d fn env h = .ok (.nx, env1) h := by
  rw [e_gName', e_setV, nb, hl, he]; rfl
theorem g_nil : gsNil [] fn env h = .ok (.nx, env) h := e_gsNil
theorem g_cons {dg : DG} {db : List D → DS} {r : R (Fl × Ev)} (ha : dg d fn env h = .ok (.nx, env1) h1) (hb : db ds fn env1 h1 = r) : gsCons dg db (d :: ds) fn env h = r := by
  rw [e_gsCons, e_sSeq, ha, ok_bind]; exact hb
theorem g_tup {db : List D → DS} {r : R (Fl × Ev)} (hd : d = .tup ds) (hn : decide (ds.length = n) = true) (hb : db ds fn env h = r) : gTup n db d fn env h = r := by
  rw [hd, e_gTup, if_pos (by simpa using hn)]; exact hb
/-! blocks -/
def J (m : DS) (fn : Fns) (env : Ev) (h : Cells) (K : τ → Fl → Ev → Cells → Prop) (r : τ) : Prop := ∃ fl env' h', m fn env h = .ok (fl, env') h' ∧ K r fl env' h'
def KR (V : ρ → D × Cells) (r : ρ) (fl : Fl) (_ : Ev) (h : Cells) : Prop := fl = .rt (V r).1 ∧ h = (V r).2
def KN (E : σ → Ev → Cells → Prop) (s : σ) (fl : Fl) (env : Ev) (h : Cells) : Prop := fl = .nx ∧ E s env h
def KG (E : σ → Ev → Cells → Prop) (s : σ) (fl : Fl) (env : Ev) (h : Cells) : Prop := (fl = .nx ∨ fl = .ct) ∧ E s env h
def KC (E : σ → Ev → Cells → Prop) (V : ρ → D × Cells) : Ct ρ σ → Fl → Ev → Cells → Prop
  | .ret r, fl, _, h => fl = .rt (V r).1 ∧ h = (V r).2
  | .go s, fl, env, h => (fl = .nx ∨ fl = .ct) ∧ E s env h
  | .brk s, fl, env, h => fl = .bk ∧ E s env h
def KE (K : τ → Fl → Ev → Cells → Prop) (r : τ) (fl : Fl) (env : Ev) (h : Cells) : Prop := K r fl env h ∧ fl ≠ .nx
variable {K : τ → Fl → Ev → Cells → Prop} {r r1 r2 : τ}
theorem j_lt {v : α} {f : α → τ} (q : ∀ u, u = v → J m fn env h K (f u)) : J m fn env h K (lt v f) := q v rfl
theorem j_seq (ha : m1 fn env h = .ok (.nx, env1) h1) (q : J m2 fn env1 h1 K r) : J (sSeq m1 m2) fn env h K r := by
  obtain ⟨fl, e, h', e1, e2⟩ := q
  exact ⟨fl, e, h', by rw [seqQ ha]; exact e1, e2⟩
theorem j_last (ha : m fn env h = .ok (.nx, env1) h1) (q : K r .nx env1 h1) : J m fn env h K r := ⟨_, _, _, ha, q⟩
theorem j_ret (ha : a fn env h = .ok d h1) (nb : isBor d = false) (q : K r (.rt d) env h1) : J (sRet a) fn env h K r := ⟨_, _, _, by rw [e_sRet, ha, ok_bind, nb]; rfl, q⟩
theorem j_next (q : K r .nx env h) : J sNext fn env h K r := ⟨_, _, _, rfl, q⟩
theorem j_if {k : Bool} (ht : ta fn env h = .ok k h1) (ha : k = true → J m1 fn env h1 K r1) (hb : k = false → J m2 fn env h1 K r2) : J (sIf ta m1 m2) fn env h K (if k = true then r1 else r2) := by
  cases k with
  | true =>
    obtain ⟨fl, e, h', e1, e2⟩ := ha rfl
    exact ⟨fl, e, h', by rw [e_sIf, ht, ok_bind, if_pos rfl]; exact e1, by rw [if_pos rfl]; exact e2⟩
  | false =>
    obtain ⟨fl, e, h', e1, e2⟩ := hb rfl
    exact ⟨fl, e, h', by rw [e_sIf, ht, ok_bind, if_neg (by decide)]; exact e1, by rw [if_neg (by decide)]; exact e2⟩
/-- if .. that leaves, then the rest -/
theorem j_ifq {k : Bool} (ht : ta fn env h = .ok k h1) (ha : k = true → J m1 fn env h1 (KE K) r1) (hb : k = false → J m2 fn env h1 K r2) : J (sSeq (sIf ta m1 sNext) m2) fn env h K (if k = true then r1 else r2) := by
  cases k with
  | true =>
    obtain ⟨fl, e, h', e1, e2, e3⟩ := ha rfl
    refine ⟨fl, e, h', ?_, by rw [if_pos rfl]; exact e2⟩
    rw [e_sSeq, e_sIf, ht, ok_bind, if_pos rfl, e1, ok_bind]
    cases fl <;> first | rfl | exact absurd rfl e3
  | false =>
    obtain ⟨fl, e, h', e1, e2⟩ := hb rfl
    refine ⟨fl, e, h', ?_, by rw [if_neg (by decide)]; exact e2⟩
    rw [e_sSeq, e_sIf, ht, ok_bind, if_neg (by decide), e_sNext, ok_bind]; exact e1
/-- if .. that never holds (what it raises is not told) -/
theorem j_ifN (ht : ta fn env h = .ok false h1) (hb : J m2 fn env h1 K r2) : J (sSeq (sIf ta m1 sNext) m2) fn env h K r2 := by
  obtain ⟨fl, e, h', e1, e2⟩ := hb
  refine ⟨fl, e, h', ?_, e2⟩
  rw [e_sSeq, e_sIf, ht, ok_bind, if_neg (by decide), e_sNext, ok_bind]; exact e1
theorem j_ifN' (ht : ta fn env h = .ok false h1) (q : J sNext fn env h1 K r) : J (sIf ta m1 sNext) fn env h K r := by
  obtain ⟨fl, e, h', e1, e2⟩ := q
  refine ⟨fl, e, h', ?_, e2⟩
  rw [e_sIf, ht, ok_bind, if_neg (by decide)]; exact e1
/-! loops -/
theorem loop_fold {pt : Pat} {body : DS} {en : α → D} (E : σ → Ev → Cells → Prop) (Inv : Nat → σ → Prop) (step : σ → α → σ) : ∀ {xs : List α} {s0 : σ} {env0 : Ev} {h0 : Cells} (p : Nat), Inv p s0 → E s0 env0 h0 →
    (∀ (i : Nat) (u : α) (s : σ) (env : Ev) (h : Cells), xs[i]? = some u → Inv (p + i) s → E s env h → Inv (p + i + 1) (step s u) ∧ ∃ env1, Pat.put pt (en u) env = some env1 ∧ J body fn env1 h (KG E) (step s u)) →
    ∃ env1 h1, forL pt body fn (xs.map en) env0 h0 = .ok (.nx, env1) h1 ∧ E (xs.foldl step s0) env1 h1 ∧ Inv (p + xs.length) (xs.foldl step s0)
  | [], s0, env0, h0, p, i0, e0, _ => ⟨env0, h0, rfl, e0, i0⟩
  | u :: us, s0, env0, h0, p, i0, e0, st => by
    obtain ⟨i1, env1, e1, fl, env2, h2, e2, hx, e3⟩ := st 0 u s0 env0 h0 rfl i0 e0
    obtain ⟨env3, h3, e4, e5, i5⟩ := loop_fold E Inv step (xs := us) (p + 1) i1 e3 fun i v s env h hv hi hE => by
      have z := st (i + 1) v s env h (by simpa using hv) (by rw [show p + (i + 1) = p + 1 + i by omega]; exact hi) hE
      rw [show p + (i + 1) = p + 1 + i by omega] at z
      exact z
    refine ⟨env3, h3, ?_, e5, by rw [List.length_cons, show p + (us.length + 1) = p + 1 + us.length by omega]; exact i5⟩
    rw [List.map_cons]
    unfold forL
    rw [e1]
    show R.bind _ _ = _
    rw [e2, ok_bind]
    rcases hx with rfl | rfl <;> exact e4
def CtR (E : σ → Ev → Cells → Prop) (V : ρ → D × Cells) (Inv : Nat → σ → Prop) (p q : Nat) (r : R (Fl × Ev)) : Ct ρ σ → Prop
  | .ret a => ∃ env1, r = .ok (.rt (V a).1, env1) (V a).2
  | .go s => ∃ env1 h1 i, r = .ok (.nx, env1) h1 ∧ E s env1 h1 ∧ p ≤ i ∧ i ≤ q ∧ Inv i s
  | .brk _ => False
theorem loop_ctl {pt : Pat} {body : DS} {en : α → D} (E : σ → Ev → Cells → Prop) (V : ρ → D × Cells) (Inv : Nat → σ → Prop) (step : σ → α → Ct ρ σ) : ∀ {xs : List α} {s0 : σ} {env0 : Ev} {h0 : Cells} (p : Nat), Inv p s0 → E s0 env0 h0 →
    (∀ (i : Nat) (u : α) (s : σ) (env : Ev) (h : Cells), xs[i]? = some u → Inv (p + i) s → E s env h → (∀ s', (step s u = .go s' ∨ step s u = .brk s') → Inv (p + i + 1) s') ∧ ∃ env1, Pat.put pt (en u) env = some env1 ∧ J body fn env1 h (KC E V) (step s u)) →
    CtR E V Inv p (p + xs.length) (forL pt body fn (xs.map en) env0 h0) (loopR step s0 xs)
  | [], s0, env0, h0, p, i0, e0, _ => ⟨env0, h0, p, rfl, e0, Nat.le_refl _, Nat.le_refl _, i0⟩
  | u :: us, s0, env0, h0, p, i0, e0, st => by
    obtain ⟨i1, env1, e1, fl, env2, h2, e2, hx⟩ := st 0 u s0 env0 h0 rfl i0 e0
    rw [List.map_cons]
    unfold forL loopR
    rw [e1]
    dsimp only
    rw [e2, ok_bind]
    cases hs : step s0 u with
    | ret a =>
      rw [hs] at hx
      obtain ⟨rfl, rfl⟩ := hx
      exact ⟨env2, rfl⟩
    | brk s =>
      rw [hs] at hx
      obtain ⟨rfl, hE⟩ := hx
      exact ⟨env2, h2, p + 1, rfl, hE, by omega, by rw [List.length_cons]; omega, i1 s (.inr hs)⟩
    | go s =>
      rw [hs] at hx
      obtain ⟨hf, hE⟩ := hx
      have z := loop_ctl E V Inv step (xs := us) (p + 1) (i1 s (.inl hs)) hE fun i v s env h hv hi hE => by
        have z := st (i + 1) v s env h (by simpa using hv) (by rw [show p + (i + 1) = p + 1 + i by omega]; exact hi) hE
        rw [show p + (i + 1) = p + 1 + i by omega] at z
        exact z
      have z2 : CtR E V Inv p (p + (u :: us).length) (forL pt body fn (us.map en) env2 h2) (loopR step s us) := by
        revert z
        cases loopR step s us with
        | ret a => exact id
        | brk s => exact id
        | go s => exact fun ⟨a, b, i, c, d, e, f, g⟩ => ⟨a, b, i, c, d, by omega, by rw [List.length_cons]; omega, g⟩
      rcases hf with rfl | rfl <;> exact z2
theorem z_for {pt : Pat} {body : DS} {r : R (Fl × Ev)} (hi : di fn env h = .ok ds h1) (hl : forL pt body fn ds env h1 = r) : sFor pt di body fn env h = r := by
  rw [e_sFor, hi, ok_bind]; exact hl
/-- for .. without an early end, then the rest -/
theorem j_for {pt : Pat} {body : DS} {E : σ → Ev → Cells → Prop} {P : σ → Prop} {s : σ} {f : σ → τ} (hi : di fn env h = .ok ds h1) (hl : ∃ env1 h2, forL pt body fn ds env h1 = .ok (.nx, env1) h2 ∧ E s env1 h2 ∧ P s)
    (q : ∀ t env2 h2, t = s → P t → E t env2 h2 → J m fn env2 h2 K (f t)) : J (sSeq (sFor pt di body) m) fn env h K (lt s f) := by
  obtain ⟨env1, h2, e1, e2, e3⟩ := hl
  exact j_seq (z_for hi e1) (q s env1 h2 rfl e3 e2)
/-- for .. that may return, then the rest, which returns -/
theorem j_forR {pt : Pat} {body : DS} {E : σ → Ev → Cells → Prop} {V : ρ → D × Cells} {Inv : Nat → σ → Prop} {p q : Nat} {w : Ct ρ σ} {f : σ → ρ} (hi : di fn env h = .ok ds h1) (hl : CtR E V Inv p q (forL pt body fn ds env h1) w)
    (hq : ∀ s env2 h2 i, w = .go s → p ≤ i → i ≤ q → Inv i s → E s env2 h2 → J m fn env2 h2 (KR V) (f s)) : J (sSeq (sFor pt di body) m) fn env h (KR V) (w.out f) := by
  cases w with
  | ret a =>
    obtain ⟨env1, e⟩ := hl
    exact ⟨_, env1, _, by rw [e_sSeq, z_for hi e, ok_bind]; rfl, rfl, rfl⟩
  | go s =>
    obtain ⟨env1, h2, i, e1, e2, e3, e4, e5⟩ := hl
    exact j_seq (z_for hi e1) (hq s env1 h2 i rfl e3 e4 e5 e2)
  | brk s => exact hl.elim
/-- within a loop: for .. that may return, then the rest -/
def Ct.bind {ρ σ τ : Type} (k : σ → Ct ρ τ) : Ct ρ σ → Ct ρ τ
  | .ret r => .ret r
  | .go s => k s
  | .brk s => k s
/-! defs -/
theorem b_ret {V : ρ → D × Cells} {r : ρ} (q : J m fn (startE n ds) h (KR V) r) : bodyF n m fn ds h = .ok (V r).1 (V r).2 := by
  obtain ⟨fl, e, h', e1, rfl, rfl⟩ := q
  rw [e_body, e1, ok_bind, e_endR]
/-- a def that ends without return -/
theorem b_nx (q : J m fn (startE n ds) h (KN fun (_ : Unit) _ h' => h' = h1) ()) : bodyF n m fn ds h = .ok .non h1 := by
  obtain ⟨fl, e, h', e1, rfl, rfl⟩ := q
  rw [e_body, e1, ok_bind, e_endN]
end
end EV
/-! EV65: more of what typed code reads as; draws -/
namespace EV
open PySem L2
instance : Inhabited SS := ⟨lit ""⟩
section
variable {α β γ δ ρ σ τ : Type} {fn : Fns} {env env0 env1 env2 : Ev} {h h0 h1 h2 h3 : Cells} {a b c : DE} {ta tb : DT} {da dk : DA} {df di : DF} {d x y z : D} {ds ks zs : List D} {i j n nk : Nat} {m m1 m2 : DS} {fl : Fl}
theorem xv (v : D) (p : a fn env h = .ok v h1) : a fn env h = .ok v h1 := p
theorem fv (v : List D) (p : df fn env h = .ok v h1) : df fn env h = .ok v h1 := p
theorem t_false {k : Bool} (p : ta fn env h = .ok k h1) (q : k = false) : ta fn env h = .ok false h1 := by rw [p, q]
theorem o_mulV {u v : Int} (q : (-18446744073709551616 < u ∧ u < 18446744073709551616) ∨ (-18446744073709551616 < v ∧ v < 18446744073709551616)) : dMul (.int u) (.int v) h = .ok (.int (u * v)) h :=
  o_mulI (q.imp (fun q => sm64 q.1 q.2) fun q => sm64 q.1 q.2)
theorem x_isi {t : Ty} {ts : List Ty} {k : Bool} (ha : a fn env h = .ok x h1) (ht : tyOf h1 x = some t) (hk : (ts.any fun u => t.isa u) = k) : dIsi a ts fn env h = .ok (.bl k) h1 := by
  rw [e_dIsi, ha, ok_bind, ht]
  dsimp only
  rw [hk]
theorem o_ixP2_0 {ea : α → D} {eb : β → D} {p : α × β} : dIx (eP2 ea eb p) (.int 0) h = .ok (ea p.1) h := rfl
theorem o_ixP2_1 {ea : α → D} {eb : β → D} {p : α × β} : dIx (eP2 ea eb p) (.int 1) h = .ok (eb p.2) h := rfl
theorem eO_some [Inhabited α] {e : α → D} {x : Option α} (q : x.isNone = false) : eO e x = e (x.getD default) := by
  cases x with
  | none => cases q
  | some x => rfl
theorem lt_of_get {xs : List α} {i : Nat} {u : α} (h : xs[i]? = some u) : i < xs.length := (List.getElem?_eq_some_iff.mp h).1
theorem x_some [Inhabited α] {e : α → D} {u : Option α} (q : u.isNone = false) (p : a fn env h = .ok (eO e u) h1) : a fn env h = .ok (e (u.getD default)) h1 := by rw [← eO_some (e := e) q]; exact p
theorem mem_rng {k u : Int} (h : u ∈ rangeI k) : 0 ≤ u ∧ u < k := by
  have := mem_nats.mp h; omega
theorem rng_get {k u : Int} {i : Nat} (h : (rangeI k)[i]? = some u) : u = i := by
  unfold rangeI nats at h
  rw [List.getElem?_map] at h
  obtain ⟨j, hj, rfl⟩ := Option.map_eq_some_iff.mp h
  have := (List.getElem?_eq_some_iff.mp hj).2
  simp at this; omega
theorem mem_enm {xs : List α} {p : Int × α} (h : p ∈ enumI xs) : 0 ≤ p.1 ∧ p.1 < xs.length ∧ p.2 ∈ xs := by
  obtain ⟨k, e, g⟩ := enum_mem h
  have := (List.getElem?_eq_some_iff.mp g).1
  exact ⟨by omega, by omega, List.mem_of_getElem? g⟩
theorem mem_zip {xs : List α} {ys : List β} {p : α × β} (h : p ∈ xs.zip ys) : p.1 ∈ xs ∧ p.2 ∈ ys := List.of_mem_zip (a := p.1) (b := p.2) h
@[simp] theorem rangeI_len {k : Int} : (rangeI k).length = k.toNat := nats_len
@[simp] theorem enumI_len {xs : List α} {i : Int} : (enumF i xs).length = xs.length := enum_len
/-! what repr asks -/
theorem rqx {n B : Nat} {d : D} (h : Rq n B d) (hn : n ≤ 50) (hB : B ≤ 16777216) : RqX d := ⟨n, hn, h.mono hB⟩
theorem rqL {n B m : Nat} {e : α → D} {xs : List α} (h : ∀ x ∈ xs, Rq n B (e x)) (l : xs.length ≤ m) : Rq (n + 1) (m * (B + 2) + 3) (eL e xs) :=
  rq_lst (fun d hd => by obtain ⟨x, hx, rfl⟩ := List.mem_map.mp hd; exact h x hx) (by rw [List.length_map]; exact Nat.add_le_add_right (Nat.mul_le_mul_right _ l) _)
theorem foldl_inv {f : σ → α → σ} (Inv : Nat → σ → Prop) : ∀ {xs : List α} {s0 : σ} (p : Nat), Inv p s0 → (∀ i u s, xs[i]? = some u → Inv (p + i) s → Inv (p + i + 1) (f s u)) → Inv (p + xs.length) (xs.foldl f s0)
  | [], s0, p, h, _ => h
  | x :: xs, s0, p, h, st => by
    have h2 := foldl_inv Inv (xs := xs) (p + 1) (st 0 x s0 rfl h) fun i u s hu hi => by
      have z := st (i + 1) u s (by simpa using hu) (by rw [show p + (i + 1) = p + 1 + i by omega]; exact hi)
      rw [show p + (i + 1) = p + 1 + i by omega] at z
      exact z
    rw [List.length_cons, show p + (xs.length + 1) = p + 1 + xs.length by omega]; exact h2
/-! blocks -/
variable {K : τ → Fl → Ev → Cells → Prop} {r r1 r2 : τ} {V : ρ → D × Cells} {E : σ → Ev → Cells → Prop} {u : ρ}
theorem j_re (q : J m fn env h (KR V) u) : J m fn env h (KE (KR V)) u := by
  obtain ⟨fl, e, h', e1, e2, e3⟩ := q
  exact ⟨fl, e, h', e1, ⟨e2, e3⟩, fun z => by rw [e2] at z; cases z⟩
theorem j_rc (q : J m fn env h (KR V) u) : J m fn env h (KE (KC E V)) (.ret u) := by
  obtain ⟨fl, e, h', e1, e2, e3⟩ := q
  exact ⟨fl, e, h', e1, ⟨e2, e3⟩, fun z => by rw [e2] at z; cases z⟩
end
/-! ### draws -/
/-- a pot's place, no list beside it -/
structure PotOk (n : Nat) (h0 : Cells) : Prop where
  lt : n < h0.length
  nl : noLstH h0 = true
theorem PotOk.nl_hp {n : Nat} {h0 : Cells} {p : Pot2} (o : PotOk n h0) : noLstH (hp n h0 p) = true := noLstH_set rfl o.nl
def drawT (c1 c2 m1 m2 q : Int) (p : Pot2) (s : Int) : Int × Pot2 :=
  if 0 < p.1 then (p.1 % s, (p.1 / s, p.2)) else
    (((p.2 * c1 + c2) % m1 * ((p.2 * c1 + c2) % m1) % m2 / q) % s, (p.1, (p.2 * c1 + c2) % m1))
theorem draw_b {c1 c2 m1 m2 q : Int} {p : Pot2} {s : Int} (h : 0 < s) : 0 ≤ (drawT c1 c2 m1 m2 q p s).1 ∧ (drawT c1 c2 m1 m2 q p s).1 < s := by
  unfold drawT
  split <;> exact ⟨Int.emod_nonneg _ (by omega), Int.emod_lt_of_pos _ h⟩
def ST_draw (t : Pot2 → Int → Int × Pot2) (f : Fn) : Prop := ∀ (n : Nat) (h0 : Cells) (p : Pot2) (s : Int), PotOk n h0 → 0 < s → s < 1073741824 → f [.obj n, .int s] (hp n h0 p) = .ok (.int (t p s).1) (hp n h0 (t p s).2)
theorem et_draw {fn : Fns} {c1 c2 m1 m2 q : Int} (s1 : c1.natAbs ≤ 1000000000) (hm1 : 0 < m1 ∧ m1 ≤ 4000000000) (hm2 : 0 < m2) (hq : 0 < q ∧ q < 1073741824) : ST_draw (drawT c1 c2 m1 m2 q) (bodyF 3 (drawM c1 c2 m1 m2 q) fn) := fun n h0 p s hn h0' h1' => by
  have hn' := hn
  have hn := hn.lt
  have e := hp_get (p := p) hn
  obtain ⟨a, b⟩ := p
  have hl : n < (hp n h0 (a, b)).length := by rw [hp_len]; exact hn
  have w1 : small64 c1 = true := by simp only [small64, Bool.and_eq_true, decide_eq_true_eq]; omega
  unfold potD at e
  dsimp only at e
  have fin : ∀ x y : Int, (hp n h0 (a, b)).set n (OB.lst [.int x, .int y]) = hp n h0 (x, y) := fun x y => hp_hp (p := (a, b)) (q := (x, y))
  generalize hp n h0 (a, b) = h at *
  by_cases z : 0 < a
  · simp [drawM, ix_obj e, at0, z, h0', h1', e, ixN, drawT, fin]
  · have g0 := Int.emod_nonneg (b * c1 + c2) (show m1 ≠ 0 by omega)
    have g1 := Int.emod_lt_of_pos (b * c1 + c2) hm1.1
    have w2 : small64 ((b * c1 + c2) % m1) = true := by simp only [small64, Bool.and_eq_true, decide_eq_true_eq]; omega
    have e2 : (hp n h0 (a, (b * c1 + c2) % m1))[n]? = some (.lst [.int a, .int ((b * c1 + c2) % m1)]) := hp_get hn
    simp [drawM, ix_obj e, at0, at1, z, h0', h1', e, ixN, w1, hm1.1, fin, ix_obj e2, w2, hm2, hq.1, hq.2, drawT]
/-- one of a list -/
def pickP {α : Type} [Inhabited α] (t : Pot2 → Int → Int × Pot2) (p : Pot2) (xs : List α) : α × Pot2 := (getI xs (t p xs.length).1, (t p xs.length).2)
def DrB (t : Pot2 → Int → Int × Pot2) : Prop := ∀ p s, 0 < s → 0 ≤ (t p s).1 ∧ (t p s).1 < s
theorem drawT_b {c1 c2 m1 m2 q : Int} : DrB (drawT c1 c2 m1 m2 q) := fun _ _ h => draw_b h
theorem getI_mem {α : Type} [Inhabited α] {xs : List α} {i : Int} (h0 : 0 ≤ i) (h1 : i < xs.length) : getI xs i ∈ xs := by
  unfold getI
  rw [if_pos h0]
  have hk : i.toNat < xs.length := by omega
  rw [List.getD_eq_getElem?_getD, List.getElem?_eq_getElem hk]
  exact List.getElem_mem hk
theorem pick_mem {α : Type} [Inhabited α] {t : Pot2 → Int → Int × Pot2} (ht : DrB t) {p : Pot2} {xs : List α} (h : xs ≠ []) : (pickP t p xs).1 ∈ xs := by
  have hl : 0 < xs.length := List.length_pos_iff.mpr h
  have := ht p xs.length (by omega)
  exact getI_mem this.1 this.2
def ST_pick (t : Pot2 → Int → Int × Pot2) (f : Fn) : Prop := ∀ {α : Type} [Inhabited α] (e : α → D) [NB e] (n : Nat) (h0 : Cells) (p : Pot2) (xs : List α), PotOk n h0 → xs ≠ [] → xs.length < 1000000 →
  f [.obj n, eL e xs] (hp n h0 p) = .ok (e (pickP t p xs).1) (hp n h0 (pickP t p xs).2)
theorem et_pick {fn : Fns} {i : Nat} {t : Pot2 → Int → Int × Pot2} (ht : DrB t) (dr : ST_draw t (fn i)) : ST_pick t (bodyF 2 (pickM i) fn) := fun {α _} e _ n h0 p xs hn h1 h2 => by
  have hl : 0 < xs.length := List.length_pos_iff.mpr h1
  have d := dr n h0 p xs.length hn (by omega) (by omega)
  obtain ⟨b0, b1⟩ := ht p xs.length (by omega)
  unfold pickM pickP
  have e1 : eL e xs = .lst (xs.map e) := rfl
  have nb : isBor (e (getI xs (t p xs.length).1)) = false := NB.nb _
  rw [e1]
  generalize hr : t p xs.length = r at *
  simp [d, at_map (e := e) (show -(xs.length : Int) ≤ r.1 by omega) b1, nb]
end EV
/-! EV74: memos in typed code -/
namespace EV
open PySem L2
abbrev eM : Nat → D := D.obj
instance : NB eM := ⟨fun _ => rfl⟩
/-- encodings that name no cell -/
class Low {α : Type} (e : α → D) : Prop where
  low : ∀ x, lowD 0 (e x) = true
section
variable {α β γ ρ σ τ : Type} {fn : Fns} {env env1 : Ev} {h h1 h0 : Cells} {n N m : Nat} {M : Memo} {p : Pot2} {ds : List D}
theorem lowDs_map {e : α → D} [Low e] : ∀ {xs : List α}, lowDs 0 (xs.map e) = true
  | [] => rfl
  | x :: xs => by
    rw [List.map_cons, lowDs, Low.low, lowDs_map]; rfl
instance : Low D.int := ⟨fun _ => rfl⟩
instance : Low D.bl := ⟨fun _ => rfl⟩
instance : Low D.str := ⟨fun _ => rfl⟩
instance {e : α → D} [Low e] : Low (eT e) := ⟨fun _ => by show lowD 0 (.tup _) = true; rw [lowD, lowDs_map]⟩
instance {e : α → D} [Low e] : Low (eL e) := ⟨fun _ => by show lowD 0 (.lst _) = true; rw [lowD, lowDs_map]⟩
instance {e : α → D} {f : β → D} [Low e] [Low f] : Low (eP2 e f) := ⟨fun x => by show lowD 0 (.tup [e x.1, f x.2]) = true; simp [lowD, lowDs, Low.low]⟩
theorem PotOk.app (o : PotOk n h0) : PotOk n (h0 ++ [.mem M]) := ⟨by rw [List.length_append]; have := o.lt; omega, by rw [noLstH_app, o.nl]; rfl⟩
/-- a def whose own cells are let go -/
def KL (N : Nat) (V : ρ → D × Cells) (r : ρ) (fl : Fl) (_ : Ev) (h : Cells) : Prop := fl = .rt (V r).1 ∧ h.take N = (V r).2
theorem b_clean {ms : DS} {V : ρ → D × Cells} {r : ρ} (q : J ms fn (startE n ds) h (KL h.length V) r) (l1 : lowD 0 (V r).1 = true) (l2 : lowH h.length h = true → lowH h.length (V r).2 = true) : bodyF n (sClean ms) fn ds h = .ok (V r).1 (V r).2 := by
  obtain ⟨fl, e, h', e1, rfl, e2⟩ := q
  unfold bodyF sClean
  rw [e1]
  unfold cleanR
  dsimp only
  rw [e2, if_pos]
  · rfl
  · rw [Bool.and_eq_true]
    refine ⟨lowD0 l1, ?_⟩
    cases z : lowH h.length h with
    | false => rfl
    | true => rw [l2 z]; rfl
end
section
variable {τ : Type} {fn : Fns} {env : Ev} {h h1 : Cells} {ta : DT} {m m1 m2 a b : DS} {K : τ → Fl → Ev → Cells → Prop} {r r1 r2 : τ}
theorem seq_assoc : sSeq (sSeq a b) m fn env h = sSeq a (sSeq b m) fn env h := by
  rw [e_sSeq, e_sSeq, e_sSeq]
  cases e : a fn env h with
  | bad => rfl
  | exc x h' => rfl
  | ok x h' =>
    obtain ⟨fl, env'⟩ := x
    rw [ok_bind, ok_bind]
    cases fl <;> rfl
theorem seq_assocF : sSeq (sSeq a b) m = sSeq a (sSeq b m) := funext fun _ => funext fun _ => funext fun _ => seq_assoc
/-- an if, some of whose ways leave, then the rest: the rest in both -/
theorem j_ifd {k : Bool} (ht : ta fn env h = .ok k h1) (ha : k = true → J (sSeq m1 m) fn env h1 K r1) (hb : k = false → J (sSeq m2 m) fn env h1 K r2) : J (sSeq (sIf ta m1 m2) m) fn env h K (if k = true then r1 else r2) := by
  cases k with
  | true =>
    obtain ⟨fl, e, h', e1, e2⟩ := ha rfl
    exact ⟨fl, e, h', by rw [e_sSeq, e_sIf, ht, ok_bind, if_pos rfl]; rw [e_sSeq] at e1; exact e1, by rw [if_pos rfl]; exact e2⟩
  | false =>
    obtain ⟨fl, e, h', e1, e2⟩ := hb rfl
    exact ⟨fl, e, h', by rw [e_sSeq, e_sIf, ht, ok_bind, if_neg (by decide)]; rw [e_sSeq] at e1; exact e1, by rw [if_neg (by decide)]; exact e2⟩
theorem j_nextS (q : J m fn env h K r) : J (sSeq sNext m) fn env h K r := by
  obtain ⟨fl, e, h', e1, e2⟩ := q
  exact ⟨fl, e, h', by rw [e_sSeq, e_sNext, ok_bind]; exact e1, e2⟩
end
end EV
/-! EV75: memos of truths: typed states -/
namespace EV
open PySem L2
/-- what a memo holds: keys, what is true of them -/
structure MT where
  κ : Type
  enc : κ → D
  dk : κ → NestedKey
  ok : ∀ k, dicKey (enc k) = some (dk k)
  inj : ∀ a b, dk a = dk b → a = b
  low : ∀ k, lowD 0 (enc k) = true ∧ noLst (enc k) = true
  φ : κ → Bool
  lv : κ → Nat
  dom : κ → Prop
  code : κ → Nat
  N : Nat
  hN : N ≤ 16000000
  cb : ∀ k, dom k → code k < N
  ci : ∀ a b, dom a → dom b → code a = code b → a = b
theorem nodup_bound : ∀ (N : Nat) (xs : List Nat), xs.Nodup → (∀ x ∈ xs, x < N) → xs.length ≤ N
  | 0, [], _, _ => Nat.le_refl _
  | 0, x :: _, _, h => absurd (h x (.head _)) (by omega)
  | N + 1, xs, nd, h => by
    have ih := nodup_bound N (xs.erase N) (nd.erase N) fun x hx => by
      have h1 := h x (List.mem_of_mem_erase hx)
      have h2 : x ≠ N := fun e => by
        subst e
        exact absurd hx (by rw [nd.mem_erase_iff]; exact fun z => z.1 rfl)
      omega
    have := List.length_erase (a := N) (l := xs)
    split at this <;> omega
section
variable (T : MT)
def encE (e : T.κ × Bool) : D × D := (T.enc e.1, .bl e.2)
variable {T}
open Classical in
noncomputable def mget (es : List (T.κ × Bool)) (k : T.κ) : Option Bool := (es.find? fun e => decide (e.1 = k)).map (·.2)
open Classical in
noncomputable def mput (es : List (T.κ × Bool)) (k : T.κ) (b : Bool) : List (T.κ × Bool) := if (mget es k).isSome then es.map fun e => if e.1 = k then (e.1, b) else e else es ++ [(k, b)]
theorem key_enc (k : T.κ) : D.key (T.enc k) = some (T.dk k) := (dicKey_eq (T.ok k)).1
theorem isTup_enc (k : T.κ) : isTup (T.enc k) = true := by
  have := T.ok k
  cases e : T.enc k with
  | tup ds => rfl
  | _ => rw [e] at this; simp [dicKey] at this
theorem dicAt_enc (es : List (T.κ × Bool)) (k : T.κ) : dicAt (es.map (encE T)) (T.dk k) = (mget es k).map D.bl := by
  induction es with
  | nil => rfl
  | cons e es ih =>
    by_cases z : e.1 = k
    · have a1 : dicAt ((e :: es).map (encE T)) (T.dk k) = some (.bl e.2) := by simp [dicAt, encE, List.find?_cons, key_enc, z]
      have a2 : mget (e :: es) k = some e.2 := by simp [mget, List.find?_cons, z]
      rw [a1, a2]; rfl
    · have z' : ¬ T.dk e.1 = T.dk k := fun q => z (T.inj _ _ q)
      have a1 : dicAt ((e :: es).map (encE T)) (T.dk k) = dicAt (es.map (encE T)) (T.dk k) := by simp [dicAt, encE, List.find?_cons, key_enc, z']
      have a2 : mget (e :: es) k = mget es k := by simp [mget, List.find?_cons, z]
      rw [a1, a2, ih]
theorem dicPut_enc (es : List (T.κ × Bool)) (k : T.κ) (b : Bool) : dicPut (es.map (encE T)) (T.enc k) (T.dk k) (.bl b) = (mput es k b).map (encE T) := by
  unfold dicPut mput
  rw [dicAt_enc, Option.isSome_map]
  split
  · rw [List.map_map, List.map_map]
    refine List.map_congr_left fun e _ => ?_
    simp only [Function.comp, encE, key_enc]
    by_cases z : e.1 = k
    · simp [z]
    · have z' : ¬ T.dk e.1 = T.dk k := fun q => z (T.inj _ _ q)
      simp [z, z']
  · simp [encE]
theorem dicOf_enc {h : Cells} {m : Nat} {es : List (T.κ × Bool)} (l : m < h.length) : dicOf (h.set m (.dic (es.map (encE T)))) (.obj m) = some (es.map (encE T)) := by
  unfold dicOf
  dsimp only
  rw [List.getElem?_set_self l]
  dsimp only
  rw [if_pos]
  rw [List.all_map, List.all_eq_true]
  exact fun e _ => isTup_enc e.1
theorem mget_none {es : List (T.κ × Bool)} {k : T.κ} : mget es k = none ↔ k ∉ es.map (·.1) := by
  unfold mget
  rw [Option.map_eq_none_iff, List.find?_eq_none]
  simp only [decide_eq_true_eq, List.mem_map, not_exists, not_and]
theorem mget_some {es : List (T.κ × Bool)} {k : T.κ} {b : Bool} (e : mget es k = some b) : (k, b) ∈ es := by
  unfold mget at e
  obtain ⟨x, h1, h2⟩ := Option.map_eq_some_iff.mp e
  have h3 := List.mem_of_find?_eq_some h1
  have h4 := List.find?_some h1
  simp only [decide_eq_true_eq] at h4
  rw [← h4, ← h2]; exact h3
theorem mget_mem : ∀ {es : List (T.κ × Bool)}, (es.map (·.1)).Nodup → ∀ {e}, e ∈ es → mget es e.1 = some e.2
  | [], _, _, m => by cases m
  | x :: es, nd, e, m => by
    rw [List.map_cons, List.nodup_cons] at nd
    rcases List.mem_cons.mp m with rfl | m
    · simp [mget, List.find?_cons]
    · have z : ¬ x.1 = e.1 := fun q => nd.1 (by rw [q]; exact List.mem_map_of_mem m)
      have := mget_mem nd.2 m
      unfold mget at this ⊢
      rw [List.find?_cons]
      simp only [z, decide_false]
      exact this
theorem mput_keys {es : List (T.κ × Bool)} {k : T.κ} {b : Bool} : (mput es k b).map (·.1) = if (mget es k).isSome then es.map (·.1) else es.map (·.1) ++ [k] := by
  unfold mput
  split
  · rw [List.map_map]
    refine List.map_congr_left fun e _ => ?_
    simp only [Function.comp]
    split <;> rfl
  · simp
theorem mput_nd {es : List (T.κ × Bool)} {k : T.κ} {b : Bool} (nd : (es.map (·.1)).Nodup) : ((mput es k b).map (·.1)).Nodup := by
  rw [mput_keys]
  split
  · exact nd
  · rename_i z
    have : mget es k = none := by cases e : mget es k with
      | none => rfl
      | some _ => rw [e] at z; exact absurd rfl z
    rw [mget_none] at this
    rw [List.nodup_append]
    refine ⟨nd, by simp, fun x hx y hy e => ?_⟩
    have : y = k := by simpa using hy
    subst this; subst e
    contradiction
theorem mput_mem {es : List (T.κ × Bool)} {k : T.κ} {b : Bool} {e : T.κ × Bool} (m : e ∈ mput es k b) : (e = (k, b)) ∨ (e ∈ es ∧ e.1 ≠ k) := by
  unfold mput at m
  split at m
  · obtain ⟨x, h1, h2⟩ := List.mem_map.mp m
    by_cases z : x.1 = k
    · rw [if_pos z] at h2
      exact .inl (by rw [← h2, z])
    · rw [if_neg z] at h2
      exact .inr (by rw [← h2]; exact ⟨h1, z⟩)
  · rename_i z
    have hn : mget es k = none := by cases e : mget es k with
      | none => rfl
      | some _ => rw [e] at z; exact absurd rfl z
    rw [mget_none] at hn
    rcases List.mem_append.mp m with m | m
    · exact .inr ⟨m, fun q => hn (by rw [← q]; exact List.mem_map_of_mem m)⟩
    · exact .inl (by simpa using m)
theorem mput_in {es : List (T.κ × Bool)} {k : T.κ} {b : Bool} : (k, b) ∈ mput es k b := by
  unfold mput
  split
  · rename_i z
    obtain ⟨v, hv⟩ := Option.isSome_iff_exists.mp z
    exact List.mem_map.mpr ⟨(k, v), mget_some hv, by simp⟩
  · simp
theorem mput_keep {es : List (T.κ × Bool)} {k : T.κ} {b : Bool} {e : T.κ × Bool} (m : e ∈ es) (n : e.1 ≠ k) : e ∈ mput es k b := by
  unfold mput
  split
  · exact List.mem_map.mpr ⟨e, m, by rw [if_neg n]⟩
  · exact List.mem_append_left _ m
theorem mget_put {es : List (T.κ × Bool)} (nd : (es.map (·.1)).Nodup) {k : T.κ} {b : Bool} : mget (mput es k b) k = some b := mget_mem (mput_nd nd) mput_in
theorem mget_put_ne {es : List (T.κ × Bool)} (nd : (es.map (·.1)).Nodup) {k j : T.κ} {b : Bool} (n : j ≠ k) : mget (mput es k b) j = mget es j := by
  cases e : mget es j with
  | some v => exact mget_mem (mput_nd nd) (e := (j, v)) (mput_keep (mget_some e) n)
  | none =>
    rw [mget_none] at e ⊢
    rw [mput_keys]
    split
    · exact e
    · simp only [List.mem_append, List.mem_singleton, not_or]
      exact ⟨e, n⟩
/-- right up to level l -/
structure Good (l : Nat) (es : List (T.κ × Bool)) : Prop where
  nd : (es.map (·.1)).Nodup
  dom : ∀ e ∈ es, T.dom e.1
  ok : ∀ e ∈ es, T.lv e.1 ≤ l → e.2 = T.φ e.1
def Frame (l : Nat) (es es' : List (T.κ × Bool)) : Prop := ∀ k, l < T.lv k → mget es' k = mget es k
theorem Frame.refl {l : Nat} {es : List (T.κ × Bool)} : Frame l es es := fun _ _ => rfl
theorem Frame.trans {l : Nat} {es es' es'' : List (T.κ × Bool)} (a : Frame l es es') (b : Frame l es' es'') : Frame l es es'' := fun k z => (b k z).trans (a k z)
theorem Frame.mono {l l' : Nat} (h : l ≤ l') {es es' : List (T.κ × Bool)} (a : Frame l es es') : Frame l' es es' := fun k z => a k (by omega)
theorem Good.mono {l l' : Nat} (h : l' ≤ l) {es : List (T.κ × Bool)} (a : Good l es) : Good l' es := ⟨a.nd, a.dom, fun e m z => a.ok e m (by omega)⟩
theorem Good.get {l : Nat} {es : List (T.κ × Bool)} (a : Good l es) {k : T.κ} {b : Bool} (e : mget es k = some b) (z : T.lv k ≤ l) : b = T.φ k := a.ok _ (mget_some e) z
theorem Good.len {l : Nat} {es : List (T.κ × Bool)} (a : Good l es) : es.length ≤ T.N := by
  have h1 : ((es.map (·.1)).map T.code).Nodup := by
    have nd := a.nd
    have hd : ∀ k ∈ es.map (·.1), T.dom k := fun k hk => by
      obtain ⟨e, he, rfl⟩ := List.mem_map.mp hk
      exact a.dom e he
    generalize es.map (·.1) = ks at nd hd
    induction ks with
    | nil => exact List.nodup_nil
    | cons k ks ih =>
      rw [List.nodup_cons] at nd
      rw [List.map_cons, List.nodup_cons]
      refine ⟨fun hm => ?_, ih nd.2 fun j hj => hd j (.tail _ hj)⟩
      obtain ⟨j, hj, e⟩ := List.mem_map.mp hm
      exact nd.1 (T.ci j k (hd j (.tail _ hj)) (hd k (.head _)) e ▸ hj)
  have := nodup_bound T.N _ h1 fun x hx => by
    obtain ⟨k, hk, rfl⟩ := List.mem_map.mp hx
    obtain ⟨e, he, rfl⟩ := List.mem_map.mp hk
    exact T.cb _ (a.dom e he)
  simpa using this
/-- a key's truth is put -/
theorem Good.put {l : Nat} {es : List (T.κ × Bool)} (a : Good l es) {k : T.κ} (d : T.dom k) {b : Bool} (hb : T.lv k ≤ l → b = T.φ k) : Good l (mput es k b) :=
  ⟨mput_nd a.nd, fun e m => by rcases mput_mem m with rfl | ⟨m, _⟩ <;> first | exact d | exact a.dom e m, fun e m z => by
    rcases mput_mem m with rfl | ⟨m, _⟩
    · exact hb z
    · exact a.ok e m z⟩
theorem Frame.put {l : Nat} {es : List (T.κ × Bool)} (nd : (es.map (·.1)).Nodup) {k : T.κ} {b : Bool} (z : T.lv k ≤ l) : Frame l es (mput es k b) := fun j hj => mget_put_ne nd fun e => by subst e; omega
/-- only key k, and what is up to level l, may have changed -/
def FrK (l : Nat) (k : T.κ) (es es' : List (T.κ × Bool)) : Prop := ∀ j, l < T.lv j → j ≠ k → mget es' j = mget es j
theorem FrK.call {l : Nat} {k : T.κ} {es es' es'' : List (T.κ × Bool)} (a : FrK l k es es') (b : Frame l es' es'') : FrK l k es es'' := fun j z n => (b j z).trans (a j z n)
theorem FrK.put {l : Nat} {k : T.κ} {b : Bool} {es es' : List (T.κ × Bool)} (a : FrK l k es es') (nd : (es'.map (·.1)).Nodup) : FrK l k es (mput es' k b) := fun j z n => (mget_put_ne nd n).trans (a j z n)
theorem FrK.refl {l : Nat} {k : T.κ} {es : List (T.κ × Bool)} : FrK l k es es := fun _ _ _ => rfl
theorem FrK.frame {l : Nat} {k : T.κ} {es es' : List (T.κ × Bool)} (a : FrK l k es es') (hk : T.lv k ≤ l + 1) : Frame (l + 1) es es' := fun j z => a j (by omega) fun e => by subst e; omega
theorem FrK.good {l : Nat} {k : T.κ} {es es' : List (T.κ × Bool)} {r : Bool} (a : FrK l k es es') (g : Good (l + 1) es) (g' : Good l es') (h : mget es' k = some r) (hr : r = T.φ k) : Good (l + 1) es' := ⟨g'.nd, g'.dom, fun e me z => by
  have h1 := mget_mem g'.nd me
  by_cases w : e.1 = k
  · rw [w, h] at h1
    rw [w, ← hr]; exact (Option.some.inj h1).symm
  · by_cases w2 : T.lv e.1 ≤ l
    · exact g'.ok e me w2
    · rw [a _ (by omega) w] at h1
      exact g.ok _ (mget_some h1) z⟩
/-- right at all levels -/
structure AllOk (es : List (T.κ × Bool)) : Prop where
  nd : (es.map (·.1)).Nodup
  dom : ∀ e ∈ es, T.dom e.1
  ok : ∀ e ∈ es, e.2 = T.φ e.1
theorem AllOk.good {es : List (T.κ × Bool)} (a : AllOk es) (l : Nat) : Good l es := ⟨a.nd, a.dom, fun e m _ => a.ok e m⟩
theorem AllOk.of {l : Nat} {es es' : List (T.κ × Bool)} (a : AllOk es) (g : Good l es') (f : Frame l es es') : AllOk es' := ⟨g.nd, g.dom, fun e m => by
  by_cases z : T.lv e.1 ≤ l
  · exact g.ok e m z
  · have h1 := mget_mem g.nd m
    rw [f _ (by omega)] at h1
    exact a.ok _ (mget_some h1)⟩
variable (T) in
def memoOf : Memo := ⟨fun kvs => ∃ es : List (T.κ × Bool), kvs = es.map (encE T) ∧ AllOk es, ⟨[], [], rfl, List.nodup_nil, (fun e m => by cases m), (fun e m => by cases m)⟩, fun kvs k p m => by
  obtain ⟨es, rfl, _⟩ := k
  obtain ⟨e, _, rfl⟩ := List.mem_map.mp m
  have := T.low e.1
  exact ⟨⟨this.1, rfl⟩, this.2, rfl⟩⟩
instance : NilM (memoOf T) := ⟨[], rfl, List.nodup_nil, (fun e m => by cases m), (fun e m => by cases m)⟩
/-- the heap with the memo's pairs -/
def hM (m : Nat) (h0 : Cells) (es : List (T.κ × Bool)) : Cells := h0.set m (.dic (es.map (encE T)))
/-- what code that leans on a memo gives: v, whatever the memo holds -/
def Leans (l m : Nat) (h0 : Cells) (run : Cells → R D) (v : D) : Prop := ∀ es : List (T.κ × Bool), Good l es → ∃ es', Good l es' ∧ Frame l es es' ∧ run (hM m h0 es) = .ok v (hM m h0 es')
variable {fn : Fns} {env env1 : Ev} {h h0 h1 : Cells} {m l : Nat} {a b : DE} {es : List (T.κ × Bool)} {k : T.κ}
theorem x_notInM (hl : m < h0.length) (ha : a fn env h = .ok (T.enc k) h1) (hb : b fn env h1 = .ok (.obj m) (hM m h0 es)) : dOp2 dNotInM a b fn env h = .ok (.bl (!(mget es k).isSome)) (hM m h0 es) := by
  rw [e_dOp2, ha, ok_bind, hb, ok_bind]
  unfold dNotInM hM
  rw [dicOf_enc hl, T.ok]
  dsimp only
  rw [dicAt_enc, Option.isSome_map]
theorem x_getM {v : Bool} (hl : m < h0.length) (ha : a fn env h = .ok (.obj m) h1) (hb : b fn env h1 = .ok (T.enc k) (hM m h0 es)) (e : mget es k = some v) : dOp2 dGet a b fn env h = .ok (.bl v) (hM m h0 es) := by
  rw [e_dOp2, ha, ok_bind, hb, ok_bind]
  unfold dGet hM
  rw [dicOf_enc hl, T.ok]
  dsimp only
  rw [dicAt_enc, e]; rfl
theorem g_dic {v : Bool} (hl : m < h0.length) (hs : es.length ≤ 16000000) (ha : a fn env h = .ok (.obj m) h1) (hb : b fn env h1 = .ok (T.enc k) (hM m h0 es)) : gDic a b (.bl v) fn env h = .ok (.nx, env) (hM m h0 (mput es k v)) := by
  unfold gDic
  rw [ha, ok_bind, hb, ok_bind]
  unfold putDic hM
  rw [dicOf_enc hl, T.ok]
  dsimp only
  rw [dicPut_enc, List.set_set, if_neg]
  simp [isBor, szL]; omega
/-- the end of code that leans on a memo -/
def KM (l m : Nat) (h0 : Cells) (es : List (T.κ × Bool)) (n : Nat) (r : Bool) (fl : Fl) (env : Ev) (h : Cells) : Prop := fl = .rt (.bl r) ∧ env.length = n ∧ ∃ es', Good l es' ∧ Frame l es es' ∧ h = hM m h0 es'
theorem b_leans {at_ : Ev → Cells → Option (Nat × Memo)} {ms : DS} {n : Nat} {ds : List D} {v : Bool} (ha : ∀ es : List (T.κ × Bool), at_ (startE n ds) (hM m h0 es) = none)
    (q : ∀ es : List (T.κ × Bool), Good l es → J ms fn (startE n ds) (hM m h0 es) (KM l m h0 es (startE n ds).length) v) : Leans (T := T) l m h0 (bodyF n (sMemo at_ ms) fn ds) (.bl v) := fun es g => by
  obtain ⟨fl, e, h', e1, rfl, _, es', g', f', rfl⟩ := q es g
  refine ⟨es', g', f', ?_⟩
  unfold bodyF sMemo
  rw [ha es]
  dsimp only
  rw [e1]
  rfl
theorem b_memo {at_ : Ev → Cells → Option (Nat × Memo)} {ms : DS} {n : Nat} {ds : List D} {v : Bool} (ha : at_ (startE n ds) h0 = some (m, memoOf T))
    (q : ∀ es : List (T.κ × Bool), Good l es → J ms fn (startE n ds) (hM m h0 es) (KM l m h0 es (startE n ds).length) v) : bodyF n (sMemo at_ ms) fn ds h0 = .ok (.bl v) h0 := by
  have e : sMemo at_ ms fn (startE n ds) h0 = .ok (.rt (.bl v), noEnv (startE n ds)) h0 := by
    unfold sMemo
    rw [ha]
    refine memRun_eq ?_
    rintro kvs ⟨es, rfl, ok⟩
    obtain ⟨fl, e, h', e1, rfl, hn, es', g', f', rfl⟩ := q es (ok.good l)
    exact ⟨_, e, ⟨es', rfl, ok.of g' f'⟩, hn, e1⟩
  unfold bodyF
  rw [e]
  rfl
end
end EV
namespace EV
open PySem L2
def t_is_integer (v : Vl) : Bool := isInt v.1
def ST_is_integer (f : Fn) : Prop := ∀ (v : Vl) h, f [eV v] h = .ok (.bl (t_is_integer v)) h
theorem et_is_integer {fn : Fns} : ST_is_integer (bodyF 1 is_integer_M fn) := fun v h => ev_is_integer v.1 h v.2
theorem s_is_integer {f : Fn} (a : ST_is_integer f) : S_is_integer f := fun v h q => a ⟨v, q⟩ h
def t_is_count (v : Vl) : Bool := isCount v.1
def ST_is_count (f : Fn) : Prop := ∀ (v : Vl) h, f [eV v] h = .ok (.bl (t_is_count v)) h
theorem s_is_count {f : Fn} (a : ST_is_count f) : S_is_count f := fun v h q => a ⟨v, q⟩ h
theorem et_is_count {fn : Fns} {i : Nat} (a : ST_is_integer (fn i)) : ST_is_count (bodyF 1 (is_count_M i) fn) := fun v h => ev_is_count (s_is_integer a) v.1 h v.2
@[simp] theorem t_is_count_int {i : Int} : t_is_count (toV D.int i) = decide (0 ≤ i) := rfl
def t_is_below (v : Vl) (m : Int) : Bool := isBelow v.1 m
def ST_is_below (f : Fn) : Prop := ∀ (v : Vl) (m : Int) h, f [eV v, .int m] h = .ok (.bl (t_is_below v m)) h
theorem et_is_below {fn : Fns} {i : Nat} (a : ST_is_count (fn i)) : ST_is_below (bodyF 2 (is_below_M i) fn) := fun v m h => ev_is_below (s_is_count a) v.1 m h v.2
@[simp] theorem t_is_below_int {i m : Int} : t_is_below (toV D.int i) m = (decide (0 ≤ i) && decide (i < m)) := rfl
@[simp] theorem t_is_integer_int {i : Int} : t_is_integer (toV D.int i) = true := rfl
def t_is_row (v : Vl) (m : Int) : Bool := isRow v.1 m
def ST_is_row (f : Fn) : Prop := ∀ (v : Vl) (m : Int) h, f [eV v, .int m] h = .ok (.bl (t_is_row v m)) h
theorem et_is_row {fn : Fns} : ST_is_row (bodyF 2 is_row_M fn) := fun v m h => ev_is_row v.1 m h v.2
@[simp] theorem t_is_row_T {α : Type} {e : α → D} [PlE (eT e)] {xs : List α} {m : Int} : t_is_row (toV (eT e) xs) m = decide ((xs.length : Int) = m) := by
  show decide (((xs.map e).length : Int) = m) = _
  rw [List.length_map]
end EV
namespace EV
open PySem L2
def power_of_two_l0 : DS := sSet 1 (dOp2 dMul (dVar 1) (dC (.int 2)))
def power_of_two_m : DS := sSeq (sSet 1 (dC (.int 1))) (sSeq (sFor (.name 2) (dRng1 (daCons (dVar 0) (daNil))) power_of_two_l0) (sRet (dVar 1)))
def t_power_of_two (left_0 : Int) : Int := lt ((rangeI left_0).foldl (fun (s_1 : Int) u_2 => lt (s_1 * 2) fun found_3 => found_3) 1) fun s_4 => s_4
def ST_power_of_two (f : Fn) : Prop := ∀ (left_0 : Int), (l1 : left_0 ≤ 1000000) → (l0 : -1000000 ≤ left_0) → ∀ h, f [D.int left_0] h = .ok (D.int (t_power_of_two left_0)) h
theorem et_power_of_two {fn : Fns} : ST_power_of_two (bodyF 3 (power_of_two_m) fn) := by
  intro left_0 l1 l0 h
  refine b_ret (m := power_of_two_m) (V := (fun (r : Int) => (D.int r, h))) (r := t_power_of_two left_0) ?_
  unfold t_power_of_two power_of_two_m
  show J _ fn [.val (D.int left_0), .no, .no] _ _ _
  refine j_seq (z_set (d := D.int 1) x_c rfl rfl rfl) ?_
  refine j_for (E := (fun (s : Int) env h' => h = h' ∧ ∃ (j2 : Sl), [.val (D.int left_0), .val (D.int s), j2] = env)) (P := (fun (_ : Nat) (_ : Int) => True) (0 + (rangeI left_0).length)) (i_rng1 (xa_cons (x_var rfl) xa_nil) (by first | assumption | omega | (dsimp only [lt] at *; omega) | (simp at *; omega) | (simp_all; done) | (simp_all; omega)) (by first | assumption | omega | (dsimp only [lt] at *; omega) | (simp at *; omega) | (simp_all; done) | (simp_all; omega))) (loop_fold (en := D.int) (xs := (rangeI left_0)) (s0 := 1) (fun (s : Int) env h' => h = h' ∧ ∃ (j2 : Sl), [.val (D.int left_0), .val (D.int s), j2] = env) (fun (_ : Nat) (_ : Int) => True) _ 0 trivial ⟨rfl, _, rfl⟩ ?_) ?_
  · rintro i0 u_2 s_1 _ _ hx0 hi0 ⟨rfl, j2, rfl⟩
    have hlt0 := lt_of_get hx0
    have hm0 := List.mem_of_getElem? hx0
    have hr0 := mem_rng hm0
    have hri0 := rng_get hx0
    refine ⟨trivial, [.val (D.int left_0), .val (D.int s_1), .val (D.int u_2)], (p_name rfl rfl rfl), ?_⟩
    unfold power_of_two_l0
    refine j_lt fun found_3 e_found_3 => ?_
    refine j_last (z_set (d := D.int found_3) (by rw [e_found_3]; exact (x_op2 (x_var rfl) x_c (o_mulI (.inr rfl)))) rfl rfl rfl) ?_
    exact ⟨.inl rfl, ⟨rfl, _, rfl⟩⟩
  · rintro s_4 _ _ e_s_4 inv_s_4 ⟨rfl, j2, rfl⟩
    exact j_ret (d := D.int s_4) (x_var rfl) rfl ⟨rfl, rfl⟩
theorem pow2_eq (j : Nat) : t_power_of_two (j : Int) = 2 ^ j := by
  unfold t_power_of_two rangeI
  simp only [lt, Int.toNat_natCast]
  have : ∀ (j : Nat), (nats j).foldl (fun (s : Int) _ => s * 2) 1 = 2 ^ j := fun j => by
    induction j with
    | zero => rfl
    | succ j ih =>
      rw [show nats (j + 1) = nats j ++ [(j : Int)] by simp [nats, List.range_succ], List.foldl_append, ih]
      simp [Int.pow_succ]
  exact this j
end EV
/-! EV76: papers: a word alone, or a word and a value -/
namespace EV
open PySem L2
def eQ {α : Type} (e : α → D) (x : SS × Option α) : D := match x.2 with
  | none => .tup [eS x.1]
  | some a => .tup [eS x.1, e a]
section
variable {α : Type} {e : α → D} {h : Cells} {x : SS × Option α} {a : α}
instance : NB (eQ e) := ⟨fun x => by unfold eQ; split <;> rfl⟩
instance : NNo (eQ e) := ⟨fun x => by unfold eQ; split <;> simp [D.pd]⟩
instance [Low e] : Low (eQ e) := ⟨fun x => by unfold eQ; split <;> simp [lowD, lowDs, Low.low, eS]⟩
instance {n : Nat} [Pd n e] : Pd (n + 1) (eQ e) := ⟨fun x => by
  obtain ⟨s, o⟩ := x
  cases o with
  | none =>
    have : okd (0 + 1) (eP1 eS s) = true := Pd.ok s
    exact okd_le (by omega) this
  | some a =>
    have : okd (max 0 n + 1) (eP2 eS e (s, a)) = true := Pd.ok (s, a)
    exact okd_le (by omega) this, fun {x y p q} h1 h2 => by
  obtain ⟨s, o⟩ := x
  obtain ⟨t, u⟩ := y
  cases o with
  | none => cases u with
    | none =>
      have := Pd.eq (e := eP1 eS) (a := s) (b := t) h1 h2
      rw [this]; simp
    | some b =>
      obtain ⟨ps, e1, rfl⟩ := pd_tup h1
      obtain ⟨qs, e2, rfl⟩ := pd_tup h2
      obtain ⟨p1, r1, a1, b1, rfl⟩ := pds_cons e1
      obtain ⟨q1, s1, c1, d1, rfl⟩ := pds_cons e2
      obtain ⟨q2, s2, c2, d2, rfl⟩ := pds_cons d1
      cases pds_nil b1
      simp [PyData.eqv, PyData.eqvAll]
  | some a => cases u with
    | none =>
      obtain ⟨ps, e1, rfl⟩ := pd_tup h1
      obtain ⟨qs, e2, rfl⟩ := pd_tup h2
      obtain ⟨p1, r1, a1, b1, rfl⟩ := pds_cons e1
      obtain ⟨q1, s1, c1, d1, rfl⟩ := pds_cons e2
      obtain ⟨q2, s2, c2, d2, rfl⟩ := pds_cons b1
      cases pds_nil d1
      simp [PyData.eqv, PyData.eqvAll]
    | some b =>
      have := Pd.eq (e := eP2 eS e) (a := (s, a)) (b := (t, b)) h1 h2
      rw [this]; simp⟩
end
end EV
namespace EV
open PySem L2
def is_left_m (c_is_below : Nat) : DS := sRet (dCall c_is_below 2 0 [.p 0, .p 1] [] (daCons (dVar 0) (daCons (dOp2 dAdd (dC (.int 16)) (dC (.int 1))) (daNil))) (daNil))
def t_is_left (value_0 : Int) : Bool := (t_is_below (toV D.int value_0) (16 + 1))
def ST_is_left (f : Fn) : Prop := ∀ (value_0 : Int), ∀ h, f [D.int value_0] h = .ok (D.bl (t_is_left value_0)) h
theorem et_is_left {fn : Fns} {i_is_below : Nat} (c_is_below : ST_is_below (fn i_is_below)) : ST_is_left (bodyF 1 (is_left_m i_is_below) fn) := by
  intro value_0 h
  refine b_ret (m := is_left_m i_is_below) (V := (fun (r : Bool) => (D.bl r, h))) (r := t_is_left value_0) ?_
  unfold t_is_left is_left_m
  show J _ fn [.val (D.int value_0)] _ _ _
  exact j_ret (d := D.bl (t_is_below (toV D.int value_0) (16 + 1))) (x_call (xa_cons (xv (eV (toV D.int value_0)) (x_var rfl)) (xa_cons (x_op2 x_c x_c rfl) xa_nil)) xa_nil (nb_cons (NB.nb _) (nb_cons rfl nb_nil)) nb_nil rfl rfl rfl (c_is_below (toV D.int value_0) (16 + 1) _)) rfl ⟨rfl, rfl⟩
def lies_of_m : DS := sRet (dOp2 dSub (dOpN cLen (daCons (dVar 0) (daNil))) (dC (.int 1)))
def t_lies_of (counts_0 : (List Int)) : Int := ((counts_0.length : Int) - 1)
def ST_lies_of (f : Fn) : Prop := ∀ (counts_0 : (List Int)), ∀ h, f [(eT D.int) counts_0] h = .ok (D.int (t_lies_of counts_0)) h
theorem et_lies_of {fn : Fns} : ST_lies_of (bodyF 1 (lies_of_m) fn) := by
  intro counts_0 h
  refine b_ret (m := lies_of_m) (V := (fun (r : Int) => (D.int r, h))) (r := t_lies_of counts_0) ?_
  unfold t_lies_of lies_of_m
  show J _ fn [.val ((eT D.int) counts_0)] _ _ _
  exact j_ret (d := D.int ((counts_0.length : Int) - 1)) (x_op2 (x_opN (xa_cons (x_var rfl) xa_nil) (o_lenT (e := D.int))) x_c rfl) rfl ⟨rfl, rfl⟩
def is_settled_of_m : DS := sRet (dOp2 dLe (dOpN cSum (daCons (dVar 0) (daNil))) (dC (.int 1)))
def t_is_settled_of (counts_0 : (List Int)) : Bool := (decide (counts_0.sum ≤ 1))
def ST_is_settled_of (f : Fn) : Prop := ∀ (counts_0 : (List Int)), ∀ h, f [(eT D.int) counts_0] h = .ok (D.bl (t_is_settled_of counts_0)) h
theorem et_is_settled_of {fn : Fns} : ST_is_settled_of (bodyF 1 (is_settled_of_m) fn) := by
  intro counts_0 h
  refine b_ret (m := is_settled_of_m) (V := (fun (r : Bool) => (D.bl r, h))) (r := t_is_settled_of counts_0) ?_
  unfold t_is_settled_of is_settled_of_m
  show J _ fn [.val ((eT D.int) counts_0)] _ _ _
  exact j_ret (d := D.bl (decide (counts_0.sum ≤ 1))) (x_op2 (x_opN (xa_cons (x_var rfl) xa_nil) o_sumT) x_c rfl) rfl ⟨rfl, rfl⟩
def questions_of_l0 : DS := sExtend 3 (asVal (dComp [5] (.name 5) (dRng1 (daCons (dOp2 dAdd (dVar 2) (dC (.int 1))) (daNil))) (dtYes) (dOp2 dAdd (dVar 4) (dTup (daCons (dVar 5) (daNil))))))
def questions_of_l1 : DS := sSeq (sOwn 3 (dDisp (daNil))) (sSeq (sFor (.name 4) (dItems (dVar 1)) questions_of_l0) (sFrz [3] (sSet 1 (dVar 3))))
def questions_of_m : DS := sSeq (sSet 1 (dLst (daCons (dTup (daNil)) (daNil)))) (sSeq (sFor (.name 2) (dItems (dVar 0)) questions_of_l1) (sRet (dVar 1)))
theorem foldl_app {α β : Type} {f : α → List β} : ∀ {xs : List α} {s : List β}, xs.foldl (fun s x => s ++ f x) s = s ++ xs.flatMap f
  | [], s => by simp
  | x :: xs, s => by rw [List.foldl_cons, foldl_app, List.flatMap_cons, List.append_assoc]
def qnext (s : List (List Int)) (u : Int) : List (List Int) := s.flatMap fun b => (rangeI (u + 1)).map fun a => b ++ [a]
theorem qnext_mem {s : List (List Int)} {u : Int} {q : List Int} : q ∈ qnext s u ↔ ∃ b ∈ s, ∃ a, 0 ≤ a ∧ a ≤ u ∧ q = b ++ [a] := by
  unfold qnext
  simp only [List.mem_flatMap, List.mem_map]
  constructor
  · rintro ⟨b, hb, a, ha, rfl⟩
    have := mem_nats.mp ha
    exact ⟨b, hb, a, by omega, by omega, rfl⟩
  · rintro ⟨b, hb, a, a0, a1, rfl⟩
    exact ⟨b, hb, a, mem_nats.mpr ⟨a0, by omega⟩, rfl⟩
theorem qnext_len {s : List (List Int)} {u : Int} : (qnext s u).length = s.length * (u + 1).toNat := by
  unfold qnext
  induction s with
  | nil => simp
  | cons b s ih => rw [List.flatMap_cons, List.length_append, ih, List.length_map, rangeI_len, List.length_cons, Nat.succ_mul]; omega
theorem qs_step {s : List (List Int)} {u : Int} {n : Nat} (h : (∀ q ∈ s, q.length = n) ∧ s.length ≤ 41 ^ n) (hu : 0 ≤ u ∧ u ≤ 40) :
    (∀ q ∈ s.foldl (fun (s_5 : List (List Int)) u_6 => s_5 ++ (rangeI (u + 1)).map fun u_7 => u_6 ++ ([u_7] : List Int)) [], q.length = n + 1) ∧ (s.foldl (fun (s_5 : List (List Int)) u_6 => s_5 ++ (rangeI (u + 1)).map fun u_7 => u_6 ++ ([u_7] : List Int)) []).length ≤ 41 ^ (n + 1) := by
  rw [foldl_app, List.nil_append]
  refine ⟨fun q hq => ?_, ?_⟩
  · obtain ⟨b, hb, a, _, _, rfl⟩ := qnext_mem.mp hq
    simp [h.1 b hb]
  · show (qnext s u).length ≤ _
    rw [qnext_len, Nat.pow_succ]
    exact Nat.mul_le_mul h.2 (by omega)
def t_questions_of (counts_0 : (List Int)) : (List (List Int)) := lt ([([] : List Int)] : List (List Int)) fun found_1 => lt (counts_0.foldl (fun (s_2 : (List (List Int))) u_3 => lt ([] : List (List Int)) fun later_4 => lt (s_2.foldl (fun (s_5 : (List (List Int))) u_6 => (s_5 ++ ((rangeI (u_3 + 1)).map (fun u_7 => (u_6 ++ ([u_7] : List Int)))))) later_4) fun s_8 => s_8) found_1) fun s_9 => s_9
def ST_questions_of (f : Fn) : Prop := ∀ (counts_0 : (List Int)), (lk : counts_0.length ≤ 4) → (nn : ∀ x ∈ counts_0, 0 ≤ x ∧ x ≤ 40) → ∀ h, f [(eT D.int) counts_0] h = .ok ((eL (eT D.int)) (t_questions_of counts_0)) h
theorem et_questions_of {fn : Fns} : ST_questions_of (bodyF 6 (questions_of_m) fn) := by
  intro counts_0 lk nn h
  refine b_ret (m := questions_of_m) (V := (fun (r : (List (List Int))) => ((eL (eT D.int)) r, h))) (r := t_questions_of counts_0) ?_
  unfold t_questions_of questions_of_m
  show J _ fn [.val ((eT D.int) counts_0), .no, .no, .no, .no, .no] _ _ _
  refine j_lt fun found_1 e_found_1 => ?_
  refine j_seq (z_set (d := (eL (eT D.int)) found_1) (by rw [e_found_1]; exact (xv ((eL (eT D.int)) ([([] : List Int)] : List (List Int))) (x_lst (xa_cons (xv ((eT D.int) ([] : List Int)) (x_tup xa_nil nb_nil rfl)) xa_nil) (nb_cons rfl nb_nil) rfl))) rfl rfl rfl) ?_
  refine j_for (E := (fun (s : (List (List Int))) env h' => h = h' ∧ ∃ (j2 : Sl) (j3 : Sl) (j4 : Sl), [.val ((eT D.int) counts_0), .val ((eL (eT D.int)) s), j2, j3, j4, .no] = env)) (P := (fun (i : Nat) (s : (List (List Int))) => (∀ q ∈ s, q.length = i) ∧ s.length ≤ 41 ^ i) (0 + counts_0.length)) (i_T (e := D.int) (xs := counts_0) (x_var rfl)) (loop_fold (en := D.int) (xs := counts_0) (s0 := found_1) (fun (s : (List (List Int))) env h' => h = h' ∧ ∃ (j2 : Sl) (j3 : Sl) (j4 : Sl), [.val ((eT D.int) counts_0), .val ((eL (eT D.int)) s), j2, j3, j4, .no] = env) (fun (i : Nat) (s : (List (List Int))) => (∀ q ∈ s, q.length = i) ∧ s.length ≤ 41 ^ i) _ 0 (by first | assumption | omega | (dsimp only [lt] at *; omega) | (set_option maxHeartbeats 40000 in (simp; done)) | (set_option maxHeartbeats 40000 in (simp; omega)) | (set_option maxHeartbeats 40000 in (simp at *; omega)) | (set_option maxHeartbeats 40000 in (simp_all; done)) | (set_option maxHeartbeats 40000 in (simp_all; omega))) ⟨rfl, _, _, _, rfl⟩ ?_) ?_
  · rintro i0 u_3 s_2 _ _ hx0 hi0 ⟨rfl, j2, j3, j4, rfl⟩
    have hlt0 := lt_of_get hx0
    have hm0 := List.mem_of_getElem? hx0
    have hn0 := nn _ hm0
    have h41 : 41 ^ i0 ≤ 41 ^ 3 := Nat.pow_le_pow_right (by decide) (by omega)
    simp only [Nat.zero_add] at hi0 ⊢
    refine ⟨(by have := qs_step (n := i0) hi0 (nn _ hm0); exact this), [.val ((eT D.int) counts_0), .val ((eL (eT D.int)) s_2), .val (D.int u_3), j3, j4, .no], (p_name rfl rfl rfl), ?_⟩
    unfold questions_of_l1
    refine j_lt fun later_4 e_later_4 => ?_
    refine j_seq (z_own (ds := later_4.map (eT D.int)) (by rw [e_later_4]; exact (fv (([] : List (List Int)).map (eT D.int)) (f_disp xa_nil nb_nil rfl))) rfl rfl) ?_
    refine j_for (E := (fun (s : (List (List Int))) env h' => h = h' ∧ ∃ (j4 : Sl), [.val ((eT D.int) counts_0), .val ((eL (eT D.int)) s_2), .val (D.int u_3), .own (s.map (eT D.int)), j4, .no] = env)) (P := (fun (i : Nat) (s : (List (List Int))) => (∀ q ∈ s, q.length = i0 + 1) ∧ s.length ≤ i * 41) (0 + s_2.length)) (i_L (e := (eT D.int)) (xs := s_2) (x_var rfl)) (loop_fold (en := (eT D.int)) (xs := s_2) (s0 := later_4) (fun (s : (List (List Int))) env h' => h = h' ∧ ∃ (j4 : Sl), [.val ((eT D.int) counts_0), .val ((eL (eT D.int)) s_2), .val (D.int u_3), .own (s.map (eT D.int)), j4, .no] = env) (fun (i : Nat) (s : (List (List Int))) => (∀ q ∈ s, q.length = i0 + 1) ∧ s.length ≤ i * 41) _ 0 (by subst e_later_4; simp) ⟨rfl, _, rfl⟩ ?_) ?_
    · rintro i1 u_6 s_5 _ _ hx1 hi1 ⟨rfl, j4, rfl⟩
      have hlt1 := lt_of_get hx1
      have hm1 := List.mem_of_getElem? hx1
      simp only [Nat.zero_add] at hi1 ⊢
      refine ⟨(by 
              have hn := nn u_3 hm0
              have hq := hi0.1 u_6 hm1
              obtain ⟨g1, g2⟩ := hi1
              refine ⟨fun q hq2 => ?_, ?_⟩
              · rcases List.mem_append.mp hq2 with z | z
                · exact g1 q z
                · obtain ⟨a, _, rfl⟩ := List.mem_map.mp z
                  simp; omega
              · rw [List.length_append, List.length_map, rangeI_len]; omega), [.val ((eT D.int) counts_0), .val ((eL (eT D.int)) s_2), .val (D.int u_3), .own (s_5.map (eT D.int)), .val ((eT D.int) u_6), .no], (p_name rfl rfl rfl), ?_⟩
      unfold questions_of_l0
      refine j_last (z_extend (e := (eT D.int)) (xs := s_5) (ys := ((rangeI (u_3 + 1)).map (fun u_7 => (u_6 ++ ([u_7] : List Int))))) rfl (xv ((eL (eT D.int)) ((rangeI (u_3 + 1)).map (fun u_7 => (u_6 ++ ([u_7] : List Int))))) (x_asVal (f_compM (en := D.int) (ev := (eT D.int)) (fun u_7 => (u_6 ++ ([u_7] : List Int))) (i_rng1 (xa_cons (x_op2 (x_var rfl) x_c rfl) xa_nil) (by first | assumption | omega | (dsimp only [lt] at *; omega) | (set_option maxHeartbeats 40000 in (simp; done)) | (set_option maxHeartbeats 40000 in (simp; omega)) | (set_option maxHeartbeats 40000 in (simp at *; omega)) | (set_option maxHeartbeats 40000 in (simp_all; done)) | (set_option maxHeartbeats 40000 in (simp_all; omega))) (by first | assumption | omega | (dsimp only [lt] at *; omega) | (set_option maxHeartbeats 40000 in (simp; done)) | (set_option maxHeartbeats 40000 in (simp; omega)) | (set_option maxHeartbeats 40000 in (simp at *; omega)) | (set_option maxHeartbeats 40000 in (simp_all; done)) | (set_option maxHeartbeats 40000 in (simp_all; omega)))) (by first | assumption | omega | (dsimp only [lt] at *; omega) | (set_option maxHeartbeats 40000 in (simp; done)) | (set_option maxHeartbeats 40000 in (simp; omega)) | (set_option maxHeartbeats 40000 in (simp at *; omega)) | (set_option maxHeartbeats 40000 in (simp_all; done)) | (set_option maxHeartbeats 40000 in (simp_all; omega))) rfl (fun _ => rfl) fun u_7 hu => have hr := mem_rng hu; ⟨_, (p_name rfl rfl rfl), (x_op2 (x_var rfl) (xv ((eT D.int) ([u_7] : List Int)) (x_tup (xa_cons (x_var rfl) xa_nil) (nb_cons rfl nb_nil) rfl)) (o_addT (e := D.int) (xs := u_6) (ys := ([u_7] : List Int)) (by have := hi0.1 u_6 hm1; simp; omega)))⟩))) (by have := hi1.2; have := hi0.2; rw [List.length_map, rangeI_len]; omega) rfl) ?_
      exact ⟨.inl rfl, ⟨rfl, _, rfl⟩⟩
    · rintro s_8 _ _ e_s_8 inv_s_8 ⟨rfl, j4, rfl⟩
      simp only [Nat.zero_add] at inv_s_8
      refine j_last (z_frz rfl (z_set (d := (eL (eT D.int)) s_8) (x_var rfl) rfl rfl rfl)) ?_
      exact ⟨.inl rfl, ⟨rfl, _, _, _, rfl⟩⟩
  · rintro s_9 _ _ e_s_9 inv_s_9 ⟨rfl, j2, j3, j4, rfl⟩
    simp only [Nat.zero_add] at inv_s_9
    exact j_ret (d := (eL (eT D.int)) s_9) (x_var rfl) rfl ⟨rfl, rfl⟩
def rest_of_m : DS := sRet (dOpN cTuple (daCons (asVal (dComp [2, 3] (.tup [.name 2, .name 3]) (dZipX (daCons (dVar 0) (daCons (dVar 1) (daNil)))) (dtYes) (dOp2 dSub (dVar 2) (dVar 3)))) (daNil)))
def t_rest_of (counts_0 : (List Int)) (question_0 : (List Int)) : (List Int) := ((counts_0.zip question_0).map (fun u_1 => (u_1.1 - u_1.2)))
def ST_rest_of (f : Fn) : Prop := ∀ (counts_0 : (List Int)) (question_0 : (List Int)), (lk : counts_0.length ≤ 100) → ∀ h, f [(eT D.int) counts_0, (eT D.int) question_0] h = .ok ((eT D.int) (t_rest_of counts_0 question_0)) h
theorem et_rest_of {fn : Fns} : ST_rest_of (bodyF 4 (rest_of_m) fn) := by
  intro counts_0 question_0 lk h
  refine b_ret (m := rest_of_m) (V := (fun (r : (List Int)) => ((eT D.int) r, h))) (r := t_rest_of counts_0 question_0) ?_
  unfold t_rest_of rest_of_m
  show J _ fn [.val ((eT D.int) counts_0), .val ((eT D.int) question_0), .no, .no] _ _ _
  exact j_ret (d := (eT D.int) ((counts_0.zip question_0).map (fun u_1 => (u_1.1 - u_1.2)))) (x_opN (xa_cons (xv ((eL D.int) ((counts_0.zip question_0).map (fun u_1 => (u_1.1 - u_1.2)))) (x_asVal (f_compM (en := (eP2 D.int D.int)) (ev := D.int) (fun u_1 => (u_1.1 - u_1.2)) (i_zip (e := D.int) (e' := D.int) (xs := counts_0) (ys := question_0) (xa_cons (x_var rfl) (xa_cons (x_var rfl) xa_nil)) rfl rfl) (by first | assumption | omega | (dsimp only [lt] at *; omega) | (set_option maxHeartbeats 40000 in (simp; done)) | (set_option maxHeartbeats 40000 in (simp; omega)) | (set_option maxHeartbeats 40000 in (simp at *; omega)) | (set_option maxHeartbeats 40000 in (simp_all; done)) | (set_option maxHeartbeats 40000 in (simp_all; omega))) rfl (fun _ => rfl) fun u_1 hu => have hr := mem_zip hu; ⟨_, (p_tup rfl (p_cons (p_name rfl rfl rfl) (p_cons (p_name rfl rfl rfl) p_nil))), (x_op2 (x_var rfl) (x_var rfl) rfl)⟩))) xa_nil) (o_tupL (e := D.int))) rfl ⟨rfl, rfl⟩
def behind_yes_m (c_rest_of : Nat) : DS := sSeq (sSet 2 (dCall c_rest_of 2 0 [.p 0, .p 1] [] (daCons (dVar 0) (daCons (dVar 1) (daNil))) (daNil))) (sRet (dOpN cTuple (daCons (asVal (dComp [3, 4] (.tup [.name 3, .name 4]) (dZipX (daCons (dVar 1) (daCons (dOp2 dAdd (dTup (daCons (dC (.int 0)) (daNil))) (dSlice (dVar 2) (dNoPart) (dPart (dOp1 dNeg (dC (.int 1)))))) (daNil)))) (dtYes) (dOp2 dAdd (dVar 3) (dVar 4)))) (daNil))))
def t_behind_yes (counts_0 : (List Int)) (question_0 : (List Int)) : (List Int) := lt (t_rest_of counts_0 question_0) fun rest_1 => ((question_0.zip (([0] : List Int) ++ (cut rest_1 none (some (-1))))).map (fun u_2 => (u_2.1 + u_2.2)))
def ST_behind_yes (f : Fn) : Prop := ∀ (counts_0 : (List Int)) (question_0 : (List Int)), (lk : counts_0.length ≤ 100) → ∀ h, f [(eT D.int) counts_0, (eT D.int) question_0] h = .ok ((eT D.int) (t_behind_yes counts_0 question_0)) h
theorem et_behind_yes {fn : Fns} {i_rest_of : Nat} (c_rest_of : ST_rest_of (fn i_rest_of)) : ST_behind_yes (bodyF 5 (behind_yes_m i_rest_of) fn) := by
  intro counts_0 question_0 lk h
  refine b_ret (m := behind_yes_m i_rest_of) (V := (fun (r : (List Int)) => ((eT D.int) r, h))) (r := t_behind_yes counts_0 question_0) ?_
  unfold t_behind_yes behind_yes_m
  show J _ fn [.val ((eT D.int) counts_0), .val ((eT D.int) question_0), .no, .no, .no] _ _ _
  refine j_lt fun rest_1 e_rest_1 => ?_
  refine j_seq (z_set (d := (eT D.int) rest_1) (by rw [e_rest_1]; exact (x_call (xa_cons (x_var rfl) (xa_cons (x_var rfl) xa_nil)) xa_nil (nb_cons rfl (nb_cons rfl nb_nil)) nb_nil rfl rfl rfl (c_rest_of counts_0 question_0 (by first | assumption | omega | (dsimp only [lt] at *; omega) | (set_option maxHeartbeats 40000 in (simp; done)) | (set_option maxHeartbeats 40000 in (simp; omega)) | (set_option maxHeartbeats 40000 in (simp at *; omega)) | (set_option maxHeartbeats 40000 in (simp_all; done)) | (set_option maxHeartbeats 40000 in (simp_all; omega))) _))) rfl rfl rfl) ?_
  exact j_ret (d := (eT D.int) ((question_0.zip (([0] : List Int) ++ (cut rest_1 none (some (-1))))).map (fun u_2 => (u_2.1 + u_2.2)))) (x_opN (xa_cons (xv ((eL D.int) ((question_0.zip (([0] : List Int) ++ (cut rest_1 none (some (-1))))).map (fun u_2 => (u_2.1 + u_2.2)))) (x_asVal (f_compM (en := (eP2 D.int D.int)) (ev := D.int) (fun u_2 => (u_2.1 + u_2.2)) (i_zip (e := D.int) (e' := D.int) (xs := question_0) (ys := (([0] : List Int) ++ (cut rest_1 none (some (-1))))) (xa_cons (x_var rfl) (xa_cons (x_op2 (xv ((eT D.int) ([0] : List Int)) (x_tup (xa_cons x_c xa_nil) (nb_cons rfl nb_nil) rfl)) (x_slice (x_var rfl) x_noPart (x_part (x_op1 x_c rfl)) (o_slT (e := D.int) (xs := rest_1))) (o_addT (e := D.int) (xs := ([0] : List Int)) (ys := (cut rest_1 none (some (-1)))) (by simp [e_rest_1, t_rest_of, cut_init]; omega))) xa_nil)) rfl rfl) (by simp [e_rest_1, t_rest_of, cut_init]; omega) rfl (fun _ => rfl) fun u_2 hu => have hr := mem_zip hu; ⟨_, (p_tup rfl (p_cons (p_name rfl rfl rfl) (p_cons (p_name rfl rfl rfl) p_nil))), (x_op2 (x_var rfl) (x_var rfl) rfl)⟩))) xa_nil) (o_tupL (e := D.int))) rfl ⟨rfl, rfl⟩
def behind_no_m (c_behind_yes c_rest_of : Nat) : DS := sRet (dCall c_behind_yes 2 0 [.p 0, .p 1] [] (daCons (dVar 0) (daCons (dCall c_rest_of 2 0 [.p 0, .p 1] [] (daCons (dVar 0) (daCons (dVar 1) (daNil))) (daNil)) (daNil))) (daNil))
def t_behind_no (counts_0 : (List Int)) (question_0 : (List Int)) : (List Int) := (t_behind_yes counts_0 (t_rest_of counts_0 question_0))
def ST_behind_no (f : Fn) : Prop := ∀ (counts_0 : (List Int)) (question_0 : (List Int)), (lk : counts_0.length ≤ 100) → ∀ h, f [(eT D.int) counts_0, (eT D.int) question_0] h = .ok ((eT D.int) (t_behind_no counts_0 question_0)) h
theorem et_behind_no {fn : Fns} {i_behind_yes i_rest_of : Nat} (c_rest_of : ST_rest_of (fn i_rest_of)) (c_behind_yes : ST_behind_yes (fn i_behind_yes)) : ST_behind_no (bodyF 2 (behind_no_m i_behind_yes i_rest_of) fn) := by
  intro counts_0 question_0 lk h
  refine b_ret (m := behind_no_m i_behind_yes i_rest_of) (V := (fun (r : (List Int)) => ((eT D.int) r, h))) (r := t_behind_no counts_0 question_0) ?_
  unfold t_behind_no behind_no_m
  show J _ fn [.val ((eT D.int) counts_0), .val ((eT D.int) question_0)] _ _ _
  exact j_ret (d := (eT D.int) (t_behind_yes counts_0 (t_rest_of counts_0 question_0))) (x_call (xa_cons (x_var rfl) (xa_cons (x_call (xa_cons (x_var rfl) (xa_cons (x_var rfl) xa_nil)) xa_nil (nb_cons rfl (nb_cons rfl nb_nil)) nb_nil rfl rfl rfl (c_rest_of counts_0 question_0 (by first | assumption | omega | (dsimp only [lt] at *; omega) | (set_option maxHeartbeats 40000 in (simp; done)) | (set_option maxHeartbeats 40000 in (simp; omega)) | (set_option maxHeartbeats 40000 in (simp at *; omega)) | (set_option maxHeartbeats 40000 in (simp_all; done)) | (set_option maxHeartbeats 40000 in (simp_all; omega))) _)) xa_nil)) xa_nil (nb_cons rfl (nb_cons rfl nb_nil)) nb_nil rfl rfl rfl (c_behind_yes counts_0 (t_rest_of counts_0 question_0) (by first | assumption | omega | (dsimp only [lt] at *; omega) | (set_option maxHeartbeats 40000 in (simp; done)) | (set_option maxHeartbeats 40000 in (simp; omega)) | (set_option maxHeartbeats 40000 in (simp at *; omega)) | (set_option maxHeartbeats 40000 in (simp_all; done)) | (set_option maxHeartbeats 40000 in (simp_all; omega))) _)) rfl ⟨rfl, rfl⟩
def both_behind_m (c_behind_yes c_behind_no : Nat) : DS := sRet (dTup (daCons (dCall c_behind_yes 2 0 [.p 0, .p 1] [] (daCons (dVar 0) (daCons (dVar 1) (daNil))) (daNil)) (daCons (dCall c_behind_no 2 0 [.p 0, .p 1] [] (daCons (dVar 0) (daCons (dVar 1) (daNil))) (daNil)) (daNil))))
def t_both_behind (counts_0 : (List Int)) (question_0 : (List Int)) : ((List Int) × (List Int)) := ((t_behind_yes counts_0 question_0), (t_behind_no counts_0 question_0))
def ST_both_behind (f : Fn) : Prop := ∀ (counts_0 : (List Int)) (question_0 : (List Int)), (lk : counts_0.length ≤ 100) → ∀ h, f [(eT D.int) counts_0, (eT D.int) question_0] h = .ok ((eP2 (eT D.int) (eT D.int)) (t_both_behind counts_0 question_0)) h
theorem et_both_behind {fn : Fns} {i_behind_yes i_behind_no : Nat} (c_behind_yes : ST_behind_yes (fn i_behind_yes)) (c_behind_no : ST_behind_no (fn i_behind_no)) : ST_both_behind (bodyF 2 (both_behind_m i_behind_yes i_behind_no) fn) := by
  intro counts_0 question_0 lk h
  refine b_ret (m := both_behind_m i_behind_yes i_behind_no) (V := (fun (r : ((List Int) × (List Int))) => ((eP2 (eT D.int) (eT D.int)) r, h))) (r := t_both_behind counts_0 question_0) ?_
  unfold t_both_behind both_behind_m
  show J _ fn [.val ((eT D.int) counts_0), .val ((eT D.int) question_0)] _ _ _
  exact j_ret (d := (eP2 (eT D.int) (eT D.int)) ((t_behind_yes counts_0 question_0), (t_behind_no counts_0 question_0))) (xv ((eP2 (eT D.int) (eT D.int)) ((t_behind_yes counts_0 question_0), (t_behind_no counts_0 question_0))) (x_tup (xa_cons (x_call (xa_cons (x_var rfl) (xa_cons (x_var rfl) xa_nil)) xa_nil (nb_cons rfl (nb_cons rfl nb_nil)) nb_nil rfl rfl rfl (c_behind_yes counts_0 question_0 (by first | assumption | omega | (dsimp only [lt] at *; omega) | (set_option maxHeartbeats 40000 in (simp; done)) | (set_option maxHeartbeats 40000 in (simp; omega)) | (set_option maxHeartbeats 40000 in (simp at *; omega)) | (set_option maxHeartbeats 40000 in (simp_all; done)) | (set_option maxHeartbeats 40000 in (simp_all; omega))) _)) (xa_cons (x_call (xa_cons (x_var rfl) (xa_cons (x_var rfl) xa_nil)) xa_nil (nb_cons rfl (nb_cons rfl nb_nil)) nb_nil rfl rfl rfl (c_behind_no counts_0 question_0 (by first | assumption | omega | (dsimp only [lt] at *; omega) | (set_option maxHeartbeats 40000 in (simp; done)) | (set_option maxHeartbeats 40000 in (simp; omega)) | (set_option maxHeartbeats 40000 in (simp at *; omega)) | (set_option maxHeartbeats 40000 in (simp_all; done)) | (set_option maxHeartbeats 40000 in (simp_all; omega))) _)) xa_nil)) (nb_cons rfl (nb_cons rfl nb_nil)) rfl)) rfl ⟨rfl, rfl⟩
def ways_of_l0 : DS := sSeq (sAug 2 dIAdd (dVar 3)) (sSet 3 (dOp2 dFdiv (dOp2 dMul (dVar 3) (dOp2 dSub (dVar 0) (dVar 4))) (dOp2 dAdd (dVar 4) (dC (.int 1)))))
def ways_of_m : DS := sSeq (sAsg (dTup (daCons (dC (.int 0)) (daCons (dC (.int 1)) (daNil)))) (gTup 2 (gsCons (gName' 2) (gsCons (gName' 3) (gsNil))))) (sSeq (sFor (.name 4) (dRng1 (daCons (dOp2 dAdd (dVar 1) (dC (.int 1))) (daNil))) ways_of_l0) (sRet (dVar 2)))
def t_ways_of (left_0 : Int) (lies_0 : Int) : Int := lt 0 fun found_1 => lt 1 fun term_2 => lt ((rangeI (lies_0 + 1)).foldl (fun (s_3 : (Int × Int)) u_4 => lt (s_3.1 + s_3.2) fun found_5 => lt ((s_3.2 * (left_0 - u_4)) / (u_4 + 1)) fun term_6 => (found_5, term_6)) (found_1, term_2)) fun s_7 => s_7.1
def ST_ways_of (f : Fn) : Prop := ∀ (left_0 : Int) (lies_0 : Int), (l0 : -1000 ≤ left_0) → (l1 : left_0 ≤ 1000) → (k0 : -1000 ≤ lies_0) → (k1 : lies_0 ≤ 1000) → ∀ h, f [D.int left_0, D.int lies_0] h = .ok (D.int (t_ways_of left_0 lies_0)) h
theorem et_ways_of {fn : Fns} : ST_ways_of (bodyF 5 (ways_of_m) fn) := by
  intro left_0 lies_0 l0 l1 k0 k1 h
  refine b_ret (m := ways_of_m) (V := (fun (r : Int) => (D.int r, h))) (r := t_ways_of left_0 lies_0) ?_
  unfold t_ways_of ways_of_m
  show J _ fn [.val (D.int left_0), .val (D.int lies_0), .no, .no, .no] _ _ _
  refine j_lt fun found_1 e_found_1 => ?_
  refine j_lt fun term_2 e_term_2 => ?_
  refine j_seq (z_asg (d := .tup [D.int found_1, D.int term_2]) (x_tup (xa_cons (x := D.int found_1) (by rw [e_found_1]; exact x_c) (xa_cons (x := D.int term_2) (by rw [e_term_2]; exact x_c) xa_nil)) (nb_cons rfl (nb_cons rfl nb_nil)) rfl) rfl (g_tup rfl rfl (g_cons (g_name rfl rfl rfl) (g_cons (g_name rfl rfl rfl) g_nil)))) ?_
  refine j_for (E := (fun (s : (Int × Int)) env h' => h = h' ∧ ∃ (j4 : Sl), [.val (D.int left_0), .val (D.int lies_0), .val (D.int s.1), .val (D.int s.2), j4] = env)) (P := (fun (_ : Nat) (_ : (Int × Int)) => True) (0 + (rangeI (lies_0 + 1)).length)) (i_rng1 (xa_cons (x_op2 (x_var rfl) x_c rfl) xa_nil) (by first | assumption | omega | (dsimp only [lt] at *; omega) | (set_option maxHeartbeats 40000 in (simp; done)) | (set_option maxHeartbeats 40000 in (simp; omega)) | (set_option maxHeartbeats 40000 in (simp at *; omega)) | (set_option maxHeartbeats 40000 in (simp_all; done)) | (set_option maxHeartbeats 40000 in (simp_all; omega))) (by first | assumption | omega | (dsimp only [lt] at *; omega) | (set_option maxHeartbeats 40000 in (simp; done)) | (set_option maxHeartbeats 40000 in (simp; omega)) | (set_option maxHeartbeats 40000 in (simp at *; omega)) | (set_option maxHeartbeats 40000 in (simp_all; done)) | (set_option maxHeartbeats 40000 in (simp_all; omega)))) (loop_fold (en := D.int) (xs := (rangeI (lies_0 + 1))) (s0 := (found_1, term_2)) (fun (s : (Int × Int)) env h' => h = h' ∧ ∃ (j4 : Sl), [.val (D.int left_0), .val (D.int lies_0), .val (D.int s.1), .val (D.int s.2), j4] = env) (fun (_ : Nat) (_ : (Int × Int)) => True) _ 0 trivial ⟨rfl, _, rfl⟩ ?_) ?_
  · rintro i0 u_4 s_3 _ _ hx0 hi0 ⟨rfl, j4, rfl⟩
    have hlt0 := lt_of_get hx0
    have hm0 := List.mem_of_getElem? hx0
    have hr0 := mem_rng hm0
    have hri0 := rng_get hx0
    refine ⟨trivial, [.val (D.int left_0), .val (D.int lies_0), .val (D.int s_3.1), .val (D.int s_3.2), .val (D.int u_4)], (p_name rfl rfl rfl), ?_⟩
    unfold ways_of_l0
    refine j_lt fun found_5 e_found_5 => ?_
    refine j_seq (z_aug (z := D.int found_5) rfl (x_var rfl) (by rw [e_found_5]; rfl) rfl rfl rfl) ?_
    refine j_lt fun term_6 e_term_6 => ?_
    refine j_last (z_set (d := D.int term_6) (by rw [e_term_6]; exact (x_op2 (x_op2 (x_var rfl) (x_op2 (x_var rfl) (x_var rfl) rfl) (o_mulV (by first | assumption | omega | (dsimp only [lt] at *; omega) | (set_option maxHeartbeats 40000 in (simp; done)) | (set_option maxHeartbeats 40000 in (simp; omega)) | (set_option maxHeartbeats 40000 in (simp at *; omega)) | (set_option maxHeartbeats 40000 in (simp_all; done)) | (set_option maxHeartbeats 40000 in (simp_all; omega))))) (x_op2 (x_var rfl) x_c rfl) (o_divI (by first | assumption | omega | (dsimp only [lt] at *; omega) | (set_option maxHeartbeats 40000 in (simp; done)) | (set_option maxHeartbeats 40000 in (simp; omega)) | (set_option maxHeartbeats 40000 in (simp at *; omega)) | (set_option maxHeartbeats 40000 in (simp_all; done)) | (set_option maxHeartbeats 40000 in (simp_all; omega))) (by first | assumption | omega | (dsimp only [lt] at *; omega) | (set_option maxHeartbeats 40000 in (simp; done)) | (set_option maxHeartbeats 40000 in (simp; omega)) | (set_option maxHeartbeats 40000 in (simp at *; omega)) | (set_option maxHeartbeats 40000 in (simp_all; done)) | (set_option maxHeartbeats 40000 in (simp_all; omega)))))) rfl rfl rfl) ?_
    exact ⟨.inl rfl, ⟨rfl, _, rfl⟩⟩
  · rintro s_7 _ _ e_s_7 inv_s_7 ⟨rfl, j4, rfl⟩
    exact j_ret (d := D.int s_7.1) (x_var rfl) rfl ⟨rfl, rfl⟩
def weight_of_m (c_lies_of c_ways_of : Nat) : DS := sSeq (sSet 2 (dCall c_lies_of 1 0 [.p 0] [] (daCons (dVar 0) (daNil)) (daNil))) (sRet (dOpN cSum (daCons (asVal (dComp [3, 4] (.tup [.name 3, .name 4]) (dEnumA (daCons (dVar 0) (daNil))) (dtYes) (dOp2 dMul (dVar 4) (dCall c_ways_of 2 0 [.p 0, .p 1] [] (daCons (dVar 1) (daCons (dOp2 dSub (dVar 2) (dVar 3)) (daNil))) (daNil))))) (daNil))))
def t_weight_of (counts_0 : (List Int)) (left_0 : Int) : Int := lt (t_lies_of counts_0) fun lies_1 => (((enumI counts_0).map (fun u_2 => (u_2.2 * (t_ways_of left_0 (lies_1 - u_2.1))))).sum)
def ST_weight_of (f : Fn) : Prop := ∀ (counts_0 : (List Int)) (left_0 : Int), (l0 : -1000 ≤ left_0) → (l1 : left_0 ≤ 1000) → (lk : counts_0.length ≤ 100) → (nn : ∀ x ∈ counts_0, 0 ≤ x ∧ x ≤ 40) → ∀ h, f [(eT D.int) counts_0, D.int left_0] h = .ok (D.int (t_weight_of counts_0 left_0)) h
theorem et_weight_of {fn : Fns} {i_lies_of i_ways_of : Nat} (c_lies_of : ST_lies_of (fn i_lies_of)) (c_ways_of : ST_ways_of (fn i_ways_of)) : ST_weight_of (bodyF 5 (weight_of_m i_lies_of i_ways_of) fn) := by
  intro counts_0 left_0 l0 l1 lk nn h
  have hl : t_lies_of counts_0 = counts_0.length - 1 := rfl
  refine b_ret (m := weight_of_m i_lies_of i_ways_of) (V := (fun (r : Int) => (D.int r, h))) (r := t_weight_of counts_0 left_0) ?_
  unfold t_weight_of weight_of_m
  show J _ fn [.val ((eT D.int) counts_0), .val (D.int left_0), .no, .no, .no] _ _ _
  refine j_lt fun lies_1 e_lies_1 => ?_
  refine j_seq (z_set (d := D.int lies_1) (by rw [e_lies_1]; exact (x_call (xa_cons (x_var rfl) xa_nil) xa_nil (nb_cons rfl nb_nil) nb_nil rfl rfl rfl (c_lies_of counts_0 _))) rfl rfl rfl) ?_
  exact j_ret (d := D.int (((enumI counts_0).map (fun u_2 => (u_2.2 * (t_ways_of left_0 (lies_1 - u_2.1))))).sum)) (x_opN (xa_cons (xv ((eL D.int) ((enumI counts_0).map (fun u_2 => (u_2.2 * (t_ways_of left_0 (lies_1 - u_2.1)))))) (x_asVal (f_compM (en := (eP2 D.int D.int)) (ev := D.int) (fun u_2 => (u_2.2 * (t_ways_of left_0 (lies_1 - u_2.1)))) (i_enumT (e := D.int) (xs := counts_0) (xa_cons (x_var rfl) xa_nil)) (by first | assumption | omega | (dsimp only [lt] at *; omega) | (set_option maxHeartbeats 40000 in (simp; done)) | (set_option maxHeartbeats 40000 in (simp; omega)) | (set_option maxHeartbeats 40000 in (simp at *; omega)) | (set_option maxHeartbeats 40000 in (simp_all; done)) | (set_option maxHeartbeats 40000 in (simp_all; omega))) rfl (fun _ => rfl) fun u_2 hu => have hr := mem_enm hu; ⟨_, (p_tup rfl (p_cons (p_name rfl rfl rfl) (p_cons (p_name rfl rfl rfl) p_nil))), (x_op2 (x_var rfl) (x_call (xa_cons (x_var rfl) (xa_cons (x_op2 (x_var rfl) (x_var rfl) rfl) xa_nil)) xa_nil (nb_cons rfl (nb_cons rfl nb_nil)) nb_nil rfl rfl rfl (c_ways_of left_0 (lies_1 - u_2.1) (by first | assumption | omega | (dsimp only [lt] at *; omega) | (set_option maxHeartbeats 40000 in (simp; done)) | (set_option maxHeartbeats 40000 in (simp; omega)) | (set_option maxHeartbeats 40000 in (simp at *; omega)) | (set_option maxHeartbeats 40000 in (simp_all; done)) | (set_option maxHeartbeats 40000 in (simp_all; omega))) (by first | assumption | omega | (dsimp only [lt] at *; omega) | (set_option maxHeartbeats 40000 in (simp; done)) | (set_option maxHeartbeats 40000 in (simp; omega)) | (set_option maxHeartbeats 40000 in (simp at *; omega)) | (set_option maxHeartbeats 40000 in (simp_all; done)) | (set_option maxHeartbeats 40000 in (simp_all; omega))) (by first | assumption | omega | (dsimp only [lt] at *; omega) | (set_option maxHeartbeats 40000 in (simp; done)) | (set_option maxHeartbeats 40000 in (simp; omega)) | (set_option maxHeartbeats 40000 in (simp at *; omega)) | (set_option maxHeartbeats 40000 in (simp_all; done)) | (set_option maxHeartbeats 40000 in (simp_all; omega))) (by first | assumption | omega | (dsimp only [lt] at *; omega) | (set_option maxHeartbeats 40000 in (simp; done)) | (set_option maxHeartbeats 40000 in (simp; omega)) | (set_option maxHeartbeats 40000 in (simp at *; omega)) | (set_option maxHeartbeats 40000 in (simp_all; done)) | (set_option maxHeartbeats 40000 in (simp_all; omega))) _)) (o_mulV (by obtain ⟨k, h1, h2⟩ := enum_mem hu; have := nn _ (List.mem_of_getElem? h2); omega)))⟩))) xa_nil) o_sumL) rfl ⟨rfl, rfl⟩
def is_heavy_of_m (c_is_settled_of c_weight_of c_power_of_two : Nat) : DS := sRet (dAnd (dNot (dCall c_is_settled_of 1 0 [.p 0] [] (daCons (dVar 0) (daNil)) (daNil))) (dOp2 dGt (dCall c_weight_of 2 0 [.p 0, .p 1] [] (daCons (dVar 0) (daCons (dVar 1) (daNil))) (daNil)) (dCall c_power_of_two 1 0 [.p 0] [] (daCons (dVar 1) (daNil)) (daNil))))
def t_is_heavy_of (counts_0 : (List Int)) (left_0 : Int) : Bool := ((!(t_is_settled_of counts_0)) && (decide ((t_power_of_two left_0) < (t_weight_of counts_0 left_0))))
def ST_is_heavy_of (f : Fn) : Prop := ∀ (counts_0 : (List Int)) (left_0 : Int), (l0 : -1000 ≤ left_0) → (l1 : left_0 ≤ 1000) → (lk : counts_0.length ≤ 100) → (nn : ∀ x ∈ counts_0, 0 ≤ x ∧ x ≤ 40) → ∀ h, f [(eT D.int) counts_0, D.int left_0] h = .ok (D.bl (t_is_heavy_of counts_0 left_0)) h
theorem et_is_heavy_of {fn : Fns} {i_is_settled_of i_weight_of i_power_of_two : Nat} (c_is_settled_of : ST_is_settled_of (fn i_is_settled_of)) (c_weight_of : ST_weight_of (fn i_weight_of)) (c_power_of_two : ST_power_of_two (fn i_power_of_two)) : ST_is_heavy_of (bodyF 2 (is_heavy_of_m i_is_settled_of i_weight_of i_power_of_two) fn) := by
  intro counts_0 left_0 l0 l1 lk nn h
  refine b_ret (m := is_heavy_of_m i_is_settled_of i_weight_of i_power_of_two) (V := (fun (r : Bool) => (D.bl r, h))) (r := t_is_heavy_of counts_0 left_0) ?_
  unfold t_is_heavy_of is_heavy_of_m
  show J _ fn [.val ((eT D.int) counts_0), .val (D.int left_0)] _ _ _
  exact j_ret (d := D.bl ((!(t_is_settled_of counts_0)) && (decide ((t_power_of_two left_0) < (t_weight_of counts_0 left_0))))) (x_and (x_not (x_call (xa_cons (x_var rfl) xa_nil) xa_nil (nb_cons rfl nb_nil) nb_nil rfl rfl rfl (c_is_settled_of counts_0 _)) tr_bl) fun hc => (x_op2 (x_call (xa_cons (x_var rfl) (xa_cons (x_var rfl) xa_nil)) xa_nil (nb_cons rfl (nb_cons rfl nb_nil)) nb_nil rfl rfl rfl (c_weight_of counts_0 left_0 (by first | assumption | omega | (dsimp only [lt] at *; omega) | (set_option maxHeartbeats 40000 in (simp; done)) | (set_option maxHeartbeats 40000 in (simp; omega)) | (set_option maxHeartbeats 40000 in (simp at *; omega)) | (set_option maxHeartbeats 40000 in (simp_all; done)) | (set_option maxHeartbeats 40000 in (simp_all; omega))) (by first | assumption | omega | (dsimp only [lt] at *; omega) | (set_option maxHeartbeats 40000 in (simp; done)) | (set_option maxHeartbeats 40000 in (simp; omega)) | (set_option maxHeartbeats 40000 in (simp at *; omega)) | (set_option maxHeartbeats 40000 in (simp_all; done)) | (set_option maxHeartbeats 40000 in (simp_all; omega))) (by first | assumption | omega | (dsimp only [lt] at *; omega) | (set_option maxHeartbeats 40000 in (simp; done)) | (set_option maxHeartbeats 40000 in (simp; omega)) | (set_option maxHeartbeats 40000 in (simp at *; omega)) | (set_option maxHeartbeats 40000 in (simp_all; done)) | (set_option maxHeartbeats 40000 in (simp_all; omega))) (by first | assumption | omega | (dsimp only [lt] at *; omega) | (set_option maxHeartbeats 40000 in (simp; done)) | (set_option maxHeartbeats 40000 in (simp; omega)) | (set_option maxHeartbeats 40000 in (simp at *; omega)) | (set_option maxHeartbeats 40000 in (simp_all; done)) | (set_option maxHeartbeats 40000 in (simp_all; omega))) _)) (x_call (xa_cons (x_var rfl) xa_nil) xa_nil (nb_cons rfl nb_nil) nb_nil rfl rfl rfl (c_power_of_two left_0 (by first | assumption | omega | (dsimp only [lt] at *; omega) | (set_option maxHeartbeats 40000 in (simp; done)) | (set_option maxHeartbeats 40000 in (simp; omega)) | (set_option maxHeartbeats 40000 in (simp at *; omega)) | (set_option maxHeartbeats 40000 in (simp_all; done)) | (set_option maxHeartbeats 40000 in (simp_all; omega))) (by first | assumption | omega | (dsimp only [lt] at *; omega) | (set_option maxHeartbeats 40000 in (simp; done)) | (set_option maxHeartbeats 40000 in (simp; omega)) | (set_option maxHeartbeats 40000 in (simp at *; omega)) | (set_option maxHeartbeats 40000 in (simp_all; done)) | (set_option maxHeartbeats 40000 in (simp_all; omega))) _)) rfl)) rfl ⟨rfl, rfl⟩
end EV
/-! EVM_finder: counts, found by the program's going through: the memo of a Finder -/
namespace EV
open PySem L2
/-- found with l questions -/
def fnd : Nat → List Int → Bool
  | 0, c => t_is_settled_of c
  | l + 1, c => t_is_settled_of c || (!t_is_heavy_of c ((l + 1 : Nat) : Int) && (t_questions_of c).any fun q => decide (2 * q.sum ≤ c.sum) && (fnd l (t_both_behind c q).1 && fnd l (t_both_behind c q).2))
abbrev kC (k : List Int × Nat) : D := .tup [.tup (k.1.map D.int), .int k.2]
abbrev kCk (k : List Int × Nat) : NestedKey := .tup [.tup (k.1.map NestedKey.num), .num k.2]
theorem keys_ints : ∀ xs : List Int, D.keys (xs.map D.int) = some (xs.map NestedKey.num)
  | [] => rfl
  | x :: xs => by simp only [List.map_cons, D.keys, D.key, keys_ints xs]
theorem depth_ints : ∀ xs : List Int, NestedKey.depthAll (xs.map NestedKey.num) = 0
  | [] => rfl
  | x :: xs => by simp only [List.map_cons, NestedKey.depthAll, NestedKey.depth, depth_ints xs]; rfl
theorem kC_ok (k : List Int × Nat) : dicKey (kC k) = some (kCk k) := by
  have e : D.key (kC k) = some (kCk k) := by
    simp only [kC, D.key, D.keys, keys_ints, Option.map_some]
  have d : (kCk k).depth ≤ 8 := by
    simp only [kCk, NestedKey.depth, NestedKey.depthAll, depth_ints]; decide
  show (match D.key (.tup _) with
    | some k => if k.depth ≤ 8 then some k else none
    | none => none) = _
  rw [e]
  dsimp only
  rw [if_pos d]
theorem num_inj : ∀ {a b : List Int}, a.map NestedKey.num = b.map NestedKey.num → a = b
  | [], [], _ => rfl
  | [], _ :: _, e => by simp at e
  | _ :: _, [], e => by simp at e
  | x :: xs, y :: ys, e => by
    simp only [List.map_cons, List.cons.injEq, NestedKey.num.injEq] at e
    rw [e.1, num_inj e.2]
theorem kC_inj (a b : List Int × Nat) (e : kCk a = kCk b) : a = b := by
  obtain ⟨a1, a2⟩ := a
  obtain ⟨b1, b2⟩ := b
  simp only [kCk, NestedKey.tup.injEq, List.cons.injEq, NestedKey.num.injEq, and_true] at e
  rw [num_inj e.1, show a2 = b2 by omega]
theorem noLsts_ints : ∀ xs : List Int, noLsts (xs.map D.int) = true
  | [] => rfl
  | x :: xs => by rw [List.map_cons, noLsts, noLsts_ints]; rfl
theorem kC_low (k : List Int × Nat) : lowD 0 (kC k) = true ∧ noLst (kC k) = true := by
  simp [kC, lowD, lowDs, noLst, noLsts, noLsts_ints, lowDs_map]
def cdL : List Int → Nat
  | [] => 0
  | x :: xs => (x + 1).toNat + 22 * cdL xs
theorem cdL_lt : ∀ {xs : List Int}, (∀ x ∈ xs, 0 ≤ x ∧ x ≤ 20) → cdL xs < 22 ^ xs.length
  | [], _ => by decide
  | x :: xs, h => by
    have := cdL_lt (xs := xs) fun y m => h y (.tail _ m)
    have := h x (.head _)
    simp only [cdL, List.length_cons, Nat.pow_succ]
    omega
theorem cdL_inj : ∀ {xs ys : List Int}, (∀ x ∈ xs, 0 ≤ x ∧ x ≤ 20) → (∀ x ∈ ys, 0 ≤ x ∧ x ≤ 20) → cdL xs = cdL ys → xs = ys
  | [], [], _, _, _ => rfl
  | [], y :: ys, _, h, e => by have := h y (.head _); simp only [cdL] at e; omega
  | x :: xs, [], h, _, e => by have := h x (.head _); simp only [cdL] at e; omega
  | x :: xs, y :: ys, h, g, e => by
    have h1 := h x (.head _)
    have g1 := g y (.head _)
    simp only [cdL] at e
    rw [cdL_inj (fun z m => h z (.tail _ m)) (fun z m => g z (.tail _ m)) (by omega), show x = y by omega]
/-- counts as a Finder meets them -/
structure COk (c : List Int) : Prop where
  l1 : 1 ≤ c.length
  l4 : c.length ≤ 4
  nn : ∀ x ∈ c, 0 ≤ x
  sm : c.sum ≤ 20
theorem sum_n0 : ∀ {c : List Int}, (∀ x ∈ c, 0 ≤ x) → 0 ≤ c.sum
  | [], _ => by simp
  | x :: xs, h => by
    have := sum_n0 (c := xs) fun y m => h y (.tail _ m)
    have := h x (.head _)
    rw [List.sum_cons]; omega
theorem mem_le_sum : ∀ {c : List Int}, (∀ x ∈ c, 0 ≤ x) → ∀ x ∈ c, x ≤ c.sum
  | y :: ys, h, x, m => by
    have n1 := sum_n0 (c := ys) fun z q => h z (.tail _ q)
    have n2 := h y (.head _)
    rw [List.sum_cons]
    rcases List.mem_cons.mp m with rfl | m
    · omega
    · have := mem_le_sum (c := ys) (fun z q => h z (.tail _ q)) x m; omega
theorem COk.bd {c : List Int} (o : COk c) : ∀ x ∈ c, 0 ≤ x ∧ x ≤ 20 := fun x m => ⟨o.nn x m, by have := mem_le_sum o.nn x m; have := o.sm; omega⟩
def TC : MT where
  κ := List Int × Nat
  enc := kC
  dk := kCk
  ok := kC_ok
  inj := kC_inj
  low := kC_low
  φ := fun k => fnd k.2 k.1
  lv := fun k => k.2
  dom := fun k => COk k.1 ∧ k.2 ≤ 16
  code := fun k => cdL k.1 * 17 + k.2
  N := 4000000
  hN := by decide
  cb := fun k ⟨h1, h2⟩ => by
    have a := cdL_lt h1.bd
    have b : 22 ^ k.1.length ≤ 22 ^ 4 := Nat.pow_le_pow_right (by decide) h1.l4
    have : cdL k.1 < 234256 := Nat.lt_of_lt_of_le a b
    omega
  ci := fun a b ⟨h1, h2⟩ ⟨g1, g2⟩ e => by
    obtain ⟨a1, a2⟩ := a
    obtain ⟨b1, b2⟩ := b
    dsimp only at *
    rw [cdL_inj h1.bd g1.bd (by omega), show a2 = b2 by omega]
def M_finder : Memo := memoOf TC
instance : NilM M_finder := inferInstanceAs (NilM (memoOf TC))
end EV
/-! EV82: counts and questions, plain -/
namespace EV
open PySem L2
/-- q asks of counts c -/
inductive QOk : List Int → List Int → Prop
  | nil : QOk [] []
  | cons {x a : Int} {c q : List Int} : 0 ≤ a → a ≤ x → QOk c q → QOk (x :: c) (a :: q)
theorem qs_mem : ∀ {c : List Int} {S : List (List Int)} {q : List Int}, q ∈ c.foldl qnext S ↔ ∃ b ∈ S, ∃ r, q = b ++ r ∧ QOk c r
  | [], S, q => by
    rw [List.foldl_nil]
    constructor
    · exact fun h => ⟨q, h, [], by simp, .nil⟩
    · rintro ⟨b, hb, r, rfl, hr⟩
      cases hr; simpa using hb
  | x :: c, S, q => by
    rw [List.foldl_cons, qs_mem]
    constructor
    · rintro ⟨b, hb, r, rfl, hr⟩
      obtain ⟨b', hb', a, a0, a1, rfl⟩ := qnext_mem.mp hb
      exact ⟨b', hb', a :: r, by simp, .cons a0 a1 hr⟩
    · rintro ⟨b, hb, r, rfl, hr⟩
      cases hr with
      | cons a0 a1 hr => exact ⟨_, qnext_mem.mpr ⟨b, hb, _, a0, a1, rfl⟩, _, by simp, hr⟩
theorem questions_eq (c : List Int) : t_questions_of c = c.foldl qnext [[]] := by
  unfold t_questions_of
  simp only [lt]
  congr 1
  funext s u
  rw [foldl_app, List.nil_append]; rfl
theorem mem_questions {c q : List Int} : q ∈ t_questions_of c ↔ QOk c q := by
  rw [questions_eq, qs_mem]
  constructor
  · rintro ⟨b, hb, r, rfl, hr⟩
    rw [List.mem_singleton] at hb
    subst hb; exact hr
  · exact fun h => ⟨[], by simp, q, by simp, h⟩
theorem QOk.len {c q : List Int} (h : QOk c q) : q.length = c.length := by
  induction h with
  | nil => rfl
  | cons _ _ _ ih => simp [ih]
theorem QOk.nn {c q : List Int} (h : QOk c q) : ∀ x ∈ q, 0 ≤ x := by
  induction h with
  | nil => intro x m; cases m
  | cons a0 _ _ ih =>
    intro x m
    rcases List.mem_cons.mp m with rfl | m
    · exact a0
    · exact ih x m
theorem QOk.rest {c q : List Int} (h : QOk c q) : QOk c (t_rest_of c q) ∧ (t_rest_of c q).sum = c.sum - q.sum := by
  have e : t_rest_of c q = (c.zip q).map fun u => u.1 - u.2 := rfl
  rw [e]
  induction h with
  | nil => exact ⟨.nil, rfl⟩
  | @cons x a c q a0 a1 h ih =>
    have ih := ih rfl
    rw [List.zip_cons_cons, List.map_cons]
    refine ⟨.cons (by dsimp only; omega) (by dsimp only; omega) ih.1, ?_⟩
    simp only [List.sum_cons]
    rw [ih.2]; omega
theorem sum_zip_add : ∀ {a b : List Int}, a.length = b.length → ((a.zip b).map fun u => u.1 + u.2).sum = a.sum + b.sum
  | [], [], _ => rfl
  | x :: a, y :: b, h => by
    have := sum_zip_add (a := a) (b := b) (by simpa using h)
    simp only [List.zip_cons_cons, List.map_cons, List.sum_cons, this]; omega
theorem dropLast_sum : ∀ {a : List Int}, (∀ x ∈ a, 0 ≤ x) → a.dropLast.sum ≤ a.sum
  | [], _ => by simp
  | [x], h => by have := h x (.head _); simp; omega
  | x :: y :: a, h => by
    have := dropLast_sum (a := y :: a) fun z m => h z (.tail _ m)
    rw [List.dropLast_cons₂, List.sum_cons, List.sum_cons]; omega
theorem yes_eq (c q : List Int) : t_behind_yes c q = (q.zip (0 :: (t_rest_of c q).dropLast)).map fun u => u.1 + u.2 := by
  unfold t_behind_yes
  simp only [lt, cut_init]
  rfl
/-- counts behind -/
theorem yes_ok {c q : List Int} (o : COk c) (h : QOk c q) : COk (t_behind_yes c q) ∧ (t_behind_yes c q).length = c.length := by
  obtain ⟨r1, r2⟩ := h.rest
  have hl : (t_rest_of c q).length = c.length := r1.len
  have l1 := o.l1
  have l4 := o.l4
  rw [yes_eq]
  have hlen : q.length = (0 :: (t_rest_of c q).dropLast).length := by
    rw [List.length_cons, List.length_dropLast, hl, h.len]; omega
  have hz : ((q.zip (0 :: (t_rest_of c q).dropLast)).map fun u => u.1 + u.2).length = c.length := by
    rw [List.length_map, List.length_zip, ← hlen, Nat.min_self, h.len]
  refine ⟨⟨by omega, by omega, fun x m => ?_, ?_⟩, hz⟩
  · obtain ⟨u, hu, rfl⟩ := List.mem_map.mp m
    obtain ⟨m1, m2⟩ := List.of_mem_zip (a := u.1) (b := u.2) hu
    have := h.nn _ m1
    rcases List.mem_cons.mp m2 with e | m2
    · omega
    · have := r1.nn _ (List.dropLast_subset _ m2); omega
  · rw [sum_zip_add hlen, List.sum_cons]
    have := dropLast_sum r1.nn
    have := o.sm
    omega
theorem both_ok {c q : List Int} (o : COk c) (h : QOk c q) : COk (t_both_behind c q).1 ∧ COk (t_both_behind c q).2 := ⟨(yes_ok o h).1, (yes_ok o h.rest.1).1⟩
theorem COk.bd40 {c : List Int} (o : COk c) : ∀ x ∈ c, 0 ≤ x ∧ x ≤ 40 := fun x m => by have := o.bd x m; omega
end EV
/-! EV86: weights; what is found is not heavy -/
namespace EV
open PySem L2
theorem ways_all : ∀ l : Fin 17, ∀ k : Fin 4, t_ways_of (l.val : Int) (k.val : Int) = W l.val k.val := by decide +kernel
theorem ways_W {l k : Nat} (hl : l ≤ 16) (hk : k ≤ 3) : t_ways_of (l : Int) (k : Int) = W l k := ways_all ⟨l, by omega⟩ ⟨k, by omega⟩
theorem weight_go {l : Nat} (hl : l ≤ 16) : ∀ (c : List Int) (i : Nat) (L : Int), c.length ≤ 4 → L = i + c.length - 1 → ((enumF (i : Int) c).map fun u => u.2 * t_ways_of (l : Int) (L - u.1)).sum = Wt c l
  | [], _, _, _, _ => rfl
  | x :: c, i, L, h4, hL => by
    have h5 : c.length ≤ 3 := by simpa using h4
    rw [enumF, List.map_cons, List.sum_cons, Wt_cons]
    have e : L - (i : Int) = (c.length : Nat) := by rw [hL, List.length_cons]; push_cast; omega
    dsimp only
    rw [e, ways_W hl h5]
    have := weight_go hl c (i + 1) L (by omega) (by rw [hL, List.length_cons]; push_cast; omega)
    push_cast at this
    rw [this]
theorem weight_eq {l : Nat} {c : List Int} (hl : l ≤ 16) (h4 : c.length ≤ 4) : t_weight_of c (l : Int) = Wt c l := by
  unfold t_weight_of t_lies_of
  simp only [lt]
  exact weight_go hl c 0 _ h4 (by push_cast; omega)
theorem heavy_eq {l : Nat} {c : List Int} (hl : l ≤ 16) (h4 : c.length ≤ 4) : t_is_heavy_of c (l : Int) = Hv c l := by
  unfold t_is_heavy_of t_is_settled_of Hv
  rw [weight_eq hl h4, pow2_eq]
  congr 1
  by_cases h : c.sum ≤ 1
  · have : ¬ 1 < c.sum := by omega
    simp [h, this]
  · have : 1 < c.sum := by omega
    simp [h, this]
theorem rest_same {c q : List Int} : t_rest_of c q = rest c q := by
  show (c.zip q).map (fun u => u.1 - u.2) = List.zipWith _ c q
  rw [List.zip_eq_zipWith, List.map_zipWith]
theorem yes_same {c q : List Int} : t_behind_yes c q = yes c q := by
  rw [yes_eq, rest_same]
  unfold yes
  rw [List.zip_eq_zipWith, List.map_zipWith]
theorem both_same {c q : List Int} : t_both_behind c q = (yes c q, no c q) := by
  show (t_behind_yes c q, t_behind_yes c (t_rest_of c q)) = _
  rw [yes_same, yes_same, rest_same]; rfl
/-- what is found is not heavy -/
theorem fnd_light : ∀ {l : Nat} {c : List Int}, COk c → l ≤ 16 → fnd l c = true → Hv c l = false
  | 0, c, o, _, h => by
    have h : t_is_settled_of c = true := h
    unfold t_is_settled_of at h
    have : ¬ 1 < c.sum := by simpa using h
    simp [Hv, this]
  | l + 1, c, o, hl, h => by
    rw [fnd] at h
    rcases Bool.or_eq_true _ _ ▸ h with h | h
    · unfold t_is_settled_of at h
      have : ¬ 1 < c.sum := by simpa using h
      simp [Hv, this]
    · rw [Bool.and_eq_true] at h
      have := h.1
      rw [heavy_eq hl o.l4] at this
      simpa using this
/-- what is heavy has no good question -/
theorem heavy_bad {l : Nat} {c q : List Int} (o : COk c) (hq : QOk c q) (hl : l + 1 ≤ 16) (hv : Hv c (l + 1) = true) : (fnd l (t_both_behind c q).1 && fnd l (t_both_behind c q).2) = false := by
  rw [Bool.eq_false_iff]
  intro h
  rw [Bool.and_eq_true] at h
  obtain ⟨o1, o2⟩ := both_ok o hq
  have h1 := fnd_light o1 (by omega) h.1
  have h2 := fnd_light o2 (by omega) h.2
  have w1 := hv_mono o1.nn o1.l4 h1
  have w2 := hv_mono o2.nn o2.l4 h2
  rw [both_same] at w1 w2
  have w := wt_both (qs := q) (ns := c) l hq.len
  unfold Hv at hv
  simp only [Bool.and_eq_true, decide_eq_true_eq] at hv
  rw [Int.pow_succ] at hv
  dsimp only at w1 w2
  omega
/-- found, without a look at weights -/
theorem fnd_plain {l : Nat} {c : List Int} (o : COk c) (hl : l + 1 ≤ 16) : fnd (l + 1) c = (t_is_settled_of c || (t_questions_of c).any fun q => decide (2 * q.sum ≤ c.sum) && (fnd l (t_both_behind c q).1 && fnd l (t_both_behind c q).2)) := by
  rw [fnd]
  cases hh : t_is_heavy_of c ((l + 1 : Nat) : Int) with
  | false => rfl
  | true =>
    rw [heavy_eq hl o.l4] at hh
    have : ((t_questions_of c).any fun q => decide (2 * q.sum ≤ c.sum) && (fnd l (t_both_behind c q).1 && fnd l (t_both_behind c q).2)) = false := by
      rw [List.any_eq_false]
      intro q hq
      rw [heavy_bad o (mem_questions.mp hq) hl hh]
      simp
    rw [this]; rfl
end EV
/-! EV87: what is found stays found: one question more, a thing with one wrong answer more, a thing less, a lie less -/
namespace EV
open PySem L2
theorem rest_back {c q : List Int} (h : QOk c q) : t_rest_of c (t_rest_of c q) = q := by
  have e : ∀ q, t_rest_of c q = (c.zip q).map fun u => u.1 - u.2 := fun _ => rfl
  induction h with
  | nil => rfl
  | @cons x a c q a0 a1 h ih =>
    have ih := ih fun _ => rfl
    show (x - (x - a)) :: t_rest_of c (t_rest_of c q) = _
    rw [ih, show x - (x - a) = a by omega]
theorem fnd_settled {l : Nat} {c : List Int} (h : c.sum ≤ 1) : fnd l c = true := by
  have : t_is_settled_of c = true := by unfold t_is_settled_of; simpa using h
  cases l <;> simp [fnd, this]
/-- a good question, whatever it asks for -/
theorem fnd_good {l : Nat} {c q : List Int} (o : COk c) (hl : l + 1 ≤ 16) (h : QOk c q) (y : fnd l (t_behind_yes c q) = true) (n : fnd l (t_behind_no c q) = true) : fnd (l + 1) c = true := by
  rw [fnd_plain o hl]
  by_cases z : 2 * q.sum ≤ c.sum
  · rw [show ((t_questions_of c).any fun q => decide (2 * q.sum ≤ c.sum) && (fnd l (t_both_behind c q).1 && fnd l (t_both_behind c q).2)) = true from List.any_eq_true.mpr ⟨q, mem_questions.mpr h, by simp [z, t_both_behind, y, n]⟩, Bool.or_true]
  · obtain ⟨r1, r2⟩ := h.rest
    have z2 : 2 * (t_rest_of c q).sum ≤ c.sum := by omega
    have n2 : fnd l (t_behind_no c (t_rest_of c q)) = true := by
      show fnd l (t_behind_yes c (t_rest_of c (t_rest_of c q))) = true
      rw [rest_back h]; exact y
    rw [show ((t_questions_of c).any fun q => decide (2 * q.sum ≤ c.sum) && (fnd l (t_both_behind c q).1 && fnd l (t_both_behind c q).2)) = true from List.any_eq_true.mpr ⟨t_rest_of c q, mem_questions.mpr r1, by
      simp only [Bool.and_eq_true, decide_eq_true_eq]
      exact ⟨z2, n, n2⟩⟩, Bool.or_true]
theorem fnd_iff {l : Nat} {c : List Int} (o : COk c) (hl : l + 1 ≤ 16) : fnd (l + 1) c = true ↔ c.sum ≤ 1 ∨ ∃ q, QOk c q ∧ fnd l (t_behind_yes c q) = true ∧ fnd l (t_behind_no c q) = true := by
  constructor
  · intro h
    rw [fnd_plain o hl] at h
    rcases Bool.or_eq_true _ _ ▸ h with h | h
    · exact .inl (by simpa [t_is_settled_of] using h)
    · obtain ⟨q, hq, z⟩ := List.any_eq_true.mp h
      simp only [Bool.and_eq_true] at z
      exact .inr ⟨q, mem_questions.mp hq, z.2.1, z.2.2⟩
  · rintro (h | ⟨q, hq, y, n⟩)
    · exact fnd_settled h
    · exact fnd_good o hl hq y n
theorem no_ok {c q : List Int} (o : COk c) (h : QOk c q) : COk (t_behind_no c q) ∧ (t_behind_no c q).length = c.length := yes_ok o h.rest.1
/-- a thing has one wrong answer more, or is gone with its last -/
inductive Mv : List Int → List Int → Prop
  | last {x : Int} : 0 < x → Mv [x] [x - 1]
  | here {x y : Int} {t : List Int} : 0 < x → Mv (x :: y :: t) ((x - 1) :: (y + 1) :: t)
  | skip {x : Int} {c d : List Int} : Mv c d → Mv (x :: c) (x :: d)
theorem Mv.len {c d : List Int} (h : Mv c d) : d.length = c.length := by
  induction h with
  | last => rfl
  | here => rfl
  | skip _ ih => simp [ih]
theorem Mv.sum {c d : List Int} (h : Mv c d) : d.sum ≤ c.sum := by
  induction h with
  | last => simp; omega
  | here => simp; omega
  | skip _ ih => simp; omega
theorem Mv.nn {c d : List Int} (h : Mv c d) : (∀ x ∈ c, 0 ≤ x) → ∀ x ∈ d, 0 ≤ x := by
  induction h with
  | @last w p =>
    intro _ x m
    have : x = w - 1 := by simpa using m
    omega
  | @here x y t p =>
    intro k z m
    have := k y (by simp)
    simp only [List.mem_cons] at m
    rcases m with rfl | rfl | m
    · omega
    · omega
    · exact k z (by simp [m])
  | @skip x c d h ih =>
    intro k z m
    rcases List.mem_cons.mp m with rfl | m
    · exact k z (.head _)
    · exact ih (fun y hy => k y (.tail _ hy)) z m
theorem Mv.ok {c d : List Int} (h : Mv c d) (o : COk c) : COk d := ⟨by rw [h.len]; exact o.l1, by rw [h.len]; exact o.l4, h.nn o.nn, Int.le_trans h.sum o.sm⟩
/-- a question of what is easier -/
theorem Mv.qs {c d : List Int} (h : Mv c d) : ∀ {q : List Int}, QOk c q → ∃ q', QOk d q' ∧ (Mv q q' ∧ t_rest_of d q' = t_rest_of c q ∨ q' = q ∧ Mv (t_rest_of c q) (t_rest_of d q')) := by
  have e : ∀ c q, t_rest_of c q = (c.zip q).map fun u => u.1 - u.2 := fun _ _ => rfl
  induction h with
  | @last x p =>
    intro q hq
    cases hq with
    | @cons _ a _ q a0 a1 hq =>
    cases hq
    by_cases z : 0 < a
    · refine ⟨[a - 1], .cons (by omega) (by omega) .nil, .inl ⟨.last z, ?_⟩⟩
      rw [e, e]; simp; omega
    · have a0 : a = 0 := by omega
      subst a0
      refine ⟨[0], .cons (by omega) (by omega) .nil, .inr ⟨rfl, ?_⟩⟩
      rw [e, e]
      have := Mv.last (x := x - 0) (by omega)
      simpa using this
  | @here x y t p =>
    intro q hq
    cases hq with
    | @cons _ a _ q a0 a1 hq =>
    cases hq with
    | @cons _ b _ r b0 b1 hq =>
    by_cases z : 0 < a
    · refine ⟨(a - 1) :: (b + 1) :: r, .cons (by omega) (by omega) (.cons (by omega) (by omega) hq), .inl ⟨.here z, ?_⟩⟩
      rw [e, e]; simp; omega
    · have a0 : a = 0 := by omega
      subst a0
      refine ⟨0 :: b :: r, .cons (by omega) (by omega) (.cons (by omega) (by omega) hq), .inr ⟨rfl, ?_⟩⟩
      rw [e, e]
      have := Mv.here (x := x) (y := y - b) (t := (t.zip r).map fun u => u.1 - u.2) p
      simp only [List.zip_cons_cons, List.map_cons]
      rw [show x - 0 = x by omega, show x - 1 - 0 = x - 1 by omega, show y + 1 - b = y - b + 1 by omega]
      exact this
  | @skip x c d h ih =>
    intro q hq
    cases hq with
    | @cons _ a _ q a0 a1 hq =>
    obtain ⟨q', h1, h2⟩ := ih hq
    refine ⟨a :: q', .cons a0 a1 h1, ?_⟩
    have f : ∀ c q : List Int, t_rest_of (x :: c) (a :: q) = (x - a) :: t_rest_of c q := fun _ _ => rfl
    rcases h2 with ⟨m, r⟩ | ⟨m, r⟩
    · exact .inl ⟨.skip m, by rw [f, f, r]⟩
    · exact .inr ⟨by rw [m], by rw [f, f]; exact .skip r⟩
def addL (a b : List Int) : List Int := (a.zip b).map fun u => u.1 + u.2
theorem addL_cons (x y : Int) (a b : List Int) : addL (x :: a) (y :: b) = (x + y) :: addL a b := rfl
theorem addL_comm : ∀ a b : List Int, addL a b = addL b a
  | [], [] => rfl
  | [], _ :: _ => rfl
  | _ :: _, [] => rfl
  | x :: a, y :: b => by rw [addL_cons, addL_cons, addL_comm a b, Int.add_comm]
theorem Mv.add {c d : List Int} (h : Mv c d) : ∀ {s : List Int}, s.length = c.length → (∀ x ∈ s, 0 ≤ x) → Mv (addL c s) (addL d s) := by
  induction h with
  | @last x p =>
    intro s hs k
    match s, hs with
    | [a], _ =>
      have := k a (.head _)
      have z := Mv.last (x := x + a) (by omega)
      rw [show x + a - 1 = x - 1 + a by omega] at z
      exact z
  | @here x y t p =>
    intro s hs k
    match s, hs with
    | a :: b :: s, _ =>
      have := k a (.head _)
      have z := Mv.here (x := x + a) (y := y + b) (t := addL t s) (by omega)
      rw [show x + a - 1 = x - 1 + a by omega, show y + b + 1 = y + 1 + b by omega] at z
      exact z
  | @skip x c d h ih =>
    intro s hs k
    match s, hs with
    | a :: s, hs => exact .skip (ih (by simpa using hs) fun z m => k z (.tail _ m))
/-- shifted: the last is gone -/
theorem Mv.shift {c d : List Int} (h : Mv c d) : ∀ z : Int, z :: c.dropLast = z :: d.dropLast ∨ Mv (z :: c.dropLast) (z :: d.dropLast) := by
  induction h with
  | @last x p => exact fun z => .inl rfl
  | @here x y t p =>
    intro z
    cases t with
    | nil => exact .inr (.skip (.last p))
    | cons w t => exact .inr (.skip (.here p))
  | @skip x c d h ih =>
    intro z
    cases c with
    | nil => cases h
    | cons u c =>
      cases d with
      | nil => cases h
      | cons v d =>
        rw [List.dropLast_cons₂, List.dropLast_cons₂]
        rcases ih x with e | e
        · exact .inl (by rw [e])
        · exact .inr (.skip e)
theorem yes_add {c q : List Int} : t_behind_yes c q = addL q (0 :: (t_rest_of c q).dropLast) := yes_eq c q
theorem no_add {c q : List Int} (h : QOk c q) : t_behind_no c q = addL (t_rest_of c q) (0 :: q.dropLast) := by
  show t_behind_yes c (t_rest_of c q) = _
  rw [yes_add, rest_back h]
theorem sh_len {c : List Int} (h : 1 ≤ c.length) : (0 :: c.dropLast).length = c.length := by rw [List.length_cons, List.length_dropLast]; omega
theorem sh_nn {c : List Int} (h : ∀ x ∈ c, 0 ≤ x) : ∀ x ∈ (0 :: c.dropLast : List Int), 0 ≤ x := fun x m => by
  rcases List.mem_cons.mp m with rfl | m
  · omega
  · exact h x (List.dropLast_subset _ m)
/-- so many steps -/
inductive MvS : List Int → List Int → Prop
  | rfl {c : List Int} : MvS c c
  | step {c d e : List Int} : Mv c d → MvS d e → MvS c e
theorem MvS.skip {c d : List Int} (x : Int) (h : MvS c d) : MvS (x :: c) (x :: d) := by
  induction h with
  | rfl => exact .rfl
  | step m _ ih => exact .step (.skip m) ih
theorem MvS.len {c d : List Int} (h : MvS c d) : d.length = c.length := by
  induction h with
  | rfl => rfl
  | step m _ ih => rw [ih, m.len]
/-- a thing less -/
theorem mvs_less : ∀ {c : List Int} {i : Nat} {x : Int}, c[i]? = some x → 0 < x → (∀ y ∈ c, 0 ≤ y) → MvS c (c.set i (x - 1))
  | [y], 0, x, e, p, _ => by
    simp at e; subst e
    exact .step (.last p) .rfl
  | y :: z :: t, 0, x, e, p, k => by
    simp at e; subst e
    refine .step (.here p) ?_
    have hz := k z (by simp)
    have h := mvs_less (c := (z + 1) :: t) (i := 0) (x := z + 1) rfl (by omega) fun w m => by
      rcases List.mem_cons.mp m with rfl | m
      · omega
      · exact k w (by simp [m])
    rw [List.set_cons_zero, show z + 1 - 1 = z by omega] at h
    exact h.skip _
  | y :: t, i + 1, x, e, p, k => (mvs_less (c := t) (i := i) (by simpa using e) p fun w m => k w (.tail _ m)).skip y
termination_by c => c.length
/-- a thing with one wrong answer more -/
theorem mv_at : ∀ {c : List Int} {i : Nat} {x y : Int}, c[i]? = some x → c[i + 1]? = some y → 0 < x → Mv c ((c.set i (x - 1)).set (i + 1) (y + 1))
  | a :: b :: t, 0, x, y, e, f, p => by
    simp at e f; subst e f
    exact .here p
  | a :: t, i + 1, x, y, e, f, p => .skip (mv_at (c := t) (by simpa using e) (by simpa using f) p)
theorem QOk.drop {c q : List Int} (h : QOk c q) : QOk c.dropLast q.dropLast ∧ t_rest_of c.dropLast q.dropLast = (t_rest_of c q).dropLast := by
  induction h with
  | nil => exact ⟨.nil, rfl⟩
  | @cons x a c q a0 a1 h ih =>
    cases h with
    | nil => exact ⟨.nil, rfl⟩
    | @cons y b c q b0 b1 h =>
      rw [List.dropLast_cons₂, List.dropLast_cons₂]
      refine ⟨.cons a0 a1 ih.1, ?_⟩
      show (x - a) :: t_rest_of (y :: c).dropLast (b :: q).dropLast = ((x - a) :: (y - b) :: t_rest_of c q).dropLast
      rw [ih.2, List.dropLast_cons₂]
      rfl
theorem COk.drop {c : List Int} (o : COk c) (h : 2 ≤ c.length) : COk c.dropLast := ⟨by rw [List.length_dropLast]; omega, by rw [List.length_dropLast]; have := o.l4; omega, fun x m => o.nn x (List.dropLast_subset _ m), Int.le_trans (dropLast_sum o.nn) o.sm⟩
end EV
/-! EV95: memos that stay closed: what is told of them is told while code runs; if k not in memo: ..; return memo[k] -/
namespace EV
open PySem L2
theorem low_put {kvs : List (D × D)} {kd v : D} {k : NestedKey} (h : ∀ p ∈ kvs, (lowD 0 p.1 = true ∧ lowD 0 p.2 = true) ∧ noLst p.1 = true ∧ noLst p.2 = true) (l : (lowD 0 kd = true ∧ lowD 0 v = true) ∧ noLst kd = true ∧ noLst v = true) :
    ∀ p ∈ dicPut kvs kd k v, (lowD 0 p.1 = true ∧ lowD 0 p.2 = true) ∧ noLst p.1 = true ∧ noLst p.2 = true := by
  intro p m
  unfold dicPut at m
  split at m
  · obtain ⟨q, hq, rfl⟩ := List.mem_map.mp m
    split
    · exact ⟨⟨(h q hq).1.1, l.1.2⟩, (h q hq).2.1, l.2.2⟩
    · exact h q hq
  · rcases List.mem_append.mp m with m | m
    · exact h p m
    · rw [List.mem_singleton] at m
      subst m; exact l
theorem set_same {h : Cells} {m : Nat} {o : OB} (e : h[m]? = some o) : h.set m o = h := by
  have hm := (List.getElem?_eq_some_iff.mp e).1
  apply List.ext_getElem?
  intro i
  by_cases z : i = m
  · subst z; rw [List.getElem?_set_self hm, e]
  · rw [List.getElem?_set_ne (Ne.symm z)]
/-- the memo in which k stands now -/
def Memo.put (M : Memo) (kd : D) (k : NestedKey) (v : D) (l : (lowD 0 kd = true ∧ lowD 0 v = true) ∧ noLst kd = true ∧ noLst v = true) : Memo where
  P := fun kvs => ∃ kvs0, M.P kvs0 ∧ kvs = dicPut kvs0 kd k v
  inh := let ⟨k0, p⟩ := M.inh; ⟨_, k0, p, rfl⟩
  low := fun kvs ⟨k0, p, e⟩ q m => by subst e; exact low_put (M.low k0 p) l q m
section
variable {X : Cx} {G : Gx} {g g' g0 : Gh} {H H' H0 : Hp} {h h' : Cells} {own : Nat → Option Addr} {env : Ev} {σ : L2.St}
theorem HRel.toMem {m : Nat} {M : Memo} {kvs : List (D × D)} (hm : m < h.length) (k : M.P kvs) (r : HRel X.prog X.w g H (h.set m (.dic kvs))) : HRel X.prog X.w g H (h.set m (.mem M)) := by
  refine HRel.close_ (m := m) (M := M) (kvs := kvs) (List.getElem?_set_self hm) k ?_
  rw [List.set_set]; exact r
theorem HRel.memW {m : Nat} {M M' : Memo} (hm : m < h.length) (w : ∀ kvs, M'.P kvs → M.P kvs) (r : HRel X.prog X.w g H (h.set m (.mem M'))) : HRel X.prog X.w g H (h.set m (.mem M)) := by
  obtain ⟨kvs, p, r'⟩ := r.open_ (m := m) (M := M') (List.getElem?_set_self hm)
  rw [List.set_set] at r'
  exact r'.toMem hm (w _ p)
end
/-! ### if k not in memo: ..; return memo[k] -/
open Classical in
/-- the memo closed again -/
noncomputable def sCl (m : Nat) (M : Memo) (ds : DS) : DS := fun fn env h => match h[m]? with
  | some (.dic kvs) => if M.P kvs then ds fn env (h.set m (.mem M)) else .bad
  | _ => .bad
def BackK (m : Nat) (M : Memo) (h h' : Cells) : Prop := (∃ kvs, M.P kvs ∧ h' = h.set m (.dic kvs)) ∨ ∃ M' : Memo, (∀ kvs, M'.P kvs → M.P kvs) ∧ h' = h.set m (.mem M')
section
variable {X : Cx} {G : Gx} {g g' g0 : Gh} {H H' H0 : Hp} {h h' : Cells} {own : Nat → Option Addr} {env : Ev} {σ : L2.St}
theorem tS.cl {m : Nat} {M : Memo} {ds : DS} {Dn : Ends} (q : tS X G g0 H0 (sCl m M ds) Dn σ H) : tS X G g0 H0 ds Dn σ H := by
  obtain ⟨g, own, env, h, og, r, l, en, p⟩ := q
  unfold sCl at p
  split at p
  · rename_i kvs hk
    split at p
    · rename_i hp
      have hm := (List.getElem?_eq_some_iff.mp hk).1
      refine ⟨g, own, env, h.set m (.mem M), og, ?_, l, en, p⟩
      have e2 : h.set m (.dic kvs) = h := set_same hk
      exact HRel.toMem hm hp (by rw [e2]; exact r)
    · exact p.elim
  · exact p.elim
theorem BackK.rel {m : Nat} {M : Memo} (e : h[m]? = some (.mem M)) (b : BackK m M h h') (r : HRel X.prog X.w g H h') : HRel X.prog X.w g H h := by
  have hm := (List.getElem?_eq_some_iff.mp e).1
  rcases b with ⟨kvs, p, rfl⟩ | ⟨M', w, rfl⟩
  · exact HRel.close_ e p r
  · have := r.memW (M := M) hm w
    have e2 : h.set m (.mem M) = h := set_same e
    rw [e2] at this
    exact this
theorem PSs.ex {α : Type} {sts : List Stmt} {t : α → TS} (h : ∀ a, PSs X sts (t a)) : PSs X sts (fun D σ H => ∃ a, t a D σ H) := ⟨fun pins s σ H D I ⟨a, q⟩ => (h a).run pins s σ H D I q⟩
end
end EV
/-! EV70: laws' ends, typed -/
namespace EV
open PySem L2
/-- all goes well, whatever the pot -/
def S_rtP (f : Fn) : Prop := ∀ (n : Nat) h, Pt n h → noLstH h = true → wp (f [.obj n] h) fun d h' => d = .bl true ∧ Pt n h' ∧ noLstH h' = true
theorem rtP_of {t : Pot2 → Bool × Pot2} {f : Fn} (a : ∀ (n : Nat) (h0 : Cells) (p : Pot2), PotOk n h0 → f [.obj n] (hp n h0 p) = .ok (.bl (t p).1) (hp n h0 (t p).2)) (b : ∀ p, (t p).1 = true) : S_rtP f := fun n h pt nl => by
  have hl := pt.lt
  obtain ⟨x, y, e⟩ := pt
  have o : PotOk n h := ⟨hl, nl⟩
  have z := a n h (x, y) o
  rw [hp_at e, b] at z
  exact ⟨_, _, z, rfl, ⟨_, _, hp_get hl⟩, o.nl_hp⟩
theorem nl_pot {h : Cells} {a b : Int} (nl : noLstH h = true) : noLstH (h ++ [OB.lst [.int a, .int b]]) = true := by
  rw [noLstH_app, nl]; rfl
section
variable {fn : Fns} {r p : Nat}
theorem el_E {N : Int} (n0 : 0 ≤ N) (n1 : N ≤ 1000) (a : S_rtP (fn r)) (b : S_pot (fn p)) : S_law (bodyF 2 (lawE_M r p N) fn) := fun ns => by
  unfold lawE_M
  simp
  generalize hM : (if 1 < (if (ns.length : Int) < N then (ns.length : Int) else N) then (if (ns.length : Int) < N then (ns.length : Int) else N) else 1) = M
  have w0 : 0 ≤ M := by rw [← hM]; split <;> split <;> omega
  have w1 : (-1000000000 : Int) ≤ M := by omega
  have w2 : M ≤ 1000000000 := by rw [← hM]; split <;> split <;> omega
  have w3 : (upTo 0 M.toNat).length ≤ 16777216 := by rw [len_up, ← hM]; split <;> split <;> omega
  simp [w1, w2, w3]
  refine wp_mono (compL_wp (fun _ acc h => noLstH h = true ∧ ∀ d ∈ acc, d = D.bl true) 0 [] ⟨rfl, (fun d hd => by cases hd)⟩ fun t d hd acc h e => ?_) fun r h e => ?_
  · obtain ⟨nl, e⟩ := e
    obtain ⟨rfl, _⟩ := toNat_upTo hd
    refine ⟨[.val (.frz (ns.map D.int)), .val (.int t)], by simp, ?_⟩
    simp
    refine wp_mono (b ns t h) fun d h1 ⟨e1, x, y, e2⟩ => ?_
    subst e1 e2
    simp
    refine wp_mono (a h.length _ pt_new (nl_pot nl)) fun d h2 ⟨e1, p1⟩ => ?_
    subst e1
    refine ⟨rfl, p1.2, fun d hd => ?_⟩
    rcases hd with hd | hd
    · exact e d hd
    · exact hd
  · obtain ⟨_, e⟩ := e
    rw [List.nil_append] at e
    rw [allT (k := 0) e]
    simp
end
end EV
/-! EV88: laws' ends: calls with a pot and more, one behind the other -/
/-! EV96: closed memos of truths -/
namespace EV
open PySem L2
section
variable {T : MT} {fn : Fns} {env env1 : Ev} {h h1 : Cells} {m : Nat} {k : T.κ} {ka ma a b : DE} {BODY : DS}
theorem AllOk.put {es : List (T.κ × Bool)} (a : AllOk es) (d : T.dom k) : AllOk (mput es k (T.φ k)) :=
  ⟨mput_nd a.nd, fun e m => by rcases mput_mem m with rfl | ⟨m, _⟩ <;> first | exact d | exact a.dom e m, fun e m => by
    rcases mput_mem m with rfl | ⟨m, _⟩
    · rfl
    · exact a.ok e m⟩
theorem AllOk.len {es : List (T.κ × Bool)} (a : AllOk es) : es.length ≤ T.N := (a.good 0).len
end
end EV
/-! EV81: code that leans on a memo in an instance: one proof for both heaps (the memo's pairs there; the memo alone) -/
namespace EV
open PySem L2
/-- heaps that go on -/
structure HSt where
  S : Type
  hs : S → Cells
  P : S → Prop
  R : S → S → Prop
  rf : ∀ s, R s s
  tr : ∀ {a b c}, R a b → R b c → R a c
def Runs (A : HSt) (run : Cells → R D) (v : D) : Prop := ∀ s, A.P s → ∃ s', A.P s' ∧ A.R s s' ∧ run (A.hs s) = .ok v (A.hs s')
/-- the end of code that leans -/
def KA {ρ : Type} (A : HSt) (s : A.S) (V : ρ → D) (r : ρ) (fl : Fl) (_ : Ev) (h : Cells) : Prop := fl = .rt (V r) ∧ ∃ s', A.P s' ∧ A.R s s' ∧ h = A.hs s'
theorem b_runs {ρ : Type} {A : HSt} {ms : DS} {fn : Fns} {n : Nat} {ds : List D} {V : ρ → D} {r : ρ} (q : ∀ s, A.P s → J ms fn (startE n ds) (A.hs s) (KA A s V) r) : Runs A (bodyF n ms fn ds) (V r) := fun s p => by
  obtain ⟨fl, e, h', e1, rfl, s', p', r', rfl⟩ := q s p
  exact ⟨s', p', r', by rw [e_body, e1, ok_bind, e_endR]⟩
/-- with the memo's pairs -/
def AA (T : MT) (l m : Nat) (h0 : Cells) : HSt where
  S := List (T.κ × Bool)
  hs := hM m h0
  P := Good l
  R := Frame l
  rf := fun _ => Frame.refl
  tr := Frame.trans
/-- the memo alone -/
def BB (h0 : Cells) : HSt where
  S := Unit
  hs := fun _ => h0
  P := fun _ => True
  R := fun _ _ => True
  rf := fun _ => trivial
  tr := fun _ _ => trivial
theorem runs_BB {h0 : Cells} {run : Cells → R D} {v : D} : Runs (BB h0) run v ↔ run h0 = .ok v h0 := ⟨fun h => by
  obtain ⟨_, _, _, e⟩ := h () trivial
  exact e, fun h _ _ => ⟨(), trivial, trivial, h⟩⟩
/-- an instance with a memo as its one attribute -/
structure SelfAt (c : Nat) (f : Str) (k m : Nat) (h0 : Cells) : Prop where
  ins : h0[k]? = some (.ins c [(f, .obj m)])
  lt : m < h0.length
  ne : k ≠ m
section
variable {T : MT} {fn : Fns} {env : Ev} {h h0 h1 : Cells} {c i n k m l : Nat} {f mm : Str} {a : DE} {da : DA} {ds : List D} {r : R D}
theorem x_meth {fs : List (Str × D)} {k' : Nat} (ha : a fn env h = .ok (.obj k) h) (hi : insOf c h (.obj k) = some (k', fs)) (hl : fs.lookup mm = none) (hd : da fn env h = .ok ds h) (nb : noBors ds = true) (ln : decide (ds.length = n) = true) (hc : fn i (.obj k :: ds) h = r) : dMeth c mm i n a da fn env h = r := by
  unfold dMeth
  rw [ha, ok_bind, hi]
  dsimp only
  rw [hl, if_neg (by decide), hd, ok_bind]
  unfold methD
  rw [nb, ln]
  exact hc
theorem x_fld {fs : List (Str × D)} {k' : Nat} {v : D} (ha : a fn env h = .ok (.obj k) h) (hi : insOf c h (.obj k) = some (k', fs)) (hl : fs.lookup f = some v) : dFld c f a fn env h = .ok v h := by
  unfold dFld
  rw [ha, ok_bind]
  unfold fldD
  rw [hi]
  dsimp only
  rw [hl]
theorem ins_AA (s : SelfAt c f k m h0) (es : List (T.κ × Bool)) : insOf c (hM m h0 es) (.obj k) = some (k, [(f, .obj m)]) := by
  unfold insOf hM
  dsimp only
  rw [List.getElem?_set_ne (Ne.symm s.ne), s.ins]
  dsimp only
  rw [if_pos rfl]
theorem ins_BB (s : SelfAt c f k m h0) : insOf c h0 (.obj k) = some (k, [(f, .obj m)]) := by
  unfold insOf
  dsimp only
  rw [s.ins]
  dsimp only
  rw [if_pos rfl]
theorem memIn_none {ds : List D} (s : SelfAt c f k m h0) (e : (startE n ds)[0]? = some (.val (.obj k))) (es : List (T.κ × Bool)) : memIn f (startE n ds) (hM m h0 es) 0 = none := by
  unfold memIn hM
  rw [e]
  dsimp only
  rw [List.getElem?_set_ne (Ne.symm s.ne), s.ins]
  simp only [List.lookup_cons, beq_self_eq_true]
  rw [List.getElem?_set_self s.lt]
theorem memIn_some {ds : List D} {M : Memo} (s : SelfAt c f k m h0) (e : (startE n ds)[0]? = some (.val (.obj k))) (hm : h0[m]? = some (.mem M)) : memIn f (startE n ds) h0 0 = some (m, M) := by
  unfold memIn
  rw [e]
  dsimp only
  rw [s.ins]
  simp only [List.lookup_cons, beq_self_eq_true]
  rw [hm]
/-- both heaps, for what is memoised -/
theorem b_bothF {ms : DS} {ds : List D} {v : Bool} (s : SelfAt c f k m h0) (e : (startE n ds)[0]? = some (.val (.obj k)))
    (q : ∀ es : List (T.κ × Bool), Good l es → J ms fn (startE n ds) (hM m h0 es) (KM l m h0 es (startE n ds).length) v) :
    Runs (AA T l m h0) (bodyF n (sMemo (fun env h => memIn f env h 0) ms) fn ds) (.bl v) ∧
    (h0[m]? = some (.mem (memoOf T)) → Runs (BB h0) (bodyF n (sMemo (fun env h => memIn f env h 0) ms) fn ds) (.bl v)) :=
  ⟨b_leans (fun es => memIn_none s e es) q, fun hm => runs_BB.mpr (b_memo (memIn_some s e hm) q)⟩
end
end EV
namespace EV
open PySem L2
def Finder_is_good_m (c_both_behind c_Finder_is_found : Nat) : DS := sSeq (sAsg (dCall c_both_behind 2 0 [.p 0, .p 1] [] (daCons (dVar 1) (daCons (dVar 3) (daNil))) (daNil)) (gTup 2 (gsCons (gName' 4) (gsCons (gName' 5) (gsNil))))) (sRet (dAnd (dMeth 0 "is_found" c_Finder_is_found 2 (dVar 0) (daCons (dVar 4) (daCons (dOp2 dSub (dVar 2) (dC (.int 1))) (daNil)))) (dMeth 0 "is_found" c_Finder_is_found 2 (dVar 0) (daCons (dVar 5) (daCons (dOp2 dSub (dVar 2) (dC (.int 1))) (daNil))))))
abbrev okn : Str := "own_known"
theorem okn_ne {x : Str} {d : D} (h : (x == okn) = false) : List.lookup x [(okn, d)] = none := by rw [List.lookup_cons, h]; rfl
/-- what a Finder's method promises: beside the memo's pairs, beside the memo alone -/
def FRuns (l : Nat) (run : Nat → Cells → R D) (v : D) : Prop := ∀ k m h0, SelfAt 0 okn k m h0 → Runs (AA TC l m h0) (run k) v ∧ (h0[m]? = some (.mem M_finder) → Runs (BB h0) (run k) v)
def SpFound (l : Nat) (f : Fn) : Prop := ∀ c, COk c → FRuns l (fun k => f [.obj k, eT D.int c, .int (l : Nat)]) (.bl (fnd l c))
def bothF (l : Nat) (c q : List Int) : Bool := fnd l (t_both_behind c q).1 && fnd l (t_both_behind c q).2
def SpGood (l : Nat) (f : Fn) : Prop := ∀ c q, COk c → QOk c q → FRuns l (fun k => f [.obj k, eT D.int c, .int ((l + 1 : Nat) : Int), eT D.int q]) (.bl (bothF l c q))
theorem good_J {fn : Fns} {i_1 i_2 : Nat} {l : Nat} (A : HSt) {c q : List Int} (o : COk c) (hq : QOk c q) {k m : Nat} (hi : ∀ s, insOf 0 (A.hs s) (.obj k) = some (k, [(okn, .obj m)])) (c_both_behind : ST_both_behind (fn i_1))
    (rec : ∀ c, COk c → Runs A (fn i_2 [.obj k, eT D.int c, .int (l : Nat)]) (.bl (fnd l c))) : Runs A (bodyF 6 (Finder_is_good_m i_1 i_2) fn [.obj k, eT D.int c, .int ((l + 1 : Nat) : Int), eT D.int q]) (.bl (bothF l c q)) := by
  refine b_runs (V := D.bl) fun s p => ?_
  show J _ fn [.val (.obj k), .val (eT D.int c), .val (.int ((l + 1 : Nat) : Int)), .val (eT D.int q), .no, .no] _ _ _
  unfold Finder_is_good_m
  obtain ⟨o1, o2⟩ := both_ok o hq
  have hs : ((l + 1 : Nat) : Int) - 1 = (l : Nat) := by omega
  obtain ⟨s1, p1, r1, q1⟩ := rec _ o1 s p
  obtain ⟨s2, p2, r2, q2⟩ := rec _ o2 s1 p1
  refine j_seq (env1 := [.val (.obj k), .val (eT D.int c), .val (.int ((l + 1 : Nat) : Int)), .val (eT D.int q), .val (eT D.int (t_both_behind c q).1), .val (eT D.int (t_both_behind c q).2)]) (z_asg (d := eP2 (eT D.int) (eT D.int) (t_both_behind c q)) (x_call (xa_cons (x_var rfl) (xa_cons (x_var rfl) xa_nil)) xa_nil rfl rfl rfl rfl rfl (c_both_behind c q (by have := o.l4; omega) _)) rfl (g_tup rfl rfl (g_cons (g_name rfl rfl rfl) (g_cons (g_name rfl rfl rfl) g_nil)))) ?_
  have hm : ∀ (j : Nat) (c' : List Int) (sa sb : A.S) (b : Bool), [Sl.val (.obj k), .val (eT D.int c), .val (.int ((l + 1 : Nat) : Int)), .val (eT D.int q), .val (eT D.int (t_both_behind c q).1), .val (eT D.int (t_both_behind c q).2)][j]? = some (.val (eT D.int c')) → fn i_2 [.obj k, eT D.int c', .int (l : Nat)] (A.hs sa) = .ok (.bl b) (A.hs sb) →
      dMeth 0 "is_found" i_2 2 (dVar 0) (daCons (dVar j) (daCons (dOp2 dSub (dVar 2) (dC (.int 1))) (daNil))) fn [.val (.obj k), .val (eT D.int c), .val (.int ((l + 1 : Nat) : Int)), .val (eT D.int q), .val (eT D.int (t_both_behind c q).1), .val (eT D.int (t_both_behind c q).2)] (A.hs sa) = .ok (.bl b) (A.hs sb) := fun j c' sa sb b e w =>
    x_meth (x_var rfl) (hi sa) (okn_ne (by decide +kernel)) (xa_cons (x_var e) (xa_cons (x_op2 (z := .int (l : Nat)) (x_var rfl) x_c (by show R.ok (D.int (((l + 1 : Nat) : Int) - 1)) _ = _; rw [hs])) xa_nil)) rfl rfl w
  unfold bothF
  rcases Bool.eq_false_or_eq_true (fnd l (t_both_behind c q).1) with h1 | h1
  · rw [h1] at q1 ⊢
    refine j_ret (d := .bl (fnd l (t_both_behind c q).2)) (h1 := A.hs s2) ?_ rfl ⟨by rw [Bool.true_and], s2, p2, A.tr r1 r2, rfl⟩
    rw [e_dAnd, hm 4 _ _ _ _ rfl q1, ok_bind]
    show (R.ok true (A.hs s1)).bind _ = _
    rw [ok_bind, if_pos (by rfl)]
    exact hm 5 _ _ _ _ rfl q2
  · rw [h1] at q1 ⊢
    refine j_ret (d := .bl false) (h1 := A.hs s1) ?_ rfl ⟨rfl, s1, p1, r1, rfl⟩
    rw [e_dAnd, hm 4 _ _ _ _ rfl q1, ok_bind]
    show (R.ok false (A.hs s1)).bind _ = _
    rw [ok_bind, if_neg (by decide)]
theorem et_Finder_is_good {fn : Fns} {i_1 i_2 : Nat} {l : Nat} (c_both_behind : ST_both_behind (fn i_1)) (rec : SpFound l (fn i_2)) : SpGood l (bodyF 6 (Finder_is_good_m i_1 i_2) fn) := fun c q o hq k m h0 s =>
  ⟨good_J (AA TC l m h0) o hq (fun es => ins_AA s es) c_both_behind fun c' o' => (rec c' o' k m h0 s).1, fun hm => good_J (BB h0) o hq (fun _ => ins_BB s) c_both_behind fun c' o' => (rec c' o' k m h0 s).2 hm⟩
def Finder_first_good_l0 (c_Finder_is_good c_questions_of : Nat) : DS := sIf (dtAnd (dtB (dOp2 dLe (dOp2 dMul (dC (.int 2)) (dOpN cSum (daCons (dVar 3) (daNil)))) (dOpN cSum (daCons (dVar 1) (daNil))))) (dTruE (dMeth 0 "is_good" c_Finder_is_good 3 (dVar 0) (daCons (dVar 1) (daCons (dVar 2) (daCons (dVar 3) (daNil))))))) (sRet (dVar 3)) (sNext)
def Finder_first_good_m (c_Finder_is_good c_questions_of : Nat) : DS := sSeq (sFor (.name 3) (dItems (dCall c_questions_of 1 0 [.p 0] [] (daCons (dVar 1) (daNil)) (daNil))) (Finder_first_good_l0 c_Finder_is_good c_questions_of)) (sRet (dC .non))
def goodQ (l : Nat) (c q : List Int) : Bool := decide (2 * q.sum ≤ c.sum) && bothF l c q
def fgood (l : Nat) (c : List Int) : Option (List Int) := (t_questions_of c).find? (goodQ l c)
def SpFirst (l : Nat) (f : Fn) : Prop := ∀ c, COk c → FRuns l (fun k => f [.obj k, eT D.int c, .int ((l + 1 : Nat) : Int)]) (eO (eT D.int) (fgood l c))
theorem first_loop {fn : Fns} {i_1 i_2 : Nat} {l : Nat} (A : HSt) {c : List Int} {k m : Nat} (hi : ∀ s, insOf 0 (A.hs s) (.obj k) = some (k, [(okn, .obj m)])) (rec : ∀ q, QOk c q → Runs A (fn i_1 [.obj k, eT D.int c, .int ((l + 1 : Nat) : Int), eT D.int q]) (.bl (bothF l c q))) :
    ∀ (xs : List (List Int)), (∀ q ∈ xs, QOk c q) → ∀ (s : A.S) (s3 : Sl), A.P s → ∃ s' env', A.P s' ∧ A.R s s' ∧ forL (.name 3) (Finder_first_good_l0 i_1 i_2) fn (xs.map (eT D.int)) [.val (.obj k), .val (eT D.int c), .val (.int ((l + 1 : Nat) : Int)), s3] (A.hs s) = .ok (match xs.find? (goodQ l c) with
      | some q => (.rt (eT D.int q), env')
      | none => (.nx, env')) (A.hs s')
  | [], _, s, s3, p => ⟨s, _, p, A.rf s, rfl⟩
  | q :: xs, hx, s, s3, p => by
    obtain ⟨s1, p1, r1, q1⟩ := rec q (hx q (.head _)) s p
    have e1 : dtB (dOp2 dLe (dOp2 dMul (dC (.int 2)) (dOpN cSum (daCons (dVar 3) (daNil)))) (dOpN cSum (daCons (dVar 1) (daNil)))) fn [.val (.obj k), .val (eT D.int c), .val (.int ((l + 1 : Nat) : Int)), .val (eT D.int q)] (A.hs s) = .ok (decide (2 * q.sum ≤ c.sum)) (A.hs s) :=
      t_B (x_op2 (x_op2 x_c (x_opN (xa_cons (x_var rfl) xa_nil) o_sumT) (o_mulI (.inl (by decide)))) (x_opN (xa_cons (x_var rfl) xa_nil) o_sumT) rfl)
    have e2 : dTruE (dMeth 0 "is_good" i_1 3 (dVar 0) (daCons (dVar 1) (daCons (dVar 2) (daCons (dVar 3) (daNil))))) fn [.val (.obj k), .val (eT D.int c), .val (.int ((l + 1 : Nat) : Int)), .val (eT D.int q)] (A.hs s) = .ok (bothF l c q) (A.hs s1) :=
      t_tru (x_meth (x_var rfl) (hi s) (okn_ne (by decide +kernel)) (xa_cons (x_var rfl) (xa_cons (x_var rfl) (xa_cons (x_var rfl) xa_nil))) rfl rfl q1) rfl
    have step : ∀ r, (Finder_first_good_l0 i_1 i_2 fn [.val (.obj k), .val (eT D.int c), .val (.int ((l + 1 : Nat) : Int)), .val (eT D.int q)] (A.hs s)) = r → forL (.name 3) (Finder_first_good_l0 i_1 i_2) fn ((q :: xs).map (eT D.int)) [.val (.obj k), .val (eT D.int c), .val (.int ((l + 1 : Nat) : Int)), s3] (A.hs s) = r.bind fun x h1 => match x.1 with
      | .nx => forL (.name 3) (Finder_first_good_l0 i_1 i_2) fn (xs.map (eT D.int)) x.2 h1
      | .ct => forL (.name 3) (Finder_first_good_l0 i_1 i_2) fn (xs.map (eT D.int)) x.2 h1
      | .bk => .ok (.nx, x.2) h1
      | .rt d => .ok (.rt d, x.2) h1 := fun r e => by rw [← e]; rfl
    by_cases b1 : 2 * q.sum ≤ c.sum
    · rw [decide_eq_true b1] at e1
      rcases Bool.eq_false_or_eq_true (bothF l c q) with b2 | b2
      · have hg : goodQ l c q = true := by unfold goodQ; rw [decide_eq_true b1, b2]; rfl
        refine ⟨s1, [.val (.obj k), .val (eT D.int c), .val (.int ((l + 1 : Nat) : Int)), .val (eT D.int q)], p1, r1, ?_⟩
        rw [step (.ok (.rt (eT D.int q), [.val (.obj k), .val (eT D.int c), .val (.int ((l + 1 : Nat) : Int)), .val (eT D.int q)]) (A.hs s1)) ?_, List.find?_cons, hg]
        · rfl
        · unfold Finder_first_good_l0
          rw [e_sIf, e_dtAnd, e1, ok_bind, if_pos (by rfl), e2, ok_bind, b2, if_pos (by rfl)]
          rfl
      · have hg : goodQ l c q = false := by unfold goodQ; rw [b2, Bool.and_false]
        obtain ⟨s2, env', p2, r2, q2⟩ := first_loop A hi rec xs (fun q h => hx q (.tail _ h)) s1 (.val (eT D.int q)) p1
        refine ⟨s2, env', p2, A.tr r1 r2, ?_⟩
        rw [step (.ok (.nx, [.val (.obj k), .val (eT D.int c), .val (.int ((l + 1 : Nat) : Int)), .val (eT D.int q)]) (A.hs s1)) ?_, List.find?_cons, hg]
        · exact q2
        · unfold Finder_first_good_l0
          rw [e_sIf, e_dtAnd, e1, ok_bind, if_pos (by rfl), e2, ok_bind, b2, if_neg (by decide)]
          rfl
    · rw [decide_eq_false b1] at e1
      have hg : goodQ l c q = false := by unfold goodQ; rw [decide_eq_false b1, Bool.false_and]
      obtain ⟨s2, env', p2, r2, q2⟩ := first_loop A hi rec xs (fun q h => hx q (.tail _ h)) s (.val (eT D.int q)) p
      refine ⟨s2, env', p2, r2, ?_⟩
      rw [step (.ok (.nx, [.val (.obj k), .val (eT D.int c), .val (.int ((l + 1 : Nat) : Int)), .val (eT D.int q)]) (A.hs s)) ?_, List.find?_cons, hg]
      · exact q2
      · unfold Finder_first_good_l0
        rw [e_sIf, e_dtAnd, e1, ok_bind, if_neg (by decide), ok_bind, if_neg (by decide)]
        rfl
theorem first_J {fn : Fns} {i_1 i_2 : Nat} {l : Nat} (A : HSt) {c : List Int} (o : COk c) {k m : Nat} (hi : ∀ s, insOf 0 (A.hs s) (.obj k) = some (k, [(okn, .obj m)])) (c_questions_of : ST_questions_of (fn i_2))
    (rec : ∀ q, QOk c q → Runs A (fn i_1 [.obj k, eT D.int c, .int ((l + 1 : Nat) : Int), eT D.int q]) (.bl (bothF l c q))) : Runs A (bodyF 4 (Finder_first_good_m i_1 i_2) fn [.obj k, eT D.int c, .int ((l + 1 : Nat) : Int)]) (eO (eT D.int) (fgood l c)) := by
  refine b_runs (V := eO (eT D.int)) fun s p => ?_
  show J _ fn [.val (.obj k), .val (eT D.int c), .val (.int ((l + 1 : Nat) : Int)), .no] _ _ _
  unfold Finder_first_good_m
  obtain ⟨s', env', p', r', q'⟩ := first_loop A hi rec (t_questions_of c) (fun q h => mem_questions.mp h) s .no p
  have hf : sFor (.name 3) (dItems (dCall i_2 1 0 [.p 0] [] (daCons (dVar 1) (daNil)) (daNil))) (Finder_first_good_l0 i_1 i_2) fn [.val (.obj k), .val (eT D.int c), .val (.int ((l + 1 : Nat) : Int)), .no] (A.hs s) = forL (.name 3) (Finder_first_good_l0 i_1 i_2) fn ((t_questions_of c).map (eT D.int)) [.val (.obj k), .val (eT D.int c), .val (.int ((l + 1 : Nat) : Int)), .no] (A.hs s) := by
    rw [e_sFor, i_L (e := eT D.int) (xs := t_questions_of c) (x_call (xa_cons (x_var rfl) xa_nil) xa_nil rfl rfl rfl rfl rfl (c_questions_of c o.l4 o.bd40 _)), ok_bind]
  unfold fgood
  cases e : (t_questions_of c).find? (goodQ l c) with
  | some q =>
    rw [e] at q'
    exact ⟨_, env', _, by rw [e_sSeq, hf, q', ok_bind]; rfl, rfl, s', p', r', rfl⟩
  | none =>
    rw [e] at q'
    exact ⟨_, env', _, by rw [e_sSeq, hf, q', ok_bind]; rfl, rfl, s', p', r', rfl⟩
theorem et_Finder_first_good {fn : Fns} {i_1 i_2 : Nat} {l : Nat} (c_questions_of : ST_questions_of (fn i_2)) (rec : SpGood l (fn i_1)) : SpFirst l (bodyF 4 (Finder_first_good_m i_1 i_2) fn) := fun c o k m h0 s =>
  ⟨first_J (AA TC l m h0) o (fun es => ins_AA s es) c_questions_of fun q hq => (rec c q o hq k m h0 s).1, fun hm => first_J (BB h0) o (fun _ => ins_BB s) c_questions_of fun q hq => (rec c q o hq k m h0 s).2 hm⟩
noncomputable def Finder_is_found_m (c_is_settled_of c_is_heavy_of c_Finder_first_good : Nat) : DS := sMemo (fun env h => memIn "own_known" env h 0) (sSeq (sIf (dTruE (dCall c_is_settled_of 1 0 [.p 0] [] (daCons (dVar 1) (daNil)) (daNil))) (sRet (dC (.bl true))) (sNext)) (sSeq (sIf (dtOr (dtB (dOp2 dEq (dVar 2) (dC (.int 0)))) (dTruE (dCall c_is_heavy_of 2 0 [.p 0, .p 1] [] (daCons (dVar 1) (daCons (dVar 2) (daNil))) (daNil)))) (sRet (dC (.bl false))) (sNext)) (sSeq (sIf (dtB (dOp2 dNotInM (dTup (daCons (dVar 1) (daCons (dVar 2) (daNil)))) (dFld 0 "own_known" (dVar 0)))) (sAsg (dOp2 dIsNot (dMeth 0 "first_good" c_Finder_first_good 2 (dVar 0) (daCons (dVar 1) (daCons (dVar 2) (daNil)))) (dC .non)) (gDic (dFld 0 "own_known" (dVar 0)) (dTup (daCons (dVar 1) (daCons (dVar 2) (daNil)))))) (sNext)) (sRet (dOp2 dGet (dFld 0 "own_known" (dVar 0)) (dTup (daCons (dVar 1) (daCons (dVar 2) (daNil)))))))))
theorem find_isSome {α : Type} {p : α → Bool} : ∀ {xs : List α}, (xs.find? p).isSome = xs.any p
  | [] => rfl
  | x :: xs => by
    rw [List.find?_cons, List.any_cons]
    cases p x with
    | true => rfl
    | false => exact find_isSome
theorem fnd_succ {l : Nat} {c : List Int} (h1 : t_is_settled_of c = false) (h2 : t_is_heavy_of c ((l + 1 : Nat) : Int) = false) : fnd (l + 1) c = (fgood l c).isSome := by
  unfold fgood
  rw [fnd, h1, h2, find_isSome]; rfl
theorem et_Finder_is_found {fn : Fns} {i_1 i_2 i_3 : Nat} {l : Nat} (hl : l ≤ 16) (c_is_settled_of : ST_is_settled_of (fn i_1)) (c_is_heavy_of : ST_is_heavy_of (fn i_2)) (rec : ∀ l', l = l' + 1 → SpFirst l' (fn i_3)) : SpFound l (bodyF 3 (Finder_is_found_m i_1 i_2 i_3) fn) := by
  intro c o k m h0 sf
  unfold Finder_is_found_m
  refine b_bothF (T := TC) sf (by rfl) fun es g => ?_
  show J _ fn [.val (.obj k), .val (eT D.int c), .val (.int (l : Nat))] _ _ _
  have hi := fun es => ins_AA (T := TC) sf es
  have hfld : ∀ es : List (TC.κ × Bool), dFld 0 "own_known" (dVar 0) fn [.val (.obj k), .val (eT D.int c), .val (.int (l : Nat))] (hM m h0 es) = .ok (.obj m) (hM m h0 es) := fun es => x_fld (x_var rfl) (hi es) (by rw [List.lookup_cons]; rw [show (("own_known" : Str) == okn) = true by decide +kernel])
  have hkey : ∀ h, dTup (daCons (dVar 1) (daCons (dVar 2) daNil)) fn [.val (.obj k), .val (eT D.int c), .val (.int (l : Nat))] h = .ok (TC.enc (c, l)) h := fun h => x_tup (xa_cons (x_var rfl) (xa_cons (x_var rfl) xa_nil)) rfl rfl
  have hset : dTruE (dCall i_1 1 0 [.p 0] [] (daCons (dVar 1) (daNil)) (daNil)) fn [.val (.obj k), .val (eT D.int c), .val (.int (l : Nat))] (hM m h0 es) = .ok (t_is_settled_of c) (hM m h0 es) := t_tru (x_call (xa_cons (x_var rfl) xa_nil) xa_nil rfl rfl rfl rfl rfl (c_is_settled_of c _)) rfl
  have hhv : dTruE (dCall i_2 2 0 [.p 0, .p 1] [] (daCons (dVar 1) (daCons (dVar 2) (daNil))) (daNil)) fn [.val (.obj k), .val (eT D.int c), .val (.int (l : Nat))] (hM m h0 es) = .ok (t_is_heavy_of c (l : Nat)) (hM m h0 es) := t_tru (x_call (xa_cons (x_var rfl) (xa_cons (x_var rfl) xa_nil)) xa_nil rfl rfl rfl rfl rfl (c_is_heavy_of c (l : Nat) (by omega) (by omega) (by have := o.l4; omega) o.bd40 _)) rfl
  rcases Bool.eq_false_or_eq_true (t_is_settled_of c) with h1 | h1
  · have hv : fnd l c = true := by cases l <;> simp [fnd, h1]
    rw [hv]
    rw [h1] at hset
    exact ⟨_, _, _, by rw [e_sSeq, e_sIf, hset, ok_bind, if_pos (by rfl)]; rfl, rfl, rfl, es, g, Frame.refl, rfl⟩
  rw [h1] at hset
  refine j_ifN hset ?_
  have h0t : dtB (dOp2 dEq (dVar 2) (dC (.int 0))) fn [.val (.obj k), .val (eT D.int c), .val (.int (l : Nat))] (hM m h0 es) = .ok (decide ((l : Int) = 0)) (hM m h0 es) := t_B (x_op2 (x_var rfl) x_c (o_eqE (e := D.int) (a := (l : Int)) (b := 0) (by decide)))
  cases l with
  | zero =>
    have hv : fnd 0 c = false := h1
    rw [hv]
    rw [decide_eq_true (by rfl)] at h0t
    exact ⟨_, _, _, by rw [e_sSeq, e_sIf, t_or (l := true) h0t (fun z => nomatch z), ok_bind, if_pos (by rfl)]; rfl, rfl, rfl, es, g, Frame.refl, rfl⟩
  | succ l1 =>
    rw [decide_eq_false (by omega)] at h0t
    rcases Bool.eq_false_or_eq_true (t_is_heavy_of c ((l1 + 1 : Nat) : Int)) with h2 | h2
    · have hv : fnd (l1 + 1) c = false := by rw [fnd, h1, h2]; rfl
      rw [hv]
      rw [h2] at hhv
      exact ⟨_, _, _, by rw [e_sSeq, e_sIf, t_or h0t (fun _ => hhv), ok_bind, if_pos (by rfl)]; rfl, rfl, rfl, es, g, Frame.refl, rfl⟩
    rw [h2] at hhv
    refine j_ifN (t_or h0t (fun _ => hhv)) ?_
    have hv := fnd_succ h1 h2
    have hget : ∀ (es' : List (TC.κ × Bool)) (r : Bool), mget es' (c, l1 + 1) = some r → dOp2 dGet (dFld 0 "own_known" (dVar 0)) (dTup (daCons (dVar 1) (daCons (dVar 2) daNil))) fn [.val (.obj k), .val (eT D.int c), .val (.int ((l1 + 1 : Nat) : Int))] (hM m h0 es') = .ok (.bl r) (hM m h0 es') := fun es' r e => x_getM sf.lt (hfld es') (hkey _) e
    have e3 := x_notInM (T := TC) (es := es) (k := (c, l1 + 1)) sf.lt (hkey _) (hfld es)
    cases hg : mget es (c, l1 + 1) with
    | some r =>
      rw [hg] at e3
      have hrr := g.get hg (Nat.le_refl _)
      refine j_ifN (t_B e3) (j_ret (hget _ _ hg) rfl ⟨?_, rfl, es, g, Frame.refl, rfl⟩)
      rw [hrr]; rfl
    | none =>
      rw [hg] at e3
      obtain ⟨es1, g1, f1, q1⟩ := (rec l1 rfl c o k m h0 sf).1 es (g.mono (Nat.le_succ _))
      have hcall : dOp2 dIsNot (dMeth 0 "first_good" i_3 2 (dVar 0) (daCons (dVar 1) (daCons (dVar 2) (daNil)))) (dC .non) fn [.val (.obj k), .val (eT D.int c), .val (.int ((l1 + 1 : Nat) : Int))] (hM m h0 es) = .ok (.bl (fgood l1 c).isSome) (hM m h0 es1) := by
        refine x_op2 (x_meth (x_var rfl) (hi es) (okn_ne (by decide +kernel)) (xa_cons (x_var rfl) (xa_cons (x_var rfl) xa_nil)) rfl rfl q1) x_c ?_
        cases fgood l1 c <;> rfl
      have hput := z_asg (fn := fn) hcall rfl (g_dic (T := TC) (k := (c, l1 + 1)) (es := es1) (v := (fgood l1 c).isSome) sf.lt (Nat.le_trans g1.len (by decide)) (hfld es1) (hkey _))
      have fk : FrK (T := TC) l1 (c, l1 + 1) es (mput es1 (c, l1 + 1) (fgood l1 c).isSome) := (FrK.refl.call f1).put g1.nd
      have hg2 : mget (mput es1 (c, l1 + 1) (fgood l1 c).isSome) (c, l1 + 1) = some (fgood l1 c).isSome := mget_put g1.nd
      have gg := fk.good g (g1.put (k := (c, l1 + 1)) ⟨o, hl⟩ fun z => absurd z (by show ¬ (l1 + 1 ≤ l1); omega)) hg2 hv.symm
      refine j_seq (h1 := hM m h0 (mput es1 (c, l1 + 1) (fgood l1 c).isSome)) (env1 := [.val (.obj k), .val (eT D.int c), .val (.int ((l1 + 1 : Nat) : Int))]) (by rw [e_sIf, t_B e3, ok_bind, if_pos (by rfl)]; exact hput) (j_ret (hget _ _ hg2) rfl ⟨by rw [hv], rfl, _, gg, fk.frame (Nat.le_refl _), rfl⟩)
end EV
/-! EV100: instances that keep a memo alone -/
/-! EV132: a memo chosen by what is at hand; instances with more fields than a memo -/
namespace EV
open PySem L2
/-- what m does, m chosen by the slots and the cells -/
def sChoose {α : Type} (c : Ev → Cells → α) (m : α → DS) : DS := fun fn env h => m (c env h) fn env h
section
variable {X : Cx} {G : Gx} {g0 : Gh} {H0 : Hp}
theorem ss_choose {α : Type} {c : Ev → Cells → α} {m : α → DS} {sts : List Stmt} (h : ∀ a, PSs X sts (tS X G g0 H0 (m a))) : PSs X sts (tS X G g0 H0 (sChoose c m)) :=
  ⟨fun pins s σ H D I ⟨g, own, env, hh, o, r, l, n, p⟩ => (h (c env hh)).run pins s σ H D I ⟨g, own, env, hh, o, r, l, n, p⟩⟩
end
@[simp] theorem e_sChoose {α : Type} {c : Ev → Cells → α} {m : α → DS} {fn : Fns} {env : Ev} {h : Cells} : sChoose c m fn env h = m (c env h) fn env h := (rfl)
/-! ### instances -/
structure SelfF (c : Nat) (fs : List (Str × D)) (k m : Nat) (h : Cells) : Prop where
  ins : h[k]? = some (.ins c fs)
  kn : fs.lookup okn = some (.obj m)
  lt : m < h.length
  ne : k ≠ m
section
variable {fn : Fns} {env : Ev} {h h1 : Cells} {c i k m n : Nat} {M : Memo} {fs : List (Str × D)}
theorem SelfF.of (s : SelfF c fs k m h) : insOf c h (.obj k) = some (k, fs) := by
  unfold insOf
  dsimp only
  rw [s.ins]
  dsimp only
  rw [if_pos rfl]
theorem SelfF.set (s : SelfF c fs k m h) (o : OB) : insOf c (h.set m o) (.obj k) = some (k, fs) := by
  unfold insOf
  dsimp only
  rw [List.getElem?_set_ne (Ne.symm s.ne), s.ins]
  dsimp only
  rw [if_pos rfl]
end
end EV
/-! EV135: memos that are asked: `if .. memo.get(k, d) ..: ..; rest`, both ways lead to the same; a memo that stays closed when it is written -/
namespace EV
open PySem L2
def cGetD (x y z : D) (h : Cells) : R D := match dicOf h x, dicKey y with
  | some kvs, some k => .ok ((dicAt kvs k).getD z) h
  | _, _ => .bad
/-- o.get(k, d) -/
def dGetD (a b c : DE) : DE := fun fn env h => (a fn env h).bind fun x h1 => if (dicOf h1 x).isSome = true then (b fn env h1).bind fun y h2 => (c fn env h2).bind fun z h3 => cGetD x y z h3 else .bad
@[simp] theorem e_dGetD {a b c : DE} {fn : Fns} {env : Ev} {h : Cells} : dGetD a b c fn env h = (a fn env h).bind fun x h1 => if (dicOf h1 x).isSome = true then (b fn env h1).bind fun y h2 => (c fn env h2).bind fun z h3 => cGetD x y z h3 else .bad := (rfl)
open Classical in
/-- a memo is written, and stays what it was -/
noncomputable def putDicC (y k v : D) (env : Ev) (h : Cells) : R (Fl × Ev) := match y with
  | .obj n => match h[n]? with
    | some (.mem M) => match dicKey k with
      | some q => if p : ((lowD 0 k = true ∧ lowD 0 v = true) ∧ noLst k = true ∧ noLst v = true) ∧ isBor v = false ∧ (∀ kvs, M.P kvs → (kvs.all fun p => isTup p.1) = true ∧ kvs.length < szL) ∧ ∀ kvs, M.P kvs → M.P (dicPut kvs k q v) then .ok (.nx, env) h else .bad
      | none => .bad
    | _ => putDic y k v env h
  | _ => putDic y k v env h
noncomputable def gDicC (a b : DE) : DG := fun d fn env h => (a fn env h).bind fun y h1 => (b fn env h1).bind fun k h2 => putDicC y k d env h2
section
variable {X : Cx} {G : Gx} {g g' g0 : Gh} {H H' H0 : Hp} {h h' : Cells} {own : Nat → Option Addr} {env : Ev} {σ : L2.St}
theorem s_getD {o k d : Expr} {da db dc : DE} {apos cpos : Pos} (hu : X.A.units + 65 < cLine) (ha : PE X o (tD X G da)) (hb : PE X k (tD X G db)) (hc : PE X d (tD X G dc)) (hst : isStar k = false) (hst2 : isStar d = false) (hl : (apos.endLine == cpos.line) = true)
    (hbase : attributeBase o "get" X.env (eval o X.env) = eval o X.env := by rfl) : PE X (.Call (.Attribute o "get" apos) [k, d] [] cpos) (tD X G (dGetD da db dc)) := by
  refine ⟨fun pins s σ H Q I q => ?_⟩
  refine wpAny_Call_method_late hbase (few_ok (by simp [noStars, hst, hst2]) (by show 2 < 30; decide)) hl rfl ?_
  refine thn (ha.run pins s σ H (fun x H1 => ∃ a, x = .ref a ∧ (∃ g n kvs h, GOk X G g ∧ HRel X.prog X.w g H1 h ∧ RelT g H1 (.obj n) (.ref a) ∧ dicOf h (.obj n) = some kvs) ∧ (tD X G db σ H1 fun y H2 => tD X G dc σ H2 fun z H3 => ∃ g h n d e v, GOk X G g ∧ HRel X.prog X.w g H3 h ∧ RelT g H3 (.obj n) (.ref a) ∧ RelT g H3 d y ∧ RelT g H3 e z ∧ v = z ∧ Post X G g H3 (cGetD (.obj n) d e h) fun g' H' r _ => ∀ v, RelT g' H' r v → Q v H')) I ?_) fun u s1 ⟨x, H1, I1, rx, q1⟩ => ?_
  · refine tG.bind (f := fun fn env x h1 => if (dicOf h1 x).isSome = true then (db fn env h1).bind fun y h2 => (dc fn env h2).bind fun z h3 => cGetD x y z h3 else .bad) q fun g own env h H1 d v og r l qd p1 => ?_
    split at p1
    · rename_i hs
      obtain ⟨kvs, hk⟩ := Option.isSome_iff_exists.mp hs
      cases d with
      | obj n =>
        obtain ⟨a, rfl, e1⟩ := (show ∃ a, v = .ref a ∧ g.ρ[n]? = some a from qd)
        refine ⟨a, rfl, ⟨g, n, kvs, h, og, r, qd, hk⟩, ?_⟩
        refine tG.mk og r l ((Post.bind p1).imp fun g2 H2 d2 h2 e2 r2 p2 v2 q2 => ?_)
        refine tG.mk (og.ext e2) r2 (l.step r e2) ((Post.bind p2).imp fun g3 H3 d3 h3 e3 r3 p3 v3 q3 => ?_)
        exact ⟨g3, h3, n, d2, d3, v3, (og.ext e2).ext e3, r3, RelT.ext r2 e3 (RelT.ext r e2 qd), RelT.ext r2 e3 q2, q3, rfl, p3⟩
      | _ => cases hk
    · exact p1.elim
  · obtain ⟨a, rfl, ⟨g, n, kvs, h, og, r, qd, hk⟩, q2⟩ := q1
    cases (show u = Value.ref a from rx)
    obtain ⟨a', n', xs, ea, _, _, _, hs, hz, hm, _, rel⟩ := dic_ok I1 og r qd hk
    cases ea
    obtain ⟨ob, _, _, ho, hex, _⟩ := hm
    refine ⟨"dict", "dict.get", PySem.F.plainAttrs_dict, PySem.F.slot_dict_get, PySem.F.type_dict_get, ⟨ob, ho, hex.1⟩, fun b e => ?_, ?_⟩
    · cases e
      exact ⟨ob, ho, hex.2.1⟩
    · rw [star_cons hst, star_cons hst2]
      refine wpAny_dict_get2_heap (room9 hu) hs ?_
      refine thn (hb.run pins s1 σ H1 _ I1 q2) fun ku s2 ⟨y, H2, I2, ry, q3⟩ => ?_
      refine thn (hc.run pins s2 σ H2 _ I2 q3) fun du s3 ⟨z, H3, I3, rz, q4⟩ => ?_
      obtain ⟨g, h, n, d, e, v, og, r, qd, qk, qz, rfl, p⟩ := q4
      unfold cGetD at p
      split at p
      · rename_i kvs k h1 h2
        obtain ⟨a2, n2, xs, ea, _, _, _, hs, hz, hm, _, rel⟩ := dic_ok I3 og r qd h1
        cases ea
        obtain ⟨b, rfl, rfl, q5, hk⟩ := dicKey_ref og I3 h2 qk ry
        refine ⟨b, k, xs, rfl, hk, hm, ?_⟩
        rcases rel.get k with ⟨e1, e2⟩ | ⟨d', p', v', e1, e2, e3, e4⟩
        · rw [e1] at p
          rw [e2]
          exact ⟨v, H3, I3.tok _, rz, Post.val r qz p⟩
        · rw [e1] at p
          rw [e2]
          exact ⟨v', H3, I3.tok _, e3, Post.val r e4.t p⟩
      · exact p.elim
def rPutC (X : Cx) (G : Gx) (g0 : Gh) (H0 : Hp) (σ : L2.St) (Dn : Ends) : V → V → V → Hp → (Hp → Prop) → Prop := fun o i v H Q => ∃ g own env h y k d, GOk X G g ∧ HRel X.prog X.w g H h ∧ LR g own env σ H ∧ Ent g0 H0 g H own ∧ RelT g H y o ∧ RelT g H k i ∧ RelS g H d v ∧
  Q = Dn.nx σ ∧ PostS X G g0 H0 g H (putDicC y k d env h) Dn
theorem rPut_C {σ : L2.St} {Dn : Ends} {o i v : V} {Q : Hp → Prop} (q : rPutC X G g0 H0 σ Dn o i v H Q) : rPut X G g0 H0 σ Dn o i v H Q := by
  obtain ⟨g, own, env, h, y, k, d, og, r, l, n0, qy, qk, qd, rfl, p⟩ := q
  cases y with
  | obj n =>
    unfold putDicC at p
    dsimp only at p
    split at p
    · rename_i M hM
      split at p
      · rename_i q hq
        split at p
        · rename_i hp
          have hm := (List.getElem?_eq_some_iff.mp hM).1
          obtain ⟨kvs, h1, r1⟩ := r.open_ hM
          obtain ⟨c1, c2⟩ := hp.2.2.1 kvs h1
          refine ⟨g, own, env, h.set n (.dic kvs), .obj n, k, d, og, r1, l, n0, qy, qk, qd, rfl, ?_⟩
          have ed : putDic (.obj n) k d env (h.set n (.dic kvs)) = .ok (.nx, env) (h.set n (.dic (dicPut kvs k q d))) := by
            unfold putDic dicOf
            dsimp only
            rw [List.getElem?_set_self hm]
            dsimp only
            rw [if_pos c1, hq]
            dsimp only
            rw [if_neg, List.set_set]
            rw [hp.2.1, Bool.false_or, decide_eq_true_eq]
            omega
          rw [ed]
          intro g' own' H' σ' og' r' l' en' ex'
          have r2 := HRel.toMem (M := M) hm (hp.2.2.2 kvs h1) r'
          rw [set_same hM] at r2
          exact p g' own' H' σ' og' r2 l' en' ex'
        · exact p.elim
      · exact p.elim
    · exact ⟨g, own, env, h, .obj n, k, d, og, r, l, n0, qy, qk, qd, rfl, p⟩
  | _ => exact ⟨g, own, env, h, _, k, d, og, r, l, n0, qy, qk, qd, rfl, p⟩
theorem s_pgDicC {a b : Expr} {da db : DE} {sp : Pos} (hu : X.A.units + 65 < cLine) (ha : PE X a (tD X G da)) (hb : PE X b (tD X G db)) (hsl : isSlice b = false) :
    PG X (.Subscript a b sp) (tPG X G g0 H0 (gDicC da db)) := by
  refine ⟨fun pins s σ H v u Q I rv q => ?_⟩
  obtain ⟨g, own, env, h, d, og, r, l, n0, qd, Dn, rfl, k⟩ := q
  have ea : ∀ v, assign (.Subscript a b sp) X.env v = (do
      let ov ← holding [v] (eval a X.env)
      let iv ← holding [v, ov] (eval b X.env)
      standAt sp
      holding [v, ov, iv] (setItem ov iv v)
      release [v, ov, iv] []) := fun _ => by cases b <;> first | rfl | (simp [isSlice] at hsl)
  rw [ea]
  unfold gDicC at k
  refine wpAny_bind (wpAny_holding (thn (ha.run pins s σ H (fun o H1 => tD X G db σ H1 fun i H2 => rPutC X G g0 H0 σ Dn o i v H2 (Dn.nx σ)) I ?_) fun ov s1 ⟨x, H1, I1, r1, q1⟩ => ?_))
  · refine ⟨g, own, env, h, og, r, l, (Post.stmt r n0 k).imp fun g1 H1 y h1 e1 r1 k1 vy qy => ?_⟩
    refine ⟨g1, own, env, h1, og.ext e1, r1, l.step r e1, (Post.stmt r1 (n0.step e1) k1).imp fun g2 H2 kd h2 e2 r2 k2 vk qk => ?_⟩
    exact ⟨g2, own, env, h2, y, kd, d, (og.ext e1).ext e2, r2, (l.step r e1).step r1 e2, (n0.step e1).step e2, RelT.ext r1 e2 qy, qk, RelS.ext r1 e2 (RelS.ext r e1 qd), rfl, k2⟩
  · refine wpAny_bind (wpAny_holding (thn (hb.run pins s1 σ H1 _ I1 q1) fun iv s2 ⟨y, H2, I2, r2, q2⟩ => ?_))
    refine wpAny_bind (wpAny_standAt (wpAny_bind (wpAny_holding (thn (set_dic hu I2 r1 r2 rv (rPut_C q2)) fun _ s3 ⟨H3, I3, q3⟩ => ?_))))
    exact wpAny_release ⟨σ, H3, I3, q3⟩
end
/-! ### if .. memo ..: ..; rest -/
noncomputable def litQ (t : DT) (BODY REST : DS) (m : Nat) (M : Memo) : DS := sSeq (sIf t (sCl m M BODY) sNext) (sCl m M REST)
def MemQ (t : DT) (BODY REST : DS) (m : Nat) (M : Memo) (fn : Fns) (env : Ev) (h : Cells) (v : D) : Prop :=
  ∀ kvs, M.P kvs → ∃ env' h', litQ t BODY REST m M fn env (h.set m (.dic kvs)) = .ok (.rt v, env') h' ∧ env'.length = env.length ∧ BackK m M h h'
open Classical in
/-- if t (of an open memo): BODY; REST: they return the same, whatever the memo holds -/
noncomputable def memQ (at_ : Ev → Cells → Option (Nat × Memo)) (t : DT) (BODY REST : DS) : DS := fun fn env h => match at_ env h with
  | some (m, M) => if p : ∃ v, MemQ t BODY REST m M fn env h v then .ok (.rt (choose p), noEnv env) h else .bad
  | none => .bad
section
variable {X : Cx} {G : Gx} {g g' g0 : Gh} {H H' H0 : Hp} {h h' : Cells} {own : Nat → Option Addr} {env : Ev} {σ : L2.St}
theorem tS.memQ {at_ : Ev → Cells → Option (Nat × Memo)} (ha : AtOk at_) {t : DT} {BODY REST : DS} {Dn : Ends} (q : tS X G g0 H0 (memQ at_ t BODY REST) Dn σ H) : ∃ x : Nat × Memo, tS X G g0 H0 (litQ t BODY REST x.1 x.2) Dn σ H := by
  obtain ⟨g, own, env, h, og, r, l, en, p⟩ := q
  unfold EV.memQ at p
  split at p
  · rename_i m M em
    have e := ha _ _ _ _ em
    split at p
    · rename_i hv
      have hf := Classical.choose_spec hv
      obtain ⟨kvs, h1, r1⟩ := r.open_ e
      obtain ⟨env', h', e2, hn, bk⟩ := hf kvs h1
      refine ⟨(m, M), g, own, env, h.set m (.dic kvs), og, r1, l, en, ?_⟩
      dsimp only
      rw [e2]
      intro g' own' H' σ' og' r' l' en' ex'
      have r2 := bk.rel e r'
      have q := p g' (fun _ => none) H' σ' og' r2
        { len := by
            rw [noEnv, List.length_map, ← hn]
            exact l'.len
          inj := fun i j a z => by cases z
          ow := fun i a z => by cases z
          sl := fun i s z => by
            rw [noEnv, List.getElem?_map] at z
            obtain ⟨_, _, rfl⟩ := Option.map_eq_some_iff.mp z
            trivial }
        ⟨en'.ext, fun i a z => by cases z⟩ ex'
      exact q
    · exact p.elim
  · exact p.elim
theorem ss_memQ {at_ : Ev → Cells → Option (Nat × Memo)} (ha : AtOk at_) {c : Expr} {body rest : List Stmt} {pos : Pos} {t : DT} {BODY REST : DS} (hc : PT X c (tT X G t)) (hb : PSs X body (tS X G g0 H0 BODY)) (hr : PSs X rest (tS X G g0 H0 REST)) :
    PSs X (.If c body [] pos :: rest) (tS X G g0 H0 (memQ at_ t BODY REST)) :=
  PSs.imp (PSs.ex (t := fun x : Nat × Memo => tS X G g0 H0 (litQ t BODY REST x.1 x.2)) fun x => ss_cons (s_ifS hc (PSs.imp hb fun _ _ _ q => tS.cl q) ss_nil) (PSs.imp hr fun _ _ _ q => tS.cl q)) fun _ _ _ q => tS.memQ ha q
end
theorem memQ_eq {at_ : Ev → Cells → Option (Nat × Memo)} {t : DT} {BODY REST : DS} {m : Nat} {M : Memo} {fn : Fns} {env : Ev} {h : Cells} {v : D} (ea : at_ env h = some (m, M)) (k : MemQ t BODY REST m M fn env h v) : memQ at_ t BODY REST fn env h = .ok (.rt v, noEnv env) h := by
  have p : ∃ v, MemQ t BODY REST m M fn env h v := ⟨v, k⟩
  have hc := Classical.choose_spec p
  unfold memQ
  rw [ea]
  dsimp only
  rw [dif_pos p]
  obtain ⟨k0, p0⟩ := M.inh
  obtain ⟨e1, h1, q1, _, _⟩ := hc k0 p0
  obtain ⟨e2, h2, q2, _, _⟩ := k k0 p0
  rw [q1] at q2
  injection q2 with q2
  injection q2 with q2
  injection q2 with q2
  rw [q2]
/-- both ways return v -/
theorem j_memQ {at_ : Ev → Cells → Option (Nat × Memo)} {t : DT} {BODY REST : DS} {m : Nat} {M : Memo} {fn : Fns} {env : Ev} {h : Cells} {v : D} (ea : at_ env h = some (m, M)) (hm : h[m]? = some (.mem M))
    (tt : ∀ kvs, M.P kvs → ∃ b, t fn env (h.set m (.dic kvs)) = .ok b (h.set m (.dic kvs)) ∧ (b = true → ∃ env', BODY fn env h = .ok (.rt v, env') h ∧ env'.length = env.length) ∧ (b = false → ∃ env', REST fn env h = .ok (.rt v, env') h ∧ env'.length = env.length)) :
    memQ at_ t BODY REST fn env h = .ok (.rt v, noEnv env) h := by
  have hl := (List.getElem?_eq_some_iff.mp hm).1
  have cl : ∀ kvs, M.P kvs → ∀ S : DS, sCl m M S fn env (h.set m (.dic kvs)) = S fn env h := fun kvs p S => by
    unfold sCl
    rw [List.getElem?_set_self hl]
    dsimp only
    rw [if_pos p, List.set_set, set_same hm]
  refine memQ_eq ea fun kvs p => ?_
  obtain ⟨b, e1, h1, h2⟩ := tt kvs p
  unfold litQ
  rw [e_sSeq, e_sIf, e1, ok_bind]
  cases b with
  | true =>
    obtain ⟨env', e2, e3⟩ := h1 rfl
    exact ⟨env', h, by rw [if_pos rfl, cl kvs p, e2, ok_bind], e3, .inr ⟨M, fun _ q => q, (set_same hm).symm⟩⟩
  | false =>
    obtain ⟨env', e2, e3⟩ := h2 rfl
    refine ⟨env', h, ?_, e3, .inr ⟨M, fun _ q => q, (set_same hm).symm⟩⟩
    rw [if_neg (by decide), e_sNext, ok_bind]
    dsimp only
    rw [cl kvs p, e2]
end EV
/-! EVM_half: half-found, for yes (true), for no (false); memos of marks, a memo of truths -/
namespace EV
open PySem L2
def hb (y : Bool) (c q : List Int) : List Int × List Int := if y = true then (t_behind_yes c q, t_rest_of c q) else (q, t_behind_no c q)
def hfnd (y : Bool) : Nat → List Int → Bool
  | 0, c => t_is_settled_of c
  | l + 1, c => t_is_settled_of c || (t_questions_of c).any fun q => hfnd y l (hb y c q).1 && hfnd y l (hb y c q).2
theorem q_ok {c q : List Int} (o : COk c) (h : QOk c q) : COk q := by
  have l := h.len
  have l1 := o.l1
  have l4 := o.l4
  have r := h.rest
  have s := sum_n0 r.1.nn
  have sm := o.sm
  exact ⟨by omega, by omega, h.nn, by omega⟩
theorem hb_ok {y : Bool} {c q : List Int} (o : COk c) (h : QOk c q) : COk (hb y c q).1 ∧ COk (hb y c q).2 := by
  cases y
  · exact ⟨q_ok o h, (no_ok o h).1⟩
  · exact ⟨(yes_ok o h).1, q_ok o h.rest.1⟩
theorem yes_sum {c q : List Int} (o : COk c) (h : QOk c q) : q.sum ≤ (t_behind_yes c q).sum ∧ (t_behind_yes c q).sum ≤ c.sum := by
  obtain ⟨r1, r2⟩ := h.rest
  have hl : (t_rest_of c q).length = c.length := r1.len
  have l1 := o.l1
  have hlen : q.length = (0 :: (t_rest_of c q).dropLast).length := by
    rw [List.length_cons, List.length_dropLast, hl, h.len]; omega
  rw [yes_eq, sum_zip_add hlen, List.sum_cons]
  have a := dropLast_sum r1.nn
  have b : 0 ≤ (t_rest_of c q).dropLast.sum := sum_n0 fun x m => r1.nn x (List.dropLast_subset _ m)
  omega
theorem hb_sum {y : Bool} {c q : List Int} (o : COk c) (h : QOk c q) : c.sum ≤ (hb y c q).1.sum + (hb y c q).2.sum ∧ (hb y c q).1.sum ≤ c.sum ∧ (hb y c q).2.sum ≤ c.sum := by
  have r := h.rest
  have q0 := sum_n0 h.nn
  have r0 := sum_n0 r.1.nn
  cases y
  · have := yes_sum o r.1
    show c.sum ≤ q.sum + (t_behind_yes c (t_rest_of c q)).sum ∧ q.sum ≤ c.sum ∧ (t_behind_yes c (t_rest_of c q)).sum ≤ c.sum
    omega
  · have := yes_sum o h
    show c.sum ≤ (t_behind_yes c q).sum + (t_rest_of c q).sum ∧ (t_behind_yes c q).sum ≤ c.sum ∧ (t_rest_of c q).sum ≤ c.sum
    omega
theorem hfnd_settled {y : Bool} {l : Nat} {c : List Int} (h : c.sum ≤ 1) : hfnd y l c = true := by
  have : t_is_settled_of c = true := by unfold t_is_settled_of; simpa using h
  cases l <;> simp [hfnd, this]
theorem hfnd_iff {y : Bool} {l : Nat} {c : List Int} : hfnd y (l + 1) c = true ↔ c.sum ≤ 1 ∨ ∃ q, QOk c q ∧ hfnd y l (hb y c q).1 = true ∧ hfnd y l (hb y c q).2 = true := by
  rw [hfnd, Bool.or_eq_true, List.any_eq_true]
  constructor
  · rintro (h | ⟨q, m, z⟩)
    · exact .inl (by simpa [t_is_settled_of] using h)
    · rw [Bool.and_eq_true] at z
      exact .inr ⟨q, mem_questions.mp m, z.1, z.2⟩
  · rintro (h | ⟨q, m, z1, z2⟩)
    · exact .inl (by simpa [t_is_settled_of] using h)
    · exact .inr ⟨q, mem_questions.mpr m, by rw [z1, z2]; rfl⟩
theorem hfnd_more {y : Bool} : ∀ {l : Nat} {c : List Int}, hfnd y l c = true → hfnd y (l + 1) c = true
  | 0, c, h => hfnd_settled (by simpa [hfnd, t_is_settled_of] using h)
  | l + 1, c, h => by
    rcases hfnd_iff.mp h with h | ⟨q, hq, a, b⟩
    · exact hfnd_settled h
    · exact hfnd_iff.mpr (.inr ⟨q, hq, hfnd_more a, hfnd_more b⟩)
theorem hfnd_le {y : Bool} {l m : Nat} {c : List Int} (h : l ≤ m) (f : hfnd y l c = true) : hfnd y m c = true := by
  obtain ⟨d, rfl⟩ : ∃ d, m = l + d := ⟨m - l, by omega⟩
  clear h
  induction d with
  | zero => exact f
  | succ d ih => exact hfnd_more ih
theorem hfnd_sum {y : Bool} : ∀ {l : Nat} {c : List Int}, COk c → hfnd y l c = true → c.sum ≤ 2 ^ l
  | 0, c, _, h => by have : c.sum ≤ 1 := by simpa [hfnd, t_is_settled_of] using h
                     exact this
  | l + 1, c, o, h => by
    have p : (1 : Int) ≤ 2 ^ l := by have := Nat.one_le_two_pow (n := l); exact_mod_cast this
    rw [Int.pow_succ]
    rcases hfnd_iff.mp h with h | ⟨q, hq, a, b⟩
    · omega
    · have z := hb_ok (y := y) o hq
      have := hfnd_sum z.1 a
      have := hfnd_sum z.2 b
      have := hb_sum (y := y) o hq
      omega
/-! ### marks: counts and a number -/
abbrev kI (c : List Int) : D := .tup (c.map D.int)
abbrev kIk (c : List Int) : NestedKey := .tup (c.map NestedKey.num)
theorem kI_key (c : List Int) : D.key (kI c) = some (kIk c) := by simp only [kI, D.key, keys_ints, Option.map_some]
theorem kI_ok (c : List Int) : dicKey (kI c) = some (kIk c) := by
  have d : (kIk c).depth ≤ 8 := by simp only [kIk, NestedKey.depth, depth_ints]; decide
  show (match D.key (.tup _) with
    | some k => if k.depth ≤ 8 then some k else none
    | none => none) = _
  rw [kI_key]
  dsimp only
  rw [if_pos d]
theorem kI_inj {a b : List Int} (e : kIk a = kIk b) : a = b := num_inj (by simpa [kIk] using e)
abbrev Mark := List Int × Int
def encM (e : Mark) : D × D := (kI e.1, .int e.2)
structure MkOk (Φ : List Int → Int → Prop) (es : List Mark) : Prop where
  nd : (es.map (·.1)).Nodup
  ok : ∀ e ∈ es, COk e.1 ∧ Φ e.1 e.2
def mkGet (es : List Mark) (c : List Int) : Option Int := (es.find? fun e => decide (e.1 = c)).map (·.2)
def mkPut (es : List Mark) (c : List Int) (v : Int) : List Mark := if (mkGet es c).isSome then es.map fun e => if e.1 = c then (e.1, v) else e else es ++ [(c, v)]
theorem mkGet_some {es : List Mark} {c : List Int} {v : Int} (e : mkGet es c = some v) : (c, v) ∈ es := by
  unfold mkGet at e
  obtain ⟨x, h1, h2⟩ := Option.map_eq_some_iff.mp e
  have h3 := List.mem_of_find?_eq_some h1
  have h4 := List.find?_some h1
  simp only [decide_eq_true_eq] at h4
  rw [← h4, ← h2]; exact h3
theorem mkGet_none {es : List Mark} {c : List Int} : mkGet es c = none ↔ c ∉ es.map (·.1) := by
  unfold mkGet
  rw [Option.map_eq_none_iff, List.find?_eq_none]
  simp only [decide_eq_true_eq, List.mem_map, not_exists, not_and]
theorem dicAt_mk (es : List Mark) (c : List Int) : dicAt (es.map encM) (kIk c) = (mkGet es c).map D.int := by
  induction es with
  | nil => rfl
  | cons e es ih =>
    by_cases z : e.1 = c
    · have a1 : dicAt ((e :: es).map encM) (kIk c) = some (.int e.2) := by simp [dicAt, encM, List.find?_cons, kI_key, z]
      have a2 : mkGet (e :: es) c = some e.2 := by simp [mkGet, List.find?_cons, z]
      rw [a1, a2]; rfl
    · have z' : ¬ kIk e.1 = kIk c := fun q => z (kI_inj q)
      have a1 : dicAt ((e :: es).map encM) (kIk c) = dicAt (es.map encM) (kIk c) := by simp only [dicAt, encM, List.map_cons, List.find?_cons, kI_key, Option.some.injEq, z', decide_false]
      have a2 : mkGet (e :: es) c = mkGet es c := by simp [mkGet, List.find?_cons, z]
      rw [a1, a2, ih]
theorem dicPut_mk (es : List Mark) (c : List Int) (v : Int) : dicPut (es.map encM) (kI c) (kIk c) (.int v) = (mkPut es c v).map encM := by
  unfold dicPut mkPut
  rw [dicAt_mk, Option.isSome_map]
  split
  · rw [List.map_map, List.map_map]
    refine List.map_congr_left fun e _ => ?_
    simp only [Function.comp, encM, kI_key]
    by_cases z : e.1 = c
    · simp [z]
    · have z' : ¬ kIk e.1 = kIk c := fun q => z (kI_inj q)
      simp only [Option.some.injEq, z', z, if_false]
  · simp [encM]
theorem MkOk.put {Φ : List Int → Int → Prop} {es : List Mark} (a : MkOk Φ es) {c : List Int} {v : Int} (o : COk c) (h : Φ c v) : MkOk Φ (mkPut es c v) := by
  unfold mkPut
  split
  · refine ⟨?_, fun e m => ?_⟩
    · have : (es.map fun e => if e.1 = c then (e.1, v) else e).map (·.1) = es.map (·.1) := by
        rw [List.map_map]
        refine List.map_congr_left fun e _ => ?_
        simp only [Function.comp]
        split <;> rfl
      rw [this]; exact a.nd
    · obtain ⟨x, hx, rfl⟩ := List.mem_map.mp m
      split
      · rename_i z
        rw [z]; exact ⟨o, h⟩
      · exact a.ok x hx
  · rename_i z
    have hn : mkGet es c = none := by cases e : mkGet es c with
      | none => rfl
      | some _ => rw [e] at z; exact absurd rfl z
    rw [mkGet_none] at hn
    refine ⟨?_, fun e m => ?_⟩
    · rw [List.map_append, List.nodup_append]
      refine ⟨a.nd, by simp, fun x hx y hy e => ?_⟩
      have : y = c := by simpa using hy
      subst this; subst e
      contradiction
    · rcases List.mem_append.mp m with m | m
      · exact a.ok e m
      · rw [List.mem_singleton] at m
        subst m; exact ⟨o, h⟩
theorem MkOk.len {Φ : List Int → Int → Prop} {es : List Mark} (a : MkOk Φ es) : es.length ≤ 234256 := by
  have nd := a.nd
  have hd : ∀ c ∈ es.map (·.1), COk c := fun c hc => by
    obtain ⟨e, he, rfl⟩ := List.mem_map.mp hc
    exact (a.ok e he).1
  have h1 : ((es.map (·.1)).map cdL).Nodup := by
    generalize es.map (·.1) = ks at nd hd
    induction ks with
    | nil => exact List.nodup_nil
    | cons k ks ih =>
      rw [List.nodup_cons] at nd
      rw [List.map_cons, List.nodup_cons]
      refine ⟨fun hm => ?_, ih nd.2 fun j hj => hd j (.tail _ hj)⟩
      obtain ⟨j, hj, e⟩ := List.mem_map.mp hm
      exact nd.1 (cdL_inj (hd j (.tail _ hj)).bd (hd k (.head _)).bd e ▸ hj)
  have := nodup_bound 234256 _ h1 fun x hx => by
    obtain ⟨k, hk, rfl⟩ := List.mem_map.mp hx
    have o := hd k hk
    have b : 22 ^ k.length ≤ 22 ^ 4 := Nat.pow_le_pow_right (by decide) o.l4
    exact Nat.lt_of_lt_of_le (cdL_lt o.bd) b
  simpa using this
def memoMk (Φ : List Int → Int → Prop) : Memo := ⟨fun kvs => ∃ es : List Mark, kvs = es.map encM ∧ MkOk Φ es, ⟨[], [], rfl, List.nodup_nil, (fun e m => by cases m)⟩, fun kvs k p m => by
  obtain ⟨es, rfl, _⟩ := k
  obtain ⟨e, _, rfl⟩ := List.mem_map.mp m
  exact ⟨⟨by simp [encM, lowD, lowDs_map], rfl⟩, by simp [encM, noLst, noLsts_ints], rfl⟩⟩
instance {Φ : List Int → Int → Prop} : NilM (memoMk Φ) := ⟨[], rfl, List.nodup_nil, (fun e m => by cases m)⟩
theorem all_tupM (es : List Mark) : ((es.map encM).all fun p => isTup p.1) = true := by
  rw [List.all_map, List.all_eq_true]
  exact fun e _ => rfl
section
variable {Φ : List Int → Int → Prop} {fn : Fns} {env : Ev} {h h1 : Cells} {m : Nat} {a b d : DE}
/-- memo.get(c, z): z, or a mark -/
theorem x_getMk {kvs : List (D × D)} {c : List Int} {z : Int} (p : (memoMk Φ).P kvs) (hm : m < h.length) (ha : ∀ o, a fn env (h.set m o) = .ok (.obj m) (h.set m o)) (hb : ∀ o, b fn env (h.set m o) = .ok (kI c) (h.set m o)) (hd : ∀ o, d fn env (h.set m o) = .ok (.int z) (h.set m o)) :
    ∃ v, dGetD a b d fn env (h.set m (.dic kvs)) = .ok (.int v) (h.set m (.dic kvs)) ∧ (v = z ∨ Φ c v) := by
  obtain ⟨es, rfl, ok⟩ := p
  have e0 : dicOf (h.set m (.dic (es.map encM))) (.obj m) = some (es.map encM) := by
    unfold dicOf
    dsimp only
    rw [List.getElem?_set_self hm]
    dsimp only
    rw [if_pos (all_tupM es)]
  refine ⟨(mkGet es c).getD z, ?_, ?_⟩
  · rw [e_dGetD, ha, ok_bind, e0, if_pos (by rfl), hb, ok_bind, hd, ok_bind]
    unfold cGetD
    rw [e0, kI_ok]
    dsimp only
    rw [dicAt_mk]
    cases mkGet es c <;> rfl
  · cases e : mkGet es c with
    | none => exact .inl rfl
    | some v => exact .inr (ok.ok _ (mkGet_some e)).2
/-- memo[c] = v, true of c -/
theorem g_dicC {c : List Int} {v : Int} (hm : h[m]? = some (.mem (memoMk Φ))) (o : COk c) (hv : Φ c v) (ha : a fn env h = .ok (.obj m) h) (hb : b fn env h = .ok (kI c) h) : gDicC a b (.int v) fn env h = .ok (.nx, env) h := by
  unfold gDicC
  rw [ha, ok_bind, hb, ok_bind]
  unfold putDicC
  dsimp only
  rw [hm]
  dsimp only
  rw [kI_ok]
  dsimp only
  rw [dif_pos]
  refine ⟨⟨⟨by simp [lowD, lowDs_map], rfl⟩, by simp [noLst, noLsts_ints], rfl⟩, rfl, ?_, ?_⟩
  · rintro kvs ⟨es, rfl, ok⟩
    refine ⟨all_tupM es, ?_⟩
    have := ok.len
    rw [List.length_map, szL]; omega
  · rintro kvs ⟨es, rfl, ok⟩
    exact ⟨_, dicPut_mk es c v, ok.put o hv⟩
end
def M_halfF (y : Bool) : Memo := memoMk fun c v => 0 ≤ v ∧ v ≤ 16 ∧ hfnd y v.toNat c = true
def M_halfN (y : Bool) : Memo := memoMk fun c v => 0 ≤ v ∧ v ≤ 16 ∧ hfnd y v.toNat c = false
instance {y : Bool} : NilM (M_halfF y) := inferInstanceAs (NilM (memoMk _))
instance {y : Bool} : NilM (M_halfN y) := inferInstanceAs (NilM (memoMk _))
def TCH (y : Bool) : MT := { TC with φ := fun k => hfnd y k.2 k.1 }
def M_halfK (y : Bool) : Memo := memoOf (TCH y)
instance {y : Bool} : NilM (M_halfK y) := inferInstanceAs (NilM (memoOf (TCH y)))
def strAt (env : Ev) (i : Nat) : Str := match env[i]? with
  | some (.val (.str s)) => s
  | _ => ""
def yesAt (env : Ev) (i : Nat) : Bool := decide (strAt env i = ("yes" : Str))
end EV
namespace EV
open PySem L2
def half_both_m (c_behind_yes c_rest_of c_behind_no : Nat) : DS := sSeq (sIf (dtB (dOp2 dEq (dVar 1) (dC (.str ("yes" : Str))))) (sRet (dTup (daCons (dCall c_behind_yes 2 0 [.p 0, .p 1] [] (daCons (dVar 0) (daCons (dVar 2) (daNil))) (daNil)) (daCons (dCall c_rest_of 2 0 [.p 0, .p 1] [] (daCons (dVar 0) (daCons (dVar 2) (daNil))) (daNil)) (daNil))))) (sNext)) (sRet (dTup (daCons (dVar 2) (daCons (dCall c_behind_no 2 0 [.p 0, .p 1] [] (daCons (dVar 0) (daCons (dVar 2) (daNil))) (daNil)) (daNil)))))
def t_half_both (counts_0 : (List Int)) (word_0 : SS) (question_0 : (List Int)) : ((List Int) × (List Int)) := if (decide (word_0 = (lit "yes"))) = true then (((t_behind_yes counts_0 question_0), (t_rest_of counts_0 question_0))) else ((question_0, (t_behind_no counts_0 question_0)))
def ST_half_both (f : Fn) : Prop := ∀ (counts_0 : (List Int)) (word_0 : SS) (question_0 : (List Int)), (lk : counts_0.length ≤ 100) → ∀ h, f [(eT D.int) counts_0, eS word_0, (eT D.int) question_0] h = .ok ((eP2 (eT D.int) (eT D.int)) (t_half_both counts_0 word_0 question_0)) h
theorem et_half_both {fn : Fns} {i_behind_yes i_rest_of i_behind_no : Nat} (c_behind_yes : ST_behind_yes (fn i_behind_yes)) (c_rest_of : ST_rest_of (fn i_rest_of)) (c_behind_no : ST_behind_no (fn i_behind_no)) : ST_half_both (bodyF 3 (half_both_m i_behind_yes i_rest_of i_behind_no) fn) := by
  intro counts_0 word_0 question_0 lk h
  refine b_ret (m := half_both_m i_behind_yes i_rest_of i_behind_no) (V := (fun (r : ((List Int) × (List Int))) => ((eP2 (eT D.int) (eT D.int)) r, h))) (r := t_half_both counts_0 word_0 question_0) ?_
  unfold t_half_both half_both_m
  show J _ fn [.val ((eT D.int) counts_0), .val (eS word_0), .val ((eT D.int) question_0)] _ _ _
  refine j_ifq (t_B (x_op2 (x_var rfl) (xv (eS (lit "yes")) x_c) (o_eqE (e := eS) (a := word_0) (b := (lit "yes")) (by decide)))) (fun hc1 => ?_) (fun hc1 => ?_)
  · skip
    refine j_re ?_
    exact j_ret (d := (eP2 (eT D.int) (eT D.int)) ((t_behind_yes counts_0 question_0), (t_rest_of counts_0 question_0))) (xv ((eP2 (eT D.int) (eT D.int)) ((t_behind_yes counts_0 question_0), (t_rest_of counts_0 question_0))) (x_tup (xa_cons (x_call (xa_cons (x_var rfl) (xa_cons (x_var rfl) xa_nil)) xa_nil (nb_cons rfl (nb_cons rfl nb_nil)) nb_nil rfl rfl rfl (c_behind_yes counts_0 question_0 (by /-half_both 1: behind_yes: pre 0-/first | assumption | omega | (dsimp only [lt] at *; omega) | (set_option maxHeartbeats 40000 in (simp; done)) | (set_option maxHeartbeats 40000 in (simp; omega)) | (set_option maxHeartbeats 40000 in (simp at *; omega)) | (set_option maxHeartbeats 40000 in (simp_all; done)) | (set_option maxHeartbeats 40000 in (simp_all; omega))) _)) (xa_cons (x_call (xa_cons (x_var rfl) (xa_cons (x_var rfl) xa_nil)) xa_nil (nb_cons rfl (nb_cons rfl nb_nil)) nb_nil rfl rfl rfl (c_rest_of counts_0 question_0 (by /-half_both 2: rest_of: pre 0-/first | assumption | omega | (dsimp only [lt] at *; omega) | (set_option maxHeartbeats 40000 in (simp; done)) | (set_option maxHeartbeats 40000 in (simp; omega)) | (set_option maxHeartbeats 40000 in (simp at *; omega)) | (set_option maxHeartbeats 40000 in (simp_all; done)) | (set_option maxHeartbeats 40000 in (simp_all; omega))) _)) xa_nil)) (nb_cons rfl (nb_cons rfl nb_nil)) rfl)) rfl ⟨rfl, rfl⟩
  · skip
    exact j_ret (d := (eP2 (eT D.int) (eT D.int)) (question_0, (t_behind_no counts_0 question_0))) (xv ((eP2 (eT D.int) (eT D.int)) (question_0, (t_behind_no counts_0 question_0))) (x_tup (xa_cons (x_var rfl) (xa_cons (x_call (xa_cons (x_var rfl) (xa_cons (x_var rfl) xa_nil)) xa_nil (nb_cons rfl (nb_cons rfl nb_nil)) nb_nil rfl rfl rfl (c_behind_no counts_0 question_0 (by /-half_both 3: behind_no: pre 0-/first | assumption | omega | (dsimp only [lt] at *; omega) | (set_option maxHeartbeats 40000 in (simp; done)) | (set_option maxHeartbeats 40000 in (simp; omega)) | (set_option maxHeartbeats 40000 in (simp at *; omega)) | (set_option maxHeartbeats 40000 in (simp_all; done)) | (set_option maxHeartbeats 40000 in (simp_all; omega))) _)) xa_nil)) (nb_cons rfl (nb_cons rfl nb_nil)) rfl)) rfl ⟨rfl, rfl⟩
end EV
namespace EV
open PySem L2
def Finder___init___m : DS := sFldP 0 "own_known" (dVar 0) (dNewMem M_finder)
def ST_Finder_init (f : Fn) : Prop := ∀ k h, h[k]? = some (.ins 0 []) → f [.obj k] h = .ok .non ((h ++ [OB.mem M_finder]).set k (.ins 0 [(okn, .obj h.length)]))
theorem et_Finder_init {fn : Fns} : ST_Finder_init (bodyF 1 Finder___init___m fn) := fun k h e => by
  have hl : k < h.length := (List.getElem?_eq_some_iff.mp e).1
  unfold bodyF Finder___init___m
  show (sFldP 0 "own_known" (dVar 0) (dNewMem M_finder) fn [.val (.obj k)] h).bind endF = _
  unfold sFldP
  have e1 : dNewMem M_finder fn [.val (.obj k)] h = .ok (.obj h.length) (h ++ [OB.mem M_finder]) := rfl
  have e2 : dVar 0 fn [.val (.obj k)] (h ++ [OB.mem M_finder]) = .ok (.obj k) (h ++ [OB.mem M_finder]) := rfl
  have e3 : insOf 0 (h ++ [OB.mem M_finder]) (.obj k) = some (k, []) := by
    unfold insOf
    dsimp only
    rw [List.getElem?_append_left hl, e]
    dsimp only
    rw [if_pos rfl]
  rw [e1, ok_bind, e2, ok_bind]
  unfold storeF
  rw [e3]
  rfl
def finderH (h : Cells) : Cells := h ++ [.ins 0 [(okn, .obj (h.length + 1))], .mem M_finder]
theorem x_makeF {fn : Fns} {i : Nat} {env : Ev} {h : Cells} (c : ST_Finder_init (fn i)) : dMake 0 i 0 daNil fn env h = .ok (.obj h.length) (finderH h) := by
  have e : (h ++ [OB.ins 0 []])[h.length]? = some (.ins 0 []) := by rw [List.getElem?_append_right (Nat.le_refl _), Nat.sub_self]; rfl
  have e2 := c h.length (h ++ [.ins 0 []]) e
  show makeD 0 i 0 fn [] h = _
  unfold makeD
  rw [if_pos (by rfl), e2, ok_bind]
  unfold madeD finderH
  dsimp only
  congr 1
  rw [List.append_assoc, List.set_append_right _ _ (Nat.le_refl _), Nat.sub_self]
  simp
theorem finder_self (h : Cells) : SelfAt 0 okn h.length (h.length + 1) (finderH h) := ⟨by unfold finderH; rw [List.getElem?_append_right (Nat.le_refl _), Nat.sub_self]; rfl, by unfold finderH; simp, by omega⟩
theorem finder_mem (h : Cells) : (finderH h)[h.length + 1]? = some (.mem M_finder) := by
  unfold finderH
  rw [List.getElem?_append_right (by omega), show h.length + 1 - h.length = 1 by omega]; rfl
theorem finder_take (h : Cells) : (finderH h).take h.length = h := by unfold finderH; rw [List.take_left']; rfl
/-- found, with a Finder of its own -/
theorem found_at {f : Fn} {l : Nat} {c : List Int} (p : SpFound l f) (o : COk c) (h : Cells) : f [.obj h.length, eT D.int c, .int (l : Nat)] (finderH h) = .ok (.bl (fnd l c)) (finderH h) :=
  runs_BB.mp ((p c o h.length (h.length + 1) (finderH h) (finder_self h)).2 (finder_mem h))
theorem qs_len : ∀ {c : List Int} {S : List (List Int)}, (∀ x ∈ c, 0 ≤ x ∧ x ≤ 40) → (c.foldl qnext S).length ≤ S.length * 41 ^ c.length
  | [], S, _ => by simp
  | x :: c, S, h => by
    have h1 := h x (.head _)
    have h2 := qs_len (c := c) (S := qnext S x) fun y m => h y (.tail _ m)
    rw [qnext_len] at h2
    rw [List.foldl_cons, List.length_cons, Nat.pow_succ]
    have h3 : S.length * (x + 1).toNat ≤ S.length * 41 := Nat.mul_le_mul_left _ (by omega)
    calc _ ≤ S.length * (x + 1).toNat * 41 ^ c.length := h2
      _ ≤ S.length * 41 * 41 ^ c.length := Nat.mul_le_mul_right _ h3
      _ = S.length * (41 ^ c.length * 41) := by rw [Nat.mul_assoc, Nat.mul_comm 41]
theorem questions_len {c : List Int} (o : COk c) : (t_questions_of c).length ≤ 16777216 := by
  rw [questions_eq]
  have h1 := qs_len (c := c) (S := [[]]) o.bd40
  have h2 : 41 ^ c.length ≤ 41 ^ 4 := Nat.pow_le_pow_right (by decide) o.l4
  have h3 : (41 : Nat) ^ 4 = 2825761 := by decide
  simp only [List.length_singleton, Nat.one_mul] at h1
  omega
def is_found_of_m (c_Finder_is_found c_Finder___init__ : Nat) : DS := sClean (sRet (dMeth 0 "is_found" c_Finder_is_found 2 (dMake 0 c_Finder___init__ 0 (daNil)) (daCons (dVar 0) (daCons (dVar 1) (daNil)))))
def t_is_found_of (c : List Int) (l : Int) : Bool := fnd l.toNat c
def ST_is_found_of (f : Fn) : Prop := ∀ (c : List Int) (l : Int), COk c → 0 ≤ l → l ≤ 16 → ∀ h, f [eT D.int c, .int l] h = .ok (.bl (t_is_found_of c l)) h
theorem et_is_found_of {fn : Fns} {i_1 i_2 : Nat} (a : ∀ l, l ≤ 16 → SpFound l (fn i_1)) (b : ST_Finder_init (fn i_2)) : ST_is_found_of (bodyF 2 (is_found_of_m i_1 i_2) fn) := fun c l o l0 l1 h => by
  obtain ⟨n, rfl⟩ : ∃ n : Nat, l = n := ⟨l.toNat, by omega⟩
  unfold is_found_of_m
  refine b_clean (V := fun (r : Bool) => (D.bl r, h)) (r := t_is_found_of c n) ?_ rfl (fun l => l)
  show J _ fn [.val (eT D.int c), .val (.int (n : Nat))] _ _ _
  have e : dMeth 0 "is_found" i_1 2 (dMake 0 i_2 0 daNil) (daCons (dVar 0) (daCons (dVar 1) (daNil))) fn [.val (eT D.int c), .val (.int (n : Nat))] h = .ok (.bl (fnd n c)) (finderH h) := by
    unfold dMeth
    rw [x_makeF b, ok_bind, ins_BB (finder_self h)]
    dsimp only
    rw [okn_ne (by decide +kernel), if_neg (by decide), xa_cons (x_var (d := eT D.int c) rfl) (xa_cons (x_var (d := .int (n : Nat)) rfl) xa_nil), ok_bind]
    exact found_at (a n (by omega)) o h
  exact j_ret e rfl ⟨rfl, finder_take h⟩
def least_of_l0 (c_Finder_is_found c_Finder___init__ : Nat) : DS := sIf (dTruE (dMeth 0 "is_found" c_Finder_is_found 2 (dVar 1) (daCons (dVar 0) (daCons (dVar 2) (daNil))))) (sRet (dVar 2)) (sNext)
def least_of_m (c_Finder_is_found c_Finder___init__ : Nat) : DS := sClean (sSeq (sSet 1 (dMake 0 c_Finder___init__ 0 (daNil))) (sSeq (sFor (.name 2) (dRng1 (daCons (dOp2 dAdd (dC (.int 12)) (dC (.int 1))) (daNil))) (least_of_l0 c_Finder_is_found c_Finder___init__)) (sRet (dC .non))))
def findR {α : Type} (en : α → D) (env : Ev) : Option α → Fl × Ev
  | some q => (.rt (en q), env)
  | none => (.nx, env)
theorem loop_find {α : Type} {en : α → D} {i : Nat} {body : DS} {fn : Fns} {h : Cells} {P : α → Bool} (pre suf : Ev) (hi : pre.length = i) : ∀ (xs : List α), (∀ x ∈ xs, body fn (pre ++ .val (en x) :: suf) h = .ok (if P x then (.rt (en x), pre ++ .val (en x) :: suf) else (.nx, pre ++ .val (en x) :: suf)) h) → (∀ x ∈ xs, isBor (en x) = false) → ∀ s : Sl, ∃ env', forL (.name i) body fn (xs.map en) (pre ++ s :: suf) h = .ok (findR en env' (xs.find? P)) h
  | [], _, _, s => ⟨_, rfl⟩
  | x :: xs, hb, nb, s => by
    have hput : Pat.put (.name i) (en x) (pre ++ s :: suf) = some (pre ++ .val (en x) :: suf) := by
      subst hi
      unfold Pat.put
      rw [if_neg (by simp [nb x (.head _)])]
      simp
    rw [List.map_cons]
    unfold forL
    rw [hput]
    dsimp only
    rw [hb x (.head _), ok_bind, List.find?_cons]
    cases P x with
    | true => exact ⟨pre ++ .val (en x) :: suf, rfl⟩
    | false => exact loop_find pre suf hi xs (fun y m => hb y (.tail _ m)) (fun y m => nb y (.tail _ m)) (.val (en x))
def t_least_of (c : List Int) : Option Int := (rangeI 13).find? fun l => fnd l.toNat c
def ST_least_of (f : Fn) : Prop := ∀ (c : List Int), COk c → ∀ h, f [eT D.int c] h = .ok (eO D.int (t_least_of c)) h
theorem et_least_of {fn : Fns} {i_1 i_2 : Nat} (a : ∀ l, l ≤ 16 → SpFound l (fn i_1)) (b : ST_Finder_init (fn i_2)) : ST_least_of (bodyF 3 (least_of_m i_1 i_2) fn) := fun c o h => by
  unfold least_of_m
  refine b_clean (V := fun (r : Option Int) => (eO D.int r, h)) (r := t_least_of c) ?_ (by cases t_least_of c <;> rfl) (fun l => l)
  show J _ fn [.val (eT D.int c), .no, .no] _ _ _
  refine j_seq (z_set (d := .obj h.length) (x_makeF b) rfl rfl rfl) ?_
  obtain ⟨env', e⟩ := loop_find (en := D.int) (i := 2) (fn := fn) (h := finderH h) (body := least_of_l0 i_1 i_2) (P := fun l => fnd l.toNat c) [.val (eT D.int c), .val (.obj h.length)] [] rfl (rangeI 13) (fun x hx => by
    have hb := mem_rng hx
    obtain ⟨n, rfl⟩ : ∃ n : Nat, x = n := ⟨x.toNat, by omega⟩
    unfold least_of_l0
    have e : dTruE (dMeth 0 "is_found" i_1 2 (dVar 1) (daCons (dVar 0) (daCons (dVar 2) (daNil)))) fn [.val (eT D.int c), .val (.obj h.length), .val (.int (n : Nat))] (finderH h) = .ok (fnd n c) (finderH h) :=
      t_tru (x_meth (x_var rfl) (ins_BB (finder_self h)) (okn_ne (by decide +kernel)) (xa_cons (x_var rfl) (xa_cons (x_var rfl) xa_nil)) rfl rfl (found_at (a n (by omega)) o h)) rfl
    show sIf _ _ _ fn [.val (eT D.int c), .val (.obj h.length), .val (.int (n : Nat))] (finderH h) = _
    rw [e_sIf, e, ok_bind, Int.toNat_natCast]
    cases fnd n c <;> rfl) (fun x _ => rfl) .no
  have hr : sFor (.name 2) (dRng1 (daCons (dOp2 dAdd (dC (.int 12)) (dC (.int 1))) (daNil))) (least_of_l0 i_1 i_2) fn [.val (eT D.int c), .val (.obj h.length), .no] (finderH h) = .ok (findR D.int env' ((rangeI 13).find? fun l => fnd l.toNat c)) (finderH h) := by
    rw [e_sFor, i_rng1 (k := 13) (xa_cons (x_op2 x_c x_c rfl) xa_nil) (by decide) (by decide), ok_bind]
    exact e
  show J _ fn [.val (eT D.int c), .val (.obj h.length), .no] _ _ _
  unfold t_least_of
  cases e2 : (rangeI 13).find? (fun l => fnd l.toNat c) with
  | some q =>
    rw [e2] at hr
    exact ⟨_, env', _, by rw [e_sSeq, hr, ok_bind]; rfl, rfl, finder_take h⟩
  | none =>
    rw [e2] at hr
    exact ⟨_, env', _, by rw [e_sSeq, hr, ok_bind]; rfl, rfl, finder_take h⟩
end EV
namespace EV
open PySem L2
def are_counts_of_m (c_is_count : Nat) : DS := sSeq (sIf (dtOr (dtNot (dTruE (dIsi (dVar 0) [.tup]))) (dtNot (dtB (dChain dLe dLe (dC (.int 1)) (dOpN cLen (daCons (dVar 0) (daNil))) (dOp2 dAdd (dC (.int 3)) (dC (.int 1))))))) (sRet (dC (.bl false))) (sNext)) (sRet (dAnd (dOpN cAll (daCons (asVal (dComp [1] (.name 1) (dItems (dVar 0)) (dtYes) (dCall c_is_count 1 0 [.p 0] [] (daCons (dVar 1) (daNil)) (daNil)))) (daNil))) (dOp2 dLe (dOpN cSum (daCons (dVar 0) (daNil))) (dC (.int 40)))))
def t_are_counts_of (value_0 : (List Int)) : Bool := if ((!true) || (!((decide (1 ≤ (value_0.length : Int))) && (decide ((value_0.length : Int) ≤ (3 + 1)))))) = true then (false) else (((value_0.all (fun u_1 => (t_is_count (toV D.int u_1)))) && (decide (value_0.sum ≤ 40))))
def ST_are_counts_of (f : Fn) : Prop := ∀ (value_0 : (List Int)), (lk : value_0.length ≤ 16777216) → ∀ h, f [(eT D.int) value_0] h = .ok (D.bl (t_are_counts_of value_0)) h
theorem et_are_counts_of {fn : Fns} {i_is_count : Nat} (c_is_count : ST_is_count (fn i_is_count)) : ST_are_counts_of (bodyF 2 (are_counts_of_m i_is_count) fn) := by
  intro value_0 lk h
  refine b_ret (m := are_counts_of_m i_is_count) (V := (fun (r : Bool) => (D.bl r, h))) (r := t_are_counts_of value_0) ?_
  unfold t_are_counts_of are_counts_of_m
  show J _ fn [.val ((eT D.int) value_0), .no] _ _ _
  refine j_ifq (t_or (t_not (t_tru (x_isi (x_var rfl) rfl rfl) tr_bl)) fun hc => (t_not (t_B (x_chain x_c (x_opN (xa_cons (x_var rfl) xa_nil) (o_lenT (e := D.int))) rfl (fun hc => (x_op2 x_c x_c rfl)) (fun hc => rfl))))) (fun hc1 => ?_) (fun hc1 => ?_)
  · skip
    refine j_re ?_
    exact j_ret (d := D.bl false) x_c rfl ⟨rfl, rfl⟩
  · skip
    exact j_ret (d := D.bl ((value_0.all (fun u_1 => (t_is_count (toV D.int u_1)))) && (decide (value_0.sum ≤ 40)))) (x_and (x_opN (xa_cons (xv (eL D.bl (value_0.map (fun u_1 => (t_is_count (toV D.int u_1))))) (x_asVal (f_compM (en := D.int) (ev := D.bl) (fun u_1 => (t_is_count (toV D.int u_1))) (i_T (e := D.int) (xs := value_0) (x_var rfl)) (by first | assumption | omega | (dsimp only [lt] at *; omega) | (set_option maxHeartbeats 40000 in (simp; done)) | (set_option maxHeartbeats 40000 in (simp; omega)) | (set_option maxHeartbeats 40000 in (simp at *; omega)) | (set_option maxHeartbeats 40000 in (simp_all; done)) | (set_option maxHeartbeats 40000 in (simp_all; omega))) rfl (fun _ => rfl) fun u_1 hu => ⟨_, (p_name rfl rfl rfl), (x_call (xa_cons (xv (eV (toV D.int u_1)) (x_var rfl)) xa_nil) xa_nil (nb_cons (NB.nb _) nb_nil) nb_nil rfl rfl rfl (c_is_count (toV D.int u_1) _))⟩))) xa_nil) (o_allM (f := (fun u_1 => (t_is_count (toV D.int u_1)))) (xs := value_0))) fun hc => (x_op2 (x_opN (xa_cons (x_var rfl) xa_nil) o_sumT) x_c rfl)) rfl ⟨rfl, rfl⟩
def want_counts_m (c_are_counts_of : Nat) : DS := sSeq (sIf (dtNot (dTruE (dCall c_are_counts_of 1 0 [.p 0] [] (daCons (dVar 0) (daNil)) (daNil)))) (sBad) (sNext)) (sRet (dVar 0))
theorem COk.counts {c : List Int} (o : COk c) : t_are_counts_of c = true := by
  unfold t_are_counts_of
  have l1 := o.l1
  have l4 := o.l4
  have sm := o.sm
  have nn := o.nn
  have e : c.all (fun u => t_is_count (toV D.int u)) = true := List.all_eq_true.mpr fun x m => decide_eq_true (nn x m)
  rw [if_neg (by simp; omega), e, Bool.true_and]
  exact decide_eq_true (by omega)
@[reducible] def t_want_counts (value_0 : (List Int)) : (List Int) := value_0
def ST_want_counts (f : Fn) : Prop := ∀ (value_0 : (List Int)), (lk : value_0.length ≤ 4) → (ok : t_are_counts_of value_0 = true) → ∀ h, f [(eT D.int) value_0] h = .ok ((eT D.int) (t_want_counts value_0)) h
theorem et_want_counts {fn : Fns} {i_are_counts_of : Nat} (c_are_counts_of : ST_are_counts_of (fn i_are_counts_of)) : ST_want_counts (bodyF 1 (want_counts_m i_are_counts_of) fn) := by
  intro value_0 lk ok h
  refine b_ret (m := want_counts_m i_are_counts_of) (V := (fun (r : (List Int)) => ((eT D.int) r, h))) (r := t_want_counts value_0) ?_
  unfold t_want_counts want_counts_m
  show J _ fn [.val ((eT D.int) value_0)] _ _ _
  refine j_ifN (t_false (t_not (t_tru (x_call (xa_cons (x_var rfl) xa_nil) xa_nil (nb_cons rfl nb_nil) nb_nil rfl rfl rfl (c_are_counts_of value_0 (by first | assumption | omega | (dsimp only [lt] at *; omega) | (set_option maxHeartbeats 40000 in (simp; done)) | (set_option maxHeartbeats 40000 in (simp; omega)) | (set_option maxHeartbeats 40000 in (simp at *; omega)) | (set_option maxHeartbeats 40000 in (simp_all; done)) | (set_option maxHeartbeats 40000 in (simp_all; omega))) _)) tr_bl)) (by first | assumption | omega | (dsimp only [lt] at *; omega) | (set_option maxHeartbeats 40000 in (simp; done)) | (set_option maxHeartbeats 40000 in (simp; omega)) | (set_option maxHeartbeats 40000 in (simp at *; omega)) | (set_option maxHeartbeats 40000 in (simp_all; done)) | (set_option maxHeartbeats 40000 in (simp_all; omega)))) ?_
  exact j_ret (d := (eT D.int) value_0) (x_var rfl) rfl ⟨rfl, rfl⟩
def want_left_m (c_is_left : Nat) : DS := sSeq (sIf (dtNot (dTruE (dCall c_is_left 1 0 [.p 0] [] (daCons (dVar 0) (daNil)) (daNil)))) (sBad) (sNext)) (sRet (dVar 0))
@[reducible] def t_want_left (value_0 : Int) : Int := value_0
def ST_want_left (f : Fn) : Prop := ∀ (value_0 : Int), (l0 : 0 ≤ value_0) → (l1 : value_0 ≤ 16) → ∀ h, f [D.int value_0] h = .ok (D.int (t_want_left value_0)) h
theorem et_want_left {fn : Fns} {i_is_left : Nat} (c_is_left : ST_is_left (fn i_is_left)) : ST_want_left (bodyF 1 (want_left_m i_is_left) fn) := by
  intro value_0 l0 l1 h
  refine b_ret (m := want_left_m i_is_left) (V := (fun (r : Int) => (D.int r, h))) (r := t_want_left value_0) ?_
  unfold t_want_left want_left_m
  show J _ fn [.val (D.int value_0)] _ _ _
  refine j_ifN (t_false (t_not (t_tru (x_call (xa_cons (x_var rfl) xa_nil) xa_nil (nb_cons rfl nb_nil) nb_nil rfl rfl rfl (c_is_left value_0 _)) tr_bl)) (by unfold t_is_left; simp; omega)) ?_
  exact j_ret (d := D.int value_0) (x_var rfl) rfl ⟨rfl, rfl⟩
def want_at_most_m : DS := sIf (dtB (dOp2 dGt (dVar 2) (dVar 1))) (sBad) (sNext)
def ST_want_at_most (f : Fn) : Prop := ∀ (what_0 : SS) (limit_0 : Int) (number_0 : Int), (le : number_0 ≤ limit_0) → ∀ h, f [eS what_0, D.int limit_0, D.int number_0] h = .ok .non h
theorem et_want_at_most {fn : Fns} : ST_want_at_most (bodyF 3 (want_at_most_m) fn) := by
  intro what_0 limit_0 number_0 le h
  refine b_nx (m := want_at_most_m) ?_
  unfold want_at_most_m
  show J _ fn [.val (eS what_0), .val (D.int limit_0), .val (D.int number_0)] _ _ _
  refine j_ifN' (t_false (t_B (x_op2 (x_var rfl) (x_var rfl) rfl)) (by first | assumption | omega | (dsimp only [lt] at *; omega) | (set_option maxHeartbeats 40000 in (simp; done)) | (set_option maxHeartbeats 40000 in (simp; omega)) | (set_option maxHeartbeats 40000 in (simp at *; omega)) | (set_option maxHeartbeats 40000 in (simp_all; done)) | (set_option maxHeartbeats 40000 in (simp_all; omega)))) (j_next ?_)
  exact ⟨rfl, rfl⟩
def want_few_m (c_want_at_most : Nat) : DS := sSeq (sExpr (dCall c_want_at_most 3 0 [.p 0, .p 1, .p 2] [] (daCons (dC (.str ("things" : Str))) (daCons (dC (.int 10)) (daCons (dOpN cSum (daCons (dVar 0) (daNil))) (daNil)))) (daNil))) (sExpr (dCall c_want_at_most 3 0 [.p 0, .p 1, .p 2] [] (daCons (dC (.str ("left" : Str))) (daCons (dC (.int 12)) (daCons (dVar 1) (daNil)))) (daNil)))
def ST_want_few (f : Fn) : Prop := ∀ (counts_0 : (List Int)) (left_0 : Int), (sm : counts_0.sum ≤ 10) → (l1 : left_0 ≤ 12) → ∀ h, f [(eT D.int) counts_0, D.int left_0] h = .ok .non h
theorem et_want_few {fn : Fns} {i_want_at_most : Nat} (c_want_at_most : ST_want_at_most (fn i_want_at_most)) : ST_want_few (bodyF 2 (want_few_m i_want_at_most) fn) := by
  intro counts_0 left_0 sm l1 h
  refine b_nx (m := want_few_m i_want_at_most) ?_
  unfold want_few_m
  show J _ fn [.val ((eT D.int) counts_0), .val (D.int left_0)] _ _ _
  refine j_seq (z_expr (x_call (xa_cons (xv (eS (lit "things")) x_c) (xa_cons x_c (xa_cons (x_opN (xa_cons (x_var rfl) xa_nil) o_sumT) xa_nil))) xa_nil (nb_cons rfl (nb_cons rfl (nb_cons rfl nb_nil))) nb_nil rfl rfl rfl (c_want_at_most (lit "things") 10 counts_0.sum (by first | assumption | omega | (dsimp only [lt] at *; omega) | (set_option maxHeartbeats 40000 in (simp; done)) | (set_option maxHeartbeats 40000 in (simp; omega)) | (set_option maxHeartbeats 40000 in (simp at *; omega)) | (set_option maxHeartbeats 40000 in (simp_all; done)) | (set_option maxHeartbeats 40000 in (simp_all; omega))) _))) ?_
  refine j_last (z_expr (x_call (xa_cons (xv (eS (lit "left")) x_c) (xa_cons x_c (xa_cons (x_var rfl) xa_nil))) xa_nil (nb_cons rfl (nb_cons rfl (nb_cons rfl nb_nil))) nb_nil rfl rfl rfl (c_want_at_most (lit "left") 12 left_0 (by first | assumption | omega | (dsimp only [lt] at *; omega) | (set_option maxHeartbeats 40000 in (simp; done)) | (set_option maxHeartbeats 40000 in (simp; omega)) | (set_option maxHeartbeats 40000 in (simp at *; omega)) | (set_option maxHeartbeats 40000 in (simp_all; done)) | (set_option maxHeartbeats 40000 in (simp_all; omega))) _))) ?_
  exact ⟨rfl, rfl⟩
def want_searched_m (c_want_counts c_want_few c_want_left : Nat) : DS := sSeq (sExpr (dCall c_want_counts 1 0 [.p 0] [] (daCons (dVar 0) (daNil)) (daNil))) (sExpr (dCall c_want_few 2 0 [.p 0, .p 1] [] (daCons (dVar 0) (daCons (dCall c_want_left 1 0 [.p 0] [] (daCons (dVar 1) (daNil)) (daNil)) (daNil))) (daNil)))
def ST_want_searched (f : Fn) : Prop := ∀ (counts_0 : (List Int)) (left_0 : Int), (lk : counts_0.length ≤ 4) → (ok : t_are_counts_of counts_0 = true) → (sm : counts_0.sum ≤ 10) → (l0 : 0 ≤ left_0) → (l1 : left_0 ≤ 12) → ∀ h, f [(eT D.int) counts_0, D.int left_0] h = .ok .non h
theorem et_want_searched {fn : Fns} {i_want_counts i_want_few i_want_left : Nat} (c_want_counts : ST_want_counts (fn i_want_counts)) (c_want_left : ST_want_left (fn i_want_left)) (c_want_few : ST_want_few (fn i_want_few)) : ST_want_searched (bodyF 2 (want_searched_m i_want_counts i_want_few i_want_left) fn) := by
  intro counts_0 left_0 lk ok sm l0 l1 h
  refine b_nx (m := want_searched_m i_want_counts i_want_few i_want_left) ?_
  unfold want_searched_m
  show J _ fn [.val ((eT D.int) counts_0), .val (D.int left_0)] _ _ _
  refine j_seq (z_expr (x_call (xa_cons (x_var rfl) xa_nil) xa_nil (nb_cons rfl nb_nil) nb_nil rfl rfl rfl (c_want_counts counts_0 (by first | assumption | omega | (dsimp only [lt] at *; omega) | (set_option maxHeartbeats 40000 in (simp; done)) | (set_option maxHeartbeats 40000 in (simp; omega)) | (set_option maxHeartbeats 40000 in (simp at *; omega)) | (set_option maxHeartbeats 40000 in (simp_all; done)) | (set_option maxHeartbeats 40000 in (simp_all; omega))) (by first | assumption | omega | (dsimp only [lt] at *; omega) | (set_option maxHeartbeats 40000 in (simp; done)) | (set_option maxHeartbeats 40000 in (simp; omega)) | (set_option maxHeartbeats 40000 in (simp at *; omega)) | (set_option maxHeartbeats 40000 in (simp_all; done)) | (set_option maxHeartbeats 40000 in (simp_all; omega))) _))) ?_
  refine j_last (z_expr (x_call (xa_cons (x_var rfl) (xa_cons (x_call (xa_cons (x_var rfl) xa_nil) xa_nil (nb_cons rfl nb_nil) nb_nil rfl rfl rfl (c_want_left left_0 (by first | assumption | omega | (dsimp only [lt] at *; omega) | (set_option maxHeartbeats 40000 in (simp; done)) | (set_option maxHeartbeats 40000 in (simp; omega)) | (set_option maxHeartbeats 40000 in (simp at *; omega)) | (set_option maxHeartbeats 40000 in (simp_all; done)) | (set_option maxHeartbeats 40000 in (simp_all; omega))) (by first | assumption | omega | (dsimp only [lt] at *; omega) | (set_option maxHeartbeats 40000 in (simp; done)) | (set_option maxHeartbeats 40000 in (simp; omega)) | (set_option maxHeartbeats 40000 in (simp at *; omega)) | (set_option maxHeartbeats 40000 in (simp_all; done)) | (set_option maxHeartbeats 40000 in (simp_all; omega))) _)) xa_nil)) xa_nil (nb_cons rfl (nb_cons rfl nb_nil)) nb_nil rfl rfl rfl (c_want_few counts_0 left_0 (by first | assumption | omega | (dsimp only [lt] at *; omega) | (set_option maxHeartbeats 40000 in (simp; done)) | (set_option maxHeartbeats 40000 in (simp; omega)) | (set_option maxHeartbeats 40000 in (simp at *; omega)) | (set_option maxHeartbeats 40000 in (simp_all; done)) | (set_option maxHeartbeats 40000 in (simp_all; omega))) (by first | assumption | omega | (dsimp only [lt] at *; omega) | (set_option maxHeartbeats 40000 in (simp; done)) | (set_option maxHeartbeats 40000 in (simp; omega)) | (set_option maxHeartbeats 40000 in (simp at *; omega)) | (set_option maxHeartbeats 40000 in (simp_all; done)) | (set_option maxHeartbeats 40000 in (simp_all; omega))) _))) ?_
  exact ⟨rfl, rfl⟩
def is_found_m (c_want_searched c_is_found_of : Nat) : DS := sSeq (sExpr (dCall c_want_searched 2 0 [.p 0, .p 1] [] (daCons (dVar 0) (daCons (dVar 1) (daNil))) (daNil))) (sRet (dCall c_is_found_of 2 0 [.p 0, .p 1] [] (daCons (dVar 0) (daCons (dVar 1) (daNil))) (daNil)))
def t_is_found (counts_0 : (List Int)) (left_0 : Int) : Bool := (t_is_found_of counts_0 left_0)
def ST_is_found (f : Fn) : Prop := ∀ (counts_0 : (List Int)) (left_0 : Int), (ck : COk counts_0) → (sm : counts_0.sum ≤ 10) → (l0 : 0 ≤ left_0) → (l1 : left_0 ≤ 12) → ∀ h, f [(eT D.int) counts_0, D.int left_0] h = .ok (D.bl (t_is_found counts_0 left_0)) h
theorem et_is_found {fn : Fns} {i_want_searched i_is_found_of : Nat} (c_want_searched : ST_want_searched (fn i_want_searched)) (c_is_found_of : ST_is_found_of (fn i_is_found_of)) : ST_is_found (bodyF 2 (is_found_m i_want_searched i_is_found_of) fn) := by
  intro counts_0 left_0 ck sm l0 l1 h
  have ok := ck.counts
  have lk := ck.l4
  refine b_ret (m := is_found_m i_want_searched i_is_found_of) (V := (fun (r : Bool) => (D.bl r, h))) (r := t_is_found counts_0 left_0) ?_
  unfold t_is_found is_found_m
  show J _ fn [.val ((eT D.int) counts_0), .val (D.int left_0)] _ _ _
  refine j_seq (z_expr (x_call (xa_cons (x_var rfl) (xa_cons (x_var rfl) xa_nil)) xa_nil (nb_cons rfl (nb_cons rfl nb_nil)) nb_nil rfl rfl rfl (c_want_searched counts_0 left_0 (by first | assumption | omega | (dsimp only [lt] at *; omega) | (set_option maxHeartbeats 40000 in (simp; done)) | (set_option maxHeartbeats 40000 in (simp; omega)) | (set_option maxHeartbeats 40000 in (simp at *; omega)) | (set_option maxHeartbeats 40000 in (simp_all; done)) | (set_option maxHeartbeats 40000 in (simp_all; omega))) (by first | assumption | omega | (dsimp only [lt] at *; omega) | (set_option maxHeartbeats 40000 in (simp; done)) | (set_option maxHeartbeats 40000 in (simp; omega)) | (set_option maxHeartbeats 40000 in (simp at *; omega)) | (set_option maxHeartbeats 40000 in (simp_all; done)) | (set_option maxHeartbeats 40000 in (simp_all; omega))) (by first | assumption | omega | (dsimp only [lt] at *; omega) | (set_option maxHeartbeats 40000 in (simp; done)) | (set_option maxHeartbeats 40000 in (simp; omega)) | (set_option maxHeartbeats 40000 in (simp at *; omega)) | (set_option maxHeartbeats 40000 in (simp_all; done)) | (set_option maxHeartbeats 40000 in (simp_all; omega))) (by first | assumption | omega | (dsimp only [lt] at *; omega) | (set_option maxHeartbeats 40000 in (simp; done)) | (set_option maxHeartbeats 40000 in (simp; omega)) | (set_option maxHeartbeats 40000 in (simp at *; omega)) | (set_option maxHeartbeats 40000 in (simp_all; done)) | (set_option maxHeartbeats 40000 in (simp_all; omega))) (by first | assumption | omega | (dsimp only [lt] at *; omega) | (set_option maxHeartbeats 40000 in (simp; done)) | (set_option maxHeartbeats 40000 in (simp; omega)) | (set_option maxHeartbeats 40000 in (simp at *; omega)) | (set_option maxHeartbeats 40000 in (simp_all; done)) | (set_option maxHeartbeats 40000 in (simp_all; omega))) _))) ?_
  exact j_ret (d := D.bl (t_is_found_of counts_0 left_0)) (x_call (xa_cons (x_var rfl) (xa_cons (x_var rfl) xa_nil)) xa_nil (nb_cons rfl (nb_cons rfl nb_nil)) nb_nil rfl rfl rfl (c_is_found_of counts_0 left_0 (by first | assumption | omega | (dsimp only [lt] at *; omega) | (set_option maxHeartbeats 40000 in (simp; done)) | (set_option maxHeartbeats 40000 in (simp; omega)) | (set_option maxHeartbeats 40000 in (simp at *; omega)) | (set_option maxHeartbeats 40000 in (simp_all; done)) | (set_option maxHeartbeats 40000 in (simp_all; omega))) (by first | assumption | omega | (dsimp only [lt] at *; omega) | (set_option maxHeartbeats 40000 in (simp; done)) | (set_option maxHeartbeats 40000 in (simp; omega)) | (set_option maxHeartbeats 40000 in (simp at *; omega)) | (set_option maxHeartbeats 40000 in (simp_all; done)) | (set_option maxHeartbeats 40000 in (simp_all; omega))) (by first | assumption | omega | (dsimp only [lt] at *; omega) | (set_option maxHeartbeats 40000 in (simp; done)) | (set_option maxHeartbeats 40000 in (simp; omega)) | (set_option maxHeartbeats 40000 in (simp at *; omega)) | (set_option maxHeartbeats 40000 in (simp_all; done)) | (set_option maxHeartbeats 40000 in (simp_all; omega))) _)) rfl ⟨rfl, rfl⟩
def least_m (c_want_few c_want_counts c_least_of : Nat) : DS := sSeq (sExpr (dCall c_want_few 2 0 [.p 0, .p 1] [] (daCons (dCall c_want_counts 1 0 [.p 0] [] (daCons (dVar 0) (daNil)) (daNil)) (daCons (dC (.int 0)) (daNil))) (daNil))) (sRet (dCall c_least_of 1 0 [.p 0] [] (daCons (dVar 0) (daNil)) (daNil)))
def t_least (counts_0 : (List Int)) : (Option Int) := (t_least_of counts_0)
def ST_least (f : Fn) : Prop := ∀ (counts_0 : (List Int)), (ck : COk counts_0) → (sm : counts_0.sum ≤ 10) → ∀ h, f [(eT D.int) counts_0] h = .ok ((eO D.int) (t_least counts_0)) h
theorem et_least {fn : Fns} {i_want_few i_want_counts i_least_of : Nat} (c_want_counts : ST_want_counts (fn i_want_counts)) (c_want_few : ST_want_few (fn i_want_few)) (c_least_of : ST_least_of (fn i_least_of)) : ST_least (bodyF 1 (least_m i_want_few i_want_counts i_least_of) fn) := by
  intro counts_0 ck sm h
  have ok := ck.counts
  have lk := ck.l4
  refine b_ret (m := least_m i_want_few i_want_counts i_least_of) (V := (fun (r : (Option Int)) => ((eO D.int) r, h))) (r := t_least counts_0) ?_
  unfold t_least least_m
  show J _ fn [.val ((eT D.int) counts_0)] _ _ _
  refine j_seq (z_expr (x_call (xa_cons (x_call (xa_cons (x_var rfl) xa_nil) xa_nil (nb_cons rfl nb_nil) nb_nil rfl rfl rfl (c_want_counts counts_0 (by first | assumption | omega | (dsimp only [lt] at *; omega) | (set_option maxHeartbeats 40000 in (simp; done)) | (set_option maxHeartbeats 40000 in (simp; omega)) | (set_option maxHeartbeats 40000 in (simp at *; omega)) | (set_option maxHeartbeats 40000 in (simp_all; done)) | (set_option maxHeartbeats 40000 in (simp_all; omega))) (by first | assumption | omega | (dsimp only [lt] at *; omega) | (set_option maxHeartbeats 40000 in (simp; done)) | (set_option maxHeartbeats 40000 in (simp; omega)) | (set_option maxHeartbeats 40000 in (simp at *; omega)) | (set_option maxHeartbeats 40000 in (simp_all; done)) | (set_option maxHeartbeats 40000 in (simp_all; omega))) _)) (xa_cons x_c xa_nil)) xa_nil (nb_cons rfl (nb_cons rfl nb_nil)) nb_nil rfl rfl rfl (c_want_few counts_0 0 (by first | assumption | omega | (dsimp only [lt] at *; omega) | (set_option maxHeartbeats 40000 in (simp; done)) | (set_option maxHeartbeats 40000 in (simp; omega)) | (set_option maxHeartbeats 40000 in (simp at *; omega)) | (set_option maxHeartbeats 40000 in (simp_all; done)) | (set_option maxHeartbeats 40000 in (simp_all; omega))) (by first | assumption | omega | (dsimp only [lt] at *; omega) | (set_option maxHeartbeats 40000 in (simp; done)) | (set_option maxHeartbeats 40000 in (simp; omega)) | (set_option maxHeartbeats 40000 in (simp at *; omega)) | (set_option maxHeartbeats 40000 in (simp_all; done)) | (set_option maxHeartbeats 40000 in (simp_all; omega))) _))) ?_
  exact j_ret (d := (eO D.int) (t_least_of counts_0)) (x_call (xa_cons (x_var rfl) xa_nil) xa_nil (nb_cons rfl nb_nil) nb_nil rfl rfl rfl (c_least_of counts_0 (by first | assumption | omega | (dsimp only [lt] at *; omega) | (set_option maxHeartbeats 40000 in (simp; done)) | (set_option maxHeartbeats 40000 in (simp; omega)) | (set_option maxHeartbeats 40000 in (simp at *; omega)) | (set_option maxHeartbeats 40000 in (simp_all; done)) | (set_option maxHeartbeats 40000 in (simp_all; omega))) _)) (NB.nb _) ⟨rfl, rfl⟩
end EV
namespace EV
open PySem L2
def together_m : DS := sRet (dOpN cSum (daCons (dVar 0) (daNil)))
def t_together (counts_0 : (List Int)) : Int := counts_0.sum
def ST_together (f : Fn) : Prop := ∀ (counts_0 : (List Int)), ∀ h, f [(eT D.int) counts_0] h = .ok (D.int (t_together counts_0)) h
theorem et_together {fn : Fns} : ST_together (bodyF 1 (together_m) fn) := by
  intro counts_0 h
  refine b_ret (m := together_m) (V := (fun (r : Int) => (D.int r, h))) (r := t_together counts_0) ?_
  unfold t_together together_m
  show J _ fn [.val ((eT D.int) counts_0)] _ _ _
  exact j_ret (d := D.int counts_0.sum) (x_opN (xa_cons (x_var rfl) xa_nil) o_sumT) rfl ⟨rfl, rfl⟩
def Halves___init___m : DS := sChoose (fun env h => yesAt env 1) fun M => sSeq (sFldP 1 "own_word" (dVar 0) (dVar 1)) (sSeq (sFldP 1 "own_found" (dVar 0) (dNewMem (M_halfF M))) (sFldP 1 "own_not" (dVar 0) (dNewMem (M_halfN M))))
def yw (w : SS) : Bool := decide (w.val = ("yes" : Str))
theorem half_eq {c q : List Int} {w : SS} : t_half_both c w q = hb (yw w) c q := by
  unfold t_half_both hb yw
  have e : (w = lit "yes") ↔ w.val = ("yes" : Str) := ⟨fun h => by subst h; rfl, fun h => Subtype.ext h⟩
  by_cases z : w.val = ("yes" : Str)
  · rw [decide_eq_true (e.mpr z), decide_eq_true z]
  · rw [decide_eq_false (fun h => z (e.mp h)), decide_eq_false z]
def fsH (w : SS) (m : Nat) : List (Str × D) := [("own_word", eS w), ("own_found", .obj m), ("own_not", .obj (m + 1))]
theorem fsH_no {w : SS} {m : Nat} {mm : Str} (h1 : (mm == ("own_word" : Str)) = false) (h2 : (mm == ("own_found" : Str)) = false) (h3 : (mm == ("own_not" : Str)) = false) : (fsH w m).lookup mm = none := by
  unfold fsH
  rw [List.lookup_cons, h1, List.lookup_cons, h2, List.lookup_cons, h3]
  rfl
theorem fsH_word {w : SS} {m : Nat} : (fsH w m).lookup ("own_word" : Str) = some (eS w) := by
  unfold fsH
  rw [List.lookup_cons, beq_self_eq_true]
theorem fsH_found {w : SS} {m : Nat} : (fsH w m).lookup ("own_found" : Str) = some (.obj m) := by
  unfold fsH
  rw [List.lookup_cons, show (("own_found" : Str) == ("own_word" : Str)) = false by decide +kernel, List.lookup_cons, beq_self_eq_true]
theorem fsH_not {w : SS} {m : Nat} : (fsH w m).lookup ("own_not" : Str) = some (.obj (m + 1)) := by
  unfold fsH
  rw [List.lookup_cons, show (("own_not" : Str) == ("own_word" : Str)) = false by decide +kernel, List.lookup_cons, show (("own_not" : Str) == ("own_found" : Str)) = false by decide +kernel, List.lookup_cons, beq_self_eq_true]
structure SelfH (w : SS) (k m : Nat) (h : Cells) : Prop where
  ins : h[k]? = some (.ins 1 (fsH w m))
  hf : h[m]? = some (.mem (M_halfF (yw w)))
  hn : h[m + 1]? = some (.mem (M_halfN (yw w)))
theorem SelfH.of {w : SS} {k m : Nat} {h : Cells} (s : SelfH w k m h) : insOf 1 h (.obj k) = some (k, fsH w m) := by
  unfold insOf
  dsimp only
  rw [s.ins]
  dsimp only
  rw [if_pos rfl]
theorem SelfH.nf {w : SS} {k m : Nat} {h : Cells} (s : SelfH w k m h) : m ≠ k := fun e => by
  have := s.hf
  rw [e, s.ins] at this
  cases this
theorem SelfH.nn {w : SS} {k m : Nat} {h : Cells} (s : SelfH w k m h) : m + 1 ≠ k := fun e => by
  have := s.hn
  rw [e, s.ins] at this
  cases this
theorem SelfH.set {w : SS} {k m n : Nat} {h : Cells} (s : SelfH w k m h) (ne : n ≠ k) (o : OB) : insOf 1 (h.set n o) (.obj k) = some (k, fsH w m) := by
  unfold insOf
  dsimp only
  rw [List.getElem?_set_ne ne, s.ins]
  dsimp only
  rw [if_pos rfl]
theorem SelfH.atF {w : SS} {k m : Nat} {h : Cells} (s : SelfH w k m h) {env : Ev} (e : env[0]? = some (.val (.obj k))) : memIn "own_found" env h 0 = some (m, M_halfF (yw w)) := by
  unfold memIn
  rw [e]
  dsimp only
  rw [s.ins]
  dsimp only
  rw [fsH_found]
  dsimp only
  rw [s.hf]
theorem SelfH.atN {w : SS} {k m : Nat} {h : Cells} (s : SelfH w k m h) {env : Ev} (e : env[0]? = some (.val (.obj k))) : memIn "own_not" env h 0 = some (m + 1, M_halfN (yw w)) := by
  unfold memIn
  rw [e]
  dsimp only
  rw [s.ins]
  dsimp only
  rw [fsH_not]
  dsimp only
  rw [s.hn]
def ST_Halves_init (f : Fn) : Prop := ∀ k (w : SS) h, h[k]? = some (.ins 1 []) → f [.obj k, eS w] h = .ok .non ((h ++ [OB.mem (M_halfF (yw w)), OB.mem (M_halfN (yw w))]).set k (.ins 1 (fsH w h.length)))
theorem storeF_at {c k : Nat} {h : Cells} {fs : List (Str × D)} {f : Str} {v : D} {env : Ev} (e : h[k]? = some (.ins c fs)) (b : isBor v = false) (l : fs.length < 1000) : storeF c f v (.obj k) env h = .ok (.nx, env) (h.set k (.ins c (putFD f v fs))) := by
  unfold storeF insOf
  dsimp only
  rw [e]
  dsimp only
  rw [if_pos rfl]
  dsimp only
  rw [if_neg]
  rw [b, Bool.false_or, decide_eq_true_eq]
  omega
theorem sFldP_at {c k : Nat} {fn : Fns} {h h1 : Cells} {fs : List (Str × D)} {f : Str} {v : D} {env : Ev} {a b : DE} (hb : b fn env h = .ok v h1) (ha : a fn env h1 = .ok (.obj k) h1) (e : h1[k]? = some (.ins c fs)) (nb : isBor v = false) (l : fs.length < 1000) : sFldP c f a b fn env h = .ok (.nx, env) (h1.set k (.ins c (putFD f v fs))) := by
  unfold sFldP
  rw [hb, ok_bind, ha, ok_bind]
  exact storeF_at e nb l
theorem et_Halves_init {fn : Fns} : ST_Halves_init (bodyF 2 (Halves___init___m) fn) := fun k w h e => by
  have hl : k < h.length := (List.getElem?_eq_some_iff.mp e).1
  unfold bodyF Halves___init___m
  show (sChoose _ _ fn [.val (.obj k), .val (eS w)] h).bind endF = _
  rw [e_sChoose, e_sSeq, show yesAt [.val (.obj k), .val (eS w)] 1 = yw w from rfl]
  rw [sFldP_at (k := k) (fs := []) (v := eS w) (h1 := h) rfl rfl e rfl (by show (0:Nat) < 1000; decide), ok_bind]
  dsimp only
  have l1 : k < (h.set k (.ins 1 (putFD "own_word" (eS w) []))).length := by rw [List.length_set]; exact hl
  rw [e_sSeq, sFldP_at (k := k) (fs := putFD "own_word" (eS w) []) (v := .obj h.length) (h1 := h.set k (.ins 1 (putFD "own_word" (eS w) [])) ++ [.mem (M_halfF (yw w))]) (by show R.ok (D.obj (h.set k _).length) _ = _; rw [List.length_set]) rfl (by rw [List.getElem?_append_left l1, List.getElem?_set_self hl]) rfl (by show (1:Nat) < 1000; decide), ok_bind]
  dsimp only
  rw [List.set_append_left _ _ l1, List.set_set]
  have l2 : k < (h.set k (.ins 1 (putFD "own_found" (.obj h.length) (putFD "own_word" (eS w) [])))).length := by rw [List.length_set]; exact hl
  rw [sFldP_at (k := k) (fs := putFD "own_found" (.obj h.length) (putFD "own_word" (eS w) [])) (v := .obj (h.length + 1)) (h1 := h.set k (.ins 1 (putFD "own_found" (.obj h.length) (putFD "own_word" (eS w) []))) ++ [.mem (M_halfF (yw w))] ++ [.mem (M_halfN (yw w))]) (by show R.ok (D.obj (h.set k _ ++ [_]).length) _ = _; rw [List.length_append, List.length_set]; rfl) rfl (by rw [List.append_assoc, List.getElem?_append_left l2, List.getElem?_set_self hl]) rfl (by show (2:Nat) < 1000; decide), ok_bind]
  rw [List.append_assoc, List.set_append_left _ _ l2, List.set_set, List.set_append_left _ _ hl]
  rfl
def newH (w : SS) (h : Cells) : Cells := h ++ [.ins 1 (fsH w (h.length + 1)), .mem (M_halfF (yw w)), .mem (M_halfN (yw w))]
theorem x_makeH {fn : Fns} {env : Ev} {h : Cells} {i : Nat} {w : SS} {a : DE} (p : ST_Halves_init (fn i)) (ha : a fn env h = .ok (eS w) h) : dMake 1 i 1 (daCons a daNil) fn env h = .ok (.obj h.length) (newH w h) := by
  have e : (h ++ [OB.ins 1 []])[h.length]? = some (.ins 1 []) := by rw [List.getElem?_append_right (Nat.le_refl _), Nat.sub_self]; rfl
  have e2 := p h.length w (h ++ [.ins 1 []]) e
  unfold dMake
  rw [show daCons a daNil fn env h = .ok [eS w] h from xa_cons ha xa_nil, ok_bind]
  unfold makeD
  rw [if_pos (by rfl), e2, ok_bind]
  unfold madeD newH
  dsimp only
  congr 1
  rw [List.append_assoc, List.set_append_right _ _ (Nat.le_refl _), Nat.sub_self]
  simp
theorem newH_self (w : SS) (h : Cells) : SelfH w h.length (h.length + 1) (newH w h) := ⟨by unfold newH; rw [List.getElem?_append_right (Nat.le_refl _), Nat.sub_self]; rfl, by unfold newH; rw [List.getElem?_append_right (by omega), show h.length + 1 - h.length = 1 by omega]; rfl, by unfold newH; rw [List.getElem?_append_right (by omega), show h.length + 1 + 1 - h.length = 2 by omega]; rfl⟩
theorem newH_take (w : SS) (h : Cells) : (newH w h).take h.length = h := by unfold newH; rw [List.take_left']; rfl
/-- Halves(word).meth(..) -/
theorem x_methH {fn : Fns} {env : Ev} {h : Cells} {i j n : Nat} {mm : Str} {w : SS} {a : DE} {da : DA} {ds : List D} {r : R D} (p : ST_Halves_init (fn i)) (ha : a fn env h = .ok (eS w) h) (h1 : (mm == ("own_word" : Str)) = false) (h2 : (mm == ("own_found" : Str)) = false) (h3 : (mm == ("own_not" : Str)) = false) (hd : da fn env (newH w h) = .ok ds (newH w h)) (nb : noBors ds = true) (ln : decide (ds.length = n) = true) (hc : fn j (.obj h.length :: ds) (newH w h) = r) : dMeth 1 mm j n (dMake 1 i 1 (daCons a daNil)) da fn env h = r := by
  unfold dMeth
  rw [x_makeH p ha, ok_bind, (newH_self w h).of]
  dsimp only
  rw [fsH_no h1 h2 h3, if_neg (by decide), hd, ok_bind]
  unfold methD
  rw [nb, ln]
  exact hc
theorem loop_findE {α : Type} {en : α → D} {i : Nat} {body : DS} {fn : Fns} {h : Cells} {P : α → Bool} (E : Ev → Prop) : ∀ (xs : List α), (∀ x ∈ xs, ∀ env, E env → ∃ env1 env2, Pat.put (.name i) (en x) env = some env1 ∧ body fn env1 h = .ok (if P x then (.rt (en x), env2) else (.nx, env2)) h ∧ E env2) → ∀ env, E env → ∃ env', forL (.name i) body fn (xs.map en) env h = .ok (findR en env' (xs.find? P)) h ∧ E env'
  | [], _, env, e => ⟨env, rfl, e⟩
  | x :: xs, hb, env, e => by
    obtain ⟨env1, env2, q1, q2, q3⟩ := hb x (.head _) env e
    rw [List.map_cons]
    unfold forL
    rw [q1]
    dsimp only
    rw [q2, ok_bind, List.find?_cons]
    cases P x with
    | true => exact ⟨env2, rfl, q3⟩
    | false => exact loop_findE E xs (fun y m => hb y (.tail _ m)) env2 q3
def Halves_question_l0 (c_half_both c_Halves_is_found c_questions_of : Nat) : DS := sSeq (sAsg (dCall c_half_both 3 0 [.p 0, .p 1, .p 2] [] (daCons (dVar 1) (daCons (dFld 1 "own_word" (dVar 0)) (daCons (dVar 3) (daNil)))) (daNil)) (gTup 2 (gsCons (gName' 4) (gsCons (gName' 5) (gsNil))))) (sIf (dtAnd (dTruE (dMeth 1 "is_found" c_Halves_is_found 2 (dVar 0) (daCons (dVar 5) (daCons (dOp2 dSub (dVar 2) (dC (.int 1))) (daNil))))) (dTruE (dMeth 1 "is_found" c_Halves_is_found 2 (dVar 0) (daCons (dVar 4) (daCons (dOp2 dSub (dVar 2) (dC (.int 1))) (daNil)))))) (sRet (dVar 3)) (sNext))
def Halves_question_m (c_half_both c_Halves_is_found c_questions_of : Nat) : DS := sSeq (sIf (dtB (dOp2 dEq (dVar 2) (dC (.int 0)))) (sRet (dC .non)) (sNext)) (sSeq (sFor (.name 3) (dItems (dCall c_questions_of 1 0 [.p 0] [] (daCons (dVar 1) (daNil)) (daNil))) (Halves_question_l0 c_half_both c_Halves_is_found c_questions_of)) (sRet (dC .non)))
def hquest (y : Bool) (l : Nat) (c : List Int) : Option (List Int) := match l with
  | 0 => none
  | l + 1 => (t_questions_of c).find? fun q => hfnd y l (hb y c q).2 && hfnd y l (hb y c q).1
theorem hquest_is {y : Bool} {l : Nat} {c : List Int} (n : t_is_settled_of c = false) : hfnd y l c = (hquest y l c).isSome := by
  cases l with
  | zero => rw [hfnd, n]; rfl
  | succ l =>
    rw [hfnd, n, Bool.false_or, Bool.eq_iff_iff, List.any_eq_true]
    show _ ↔ (List.find? _ _).isSome = true
    rw [List.find?_isSome]
    constructor
    · rintro ⟨q, m, z⟩; exact ⟨q, m, by rw [Bool.and_comm]; exact z⟩
    · rintro ⟨q, m, z⟩; exact ⟨q, m, by rw [Bool.and_comm]; exact z⟩
def ST_Halves_is_found (l : Nat) (f : Fn) : Prop := ∀ (w : SS) (c : List Int), COk c → ∀ k m h, SelfH w k m h → f [.obj k, eT D.int c, .int (l : Nat)] h = .ok (.bl (hfnd (yw w) l c)) h
def ST_Halves_question (l : Nat) (f : Fn) : Prop := ∀ (w : SS) (c : List Int), COk c → ∀ k m h, SelfH w k m h → f [.obj k, eT D.int c, .int (l : Nat)] h = .ok (eO (eT D.int) (hquest (yw w) l c)) h
theorem et_Halves_question {fn : Fns} {i_1 i_2 i_3 : Nat} {l : Nat} (c_questions : ST_questions_of (fn i_3)) (c_half : ST_half_both (fn i_1)) (rec : ∀ l', l = l' + 1 → ST_Halves_is_found l' (fn i_2)) : ST_Halves_question l (bodyF 6 (Halves_question_m i_1 i_2 i_3) fn) := fun w c o k m h s => by
  refine b_ret (m := Halves_question_m i_1 i_2 i_3) (V := fun (z : Option (List Int)) => (eO (eT D.int) z, h)) (r := hquest (yw w) l c) ?_
  unfold Halves_question_m
  show J _ fn [.val (.obj k), .val (eT D.int c), .val (.int (l : Nat)), .no, .no, .no] _ _ _
  have e0 : dtB (dOp2 dEq (dVar 2) (dC (.int 0))) fn [.val (.obj k), .val (eT D.int c), .val (.int (l : Nat)), .no, .no, .no] h = .ok (decide ((l : Int) = 0)) h := t_B (x_op2 (x_var rfl) x_c rfl)
  cases l with
  | zero => exact ⟨.rt .non, _, h, by rw [e_sSeq, e_sIf, e0, ok_bind, if_pos (by rfl)]; rfl, rfl, rfl⟩
  | succ l =>
    have e1 : decide (((l + 1 : Nat) : Int) = 0) = false := decide_eq_false (by omega)
    rw [e1] at e0
    have hs : ((l + 1 : Nat) : Int) - 1 = (l : Nat) := by omega
    have rc := rec l rfl
    have len : c.length ≤ 100 := by have := o.l4; omega
    obtain ⟨env', e, _⟩ := loop_findE (en := eT D.int) (i := 3) (fn := fn) (h := h) (body := Halves_question_l0 i_1 i_2 i_3) (P := fun q => hfnd (yw w) l (hb (yw w) c q).2 && hfnd (yw w) l (hb (yw w) c q).1)
      (fun env => ∃ s3 s4 s5, env = [.val (.obj k), .val (eT D.int c), .val (.int ((l + 1 : Nat) : Int)), s3, s4, s5]) (t_questions_of c) (fun q hq env he => by
        obtain ⟨s3, s4, s5, rfl⟩ := he
        have z := hb_ok (y := yw w) o (mem_questions.mp hq)
        refine ⟨[.val (.obj k), .val (eT D.int c), .val (.int ((l + 1 : Nat) : Int)), .val (eT D.int q), s4, s5], [.val (.obj k), .val (eT D.int c), .val (.int ((l + 1 : Nat) : Int)), .val (eT D.int q), .val (eT D.int (hb (yw w) c q).1), .val (eT D.int (hb (yw w) c q).2)], rfl, ?_, ⟨_, _, _, rfl⟩⟩
        unfold Halves_question_l0
        have eh := c_half c w q len h
        rw [half_eq] at eh
        rw [e_sSeq, z_asg (d := eP2 (eT D.int) (eT D.int) (hb (yw w) c q)) (x_call (xa_cons (x_var rfl) (xa_cons (x_fld (x_var rfl) s.of fsH_word) (xa_cons (x_var rfl) xa_nil))) xa_nil (nb_cons rfl (nb_cons rfl (nb_cons rfl nb_nil))) nb_nil rfl rfl rfl eh) rfl (g_tup rfl rfl (g_cons (g_name rfl rfl rfl) (g_cons (g_name rfl rfl rfl) g_nil))), ok_bind]
        dsimp only
        have et : dtAnd (dTruE (dMeth 1 "is_found" i_2 2 (dVar 0) (daCons (dVar 5) (daCons (dOp2 dSub (dVar 2) (dC (.int 1))) (daNil))))) (dTruE (dMeth 1 "is_found" i_2 2 (dVar 0) (daCons (dVar 4) (daCons (dOp2 dSub (dVar 2) (dC (.int 1))) (daNil))))) fn [.val (.obj k), .val (eT D.int c), .val (.int ((l + 1 : Nat) : Int)), .val (eT D.int q), .val (eT D.int (hb (yw w) c q).1), .val (eT D.int (hb (yw w) c q).2)] h = .ok (hfnd (yw w) l (hb (yw w) c q).2 && hfnd (yw w) l (hb (yw w) c q).1) h :=
          t_and (t_tru (x_meth (x_var rfl) s.of (fsH_no (by decide +kernel) (by decide +kernel) (by decide +kernel)) (xa_cons (x_var rfl) (xa_cons (x_op2 (z := .int (l : Nat)) (x_var rfl) x_c (by show R.ok (D.int (((l + 1 : Nat) : Int) - 1)) _ = _; rw [hs])) xa_nil)) rfl rfl (rc w _ z.2 k m h s)) tr_bl) fun _ =>
            t_tru (x_meth (x_var rfl) s.of (fsH_no (by decide +kernel) (by decide +kernel) (by decide +kernel)) (xa_cons (x_var rfl) (xa_cons (x_op2 (z := .int (l : Nat)) (x_var rfl) x_c (by show R.ok (D.int (((l + 1 : Nat) : Int) - 1)) _ = _; rw [hs])) xa_nil)) rfl rfl (rc w _ z.1 k m h s)) tr_bl
        show sIf _ _ _ fn [.val (.obj k), .val (eT D.int c), .val (.int ((l + 1 : Nat) : Int)), .val (eT D.int q), .val (eT D.int (hb (yw w) c q).1), .val (eT D.int (hb (yw w) c q).2)] h = _
        rw [e_sIf, et, ok_bind]
        cases hfnd (yw w) l (hb (yw w) c q).2 && hfnd (yw w) l (hb (yw w) c q).1 <;> rfl) _ ⟨.no, .no, .no, rfl⟩
    have hr : sFor (.name 3) (dItems (dCall i_3 1 0 [.p 0] [] (daCons (dVar 1) (daNil)) (daNil))) (Halves_question_l0 i_1 i_2 i_3) fn [.val (.obj k), .val (eT D.int c), .val (.int ((l + 1 : Nat) : Int)), .no, .no, .no] h = .ok (findR (eT D.int) env' (hquest (yw w) (l + 1) c)) h := by
      rw [e_sFor, i_L (e := eT D.int) (xs := t_questions_of c) (x_call (xa_cons (x_var rfl) xa_nil) xa_nil rfl rfl rfl rfl rfl (c_questions c o.l4 o.bd40 _)), ok_bind]
      exact e
    refine j_ifN e0 ?_
    cases e2 : hquest (yw w) (l + 1) c with
    | some q =>
      rw [e2] at hr
      exact ⟨_, env', _, by rw [e_sSeq, hr, ok_bind]; rfl, rfl, rfl⟩
    | none =>
      rw [e2] at hr
      exact ⟨_, env', _, by rw [e_sSeq, hr, ok_bind]; rfl, rfl, rfl⟩
noncomputable def Halves_is_found_m (c_is_settled_of c_together c_power_of_two c_Halves_question : Nat) : DS := memQ (fun env h => memIn "own_found" env h 0) (dtOr (dTruE (dCall c_is_settled_of 1 0 [.p 0] [] (daCons (dVar 1) (daNil)) (daNil))) (dtB (dOp2 dGe (dVar 2) (dGetD (dFld 1 "own_found" (dVar 0)) (dVar 1) (dOp2 dAdd (dVar 2) (dC (.int 1))))))) (sRet (dC (.bl true))) (memQ (fun env h => memIn "own_not" env h 0) (dtOr (dtB (dOp2 dGt (dCall c_together 1 0 [.p 0] [] (daCons (dVar 1) (daNil)) (daNil)) (dCall c_power_of_two 1 0 [.p 0] [] (daCons (dVar 2) (daNil)) (daNil)))) (dtB (dOp2 dLe (dVar 2) (dGetD (dFld 1 "own_not" (dVar 0)) (dVar 1) (dOp1 dNeg (dC (.int 1))))))) (sRet (dC (.bl false))) (sSeq (sIf (dtB (dOp2 dIs (dMeth 1 "question" c_Halves_question 2 (dVar 0) (daCons (dVar 1) (daCons (dVar 2) (daNil)))) (dC .non))) (sSeq (sAsg (dVar 2) (gDicC (dFld 1 "own_not" (dVar 0)) (dVar 1))) (sRet (dC (.bl false)))) (sNext)) (sSeq (sAsg (dVar 2) (gDicC (dFld 1 "own_found" (dVar 0)) (dVar 1))) (sRet (dC (.bl true))))))
theorem pow_tab16 : ∀ l : Fin 17, t_power_of_two (l.val : Int) = 2 ^ l.val := by decide +kernel
theorem et_Halves_is_found {fn : Fns} {i_1 i_2 i_3 i_4 : Nat} {l : Nat} (hl : l ≤ 16) (c_settled : ST_is_settled_of (fn i_1)) (c_together : ST_together (fn i_2)) (c_power : ST_power_of_two (fn i_3)) (rec : ST_Halves_question l (fn i_4)) : ST_Halves_is_found l (bodyF 3 (Halves_is_found_m i_1 i_2 i_3 i_4) fn) := fun w c o k m h s => by
  have hpow : t_power_of_two (l : Int) = 2 ^ l := pow_tab16 ⟨l, by omega⟩
  refine b_ret (m := Halves_is_found_m i_1 i_2 i_3 i_4) (V := fun (z : Bool) => (D.bl z, h)) (r := hfnd (yw w) l c) ?_
  unfold Halves_is_found_m
  show J _ fn [.val (.obj k), .val (eT D.int c), .val (.int (l : Nat))] _ _ _
  refine ⟨.rt (.bl (hfnd (yw w) l c)), _, h, j_memQ (s.atF rfl) s.hf (fun kvs p => ?_), rfl, rfl⟩
  obtain ⟨v, ev, hv⟩ := x_getMk (fn := fn) (env := [.val (.obj k), .val (eT D.int c), .val (.int (l : Nat))]) (h := h) (m := m) (c := c) (z := (l : Int) + 1) (a := dFld 1 "own_found" (dVar 0)) (b := dVar 1) (d := dOp2 dAdd (dVar 2) (dC (.int 1))) p (List.getElem?_eq_some_iff.mp s.hf).1 (fun ob => x_fld (x_var rfl) (s.set s.nf ob) fsH_found) (fun ob => x_var rfl) fun ob => x_op2 (x_var rfl) x_c rfl
  refine ⟨t_is_settled_of c || decide (v ≤ (l : Int)), t_or (t_tru (x_call (xa_cons (x_var rfl) xa_nil) xa_nil (nb_cons rfl nb_nil) nb_nil rfl rfl rfl (c_settled c _)) tr_bl) fun _ => t_B (x_op2 (x_var rfl) ev rfl), fun e => ?_, fun e => ?_⟩
  · have : hfnd (yw w) l c = true := by
      rw [Bool.or_eq_true, decide_eq_true_eq] at e
      rcases e with e | e
      · cases l <;> simp [hfnd, e]
      · rcases hv with rfl | hv
        · omega
        · exact hfnd_le (by omega) hv.2.2
    rw [this]
    exact ⟨_, rfl, rfl⟩
  rw [Bool.or_eq_false_iff, decide_eq_false_iff_not] at e
  refine ⟨_, j_memQ (s.atN rfl) s.hn (fun kvs2 p2 => ?_), by simp [noEnv]⟩
  obtain ⟨v2, ev2, hv2⟩ := x_getMk (fn := fn) (env := [.val (.obj k), .val (eT D.int c), .val (.int (l : Nat))]) (h := h) (m := m + 1) (c := c) (z := -1) (a := dFld 1 "own_not" (dVar 0)) (b := dVar 1) (d := dOp1 dNeg (dC (.int 1))) p2 (List.getElem?_eq_some_iff.mp s.hn).1 (fun ob => x_fld (x_var rfl) (s.set s.nn ob) fsH_not) (fun ob => x_var rfl) fun ob => rfl
  refine ⟨decide (2 ^ l < c.sum) || decide ((l : Int) ≤ v2), t_or (t_B (x_op2 (x := .int c.sum) (y := .int (2 ^ l)) (x_call (xa_cons (x_var rfl) xa_nil) xa_nil (nb_cons rfl nb_nil) nb_nil rfl rfl rfl (c_together c _)) (x_call (xa_cons (x_var rfl) xa_nil) xa_nil (nb_cons rfl nb_nil) nb_nil rfl rfl rfl (by rw [← hpow]; exact c_power (l : Nat) (by omega) (by omega) _)) rfl)) fun _ => t_B (x_op2 (x_var rfl) ev2 rfl), fun e2 => ?_, fun e2 => ?_⟩
  · have : hfnd (yw w) l c = false := by
      rw [Bool.or_eq_true, decide_eq_true_eq, decide_eq_true_eq] at e2
      rw [Bool.eq_false_iff]
      intro z
      rcases e2 with e2 | e2
      · have := hfnd_sum o z
        omega
      · rcases hv2 with rfl | hv2
        · omega
        · have := hfnd_le (m := v2.toNat) (by omega) z
          rw [hv2.2.2] at this
          cases this
    rw [this]
    exact ⟨_, rfl, rfl⟩
  have hq := rec w c o k m h s
  have hh := hquest_is (y := yw w) (l := l) e.1
  have eq : dtB (dOp2 dIs (dMeth 1 "question" i_4 2 (dVar 0) (daCons (dVar 1) (daCons (dVar 2) (daNil)))) (dC .non)) fn [.val (.obj k), .val (eT D.int c), .val (.int (l : Nat))] h = .ok ((hquest (yw w) l c).isNone) h :=
    t_B (x_op2 (x_meth (x_var rfl) s.of (fsH_no (by decide +kernel) (by decide +kernel) (by decide +kernel)) (xa_cons (x_var rfl) (xa_cons (x_var rfl) xa_nil)) rfl rfl hq) x_c (o_isN (e := eT D.int)))
  rw [show (hquest (yw w) l c).isNone = !(hquest (yw w) l c).isSome by cases hquest (yw w) l c <;> rfl, ← hh] at eq
  cases hf : hfnd (yw w) l c with
  | false =>
    rw [hf] at eq
    refine ⟨[.val (.obj k), .val (eT D.int c), .val (.int (l : Nat))], ?_, rfl⟩
    rw [e_sSeq, e_sIf, eq, ok_bind, if_pos (by rfl), e_sSeq, z_asg (d := .int (l : Nat)) (x_var rfl) rfl (g_dicC s.hn o ⟨by omega, by omega, by rw [Int.toNat_natCast]; exact hf⟩ (x_fld (x_var rfl) s.of fsH_not) (x_var rfl)), ok_bind]
    rfl
  | true =>
    rw [hf] at eq
    refine ⟨[.val (.obj k), .val (eT D.int c), .val (.int (l : Nat))], ?_, rfl⟩
    rw [e_sSeq, e_sIf, eq, ok_bind, if_neg (by decide), e_sNext, ok_bind]
    dsimp only
    rw [e_sSeq, z_asg (d := .int (l : Nat)) (x_var rfl) rfl (g_dicC s.hf o ⟨by omega, by omega, by rw [Int.toNat_natCast]; exact hf⟩ (x_fld (x_var rfl) s.of fsH_found) (x_var rfl)), ok_bind]
    rfl
end EV
/-! EV69: one lie: weights behind told questions -/
/-! EVM_pairs: pairs of numbers (no wrong answer, one), found by going through all questions: a memo of them -/
namespace EV
open PySem L2
/-- (number, number), left: found -/
def fndP : Nat → Int × Int → Bool
  | 0, p => decide (p.1 + p.2 < 2)
  | l + 1, p => decide (p.1 + p.2 < 2) || (rangeI (p.1 + 1)).any fun x => (rangeI (p.2 + 1)).any fun y => fndP l (x, y + p.1 - x) && fndP l (p.1 - x, p.2 - y + x)
abbrev kP : (Int × Int) × Nat → D := fun k => .tup [.tup [.int k.1.1, .int k.1.2], .int k.2]
abbrev kPk (k : (Int × Int) × Nat) : NestedKey := .tup [.tup [.num k.1.1, .num k.1.2], .num k.2]
theorem kPk_inj (a b : (Int × Int) × Nat) (e : kPk a = kPk b) : a = b := by
  simp only [NestedKey.tup.injEq, List.cons.injEq, NestedKey.num.injEq, and_true] at e
  obtain ⟨⟨e1, e2⟩, e3⟩ := e
  obtain ⟨⟨a1, a2⟩, a3⟩ := a
  obtain ⟨⟨b1, b2⟩, b3⟩ := b
  simp only at e1 e2 e3
  simp only [Prod.mk.injEq]
  exact ⟨⟨e1, e2⟩, by omega⟩
def TP : MT where
  κ := (Int × Int) × Nat
  enc := kP
  dk := kPk
  ok := fun k => rfl
  inj := kPk_inj
  low := fun k => ⟨rfl, rfl⟩
  φ := fun k => fndP k.2 k.1
  lv := fun k => k.2
  dom := fun k => 0 ≤ k.1.1 ∧ 0 ≤ k.1.2 ∧ k.1.1 + k.1.2 ≤ 40 ∧ k.2 ≤ 60
  code := fun k => (k.1.1.toNat * 41 + k.1.2.toNat) * 61 + k.2
  N := 110000
  hN := by decide
  cb := fun k ⟨h1, h2, h3, h4⟩ => by omega
  ci := fun a b ⟨h1, h2, h3, h4⟩ ⟨g1, g2, g3, g4⟩ e => by
    obtain ⟨⟨a1, a2⟩, a3⟩ := a
    obtain ⟨⟨b1, b2⟩, b3⟩ := b
    simp only [Prod.mk.injEq] at *
    exact ⟨⟨by omega, by omega⟩, by omega⟩
def M_pairs : Memo := memoOf TP
instance : NilM M_pairs := inferInstanceAs (NilM (memoOf TP))
end EV
/-! EV78: one lie: start numbers, pairs found by going through -/
/-! EV89: questions stand in their order; the least left; good questions -/
namespace EV
open PySem L2
def is_standing_of_m (c_is_row c_are_counts_of c_is_left : Nat) : DS := sRet (dAnd (dCall c_is_row 2 0 [.p 0, .p 1] [] (daCons (dVar 0) (daCons (dC (.int 2)) (daNil))) (daNil)) (dAnd (dCall c_are_counts_of 1 0 [.p 0] [] (daCons (dOp2 dIx (dVar 0) (dC (.int 0))) (daNil)) (daNil)) (dCall c_is_left 1 0 [.p 0] [] (daCons (dOp2 dIx (dVar 0) (dC (.int 1))) (daNil)) (daNil))))
@[simp] theorem t_is_row_P2 {α β : Type} {e : α → D} {f : β → D} [PlE (eP2 e f)] {x : α × β} {m : Int} : t_is_row (toV (eP2 e f) x) m = decide ((2 : Int) = m) := rfl
@[simp] theorem t_is_row_P3 {α β γ : Type} {e : α → D} {f : β → D} {g : γ → D} [PlE (eP3 e f g)] {x : α × β × γ} {m : Int} : t_is_row (toV (eP3 e f g) x) m = decide ((3 : Int) = m) := rfl
structure CkF (c : List Int) : Prop where
  l1 : 1 ≤ c.length
  l4 : c.length ≤ 4
  nn : ∀ x ∈ c, 0 ≤ x
  sm : c.sum ≤ 40
theorem counts_facts {c : List Int} (h : t_are_counts_of c = true) : CkF c := by
  unfold t_are_counts_of at h
  split at h
  · cases h
  · rename_i q
    simp at q h
    exact ⟨by omega, by omega, h.1, h.2⟩
theorem CkF.bd {c : List Int} (o : CkF c) : ∀ x ∈ c, 0 ≤ x ∧ x ≤ 40 := fun x m => by
  have h1 := o.nn x m
  have h2 := mem_le_sum o.nn x m
  have h3 := o.sm
  exact ⟨h1, by omega⟩
def t_is_standing_of (value_0 : ((List Int) × Int)) : Bool := ((t_is_row (toV (eP2 (eT D.int) D.int) value_0) 2) && ((t_are_counts_of value_0.1) && (t_is_left value_0.2)))
def ST_is_standing_of (f : Fn) : Prop := ∀ (value_0 : ((List Int) × Int)), (lk : value_0.1.length ≤ 16777216) → ∀ h, f [(eP2 (eT D.int) D.int) value_0] h = .ok (D.bl (t_is_standing_of value_0)) h
theorem et_is_standing_of {fn : Fns} {i_is_row i_are_counts_of i_is_left : Nat} (c_is_row : ST_is_row (fn i_is_row)) (c_are_counts_of : ST_are_counts_of (fn i_are_counts_of)) (c_is_left : ST_is_left (fn i_is_left)) : ST_is_standing_of (bodyF 1 (is_standing_of_m i_is_row i_are_counts_of i_is_left) fn) := by
  intro value_0 lk h
  refine b_ret (m := is_standing_of_m i_is_row i_are_counts_of i_is_left) (V := (fun (r : Bool) => (D.bl r, h))) (r := t_is_standing_of value_0) ?_
  unfold t_is_standing_of is_standing_of_m
  show J _ fn [.val ((eP2 (eT D.int) D.int) value_0)] _ _ _
  exact j_ret (d := D.bl ((t_is_row (toV (eP2 (eT D.int) D.int) value_0) 2) && ((t_are_counts_of value_0.1) && (t_is_left value_0.2)))) (x_and (x_call (xa_cons (xv (eV (toV (eP2 (eT D.int) D.int) value_0)) (x_var rfl)) (xa_cons x_c xa_nil)) xa_nil (nb_cons (NB.nb _) (nb_cons rfl nb_nil)) nb_nil rfl rfl rfl (c_is_row (toV (eP2 (eT D.int) D.int) value_0) 2 _)) fun hc => (x_and (x_call (xa_cons (x_op2 (x_var rfl) x_c o_ixP2_0) xa_nil) xa_nil (nb_cons rfl nb_nil) nb_nil rfl rfl rfl (c_are_counts_of value_0.1 (by first | assumption | omega | (dsimp only [lt] at *; omega) | (set_option maxHeartbeats 40000 in (simp; done)) | (set_option maxHeartbeats 40000 in (simp; omega)) | (set_option maxHeartbeats 40000 in (simp at *; omega)) | (set_option maxHeartbeats 40000 in (simp_all; done)) | (set_option maxHeartbeats 40000 in (simp_all; omega))) _)) fun hc => (x_call (xa_cons (x_op2 (x_var rfl) x_c o_ixP2_1) xa_nil) xa_nil (nb_cons rfl nb_nil) nb_nil rfl rfl rfl (c_is_left value_0.2 _)))) rfl ⟨rfl, rfl⟩
def want_standing_m (c_is_standing_of : Nat) : DS := sSeq (sIf (dtNot (dTruE (dCall c_is_standing_of 1 0 [.p 0] [] (daCons (dVar 0) (daNil)) (daNil)))) (sBad) (sNext)) (sRet (dVar 0))
@[reducible] def t_want_standing (value_0 : ((List Int) × Int)) : ((List Int) × Int) := value_0
def ST_want_standing (f : Fn) : Prop := ∀ (value_0 : ((List Int) × Int)), (ck : t_are_counts_of value_0.1 = true) → (l0 : 0 ≤ value_0.2) → (l1 : value_0.2 ≤ 16) → ∀ h, f [(eP2 (eT D.int) D.int) value_0] h = .ok ((eP2 (eT D.int) D.int) (t_want_standing value_0)) h
theorem et_want_standing {fn : Fns} {i_is_standing_of : Nat} (c_is_standing_of : ST_is_standing_of (fn i_is_standing_of)) : ST_want_standing (bodyF 1 (want_standing_m i_is_standing_of) fn) := by
  intro value_0 ck l0 l1 h
  have cf := counts_facts ck
  have c4 := cf.l4
  refine b_ret (m := want_standing_m i_is_standing_of) (V := (fun (r : ((List Int) × Int)) => ((eP2 (eT D.int) D.int) r, h))) (r := t_want_standing value_0) ?_
  unfold t_want_standing want_standing_m
  show J _ fn [.val ((eP2 (eT D.int) D.int) value_0)] _ _ _
  refine j_ifN (t_false (t_not (t_tru (x_call (xa_cons (x_var rfl) xa_nil) xa_nil (nb_cons rfl nb_nil) nb_nil rfl rfl rfl (c_is_standing_of value_0 (by first | assumption | omega | (dsimp only [lt] at *; omega) | (set_option maxHeartbeats 40000 in (simp; done)) | (set_option maxHeartbeats 40000 in (simp; omega)) | (set_option maxHeartbeats 40000 in (simp at *; omega)) | (set_option maxHeartbeats 40000 in (simp_all; done)) | (set_option maxHeartbeats 40000 in (simp_all; omega))) _)) tr_bl)) (by unfold t_is_standing_of t_is_left; rw [ck]; simp; omega)) ?_
  exact j_ret (d := (eP2 (eT D.int) D.int) value_0) (x_var rfl) rfl ⟨rfl, rfl⟩
def is_question_of_m (c_is_row c_is_below : Nat) : DS := sSeq (sIf (dtNot (dTruE (dCall c_is_row 2 0 [.p 0, .p 1] [] (daCons (dVar 1) (daCons (dOpN cLen (daCons (dVar 0) (daNil))) (daNil))) (daNil)))) (sRet (dC (.bl false))) (sNext)) (sRet (dOpN cAll (daCons (asVal (dComp [2, 3] (.tup [.name 2, .name 3]) (dZipX (daCons (dVar 1) (daCons (dVar 0) (daNil)))) (dtYes) (dCall c_is_below 2 0 [.p 0, .p 1] [] (daCons (dVar 2) (daCons (dOp2 dAdd (dVar 3) (dC (.int 1))) (daNil))) (daNil)))) (daNil))))
def t_is_question_of (counts_0 : (List Int)) (value_0 : (List Int)) : Bool := if (!(t_is_row (toV (eT D.int) value_0) (counts_0.length : Int))) = true then (false) else (((value_0.zip counts_0).all (fun u_1 => (t_is_below (toV D.int u_1.1) (u_1.2 + 1)))))
def ST_is_question_of (f : Fn) : Prop := ∀ (counts_0 : (List Int)) (value_0 : (List Int)), (lk : counts_0.length ≤ 16777216) → ∀ h, f [(eT D.int) counts_0, (eT D.int) value_0] h = .ok (D.bl (t_is_question_of counts_0 value_0)) h
theorem et_is_question_of {fn : Fns} {i_is_row i_is_below : Nat} (c_is_row : ST_is_row (fn i_is_row)) (c_is_below : ST_is_below (fn i_is_below)) : ST_is_question_of (bodyF 4 (is_question_of_m i_is_row i_is_below) fn) := by
  intro counts_0 value_0 lk h
  refine b_ret (m := is_question_of_m i_is_row i_is_below) (V := (fun (r : Bool) => (D.bl r, h))) (r := t_is_question_of counts_0 value_0) ?_
  unfold t_is_question_of is_question_of_m
  show J _ fn [.val ((eT D.int) counts_0), .val ((eT D.int) value_0), .no, .no] _ _ _
  refine j_ifq (t_not (t_tru (x_call (xa_cons (xv (eV (toV (eT D.int) value_0)) (x_var rfl)) (xa_cons (x_opN (xa_cons (x_var rfl) xa_nil) (o_lenT (e := D.int))) xa_nil)) xa_nil (nb_cons (NB.nb _) (nb_cons rfl nb_nil)) nb_nil rfl rfl rfl (c_is_row (toV (eT D.int) value_0) (counts_0.length : Int) _)) tr_bl)) (fun hc1 => ?_) (fun hc1 => ?_)
  · skip
    refine j_re ?_
    exact j_ret (d := D.bl false) x_c rfl ⟨rfl, rfl⟩
  · skip
    exact j_ret (d := D.bl ((value_0.zip counts_0).all (fun u_1 => (t_is_below (toV D.int u_1.1) (u_1.2 + 1))))) (x_opN (xa_cons (xv (eL D.bl ((value_0.zip counts_0).map (fun u_1 => (t_is_below (toV D.int u_1.1) (u_1.2 + 1))))) (x_asVal (f_compM (en := (eP2 D.int D.int)) (ev := D.bl) (fun u_1 => (t_is_below (toV D.int u_1.1) (u_1.2 + 1))) (i_zip (e := D.int) (e' := D.int) (xs := value_0) (ys := counts_0) (xa_cons (x_var rfl) (xa_cons (x_var rfl) xa_nil)) rfl rfl) (by first | assumption | omega | (dsimp only [lt] at *; omega) | (set_option maxHeartbeats 40000 in (simp; done)) | (set_option maxHeartbeats 40000 in (simp; omega)) | (set_option maxHeartbeats 40000 in (simp at *; omega)) | (set_option maxHeartbeats 40000 in (simp_all; done)) | (set_option maxHeartbeats 40000 in (simp_all; omega))) rfl (fun _ => rfl) fun u_1 hu => have hr := mem_zip hu; ⟨_, (p_tup rfl (p_cons (p_name rfl rfl rfl) (p_cons (p_name rfl rfl rfl) p_nil))), (x_call (xa_cons (xv (eV (toV D.int u_1.1)) (x_var rfl)) (xa_cons (x_op2 (x_var rfl) x_c rfl) xa_nil)) xa_nil (nb_cons (NB.nb _) (nb_cons rfl nb_nil)) nb_nil rfl rfl rfl (c_is_below (toV D.int u_1.1) (u_1.2 + 1) _))⟩))) xa_nil) (o_allM (f := (fun u_1 => (t_is_below (toV D.int u_1.1) (u_1.2 + 1)))) (xs := (value_0.zip counts_0)))) rfl ⟨rfl, rfl⟩
def want_question_m (c_is_question_of : Nat) : DS := sSeq (sIf (dtNot (dTruE (dCall c_is_question_of 2 0 [.p 0, .p 1] [] (daCons (dVar 0) (daCons (dVar 1) (daNil))) (daNil)))) (sBad) (sNext)) (sRet (dVar 1))
@[reducible] def t_want_question (counts_0 : (List Int)) (value_0 : (List Int)) : (List Int) := value_0
def ST_want_question (f : Fn) : Prop := ∀ (counts_0 : (List Int)) (value_0 : (List Int)), (lk : counts_0.length ≤ 16777216) → (q : t_is_question_of counts_0 value_0 = true) → ∀ h, f [(eT D.int) counts_0, (eT D.int) value_0] h = .ok ((eT D.int) (t_want_question counts_0 value_0)) h
theorem et_want_question {fn : Fns} {i_is_question_of : Nat} (c_is_question_of : ST_is_question_of (fn i_is_question_of)) : ST_want_question (bodyF 2 (want_question_m i_is_question_of) fn) := by
  intro counts_0 value_0 lk q h
  refine b_ret (m := want_question_m i_is_question_of) (V := (fun (r : (List Int)) => ((eT D.int) r, h))) (r := t_want_question counts_0 value_0) ?_
  unfold t_want_question want_question_m
  show J _ fn [.val ((eT D.int) counts_0), .val ((eT D.int) value_0)] _ _ _
  refine j_ifN (t_false (t_not (t_tru (x_call (xa_cons (x_var rfl) (xa_cons (x_var rfl) xa_nil)) xa_nil (nb_cons rfl (nb_cons rfl nb_nil)) nb_nil rfl rfl rfl (c_is_question_of counts_0 value_0 (by first | assumption | omega | (dsimp only [lt] at *; omega) | (set_option maxHeartbeats 40000 in (simp; done)) | (set_option maxHeartbeats 40000 in (simp; omega)) | (set_option maxHeartbeats 40000 in (simp at *; omega)) | (set_option maxHeartbeats 40000 in (simp_all; done)) | (set_option maxHeartbeats 40000 in (simp_all; omega))) _)) tr_bl)) (by first | assumption | omega | (dsimp only [lt] at *; omega) | (set_option maxHeartbeats 40000 in (simp; done)) | (set_option maxHeartbeats 40000 in (simp; omega)) | (set_option maxHeartbeats 40000 in (simp at *; omega)) | (set_option maxHeartbeats 40000 in (simp_all; done)) | (set_option maxHeartbeats 40000 in (simp_all; omega)))) ?_
  exact j_ret (d := (eT D.int) value_0) (x_var rfl) rfl ⟨rfl, rfl⟩
def both_m (c_want_counts c_both_behind c_want_question : Nat) : DS := sSeq (sExpr (dCall c_want_counts 1 0 [.p 0] [] (daCons (dVar 0) (daNil)) (daNil))) (sRet (dCall c_both_behind 2 0 [.p 0, .p 1] [] (daCons (dVar 0) (daCons (dCall c_want_question 2 0 [.p 0, .p 1] [] (daCons (dVar 0) (daCons (dVar 1) (daNil))) (daNil)) (daNil))) (daNil)))
def t_both (counts_0 : (List Int)) (question_0 : (List Int)) : ((List Int) × (List Int)) := (t_both_behind counts_0 question_0)
def ST_both (f : Fn) : Prop := ∀ (counts_0 : (List Int)) (question_0 : (List Int)), (ck : t_are_counts_of counts_0 = true) → (q : t_is_question_of counts_0 question_0 = true) → ∀ h, f [(eT D.int) counts_0, (eT D.int) question_0] h = .ok ((eP2 (eT D.int) (eT D.int)) (t_both counts_0 question_0)) h
theorem et_both {fn : Fns} {i_want_counts i_both_behind i_want_question : Nat} (c_want_counts : ST_want_counts (fn i_want_counts)) (c_want_question : ST_want_question (fn i_want_question)) (c_both_behind : ST_both_behind (fn i_both_behind)) : ST_both (bodyF 2 (both_m i_want_counts i_both_behind i_want_question) fn) := by
  intro counts_0 question_0 ck q h
  have cf := counts_facts ck
  have c4 := cf.l4
  refine b_ret (m := both_m i_want_counts i_both_behind i_want_question) (V := (fun (r : ((List Int) × (List Int))) => ((eP2 (eT D.int) (eT D.int)) r, h))) (r := t_both counts_0 question_0) ?_
  unfold t_both both_m
  show J _ fn [.val ((eT D.int) counts_0), .val ((eT D.int) question_0)] _ _ _
  refine j_seq (z_expr (x_call (xa_cons (x_var rfl) xa_nil) xa_nil (nb_cons rfl nb_nil) nb_nil rfl rfl rfl (c_want_counts counts_0 (by first | assumption | omega | (dsimp only [lt] at *; omega) | (set_option maxHeartbeats 40000 in (simp; done)) | (set_option maxHeartbeats 40000 in (simp; omega)) | (set_option maxHeartbeats 40000 in (simp at *; omega)) | (set_option maxHeartbeats 40000 in (simp_all; done)) | (set_option maxHeartbeats 40000 in (simp_all; omega))) (by first | assumption | omega | (dsimp only [lt] at *; omega) | (set_option maxHeartbeats 40000 in (simp; done)) | (set_option maxHeartbeats 40000 in (simp; omega)) | (set_option maxHeartbeats 40000 in (simp at *; omega)) | (set_option maxHeartbeats 40000 in (simp_all; done)) | (set_option maxHeartbeats 40000 in (simp_all; omega))) _))) ?_
  exact j_ret (d := (eP2 (eT D.int) (eT D.int)) (t_both_behind counts_0 question_0)) (x_call (xa_cons (x_var rfl) (xa_cons (x_call (xa_cons (x_var rfl) (xa_cons (x_var rfl) xa_nil)) xa_nil (nb_cons rfl (nb_cons rfl nb_nil)) nb_nil rfl rfl rfl (c_want_question counts_0 question_0 (by first | assumption | omega | (dsimp only [lt] at *; omega) | (set_option maxHeartbeats 40000 in (simp; done)) | (set_option maxHeartbeats 40000 in (simp; omega)) | (set_option maxHeartbeats 40000 in (simp at *; omega)) | (set_option maxHeartbeats 40000 in (simp_all; done)) | (set_option maxHeartbeats 40000 in (simp_all; omega))) (by first | assumption | omega | (dsimp only [lt] at *; omega) | (set_option maxHeartbeats 40000 in (simp; done)) | (set_option maxHeartbeats 40000 in (simp; omega)) | (set_option maxHeartbeats 40000 in (simp at *; omega)) | (set_option maxHeartbeats 40000 in (simp_all; done)) | (set_option maxHeartbeats 40000 in (simp_all; omega))) _)) xa_nil)) xa_nil (nb_cons rfl (nb_cons rfl nb_nil)) nb_nil rfl rfl rfl (c_both_behind counts_0 question_0 (by first | assumption | omega | (dsimp only [lt] at *; omega) | (set_option maxHeartbeats 40000 in (simp; done)) | (set_option maxHeartbeats 40000 in (simp; omega)) | (set_option maxHeartbeats 40000 in (simp at *; omega)) | (set_option maxHeartbeats 40000 in (simp_all; done)) | (set_option maxHeartbeats 40000 in (simp_all; omega))) _)) rfl ⟨rfl, rfl⟩
end EV
namespace EV
open PySem L2
def t_is_rising (items_0 : (List Int)) : Bool := ((items_0.zip (cut items_0 (some 1) none)).all (fun u_1 => (decide (u_1.1 < u_1.2))))
def t_is_answer (value_0 : SS) : Bool := (true && (hasB ([(lit "yes"), (lit "no")] : List SS) value_0))
def t_are_things_in (many_0 : Int) (value_0 : (List Int)) : Bool := (true && ((value_0.all (fun u_1 => (t_is_below (toV D.int u_1) many_0))) && (t_is_rising value_0)))
def t_is_log_of (value_0 : (SS × Int × Int × (List ((List Int) × SS)))) : Bool := if ((!(t_is_row (toV (eP4 eS D.int D.int (eT (eP2 (eT D.int) eS))) value_0) 4)) || ((!true) || (!decide (value_0.1 = (lit "log"))))) = true then (false) else (if ((!(t_is_integer (toV D.int value_0.2.1))) || ((!((decide (1 ≤ value_0.2.1)) && (decide (value_0.2.1 ≤ 40)))) || ((!(t_is_count (toV D.int value_0.2.2.1))) || (decide (3 < value_0.2.2.1))))) = true then (false) else (if ((!true) || ((decide (24 < (value_0.2.2.2.length : Int))) || (!(value_0.2.2.2.all (fun u_1 => (t_is_row (toV (eP2 (eT D.int) eS) u_1) 2)))))) = true then (false) else ((value_0.2.2.2.all (fun u_2 => ((t_are_things_in value_0.2.1 u_2.1) && (t_is_answer u_2.2)))))))
abbrev LogT := SS × Int × Int × List (List Int × SS)
/-- a log -/
structure LogOk (l : LogT) : Prop where
  nm : l.1 = lit "log"
  m1 : 1 ≤ l.2.1
  m2 : l.2.1 ≤ 40
  l1 : 0 ≤ l.2.2.1
  l2 : l.2.2.1 ≤ 3
  rw : l.2.2.2.length ≤ 24
  row : ∀ r ∈ l.2.2.2, t_are_things_in l.2.1 r.1 = true ∧ t_is_answer r.2 = true ∧ r.1.length ≤ 40
theorem LogOk.is {l : LogT} (o : LogOk l) : t_is_log_of l = true := by
  unfold t_is_log_of
  have h1 := o.nm
  have h2 := o.m1
  have h3 := o.m2
  have h4 := o.l1
  have h5 := o.l2
  have h6 := o.rw
  have e1 : t_is_row (toV (eP4 eS D.int D.int (eT (eP2 (eT D.int) eS))) l) 4 = true := rfl
  have e2 : ∀ {α β : Type} {e : α → D} {f : β → D} [PlE (eP2 e f)] (x : α × β), t_is_row (toV (eP2 e f) x) 2 = true := fun _ => rfl
  rw [if_neg (by rw [e1, h1]; simp), if_neg (by simp; omega), if_neg (by simp [e2]; omega)]
  rw [List.all_eq_true]
  intro r hr
  have := o.row r hr
  rw [this.1, this.2.1]; rfl
end EV
/-! EV102: ints shuffled, typed -/
/-! EV54: plans of words -/
namespace EV
open PySem L2
/-- a word, a plan -/
def wdOk (s : Nat) (w : List Int) : Prop := w.length = s ∧ ∀ x ∈ w, x = 0 ∨ x = 1
structure Pln where
  s : Nat
  ws : List (List Int)
def risW : List (List Int) → Bool
  | a :: b :: ws => HT.lexLt a b && risW (b :: ws)
  | _ => true
structure PlOk (p : Pln) : Prop where
  s1 : 1 ≤ p.s
  s10 : p.s ≤ 10
  w1 : 1 ≤ p.ws.length
  w64 : p.ws.length ≤ 64
  wd : ∀ w ∈ p.ws, wdOk p.s w
  ris : risW p.ws = true
end EV
namespace EV
open PySem L2
def t_rising_w (items_0 : (List (List Int))) : Bool := ((items_0.zip (cut items_0 (some 1) none)).all (fun u_1 => (HT.lexLt u_1.1 u_1.2)))
def t_is_word_of (signs_0 : Int) (value_0 : (List Int)) : Bool := ((t_is_row (toV (eT D.int) value_0) signs_0) && (value_0.all (fun u_1 => (t_is_below (toV D.int u_1) 2))))
def t_is_plan_of (value_0 : (SS × Int × (List (List Int)))) : Bool := if ((!(t_is_row (toV (eP3 eS D.int (eT (eT D.int))) value_0) 3)) || ((!true) || (!decide (value_0.1 = (lit "plan"))))) = true then (false) else (if ((!(t_is_integer (toV D.int value_0.2.1))) || ((!((decide (1 ≤ value_0.2.1)) && (decide (value_0.2.1 ≤ 10)))) || (!true))) = true then (false) else (if ((!((decide (1 ≤ (value_0.2.2.length : Int))) && (decide ((value_0.2.2.length : Int) ≤ 64)))) || (!(value_0.2.2.all (fun u_1 => (t_is_word_of value_0.2.1 u_1))))) = true then (false) else ((t_rising_w value_0.2.2))))
theorem cut_le {α : Type} {xs : List α} {lo hi : Option Int} : (cut xs lo hi).length ≤ xs.length := by
  unfold cut
  rw [List.length_take, List.length_drop]; omega
structure PlK (q : SS × Int × List (List Int)) : Prop where
  nm : q.1 = lit "plan"
  s1 : 1 ≤ q.2.1
  s10 : q.2.1 ≤ 10
  w1 : 1 ≤ q.2.2.length
  w64 : q.2.2.length ≤ 64
  wd : ∀ w ∈ q.2.2, w.length = q.2.1.toNat ∧ ∀ x ∈ w, 0 ≤ x ∧ x < 2
  ris : t_rising_w q.2.2 = true
theorem word_iff {s : Int} (h : 0 ≤ s) {w : List Int} : t_is_word_of s w = true ↔ w.length = s.toNat ∧ ∀ x ∈ w, 0 ≤ x ∧ x < 2 := by
  unfold t_is_word_of
  simp only [t_is_row_T, t_is_below_int, Bool.and_eq_true, decide_eq_true_eq, List.all_eq_true]
  constructor
  · rintro ⟨a, b⟩; exact ⟨by omega, b⟩
  · rintro ⟨a, b⟩; exact ⟨by omega, b⟩
theorem PlK.ok {q : SS × Int × List (List Int)} (k : PlK q) : t_is_plan_of q = true := by
  have hr : t_is_row (toV (eP3 eS D.int (eT (eT D.int))) q) 3 = true := rfl
  have hw : q.2.2.all (fun u => t_is_word_of q.2.1 u) = true := List.all_eq_true.mpr fun w m => (word_iff (by have := k.s1; omega)).mpr (k.wd w m)
  have a1 := k.s1
  have a2 := k.s10
  have a3 := k.w1
  have a4 := k.w64
  unfold t_is_plan_of
  rw [hr, hw, k.nm, k.ris]
  simp only [t_is_integer_int, decide_true, Bool.not_true, Bool.or_false, Bool.or_self]
  rw [if_neg (by decide), if_neg (by simp; omega), if_neg (by simp; omega)]
end EV
/-! EV55: plans, the program's own questions -/
/-! EV56: laws' words, plans otherwise -/
/-! EV59: how far words are apart: whatever their sequence, their signs' sequence and flips -/
/-! EV60: words sorted; plans otherwise are plans -/
/-! EV105: typed plans: what the program's functions say of them, in plain words -/
namespace EV
open PySem L2
theorem cut_drop {α : Type} {xs : List α} {k : Nat} : cut xs (some (k : Int)) none = xs.drop k := by
  unfold cut
  rw [HT.sIx_nat, HT.sIx_none]
  by_cases h : k ≤ xs.length
  · rw [Nat.min_eq_left h, List.take_of_length_le (by rw [List.length_drop]; exact Nat.le_refl _)]
  · rw [Nat.min_eq_right (by omega), Nat.sub_self, List.take_zero, List.drop_eq_nil_of_le (by omega)]
theorem rising_eq : ∀ {ws : List (List Int)}, t_rising_w ws = risW ws
  | [] => rfl
  | [a] => rfl
  | a :: b :: ws => by
    have ih := rising_eq (ws := b :: ws)
    have c1 := cut_drop (xs := a :: b :: ws) (k := 1)
    have c2 := cut_drop (xs := b :: ws) (k := 1)
    unfold t_rising_w at ih ⊢
    rw [show ((1 : Int)) = ((1 : Nat) : Int) from rfl] at ih ⊢
    rw [c2] at ih
    rw [c1, List.drop_succ_cons, List.drop_zero, List.zip_cons_cons, List.all_cons, risW]
    rw [List.drop_succ_cons, List.drop_zero] at ih
    rw [ih]
theorem bits_iff {s : Nat} {w : List Int} : wdOk s w ↔ w.length = s ∧ ∀ x ∈ w, 0 ≤ x ∧ x < 2 := by
  constructor
  · rintro ⟨a, b⟩; exact ⟨a, fun x m => by rcases b x m with e | e <;> subst e <;> decide⟩
  · rintro ⟨a, b⟩; exact ⟨a, fun x m => by have := b x m; omega⟩
theorem PlK.of {s : Int} {ws : List (List Int)} (h0 : 0 ≤ s) (k : PlOk ⟨s.toNat, ws⟩) : PlK (lit "plan", s, ws) where
  nm := rfl
  s1 := by have := k.s1; dsimp only at *; omega
  s10 := by have := k.s10; dsimp only at *; omega
  w1 := k.w1
  w64 := k.w64
  wd := fun w m => bits_iff.mp (k.wd w m)
  ris := by rw [rising_eq]; exact k.ris
end EV
/-! EV107: new lists whose condition draws; `if a and draw` -/
namespace EV
open PySem L2
theorem pls_V : ∀ xs : List Vl, pls (xs.map eV) = true
  | [] => rfl
  | x :: xs => by
    show (pl x.val && pls (xs.map eV)) = true
    rw [x.2, pls_V xs]; rfl
instance : PlE (eL eV) := ⟨fun xs => pls_V xs⟩
end EV
/-! EV110: mathematics of typed logs (from k09): wrong answers counted, counts, what is possible, a row more -/
/-! EV49: what changes of logs keep -/
namespace EV
open PySem L2
/-! ### turned -/
/-! ### renamed -/
def nm (ns : List Int) (t : Int) : Int := gd ns t.toNat
/-! ### a row more, a lie more -/
end EV
/-! EV111: typed logs and the logs of EV40: what is known of the one is known of the other -/
/-! EV112: laws whose own def draws: a pot made, the rest read as a typed text -/
namespace EV
open PySem L2
/-! what holds of every state that a loop's body leaves -/
section
variable {ρ σ α : Type}
def CtAll (P : σ → Prop) : Ct ρ σ → Prop
  | .ret _ => True
  | .go s => P s
  | .brk s => P s
/-- what a body does: it never returns -/
def CtGo (P : σ → Prop) (Q : σ → Prop) : Ct ρ σ → Prop
  | .ret _ => False
  | .go s => P s
  | .brk s => Q s
theorem cg_no {P Q : σ → Prop} {c : Bool} {a b : Ct ρ σ} (hc : c = false) (hb : CtGo P Q b) : CtGo P Q (if c = true then a else b) := by rw [hc]; exact hb
theorem CtGo.all {P Q : σ → Prop} {w : Ct ρ σ} (h : CtGo P Q w) (hp : ∀ s, Q s → P s) : CtAll P w := by
  cases w with
  | ret => trivial
  | go s => exact h
  | brk s => exact hp s h
theorem CtGo.mono {P Q P' Q' : σ → Prop} {w : Ct ρ σ} (h : CtGo P Q w) (hp : ∀ s, P s → P' s) (hq : ∀ s, Q s → Q' s) : CtGo P' Q' w := by
  cases w with
  | ret => exact h
  | go s => exact hp s h
  | brk s => exact hq s h
theorem loopR_cg {step : σ → α → Ct ρ σ} {P : Nat → σ → Prop} {Q : σ → Prop} {f : σ → ρ} {Z : ρ → Prop} : ∀ {xs : List α} {s0 : σ} {k : Nat}, P k s0 → (∀ (i : Nat) (u : α) (s : σ), xs[i]? = some u → P (k + i) s → CtGo (P (k + i + 1)) Q (step s u)) →
    (∀ s, P (k + xs.length) s → Z (f s)) → (∀ s, Q s → Z (f s)) → Z ((loopR step s0 xs).out f)
  | [], s0, k, h0, _, hf, _ => hf s0 h0
  | x :: xs, s0, k, h0, hs, hf, hq => by
    have z := hs 0 x s0 rfl h0
    unfold loopR
    cases e : step s0 x with
    | ret r => rw [e] at z; exact z.elim
    | brk s => rw [e] at z; exact hq s z
    | go s =>
      rw [e] at z
      exact loopR_cg (k := k + 1) z (fun i u s hu hp => by
        have := hs (i + 1) u s (by simpa using hu) (by rw [show k + (i + 1) = k + 1 + i by omega]; exact hp)
        rw [show k + (i + 1) + 1 = k + 1 + i + 1 by omega] at this
        exact this) (fun s h => hf s (by rw [List.length_cons, show k + (xs.length + 1) = k + 1 + xs.length by omega]; exact h)) hq
end
end EV
/-! EV113: few questions; books of what is found (checked by counting); counts of a start's log -/
namespace EV
open PySem L2
theorem question_ok {c q : List Int} (h : QOk c q) : t_is_question_of c q = true := by
  have hl := h.len
  unfold t_is_question_of
  rw [if_neg (by simp [hl])]
  rw [List.all_eq_true]
  have : ∀ {c q : List Int}, QOk c q → ∀ u ∈ q.zip c, 0 ≤ u.1 ∧ u.1 < u.2 + 1 := fun {c q} h => by
    induction h with
    | nil => intro u m; cases m
    | @cons x a c q a0 a1 h ih =>
      intro u m
      rw [List.zip_cons_cons] at m
      rcases List.mem_cons.mp m with rfl | m
      · exact ⟨a0, by dsimp only; omega⟩
      · exact ih u m
  intro u hu
  have := this h u hu
  simp; omega
end EV
namespace EV
open PySem L2
def hl_want_word_m : DS := sSeq (sIf (dtOr (dtNot (dTruE (dIsi (dVar 0) [.str]))) (dtB (dOp2 dNotIn (dVar 0) (dTup (daCons (dC (.str ("yes" : Str))) (daCons (dC (.str ("no" : Str))) (daNil))))))) (sBad) (sNext)) (sRet (dVar 0))
@[reducible] def t_hl_want_word (value_0 : SS) : SS := value_0
def ST_hl_want_word (f : Fn) : Prop := ∀ (value_0 : SS), (wd : value_0 = lit "yes" ∨ value_0 = lit "no") → ∀ h, f [eS value_0] h = .ok (eS (t_hl_want_word value_0)) h
theorem et_hl_want_word {fn : Fns} : ST_hl_want_word (bodyF 1 (hl_want_word_m) fn) := by
  intro value_0 wd h
  refine b_ret (m := hl_want_word_m) (V := (fun (r : SS) => (eS r, h))) (r := t_hl_want_word value_0) ?_
  unfold t_hl_want_word hl_want_word_m
  show J _ fn [.val (eS value_0)] _ _ _
  refine j_ifN (t_false (t_or (t_not (t_tru (x_isi (x_var rfl) rfl rfl) tr_bl)) fun hc => (t_B (x_op2 (x_var rfl) (xv ((eT eS) ([(lit "yes"), (lit "no")] : List SS)) (x_tup (xa_cons (xv (eS (lit "yes")) x_c) (xa_cons (xv (eS (lit "no")) x_c) xa_nil)) (nb_cons rfl (nb_cons rfl nb_nil)) rfl)) (o_niT (e := eS) (xs := ([(lit "yes"), (lit "no")] : List SS)) (by decide))))) (by /-want_word 1: ((!true) || (!hasB ([(lit "yes"), (lit "no")] : List SS) val-/rcases wd with rfl | rfl <;> decide)) ?_
  exact j_ret (d := eS value_0) (x_var rfl) rfl ⟨rfl, rfl⟩
def want_small_m (c_want_at_most c_together : Nat) : DS := sSeq (sExpr (dCall c_want_at_most 3 0 [.p 0, .p 1, .p 2] [] (daCons (dC (.str ("things" : Str))) (daCons (dC (.int 10)) (daCons (dCall c_together 1 0 [.p 0] [] (daCons (dVar 0) (daNil)) (daNil)) (daNil)))) (daNil))) (sExpr (dCall c_want_at_most 3 0 [.p 0, .p 1, .p 2] [] (daCons (dC (.str ("left" : Str))) (daCons (dC (.int 12)) (daCons (dVar 1) (daNil)))) (daNil)))
def ST_want_small (f : Fn) : Prop := ∀ (counts_0 : (List Int)) (left_0 : Int), (sm : counts_0.sum ≤ 10) → (l1 : left_0 ≤ 12) → ∀ h, f [(eT D.int) counts_0, D.int left_0] h = .ok .non h
theorem et_want_small {fn : Fns} {i_want_at_most i_together : Nat} (c_together : ST_together (fn i_together)) (c_want_at_most : ST_want_at_most (fn i_want_at_most)) : ST_want_small (bodyF 2 (want_small_m i_want_at_most i_together) fn) := by
  intro counts_0 left_0 sm l1 h
  refine b_nx (m := want_small_m i_want_at_most i_together) ?_
  unfold want_small_m
  show J _ fn [.val ((eT D.int) counts_0), .val (D.int left_0)] _ _ _
  refine j_seq (z_expr (x_call (xa_cons (xv (eS (lit "things")) x_c) (xa_cons x_c (xa_cons (x_call (xa_cons (x_var rfl) xa_nil) xa_nil (nb_cons rfl nb_nil) nb_nil rfl rfl rfl (c_together counts_0 _)) xa_nil))) xa_nil (nb_cons rfl (nb_cons rfl (nb_cons rfl nb_nil))) nb_nil rfl rfl rfl (c_want_at_most (lit "things") 10 (t_together counts_0) (by /-want_small 1: want_at_most: pre 0-/first | assumption | omega | (dsimp only [lt] at *; omega) | (set_option maxHeartbeats 40000 in (simp; done)) | (set_option maxHeartbeats 40000 in (simp; omega)) | (set_option maxHeartbeats 40000 in (simp at *; omega)) | (set_option maxHeartbeats 40000 in (simp_all; done)) | (set_option maxHeartbeats 40000 in (simp_all; omega))) _))) ?_
  refine j_last (z_expr (x_call (xa_cons (xv (eS (lit "left")) x_c) (xa_cons x_c (xa_cons (x_var rfl) xa_nil))) xa_nil (nb_cons rfl (nb_cons rfl (nb_cons rfl nb_nil))) nb_nil rfl rfl rfl (c_want_at_most (lit "left") 12 left_0 (by /-want_small 2: want_at_most: pre 0-/first | assumption | omega | (dsimp only [lt] at *; omega) | (set_option maxHeartbeats 40000 in (simp; done)) | (set_option maxHeartbeats 40000 in (simp; omega)) | (set_option maxHeartbeats 40000 in (simp at *; omega)) | (set_option maxHeartbeats 40000 in (simp_all; done)) | (set_option maxHeartbeats 40000 in (simp_all; omega))) _))) ?_
  exact ⟨rfl, rfl⟩
def want_half_m (c_want_standing c_want_word c_want_small : Nat) : DS := sSeq (sExpr (dCall c_want_standing 1 0 [.p 0] [] (daCons (dVar 0) (daNil)) (daNil))) (sSeq (sExpr (dCall c_want_word 1 0 [.p 0] [] (daCons (dVar 1) (daNil)) (daNil))) (sExpr (dCall c_want_small 2 0 [.p 0, .p 1] [] (daCons (dOp2 dIx (dVar 0) (dC (.int 0))) (daCons (dOp2 dIx (dVar 0) (dC (.int 1))) (daNil))) (daNil))))
def ST_want_half (f : Fn) : Prop := ∀ (standing_0 : ((List Int) × Int)) (word_0 : SS), (ck : COk standing_0.1) → (sm : standing_0.1.sum ≤ 10) → (l0 : 0 ≤ standing_0.2) → (l1 : standing_0.2 ≤ 12) → (wd : word_0 = lit "yes" ∨ word_0 = lit "no") → ∀ h, f [(eP2 (eT D.int) D.int) standing_0, eS word_0] h = .ok .non h
theorem et_want_half {fn : Fns} {i_want_standing i_want_word i_want_small : Nat} (c_want_standing : ST_want_standing (fn i_want_standing)) (c_hl_want_word : ST_hl_want_word (fn i_want_word)) (c_want_small : ST_want_small (fn i_want_small)) : ST_want_half (bodyF 2 (want_half_m i_want_standing i_want_word i_want_small) fn) := by
  intro standing_0 word_0 ck sm l0 l1 wd h
  have ok := ck.counts
  have lk := ck.l4
  refine b_nx (m := want_half_m i_want_standing i_want_word i_want_small) ?_
  unfold want_half_m
  show J _ fn [.val ((eP2 (eT D.int) D.int) standing_0), .val (eS word_0)] _ _ _
  refine j_seq (z_expr (x_call (xa_cons (x_var rfl) xa_nil) xa_nil (nb_cons rfl nb_nil) nb_nil rfl rfl rfl (c_want_standing standing_0 (by /-want_half 1: want_standing: pre 0-/first | assumption | omega | (dsimp only [lt] at *; omega) | (set_option maxHeartbeats 40000 in (simp; done)) | (set_option maxHeartbeats 40000 in (simp; omega)) | (set_option maxHeartbeats 40000 in (simp at *; omega)) | (set_option maxHeartbeats 40000 in (simp_all; done)) | (set_option maxHeartbeats 40000 in (simp_all; omega))) (by /-want_half 2: want_standing: pre 1-/first | assumption | omega | (dsimp only [lt] at *; omega) | (set_option maxHeartbeats 40000 in (simp; done)) | (set_option maxHeartbeats 40000 in (simp; omega)) | (set_option maxHeartbeats 40000 in (simp at *; omega)) | (set_option maxHeartbeats 40000 in (simp_all; done)) | (set_option maxHeartbeats 40000 in (simp_all; omega))) (by /-want_half 3: want_standing: pre 2-/first | assumption | omega | (dsimp only [lt] at *; omega) | (set_option maxHeartbeats 40000 in (simp; done)) | (set_option maxHeartbeats 40000 in (simp; omega)) | (set_option maxHeartbeats 40000 in (simp at *; omega)) | (set_option maxHeartbeats 40000 in (simp_all; done)) | (set_option maxHeartbeats 40000 in (simp_all; omega))) _))) ?_
  refine j_seq (z_expr (x_call (xa_cons (x_var rfl) xa_nil) xa_nil (nb_cons rfl nb_nil) nb_nil rfl rfl rfl (c_hl_want_word word_0 (by /-want_half 4: want_word: pre 0-/first | assumption | omega | (dsimp only [lt] at *; omega) | (set_option maxHeartbeats 40000 in (simp; done)) | (set_option maxHeartbeats 40000 in (simp; omega)) | (set_option maxHeartbeats 40000 in (simp at *; omega)) | (set_option maxHeartbeats 40000 in (simp_all; done)) | (set_option maxHeartbeats 40000 in (simp_all; omega))) _))) ?_
  refine j_last (z_expr (x_call (xa_cons (x_op2 (x_var rfl) x_c o_ixP2_0) (xa_cons (x_op2 (x_var rfl) x_c o_ixP2_1) xa_nil)) xa_nil (nb_cons rfl (nb_cons rfl nb_nil)) nb_nil rfl rfl rfl (c_want_small standing_0.1 standing_0.2 (by /-want_half 5: want_small: pre 0-/first | assumption | omega | (dsimp only [lt] at *; omega) | (set_option maxHeartbeats 40000 in (simp; done)) | (set_option maxHeartbeats 40000 in (simp; omega)) | (set_option maxHeartbeats 40000 in (simp at *; omega)) | (set_option maxHeartbeats 40000 in (simp_all; done)) | (set_option maxHeartbeats 40000 in (simp_all; omega))) (by /-want_half 6: want_small: pre 1-/first | assumption | omega | (dsimp only [lt] at *; omega) | (set_option maxHeartbeats 40000 in (simp; done)) | (set_option maxHeartbeats 40000 in (simp; omega)) | (set_option maxHeartbeats 40000 in (simp at *; omega)) | (set_option maxHeartbeats 40000 in (simp_all; done)) | (set_option maxHeartbeats 40000 in (simp_all; omega))) _))) ?_
  exact ⟨rfl, rfl⟩
def half_behind_m (c_want_counts c_want_word c_half_both c_want_question : Nat) : DS := sSeq (sExpr (dCall c_want_counts 1 0 [.p 0] [] (daCons (dVar 0) (daNil)) (daNil))) (sSeq (sExpr (dCall c_want_word 1 0 [.p 0] [] (daCons (dVar 1) (daNil)) (daNil))) (sRet (dCall c_half_both 3 0 [.p 0, .p 1, .p 2] [] (daCons (dVar 0) (daCons (dVar 1) (daCons (dCall c_want_question 2 0 [.p 0, .p 1] [] (daCons (dVar 0) (daCons (dVar 2) (daNil))) (daNil)) (daNil)))) (daNil))))
def t_half_behind (counts_0 : (List Int)) (word_0 : SS) (question_0 : (List Int)) : ((List Int) × (List Int)) := (t_half_both counts_0 word_0 question_0)
def ST_half_behind (f : Fn) : Prop := ∀ (counts_0 : (List Int)) (word_0 : SS) (question_0 : (List Int)), (ck : COk counts_0) → (wd : word_0 = lit "yes" ∨ word_0 = lit "no") → (q : QOk counts_0 question_0) → ∀ h, f [(eT D.int) counts_0, eS word_0, (eT D.int) question_0] h = .ok ((eP2 (eT D.int) (eT D.int)) (t_half_behind counts_0 word_0 question_0)) h
theorem et_half_behind {fn : Fns} {i_want_counts i_want_word i_half_both i_want_question : Nat} (c_want_counts : ST_want_counts (fn i_want_counts)) (c_hl_want_word : ST_hl_want_word (fn i_want_word)) (c_want_question : ST_want_question (fn i_want_question)) (c_half_both : ST_half_both (fn i_half_both)) : ST_half_behind (bodyF 3 (half_behind_m i_want_counts i_want_word i_half_both i_want_question) fn) := by
  intro counts_0 word_0 question_0 ck wd q h
  have ok := ck.counts
  have lk := ck.l4
  have hq := question_ok q
  refine b_ret (m := half_behind_m i_want_counts i_want_word i_half_both i_want_question) (V := (fun (r : ((List Int) × (List Int))) => ((eP2 (eT D.int) (eT D.int)) r, h))) (r := t_half_behind counts_0 word_0 question_0) ?_
  unfold t_half_behind half_behind_m
  show J _ fn [.val ((eT D.int) counts_0), .val (eS word_0), .val ((eT D.int) question_0)] _ _ _
  refine j_seq (z_expr (x_call (xa_cons (x_var rfl) xa_nil) xa_nil (nb_cons rfl nb_nil) nb_nil rfl rfl rfl (c_want_counts counts_0 (by /-half_behind 1: want_counts: pre 0-/first | assumption | omega | (dsimp only [lt] at *; omega) | (set_option maxHeartbeats 40000 in (simp; done)) | (set_option maxHeartbeats 40000 in (simp; omega)) | (set_option maxHeartbeats 40000 in (simp at *; omega)) | (set_option maxHeartbeats 40000 in (simp_all; done)) | (set_option maxHeartbeats 40000 in (simp_all; omega))) (by /-half_behind 2: want_counts: pre 1-/first | assumption | omega | (dsimp only [lt] at *; omega) | (set_option maxHeartbeats 40000 in (simp; done)) | (set_option maxHeartbeats 40000 in (simp; omega)) | (set_option maxHeartbeats 40000 in (simp at *; omega)) | (set_option maxHeartbeats 40000 in (simp_all; done)) | (set_option maxHeartbeats 40000 in (simp_all; omega))) _))) ?_
  refine j_seq (z_expr (x_call (xa_cons (x_var rfl) xa_nil) xa_nil (nb_cons rfl nb_nil) nb_nil rfl rfl rfl (c_hl_want_word word_0 (by /-half_behind 3: want_word: pre 0-/first | assumption | omega | (dsimp only [lt] at *; omega) | (set_option maxHeartbeats 40000 in (simp; done)) | (set_option maxHeartbeats 40000 in (simp; omega)) | (set_option maxHeartbeats 40000 in (simp at *; omega)) | (set_option maxHeartbeats 40000 in (simp_all; done)) | (set_option maxHeartbeats 40000 in (simp_all; omega))) _))) ?_
  exact j_ret (d := (eP2 (eT D.int) (eT D.int)) (t_half_both counts_0 word_0 question_0)) (x_call (xa_cons (x_var rfl) (xa_cons (x_var rfl) (xa_cons (x_call (xa_cons (x_var rfl) (xa_cons (x_var rfl) xa_nil)) xa_nil (nb_cons rfl (nb_cons rfl nb_nil)) nb_nil rfl rfl rfl (c_want_question counts_0 question_0 (by /-half_behind 4: want_question: pre 0-/first | assumption | omega | (dsimp only [lt] at *; omega) | (set_option maxHeartbeats 40000 in (simp; done)) | (set_option maxHeartbeats 40000 in (simp; omega)) | (set_option maxHeartbeats 40000 in (simp at *; omega)) | (set_option maxHeartbeats 40000 in (simp_all; done)) | (set_option maxHeartbeats 40000 in (simp_all; omega))) (by /-half_behind 5: want_question: pre 1-/first | assumption | omega | (dsimp only [lt] at *; omega) | (set_option maxHeartbeats 40000 in (simp; done)) | (set_option maxHeartbeats 40000 in (simp; omega)) | (set_option maxHeartbeats 40000 in (simp at *; omega)) | (set_option maxHeartbeats 40000 in (simp_all; done)) | (set_option maxHeartbeats 40000 in (simp_all; omega))) _)) xa_nil))) xa_nil (nb_cons rfl (nb_cons rfl (nb_cons rfl nb_nil))) nb_nil rfl rfl rfl (c_half_both counts_0 word_0 question_0 (by /-half_behind 6: half_both: pre 0-/first | assumption | omega | (dsimp only [lt] at *; omega) | (set_option maxHeartbeats 40000 in (simp; done)) | (set_option maxHeartbeats 40000 in (simp; omega)) | (set_option maxHeartbeats 40000 in (simp at *; omega)) | (set_option maxHeartbeats 40000 in (simp_all; done)) | (set_option maxHeartbeats 40000 in (simp_all; omega))) _)) rfl ⟨rfl, rfl⟩
def least_half_l0 (c_Halves_is_found c_Halves___init__ : Nat) : DS := sIf (dTruE (dMeth 1 "is_found" c_Halves_is_found 2 (dVar 2) (daCons (dVar 0) (daCons (dVar 3) (daNil))))) (sRet (dVar 3)) (sNext)
def least_half_m (c_Halves_is_found c_Halves___init__ : Nat) : DS := sClean (sSeq (sSet 2 (dMake 1 c_Halves___init__ 1 (daCons (dVar 1) (daNil)))) (sSeq (sFor (.name 3) (dRng1 (daCons (dOp2 dAdd (dC (.int 12)) (dC (.int 1))) (daNil))) (least_half_l0 c_Halves_is_found c_Halves___init__)) (sRet (dC .non))))
def t_least_half (c : List Int) (w : SS) : Option Int := (rangeI 13).find? fun l => hfnd (yw w) l.toNat c
def ST_least_half (f : Fn) : Prop := ∀ (c : List Int) (w : SS), COk c → ∀ h, f [eT D.int c, eS w] h = .ok (eO D.int (t_least_half c w)) h
theorem et_least_half {fn : Fns} {i_1 i_2 : Nat} (a : ∀ l, l ≤ 16 → ST_Halves_is_found l (fn i_1)) (b : ST_Halves_init (fn i_2)) : ST_least_half (bodyF 4 (least_half_m i_1 i_2) fn) := fun c w o h => by
  unfold least_half_m
  refine b_clean (V := fun (r : Option Int) => (eO D.int r, h)) (r := t_least_half c w) ?_ (by cases t_least_half c w <;> rfl) (fun l => l)
  show J _ fn [.val (eT D.int c), .val (eS w), .no, .no] _ _ _
  refine j_seq (z_set (d := .obj h.length) (x_makeH b (x_var rfl)) rfl rfl rfl) ?_
  obtain ⟨env', e⟩ := loop_find (en := D.int) (i := 3) (fn := fn) (h := newH w h) (body := least_half_l0 i_1 i_2) (P := fun l => hfnd (yw w) l.toNat c) [.val (eT D.int c), .val (eS w), .val (.obj h.length)] [] rfl (rangeI 13) (fun x hx => by
    have hb := mem_rng hx
    obtain ⟨n, rfl⟩ : ∃ n : Nat, x = n := ⟨x.toNat, by omega⟩
    unfold least_half_l0
    have e : dTruE (dMeth 1 "is_found" i_1 2 (dVar 2) (daCons (dVar 0) (daCons (dVar 3) (daNil)))) fn [.val (eT D.int c), .val (eS w), .val (.obj h.length), .val (.int (n : Nat))] (newH w h) = .ok (hfnd (yw w) n c) (newH w h) :=
      t_tru (x_meth (x_var rfl) (newH_self w h).of (fsH_no (by decide +kernel) (by decide +kernel) (by decide +kernel)) (xa_cons (x_var rfl) (xa_cons (x_var rfl) xa_nil)) rfl rfl (a n (by omega) w c o _ _ _ (newH_self w h))) rfl
    show sIf _ _ _ fn [.val (eT D.int c), .val (eS w), .val (.obj h.length), .val (.int (n : Nat))] (newH w h) = _
    rw [e_sIf, e, ok_bind, Int.toNat_natCast]
    cases hfnd (yw w) n c <;> rfl) (fun x _ => rfl) .no
  have hr : sFor (.name 3) (dRng1 (daCons (dOp2 dAdd (dC (.int 12)) (dC (.int 1))) (daNil))) (least_half_l0 i_1 i_2) fn [.val (eT D.int c), .val (eS w), .val (.obj h.length), .no] (newH w h) = .ok (findR D.int env' ((rangeI 13).find? fun l => hfnd (yw w) l.toNat c)) (newH w h) := by
    rw [e_sFor, i_rng1 (k := 13) (xa_cons (x_op2 x_c x_c rfl) xa_nil) (by decide) (by decide), ok_bind]
    exact e
  show J _ fn [.val (eT D.int c), .val (eS w), .val (.obj h.length), .no] _ _ _
  unfold t_least_half
  cases e2 : (rangeI 13).find? (fun l => hfnd (yw w) l.toNat c) with
  | some q =>
    rw [e2] at hr
    exact ⟨_, env', _, by rw [e_sSeq, hr, ok_bind]; rfl, rfl, newH_take w h⟩
  | none =>
    rw [e2] at hr
    exact ⟨_, env', _, by rw [e_sSeq, hr, ok_bind]; rfl, rfl, newH_take w h⟩
def is_half_found_m (c_want_half c_Halves_is_found c_Halves___init__ : Nat) : DS := sClean (sSeq (sExpr (dCall c_want_half 2 0 [.p 0, .p 1] [] (daCons (dVar 0) (daCons (dVar 1) (daNil))) (daNil))) (sRet (dMeth 1 "is_found" c_Halves_is_found 2 (dMake 1 c_Halves___init__ 1 (daCons (dVar 1) (daNil))) (daCons (dOp2 dIx (dVar 0) (dC (.int 0))) (daCons (dOp2 dIx (dVar 0) (dC (.int 1))) (daNil))))))
def t_is_half_found (s : List Int × Int) (w : SS) : Bool := hfnd (yw w) s.2.toNat s.1
def ST_is_half_found (f : Fn) : Prop := ∀ (s : List Int × Int) (w : SS), COk s.1 → s.1.sum ≤ 10 → 0 ≤ s.2 → s.2 ≤ 12 → (w = lit "yes" ∨ w = lit "no") → ∀ h, f [eP2 (eT D.int) D.int s, eS w] h = .ok (.bl (t_is_half_found s w)) h
theorem et_is_half_found {fn : Fns} {i_1 i_2 i_3 : Nat} (wh : ST_want_half (fn i_1)) (a : ∀ l, l ≤ 16 → ST_Halves_is_found l (fn i_2)) (b : ST_Halves_init (fn i_3)) : ST_is_half_found (bodyF 2 (is_half_found_m i_1 i_2 i_3) fn) := fun s w o sm l0 l1 wd h => by
  obtain ⟨c, l⟩ := s
  dsimp only at o sm l0 l1
  obtain ⟨n, rfl⟩ : ∃ n : Nat, l = n := ⟨l.toNat, by omega⟩
  unfold is_half_found_m
  refine b_clean (V := fun (r : Bool) => (D.bl r, h)) (r := t_is_half_found (c, n) w) ?_ rfl (fun l => l)
  show J _ fn [.val (eP2 (eT D.int) D.int (c, (n : Int))), .val (eS w)] _ _ _
  refine j_seq (z_expr (x_call (xa_cons (x_var rfl) (xa_cons (x_var rfl) xa_nil)) xa_nil (nb_cons rfl (nb_cons rfl nb_nil)) nb_nil rfl rfl rfl (wh (c, (n : Int)) w o sm l0 l1 wd _))) ?_
  exact j_ret (d := .bl (hfnd (yw w) n c)) (x_methH b (x_var rfl) (by decide +kernel) (by decide +kernel) (by decide +kernel) (xa_cons (x_op2 (x_var rfl) x_c o_ixP2_0) (xa_cons (x_op2 (x_var rfl) x_c o_ixP2_1) xa_nil)) rfl rfl (a n (by omega) w c o _ _ _ (newH_self w h))) rfl ⟨rfl, newH_take w h⟩
def least_half_left_m (c_want_counts c_want_word c_want_small c_least_half : Nat) : DS := sSeq (sExpr (dCall c_want_counts 1 0 [.p 0] [] (daCons (dVar 0) (daNil)) (daNil))) (sSeq (sExpr (dCall c_want_word 1 0 [.p 0] [] (daCons (dVar 1) (daNil)) (daNil))) (sSeq (sExpr (dCall c_want_small 2 0 [.p 0, .p 1] [] (daCons (dVar 0) (daCons (dC (.int 12)) (daNil))) (daNil))) (sRet (dCall c_least_half 2 0 [.p 0, .p 1] [] (daCons (dVar 0) (daCons (dVar 1) (daNil))) (daNil)))))
def t_least_half_left (counts_0 : (List Int)) (word_0 : SS) : (Option Int) := (t_least_half counts_0 word_0)
def ST_least_half_left (f : Fn) : Prop := ∀ (counts_0 : (List Int)) (word_0 : SS), (ck : COk counts_0) → (sm : counts_0.sum ≤ 10) → (wd : word_0 = lit "yes" ∨ word_0 = lit "no") → ∀ h, f [(eT D.int) counts_0, eS word_0] h = .ok ((eO D.int) (t_least_half_left counts_0 word_0)) h
theorem et_least_half_left {fn : Fns} {i_want_counts i_want_word i_want_small i_least_half : Nat} (c_want_counts : ST_want_counts (fn i_want_counts)) (c_hl_want_word : ST_hl_want_word (fn i_want_word)) (c_want_small : ST_want_small (fn i_want_small)) (c_least_half : ST_least_half (fn i_least_half)) : ST_least_half_left (bodyF 2 (least_half_left_m i_want_counts i_want_word i_want_small i_least_half) fn) := by
  intro counts_0 word_0 ck sm wd h
  have ok := ck.counts
  have lk := ck.l4
  refine b_ret (m := least_half_left_m i_want_counts i_want_word i_want_small i_least_half) (V := (fun (r : (Option Int)) => ((eO D.int) r, h))) (r := t_least_half_left counts_0 word_0) ?_
  unfold t_least_half_left least_half_left_m
  show J _ fn [.val ((eT D.int) counts_0), .val (eS word_0)] _ _ _
  refine j_seq (z_expr (x_call (xa_cons (x_var rfl) xa_nil) xa_nil (nb_cons rfl nb_nil) nb_nil rfl rfl rfl (c_want_counts counts_0 (by /-least_half_left 1: want_counts: pre 0-/first | assumption | omega | (dsimp only [lt] at *; omega) | (set_option maxHeartbeats 40000 in (simp; done)) | (set_option maxHeartbeats 40000 in (simp; omega)) | (set_option maxHeartbeats 40000 in (simp at *; omega)) | (set_option maxHeartbeats 40000 in (simp_all; done)) | (set_option maxHeartbeats 40000 in (simp_all; omega))) (by /-least_half_left 2: want_counts: pre 1-/first | assumption | omega | (dsimp only [lt] at *; omega) | (set_option maxHeartbeats 40000 in (simp; done)) | (set_option maxHeartbeats 40000 in (simp; omega)) | (set_option maxHeartbeats 40000 in (simp at *; omega)) | (set_option maxHeartbeats 40000 in (simp_all; done)) | (set_option maxHeartbeats 40000 in (simp_all; omega))) _))) ?_
  refine j_seq (z_expr (x_call (xa_cons (x_var rfl) xa_nil) xa_nil (nb_cons rfl nb_nil) nb_nil rfl rfl rfl (c_hl_want_word word_0 (by /-least_half_left 3: want_word: pre 0-/first | assumption | omega | (dsimp only [lt] at *; omega) | (set_option maxHeartbeats 40000 in (simp; done)) | (set_option maxHeartbeats 40000 in (simp; omega)) | (set_option maxHeartbeats 40000 in (simp at *; omega)) | (set_option maxHeartbeats 40000 in (simp_all; done)) | (set_option maxHeartbeats 40000 in (simp_all; omega))) _))) ?_
  refine j_seq (z_expr (x_call (xa_cons (x_var rfl) (xa_cons x_c xa_nil)) xa_nil (nb_cons rfl (nb_cons rfl nb_nil)) nb_nil rfl rfl rfl (c_want_small counts_0 12 (by /-least_half_left 4: want_small: pre 0-/first | assumption | omega | (dsimp only [lt] at *; omega) | (set_option maxHeartbeats 40000 in (simp; done)) | (set_option maxHeartbeats 40000 in (simp; omega)) | (set_option maxHeartbeats 40000 in (simp at *; omega)) | (set_option maxHeartbeats 40000 in (simp_all; done)) | (set_option maxHeartbeats 40000 in (simp_all; omega))) (by /-least_half_left 5: want_small: pre 1-/first | assumption | omega | (dsimp only [lt] at *; omega) | (set_option maxHeartbeats 40000 in (simp; done)) | (set_option maxHeartbeats 40000 in (simp; omega)) | (set_option maxHeartbeats 40000 in (simp at *; omega)) | (set_option maxHeartbeats 40000 in (simp_all; done)) | (set_option maxHeartbeats 40000 in (simp_all; omega))) _))) ?_
  exact j_ret (d := (eO D.int) (t_least_half counts_0 word_0)) (x_call (xa_cons (x_var rfl) (xa_cons (x_var rfl) xa_nil)) xa_nil (nb_cons rfl (nb_cons rfl nb_nil)) nb_nil rfl rfl rfl (c_least_half counts_0 word_0 (by /-least_half_left 6: least_half: pre 0-/first | assumption | omega | (dsimp only [lt] at *; omega) | (set_option maxHeartbeats 40000 in (simp; done)) | (set_option maxHeartbeats 40000 in (simp; omega)) | (set_option maxHeartbeats 40000 in (simp at *; omega)) | (set_option maxHeartbeats 40000 in (simp_all; done)) | (set_option maxHeartbeats 40000 in (simp_all; omega))) _)) (NB.nb _) ⟨rfl, rfl⟩
end EV
/-! EV140: half-found: what is easier, either word, beside full lies -/
namespace EV
open PySem L2
theorem MvS.trans {c d e : List Int} (h : MvS c d) (k : MvS d e) : MvS c e := by
  induction h with
  | rfl => exact k
  | step m _ ih => exact .step m (ih k)
theorem mvs_head {c : List Int} : ∀ (n : Nat) {x : Int}, 0 ≤ x - n → (∀ y ∈ c, 0 ≤ y) → MvS (x :: c) ((x - n) :: c)
  | 0, x, _, _ => by rw [show x - ((0 : Nat) : Int) = x by omega]; exact .rfl
  | n + 1, x, h, k => by
    have a := mvs_less (c := x :: c) (i := 0) (x := x) rfl (by omega) (fun y m => by rcases List.mem_cons.mp m with rfl | m; omega; exact k y m)
    have b := mvs_head (c := c) n (x := x - 1) (by omega) k
    rw [show x - ((n + 1 : Nat) : Int) = x - 1 - (n : Int) by omega]
    exact MvS.trans a b
/-- fewer things -/
theorem mvs_le {c d : List Int} (h : QOk c d) : MvS c d := by
  induction h with
  | nil => exact .rfl
  | @cons x a c q a0 a1 h ih =>
    have cn : ∀ y ∈ c, 0 ≤ y := by
      clear ih
      induction h with
      | nil => intro y m; cases m
      | @cons x' a' c' q' b0 b1 h' ih' =>
        intro y m
        rcases List.mem_cons.mp m with rfl | m
        · omega
        · exact ih' y m
    have := mvs_head (c := c) (x - a).toNat (x := x) (by omega) cn
    rw [show x - ((x - a).toNat : Int) = a by omega] at this
    exact this.trans (ih.skip a)
theorem hb_mv {y : Bool} {c d q : List Int} (h : Mv c d) (o : COk c) (hq : QOk c q) : ∃ q', QOk d q' ∧ ((hb y c q).1 = (hb y d q').1 ∨ Mv (hb y c q).1 (hb y d q').1) ∧ ((hb y c q).2 = (hb y d q').2 ∨ Mv (hb y c q).2 (hb y d q').2) := by
  obtain ⟨q', h1, h2⟩ := h.qs hq
  refine ⟨q', h1, ?_⟩
  have lq := hq.len
  have lr := hq.rest.1.len
  have l1 := o.l1
  have lq' : q'.length = c.length := by rw [h1.len, h.len]
  have lr' : (t_rest_of d q').length = c.length := by rw [h1.rest.1.len, h.len]
  cases y
  · show (q = q' ∨ Mv q q') ∧ (t_behind_no c q = t_behind_no d q' ∨ Mv (t_behind_no c q) (t_behind_no d q'))
    rw [no_add hq, no_add h1]
    rcases h2 with ⟨m, r⟩ | ⟨m, r⟩
    · rw [r]
      refine ⟨.inr m, ?_⟩
      rcases m.shift 0 with e | e
      · exact .inl (by rw [e])
      · refine .inr ?_
        rw [addL_comm (t_rest_of c q), addL_comm (t_rest_of c q)]
        exact e.add (by rw [sh_len (by omega)]; omega) hq.rest.1.nn
    · subst m
      exact ⟨.inl rfl, .inr (r.add (by rw [sh_len (by omega)]; omega) (sh_nn hq.nn))⟩
  · show (t_behind_yes c q = t_behind_yes d q' ∨ Mv (t_behind_yes c q) (t_behind_yes d q')) ∧ (t_rest_of c q = t_rest_of d q' ∨ Mv (t_rest_of c q) (t_rest_of d q'))
    rw [yes_add, yes_add]
    rcases h2 with ⟨m, r⟩ | ⟨m, r⟩
    · rw [r]
      exact ⟨.inr (m.add (by rw [sh_len (by omega)]; omega) (sh_nn hq.rest.1.nn)), .inl rfl⟩
    · subst m
      refine ⟨?_, .inr r⟩
      rcases r.shift 0 with e | e
      · exact .inl (by rw [e])
      · refine .inr ?_
        rw [addL_comm q', addL_comm q']
        exact e.add (by rw [sh_len (by omega)]; omega) hq.nn
/-- with one wrong answer more of a thing they are half-found too -/
theorem hfnd_mv {y : Bool} : ∀ {l : Nat} {c d : List Int}, COk c → Mv c d → hfnd y l c = true → hfnd y l d = true
  | 0, c, d, o, m, h => hfnd_settled (by
    have h1 := m.sum
    have h2 : c.sum ≤ 1 := by simpa [hfnd, t_is_settled_of] using h
    omega)
  | l + 1, c, d, o, m, h => by
    rcases hfnd_iff.mp h with h | ⟨q, hq, a, b⟩
    · exact hfnd_settled (by have := m.sum; omega)
    · obtain ⟨q', h1, h2, h3⟩ := hb_mv (y := y) m o hq
      have z := hb_ok (y := y) o hq
      refine hfnd_iff.mpr (.inr ⟨q', h1, ?_, ?_⟩)
      · rcases h2 with e | e
        · rw [← e]; exact a
        · exact hfnd_mv z.1 e a
      · rcases h3 with e | e
        · rw [← e]; exact b
        · exact hfnd_mv z.2 e b
theorem hfnd_mvs {y : Bool} {l : Nat} {c d : List Int} (o : COk c) (m : MvS c d) (h : hfnd y l c = true) : hfnd y l d = true ∧ COk d := by
  induction m with
  | rfl => exact ⟨h, o⟩
  | step m _ ih => exact ih (m.ok o) (hfnd_mv o m h)
/-- the question turned about, the other word -/
theorem hb_turn {y : Bool} {c q : List Int} (h : QOk c q) : hb (!y) c (t_rest_of c q) = ((hb y c q).2, (hb y c q).1) := by
  cases y
  · show (t_behind_yes c (t_rest_of c q), t_rest_of c (t_rest_of c q)) = (t_behind_yes c (t_rest_of c q), q)
    rw [rest_back h]
  · show (t_rest_of c q, t_behind_yes c (t_rest_of c (t_rest_of c q))) = (t_rest_of c q, t_behind_yes c q)
    rw [rest_back h]
theorem hfnd_turn {y : Bool} : ∀ {l : Nat} {c : List Int}, hfnd y l c = true → hfnd (!y) l c = true
  | 0, c, h => h
  | l + 1, c, h => by
    rcases hfnd_iff.mp h with h | ⟨q, hq, a, b⟩
    · exact hfnd_settled h
    · refine hfnd_iff.mpr (.inr ⟨t_rest_of c q, hq.rest.1, ?_, ?_⟩)
      · rw [hb_turn hq]; exact hfnd_turn b
      · rw [hb_turn hq]; exact hfnd_turn a
theorem hfnd_word {y z : Bool} {l : Nat} {c : List Int} : hfnd y l c = hfnd z l c := by
  have e : hfnd true l c = hfnd false l c := Bool.eq_iff_iff.mpr ⟨hfnd_turn, hfnd_turn⟩
  cases y <;> cases z <;> first | rfl | exact e | exact e.symm
theorem qok_addL : ∀ {a b : List Int}, a.length = b.length → (∀ x ∈ a, 0 ≤ x) → (∀ x ∈ b, 0 ≤ x) → QOk (addL a b) a
  | [], [], _, _, _ => .nil
  | x :: a, y :: b, h, ha, hb => by
    rw [addL_cons]
    have := hb y (.head _)
    exact .cons (ha x (.head _)) (by omega) (qok_addL (by simpa using h) (fun z m => ha z (.tail _ m)) fun z m => hb z (.tail _ m))
/-- what is found with full lies is half-found -/
theorem fnd_hfnd {y : Bool} : ∀ {l : Nat} {c : List Int}, COk c → l ≤ 16 → fnd l c = true → hfnd y l c = true
  | 0, c, _, _, h => h
  | l + 1, c, o, hl, h => by
    rcases (fnd_iff o hl).mp h with h | ⟨q, hq, a, b⟩
    · exact hfnd_settled h
    · have h1 := fnd_hfnd (y := true) (yes_ok o hq).1 (by omega) a
      have h2 := fnd_hfnd (y := true) (no_ok o hq).1 (by omega) b
      rw [hfnd_word (z := true)]
      refine hfnd_iff.mpr (.inr ⟨q, hq, h1, ?_⟩)
      have r := hq.rest
      have m : QOk (t_behind_no c q) (t_rest_of c q) := by
        rw [no_add hq]
        exact qok_addL (by rw [sh_len (by have := hq.len; have := o.l1; omega), r.1.len, hq.len]) r.1.nn (sh_nn hq.nn)
      exact (hfnd_mvs (no_ok o hq).1 (mvs_le m) h2).1
/-- without a lie it is the same -/
theorem hfnd_one {y : Bool} : ∀ {l : Nat} {x : Int}, COk [x] → l ≤ 16 → hfnd y l [x] = fnd l [x]
  | 0, x, _, _ => rfl
  | l + 1, x, o, hl => by
    rw [Bool.eq_iff_iff]
    refine ⟨fun h => ?_, fnd_hfnd o hl⟩
    rw [hfnd_word (z := true)] at h
    rcases hfnd_iff.mp h with h | ⟨q, hq, a, b⟩
    · exact fnd_settled h
    · have z := hb_ok (y := true) o hq
      have lq := hq.len
      match q, lq with
      | [v], _ =>
        have e1 : t_behind_yes [x] [v] = [v] := by rw [yes_eq]; simp
        have e2 : t_rest_of [x] [v] = [x - v] := rfl
        have e3 : t_behind_no [x] [v] = [x - v] := by
          show t_behind_yes [x] (t_rest_of [x] [v]) = _
          rw [e2, yes_eq]; simp
        have o1 : COk [v] := by rw [← e1]; exact (yes_ok o hq).1
        have o2 : COk [x - v] := by rw [← e3]; exact (no_ok o hq).1
        have a' : hfnd true l [v] = true := by rw [← e1]; exact a
        have b' : hfnd true l [x - v] = true := by rw [← e2]; exact b
        rw [hfnd_one o1 (by omega)] at a'
        rw [hfnd_one o2 (by omega)] at b'
        exact fnd_good o hl hq (by rw [e1]; exact a') (by rw [e3]; exact b')
end EV
/-! EV139: a draw on a condition -/
namespace EV
open PySem L2
theorem x_ifq {α : Type} {e : α → D} {fn : Fns} {env : Ev} {ta : DT} {a b : DE} {k : Bool} {n : Nat} {h0 : Cells} {r : α × Pot2} {y : α} {p : Pot2} (ht : ta fn env (hp n h0 p) = .ok k (hp n h0 p)) (ha : k = true → a fn env (hp n h0 p) = .ok (e r.1) (hp n h0 r.2)) (hb : k = false → b fn env (hp n h0 p) = .ok (e y) (hp n h0 p)) :
    dIf ta a b fn env (hp n h0 p) = .ok (e (if k = true then r else (y, p)).1) (hp n h0 (if k = true then r else (y, p)).2) := by
  cases k with
  | false => simp [ht, hb rfl]
  | true => simp [ht, ha rfl]
/-- the repr of two truths -/
def rpBL : List Bool → SS
  | [true, true] => lit "[True, True]"
  | [true, false] => lit "[True, False]"
  | [false, true] => lit "[False, True]"
  | [false, false] => lit "[False, False]"
  | _ => lit ""
theorem rpBL_eq : ∀ a b, rp (eL D.bl [a, b]) = (rpBL [a, b]).val := by decide +kernel
theorem x_rpBL {fn : Fns} {env : Ev} {h h1 : Cells} {d : DE} {a b : Bool} (p : d fn env h = .ok (.str (rp (eL D.bl [a, b]))) h1) : d fn env h = .ok (eS (rpBL [a, b])) h1 := by
  rw [p, rpBL_eq]; rfl
end EV
namespace EV
open PySem L2
def rest_m (c_want_counts c_rest_of c_want_question : Nat) : DS := sSeq (sExpr (dCall c_want_counts 1 0 [.p 0] [] (daCons (dVar 0) (daNil)) (daNil))) (sRet (dCall c_rest_of 2 0 [.p 0, .p 1] [] (daCons (dVar 0) (daCons (dCall c_want_question 2 0 [.p 0, .p 1] [] (daCons (dVar 0) (daCons (dVar 1) (daNil))) (daNil)) (daNil))) (daNil)))
def t_rest (counts_0 : (List Int)) (question_0 : (List Int)) : (List Int) := (t_rest_of counts_0 question_0)
def ST_rest (f : Fn) : Prop := ∀ (counts_0 : (List Int)) (question_0 : (List Int)), (ck : COk counts_0) → (q : QOk counts_0 question_0) → ∀ h, f [(eT D.int) counts_0, (eT D.int) question_0] h = .ok ((eT D.int) (t_rest counts_0 question_0)) h
theorem et_rest {fn : Fns} {i_want_counts i_rest_of i_want_question : Nat} (c_want_counts : ST_want_counts (fn i_want_counts)) (c_want_question : ST_want_question (fn i_want_question)) (c_rest_of : ST_rest_of (fn i_rest_of)) : ST_rest (bodyF 2 (rest_m i_want_counts i_rest_of i_want_question) fn) := by
  intro counts_0 question_0 ck q h
  have ok := ck.counts
  have lk := ck.l4
  have hq := question_ok q
  refine b_ret (m := rest_m i_want_counts i_rest_of i_want_question) (V := (fun (r : (List Int)) => ((eT D.int) r, h))) (r := t_rest counts_0 question_0) ?_
  unfold t_rest rest_m
  show J _ fn [.val ((eT D.int) counts_0), .val ((eT D.int) question_0)] _ _ _
  refine j_seq (z_expr (x_call (xa_cons (x_var rfl) xa_nil) xa_nil (nb_cons rfl nb_nil) nb_nil rfl rfl rfl (c_want_counts counts_0 (by /-rest 1: want_counts: pre 0-/first | assumption | omega | (dsimp only [lt] at *; omega) | (set_option maxHeartbeats 40000 in (simp; done)) | (set_option maxHeartbeats 40000 in (simp; omega)) | (set_option maxHeartbeats 40000 in (simp at *; omega)) | (set_option maxHeartbeats 40000 in (simp_all; done)) | (set_option maxHeartbeats 40000 in (simp_all; omega))) (by /-rest 2: want_counts: pre 1-/first | assumption | omega | (dsimp only [lt] at *; omega) | (set_option maxHeartbeats 40000 in (simp; done)) | (set_option maxHeartbeats 40000 in (simp; omega)) | (set_option maxHeartbeats 40000 in (simp at *; omega)) | (set_option maxHeartbeats 40000 in (simp_all; done)) | (set_option maxHeartbeats 40000 in (simp_all; omega))) _))) ?_
  exact j_ret (d := (eT D.int) (t_rest_of counts_0 question_0)) (x_call (xa_cons (x_var rfl) (xa_cons (x_call (xa_cons (x_var rfl) (xa_cons (x_var rfl) xa_nil)) xa_nil (nb_cons rfl (nb_cons rfl nb_nil)) nb_nil rfl rfl rfl (c_want_question counts_0 question_0 (by /-rest 3: want_question: pre 0-/first | assumption | omega | (dsimp only [lt] at *; omega) | (set_option maxHeartbeats 40000 in (simp; done)) | (set_option maxHeartbeats 40000 in (simp; omega)) | (set_option maxHeartbeats 40000 in (simp at *; omega)) | (set_option maxHeartbeats 40000 in (simp_all; done)) | (set_option maxHeartbeats 40000 in (simp_all; omega))) (by /-rest 4: want_question: pre 1-/first | assumption | omega | (dsimp only [lt] at *; omega) | (set_option maxHeartbeats 40000 in (simp; done)) | (set_option maxHeartbeats 40000 in (simp; omega)) | (set_option maxHeartbeats 40000 in (simp at *; omega)) | (set_option maxHeartbeats 40000 in (simp_all; done)) | (set_option maxHeartbeats 40000 in (simp_all; omega))) _)) xa_nil)) xa_nil (nb_cons rfl (nb_cons rfl nb_nil)) nb_nil rfl rfl rfl (c_rest_of counts_0 question_0 (by /-rest 5: rest_of: pre 0-/first | assumption | omega | (dsimp only [lt] at *; omega) | (set_option maxHeartbeats 40000 in (simp; done)) | (set_option maxHeartbeats 40000 in (simp; omega)) | (set_option maxHeartbeats 40000 in (simp at *; omega)) | (set_option maxHeartbeats 40000 in (simp_all; done)) | (set_option maxHeartbeats 40000 in (simp_all; omega))) _)) rfl ⟨rfl, rfl⟩
end EV
set_option maxHeartbeats 0
namespace EV.K
open PySem L2
noncomputable section
abbrev top (i : Nat) : Stmt := PySem.Challenge.pw_askedliars_k51_whole_half_lies_never_har.main.body.getD i (.Pass ⟨0, 0, 0, 0⟩)
abbrev st__wall : Stmt := top 0
abbrev st_is_integer : Stmt := top 11
abbrev st_is_count : Stmt := top 12
abbrev st_is_below : Stmt := top 13
abbrev st_is_row : Stmt := top 14
abbrev st_want_at_most : Stmt := top 15
abbrev st_are_counts_of : Stmt := top 20
abbrev st_is_left : Stmt := top 21
abbrev st_is_standing_of : Stmt := top 22
abbrev st_lies_of : Stmt := top 23
abbrev st_together : Stmt := top 24
abbrev st_is_settled_of : Stmt := top 25
abbrev st_want_counts : Stmt := top 26
abbrev st_want_left : Stmt := top 27
abbrev st_want_standing : Stmt := top 28
abbrev st_is_question_of : Stmt := top 30
abbrev st_questions_of : Stmt := top 31
abbrev st_rest_of : Stmt := top 32
abbrev st_behind_yes : Stmt := top 33
abbrev st_behind_no : Stmt := top 34
abbrev st_both_behind : Stmt := top 35
abbrev st_want_question : Stmt := top 36
abbrev st_rest : Stmt := top 37
abbrev st_both : Stmt := top 38
abbrev st_ways_of : Stmt := top 40
abbrev st_weight_of : Stmt := top 41
abbrev st_is_heavy_of : Stmt := top 42
abbrev st_power_of_two : Stmt := top 43
abbrev st_half_both : Stmt := top 49
abbrev st_Halves___init__ : Stmt := inCls (top 50) 0
abbrev st_Halves_is_found : Stmt := inCls (top 50) 1
abbrev st_Halves_question : Stmt := inCls (top 50) 2
abbrev st_least_half : Stmt := top 51
abbrev st_want_word : Stmt := top 52
abbrev st_want_small : Stmt := top 53
abbrev st_want_half : Stmt := top 54
abbrev st_half_behind : Stmt := top 55
abbrev st_is_half_found : Stmt := top 56
abbrev st_least_half_left : Stmt := top 57
abbrev st_Finder___init__ : Stmt := inCls (top 61) 0
abbrev st_Finder_is_found : Stmt := inCls (top 61) 1
abbrev st_Finder_is_good : Stmt := inCls (top 61) 2
abbrev st_Finder_first_good : Stmt := inCls (top 61) 3
abbrev st_Finder_all_good : Stmt := inCls (top 61) 4
abbrev st_is_found_of : Stmt := top 62
abbrev st_least_of : Stmt := top 63
abbrev st_want_few : Stmt := top 64
abbrev st_want_searched : Stmt := top 65
abbrev st_is_found : Stmt := top 66
abbrev st_least : Stmt := top 67
abbrev st__law_pot : Stmt := top 69
abbrev st__law_draw : Stmt := top 70
abbrev st__law_pick : Stmt := top 71
abbrev st__law_questions : Stmt := top 72
abbrev st__law_half : Stmt := top 73
abbrev st__law_finds : Stmt := top 74
abbrev st__law_counts : Stmt := top 75
abbrev st__law_right : Stmt := top 76
abbrev st_law : Stmt := top 77
/-- _wall(k) -/
def m__wall : DS := sBad
def N__wall : List Str := ["k"]
def d__wall : FD := ⟨"_wall", "_wall", st__wall, ["k"], N__wall, m__wall, none, "_wall"⟩
/-- is_integer(value) -/
def m_is_integer : DS := sRet (dAnd (dIsi (dVar 0) [.int]) (dNot (dIsi (dVar 0) [.bl])))
def N_is_integer : List Str := ["value"]
def d_is_integer : FD := ⟨"is_integer", "is_integer", st_is_integer, ["value"], N_is_integer, m_is_integer, none, "is_integer"⟩
/-- is_count(value) -/
def m_is_count : DS := sRet (dAnd (dCall 1 1 0 [.p 0] [] (daCons (dVar 0) (daNil)) (daNil)) (dOp2 dGe (dVar 0) (dC (.int 0))))
def N_is_count : List Str := ["value"]
def d_is_count : FD := ⟨"is_count", "is_count", st_is_count, ["value"], N_is_count, m_is_count, none, "is_count"⟩
/-- is_below(value, many) -/
def m_is_below : DS := sRet (dAnd (dCall 2 1 0 [.p 0] [] (daCons (dVar 0) (daNil)) (daNil)) (dOp2 dLt (dVar 0) (dVar 1)))
def N_is_below : List Str := ["value", "many"]
def d_is_below : FD := ⟨"is_below", "is_below", st_is_below, ["value", "many"], N_is_below, m_is_below, none, "is_below"⟩
/-- is_row(value, many) -/
def m_is_row : DS := sRet (dAnd (dIsi (dVar 0) [.tup]) (dOp2 dEq (dOpN cLen (daCons (dVar 0) (daNil))) (dVar 1)))
def N_is_row : List Str := ["value", "many"]
def d_is_row : FD := ⟨"is_row", "is_row", st_is_row, ["value", "many"], N_is_row, m_is_row, none, "is_row"⟩
/-- want_at_most(what, limit, number) -/
def m_want_at_most : DS := sIf (dtB (dOp2 dGt (dVar 2) (dVar 1))) (sBad) (sNext)
def N_want_at_most : List Str := ["what", "limit", "number"]
def d_want_at_most : FD := ⟨"want_at_most", "want_at_most", st_want_at_most, ["what", "limit", "number"], N_want_at_most, m_want_at_most, none, "want_at_most"⟩
/-- are_counts_of(value, number) -/
def m_are_counts_of : DS := sSeq (sIf (dtOr (dtNot (dTruE (dIsi (dVar 0) [.tup]))) (dtNot (dtB (dChain dLe dLe (dC (.int 1)) (dOpN cLen (daCons (dVar 0) (daNil))) (dOp2 dAdd (dC (.int 3)) (dC (.int 1))))))) (sRet (dC (.bl false))) (sNext)) (sRet (dAnd (dOpN cAll (daCons (asVal (dComp [1] (.name 1) (dItems (dVar 0)) (dtYes) (dCall 2 1 0 [.p 0] [] (daCons (dVar 1) (daNil)) (daNil)))) (daNil))) (dOp2 dLe (dOpN cSum (daCons (dVar 0) (daNil))) (dC (.int 40)))))
def N_are_counts_of : List Str := ["value", "number"]
def d_are_counts_of : FD := ⟨"are_counts_of", "are_counts_of", st_are_counts_of, ["value"], N_are_counts_of, m_are_counts_of, none, "are_counts_of"⟩
/-- is_left(value) -/
def m_is_left : DS := sRet (dCall 3 2 0 [.p 0, .p 1] [] (daCons (dVar 0) (daCons (dOp2 dAdd (dC (.int 16)) (dC (.int 1))) (daNil))) (daNil))
def N_is_left : List Str := ["value"]
def d_is_left : FD := ⟨"is_left", "is_left", st_is_left, ["value"], N_is_left, m_is_left, none, "is_left"⟩
/-- is_standing_of(value) -/
def m_is_standing_of : DS := sRet (dAnd (dCall 4 2 0 [.p 0, .p 1] [] (daCons (dVar 0) (daCons (dC (.int 2)) (daNil))) (daNil)) (dAnd (dCall 6 1 0 [.p 0] [] (daCons (dOp2 dIx (dVar 0) (dC (.int 0))) (daNil)) (daNil)) (dCall 7 1 0 [.p 0] [] (daCons (dOp2 dIx (dVar 0) (dC (.int 1))) (daNil)) (daNil))))
def N_is_standing_of : List Str := ["value"]
def d_is_standing_of : FD := ⟨"is_standing_of", "is_standing_of", st_is_standing_of, ["value"], N_is_standing_of, m_is_standing_of, none, "is_standing_of"⟩
/-- lies_of(counts) -/
def m_lies_of : DS := sRet (dOp2 dSub (dOpN cLen (daCons (dVar 0) (daNil))) (dC (.int 1)))
def N_lies_of : List Str := ["counts"]
def d_lies_of : FD := ⟨"lies_of", "lies_of", st_lies_of, ["counts"], N_lies_of, m_lies_of, none, "lies_of"⟩
/-- together(counts) -/
def m_together : DS := sRet (dOpN cSum (daCons (dVar 0) (daNil)))
def N_together : List Str := ["counts"]
def d_together : FD := ⟨"together", "together", st_together, ["counts"], N_together, m_together, none, "together"⟩
/-- is_settled_of(counts) -/
def m_is_settled_of : DS := sRet (dOp2 dLe (dOpN cSum (daCons (dVar 0) (daNil))) (dC (.int 1)))
def N_is_settled_of : List Str := ["counts"]
def d_is_settled_of : FD := ⟨"is_settled_of", "is_settled_of", st_is_settled_of, ["counts"], N_is_settled_of, m_is_settled_of, none, "is_settled_of"⟩
/-- want_counts(value) -/
def m_want_counts : DS := sSeq (sIf (dtNot (dTruE (dCall 6 1 0 [.p 0] [] (daCons (dVar 0) (daNil)) (daNil)))) (sBad) (sNext)) (sRet (dVar 0))
def N_want_counts : List Str := ["value"]
def d_want_counts : FD := ⟨"want_counts", "want_counts", st_want_counts, ["value"], N_want_counts, m_want_counts, none, "want_counts"⟩
/-- want_left(value) -/
def m_want_left : DS := sSeq (sIf (dtNot (dTruE (dCall 7 1 0 [.p 0] [] (daCons (dVar 0) (daNil)) (daNil)))) (sBad) (sNext)) (sRet (dVar 0))
def N_want_left : List Str := ["value"]
def d_want_left : FD := ⟨"want_left", "want_left", st_want_left, ["value"], N_want_left, m_want_left, none, "want_left"⟩
/-- want_standing(value) -/
def m_want_standing : DS := sSeq (sIf (dtNot (dTruE (dCall 8 1 0 [.p 0] [] (daCons (dVar 0) (daNil)) (daNil)))) (sBad) (sNext)) (sRet (dVar 0))
def N_want_standing : List Str := ["value"]
def d_want_standing : FD := ⟨"want_standing", "want_standing", st_want_standing, ["value"], N_want_standing, m_want_standing, none, "want_standing"⟩
/-- is_question_of(counts, value, asked, number) -/
def m_is_question_of : DS := sSeq (sIf (dtNot (dTruE (dCall 4 2 0 [.p 0, .p 1] [] (daCons (dVar 1) (daCons (dOpN cLen (daCons (dVar 0) (daNil))) (daNil))) (daNil)))) (sRet (dC (.bl false))) (sNext)) (sRet (dOpN cAll (daCons (asVal (dComp [2, 3] (.tup [.name 2, .name 3]) (dZipX (daCons (dVar 1) (daCons (dVar 0) (daNil)))) (dtYes) (dCall 3 2 0 [.p 0, .p 1] [] (daCons (dVar 2) (daCons (dOp2 dAdd (dVar 3) (dC (.int 1))) (daNil))) (daNil)))) (daNil))))
def N_is_question_of : List Str := ["counts", "value", "asked", "number"]
def d_is_question_of : FD := ⟨"is_question_of", "is_question_of", st_is_question_of, ["counts", "value"], N_is_question_of, m_is_question_of, none, "is_question_of"⟩
/-- questions_of(counts, found, number, later, begin, asked) -/
def b_questions_of_0 : DS := sExtend 3 (asVal (dComp [5] (.name 5) (dRng1 (daCons (dOp2 dAdd (dVar 2) (dC (.int 1))) (daNil))) (dtYes) (dOp2 dAdd (dVar 4) (dTup (daCons (dVar 5) (daNil))))))
def b_questions_of_1 : DS := sSeq (sOwn 3 (dDisp (daNil))) (sSeq (sFor (.name 4) (dItems (dVar 1)) b_questions_of_0) (sFrz [3] (sSet 1 (dVar 3))))
def m_questions_of : DS := sSeq (sSet 1 (dLst (daCons (dTup (daNil)) (daNil)))) (sSeq (sFor (.name 2) (dItems (dVar 0)) b_questions_of_1) (sRet (dVar 1)))
def N_questions_of : List Str := ["counts", "found", "number", "later", "begin", "asked"]
def d_questions_of : FD := ⟨"questions_of", "questions_of", st_questions_of, ["counts"], N_questions_of, m_questions_of, none, "questions_of"⟩
/-- rest_of(counts, question, number, asked) -/
def m_rest_of : DS := sRet (dOpN cTuple (daCons (asVal (dComp [2, 3] (.tup [.name 2, .name 3]) (dZipX (daCons (dVar 0) (daCons (dVar 1) (daNil)))) (dtYes) (dOp2 dSub (dVar 2) (dVar 3)))) (daNil)))
def N_rest_of : List Str := ["counts", "question", "number", "asked"]
def d_rest_of : FD := ⟨"rest_of", "rest_of", st_rest_of, ["counts", "question"], N_rest_of, m_rest_of, none, "rest_of"⟩
/-- behind_yes(counts, question, rest, asked, wrong) -/
def m_behind_yes : DS := sSeq (sSet 2 (dCall 17 2 0 [.p 0, .p 1] [] (daCons (dVar 0) (daCons (dVar 1) (daNil))) (daNil))) (sRet (dOpN cTuple (daCons (asVal (dComp [3, 4] (.tup [.name 3, .name 4]) (dZipX (daCons (dVar 1) (daCons (dOp2 dAdd (dTup (daCons (dC (.int 0)) (daNil))) (dSlice (dVar 2) (dNoPart) (dPart (dOp1 dNeg (dC (.int 1)))))) (daNil)))) (dtYes) (dOp2 dAdd (dVar 3) (dVar 4)))) (daNil))))
def N_behind_yes : List Str := ["counts", "question", "rest", "asked", "wrong"]
def d_behind_yes : FD := ⟨"behind_yes", "behind_yes", st_behind_yes, ["counts", "question"], N_behind_yes, m_behind_yes, none, "behind_yes"⟩
/-- behind_no(counts, question) -/
def m_behind_no : DS := sRet (dCall 18 2 0 [.p 0, .p 1] [] (daCons (dVar 0) (daCons (dCall 17 2 0 [.p 0, .p 1] [] (daCons (dVar 0) (daCons (dVar 1) (daNil))) (daNil)) (daNil))) (daNil))
def N_behind_no : List Str := ["counts", "question"]
def d_behind_no : FD := ⟨"behind_no", "behind_no", st_behind_no, ["counts", "question"], N_behind_no, m_behind_no, none, "behind_no"⟩
/-- both_behind(counts, question) -/
def m_both_behind : DS := sRet (dTup (daCons (dCall 18 2 0 [.p 0, .p 1] [] (daCons (dVar 0) (daCons (dVar 1) (daNil))) (daNil)) (daCons (dCall 19 2 0 [.p 0, .p 1] [] (daCons (dVar 0) (daCons (dVar 1) (daNil))) (daNil)) (daNil))))
def N_both_behind : List Str := ["counts", "question"]
def d_both_behind : FD := ⟨"both_behind", "both_behind", st_both_behind, ["counts", "question"], N_both_behind, m_both_behind, none, "both_behind"⟩
/-- want_question(counts, value) -/
def m_want_question : DS := sSeq (sIf (dtNot (dTruE (dCall 15 2 0 [.p 0, .p 1] [] (daCons (dVar 0) (daCons (dVar 1) (daNil))) (daNil)))) (sBad) (sNext)) (sRet (dVar 1))
def N_want_question : List Str := ["counts", "value"]
def d_want_question : FD := ⟨"want_question", "want_question", st_want_question, ["counts", "value"], N_want_question, m_want_question, none, "want_question"⟩
/-- rest(counts, question) -/
def m_rest : DS := sSeq (sExpr (dCall 12 1 0 [.p 0] [] (daCons (dVar 0) (daNil)) (daNil))) (sRet (dCall 17 2 0 [.p 0, .p 1] [] (daCons (dVar 0) (daCons (dCall 21 2 0 [.p 0, .p 1] [] (daCons (dVar 0) (daCons (dVar 1) (daNil))) (daNil)) (daNil))) (daNil)))
def N_rest : List Str := ["counts", "question"]
def d_rest : FD := ⟨"rest", "rest", st_rest, ["counts", "question"], N_rest, m_rest, none, "rest"⟩
/-- both(counts, question) -/
def m_both : DS := sSeq (sExpr (dCall 12 1 0 [.p 0] [] (daCons (dVar 0) (daNil)) (daNil))) (sRet (dCall 20 2 0 [.p 0, .p 1] [] (daCons (dVar 0) (daCons (dCall 21 2 0 [.p 0, .p 1] [] (daCons (dVar 0) (daCons (dVar 1) (daNil))) (daNil)) (daNil))) (daNil)))
def N_both : List Str := ["counts", "question"]
def d_both : FD := ⟨"both", "both", st_both, ["counts", "question"], N_both, m_both, none, "both"⟩
/-- ways_of(left, lies, found, term, wrong) -/
def b_ways_of_0 : DS := sSeq (sAug 2 dIAdd (dVar 3)) (sSet 3 (dOp2 dFdiv (dOp2 dMul (dVar 3) (dOp2 dSub (dVar 0) (dVar 4))) (dOp2 dAdd (dVar 4) (dC (.int 1)))))
def m_ways_of : DS := sSeq (sAsg (dTup (daCons (dC (.int 0)) (daCons (dC (.int 1)) (daNil)))) (gTup 2 (gsCons (gName' 2) (gsCons (gName' 3) (gsNil))))) (sSeq (sFor (.name 4) (dRng1 (daCons (dOp2 dAdd (dVar 1) (dC (.int 1))) (daNil))) b_ways_of_0) (sRet (dVar 2)))
def N_ways_of : List Str := ["left", "lies", "found", "term", "wrong"]
def d_ways_of : FD := ⟨"ways_of", "ways_of", st_ways_of, ["left", "lies"], N_ways_of, m_ways_of, none, "ways_of"⟩
/-- weight_of(counts, left, lies, at, number) -/
def m_weight_of : DS := sSeq (sSet 2 (dCall 9 1 0 [.p 0] [] (daCons (dVar 0) (daNil)) (daNil))) (sRet (dOpN cSum (daCons (asVal (dComp [3, 4] (.tup [.name 3, .name 4]) (dEnumA (daCons (dVar 0) (daNil))) (dtYes) (dOp2 dMul (dVar 4) (dCall 24 2 0 [.p 0, .p 1] [] (daCons (dVar 1) (daCons (dOp2 dSub (dVar 2) (dVar 3)) (daNil))) (daNil))))) (daNil))))
def N_weight_of : List Str := ["counts", "left", "lies", "at", "number"]
def d_weight_of : FD := ⟨"weight_of", "weight_of", st_weight_of, ["counts", "left"], N_weight_of, m_weight_of, none, "weight_of"⟩
/-- is_heavy_of(counts, left) -/
def m_is_heavy_of : DS := sRet (dAnd (dNot (dCall 11 1 0 [.p 0] [] (daCons (dVar 0) (daNil)) (daNil))) (dOp2 dGt (dCall 25 2 0 [.p 0, .p 1] [] (daCons (dVar 0) (daCons (dVar 1) (daNil))) (daNil)) (dCall 27 1 0 [.p 0] [] (daCons (dVar 1) (daNil)) (daNil))))
def N_is_heavy_of : List Str := ["counts", "left"]
def d_is_heavy_of : FD := ⟨"is_heavy_of", "is_heavy_of", st_is_heavy_of, ["counts", "left"], N_is_heavy_of, m_is_heavy_of, none, "is_heavy_of"⟩
/-- power_of_two(left, found, turn) -/
def b_power_of_two_0 : DS := sSet 1 (dOp2 dMul (dVar 1) (dC (.int 2)))
def m_power_of_two : DS := sSeq (sSet 1 (dC (.int 1))) (sSeq (sFor (.name 2) (dRng1 (daCons (dVar 0) (daNil))) b_power_of_two_0) (sRet (dVar 1)))
def N_power_of_two : List Str := ["left", "found", "turn"]
def d_power_of_two : FD := ⟨"power_of_two", "power_of_two", st_power_of_two, ["left"], N_power_of_two, m_power_of_two, none, "power_of_two"⟩
/-- half_both(counts, word, question) -/
def m_half_both : DS := sSeq (sIf (dtB (dOp2 dEq (dVar 1) (dC (.str ("yes" : Str))))) (sRet (dTup (daCons (dCall 18 2 0 [.p 0, .p 1] [] (daCons (dVar 0) (daCons (dVar 2) (daNil))) (daNil)) (daCons (dCall 17 2 0 [.p 0, .p 1] [] (daCons (dVar 0) (daCons (dVar 2) (daNil))) (daNil)) (daNil))))) (sNext)) (sRet (dTup (daCons (dVar 2) (daCons (dCall 19 2 0 [.p 0, .p 1] [] (daCons (dVar 0) (daCons (dVar 2) (daNil))) (daNil)) (daNil)))))
def N_half_both : List Str := ["counts", "word", "question"]
def d_half_both : FD := ⟨"half_both", "half_both", st_half_both, ["counts", "word", "question"], N_half_both, m_half_both, none, "half_both"⟩
/-- Halves___init__(self, word) -/
def m_Halves___init__ : DS := sChoose (fun env h => yesAt env 1) fun M => sSeq (sFldP 1 "own_word" (dVar 0) (dVar 1)) (sSeq (sFldP 1 "own_found" (dVar 0) (dNewMem (M_halfF M))) (sFldP 1 "own_not" (dVar 0) (dNewMem (M_halfN M))))
def N_Halves___init__ : List Str := ["self", "word"]
def d_Halves___init__ : FD := ⟨"Halves", "__init__", st_Halves___init__, ["self", "word"], N_Halves___init__, m_Halves___init__, (some "__init__"), "Halves.__init__"⟩
/-- Halves_is_found(self, counts, left) -/
def m_Halves_is_found : DS := memQ (fun env h => memIn "own_found" env h 0) (dtOr (dTruE (dCall 11 1 0 [.p 0] [] (daCons (dVar 1) (daNil)) (daNil))) (dtB (dOp2 dGe (dVar 2) (dGetD (dFld 1 "own_found" (dVar 0)) (dVar 1) (dOp2 dAdd (dVar 2) (dC (.int 1))))))) (sRet (dC (.bl true))) (memQ (fun env h => memIn "own_not" env h 0) (dtOr (dtB (dOp2 dGt (dCall 10 1 0 [.p 0] [] (daCons (dVar 1) (daNil)) (daNil)) (dCall 27 1 0 [.p 0] [] (daCons (dVar 2) (daNil)) (daNil)))) (dtB (dOp2 dLe (dVar 2) (dGetD (dFld 1 "own_not" (dVar 0)) (dVar 1) (dOp1 dNeg (dC (.int 1))))))) (sRet (dC (.bl false))) (sSeq (sIf (dtB (dOp2 dIs (dMeth 1 "question" 31 2 (dVar 0) (daCons (dVar 1) (daCons (dVar 2) (daNil)))) (dC .non))) (sSeq (sAsg (dVar 2) (gDicC (dFld 1 "own_not" (dVar 0)) (dVar 1))) (sRet (dC (.bl false)))) (sNext)) (sSeq (sAsg (dVar 2) (gDicC (dFld 1 "own_found" (dVar 0)) (dVar 1))) (sRet (dC (.bl true))))))
def N_Halves_is_found : List Str := ["self", "counts", "left"]
def d_Halves_is_found : FD := ⟨"Halves", "is_found", st_Halves_is_found, ["self", "counts", "left"], N_Halves_is_found, m_Halves_is_found, (some "is_found"), "Halves.is_found"⟩
/-- Halves_question(self, counts, left, question, yes, no) -/
def b_Halves_question_0 : DS := sSeq (sAsg (dCall 28 3 0 [.p 0, .p 1, .p 2] [] (daCons (dVar 1) (daCons (dFld 1 "own_word" (dVar 0)) (daCons (dVar 3) (daNil)))) (daNil)) (gTup 2 (gsCons (gName' 4) (gsCons (gName' 5) (gsNil))))) (sIf (dtAnd (dTruE (dMeth 1 "is_found" 30 2 (dVar 0) (daCons (dVar 5) (daCons (dOp2 dSub (dVar 2) (dC (.int 1))) (daNil))))) (dTruE (dMeth 1 "is_found" 30 2 (dVar 0) (daCons (dVar 4) (daCons (dOp2 dSub (dVar 2) (dC (.int 1))) (daNil)))))) (sRet (dVar 3)) (sNext))
def m_Halves_question : DS := sSeq (sIf (dtB (dOp2 dEq (dVar 2) (dC (.int 0)))) (sRet (dC .non)) (sNext)) (sSeq (sFor (.name 3) (dItems (dCall 16 1 0 [.p 0] [] (daCons (dVar 1) (daNil)) (daNil))) b_Halves_question_0) (sRet (dC .non)))
def N_Halves_question : List Str := ["self", "counts", "left", "question", "yes", "no"]
def d_Halves_question : FD := ⟨"Halves", "question", st_Halves_question, ["self", "counts", "left"], N_Halves_question, m_Halves_question, (some "question"), "Halves.question"⟩
/-- least_half(counts, word, halves, left) -/
def b_least_half_0 : DS := sIf (dTruE (dMeth 1 "is_found" 30 2 (dVar 2) (daCons (dVar 0) (daCons (dVar 3) (daNil))))) (sRet (dVar 3)) (sNext)
def m_least_half : DS := sClean (sSeq (sSet 2 (dMake 1 29 1 (daCons (dVar 1) (daNil)))) (sSeq (sFor (.name 3) (dRng1 (daCons (dOp2 dAdd (dC (.int 12)) (dC (.int 1))) (daNil))) b_least_half_0) (sRet (dC .non))))
def N_least_half : List Str := ["counts", "word", "halves", "left"]
def d_least_half : FD := ⟨"least_half", "least_half", st_least_half, ["counts", "word"], N_least_half, m_least_half, none, "least_half"⟩
/-- want_word(value) -/
def m_want_word : DS := sSeq (sIf (dtOr (dtNot (dTruE (dIsi (dVar 0) [.str]))) (dtB (dOp2 dNotIn (dVar 0) (dTup (daCons (dC (.str ("yes" : Str))) (daCons (dC (.str ("no" : Str))) (daNil))))))) (sBad) (sNext)) (sRet (dVar 0))
def N_want_word : List Str := ["value"]
def d_want_word : FD := ⟨"want_word", "want_word", st_want_word, ["value"], N_want_word, m_want_word, none, "want_word"⟩
/-- want_small(counts, left) -/
def m_want_small : DS := sSeq (sExpr (dCall 5 3 0 [.p 0, .p 1, .p 2] [] (daCons (dC (.str ("things" : Str))) (daCons (dC (.int 10)) (daCons (dCall 10 1 0 [.p 0] [] (daCons (dVar 0) (daNil)) (daNil)) (daNil)))) (daNil))) (sExpr (dCall 5 3 0 [.p 0, .p 1, .p 2] [] (daCons (dC (.str ("left" : Str))) (daCons (dC (.int 12)) (daCons (dVar 1) (daNil)))) (daNil)))
def N_want_small : List Str := ["counts", "left"]
def d_want_small : FD := ⟨"want_small", "want_small", st_want_small, ["counts", "left"], N_want_small, m_want_small, none, "want_small"⟩
/-- want_half(standing, word) -/
def m_want_half : DS := sSeq (sExpr (dCall 14 1 0 [.p 0] [] (daCons (dVar 0) (daNil)) (daNil))) (sSeq (sExpr (dCall 33 1 0 [.p 0] [] (daCons (dVar 1) (daNil)) (daNil))) (sExpr (dCall 34 2 0 [.p 0, .p 1] [] (daCons (dOp2 dIx (dVar 0) (dC (.int 0))) (daCons (dOp2 dIx (dVar 0) (dC (.int 1))) (daNil))) (daNil))))
def N_want_half : List Str := ["standing", "word"]
def d_want_half : FD := ⟨"want_half", "want_half", st_want_half, ["standing", "word"], N_want_half, m_want_half, none, "want_half"⟩
/-- half_behind(counts, word, question) -/
def m_half_behind : DS := sSeq (sExpr (dCall 12 1 0 [.p 0] [] (daCons (dVar 0) (daNil)) (daNil))) (sSeq (sExpr (dCall 33 1 0 [.p 0] [] (daCons (dVar 1) (daNil)) (daNil))) (sRet (dCall 28 3 0 [.p 0, .p 1, .p 2] [] (daCons (dVar 0) (daCons (dVar 1) (daCons (dCall 21 2 0 [.p 0, .p 1] [] (daCons (dVar 0) (daCons (dVar 2) (daNil))) (daNil)) (daNil)))) (daNil))))
def N_half_behind : List Str := ["counts", "word", "question"]
def d_half_behind : FD := ⟨"half_behind", "half_behind", st_half_behind, ["counts", "word", "question"], N_half_behind, m_half_behind, none, "half_behind"⟩
/-- is_half_found(standing, word) -/
def m_is_half_found : DS := sClean (sSeq (sExpr (dCall 35 2 0 [.p 0, .p 1] [] (daCons (dVar 0) (daCons (dVar 1) (daNil))) (daNil))) (sRet (dMeth 1 "is_found" 30 2 (dMake 1 29 1 (daCons (dVar 1) (daNil))) (daCons (dOp2 dIx (dVar 0) (dC (.int 0))) (daCons (dOp2 dIx (dVar 0) (dC (.int 1))) (daNil))))))
def N_is_half_found : List Str := ["standing", "word"]
def d_is_half_found : FD := ⟨"is_half_found", "is_half_found", st_is_half_found, ["standing", "word"], N_is_half_found, m_is_half_found, none, "is_half_found"⟩
/-- least_half_left(counts, word) -/
def m_least_half_left : DS := sSeq (sExpr (dCall 12 1 0 [.p 0] [] (daCons (dVar 0) (daNil)) (daNil))) (sSeq (sExpr (dCall 33 1 0 [.p 0] [] (daCons (dVar 1) (daNil)) (daNil))) (sSeq (sExpr (dCall 34 2 0 [.p 0, .p 1] [] (daCons (dVar 0) (daCons (dC (.int 12)) (daNil))) (daNil))) (sRet (dCall 32 2 0 [.p 0, .p 1] [] (daCons (dVar 0) (daCons (dVar 1) (daNil))) (daNil)))))
def N_least_half_left : List Str := ["counts", "word"]
def d_least_half_left : FD := ⟨"least_half_left", "least_half_left", st_least_half_left, ["counts", "word"], N_least_half_left, m_least_half_left, none, "least_half_left"⟩
/-- Finder___init__(self) -/
def m_Finder___init__ : DS := sFldP 0 "own_known" (dVar 0) (dNewMem M_finder)
def N_Finder___init__ : List Str := ["self"]
def d_Finder___init__ : FD := ⟨"Finder", "__init__", st_Finder___init__, ["self"], N_Finder___init__, m_Finder___init__, (some "__init__"), "Finder.__init__"⟩
/-- Finder_is_found(self, counts, left) -/
def m_Finder_is_found : DS := sMemo (fun env h => memIn "own_known" env h 0) (sSeq (sIf (dTruE (dCall 11 1 0 [.p 0] [] (daCons (dVar 1) (daNil)) (daNil))) (sRet (dC (.bl true))) (sNext)) (sSeq (sIf (dtOr (dtB (dOp2 dEq (dVar 2) (dC (.int 0)))) (dTruE (dCall 26 2 0 [.p 0, .p 1] [] (daCons (dVar 1) (daCons (dVar 2) (daNil))) (daNil)))) (sRet (dC (.bl false))) (sNext)) (sSeq (sIf (dtB (dOp2 dNotInM (dTup (daCons (dVar 1) (daCons (dVar 2) (daNil)))) (dFld 0 "own_known" (dVar 0)))) (sAsg (dOp2 dIsNot (dMeth 0 "first_good" 42 2 (dVar 0) (daCons (dVar 1) (daCons (dVar 2) (daNil)))) (dC .non)) (gDic (dFld 0 "own_known" (dVar 0)) (dTup (daCons (dVar 1) (daCons (dVar 2) (daNil)))))) (sNext)) (sRet (dOp2 dGet (dFld 0 "own_known" (dVar 0)) (dTup (daCons (dVar 1) (daCons (dVar 2) (daNil)))))))))
def N_Finder_is_found : List Str := ["self", "counts", "left"]
def d_Finder_is_found : FD := ⟨"Finder", "is_found", st_Finder_is_found, ["self", "counts", "left"], N_Finder_is_found, m_Finder_is_found, (some "is_found"), "Finder.is_found"⟩
/-- Finder_is_good(self, counts, left, question, yes, no) -/
def m_Finder_is_good : DS := sSeq (sAsg (dCall 20 2 0 [.p 0, .p 1] [] (daCons (dVar 1) (daCons (dVar 3) (daNil))) (daNil)) (gTup 2 (gsCons (gName' 4) (gsCons (gName' 5) (gsNil))))) (sRet (dAnd (dMeth 0 "is_found" 40 2 (dVar 0) (daCons (dVar 4) (daCons (dOp2 dSub (dVar 2) (dC (.int 1))) (daNil)))) (dMeth 0 "is_found" 40 2 (dVar 0) (daCons (dVar 5) (daCons (dOp2 dSub (dVar 2) (dC (.int 1))) (daNil))))))
def N_Finder_is_good : List Str := ["self", "counts", "left", "question", "yes", "no"]
def d_Finder_is_good : FD := ⟨"Finder", "is_good", st_Finder_is_good, ["self", "counts", "left", "question"], N_Finder_is_good, m_Finder_is_good, (some "is_good"), "Finder.is_good"⟩
/-- Finder_first_good(self, counts, left, question) -/
def b_Finder_first_good_0 : DS := sIf (dtAnd (dtB (dOp2 dLe (dOp2 dMul (dC (.int 2)) (dOpN cSum (daCons (dVar 3) (daNil)))) (dOpN cSum (daCons (dVar 1) (daNil))))) (dTruE (dMeth 0 "is_good" 41 3 (dVar 0) (daCons (dVar 1) (daCons (dVar 2) (daCons (dVar 3) (daNil))))))) (sRet (dVar 3)) (sNext)
def m_Finder_first_good : DS := sSeq (sFor (.name 3) (dItems (dCall 16 1 0 [.p 0] [] (daCons (dVar 1) (daNil)) (daNil))) b_Finder_first_good_0) (sRet (dC .non))
def N_Finder_first_good : List Str := ["self", "counts", "left", "question"]
def d_Finder_first_good : FD := ⟨"Finder", "first_good", st_Finder_first_good, ["self", "counts", "left"], N_Finder_first_good, m_Finder_first_good, (some "first_good"), "Finder.first_good"⟩
/-- Finder_all_good(self, counts, left) -/
def m_Finder_all_good : DS := sBad
def N_Finder_all_good : List Str := ["self", "counts", "left"]
def d_Finder_all_good : FD := ⟨"Finder", "all_good", st_Finder_all_good, ["self", "counts", "left"], N_Finder_all_good, m_Finder_all_good, (some "all_good"), "Finder.all_good"⟩
/-- is_found_of(counts, left) -/
def m_is_found_of : DS := sClean (sRet (dMeth 0 "is_found" 40 2 (dMake 0 39 0 (daNil)) (daCons (dVar 0) (daCons (dVar 1) (daNil)))))
def N_is_found_of : List Str := ["counts", "left"]
def d_is_found_of : FD := ⟨"is_found_of", "is_found_of", st_is_found_of, ["counts", "left"], N_is_found_of, m_is_found_of, none, "is_found_of"⟩
/-- least_of(counts, finder, left) -/
def b_least_of_0 : DS := sIf (dTruE (dMeth 0 "is_found" 40 2 (dVar 1) (daCons (dVar 0) (daCons (dVar 2) (daNil))))) (sRet (dVar 2)) (sNext)
def m_least_of : DS := sClean (sSeq (sSet 1 (dMake 0 39 0 (daNil))) (sSeq (sFor (.name 2) (dRng1 (daCons (dOp2 dAdd (dC (.int 12)) (dC (.int 1))) (daNil))) b_least_of_0) (sRet (dC .non))))
def N_least_of : List Str := ["counts", "finder", "left"]
def d_least_of : FD := ⟨"least_of", "least_of", st_least_of, ["counts"], N_least_of, m_least_of, none, "least_of"⟩
/-- want_few(counts, left) -/
def m_want_few : DS := sSeq (sExpr (dCall 5 3 0 [.p 0, .p 1, .p 2] [] (daCons (dC (.str ("things" : Str))) (daCons (dC (.int 10)) (daCons (dOpN cSum (daCons (dVar 0) (daNil))) (daNil)))) (daNil))) (sExpr (dCall 5 3 0 [.p 0, .p 1, .p 2] [] (daCons (dC (.str ("left" : Str))) (daCons (dC (.int 12)) (daCons (dVar 1) (daNil)))) (daNil)))
def N_want_few : List Str := ["counts", "left"]
def d_want_few : FD := ⟨"want_few", "want_few", st_want_few, ["counts", "left"], N_want_few, m_want_few, none, "want_few"⟩
/-- want_searched(counts, left) -/
def m_want_searched : DS := sSeq (sExpr (dCall 12 1 0 [.p 0] [] (daCons (dVar 0) (daNil)) (daNil))) (sExpr (dCall 46 2 0 [.p 0, .p 1] [] (daCons (dVar 0) (daCons (dCall 13 1 0 [.p 0] [] (daCons (dVar 1) (daNil)) (daNil)) (daNil))) (daNil)))
def N_want_searched : List Str := ["counts", "left"]
def d_want_searched : FD := ⟨"want_searched", "want_searched", st_want_searched, ["counts", "left"], N_want_searched, m_want_searched, none, "want_searched"⟩
/-- is_found(counts, left) -/
def m_is_found : DS := sSeq (sExpr (dCall 47 2 0 [.p 0, .p 1] [] (daCons (dVar 0) (daCons (dVar 1) (daNil))) (daNil))) (sRet (dCall 44 2 0 [.p 0, .p 1] [] (daCons (dVar 0) (daCons (dVar 1) (daNil))) (daNil)))
def N_is_found : List Str := ["counts", "left"]
def d_is_found : FD := ⟨"is_found", "is_found", st_is_found, ["counts", "left"], N_is_found, m_is_found, none, "is_found"⟩
/-- least(counts) -/
def m_least : DS := sSeq (sExpr (dCall 46 2 0 [.p 0, .p 1] [] (daCons (dCall 12 1 0 [.p 0] [] (daCons (dVar 0) (daNil)) (daNil)) (daCons (dC (.int 0)) (daNil))) (daNil))) (sRet (dCall 45 1 0 [.p 0] [] (daCons (dVar 0) (daNil)) (daNil)))
def N_least : List Str := ["counts"]
def d_least : FD := ⟨"least", "least", st_least, ["counts"], N_least, m_least, none, "least"⟩
/-- _law_pot(script, k, cell) -/
def m__law_pot : DS := sSeq (sSet 2 (dIf (dtB (dOp2 dLt (dVar 1) (dOpN cLen (daCons (dVar 0) (daNil))))) (dOpN cAbs (daCons (dOp2 dIx (dVar 0) (dVar 1)) (daNil))) (dOp2 dAdd (dOp2 dMul (dC (.int 3631)) (dVar 1)) (dC (.int 2447))))) (sRet (asCell (dDisp (daCons (dOpN cMaxL (daCons (dC (.int 0)) (daCons (dOp2 dSub (dVar 2) (dOp2 dPow (dC (.int 10)) (dC (.int 18)))) (daNil)))) (daCons (dOp2 dAdd (dOp2 dMod (dOpN cInt (daCons (dOp2 dAdd (dOp2 dAdd (dOp2 dMul (dOp2 dMod (dOpN cInt (daCons (dVar 2) (daNil))) (dC (.int 2147483549))) (dC (.int 40014))) (dOp2 dMul (dC (.int 2251)) (dVar 1))) (dC (.int 3251))) (daNil))) (dC (.int 2147483563))) (dC (.int 1))) (daNil))))))
def N__law_pot : List Str := ["script", "k", "cell"]
def d__law_pot : FD := ⟨"_law_pot", "_law_pot", st__law_pot, ["script", "k"], N__law_pot, m__law_pot, none, "_law_pot"⟩
/-- _law_draw(pot, many, digit) -/
def m__law_draw : DS := sSeq (sIf (dtB (dOp2 dGt (dOp2 dIx (dVar 0) (dC (.int 0))) (dC (.int 0)))) (sSeq (sAsg (dOpN cDivmod (daCons (dOp2 dIx (dVar 0) (dC (.int 0))) (daCons (dVar 1) (daNil)))) (gTup 2 (gsCons (gIx 0 (dC (.int 0))) (gsCons (gName' 2) (gsNil))))) (sRet (dVar 2))) (sNext)) (sSeq (sAsg (dOp2 dMod (dOpN cInt (daCons (dOp2 dAdd (dOp2 dMul (dOp2 dIx (dVar 0) (dC (.int 1))) (dC (.int 40692))) (dC (.int 6007))) (daNil))) (dC (.int 2147483587))) (gIx 0 (dC (.int 1)))) (sRet (dOp2 dMod (dOpN cInt (daCons (dOp2 dFdiv (dOp2 dMod (dOpN cInt (daCons (dOp2 dMul (dOp2 dIx (dVar 0) (dC (.int 1))) (dOp2 dIx (dVar 0) (dC (.int 1)))) (daNil))) (dC (.int 2147483549))) (dC (.int 17))) (daNil))) (dVar 1))))
def N__law_draw : List Str := ["pot", "many", "digit"]
def d__law_draw : FD := ⟨"_law_draw", "_law_draw", st__law_draw, ["pot", "many"], N__law_draw, m__law_draw, none, "_law_draw"⟩
/-- _law_pick(pot, some) -/
def m__law_pick : DS := sRet (dOp2 dIx (dVar 1) (dCall 51 2 0 [.p 0, .p 1] [] (daCons (dVar 0) (daCons (dOpN cLen (daCons (dVar 1) (daNil))) (daNil))) (daNil)))
def N__law_pick : List Str := ["pot", "some"]
def d__law_pick : FD := ⟨"_law_pick", "_law_pick", st__law_pick, ["pot", "some"], N__law_pick, m__law_pick, none, "_law_pick"⟩
/-- _law_questions(counts, found, number, longer, one, asked) -/
def b__law_questions_0 : DS := sExtend 3 (asVal (dComp [5] (.name 5) (dRng1 (daCons (dOp2 dAdd (dVar 2) (dC (.int 1))) (daNil))) (dtYes) (dOp2 dAdd (dVar 4) (dTup (daCons (dVar 5) (daNil))))))
def b__law_questions_1 : DS := sSeq (sOwn 3 (dDisp (daNil))) (sSeq (sFor (.name 4) (dItems (dVar 1)) b__law_questions_0) (sFrz [3] (sSet 1 (dVar 3))))
def m__law_questions : DS := sSeq (sSet 1 (dLst (daCons (dTup (daNil)) (daNil)))) (sSeq (sFor (.name 2) (dItems (dVar 0)) b__law_questions_1) (sRet (dVar 1)))
def N__law_questions : List Str := ["counts", "found", "number", "longer", "one", "asked"]
def d__law_questions : FD := ⟨"_law_questions", "_law_questions", st__law_questions, ["counts"], N__law_questions, m__law_questions, none, "_law_questions"⟩
/-- _law_half(counts, word, question, lies, found, answer, late, at, fits, against) -/
def b__law_half_0 : DS := sSeq (sPar2 8 9 (dmV (dOp2 dIx (dVar 2) (dVar 7))) (dmV (dOp2 dSub (dOp2 dIx (dVar 0) (dVar 7)) (dOp2 dIx (dVar 2) (dVar 7))))) (sSeq (sIf (dtB (dOp2 dEq (dVar 5) (dC (.str ("no" : Str))))) (sPar2 8 9 (dmV (dVar 9)) (dmV (dVar 8))) (sNext)) (sSeq (sAsg (dOp2 dAdd (dOp2 dIx (dVar 6) (dVar 7)) (dVar 8)) (gIx 6 (dVar 7))) (sIf (dtAnd (dtB (dOp2 dEq (dVar 5) (dVar 1))) (dtB (dOp2 dLt (dOp2 dAdd (dVar 7) (dC (.int 1))) (dVar 3)))) (sAsg (dOp2 dAdd (dOp2 dIx (dVar 6) (dOp2 dAdd (dVar 7) (dC (.int 1)))) (dVar 9)) (gIx 6 (dOp2 dAdd (dVar 7) (dC (.int 1))))) (sNext))))
def b__law_half_1 : DS := sSeq (sOwn 6 (dF2 repD (dLst (daCons (dC (.int 0)) (daNil))) (dVar 3))) (sSeq (sFor (.name 7) (dRng1 (daCons (dVar 3) (daNil))) b__law_half_0) (sAppend 4 (dOpN cTuple (daCons (dVar 6) (daNil)))))
def m__law_half : DS := sSeq (sPar2 3 4 (dmV (dOpN cLen (daCons (dVar 0) (daNil)))) (dmO (dDisp (daNil)))) (sSeq (sFor (.name 5) (dItems (dTup (daCons (dC (.str ("yes" : Str))) (daCons (dC (.str ("no" : Str))) (daNil))))) b__law_half_1) (sRet (dTup (daCons (dOp2 dIx (dVar 4) (dC (.int 0))) (daCons (dOp2 dIx (dVar 4) (dC (.int 1))) (daNil))))))
def N__law_half : List Str := ["counts", "word", "question", "lies", "found", "answer", "late", "at", "fits", "against"]
def d__law_half : FD := ⟨"_law_half", "_law_half", st__law_half, ["counts", "word", "question"], N__law_half, m__law_half, none, "_law_half"⟩
/-- _law_finds(counts, left, word, known, question, yes, no) -/
def b__law_finds_0 : DS := sIf (dtNot (dTruE (dOp2 dGet (dVar 3) (dTup (daCons (dVar 0) (daCons (dVar 1) (daNil))))))) (sSeq (sAsg (dCall 54 3 0 [.p 0, .p 1, .p 2] [] (daCons (dVar 0) (daCons (dVar 2) (daCons (dVar 4) (daNil)))) (daNil)) (gTup 2 (gsCons (gName' 5) (gsCons (gName' 6) (gsNil))))) (sAsg (dAnd (dCall 55 4 0 [.p 0, .p 1, .p 2, .p 3] [] (daCons (dVar 5) (daCons (dOp2 dSub (dVar 1) (dC (.int 1))) (daCons (dVar 2) (daCons (dVar 3) (daNil))))) (daNil)) (dCall 55 4 0 [.p 0, .p 1, .p 2, .p 3] [] (daCons (dVar 6) (daCons (dOp2 dSub (dVar 1) (dC (.int 1))) (daCons (dVar 2) (daCons (dVar 3) (daNil))))) (daNil))) (gDic (dVar 3) (dTup (daCons (dVar 0) (daCons (dVar 1) (daNil))))))) (sNext)
def m__law_finds : DS := sMemo (fun env h => memAt env h 3) (sSeq (sIf (dtB (dOp2 dLt (dOpN cSum (daCons (dVar 0) (daNil))) (dC (.int 2)))) (sRet (dC (.bl true))) (sNext)) (sSeq (sIf (dtB (dOp2 dEq (dVar 1) (dC (.int 0)))) (sRet (dC (.bl false))) (sNext)) (sSeq (sIf (dtB (dOp2 dNotInM (dTup (daCons (dVar 0) (daCons (dVar 1) (daNil)))) (dVar 3))) (sSeq (sAsg (dC (.bl false)) (gDic (dVar 3) (dTup (daCons (dVar 0) (daCons (dVar 1) (daNil)))))) (sFor (.name 4) (dItems (dCall 53 1 0 [.p 0] [] (daCons (dVar 0) (daNil)) (daNil))) b__law_finds_0)) (sNext)) (sRet (dOp2 dGet (dVar 3) (dTup (daCons (dVar 0) (daCons (dVar 1) (daNil)))))))))
def N__law_finds : List Str := ["counts", "left", "word", "known", "question", "yes", "no"]
def d__law_finds : FD := ⟨"_law_finds", "_law_finds", st__law_finds, ["counts", "left", "word", "known"], N__law_finds, m__law_finds, none, "_law_finds"⟩
/-- _law_counts(pot, most, lies, left, found, at, number) -/
def b__law_counts_0 : DS := sSeq (sSet 6 (dIf (dtB (dOp2 dLt (dOp2 dAdd (dVar 5) (dC (.int 1))) (dVar 2))) (dCall 51 2 0 [.p 0, .p 1] [] (daCons (dVar 0) (daCons (dOp2 dAdd (dVar 3) (dC (.int 1))) (daNil))) (daNil)) (dVar 3))) (sSeq (sAppend 4 (dVar 6)) (sSet 3 (dOp2 dSub (dVar 3) (dVar 6))))
def m__law_counts : DS := sSeq (sPar3 2 3 4 (dmV (dOp2 dAdd (dC (.int 1)) (dCall 51 2 0 [.p 0, .p 1] [] (daCons (dVar 0) (daCons (dC (.int 4)) (daNil))) (daNil)))) (dmV (dCall 51 2 0 [.p 0, .p 1] [] (daCons (dVar 0) (daCons (dOp2 dAdd (dVar 1) (dC (.int 1))) (daNil))) (daNil))) (dmO (dDisp (daNil)))) (sSeq (sFor (.name 5) (dRng1 (daCons (dVar 2) (daNil))) b__law_counts_0) (sRet (dOpN cTuple (daCons (dVar 4) (daNil)))))
def N__law_counts : List Str := ["pot", "most", "lies", "left", "found", "at", "number"]
def d__law_counts : FD := ⟨"_law_counts", "_law_counts", st__law_counts, ["pot", "most"], N__law_counts, m__law_counts, none, "_law_counts"⟩
/-- _law_right(pot, counts, left, near, far, some, question, whole, turned, word, half, at, less, late, full, one, other) -/
def b__law_right_0 : DS := sSeq (sSet 10 (dCall 36 3 0 [.p 0, .p 1, .p 2] [] (daCons (dVar 1) (daCons (dVar 9) (daCons (dVar 6) (daNil)))) (daNil))) (sSeq (sIf (dtNot (dTruE (dOpN cAll (daCons (asVal (dComp [13, 14] (.tup [.name 13, .name 14]) (dZipX (daCons (dVar 10) (daCons (dVar 7) (daNil)))) (dtYes) (dOpN cAll (daCons (asVal (dComp [15, 16] (.tup [.name 15, .name 16]) (dZipX (daCons (dVar 13) (daCons (dVar 14) (daNil)))) (dtYes) (dOp2 dLe (dVar 15) (dVar 16)))) (daNil))))) (daNil))))) (sRet (dC (.bl false))) (sNext)) (sIf (dtB (dOp2 dNe (dCall 36 3 0 [.p 0, .p 1, .p 2] [] (daCons (dVar 1) (daCons (dIf (dtB (dOp2 dEq (dVar 9) (dC (.str ("yes" : Str))))) (dC (.str ("no" : Str))) (dC (.str ("yes" : Str)))) (daCons (dVar 8) (daNil)))) (daNil)) (dRev (dVar 10)))) (sRet (dC (.bl false))) (sNext)))
def m__law_right : DS := sSeq (sPar2 1 2 (dmV (dCall 56 2 0 [.p 0, .p 1] [] (daCons (dVar 0) (daCons (dC (.int 6)) (daNil))) (daNil))) (dmV (dCall 51 2 0 [.p 0, .p 1] [] (daCons (dVar 0) (daCons (dC (.int 8)) (daNil))) (daNil)))) (sSeq (sPar2 3 4 (dmV (dCall 37 2 0 [.p 0, .p 1] [] (daCons (dTup (daCons (dVar 1) (daCons (dVar 2) (daNil)))) (daCons (dC (.str ("yes" : Str))) (daNil))) (daNil))) (dmV (dCall 37 2 0 [.p 0, .p 1] [] (daCons (dTup (daCons (dVar 1) (daCons (dVar 2) (daNil)))) (daCons (dC (.str ("no" : Str))) (daNil))) (daNil)))) (sSeq (sIf (dtOr (dtB (dOp2 dNotIn (dOpN cRepr (daCons (dLst (daCons (dVar 3) (daCons (dVar 4) (daNil)))) (daNil))) (dTup (daCons (dC (.str ("[True, True]" : Str))) (daCons (dC (.str ("[False, False]" : Str))) (daNil)))))) (dtAnd (dTruE (dCall 48 2 0 [.p 0, .p 1] [] (daCons (dVar 1) (daCons (dVar 2) (daNil))) (daNil))) (dtNot (dTruE (dVar 3))))) (sRet (dC (.bl false))) (sNext)) (sSeq (sSet 5 (dLst (daCons (dCall 38 2 0 [.p 0, .p 1] [] (daCons (dVar 1) (daCons (dC (.str ("yes" : Str))) (daNil))) (daNil)) (daCons (dCall 38 2 0 [.p 0, .p 1] [] (daCons (dVar 1) (daCons (dC (.str ("no" : Str))) (daNil))) (daNil)) (daCons (dCall 49 1 0 [.p 0] [] (daCons (dVar 1) (daNil)) (daNil)) (daNil)))))) (sSeq (sIf (dtOr (dtB (dOp2 dNe (dOp2 dIx (dVar 5) (dC (.int 0))) (dOp2 dIx (dVar 5) (dC (.int 1))))) (dtAnd (dtB (dOp2 dIsNot (dOp2 dIx (dVar 5) (dC (.int 2))) (dC .non))) (dtOr (dtB (dOp2 dIs (dOp2 dIx (dVar 5) (dC (.int 0))) (dC .non))) (dtB (dOp2 dGt (dOp2 dIx (dVar 5) (dC (.int 0))) (dOp2 dIx (dVar 5) (dC (.int 2)))))))) (sRet (dC (.bl false))) (sNext)) (sSeq (sIf (dtAnd (dtB (dOp2 dEq (dOpN cLen (daCons (dVar 1) (daNil))) (dC (.int 1)))) (dtOr (dtB (dOp2 dNe (dVar 3) (dCall 48 2 0 [.p 0, .p 1] [] (daCons (dVar 1) (daCons (dVar 2) (daNil))) (daNil)))) (dtB (dOp2 dNe (dOp2 dIx (dVar 5) (dC (.int 0))) (dOp2 dIx (dVar 5) (dC (.int 2))))))) (sRet (dC (.bl false))) (sNext)) (sSeq (sSet 6 (dCall 52 2 0 [.p 0, .p 1] [] (daCons (dVar 0) (daCons (dCall 53 1 0 [.p 0] [] (daCons (dVar 1) (daNil)) (daNil)) (daNil))) (daNil))) (sSeq (sPar2 7 8 (dmV (dCall 23 2 0 [.p 0, .p 1] [] (daCons (dVar 1) (daCons (dVar 6) (daNil))) (daNil))) (dmV (dCall 22 2 0 [.p 0, .p 1] [] (daCons (dVar 1) (daCons (dVar 6) (daNil))) (daNil)))) (sSeq (sFor (.name 9) (dItems (dTup (daCons (dC (.str ("yes" : Str))) (daCons (dC (.str ("no" : Str))) (daNil))))) b__law_right_0) (sSeq (sSet 11 (dCall 51 2 0 [.p 0, .p 1] [] (daCons (dVar 0) (daCons (dOpN cLen (daCons (dVar 1) (daNil))) (daNil))) (daNil))) (sSeq (sIf (dtAnd (dtB (dOp2 dGt (dOp2 dIx (dVar 1) (dVar 11)) (dC (.int 0)))) (dTruE (dVar 3))) (sSeq (sSet 12 (dOp2 dAdd (dOp2 dAdd (dSlice (dVar 1) (dNoPart) (dPart (dVar 11))) (dTup (daCons (dOp2 dSub (dOp2 dIx (dVar 1) (dVar 11)) (dC (.int 1))) (daNil)))) (dSlice (dVar 1) (dPart (dOp2 dAdd (dVar 11) (dC (.int 1)))) (dNoPart)))) (sSeq (sIf (dtB (dOp2 dIsNot (dCall 37 2 0 [.p 0, .p 1] [] (daCons (dTup (daCons (dVar 12) (daCons (dVar 2) (daNil)))) (daCons (dC (.str ("yes" : Str))) (daNil))) (daNil)) (dC (.bl true)))) (sRet (dC (.bl false))) (sNext)) (sIf (dtB (dOp2 dLt (dOp2 dAdd (dVar 11) (dC (.int 1))) (dOpN cLen (daCons (dVar 1) (daNil))))) (sSeq (sSet 13 (dOp2 dAdd (dOp2 dAdd (dSlice (dVar 12) (dNoPart) (dPart (dOp2 dAdd (dVar 11) (dC (.int 1))))) (dTup (daCons (dOp2 dAdd (dOp2 dIx (dVar 12) (dOp2 dAdd (dVar 11) (dC (.int 1)))) (dC (.int 1))) (daNil)))) (dSlice (dVar 12) (dPart (dOp2 dAdd (dVar 11) (dC (.int 2)))) (dNoPart)))) (sRet (dAnd (dOp2 dIs (dCall 37 2 0 [.p 0, .p 1] [] (daCons (dTup (daCons (dVar 13) (daCons (dVar 2) (daNil)))) (daCons (dC (.str ("yes" : Str))) (daNil))) (daNil)) (dC (.bl true))) (dOp2 dIs (dCall 37 2 0 [.p 0, .p 1] [] (daCons (dTup (daCons (dVar 13) (daCons (dOpN cMinL (daCons (dC (.int 12)) (daCons (dOp2 dAdd (dVar 2) (dC (.int 1))) (daNil)))) (daNil)))) (daCons (dC (.str ("no" : Str))) (daNil))) (daNil)) (dC (.bl true)))))) (sNext)))) (sNext)) (sRet (dC (.bl true)))))))))))))
def N__law_right : List Str := ["pot", "counts", "left", "near", "far", "some", "question", "whole", "turned", "word", "half", "at", "less", "late", "full", "one", "other"]
def d__law_right : FD := ⟨"_law_right", "_law_right", st__law_right, ["pot"], N__law_right, m__law_right, none, "_law_right"⟩
/-- law(script, k) -/
def m_law : DS := sRet (dOpN cAll (daCons (asVal (dComp [1] (.name 1) (dRng1 (daCons (dOpN cMaxL (daCons (dC (.int 1)) (daCons (dOpN cMinL (daCons (dC (.int 2)) (daCons (dOpN cLen (daCons (dVar 0) (daNil))) (daNil)))) (daNil)))) (daNil))) (dtYes) (dCall 57 1 0 [.p 0] [] (daCons (dCall 50 2 0 [.p 0, .p 1] [] (daCons (dVar 0) (daCons (dVar 1) (daNil))) (daNil)) (daNil)) (daNil)))) (daNil)))
def N_law : List Str := ["script", "k"]
def d_law : FD := ⟨"law", "law", st_law, ["script"], N_law, m_law, none, "law"⟩
def tb : List FD := [d__wall, d_is_integer, d_is_count, d_is_below, d_is_row, d_want_at_most, d_are_counts_of, d_is_left, d_is_standing_of, d_lies_of, d_together, d_is_settled_of, d_want_counts, d_want_left, d_want_standing, d_is_question_of, d_questions_of, d_rest_of, d_behind_yes, d_behind_no, d_both_behind, d_want_question, d_rest, d_both, d_ways_of, d_weight_of, d_is_heavy_of, d_power_of_two, d_half_both, d_Halves___init__, d_Halves_is_found, d_Halves_question, d_least_half, d_want_word, d_want_small, d_want_half, d_half_behind, d_is_half_found, d_least_half_left, d_Finder___init__, d_Finder_is_found, d_Finder_is_good, d_Finder_first_good, d_Finder_all_good, d_is_found_of, d_least_of, d_want_few, d_want_searched, d_is_found, d_least, d__law_pot, d__law_draw, d__law_pick, d__law_questions, d__law_half, d__law_finds, d__law_counts, d__law_right, d_law]
def T : Pg := ⟨tb, ["isinstance", "int", "bool", "tuple", "len", "all", "sum", "zip", "range", "enumerate", "str", "abs", "max", "divmod", "repr", "min"], [("MOST_LIES", .int 3), ("MOST_TOGETHER", .int 40), ("MOST_LEFT_counts", .int 16), ("YES", .str ("yes" : Str)), ("MOST_LEFT_halflies", .int 12), ("NO", .str ("no" : Str)), ("MOST_THINGS_halflies", .int 10), ("MOST_LEFT_finding", .int 12), ("MOST_THINGS_finding", .int 10)], [(0, "Finder"), (1, "Halves")], [(0, "own_known"), (1, "own_word"), (1, "own_found"), (1, "own_not")]⟩
theorem mb_Halves___init__ : MBind d_Halves___init__ := fun kV doc pm an cdv ct us hl => match us, hl with | [_, _], _ => rfl
theorem mb_Halves_is_found : MBind d_Halves_is_found := fun kV doc pm an cdv ct us hl => match us, hl with | [_, _, _], _ => rfl
theorem mb_Halves_question : MBind d_Halves_question := fun kV doc pm an cdv ct us hl => match us, hl with | [_, _, _], _ => rfl
theorem mb_Finder___init__ : MBind d_Finder___init__ := fun kV doc pm an cdv ct us hl => match us, hl with | [_], _ => rfl
theorem mb_Finder_is_found : MBind d_Finder_is_found := fun kV doc pm an cdv ct us hl => match us, hl with | [_, _, _], _ => rfl
theorem mb_Finder_is_good : MBind d_Finder_is_good := fun kV doc pm an cdv ct us hl => match us, hl with | [_, _, _, _], _ => rfl
theorem mb_Finder_first_good : MBind d_Finder_first_good := fun kV doc pm an cdv ct us hl => match us, hl with | [_, _, _], _ => rfl
section
variable {X : Cx} {G : Gx} {k : Nat}
theorem cl__law_counts_2 (O : XOk X G T k) : CallOk X G "_law_counts" 56 2 [] [.p 0, .p 1] [] := O.call 56 (d := d__law_counts) rfl 2 [] [.p 0, .p 1] rfl fun kV doc pm an cdv ct us ws zs l1 l2 ar => match us, ws, l1, l2, ar with | [_, _], [], _, _, rfl => rfl
theorem cl__law_draw_2 (O : XOk X G T k) : CallOk X G "_law_draw" 51 2 [] [.p 0, .p 1] [] := O.call 51 (d := d__law_draw) rfl 2 [] [.p 0, .p 1] rfl fun kV doc pm an cdv ct us ws zs l1 l2 ar => match us, ws, l1, l2, ar with | [_, _], [], _, _, rfl => rfl
theorem cl__law_finds_4 (O : XOk X G T k) : CallOk X G "_law_finds" 55 4 [] [.p 0, .p 1, .p 2, .p 3] [] := O.call 55 (d := d__law_finds) rfl 4 [] [.p 0, .p 1, .p 2, .p 3] rfl fun kV doc pm an cdv ct us ws zs l1 l2 ar => match us, ws, l1, l2, ar with | [_, _, _, _], [], _, _, rfl => rfl
theorem cl__law_half_3 (O : XOk X G T k) : CallOk X G "_law_half" 54 3 [] [.p 0, .p 1, .p 2] [] := O.call 54 (d := d__law_half) rfl 3 [] [.p 0, .p 1, .p 2] rfl fun kV doc pm an cdv ct us ws zs l1 l2 ar => match us, ws, l1, l2, ar with | [_, _, _], [], _, _, rfl => rfl
theorem cl__law_pick_2 (O : XOk X G T k) : CallOk X G "_law_pick" 52 2 [] [.p 0, .p 1] [] := O.call 52 (d := d__law_pick) rfl 2 [] [.p 0, .p 1] rfl fun kV doc pm an cdv ct us ws zs l1 l2 ar => match us, ws, l1, l2, ar with | [_, _], [], _, _, rfl => rfl
theorem cl__law_pot_2 (O : XOk X G T k) : CallOk X G "_law_pot" 50 2 [] [.p 0, .p 1] [] := O.call 50 (d := d__law_pot) rfl 2 [] [.p 0, .p 1] rfl fun kV doc pm an cdv ct us ws zs l1 l2 ar => match us, ws, l1, l2, ar with | [_, _], [], _, _, rfl => rfl
theorem cl__law_questions_1 (O : XOk X G T k) : CallOk X G "_law_questions" 53 1 [] [.p 0] [] := O.call 53 (d := d__law_questions) rfl 1 [] [.p 0] rfl fun kV doc pm an cdv ct us ws zs l1 l2 ar => match us, ws, l1, l2, ar with | [_], [], _, _, rfl => rfl
theorem cl__law_right_1 (O : XOk X G T k) : CallOk X G "_law_right" 57 1 [] [.p 0] [] := O.call 57 (d := d__law_right) rfl 1 [] [.p 0] rfl fun kV doc pm an cdv ct us ws zs l1 l2 ar => match us, ws, l1, l2, ar with | [_], [], _, _, rfl => rfl
theorem cl_are_counts_of_1 (O : XOk X G T k) : CallOk X G "are_counts_of" 6 1 [] [.p 0] [] := O.call 6 (d := d_are_counts_of) rfl 1 [] [.p 0] rfl fun kV doc pm an cdv ct us ws zs l1 l2 ar => match us, ws, l1, l2, ar with | [_], [], _, _, rfl => rfl
theorem cl_behind_no_2 (O : XOk X G T k) : CallOk X G "behind_no" 19 2 [] [.p 0, .p 1] [] := O.call 19 (d := d_behind_no) rfl 2 [] [.p 0, .p 1] rfl fun kV doc pm an cdv ct us ws zs l1 l2 ar => match us, ws, l1, l2, ar with | [_, _], [], _, _, rfl => rfl
theorem cl_behind_yes_2 (O : XOk X G T k) : CallOk X G "behind_yes" 18 2 [] [.p 0, .p 1] [] := O.call 18 (d := d_behind_yes) rfl 2 [] [.p 0, .p 1] rfl fun kV doc pm an cdv ct us ws zs l1 l2 ar => match us, ws, l1, l2, ar with | [_, _], [], _, _, rfl => rfl
theorem cl_both_2 (O : XOk X G T k) : CallOk X G "both" 23 2 [] [.p 0, .p 1] [] := O.call 23 (d := d_both) rfl 2 [] [.p 0, .p 1] rfl fun kV doc pm an cdv ct us ws zs l1 l2 ar => match us, ws, l1, l2, ar with | [_, _], [], _, _, rfl => rfl
theorem cl_both_behind_2 (O : XOk X G T k) : CallOk X G "both_behind" 20 2 [] [.p 0, .p 1] [] := O.call 20 (d := d_both_behind) rfl 2 [] [.p 0, .p 1] rfl fun kV doc pm an cdv ct us ws zs l1 l2 ar => match us, ws, l1, l2, ar with | [_, _], [], _, _, rfl => rfl
theorem cl_half_behind_3 (O : XOk X G T k) : CallOk X G "half_behind" 36 3 [] [.p 0, .p 1, .p 2] [] := O.call 36 (d := d_half_behind) rfl 3 [] [.p 0, .p 1, .p 2] rfl fun kV doc pm an cdv ct us ws zs l1 l2 ar => match us, ws, l1, l2, ar with | [_, _, _], [], _, _, rfl => rfl
theorem cl_half_both_3 (O : XOk X G T k) : CallOk X G "half_both" 28 3 [] [.p 0, .p 1, .p 2] [] := O.call 28 (d := d_half_both) rfl 3 [] [.p 0, .p 1, .p 2] rfl fun kV doc pm an cdv ct us ws zs l1 l2 ar => match us, ws, l1, l2, ar with | [_, _, _], [], _, _, rfl => rfl
theorem cl_is_below_2 (O : XOk X G T k) : CallOk X G "is_below" 3 2 [] [.p 0, .p 1] [] := O.call 3 (d := d_is_below) rfl 2 [] [.p 0, .p 1] rfl fun kV doc pm an cdv ct us ws zs l1 l2 ar => match us, ws, l1, l2, ar with | [_, _], [], _, _, rfl => rfl
theorem cl_is_count_1 (O : XOk X G T k) : CallOk X G "is_count" 2 1 [] [.p 0] [] := O.call 2 (d := d_is_count) rfl 1 [] [.p 0] rfl fun kV doc pm an cdv ct us ws zs l1 l2 ar => match us, ws, l1, l2, ar with | [_], [], _, _, rfl => rfl
theorem cl_is_found_2 (O : XOk X G T k) : CallOk X G "is_found" 48 2 [] [.p 0, .p 1] [] := O.call 48 (d := d_is_found) rfl 2 [] [.p 0, .p 1] rfl fun kV doc pm an cdv ct us ws zs l1 l2 ar => match us, ws, l1, l2, ar with | [_, _], [], _, _, rfl => rfl
theorem cl_is_found_of_2 (O : XOk X G T k) : CallOk X G "is_found_of" 44 2 [] [.p 0, .p 1] [] := O.call 44 (d := d_is_found_of) rfl 2 [] [.p 0, .p 1] rfl fun kV doc pm an cdv ct us ws zs l1 l2 ar => match us, ws, l1, l2, ar with | [_, _], [], _, _, rfl => rfl
theorem cl_is_half_found_2 (O : XOk X G T k) : CallOk X G "is_half_found" 37 2 [] [.p 0, .p 1] [] := O.call 37 (d := d_is_half_found) rfl 2 [] [.p 0, .p 1] rfl fun kV doc pm an cdv ct us ws zs l1 l2 ar => match us, ws, l1, l2, ar with | [_, _], [], _, _, rfl => rfl
theorem cl_is_heavy_of_2 (O : XOk X G T k) : CallOk X G "is_heavy_of" 26 2 [] [.p 0, .p 1] [] := O.call 26 (d := d_is_heavy_of) rfl 2 [] [.p 0, .p 1] rfl fun kV doc pm an cdv ct us ws zs l1 l2 ar => match us, ws, l1, l2, ar with | [_, _], [], _, _, rfl => rfl
theorem cl_is_integer_1 (O : XOk X G T k) : CallOk X G "is_integer" 1 1 [] [.p 0] [] := O.call 1 (d := d_is_integer) rfl 1 [] [.p 0] rfl fun kV doc pm an cdv ct us ws zs l1 l2 ar => match us, ws, l1, l2, ar with | [_], [], _, _, rfl => rfl
theorem cl_is_left_1 (O : XOk X G T k) : CallOk X G "is_left" 7 1 [] [.p 0] [] := O.call 7 (d := d_is_left) rfl 1 [] [.p 0] rfl fun kV doc pm an cdv ct us ws zs l1 l2 ar => match us, ws, l1, l2, ar with | [_], [], _, _, rfl => rfl
theorem cl_is_question_of_2 (O : XOk X G T k) : CallOk X G "is_question_of" 15 2 [] [.p 0, .p 1] [] := O.call 15 (d := d_is_question_of) rfl 2 [] [.p 0, .p 1] rfl fun kV doc pm an cdv ct us ws zs l1 l2 ar => match us, ws, l1, l2, ar with | [_, _], [], _, _, rfl => rfl
theorem cl_is_row_2 (O : XOk X G T k) : CallOk X G "is_row" 4 2 [] [.p 0, .p 1] [] := O.call 4 (d := d_is_row) rfl 2 [] [.p 0, .p 1] rfl fun kV doc pm an cdv ct us ws zs l1 l2 ar => match us, ws, l1, l2, ar with | [_, _], [], _, _, rfl => rfl
theorem cl_is_settled_of_1 (O : XOk X G T k) : CallOk X G "is_settled_of" 11 1 [] [.p 0] [] := O.call 11 (d := d_is_settled_of) rfl 1 [] [.p 0] rfl fun kV doc pm an cdv ct us ws zs l1 l2 ar => match us, ws, l1, l2, ar with | [_], [], _, _, rfl => rfl
theorem cl_is_standing_of_1 (O : XOk X G T k) : CallOk X G "is_standing_of" 8 1 [] [.p 0] [] := O.call 8 (d := d_is_standing_of) rfl 1 [] [.p 0] rfl fun kV doc pm an cdv ct us ws zs l1 l2 ar => match us, ws, l1, l2, ar with | [_], [], _, _, rfl => rfl
theorem cl_least_1 (O : XOk X G T k) : CallOk X G "least" 49 1 [] [.p 0] [] := O.call 49 (d := d_least) rfl 1 [] [.p 0] rfl fun kV doc pm an cdv ct us ws zs l1 l2 ar => match us, ws, l1, l2, ar with | [_], [], _, _, rfl => rfl
theorem cl_least_half_2 (O : XOk X G T k) : CallOk X G "least_half" 32 2 [] [.p 0, .p 1] [] := O.call 32 (d := d_least_half) rfl 2 [] [.p 0, .p 1] rfl fun kV doc pm an cdv ct us ws zs l1 l2 ar => match us, ws, l1, l2, ar with | [_, _], [], _, _, rfl => rfl
theorem cl_least_half_left_2 (O : XOk X G T k) : CallOk X G "least_half_left" 38 2 [] [.p 0, .p 1] [] := O.call 38 (d := d_least_half_left) rfl 2 [] [.p 0, .p 1] rfl fun kV doc pm an cdv ct us ws zs l1 l2 ar => match us, ws, l1, l2, ar with | [_, _], [], _, _, rfl => rfl
theorem cl_least_of_1 (O : XOk X G T k) : CallOk X G "least_of" 45 1 [] [.p 0] [] := O.call 45 (d := d_least_of) rfl 1 [] [.p 0] rfl fun kV doc pm an cdv ct us ws zs l1 l2 ar => match us, ws, l1, l2, ar with | [_], [], _, _, rfl => rfl
theorem cl_lies_of_1 (O : XOk X G T k) : CallOk X G "lies_of" 9 1 [] [.p 0] [] := O.call 9 (d := d_lies_of) rfl 1 [] [.p 0] rfl fun kV doc pm an cdv ct us ws zs l1 l2 ar => match us, ws, l1, l2, ar with | [_], [], _, _, rfl => rfl
theorem cl_power_of_two_1 (O : XOk X G T k) : CallOk X G "power_of_two" 27 1 [] [.p 0] [] := O.call 27 (d := d_power_of_two) rfl 1 [] [.p 0] rfl fun kV doc pm an cdv ct us ws zs l1 l2 ar => match us, ws, l1, l2, ar with | [_], [], _, _, rfl => rfl
theorem cl_questions_of_1 (O : XOk X G T k) : CallOk X G "questions_of" 16 1 [] [.p 0] [] := O.call 16 (d := d_questions_of) rfl 1 [] [.p 0] rfl fun kV doc pm an cdv ct us ws zs l1 l2 ar => match us, ws, l1, l2, ar with | [_], [], _, _, rfl => rfl
theorem cl_rest_2 (O : XOk X G T k) : CallOk X G "rest" 22 2 [] [.p 0, .p 1] [] := O.call 22 (d := d_rest) rfl 2 [] [.p 0, .p 1] rfl fun kV doc pm an cdv ct us ws zs l1 l2 ar => match us, ws, l1, l2, ar with | [_, _], [], _, _, rfl => rfl
theorem cl_rest_of_2 (O : XOk X G T k) : CallOk X G "rest_of" 17 2 [] [.p 0, .p 1] [] := O.call 17 (d := d_rest_of) rfl 2 [] [.p 0, .p 1] rfl fun kV doc pm an cdv ct us ws zs l1 l2 ar => match us, ws, l1, l2, ar with | [_, _], [], _, _, rfl => rfl
theorem cl_together_1 (O : XOk X G T k) : CallOk X G "together" 10 1 [] [.p 0] [] := O.call 10 (d := d_together) rfl 1 [] [.p 0] rfl fun kV doc pm an cdv ct us ws zs l1 l2 ar => match us, ws, l1, l2, ar with | [_], [], _, _, rfl => rfl
theorem cl_want_at_most_3 (O : XOk X G T k) : CallOk X G "want_at_most" 5 3 [] [.p 0, .p 1, .p 2] [] := O.call 5 (d := d_want_at_most) rfl 3 [] [.p 0, .p 1, .p 2] rfl fun kV doc pm an cdv ct us ws zs l1 l2 ar => match us, ws, l1, l2, ar with | [_, _, _], [], _, _, rfl => rfl
theorem cl_want_counts_1 (O : XOk X G T k) : CallOk X G "want_counts" 12 1 [] [.p 0] [] := O.call 12 (d := d_want_counts) rfl 1 [] [.p 0] rfl fun kV doc pm an cdv ct us ws zs l1 l2 ar => match us, ws, l1, l2, ar with | [_], [], _, _, rfl => rfl
theorem cl_want_few_2 (O : XOk X G T k) : CallOk X G "want_few" 46 2 [] [.p 0, .p 1] [] := O.call 46 (d := d_want_few) rfl 2 [] [.p 0, .p 1] rfl fun kV doc pm an cdv ct us ws zs l1 l2 ar => match us, ws, l1, l2, ar with | [_, _], [], _, _, rfl => rfl
theorem cl_want_half_2 (O : XOk X G T k) : CallOk X G "want_half" 35 2 [] [.p 0, .p 1] [] := O.call 35 (d := d_want_half) rfl 2 [] [.p 0, .p 1] rfl fun kV doc pm an cdv ct us ws zs l1 l2 ar => match us, ws, l1, l2, ar with | [_, _], [], _, _, rfl => rfl
theorem cl_want_left_1 (O : XOk X G T k) : CallOk X G "want_left" 13 1 [] [.p 0] [] := O.call 13 (d := d_want_left) rfl 1 [] [.p 0] rfl fun kV doc pm an cdv ct us ws zs l1 l2 ar => match us, ws, l1, l2, ar with | [_], [], _, _, rfl => rfl
theorem cl_want_question_2 (O : XOk X G T k) : CallOk X G "want_question" 21 2 [] [.p 0, .p 1] [] := O.call 21 (d := d_want_question) rfl 2 [] [.p 0, .p 1] rfl fun kV doc pm an cdv ct us ws zs l1 l2 ar => match us, ws, l1, l2, ar with | [_, _], [], _, _, rfl => rfl
theorem cl_want_searched_2 (O : XOk X G T k) : CallOk X G "want_searched" 47 2 [] [.p 0, .p 1] [] := O.call 47 (d := d_want_searched) rfl 2 [] [.p 0, .p 1] rfl fun kV doc pm an cdv ct us ws zs l1 l2 ar => match us, ws, l1, l2, ar with | [_, _], [], _, _, rfl => rfl
theorem cl_want_small_2 (O : XOk X G T k) : CallOk X G "want_small" 34 2 [] [.p 0, .p 1] [] := O.call 34 (d := d_want_small) rfl 2 [] [.p 0, .p 1] rfl fun kV doc pm an cdv ct us ws zs l1 l2 ar => match us, ws, l1, l2, ar with | [_, _], [], _, _, rfl => rfl
theorem cl_want_standing_1 (O : XOk X G T k) : CallOk X G "want_standing" 14 1 [] [.p 0] [] := O.call 14 (d := d_want_standing) rfl 1 [] [.p 0] rfl fun kV doc pm an cdv ct us ws zs l1 l2 ar => match us, ws, l1, l2, ar with | [_], [], _, _, rfl => rfl
theorem cl_want_word_1 (O : XOk X G T k) : CallOk X G "want_word" 33 1 [] [.p 0] [] := O.call 33 (d := d_want_word) rfl 1 [] [.p 0] rfl fun kV doc pm an cdv ct us ws zs l1 l2 ar => match us, ws, l1, l2, ar with | [_], [], _, _, rfl => rfl
theorem cl_ways_of_2 (O : XOk X G T k) : CallOk X G "ways_of" 24 2 [] [.p 0, .p 1] [] := O.call 24 (d := d_ways_of) rfl 2 [] [.p 0, .p 1] rfl fun kV doc pm an cdv ct us ws zs l1 l2 ar => match us, ws, l1, l2, ar with | [_, _], [], _, _, rfl => rfl
theorem cl_weight_of_2 (O : XOk X G T k) : CallOk X G "weight_of" 25 2 [] [.p 0, .p 1] [] := O.call 25 (d := d_weight_of) rfl 2 [] [.p 0, .p 1] rfl fun kV doc pm an cdv ct us ws zs l1 l2 ar => match us, ws, l1, l2, ar with | [_, _], [], _, _, rfl => rfl
end
theorem ok__wall : BodyOk T d__wall := by
  refine ⟨⟨rfl, rfl, rfl, by decide +kernel, rfl, by decide +kernel, by decide +kernel⟩, fun X G g0 H0 k O0 S0 => ?_⟩
  exact ss_one (badS_)
theorem ok_is_integer : BodyOk T d_is_integer := by
  refine ⟨⟨rfl, rfl, rfl, by decide +kernel, rfl, by decide +kernel, by decide +kernel⟩, fun X G g0 H0 k O0 S0 => ?_⟩
  have v0_0 := S0.var 0 ("value" : Str) (by decide +kernel)
  have b0_isinstance := O0.blt S0 ("isinstance" : Str) _ PyProof.Rows.boot_isinstance (by decide +kernel)
  have b0_int := O0.blt S0 ("int" : Str) (.type "int") PyProof.Rows.boot_int (by decide +kernel)
  have b0_bool := O0.blt S0 ("bool" : Str) (.type "bool") PyProof.Rows.boot_bool (by decide +kernel)
  exact ss_one (s_ret (s_andV (isi_ b0_isinstance (v_ v0_0) (BltOk.ty (t := .int) b0_int) rfl) (s_oneV (s_notV (isi_ b0_isinstance (v_ v0_0) (BltOk.ty (t := .bl) b0_bool) rfl)))))
theorem ok_is_count : BodyOk T d_is_count := by
  refine ⟨⟨rfl, rfl, rfl, by decide +kernel, rfl, by decide +kernel, by decide +kernel⟩, fun X G g0 H0 k O0 S0 => ?_⟩
  have v0_0 := S0.var 0 ("value" : Str) (by decide +kernel)
  have g0_is_integer := S0.glo ("is_integer" : Str) (by decide +kernel)
  exact ss_one (s_ret (s_andV (call_ O0 g0_is_integer (cl_is_integer_1 O0) (s_paCons (v_ v0_0) (s_paNil) rfl) (s_pkNil) rfl rfl (fun z => nomatch z)) (s_oneV (s_cmp o_ge (v_ v0_0) (s_int) rfl))))
theorem ok_is_below : BodyOk T d_is_below := by
  refine ⟨⟨rfl, rfl, rfl, by decide +kernel, rfl, by decide +kernel, by decide +kernel⟩, fun X G g0 H0 k O0 S0 => ?_⟩
  have v0_0 := S0.var 0 ("value" : Str) (by decide +kernel)
  have g0_is_count := S0.glo ("is_count" : Str) (by decide +kernel)
  have v0_1 := S0.var 1 ("many" : Str) (by decide +kernel)
  exact ss_one (s_ret (s_andV (call_ O0 g0_is_count (cl_is_count_1 O0) (s_paCons (v_ v0_0) (s_paNil) rfl) (s_pkNil) rfl rfl (fun z => nomatch z)) (s_oneV (s_cmp o_lt (v_ v0_0) (v_ v0_1) rfl))))
theorem ok_is_row : BodyOk T d_is_row := by
  refine ⟨⟨rfl, rfl, rfl, by decide +kernel, rfl, by decide +kernel, by decide +kernel⟩, fun X G g0 H0 k O0 S0 => ?_⟩
  have v0_0 := S0.var 0 ("value" : Str) (by decide +kernel)
  have b0_isinstance := O0.blt S0 ("isinstance" : Str) _ PyProof.Rows.boot_isinstance (by decide +kernel)
  have b0_tuple := O0.blt S0 ("tuple" : Str) (.type "tuple") PyProof.Rows.boot_tuple (by decide +kernel)
  have b0_len := O0.blt S0 ("len" : Str) _ PySem.boot_len (by decide +kernel)
  have v0_1 := S0.var 1 ("many" : Str) (by decide +kernel)
  exact ss_one (s_ret (s_andV (isi_ b0_isinstance (v_ v0_0) (BltOk.ty (t := .tup) b0_tuple) rfl) (s_oneV (s_cmp (o_eq O0.un) (bl_ b0_len c_len (s_paCons (v_ v0_0) (s_paNil) rfl) rfl) (v_ v0_1) rfl))))
theorem ok_want_at_most : BodyOk T d_want_at_most := by
  refine ⟨⟨rfl, rfl, rfl, by decide +kernel, rfl, by decide +kernel, by decide +kernel⟩, fun X G g0 H0 k O0 S0 => ?_⟩
  have v0_2 := S0.var 2 ("number" : Str) (by decide +kernel)
  have v0_1 := S0.var 1 ("limit" : Str) (by decide +kernel)
  exact ss_one (s_ifS (cmpT_ o_gt (v_ v0_2) (v_ v0_1) rfl) (ss_one (badS_)) (ss_nil))
theorem ok_are_counts_of : BodyOk T d_are_counts_of := by
  refine ⟨⟨rfl, rfl, rfl, by decide +kernel, rfl, by decide +kernel, by decide +kernel⟩, fun X G g0 H0 k O0 S0 => ?_⟩
  have v0_0 := S0.var 0 ("value" : Str) (by decide +kernel)
  have b0_isinstance := O0.blt S0 ("isinstance" : Str) _ PyProof.Rows.boot_isinstance (by decide +kernel)
  have b0_tuple := O0.blt S0 ("tuple" : Str) (.type "tuple") PyProof.Rows.boot_tuple (by decide +kernel)
  have b0_len := O0.blt S0 ("len" : Str) _ PySem.boot_len (by decide +kernel)
  have g0_MOST_LIES := S0.glo ("MOST_LIES" : Str) (by decide +kernel)
  have b0_all := O0.blt S0 ("all" : Str) _ PyProof.Rows.boot_all (by decide +kernel)
  have b0_sum := O0.blt S0 ("sum" : Str) _ PyProof.Rows.boot_sum (by decide +kernel)
  have g0_MOST_TOGETHER := S0.glo ("MOST_TOGETHER" : Str) (by decide +kernel)
  exact ss_cons (s_ifS ((s_or (s_notT (s_truth (isi_ b0_isinstance (v_ v0_0) (BltOk.ty (t := .tup) b0_tuple) rfl) (fun _ => rfl))) (s_or1 (s_notT (chainT_ o_le o_le (s_int) (bl_ b0_len c_len (s_paCons (v_ v0_0) (s_paNil) rfl) rfl) (s_bin o_add (O0.val g0_MOST_LIES (.head _)) (s_int)) rfl)))).pt) (ss_one (s_ret (s_bl))) (ss_nil)) (ss_one (s_ret (s_andV (bl_ b0_all (c_all O0.calm) (s_paCons (PE.val (comp_ O0 S0 [(("number" : Str), 1)] (s_items (v_ v0_0)) ⟨rfl, by decide +kernel, by decide +kernel, by decide +kernel, by decide +kernel⟩ (by decide) (fun X1 O1 S1 => by have t1_1 := S1.tgt 1 ("number" : Str) (by decide +kernel); exact g_ t1_1) (fun X1 O1 S1 => by exact pts0_) (fun X1 O1 S1 => by have v1_1 := S1.var 1 ("number" : Str) (by decide +kernel); have g1_is_count := S1.glo ("is_count" : Str) (by decide +kernel); exact call_ O1 g1_is_count (cl_is_count_1 O1) (s_paCons (v_ v1_1) (s_paNil) rfl) (s_pkNil) rfl rfl (fun z => nomatch z)) (fun _ => rfl))) (s_paNil) rfl) rfl) (s_oneV (s_cmp o_le (bl_ b0_sum (c_sum O0.calm) (s_paCons (v_ v0_0) (s_paNil) rfl) rfl) (O0.val g0_MOST_TOGETHER (.tail _ (.head _))) rfl)))))
theorem ok_is_left : BodyOk T d_is_left := by
  refine ⟨⟨rfl, rfl, rfl, by decide +kernel, rfl, by decide +kernel, by decide +kernel⟩, fun X G g0 H0 k O0 S0 => ?_⟩
  have g0_MOST_LEFT_counts := S0.glo ("MOST_LEFT_counts" : Str) (by decide +kernel)
  have v0_0 := S0.var 0 ("value" : Str) (by decide +kernel)
  have g0_is_below := S0.glo ("is_below" : Str) (by decide +kernel)
  exact ss_one (s_ret (call_ O0 g0_is_below (cl_is_below_2 O0) (s_paCons (v_ v0_0) (s_paCons (s_bin o_add (O0.val g0_MOST_LEFT_counts (.tail _ (.tail _ (.head _)))) (s_int)) (s_paNil) rfl) rfl) (s_pkNil) rfl rfl (fun z => nomatch z)))
theorem ok_is_standing_of : BodyOk T d_is_standing_of := by
  refine ⟨⟨rfl, rfl, rfl, by decide +kernel, rfl, by decide +kernel, by decide +kernel⟩, fun X G g0 H0 k O0 S0 => ?_⟩
  have v0_0 := S0.var 0 ("value" : Str) (by decide +kernel)
  have g0_is_row := S0.glo ("is_row" : Str) (by decide +kernel)
  have g0_are_counts_of := S0.glo ("are_counts_of" : Str) (by decide +kernel)
  have g0_is_left := S0.glo ("is_left" : Str) (by decide +kernel)
  exact ss_one (s_ret (s_andV (call_ O0 g0_is_row (cl_is_row_2 O0) (s_paCons (v_ v0_0) (s_paCons (s_int) (s_paNil) rfl) rfl) (s_pkNil) rfl rfl (fun z => nomatch z)) (s_andV (call_ O0 g0_are_counts_of (cl_are_counts_of_1 O0) (s_paCons (s_ix (v_ v0_0) (s_int) rfl) (s_paNil) rfl) (s_pkNil) rfl rfl (fun z => nomatch z)) (s_oneV (call_ O0 g0_is_left (cl_is_left_1 O0) (s_paCons (s_ix (v_ v0_0) (s_int) rfl) (s_paNil) rfl) (s_pkNil) rfl rfl (fun z => nomatch z))))))
theorem ok_lies_of : BodyOk T d_lies_of := by
  refine ⟨⟨rfl, rfl, rfl, by decide +kernel, rfl, by decide +kernel, by decide +kernel⟩, fun X G g0 H0 k O0 S0 => ?_⟩
  have v0_0 := S0.var 0 ("counts" : Str) (by decide +kernel)
  have b0_len := O0.blt S0 ("len" : Str) _ PySem.boot_len (by decide +kernel)
  exact ss_one (s_ret (s_bin o_sub (bl_ b0_len c_len (s_paCons (v_ v0_0) (s_paNil) rfl) rfl) (s_int)))
theorem ok_together : BodyOk T d_together := by
  refine ⟨⟨rfl, rfl, rfl, by decide +kernel, rfl, by decide +kernel, by decide +kernel⟩, fun X G g0 H0 k O0 S0 => ?_⟩
  have v0_0 := S0.var 0 ("counts" : Str) (by decide +kernel)
  have b0_sum := O0.blt S0 ("sum" : Str) _ PyProof.Rows.boot_sum (by decide +kernel)
  exact ss_one (s_ret (bl_ b0_sum (c_sum O0.calm) (s_paCons (v_ v0_0) (s_paNil) rfl) rfl))
theorem ok_is_settled_of : BodyOk T d_is_settled_of := by
  refine ⟨⟨rfl, rfl, rfl, by decide +kernel, rfl, by decide +kernel, by decide +kernel⟩, fun X G g0 H0 k O0 S0 => ?_⟩
  have v0_0 := S0.var 0 ("counts" : Str) (by decide +kernel)
  have b0_sum := O0.blt S0 ("sum" : Str) _ PyProof.Rows.boot_sum (by decide +kernel)
  exact ss_one (s_ret (s_cmp o_le (bl_ b0_sum (c_sum O0.calm) (s_paCons (v_ v0_0) (s_paNil) rfl) rfl) (s_int) rfl))
theorem ok_want_counts : BodyOk T d_want_counts := by
  refine ⟨⟨rfl, rfl, rfl, by decide +kernel, rfl, by decide +kernel, by decide +kernel⟩, fun X G g0 H0 k O0 S0 => ?_⟩
  have v0_0 := S0.var 0 ("value" : Str) (by decide +kernel)
  have g0_are_counts_of := S0.glo ("are_counts_of" : Str) (by decide +kernel)
  exact ss_cons (s_ifS (s_notT (s_truth (call_ O0 g0_are_counts_of (cl_are_counts_of_1 O0) (s_paCons (v_ v0_0) (s_paNil) rfl) (s_pkNil) rfl rfl (fun z => nomatch z)) (fun _ => rfl))) (ss_one (badS_)) (ss_nil)) (ss_one (s_ret (v_ v0_0)))
theorem ok_want_left : BodyOk T d_want_left := by
  refine ⟨⟨rfl, rfl, rfl, by decide +kernel, rfl, by decide +kernel, by decide +kernel⟩, fun X G g0 H0 k O0 S0 => ?_⟩
  have v0_0 := S0.var 0 ("value" : Str) (by decide +kernel)
  have g0_is_left := S0.glo ("is_left" : Str) (by decide +kernel)
  exact ss_cons (s_ifS (s_notT (s_truth (call_ O0 g0_is_left (cl_is_left_1 O0) (s_paCons (v_ v0_0) (s_paNil) rfl) (s_pkNil) rfl rfl (fun z => nomatch z)) (fun _ => rfl))) (ss_one (badS_)) (ss_nil)) (ss_one (s_ret (v_ v0_0)))
theorem ok_want_standing : BodyOk T d_want_standing := by
  refine ⟨⟨rfl, rfl, rfl, by decide +kernel, rfl, by decide +kernel, by decide +kernel⟩, fun X G g0 H0 k O0 S0 => ?_⟩
  have v0_0 := S0.var 0 ("value" : Str) (by decide +kernel)
  have g0_is_standing_of := S0.glo ("is_standing_of" : Str) (by decide +kernel)
  exact ss_cons (s_ifS (s_notT (s_truth (call_ O0 g0_is_standing_of (cl_is_standing_of_1 O0) (s_paCons (v_ v0_0) (s_paNil) rfl) (s_pkNil) rfl rfl (fun z => nomatch z)) (fun _ => rfl))) (ss_one (badS_)) (ss_nil)) (ss_one (s_ret (v_ v0_0)))
theorem ok_is_question_of : BodyOk T d_is_question_of := by
  refine ⟨⟨rfl, rfl, rfl, by decide +kernel, rfl, by decide +kernel, by decide +kernel⟩, fun X G g0 H0 k O0 S0 => ?_⟩
  have v0_0 := S0.var 0 ("counts" : Str) (by decide +kernel)
  have b0_len := O0.blt S0 ("len" : Str) _ PySem.boot_len (by decide +kernel)
  have v0_1 := S0.var 1 ("value" : Str) (by decide +kernel)
  have g0_is_row := S0.glo ("is_row" : Str) (by decide +kernel)
  have b0_zip := O0.blt S0 ("zip" : Str) _ PyProof.Rows.boot_zip (by decide +kernel)
  have b0_all := O0.blt S0 ("all" : Str) _ PyProof.Rows.boot_all (by decide +kernel)
  exact ss_cons (s_ifS (s_notT (s_truth (call_ O0 g0_is_row (cl_is_row_2 O0) (s_paCons (v_ v0_1) (s_paCons (bl_ b0_len c_len (s_paCons (v_ v0_0) (s_paNil) rfl) rfl) (s_paNil) rfl) rfl) (s_pkNil) rfl rfl (fun z => nomatch z)) (fun _ => rfl))) (ss_one (s_ret (s_bl))) (ss_nil)) (ss_one (s_ret (bl_ b0_all (c_all O0.calm) (s_paCons (PE.val (comp_ O0 S0 [(("asked" : Str), 2), (("number" : Str), 3)] (zipX_ b0_zip (s_paCons (v_ v0_1) (s_paCons (v_ v0_0) (s_paNil) rfl) rfl) rfl rfl) ⟨rfl, by decide +kernel, by decide +kernel, by decide +kernel, by decide +kernel⟩ (by decide) (fun X1 O1 S1 => by have t1_2 := S1.tgt 2 ("asked" : Str) (by decide +kernel); have t1_3 := S1.tgt 3 ("number" : Str) (by decide +kernel); exact s_gTup O1.calm (s_gsCons (g_ t1_2) (s_gsCons (g_ t1_3) (s_gsNil) rfl) rfl) rfl rfl) (fun X1 O1 S1 => by exact pts0_) (fun X1 O1 S1 => by have v1_3 := S1.var 3 ("number" : Str) (by decide +kernel); have v1_2 := S1.var 2 ("asked" : Str) (by decide +kernel); have g1_is_below := S1.glo ("is_below" : Str) (by decide +kernel); exact call_ O1 g1_is_below (cl_is_below_2 O1) (s_paCons (v_ v1_2) (s_paCons (s_bin o_add (v_ v1_3) (s_int)) (s_paNil) rfl) rfl) (s_pkNil) rfl rfl (fun z => nomatch z)) (fun _ => rfl))) (s_paNil) rfl) rfl)))
theorem ok_questions_of : BodyOk T d_questions_of := by
  refine ⟨⟨rfl, rfl, rfl, by decide +kernel, rfl, by decide +kernel, by decide +kernel⟩, fun X G g0 H0 k O0 S0 => ?_⟩
  have t0_1 := S0.tgt 1 ("found" : Str) (by decide +kernel)
  have v0_0 := S0.var 0 ("counts" : Str) (by decide +kernel)
  have t0_2 := S0.tgt 2 ("number" : Str) (by decide +kernel)
  have t0_3 := S0.tgt 3 ("later" : Str) (by decide +kernel)
  have v0_1 := S0.var 1 ("found" : Str) (by decide +kernel)
  have t0_4 := S0.tgt 4 ("begin" : Str) (by decide +kernel)
  have v0_3 := S0.var 3 ("later" : Str) (by decide +kernel)
  have v0_2 := S0.var 2 ("number" : Str) (by decide +kernel)
  have b0_range := O0.blt S0 ("range" : Str) _ PyProof.Rows.boot_range (by decide +kernel)
  exact ss_cons (set_ t0_1 (s_lst (s_paCons (s_tup (s_paNil)) (s_paNil) rfl)) rfl) (ss_cons (for_ O0 (s_items (v_ v0_0)) (g_ t0_2) (ss_cons (own_ t0_3 (s_disp (s_paNil)) rfl) (ss_cons (for_ O0 (s_items (v_ v0_1)) (g_ t0_4) (ss_one (extend_ v0_3 (PE.val (comp_ O0 S0 [(("asked" : Str), 5)] (range1_ b0_range (s_paCons (s_bin o_add (v_ v0_2) (s_int)) (s_paNil) rfl) rfl) ⟨rfl, by decide +kernel, by decide +kernel, by decide +kernel, by decide +kernel⟩ (by decide) (fun X1 O1 S1 => by have t1_5 := S1.tgt 5 ("asked" : Str) (by decide +kernel); exact g_ t1_5) (fun X1 O1 S1 => by exact pts0_) (fun X1 O1 S1 => by have v1_4 := S1.var 4 ("begin" : Str) (by decide +kernel); have v1_5 := S1.var 5 ("asked" : Str) (by decide +kernel); exact s_bin o_add (v_ v1_4) (s_tup (s_paCons (v_ v1_5) (s_paNil) rfl))) (fun _ => rfl))) rfl rfl)) (fun _ => rfl)) (ss_one (s_frz (set_ t0_1 (v_ v0_3) rfl))))) (fun _ => rfl)) (ss_one (s_ret (v_ v0_1))))
theorem ok_rest_of : BodyOk T d_rest_of := by
  refine ⟨⟨rfl, rfl, rfl, by decide +kernel, rfl, by decide +kernel, by decide +kernel⟩, fun X G g0 H0 k O0 S0 => ?_⟩
  have v0_1 := S0.var 1 ("question" : Str) (by decide +kernel)
  have v0_0 := S0.var 0 ("counts" : Str) (by decide +kernel)
  have b0_zip := O0.blt S0 ("zip" : Str) _ PyProof.Rows.boot_zip (by decide +kernel)
  have b0_tuple := O0.blt S0 ("tuple" : Str) (.type "tuple") PyProof.Rows.boot_tuple (by decide +kernel)
  exact ss_one (s_ret (ty_ b0_tuple c_tuple (s_paCons (PE.val (comp_ O0 S0 [(("number" : Str), 2), (("asked" : Str), 3)] (zipX_ b0_zip (s_paCons (v_ v0_0) (s_paCons (v_ v0_1) (s_paNil) rfl) rfl) rfl rfl) ⟨rfl, by decide +kernel, by decide +kernel, by decide +kernel, by decide +kernel⟩ (by decide) (fun X1 O1 S1 => by have t1_2 := S1.tgt 2 ("number" : Str) (by decide +kernel); have t1_3 := S1.tgt 3 ("asked" : Str) (by decide +kernel); exact s_gTup O1.calm (s_gsCons (g_ t1_2) (s_gsCons (g_ t1_3) (s_gsNil) rfl) rfl) rfl rfl) (fun X1 O1 S1 => by exact pts0_) (fun X1 O1 S1 => by have v1_2 := S1.var 2 ("number" : Str) (by decide +kernel); have v1_3 := S1.var 3 ("asked" : Str) (by decide +kernel); exact s_bin o_sub (v_ v1_2) (v_ v1_3)) (fun _ => rfl))) (s_paNil) rfl) rfl))
theorem ok_behind_yes : BodyOk T d_behind_yes := by
  refine ⟨⟨rfl, rfl, rfl, by decide +kernel, rfl, by decide +kernel, by decide +kernel⟩, fun X G g0 H0 k O0 S0 => ?_⟩
  have t0_2 := S0.tgt 2 ("rest" : Str) (by decide +kernel)
  have v0_1 := S0.var 1 ("question" : Str) (by decide +kernel)
  have v0_0 := S0.var 0 ("counts" : Str) (by decide +kernel)
  have g0_rest_of := S0.glo ("rest_of" : Str) (by decide +kernel)
  have v0_2 := S0.var 2 ("rest" : Str) (by decide +kernel)
  have b0_zip := O0.blt S0 ("zip" : Str) _ PyProof.Rows.boot_zip (by decide +kernel)
  have b0_tuple := O0.blt S0 ("tuple" : Str) (.type "tuple") PyProof.Rows.boot_tuple (by decide +kernel)
  exact ss_cons (set_ t0_2 (call_ O0 g0_rest_of (cl_rest_of_2 O0) (s_paCons (v_ v0_0) (s_paCons (v_ v0_1) (s_paNil) rfl) rfl) (s_pkNil) rfl rfl (fun z => nomatch z)) rfl) (ss_one (s_ret (ty_ b0_tuple c_tuple (s_paCons (PE.val (comp_ O0 S0 [(("asked" : Str), 3), (("wrong" : Str), 4)] (zipX_ b0_zip (s_paCons (v_ v0_1) (s_paCons (s_bin o_add (s_tup (s_paCons (s_int) (s_paNil) rfl)) (s_slice (v_ v0_2) (s_noPart) (s_part (s_un o_neg (s_int))))) (s_paNil) rfl) rfl) rfl rfl) ⟨rfl, by decide +kernel, by decide +kernel, by decide +kernel, by decide +kernel⟩ (by decide) (fun X1 O1 S1 => by have t1_3 := S1.tgt 3 ("asked" : Str) (by decide +kernel); have t1_4 := S1.tgt 4 ("wrong" : Str) (by decide +kernel); exact s_gTup O1.calm (s_gsCons (g_ t1_3) (s_gsCons (g_ t1_4) (s_gsNil) rfl) rfl) rfl rfl) (fun X1 O1 S1 => by exact pts0_) (fun X1 O1 S1 => by have v1_3 := S1.var 3 ("asked" : Str) (by decide +kernel); have v1_4 := S1.var 4 ("wrong" : Str) (by decide +kernel); exact s_bin o_add (v_ v1_3) (v_ v1_4)) (fun _ => rfl))) (s_paNil) rfl) rfl)))
theorem ok_behind_no : BodyOk T d_behind_no := by
  refine ⟨⟨rfl, rfl, rfl, by decide +kernel, rfl, by decide +kernel, by decide +kernel⟩, fun X G g0 H0 k O0 S0 => ?_⟩
  have v0_1 := S0.var 1 ("question" : Str) (by decide +kernel)
  have v0_0 := S0.var 0 ("counts" : Str) (by decide +kernel)
  have g0_rest_of := S0.glo ("rest_of" : Str) (by decide +kernel)
  have g0_behind_yes := S0.glo ("behind_yes" : Str) (by decide +kernel)
  exact ss_one (s_ret (call_ O0 g0_behind_yes (cl_behind_yes_2 O0) (s_paCons (v_ v0_0) (s_paCons (call_ O0 g0_rest_of (cl_rest_of_2 O0) (s_paCons (v_ v0_0) (s_paCons (v_ v0_1) (s_paNil) rfl) rfl) (s_pkNil) rfl rfl (fun z => nomatch z)) (s_paNil) rfl) rfl) (s_pkNil) rfl rfl (fun z => nomatch z)))
theorem ok_both_behind : BodyOk T d_both_behind := by
  refine ⟨⟨rfl, rfl, rfl, by decide +kernel, rfl, by decide +kernel, by decide +kernel⟩, fun X G g0 H0 k O0 S0 => ?_⟩
  have v0_1 := S0.var 1 ("question" : Str) (by decide +kernel)
  have v0_0 := S0.var 0 ("counts" : Str) (by decide +kernel)
  have g0_behind_no := S0.glo ("behind_no" : Str) (by decide +kernel)
  have g0_behind_yes := S0.glo ("behind_yes" : Str) (by decide +kernel)
  exact ss_one (s_ret (s_tup (s_paCons (call_ O0 g0_behind_yes (cl_behind_yes_2 O0) (s_paCons (v_ v0_0) (s_paCons (v_ v0_1) (s_paNil) rfl) rfl) (s_pkNil) rfl rfl (fun z => nomatch z)) (s_paCons (call_ O0 g0_behind_no (cl_behind_no_2 O0) (s_paCons (v_ v0_0) (s_paCons (v_ v0_1) (s_paNil) rfl) rfl) (s_pkNil) rfl rfl (fun z => nomatch z)) (s_paNil) rfl) rfl)))
theorem ok_want_question : BodyOk T d_want_question := by
  refine ⟨⟨rfl, rfl, rfl, by decide +kernel, rfl, by decide +kernel, by decide +kernel⟩, fun X G g0 H0 k O0 S0 => ?_⟩
  have v0_1 := S0.var 1 ("value" : Str) (by decide +kernel)
  have v0_0 := S0.var 0 ("counts" : Str) (by decide +kernel)
  have g0_is_question_of := S0.glo ("is_question_of" : Str) (by decide +kernel)
  exact ss_cons (s_ifS (s_notT (s_truth (call_ O0 g0_is_question_of (cl_is_question_of_2 O0) (s_paCons (v_ v0_0) (s_paCons (v_ v0_1) (s_paNil) rfl) rfl) (s_pkNil) rfl rfl (fun z => nomatch z)) (fun _ => rfl))) (ss_one (badS_)) (ss_nil)) (ss_one (s_ret (v_ v0_1)))
theorem ok_rest : BodyOk T d_rest := by
  refine ⟨⟨rfl, rfl, rfl, by decide +kernel, rfl, by decide +kernel, by decide +kernel⟩, fun X G g0 H0 k O0 S0 => ?_⟩
  have v0_0 := S0.var 0 ("counts" : Str) (by decide +kernel)
  have g0_want_counts := S0.glo ("want_counts" : Str) (by decide +kernel)
  have v0_1 := S0.var 1 ("question" : Str) (by decide +kernel)
  have g0_want_question := S0.glo ("want_question" : Str) (by decide +kernel)
  have g0_rest_of := S0.glo ("rest_of" : Str) (by decide +kernel)
  exact ss_cons (s_expr (call_ O0 g0_want_counts (cl_want_counts_1 O0) (s_paCons (v_ v0_0) (s_paNil) rfl) (s_pkNil) rfl rfl (fun z => nomatch z)) rfl) (ss_one (s_ret (call_ O0 g0_rest_of (cl_rest_of_2 O0) (s_paCons (v_ v0_0) (s_paCons (call_ O0 g0_want_question (cl_want_question_2 O0) (s_paCons (v_ v0_0) (s_paCons (v_ v0_1) (s_paNil) rfl) rfl) (s_pkNil) rfl rfl (fun z => nomatch z)) (s_paNil) rfl) rfl) (s_pkNil) rfl rfl (fun z => nomatch z))))
theorem ok_both : BodyOk T d_both := by
  refine ⟨⟨rfl, rfl, rfl, by decide +kernel, rfl, by decide +kernel, by decide +kernel⟩, fun X G g0 H0 k O0 S0 => ?_⟩
  have v0_0 := S0.var 0 ("counts" : Str) (by decide +kernel)
  have g0_want_counts := S0.glo ("want_counts" : Str) (by decide +kernel)
  have v0_1 := S0.var 1 ("question" : Str) (by decide +kernel)
  have g0_want_question := S0.glo ("want_question" : Str) (by decide +kernel)
  have g0_both_behind := S0.glo ("both_behind" : Str) (by decide +kernel)
  exact ss_cons (s_expr (call_ O0 g0_want_counts (cl_want_counts_1 O0) (s_paCons (v_ v0_0) (s_paNil) rfl) (s_pkNil) rfl rfl (fun z => nomatch z)) rfl) (ss_one (s_ret (call_ O0 g0_both_behind (cl_both_behind_2 O0) (s_paCons (v_ v0_0) (s_paCons (call_ O0 g0_want_question (cl_want_question_2 O0) (s_paCons (v_ v0_0) (s_paCons (v_ v0_1) (s_paNil) rfl) rfl) (s_pkNil) rfl rfl (fun z => nomatch z)) (s_paNil) rfl) rfl) (s_pkNil) rfl rfl (fun z => nomatch z))))
theorem ok_ways_of : BodyOk T d_ways_of := by
  refine ⟨⟨rfl, rfl, rfl, by decide +kernel, rfl, by decide +kernel, by decide +kernel⟩, fun X G g0 H0 k O0 S0 => ?_⟩
  have t0_2 := S0.tgt 2 ("found" : Str) (by decide +kernel)
  have t0_3 := S0.tgt 3 ("term" : Str) (by decide +kernel)
  have v0_1 := S0.var 1 ("lies" : Str) (by decide +kernel)
  have b0_range := O0.blt S0 ("range" : Str) _ PyProof.Rows.boot_range (by decide +kernel)
  have t0_4 := S0.tgt 4 ("wrong" : Str) (by decide +kernel)
  have v0_3 := S0.var 3 ("term" : Str) (by decide +kernel)
  have v0_0 := S0.var 0 ("left" : Str) (by decide +kernel)
  have v0_4 := S0.var 4 ("wrong" : Str) (by decide +kernel)
  have v0_2 := S0.var 2 ("found" : Str) (by decide +kernel)
  exact ss_cons (s_asg (s_tup (s_paCons (s_int) (s_paCons (s_int) (s_paNil) rfl) rfl)) (s_pgTup O0.calm (s_pgsCons (pgn_ t0_2) (s_pgsCons (pgn_ t0_3) (s_pgsNil) rfl) rfl) rfl) rfl (sw_fold rfl) rfl) (ss_cons (for_ O0 (range1_ b0_range (s_paCons (s_bin o_add (v_ v0_1) (s_int)) (s_paNil) rfl) rfl) (g_ t0_4) (ss_cons (aug_ t0_2 o_iadd (v_ v0_3)) (ss_one (set_ t0_3 (s_bin o_fdiv (s_bin o_mul (v_ v0_3) (s_bin o_sub (v_ v0_0) (v_ v0_4))) (s_bin o_add (v_ v0_4) (s_int))) rfl))) (fun _ => rfl)) (ss_one (s_ret (v_ v0_2))))
theorem ok_weight_of : BodyOk T d_weight_of := by
  refine ⟨⟨rfl, rfl, rfl, by decide +kernel, rfl, by decide +kernel, by decide +kernel⟩, fun X G g0 H0 k O0 S0 => ?_⟩
  have t0_2 := S0.tgt 2 ("lies" : Str) (by decide +kernel)
  have v0_0 := S0.var 0 ("counts" : Str) (by decide +kernel)
  have g0_lies_of := S0.glo ("lies_of" : Str) (by decide +kernel)
  have b0_enumerate := O0.blt S0 ("enumerate" : Str) _ PyProof.Rows.boot_enumerate (by decide +kernel)
  have b0_sum := O0.blt S0 ("sum" : Str) _ PyProof.Rows.boot_sum (by decide +kernel)
  exact ss_cons (set_ t0_2 (call_ O0 g0_lies_of (cl_lies_of_1 O0) (s_paCons (v_ v0_0) (s_paNil) rfl) (s_pkNil) rfl rfl (fun z => nomatch z)) rfl) (ss_one (s_ret (bl_ b0_sum (c_sum O0.calm) (s_paCons (PE.val (comp_ O0 S0 [(("at" : Str), 3), (("number" : Str), 4)] (enumA_ b0_enumerate (s_paCons (v_ v0_0) (s_paNil) rfl) rfl) ⟨rfl, by decide +kernel, by decide +kernel, by decide +kernel, by decide +kernel⟩ (by decide) (fun X1 O1 S1 => by have t1_3 := S1.tgt 3 ("at" : Str) (by decide +kernel); have t1_4 := S1.tgt 4 ("number" : Str) (by decide +kernel); exact s_gTup O1.calm (s_gsCons (g_ t1_3) (s_gsCons (g_ t1_4) (s_gsNil) rfl) rfl) rfl rfl) (fun X1 O1 S1 => by exact pts0_) (fun X1 O1 S1 => by have v1_4 := S1.var 4 ("number" : Str) (by decide +kernel); have v1_2 := S1.var 2 ("lies" : Str) (by decide +kernel); have v1_3 := S1.var 3 ("at" : Str) (by decide +kernel); have v1_1 := S1.var 1 ("left" : Str) (by decide +kernel); have g1_ways_of := S1.glo ("ways_of" : Str) (by decide +kernel); exact s_bin o_mul (v_ v1_4) (call_ O1 g1_ways_of (cl_ways_of_2 O1) (s_paCons (v_ v1_1) (s_paCons (s_bin o_sub (v_ v1_2) (v_ v1_3)) (s_paNil) rfl) rfl) (s_pkNil) rfl rfl (fun z => nomatch z))) (fun _ => rfl))) (s_paNil) rfl) rfl)))
theorem ok_is_heavy_of : BodyOk T d_is_heavy_of := by
  refine ⟨⟨rfl, rfl, rfl, by decide +kernel, rfl, by decide +kernel, by decide +kernel⟩, fun X G g0 H0 k O0 S0 => ?_⟩
  have v0_0 := S0.var 0 ("counts" : Str) (by decide +kernel)
  have g0_is_settled_of := S0.glo ("is_settled_of" : Str) (by decide +kernel)
  have v0_1 := S0.var 1 ("left" : Str) (by decide +kernel)
  have g0_weight_of := S0.glo ("weight_of" : Str) (by decide +kernel)
  have g0_power_of_two := S0.glo ("power_of_two" : Str) (by decide +kernel)
  exact ss_one (s_ret (s_andV (s_notV (call_ O0 g0_is_settled_of (cl_is_settled_of_1 O0) (s_paCons (v_ v0_0) (s_paNil) rfl) (s_pkNil) rfl rfl (fun z => nomatch z))) (s_oneV (s_cmp o_gt (call_ O0 g0_weight_of (cl_weight_of_2 O0) (s_paCons (v_ v0_0) (s_paCons (v_ v0_1) (s_paNil) rfl) rfl) (s_pkNil) rfl rfl (fun z => nomatch z)) (call_ O0 g0_power_of_two (cl_power_of_two_1 O0) (s_paCons (v_ v0_1) (s_paNil) rfl) (s_pkNil) rfl rfl (fun z => nomatch z)) rfl))))
theorem ok_power_of_two : BodyOk T d_power_of_two := by
  refine ⟨⟨rfl, rfl, rfl, by decide +kernel, rfl, by decide +kernel, by decide +kernel⟩, fun X G g0 H0 k O0 S0 => ?_⟩
  have t0_1 := S0.tgt 1 ("found" : Str) (by decide +kernel)
  have v0_0 := S0.var 0 ("left" : Str) (by decide +kernel)
  have b0_range := O0.blt S0 ("range" : Str) _ PyProof.Rows.boot_range (by decide +kernel)
  have t0_2 := S0.tgt 2 ("turn" : Str) (by decide +kernel)
  have v0_1 := S0.var 1 ("found" : Str) (by decide +kernel)
  exact ss_cons (set_ t0_1 (s_int) rfl) (ss_cons (for_ O0 (range1_ b0_range (s_paCons (v_ v0_0) (s_paNil) rfl) rfl) (g_ t0_2) (ss_one (set_ t0_1 (s_bin o_mul (v_ v0_1) (s_int)) rfl)) (fun _ => rfl)) (ss_one (s_ret (v_ v0_1))))
theorem ok_half_both : BodyOk T d_half_both := by
  refine ⟨⟨rfl, rfl, rfl, by decide +kernel, rfl, by decide +kernel, by decide +kernel⟩, fun X G g0 H0 k O0 S0 => ?_⟩
  have v0_1 := S0.var 1 ("word" : Str) (by decide +kernel)
  have g0_YES := S0.glo ("YES" : Str) (by decide +kernel)
  have v0_2 := S0.var 2 ("question" : Str) (by decide +kernel)
  have v0_0 := S0.var 0 ("counts" : Str) (by decide +kernel)
  have g0_rest_of := S0.glo ("rest_of" : Str) (by decide +kernel)
  have g0_behind_yes := S0.glo ("behind_yes" : Str) (by decide +kernel)
  have g0_behind_no := S0.glo ("behind_no" : Str) (by decide +kernel)
  exact ss_cons (s_ifS (cmpT_ (o_eq O0.un) (v_ v0_1) (O0.val g0_YES (.tail _ (.tail _ (.tail _ (.head _))))) rfl) (ss_one (s_ret (s_tup (s_paCons (call_ O0 g0_behind_yes (cl_behind_yes_2 O0) (s_paCons (v_ v0_0) (s_paCons (v_ v0_2) (s_paNil) rfl) rfl) (s_pkNil) rfl rfl (fun z => nomatch z)) (s_paCons (call_ O0 g0_rest_of (cl_rest_of_2 O0) (s_paCons (v_ v0_0) (s_paCons (v_ v0_2) (s_paNil) rfl) rfl) (s_pkNil) rfl rfl (fun z => nomatch z)) (s_paNil) rfl) rfl)))) (ss_nil)) (ss_one (s_ret (s_tup (s_paCons (v_ v0_2) (s_paCons (call_ O0 g0_behind_no (cl_behind_no_2 O0) (s_paCons (v_ v0_0) (s_paCons (v_ v0_2) (s_paNil) rfl) rfl) (s_pkNil) rfl rfl (fun z => nomatch z)) (s_paNil) rfl) rfl))))
theorem ok_Halves___init__ : BodyOk T d_Halves___init__ := by
  refine ⟨⟨rfl, rfl, rfl, by decide +kernel, rfl, by decide +kernel, by decide +kernel⟩, fun X G g0 H0 k O0 S0 => ?_⟩
  have v0_0 := S0.var 0 ("self" : Str) (by decide +kernel)
  have v0_1 := S0.var 1 ("word" : Str) (by decide +kernel)
  exact ss_choose (α := Bool) fun M => (ss_cons (s_fldP O0 rfl (.tail _ (.head _)) (v_ v0_0) (v_ v0_1) rfl) (ss_cons (s_fldP O0 rfl (.tail _ (.tail _ (.head _))) (v_ v0_0) (s_newMem (M_halfF M)) rfl) (ss_one (s_fldP O0 rfl (.tail _ (.tail _ (.tail _ (.head _)))) (v_ v0_0) (s_newMem (M_halfN M)) rfl))))
theorem ok_Halves_is_found : BodyOk T d_Halves_is_found := by
  refine ⟨⟨rfl, rfl, rfl, by decide +kernel, rfl, by decide +kernel, by decide +kernel⟩, fun X G g0 H0 k O0 S0 => ?_⟩
  have v0_1 := S0.var 1 ("counts" : Str) (by decide +kernel)
  have g0_is_settled_of := S0.glo ("is_settled_of" : Str) (by decide +kernel)
  have v0_2 := S0.var 2 ("left" : Str) (by decide +kernel)
  have v0_0 := S0.var 0 ("self" : Str) (by decide +kernel)
  have g0_together := S0.glo ("together" : Str) (by decide +kernel)
  have g0_power_of_two := S0.glo ("power_of_two" : Str) (by decide +kernel)
  exact ss_memQ memIn_ok ((s_or (s_truth (call_ O0 g0_is_settled_of (cl_is_settled_of_1 O0) (s_paCons (v_ v0_1) (s_paNil) rfl) (s_pkNil) rfl rfl (fun z => nomatch z)) (fun _ => rfl)) (s_or1 (cmpT_ o_ge (v_ v0_2) (s_getD O0.un65 (s_fld O0 rfl (.tail _ (.tail _ (.head _))) (v_ v0_0) rfl) (v_ v0_1) (s_bin o_add (v_ v0_2) (s_int)) rfl rfl rfl) rfl))).pt) (ss_one (s_ret (s_bl))) (ss_memQ memIn_ok ((s_or (cmpT_ o_gt (call_ O0 g0_together (cl_together_1 O0) (s_paCons (v_ v0_1) (s_paNil) rfl) (s_pkNil) rfl rfl (fun z => nomatch z)) (call_ O0 g0_power_of_two (cl_power_of_two_1 O0) (s_paCons (v_ v0_2) (s_paNil) rfl) (s_pkNil) rfl rfl (fun z => nomatch z)) rfl) (s_or1 (cmpT_ o_le (v_ v0_2) (s_getD O0.un65 (s_fld O0 rfl (.tail _ (.tail _ (.tail _ (.head _)))) (v_ v0_0) rfl) (v_ v0_1) (s_un o_neg (s_int)) rfl rfl rfl) rfl))).pt) (ss_one (s_ret (s_bl))) (ss_cons (s_ifS (cmpT_ o_is (s_meth (d := d_Halves_question) O0 rfl rfl rfl rfl rfl mb_Halves_question (v_ v0_0) (s_paCons (v_ v0_1) (s_paCons (v_ v0_2) (s_paNil) rfl) rfl) rfl) (s_non) rfl) (ss_cons (s_asg (v_ v0_2) (s_pgDicC O0.un65 (s_fld O0 rfl (.tail _ (.tail _ (.tail _ (.head _)))) (v_ v0_0) rfl) (v_ v0_1) rfl) rfl rfl rfl) (ss_one (s_ret (s_bl)))) (ss_nil)) (ss_cons (s_asg (v_ v0_2) (s_pgDicC O0.un65 (s_fld O0 rfl (.tail _ (.tail _ (.head _))) (v_ v0_0) rfl) (v_ v0_1) rfl) rfl rfl rfl) (ss_one (s_ret (s_bl))))))
theorem ok_Halves_question : BodyOk T d_Halves_question := by
  refine ⟨⟨rfl, rfl, rfl, by decide +kernel, rfl, by decide +kernel, by decide +kernel⟩, fun X G g0 H0 k O0 S0 => ?_⟩
  have v0_2 := S0.var 2 ("left" : Str) (by decide +kernel)
  have v0_1 := S0.var 1 ("counts" : Str) (by decide +kernel)
  have g0_questions_of := S0.glo ("questions_of" : Str) (by decide +kernel)
  have t0_3 := S0.tgt 3 ("question" : Str) (by decide +kernel)
  have v0_3 := S0.var 3 ("question" : Str) (by decide +kernel)
  have v0_0 := S0.var 0 ("self" : Str) (by decide +kernel)
  have g0_half_both := S0.glo ("half_both" : Str) (by decide +kernel)
  have t0_4 := S0.tgt 4 ("yes" : Str) (by decide +kernel)
  have t0_5 := S0.tgt 5 ("no" : Str) (by decide +kernel)
  have v0_5 := S0.var 5 ("no" : Str) (by decide +kernel)
  have v0_4 := S0.var 4 ("yes" : Str) (by decide +kernel)
  exact ss_cons (s_ifS (cmpT_ (o_eq O0.un) (v_ v0_2) (s_int) rfl) (ss_one (s_ret (s_non))) (ss_nil)) (ss_cons (for_ O0 (s_items (call_ O0 g0_questions_of (cl_questions_of_1 O0) (s_paCons (v_ v0_1) (s_paNil) rfl) (s_pkNil) rfl rfl (fun z => nomatch z))) (g_ t0_3) (ss_cons (s_asg (call_ O0 g0_half_both (cl_half_both_3 O0) (s_paCons (v_ v0_1) (s_paCons (s_fld O0 rfl (.tail _ (.head _)) (v_ v0_0) rfl) (s_paCons (v_ v0_3) (s_paNil) rfl) rfl) rfl) (s_pkNil) rfl rfl (fun z => nomatch z)) (s_pgTup O0.calm (s_pgsCons (pgn_ t0_4) (s_pgsCons (pgn_ t0_5) (s_pgsNil) rfl) rfl) rfl) rfl rfl rfl) (ss_one (s_ifS ((s_and (s_truth (s_meth (d := d_Halves_is_found) O0 rfl rfl rfl rfl rfl mb_Halves_is_found (v_ v0_0) (s_paCons (v_ v0_5) (s_paCons (s_bin o_sub (v_ v0_2) (s_int)) (s_paNil) rfl) rfl) rfl) (fun _ => rfl)) (s_and1 (s_truth (s_meth (d := d_Halves_is_found) O0 rfl rfl rfl rfl rfl mb_Halves_is_found (v_ v0_0) (s_paCons (v_ v0_4) (s_paCons (s_bin o_sub (v_ v0_2) (s_int)) (s_paNil) rfl) rfl) rfl) (fun _ => rfl)))).pt) (ss_one (s_ret (v_ v0_3))) (ss_nil)))) (fun _ => rfl)) (ss_one (s_ret (s_non))))
theorem ok_least_half : BodyOk T d_least_half := by
  refine ⟨⟨rfl, rfl, rfl, by decide +kernel, rfl, by decide +kernel, by decide +kernel⟩, fun X G g0 H0 k O0 S0 => ?_⟩
  have t0_2 := S0.tgt 2 ("halves" : Str) (by decide +kernel)
  have g0_Halves := S0.glo ("Halves" : Str) (by decide +kernel)
  have v0_1 := S0.var 1 ("word" : Str) (by decide +kernel)
  have g0_MOST_LEFT_halflies := S0.glo ("MOST_LEFT_halflies" : Str) (by decide +kernel)
  have b0_range := O0.blt S0 ("range" : Str) _ PyProof.Rows.boot_range (by decide +kernel)
  have t0_3 := S0.tgt 3 ("left" : Str) (by decide +kernel)
  have v0_2 := S0.var 2 ("halves" : Str) (by decide +kernel)
  have v0_3 := S0.var 3 ("left" : Str) (by decide +kernel)
  have v0_0 := S0.var 0 ("counts" : Str) (by decide +kernel)
  exact ss_clean (ss_cons (set_ t0_2 (s_make (d := d_Halves___init__) O0 g0_Halves rfl rfl rfl rfl rfl mb_Halves___init__ (s_paCons (v_ v0_1) (s_paNil) rfl) rfl) rfl) (ss_cons (for_ O0 (range1_ b0_range (s_paCons (s_bin o_add (O0.val g0_MOST_LEFT_halflies (.tail _ (.tail _ (.tail _ (.tail _ (.head _)))))) (s_int)) (s_paNil) rfl) rfl) (g_ t0_3) (ss_one (s_ifS (s_truth (s_meth (d := d_Halves_is_found) O0 rfl rfl rfl rfl rfl mb_Halves_is_found (v_ v0_2) (s_paCons (v_ v0_0) (s_paCons (v_ v0_3) (s_paNil) rfl) rfl) rfl) (fun _ => rfl)) (ss_one (s_ret (v_ v0_3))) (ss_nil))) (fun _ => rfl)) (ss_one (s_ret (s_non)))))
theorem ok_want_word : BodyOk T d_want_word := by
  refine ⟨⟨rfl, rfl, rfl, by decide +kernel, rfl, by decide +kernel, by decide +kernel⟩, fun X G g0 H0 k O0 S0 => ?_⟩
  have v0_0 := S0.var 0 ("value" : Str) (by decide +kernel)
  have b0_isinstance := O0.blt S0 ("isinstance" : Str) _ PyProof.Rows.boot_isinstance (by decide +kernel)
  have b0_str := O0.blt S0 ("str" : Str) (.type "str") PyProof.Rows.boot_str (by decide +kernel)
  have g0_NO := S0.glo ("NO" : Str) (by decide +kernel)
  have g0_YES := S0.glo ("YES" : Str) (by decide +kernel)
  exact ss_cons (s_ifS ((s_or (s_notT (s_truth (isi_ b0_isinstance (v_ v0_0) (BltOk.ty (t := .str) b0_str) rfl) (fun _ => rfl))) (s_or1 (cmpT_ (o_notin O0.un65) (v_ v0_0) (s_tup (s_paCons (O0.val g0_YES (.tail _ (.tail _ (.tail _ (.head _))))) (s_paCons (O0.val g0_NO (.tail _ (.tail _ (.tail _ (.tail _ (.tail _ (.head _))))))) (s_paNil) rfl) rfl)) rfl))).pt) (ss_one (badS_)) (ss_nil)) (ss_one (s_ret (v_ v0_0)))
theorem ok_want_small : BodyOk T d_want_small := by
  refine ⟨⟨rfl, rfl, rfl, by decide +kernel, rfl, by decide +kernel, by decide +kernel⟩, fun X G g0 H0 k O0 S0 => ?_⟩
  have v0_0 := S0.var 0 ("counts" : Str) (by decide +kernel)
  have g0_together := S0.glo ("together" : Str) (by decide +kernel)
  have g0_MOST_THINGS_halflies := S0.glo ("MOST_THINGS_halflies" : Str) (by decide +kernel)
  have g0_want_at_most := S0.glo ("want_at_most" : Str) (by decide +kernel)
  have v0_1 := S0.var 1 ("left" : Str) (by decide +kernel)
  have g0_MOST_LEFT_halflies := S0.glo ("MOST_LEFT_halflies" : Str) (by decide +kernel)
  exact ss_cons (s_expr (call_ O0 g0_want_at_most (cl_want_at_most_3 O0) (s_paCons (s_str) (s_paCons (O0.val g0_MOST_THINGS_halflies (.tail _ (.tail _ (.tail _ (.tail _ (.tail _ (.tail _ (.head _)))))))) (s_paCons (call_ O0 g0_together (cl_together_1 O0) (s_paCons (v_ v0_0) (s_paNil) rfl) (s_pkNil) rfl rfl (fun z => nomatch z)) (s_paNil) rfl) rfl) rfl) (s_pkNil) rfl rfl (fun z => nomatch z)) rfl) (ss_one (s_expr (call_ O0 g0_want_at_most (cl_want_at_most_3 O0) (s_paCons (s_str) (s_paCons (O0.val g0_MOST_LEFT_halflies (.tail _ (.tail _ (.tail _ (.tail _ (.head _)))))) (s_paCons (v_ v0_1) (s_paNil) rfl) rfl) rfl) (s_pkNil) rfl rfl (fun z => nomatch z)) rfl))
theorem ok_want_half : BodyOk T d_want_half := by
  refine ⟨⟨rfl, rfl, rfl, by decide +kernel, rfl, by decide +kernel, by decide +kernel⟩, fun X G g0 H0 k O0 S0 => ?_⟩
  have v0_0 := S0.var 0 ("standing" : Str) (by decide +kernel)
  have g0_want_standing := S0.glo ("want_standing" : Str) (by decide +kernel)
  have v0_1 := S0.var 1 ("word" : Str) (by decide +kernel)
  have g0_want_word := S0.glo ("want_word" : Str) (by decide +kernel)
  have g0_want_small := S0.glo ("want_small" : Str) (by decide +kernel)
  exact ss_cons (s_expr (call_ O0 g0_want_standing (cl_want_standing_1 O0) (s_paCons (v_ v0_0) (s_paNil) rfl) (s_pkNil) rfl rfl (fun z => nomatch z)) rfl) (ss_cons (s_expr (call_ O0 g0_want_word (cl_want_word_1 O0) (s_paCons (v_ v0_1) (s_paNil) rfl) (s_pkNil) rfl rfl (fun z => nomatch z)) rfl) (ss_one (s_expr (call_ O0 g0_want_small (cl_want_small_2 O0) (s_paCons (s_ix (v_ v0_0) (s_int) rfl) (s_paCons (s_ix (v_ v0_0) (s_int) rfl) (s_paNil) rfl) rfl) (s_pkNil) rfl rfl (fun z => nomatch z)) rfl)))
theorem ok_half_behind : BodyOk T d_half_behind := by
  refine ⟨⟨rfl, rfl, rfl, by decide +kernel, rfl, by decide +kernel, by decide +kernel⟩, fun X G g0 H0 k O0 S0 => ?_⟩
  have v0_0 := S0.var 0 ("counts" : Str) (by decide +kernel)
  have g0_want_counts := S0.glo ("want_counts" : Str) (by decide +kernel)
  have v0_1 := S0.var 1 ("word" : Str) (by decide +kernel)
  have g0_want_word := S0.glo ("want_word" : Str) (by decide +kernel)
  have v0_2 := S0.var 2 ("question" : Str) (by decide +kernel)
  have g0_want_question := S0.glo ("want_question" : Str) (by decide +kernel)
  have g0_half_both := S0.glo ("half_both" : Str) (by decide +kernel)
  exact ss_cons (s_expr (call_ O0 g0_want_counts (cl_want_counts_1 O0) (s_paCons (v_ v0_0) (s_paNil) rfl) (s_pkNil) rfl rfl (fun z => nomatch z)) rfl) (ss_cons (s_expr (call_ O0 g0_want_word (cl_want_word_1 O0) (s_paCons (v_ v0_1) (s_paNil) rfl) (s_pkNil) rfl rfl (fun z => nomatch z)) rfl) (ss_one (s_ret (call_ O0 g0_half_both (cl_half_both_3 O0) (s_paCons (v_ v0_0) (s_paCons (v_ v0_1) (s_paCons (call_ O0 g0_want_question (cl_want_question_2 O0) (s_paCons (v_ v0_0) (s_paCons (v_ v0_2) (s_paNil) rfl) rfl) (s_pkNil) rfl rfl (fun z => nomatch z)) (s_paNil) rfl) rfl) rfl) (s_pkNil) rfl rfl (fun z => nomatch z)))))
theorem ok_is_half_found : BodyOk T d_is_half_found := by
  refine ⟨⟨rfl, rfl, rfl, by decide +kernel, rfl, by decide +kernel, by decide +kernel⟩, fun X G g0 H0 k O0 S0 => ?_⟩
  have v0_1 := S0.var 1 ("word" : Str) (by decide +kernel)
  have v0_0 := S0.var 0 ("standing" : Str) (by decide +kernel)
  have g0_want_half := S0.glo ("want_half" : Str) (by decide +kernel)
  have g0_Halves := S0.glo ("Halves" : Str) (by decide +kernel)
  exact ss_clean (ss_cons (s_expr (call_ O0 g0_want_half (cl_want_half_2 O0) (s_paCons (v_ v0_0) (s_paCons (v_ v0_1) (s_paNil) rfl) rfl) (s_pkNil) rfl rfl (fun z => nomatch z)) rfl) (ss_one (s_ret (s_meth (d := d_Halves_is_found) O0 rfl rfl rfl rfl rfl mb_Halves_is_found (s_make (d := d_Halves___init__) O0 g0_Halves rfl rfl rfl rfl rfl mb_Halves___init__ (s_paCons (v_ v0_1) (s_paNil) rfl) rfl) (s_paCons (s_ix (v_ v0_0) (s_int) rfl) (s_paCons (s_ix (v_ v0_0) (s_int) rfl) (s_paNil) rfl) rfl) rfl))))
theorem ok_least_half_left : BodyOk T d_least_half_left := by
  refine ⟨⟨rfl, rfl, rfl, by decide +kernel, rfl, by decide +kernel, by decide +kernel⟩, fun X G g0 H0 k O0 S0 => ?_⟩
  have v0_0 := S0.var 0 ("counts" : Str) (by decide +kernel)
  have g0_want_counts := S0.glo ("want_counts" : Str) (by decide +kernel)
  have v0_1 := S0.var 1 ("word" : Str) (by decide +kernel)
  have g0_want_word := S0.glo ("want_word" : Str) (by decide +kernel)
  have g0_MOST_LEFT_halflies := S0.glo ("MOST_LEFT_halflies" : Str) (by decide +kernel)
  have g0_want_small := S0.glo ("want_small" : Str) (by decide +kernel)
  have g0_least_half := S0.glo ("least_half" : Str) (by decide +kernel)
  exact ss_cons (s_expr (call_ O0 g0_want_counts (cl_want_counts_1 O0) (s_paCons (v_ v0_0) (s_paNil) rfl) (s_pkNil) rfl rfl (fun z => nomatch z)) rfl) (ss_cons (s_expr (call_ O0 g0_want_word (cl_want_word_1 O0) (s_paCons (v_ v0_1) (s_paNil) rfl) (s_pkNil) rfl rfl (fun z => nomatch z)) rfl) (ss_cons (s_expr (call_ O0 g0_want_small (cl_want_small_2 O0) (s_paCons (v_ v0_0) (s_paCons (O0.val g0_MOST_LEFT_halflies (.tail _ (.tail _ (.tail _ (.tail _ (.head _)))))) (s_paNil) rfl) rfl) (s_pkNil) rfl rfl (fun z => nomatch z)) rfl) (ss_one (s_ret (call_ O0 g0_least_half (cl_least_half_2 O0) (s_paCons (v_ v0_0) (s_paCons (v_ v0_1) (s_paNil) rfl) rfl) (s_pkNil) rfl rfl (fun z => nomatch z))))))
theorem ok_Finder___init__ : BodyOk T d_Finder___init__ := by
  refine ⟨⟨rfl, rfl, rfl, by decide +kernel, rfl, by decide +kernel, by decide +kernel⟩, fun X G g0 H0 k O0 S0 => ?_⟩
  have v0_0 := S0.var 0 ("self" : Str) (by decide +kernel)
  exact ss_one (s_fldP O0 rfl (.head _) (v_ v0_0) (s_newMem M_finder) rfl)
theorem ok_Finder_is_found : BodyOk T d_Finder_is_found := by
  refine ⟨⟨rfl, rfl, rfl, by decide +kernel, rfl, by decide +kernel, by decide +kernel⟩, fun X G g0 H0 k O0 S0 => ?_⟩
  have v0_1 := S0.var 1 ("counts" : Str) (by decide +kernel)
  have g0_is_settled_of := S0.glo ("is_settled_of" : Str) (by decide +kernel)
  have v0_2 := S0.var 2 ("left" : Str) (by decide +kernel)
  have g0_is_heavy_of := S0.glo ("is_heavy_of" : Str) (by decide +kernel)
  have v0_0 := S0.var 0 ("self" : Str) (by decide +kernel)
  exact ss_memo memIn_ok (ss_cons (s_ifS (s_truth (call_ O0 g0_is_settled_of (cl_is_settled_of_1 O0) (s_paCons (v_ v0_1) (s_paNil) rfl) (s_pkNil) rfl rfl (fun z => nomatch z)) (fun _ => rfl)) (ss_one (s_ret (s_bl))) (ss_nil)) (ss_cons (s_ifS ((s_or (cmpT_ (o_eq O0.un) (v_ v0_2) (s_int) rfl) (s_or1 (s_truth (call_ O0 g0_is_heavy_of (cl_is_heavy_of_2 O0) (s_paCons (v_ v0_1) (s_paCons (v_ v0_2) (s_paNil) rfl) rfl) (s_pkNil) rfl rfl (fun z => nomatch z)) (fun _ => rfl)))).pt) (ss_one (s_ret (s_bl))) (ss_nil)) (ss_cons (s_ifS (cmpT_ (o_notinM O0.un65) (s_tup (s_paCons (v_ v0_1) (s_paCons (v_ v0_2) (s_paNil) rfl) rfl)) (s_fld O0 rfl (.head _) (v_ v0_0) rfl) rfl) (ss_one (s_asg (s_cmp o_isnot (s_meth (d := d_Finder_first_good) O0 rfl rfl rfl rfl rfl mb_Finder_first_good (v_ v0_0) (s_paCons (v_ v0_1) (s_paCons (v_ v0_2) (s_paNil) rfl) rfl) rfl) (s_non) rfl) (s_pgDic O0.un65 (s_fld O0 rfl (.head _) (v_ v0_0) rfl) (s_tup (s_paCons (v_ v0_1) (s_paCons (v_ v0_2) (s_paNil) rfl) rfl)) rfl) rfl rfl rfl)) (ss_nil)) (ss_one (s_ret (s_dget O0.un65 (s_fld O0 rfl (.head _) (v_ v0_0) rfl) (s_tup (s_paCons (v_ v0_1) (s_paCons (v_ v0_2) (s_paNil) rfl) rfl)) rfl))))))
theorem ok_Finder_is_good : BodyOk T d_Finder_is_good := by
  refine ⟨⟨rfl, rfl, rfl, by decide +kernel, rfl, by decide +kernel, by decide +kernel⟩, fun X G g0 H0 k O0 S0 => ?_⟩
  have v0_3 := S0.var 3 ("question" : Str) (by decide +kernel)
  have v0_1 := S0.var 1 ("counts" : Str) (by decide +kernel)
  have g0_both_behind := S0.glo ("both_behind" : Str) (by decide +kernel)
  have t0_4 := S0.tgt 4 ("yes" : Str) (by decide +kernel)
  have t0_5 := S0.tgt 5 ("no" : Str) (by decide +kernel)
  have v0_0 := S0.var 0 ("self" : Str) (by decide +kernel)
  have v0_2 := S0.var 2 ("left" : Str) (by decide +kernel)
  have v0_4 := S0.var 4 ("yes" : Str) (by decide +kernel)
  have v0_5 := S0.var 5 ("no" : Str) (by decide +kernel)
  exact ss_cons (s_asg (call_ O0 g0_both_behind (cl_both_behind_2 O0) (s_paCons (v_ v0_1) (s_paCons (v_ v0_3) (s_paNil) rfl) rfl) (s_pkNil) rfl rfl (fun z => nomatch z)) (s_pgTup O0.calm (s_pgsCons (pgn_ t0_4) (s_pgsCons (pgn_ t0_5) (s_pgsNil) rfl) rfl) rfl) rfl rfl rfl) (ss_one (s_ret (s_andV (s_meth (d := d_Finder_is_found) O0 rfl rfl rfl rfl rfl mb_Finder_is_found (v_ v0_0) (s_paCons (v_ v0_4) (s_paCons (s_bin o_sub (v_ v0_2) (s_int)) (s_paNil) rfl) rfl) rfl) (s_oneV (s_meth (d := d_Finder_is_found) O0 rfl rfl rfl rfl rfl mb_Finder_is_found (v_ v0_0) (s_paCons (v_ v0_5) (s_paCons (s_bin o_sub (v_ v0_2) (s_int)) (s_paNil) rfl) rfl) rfl)))))
theorem ok_Finder_first_good : BodyOk T d_Finder_first_good := by
  refine ⟨⟨rfl, rfl, rfl, by decide +kernel, rfl, by decide +kernel, by decide +kernel⟩, fun X G g0 H0 k O0 S0 => ?_⟩
  have v0_1 := S0.var 1 ("counts" : Str) (by decide +kernel)
  have g0_questions_of := S0.glo ("questions_of" : Str) (by decide +kernel)
  have t0_3 := S0.tgt 3 ("question" : Str) (by decide +kernel)
  have v0_3 := S0.var 3 ("question" : Str) (by decide +kernel)
  have b0_sum := O0.blt S0 ("sum" : Str) _ PyProof.Rows.boot_sum (by decide +kernel)
  have v0_0 := S0.var 0 ("self" : Str) (by decide +kernel)
  have v0_2 := S0.var 2 ("left" : Str) (by decide +kernel)
  exact ss_cons (for_ O0 (s_items (call_ O0 g0_questions_of (cl_questions_of_1 O0) (s_paCons (v_ v0_1) (s_paNil) rfl) (s_pkNil) rfl rfl (fun z => nomatch z))) (g_ t0_3) (ss_one (s_ifS ((s_and (cmpT_ o_le (s_bin o_mul (s_int) (bl_ b0_sum (c_sum O0.calm) (s_paCons (v_ v0_3) (s_paNil) rfl) rfl)) (bl_ b0_sum (c_sum O0.calm) (s_paCons (v_ v0_1) (s_paNil) rfl) rfl) rfl) (s_and1 (s_truth (s_meth (d := d_Finder_is_good) O0 rfl rfl rfl rfl rfl mb_Finder_is_good (v_ v0_0) (s_paCons (v_ v0_1) (s_paCons (v_ v0_2) (s_paCons (v_ v0_3) (s_paNil) rfl) rfl) rfl) rfl) (fun _ => rfl)))).pt) (ss_one (s_ret (v_ v0_3))) (ss_nil))) (fun _ => rfl)) (ss_one (s_ret (s_non)))
theorem ok_Finder_all_good : BodyOk T d_Finder_all_good := by
  refine ⟨⟨rfl, rfl, rfl, by decide +kernel, rfl, by decide +kernel, by decide +kernel⟩, fun X G g0 H0 k O0 S0 => ?_⟩
  exact ss_one (badS_)
theorem ok_is_found_of : BodyOk T d_is_found_of := by
  refine ⟨⟨rfl, rfl, rfl, by decide +kernel, rfl, by decide +kernel, by decide +kernel⟩, fun X G g0 H0 k O0 S0 => ?_⟩
  have g0_Finder := S0.glo ("Finder" : Str) (by decide +kernel)
  have v0_1 := S0.var 1 ("left" : Str) (by decide +kernel)
  have v0_0 := S0.var 0 ("counts" : Str) (by decide +kernel)
  exact ss_clean (ss_one (s_ret (s_meth (d := d_Finder_is_found) O0 rfl rfl rfl rfl rfl mb_Finder_is_found (s_make0 (d := d_Finder___init__) O0 g0_Finder rfl rfl rfl rfl rfl mb_Finder___init__) (s_paCons (v_ v0_0) (s_paCons (v_ v0_1) (s_paNil) rfl) rfl) rfl)))
theorem ok_least_of : BodyOk T d_least_of := by
  refine ⟨⟨rfl, rfl, rfl, by decide +kernel, rfl, by decide +kernel, by decide +kernel⟩, fun X G g0 H0 k O0 S0 => ?_⟩
  have t0_1 := S0.tgt 1 ("finder" : Str) (by decide +kernel)
  have g0_Finder := S0.glo ("Finder" : Str) (by decide +kernel)
  have g0_MOST_LEFT_finding := S0.glo ("MOST_LEFT_finding" : Str) (by decide +kernel)
  have b0_range := O0.blt S0 ("range" : Str) _ PyProof.Rows.boot_range (by decide +kernel)
  have t0_2 := S0.tgt 2 ("left" : Str) (by decide +kernel)
  have v0_1 := S0.var 1 ("finder" : Str) (by decide +kernel)
  have v0_2 := S0.var 2 ("left" : Str) (by decide +kernel)
  have v0_0 := S0.var 0 ("counts" : Str) (by decide +kernel)
  exact ss_clean (ss_cons (set_ t0_1 (s_make0 (d := d_Finder___init__) O0 g0_Finder rfl rfl rfl rfl rfl mb_Finder___init__) rfl) (ss_cons (for_ O0 (range1_ b0_range (s_paCons (s_bin o_add (O0.val g0_MOST_LEFT_finding (.tail _ (.tail _ (.tail _ (.tail _ (.tail _ (.tail _ (.tail _ (.head _))))))))) (s_int)) (s_paNil) rfl) rfl) (g_ t0_2) (ss_one (s_ifS (s_truth (s_meth (d := d_Finder_is_found) O0 rfl rfl rfl rfl rfl mb_Finder_is_found (v_ v0_1) (s_paCons (v_ v0_0) (s_paCons (v_ v0_2) (s_paNil) rfl) rfl) rfl) (fun _ => rfl)) (ss_one (s_ret (v_ v0_2))) (ss_nil))) (fun _ => rfl)) (ss_one (s_ret (s_non)))))
theorem ok_want_few : BodyOk T d_want_few := by
  refine ⟨⟨rfl, rfl, rfl, by decide +kernel, rfl, by decide +kernel, by decide +kernel⟩, fun X G g0 H0 k O0 S0 => ?_⟩
  have v0_0 := S0.var 0 ("counts" : Str) (by decide +kernel)
  have b0_sum := O0.blt S0 ("sum" : Str) _ PyProof.Rows.boot_sum (by decide +kernel)
  have g0_MOST_THINGS_finding := S0.glo ("MOST_THINGS_finding" : Str) (by decide +kernel)
  have g0_want_at_most := S0.glo ("want_at_most" : Str) (by decide +kernel)
  have v0_1 := S0.var 1 ("left" : Str) (by decide +kernel)
  have g0_MOST_LEFT_finding := S0.glo ("MOST_LEFT_finding" : Str) (by decide +kernel)
  exact ss_cons (s_expr (call_ O0 g0_want_at_most (cl_want_at_most_3 O0) (s_paCons (s_str) (s_paCons (O0.val g0_MOST_THINGS_finding (.tail _ (.tail _ (.tail _ (.tail _ (.tail _ (.tail _ (.tail _ (.tail _ (.head _)))))))))) (s_paCons (bl_ b0_sum (c_sum O0.calm) (s_paCons (v_ v0_0) (s_paNil) rfl) rfl) (s_paNil) rfl) rfl) rfl) (s_pkNil) rfl rfl (fun z => nomatch z)) rfl) (ss_one (s_expr (call_ O0 g0_want_at_most (cl_want_at_most_3 O0) (s_paCons (s_str) (s_paCons (O0.val g0_MOST_LEFT_finding (.tail _ (.tail _ (.tail _ (.tail _ (.tail _ (.tail _ (.tail _ (.head _))))))))) (s_paCons (v_ v0_1) (s_paNil) rfl) rfl) rfl) (s_pkNil) rfl rfl (fun z => nomatch z)) rfl))
theorem ok_want_searched : BodyOk T d_want_searched := by
  refine ⟨⟨rfl, rfl, rfl, by decide +kernel, rfl, by decide +kernel, by decide +kernel⟩, fun X G g0 H0 k O0 S0 => ?_⟩
  have v0_0 := S0.var 0 ("counts" : Str) (by decide +kernel)
  have g0_want_counts := S0.glo ("want_counts" : Str) (by decide +kernel)
  have v0_1 := S0.var 1 ("left" : Str) (by decide +kernel)
  have g0_want_left := S0.glo ("want_left" : Str) (by decide +kernel)
  have g0_want_few := S0.glo ("want_few" : Str) (by decide +kernel)
  exact ss_cons (s_expr (call_ O0 g0_want_counts (cl_want_counts_1 O0) (s_paCons (v_ v0_0) (s_paNil) rfl) (s_pkNil) rfl rfl (fun z => nomatch z)) rfl) (ss_one (s_expr (call_ O0 g0_want_few (cl_want_few_2 O0) (s_paCons (v_ v0_0) (s_paCons (call_ O0 g0_want_left (cl_want_left_1 O0) (s_paCons (v_ v0_1) (s_paNil) rfl) (s_pkNil) rfl rfl (fun z => nomatch z)) (s_paNil) rfl) rfl) (s_pkNil) rfl rfl (fun z => nomatch z)) rfl))
theorem ok_is_found : BodyOk T d_is_found := by
  refine ⟨⟨rfl, rfl, rfl, by decide +kernel, rfl, by decide +kernel, by decide +kernel⟩, fun X G g0 H0 k O0 S0 => ?_⟩
  have v0_1 := S0.var 1 ("left" : Str) (by decide +kernel)
  have v0_0 := S0.var 0 ("counts" : Str) (by decide +kernel)
  have g0_want_searched := S0.glo ("want_searched" : Str) (by decide +kernel)
  have g0_is_found_of := S0.glo ("is_found_of" : Str) (by decide +kernel)
  exact ss_cons (s_expr (call_ O0 g0_want_searched (cl_want_searched_2 O0) (s_paCons (v_ v0_0) (s_paCons (v_ v0_1) (s_paNil) rfl) rfl) (s_pkNil) rfl rfl (fun z => nomatch z)) rfl) (ss_one (s_ret (call_ O0 g0_is_found_of (cl_is_found_of_2 O0) (s_paCons (v_ v0_0) (s_paCons (v_ v0_1) (s_paNil) rfl) rfl) (s_pkNil) rfl rfl (fun z => nomatch z))))
theorem ok_least : BodyOk T d_least := by
  refine ⟨⟨rfl, rfl, rfl, by decide +kernel, rfl, by decide +kernel, by decide +kernel⟩, fun X G g0 H0 k O0 S0 => ?_⟩
  have v0_0 := S0.var 0 ("counts" : Str) (by decide +kernel)
  have g0_want_counts := S0.glo ("want_counts" : Str) (by decide +kernel)
  have g0_want_few := S0.glo ("want_few" : Str) (by decide +kernel)
  have g0_least_of := S0.glo ("least_of" : Str) (by decide +kernel)
  exact ss_cons (s_expr (call_ O0 g0_want_few (cl_want_few_2 O0) (s_paCons (call_ O0 g0_want_counts (cl_want_counts_1 O0) (s_paCons (v_ v0_0) (s_paNil) rfl) (s_pkNil) rfl rfl (fun z => nomatch z)) (s_paCons (s_int) (s_paNil) rfl) rfl) (s_pkNil) rfl rfl (fun z => nomatch z)) rfl) (ss_one (s_ret (call_ O0 g0_least_of (cl_least_of_1 O0) (s_paCons (v_ v0_0) (s_paNil) rfl) (s_pkNil) rfl rfl (fun z => nomatch z))))
theorem ok__law_pot : BodyOk T d__law_pot := by
  refine ⟨⟨rfl, rfl, rfl, by decide +kernel, rfl, by decide +kernel, by decide +kernel⟩, fun X G g0 H0 k O0 S0 => ?_⟩
  have t0_2 := S0.tgt 2 ("cell" : Str) (by decide +kernel)
  have v0_1 := S0.var 1 ("k" : Str) (by decide +kernel)
  have v0_0 := S0.var 0 ("script" : Str) (by decide +kernel)
  have b0_len := O0.blt S0 ("len" : Str) _ PySem.boot_len (by decide +kernel)
  have b0_abs := O0.blt S0 ("abs" : Str) _ PyProof.Rows.boot_abs (by decide +kernel)
  have v0_2 := S0.var 2 ("cell" : Str) (by decide +kernel)
  have b0_int := O0.blt S0 ("int" : Str) (.type "int") PyProof.Rows.boot_int (by decide +kernel)
  have b0_max := O0.blt S0 ("max" : Str) _ PyProof.Rows.boot_max (by decide +kernel)
  exact ss_cons (set_ t0_2 (s_if (cmpT_ o_lt (v_ v0_1) (bl_ b0_len c_len (s_paCons (v_ v0_0) (s_paNil) rfl) rfl) rfl) (bl_ b0_abs c_abs (s_paCons (s_ix (v_ v0_0) (v_ v0_1) rfl) (s_paNil) rfl) rfl) (s_bin o_add (s_bin o_mul (s_int) (v_ v0_1)) (s_int))) rfl) (ss_one (s_ret (PE.cell (s_disp (s_paCons (bl_ b0_max (c_maxL O0.calm) (s_paCons (s_int) (s_paCons (s_bin o_sub (v_ v0_2) (s_bin o_pow (s_int) (s_int))) (s_paNil) rfl) rfl) rfl) (s_paCons (s_bin o_add (s_bin o_mod (ty_ b0_int c_int (s_paCons (s_bin o_add (s_bin o_add (s_bin o_mul (s_bin o_mod (ty_ b0_int c_int (s_paCons (v_ v0_2) (s_paNil) rfl) rfl) (s_int)) (s_int)) (s_bin o_mul (s_int) (v_ v0_1))) (s_int)) (s_paNil) rfl) rfl) (s_int)) (s_int)) (s_paNil) rfl) rfl)))))
theorem ok__law_draw : BodyOk T d__law_draw := by
  refine ⟨⟨rfl, rfl, rfl, by decide +kernel, rfl, by decide +kernel, by decide +kernel⟩, fun X G g0 H0 k O0 S0 => ?_⟩
  have v0_0 := S0.var 0 ("pot" : Str) (by decide +kernel)
  have v0_1 := S0.var 1 ("many" : Str) (by decide +kernel)
  have b0_divmod := O0.blt S0 ("divmod" : Str) _ PyProof.Rows.boot_divmod (by decide +kernel)
  have t0_2 := S0.tgt 2 ("digit" : Str) (by decide +kernel)
  have v0_2 := S0.var 2 ("digit" : Str) (by decide +kernel)
  have b0_int := O0.blt S0 ("int" : Str) (.type "int") PyProof.Rows.boot_int (by decide +kernel)
  exact ss_cons (s_ifS (cmpT_ o_gt (s_ix (v_ v0_0) (s_int) rfl) (s_int) rfl) (ss_cons (s_asg (bl_ b0_divmod c_divmod (s_paCons (s_ix (v_ v0_0) (s_int) rfl) (s_paCons (v_ v0_1) (s_paNil) rfl) rfl) rfl) (s_pgTup O0.calm (s_pgsCons (pgi_ v0_0 (s_int) rfl) (s_pgsCons (pgn_ t0_2) (s_pgsNil) rfl) rfl) rfl) rfl rfl rfl) (ss_one (s_ret (v_ v0_2)))) (ss_nil)) (ss_cons (s_asg (s_bin o_mod (ty_ b0_int c_int (s_paCons (s_bin o_add (s_bin o_mul (s_ix (v_ v0_0) (s_int) rfl) (s_int)) (s_int)) (s_paNil) rfl) rfl) (s_int)) (pgi_ v0_0 (s_int) rfl) rfl rfl rfl) (ss_one (s_ret (s_bin o_mod (ty_ b0_int c_int (s_paCons (s_bin o_fdiv (s_bin o_mod (ty_ b0_int c_int (s_paCons (s_bin o_mul (s_ix (v_ v0_0) (s_int) rfl) (s_ix (v_ v0_0) (s_int) rfl)) (s_paNil) rfl) rfl) (s_int)) (s_int)) (s_paNil) rfl) rfl) (v_ v0_1)))))
theorem ok__law_pick : BodyOk T d__law_pick := by
  refine ⟨⟨rfl, rfl, rfl, by decide +kernel, rfl, by decide +kernel, by decide +kernel⟩, fun X G g0 H0 k O0 S0 => ?_⟩
  have v0_1 := S0.var 1 ("some" : Str) (by decide +kernel)
  have b0_len := O0.blt S0 ("len" : Str) _ PySem.boot_len (by decide +kernel)
  have v0_0 := S0.var 0 ("pot" : Str) (by decide +kernel)
  have g0__law_draw := S0.glo ("_law_draw" : Str) (by decide +kernel)
  exact ss_one (s_ret (s_ix (v_ v0_1) (call_ O0 g0__law_draw (cl__law_draw_2 O0) (s_paCons (v_ v0_0) (s_paCons (bl_ b0_len c_len (s_paCons (v_ v0_1) (s_paNil) rfl) rfl) (s_paNil) rfl) rfl) (s_pkNil) rfl rfl (fun z => nomatch z)) rfl))
theorem ok__law_questions : BodyOk T d__law_questions := by
  refine ⟨⟨rfl, rfl, rfl, by decide +kernel, rfl, by decide +kernel, by decide +kernel⟩, fun X G g0 H0 k O0 S0 => ?_⟩
  have t0_1 := S0.tgt 1 ("found" : Str) (by decide +kernel)
  have v0_0 := S0.var 0 ("counts" : Str) (by decide +kernel)
  have t0_2 := S0.tgt 2 ("number" : Str) (by decide +kernel)
  have t0_3 := S0.tgt 3 ("longer" : Str) (by decide +kernel)
  have v0_1 := S0.var 1 ("found" : Str) (by decide +kernel)
  have t0_4 := S0.tgt 4 ("one" : Str) (by decide +kernel)
  have v0_3 := S0.var 3 ("longer" : Str) (by decide +kernel)
  have v0_2 := S0.var 2 ("number" : Str) (by decide +kernel)
  have b0_range := O0.blt S0 ("range" : Str) _ PyProof.Rows.boot_range (by decide +kernel)
  exact ss_cons (set_ t0_1 (s_lst (s_paCons (s_tup (s_paNil)) (s_paNil) rfl)) rfl) (ss_cons (for_ O0 (s_items (v_ v0_0)) (g_ t0_2) (ss_cons (own_ t0_3 (s_disp (s_paNil)) rfl) (ss_cons (for_ O0 (s_items (v_ v0_1)) (g_ t0_4) (ss_one (extend_ v0_3 (PE.val (comp_ O0 S0 [(("asked" : Str), 5)] (range1_ b0_range (s_paCons (s_bin o_add (v_ v0_2) (s_int)) (s_paNil) rfl) rfl) ⟨rfl, by decide +kernel, by decide +kernel, by decide +kernel, by decide +kernel⟩ (by decide) (fun X1 O1 S1 => by have t1_5 := S1.tgt 5 ("asked" : Str) (by decide +kernel); exact g_ t1_5) (fun X1 O1 S1 => by exact pts0_) (fun X1 O1 S1 => by have v1_4 := S1.var 4 ("one" : Str) (by decide +kernel); have v1_5 := S1.var 5 ("asked" : Str) (by decide +kernel); exact s_bin o_add (v_ v1_4) (s_tup (s_paCons (v_ v1_5) (s_paNil) rfl))) (fun _ => rfl))) rfl rfl)) (fun _ => rfl)) (ss_one (s_frz (set_ t0_1 (v_ v0_3) rfl))))) (fun _ => rfl)) (ss_one (s_ret (v_ v0_1))))
theorem ok__law_half : BodyOk T d__law_half := by
  refine ⟨⟨rfl, rfl, rfl, by decide +kernel, rfl, by decide +kernel, by decide +kernel⟩, fun X G g0 H0 k O0 S0 => ?_⟩
  have l0_3 := S0.tgn 3 ("lies" : Str) (by decide +kernel)
  have l0_4 := S0.tgn 4 ("found" : Str) (by decide +kernel)
  have v0_0 := S0.var 0 ("counts" : Str) (by decide +kernel)
  have b0_len := O0.blt S0 ("len" : Str) _ PySem.boot_len (by decide +kernel)
  have t0_5 := S0.tgt 5 ("answer" : Str) (by decide +kernel)
  have t0_6 := S0.tgt 6 ("late" : Str) (by decide +kernel)
  have v0_3 := S0.var 3 ("lies" : Str) (by decide +kernel)
  have b0_range := O0.blt S0 ("range" : Str) _ PyProof.Rows.boot_range (by decide +kernel)
  have t0_7 := S0.tgt 7 ("at" : Str) (by decide +kernel)
  have l0_8 := S0.tgn 8 ("fits" : Str) (by decide +kernel)
  have l0_9 := S0.tgn 9 ("against" : Str) (by decide +kernel)
  have v0_2 := S0.var 2 ("question" : Str) (by decide +kernel)
  have v0_7 := S0.var 7 ("at" : Str) (by decide +kernel)
  have v0_5 := S0.var 5 ("answer" : Str) (by decide +kernel)
  have v0_9 := S0.var 9 ("against" : Str) (by decide +kernel)
  have v0_8 := S0.var 8 ("fits" : Str) (by decide +kernel)
  have v0_6 := S0.var 6 ("late" : Str) (by decide +kernel)
  have v0_1 := S0.var 1 ("word" : Str) (by decide +kernel)
  have v0_4 := S0.var 4 ("found" : Str) (by decide +kernel)
  have b0_tuple := O0.blt S0 ("tuple" : Str) (.type "tuple") PyProof.Rows.boot_tuple (by decide +kernel)
  exact ss_cons (par2s_ O0 S0 rfl l0_3 l0_4 (by decide) (s_mV (bl_ b0_len c_len (s_paCons (v_ v0_0) (s_paNil) rfl) rfl)) (s_mO (s_disp (s_paNil))) rfl rfl rfl (by decide +kernel) rfl rfl) (ss_cons (for_ O0 (s_items (s_tup (s_paCons (s_str) (s_paCons (s_str) (s_paNil) rfl) rfl))) (g_ t0_5) (ss_cons (own_ t0_6 (s_rep (s_lst (s_paCons (s_int) (s_paNil) rfl)) (v_ v0_3)) rfl) (ss_cons (for_ O0 (range1_ b0_range (s_paCons (v_ v0_3) (s_paNil) rfl) rfl) (g_ t0_7) (ss_cons (par2s_ O0 S0 rfl l0_8 l0_9 (by decide) (s_mV (s_ix (v_ v0_2) (v_ v0_7) rfl)) (s_mV (s_bin o_sub (s_ix (v_ v0_0) (v_ v0_7) rfl) (s_ix (v_ v0_2) (v_ v0_7) rfl))) rfl rfl rfl (by decide +kernel) rfl rfl) (ss_cons (s_ifS (cmpT_ (o_eq O0.un) (v_ v0_5) (s_str) rfl) (ss_one (par2s_ O0 S0 rfl l0_8 l0_9 (by decide) (s_mV (v_ v0_9)) (s_mV (v_ v0_8)) rfl rfl rfl (by decide +kernel) rfl rfl)) (ss_nil)) (ss_cons (s_asg (s_bin o_add (s_ix (v_ v0_6) (v_ v0_7) rfl) (v_ v0_8)) (pgi_ v0_6 (v_ v0_7) rfl) rfl rfl rfl) (ss_one (s_ifS ((s_and (cmpT_ (o_eq O0.un) (v_ v0_5) (v_ v0_1) rfl) (s_and1 (cmpT_ o_lt (s_bin o_add (v_ v0_7) (s_int)) (v_ v0_3) rfl))).pt) (ss_one (s_asg (s_bin o_add (s_ix (v_ v0_6) (s_bin o_add (v_ v0_7) (s_int)) rfl) (v_ v0_9)) (pgi_ v0_6 (s_bin o_add (v_ v0_7) (s_int)) rfl) rfl rfl rfl)) (ss_nil)))))) (fun _ => rfl)) (ss_one (append_ v0_4 (ty_ b0_tuple c_tuple (s_paCons (v_ v0_6) (s_paNil) rfl) rfl) rfl rfl)))) (fun _ => rfl)) (ss_one (s_ret (s_tup (s_paCons (s_ix (v_ v0_4) (s_int) rfl) (s_paCons (s_ix (v_ v0_4) (s_int) rfl) (s_paNil) rfl) rfl)))))
theorem ok__law_finds : BodyOk T d__law_finds := by
  refine ⟨⟨rfl, rfl, rfl, by decide +kernel, rfl, by decide +kernel, by decide +kernel⟩, fun X G g0 H0 k O0 S0 => ?_⟩
  have v0_0 := S0.var 0 ("counts" : Str) (by decide +kernel)
  have b0_sum := O0.blt S0 ("sum" : Str) _ PyProof.Rows.boot_sum (by decide +kernel)
  have v0_1 := S0.var 1 ("left" : Str) (by decide +kernel)
  have v0_3 := S0.var 3 ("known" : Str) (by decide +kernel)
  have g0__law_questions := S0.glo ("_law_questions" : Str) (by decide +kernel)
  have t0_4 := S0.tgt 4 ("question" : Str) (by decide +kernel)
  have v0_4 := S0.var 4 ("question" : Str) (by decide +kernel)
  have v0_2 := S0.var 2 ("word" : Str) (by decide +kernel)
  have g0__law_half := S0.glo ("_law_half" : Str) (by decide +kernel)
  have t0_5 := S0.tgt 5 ("yes" : Str) (by decide +kernel)
  have t0_6 := S0.tgt 6 ("no" : Str) (by decide +kernel)
  have v0_5 := S0.var 5 ("yes" : Str) (by decide +kernel)
  have g0__law_finds := S0.glo ("_law_finds" : Str) (by decide +kernel)
  have v0_6 := S0.var 6 ("no" : Str) (by decide +kernel)
  exact ss_memo memAt_ok (ss_cons (s_ifS (cmpT_ o_lt (bl_ b0_sum (c_sum O0.calm) (s_paCons (v_ v0_0) (s_paNil) rfl) rfl) (s_int) rfl) (ss_one (s_ret (s_bl))) (ss_nil)) (ss_cons (s_ifS (cmpT_ (o_eq O0.un) (v_ v0_1) (s_int) rfl) (ss_one (s_ret (s_bl))) (ss_nil)) (ss_cons (s_ifS (cmpT_ (o_notinM O0.un65) (s_tup (s_paCons (v_ v0_0) (s_paCons (v_ v0_1) (s_paNil) rfl) rfl)) (v_ v0_3) rfl) (ss_cons (s_asg (s_bl) (s_pgDic O0.un65 (v_ v0_3) (s_tup (s_paCons (v_ v0_0) (s_paCons (v_ v0_1) (s_paNil) rfl) rfl)) rfl) rfl rfl rfl) (ss_one (for_ O0 (s_items (call_ O0 g0__law_questions (cl__law_questions_1 O0) (s_paCons (v_ v0_0) (s_paNil) rfl) (s_pkNil) rfl rfl (fun z => nomatch z))) (g_ t0_4) (ss_one (s_ifS (s_notT (s_truth (s_dget O0.un65 (v_ v0_3) (s_tup (s_paCons (v_ v0_0) (s_paCons (v_ v0_1) (s_paNil) rfl) rfl)) rfl) (fun _ => rfl))) (ss_cons (s_asg (call_ O0 g0__law_half (cl__law_half_3 O0) (s_paCons (v_ v0_0) (s_paCons (v_ v0_2) (s_paCons (v_ v0_4) (s_paNil) rfl) rfl) rfl) (s_pkNil) rfl rfl (fun z => nomatch z)) (s_pgTup O0.calm (s_pgsCons (pgn_ t0_5) (s_pgsCons (pgn_ t0_6) (s_pgsNil) rfl) rfl) rfl) rfl rfl rfl) (ss_one (s_asg (s_andV (call_ O0 g0__law_finds (cl__law_finds_4 O0) (s_paCons (v_ v0_5) (s_paCons (s_bin o_sub (v_ v0_1) (s_int)) (s_paCons (v_ v0_2) (s_paCons (v_ v0_3) (s_paNil) rfl) rfl) rfl) rfl) (s_pkNil) rfl rfl (fun z => nomatch z)) (s_oneV (call_ O0 g0__law_finds (cl__law_finds_4 O0) (s_paCons (v_ v0_6) (s_paCons (s_bin o_sub (v_ v0_1) (s_int)) (s_paCons (v_ v0_2) (s_paCons (v_ v0_3) (s_paNil) rfl) rfl) rfl) rfl) (s_pkNil) rfl rfl (fun z => nomatch z)))) (s_pgDic O0.un65 (v_ v0_3) (s_tup (s_paCons (v_ v0_0) (s_paCons (v_ v0_1) (s_paNil) rfl) rfl)) rfl) rfl rfl rfl))) (ss_nil))) (fun _ => rfl)))) (ss_nil)) (ss_one (s_ret (s_dget O0.un65 (v_ v0_3) (s_tup (s_paCons (v_ v0_0) (s_paCons (v_ v0_1) (s_paNil) rfl) rfl)) rfl))))))
theorem ok__law_counts : BodyOk T d__law_counts := by
  refine ⟨⟨rfl, rfl, rfl, by decide +kernel, rfl, by decide +kernel, by decide +kernel⟩, fun X G g0 H0 k O0 S0 => ?_⟩
  have l0_2 := S0.tgn 2 ("lies" : Str) (by decide +kernel)
  have l0_3 := S0.tgn 3 ("left" : Str) (by decide +kernel)
  have l0_4 := S0.tgn 4 ("found" : Str) (by decide +kernel)
  have v0_0 := S0.var 0 ("pot" : Str) (by decide +kernel)
  have g0__law_draw := S0.glo ("_law_draw" : Str) (by decide +kernel)
  have v0_1 := S0.var 1 ("most" : Str) (by decide +kernel)
  have v0_2 := S0.var 2 ("lies" : Str) (by decide +kernel)
  have b0_range := O0.blt S0 ("range" : Str) _ PyProof.Rows.boot_range (by decide +kernel)
  have t0_5 := S0.tgt 5 ("at" : Str) (by decide +kernel)
  have t0_6 := S0.tgt 6 ("number" : Str) (by decide +kernel)
  have v0_5 := S0.var 5 ("at" : Str) (by decide +kernel)
  have v0_3 := S0.var 3 ("left" : Str) (by decide +kernel)
  have v0_4 := S0.var 4 ("found" : Str) (by decide +kernel)
  have v0_6 := S0.var 6 ("number" : Str) (by decide +kernel)
  have t0_3 := S0.tgt 3 ("left" : Str) (by decide +kernel)
  have b0_tuple := O0.blt S0 ("tuple" : Str) (.type "tuple") PyProof.Rows.boot_tuple (by decide +kernel)
  exact ss_cons (par3s_ O0 S0 rfl l0_2 l0_3 l0_4 (by decide) (by decide) (by decide) (s_mV (s_bin o_add (s_int) (call_ O0 g0__law_draw (cl__law_draw_2 O0) (s_paCons (v_ v0_0) (s_paCons (s_int) (s_paNil) rfl) rfl) (s_pkNil) rfl rfl (fun z => nomatch z)))) (s_mV (call_ O0 g0__law_draw (cl__law_draw_2 O0) (s_paCons (v_ v0_0) (s_paCons (s_bin o_add (v_ v0_1) (s_int)) (s_paNil) rfl) rfl) (s_pkNil) rfl rfl (fun z => nomatch z))) (s_mO (s_disp (s_paNil))) rfl rfl rfl rfl rfl (by decide +kernel) rfl rfl) (ss_cons (for_ O0 (range1_ b0_range (s_paCons (v_ v0_2) (s_paNil) rfl) rfl) (g_ t0_5) (ss_cons (set_ t0_6 (s_if (cmpT_ o_lt (s_bin o_add (v_ v0_5) (s_int)) (v_ v0_2) rfl) (call_ O0 g0__law_draw (cl__law_draw_2 O0) (s_paCons (v_ v0_0) (s_paCons (s_bin o_add (v_ v0_3) (s_int)) (s_paNil) rfl) rfl) (s_pkNil) rfl rfl (fun z => nomatch z)) (v_ v0_3)) rfl) (ss_cons (append_ v0_4 (v_ v0_6) rfl rfl) (ss_one (set_ t0_3 (s_bin o_sub (v_ v0_3) (v_ v0_6)) rfl)))) (fun _ => rfl)) (ss_one (s_ret (ty_ b0_tuple c_tuple (s_paCons (v_ v0_4) (s_paNil) rfl) rfl))))
theorem ok__law_right : BodyOk T d__law_right := by
  refine ⟨⟨rfl, rfl, rfl, by decide +kernel, rfl, by decide +kernel, by decide +kernel⟩, fun X G g0 H0 k O0 S0 => ?_⟩
  have l0_1 := S0.tgn 1 ("counts" : Str) (by decide +kernel)
  have l0_2 := S0.tgn 2 ("left" : Str) (by decide +kernel)
  have v0_0 := S0.var 0 ("pot" : Str) (by decide +kernel)
  have g0__law_counts := S0.glo ("_law_counts" : Str) (by decide +kernel)
  have g0__law_draw := S0.glo ("_law_draw" : Str) (by decide +kernel)
  have l0_3 := S0.tgn 3 ("near" : Str) (by decide +kernel)
  have l0_4 := S0.tgn 4 ("far" : Str) (by decide +kernel)
  have v0_2 := S0.var 2 ("left" : Str) (by decide +kernel)
  have v0_1 := S0.var 1 ("counts" : Str) (by decide +kernel)
  have g0_is_half_found := S0.glo ("is_half_found" : Str) (by decide +kernel)
  have v0_4 := S0.var 4 ("far" : Str) (by decide +kernel)
  have v0_3 := S0.var 3 ("near" : Str) (by decide +kernel)
  have b0_repr := O0.blt S0 ("repr" : Str) _ PyProof.Rows.boot_repr (by decide +kernel)
  have g0_is_found := S0.glo ("is_found" : Str) (by decide +kernel)
  have t0_5 := S0.tgt 5 ("some" : Str) (by decide +kernel)
  have g0_least := S0.glo ("least" : Str) (by decide +kernel)
  have g0_least_half_left := S0.glo ("least_half_left" : Str) (by decide +kernel)
  have v0_5 := S0.var 5 ("some" : Str) (by decide +kernel)
  have b0_len := O0.blt S0 ("len" : Str) _ PySem.boot_len (by decide +kernel)
  have t0_6 := S0.tgt 6 ("question" : Str) (by decide +kernel)
  have g0__law_questions := S0.glo ("_law_questions" : Str) (by decide +kernel)
  have g0__law_pick := S0.glo ("_law_pick" : Str) (by decide +kernel)
  have l0_7 := S0.tgn 7 ("whole" : Str) (by decide +kernel)
  have l0_8 := S0.tgn 8 ("turned" : Str) (by decide +kernel)
  have v0_6 := S0.var 6 ("question" : Str) (by decide +kernel)
  have g0_both := S0.glo ("both" : Str) (by decide +kernel)
  have g0_rest := S0.glo ("rest" : Str) (by decide +kernel)
  have t0_9 := S0.tgt 9 ("word" : Str) (by decide +kernel)
  have t0_10 := S0.tgt 10 ("half" : Str) (by decide +kernel)
  have v0_9 := S0.var 9 ("word" : Str) (by decide +kernel)
  have g0_half_behind := S0.glo ("half_behind" : Str) (by decide +kernel)
  have v0_7 := S0.var 7 ("whole" : Str) (by decide +kernel)
  have v0_10 := S0.var 10 ("half" : Str) (by decide +kernel)
  have b0_zip := O0.blt S0 ("zip" : Str) _ PyProof.Rows.boot_zip (by decide +kernel)
  have b0_all := O0.blt S0 ("all" : Str) _ PyProof.Rows.boot_all (by decide +kernel)
  have v0_8 := S0.var 8 ("turned" : Str) (by decide +kernel)
  have t0_11 := S0.tgt 11 ("at" : Str) (by decide +kernel)
  have v0_11 := S0.var 11 ("at" : Str) (by decide +kernel)
  have t0_12 := S0.tgt 12 ("less" : Str) (by decide +kernel)
  have v0_12 := S0.var 12 ("less" : Str) (by decide +kernel)
  have t0_13 := S0.tgt 13 ("late" : Str) (by decide +kernel)
  have v0_13 := S0.var 13 ("late" : Str) (by decide +kernel)
  have b0_min := O0.blt S0 ("min" : Str) _ PyProof.Rows.boot_min (by decide +kernel)
  exact ss_cons (par2s_ O0 S0 rfl l0_1 l0_2 (by decide) (s_mV (call_ O0 g0__law_counts (cl__law_counts_2 O0) (s_paCons (v_ v0_0) (s_paCons (s_int) (s_paNil) rfl) rfl) (s_pkNil) rfl rfl (fun z => nomatch z))) (s_mV (call_ O0 g0__law_draw (cl__law_draw_2 O0) (s_paCons (v_ v0_0) (s_paCons (s_int) (s_paNil) rfl) rfl) (s_pkNil) rfl rfl (fun z => nomatch z))) rfl rfl rfl (by decide +kernel) rfl rfl) (ss_cons (par2s_ O0 S0 rfl l0_3 l0_4 (by decide) (s_mV (call_ O0 g0_is_half_found (cl_is_half_found_2 O0) (s_paCons (s_tup (s_paCons (v_ v0_1) (s_paCons (v_ v0_2) (s_paNil) rfl) rfl)) (s_paCons (s_str) (s_paNil) rfl) rfl) (s_pkNil) rfl rfl (fun z => nomatch z))) (s_mV (call_ O0 g0_is_half_found (cl_is_half_found_2 O0) (s_paCons (s_tup (s_paCons (v_ v0_1) (s_paCons (v_ v0_2) (s_paNil) rfl) rfl)) (s_paCons (s_str) (s_paNil) rfl) rfl) (s_pkNil) rfl rfl (fun z => nomatch z))) rfl rfl rfl (by decide +kernel) rfl rfl) (ss_cons (s_ifS ((s_or (cmpT_ (o_notin O0.un65) (bl_ b0_repr (c_repr O0.gu O0.un) (s_paCons (s_lst (s_paCons (v_ v0_3) (s_paCons (v_ v0_4) (s_paNil) rfl) rfl)) (s_paNil) rfl) rfl) (s_tup (s_paCons (s_str) (s_paCons (s_str) (s_paNil) rfl) rfl)) rfl) (s_or1 ((s_and (s_truth (call_ O0 g0_is_found (cl_is_found_2 O0) (s_paCons (v_ v0_1) (s_paCons (v_ v0_2) (s_paNil) rfl) rfl) (s_pkNil) rfl rfl (fun z => nomatch z)) (fun _ => rfl)) (s_and1 (s_notT (s_truth (v_ v0_3) (fun _ => rfl))))).pt))).pt) (ss_one (s_ret (s_bl))) (ss_nil)) (ss_cons (set_ t0_5 (s_lst (s_paCons (call_ O0 g0_least_half_left (cl_least_half_left_2 O0) (s_paCons (v_ v0_1) (s_paCons (s_str) (s_paNil) rfl) rfl) (s_pkNil) rfl rfl (fun z => nomatch z)) (s_paCons (call_ O0 g0_least_half_left (cl_least_half_left_2 O0) (s_paCons (v_ v0_1) (s_paCons (s_str) (s_paNil) rfl) rfl) (s_pkNil) rfl rfl (fun z => nomatch z)) (s_paCons (call_ O0 g0_least (cl_least_1 O0) (s_paCons (v_ v0_1) (s_paNil) rfl) (s_pkNil) rfl rfl (fun z => nomatch z)) (s_paNil) rfl) rfl) rfl)) rfl) (ss_cons (s_ifS ((s_or (cmpT_ (o_ne O0.un) (s_ix (v_ v0_5) (s_int) rfl) (s_ix (v_ v0_5) (s_int) rfl) rfl) (s_or1 ((s_and (cmpT_ o_isnot (s_ix (v_ v0_5) (s_int) rfl) (s_non) rfl) (s_and1 ((s_or (cmpT_ o_is (s_ix (v_ v0_5) (s_int) rfl) (s_non) rfl) (s_or1 (cmpT_ o_gt (s_ix (v_ v0_5) (s_int) rfl) (s_ix (v_ v0_5) (s_int) rfl) rfl))).pt))).pt))).pt) (ss_one (s_ret (s_bl))) (ss_nil)) (ss_cons (s_ifS ((s_and (cmpT_ (o_eq O0.un) (bl_ b0_len c_len (s_paCons (v_ v0_1) (s_paNil) rfl) rfl) (s_int) rfl) (s_and1 ((s_or (cmpT_ (o_ne O0.un) (v_ v0_3) (call_ O0 g0_is_found (cl_is_found_2 O0) (s_paCons (v_ v0_1) (s_paCons (v_ v0_2) (s_paNil) rfl) rfl) (s_pkNil) rfl rfl (fun z => nomatch z)) rfl) (s_or1 (cmpT_ (o_ne O0.un) (s_ix (v_ v0_5) (s_int) rfl) (s_ix (v_ v0_5) (s_int) rfl) rfl))).pt))).pt) (ss_one (s_ret (s_bl))) (ss_nil)) (ss_cons (set_ t0_6 (call_ O0 g0__law_pick (cl__law_pick_2 O0) (s_paCons (v_ v0_0) (s_paCons (call_ O0 g0__law_questions (cl__law_questions_1 O0) (s_paCons (v_ v0_1) (s_paNil) rfl) (s_pkNil) rfl rfl (fun z => nomatch z)) (s_paNil) rfl) rfl) (s_pkNil) rfl rfl (fun z => nomatch z)) rfl) (ss_cons (par2s_ O0 S0 rfl l0_7 l0_8 (by decide) (s_mV (call_ O0 g0_both (cl_both_2 O0) (s_paCons (v_ v0_1) (s_paCons (v_ v0_6) (s_paNil) rfl) rfl) (s_pkNil) rfl rfl (fun z => nomatch z))) (s_mV (call_ O0 g0_rest (cl_rest_2 O0) (s_paCons (v_ v0_1) (s_paCons (v_ v0_6) (s_paNil) rfl) rfl) (s_pkNil) rfl rfl (fun z => nomatch z))) rfl rfl rfl (by decide +kernel) rfl rfl) (ss_cons (for_ O0 (s_items (s_tup (s_paCons (s_str) (s_paCons (s_str) (s_paNil) rfl) rfl))) (g_ t0_9) (ss_cons (set_ t0_10 (call_ O0 g0_half_behind (cl_half_behind_3 O0) (s_paCons (v_ v0_1) (s_paCons (v_ v0_9) (s_paCons (v_ v0_6) (s_paNil) rfl) rfl) rfl) (s_pkNil) rfl rfl (fun z => nomatch z)) rfl) (ss_cons (s_ifS (s_notT (s_truth (bl_ b0_all (c_all O0.calm) (s_paCons (PE.val (comp_ O0 S0 [(("late" : Str), 13), (("full" : Str), 14)] (zipX_ b0_zip (s_paCons (v_ v0_10) (s_paCons (v_ v0_7) (s_paNil) rfl) rfl) rfl rfl) ⟨rfl, by decide +kernel, by decide +kernel, by decide +kernel, by decide +kernel⟩ (by decide) (fun X1 O1 S1 => by have t1_13 := S1.tgt 13 ("late" : Str) (by decide +kernel); have t1_14 := S1.tgt 14 ("full" : Str) (by decide +kernel); exact s_gTup O1.calm (s_gsCons (g_ t1_13) (s_gsCons (g_ t1_14) (s_gsNil) rfl) rfl) rfl rfl) (fun X1 O1 S1 => by exact pts0_) (fun X1 O1 S1 => by have v1_14 := S1.var 14 ("full" : Str) (by decide +kernel); have v1_13 := S1.var 13 ("late" : Str) (by decide +kernel); have b1_zip := O1.blt S1 ("zip" : Str) _ PyProof.Rows.boot_zip (by decide +kernel); have b1_all := O1.blt S1 ("all" : Str) _ PyProof.Rows.boot_all (by decide +kernel); exact bl_ b1_all (c_all O1.calm) (s_paCons (PE.val (comp_ O1 S1 [(("one" : Str), 15), (("other" : Str), 16)] (zipX_ b1_zip (s_paCons (v_ v1_13) (s_paCons (v_ v1_14) (s_paNil) rfl) rfl) rfl rfl) ⟨rfl, by decide +kernel, by decide +kernel, by decide +kernel, by decide +kernel⟩ (by decide) (fun X2 O2 S2 => by have t2_15 := S2.tgt 15 ("one" : Str) (by decide +kernel); have t2_16 := S2.tgt 16 ("other" : Str) (by decide +kernel); exact s_gTup O2.calm (s_gsCons (g_ t2_15) (s_gsCons (g_ t2_16) (s_gsNil) rfl) rfl) rfl rfl) (fun X2 O2 S2 => by exact pts0_) (fun X2 O2 S2 => by have v2_15 := S2.var 15 ("one" : Str) (by decide +kernel); have v2_16 := S2.var 16 ("other" : Str) (by decide +kernel); exact s_cmp o_le (v_ v2_15) (v_ v2_16) rfl) (fun _ => rfl))) (s_paNil) rfl) rfl) (fun _ => rfl))) (s_paNil) rfl) rfl) (fun _ => rfl))) (ss_one (s_ret (s_bl))) (ss_nil)) (ss_one (s_ifS (cmpT_ (o_ne O0.un) (call_ O0 g0_half_behind (cl_half_behind_3 O0) (s_paCons (v_ v0_1) (s_paCons (s_if (cmpT_ (o_eq O0.un) (v_ v0_9) (s_str) rfl) (s_str) (s_str)) (s_paCons (v_ v0_8) (s_paNil) rfl) rfl) rfl) (s_pkNil) rfl rfl (fun z => nomatch z)) (s_rev (v_ v0_10)) rfl) (ss_one (s_ret (s_bl))) (ss_nil))))) (fun _ => rfl)) (ss_cons (set_ t0_11 (call_ O0 g0__law_draw (cl__law_draw_2 O0) (s_paCons (v_ v0_0) (s_paCons (bl_ b0_len c_len (s_paCons (v_ v0_1) (s_paNil) rfl) rfl) (s_paNil) rfl) rfl) (s_pkNil) rfl rfl (fun z => nomatch z)) rfl) (ss_cons (s_ifS ((s_and (cmpT_ o_gt (s_ix (v_ v0_1) (v_ v0_11) rfl) (s_int) rfl) (s_and1 (s_truth (v_ v0_3) (fun _ => rfl)))).pt) (ss_cons (set_ t0_12 (s_bin o_add (s_bin o_add (s_slice (v_ v0_1) (s_noPart) (s_part (v_ v0_11))) (s_tup (s_paCons (s_bin o_sub (s_ix (v_ v0_1) (v_ v0_11) rfl) (s_int)) (s_paNil) rfl))) (s_slice (v_ v0_1) (s_part (s_bin o_add (v_ v0_11) (s_int))) (s_noPart))) rfl) (ss_cons (s_ifS (cmpT_ o_isnot (call_ O0 g0_is_half_found (cl_is_half_found_2 O0) (s_paCons (s_tup (s_paCons (v_ v0_12) (s_paCons (v_ v0_2) (s_paNil) rfl) rfl)) (s_paCons (s_str) (s_paNil) rfl) rfl) (s_pkNil) rfl rfl (fun z => nomatch z)) (s_bl) rfl) (ss_one (s_ret (s_bl))) (ss_nil)) (ss_one (s_ifS (cmpT_ o_lt (s_bin o_add (v_ v0_11) (s_int)) (bl_ b0_len c_len (s_paCons (v_ v0_1) (s_paNil) rfl) rfl) rfl) (ss_cons (set_ t0_13 (s_bin o_add (s_bin o_add (s_slice (v_ v0_12) (s_noPart) (s_part (s_bin o_add (v_ v0_11) (s_int)))) (s_tup (s_paCons (s_bin o_add (s_ix (v_ v0_12) (s_bin o_add (v_ v0_11) (s_int)) rfl) (s_int)) (s_paNil) rfl))) (s_slice (v_ v0_12) (s_part (s_bin o_add (v_ v0_11) (s_int))) (s_noPart))) rfl) (ss_one (s_ret (s_andV (s_cmp o_is (call_ O0 g0_is_half_found (cl_is_half_found_2 O0) (s_paCons (s_tup (s_paCons (v_ v0_13) (s_paCons (v_ v0_2) (s_paNil) rfl) rfl)) (s_paCons (s_str) (s_paNil) rfl) rfl) (s_pkNil) rfl rfl (fun z => nomatch z)) (s_bl) rfl) (s_oneV (s_cmp o_is (call_ O0 g0_is_half_found (cl_is_half_found_2 O0) (s_paCons (s_tup (s_paCons (v_ v0_13) (s_paCons (bl_ b0_min (c_minL O0.calm) (s_paCons (s_int) (s_paCons (s_bin o_add (v_ v0_2) (s_int)) (s_paNil) rfl) rfl) rfl) (s_paNil) rfl) rfl)) (s_paCons (s_str) (s_paNil) rfl) rfl) (s_pkNil) rfl rfl (fun z => nomatch z)) (s_bl) rfl)))))) (ss_nil))))) (ss_nil)) (ss_one (s_ret (s_bl)))))))))))))
theorem ok_law : BodyOk T d_law := by
  refine ⟨⟨rfl, rfl, rfl, by decide +kernel, rfl, by decide +kernel, by decide +kernel⟩, fun X G g0 H0 k O0 S0 => ?_⟩
  have v0_0 := S0.var 0 ("script" : Str) (by decide +kernel)
  have b0_len := O0.blt S0 ("len" : Str) _ PySem.boot_len (by decide +kernel)
  have b0_min := O0.blt S0 ("min" : Str) _ PyProof.Rows.boot_min (by decide +kernel)
  have b0_max := O0.blt S0 ("max" : Str) _ PyProof.Rows.boot_max (by decide +kernel)
  have b0_range := O0.blt S0 ("range" : Str) _ PyProof.Rows.boot_range (by decide +kernel)
  have b0_all := O0.blt S0 ("all" : Str) _ PyProof.Rows.boot_all (by decide +kernel)
  exact ss_one (s_ret (bl_ b0_all (c_all O0.calm) (s_paCons (PE.val (comp_ O0 S0 [(("k" : Str), 1)] (range1_ b0_range (s_paCons (bl_ b0_max (c_maxL O0.calm) (s_paCons (s_int) (s_paCons (bl_ b0_min (c_minL O0.calm) (s_paCons (s_int) (s_paCons (bl_ b0_len c_len (s_paCons (v_ v0_0) (s_paNil) rfl) rfl) (s_paNil) rfl) rfl) rfl) (s_paNil) rfl) rfl) rfl) (s_paNil) rfl) rfl) ⟨rfl, by decide +kernel, by decide +kernel, by decide +kernel, by decide +kernel⟩ (by decide) (fun X1 O1 S1 => by have t1_1 := S1.tgt 1 ("k" : Str) (by decide +kernel); exact g_ t1_1) (fun X1 O1 S1 => by exact pts0_) (fun X1 O1 S1 => by have v1_1 := S1.var 1 ("k" : Str) (by decide +kernel); have v1_0 := S1.var 0 ("script" : Str) (by decide +kernel); have g1__law_pot := S1.glo ("_law_pot" : Str) (by decide +kernel); have g1__law_right := S1.glo ("_law_right" : Str) (by decide +kernel); exact call_ O1 g1__law_right (cl__law_right_1 O1) (s_paCons (call_ O1 g1__law_pot (cl__law_pot_2 O1) (s_paCons (v_ v1_0) (s_paCons (v_ v1_1) (s_paNil) rfl) rfl) (s_pkNil) rfl rfl (fun z => nomatch z)) (s_paNil) rfl) (s_pkNil) rfl rfl (fun z => nomatch z)) (fun _ => rfl))) (s_paNil) rfl) rfl))
abbrev F := fnsOf T.defs
theorem u_is_integer {k : Nat} {ds : List D} {h : Cells} : F (k + 1) 1 ds h = bodyF 1 m_is_integer (F k) ds h := rfl
theorem u_is_count {k : Nat} {ds : List D} {h : Cells} : F (k + 1) 2 ds h = bodyF 1 m_is_count (F k) ds h := rfl
theorem u_is_below {k : Nat} {ds : List D} {h : Cells} : F (k + 1) 3 ds h = bodyF 2 m_is_below (F k) ds h := rfl
theorem u_is_row {k : Nat} {ds : List D} {h : Cells} : F (k + 1) 4 ds h = bodyF 2 m_is_row (F k) ds h := rfl
theorem u_want_at_most {k : Nat} {ds : List D} {h : Cells} : F (k + 1) 5 ds h = bodyF 3 m_want_at_most (F k) ds h := rfl
theorem u_are_counts_of {k : Nat} {ds : List D} {h : Cells} : F (k + 1) 6 ds h = bodyF 2 m_are_counts_of (F k) ds h := rfl
theorem u_is_left {k : Nat} {ds : List D} {h : Cells} : F (k + 1) 7 ds h = bodyF 1 m_is_left (F k) ds h := rfl
theorem u_is_standing_of {k : Nat} {ds : List D} {h : Cells} : F (k + 1) 8 ds h = bodyF 1 m_is_standing_of (F k) ds h := rfl
theorem u_lies_of {k : Nat} {ds : List D} {h : Cells} : F (k + 1) 9 ds h = bodyF 1 m_lies_of (F k) ds h := rfl
theorem u_together {k : Nat} {ds : List D} {h : Cells} : F (k + 1) 10 ds h = bodyF 1 m_together (F k) ds h := rfl
theorem u_is_settled_of {k : Nat} {ds : List D} {h : Cells} : F (k + 1) 11 ds h = bodyF 1 m_is_settled_of (F k) ds h := rfl
theorem u_want_counts {k : Nat} {ds : List D} {h : Cells} : F (k + 1) 12 ds h = bodyF 1 m_want_counts (F k) ds h := rfl
theorem u_want_left {k : Nat} {ds : List D} {h : Cells} : F (k + 1) 13 ds h = bodyF 1 m_want_left (F k) ds h := rfl
theorem u_want_standing {k : Nat} {ds : List D} {h : Cells} : F (k + 1) 14 ds h = bodyF 1 m_want_standing (F k) ds h := rfl
theorem u_is_question_of {k : Nat} {ds : List D} {h : Cells} : F (k + 1) 15 ds h = bodyF 4 m_is_question_of (F k) ds h := rfl
theorem u_questions_of {k : Nat} {ds : List D} {h : Cells} : F (k + 1) 16 ds h = bodyF 6 m_questions_of (F k) ds h := rfl
theorem u_rest_of {k : Nat} {ds : List D} {h : Cells} : F (k + 1) 17 ds h = bodyF 4 m_rest_of (F k) ds h := rfl
theorem u_behind_yes {k : Nat} {ds : List D} {h : Cells} : F (k + 1) 18 ds h = bodyF 5 m_behind_yes (F k) ds h := rfl
theorem u_behind_no {k : Nat} {ds : List D} {h : Cells} : F (k + 1) 19 ds h = bodyF 2 m_behind_no (F k) ds h := rfl
theorem u_both_behind {k : Nat} {ds : List D} {h : Cells} : F (k + 1) 20 ds h = bodyF 2 m_both_behind (F k) ds h := rfl
theorem u_want_question {k : Nat} {ds : List D} {h : Cells} : F (k + 1) 21 ds h = bodyF 2 m_want_question (F k) ds h := rfl
theorem u_rest {k : Nat} {ds : List D} {h : Cells} : F (k + 1) 22 ds h = bodyF 2 m_rest (F k) ds h := rfl
theorem u_both {k : Nat} {ds : List D} {h : Cells} : F (k + 1) 23 ds h = bodyF 2 m_both (F k) ds h := rfl
theorem u_ways_of {k : Nat} {ds : List D} {h : Cells} : F (k + 1) 24 ds h = bodyF 5 m_ways_of (F k) ds h := rfl
theorem u_weight_of {k : Nat} {ds : List D} {h : Cells} : F (k + 1) 25 ds h = bodyF 5 m_weight_of (F k) ds h := rfl
theorem u_is_heavy_of {k : Nat} {ds : List D} {h : Cells} : F (k + 1) 26 ds h = bodyF 2 m_is_heavy_of (F k) ds h := rfl
theorem u_power_of_two {k : Nat} {ds : List D} {h : Cells} : F (k + 1) 27 ds h = bodyF 3 m_power_of_two (F k) ds h := rfl
theorem u_half_both {k : Nat} {ds : List D} {h : Cells} : F (k + 1) 28 ds h = bodyF 3 m_half_both (F k) ds h := rfl
theorem u_Halves___init__ {k : Nat} {ds : List D} {h : Cells} : F (k + 1) 29 ds h = bodyF 2 m_Halves___init__ (F k) ds h := rfl
theorem u_Halves_is_found {k : Nat} {ds : List D} {h : Cells} : F (k + 1) 30 ds h = bodyF 3 m_Halves_is_found (F k) ds h := rfl
theorem u_Halves_question {k : Nat} {ds : List D} {h : Cells} : F (k + 1) 31 ds h = bodyF 6 m_Halves_question (F k) ds h := rfl
theorem u_least_half {k : Nat} {ds : List D} {h : Cells} : F (k + 1) 32 ds h = bodyF 4 m_least_half (F k) ds h := rfl
theorem u_want_word {k : Nat} {ds : List D} {h : Cells} : F (k + 1) 33 ds h = bodyF 1 m_want_word (F k) ds h := rfl
theorem u_want_small {k : Nat} {ds : List D} {h : Cells} : F (k + 1) 34 ds h = bodyF 2 m_want_small (F k) ds h := rfl
theorem u_want_half {k : Nat} {ds : List D} {h : Cells} : F (k + 1) 35 ds h = bodyF 2 m_want_half (F k) ds h := rfl
theorem u_half_behind {k : Nat} {ds : List D} {h : Cells} : F (k + 1) 36 ds h = bodyF 3 m_half_behind (F k) ds h := rfl
theorem u_is_half_found {k : Nat} {ds : List D} {h : Cells} : F (k + 1) 37 ds h = bodyF 2 m_is_half_found (F k) ds h := rfl
theorem u_least_half_left {k : Nat} {ds : List D} {h : Cells} : F (k + 1) 38 ds h = bodyF 2 m_least_half_left (F k) ds h := rfl
theorem u_Finder___init__ {k : Nat} {ds : List D} {h : Cells} : F (k + 1) 39 ds h = bodyF 1 m_Finder___init__ (F k) ds h := rfl
theorem u_Finder_is_found {k : Nat} {ds : List D} {h : Cells} : F (k + 1) 40 ds h = bodyF 3 m_Finder_is_found (F k) ds h := rfl
theorem u_Finder_is_good {k : Nat} {ds : List D} {h : Cells} : F (k + 1) 41 ds h = bodyF 6 m_Finder_is_good (F k) ds h := rfl
theorem u_Finder_first_good {k : Nat} {ds : List D} {h : Cells} : F (k + 1) 42 ds h = bodyF 4 m_Finder_first_good (F k) ds h := rfl
theorem u_is_found_of {k : Nat} {ds : List D} {h : Cells} : F (k + 1) 44 ds h = bodyF 2 m_is_found_of (F k) ds h := rfl
theorem u_least_of {k : Nat} {ds : List D} {h : Cells} : F (k + 1) 45 ds h = bodyF 3 m_least_of (F k) ds h := rfl
theorem u_want_few {k : Nat} {ds : List D} {h : Cells} : F (k + 1) 46 ds h = bodyF 2 m_want_few (F k) ds h := rfl
theorem u_want_searched {k : Nat} {ds : List D} {h : Cells} : F (k + 1) 47 ds h = bodyF 2 m_want_searched (F k) ds h := rfl
theorem u_is_found {k : Nat} {ds : List D} {h : Cells} : F (k + 1) 48 ds h = bodyF 2 m_is_found (F k) ds h := rfl
theorem u_least {k : Nat} {ds : List D} {h : Cells} : F (k + 1) 49 ds h = bodyF 1 m_least (F k) ds h := rfl
theorem u__law_pot {k : Nat} {ds : List D} {h : Cells} : F (k + 1) 50 ds h = bodyF 3 m__law_pot (F k) ds h := rfl
theorem u__law_draw {k : Nat} {ds : List D} {h : Cells} : F (k + 1) 51 ds h = bodyF 3 m__law_draw (F k) ds h := rfl
theorem u__law_pick {k : Nat} {ds : List D} {h : Cells} : F (k + 1) 52 ds h = bodyF 2 m__law_pick (F k) ds h := rfl
theorem u__law_questions {k : Nat} {ds : List D} {h : Cells} : F (k + 1) 53 ds h = bodyF 6 m__law_questions (F k) ds h := rfl
theorem u__law_counts {k : Nat} {ds : List D} {h : Cells} : F (k + 1) 56 ds h = bodyF 7 m__law_counts (F k) ds h := rfl
theorem u__law_right {k : Nat} {ds : List D} {h : Cells} : F (k + 1) 57 ds h = bodyF 17 m__law_right (F k) ds h := rfl
theorem u_law {k : Nat} {ds : List D} {h : Cells} : F (k + 1) 58 ds h = bodyF 2 m_law (F k) ds h := rfl
theorem ok_all : ∀ (i : Nat) (d : FD), T.defs[i]? = some d → BodyOk T d
  | 0, _, rfl => ok__wall
  | 1, _, rfl => ok_is_integer
  | 2, _, rfl => ok_is_count
  | 3, _, rfl => ok_is_below
  | 4, _, rfl => ok_is_row
  | 5, _, rfl => ok_want_at_most
  | 6, _, rfl => ok_are_counts_of
  | 7, _, rfl => ok_is_left
  | 8, _, rfl => ok_is_standing_of
  | 9, _, rfl => ok_lies_of
  | 10, _, rfl => ok_together
  | 11, _, rfl => ok_is_settled_of
  | 12, _, rfl => ok_want_counts
  | 13, _, rfl => ok_want_left
  | 14, _, rfl => ok_want_standing
  | 15, _, rfl => ok_is_question_of
  | 16, _, rfl => ok_questions_of
  | 17, _, rfl => ok_rest_of
  | 18, _, rfl => ok_behind_yes
  | 19, _, rfl => ok_behind_no
  | 20, _, rfl => ok_both_behind
  | 21, _, rfl => ok_want_question
  | 22, _, rfl => ok_rest
  | 23, _, rfl => ok_both
  | 24, _, rfl => ok_ways_of
  | 25, _, rfl => ok_weight_of
  | 26, _, rfl => ok_is_heavy_of
  | 27, _, rfl => ok_power_of_two
  | 28, _, rfl => ok_half_both
  | 29, _, rfl => ok_Halves___init__
  | 30, _, rfl => ok_Halves_is_found
  | 31, _, rfl => ok_Halves_question
  | 32, _, rfl => ok_least_half
  | 33, _, rfl => ok_want_word
  | 34, _, rfl => ok_want_small
  | 35, _, rfl => ok_want_half
  | 36, _, rfl => ok_half_behind
  | 37, _, rfl => ok_is_half_found
  | 38, _, rfl => ok_least_half_left
  | 39, _, rfl => ok_Finder___init__
  | 40, _, rfl => ok_Finder_is_found
  | 41, _, rfl => ok_Finder_is_good
  | 42, _, rfl => ok_Finder_first_good
  | 43, _, rfl => ok_Finder_all_good
  | 44, _, rfl => ok_is_found_of
  | 45, _, rfl => ok_least_of
  | 46, _, rfl => ok_want_few
  | 47, _, rfl => ok_want_searched
  | 48, _, rfl => ok_is_found
  | 49, _, rfl => ok_least
  | 50, _, rfl => ok__law_pot
  | 51, _, rfl => ok__law_draw
  | 52, _, rfl => ok__law_pick
  | 53, _, rfl => ok__law_questions
  | 54, _, rfl => ok__law_half
  | 55, _, rfl => ok__law_finds
  | 56, _, rfl => ok__law_counts
  | 57, _, rfl => ok__law_right
  | 58, _, rfl => ok_law
  | _ + 59, _, h => nomatch h
end
end EV.K
namespace EV.K
open PySem L2
noncomputable section
abbrev Rw : PySem.W.OpenRow := PySem.W.OpenLaw.row PySem.Challenge.rw_askedliars_k51_whole_half_lies_never_har
abbrev hk : PySem.W.Hook := hookX (faOf T) (EV.fnOf T)
def ob (s : PySem.W.SharedT) : He.AlD := obX (faOf T) (EV.fnOf T) (HandSHeadRun.getT s)
theorem ob_eq (s : PySem.W.SharedT) : ob s = hk.obs s.abs := obX_eq (HandSHeadRun.getT_eq s)
def nm0 : List PySem.Str := ["_wall", "AskError", "LimitError", "InvalidCounts", "InvalidLeft", "InvalidQuestion", "InvalidStanding", "InvalidWord", "TooMany", "is_integer", "is_count", "is_below", "is_row", "want_at_most", "MOST_LIES", "MOST_TOGETHER", "MOST_LEFT_counts", "are_counts_of", "is_left", "is_standing_of", "lies_of", "together", "is_settled_of", "want_counts", "want_left", "want_standing", "is_question_of", "questions_of", "rest_of", "behind_yes"]
def nm1 : List PySem.Str := ["behind_no", "both_behind", "want_question", "rest", "both", "ways_of", "weight_of", "is_heavy_of", "power_of_two", "YES", "NO", "MOST_THINGS_halflies", "MOST_LEFT_halflies", "half_both", "Halves", "least_half", "want_word", "want_small", "want_half", "half_behind", "is_half_found", "least_half_left", "MOST_THINGS_finding", "MOST_LEFT_finding", "Finder", "is_found_of", "least_of", "want_few", "want_searched", "is_found"]
def nm2 : List PySem.Str := ["least", "_law_pot", "_law_draw", "_law_pick", "_law_questions", "_law_half", "_law_finds", "_law_counts", "_law_right"]
def names : List PySem.Str := nm0 ++ nm1 ++ nm2
theorem runs (w : PySem.World) : HandSHeadRun.RunEq Rw (PySem.W.view Rw.prog [77]) hk ob 8000 names w := by
  intro os
  kernel_rfl
end
end EV.K
namespace EV
open PySem L2
abbrev t_law_draw : Pot2 → Int → Int × Pot2 := drawT 40692 6007 2147483587 2147483549 17
theorem law_draw_b : DrB t_law_draw := drawT_b
def law_questions_l0 : DS := sExtend 3 (asVal (dComp [5] (.name 5) (dRng1 (daCons (dOp2 dAdd (dVar 2) (dC (.int 1))) (daNil))) (dtYes) (dOp2 dAdd (dVar 4) (dTup (daCons (dVar 5) (daNil))))))
def law_questions_l1 : DS := sSeq (sOwn 3 (dDisp (daNil))) (sSeq (sFor (.name 4) (dItems (dVar 1)) law_questions_l0) (sFrz [3] (sSet 1 (dVar 3))))
def law_questions_m : DS := sSeq (sSet 1 (dLst (daCons (dTup (daNil)) (daNil)))) (sSeq (sFor (.name 2) (dItems (dVar 0)) law_questions_l1) (sRet (dVar 1)))
def t_law_questions (counts_0 : (List Int)) : (List (List Int)) := lt ([([] : List Int)] : List (List Int)) fun found_1 => lt (counts_0.foldl (fun (s_2 : (List (List Int))) u_3 => lt ([] : List (List Int)) fun longer_4 => lt (s_2.foldl (fun (s_5 : (List (List Int))) u_6 => (s_5 ++ ((rangeI (u_3 + 1)).map (fun u_7 => (u_6 ++ ([u_7] : List Int)))))) longer_4) fun s_8 => s_8) found_1) fun s_9 => s_9
def ST_law_questions (f : Fn) : Prop := ∀ (counts_0 : (List Int)), (lk : counts_0.length ≤ 4) → (nn : ∀ x ∈ counts_0, 0 ≤ x ∧ x ≤ 40) → ∀ h, f [(eT D.int) counts_0] h = .ok ((eL (eT D.int)) (t_law_questions counts_0)) h
theorem et_law_questions {fn : Fns} : ST_law_questions (bodyF 6 (law_questions_m) fn) := by
  intro counts_0 lk nn h
  refine b_ret (m := law_questions_m) (V := (fun (r : (List (List Int))) => ((eL (eT D.int)) r, h))) (r := t_law_questions counts_0) ?_
  unfold t_law_questions law_questions_m
  show J _ fn [.val ((eT D.int) counts_0), .no, .no, .no, .no, .no] _ _ _
  refine j_lt fun found_1 e_found_1 => ?_
  refine j_seq (z_set (d := (eL (eT D.int)) found_1) (by rw [e_found_1]; exact (xv ((eL (eT D.int)) ([([] : List Int)] : List (List Int))) (x_lst (xa_cons (xv ((eT D.int) ([] : List Int)) (x_tup xa_nil nb_nil rfl)) xa_nil) (nb_cons rfl nb_nil) rfl))) rfl rfl rfl) ?_
  refine j_for (E := (fun (s : (List (List Int))) env h' => h = h' ∧ ∃ (j2 : Sl) (j3 : Sl) (j4 : Sl), [.val ((eT D.int) counts_0), .val ((eL (eT D.int)) s), j2, j3, j4, .no] = env)) (P := (fun (i : Nat) (s : (List (List Int))) => (∀ q ∈ s, q.length = i) ∧ s.length ≤ 41 ^ i) (0 + counts_0.length)) (i_T (e := D.int) (xs := counts_0) (x_var rfl)) (loop_fold (en := D.int) (xs := counts_0) (s0 := found_1) (fun (s : (List (List Int))) env h' => h = h' ∧ ∃ (j2 : Sl) (j3 : Sl) (j4 : Sl), [.val ((eT D.int) counts_0), .val ((eL (eT D.int)) s), j2, j3, j4, .no] = env) (fun (i : Nat) (s : (List (List Int))) => (∀ q ∈ s, q.length = i) ∧ s.length ≤ 41 ^ i) _ 0 (by first | assumption | omega | (dsimp only [lt] at *; omega) | (set_option maxHeartbeats 40000 in (simp; done)) | (set_option maxHeartbeats 40000 in (simp; omega)) | (set_option maxHeartbeats 40000 in (simp at *; omega)) | (set_option maxHeartbeats 40000 in (simp_all; done)) | (set_option maxHeartbeats 40000 in (simp_all; omega))) ⟨rfl, _, _, _, rfl⟩ ?_) ?_
  · rintro i0 u_3 s_2 _ _ hx0 hi0 ⟨rfl, j2, j3, j4, rfl⟩
    have hlt0 := lt_of_get hx0
    have hm0 := List.mem_of_getElem? hx0
    have hn0 := nn _ hm0
    have h41 : 41 ^ i0 ≤ 41 ^ 3 := Nat.pow_le_pow_right (by decide) (by omega)
    try simp only [Nat.zero_add] at hi0 ⊢
    refine ⟨(by have := qs_step (n := i0) hi0 (nn _ hm0); exact this), [.val ((eT D.int) counts_0), .val ((eL (eT D.int)) s_2), .val (D.int u_3), j3, j4, .no], (p_name rfl rfl rfl), ?_⟩
    unfold law_questions_l1
    refine j_lt fun longer_4 e_longer_4 => ?_
    refine j_seq (z_own (ds := longer_4.map (eT D.int)) (by rw [e_longer_4]; exact (fv (([] : List (List Int)).map (eT D.int)) (f_disp xa_nil nb_nil rfl))) rfl rfl) ?_
    refine j_for (E := (fun (s : (List (List Int))) env h' => h = h' ∧ ∃ (j4 : Sl), [.val ((eT D.int) counts_0), .val ((eL (eT D.int)) s_2), .val (D.int u_3), .own (s.map (eT D.int)), j4, .no] = env)) (P := (fun (i : Nat) (s : (List (List Int))) => (∀ q ∈ s, q.length = i0 + 1) ∧ s.length ≤ i * 41) (0 + s_2.length)) (i_L (e := (eT D.int)) (xs := s_2) (x_var rfl)) (loop_fold (en := (eT D.int)) (xs := s_2) (s0 := longer_4) (fun (s : (List (List Int))) env h' => h = h' ∧ ∃ (j4 : Sl), [.val ((eT D.int) counts_0), .val ((eL (eT D.int)) s_2), .val (D.int u_3), .own (s.map (eT D.int)), j4, .no] = env) (fun (i : Nat) (s : (List (List Int))) => (∀ q ∈ s, q.length = i0 + 1) ∧ s.length ≤ i * 41) _ 0 (by subst e_longer_4; simp) ⟨rfl, _, rfl⟩ ?_) ?_
    · rintro i1 u_6 s_5 _ _ hx1 hi1 ⟨rfl, j4, rfl⟩
      have hlt1 := lt_of_get hx1
      have hm1 := List.mem_of_getElem? hx1
      try simp only [Nat.zero_add] at hi1 ⊢
      refine ⟨(by 
              have hn := nn u_3 hm0
              have hq := hi0.1 u_6 hm1
              obtain ⟨g1, g2⟩ := hi1
              refine ⟨fun q hq2 => ?_, ?_⟩
              · rcases List.mem_append.mp hq2 with z | z
                · exact g1 q z
                · obtain ⟨a, _, rfl⟩ := List.mem_map.mp z
                  simp; omega
              · rw [List.length_append, List.length_map, rangeI_len]; omega), [.val ((eT D.int) counts_0), .val ((eL (eT D.int)) s_2), .val (D.int u_3), .own (s_5.map (eT D.int)), .val ((eT D.int) u_6), .no], (p_name rfl rfl rfl), ?_⟩
      unfold law_questions_l0
      refine j_last (z_extend (e := (eT D.int)) (xs := s_5) (ys := ((rangeI (u_3 + 1)).map (fun u_7 => (u_6 ++ ([u_7] : List Int))))) rfl (xv ((eL (eT D.int)) ((rangeI (u_3 + 1)).map (fun u_7 => (u_6 ++ ([u_7] : List Int))))) (x_asVal (f_compM (en := D.int) (ev := (eT D.int)) (fun u_7 => (u_6 ++ ([u_7] : List Int))) (i_rng1 (xa_cons (x_op2 (x_var rfl) x_c rfl) xa_nil) (by /-_law_questions 1: range low-/first | assumption | omega | (dsimp only [lt] at *; omega) | (set_option maxHeartbeats 40000 in (simp; done)) | (set_option maxHeartbeats 40000 in (simp; omega)) | (set_option maxHeartbeats 40000 in (simp at *; omega)) | (set_option maxHeartbeats 40000 in (simp_all; done)) | (set_option maxHeartbeats 40000 in (simp_all; omega))) (by /-_law_questions 2: range (u_3 + 1) ≤ 10^9-/first | assumption | omega | (dsimp only [lt] at *; omega) | (set_option maxHeartbeats 40000 in (simp; done)) | (set_option maxHeartbeats 40000 in (simp; omega)) | (set_option maxHeartbeats 40000 in (simp at *; omega)) | (set_option maxHeartbeats 40000 in (simp_all; done)) | (set_option maxHeartbeats 40000 in (simp_all; omega)))) (by /-_law_questions 3: (rangeI (u_3 + 1)).length ≤ 16777216-/first | assumption | omega | (dsimp only [lt] at *; omega) | (set_option maxHeartbeats 40000 in (simp; done)) | (set_option maxHeartbeats 40000 in (simp; omega)) | (set_option maxHeartbeats 40000 in (simp at *; omega)) | (set_option maxHeartbeats 40000 in (simp_all; done)) | (set_option maxHeartbeats 40000 in (simp_all; omega))) rfl (fun _ => rfl) fun u_7 hu => have hu_u_7 := hu; have hr := mem_rng hu; ⟨_, (p_name rfl rfl rfl), (x_op2 (x_var rfl) (xv ((eT D.int) ([u_7] : List Int)) (x_tup (xa_cons (x_var rfl) xa_nil) (nb_cons rfl nb_nil) rfl)) (o_addT (e := D.int) (xs := u_6) (ys := ([u_7] : List Int)) (by /-_law_questions 4: u_6.length + ([u_7] : List Int).length ≤ 16777216-/have := hi0.1 u_6 hm1; simp; omega)))⟩))) (by /-_law_questions 5: s_5.length + ((rangeI (u_3 + 1)).map (fun u_7 => (u_6 ++ ([u-/have := hi1.2; have := hi0.2; rw [List.length_map, rangeI_len]; omega) rfl) ?_
      exact ⟨.inl rfl, ⟨rfl, _, rfl⟩⟩
    · rintro s_8 _ _ e_s_8 inv_s_8 ⟨rfl, j4, rfl⟩
      try simp only [Nat.zero_add] at inv_s_8
      refine j_last (z_frz rfl (z_set (d := (eL (eT D.int)) s_8) (x_var rfl) rfl rfl rfl)) ?_
      exact ⟨.inl rfl, ⟨rfl, _, _, _, rfl⟩⟩
  · rintro s_9 _ _ e_s_9 inv_s_9 ⟨rfl, j2, j3, j4, rfl⟩
    try simp only [Nat.zero_add] at inv_s_9
    exact j_ret (d := (eL (eT D.int)) s_9) (x_var rfl) rfl ⟨rfl, rfl⟩
theorem qok_self : ∀ {c : List Int}, (∀ x ∈ c, 0 ≤ x) → QOk c c
  | [], _ => .nil
  | x :: c, h => .cons (h x (.head _)) (Int.le_refl _) (qok_self fun y m => h y (.tail _ m))
theorem qs_ne {c : List Int} (o : COk c) : t_law_questions c ≠ [] := fun e => by
  have := mem_questions.mpr (qok_self o.nn)
  rw [show t_questions_of c = t_law_questions c from rfl, e] at this
  cases this
theorem qs_lenH {b : Nat} : ∀ {c : List Int} {S : List (List Int)}, (∀ x ∈ c, 0 ≤ x ∧ x ≤ b) → (c.foldl qnext S).length ≤ S.length * (b + 1) ^ c.length
  | [], S, _ => by simp
  | x :: c, S, h => by
    have h1 := h x (.head _)
    have h2 := qs_lenH (c := c) (S := qnext S x) fun y m => h y (.tail _ m)
    rw [qnext_len] at h2
    rw [List.foldl_cons, List.length_cons, Nat.pow_succ]
    have h3 : S.length * (x + 1).toNat ≤ S.length * (b + 1) := Nat.mul_le_mul_left _ (by omega)
    calc _ ≤ S.length * (x + 1).toNat * (b + 1) ^ c.length := h2
      _ ≤ S.length * (b + 1) * (b + 1) ^ c.length := Nat.mul_le_mul_right _ h3
      _ = S.length * ((b + 1) ^ c.length * (b + 1)) := by rw [Nat.mul_assoc, Nat.mul_comm (b + 1)]
/-- few questions -/
theorem qs_fewH {c : List Int} (o : COk c) (h6 : c.sum ≤ 6) : (t_questions_of c).length ≤ 2401 := by
  rw [questions_eq]
  have h1 := qs_lenH (b := 6) (c := c) (S := [[]]) fun x m => ⟨o.nn x m, by have := mem_le_sum o.nn x m; omega⟩
  have h2 : (6 + 1) ^ c.length ≤ (6 + 1) ^ 4 := Nat.pow_le_pow_right (by decide) o.l4
  have h3 : (6 + 1 : Nat) ^ 4 = 2401 := by decide
  simp only [List.length_singleton, Nat.one_mul] at h1
  omega
theorem half_behind_eq {c q : List Int} {w : SS} : t_half_behind c w q = hb (yw w) c q := half_eq
theorem rq_bb {a b : Bool} : RqX (eL D.bl ([a, b] : List Bool)) := rqx (rqL (n := 0) (B := 5) (m := 2) (fun x _ => rq_bl) (by simp)) (by decide) (by decide)
theorem cut_less {c : List Int} {i : Int} (i0 : 0 ≤ i) (i1 : i < c.length) (v : Int) : ((cut c none (some i)) ++ ([v] : List Int)) ++ (cut c (some (i + 1)) none) = c.set i.toNat v := by
  obtain ⟨n, rfl⟩ : ∃ n : Nat, i = n := ⟨i.toNat, by omega⟩
  rw [show ((n : Int) + 1) = ((n + 1 : Nat) : Int) by omega, cut_hi, cut_lo, Int.toNat_natCast, List.append_assoc]
  rw [List.set_eq_take_append_cons_drop, if_pos (by omega)]
  rfl
theorem getI_at {c : List Int} {i : Int} (i0 : 0 ≤ i) (i1 : i < c.length) : c[i.toNat]? = some (getI c i) := by
  unfold getI
  rw [if_pos i0, List.getD_eq_getElem?_getD, List.getElem?_eq_getElem (by omega)]
  rfl
/-- a thing less at a place: as good as ever -/
theorem less_ok {c : List Int} (o : COk c) {i : Int} (i0 : 0 ≤ i) (i1 : i < c.length) (p : 0 < getI c i) : MvS c (c.set i.toNat (getI c i - 1)) ∧ COk (c.set i.toNat (getI c i - 1)) ∧ (c.set i.toNat (getI c i - 1)).sum ≤ c.sum := by
  have m := mvs_less (getI_at i0 i1) p o.nn
  have z : ∀ {a b : List Int}, MvS a b → COk a → COk b ∧ b.sum ≤ a.sum := by
    intro a b h
    induction h with
    | rfl => exact fun o => ⟨o, Int.le_refl _⟩
    | step m _ ih => exact fun o => ⟨(ih (m.ok o)).1, Int.le_trans (ih (m.ok o)).2 m.sum⟩
  exact ⟨m, z m o⟩
theorem late_okH {c : List Int} (o : COk c) {i : Int} (i0 : 0 ≤ i) (i1 : i + 1 < c.length) (p : 0 < getI c i) : Mv c ((c.set i.toNat (getI c i - 1)).set (i + 1).toNat (getI (c.set i.toNat (getI c i - 1)) (i + 1) + 1)) := by
  have e : (i + 1).toNat = i.toNat + 1 := by omega
  have h2 := getI_at (c := c) (i := i + 1) (by omega) i1
  rw [e] at h2
  have e2 : getI (c.set i.toNat (getI c i - 1)) (i + 1) = getI c (i + 1) := by
    have h3 := getI_at (c := c.set i.toNat (getI c i - 1)) (i := i + 1) (by omega) (by rw [List.length_set]; exact i1)
    rw [e, List.getElem?_set_ne (by omega), h2] at h3
    exact (Option.some.inj h3).symm
  rw [e2, e]
  exact mv_at (getI_at i0 (by omega)) h2 p
def law_counts_l0 (c__law_draw : Nat) : DS := sSeq (sSet 6 (dIf (dtB (dOp2 dLt (dOp2 dAdd (dVar 5) (dC (.int 1))) (dVar 2))) (dCall c__law_draw 2 0 [.p 0, .p 1] [] (daCons (dVar 0) (daCons (dOp2 dAdd (dVar 3) (dC (.int 1))) (daNil))) (daNil)) (dVar 3))) (sSeq (sAppend 4 (dVar 6)) (sSet 3 (dOp2 dSub (dVar 3) (dVar 6))))
def law_counts_m (c__law_draw : Nat) : DS := sSeq (sPar3 2 3 4 (dmV (dOp2 dAdd (dC (.int 1)) (dCall c__law_draw 2 0 [.p 0, .p 1] [] (daCons (dVar 0) (daCons (dC (.int 4)) (daNil))) (daNil)))) (dmV (dCall c__law_draw 2 0 [.p 0, .p 1] [] (daCons (dVar 0) (daCons (dOp2 dAdd (dVar 1) (dC (.int 1))) (daNil))) (daNil))) (dmO (dDisp (daNil)))) (sSeq (sFor (.name 5) (dRng1 (daCons (dVar 2) (daNil))) (law_counts_l0 c__law_draw)) (sRet (dOpN cTuple (daCons (dVar 4) (daNil)))))
def t_law_counts (p_0 : Pot2) (most_0 : Int) : ((List Int) × Pot2) := lt (t_law_draw p_0 4) fun q_1 => lt (t_law_draw q_1.2 (most_0 + 1)) fun q_2 => lt (1 + q_1.1) fun lies_3 => lt ([] : List Int) fun found_4 => lt ((rangeI lies_3).foldl (fun (s_5 : (Int × (List Int) × Pot2)) u_6 => lt (if (decide ((u_6 + 1) < lies_3)) = true then (t_law_draw s_5.2.2 (s_5.1 + 1)) else (s_5.1, s_5.2.2)) fun q_7 => lt (s_5.1 - q_7.1) fun left_9 => (left_9, (s_5.2.1 ++ [q_7.1]), q_7.2)) (q_2.1, found_4, q_2.2)) fun s_10 => (s_10.2.1, s_10.2.2)
def ST_law_counts (f : Fn) : Prop := ∀ (n : Nat) (h0 : Cells) (p_0 : Pot2) (most_0 : Int), PotOk n h0 → (m0 : 0 ≤ most_0) → (m1 : most_0 ≤ 100) → f [.obj n, D.int most_0] (hp n h0 p_0) = .ok ((eT D.int) (t_law_counts p_0 most_0).1) (hp n h0 (t_law_counts p_0 most_0).2)
theorem et_law_counts {fn : Fns} {i__law_draw : Nat} (c_draw : ST_draw t_law_draw (fn i__law_draw)) : ST_law_counts (bodyF 7 (law_counts_m i__law_draw) fn) := by
  intro n h0 p_0 most_0 hn m0 m1
  refine b_ret (m := law_counts_m i__law_draw) (V := (fun (r : ((List Int) × Pot2)) => ((eT D.int) r.1, hp n h0 r.2))) (r := t_law_counts p_0 most_0) ?_
  unfold t_law_counts law_counts_m
  show J _ fn [.val (.obj n), .val (D.int most_0), .no, .no, .no, .no, .no] _ _ _
  refine j_lt fun q_1 e_q_1 => ?_
  have bd_q_1 : 0 ≤ q_1.1 ∧ q_1.1 < 4 := by rw [e_q_1]; exact law_draw_b _ _ (by /-_law_counts 3: 0 < many-/first | assumption | omega | (dsimp only [lt] at *; omega) | (set_option maxHeartbeats 40000 in (simp; done)) | (set_option maxHeartbeats 40000 in (simp; omega)) | (set_option maxHeartbeats 40000 in (simp at *; omega)) | (set_option maxHeartbeats 40000 in (simp_all; done)) | (set_option maxHeartbeats 40000 in (simp_all; omega)))
  refine j_lt fun q_2 e_q_2 => ?_
  have bd_q_2 : 0 ≤ q_2.1 ∧ q_2.1 < (most_0 + 1) := by rw [e_q_2]; exact law_draw_b _ _ (by /-_law_counts 6: 0 < many-/first | assumption | omega | (dsimp only [lt] at *; omega) | (set_option maxHeartbeats 40000 in (simp; done)) | (set_option maxHeartbeats 40000 in (simp; omega)) | (set_option maxHeartbeats 40000 in (simp at *; omega)) | (set_option maxHeartbeats 40000 in (simp_all; done)) | (set_option maxHeartbeats 40000 in (simp_all; omega)))
  refine j_lt fun lies_3 e_lies_3 => ?_
  refine j_lt fun found_4 e_found_4 => ?_
  refine j_seq (z_par3 (m_V (d := D.int lies_3) (by rw [e_lies_3]; exact (x_op2 x_c (x_call (xa_cons (x_var rfl) (xa_cons x_c xa_nil)) xa_nil (nb_cons rfl (nb_cons rfl nb_nil)) nb_nil rfl rfl rfl (show _ = R.ok (D.int q_1.1) (hp n h0 q_1.2) from by rw [e_q_1]; exact c_draw n h0 p_0 4 hn (by /-_law_counts 1: _law_draw: pre 0-/first | assumption | omega | (dsimp only [lt] at *; omega) | (set_option maxHeartbeats 40000 in (simp; done)) | (set_option maxHeartbeats 40000 in (simp; omega)) | (set_option maxHeartbeats 40000 in (simp at *; omega)) | (set_option maxHeartbeats 40000 in (simp_all; done)) | (set_option maxHeartbeats 40000 in (simp_all; omega))) (by /-_law_counts 2: _law_draw: pre 1-/first | assumption | omega | (dsimp only [lt] at *; omega) | (set_option maxHeartbeats 40000 in (simp; done)) | (set_option maxHeartbeats 40000 in (simp; omega)) | (set_option maxHeartbeats 40000 in (simp at *; omega)) | (set_option maxHeartbeats 40000 in (simp_all; done)) | (set_option maxHeartbeats 40000 in (simp_all; omega))))) rfl)) rfl) (m_V (d := D.int q_2.1) (x_call (xa_cons (x_var rfl) (xa_cons (x_op2 (x_var rfl) x_c rfl) xa_nil)) xa_nil (nb_cons rfl (nb_cons rfl nb_nil)) nb_nil rfl rfl rfl (show _ = R.ok (D.int q_2.1) (hp n h0 q_2.2) from by rw [e_q_2]; exact c_draw n h0 q_1.2 (most_0 + 1) hn (by /-_law_counts 4: _law_draw: pre 0-/first | assumption | omega | (dsimp only [lt] at *; omega) | (set_option maxHeartbeats 40000 in (simp; done)) | (set_option maxHeartbeats 40000 in (simp; omega)) | (set_option maxHeartbeats 40000 in (simp at *; omega)) | (set_option maxHeartbeats 40000 in (simp_all; done)) | (set_option maxHeartbeats 40000 in (simp_all; omega))) (by /-_law_counts 5: _law_draw: pre 1-/first | assumption | omega | (dsimp only [lt] at *; omega) | (set_option maxHeartbeats 40000 in (simp; done)) | (set_option maxHeartbeats 40000 in (simp; omega)) | (set_option maxHeartbeats 40000 in (simp at *; omega)) | (set_option maxHeartbeats 40000 in (simp_all; done)) | (set_option maxHeartbeats 40000 in (simp_all; omega))))) rfl) (m_O (ds := found_4.map D.int) (by rw [e_found_4]; exact (fv (([] : List Int).map D.int) (f_disp xa_nil nb_nil rfl)))) rfl rfl rfl rfl) ?_
  refine j_for (E := (fun (s : (Int × (List Int) × Pot2)) env h' => (hp n h0 s.2.2) = h' ∧ ∃ (j5 : Sl) (j6 : Sl), [.val (.obj n), .val (D.int most_0), .val (D.int lies_3), .val (D.int s.1), .own (s.2.1.map D.int), j5, j6] = env)) (P := (fun (i : Nat) (s : (Int × (List Int) × Pot2)) => 0 ≤ s.1 ∧ s.1 ≤ 100 ∧ s.2.1.length ≤ i) (0 + (rangeI lies_3).length)) (i_rng1 (xa_cons (x_var rfl) xa_nil) (by /-_law_counts 7: range low-/first | assumption | omega | (dsimp only [lt] at *; omega) | (set_option maxHeartbeats 40000 in (simp; done)) | (set_option maxHeartbeats 40000 in (simp; omega)) | (set_option maxHeartbeats 40000 in (simp at *; omega)) | (set_option maxHeartbeats 40000 in (simp_all; done)) | (set_option maxHeartbeats 40000 in (simp_all; omega))) (by /-_law_counts 8: range lies_3 ≤ 10^9-/first | assumption | omega | (dsimp only [lt] at *; omega) | (set_option maxHeartbeats 40000 in (simp; done)) | (set_option maxHeartbeats 40000 in (simp; omega)) | (set_option maxHeartbeats 40000 in (simp at *; omega)) | (set_option maxHeartbeats 40000 in (simp_all; done)) | (set_option maxHeartbeats 40000 in (simp_all; omega)))) (loop_fold (en := D.int) (xs := (rangeI lies_3)) (s0 := (q_2.1, found_4, q_2.2)) (fun (s : (Int × (List Int) × Pot2)) env h' => (hp n h0 s.2.2) = h' ∧ ∃ (j5 : Sl) (j6 : Sl), [.val (.obj n), .val (D.int most_0), .val (D.int lies_3), .val (D.int s.1), .own (s.2.1.map D.int), j5, j6] = env) (fun (i : Nat) (s : (Int × (List Int) × Pot2)) => 0 ≤ s.1 ∧ s.1 ≤ 100 ∧ s.2.1.length ≤ i) _ 0 (by first | assumption | omega | (dsimp only [lt] at *; omega) | (set_option maxHeartbeats 40000 in (simp; done)) | (set_option maxHeartbeats 40000 in (simp; omega)) | (set_option maxHeartbeats 40000 in (simp at *; omega)) | (set_option maxHeartbeats 40000 in (simp_all; done)) | (set_option maxHeartbeats 40000 in (simp_all; omega))) ⟨rfl, _, _, rfl⟩ ?_) ?_
  · rintro i0 u_6 s_5 _ _ hx0 hi0 ⟨rfl, j5, j6, rfl⟩
    have hlt0 := lt_of_get hx0
    have hm0 := List.mem_of_getElem? hx0
    have hr0 := mem_rng hm0
    have hri0 := rng_get hx0
    try simp only [Nat.zero_add] at hi0 ⊢
    refine ⟨(by 
              obtain ⟨g1, g2, g3⟩ := hi0
              have hb := law_draw_b s_5.2.2 (s_5.1 + 1) (by omega)
              try simp only [lt]
              split
              · refine ⟨by (try dsimp only); omega, by (try dsimp only); omega, by rw [List.length_append]; simp; omega⟩
              · refine ⟨by (try dsimp only); omega, by (try dsimp only); omega, by rw [List.length_append]; simp; omega⟩), [.val (.obj n), .val (D.int most_0), .val (D.int lies_3), .val (D.int s_5.1), .own (s_5.2.1.map D.int), .val (D.int u_6), j6], (p_name rfl rfl rfl), ?_⟩
    unfold law_counts_l0
    refine j_lt fun q_7 e_q_7 => ?_
    refine j_seq (z_set (d := D.int q_7.1) (show _ = R.ok (D.int q_7.1) (hp n h0 q_7.2) from by rw [e_q_7]; exact x_ifq (e := D.int) (r := (t_law_draw s_5.2.2 (s_5.1 + 1))) (y := s_5.1) (p := s_5.2.2) (t_B (x_op2 (x_op2 (x_var rfl) x_c rfl) (x_var rfl) rfl)) (fun hc => (x_call (xa_cons (x_var rfl) (xa_cons (x_op2 (x_var rfl) x_c rfl) xa_nil)) xa_nil (nb_cons rfl (nb_cons rfl nb_nil)) nb_nil rfl rfl rfl (c_draw n h0 s_5.2.2 (s_5.1 + 1) hn (by /-_law_counts 9: _law_draw: pre 0-/first | assumption | omega | (dsimp only [lt] at *; omega) | (set_option maxHeartbeats 40000 in (simp; done)) | (set_option maxHeartbeats 40000 in (simp; omega)) | (set_option maxHeartbeats 40000 in (simp at *; omega)) | (set_option maxHeartbeats 40000 in (simp_all; done)) | (set_option maxHeartbeats 40000 in (simp_all; omega))) (by /-_law_counts 10: _law_draw: pre 1-/first | assumption | omega | (dsimp only [lt] at *; omega) | (set_option maxHeartbeats 40000 in (simp; done)) | (set_option maxHeartbeats 40000 in (simp; omega)) | (set_option maxHeartbeats 40000 in (simp at *; omega)) | (set_option maxHeartbeats 40000 in (simp_all; done)) | (set_option maxHeartbeats 40000 in (simp_all; omega)))))) (fun hc => (x_var rfl))) rfl rfl rfl) ?_
    refine j_seq (z_append (e := D.int) (xs := s_5.2.1) (u := q_7.1) rfl (x_var rfl) rfl (by /-_law_counts 11: s_5.2.1.length < 16777216-/first | assumption | omega | (dsimp only [lt] at *; omega) | (set_option maxHeartbeats 40000 in (simp; done)) | (set_option maxHeartbeats 40000 in (simp; omega)) | (set_option maxHeartbeats 40000 in (simp at *; omega)) | (set_option maxHeartbeats 40000 in (simp_all; done)) | (set_option maxHeartbeats 40000 in (simp_all; omega))) rfl) ?_
    refine j_lt fun left_9 e_left_9 => ?_
    refine j_last (z_set (d := D.int left_9) (by rw [e_left_9]; exact (x_op2 (x_var rfl) (x_var rfl) rfl)) rfl rfl rfl) ?_
    exact ⟨.inl rfl, ⟨rfl, _, _, rfl⟩⟩
  · rintro s_10 _ _ e_s_10 inv_s_10 ⟨rfl, j5, j6, rfl⟩
    try simp only [Nat.zero_add] at inv_s_10
    exact j_ret (d := (eT D.int) s_10.2.1) (x_opN (xa_cons (x_bor rfl) xa_nil) (o_tupB (e := D.int))) rfl ⟨rfl, rfl⟩
def law_right_l0 (c_half_behind c__law_counts c__law_draw c_is_half_found c_is_found c_least_half_left c_least c__law_pick c__law_questions c_both c_rest : Nat) : DS := sSeq (sSet 10 (dCall c_half_behind 3 0 [.p 0, .p 1, .p 2] [] (daCons (dVar 1) (daCons (dVar 9) (daCons (dVar 6) (daNil)))) (daNil))) (sSeq (sIf (dtNot (dTruE (dOpN cAll (daCons (asVal (dComp [13, 14] (.tup [.name 13, .name 14]) (dZipX (daCons (dVar 10) (daCons (dVar 7) (daNil)))) (dtYes) (dOpN cAll (daCons (asVal (dComp [15, 16] (.tup [.name 15, .name 16]) (dZipX (daCons (dVar 13) (daCons (dVar 14) (daNil)))) (dtYes) (dOp2 dLe (dVar 15) (dVar 16)))) (daNil))))) (daNil))))) (sRet (dC (.bl false))) (sNext)) (sIf (dtB (dOp2 dNe (dCall c_half_behind 3 0 [.p 0, .p 1, .p 2] [] (daCons (dVar 1) (daCons (dIf (dtB (dOp2 dEq (dVar 9) (dC (.str ("yes" : Str))))) (dC (.str ("no" : Str))) (dC (.str ("yes" : Str)))) (daCons (dVar 8) (daNil)))) (daNil)) (dRev (dVar 10)))) (sRet (dC (.bl false))) (sNext)))
def law_right_m (c_half_behind c__law_counts c__law_draw c_is_half_found c_is_found c_least_half_left c_least c__law_pick c__law_questions c_both c_rest : Nat) : DS := sSeq (sPar2 1 2 (dmV (dCall c__law_counts 2 0 [.p 0, .p 1] [] (daCons (dVar 0) (daCons (dC (.int 6)) (daNil))) (daNil))) (dmV (dCall c__law_draw 2 0 [.p 0, .p 1] [] (daCons (dVar 0) (daCons (dC (.int 8)) (daNil))) (daNil)))) (sSeq (sPar2 3 4 (dmV (dCall c_is_half_found 2 0 [.p 0, .p 1] [] (daCons (dTup (daCons (dVar 1) (daCons (dVar 2) (daNil)))) (daCons (dC (.str ("yes" : Str))) (daNil))) (daNil))) (dmV (dCall c_is_half_found 2 0 [.p 0, .p 1] [] (daCons (dTup (daCons (dVar 1) (daCons (dVar 2) (daNil)))) (daCons (dC (.str ("no" : Str))) (daNil))) (daNil)))) (sSeq (sIf (dtOr (dtB (dOp2 dNotIn (dOpN cRepr (daCons (dLst (daCons (dVar 3) (daCons (dVar 4) (daNil)))) (daNil))) (dTup (daCons (dC (.str ("[True, True]" : Str))) (daCons (dC (.str ("[False, False]" : Str))) (daNil)))))) (dtAnd (dTruE (dCall c_is_found 2 0 [.p 0, .p 1] [] (daCons (dVar 1) (daCons (dVar 2) (daNil))) (daNil))) (dtNot (dTruE (dVar 3))))) (sRet (dC (.bl false))) (sNext)) (sSeq (sSet 5 (dLst (daCons (dCall c_least_half_left 2 0 [.p 0, .p 1] [] (daCons (dVar 1) (daCons (dC (.str ("yes" : Str))) (daNil))) (daNil)) (daCons (dCall c_least_half_left 2 0 [.p 0, .p 1] [] (daCons (dVar 1) (daCons (dC (.str ("no" : Str))) (daNil))) (daNil)) (daCons (dCall c_least 1 0 [.p 0] [] (daCons (dVar 1) (daNil)) (daNil)) (daNil)))))) (sSeq (sIf (dtOr (dtB (dOp2 dNe (dOp2 dIx (dVar 5) (dC (.int 0))) (dOp2 dIx (dVar 5) (dC (.int 1))))) (dtAnd (dtB (dOp2 dIsNot (dOp2 dIx (dVar 5) (dC (.int 2))) (dC .non))) (dtOr (dtB (dOp2 dIs (dOp2 dIx (dVar 5) (dC (.int 0))) (dC .non))) (dtB (dOp2 dGt (dOp2 dIx (dVar 5) (dC (.int 0))) (dOp2 dIx (dVar 5) (dC (.int 2)))))))) (sRet (dC (.bl false))) (sNext)) (sSeq (sIf (dtAnd (dtB (dOp2 dEq (dOpN cLen (daCons (dVar 1) (daNil))) (dC (.int 1)))) (dtOr (dtB (dOp2 dNe (dVar 3) (dCall c_is_found 2 0 [.p 0, .p 1] [] (daCons (dVar 1) (daCons (dVar 2) (daNil))) (daNil)))) (dtB (dOp2 dNe (dOp2 dIx (dVar 5) (dC (.int 0))) (dOp2 dIx (dVar 5) (dC (.int 2))))))) (sRet (dC (.bl false))) (sNext)) (sSeq (sSet 6 (dCall c__law_pick 2 0 [.p 0, .p 1] [] (daCons (dVar 0) (daCons (dCall c__law_questions 1 0 [.p 0] [] (daCons (dVar 1) (daNil)) (daNil)) (daNil))) (daNil))) (sSeq (sPar2 7 8 (dmV (dCall c_both 2 0 [.p 0, .p 1] [] (daCons (dVar 1) (daCons (dVar 6) (daNil))) (daNil))) (dmV (dCall c_rest 2 0 [.p 0, .p 1] [] (daCons (dVar 1) (daCons (dVar 6) (daNil))) (daNil)))) (sSeq (sFor (.name 9) (dItems (dTup (daCons (dC (.str ("yes" : Str))) (daCons (dC (.str ("no" : Str))) (daNil))))) (law_right_l0 c_half_behind c__law_counts c__law_draw c_is_half_found c_is_found c_least_half_left c_least c__law_pick c__law_questions c_both c_rest)) (sSeq (sSet 11 (dCall c__law_draw 2 0 [.p 0, .p 1] [] (daCons (dVar 0) (daCons (dOpN cLen (daCons (dVar 1) (daNil))) (daNil))) (daNil))) (sSeq (sIf (dtAnd (dtB (dOp2 dGt (dOp2 dIx (dVar 1) (dVar 11)) (dC (.int 0)))) (dTruE (dVar 3))) (sSeq (sSet 12 (dOp2 dAdd (dOp2 dAdd (dSlice (dVar 1) (dNoPart) (dPart (dVar 11))) (dTup (daCons (dOp2 dSub (dOp2 dIx (dVar 1) (dVar 11)) (dC (.int 1))) (daNil)))) (dSlice (dVar 1) (dPart (dOp2 dAdd (dVar 11) (dC (.int 1)))) (dNoPart)))) (sSeq (sIf (dtB (dOp2 dIsNot (dCall c_is_half_found 2 0 [.p 0, .p 1] [] (daCons (dTup (daCons (dVar 12) (daCons (dVar 2) (daNil)))) (daCons (dC (.str ("yes" : Str))) (daNil))) (daNil)) (dC (.bl true)))) (sRet (dC (.bl false))) (sNext)) (sIf (dtB (dOp2 dLt (dOp2 dAdd (dVar 11) (dC (.int 1))) (dOpN cLen (daCons (dVar 1) (daNil))))) (sSeq (sSet 13 (dOp2 dAdd (dOp2 dAdd (dSlice (dVar 12) (dNoPart) (dPart (dOp2 dAdd (dVar 11) (dC (.int 1))))) (dTup (daCons (dOp2 dAdd (dOp2 dIx (dVar 12) (dOp2 dAdd (dVar 11) (dC (.int 1)))) (dC (.int 1))) (daNil)))) (dSlice (dVar 12) (dPart (dOp2 dAdd (dVar 11) (dC (.int 2)))) (dNoPart)))) (sRet (dAnd (dOp2 dIs (dCall c_is_half_found 2 0 [.p 0, .p 1] [] (daCons (dTup (daCons (dVar 13) (daCons (dVar 2) (daNil)))) (daCons (dC (.str ("yes" : Str))) (daNil))) (daNil)) (dC (.bl true))) (dOp2 dIs (dCall c_is_half_found 2 0 [.p 0, .p 1] [] (daCons (dTup (daCons (dVar 13) (daCons (dOpN cMinL (daCons (dC (.int 12)) (daCons (dOp2 dAdd (dVar 2) (dC (.int 1))) (daNil)))) (daNil)))) (daCons (dC (.str ("no" : Str))) (daNil))) (daNil)) (dC (.bl true)))))) (sNext)))) (sNext)) (sRet (dC (.bl true)))))))))))))
/-- counts that are drawn -/
theorem counts_okH {p : Pot2} {most : Int} (m0 : 0 ≤ most) (m1 : most ≤ 20) : COk (t_law_counts p most).1 ∧ (t_law_counts p most).1.sum ≤ most := by
  have b0 := law_draw_b p 4 (by omega)
  have b1 := law_draw_b (t_law_draw p 4).2 (most + 1) (by omega)
  unfold t_law_counts
  simp only [lt]
  generalize hs : (t_law_draw (t_law_draw p 4).2 (most + 1)).2 = p2
  generalize (t_law_draw (t_law_draw p 4).2 (most + 1)).1 = left at b1
  generalize (t_law_draw p 4).1 = k at b0
  have z := foldl_inv (fun i (s : Int × List Int × Pot2) => s.2.1.length = i ∧ (∀ x ∈ s.2.1, 0 ≤ x) ∧ 0 ≤ s.1 ∧ s.2.1.sum + s.1 ≤ most) (xs := rangeI (1 + k)) (s0 := (left, ([] : List Int), p2))
    (f := fun (s_5 : (Int × (List Int) × Pot2)) u_6 => (s_5.1 - (if (decide ((u_6 + 1) < 1 + k)) = true then (t_law_draw s_5.2.2 (s_5.1 + 1)) else (s_5.1, s_5.2.2)).1, (s_5.2.1 ++ [(if (decide ((u_6 + 1) < 1 + k)) = true then (t_law_draw s_5.2.2 (s_5.1 + 1)) else (s_5.1, s_5.2.2)).1]), (if (decide ((u_6 + 1) < 1 + k)) = true then (t_law_draw s_5.2.2 (s_5.1 + 1)) else (s_5.1, s_5.2.2)).2)) 0 ⟨rfl, (fun x m => by cases m), by dsimp only; omega, by simp; omega⟩ fun i u s hu hi => by
      obtain ⟨h1, h2, h3, h4⟩ := hi
      have b := law_draw_b s.2.2 (s.1 + 1) (by omega)
      have e : ∃ v, (if (decide ((u + 1) < 1 + k)) = true then (t_law_draw s.2.2 (s.1 + 1)) else (s.1, s.2.2)).1 = v ∧ 0 ≤ v ∧ v ≤ s.1 := by
        split
        · exact ⟨_, rfl, b.1, by omega⟩
        · exact ⟨_, rfl, by dsimp only; omega, by dsimp only; omega⟩
      obtain ⟨v, e1, e2, e3⟩ := e
      dsimp only
      rw [e1]
      refine ⟨by rw [List.length_append, h1]; simp, fun x m => ?_, by omega, by rw [List.sum_append]; simp; omega⟩
      rcases List.mem_append.mp m with m | m
      · exact h2 x m
      · rw [List.mem_singleton] at m; omega
  obtain ⟨h1, h2, h3, h4⟩ := z
  rw [rangeI_len] at h1
  exact ⟨⟨by omega, by omega, h2, by omega⟩, by omega⟩
def t_law_right (p_0 : Pot2) : (Bool × Pot2) := lt (t_law_counts p_0 6) fun q_1 => lt (t_law_draw q_1.2 8) fun q_2 => lt (t_is_half_found (q_1.1, q_2.1) (lit "yes")) fun near_3 => lt (t_is_half_found (q_1.1, q_2.1) (lit "no")) fun far_4 => if ((!hasB ([(lit "[True, True]"), (lit "[False, False]")] : List SS) (rpBL ([near_3, far_4] : List Bool))) || ((t_is_found q_1.1 q_2.1) && (!near_3))) = true then ((false, q_2.2)) else (lt ([(t_least_half_left q_1.1 (lit "yes")), (t_least_half_left q_1.1 (lit "no")), (t_least q_1.1)] : List (Option Int)) fun some_5 => if ((!decide ((getI some_5 0) = (getI some_5 1))) || ((getI some_5 2).isSome && ((getI some_5 0).isNone || (decide (((getI some_5 2).getD default) < ((getI some_5 0).getD default)))))) = true then ((false, q_2.2)) else (if ((decide ((q_1.1.length : Int) = 1)) && ((!decide (near_3 = (t_is_found q_1.1 q_2.1))) || (!decide ((getI some_5 0) = (getI some_5 2))))) = true then ((false, q_2.2)) else (lt (pickP t_law_draw q_2.2 (t_law_questions q_1.1)) fun q_6 => lt (t_both q_1.1 q_6.1) fun whole_7 => lt (t_rest q_1.1 q_6.1) fun turned_8 => (loopR (fun (s_9 : Unit) u_10 => (lt (t_half_behind q_1.1 u_10 q_6.1) fun half_11 => if (!((([half_11.1, half_11.2] : List (List Int)).zip ([whole_7.1, whole_7.2] : List (List Int))).all (fun u_12 => ((u_12.1.zip u_12.2).all (fun u_13 => (decide (u_13.1 ≤ u_13.2))))))) = true then (.ret ((false, q_6.2))) else (if (!decide ((t_half_behind q_1.1 (if (decide (u_10 = (lit "yes"))) = true then (lit "no") else (lit "yes")) turned_8) = (half_11.2, half_11.1))) = true then (.ret (false, q_6.2)) else (.go ())) : Ct (Bool × Pot2) Unit)) () ([(lit "yes"), (lit "no")] : List SS)).out fun s_14 => lt (t_law_draw q_6.2 (q_1.1.length : Int)) fun q_15 => if ((decide (0 < (getI q_1.1 q_15.1))) && near_3) = true then (lt (((cut q_1.1 none (some q_15.1)) ++ ([((getI q_1.1 q_15.1) - 1)] : List Int)) ++ (cut q_1.1 (some (q_15.1 + 1)) none)) fun less_16 => if (!decide ((t_is_half_found (less_16, q_2.1) (lit "yes")) = true)) = true then ((false, q_15.2)) else (if (decide ((q_15.1 + 1) < (q_1.1.length : Int))) = true then (lt (((cut less_16 none (some (q_15.1 + 1))) ++ ([((getI less_16 (q_15.1 + 1)) + 1)] : List Int)) ++ (cut less_16 (some (q_15.1 + 2)) none)) fun late_17 => (((decide ((t_is_half_found (late_17, q_2.1) (lit "yes")) = true)) && (decide ((t_is_half_found (late_17, (min 12 (q_2.1 + 1))) (lit "no")) = true))), q_15.2)) else ((true, q_15.2)))) else ((true, q_15.2)))))
def ST_law_right (f : Fn) : Prop := ∀ (n : Nat) (h0 : Cells) (p_0 : Pot2), PotOk n h0 → f [.obj n] (hp n h0 p_0) = .ok (D.bl (t_law_right p_0).1) (hp n h0 (t_law_right p_0).2)
theorem et_law_right {fn : Fns} {i_half_behind i__law_counts i__law_draw i_is_half_found i_is_found i_least_half_left i_least i__law_pick i__law_questions i_both i_rest : Nat} (c_law_counts : ST_law_counts (fn i__law_counts)) (c_draw : ST_draw t_law_draw (fn i__law_draw)) (c_is_half_found : ST_is_half_found (fn i_is_half_found)) (c_is_found : ST_is_found (fn i_is_found)) (c_least_half_left : ST_least_half_left (fn i_least_half_left)) (c_least : ST_least (fn i_least)) (c_law_questions : ST_law_questions (fn i__law_questions)) (c_pick : ST_pick t_law_draw (fn i__law_pick)) (c_both : ST_both (fn i_both)) (c_rest : ST_rest (fn i_rest)) (c_half_behind : ST_half_behind (fn i_half_behind)) : ST_law_right (bodyF 17 (law_right_m i_half_behind i__law_counts i__law_draw i_is_half_found i_is_found i_least_half_left i_least i__law_pick i__law_questions i_both i_rest) fn) := by
  intro n h0 p_0 hn
  refine b_ret (m := law_right_m i_half_behind i__law_counts i__law_draw i_is_half_found i_is_found i_least_half_left i_least i__law_pick i__law_questions i_both i_rest) (V := (fun (r : (Bool × Pot2)) => (D.bl r.1, hp n h0 r.2))) (r := t_law_right p_0) ?_
  unfold t_law_right law_right_m
  show J _ fn [.val (.obj n), .no, .no, .no, .no, .no, .no, .no, .no, .no, .no, .no, .no, .no, .no, .no, .no] _ _ _
  refine j_lt fun q_1 e_q_1 => ?_
  have ckk := counts_okH (p := p_0) (most := 6) (by omega) (by omega)
  rw [← e_q_1] at ckk
  have ck := ckk.1
  have cks := ckk.2
  have ckt : q_1.1.sum ≤ 10 := by omega
  have ck4 := ck.l4
  have ck1 := ck.l1
  have ckb := ck.bd40
  have cql := questions_len ck
  have cne := qs_ne ck
  have ckc := ck.counts
  refine j_lt fun q_2 e_q_2 => ?_
  have bd_q_2 : 0 ≤ q_2.1 ∧ q_2.1 < 8 := by rw [e_q_2]; exact law_draw_b _ _ (by /-_law_right 5: 0 < many-/first | assumption | omega | (dsimp only [lt] at *; omega) | (set_option maxHeartbeats 40000 in (simp; done)) | (set_option maxHeartbeats 40000 in (simp; omega)) | (set_option maxHeartbeats 40000 in (simp at *; omega)) | (set_option maxHeartbeats 40000 in (simp_all; done)) | (set_option maxHeartbeats 40000 in (simp_all; omega)))
  refine j_seq (z_par2 (m_V (d := (eT D.int) q_1.1) (x_call (xa_cons (x_var rfl) (xa_cons x_c xa_nil)) xa_nil (nb_cons rfl (nb_cons rfl nb_nil)) nb_nil rfl rfl rfl (show _ = R.ok ((eT D.int) q_1.1) (hp n h0 q_1.2) from by rw [e_q_1]; exact c_law_counts n h0 p_0 6 hn (by /-_law_right 1: _law_counts: pre 0-/first | assumption | omega | (dsimp only [lt] at *; omega) | (set_option maxHeartbeats 40000 in (simp; done)) | (set_option maxHeartbeats 40000 in (simp; omega)) | (set_option maxHeartbeats 40000 in (simp at *; omega)) | (set_option maxHeartbeats 40000 in (simp_all; done)) | (set_option maxHeartbeats 40000 in (simp_all; omega))) (by /-_law_right 2: _law_counts: pre 1-/first | assumption | omega | (dsimp only [lt] at *; omega) | (set_option maxHeartbeats 40000 in (simp; done)) | (set_option maxHeartbeats 40000 in (simp; omega)) | (set_option maxHeartbeats 40000 in (simp at *; omega)) | (set_option maxHeartbeats 40000 in (simp_all; done)) | (set_option maxHeartbeats 40000 in (simp_all; omega))))) rfl) (m_V (d := D.int q_2.1) (x_call (xa_cons (x_var rfl) (xa_cons x_c xa_nil)) xa_nil (nb_cons rfl (nb_cons rfl nb_nil)) nb_nil rfl rfl rfl (show _ = R.ok (D.int q_2.1) (hp n h0 q_2.2) from by rw [e_q_2]; exact c_draw n h0 q_1.2 8 hn (by /-_law_right 3: _law_draw: pre 0-/first | assumption | omega | (dsimp only [lt] at *; omega) | (set_option maxHeartbeats 40000 in (simp; done)) | (set_option maxHeartbeats 40000 in (simp; omega)) | (set_option maxHeartbeats 40000 in (simp at *; omega)) | (set_option maxHeartbeats 40000 in (simp_all; done)) | (set_option maxHeartbeats 40000 in (simp_all; omega))) (by /-_law_right 4: _law_draw: pre 1-/first | decide | omega))) rfl) rfl rfl rfl) ?_
  refine j_lt fun near_3 e_near_3 => ?_
  refine j_lt fun far_4 e_far_4 => ?_
  refine j_seq (z_par2 (m_V (d := D.bl near_3) (by rw [e_near_3]; exact (x_call (xa_cons (xv ((eP2 (eT D.int) D.int) (q_1.1, q_2.1)) (x_tup (xa_cons (x_var rfl) (xa_cons (x_var rfl) xa_nil)) (nb_cons rfl (nb_cons rfl nb_nil)) rfl)) (xa_cons (xv (eS (lit "yes")) x_c) xa_nil)) xa_nil (nb_cons rfl (nb_cons rfl nb_nil)) nb_nil rfl rfl rfl (c_is_half_found (q_1.1, q_2.1) (lit "yes") (by /-_law_right 6: is_half_found: pre 0-/first | assumption | omega | (dsimp only [lt] at *; omega) | (set_option maxHeartbeats 40000 in (simp; done)) | (set_option maxHeartbeats 40000 in (simp; omega)) | (set_option maxHeartbeats 40000 in (simp at *; omega)) | (set_option maxHeartbeats 40000 in (simp_all; done)) | (set_option maxHeartbeats 40000 in (simp_all; omega))) (by /-_law_right 7: is_half_found: pre 1-/first | assumption | omega | (dsimp only [lt] at *; omega) | (set_option maxHeartbeats 40000 in (simp; done)) | (set_option maxHeartbeats 40000 in (simp; omega)) | (set_option maxHeartbeats 40000 in (simp at *; omega)) | (set_option maxHeartbeats 40000 in (simp_all; done)) | (set_option maxHeartbeats 40000 in (simp_all; omega))) (by /-_law_right 8: is_half_found: pre 2-/first | assumption | omega | (dsimp only [lt] at *; omega) | (set_option maxHeartbeats 40000 in (simp; done)) | (set_option maxHeartbeats 40000 in (simp; omega)) | (set_option maxHeartbeats 40000 in (simp at *; omega)) | (set_option maxHeartbeats 40000 in (simp_all; done)) | (set_option maxHeartbeats 40000 in (simp_all; omega))) (by /-_law_right 9: is_half_found: pre 3-/first | assumption | omega | (dsimp only [lt] at *; omega) | (set_option maxHeartbeats 40000 in (simp; done)) | (set_option maxHeartbeats 40000 in (simp; omega)) | (set_option maxHeartbeats 40000 in (simp at *; omega)) | (set_option maxHeartbeats 40000 in (simp_all; done)) | (set_option maxHeartbeats 40000 in (simp_all; omega))) (by /-_law_right 10: is_half_found: pre 4-/first | assumption | omega | (dsimp only [lt] at *; omega) | (set_option maxHeartbeats 40000 in (simp; done)) | (set_option maxHeartbeats 40000 in (simp; omega)) | (set_option maxHeartbeats 40000 in (simp at *; omega)) | (set_option maxHeartbeats 40000 in (simp_all; done)) | (set_option maxHeartbeats 40000 in (simp_all; omega))) _))) rfl) (m_V (d := D.bl far_4) (by rw [e_far_4]; exact (x_call (xa_cons (xv ((eP2 (eT D.int) D.int) (q_1.1, q_2.1)) (x_tup (xa_cons (x_var rfl) (xa_cons (x_var rfl) xa_nil)) (nb_cons rfl (nb_cons rfl nb_nil)) rfl)) (xa_cons (xv (eS (lit "no")) x_c) xa_nil)) xa_nil (nb_cons rfl (nb_cons rfl nb_nil)) nb_nil rfl rfl rfl (c_is_half_found (q_1.1, q_2.1) (lit "no") (by /-_law_right 11: is_half_found: pre 0-/first | assumption | omega | (dsimp only [lt] at *; omega) | (set_option maxHeartbeats 40000 in (simp; done)) | (set_option maxHeartbeats 40000 in (simp; omega)) | (set_option maxHeartbeats 40000 in (simp at *; omega)) | (set_option maxHeartbeats 40000 in (simp_all; done)) | (set_option maxHeartbeats 40000 in (simp_all; omega))) (by /-_law_right 12: is_half_found: pre 1-/first | assumption | omega | (dsimp only [lt] at *; omega) | (set_option maxHeartbeats 40000 in (simp; done)) | (set_option maxHeartbeats 40000 in (simp; omega)) | (set_option maxHeartbeats 40000 in (simp at *; omega)) | (set_option maxHeartbeats 40000 in (simp_all; done)) | (set_option maxHeartbeats 40000 in (simp_all; omega))) (by /-_law_right 13: is_half_found: pre 2-/first | assumption | omega | (dsimp only [lt] at *; omega) | (set_option maxHeartbeats 40000 in (simp; done)) | (set_option maxHeartbeats 40000 in (simp; omega)) | (set_option maxHeartbeats 40000 in (simp at *; omega)) | (set_option maxHeartbeats 40000 in (simp_all; done)) | (set_option maxHeartbeats 40000 in (simp_all; omega))) (by /-_law_right 14: is_half_found: pre 3-/first | assumption | omega | (dsimp only [lt] at *; omega) | (set_option maxHeartbeats 40000 in (simp; done)) | (set_option maxHeartbeats 40000 in (simp; omega)) | (set_option maxHeartbeats 40000 in (simp at *; omega)) | (set_option maxHeartbeats 40000 in (simp_all; done)) | (set_option maxHeartbeats 40000 in (simp_all; omega))) (by /-_law_right 15: is_half_found: pre 4-/first | assumption | omega | (dsimp only [lt] at *; omega) | (set_option maxHeartbeats 40000 in (simp; done)) | (set_option maxHeartbeats 40000 in (simp; omega)) | (set_option maxHeartbeats 40000 in (simp at *; omega)) | (set_option maxHeartbeats 40000 in (simp_all; done)) | (set_option maxHeartbeats 40000 in (simp_all; omega))) _))) rfl) rfl rfl rfl) ?_
  refine j_ifq (t_or (t_B (x_op2 (x_rpBL (x_opN (xa_cons (xv ((eL D.bl) ([near_3, far_4] : List Bool)) (x_lst (xa_cons (x_var rfl) (xa_cons (x_var rfl) xa_nil)) (nb_cons rfl (nb_cons rfl nb_nil)) rfl)) xa_nil) (o_repr (by /-_law_right 16: RqX ((eL D.bl) ([near_3, far_4] : List Bool))-/exact rq_bb) (PlE.pl (e := (eL D.bl)) _)))) (xv ((eT eS) ([(lit "[True, True]"), (lit "[False, False]")] : List SS)) (x_tup (xa_cons (xv (eS (lit "[True, True]")) x_c) (xa_cons (xv (eS (lit "[False, False]")) x_c) xa_nil)) (nb_cons rfl (nb_cons rfl nb_nil)) rfl)) (o_niT (e := eS) (xs := ([(lit "[True, True]"), (lit "[False, False]")] : List SS)) (by decide)))) fun hc => (t_and (t_tru (x_call (xa_cons (x_var rfl) (xa_cons (x_var rfl) xa_nil)) xa_nil (nb_cons rfl (nb_cons rfl nb_nil)) nb_nil rfl rfl rfl (c_is_found q_1.1 q_2.1 (by /-_law_right 17: is_found: pre 0-/exact ck) (by /-_law_right 18: is_found: pre 1-/exact ckt) (by /-_law_right 19: is_found: pre 2-/first | assumption | omega | (dsimp only [lt] at *; omega) | (set_option maxHeartbeats 40000 in (simp; done)) | (set_option maxHeartbeats 40000 in (simp; omega)) | (set_option maxHeartbeats 40000 in (simp at *; omega)) | (set_option maxHeartbeats 40000 in (simp_all; done)) | (set_option maxHeartbeats 40000 in (simp_all; omega))) (by /-_law_right 20: is_found: pre 3-/first | assumption | omega | (dsimp only [lt] at *; omega) | (set_option maxHeartbeats 40000 in (simp; done)) | (set_option maxHeartbeats 40000 in (simp; omega)) | (set_option maxHeartbeats 40000 in (simp at *; omega)) | (set_option maxHeartbeats 40000 in (simp_all; done)) | (set_option maxHeartbeats 40000 in (simp_all; omega))) _)) tr_bl) fun hc => (t_not (t_tru (x_var rfl) tr_bl)))) (fun hc1 => ?_) (fun hc1 => ?_)
  · skip
    refine j_re ?_
    exact j_ret (d := D.bl false) x_c rfl ⟨rfl, rfl⟩
  · skip
    refine j_lt fun some_5 e_some_5 => ?_
    refine j_seq (z_set (d := (eL (eO D.int)) some_5) (by rw [e_some_5]; exact (xv ((eL (eO D.int)) ([(t_least_half_left q_1.1 (lit "yes")), (t_least_half_left q_1.1 (lit "no")), (t_least q_1.1)] : List (Option Int))) (x_lst (xa_cons (x_call (xa_cons (x_var rfl) (xa_cons (xv (eS (lit "yes")) x_c) xa_nil)) xa_nil (nb_cons rfl (nb_cons rfl nb_nil)) nb_nil rfl rfl rfl (c_least_half_left q_1.1 (lit "yes") (by /-_law_right 21: least_half_left: pre 0-/exact ck) (by /-_law_right 22: least_half_left: pre 1-/exact ckt) (by /-_law_right 23: least_half_left: pre 2-/first | assumption | omega | (dsimp only [lt] at *; omega) | (set_option maxHeartbeats 40000 in (simp; done)) | (set_option maxHeartbeats 40000 in (simp; omega)) | (set_option maxHeartbeats 40000 in (simp at *; omega)) | (set_option maxHeartbeats 40000 in (simp_all; done)) | (set_option maxHeartbeats 40000 in (simp_all; omega))) _)) (xa_cons (x_call (xa_cons (x_var rfl) (xa_cons (xv (eS (lit "no")) x_c) xa_nil)) xa_nil (nb_cons rfl (nb_cons rfl nb_nil)) nb_nil rfl rfl rfl (c_least_half_left q_1.1 (lit "no") (by /-_law_right 24: least_half_left: pre 0-/exact ck) (by /-_law_right 25: least_half_left: pre 1-/exact ckt) (by /-_law_right 26: least_half_left: pre 2-/first | assumption | omega | (dsimp only [lt] at *; omega) | (set_option maxHeartbeats 40000 in (simp; done)) | (set_option maxHeartbeats 40000 in (simp; omega)) | (set_option maxHeartbeats 40000 in (simp at *; omega)) | (set_option maxHeartbeats 40000 in (simp_all; done)) | (set_option maxHeartbeats 40000 in (simp_all; omega))) _)) (xa_cons (x_call (xa_cons (x_var rfl) xa_nil) xa_nil (nb_cons rfl nb_nil) nb_nil rfl rfl rfl (c_least q_1.1 (by /-_law_right 27: least: pre 0-/exact ck) (by /-_law_right 28: least: pre 1-/exact ckt) _)) xa_nil))) (nb_cons (NB.nb _) (nb_cons (NB.nb _) (nb_cons (NB.nb _) nb_nil))) rfl))) rfl rfl rfl) ?_
    refine j_ifq (t_or (t_B (x_op2 (x_op2 (x_var rfl) x_c (o_ixL (e := (eO D.int)) (xs := some_5) (k := 0) (by /-_law_right 29: -some_5.length ≤ 0-/first | assumption | omega | (dsimp only [lt] at *; omega) | (set_option maxHeartbeats 40000 in (simp; done)) | (set_option maxHeartbeats 40000 in (simp; omega)) | (set_option maxHeartbeats 40000 in (simp at *; omega)) | (set_option maxHeartbeats 40000 in (simp_all; done)) | (set_option maxHeartbeats 40000 in (simp_all; omega))) (by /-_law_right 30: 0 < some_5.length-/first | assumption | omega | (dsimp only [lt] at *; omega) | (set_option maxHeartbeats 40000 in (simp; done)) | (set_option maxHeartbeats 40000 in (simp; omega)) | (set_option maxHeartbeats 40000 in (simp at *; omega)) | (set_option maxHeartbeats 40000 in (simp_all; done)) | (set_option maxHeartbeats 40000 in (simp_all; omega))))) (x_op2 (x_var rfl) x_c (o_ixL (e := (eO D.int)) (xs := some_5) (k := 1) (by /-_law_right 31: -some_5.length ≤ 1-/first | assumption | omega | (dsimp only [lt] at *; omega) | (set_option maxHeartbeats 40000 in (simp; done)) | (set_option maxHeartbeats 40000 in (simp; omega)) | (set_option maxHeartbeats 40000 in (simp at *; omega)) | (set_option maxHeartbeats 40000 in (simp_all; done)) | (set_option maxHeartbeats 40000 in (simp_all; omega))) (by /-_law_right 32: 1 < some_5.length-/first | assumption | omega | (dsimp only [lt] at *; omega) | (set_option maxHeartbeats 40000 in (simp; done)) | (set_option maxHeartbeats 40000 in (simp; omega)) | (set_option maxHeartbeats 40000 in (simp at *; omega)) | (set_option maxHeartbeats 40000 in (simp_all; done)) | (set_option maxHeartbeats 40000 in (simp_all; omega))))) (o_neE (e := (eO D.int)) (a := (getI some_5 0)) (b := (getI some_5 1)) (by decide)))) fun hc => (t_and (t_B (x_op2 (x_op2 (x_var rfl) x_c (o_ixL (e := (eO D.int)) (xs := some_5) (k := 2) (by /-_law_right 33: -some_5.length ≤ 2-/first | assumption | omega | (dsimp only [lt] at *; omega) | (set_option maxHeartbeats 40000 in (simp; done)) | (set_option maxHeartbeats 40000 in (simp; omega)) | (set_option maxHeartbeats 40000 in (simp at *; omega)) | (set_option maxHeartbeats 40000 in (simp_all; done)) | (set_option maxHeartbeats 40000 in (simp_all; omega))) (by /-_law_right 34: 2 < some_5.length-/first | assumption | omega | (dsimp only [lt] at *; omega) | (set_option maxHeartbeats 40000 in (simp; done)) | (set_option maxHeartbeats 40000 in (simp; omega)) | (set_option maxHeartbeats 40000 in (simp at *; omega)) | (set_option maxHeartbeats 40000 in (simp_all; done)) | (set_option maxHeartbeats 40000 in (simp_all; omega))))) x_c (o_isnN (e := D.int)))) fun hc => (t_or (t_B (x_op2 (x_op2 (x_var rfl) x_c (o_ixL (e := (eO D.int)) (xs := some_5) (k := 0) (by /-_law_right 35: -some_5.length ≤ 0-/first | assumption | omega | (dsimp only [lt] at *; omega) | (set_option maxHeartbeats 40000 in (simp; done)) | (set_option maxHeartbeats 40000 in (simp; omega)) | (set_option maxHeartbeats 40000 in (simp at *; omega)) | (set_option maxHeartbeats 40000 in (simp_all; done)) | (set_option maxHeartbeats 40000 in (simp_all; omega))) (by /-_law_right 36: 0 < some_5.length-/first | assumption | omega | (dsimp only [lt] at *; omega) | (set_option maxHeartbeats 40000 in (simp; done)) | (set_option maxHeartbeats 40000 in (simp; omega)) | (set_option maxHeartbeats 40000 in (simp at *; omega)) | (set_option maxHeartbeats 40000 in (simp_all; done)) | (set_option maxHeartbeats 40000 in (simp_all; omega))))) x_c (o_isN (e := D.int)))) fun hc => (t_B (x_op2 (x_some (e := D.int) (u := (getI some_5 0)) (by /-_law_right 39: (getI some_5 0).isNone = false-/first | assumption | omega | (dsimp only [lt] at *; omega) | (set_option maxHeartbeats 40000 in (simp; done)) | (set_option maxHeartbeats 40000 in (simp; omega)) | (set_option maxHeartbeats 40000 in (simp at *; omega)) | (set_option maxHeartbeats 40000 in (simp_all; done)) | (set_option maxHeartbeats 40000 in (simp_all; omega))) (x_op2 (x_var rfl) x_c (o_ixL (e := (eO D.int)) (xs := some_5) (k := 0) (by /-_law_right 37: -some_5.length ≤ 0-/first | assumption | omega | (dsimp only [lt] at *; omega) | (set_option maxHeartbeats 40000 in (simp; done)) | (set_option maxHeartbeats 40000 in (simp; omega)) | (set_option maxHeartbeats 40000 in (simp at *; omega)) | (set_option maxHeartbeats 40000 in (simp_all; done)) | (set_option maxHeartbeats 40000 in (simp_all; omega))) (by /-_law_right 38: 0 < some_5.length-/first | assumption | omega | (dsimp only [lt] at *; omega) | (set_option maxHeartbeats 40000 in (simp; done)) | (set_option maxHeartbeats 40000 in (simp; omega)) | (set_option maxHeartbeats 40000 in (simp at *; omega)) | (set_option maxHeartbeats 40000 in (simp_all; done)) | (set_option maxHeartbeats 40000 in (simp_all; omega)))))) (x_some (e := D.int) (u := (getI some_5 2)) (by /-_law_right 42: (getI some_5 2).isNone = false-/first | assumption | omega | (dsimp only [lt] at *; omega) | (set_option maxHeartbeats 40000 in (simp; done)) | (set_option maxHeartbeats 40000 in (simp; omega)) | (set_option maxHeartbeats 40000 in (simp at *; omega)) | (set_option maxHeartbeats 40000 in (simp_all; done)) | (set_option maxHeartbeats 40000 in (simp_all; omega))) (x_op2 (x_var rfl) x_c (o_ixL (e := (eO D.int)) (xs := some_5) (k := 2) (by /-_law_right 40: -some_5.length ≤ 2-/first | assumption | omega | (dsimp only [lt] at *; omega) | (set_option maxHeartbeats 40000 in (simp; done)) | (set_option maxHeartbeats 40000 in (simp; omega)) | (set_option maxHeartbeats 40000 in (simp at *; omega)) | (set_option maxHeartbeats 40000 in (simp_all; done)) | (set_option maxHeartbeats 40000 in (simp_all; omega))) (by /-_law_right 41: 2 < some_5.length-/first | assumption | omega | (dsimp only [lt] at *; omega) | (set_option maxHeartbeats 40000 in (simp; done)) | (set_option maxHeartbeats 40000 in (simp; omega)) | (set_option maxHeartbeats 40000 in (simp at *; omega)) | (set_option maxHeartbeats 40000 in (simp_all; done)) | (set_option maxHeartbeats 40000 in (simp_all; omega)))))) rfl))))) (fun hc2 => ?_) (fun hc2 => ?_)
    · skip
      refine j_re ?_
      exact j_ret (d := D.bl false) x_c rfl ⟨rfl, rfl⟩
    · skip
      refine j_ifq (t_and (t_B (x_op2 (x_opN (xa_cons (x_var rfl) xa_nil) (o_lenT (e := D.int))) x_c rfl)) fun hc => (t_or (t_B (x_op2 (x_var rfl) (x_call (xa_cons (x_var rfl) (xa_cons (x_var rfl) xa_nil)) xa_nil (nb_cons rfl (nb_cons rfl nb_nil)) nb_nil rfl rfl rfl (c_is_found q_1.1 q_2.1 (by /-_law_right 43: is_found: pre 0-/exact ck) (by /-_law_right 44: is_found: pre 1-/exact ckt) (by /-_law_right 45: is_found: pre 2-/first | assumption | omega | (dsimp only [lt] at *; omega) | (set_option maxHeartbeats 40000 in (simp; done)) | (set_option maxHeartbeats 40000 in (simp; omega)) | (set_option maxHeartbeats 40000 in (simp at *; omega)) | (set_option maxHeartbeats 40000 in (simp_all; done)) | (set_option maxHeartbeats 40000 in (simp_all; omega))) (by /-_law_right 46: is_found: pre 3-/first | assumption | omega | (dsimp only [lt] at *; omega) | (set_option maxHeartbeats 40000 in (simp; done)) | (set_option maxHeartbeats 40000 in (simp; omega)) | (set_option maxHeartbeats 40000 in (simp at *; omega)) | (set_option maxHeartbeats 40000 in (simp_all; done)) | (set_option maxHeartbeats 40000 in (simp_all; omega))) _)) rfl)) fun hc => (t_B (x_op2 (x_op2 (x_var rfl) x_c (o_ixL (e := (eO D.int)) (xs := some_5) (k := 0) (by /-_law_right 47: -some_5.length ≤ 0-/first | assumption | omega | (dsimp only [lt] at *; omega) | (set_option maxHeartbeats 40000 in (simp; done)) | (set_option maxHeartbeats 40000 in (simp; omega)) | (set_option maxHeartbeats 40000 in (simp at *; omega)) | (set_option maxHeartbeats 40000 in (simp_all; done)) | (set_option maxHeartbeats 40000 in (simp_all; omega))) (by /-_law_right 48: 0 < some_5.length-/first | assumption | omega | (dsimp only [lt] at *; omega) | (set_option maxHeartbeats 40000 in (simp; done)) | (set_option maxHeartbeats 40000 in (simp; omega)) | (set_option maxHeartbeats 40000 in (simp at *; omega)) | (set_option maxHeartbeats 40000 in (simp_all; done)) | (set_option maxHeartbeats 40000 in (simp_all; omega))))) (x_op2 (x_var rfl) x_c (o_ixL (e := (eO D.int)) (xs := some_5) (k := 2) (by /-_law_right 49: -some_5.length ≤ 2-/first | assumption | omega | (dsimp only [lt] at *; omega) | (set_option maxHeartbeats 40000 in (simp; done)) | (set_option maxHeartbeats 40000 in (simp; omega)) | (set_option maxHeartbeats 40000 in (simp at *; omega)) | (set_option maxHeartbeats 40000 in (simp_all; done)) | (set_option maxHeartbeats 40000 in (simp_all; omega))) (by /-_law_right 50: 2 < some_5.length-/first | assumption | omega | (dsimp only [lt] at *; omega) | (set_option maxHeartbeats 40000 in (simp; done)) | (set_option maxHeartbeats 40000 in (simp; omega)) | (set_option maxHeartbeats 40000 in (simp at *; omega)) | (set_option maxHeartbeats 40000 in (simp_all; done)) | (set_option maxHeartbeats 40000 in (simp_all; omega))))) (o_neE (e := (eO D.int)) (a := (getI some_5 0)) (b := (getI some_5 2)) (by decide)))))) (fun hc3 => ?_) (fun hc3 => ?_)
      · skip
        refine j_re ?_
        exact j_ret (d := D.bl false) x_c rfl ⟨rfl, rfl⟩
      · skip
        refine j_lt fun q_6 e_q_6 => ?_
        have bm_q_6 : q_6.1 ∈ (t_law_questions q_1.1) := by rw [e_q_6]; exact pick_mem law_draw_b (by /-_law_right 57: pick from ≠ []-/first | exact cne | simp)
        try (have hq5 : QOk q_1.1 q_6.1 := mem_questions.mp bm_q_6)
        try (have hq5l := hq5.len)
        try (have hqr := hq5.rest.1)
        try (have hqq := question_ok hq5)
        refine j_seq (z_set (d := (eT D.int) q_6.1) (x_call (xa_cons (x_var rfl) (xa_cons (x_call (xa_cons (x_var rfl) xa_nil) xa_nil (nb_cons rfl nb_nil) nb_nil rfl rfl rfl (c_law_questions q_1.1 (by /-_law_right 51: _law_questions: pre 0-/exact ck4) (by /-_law_right 52: _law_questions: pre 1-/exact ckb) _)) xa_nil)) xa_nil (nb_cons rfl (nb_cons rfl nb_nil)) nb_nil rfl rfl rfl (show _ = R.ok ((eT D.int) q_6.1) (hp n h0 q_6.2) from by rw [e_q_6]; exact c_pick (eT D.int) n h0 q_2.2 (t_law_questions q_1.1) hn (by /-_law_right 53: _law_pick: pre 0-/first | exact cne | decide) (by /-_law_right 54: _law_pick: pre 1-/first | exact Nat.lt_of_le_of_lt (qs_fewH ck cks) (by decide) | decide))) rfl rfl rfl) ?_
        refine j_lt fun whole_7 e_whole_7 => ?_
        refine j_lt fun turned_8 e_turned_8 => ?_
        refine j_seq (z_par2 (m_V (d := (eP2 (eT D.int) (eT D.int)) whole_7) (by rw [e_whole_7]; exact (x_call (xa_cons (x_var rfl) (xa_cons (x_var rfl) xa_nil)) xa_nil (nb_cons rfl (nb_cons rfl nb_nil)) nb_nil rfl rfl rfl (c_both q_1.1 q_6.1 (by /-_law_right 58: both: pre 0-/exact ckc) (by /-_law_right 59: both: pre 1-/exact hqq) _))) rfl) (m_V (d := (eT D.int) turned_8) (by rw [e_turned_8]; exact (x_call (xa_cons (x_var rfl) (xa_cons (x_var rfl) xa_nil)) xa_nil (nb_cons rfl (nb_cons rfl nb_nil)) nb_nil rfl rfl rfl (c_rest q_1.1 q_6.1 (by /-_law_right 60: rest: pre 0-/exact ck) (by /-_law_right 61: rest: pre 1-/exact hq5) _))) rfl) rfl rfl rfl) ?_
        refine j_forR (E := (fun (s : Unit) env h' => (hp n h0 q_6.2) = h' ∧ ∃ (j9 : Sl) (j10 : Sl), [.val (.obj n), .val ((eT D.int) q_1.1), .val (D.int q_2.1), .val (D.bl near_3), .val (D.bl far_4), .val ((eL (eO D.int)) some_5), .val ((eT D.int) q_6.1), .val ((eP2 (eT D.int) (eT D.int)) whole_7), .val ((eT D.int) turned_8), j9, j10, .no, .no, .no, .no, .no, .no] = env)) (V := (fun (r : (Bool × Pot2)) => (D.bl r.1, hp n h0 r.2))) (Inv := (fun (_ : Nat) (_ : Unit) => True)) (i_T (e := eS) (xs := ([(lit "yes"), (lit "no")] : List SS)) (xv ((eT eS) ([(lit "yes"), (lit "no")] : List SS)) (x_tup (xa_cons (xv (eS (lit "yes")) x_c) (xa_cons (xv (eS (lit "no")) x_c) xa_nil)) (nb_cons rfl (nb_cons rfl nb_nil)) rfl))) (loop_ctl (en := eS) (xs := ([(lit "yes"), (lit "no")] : List SS)) (s0 := ()) (fun (s : Unit) env h' => (hp n h0 q_6.2) = h' ∧ ∃ (j9 : Sl) (j10 : Sl), [.val (.obj n), .val ((eT D.int) q_1.1), .val (D.int q_2.1), .val (D.bl near_3), .val (D.bl far_4), .val ((eL (eO D.int)) some_5), .val ((eT D.int) q_6.1), .val ((eP2 (eT D.int) (eT D.int)) whole_7), .val ((eT D.int) turned_8), j9, j10, .no, .no, .no, .no, .no, .no] = env) (fun (r : (Bool × Pot2)) => (D.bl r.1, hp n h0 r.2)) (fun (_ : Nat) (_ : Unit) => True) _ 0 trivial ⟨rfl, _, _, rfl⟩ ?_) ?_
        · rintro i0 u_10 s_9 _ _ hx0 hi0 ⟨rfl, j9, j10, rfl⟩
          have hlt0 := lt_of_get hx0
          have hm0 := List.mem_of_getElem? hx0
          refine ⟨fun s' hs => trivial, [.val (.obj n), .val ((eT D.int) q_1.1), .val (D.int q_2.1), .val (D.bl near_3), .val (D.bl far_4), .val ((eL (eO D.int)) some_5), .val ((eT D.int) q_6.1), .val ((eP2 (eT D.int) (eT D.int)) whole_7), .val ((eT D.int) turned_8), .val (eS u_10), j10, .no, .no, .no, .no, .no, .no], (p_name rfl rfl rfl), ?_⟩
          unfold law_right_l0
          refine j_lt fun half_11 e_half_11 => ?_
          have hz := hb_ok (y := yw u_10) ck hq5
          have hhe : half_11 = hb (yw u_10) q_1.1 q_6.1 := by rw [e_half_11]; exact half_behind_eq
          have hl1 : half_11.1.length ≤ 4 := by rw [hhe]; exact hz.1.l4
          have hl2 : half_11.2.length ≤ 4 := by rw [hhe]; exact hz.2.l4
          refine j_seq (z_set (d := (eP2 (eT D.int) (eT D.int)) half_11) (by rw [e_half_11]; exact (x_call (xa_cons (x_var rfl) (xa_cons (x_var rfl) (xa_cons (x_var rfl) xa_nil))) xa_nil (nb_cons rfl (nb_cons rfl (nb_cons rfl nb_nil))) nb_nil rfl rfl rfl (c_half_behind q_1.1 u_10 q_6.1 (by /-_law_right 62: half_behind: pre 0-/exact ck) (by /-_law_right 63: half_behind: pre 1-/first | assumption | omega | (dsimp only [lt] at *; omega) | (set_option maxHeartbeats 40000 in (simp; done)) | (set_option maxHeartbeats 40000 in (simp; omega)) | (set_option maxHeartbeats 40000 in (simp at *; omega)) | (set_option maxHeartbeats 40000 in (simp_all; done)) | (set_option maxHeartbeats 40000 in (simp_all; omega))) (by /-_law_right 64: half_behind: pre 2-/exact hq5) _))) rfl rfl rfl) ?_
          refine j_ifq (t_not (t_tru (x_opN (xa_cons (xv (eL D.bl ((([half_11.1, half_11.2] : List (List Int)).zip ([whole_7.1, whole_7.2] : List (List Int))).map (fun u_12 => ((u_12.1.zip u_12.2).all (fun u_13 => (decide (u_13.1 ≤ u_13.2))))))) (x_asVal (f_compM (en := (eP2 (eT D.int) (eT D.int))) (ev := D.bl) (fun u_12 => ((u_12.1.zip u_12.2).all (fun u_13 => (decide (u_13.1 ≤ u_13.2))))) (i_zip (e := (eT D.int)) (e' := (eT D.int)) (xs := ([half_11.1, half_11.2] : List (List Int))) (ys := ([whole_7.1, whole_7.2] : List (List Int))) (xa_cons (xv (eT (eT D.int) ([half_11.1, half_11.2] : List (List Int))) (x_var rfl)) (xa_cons (xv (eT (eT D.int) ([whole_7.1, whole_7.2] : List (List Int))) (x_var rfl)) xa_nil)) rfl rfl) (by /-_law_right 65: (([half_11.1, half_11.2] : List (List Int)).zip ([whole_7.1,-/first | assumption | omega | (dsimp only [lt] at *; omega) | (set_option maxHeartbeats 40000 in (simp; done)) | (set_option maxHeartbeats 40000 in (simp; omega)) | (set_option maxHeartbeats 40000 in (simp at *; omega)) | (set_option maxHeartbeats 40000 in (simp_all; done)) | (set_option maxHeartbeats 40000 in (simp_all; omega))) rfl (fun _ => rfl) fun u_12 hu => have hu_u_12 := hu; have hr := mem_zip hu; ⟨_, (p_tup rfl (p_cons (p_name rfl rfl rfl) (p_cons (p_name rfl rfl rfl) p_nil))), (x_opN (xa_cons (xv (eL D.bl ((u_12.1.zip u_12.2).map (fun u_13 => (decide (u_13.1 ≤ u_13.2))))) (x_asVal (f_compM (en := (eP2 D.int D.int)) (ev := D.bl) (fun u_13 => (decide (u_13.1 ≤ u_13.2))) (i_zip (e := D.int) (e' := D.int) (xs := u_12.1) (ys := u_12.2) (xa_cons (x_var rfl) (xa_cons (x_var rfl) xa_nil)) rfl rfl) (by /-_law_right 66: (u_12.1.zip u_12.2).length ≤ 16777216-/simp only [List.zip_cons_cons, List.zip_nil_right, List.mem_cons, List.not_mem_nil, or_false] at hu; rw [List.length_zip]; rcases hu with rfl | rfl <;> dsimp only <;> omega) rfl (fun _ => rfl) fun u_13 hu => have hu_u_13 := hu; have hr := mem_zip hu; ⟨_, (p_tup rfl (p_cons (p_name rfl rfl rfl) (p_cons (p_name rfl rfl rfl) p_nil))), (x_op2 (x_var rfl) (x_var rfl) rfl)⟩))) xa_nil) (o_allM (f := (fun u_13 => (decide (u_13.1 ≤ u_13.2)))) (xs := (u_12.1.zip u_12.2))))⟩))) xa_nil) (o_allM (f := (fun u_12 => ((u_12.1.zip u_12.2).all (fun u_13 => (decide (u_13.1 ≤ u_13.2)))))) (xs := (([half_11.1, half_11.2] : List (List Int)).zip ([whole_7.1, whole_7.2] : List (List Int)))))) tr_bl)) (fun hc4 => ?_) (fun hc4 => ?_)
          · skip
            refine j_rc ?_
            exact j_ret (d := D.bl false) x_c rfl ⟨rfl, rfl⟩
          · skip
            refine j_if (t_B (x_op2 (x_call (xa_cons (x_var rfl) (xa_cons (x_if (e := eS) (u := (lit "no")) (v := (lit "yes")) (t_B (x_op2 (x_var rfl) (xv (eS (lit "yes")) x_c) (o_eqE (e := eS) (a := u_10) (b := (lit "yes")) (by decide)))) (fun hc => (xv (eS (lit "no")) x_c)) (fun hc => (xv (eS (lit "yes")) x_c))) (xa_cons (x_var rfl) xa_nil))) xa_nil (nb_cons rfl (nb_cons rfl (nb_cons rfl nb_nil))) nb_nil rfl rfl rfl (c_half_behind q_1.1 (if (decide (u_10 = (lit "yes"))) = true then (lit "no") else (lit "yes")) turned_8 (by /-_law_right 67: half_behind: pre 0-/exact ck) (by /-_law_right 68: half_behind: pre 1-/split <;> simp) (by /-_law_right 69: half_behind: pre 2-/rw [e_turned_8]; exact hqr) _)) (x_rev (x_var rfl) (show _ = R.ok (eP2 (eT D.int) (eT D.int) (half_11.2, half_11.1)) _ from rfl)) (o_neE (e := (eP2 (eT D.int) (eT D.int))) (a := (t_half_behind q_1.1 (if (decide (u_10 = (lit "yes"))) = true then (lit "no") else (lit "yes")) turned_8)) (b := (half_11.2, half_11.1)) (by decide)))) (fun hc5 => ?_) (fun hc5 => ?_)
            · skip
              exact j_ret (d := D.bl false) x_c rfl ⟨rfl, rfl⟩
            · skip
              refine j_next ?_
              exact ⟨.inl rfl, ⟨rfl, _, _, rfl⟩⟩
        · rintro s_14 _ _ i e_s_14 _ hi inv_s_14 ⟨rfl, j9, j10, rfl⟩
          refine j_lt fun q_15 e_q_15 => ?_
          have bd_q_15 : 0 ≤ q_15.1 ∧ q_15.1 < (q_1.1.length : Int) := by rw [e_q_15]; exact law_draw_b _ _ (by /-_law_right 72: 0 < many-/first | assumption | omega | (dsimp only [lt] at *; omega) | (set_option maxHeartbeats 40000 in (simp; done)) | (set_option maxHeartbeats 40000 in (simp; omega)) | (set_option maxHeartbeats 40000 in (simp at *; omega)) | (set_option maxHeartbeats 40000 in (simp_all; done)) | (set_option maxHeartbeats 40000 in (simp_all; omega)))
          refine j_seq (z_set (d := D.int q_15.1) (x_call (xa_cons (x_var rfl) (xa_cons (x_opN (xa_cons (x_var rfl) xa_nil) (o_lenT (e := D.int))) xa_nil)) xa_nil (nb_cons rfl (nb_cons rfl nb_nil)) nb_nil rfl rfl rfl (show _ = R.ok (D.int q_15.1) (hp n h0 q_15.2) from by rw [e_q_15]; exact c_draw n h0 q_6.2 (q_1.1.length : Int) hn (by /-_law_right 70: _law_draw: pre 0-/first | assumption | omega | (dsimp only [lt] at *; omega) | (set_option maxHeartbeats 40000 in (simp; done)) | (set_option maxHeartbeats 40000 in (simp; omega)) | (set_option maxHeartbeats 40000 in (simp at *; omega)) | (set_option maxHeartbeats 40000 in (simp_all; done)) | (set_option maxHeartbeats 40000 in (simp_all; omega))) (by /-_law_right 71: _law_draw: pre 1-/first | decide | omega))) rfl rfl rfl) ?_
          refine j_ifd (t_and (t_B (x_op2 (x_op2 (x_var rfl) (x_var rfl) (o_ixT (e := D.int) (xs := q_1.1) (k := q_15.1) (by /-_law_right 73: -q_1.1.length ≤ q_15.1-/first | assumption | omega | (dsimp only [lt] at *; omega) | (set_option maxHeartbeats 40000 in (simp; done)) | (set_option maxHeartbeats 40000 in (simp; omega)) | (set_option maxHeartbeats 40000 in (simp at *; omega)) | (set_option maxHeartbeats 40000 in (simp_all; done)) | (set_option maxHeartbeats 40000 in (simp_all; omega))) (by /-_law_right 74: q_15.1 < q_1.1.length-/first | assumption | omega | (dsimp only [lt] at *; omega) | (set_option maxHeartbeats 40000 in (simp; done)) | (set_option maxHeartbeats 40000 in (simp; omega)) | (set_option maxHeartbeats 40000 in (simp at *; omega)) | (set_option maxHeartbeats 40000 in (simp_all; done)) | (set_option maxHeartbeats 40000 in (simp_all; omega))))) x_c rfl)) fun hc => (t_tru (x_var rfl) tr_bl)) (fun hc6 => ?_) (fun hc6 => ?_)
          · skip
            simp only [seq_assocF]
            refine j_lt fun less_16 e_less_16 => ?_
            have hp6 : 0 < getI q_1.1 q_15.1 := by rw [Bool.and_eq_true, decide_eq_true_eq] at hc6; exact hc6.1
            have hle : less_16 = q_1.1.set q_15.1.toNat (getI q_1.1 q_15.1 - 1) := by rw [e_less_16]; exact cut_less (by omega) (by omega) _
            have hlk := less_ok ck (i := q_15.1) (by omega) (by omega) hp6
            rw [← hle] at hlk
            have hlk1 := hlk.2.1
            have hlk2 : less_16.sum ≤ 10 := by have := hlk.2.2; omega
            have hll : less_16.length = q_1.1.length := hlk.1.len
            have cl1 := @cut_le _ less_16 none (some (q_15.1 + 1))
            have cl2 := @cut_le _ less_16 (some (q_15.1 + 2)) none
            refine j_seq (z_set (d := (eT D.int) less_16) (by rw [e_less_16]; exact (x_op2 (x_op2 (x_slice (x_var rfl) x_noPart (x_part (x_var rfl)) (o_slT (e := D.int) (xs := q_1.1))) (xv ((eT D.int) ([((getI q_1.1 q_15.1) - 1)] : List Int)) (x_tup (xa_cons (x_op2 (x_op2 (x_var rfl) (x_var rfl) (o_ixT (e := D.int) (xs := q_1.1) (k := q_15.1) (by /-_law_right 75: -q_1.1.length ≤ q_15.1-/first | assumption | omega | (dsimp only [lt] at *; omega) | (set_option maxHeartbeats 40000 in (simp; done)) | (set_option maxHeartbeats 40000 in (simp; omega)) | (set_option maxHeartbeats 40000 in (simp at *; omega)) | (set_option maxHeartbeats 40000 in (simp_all; done)) | (set_option maxHeartbeats 40000 in (simp_all; omega))) (by /-_law_right 76: q_15.1 < q_1.1.length-/first | assumption | omega | (dsimp only [lt] at *; omega) | (set_option maxHeartbeats 40000 in (simp; done)) | (set_option maxHeartbeats 40000 in (simp; omega)) | (set_option maxHeartbeats 40000 in (simp at *; omega)) | (set_option maxHeartbeats 40000 in (simp_all; done)) | (set_option maxHeartbeats 40000 in (simp_all; omega))))) x_c rfl) xa_nil) (nb_cons rfl nb_nil) rfl)) (o_addT (e := D.int) (xs := (cut q_1.1 none (some q_15.1))) (ys := ([((getI q_1.1 q_15.1) - 1)] : List Int)) (by /-_law_right 77: (cut q_1.1 none (some q_15.1)).length + ([((getI q_1.1 q_15.-/first | assumption | omega | (dsimp only [lt] at *; omega) | (set_option maxHeartbeats 40000 in (simp; done)) | (set_option maxHeartbeats 40000 in (simp; omega)) | (set_option maxHeartbeats 40000 in (simp at *; omega)) | (set_option maxHeartbeats 40000 in (simp_all; done)) | (set_option maxHeartbeats 40000 in (simp_all; omega))))) (x_slice (x_var rfl) (x_part (x_op2 (x_var rfl) x_c rfl)) x_noPart (o_slT (e := D.int) (xs := q_1.1))) (o_addT (e := D.int) (xs := ((cut q_1.1 none (some q_15.1)) ++ ([((getI q_1.1 q_15.1) - 1)] : List Int))) (ys := (cut q_1.1 (some (q_15.1 + 1)) none)) (by /-_law_right 78: ((cut q_1.1 none (some q_15.1)) ++ ([((getI q_1.1 q_15.1) - -/first | assumption | omega | (dsimp only [lt] at *; omega) | (set_option maxHeartbeats 40000 in (simp; done)) | (set_option maxHeartbeats 40000 in (simp; omega)) | (set_option maxHeartbeats 40000 in (simp at *; omega)) | (set_option maxHeartbeats 40000 in (simp_all; done)) | (set_option maxHeartbeats 40000 in (simp_all; omega)))))) rfl rfl rfl) ?_
            refine j_ifq (t_B (x_op2 (x_call (xa_cons (xv ((eP2 (eT D.int) D.int) (less_16, q_2.1)) (x_tup (xa_cons (x_var rfl) (xa_cons (x_var rfl) xa_nil)) (nb_cons rfl (nb_cons rfl nb_nil)) rfl)) (xa_cons (xv (eS (lit "yes")) x_c) xa_nil)) xa_nil (nb_cons rfl (nb_cons rfl nb_nil)) nb_nil rfl rfl rfl (c_is_half_found (less_16, q_2.1) (lit "yes") (by /-_law_right 79: is_half_found: pre 0-/exact hlk1) (by /-_law_right 80: is_half_found: pre 1-/exact hlk2) (by /-_law_right 81: is_half_found: pre 2-/first | assumption | omega | (dsimp only [lt] at *; omega) | (set_option maxHeartbeats 40000 in (simp; done)) | (set_option maxHeartbeats 40000 in (simp; omega)) | (set_option maxHeartbeats 40000 in (simp at *; omega)) | (set_option maxHeartbeats 40000 in (simp_all; done)) | (set_option maxHeartbeats 40000 in (simp_all; omega))) (by /-_law_right 82: is_half_found: pre 3-/first | assumption | omega | (dsimp only [lt] at *; omega) | (set_option maxHeartbeats 40000 in (simp; done)) | (set_option maxHeartbeats 40000 in (simp; omega)) | (set_option maxHeartbeats 40000 in (simp at *; omega)) | (set_option maxHeartbeats 40000 in (simp_all; done)) | (set_option maxHeartbeats 40000 in (simp_all; omega))) (by /-_law_right 83: is_half_found: pre 4-/first | assumption | omega | (dsimp only [lt] at *; omega) | (set_option maxHeartbeats 40000 in (simp; done)) | (set_option maxHeartbeats 40000 in (simp; omega)) | (set_option maxHeartbeats 40000 in (simp at *; omega)) | (set_option maxHeartbeats 40000 in (simp_all; done)) | (set_option maxHeartbeats 40000 in (simp_all; omega))) _)) x_c rfl)) (fun hc7 => ?_) (fun hc7 => ?_)
            · skip
              refine j_re ?_
              exact j_ret (d := D.bl false) x_c rfl ⟨rfl, rfl⟩
            · skip
              refine j_ifq (t_B (x_op2 (x_op2 (x_var rfl) x_c rfl) (x_opN (xa_cons (x_var rfl) xa_nil) (o_lenT (e := D.int))) rfl)) (fun hc8 => ?_) (fun hc8 => ?_)
              · skip
                refine j_re ?_
                refine j_lt fun late_17 e_late_17 => ?_
                have hc8' : q_15.1 + 1 < (q_1.1.length : Int) := by simpa using hc8
                have hlt : late_17 = less_16.set (q_15.1 + 1).toNat (getI less_16 (q_15.1 + 1) + 1) := by rw [e_late_17, show q_15.1 + 2 = q_15.1 + 1 + 1 by omega]; exact cut_less (by omega) (by omega) _
                have hmv := late_okH ck (i := q_15.1) (by omega) hc8' hp6
                rw [← hle, ← hlt] at hmv
                have hvk := hmv.ok ck
                have hvs : late_17.sum ≤ 10 := by have := hmv.sum; omega
                refine j_seq (z_set (d := (eT D.int) late_17) (by rw [e_late_17]; exact (x_op2 (x_op2 (x_slice (x_var rfl) x_noPart (x_part (x_op2 (x_var rfl) x_c rfl)) (o_slT (e := D.int) (xs := less_16))) (xv ((eT D.int) ([((getI less_16 (q_15.1 + 1)) + 1)] : List Int)) (x_tup (xa_cons (x_op2 (x_op2 (x_var rfl) (x_op2 (x_var rfl) x_c rfl) (o_ixT (e := D.int) (xs := less_16) (k := (q_15.1 + 1)) (by /-_law_right 84: -less_16.length ≤ (q_15.1 + 1)-/first | assumption | omega | (dsimp only [lt] at *; omega) | (set_option maxHeartbeats 40000 in (simp; done)) | (set_option maxHeartbeats 40000 in (simp; omega)) | (set_option maxHeartbeats 40000 in (simp at *; omega)) | (set_option maxHeartbeats 40000 in (simp_all; done)) | (set_option maxHeartbeats 40000 in (simp_all; omega))) (by /-_law_right 85: (q_15.1 + 1) < less_16.length-/first | assumption | omega | (dsimp only [lt] at *; omega) | (set_option maxHeartbeats 40000 in (simp; done)) | (set_option maxHeartbeats 40000 in (simp; omega)) | (set_option maxHeartbeats 40000 in (simp at *; omega)) | (set_option maxHeartbeats 40000 in (simp_all; done)) | (set_option maxHeartbeats 40000 in (simp_all; omega))))) x_c rfl) xa_nil) (nb_cons rfl nb_nil) rfl)) (o_addT (e := D.int) (xs := (cut less_16 none (some (q_15.1 + 1)))) (ys := ([((getI less_16 (q_15.1 + 1)) + 1)] : List Int)) (by /-_law_right 86: (cut less_16 none (some (q_15.1 + 1))).length + ([((getI les-/first | assumption | omega | (dsimp only [lt] at *; omega) | (set_option maxHeartbeats 40000 in (simp; done)) | (set_option maxHeartbeats 40000 in (simp; omega)) | (set_option maxHeartbeats 40000 in (simp at *; omega)) | (set_option maxHeartbeats 40000 in (simp_all; done)) | (set_option maxHeartbeats 40000 in (simp_all; omega))))) (x_slice (x_var rfl) (x_part (x_op2 (x_var rfl) x_c rfl)) x_noPart (o_slT (e := D.int) (xs := less_16))) (o_addT (e := D.int) (xs := ((cut less_16 none (some (q_15.1 + 1))) ++ ([((getI less_16 (q_15.1 + 1)) + 1)] : List Int))) (ys := (cut less_16 (some (q_15.1 + 2)) none)) (by /-_law_right 87: ((cut less_16 none (some (q_15.1 + 1))) ++ ([((getI less_16 -/first | assumption | omega | (dsimp only [lt] at *; omega) | (set_option maxHeartbeats 40000 in (simp; done)) | (set_option maxHeartbeats 40000 in (simp; omega)) | (set_option maxHeartbeats 40000 in (simp at *; omega)) | (set_option maxHeartbeats 40000 in (simp_all; done)) | (set_option maxHeartbeats 40000 in (simp_all; omega)))))) rfl rfl rfl) ?_
                exact j_ret (d := D.bl ((decide ((t_is_half_found (late_17, q_2.1) (lit "yes")) = true)) && (decide ((t_is_half_found (late_17, (min 12 (q_2.1 + 1))) (lit "no")) = true)))) (x_and (x_op2 (x_call (xa_cons (xv ((eP2 (eT D.int) D.int) (late_17, q_2.1)) (x_tup (xa_cons (x_var rfl) (xa_cons (x_var rfl) xa_nil)) (nb_cons rfl (nb_cons rfl nb_nil)) rfl)) (xa_cons (xv (eS (lit "yes")) x_c) xa_nil)) xa_nil (nb_cons rfl (nb_cons rfl nb_nil)) nb_nil rfl rfl rfl (c_is_half_found (late_17, q_2.1) (lit "yes") (by /-_law_right 88: is_half_found: pre 0-/exact hvk) (by /-_law_right 89: is_half_found: pre 1-/exact hvs) (by /-_law_right 90: is_half_found: pre 2-/first | assumption | omega | (dsimp only [lt] at *; omega) | (set_option maxHeartbeats 40000 in (simp; done)) | (set_option maxHeartbeats 40000 in (simp; omega)) | (set_option maxHeartbeats 40000 in (simp at *; omega)) | (set_option maxHeartbeats 40000 in (simp_all; done)) | (set_option maxHeartbeats 40000 in (simp_all; omega))) (by /-_law_right 91: is_half_found: pre 3-/first | assumption | omega | (dsimp only [lt] at *; omega) | (set_option maxHeartbeats 40000 in (simp; done)) | (set_option maxHeartbeats 40000 in (simp; omega)) | (set_option maxHeartbeats 40000 in (simp at *; omega)) | (set_option maxHeartbeats 40000 in (simp_all; done)) | (set_option maxHeartbeats 40000 in (simp_all; omega))) (by /-_law_right 92: is_half_found: pre 4-/first | assumption | omega | (dsimp only [lt] at *; omega) | (set_option maxHeartbeats 40000 in (simp; done)) | (set_option maxHeartbeats 40000 in (simp; omega)) | (set_option maxHeartbeats 40000 in (simp at *; omega)) | (set_option maxHeartbeats 40000 in (simp_all; done)) | (set_option maxHeartbeats 40000 in (simp_all; omega))) _)) x_c rfl) fun hc => (x_op2 (x_call (xa_cons (xv ((eP2 (eT D.int) D.int) (late_17, (min 12 (q_2.1 + 1)))) (x_tup (xa_cons (x_var rfl) (xa_cons (x_opN (xa_cons x_c (xa_cons (x_op2 (x_var rfl) x_c rfl) xa_nil)) o_min2) xa_nil)) (nb_cons rfl (nb_cons rfl nb_nil)) rfl)) (xa_cons (xv (eS (lit "no")) x_c) xa_nil)) xa_nil (nb_cons rfl (nb_cons rfl nb_nil)) nb_nil rfl rfl rfl (c_is_half_found (late_17, (min 12 (q_2.1 + 1))) (lit "no") (by /-_law_right 93: is_half_found: pre 0-/exact hvk) (by /-_law_right 94: is_half_found: pre 1-/exact hvs) (by /-_law_right 95: is_half_found: pre 2-/first | assumption | omega | (dsimp only [lt] at *; omega) | (set_option maxHeartbeats 40000 in (simp; done)) | (set_option maxHeartbeats 40000 in (simp; omega)) | (set_option maxHeartbeats 40000 in (simp at *; omega)) | (set_option maxHeartbeats 40000 in (simp_all; done)) | (set_option maxHeartbeats 40000 in (simp_all; omega))) (by /-_law_right 96: is_half_found: pre 3-/first | assumption | omega | (dsimp only [lt] at *; omega) | (set_option maxHeartbeats 40000 in (simp; done)) | (set_option maxHeartbeats 40000 in (simp; omega)) | (set_option maxHeartbeats 40000 in (simp at *; omega)) | (set_option maxHeartbeats 40000 in (simp_all; done)) | (set_option maxHeartbeats 40000 in (simp_all; omega))) (by /-_law_right 97: is_half_found: pre 4-/first | assumption | omega | (dsimp only [lt] at *; omega) | (set_option maxHeartbeats 40000 in (simp; done)) | (set_option maxHeartbeats 40000 in (simp; omega)) | (set_option maxHeartbeats 40000 in (simp at *; omega)) | (set_option maxHeartbeats 40000 in (simp_all; done)) | (set_option maxHeartbeats 40000 in (simp_all; omega))) _)) x_c rfl)) rfl ⟨rfl, rfl⟩
              · skip
                exact j_ret (d := D.bl true) x_c rfl ⟨rfl, rfl⟩
          · skip
            refine j_nextS ?_
            exact j_ret (d := D.bl true) x_c rfl ⟨rfl, rfl⟩
end EV
namespace EV
open PySem L2
theorem le_all {a b : List Int} (h : QOk b a) : (a.zip b).all (fun u => decide (u.1 ≤ u.2)) = true := by
  induction h with
  | nil => rfl
  | cons a0 a1 _ ih => rw [List.zip_cons_cons, List.all_cons, ih, Bool.and_true]; exact decide_eq_true a1
theorem half_le {y : Bool} {c q : List Int} (o : COk c) (h : QOk c q) : QOk (t_both c q).1 (hb y c q).1 ∧ QOk (t_both c q).2 (hb y c q).2 := by
  have l1 := o.l1
  have lq := h.len
  have lr := h.rest.1.len
  cases y
  · refine ⟨?_, qok_self (no_ok o h).1.nn⟩
    show QOk (t_behind_yes c q) q
    rw [yes_add]
    exact qok_addL (by rw [sh_len (by omega)]; omega) h.nn (sh_nn h.rest.1.nn)
  · refine ⟨qok_self (yes_ok o h).1.nn, ?_⟩
    show QOk (t_behind_no c q) (t_rest_of c q)
    rw [no_add h]
    exact qok_addL (by rw [sh_len (by omega)]; omega) h.rest.1.nn (sh_nn h.nn)
theorem least_one {c : List Int} (o : COk c) (h : c.length = 1) {y : Bool} : ∀ l : Int, 0 ≤ l → l ≤ 16 → hfnd y l.toNat c = fnd l.toNat c := fun l a b => by
  match c, h with
  | [x], _ => exact hfnd_one o (by omega)
theorem find_congr' {f g : Int → Bool} : ∀ {xs : List Int}, (∀ x ∈ xs, f x = g x) → xs.find? f = xs.find? g
  | [], _ => rfl
  | x :: xs, h => by
    rw [List.find?_cons, List.find?_cons, h x (.head _), find_congr' fun y m => h y (.tail _ m)]
theorem right_true {p : Pot2} : (t_law_right p).1 = true := by
  obtain ⟨o, sm⟩ := counts_okH (p := p) (most := 6) (by decide) (by decide)
  have hb2 := law_draw_b (t_law_counts p 6).2 8 (by decide)
  unfold t_law_right
  simp only [lt]
  generalize (t_law_counts p 6).1 = c at *
  generalize (t_law_counts p 6).2 = p1 at *
  generalize (t_law_draw p1 8).1 = l at *
  generalize (t_law_draw p1 8).2 = p2 at *
  have hn : t_is_half_found (c, l) (lit "yes") = hfnd true l.toNat c := rfl
  have hf : t_is_half_found (c, l) (lit "no") = hfnd true l.toNat c := hfnd_word
  have hi : t_is_found c l = fnd l.toNat c := rfl
  have h1 : t_least_half_left c (lit "yes") = (rangeI 13).find? fun l => hfnd true l.toNat c := rfl
  have h2 : t_least_half_left c (lit "no") = (rangeI 13).find? fun l => hfnd true l.toNat c := by
    show (rangeI 13).find? (fun l => hfnd (yw (lit "no")) l.toNat c) = _
    congr 1
    funext l
    exact hfnd_word
  have h3 : t_least c = (rangeI 13).find? fun l => fnd l.toNat c := rfl
  rw [hn, hf, hi, h1, h2, h3]
  have fh : fnd l.toNat c = true → hfnd true l.toNat c = true := fnd_hfnd o (by omega)
  rw [if_neg]
  rotate_left
  · cases e : hfnd true l.toNat c with
    | true => simp [rpBL]
    | false =>
      have : fnd l.toNat c = false := by rw [Bool.eq_false_iff]; intro z; rw [fh z] at e; cases e
      simp [rpBL, this]
  have g0 : ∀ a b d : Option Int, getI [a, b, d] 0 = a := fun _ _ _ => rfl
  have g1 : ∀ a b d : Option Int, getI [a, b, d] 1 = b := fun _ _ _ => rfl
  have g2 : ∀ a b d : Option Int, getI [a, b, d] 2 = d := fun _ _ _ => rfl
  rw [g0, g1, g2]
  have le : ∀ v, (rangeI 13).find? (fun l => fnd l.toNat c) = some v → ∃ u, (rangeI 13).find? (fun l => hfnd true l.toNat c) = some u ∧ u ≤ v := by
    intro v e
    have v1 := mem_nats.mp (List.mem_of_find?_eq_some e)
    have v2 : fnd v.toNat c = true := List.find?_some (p := fun l : Int => fnd l.toNat c) e
    have v3 := fnd_hfnd (y := true) o (by omega) v2
    cases e2 : (rangeI 13).find? (fun l : Int => hfnd true l.toNat c) with
    | none =>
      have := List.find?_eq_none.mp e2 v (List.mem_of_find?_eq_some e)
      rw [v3] at this
      exact absurd rfl this
    | some u =>
      refine ⟨u, rfl, ?_⟩
      obtain ⟨_, as, bs, e3, e4⟩ := List.find?_eq_some_iff_append.mp e2
      have mv := List.mem_of_find?_eq_some e
      rw [e3] at mv
      rcases List.mem_append.mp mv with m | m
      · have := e4 v m
        rw [v3] at this
        cases this
      · have srt : (rangeI 13).Pairwise (· < ·) := by decide
        rw [e3, List.pairwise_append] at srt
        rcases List.mem_cons.mp m with rfl | m
        · omega
        · have := (List.pairwise_cons.mp srt.2.1).1 v m
          omega
  rw [if_neg]
  rotate_left
  · cases e : (rangeI 13).find? (fun l : Int => fnd l.toNat c) with
    | none => simp
    | some v =>
      obtain ⟨u, e2, e3⟩ := le v e
      rw [e2]
      simp
      omega
  rw [if_neg]
  rotate_left
  · by_cases z : c.length = 1
    · rw [least_one o z l (by omega) (by omega)]
      have e : (rangeI 13).find? (fun l : Int => hfnd true l.toNat c) = (rangeI 13).find? (fun l : Int => fnd l.toNat c) := by
        refine find_congr' fun x m => ?_
        have := mem_rng m
        exact least_one o z x (by omega) (by omega)
      rw [e]
      simp
    · have : ¬ (c.length : Int) = 1 := by omega
      simp [this]
  have hq := mem_questions.mp (pick_mem law_draw_b (p := p2) (xs := t_law_questions c) (qs_ne o))
  generalize (pickP t_law_draw p2 (t_law_questions c)).1 = q at *
  generalize (pickP t_law_draw p2 (t_law_questions c)).2 = p3 at *
  refine loopR_cg (Z := fun (r : Bool × Pot2) => r.1 = true) (P := fun _ _ => True) (Q := fun _ => False) (k := 0) trivial (fun i u s hu _ => ?_) (fun s _ => ?_) (fun _ h => h.elim)
  · have hu := List.mem_of_getElem? hu
    obtain ⟨a, b⟩ := half_le (y := yw u) o hq
    refine cg_no ?_ (cg_no ?_ trivial)
    · rw [half_behind_eq]
      simp only [List.zip_cons_cons, List.zip_nil_right, List.all_cons, List.all_nil, Bool.and_true]
      rw [le_all a, le_all b]
      rfl
    · have e : yw (if (decide (u = (lit "yes"))) = true then (lit "no") else (lit "yes")) = !(yw u) := by
        simp only [List.mem_cons, List.not_mem_nil, or_false] at hu
        rcases hu with rfl | rfl <;> decide
      rw [half_behind_eq, half_behind_eq, e]
      show (!decide (hb (!(yw u)) c (t_rest_of c q) = _)) = false
      rw [hb_turn hq]
      simp
  have ha := law_draw_b p3 (c.length : Int) (by have := o.l1; omega)
  generalize (t_law_draw p3 (c.length : Int)).1 = i at *
  generalize (t_law_draw p3 (c.length : Int)).2 = p4 at *
  by_cases z : 0 < getI c i ∧ hfnd true l.toNat c = true
  · rw [if_pos (by rw [z.2]; simpa using z.1)]
    rw [cut_less (by omega) (by omega)]
    have k1 := less_ok o (by omega) (by omega) z.1
    have k2 : t_is_half_found (c.set i.toNat (getI c i - 1), l) (lit "yes") = true := (hfnd_mvs o k1.1 z.2).1
    rw [k2, if_neg (by simp)]
    by_cases w : i + 1 < (c.length : Int)
    · rw [if_pos (by simpa using w)]
      rw [show i + 2 = i + 1 + 1 by omega, cut_less (by omega) (by rw [List.length_set]; omega)]
      have m := late_okH o (by omega) w z.1
      have m1 := hfnd_mv o m z.2
      have m2 : t_is_half_found ((c.set i.toNat (getI c i - 1)).set (i + 1).toNat (getI (c.set i.toNat (getI c i - 1)) (i + 1) + 1), l) (lit "yes") = true := m1
      have m3 : t_is_half_found ((c.set i.toNat (getI c i - 1)).set (i + 1).toNat (getI (c.set i.toNat (getI c i - 1)) (i + 1) + 1), (min 12 (l + 1))) (lit "no") = true := by
        show hfnd _ (min 12 (l + 1)).toNat _ = true
        rw [hfnd_word (z := true)]
        exact hfnd_le (by omega) m1
      rw [m2, m3]
      rfl
    · rw [if_neg (by simpa using w)]
  · rw [if_neg]
    rw [Bool.and_eq_true, decide_eq_true_eq]
    exact z
end EV
namespace EV.K
open PySem L2
theorem U_is_integer {k : Nat} : F (k + 1) 1 = bodyF 1 m_is_integer (F k) := funext fun ds => funext fun h => u_is_integer
theorem f_is_integer : ∀ k, 1 ≤ k → ST_is_integer (F k 1)
  | 0, q => absurd q (by decide)
  | k + 1, q => by rw [U_is_integer]; exact et_is_integer
theorem U_is_count {k : Nat} : F (k + 1) 2 = bodyF 1 m_is_count (F k) := funext fun ds => funext fun h => u_is_count
theorem f_is_count : ∀ k, 2 ≤ k → ST_is_count (F k 2)
  | 0, q => absurd q (by decide)
  | k + 1, q => by rw [U_is_count]; exact et_is_count (f_is_integer k (by omega))
theorem U_is_below {k : Nat} : F (k + 1) 3 = bodyF 2 m_is_below (F k) := funext fun ds => funext fun h => u_is_below
theorem f_is_below : ∀ k, 3 ≤ k → ST_is_below (F k 3)
  | 0, q => absurd q (by decide)
  | k + 1, q => by rw [U_is_below]; exact et_is_below (f_is_count k (by omega))
theorem U_is_row {k : Nat} : F (k + 1) 4 = bodyF 2 m_is_row (F k) := funext fun ds => funext fun h => u_is_row
theorem f_is_row : ∀ k, 1 ≤ k → ST_is_row (F k 4)
  | 0, q => absurd q (by decide)
  | k + 1, q => by rw [U_is_row]; exact et_is_row
theorem U_want_at_most {k : Nat} : F (k + 1) 5 = bodyF 3 m_want_at_most (F k) := funext fun ds => funext fun h => u_want_at_most
theorem f_want_at_most : ∀ k, 1 ≤ k → ST_want_at_most (F k 5)
  | 0, q => absurd q (by decide)
  | k + 1, q => by rw [U_want_at_most]; exact et_want_at_most
theorem U_are_counts_of {k : Nat} : F (k + 1) 6 = bodyF 2 m_are_counts_of (F k) := funext fun ds => funext fun h => u_are_counts_of
theorem f_are_counts_of : ∀ k, 3 ≤ k → ST_are_counts_of (F k 6)
  | 0, q => absurd q (by decide)
  | k + 1, q => by rw [U_are_counts_of]; exact et_are_counts_of (f_is_count k (by omega))
theorem U_is_left {k : Nat} : F (k + 1) 7 = bodyF 1 m_is_left (F k) := funext fun ds => funext fun h => u_is_left
theorem f_is_left : ∀ k, 4 ≤ k → ST_is_left (F k 7)
  | 0, q => absurd q (by decide)
  | k + 1, q => by rw [U_is_left]; exact et_is_left (f_is_below k (by omega))
theorem U_is_standing_of {k : Nat} : F (k + 1) 8 = bodyF 1 m_is_standing_of (F k) := funext fun ds => funext fun h => u_is_standing_of
theorem f_is_standing_of : ∀ k, 5 ≤ k → ST_is_standing_of (F k 8)
  | 0, q => absurd q (by decide)
  | k + 1, q => by rw [U_is_standing_of]; exact et_is_standing_of (f_is_row k (by omega)) (f_are_counts_of k (by omega)) (f_is_left k (by omega))
theorem U_lies_of {k : Nat} : F (k + 1) 9 = bodyF 1 m_lies_of (F k) := funext fun ds => funext fun h => u_lies_of
theorem f_lies_of : ∀ k, 1 ≤ k → ST_lies_of (F k 9)
  | 0, q => absurd q (by decide)
  | k + 1, q => by rw [U_lies_of]; exact et_lies_of
theorem U_together {k : Nat} : F (k + 1) 10 = bodyF 1 m_together (F k) := funext fun ds => funext fun h => u_together
theorem f_together : ∀ k, 1 ≤ k → ST_together (F k 10)
  | 0, q => absurd q (by decide)
  | k + 1, q => by rw [U_together]; exact et_together
theorem U_is_settled_of {k : Nat} : F (k + 1) 11 = bodyF 1 m_is_settled_of (F k) := funext fun ds => funext fun h => u_is_settled_of
theorem f_is_settled_of : ∀ k, 1 ≤ k → ST_is_settled_of (F k 11)
  | 0, q => absurd q (by decide)
  | k + 1, q => by rw [U_is_settled_of]; exact et_is_settled_of
theorem U_want_counts {k : Nat} : F (k + 1) 12 = bodyF 1 m_want_counts (F k) := funext fun ds => funext fun h => u_want_counts
theorem f_want_counts : ∀ k, 4 ≤ k → ST_want_counts (F k 12)
  | 0, q => absurd q (by decide)
  | k + 1, q => by rw [U_want_counts]; exact et_want_counts (f_are_counts_of k (by omega))
theorem U_want_left {k : Nat} : F (k + 1) 13 = bodyF 1 m_want_left (F k) := funext fun ds => funext fun h => u_want_left
theorem f_want_left : ∀ k, 5 ≤ k → ST_want_left (F k 13)
  | 0, q => absurd q (by decide)
  | k + 1, q => by rw [U_want_left]; exact et_want_left (f_is_left k (by omega))
theorem U_want_standing {k : Nat} : F (k + 1) 14 = bodyF 1 m_want_standing (F k) := funext fun ds => funext fun h => u_want_standing
theorem f_want_standing : ∀ k, 6 ≤ k → ST_want_standing (F k 14)
  | 0, q => absurd q (by decide)
  | k + 1, q => by rw [U_want_standing]; exact et_want_standing (f_is_standing_of k (by omega))
theorem U_is_question_of {k : Nat} : F (k + 1) 15 = bodyF 4 m_is_question_of (F k) := funext fun ds => funext fun h => u_is_question_of
theorem f_is_question_of : ∀ k, 4 ≤ k → ST_is_question_of (F k 15)
  | 0, q => absurd q (by decide)
  | k + 1, q => by rw [U_is_question_of]; exact et_is_question_of (f_is_row k (by omega)) (f_is_below k (by omega))
theorem U_questions_of {k : Nat} : F (k + 1) 16 = bodyF 6 m_questions_of (F k) := funext fun ds => funext fun h => u_questions_of
theorem f_questions_of : ∀ k, 1 ≤ k → ST_questions_of (F k 16)
  | 0, q => absurd q (by decide)
  | k + 1, q => by rw [U_questions_of]; exact et_questions_of
theorem U_rest_of {k : Nat} : F (k + 1) 17 = bodyF 4 m_rest_of (F k) := funext fun ds => funext fun h => u_rest_of
theorem f_rest_of : ∀ k, 1 ≤ k → ST_rest_of (F k 17)
  | 0, q => absurd q (by decide)
  | k + 1, q => by rw [U_rest_of]; exact et_rest_of
theorem U_behind_yes {k : Nat} : F (k + 1) 18 = bodyF 5 m_behind_yes (F k) := funext fun ds => funext fun h => u_behind_yes
theorem f_behind_yes : ∀ k, 2 ≤ k → ST_behind_yes (F k 18)
  | 0, q => absurd q (by decide)
  | k + 1, q => by rw [U_behind_yes]; exact et_behind_yes (f_rest_of k (by omega))
theorem U_behind_no {k : Nat} : F (k + 1) 19 = bodyF 2 m_behind_no (F k) := funext fun ds => funext fun h => u_behind_no
theorem f_behind_no : ∀ k, 3 ≤ k → ST_behind_no (F k 19)
  | 0, q => absurd q (by decide)
  | k + 1, q => by rw [U_behind_no]; exact et_behind_no (f_rest_of k (by omega)) (f_behind_yes k (by omega))
theorem U_both_behind {k : Nat} : F (k + 1) 20 = bodyF 2 m_both_behind (F k) := funext fun ds => funext fun h => u_both_behind
theorem f_both_behind : ∀ k, 4 ≤ k → ST_both_behind (F k 20)
  | 0, q => absurd q (by decide)
  | k + 1, q => by rw [U_both_behind]; exact et_both_behind (f_behind_yes k (by omega)) (f_behind_no k (by omega))
theorem U_want_question {k : Nat} : F (k + 1) 21 = bodyF 2 m_want_question (F k) := funext fun ds => funext fun h => u_want_question
theorem f_want_question : ∀ k, 5 ≤ k → ST_want_question (F k 21)
  | 0, q => absurd q (by decide)
  | k + 1, q => by rw [U_want_question]; exact et_want_question (f_is_question_of k (by omega))
theorem U_rest {k : Nat} : F (k + 1) 22 = bodyF 2 m_rest (F k) := funext fun ds => funext fun h => u_rest
theorem f_rest : ∀ k, 6 ≤ k → ST_rest (F k 22)
  | 0, q => absurd q (by decide)
  | k + 1, q => by rw [U_rest]; exact et_rest (f_want_counts k (by omega)) (f_want_question k (by omega)) (f_rest_of k (by omega))
theorem U_both {k : Nat} : F (k + 1) 23 = bodyF 2 m_both (F k) := funext fun ds => funext fun h => u_both
theorem f_both : ∀ k, 6 ≤ k → ST_both (F k 23)
  | 0, q => absurd q (by decide)
  | k + 1, q => by rw [U_both]; exact et_both (f_want_counts k (by omega)) (f_want_question k (by omega)) (f_both_behind k (by omega))
theorem U_ways_of {k : Nat} : F (k + 1) 24 = bodyF 5 m_ways_of (F k) := funext fun ds => funext fun h => u_ways_of
theorem f_ways_of : ∀ k, 1 ≤ k → ST_ways_of (F k 24)
  | 0, q => absurd q (by decide)
  | k + 1, q => by rw [U_ways_of]; exact et_ways_of
theorem U_weight_of {k : Nat} : F (k + 1) 25 = bodyF 5 m_weight_of (F k) := funext fun ds => funext fun h => u_weight_of
theorem f_weight_of : ∀ k, 2 ≤ k → ST_weight_of (F k 25)
  | 0, q => absurd q (by decide)
  | k + 1, q => by rw [U_weight_of]; exact et_weight_of (f_lies_of k (by omega)) (f_ways_of k (by omega))
theorem U_power_of_two {k : Nat} : F (k + 1) 27 = bodyF 3 m_power_of_two (F k) := funext fun ds => funext fun h => u_power_of_two
theorem f_power_of_two : ∀ k, 1 ≤ k → ST_power_of_two (F k 27)
  | 0, q => absurd q (by decide)
  | k + 1, q => by rw [U_power_of_two]; exact et_power_of_two
theorem U_half_both {k : Nat} : F (k + 1) 28 = bodyF 3 m_half_both (F k) := funext fun ds => funext fun h => u_half_both
theorem f_half_both : ∀ k, 4 ≤ k → ST_half_both (F k 28)
  | 0, q => absurd q (by decide)
  | k + 1, q => by rw [U_half_both]; exact et_half_both (f_behind_yes k (by omega)) (f_rest_of k (by omega)) (f_behind_no k (by omega))
theorem U_Halves___init__ {k : Nat} : F (k + 1) 29 = bodyF 2 m_Halves___init__ (F k) := funext fun ds => funext fun h => u_Halves___init__
theorem f_Halves_init : ∀ k, 1 ≤ k → ST_Halves_init (F k 29)
  | 0, q => absurd q (by decide)
  | k + 1, q => by rw [U_Halves___init__]; exact et_Halves_init
theorem U_Halves_is_found {k : Nat} : F (k + 1) 30 = bodyF 3 m_Halves_is_found (F k) := funext fun ds => funext fun h => u_Halves_is_found
theorem V_Halves_question {k : Nat} : F (k + 1) 31 = bodyF 6 m_Halves_question (F k) := funext fun ds => funext fun h => u_Halves_question
theorem r_Halves : ∀ k l, l ≤ 16 → 7 + 2 * l ≤ k → ST_Halves_is_found l (F k 30)
  | 0, l, _, q => absurd q (by omega)
  | k + 1, l, hl, q => by
    rw [U_Halves_is_found]
    refine et_Halves_is_found hl (f_is_settled_of k (by omega)) (f_together k (by omega)) (f_power_of_two k (by omega)) ?_
    obtain ⟨k1, rfl⟩ : ∃ k1, k = k1 + 1 := ⟨k - 1, by omega⟩
    rw [V_Halves_question]
    exact et_Halves_question (f_questions_of _ (by omega)) (f_half_both _ (by omega)) (fun l' e => r_Halves k1 l' (by omega) (by omega))
termination_by k => k
theorem U_least_half {k : Nat} : F (k + 1) 32 = bodyF 4 m_least_half (F k) := funext fun ds => funext fun h => u_least_half
theorem f_least_half : ∀ k, 42 ≤ k → ST_least_half (F k 32)
  | 0, q => absurd q (by decide)
  | k + 1, q => by rw [U_least_half]; exact et_least_half (fun l hl => r_Halves k l hl (by omega)) (f_Halves_init k (by omega))
theorem U_want_word {k : Nat} : F (k + 1) 33 = bodyF 1 m_want_word (F k) := funext fun ds => funext fun h => u_want_word
theorem f_hl_want_word : ∀ k, 1 ≤ k → ST_hl_want_word (F k 33)
  | 0, q => absurd q (by decide)
  | k + 1, q => by rw [U_want_word]; exact et_hl_want_word
theorem U_want_small {k : Nat} : F (k + 1) 34 = bodyF 2 m_want_small (F k) := funext fun ds => funext fun h => u_want_small
theorem f_want_small : ∀ k, 2 ≤ k → ST_want_small (F k 34)
  | 0, q => absurd q (by decide)
  | k + 1, q => by rw [U_want_small]; exact et_want_small (f_together k (by omega)) (f_want_at_most k (by omega))
theorem U_want_half {k : Nat} : F (k + 1) 35 = bodyF 2 m_want_half (F k) := funext fun ds => funext fun h => u_want_half
theorem f_want_half : ∀ k, 7 ≤ k → ST_want_half (F k 35)
  | 0, q => absurd q (by decide)
  | k + 1, q => by rw [U_want_half]; exact et_want_half (f_want_standing k (by omega)) (f_hl_want_word k (by omega)) (f_want_small k (by omega))
theorem U_half_behind {k : Nat} : F (k + 1) 36 = bodyF 3 m_half_behind (F k) := funext fun ds => funext fun h => u_half_behind
theorem f_half_behind : ∀ k, 6 ≤ k → ST_half_behind (F k 36)
  | 0, q => absurd q (by decide)
  | k + 1, q => by rw [U_half_behind]; exact et_half_behind (f_want_counts k (by omega)) (f_hl_want_word k (by omega)) (f_want_question k (by omega)) (f_half_both k (by omega))
theorem U_is_half_found {k : Nat} : F (k + 1) 37 = bodyF 2 m_is_half_found (F k) := funext fun ds => funext fun h => u_is_half_found
theorem f_is_half_found : ∀ k, 42 ≤ k → ST_is_half_found (F k 37)
  | 0, q => absurd q (by decide)
  | k + 1, q => by rw [U_is_half_found]; exact et_is_half_found (f_want_half k (by omega)) (fun l hl => r_Halves k l hl (by omega)) (f_Halves_init k (by omega))
theorem U_least_half_left {k : Nat} : F (k + 1) 38 = bodyF 2 m_least_half_left (F k) := funext fun ds => funext fun h => u_least_half_left
theorem f_least_half_left : ∀ k, 43 ≤ k → ST_least_half_left (F k 38)
  | 0, q => absurd q (by decide)
  | k + 1, q => by rw [U_least_half_left]; exact et_least_half_left (f_want_counts k (by omega)) (f_hl_want_word k (by omega)) (f_want_small k (by omega)) (f_least_half k (by omega))
theorem U_Finder___init__ {k : Nat} : F (k + 1) 39 = bodyF 1 m_Finder___init__ (F k) := funext fun ds => funext fun h => u_Finder___init__
theorem f_Finder_init : ∀ k, 1 ≤ k → ST_Finder_init (F k 39)
  | 0, q => absurd q (by decide)
  | k + 1, q => by rw [U_Finder___init__]; exact et_Finder_init
theorem U_is_found_of {k : Nat} : F (k + 1) 44 = bodyF 2 m_is_found_of (F k) := funext fun ds => funext fun h => u_is_found_of
theorem U_least_of {k : Nat} : F (k + 1) 45 = bodyF 3 m_least_of (F k) := funext fun ds => funext fun h => u_least_of
theorem U_want_few {k : Nat} : F (k + 1) 46 = bodyF 2 m_want_few (F k) := funext fun ds => funext fun h => u_want_few
theorem f_want_few : ∀ k, 2 ≤ k → ST_want_few (F k 46)
  | 0, q => absurd q (by decide)
  | k + 1, q => by rw [U_want_few]; exact et_want_few (f_want_at_most k (by omega))
theorem U_want_searched {k : Nat} : F (k + 1) 47 = bodyF 2 m_want_searched (F k) := funext fun ds => funext fun h => u_want_searched
theorem f_want_searched : ∀ k, 6 ≤ k → ST_want_searched (F k 47)
  | 0, q => absurd q (by decide)
  | k + 1, q => by rw [U_want_searched]; exact et_want_searched (f_want_counts k (by omega)) (f_want_left k (by omega)) (f_want_few k (by omega))
theorem U__law_draw {k : Nat} : F (k + 1) 51 = bodyF 3 m__law_draw (F k) := funext fun ds => funext fun h => u__law_draw
theorem f_draw : ∀ k, 1 ≤ k → ST_draw t_law_draw (F k 51)
  | 0, q => absurd q (by decide)
  | k + 1, q => by rw [U__law_draw]; refine et_draw ?_ ?_ ?_ ?_ <;> decide
theorem U__law_pick {k : Nat} : F (k + 1) 52 = bodyF 2 m__law_pick (F k) := funext fun ds => funext fun h => u__law_pick
theorem f_pick : ∀ k, 2 ≤ k → ST_pick t_law_draw (F k 52)
  | 0, q => absurd q (by decide)
  | k + 1, q => by rw [U__law_pick]; exact et_pick drawT_b (f_draw k (by omega))
theorem U__law_questions {k : Nat} : F (k + 1) 53 = bodyF 6 m__law_questions (F k) := funext fun ds => funext fun h => u__law_questions
theorem f_law_questions : ∀ k, 1 ≤ k → ST_law_questions (F k 53)
  | 0, q => absurd q (by decide)
  | k + 1, q => by rw [U__law_questions]; exact et_law_questions
theorem U__law_counts {k : Nat} : F (k + 1) 56 = bodyF 7 m__law_counts (F k) := funext fun ds => funext fun h => u__law_counts
theorem f_law_counts : ∀ k, 2 ≤ k → ST_law_counts (F k 56)
  | 0, q => absurd q (by decide)
  | k + 1, q => by rw [U__law_counts]; exact et_law_counts (f_draw k (by omega))
theorem U_is_heavy_of {k : Nat} : F (k + 1) 26 = bodyF 2 m_is_heavy_of (F k) := funext fun ds => funext fun h => u_is_heavy_of
theorem f_is_heavy_of : ∀ k, 3 ≤ k → ST_is_heavy_of (F k 26)
  | 0, q => absurd q (by decide)
  | k + 1, q => by rw [U_is_heavy_of]; exact et_is_heavy_of (f_is_settled_of k (by omega)) (f_weight_of k (by omega)) (f_power_of_two k (by omega))
theorem U_Finder_is_found {k : Nat} : F (k + 1) 40 = bodyF 3 m_Finder_is_found (F k) := funext fun ds => funext fun h => u_Finder_is_found
theorem V_Finder_first_good {k : Nat} : F (k + 1) 42 = bodyF 4 m_Finder_first_good (F k) := funext fun ds => funext fun h => u_Finder_first_good
theorem V_Finder_is_good {k : Nat} : F (k + 1) 41 = bodyF 6 m_Finder_is_good (F k) := funext fun ds => funext fun h => u_Finder_is_good
theorem r_Finder : ∀ k l, l ≤ 16 → 7 + 3 * l ≤ k → SpFound l (F k 40)
  | 0, l, _, q => absurd q (by omega)
  | k + 1, l, hl, q => by
    rw [U_Finder_is_found]
    refine et_Finder_is_found hl (f_is_settled_of k (by omega)) (f_is_heavy_of k (by omega)) (fun l' e => ?_)
    subst e
    obtain ⟨k1, rfl⟩ : ∃ k1, k = k1 + 1 := ⟨k - 1, by omega⟩
    obtain ⟨k2, rfl⟩ : ∃ k2, k1 = k2 + 1 := ⟨k1 - 1, by omega⟩
    rw [V_Finder_first_good]
    refine et_Finder_first_good (f_questions_of _ (by omega)) ?_
    rw [V_Finder_is_good]
    exact et_Finder_is_good (f_both_behind _ (by omega)) (r_Finder k2 l' (by omega) (by omega))
termination_by k => k
theorem f_is_found_of : ∀ k, 56 ≤ k → ST_is_found_of (F k 44)
  | 0, q => absurd q (by decide)
  | k + 1, q => by rw [U_is_found_of]; exact et_is_found_of (fun l hl => r_Finder k l hl (by omega)) (f_Finder_init k (by omega))
theorem f_least_of : ∀ k, 56 ≤ k → ST_least_of (F k 45)
  | 0, q => absurd q (by decide)
  | k + 1, q => by rw [U_least_of]; exact et_least_of (fun l hl => r_Finder k l hl (by omega)) (f_Finder_init k (by omega))
theorem U_is_found {k : Nat} : F (k + 1) 48 = bodyF 2 m_is_found (F k) := funext fun ds => funext fun h => u_is_found
theorem f_is_found : ∀ k, 57 ≤ k → ST_is_found (F k 48)
  | 0, q => absurd q (by decide)
  | k + 1, q => by rw [U_is_found]; exact et_is_found (f_want_searched k (by omega)) (f_is_found_of k (by omega))
theorem U_least {k : Nat} : F (k + 1) 49 = bodyF 1 m_least (F k) := funext fun ds => funext fun h => u_least
theorem f_least : ∀ k, 57 ≤ k → ST_least (F k 49)
  | 0, q => absurd q (by decide)
  | k + 1, q => by rw [U_least]; exact et_least (f_want_counts k (by omega)) (f_want_few k (by omega)) (f_least_of k (by omega))
theorem U__law_right {k : Nat} : F (k + 1) 57 = bodyF 17 m__law_right (F k) := funext fun ds => funext fun h => u__law_right
theorem f_law_right : ∀ k, 58 ≤ k → ST_law_right (F k 57)
  | 0, q => absurd q (by decide)
  | k + 1, q => by rw [U__law_right]; exact et_law_right (f_law_counts k (by omega)) (f_draw k (by omega)) (f_is_half_found k (by omega)) (f_is_found k (by omega)) (f_least_half_left k (by omega)) (f_least k (by omega)) (f_law_questions k (by omega)) (f_pick k (by omega)) (f_both k (by omega)) (f_rest k (by omega)) (f_half_behind k (by omega))
theorem U__law_pot {k : Nat} : F (k + 1) 50 = bodyF 3 m__law_pot (F k) := funext fun ds => funext fun h => u__law_pot
theorem f_pot : ∀ k, 1 ≤ k → S_pot (F k 50)
  | 0, q => absurd q (by decide)
  | k + 1, q => by rw [U__law_pot]; refine ev_law_pot1 ?_ ?_ ?_ <;> decide
theorem main (ns : List Int) (hn : ns.length ≤ 63) : ∃ h, fnsOf T.defs 100 58 [.frz (ns.map D.int)] [] = .ok (.bl true) h := by
  have U : F 100 58 = bodyF 2 m_law (F 99) := funext fun ds => funext fun h => u_law
  have a : S_law (F 100 58) := by
    rw [U]
    exact el_E (by decide) (by decide) (rtP_of (f_law_right 99 (by decide)) (fun _ => right_true)) (f_pot 99 (by decide))
  exact main_of a ns
end EV.K
open PySem PySem.W PySem.Calls PyProof.Rows in
theorem PySem.Challenge.cw_askedliars_k51_whole_half_lies_never_har_holds : PySem.Challenge.rw_askedliars_k51_whole_half_lies_never_har.Holds := by
  w_on; o_law
  refine HandSHeadRun.head_any (r := OpenLaw.row PySem.Challenge.rw_askedliars_k51_whole_half_lies_never_har) (q := view (OpenLaw.row PySem.Challenge.rw_askedliars_k51_whole_half_lies_never_har).prog [77]) (H := EV.K.hk) (ob := EV.K.ob) (M := 8000) (loose := EV.K.names) (d := HandSHeadRun.topDef (OpenLaw.row PySem.Challenge.rw_askedliars_k51_whole_half_lies_never_har).prog 77) (kwd := []) EV.K.ob_eq
    (by kernel_rfl) (fun s => by kernel_rfl) EV.K.runs (by kernel_rfl) (by kernel_rfl) (by kernel_rfl) (by rfl) (by first | assumption | decide +kernel) (by decide +kernel) ⟨rfl, rfl, rfl, rfl, rfl, by decide +kernel⟩ ?hw ?hc
  case hw => w_witness2
  case hc =>
    exact EV.walk_law (l := PySem.Challenge.rw_askedliars_k51_whole_half_lies_never_har) (n := 63) (k := 100) 58 EV.K.d_law rfl (by decide) (by kernel_rfl) ⟨rfl, by decide, by decide⟩ rfl (by kernel_rfl) rfl EV.K.ok_all (fun _ _ _ _ _ _ us hl => match us, hl with | [_], _ => rfl) EV.K.main
