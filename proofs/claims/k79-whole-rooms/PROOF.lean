import PyProof.Rows.All
import Wide.All
import OpenK.AllK
import Wide.FinOn
import HandS.ForMost
import HandS.ForExc
import HandS.Defaults
import HandS.Deep
import HandS.Nested
import KE.SortKeyHeap
import KE.DataCmp
import HandS.TupAny
import HandS.TupMul
import HandS.TupLe
import HandS.Gcd
import HandS.WideBits
import HandS.Text
import HandS.Conv
import KE.DataMinMax
import HandS.IsInst
import PyProof.ReprRoads
import HandS.Style
import HandS.RevTup
import HandS.RevRange
import HandS.Zip
import HandS.Iter
import KE.GoesEnum
import KE.GoesMore
import HandS.TryOnly
import HandS.TupLen
import KE.KDictPairs
import HandS.Star
import HandS.Sort
import PyProof.ListRange
import HandS.Strs
import HandS.SetFor
import PyProof.Rows.SortStr
import HandS.EndTab
import HandS.HeadHook1
import HandS.HeadHook2
import HandS.HeadHook3
import HandS.HeadHook4
import HandS.HeadWalk
import HandS.Words
import HandS.Head0
import HandS.Head1
import HandS.Head2
import HandS.Head3
import HandS.HeadEnd
import PySem.Challenge.RW_leafswings_k79_whole_rooms
import KE.SortData
set_option Elab.async false
set_option linter.all false
set_option maxRecDepth 100000
set_option maxHeartbeats 1000000
set_option autoImplicit false
/-! V0: values as data (D), objects that change (DO), what they are over the abstract heap -/
namespace VE
open PySem PySem.Spec PyProof.Rows L2

inductive D where
  | non | bl (b : Bool) | int (i : Int) | str (x : Str)
  | tup (xs : List D) | lst (xs : List D) | scr (xs : List D) | ref (i : Nat)
  | fn (c : Nat) (caps : List D) | gfn (i : Nat) | ndf (c : Nat)
  /-- a tuple of the program's constants -/
  | ctp (xs : List D)
  deriving Inhabited

/-- an object that changes -/
inductive DO where
  | lst (xs : List D)
  | dct (kvs : List (Key × D))
  | dctT (kvs : List (List Key × D))
  /-- locked while they are walked -/
  | fzL (xs : List D) | fzK (kvs : List (Key × D)) | fzT (kvs : List (List Key × D))
  | gone
  deriving Inhabited
abbrev HS := List DO

/-- what comes of a computation -/
inductive R (α : Type) where
  | ok (a : α) (h : HS)
  | exc (c : Nat) (d : D) (h : HS)
  | bad
def R.bind {α β : Type} (r : R α) (k : α → HS → R β) : R β := match r with
  | .ok a h => k a h
  | .exc c d h => .exc c d h
  | .bad => .bad
@[simp] theorem R.bind_ok {α β : Type} (a : α) (h : HS) (k : α → HS → R β) : (R.ok a h).bind k = k a h := rfl
@[simp] theorem R.bind_exc {α β : Type} (c : Nat) (d : D) (h : HS) (k : α → HS → R β) : (R.exc c d h : R α).bind k = .exc c d h := rfl
@[simp] theorem R.bind_bad {α β : Type} (k : α → HS → R β) : (R.bad : R α).bind k = .bad := rfl

/-! ### values and the heap -/
/-- the objects that change (by their number); those that are built just now, unseen -/
structure Pi where
  obj : List Addr
  hid : List Addr
def Pi.out (π : Pi) (a : Addr) : Prop := a ∉ π.obj ∧ a ∉ π.hid
def Pi.add (π : Pi) (a : Addr) : Pi := ⟨π.obj ++ [a], π.hid⟩
def IsT (K : PySem.W.Frag) (π : Pi) (H : Hp) (a : Addr) (vs : List V) : Prop := π.out a ∧ H a = some (.tup vs)
/-- a tuple whose object is known: of the program's constants, or made by tuple(..) -/
def IsC (K : PySem.W.Frag) (π : Pi) (H : Hp) (a : Addr) (vs : List V) : Prop := ((∀ H', SqT K H' a vs) ∧ ∃ o, K.lookup a = some o ∧ o.cls = .type "tuple" ∧ o.dict = none) ∨ (π.out a ∧ ∃ o, H a = some (.frz o (.tup vs)) ∧ o.cls = .type "tuple" ∧ o.dict = none)
/-- a list that is only read: the script -/
def IsS (K : PySem.W.Frag) (π : Pi) (H : Hp) (a : Addr) (vs : List V) : Prop := (π.out a ∧ Rd H a (.lst vs)) ∨ ∀ H', SqL K H' a vs
def IsL (π : Pi) (H : Hp) (a : Addr) (vs : List V) : Prop := π.out a ∧ H a = some (.lst vs)
mutual
inductive RD (K : PySem.W.Frag) (π : Pi) (H : Hp) : D → V → Prop
  | non : RD K π H .non .non
  | bl (b : Bool) : RD K π H (.bl b) (.bl b)
  | int (i : Int) : RD K π H (.int i) (.int i)
  | str (x : Str) : RD K π H (.str x) (.str x)
  | tup {a : Addr} {vs : List V} {ds : List D} : IsT K π H a vs → RDs K π H ds vs → RD K π H (.tup ds) (.ref a)
  | lst {a : Addr} {vs : List V} {ds : List D} : IsL π H a vs → RDs K π H ds vs → RD K π H (.lst ds) (.ref a)
  | scr {a : Addr} {vs : List V} {ds : List D} : IsS K π H a vs → RDs K π H ds vs → RD K π H (.scr ds) (.ref a)
  | ref {a : Addr} {i : Nat} : π.obj[i]? = some a → RD K π H (.ref i) (.ref a)
  | ctp {a : Addr} {vs : List V} {ds : List D} : IsC K π H a vs → RDs K π H ds vs → RD K π H (.ctp ds) (.ref a)
inductive RDs (K : PySem.W.Frag) (π : Pi) (H : Hp) : List D → List V → Prop
  | nil : RDs K π H [] []
  | cons {d : D} {ds : List D} {v : V} {vs : List V} : RD K π H d v → RDs K π H ds vs → RDs K π H (d :: ds) (v :: vs)
end
/-- data that is known stays known -/
structure KeepD (π : Pi) (H : Hp) (π' : Pi) (H' : Hp) : Prop where
  at_ : ∀ (i : Nat) (a : Addr), π.obj[i]? = some a → π'.obj[i]? = some a
  keep : ∀ a o, H a = some o → π.out a → (∀ ps, o ≠ .tbl ps) → (∀ φ, o ≠ .ext φ) → π'.out a ∧ H' a = some o
/-- what is known stays known -/
structure Keeps (π : Pi) (H : Hp) (π' : Pi) (H' : Hp) : Prop where
  at_ : ∀ (i : Nat) (a : Addr), π.obj[i]? = some a → π'.obj[i]? = some a
  keep : ∀ a o, H a = some o → π.out a → (∀ ps, o ≠ .tbl ps) → π'.out a ∧ H' a = some o
  fz : ∀ a o u, H a = some (.frz o u) → H' a = some (.frz o u)
theorem Keeps.data {π π' : Pi} {H H' : Hp} (k : Keeps π H π' H') : KeepD π H π' H' := ⟨k.at_, fun a o h hn ht _ => k.keep a o h hn ht⟩
/-- the heap grows: what was known and is no object that changes stays -/
structure Ext (π : Pi) (H : Hp) (π' : Pi) (H' : Hp) : Prop where
  pre : ∃ more, π'.obj = π.obj ++ more ∧ ∀ a ∈ more, H a = none
  hid : π'.hid = π.hid
  keep : ∀ a o, H a = some o → a ∉ π.obj → (∀ ps, o ≠ .tbl ps) → H' a = some o
  there : ∀ a, H' a = none → H a = none
  fz : ∀ a o u, H a = some (.frz o u) → H' a = some (.frz o u)
section
variable {K : PySem.W.Frag} {π π1 π2 π3 : Pi} {H H1 H2 H3 : Hp} {a : Addr} {vs : List V}
theorem Ext.refl (π : Pi) (H : Hp) : Ext π H π H := ⟨⟨[], by simp, by simp⟩, rfl, fun _ _ h _ _ => h, fun _ h => h, fun _ _ _ h => h⟩
theorem Ext.notin (e : Ext π H π1 H1) {o : HO} (ha : H a = some o) (hn : a ∉ π.obj) : a ∉ π1.obj := by
  obtain ⟨m1, e1, n1⟩ := e.pre
  rw [e1]
  intro h
  rcases List.mem_append.mp h with h | h
  · exact hn h
  · rw [n1 a h] at ha; cases ha
theorem Ext.trans (h1 : Ext π H π1 H1) (h2 : Ext π1 H1 π2 H2) : Ext π H π2 H2 := by
  obtain ⟨m1, e1, n1⟩ := h1.pre
  obtain ⟨m2, e2, n2⟩ := h2.pre
  refine ⟨⟨m1 ++ m2, by rw [e2, e1, List.append_assoc], fun a ha => ?_⟩, h2.hid.trans h1.hid, fun a o ha hn ht => h2.keep a o (h1.keep a o ha hn ht) (h1.notin ha hn) ht, fun a h => h1.there a (h2.there a h), fun a o u h => h2.fz a o u (h1.fz a o u h)⟩
  rcases List.mem_append.mp ha with h | h
  · exact n1 a h
  · exact h1.there a (n2 a h)
theorem Ext.at (e : Ext π H π1 H1) {i : Nat} (h : π.obj[i]? = some a) : π1.obj[i]? = some a := by
  obtain ⟨m1, e1, _⟩ := e.pre
  rw [e1, List.getElem?_append_left (List.getElem?_eq_some_iff.mp h).1]
  exact h
theorem Ext.keeps (e : Ext π H π1 H1) : Keeps π H π1 H1 := ⟨fun i a h => e.at h, fun a o h hn ht => ⟨⟨e.notin h hn.1, by rw [e.hid]; exact hn.2⟩, e.keep a o h hn.1 ht⟩, e.fz⟩
theorem Keeps.trans (h1 : Keeps π H π1 H1) (h2 : Keeps π1 H1 π2 H2) : Keeps π H π2 H2 := ⟨fun i a h => h2.at_ i a (h1.at_ i a h), fun a o h hn ht => by
  obtain ⟨n1, k1⟩ := h1.keep a o h hn ht
  exact h2.keep a o k1 n1 ht, fun a o u h => h2.fz a o u (h1.fz a o u h)⟩
/-- a new object, none that changes -/
theorem Ext.new {o : HO} (h : H a = none) : Ext π H π (upd H a o) := ⟨⟨[], by simp, by simp⟩, rfl, fun b u hb _ _ => by rw [upd_ne (ne_of_none hb h)]; exact hb, fun b hb => by
  by_cases e : b = a
  · subst e; exact h
  · rw [upd_ne e] at hb; exact hb, fun b ob u hb => by rw [upd_ne (ne_of_none hb h)]; exact hb⟩
/-- a new object that may change -/
theorem Ext.own {o : HO} (h : H a = none) : Ext π H (π.add a) (upd H a o) := ⟨⟨[a], rfl, by simpa using h⟩, rfl, (Ext.new (π := π) h).keep, (Ext.new (π := π) h).there, (Ext.new (π := π) h).fz⟩
/-- an object that may change has changed -/
theorem Ext.write {i : Nat} {o : HO} (h : π.obj[i]? = some a) (nf : ∀ ob u, H a ≠ some (.frz ob u)) : Ext π H π (upd H a o) := ⟨⟨[], by simp, by simp⟩, rfl, fun b u hb hp _ => by rw [upd_ne (fun e => hp (by rw [e]; exact List.mem_of_getElem? h))]; exact hb, fun b hb => by
  by_cases e : b = a
  · subst e; rw [upd_same] at hb; cases hb
  · rw [upd_ne e] at hb; exact hb, fun b ob u hb => by rw [upd_ne (fun z => by subst z; exact nf _ _ hb)]; exact hb⟩
theorem Rd.ext {u : HO} (e : KeepD π H π1 H1) (hn : π.out a) (h : Rd H a u) (hu : ∀ ps, u ≠ .tbl ps) (hu' : ∀ φ, u ≠ .ext φ) : π1.out a ∧ Rd H1 a u := by
  rcases h with h | ⟨o, h⟩
  · obtain ⟨n, k⟩ := e.keep a _ h hn hu hu'
    exact ⟨n, .inl k⟩
  · obtain ⟨n, k⟩ := e.keep a _ h hn (fun ps z => by cases z) (fun ps z => by cases z)
    exact ⟨n, .inr ⟨o, k⟩⟩
theorem IsT.extD (e : KeepD π H π1 H1) (h : IsT K π H a vs) : IsT K π1 H1 a vs := e.keep a _ h.2 h.1 (fun ps z => by cases z) (fun ps z => by cases z)
theorem IsC.extD (e : KeepD π H π1 H1) (h : IsC K π H a vs) : IsC K π1 H1 a vs := by
  rcases h with h | ⟨h1, o, h2, h3⟩
  · exact .inl h
  · obtain ⟨q1, q2⟩ := e.keep a _ h2 h1 (fun ps z => by cases z) (fun ps z => by cases z)
    exact .inr ⟨q1, o, q2, h3⟩
theorem IsC.sq (h : IsC K π H a vs) : SqT K H a vs := by
  rcases h with h | ⟨h1, o, h2, h3⟩
  · exact h.1 H
  · exact .inl (.inr ⟨o, h2⟩)
theorem IsL.extD (e : KeepD π H π1 H1) (h : IsL π H a vs) : IsL π1 H1 a vs := e.keep a _ h.2 h.1 (fun ps z => by cases z) (fun ps z => by cases z)
theorem IsS.extD (e : KeepD π H π1 H1) (h : IsS K π H a vs) : IsS K π1 H1 a vs := by
  rcases h with ⟨h1, h2⟩ | h
  · exact .inl (Rd.ext e h1 h2 (fun ps z => by cases z) (fun ps z => by cases z))
  · exact .inr h
theorem IsT.ext (e : Keeps π H π1 H1) (h : IsT K π H a vs) : IsT K π1 H1 a vs := h.extD e.data
theorem IsL.ext (e : Keeps π H π1 H1) (h : IsL π H a vs) : IsL π1 H1 a vs := h.extD e.data
theorem IsS.ext (e : Keeps π H π1 H1) (h : IsS K π H a vs) : IsS K π1 H1 a vs := h.extD e.data
theorem IsT.sq (h : IsT K π H a vs) : SqT K H a vs := .of h.2
theorem IsS.sq (h : IsS K π H a vs) : SqL K H a vs := h.elim (fun h => .inl h.2) fun h => h H
theorem IsL.sq (h : IsL π H a vs) : SqL K H a vs := .of h.2
mutual
theorem RD.ext (e : KeepD π H π1 H1) : ∀ (d : D) (v : V), RD K π H d v → RD K π1 H1 d v
  | .non, _, h => by cases h; exact .non
  | .bl _, _, h => by cases h; exact .bl _
  | .int _, _, h => by cases h; exact .int _
  | .str _, _, h => by cases h; exact .str _
  | .tup ds, _, h => by cases h with | tup h1 h2 => exact .tup (h1.extD e) (RDs.ext e ds _ h2)
  | .lst ds, _, h => by cases h with | lst h1 h2 => exact .lst (h1.extD e) (RDs.ext e ds _ h2)
  | .scr ds, _, h => by cases h with | scr h1 h2 => exact .scr (h1.extD e) (RDs.ext e ds _ h2)
  | .ref _, _, h => by cases h with | ref h1 => exact .ref (e.at_ _ _ h1)
  | .fn _ _, _, h => by cases h
  | .gfn _, _, h => by cases h
  | .ndf _, _, h => by cases h
  | .ctp ds, _, h => by cases h with | ctp h1 h2 => exact .ctp (h1.extD e) (RDs.ext e ds _ h2)
theorem RDs.ext (e : KeepD π H π1 H1) : ∀ (ds : List D) (vs : List V), RDs K π H ds vs → RDs K π1 H1 ds vs
  | [], _, h => by cases h; exact .nil
  | d :: ds, _, h => by cases h with | cons h1 h2 => exact .cons (RD.ext e d _ h1) (RDs.ext e ds _ h2)
end
theorem RD.keptD (e : KeepD π H π1 H1) {d : D} {v : V} (h : RD K π H d v) : RD K π1 H1 d v := RD.ext e d v h
theorem RDs.keptD (e : KeepD π H π1 H1) {ds : List D} {vs : List V} (h : RDs K π H ds vs) : RDs K π1 H1 ds vs := RDs.ext e ds vs h
theorem RD.kept (e : Keeps π H π1 H1) {d : D} {v : V} (h : RD K π H d v) : RD K π1 H1 d v := RD.ext e.data d v h
theorem RDs.kept (e : Keeps π H π1 H1) {ds : List D} {vs : List V} (h : RDs K π H ds vs) : RDs K π1 H1 ds vs := RDs.ext e.data ds vs h
theorem RD.mono (e : Ext π H π1 H1) {d : D} {v : V} (h : RD K π H d v) : RD K π1 H1 d v := RD.ext e.keeps.data d v h
theorem RDs.mono (e : Ext π H π1 H1) {ds : List D} {vs : List V} (h : RDs K π H ds vs) : RDs K π1 H1 ds vs := RDs.ext e.keeps.data ds vs h
theorem RDs.length {ds : List D} {vs : List V} : RDs K π H ds vs → ds.length = vs.length := by
  induction ds generalizing vs with
  | nil => intro h; cases h; rfl
  | cons d ds ih => intro h; cases h with | cons _ h2 => simp [ih h2]
theorem RDs.get {ds : List D} {vs : List V} {i : Nat} {d : D} (h : RDs K π H ds vs) (e : ds[i]? = some d) : ∃ v, vs[i]? = some v ∧ RD K π H d v := by
  induction ds generalizing vs i with
  | nil => simp at e
  | cons d' ds ih => cases h with | cons h1 h2 => cases i with
    | zero => simp at e; subst e; exact ⟨_, rfl, h1⟩
    | succ i => simpa using ih h2 (by simpa using e)
theorem RDs.get' {ds : List D} {vs : List V} {i : Nat} {v : V} (h : RDs K π H ds vs) (e : vs[i]? = some v) : ∃ d, ds[i]? = some d ∧ RD K π H d v := by
  have hl := h.length
  have : i < ds.length := by rw [hl]; exact (List.getElem?_eq_some_iff.mp e).1
  obtain ⟨w, hw, r⟩ := h.get (List.getElem?_eq_getElem this)
  rw [e] at hw; cases hw
  exact ⟨_, List.getElem?_eq_getElem this, r⟩
theorem RDs.append {ds es : List D} {vs ws : List V} (h : RDs K π H ds vs) (h' : RDs K π H es ws) : RDs K π H (ds ++ es) (vs ++ ws) := by
  induction ds generalizing vs with
  | nil => cases h; exact h'
  | cons d ds ih => cases h with | cons h1 h2 => exact .cons h1 (ih h2)
theorem RDs.snoc {ds : List D} {vs : List V} {d : D} {v : V} (h : RDs K π H ds vs) (h' : RD K π H d v) : RDs K π H (ds ++ [d]) (vs ++ [v]) := h.append (.cons h' .nil)
theorem RDs.drop {ds : List D} {vs : List V} (n : Nat) (h : RDs K π H ds vs) : RDs K π H (ds.drop n) (vs.drop n) := by
  induction n generalizing ds vs with
  | zero => simpa using h
  | succ n ih => cases h with
    | nil => exact .nil
    | cons h1 h2 => simpa using ih h2
theorem RDs.take {ds : List D} {vs : List V} (n : Nat) (h : RDs K π H ds vs) : RDs K π H (ds.take n) (vs.take n) := by
  induction n generalizing ds vs with
  | zero => simpa using RDs.nil
  | succ n ih => cases h with
    | nil => exact .nil
    | cons h1 h2 => simpa using RDs.cons h1 (ih h2)
theorem RDs.set {ds : List D} {vs : List V} (n : Nat) {d : D} {v : V} (h : RDs K π H ds vs) (h' : RD K π H d v) : RDs K π H (ds.set n d) (vs.set n v) := by
  induction n generalizing ds vs with
  | zero => cases h with
    | nil => exact .nil
    | cons h1 h2 => exact .cons h' h2
  | succ n ih => cases h with
    | nil => exact .nil
    | cons h1 h2 => exact .cons h1 (ih h2)
theorem RDs.reverse {ds : List D} {vs : List V} (h : RDs K π H ds vs) : RDs K π H ds.reverse vs.reverse := by
  induction ds generalizing vs with
  | nil => cases h; exact .nil
  | cons d ds ih => cases h with | cons h1 h2 => simpa using (ih h2).snoc h1
end

/-! ### objects that change -/
def KDs (K : PySem.W.Frag) (π : Pi) (H : Hp) : List (Key × D) → List (Key × V) → Prop := Paired fun p q => p.1 = q.1 ∧ RD K π H p.2 q.2
def KTs (K : PySem.W.Frag) (π : Pi) (H : Hp) : List (List Key × D) → List (List Key × V) → Prop := Paired fun p q => p.1 = q.1 ∧ RD K π H p.2 q.2
def OR (K : PySem.W.Frag) (π : Pi) (H : Hp) (a : Addr) : DO → Prop
  | .lst ds => ∃ vs, H a = some (.lst vs) ∧ RDs K π H ds vs
  | .dct kvs => ∃ ws, H a = some (.dK ws) ∧ KDs K π H kvs ws
  | .dctT kvs => ∃ ws, H a = some (.dT ws) ∧ KTs K π H kvs ws
  | .fzL ds => ∃ ob vs, H a = some (.frz ob (.lst vs)) ∧ RDs K π H ds vs
  | .fzK kvs => ∃ ob ws, H a = some (.frz ob (.dK ws)) ∧ KDs K π H kvs ws
  | .fzT kvs => ∃ ob ws, H a = some (.frz ob (.dT ws)) ∧ KTs K π H kvs ws
  | .gone => ∃ vs, H a = some (.lst vs)
/-- what a def's run knows throughout; T: the tables of code objects -/
structure Rel (K : PySem.W.Frag) (T : List NdefX.NTab) (π : Pi) (H : Hp) (hs : HS) : Prop where
  len : π.obj.length = hs.length
  nd : π.obj.Nodup
  obj : ∀ (i : Nat) (o : DO) (a : Addr), hs[i]? = some o → π.obj[i]? = some a → OR K π H a o
  tabs : NdefX.TabsN T H
  hidL : ∀ a ∈ π.hid, a ∉ π.obj ∧ ∃ vs, H a = some (.lst vs)
section
variable {K : PySem.W.Frag} {T : List NdefX.NTab} {π π1 π2 : Pi} {H H1 H2 : Hp} {a : Addr} {hs hs1 : HS} {vs : List V}
theorem KTs.monoD (e : KeepD π H π1 H1) {kvs : List (List Key × D)} {ws : List (List Key × V)} (h : KTs K π H kvs ws) : KTs K π1 H1 kvs ws := Paired.mapP h fun _ _ q => ⟨q.1, q.2.keptD e⟩
theorem KDs.monoD (e : KeepD π H π1 H1) {kvs : List (Key × D)} {ws : List (Key × V)} (h : KDs K π H kvs ws) : KDs K π1 H1 kvs ws := Paired.mapP h fun _ _ q => ⟨q.1, q.2.keptD e⟩
theorem OR.there {o : DO} (h : OR K π H a o) : H a ≠ none := by
  cases o with
  | lst ds => obtain ⟨vs, e, _⟩ := h; rw [e]; simp
  | dct ds => obtain ⟨vs, e, _⟩ := h; rw [e]; simp
  | dctT ds => obtain ⟨vs, e, _⟩ := h; rw [e]; simp
  | fzL ds => obtain ⟨_, vs, e, _⟩ := h; rw [e]; simp
  | fzK ds => obtain ⟨_, vs, e, _⟩ := h; rw [e]; simp
  | fzT ds => obtain ⟨_, vs, e, _⟩ := h; rw [e]; simp
  | gone => obtain ⟨vs, e⟩ := h; rw [e]; simp
/-- what a thing that may change is -/
def isObj : HO → Bool
  | .lst _ => true
  | .dK _ => true
  | .dT _ => true
  | .frz _ _ => true
  | _ => false
theorem OR.kind {o : DO} (h : OR K π H a o) : ∃ u, H a = some u ∧ isObj u = true := by
  cases o with
  | lst ds => obtain ⟨vs, e, _⟩ := h; exact ⟨_, e, rfl⟩
  | dct ds => obtain ⟨vs, e, _⟩ := h; exact ⟨_, e, rfl⟩
  | dctT ds => obtain ⟨vs, e, _⟩ := h; exact ⟨_, e, rfl⟩
  | fzL ds => obtain ⟨_, vs, e, _⟩ := h; exact ⟨_, e, rfl⟩
  | fzK ds => obtain ⟨_, vs, e, _⟩ := h; exact ⟨_, e, rfl⟩
  | fzT ds => obtain ⟨_, vs, e, _⟩ := h; exact ⟨_, e, rfl⟩
  | gone => obtain ⟨vs, e⟩ := h; exact ⟨_, e, rfl⟩
theorem OR.monoD (e : KeepD π H π1 H1) (hk : H1 a = H a) {o : DO} (h : OR K π H a o) : OR K π1 H1 a o := by
  cases o with
  | lst ds => obtain ⟨vs, e1, r⟩ := h; exact ⟨vs, by rw [hk]; exact e1, r.keptD e⟩
  | dct ds => obtain ⟨vs, e1, r⟩ := h; exact ⟨vs, by rw [hk]; exact e1, r.monoD e⟩
  | dctT ds => obtain ⟨vs, e1, r⟩ := h; exact ⟨vs, by rw [hk]; exact e1, r.monoD e⟩
  | fzL ds => obtain ⟨ob, vs, e1, r⟩ := h; exact ⟨ob, vs, by rw [hk]; exact e1, r.keptD e⟩
  | fzK ds => obtain ⟨ob, vs, e1, r⟩ := h; exact ⟨ob, vs, by rw [hk]; exact e1, r.monoD e⟩
  | fzT ds => obtain ⟨ob, vs, e1, r⟩ := h; exact ⟨ob, vs, by rw [hk]; exact e1, r.monoD e⟩
  | gone => obtain ⟨vs, e1⟩ := h; exact ⟨vs, by rw [hk]; exact e1⟩
theorem OR.mono (e : Keeps π H π1 H1) (hk : H1 a = H a) {o : DO} (h : OR K π H a o) : OR K π1 H1 a o := h.monoD e.data hk
theorem Rel.kind (r : Rel K T π H hs) (h : a ∈ π.obj) : ∃ u, H a = some u ∧ isObj u = true := by
  obtain ⟨i, hi, e⟩ := List.mem_iff_getElem.mp h
  have : i < hs.length := by rw [← r.len]; exact hi
  exact (r.obj i _ a (List.getElem?_eq_getElem this) (by rw [List.getElem?_eq_getElem hi, e])).kind
theorem Rel.there (r : Rel K T π H hs) (h : a ∈ π.obj) : H a ≠ none := by
  obtain ⟨u, q, _⟩ := r.kind h
  rw [q]; simp
theorem Rel.kindNo (r : Rel K T π H hs) (h : a ∈ π.obj) {u : HO} (q : H a = some u) : isObj u = true := by
  obtain ⟨u', q', k⟩ := r.kind h
  rw [q] at q'; cases q'; exact k
/-- what is new is none of them -/
theorem Rel.fresh (r : Rel K T π H hs) (h : H a = none) : π.out a := ⟨fun z => r.there z h, fun z => by
  obtain ⟨_, vs, e⟩ := r.hidL a z
  rw [e] at h; cases h⟩
/-- a new object, none that changes, is laid -/
theorem Rel.new (r : Rel K T π H hs) {o : HO} (h : H a = none) : Rel K T π (upd H a o) hs := by
  have e : Ext π H π (upd H a o) := Ext.new h
  have ne : ∀ {b}, b ∈ π.obj → b ≠ a := fun hb z => r.there hb (by rw [z]; exact h)
  refine ⟨r.len, r.nd, fun i o' b h1 h2 => (r.obj i o' b h1 h2).mono e.keeps (upd_ne (ne (List.mem_of_getElem? h2))), r.tabs.ext fun b u hb => by rw [upd_ne (ne_of_none hb h)]; exact hb, fun b hb => ?_⟩
  obtain ⟨n, vs, q⟩ := r.hidL b hb
  exact ⟨n, vs, by rw [upd_ne (ne_of_none q h)]; exact q⟩
/-- a new object that may change -/
theorem Rel.own (r : Rel K T π H hs) {o : HO} {u : DO} (h : H a = none) (hu : OR K (π.add a) (upd H a o) a u) : Rel K T (π.add a) (upd H a o) (hs ++ [u]) := by
  have e : Ext π H (π.add a) (upd H a o) := Ext.own h
  have hna : a ∉ π.obj := fun z => r.there z h
  refine ⟨by simp [Pi.add, r.len], ?_, fun i o' b h1 h2 => ?_, r.tabs.ext fun b u hb => by rw [upd_ne (ne_of_none hb h)]; exact hb, fun b hb => ?_⟩
  · show (π.obj ++ [a]).Nodup
    rw [List.nodup_append]
    refine ⟨r.nd, by simp, fun x hx y hy => ?_⟩
    simp at hy; subst hy
    exact fun z => hna (by rw [← z]; exact hx)
  · have h2 : (π.obj ++ [a])[i]? = some b := h2
    by_cases hi : i < hs.length
    · rw [List.getElem?_append_left hi] at h1
      rw [List.getElem?_append_left (by rw [r.len]; exact hi)] at h2
      refine (r.obj i o' b h1 h2).mono e.keeps ?_
      have hb := r.there (List.mem_of_getElem? h2)
      exact upd_ne (fun z => hb (by rw [z]; exact h))
    · rw [List.getElem?_append_right (by omega)] at h1
      rw [List.getElem?_append_right (by rw [r.len]; omega)] at h2
      rw [r.len] at h2
      cases hj : i - hs.length with
      | zero => rw [hj] at h1 h2; simp at h1 h2; subst h1; subst h2; exact hu
      | succ j => rw [hj] at h1; simp at h1
  · have hb : b ∈ π.hid := hb
    obtain ⟨n, vs, q⟩ := r.hidL b hb
    refine ⟨fun z => ?_, vs, by rw [upd_ne (ne_of_none q h)]; exact q⟩
    have z : b ∈ π.obj ++ [a] := z
    rcases List.mem_append.mp z with z | z
    · exact n z
    · simp at z; rw [z, h] at q; cases q
theorem tabN_but {H H' : Hp} {P : Addr} {nm : Nat → Nat → Str} (t : NdefX.TabN H P nm) (e : ∀ b o, H b = some o → ((∃ ps, o = .tbl ps) ∨ ∃ φ, o = .ext φ) → H' b = some o) : NdefX.TabN H' P nm := by
  obtain ⟨ps, h1, h2, h3⟩ := t
  refine ⟨ps, e _ _ h1 (.inl ⟨ps, rfl⟩), h2, fun pos cv hc => ?_⟩
  obtain ⟨c, e1, e2⟩ := h3 pos cv hc
  exact ⟨c, e1, e _ _ e2 (.inr ⟨_, rfl⟩)⟩
/-- an object that may change has changed -/
theorem Rel.write (r : Rel K T π H hs) {i : Nat} {o : HO} {u : DO} (ha : π.obj[i]? = some a) (nf : ∀ ob u, H a ≠ some (.frz ob u)) (hu : OR K π (upd H a o) a u) : Rel K T π (upd H a o) (hs.set i u) := by
  have hm : a ∈ π.obj := List.mem_of_getElem? ha
  have e : Ext π H π (upd H a o) := Ext.write ha nf
  refine ⟨by simp [r.len], r.nd, fun j o' b h1 h2 => ?_, fun p hp => tabN_but (r.tabs p hp) fun b u hb hx => ?_, fun b hb => ?_⟩
  · by_cases hj : i = j
    · subst hj
      rw [ha] at h2; cases h2
      have hl : i < hs.length := by rw [← r.len]; exact (List.getElem?_eq_some_iff.mp ha).1
      rw [List.getElem?_set_self hl] at h1
      cases h1
      exact hu
    · rw [List.getElem?_set_ne hj] at h1
      have hb : b ≠ a := fun z => by
        subst z
        exact hj (by
          obtain ⟨q1, q2⟩ := List.getElem?_eq_some_iff.mp ha
          obtain ⟨q3, q4⟩ := List.getElem?_eq_some_iff.mp h2
          exact (List.getElem_inj r.nd).mp (q2.trans q4.symm))
      exact (r.obj j o' b h1 h2).mono e.keeps (upd_ne hb)
  · have hba : b ≠ a := fun z => by
      subst z
      have k := r.kindNo hm hb
      rcases hx with ⟨_, z⟩ | ⟨_, z⟩ <;> rw [z] at k <;> cases k
    rw [upd_ne hba]; exact hb
  · obtain ⟨n, vs, q⟩ := r.hidL b hb
    exact ⟨n, vs, by rw [upd_ne (fun z => n (by rw [z]; exact hm))]; exact q⟩
/-! a list that is being built -/
def Pi.hide (π : Pi) (a : Addr) : Pi := ⟨π.obj, a :: π.hid⟩
def Pi.bare (π : Pi) (hid : List Addr) : Pi := ⟨π.obj, hid⟩
theorem Keeps.hide {o : HO} (h : H a = none) : Keeps π H (π.hide a) (upd H a o) := ⟨fun _ _ h => h, fun b u hb hn _ => by
  have hne : b ≠ a := ne_of_none hb h
  refine ⟨⟨hn.1, fun z => ?_⟩, by rw [upd_ne hne]; exact hb⟩
  rcases List.mem_cons.mp z with z | z
  · exact hne z
  · exact hn.2 z, fun b ob u hb => by rw [upd_ne (ne_of_none hb h)]; exact hb⟩
theorem Rel.hide (r : Rel K T π H hs) (h : H a = none) : Rel K T (π.hide a) (upd H a (.lst [])) hs := by
  have r1 := r.new (o := .lst []) h
  have k : Keeps π H (π.hide a) (upd H a (.lst [])) := Keeps.hide h
  refine ⟨r1.len, r1.nd, fun i o b h1 h2 => (r.obj i o b h1 h2).mono k (upd_ne (fun z => r.there (List.mem_of_getElem? h2) (by rw [z]; exact h))), r1.tabs, fun b hb => ?_⟩
  rcases List.mem_cons.mp hb with hb | hb
  · subst hb; exact ⟨fun z => r.there z h, [], upd_same⟩
  · exact r1.hidL b hb
theorem Keeps.grow {o : HO} (h : a ∈ π.hid) (nf : ∀ ob u, H a ≠ some (.frz ob u)) : Keeps π H π (upd H a o) := ⟨fun _ _ h => h, fun b u hb hn _ => ⟨hn, by rw [upd_ne (fun z => hn.2 (by rw [z]; exact h))]; exact hb⟩, fun b ob u hb => by rw [upd_ne (fun z => by subst z; exact nf _ _ hb)]; exact hb⟩
theorem Rel.grow (r : Rel K T π H hs) (h : a ∈ π.hid) (ys : List V) : Rel K T π (upd H a (.lst ys)) hs := by
  obtain ⟨n, vs, q⟩ := r.hidL a h
  have k : Keeps π H π (upd H a (.lst ys)) := Keeps.grow h (by rw [q]; simp)
  refine ⟨r.len, r.nd, fun i o b h1 h2 => (r.obj i o b h1 h2).mono k (upd_ne (fun z => n (by rw [← z]; exact List.mem_of_getElem? h2))), fun p hp => tabN_but (r.tabs p hp) fun b u hb hu => ?_, fun b hb => ?_⟩
  · have hba : b ≠ a := fun z => by
      subst z
      rw [hb] at q; cases q
      rcases hu with ⟨_, z⟩ | ⟨_, z⟩ <;> cases z
    rw [upd_ne hba]; exact hb
  · by_cases e : b = a
    · subst e; exact ⟨n, ys, upd_same⟩
    · obtain ⟨n', vs', q'⟩ := r.hidL b hb
      exact ⟨n', vs', by rw [upd_ne e]; exact q'⟩
theorem Keeps.show {hid : List Addr} (h : ∀ b ∈ hid, b ∈ π.hid) : Keeps π H (π.bare hid) H := ⟨fun _ _ h => h, fun _ _ hb hn _ => ⟨⟨hn.1, fun z => hn.2 (h _ z)⟩, hb⟩, fun _ _ _ h => h⟩
theorem Rel.show {hid : List Addr} (r : Rel K T π H hs) (h : ∀ b ∈ hid, b ∈ π.hid) : Rel K T (π.bare hid) H hs :=
  ⟨r.len, r.nd, fun i o b h1 h2 => (r.obj i o b h1 h2).mono (Keeps.show h) rfl, r.tabs, fun b hb => r.hidL b (h b hb)⟩
end
/-! ### objects dropped: those that nothing refers to any more -/
mutual
/-- refers to none of the objects from the n-th on -/
def D.blw (n : Nat) : D → Bool
  | .tup xs => D.blws n xs
  | .lst xs => D.blws n xs
  | .scr xs => D.blws n xs
  | .ref i => decide (i < n)
  | .ctp xs => D.blws n xs
  | _ => true
def D.blws (n : Nat) : List D → Bool
  | [] => true
  | d :: ds => D.blw n d && D.blws n ds
end
def DO.blw (n : Nat) : DO → Bool
  | .lst xs => D.blws n xs
  | .dct kvs => kvs.all fun p => D.blw n p.2
  | .dctT kvs => kvs.all fun p => D.blw n p.2
  | .fzL xs => D.blws n xs
  | .fzK kvs => kvs.all fun p => D.blw n p.2
  | .fzT kvs => kvs.all fun p => D.blw n p.2
  | .gone => true
def Pi.cut (π : Pi) (n : Nat) : Pi := ⟨π.obj.take n, π.hid⟩
section
variable {K : PySem.W.Frag} {T : List NdefX.NTab} {π π1 : Pi} {H H1 : Hp} {hs hs1 : HS} {n : Nat}
theorem Pi.cut_out {a : Addr} (h : π.out a) : (π.cut n).out a := ⟨fun z => h.1 (List.mem_of_mem_take z), h.2⟩
mutual
theorem RD.cutN : ∀ (d : D) (v : V), D.blw n d = true → RD K π H d v → RD K (π.cut n) H d v
  | .non, _, _, h => by cases h; exact .non
  | .bl _, _, _, h => by cases h; exact .bl _
  | .int _, _, _, h => by cases h; exact .int _
  | .str _, _, _, h => by cases h; exact .str _
  | .tup ds, _, b, h => by cases h with | tup h1 h2 => exact .tup ⟨Pi.cut_out h1.1, h1.2⟩ (RDs.cutN ds _ (by simpa [D.blw] using b) h2)
  | .ctp ds, _, b, h => by cases h with | ctp h1 h2 => exact .ctp (h1.imp id fun z => ⟨Pi.cut_out z.1, z.2⟩) (RDs.cutN ds _ (by simpa [D.blw] using b) h2)
  | .lst ds, _, b, h => by cases h with | lst h1 h2 => exact .lst ⟨Pi.cut_out h1.1, h1.2⟩ (RDs.cutN ds _ (by simpa [D.blw] using b) h2)
  | .scr ds, _, b, h => by cases h with | scr h1 h2 => exact .scr (h1.imp (fun z => ⟨Pi.cut_out z.1, z.2⟩) id) (RDs.cutN ds _ (by simpa [D.blw] using b) h2)
  | .ref i, _, b, h => by
    cases h with
    | ref h1 =>
      have hi : i < n := by simpa [D.blw] using b
      exact .ref (by show (π.obj.take n)[i]? = _; rw [List.getElem?_take_of_lt hi]; exact h1)
  | .fn _ _, _, _, h => by cases h
  | .gfn _, _, _, h => by cases h
  | .ndf _, _, _, h => by cases h
theorem RDs.cutN : ∀ (ds : List D) (vs : List V), D.blws n ds = true → RDs K π H ds vs → RDs K (π.cut n) H ds vs
  | [], _, _, h => by cases h; exact .nil
  | d :: ds, _, b, h => by
    have b : D.blw n d = true ∧ D.blws n ds = true := by simpa [D.blws] using b
    cases h with | cons h1 h2 => exact .cons (RD.cutN d _ b.1 h1) (RDs.cutN ds _ b.2 h2)
end
/-! what a run knows refers to what there is -/
mutual
theorem RD.bel : ∀ (d : D) (v : V), π.obj.length ≤ n → RD K π H d v → D.blw n d = true
  | .non, _, _, _ => rfl
  | .bl _, _, _, _ => rfl
  | .int _, _, _, _ => rfl
  | .str _, _, _, _ => rfl
  | .tup ds, _, b, h => by cases h with | tup h1 h2 => simpa [D.blw] using RDs.bel ds _ b h2
  | .ctp ds, _, b, h => by cases h with | ctp h1 h2 => simpa [D.blw] using RDs.bel ds _ b h2
  | .lst ds, _, b, h => by cases h with | lst h1 h2 => simpa [D.blw] using RDs.bel ds _ b h2
  | .scr ds, _, b, h => by cases h with | scr h1 h2 => simpa [D.blw] using RDs.bel ds _ b h2
  | .ref i, _, b, h => by
    cases h with
    | ref h1 =>
      have := (List.getElem?_eq_some_iff.mp h1).1
      simp only [D.blw, decide_eq_true_eq]; omega
  | .fn _ _, _, _, h => by cases h
  | .gfn _, _, _, h => by cases h
  | .ndf _, _, _, h => by cases h
theorem RDs.bel : ∀ (ds : List D) (vs : List V), π.obj.length ≤ n → RDs K π H ds vs → D.blws n ds = true
  | [], _, _, _ => rfl
  | d :: ds, _, b, h => by
    cases h with | cons h1 h2 => simp [D.blws, RD.bel d _ b h1, RDs.bel ds _ b h2]
end
theorem paired_all {α : Type} {P : α × D → α × V → Prop} {f : α × D → Bool} : ∀ {kvs : List (α × D)} {ws : List (α × V)}, Paired P kvs ws → (∀ p q, P p q → f p = true) → kvs.all f = true
  | _, _, .nil, _ => rfl
  | _, _, .cons r t, h => by simp only [List.all_cons, Bool.and_eq_true]; exact ⟨h _ _ r, paired_all t h⟩
theorem OR.bel {a : Addr} {o : DO} (hn : π.obj.length ≤ n) (h : OR K π H a o) : o.blw n = true := by
  cases o with
  | lst ds => obtain ⟨vs, e, r⟩ := h; exact RDs.bel _ _ hn r
  | dct kvs => obtain ⟨ws, e, r⟩ := h; exact paired_all r fun p q z => RD.bel _ _ hn z.2
  | dctT kvs => obtain ⟨ws, e, r⟩ := h; exact paired_all r fun p q z => RD.bel _ _ hn z.2
  | fzL ds => obtain ⟨_, vs, e, r⟩ := h; exact RDs.bel _ _ hn r
  | fzK kvs => obtain ⟨_, ws, e, r⟩ := h; exact paired_all r fun p q z => RD.bel _ _ hn z.2
  | fzT kvs => obtain ⟨_, ws, e, r⟩ := h; exact paired_all r fun p q z => RD.bel _ _ hn z.2
  | gone => rfl
theorem paired_cut {α : Type} : ∀ {kvs : List (α × D)} {ws : List (α × V)}, Paired (fun p q => p.1 = q.1 ∧ RD K π H p.2 q.2) kvs ws → (kvs.all fun p => D.blw n p.2) = true → Paired (fun p q => p.1 = q.1 ∧ RD K (π.cut n) H p.2 q.2) kvs ws
  | _, _, .nil, _ => .nil
  | _, _, .cons r t, h => by
    simp only [List.all_cons, Bool.and_eq_true] at h
    exact .cons ⟨r.1, RD.cutN _ _ h.1 r.2⟩ (paired_cut t h.2)
theorem OR.cut {a : Addr} {o : DO} (b : o.blw n = true) (h : OR K π H a o) : OR K (π.cut n) H a o := by
  cases o with
  | lst ds => obtain ⟨vs, e, r⟩ := h; exact ⟨vs, e, RDs.cutN _ _ b r⟩
  | dct kvs => obtain ⟨ws, e, r⟩ := h; exact ⟨ws, e, paired_cut r b⟩
  | dctT kvs => obtain ⟨ws, e, r⟩ := h; exact ⟨ws, e, paired_cut r b⟩
  | fzL ds => obtain ⟨ob, vs, e, r⟩ := h; exact ⟨ob, vs, e, RDs.cutN _ _ b r⟩
  | fzK kvs => obtain ⟨ob, ws, e, r⟩ := h; exact ⟨ob, ws, e, paired_cut r b⟩
  | fzT kvs => obtain ⟨ob, ws, e, r⟩ := h; exact ⟨ob, ws, e, paired_cut r b⟩
  | gone => exact h
/-- the objects from the n-th on are forgotten -/
theorem Rel.cut (r : Rel K T π H hs) (b : ∀ (i : Nat) (o : DO), i < n → hs[i]? = some o → o.blw n = true) : Rel K T (π.cut n) H (hs.take n) := by
  refine ⟨by show (π.obj.take n).length = _; simp [r.len], r.nd.sublist (List.take_sublist _ _), fun i o a h1 h2 => ?_, r.tabs, fun a ha => ?_⟩
  · have hi : i < n := by
      have := (List.getElem?_eq_some_iff.mp h1).1
      simp at this; omega
    rw [List.getElem?_take_of_lt hi] at h1
    have h2 : (π.obj.take n)[i]? = some a := h2
    rw [List.getElem?_take_of_lt hi] at h2
    exact (r.obj i o a h1 h2).cut (b i o hi h1)
  · obtain ⟨h1, h2⟩ := r.hidL a ha
    exact ⟨fun z => h1 (List.mem_of_mem_take z), h2⟩
theorem Ext.cut (e : Ext π H π1 H1) (hn : π.obj.length ≤ n) : Ext π H (π1.cut n) H1 := by
  obtain ⟨more, e1, e2⟩ := e.pre
  refine ⟨⟨more.take (n - π.obj.length), ?_, fun a ha => e2 a (List.mem_of_mem_take ha)⟩, e.hid, e.keep, e.there, e.fz⟩
  show π1.obj.take n = _
  rw [e1, List.take_append, List.take_of_length_le hn]
end
end VE
set_option Elab.async false
set_option linter.all false
set_option maxRecDepth 100000
set_option maxHeartbeats 1000000
set_option autoImplicit false
/-! V1: the fragment (E, S) and what it does (ev, evS), in plain Lean -/
namespace VE
open PySem PySem.Spec PyProof.Rows L2

abbrev lim : Nat := 1000000
/-! ### data: depth, equality, order -/
def D.fine : Nat → D → Bool
  | 0, _ => false
  | _ + 1, .non => true
  | _ + 1, .bl _ => true
  | _ + 1, .int _ => true
  | _ + 1, .str x => PyData.strOk x
  | n + 1, .tup xs => xs.all (D.fine n)
  | n + 1, .lst xs => xs.all (D.fine n)
  | n + 1, .scr xs => xs.all (D.fine n)
  | _ + 1, _ => false
mutual
def D.py : D → PyData
  | .non => .none
  | .bl b => .bool b
  | .int i => .int i
  | .str x => .str x
  | .tup xs => .tuple (D.pys xs)
  | .lst xs => .list (D.pys xs)
  | .scr xs => .list (D.pys xs)
  | .ref _ => .none
  | .fn _ _ => .none
  | .gfn _ => .none
  | .ndf _ => .none
  | .ctp _ => .none
def D.pys : List D → List PyData
  | [] => []
  | d :: ds => D.py d :: D.pys ds
end
mutual
def D.eqv : D → D → Bool
  | .non, .non => true
  | .bl a, .bl b => a == b
  | .bl a, .int j => (if a then 1 else 0) == j
  | .int i, .bl b => i == (if b then 1 else 0)
  | .int i, .int j => i == j
  | .str x, .str y => x == y
  | .tup xs, .tup ys => D.eqvs xs ys
  | .lst xs, .lst ys => D.eqvs xs ys
  | .lst xs, .scr ys => D.eqvs xs ys
  | .scr xs, .lst ys => D.eqvs xs ys
  | .scr xs, .scr ys => D.eqvs xs ys
  | _, _ => false
def D.eqvs : List D → List D → Bool
  | [], [] => true
  | x :: xs, y :: ys => D.eqv x y && D.eqvs xs ys
  | _, _ => false
end
/-- flat data: no tuples, no lists -/
def D.flat : D → Bool
  | .non => true
  | .bl _ => true
  | .int _ => true
  | .str _ => true
  | _ => false
/-- a < b, for data that can be compared place by place -/
def D.lt (a b : D) : Bool := match a, b with
  | .int i, .int j => decide (i < j)
  | .str x, .str y => decide (x.cps.toList < y.cps.toList)
  | a, b => PySem.W.dataLt a.py b.py
def D.alike (a b : D) : Bool := match a, b with
  | .int _, .int _ => true
  | .str _, .str _ => true
  | .tup _, .tup _ => D.fine 30 a && D.fine 30 b && PySem.W.alike a.py b.py
  | _, _ => false

/-! ### the fragment -/
inductive BO where | add | sub | mul | fdiv | mod | pow
  deriving DecidableEq
inductive CO where | eq | ne | lt | le | gt | ge | isN | notN | is | isnt | inn | notin
  deriving DecidableEq
/-- built-ins by name, of evaluated arguments -/
inductive BI where
  | len | abs | min | max | int | tuple | list | sorted | all | any | divmod | gcd | repr | isInt | isBool | isTup | isStr | dictT | listD | sumI | strI | minL | maxL | tupleP
  deriving DecidableEq
/-- methods of built-in types -/
inductive MT where | append | pop | extend | index | join
  deriving DecidableEq
inductive E where
  | nil | cons (e r : E)
  | var (i : Nat) | cst (d : D) | gl (x : Str) (d : D)
  | tup (es : E) | lst (es : E) | lstO (es : E) | dctO | tupS (a p b : E)
  | call (f : Nat) (es : E) | callK (f : Nat) (es kws : E) (ks : List Str) (perm : List Nat)
  | callF (f : Nat) (es : E) | callV (i : Nat) (es : E)
  | lam (c : Nat) (js : List Nat) | ndv (i c : Nat) (js : List Nat) | gfn (f : Nat) | fnv (i : Nat)
  | bi (b : BI) (es : E) | isT (b : BI) (e : E) | mt (m : MT) (e es : E)
  | bin (o : BO) (a b : E) | neg (a : E)
  | cmp (o : CO) (a b : E) | ch (o1 o2 : CO) (a b c : E)
  | and (a b : E) | or (a b : E) | one (a : E) | not (a : E)
  | ife (c a b : E)
  | ix (a i : E) | sl (a lo hi : E) | rev (a : E)
  | comp (it t c e : E) (own : List (Str × Nat))
  | comp2 (it t it2 t2 e : E) (own : List (Str × Nat)) (vs1 : List Nat)
  | iseq (e : E) | irng (es : E) | ienum (e : E) | izip (a b : E)
  | sortedSet (e : E) | sortedKey (e : E) (c : Nat) | listRange (es : E)
  | dctTO | dctL (e : E) | dct1 (k v : E) | dctS (ks : List Str) (es : E) | dgt (a i : E) | din (a d : E) | dnin (a d : E) | lsd (e : E)
  | lstS (a p b : E) | idx (a e : E) | cnt (a e : E) | str1 (e : E) | sum1 (e : E) | spl (a b : E)
  | ikeys (e : E) | iitems (e : E) | ivals (e : E) | frzE (i : Nat) (e : E)
  deriving Inhabited
inductive S where
  | skip | seq (a b : S)
  | asg (t e : E) | dput (o i e : E) | aug (i : Nat) (o : BO) (e : E)
  | ite (c : E) (a b : S) | wh (fuel : Nat) (c : E) (b : S) | fo (t it : E) (b : S)
  | ret (e : E) | retN | ex (e : E) | pass | cont | brk | never
  | ndf (i c : Nat) | frzS (i : Nat) (b : S)
  deriving Inhabited

abbrev Env := List (Option D)
def getV (ρ : Env) (i : Nat) : Option D := match ρ[i]? with
  | some o => o
  | none => none
def isFn : D → Bool
  | .fn _ _ => true
  | .gfn _ => true
  | .ndf _ => true
  | _ => false
def its : D → List D
  | .lst xs => xs
  | _ => []

/-! ### operations -/
def sixN (n d : Nat) : Option Int → Nat := HT.sIx n d
def cutD (xs : List D) (lo hi : Option Int) : List D := (xs.drop (HT.sIx xs.length 0 lo)).take (HT.sIx xs.length xs.length hi - HT.sIx xs.length 0 lo)
def cutStr (x : Str) (lo hi : Option Int) : Str := ⟨((x.cps.toList.drop (HT.sIx x.length 0 lo)).take (HT.sIx x.length x.length hi - HT.sIx x.length 0 lo)).toArray⟩
def small (i : Int) : Bool := decide (-(2 ^ 64) < i ∧ i < 2 ^ 64)
/-- the list that a value is, or stands for -/
def lstOf (a : D) (h : HS) : Option (List D) := match a with
  | .lst xs => some xs
  | .ref i => match h[i]? with
    | some (.lst xs) => some xs
    | _ => none
  | _ => none
def opAug (o : BO) (a b : D) (h : HS) : R D := match o, a, b with
  | .add, .int i, .int j => .ok (.int (i + j)) h
  | .sub, .int i, .int j => .ok (.int (i - j)) h
  | _, _, _ => .bad
def addL (a b : D) (h : HS) : R D := match lstOf a h, lstOf b h with
  | some xs, some ys => if xs.length + ys.length ≤ lim then .ok (.lst (xs ++ ys)) h else .bad
  | _, _ => .bad
def opBin (o : BO) (a b : D) (h : HS) : R D := match o, a, b with
  | .add, .int i, .int j => .ok (.int (i + j)) h
  | .sub, .int i, .int j => .ok (.int (i - j)) h
  | .mul, .int i, .int j => if small i || small j then .ok (.int (i * j)) h else .bad
  | .mul, .tup xs, .int k => if ¬ xs.length = 0 ∧ 2 ≤ k ∧ k ≤ 1000 ∧ xs.length ≤ 1000 ∧ True then .ok (.tup ((List.replicate k.toNat xs).flatten)) h else .bad
  | .mul, .lst xs, .int k => if 0 ≤ k ∧ k < lim ∧ xs.length * k.toNat ≤ lim then .ok (.lst ((List.replicate k.toNat xs).flatten)) h else .bad
  | .fdiv, .int i, .int j => if j ≠ 0 ∧ j.natAbs < 1073741824 then .ok (.int (i.fdiv j)) h else .bad
  | .mod, .int i, .int j => if j ≠ 0 then .ok (.int (i.fmod j)) h else .bad
  | .pow, .int i, .int j => if 0 ≤ j ∧ j ≤ 1000000 ∧ i.natAbs < 2 ^ 64 then .ok (.int (i ^ j.toNat)) h else .bad
  | .add, .str x, .str y => if x.length + y.length ≤ lim then .ok (.str (x ++ y)) h else .bad
  | .add, .tup xs, .tup ys => if xs.length + ys.length ≤ lim then .ok (.tup (xs ++ ys)) h else .bad
  | .add, a, b => addL a b h
  | _, _, _ => .bad
def finD (a : D) : Bool := D.fine 30 a
/-- the list that a value stands for, where it may be walked or asked -/
def seqOf (a : D) (h : HS) : Option (List D) := match a with
  | .lst xs => some xs
  | .ctp xs => some xs
  | .tup xs => some xs
  | .scr xs => some xs
  | .ref i => match h[i]? with
    | some (.lst xs) => some xs
    | _ => none
  | _ => none
/-- a value with the list that a reference stands for in its place (for ==, in, repr) -/
def deref (a : D) (h : HS) : D := match a with
  | .ref i => match h[i]? with
    | some (.lst xs) => .lst xs
    | _ => a
  | _ => a
/-- == where Python's answer is served -/
def eqOf (a b : D) : Option Bool := match a, b with
  | .int i, .int j => some (decide (i = j))
  | .str x, .str y => some (decide (x = y))
  | .bl x, .bl y => some (decide (x = y))
  | .non, .non => some true
  | a, b => if finD a && finD b then some (D.eqv a b) else none
def inOf (a : D) (tupl : Bool) (ys : List D) : Option Bool :=
  if D.flat a && ys.all D.flat then some (ys.any fun z => D.eqv z a)
  else if !tupl && finD a && finD (.lst ys) then some (ys.any fun z => D.eqv z a) else none
def isTupD : D → Bool
  | .tup _ => true
  | .ctp _ => true
  | _ => false
def okB (o : Option Bool) (h : HS) : R D := match o with
  | some c => .ok (.bl c) h
  | none => .bad
def isNon : D → Bool
  | .non => true
  | _ => false
def opCmp (o : CO) (a b : D) (h : HS) : R D := match o with
  | .eq => okB (eqOf (deref a h) (deref b h)) h
  | .ne => okB ((eqOf (deref a h) (deref b h)).map (!·)) h
  | .lt => if D.alike a b then .ok (.bl (D.lt a b)) h else .bad
  | .gt => if D.alike a b then .ok (.bl (D.lt b a)) h else .bad
  | .le => if D.alike a b then .ok (.bl (!D.lt b a)) h else .bad
  | .ge => if D.alike a b then .ok (.bl (!D.lt a b)) h else .bad
  | .isN => .ok (.bl (isNon a)) h
  | .notN => .ok (.bl (!isNon a)) h
  | .is => match a, b with
    | .bl x, .bl y => .ok (.bl (decide (x = y))) h
    | _, _ => .bad
  | .isnt => match a, b with
    | .bl x, .bl y => .ok (.bl (!decide (x = y))) h
    | _, _ => .bad
  | .inn => match b with
    | .str y => match a with
      | .str x => .ok (.bl (!(Builtin.Str.occurrences y x 0 y.length 1).isEmpty)) h
      | _ => .bad
    | _ => match seqOf b h with
      | some ys => okB (inOf a (isTupD b) ys) h
      | none => .bad
  | .notin => match b with
    | .str y => match a with
      | .str x => .ok (.bl (!(!(Builtin.Str.occurrences y x 0 y.length 1).isEmpty))) h
      | _ => .bad
    | _ => match seqOf b h with
      | some ys => okB ((inOf a (isTupD b) ys).map (!·)) h
      | none => .bad
def opIx (a i : D) (h : HS) : R D := match i with
  | .int k => match a with
    | .str x => if x.length ≤ lim then (match atI x.cps.toList k with
      | some c => .ok (.str ⟨#[c]⟩) h
      | none => .bad) else .bad
    | _ => match seqOf a h with
      | some xs => match atI xs k with
        | some d => .ok d h
        | none => .bad
      | none => .bad
  | _ => .bad
def opNeg (x : D) (h : HS) : R D := match x with
  | .int i => .ok (.int (-i)) h
  | _ => .bad
def opRev (x : D) (h : HS) : R D := match x with
  | .lst xs => .ok (.lst xs.reverse) h
  | _ => .bad
def partOf : D → Option (Option Int)
  | .non => some none
  | .int i => some (some i)
  | _ => none
def opSl (a lo hi : D) (h : HS) : R D := match partOf lo, partOf hi with
  | some l, some u => match a with
    | .tup xs => .ok (.tup (cutD xs l u)) h
    | .ctp xs => if HT.sIx xs.length 0 l = 0 ∧ HT.sIx xs.length xs.length u = xs.length then .ok (.ctp xs) h else .ok (.tup (cutD xs l u)) h
    | .lst xs => .ok (.lst (cutD xs l u)) h
    | .scr xs => .ok (.lst (cutD xs l u)) h
    | .str x => if x.length ≤ lim then .ok (.str (cutStr x l u)) h else .bad
    | _ => .bad
  | _, _ => .bad
def isSeq : D → Bool
  | .lst _ => true
  | .tup _ => true
  | _ => false
def allB : List D → Option Bool
  | [] => some true
  | .bl b :: r => (allB r).map (b && ·)
  | _ => none
def anyB : List D → Option Bool
  | [] => some false
  | .bl b :: r => (anyB r).map (b || ·)
  | _ => none
/-- sorted, where the items can be compared place by place: numbers, texts, or tuples that are not empty -/
def sortable (xs : List D) : Bool := (xs.all fun x => xs.all fun y => D.alike x y) && (xs.all (fun x => match x with | .tup (_ :: _) => true | _ => false) || xs.all fun x => match x with | .tup _ => false | _ => true)
def sortD (xs : List D) : List D := xs.mergeSort fun a b => !D.lt b a
def isCtp : D → Bool
  | .ctp _ => true
  | _ => false
def gcdD (i j : Int) : Int := ((Nat.gcd i.natAbs j.natAbs : Nat) : Int)
def intsOf : List D → Option (List Int)
  | [] => some []
  | .int i :: r => (intsOf r).map (i :: ·)
  | _ => none
def opBi (b : BI) (as : List D) (h : HS) : R D := match b, as with
  | .len, [.str x] => if x.length ≤ lim then .ok (.int x.length) h else .bad
  | .len, [a] => match seqOf a h with
    | some xs => .ok (.int xs.length) h
    | none => .bad
  | .abs, [.int i] => .ok (.int (if i < 0 then -i else i)) h
  | .min, [.int i, .int j] => .ok (.int (if j < i then j else i)) h
  | .max, [.int i, .int j] => .ok (.int (if j > i then j else i)) h
  | .minL, [a] => if isTupD a then .bad else match seqOf a h with
    | some xs => match intsOf xs with
      | some (i :: is) => .ok (.int (is.foldl min i)) h
      | _ => .bad
    | none => .bad
  | .maxL, [a] => if isTupD a then .bad else match seqOf a h with
    | some xs => match intsOf xs with
      | some (i :: is) => .ok (.int (is.foldl max i)) h
      | _ => .bad
    | none => .bad
  | .min, [a, b] => if D.alike a b then .ok (if D.lt b a then b else a) h else .bad
  | .max, [a, b] => if D.alike a b then .ok (if D.lt a b then b else a) h else .bad
  | .int, [.int i] => .ok (.int i) h
  | .int, [.bl b] => .ok (.int (if b then 1 else 0)) h
  | .tuple, [a] => if isCtp a then .bad else match seqOf a h with
    | some xs => .ok (.tup xs) h
    | none => .bad
  | .tupleP, [a] => if isTupD a then .bad else match seqOf a h with
    | some xs => .ok (.ctp xs) h
    | none => .bad
  | .list, [a] => match seqOf a h with
    | some xs => .ok (.lst xs) h
    | none => .bad
  | .sorted, [a] => if isTupD a then .bad else match seqOf a h with
    | some xs => if sortable xs && decide (xs.length ≤ lim) then .ok (.lst (sortD xs)) h else .bad
    | none => .bad
  | .all, [a] => if isTupD a then .bad else match seqOf a h with
    | some xs => match allB xs with
      | some c => .ok (.bl c) h
      | none => .bad
    | none => .bad
  | .any, [a] => if isTupD a then .bad else match seqOf a h with
    | some xs => match anyB xs with
      | some c => .ok (.bl c) h
      | none => .bad
    | none => .bad
  | .divmod, [.int i, .int j] => if 0 < j ∧ j < 1073741824 then .ok (.tup [.int (i / j), .int (i % j)]) h else .bad
  | .gcd, [.int i, .int j] => .ok (.int (gcdD i j)) h
  | .repr, [a] => if isSeq (deref a h) && finD (deref a h) && decide ((D.py (deref a h)).shown.length ≤ lim) && (D.py (deref a h)).showable then .ok (.str (D.py (deref a h)).shown) h else .bad
  | .isInt, [a] => match a with
    | .int _ => .ok (.bl true) h
    | .bl _ => .ok (.bl true) h
    | .fn _ _ | .gfn _ | .ndf _ | .ref _ | .scr _ | .ctp _ => .bad
    | _ => .ok (.bl false) h
  | .isBool, [a] => match a with
    | .bl _ => .ok (.bl true) h
    | .fn _ _ | .gfn _ | .ndf _ | .ref _ | .scr _ | .ctp _ => .bad
    | _ => .ok (.bl false) h
  | .isTup, [a] => match a with
    | .tup _ => .ok (.bl true) h
    | .fn _ _ | .gfn _ | .ndf _ | .ref _ | .scr _ | .ctp _ => .bad
    | _ => .ok (.bl false) h
  | .isStr, [a] => match a with
    | .str _ => .ok (.bl true) h
    | .fn _ _ | .gfn _ | .ndf _ | .ref _ | .scr _ | .ctp _ => .bad
    | _ => .ok (.bl false) h
  | _, _ => .bad
def strsOf : List D → Option (List Str)
  | [] => some []
  | .str x :: r => (strsOf r).map (x :: ·)
  | _ => none
def opMt (m : MT) (a : D) (as : List D) (h : HS) : R D := match m, a, as with
  | .append, .ref i, [d] => match h[i]? with
    | some (.lst xs) => if xs.length < lim then .ok .non (h.set i (.lst (xs ++ [d]))) else .bad
    | _ => .bad
  | .pop, .ref i, [] => match h[i]? with
    | some (.lst xs) => match xs[xs.length - 1]? with
      | some y => .ok y (h.set i (.lst xs.dropLast))
      | none => .bad
    | _ => .bad
  | .extend, .ref i, [b] => match h[i]? with
    | some (.lst xs) => match lstOf b h with
      | some ys => if xs.length + ys.length ≤ lim then .ok .non (h.set i (.lst (xs ++ ys))) else .bad
      | none => .bad
    | _ => .bad
  | .join, .str x, [a] => match seqOf a h with
    | some xs => match strsOf xs with
      | some ys => if (ys.map (·.length)).sum + ys.length * x.length ≤ lim then .ok (.str (Txt.join x ys)) h else .bad
      | none => .bad
    | none => .bad
  | _, _, _ => .bad
/-- what the receiver of a method must be -/
def mtOk (m : MT) (a : D) (h : HS) : Bool := match m, a with
  | .join, .str _ => true
  | .join, _ => false
  | _, .ref i => match h[i]? with
    | some (.lst _) => true
    | _ => false
  | _, _ => false
/-- a store to a target -/
def rngD (lo hi : Int) : List D := (List.range (hi - lo).toNat).map fun (k : Nat) => D.int (lo + (k : Nat))
def okEnd (i : Int) : Bool := decide (-(2 ^ 60) ≤ i ∧ i < 2 ^ 60)
def opRng (as : List D) (h : HS) : R D := match as with
  | [.int j] => if okEnd j then .ok (.lst (rngD 0 j)) h else .bad
  | [.int i, .int j] => if okEnd i && okEnd j then .ok (.lst (rngD i j)) h else .bad
  | _ => .bad
/-- list(range(..)) -/
def opLRng (as : List D) (h : HS) : R D := match opRng as h with
  | .ok (.lst xs) _ => if xs.length ≤ lim then .ok (.lst xs) h else .bad
  | _ => .bad
/-- the items of a starred one -/
def starOf : D → Option (List D)
  | .tup xs => some xs
  | .lst xs => some xs
  | _ => none
/-! ### dicts -/
def keyD : Key → D
  | .inl i => .int i
  | .inr x => .str x
def keyOf : D → Option Key
  | .int i => some (.inl i)
  | .str x => some (.inr x)
  | _ => none
def keysOf : List D → Option (List Key)
  | [] => some []
  | d :: r => match keyOf d, keysOf r with
    | some k, some ks => some (k :: ks)
    | _, _ => none
def tkeyOf : D → Option (List Key)
  | .tup xs => keysOf xs
  | _ => none
def getK {κ : Type} [DecidableEq κ] (kvs : List (κ × D)) (k : κ) : Option D := (kvs.find? fun kv => decide (kv.1 = k)).map (·.2)
def putD {κ : Type} [DecidableEq κ] (kvs : List (κ × D)) (k : κ) (v : D) : List (κ × D) := if kvs.any (fun p => decide (p.1 = k)) = true then kvs.map (fun p => if p.1 = k then (p.1, v) else p) else kvs ++ [(k, v)]
def mergeD {κ : Type} [DecidableEq κ] (kvs more : List (κ × D)) : List (κ × D) := more.foldl (fun acc kv => putD acc kv.1 kv.2) kvs
/-- what the dict a holds at i -/
def dictAt (a i : D) (h : HS) : Option (Option D) := match a with
  | .ref j => match h[j]? with
    | some (.dct kvs) => (keyOf i).map (getK kvs)
    | some (.dctT kvs) => (tkeyOf i).map (getK kvs)
    | some (.fzK kvs) => (keyOf i).map (getK kvs)
    | some (.fzT kvs) => (tkeyOf i).map (getK kvs)
    | _ => none
  | _ => none
def opGet (a i : D) (h : HS) : R D := match dictAt a i h with
  | some (some d) => .ok d h
  | _ => .bad
def opDin (i a : D) (h : HS) : R D := match dictAt a i h with
  | some o => .ok (.bl o.isSome) h
  | none => .bad
def opDnin (i a : D) (h : HS) : R D := match dictAt a i h with
  | some o => .ok (.bl (!o.isSome)) h
  | none => .bad
/-- list(a), a a dict -/
def opLsd (a : D) (h : HS) : R D := match a with
  | .ref j => match h[j]? with
    | some (.dct kvs) => if kvs.length ≤ lim then .ok (.lst (kvs.map fun p => keyD p.1)) h else .bad
    | some (.dctT kvs) => if kvs.length ≤ lim then .ok (.lst (kvs.map fun p => .tup (p.1.map keyD))) h else .bad
    | _ => .bad
  | _ => .bad
/-- pairs of a tuple key and a value -/
def pairsT : List D → Option (List (List Key × D))
  | [] => some []
  | .tup [k, v] :: r => match tkeyOf k, pairsT r with
    | some q, some qs => some ((q, v) :: qs)
    | _, _ => none
  | _ :: _ => none
def opDctL (a : D) (h : HS) : R D := match a with
  | .lst xs => match pairsT xs with
    | some kvs => if kvs.length ≤ lim then .ok (.ref h.length) (h ++ [.dctT (mergeD [] kvs)]) else .bad
    | none => .bad
  | _ => .bad
def opDct1 (j : Nat) (k v : D) (h : HS) : R D := match h[j]?, tkeyOf k with
  | some (.dctT []), some q => .ok (.ref j) (h.set j (.dctT [(q, v)]))
  | _, _ => .bad
/-- a display with written texts as keys -/
def opDctS (j : Nat) (ks : List Str) (ds : List D) (h : HS) : R D := match h[j]? with
  | some (.dct []) => if ks.length = ds.length ∧ ks.length ≤ 15 then .ok (.ref j) (h.set j (.dct (mergeD [] ((ks.map Sum.inr).zip ds)))) else .bad
  | _ => .bad
def opStr1 (a : D) (h : HS) : R D := match a with
  | .int i => if small i then .ok (.str (toString i)) h else .bad
  | .str x => .ok (.str x) h
  | _ => .bad
def opSum (a : D) (h : HS) : R D := if isTupD a then .bad else match seqOf a h with
  | some xs => match intsOf xs with
    | some is => .ok (.int is.sum) h
    | none => .bad
  | none => .bad
/-- how often a value stands in a list -/
def opCnt (a y : D) (h : HS) : R D := match seqOf a h with
  | some ys => if y.flat && ys.all D.flat then .ok (.int (ys.countP fun z => D.eqv z y : Nat)) h else .bad
  | none => .bad
/-- the first place at which a list holds a value -/
def idxD (y : D) : List D → Nat → Option Nat
  | [], _ => none
  | z :: r, i => if D.eqv z y then some i else idxD y r (i + 1)
def isStrD : D → Bool
  | .str _ => true
  | _ => false
/-- what may be asked for an index -/
def idxOk (a : D) (h : HS) : Bool := match a with
  | .ctp _ => true
  | .tup _ => false
  | a => (seqOf a h).isSome
def opIdx (a y : D) (h : HS) : R D := match seqOf a h with
  | some ys => if (if isTupD a then isStrD y && ys.all isStrD else finD y && finD (.lst ys)) then (match idxD y ys 0 with
    | some i => .ok (.int (i : Nat)) h
    | none => .bad) else .bad
  | none => .bad
/-- sorted(set(texts)) -/
def opSSet (a : D) (h : HS) : R D := match a with
  | .lst xs => match strsOf xs with
    | some ys => if ys.length < 64 then .ok (.lst (sortD (ys.eraseDups.map D.str))) h else .bad
    | none => .bad
  | _ => .bad
/-! ### what is walked -/
def opSeq (a : D) (h : HS) : R D := match a with
  | .lst xs => .ok (.lst xs) h
  | .scr xs => .ok (.lst xs) h
  | .tup xs => .ok (.lst xs) h
  | .ctp xs => .ok (.lst xs) h
  | .ref j => match h[j]? with
    | some (.fzL xs) => .ok (.lst xs) h
    | _ => .bad
  | .str x => .ok (.lst (x.cps.toList.map fun c => D.str ⟨#[c]⟩)) h
  | _ => .bad
/-! the locked ones -/
def lockO : DO → Option DO
  | .lst xs => some (.fzL xs)
  | .dct kvs => some (.fzK kvs)
  | .dctT kvs => some (.fzT kvs)
  | _ => none
def openO : DO → Option DO
  | .fzL xs => some (.lst xs)
  | .fzK kvs => some (.dct kvs)
  | .fzT kvs => some (.dctT kvs)
  | _ => none
def lockH (j : Nat) (h : HS) : Option HS := match h[j]? with
  | some o => (lockO o).map (h.set j)
  | none => none
def openH (j : Nat) (h : HS) : Option HS := match h[j]? with
  | some o => (openO o).map (h.set j)
  | none => none
def openR (j : Nat) : R D → R D
  | .ok d h => match openH j h with
    | some h' => .ok d h'
    | none => .bad
  | _ => .bad
def opIkeys (a : D) (h : HS) : R D := match a with
  | .ref j => match h[j]? with
    | some (.fzK kvs) => .ok (.lst (kvs.map fun p => keyD p.1)) h
    | some (.fzT kvs) => .ok (.lst (kvs.map fun p => .tup (p.1.map keyD))) h
    | _ => .bad
  | _ => .bad
def opIvals (a : D) (h : HS) : R D := match a with
  | .ref j => match h[j]? with
    | some (.fzK kvs) => .ok (.lst (kvs.map fun p => p.2)) h
    | some (.fzT kvs) => .ok (.lst (kvs.map fun p => p.2)) h
    | _ => .bad
  | _ => .bad
def opIitems (a : D) (h : HS) : R D := match a with
  | .ref j => match h[j]? with
    | some (.fzK kvs) => .ok (.lst (kvs.map fun p => .tup [keyD p.1, p.2])) h
    | some (.fzT kvs) => .ok (.lst (kvs.map fun p => .tup [.tup (p.1.map keyD), p.2])) h
    | _ => .bad
  | _ => .bad
def enumD (xs : List D) : List D := (List.range xs.length).map fun (k : Nat) => D.tup [.int (k : Nat), xs.getD k .non]
def opEnum (a : D) (h : HS) : R D := match a with
  | .lst xs => .ok (.lst (enumD xs)) h
  | .ctp xs => .ok (.lst (enumD xs)) h
  | .tup xs => .ok (.lst (enumD xs)) h
  | _ => .bad
def zipD (xs ys : List D) : List D := (xs.zip ys).map fun p => D.tup [p.1, p.2]
def opZip (a b : D) (h : HS) : R D := match a, b with
  | .lst xs, .lst ys => .ok (.lst (zipD xs ys)) h
  | .tup xs, .tup ys => .ok (.lst (zipD xs ys)) h
  | .ctp xs, .tup ys => .ok (.lst (zipD xs ys)) h
  | .tup xs, .ctp ys => .ok (.lst (zipD xs ys)) h
  | .ctp xs, .ctp ys => .ok (.lst (zipD xs ys)) h
  | _, _ => .bad
/-! ### what an expression gives -/
/-- a store to names (a comprehension's target) -/
def stN : E → D → Env → Option Env
  | .var i, d, ρ => some (ρ.set i (some d))
  | .tup ts, .tup ds, ρ => stN ts (.lst ds) ρ
  | .cons t r, .lst (d :: ds), ρ => match stN t d ρ with
    | some ρ' => stN r (.lst ds) ρ'
    | none => none
  | .nil, .lst [], ρ => some ρ
  | _, _, _ => none
def wipeD (ρ : Env) : List Nat → Env
  | [] => ρ
  | v :: vs => (wipeD ρ vs).set v none
/-- what a comprehension's block knows of the names around it -/
def noNdf : Option D → Option D
  | some (.ndf _) => none
  | o => o
def blkE (ρ : Env) (own : List Nat) : Env := wipeD (ρ.map noNdf) own
def R.nox {α : Type} : R α → R α
  | .exc _ _ _ => .bad
  | r => r
def compGo (f : D → HS → R (Option D)) : List D → HS → R (List D)
  | [], h => .ok [] h
  | x :: xs, h => (f x h).bind fun o h1 => (compGo f xs h1).bind fun ys h2 => .ok (o.toList ++ ys) h2
def comp2Go (f : D → HS → R (List D)) : List D → HS → R (List D)
  | [], h => .ok [] h
  | x :: xs, h => (f x h).bind fun o h1 => (comp2Go f xs h1).bind fun ys h2 => .ok (o ++ ys) h2
/-- one turn of a comprehension -/
def compF (t : E) (vs : List Nat) (ρ : Env) (mc me : Env → HS → R D) (x : D) (h : HS) : R (Option D) := match stN t x (blkE ρ vs) with
  | none => .bad
  | some ρ' => (mc ρ' h).bind fun b h1 => match b with
    | .bl true => (me ρ' h1).bind fun y h2 => .ok (some y) h2
    | .bl false => .ok none h1
    | _ => .bad
/-- one turn of the inner one of two -/
def comp1F (t : E) (vs : List Nat) (ρ : Env) (me : Env → HS → R D) (x : D) (h : HS) : R (Option D) := match stN t x (wipeD ρ vs) with
  | none => .bad
  | some ρ' => (me ρ' h).bind fun y h2 => .ok (some y) h2
def comp2F (t : E) (vs : List Nat) (t2 : E) (vs1 : List Nat) (ρ : Env) (m2 me : Env → HS → R D) (x : D) (h : HS) : R (List D) := match stN t x (blkE ρ vs) with
  | none => .bad
  | some ρ' => (m2 ρ' h).bind fun l h1 => compGo (comp1F t2 vs1 ρ' me) (its l) h1
def tst (d : D) (h : HS) (k : Bool → R D) : R D := match d with
  | .bl b => k b
  | _ => .bad
def capsOf (ρ : Env) : List Nat → Option (List D)
  | [] => some []
  | j :: js => match getV ρ j, capsOf ρ js with
    | some d, some ds => some (d :: ds)
    | _, _ => none
def permOf (ds : List D) (perm : List Nat) : List D := perm.map fun j => ds.getD j .non
def setDO (h : HS) (i : Nat) (o : DO) : HS := h.set i o
/-- a row of targets, of expressions -/
def chainE : E → Option Nat
  | .nil => some 0
  | .cons _ r => (chainE r).map (· + 1)
  | _ => none
def isNil : E → Bool
  | .nil => true
  | _ => false
/-- a slice's part, left out or not (an int, where it is there) -/
def intR (r : R D) : R D := r.bind fun x h => match x with
  | .int i => .ok (.int i) h
  | _ => .bad
def evO (e : E) (r : HS → R D) (h : HS) : R D := if isNil e then .ok .non h else intR (r h)
section
variable (F : Nat → List D → HS → R D) (G : Nat → List D → List D → HS → R D)
def ev : E → Env → HS → R D
  | .nil, _, h => .ok (.lst []) h
  | .cons e r, ρ, h => (ev e ρ h).bind fun d h1 => (ev r ρ h1).bind fun l h2 => .ok (.lst (d :: its l)) h2
  | .var i, ρ, h => match getV ρ i with
    | some d => if isFn d then .bad else .ok d h
    | none => .bad
  | .cst d, _, h => .ok d h
  | .gl _ d, _, h => .ok d h
  | .tup es, ρ, h => (ev es ρ h).bind fun l h1 => .ok (.tup (its l)) h1
  | .lst es, ρ, h => (ev es ρ h).bind fun l h1 => .ok (.lst (its l)) h1
  | .lstO es, ρ, h => (ev es ρ h).bind fun l h1 => .ok (.ref h1.length) (h1 ++ [.lst (its l)])
  | .dctO, _, h => .ok (.ref h.length) (h ++ [.dct []])
  | .tupS a p b, ρ, h => (if isNil a then .ok (.lst []) h else (ev a ρ h).bind fun d h1 => .ok (.lst [d]) h1).bind fun l1 h1 => (ev p ρ h1).bind fun d h2 => match starOf d with
    | some xs => (ev b ρ h2).bind fun l2 h3 => if (its l1).length + xs.length + (its l2).length ≤ lim then .ok (.tup (its l1 ++ (xs ++ its l2))) h3 else .bad
    | none => .bad
  | .call f es, ρ, h => (ev es ρ h).bind fun l h1 => F f (its l) h1
  | .callK f es kws _ perm, ρ, h => (ev es ρ h).bind fun l h1 => (ev kws ρ h1).bind fun m h2 => F f (permOf (its l ++ its m) perm) h2
  | .callF f es, ρ, h => (ev es ρ h).bind fun l h1 => (F f (its l) h1).nox
  | .callV i es, ρ, h => match getV ρ i with
    | some (.fn c caps) => (ev es ρ h).bind fun l h1 => (G c caps (its l) h1).nox
    | some (.gfn f) => (ev es ρ h).bind fun l h1 => F f (its l) h1
    | _ => .bad
  | .lam c js, ρ, h => match capsOf ρ js with
    | some caps => if caps.all (fun d => !isFn d) = true then .ok (.fn c caps) h else .bad
    | none => .bad
  | .ndv i c js, ρ, h => match getV ρ i, capsOf ρ js with
    | some (.ndf c'), some caps => if c = c' ∧ caps.all (fun d => !isFn d) = true then .ok (.fn c caps) h else .bad
    | _, _ => .bad
  | .gfn f, _, h => .ok (.gfn f) h
  | .fnv i, ρ, h => match getV ρ i with
    | some (.fn c caps) => .ok (.fn c caps) h
    | some (.gfn f) => .ok (.gfn f) h
    | _ => .bad
  | .bi b es, ρ, h => (ev es ρ h).bind fun l h1 => opBi b (its l) h1
  | .isT b e, ρ, h => (ev e ρ h).bind fun d h1 => opBi b [d] h1
  | .mt m e es, ρ, h => (ev e ρ h).bind fun a h1 => if mtOk m a h1 then (ev es ρ h1).bind fun l h2 => opMt m a (its l) h2 else .bad
  | .bin o a b, ρ, h => (ev a ρ h).bind fun x h1 => (ev b ρ h1).bind fun y h2 => opBin o x y h2
  | .neg a, ρ, h => (ev a ρ h).bind fun x h1 => opNeg x h1
  | .cmp o a b, ρ, h => (ev a ρ h).bind fun x h1 => (ev b ρ h1).bind fun y h2 => opCmp o x y h2
  | .ch o1 o2 a b c, ρ, h => (ev a ρ h).bind fun x h1 => (ev b ρ h1).bind fun y h2 => (opCmp o1 x y h2).bind fun d h3 => tst d h3 fun t =>
    if t then (ev c ρ h3).bind fun z h4 => opCmp o2 y z h4 else .ok (.bl false) h3
  | .and a b, ρ, h => (ev a ρ h).bind fun d h1 => tst d h1 fun t => if t then (ev b ρ h1).bind fun d h2 => tst d h2 fun t => .ok (.bl t) h2 else .ok (.bl false) h1
  | .or a b, ρ, h => (ev a ρ h).bind fun d h1 => tst d h1 fun t => if t then .ok (.bl true) h1 else (ev b ρ h1).bind fun d h2 => tst d h2 fun t => .ok (.bl t) h2
  | .one a, ρ, h => (ev a ρ h).bind fun d h1 => tst d h1 fun t => .ok (.bl t) h1
  | .not a, ρ, h => (ev a ρ h).bind fun d h1 => tst d h1 fun t => .ok (.bl (!t)) h1
  | .ife c a b, ρ, h => (ev c ρ h).bind fun d h1 => tst d h1 fun t => if t then ev a ρ h1 else ev b ρ h1
  | .ix a i, ρ, h => (ev a ρ h).bind fun x h1 => (ev i ρ h1).bind fun y h2 => opIx x y h2
  | .sl a lo hi, ρ, h => (ev a ρ h).bind fun x h1 => (evO lo (ev lo ρ) h1).bind fun l h2 => (evO hi (ev hi ρ) h2).bind fun u h3 => opSl x l u h3
  | .rev a, ρ, h => (ev a ρ h).bind fun x h1 => opRev x h1
  | .comp it t c e own, ρ, h => (ev it ρ h).bind fun l h1 => ((compGo (compF t (own.map (·.2)) ρ (fun ρ' h' => if isNil c then .ok (.bl true) h' else ev c ρ' h') (fun ρ' h' => ev e ρ' h')) (its l) h1).nox).bind fun ys h5 => if ys.length ≤ lim then .ok (.lst ys) h5 else .bad
  | .comp2 it t it2 t2 e own vs1, ρ, h => (ev it ρ h).bind fun l h1 => ((comp2Go (comp2F t (own.map (·.2)) t2 vs1 ρ (fun ρ' h' => ev it2 ρ' h') (fun ρ' h' => ev e ρ' h')) (its l) h1).nox).bind fun ys h5 => if ys.length ≤ lim then .ok (.lst ys) h5 else .bad
  | .iseq e, ρ, h => (ev e ρ h).bind opSeq
  | .irng es, ρ, h => (ev es ρ h).bind fun l h1 => opRng (its l) h1
  | .ienum e, ρ, h => (ev e ρ h).bind opEnum
  | .izip a b, ρ, h => (ev a ρ h).bind fun x h1 => (ev b ρ h1).bind fun y h2 => opZip x y h2
  | .sortedSet e, ρ, h => (ev e ρ h).bind opSSet
  | .dctTO, _, h => .ok (.ref h.length) (h ++ [.dctT []])
  | .dctL e, ρ, h => (ev e ρ h).bind opDctL
  | .dct1 k v, ρ, h => (ev k ρ (h ++ [.dctT []])).bind fun x h1 => (ev v ρ h1).bind fun y h2 => opDct1 h.length x y h2
  | .dctS ks es, ρ, h => (ev es ρ (h ++ [.dct []])).bind fun l h1 => opDctS h.length ks (its l) h1
  | .dgt a i, ρ, h => (ev a ρ h).bind fun x h1 => (ev i ρ h1).bind fun y h2 => opGet x y h2
  | .din a d, ρ, h => (ev a ρ h).bind fun x h1 => (ev d ρ h1).bind fun y h2 => opDin x y h2
  | .dnin a d, ρ, h => (ev a ρ h).bind fun x h1 => (ev d ρ h1).bind fun y h2 => opDnin x y h2
  | .lsd e, ρ, h => (ev e ρ h).bind opLsd
  | .lstS a p b, ρ, h => (if isNil a then .ok (.lst []) h else (ev a ρ h).bind fun d h1 => .ok (.lst [d]) h1).bind fun l1 h1 => (ev p ρ h1).bind fun d h2 => match starOf d with
    | some xs => (ev b ρ h2).bind fun l2 h3 => if (its l1).length + xs.length + (its l2).length ≤ lim then .ok (.lst (its l1 ++ (xs ++ its l2))) h3 else .bad
    | none => .bad
  | .idx a e, ρ, h => (ev a ρ h).bind fun x h1 => if idxOk x h1 then (ev e ρ h1).bind fun y h2 => opIdx x y h2 else .bad
  | .cnt a e, ρ, h => (ev a ρ h).bind fun x h1 => (ev e ρ h1).bind fun y h2 => opCnt x y h2
  | .str1 e, ρ, h => (ev e ρ h).bind opStr1
  | .sum1 e, ρ, h => (ev e ρ h).bind opSum
  | .spl a b, ρ, h => .bad
  | .ikeys e, ρ, h => (ev e ρ h).bind opIkeys
  | .iitems e, ρ, h => (ev e ρ h).bind opIitems
  | .ivals e, ρ, h => (ev e ρ h).bind opIvals
  | .frzE i e, ρ, h => match getV ρ i with
    | some (.ref j) => match lockH j h with
      | some h1 => openR j (ev e ρ h1)
      | none => .bad
    | _ => .bad
  | .sortedKey e c, ρ, h => .bad
  | .listRange es, ρ, h => (ev es ρ h).bind fun l h1 => opLRng (its l) h1

/-! ### what a statement does -/
inductive Out where
  | nx (ρ : Env) (h : HS) | rt (d : D) (h : HS) | bk (ρ : Env) (h : HS) | ct (ρ : Env) (h : HS) | exc (c : Nat) (d : D) (ρ : Env) (h : HS) | bad
def Out.ofR {α : Type} (ρ : Env) (r : R α) (k : α → HS → Out) : Out := match r with
  | .ok a h => k a h
  | .exc c d h => .exc c d ρ h
  | .bad => .bad
def Out.then (o : Out) (k : Env → HS → Out) : Out := match o with
  | .nx ρ h => k ρ h
  | o => o
/-- o[i] = d, o a dict -/
def opPut (o i d : D) (h : HS) : R Unit := match o with
  | .ref j => match h[j]? with
    | some (.dct kvs) => match keyOf i with
      | some k => if kvs.length < lim then .ok () (h.set j (.dct (putD kvs k d))) else .bad
      | none => .bad
    | some (.dctT kvs) => match tkeyOf i with
      | some k => if kvs.length < lim then .ok () (h.set j (.dctT (putD kvs k d))) else .bad
      | none => .bad
    | _ => .bad
  | _ => .bad
/-- o[i] = d, o a list -/
def opSet (o i d : D) (h : HS) : R Unit := match o, i with
  | .ref j, .int k => match h[j]? with
    | some (.lst xs) => match ixN xs.length k with
      | some m => .ok () (h.set j (.lst (xs.set m d)))
      | none => .bad
    | _ => .bad
  | _, _ => .bad
def stT : E → D → Env → HS → R Env
  | .var i, d, ρ, h => .ok (ρ.set i (some d)) h
  | .tup ts, .tup ds, ρ, h => stT ts (.lst ds) ρ h
  | .tup ts, .lst ds, ρ, h => stT ts (.lst ds) ρ h
  | .cons t r, .lst (d :: ds), ρ, h => (stT t d ρ h).bind fun ρ' h' => stT r (.lst ds) ρ' h'
  | .nil, .lst [], ρ, h => .ok ρ h
  | .ix a i, d, ρ, h => (ev F G a ρ h).bind fun x h1 => (ev F G i ρ h1).bind fun y h2 => (opSet x y d h2).bind fun _ h3 => R.ok ρ h3
  | _, _, _, _ => .bad
def openOut (j : Nat) : Out → Out
  | .nx ρ h => match openH j h with
    | some h' => .nx ρ h'
    | none => .bad
  | .rt d h => match openH j h with
    | some h' => .rt d h'
    | none => .bad
  | .bk ρ h => match openH j h with
    | some h' => .bk ρ h'
    | none => .bad
  | .ct ρ h => match openH j h with
    | some h' => .ct ρ h'
    | none => .bad
  | _ => .bad
def whGo (c : Env → HS → R D) (b : Env → HS → Out) : Nat → Env → HS → Out
  | 0, _, _ => .bad
  | n + 1, ρ, h => Out.ofR ρ (c ρ h) fun d h1 => match d with
    | .bl true => match b ρ h1 with
      | .nx ρ' h' => whGo c b n ρ' h'
      | .ct ρ' h' => whGo c b n ρ' h'
      | .bk ρ' h' => .nx ρ' h'
      | o => o
    | .bl false => .nx ρ h1
    | _ => .bad
def foGo (st : D → Env → HS → R Env) (b : Env → HS → Out) : List D → Env → HS → Out
  | [], ρ, h => .nx ρ h
  | x :: xs, ρ, h => Out.ofR ρ (st x ρ h).nox fun ρ' h1 => match b ρ' h1 with
    | .nx ρ' h' => foGo st b xs ρ' h'
    | .ct ρ' h' => foGo st b xs ρ' h'
    | .bk ρ' h' => .nx ρ' h'
    | o => o
def evS : S → Env → HS → Out
  | .skip, ρ, h => .nx ρ h
  | .pass, ρ, h => .nx ρ h
  | .seq a b, ρ, h => (evS a ρ h).then (evS b)
  | .asg t e, ρ, h => .ofR ρ (ev F G e ρ h) fun d h1 => .ofR ρ (stT F G t d ρ h1).nox fun ρ' h2 => .nx ρ' h2
  | .dput o i e, ρ, h => .ofR ρ (((ev F G e ρ h).bind fun d h1 => (ev F G o ρ h1).bind fun x h2 => (ev F G i ρ h2).bind fun y h3 => match opPut x y d h3 with | .ok _ h4 => R.ok D.non h4 | _ => R.bad)) fun _ h5 => .nx ρ h5
  | .aug i o e, ρ, h => match getV ρ i with
    | some x => if isFn x then .bad else .ofR ρ (ev F G e ρ h) fun y h1 => .ofR ρ (opAug o x y h1) fun z h2 => .nx (ρ.set i (some z)) h2
    | none => .bad
  | .ite c a b, ρ, h => .ofR ρ (ev F G c ρ h) fun d h1 => match d with
    | .bl true => evS a ρ h1
    | .bl false => evS b ρ h1
    | _ => .bad
  | .wh n c b, ρ, h => whGo (ev F G c) (evS b) n ρ h
  | .fo t it b, ρ, h => .ofR ρ (ev F G it ρ h) fun l h1 => foGo (stT F G t) (evS b) (its l) ρ h1
  | .ret e, ρ, h => .ofR ρ (ev F G e ρ h) fun d h1 => .rt d h1
  | .retN, _, h => .rt .non h
  | .ex e, ρ, h => .ofR ρ (ev F G e ρ h) fun _ h1 => .nx ρ h1
  | .cont, ρ, h => .ct ρ h
  | .brk, ρ, h => .bk ρ h
  | .never, _, _ => .bad
  | .ndf i c, ρ, h => .nx (ρ.set i (some (.ndf c))) h
  | .frzS i b, ρ, h => match getV ρ i with
    | some (.ref j) => match lockH j h with
      | some h1 => openOut j (evS b ρ h1)
      | none => .bad
    | _ => .bad
end
/-! ### a program -/
structure FDef where
  np : Nat
  nl : Nat
  /-- a list that it makes and hands back is not changed any more -/
  fz : Bool
  body : S
/-- a function made within a def: a lambda's expression (.ret e), a nested def's body; nc captured ones behind the parameters -/
structure CDef where
  np : Nat
  nc : Nat
  nl : Nat
  body : S
structure Prog where
  fns : List FDef
  clos : List CDef
def runOut : Out → R D
  | .rt d h => .ok d h
  | .nx _ h => .ok .non h
  | .exc c d _ h => .exc c d h
  | _ => .bad
/-- the objects below the m-th, behind a call, refer to such alone -/
def Safe (h h' : HS) (m : Nat) : Prop := ∀ (i : Nat) (o : DO), i < m → h'[i]? = some o → h[i]? = some o ∨ o.blw m = true
open Classical in
noncomputable def cutAt (h h' : HS) (m : Nat) (d : D) : R D := if h.length ≤ m ∧ Safe h h' m ∧ D.blw m d = true then .ok d (h'.take m) else .ok d h'
open Classical in
/-- what a call leaves: objects of its own that nothing refers to are gone -/
noncomputable def cutR (fz : Bool) (h : HS) : R D → R D
  | .ok (.ref i) h' => if i < h.length then cutAt h h' h.length (.ref i) else match fz, h'[i]? with
    | true, some (.lst xs) => if Safe h h' h.length ∧ D.blws h.length xs = true then .ok (.lst xs) (h'.take h.length) else .ok (.ref i) h'
    | _, _ => if i = h.length then cutAt h h' (h.length + 1) (.ref i) else .ok (.ref i) h'
  | .ok d h' => cutAt h h' h.length d
  | r => r
mutual
noncomputable def evF (P : Prog) : Nat → Nat → List D → HS → R D
  | 0, _, _, _ => .bad
  | k + 1, f, as, h => match P.fns[f]? with
    | some d => if as.length = d.np then cutR d.fz h (runOut (evS (evF P k) (evG P k) d.body (as.map some ++ List.replicate (d.nl - d.np) none) h)) else .bad
    | none => .bad
noncomputable def evG (P : Prog) : Nat → Nat → List D → List D → HS → R D
  | 0, _, _, _, _ => .bad
  | k + 1, c, caps, as, h => match P.clos[c]? with
    | some d => if as.length = d.np ∧ caps.length = d.nc then cutR false h (runOut (evS (evF P k) (evG P k) d.body (as.map some ++ (caps.map some ++ List.replicate (d.nl - d.np - d.nc) none)) h)) else .bad
    | none => .bad
end
end VE
set_option Elab.async false
set_option linter.all false
set_option maxRecDepth 100000
set_option maxHeartbeats 1000000
set_option autoImplicit false
/-! V2: the judgement «this expression does what the fragment says», and the rules -/
namespace VE
open PySem PySem.Spec PyProof.Rows L2

theorem _root_.L2.PE.imp {X : Cx} {e : Expr} {t t' : TE} (h : PE X e t) (i : ∀ σ H Q, t' σ H Q → t σ H Q) : PE X e t' := ⟨fun pins s σ H Q I q => h.run pins s σ H Q I (i σ H Q q)⟩
theorem _root_.L2.PT.imp {X : Cx} {e : Expr} {t t' : TT} (h : PT X e t) (i : ∀ σ H Q, t' σ H Q → t σ H Q) : PT X e t' := ⟨fun pins s σ H Q I q => h.run pins s σ H Q I (i σ H Q q)⟩
theorem _root_.L2.PW.imp {X : Cx} {e : Expr} {t t' : TT} (h : PW X e t) (i : ∀ σ H Q, t' σ H Q → t σ H Q) : PW X e t' := ⟨fun wh pins s σ H Q I q => h.run wh pins s σ H Q I (i σ H Q q)⟩
theorem _root_.L2.PA.imp {X : Cx} {e : List Expr} {t t' : TA} (h : PA X e t) (i : ∀ σ H Q, t' σ H Q → t σ H Q) : PA X e t' := ⟨fun pos pins s σ H Q I q => h.run pos pins s σ H Q I (i σ H Q q)⟩
theorem _root_.L2.PS.imp {X : Cx} {e : Stmt} {t t' : TS} (h : PS X e t) (i : ∀ D σ H, t' D σ H → t D σ H) : PS X e t' := ⟨fun pins s σ H D I q => h.run pins s σ H D I (i D σ H q)⟩
theorem _root_.L2.PSs.imp {X : Cx} {e : List Stmt} {t t' : TS} (h : PSs X e t) (i : ∀ D σ H, t' D σ H → t D σ H) : PSs X e t' := ⟨fun pins s σ H D I q => h.run pins s σ H D I (i D σ H q)⟩

/-- a function made within a def: its words; fr: the names that it captures -/
structure CodeT where
  name : Str
  qual : Str
  params : Arguments
  body : FuncBody
  scope : Scope
  fr : List Str
/-- the object at f is that function, with these captured cells, its code object at c -/
def CodeT.fd (C : CodeT) (cl : List (Str × Addr)) (c : Addr) (doc pm ctv : Value) : FuncData :=
  { name := C.name, qualname := C.qual, params := C.params, body := C.body, scope := C.scope, globals := mainGlobals, closure := cl, defaults := .none, kwdefaults := .none, doc, pyModule := pm, annotations := none, code := .ref c, closureTuple := ctv, builtins := builtinsNs }
def ClO (f : Addr) (C : CodeT) (cl : List (Str × Addr)) (c : Addr) : HO := .ext fun h => ∃ (od : Option Addr) (sl : Array (Option Value)) (doc pm ctv : Value), h.get? f = some (⟨.type "function", od, .func (C.fd cl c doc pm ctv), sl⟩ : Obj)
/-- what a run knows throughout: the tables of code objects; the classes of errors (each with its one field); what is wanted of an exception; the program's functions; the functions made within defs -/
structure Sta where
  T : List NdefX.NTab
  cv : Nat → Option (Addr × Str)
  W : WX
  fad : Nat → Option Addr
  cod : Nat → Option CodeT
  cel : Option (List (Str × Addr) × Scope)
def ExR (K : PySem.W.Frag) (cv : Nat → Option (Addr × Str)) (π : Pi) (H : Hp) (c : Nat) (d : D) (cls : Value) (dd : Option Addr) : Prop :=
  ∃ C fld da v, cv c = some (C, fld) ∧ cls = .ref C ∧ dd = some da ∧ π.out da ∧ H da = some (.xd [(fld, v)]) ∧ RD K π H d v
def gp {α : Type} (K : PySem.W.Frag) (S : Sta) (RV : Pi → Hp → D → α → Prop) (π : Pi) (H : Hp) (Q : α → Hp → Prop) (E : XK) : R D → Prop
  | .ok d hs' => ∀ π' H' x, Ext π H π' H' → Rel K S.T π' H' hs' → RV π' H' d x → Q x H'
  | .exc c d hs' => ∀ π' H' cls dd, Ext π H π' H' → Rel K S.T π' H' hs' → ExR K S.cv π' H' c d cls dd → E cls dd H'
  | .bad => False
abbrev post (K : PySem.W.Frag) (S : Sta) := gp (α := V) K S (RD K)
abbrev postA (K : PySem.W.Frag) (S : Sta) := gp (α := List V) K S (fun π H d vs => RDs K π H (its d) vs)
section
variable {K : PySem.W.Frag} {S : Sta} {π π1 : Pi} {H H1 : Hp} {E : XK}
theorem gp.mono {α : Type} {RV : Pi → Hp → D → α → Prop} {Q : α → Hp → Prop} {r : R D} (e : Ext π H π1 H1) (h : gp K S RV π H Q E r) : gp K S RV π1 H1 Q E r := by
  cases r with
  | ok d hs => exact fun π' H' x e' => h π' H' x (e.trans e')
  | exc c d hs => exact fun π' H' cls dd e' => h π' H' cls dd (e.trans e')
  | bad => exact h
theorem gp_bind {α β : Type} {RV : Pi → Hp → D → α → Prop} {RV2 : Pi → Hp → D → β → Prop} {Q : β → Hp → Prop} {N : α → Hp → Prop} {r : R D} {k : D → HS → R D} (h : gp K S RV2 π H Q E (r.bind k))
    (n : ∀ d hs1 π1 H1 x, Ext π H π1 H1 → Rel K S.T π1 H1 hs1 → RV π1 H1 d x → gp K S RV2 π1 H1 Q E (k d hs1) → N x H1) : gp K S RV π H N E r := by
  cases r with
  | ok d hs => exact fun π' H' x e rel rv => n d hs π' H' x e rel rv (gp.mono e h)
  | exc c d hs => exact h
  | bad => exact h
theorem gp.imp {α : Type} {RV : Pi → Hp → D → α → Prop} {Q Q' : α → Hp → Prop} {r : R D} (h : gp K S RV π H Q E r) (i : ∀ x H', Q x H' → Q' x H') : gp K S RV π H Q' E r := by
  cases r with
  | ok d hs => exact fun π' H' x e rel rv => i _ _ (h π' H' x e rel rv)
  | exc c d hs => exact h
  | bad => exact h
end
/-- a captured cell, as it stands -/
def CelO (a : Addr) (o : Obj) : HO := .ext fun h => h.get? a = some o
/-- captured cells, known by the heap: what the names fr hold -/
structure CellsH (H : Hp) (cl : List (Str × Addr)) (fr : List Str) (vs : List V) : Prop where
  len : vs.length = fr.length
  inj : ∀ x y c, cl.lookup x = some c → cl.lookup y = some c → x = y
  all : ∀ p ∈ cl, ∃ o w, H p.2 = some (CelO p.2 o) ∧ o.data = .cell w
  has : ∀ (i : Nat) (y : Str), fr[i]? = some y → ∃ a o u v, cl.lookup y = some a ∧ H a = some (CelO a o) ∧ o.data = .cell (some u) ∧ vs[i]? = some v ∧ RelV v u
/-- what a name may hold that is a function -/
inductive RF (K : PySem.W.Frag) (S : Sta) (π : Pi) (H : Hp) : D → V → Prop
  | gfn {i : Nat} {a : Addr} : S.fad i = some a → RF K S π H (.gfn i) (.ref a)
  | fn {c : Nat} {C : CodeT} {f c' : Addr} {cl : List (Str × Addr)} {caps : List D} {vs : List V} : S.cod c = some C → H f = some (ClO f C cl c') → H c' = some (LamX.CodeO c' C.qual) → RDs K π H caps vs → CellsH H cl C.fr vs → RF K S π H (.fn c caps) (.ref f)
/-- a def made in this def, whose cells are S.cel -/
inductive RN (S : Sta) (H : Hp) : D → V → Prop
  | ndf {c : Nat} {C : CodeT} {f c' : Addr} {cells : List (Str × Addr)} {sc : Scope} : S.cel = some (cells, sc) → NdefX.ndefB sc C.scope C.fr = true → S.cod c = some C → H f = some (ClO f C (cloFrom cells C.scope.names []) c') → H c' = some (LamX.CodeO c' C.qual) → RN S H (.ndf c) (.ref f)
/-- what a slot may hold -/
def RO (K : PySem.W.Frag) (S : Sta) (π : Pi) (H : Hp) (d : D) (v : V) : Prop := RD K π H d v ∨ RF K S π H d v ∨ RN S H d v
/-- the slots: what the fragment knows of them they hold -/
structure Slots (K : PySem.W.Frag) (S : Sta) (π : Pi) (H : Hp) (ρ : Env) (σ : L2.St) : Prop where
  len : ρ.length = σ.length
  at_ : ∀ (i : Nat) (d : D), ρ[i]? = some (some d) → ∃ v, σ[i]? = some (some v) ∧ RO K S π H d v
/-- the words of a block of code: its names, its scope, how its names are stored, its code object with its table, its name -/
structure Kx where
  N : List Str
  sc : Scope
  fn : Str → Bool
  code : Option (Nat → Nat → Str)
  qual : Str
/-- the words of a run: names, scope, calm, the rules' premises -/
structure Good (X : Cx) (S : Sta) (κ : Kx) (k : Nat) : Prop where
  nN : X.N = κ.N
  sce : X.env.scope = κ.sc
  fn : X.fn = κ.fn
  qual : X.env.qual = κ.qual
  nd : κ.N.Nodup
  calm : X.calm = true
  takes : Takes X S.W
  room : Room k X.A
  gu : X.A.guards = some []
  fad : ∀ i a, S.fad i = some a → PySem.W.keepIn X.K (.ref a) = true
  cel : ∀ cells sc, S.cel = some (cells, sc) → cells = X.env.cells ∧ sc = κ.sc
  top : κ.code.isSome = true → κ.fn = fun _ => true
  tab : ∀ nm, κ.code = some nm → ∃ c P, X.env.code = .ref c ∧ LamX.TabB X.base X.mg c P ∧ (P, nm) ∈ S.T ∧ ∀ p ∈ S.T, p.1 = P → p.2 = nm
section
variable {X : Cx} {S : Sta} {π π1 : Pi} {H H1 : Hp} {ρ : Env} {σ : L2.St} {hs : HS}
theorem Keeps.ext_keep (r : Rel X.K S.T π H hs) (e : Keeps π H π1 H1) {a : Addr} {φ : Heap → Prop} (h : H a = some (.ext φ)) : H1 a = some (.ext φ) := by
  refine (e.keep a _ h ⟨fun hp => ?_, fun hp => ?_⟩ (fun ps z => by cases z)).2
  · have k := r.kindNo hp h
    cases k
  · obtain ⟨_, vs, q⟩ := r.hidL a hp
    rw [h] at q; cases q
theorem CellsH.kept (r : Rel X.K S.T π H hs) (e : Keeps π H π1 H1) {cl : List (Str × Addr)} {fr : List Str} {vs : List V} (h : CellsH H cl fr vs) : CellsH H1 cl fr vs :=
  ⟨h.len, h.inj, fun p q => by
    obtain ⟨o, w, h1, h2⟩ := h.all p q
    exact ⟨o, w, e.ext_keep r h1, h2⟩, fun i y q => by
    obtain ⟨a, o, u, v, h1, h2, h3⟩ := h.has i y q
    exact ⟨a, o, u, v, h1, e.ext_keep r h2, h3⟩⟩
theorem RF.kept (r : Rel X.K S.T π H hs) (e : Keeps π H π1 H1) {d : D} {v : V} (h : RF X.K S π H d v) : RF X.K S π1 H1 d v := by
  cases h with
  | gfn h => exact .gfn h
  | fn h1 h2 h3 h4 h5 => exact .fn h1 (e.ext_keep r h2) (e.ext_keep r h3) (h4.kept e) (h5.kept r e)
theorem RN.kept (r : Rel X.K S.T π H hs) (e : Keeps π H π1 H1) {d : D} {v : V} (h : RN S H d v) : RN S H1 d v := by
  cases h with
  | ndf h0 hb h1 h2 h3 => exact .ndf h0 hb h1 (e.ext_keep r h2) (e.ext_keep r h3)
theorem RO.kept (r : Rel X.K S.T π H hs) (e : Keeps π H π1 H1) {d : D} {v : V} (h : RO X.K S π H d v) : RO X.K S π1 H1 d v :=
  h.elim (fun z => .inl (z.kept e)) fun z => .inr (z.elim (fun z => .inl (z.kept r e)) fun z => .inr (z.kept r e))
theorem RO.mono (r : Rel X.K S.T π H hs) (e : Ext π H π1 H1) {d : D} {v : V} (h : RO X.K S π H d v) : RO X.K S π1 H1 d v := h.kept r e.keeps
theorem RF.isFn {d : D} {v : V} (h : RF X.K S π H d v) : isFn d = true := by cases h <;> rfl
theorem RN.isFn {d : D} {v : V} (h : RN S H d v) : isFn d = true := by cases h <;> rfl
theorem RO.data {d : D} {v : V} (h : RO X.K S π H d v) (n : ¬ isFn d = true) : RD X.K π H d v := h.resolve_right fun z => n (z.elim RF.isFn RN.isFn)
theorem Slots.kept (r : Rel X.K S.T π H hs) (e : Keeps π H π1 H1) (h : Slots X.K S π H ρ σ) : Slots X.K S π1 H1 ρ σ :=
  ⟨h.len, fun i d q => by
    obtain ⟨v, h1, h2⟩ := h.at_ i d q
    exact ⟨v, h1, h2.kept r e⟩⟩
theorem Slots.mono (r : Rel X.K S.T π H hs) (e : Ext π H π1 H1) (h : Slots X.K S π H ρ σ) : Slots X.K S π1 H1 ρ σ := h.kept r e.keeps
theorem Slots.setO (h : Slots X.K S π H ρ σ) {i : Nat} {d : D} {v : V} (r : RO X.K S π H d v) : Slots X.K S π H (ρ.set i (some d)) (σ.set i (some v)) := by
  refine ⟨by simp [h.len], fun j d' q => ?_⟩
  by_cases hj : i = j
  · subst hj
    by_cases hi : i < ρ.length
    · rw [List.getElem?_set_self hi] at q
      cases q
      exact ⟨v, List.getElem?_set_self (by rw [← h.len]; exact hi), r⟩
    · rw [List.getElem?_eq_none (by simpa using hi)] at q; cases q
  · rw [List.getElem?_set_ne hj] at q
    rw [List.getElem?_set_ne hj]
    exact h.at_ j d' q
theorem Slots.set (h : Slots X.K S π H ρ σ) {i : Nat} {d : D} {v : V} (r : RD X.K π H d v) : Slots X.K S π H (ρ.set i (some d)) (σ.set i (some v)) := h.setO (.inl r)
theorem Slots.get (h : Slots X.K S π H ρ σ) {i : Nat} {d : D} (e : getV ρ i = some d) : ∃ v, σ[i]? = some (some v) ∧ RO X.K S π H d v := by
  unfold getV at e
  cases hρ : ρ[i]? with
  | none => rw [hρ] at e; cases e
  | some o =>
    rw [hρ] at e
    have e : o = some d := e
    subst e
    exact h.at_ i d hρ
end
/-- a reading: m runs in the state as it is -/
def tD (X : Cx) (S : Sta) (m : Env → HS → R D) : TE := fun σ H Q => ∃ π ρ hs, Rel X.K S.T π H hs ∧ Slots X.K S π H ρ σ ∧ post X.K S π H Q (fun c d H' => S.W c d σ H') (m ρ hs)
def tDs (X : Cx) (S : Sta) (m : Env → HS → R D) : TA := fun σ H Q => ∃ π ρ hs, Rel X.K S.T π H hs ∧ Slots X.K S π H ρ σ ∧ postA X.K S π H Q (fun c d H' => S.W c d σ H') (m ρ hs)
abbrev tDT (X : Cx) (S : Sta) (m : Env → HS → R D) : TT := tB (tD X S m)
section
variable {X : Cx} {S : Sta} {κ : Kx} {k : Nat} {e a b c : Expr} {es : List Expr} {m ma mb mc : Env → HS → R D} {pos : Pos} (G : Good X S κ k)
include G
theorem d_cst {v : V} {d : D} (h : PE X e (tC v)) (r : ∀ π H, RD X.K π H d v) : PE X e (tD X S fun _ hs => .ok d hs) :=
  h.imp fun σ H Q ⟨π, ρ, hs, rel, sl, p⟩ => p π H v (.refl _ _) rel (r _ _)
theorem d_var {i : Nat} {x : Str} (hN : κ.N[i]? = some x) (hv : Vis κ.sc x) (hd : (x == ("__debug__" : Str)) = false) (hcd : (x == ("__classdict__" : Str)) = false) :
    PE X (.Name x pos) (tD X S fun ρ hs => match getV ρ i with | some d => if isFn d then .bad else .ok d hs | none => .bad) := by
  refine (pe_var (i := i) (by rw [G.nN]; exact hN) (by rw [G.sce]; exact hv) hd hcd).imp fun σ H Q ⟨π, ρ, hs, rel, sl, p⟩ => ?_
  dsimp only at p
  split at p
  · rename_i d e
    split at p
    · exact p.elim
    · rename_i hf
      obtain ⟨v, hv, r⟩ := sl.get e
      exact ⟨v, hv, p π H v (.refl _ _) rel (r.data hf)⟩
  · exact p.elim
/-- two in a row -/
theorem seq2 {σ : L2.St} {H : Hp} {Q : VK} {kk : D → D → HS → R D} (h : tD X S (fun ρ h => (ma ρ h).bind fun x h1 => (mb ρ h1).bind fun y h2 => kk x y h2) σ H Q) {N' : V → V → Hp → Prop}
    (n : ∀ x y v w π H hs, Rel X.K S.T π H hs → RD X.K π H x v → RD X.K π H y w → post X.K S π H Q (fun c d H' => S.W c d σ H') (kk x y hs) → N' v w H) :
    tD X S ma σ H fun v H1 => tD X S mb σ H1 fun w H2 => N' v w H2 := by
  obtain ⟨π, ρ, hs, rel, sl, p⟩ := h
  refine ⟨π, ρ, hs, rel, sl, gp_bind p fun x hs1 π1 H1 v e1 rel1 r1 p1 => ?_⟩
  refine ⟨π1, ρ, hs1, rel1, sl.mono rel e1, gp_bind p1 fun y hs2 π2 H2 w e2 rel2 r2 p2 => ?_⟩
  exact n x y v w π2 H2 hs2 rel2 (r1.mono e2) r2 p2
theorem seq1 {σ : L2.St} {H : Hp} {Q : VK} {kk : D → HS → R D} (h : tD X S (fun ρ h => (ma ρ h).bind fun x h1 => kk x h1) σ H Q) {N' : V → Hp → Prop}
    (n : ∀ x v π H hs, Rel X.K S.T π H hs → RD X.K π H x v → post X.K S π H Q (fun c d H' => S.W c d σ H') (kk x hs) → N' v H) : tD X S ma σ H N' := by
  obtain ⟨π, ρ, hs, rel, sl, p⟩ := h
  exact ⟨π, ρ, hs, rel, sl, gp_bind p fun x hs1 π1 H1 v e1 rel1 r1 p1 => n x v π1 H1 hs1 rel1 r1 p1⟩
theorem seqA {σ : L2.St} {H : Hp} {Q : VK} {kk : D → HS → R D} (h : tD X S (fun ρ h => (ma ρ h).bind fun x h1 => kk x h1) σ H Q) {N' : List V → Hp → Prop}
    (n : ∀ x vs π H hs, Rel X.K S.T π H hs → RDs X.K π H (its x) vs → post X.K S π H Q (fun c d H' => S.W c d σ H') (kk x hs) → N' vs H) : tDs X S ma σ H N' := by
  obtain ⟨π, ρ, hs, rel, sl, p⟩ := h
  exact ⟨π, ρ, hs, rel, sl, gp_bind p fun x hs1 π1 H1 v e1 rel1 r1 p1 => n x v π1 H1 hs1 rel1 r1 p1⟩
/-- a value-level operation of two -/
def R2D (X : Cx) (S : Sta) (f : D → D → HS → R D) (r : R2) : Prop := ∀ π H hs x y v w (Q : VK) (E : XK), Rel X.K S.T π H hs → RD X.K π H x v → RD X.K π H y w → post X.K S π H Q E (f x y hs) → r v w H Q
omit G in
def R1D (X : Cx) (S : Sta) (f : D → HS → R D) (r : V → Hp → VK → Prop) : Prop := ∀ π H hs x v (Q : VK) (E : XK), Rel X.K S.T π H hs → RD X.K π H x v → post X.K S π H Q E (f x hs) → r v H Q
theorem d_op2 {f : D → D → HS → R D} {r : R2} (h : PE X e (tOp r (tD X S ma) (tD X S mb))) (hr : R2D X S f r) : PE X e (tD X S fun ρ h => (ma ρ h).bind fun x h1 => (mb ρ h1).bind fun y h2 => f x y h2) :=
  h.imp fun σ H Q q => seq2 G q fun x y v w π H hs rel r1 r2 p => hr π H hs x y v w Q _ rel r1 r2 p
theorem d_nil : PA X [] (tDs X S fun _ hs => .ok (.lst []) hs) := pa_nil.imp fun σ H Q ⟨π, ρ, hs, rel, sl, p⟩ => p π H [] (.refl _ _) rel .nil
theorem d_cons (ha : PE X a (tD X S ma)) (hb : PA X es (tDs X S mb)) (hs : starEach (a :: es) X.env = (false, eval a X.env) :: starEach es X.env) :
    PA X (a :: es) (tDs X S fun ρ h => (ma ρ h).bind fun d h1 => (mb ρ h1).bind fun l h2 => .ok (.lst (d :: its l)) h2) := by
  refine (pa_cons ha hb hs).imp fun σ H Q ⟨π, ρ, hs, rel, sl, p⟩ => ⟨π, ρ, hs, rel, sl, gp_bind p fun x hs1 π1 H1 v e1 rel1 r1 p1 => ?_⟩
  refine ⟨π1, ρ, hs1, rel1, sl.mono rel e1, gp_bind p1 fun y hs2 π2 H2 w e2 rel2 r2 p2 => ?_⟩
  exact p2 π2 H2 _ (.refl _ _) rel2 (.cons (r1.mono e2) r2)
omit G in
theorem RD.newT {K : PySem.W.Frag} {S : Sta} {π : Pi} {H : Hp} {hs : HS} {p : Addr} {ds : List D} {vs : List V} (rel : Rel K S.T π H hs) (hp : H p = none) (r : RDs K π H ds vs) : RD K π (upd H p (.tup vs)) (.tup ds) (.ref p) :=
  .tup ⟨rel.fresh hp, upd_same⟩ (r.mono (.new hp))
omit G in
theorem RD.newL {K : PySem.W.Frag} {S : Sta} {π : Pi} {H : Hp} {hs : HS} {p : Addr} {ds : List D} {vs : List V} (rel : Rel K S.T π H hs) (hp : H p = none) (r : RDs K π H ds vs) : RD K π (upd H p (.lst vs)) (.lst ds) (.ref p) :=
  .lst ⟨rel.fresh hp, upd_same⟩ (r.mono (.new hp))
/-- a new tuple, a new list, handed on -/
theorem post_newT {π : Pi} {H : Hp} {hs : HS} {Q : VK} {E : XK} {ds : List D} {vs : List V} (p : post X.K S π H Q E (.ok (.tup ds) hs)) (rel : Rel X.K S.T π H hs) (r : RDs X.K π H ds vs) : ∀ p, H p = none → Q (.ref p) (upd H p (.tup vs)) :=
  fun a ha => p π _ _ (.new ha) (rel.new ha) (RD.newT rel ha r)
theorem post_newL {π : Pi} {H : Hp} {hs : HS} {Q : VK} {E : XK} {ds : List D} {vs : List V} (p : post X.K S π H Q E (.ok (.lst ds) hs)) (rel : Rel X.K S.T π H hs) (r : RDs X.K π H ds vs) : ∀ p, H p = none → Q (.ref p) (upd H p (.lst vs)) :=
  fun a ha => p π _ _ (.new ha) (rel.new ha) (RD.newL rel ha r)
theorem d_tup {q : Nat} (he : PA X es (tDs X S m)) (hl : es.length ≤ 1000) (hm : ∀ ρ h d h', m ρ h = .ok d h' → (its d).length = es.length) : PE X (.Tuple es q pos) (tD X S fun ρ h => (m ρ h).bind fun l h1 => .ok (.tup (its l)) h1) := by
  refine (pe_tup he).imp fun σ H Q ⟨π, ρ, hs, rel, sl, p⟩ => ?_
  refine ⟨π, ρ, hs, rel, sl, ?_⟩
  dsimp only at p
  cases hm' : m ρ hs with
  | ok d h1 =>
    rw [hm'] at p
    intro π1 H1 vs e1 rel1 r1
    have hlen := hm ρ hs d h1 hm'
    refine ⟨by rw [← r1.length, hlen]; exact Nat.le_trans hl (by decide), post_newT G (gp.mono e1 p) rel1 r1⟩
  | exc c d h1 => rw [hm'] at p; exact p
  | bad => rw [hm'] at p; exact p
theorem d_lst (he : PA X es (tDs X S m)) (hl : es.length ≤ 1000) (hm : ∀ ρ h d h', m ρ h = .ok d h' → (its d).length = es.length) : PE X (.List es pos) (tD X S fun ρ h => (m ρ h).bind fun l h1 => .ok (.lst (its l)) h1) := by
  refine (pe_lst he).imp fun σ H Q ⟨π, ρ, hs, rel, sl, p⟩ => ?_
  refine ⟨π, ρ, hs, rel, sl, ?_⟩
  dsimp only at p
  cases hm' : m ρ hs with
  | ok d h1 =>
    rw [hm'] at p
    intro π1 H1 vs e1 rel1 r1
    have hlen := hm ρ hs d h1 hm'
    refine ⟨by rw [← r1.length, hlen]; exact Nat.le_trans hl (by decide), post_newL G (gp.mono e1 p) rel1 r1⟩
  | exc c d h1 => rw [hm'] at p; exact p
  | bad => rw [hm'] at p; exact p
theorem d_lstO (he : PA X es (tDs X S m)) (hl : es.length ≤ 1000) (hm : ∀ ρ h d h', m ρ h = .ok d h' → (its d).length = es.length) : PE X (.List es pos) (tD X S fun ρ h => (m ρ h).bind fun l h1 => .ok (.ref h1.length) (h1 ++ [.lst (its l)])) := by
  refine (pe_lst he).imp fun σ H Q ⟨π, ρ, hs, rel, sl, p⟩ => ?_
  refine ⟨π, ρ, hs, rel, sl, ?_⟩
  dsimp only at p
  cases hm' : m ρ hs with
  | ok d h1 =>
    rw [hm'] at p
    intro π1 H1 vs e1 rel1 r1
    have hlen := hm ρ hs d h1 hm'
    refine ⟨by rw [← r1.length, hlen]; exact Nat.le_trans hl (by decide), fun a ha => ?_⟩
    have e2 : Ext π1 H1 (π1.add a) (upd H1 a (.lst vs)) := .own ha
    refine p (π1.add a) _ _ (e1.trans e2) (rel1.own ha ⟨vs, upd_same, r1.mono e2⟩) (.ref ?_)
    show (π1.obj ++ [a])[h1.length]? = some a
    rw [← rel1.len]; simp
  | exc c d h1 => rw [hm'] at p; exact p
  | bad => rw [hm'] at p; exact p
/-! ### tests -/
theorem dt_val (h : PE X e (tD X S m)) (he : ∀ whole, isTrue e X.env whole = (do let v ← whole; standAt e.pos; holding [v] (truthy v))) : PT X e (tDT X S m) := pt_val h he
/-- a test, then by its answer -/
theorem seqT {σ : L2.St} {H : Hp} {Q : VK} {kk : Bool → HS → R D} (h : tD X S (fun ρ h => (ma ρ h).bind fun d h1 => tst d h1 fun t => kk t h1) σ H Q) {N' : Bool → Hp → Prop}
    (n : ∀ t π ρ H hs, Rel X.K S.T π H hs → Slots X.K S π H ρ σ → post X.K S π H Q (fun c d H' => S.W c d σ H') (kk t hs) → N' t H) : tDT X S ma σ H N' := by
  obtain ⟨π, ρ, hs, rel, sl, p⟩ := h
  refine ⟨π, ρ, hs, rel, sl, gp_bind p fun x hs1 π1 H1 v e1 rel1 r1 p1 => ?_⟩
  cases x with
  | bl t =>
    cases r1
    exact ⟨t, rfl, n t π1 ρ H1 hs1 rel1 (sl.mono rel e1) p1⟩
  | _ => exact p1.elim
end
/-! ### what a call leaves -/
section
variable {K : PySem.W.Frag} {S : Sta} {π : Pi} {H : Hp} {h : HS} {Q : VK} {E : XK}
theorem safe_blw {π1 : Pi} {H1 : Hp} {h' : HS} {m : Nat} (rel : Rel K S.T π H h) (hm : h.length ≤ m) (sf : Safe h h' m) : ∀ (i : Nat) (o : DO), i < m → h'[i]? = some o → o.blw m = true := fun i o hi ho => by
  rcases sf i o hi ho with q | q
  · have hl : i < π.obj.length := by rw [rel.len]; exact (List.getElem?_eq_some_iff.mp q).1
    exact (rel.obj i o _ q (List.getElem?_eq_getElem hl)).bel (by rw [rel.len]; exact hm)
  · exact q
theorem post_cutAt {h' : HS} {m : Nat} {d : D} (rel : Rel K S.T π H h) (p : post K S π H Q E (cutAt h h' m d)) : post K S π H Q E (.ok d h') := by
  unfold cutAt at p
  split at p
  · rename_i c
    obtain ⟨c1, c2, c3⟩ := c
    intro π' H' x e rel' rv
    exact p (π'.cut m) H' x (e.cut (by rw [rel.len]; exact c1)) (rel'.cut (safe_blw (π1 := π') (H1 := H') rel c1 c2)) (RD.cutN _ _ c3 rv)
  · exact p
theorem post_cut {fz : Bool} {r : R D} (rel : Rel K S.T π H h) (p : post K S π H Q E (cutR fz h r)) : post K S π H Q E r := by
  unfold cutR at p
  split at p
  · rename_i i h'
    split at p
    · exact post_cutAt rel p
    · rename_i hi
      split at p
      · rename_i xs hx
        split at p
        · rename_i c
          obtain ⟨c2, c3⟩ := c
          intro π' H' x e rel' rv
          cases rv with
          | ref ha =>
            rename_i a
            obtain ⟨vs, hv, rs⟩ := rel'.obj i _ a hx ha
            refine p (π'.cut h.length) H' _ (e.cut (by rw [rel.len]; exact Nat.le_refl _)) (rel'.cut (safe_blw (π1 := π') (H1 := H') rel (Nat.le_refl _) c2)) (.lst ⟨⟨fun z => ?_, fun z => ?_⟩, hv⟩ (RDs.cutN _ _ c3 rs))
            · obtain ⟨j, hj, hz⟩ := List.mem_take_iff_getElem.mp z
              have hl := (List.getElem?_eq_some_iff.mp ha)
              obtain ⟨q1, q2⟩ := hl
              have := (List.getElem_inj rel'.nd).mp (hz.trans q2.symm)
              omega
            · exact (rel'.hidL a z).1 (List.mem_of_getElem? ha)
        · exact p
      · split at p
        · exact post_cutAt rel p
        · exact p
  · exact post_cutAt rel p
  · exact p
end
end VE
set_option Elab.async false
set_option linter.all false
set_option maxRecDepth 100000
set_option maxHeartbeats 1000000
set_option autoImplicit false
/-! V3: the operations on values -/
namespace VE
open PySem PySem.Spec PyProof.Rows L2

theorem lim_le {n : Nat} (h : n ≤ lim) : n ≤ sizeLine := Nat.le_trans h (by decide)
theorem lim_lt {n : Nat} (h : n < lim) : n < sizeLine := Nat.lt_of_lt_of_le h (by decide)
/-! ### data as the library reads them -/
section
variable {K : PySem.W.Frag} {π : Pi} {H : Hp}
theorem dps_of (n : Nat) (ih : ∀ (d : D) (v : V), D.fine n d = true → RD K π H d v → Dp K H v d.py ∧ d.py.canLay0 = true ∧ d.py.depth ≤ n) : ∀ (ds : List D) (vs : List V), ds.all (D.fine n) = true → RDs K π H ds vs → DpAll K H vs (D.pys ds) ∧ PyData.canLayAll0 (D.pys ds) = true ∧ PyData.depthAll (D.pys ds) ≤ n
  | [], _, _, h => by cases h; exact ⟨.nil, rfl, Nat.zero_le _⟩
  | d :: ds, _, hf, h => by
    cases h with
    | cons h1 h2 =>
      rw [List.all_cons, Bool.and_eq_true] at hf
      obtain ⟨a1, a2, a3⟩ := ih d _ hf.1 h1
      obtain ⟨b1, b2, b3⟩ := dps_of n ih ds _ hf.2 h2
      refine ⟨.cons a1 b1, ?_, ?_⟩
      · show (d.py.canLay0 && PyData.canLayAll0 (D.pys ds)) = true
        rw [a2, b2]; rfl
      · show max d.py.depth (PyData.depthAll (D.pys ds)) ≤ n
        exact Nat.max_le.mpr ⟨a3, b3⟩
theorem dp_of : ∀ (n : Nat) (d : D) (v : V), D.fine n d = true → RD K π H d v → Dp K H v d.py ∧ d.py.canLay0 = true ∧ d.py.depth ≤ n
  | 0, _, _, h, _ => by simp [D.fine] at h
  | n + 1, d, v, h, r => by
    cases r with
    | non => exact ⟨.non, rfl, Nat.zero_le _⟩
    | bl b => exact ⟨.bl b, rfl, Nat.zero_le _⟩
    | int i => exact ⟨.int i, rfl, Nat.zero_le _⟩
    | str x => exact ⟨.str x, h, Nat.zero_le _⟩
    | @tup a vs ds ht hd =>
      obtain ⟨a1, a2, a3⟩ := dps_of n (dp_of n) ds vs h hd
      exact ⟨.tup ht.sq a1, a2, Nat.succ_le_succ a3⟩
    | @lst a vs ds ht hd =>
      obtain ⟨a1, a2, a3⟩ := dps_of n (dp_of n) ds vs h hd
      exact ⟨.lst ht.sq a1, a2, Nat.succ_le_succ a3⟩
    | @scr a vs ds ht hd =>
      obtain ⟨a1, a2, a3⟩ := dps_of n (dp_of n) ds vs h hd
      exact ⟨.lst ht.sq a1, a2, Nat.succ_le_succ a3⟩
    | ref _ => simp [D.fine] at h
    | ctp _ _ => simp [D.fine] at h
theorem dp_fin {d : D} {v : V} (h : finD d = true) (r : RD K π H d v) : Dp K H v d.py ∧ SeqAt.shaped d.py = true := by
  obtain ⟨a1, a2, a3⟩ := dp_of 30 d v h r
  refine ⟨a1, ?_⟩
  unfold SeqAt.shaped
  rw [a2, decide_eq_true (Nat.le_trans a3 (by decide))]; rfl
end
theorem pys_map : ∀ ds : List D, D.pys ds = ds.map D.py
  | [] => rfl
  | d :: ds => by rw [List.map_cons, ← pys_map ds]; rfl
theorem eqvs_py (n : Nat) (ih : ∀ (a b : D), D.fine n a = true → D.fine n b = true → PyData.eqv a.py b.py = D.eqv a b) : ∀ (xs ys : List D), xs.all (D.fine n) = true → ys.all (D.fine n) = true → PyData.eqvAll (D.pys xs) (D.pys ys) = D.eqvs xs ys
  | [], [], _, _ => rfl
  | [], _ :: _, _, _ => rfl
  | _ :: _, [], _, _ => rfl
  | x :: xs, y :: ys, h1, h2 => by
    rw [List.all_cons, Bool.and_eq_true] at h1 h2
    show (PyData.eqv x.py y.py && PyData.eqvAll (D.pys xs) (D.pys ys)) = (D.eqv x y && D.eqvs xs ys)
    rw [ih x y h1.1 h2.1, eqvs_py n ih xs ys h1.2 h2.2]
theorem eqv_of : ∀ (n : Nat) (a b : D), D.fine n a = true → D.fine n b = true → PyData.eqv a.py b.py = D.eqv a b
  | 0, _, _, h, _ => by simp [D.fine] at h
  | n + 1, a, b, h1, h2 => by
    have key := eqvs_py n (eqv_of n)
    cases a <;> cases b <;> first
      | rfl
      | exact key _ _ h1 h2
      | (simp [D.fine] at h1; done)
      | (simp [D.fine] at h2; done)
theorem eqv_fin {a b : D} (h1 : finD a = true) (h2 : finD b = true) : PyData.eqv a.py b.py = D.eqv a b := eqv_of 30 a b h1 h2

/-! ### operators -/
section
variable {X : Cx} {S : Sta} {κ : Kx} {k : Nat} (G : Good X S κ k)
theorem okB_post {π : Pi} {H : Hp} {hs : HS} {Q : VK} {E : XK} {o : Option Bool} (p : post X.K S π H Q E (okB o hs)) (rel : Rel X.K S.T π H hs) : ∃ c, o = some c ∧ Q (.bl c) H := by
  cases o with
  | none => exact p.elim
  | some c => exact ⟨c, rfl, p π H _ (.refl _ _) rel (.bl c)⟩
def rAddA (K : PySem.W.Frag) : R2 := fun x y H Q => rI0 (fun i j => .int (i + j)) x y H Q ∨ (∃ i j, x = .str i ∧ y = .str j ∧ i.length + j.length ≤ sizeLine ∧ Q (.str (i ++ j)) H) ∨ rCatA K x y H Q ∨ rCat x y H Q
theorem or_add : OpR X (binaryOp .Add) (rAddA X.K) := op_add.or (op_add_str.or (op_catA.or op_cat))
omit G in
theorem lstOf_rd {K : PySem.W.Frag} {T : List NdefX.NTab} {π : Pi} {H : Hp} {hs : HS} {d : D} {v : V} {xs : List D} (rel : Rel K T π H hs) (r : RD K π H d v) (e : lstOf d hs = some xs) : ∃ a vs, v = .ref a ∧ H a = some (.lst vs) ∧ RDs K π H xs vs := by
  cases r with
  | @lst a vs ds h1 h2 => cases e; exact ⟨a, vs, rfl, h1.2, h2⟩
  | @ref a i h1 =>
    dsimp only [lstOf] at e
    cases hi : hs[i]? with
    | none => rw [hi] at e; cases e
    | some o =>
      rw [hi] at e
      cases o with
      | lst ys =>
        cases e
        obtain ⟨vs, e1, r1⟩ := rel.obj i _ a hi h1
        exact ⟨a, vs, rfl, e1, r1⟩
      | _ => cases e
  | _ => cases e
include G
theorem r2_add : R2D X S (opBin .add) (rAddA X.K) := by
  intro π H hs x y v w Q E rel r1 r2 p
  have hl : post X.K S π H Q E (addL x y hs) → rAddA X.K v w H Q := fun p => by
    unfold addL at p
    split at p
    · rename_i xs ys e1 e2
      split at p
      · rename_i hl
        obtain ⟨a, vs, rfl, h1, h2⟩ := lstOf_rd rel r1 e1
        obtain ⟨b, ws, rfl, h3, h4⟩ := lstOf_rd rel r2 e2
        rw [h2.length, h4.length] at hl
        exact .inr (.inr (.inr ⟨_, _, vs, ws, rfl, rfl, h1, h3, lim_le hl, post_newL G p rel (h2.append h4)⟩))
      · exact p.elim
    · exact p.elim
  cases r1 <;> cases r2 <;> try exact hl p
  · exact .inl ⟨_, _, rfl, rfl, p π H _ (.refl _ _) rel (.int _)⟩
  · rename_i x y
    dsimp only [opBin] at p
    split at p
    · rename_i hl
      exact .inr (.inl ⟨_, _, rfl, rfl, lim_le hl, p π H _ (.refl _ _) rel (.str _)⟩)
    · exact p.elim
  · rename_i a vs ds h1 h2 b ws es h3 h4
    dsimp only [opBin] at p
    split at p
    · rename_i hl
      rw [h2.length, h4.length] at hl
      refine .inr (.inr (.inl ⟨_, _, vs, ws, rfl, rfl, h1.sq, h3.sq, lim_le hl, fun e => ?_, fun e1 e2 => ?_, fun _ _ => post_newT G p rel (h2.append h4)⟩))
      · subst e
        cases h2
        exact p π H _ (.refl _ _) rel (.tup h3 h4)
      · subst e2
        cases h4
        rw [List.append_nil] at p
        exact p π H _ (.refl _ _) rel (.tup h1 h2)
    · exact p.elim
theorem r2_sub : R2D X S (opBin .sub) (rI0 fun i j => .int (i - j)) := by
  intro π H hs x y v w Q E rel r1 r2 p
  cases r1 <;> cases r2 <;> try exact p.elim
  exact ⟨_, _, rfl, rfl, p π H _ (.refl _ _) rel (.int _)⟩
omit G in
theorem RDs.rep {K : PySem.W.Frag} {π : Pi} {H : Hp} {ds : List D} {vs : List V} (h : RDs K π H ds vs) : ∀ n, RDs K π H (List.replicate n ds).flatten (List.replicate n vs).flatten
  | 0 => .nil
  | n + 1 => by
    rw [List.replicate_succ, List.replicate_succ, List.flatten_cons, List.flatten_cons]
    exact h.append (RDs.rep h n)
def rMulA (K : PySem.W.Frag) : R2 := fun x y H Q => rI CMul (fun i j => .int (i * j)) x y H Q ∨ rRepT K x y H Q ∨ rRep x y H Q
omit G in
theorem or_mul : OpR X (binaryOp .Mult) (rMulA X.K) := op_mul.or (op_repT.or op_rep)
theorem r2_mul : R2D X S (opBin .mul) (rMulA X.K) := by
  intro π H hs x y v w Q E rel r1 r2 p
  cases r1 <;> cases r2 <;> try exact p.elim
  · rename_i i j
    dsimp only [opBin] at p
    split at p
    · rename_i hl
      refine .inl ⟨_, _, rfl, rfl, ?_, p π H _ (.refl _ _) rel (.int _)⟩
      unfold small at hl
      rw [Bool.or_eq_true, decide_eq_true_eq, decide_eq_true_eq] at hl
      exact hl
    · exact p.elim
  · rename_i a vs ds h1 h2 j
    dsimp only [opBin] at p
    split at p
    · rename_i hl
      rw [h2.length] at hl
      obtain ⟨l0, l1, l2, l3, l4⟩ := hl
      exact .inr (.inl ⟨_, _, vs, rfl, rfl, h1.sq, fun e => l0 (by subst e; rfl), l1, l2, l3, post_newT G p rel (h2.rep _)⟩)
    · exact p.elim
  · rename_i a vs ds h1 h2 j
    dsimp only [opBin] at p
    split at p
    · rename_i hl
      rw [h2.length] at hl
      obtain ⟨l1, l2, l3⟩ := hl
      have e0 : ((lim : Nat) : Int) = 1000000 := rfl
      exact .inr (.inr ⟨_, _, vs, rfl, rfl, h1.2, by omega, by omega, lim_le l3, post_newL G p rel (h2.rep _)⟩)
    · exact p.elim
theorem r2_fdiv : R2D X S (opBin .fdiv) (rI CDivN fun i j => .int (i.fdiv j)) := by
  intro π H hs x y v w Q E rel r1 r2 p
  cases r1 <;> cases r2 <;> try exact p.elim
  dsimp only [opBin] at p
  split at p
  · rename_i hl
    exact ⟨_, _, rfl, rfl, hl, p π H _ (.refl _ _) rel (.int _)⟩
  · exact p.elim
theorem r2_mod : R2D X S (opBin .mod) (rI (fun _ j => j ≠ 0) fun i j => .int (i.fmod j)) := by
  intro π H hs x y v w Q E rel r1 r2 p
  cases r1 <;> cases r2 <;> try exact p.elim
  dsimp only [opBin] at p
  split at p
  · rename_i hl
    exact ⟨_, _, rfl, rfl, hl, p π H _ (.refl _ _) rel (.int _)⟩
  · exact p.elim
theorem r2_pow : R2D X S (opBin .pow) (rI CPow fun i j => .int (i ^ j.toNat)) := by
  intro π H hs x y v w Q E rel r1 r2 p
  cases r1 <;> cases r2 <;> try exact p.elim
  dsimp only [opBin] at p
  split at p
  · rename_i hl
    exact ⟨_, _, rfl, rfl, hl, p π H _ (.refl _ _) rel (.int _)⟩
  · exact p.elim
end
end VE
set_option Elab.async false
set_option linter.all false
set_option maxRecDepth 100000
set_option maxHeartbeats 1000000
set_option autoImplicit false
/-! V4: comparisons, subscripts, slices -/
namespace VE
open PySem PySem.Spec PyProof.Rows L2
section
variable {X : Cx} {S : Sta} {κ : Kx} {k : Nat} (G : Good X S κ k)
/-- what a reference to a list stands for -/
theorem RD.deref {π : Pi} {H : Hp} {hs : HS} {d : D} {v : V} (rel : Rel X.K S.T π H hs) (r : RD X.K π H d v) :
    RD X.K π H d v ∧ ∀ i xs, d = .ref i → hs[i]? = some (.lst xs) → ∃ a vs, v = .ref a ∧ H a = some (.lst vs) ∧ RDs X.K π H xs vs := by
  refine ⟨r, fun i xs e hi => ?_⟩
  subst e
  cases r with
  | ref h =>
    obtain ⟨vs, e, r⟩ := rel.obj i _ _ hi h
    exact ⟨_, vs, rfl, e, r⟩
/-- data of the value, a reference taken for its list -/
theorem dp_deref {π : Pi} {H : Hp} {hs : HS} {d : D} {v : V} (rel : Rel X.K S.T π H hs) (r : RD X.K π H d v) (hf : finD (deref d hs) = true) : Dp X.K H v (deref d hs).py ∧ SeqAt.shaped (deref d hs).py = true := by
  cases d with
  | ref i =>
    cases e : hs[i]? with
    | none => have : deref (.ref i) hs = .ref i := by simp [deref, e]
              rw [this] at hf; simp [finD, D.fine] at hf
    | some o =>
      cases o with
      | lst xs =>
        have e2 : deref (.ref i) hs = .lst xs := by simp [deref, e]
        rw [e2] at hf ⊢
        obtain ⟨a, vs, rfl, ha, rs⟩ := (RD.deref rel r).2 i xs rfl e
        obtain ⟨a1, a2, a3⟩ := dps_of 29 (dp_of 29) xs vs hf rs
        refine ⟨.lst (.of ha) a1, ?_⟩
        unfold SeqAt.shaped
        show (PyData.canLayAll0 (D.pys xs) && decide (PyData.depthAll (D.pys xs) + 1 ≤ 64)) = true
        rw [a2, decide_eq_true (by omega)]; rfl
      | _ => have : deref (.ref i) hs = .ref i := by simp [deref, e]
             rw [this] at hf; simp [finD, D.fine] at hf
  | _ => exact dp_fin hf r
/-- the list or tuple a value stands for -/
theorem seq_of {π : Pi} {H : Hp} {hs : HS} {d : D} {v : V} {xs : List D} (rel : Rel X.K S.T π H hs) (r : RD X.K π H d v) (e : seqOf d hs = some xs) :
    ∃ a vs, v = .ref a ∧ RDs X.K π H xs vs ∧ ((isTupD d = true ∧ SqT X.K H a vs ∧ (isCtp d = false → IsT X.K π H a vs)) ∨ (isTupD d = false ∧ SqL X.K H a vs)) := by
  cases d with
  | lst ys => cases e; cases r with | lst h1 h2 => exact ⟨_, _, rfl, h2, .inr ⟨rfl, h1.sq⟩⟩
  | tup ys => cases e; cases r with | tup h1 h2 => exact ⟨_, _, rfl, h2, .inl ⟨rfl, h1.sq, fun _ => h1⟩⟩
  | ctp ys => cases e; cases r with | ctp h1 h2 => exact ⟨_, _, rfl, h2, .inl ⟨rfl, h1.sq, fun z => by cases z⟩⟩
  | scr ys => cases e; cases r with | scr h1 h2 => exact ⟨_, _, rfl, h2, .inr ⟨rfl, h1.sq⟩⟩
  | ref i =>
    cases q : hs[i]? with
    | none => simp [seqOf, q] at e
    | some o =>
      cases o with
      | lst ys =>
        simp [seqOf, q] at e
        subst e
        obtain ⟨a, vs, h1, h2, h3⟩ := (RD.deref rel r).2 i _ rfl q
        exact ⟨a, vs, h1, h3, .inr ⟨rfl, .of h2⟩⟩
      | _ => simp [seqOf, q] at e
  | _ => cases e
def rEqA (K : PySem.W.Frag) : R2 := fun x y H Q => rEq x y H Q ∨ rEqD K x y H Q
def rNeA (K : PySem.W.Frag) : R2 := fun x y H Q => rNe x y H Q ∨ rNeD K x y H Q
theorem eq_cases {π : Pi} {H : Hp} {hs : HS} {x y : D} {v w : V} {c : Bool} (rel : Rel X.K S.T π H hs) (r1 : RD X.K π H x v) (r2 : RD X.K π H y w) (e : eqOf (deref x hs) (deref y hs) = some c) :
    (scal v w = true ∧ decide (v = w) = c) ∨ (∃ p q, Dp X.K H v p ∧ Dp X.K H w q ∧ SeqAt.shaped p = true ∧ SeqAt.shaped q = true ∧ PyData.eqv p q = c) := by
  have deep : finD (deref x hs) = true → finD (deref y hs) = true → D.eqv (deref x hs) (deref y hs) = c → (scal v w = true ∧ decide (v = w) = c) ∨ (∃ p q, Dp X.K H v p ∧ Dp X.K H w q ∧ SeqAt.shaped p = true ∧ SeqAt.shaped q = true ∧ PyData.eqv p q = c) := fun h1 h2 h3 => by
    obtain ⟨a1, a2⟩ := dp_deref rel r1 h1
    obtain ⟨b1, b2⟩ := dp_deref rel r2 h2
    exact .inr ⟨_, _, a1, b1, a2, b2, by rw [eqv_fin h1 h2]; exact h3⟩
  have deep' : (if finD (deref x hs) && finD (deref y hs) then some (D.eqv (deref x hs) (deref y hs)) else none) = some c → (scal v w = true ∧ decide (v = w) = c) ∨ (∃ p q, Dp X.K H v p ∧ Dp X.K H w q ∧ SeqAt.shaped p = true ∧ SeqAt.shaped q = true ∧ PyData.eqv p q = c) := fun h => by
    split at h
    · rename_i hh
      rw [Bool.and_eq_true] at hh
      exact deep hh.1 hh.2 (Option.some.inj h)
    · cases h
  by_cases hx : (∃ i, x = .int i) ∧ ∃ i, y = .int i
  · obtain ⟨⟨i, rfl⟩, ⟨j, rfl⟩⟩ := hx
    cases r1; cases r2
    refine .inl ⟨rfl, ?_⟩
    have : some (decide (i = j)) = some c := e
    rw [← Option.some.inj this]; simp
  by_cases hx : (∃ i, x = .str i) ∧ ∃ i, y = .str i
  · obtain ⟨⟨i, rfl⟩, ⟨j, rfl⟩⟩ := hx
    cases r1; cases r2
    refine .inl ⟨rfl, ?_⟩
    have : some (decide (i = j)) = some c := e
    rw [← Option.some.inj this]; simp
  by_cases hx : (∃ i, x = .bl i) ∧ ∃ i, y = .bl i
  · obtain ⟨⟨i, rfl⟩, ⟨j, rfl⟩⟩ := hx
    cases r1; cases r2
    refine .inl ⟨rfl, ?_⟩
    have : some (decide (i = j)) = some c := e
    rw [← Option.some.inj this]; simp
  by_cases hx : x = .non ∧ y = .non
  · obtain ⟨rfl, rfl⟩ := hx
    cases r1; cases r2
    refine .inl ⟨rfl, ?_⟩
    have : some true = some c := e
    rw [← Option.some.inj this]; simp
  refine deep' ?_
  rw [← e]
  unfold eqOf
  have hd : ∀ d : D, (∃ i, d = .ref i) ∨ deref d hs = d := fun d => by cases d <;> simp [deref]
  have hdr : ∀ i, (∃ xs, deref (.ref i) hs = .lst xs) ∨ deref (.ref i) hs = .ref i := fun i => by
    cases q : hs[i]? with
    | none => exact .inr (by simp [deref, q])
    | some o => cases o with
      | lst xs => exact .inl ⟨xs, by simp [deref, q]⟩
      | _ => exact .inr (by simp [deref, q])
  have fin : ∀ a b : D, ¬ ((∃ i, a = .int i) ∧ ∃ i, b = .int i) → ¬ ((∃ i, a = .str i) ∧ ∃ i, b = .str i) → ¬ ((∃ i, a = .bl i) ∧ ∃ i, b = .bl i) → ¬ (a = .non ∧ b = .non) →
      (if finD a && finD b then some (D.eqv a b) else none) = (match a, b with | .int i, .int j => some (decide (i = j)) | .str x, .str y => some (decide (x = y)) | .bl x, .bl y => some (decide (x = y)) | .non, .non => some true | a, b => if finD a && finD b then some (D.eqv a b) else none) := fun a b h1 h2 h3 h4 => by
    cases a <;> cases b <;> first
      | rfl
      | exact absurd ⟨⟨_, rfl⟩, ⟨_, rfl⟩⟩ h1
      | exact absurd ⟨⟨_, rfl⟩, ⟨_, rfl⟩⟩ h2
      | exact absurd ⟨⟨_, rfl⟩, ⟨_, rfl⟩⟩ h3
      | exact absurd ⟨rfl, rfl⟩ h4
  have kind : ∀ d : D, (∃ i, deref d hs = .int i) → ∃ i, d = .int i := fun d ⟨i, h⟩ => by
    rcases hd d with ⟨j, rfl⟩ | q
    · rcases hdr j with ⟨xs, q⟩ | q <;> rw [q] at h <;> cases h
    · exact ⟨i, by rw [← h, q]⟩
  have kinds : ∀ d : D, (∃ i, deref d hs = .str i) → ∃ i, d = .str i := fun d ⟨i, h⟩ => by
    rcases hd d with ⟨j, rfl⟩ | q
    · rcases hdr j with ⟨xs, q⟩ | q <;> rw [q] at h <;> cases h
    · exact ⟨i, by rw [← h, q]⟩
  have kindb : ∀ d : D, (∃ i, deref d hs = .bl i) → ∃ i, d = .bl i := fun d ⟨i, h⟩ => by
    rcases hd d with ⟨j, rfl⟩ | q
    · rcases hdr j with ⟨xs, q⟩ | q <;> rw [q] at h <;> cases h
    · exact ⟨i, by rw [← h, q]⟩
  have kindn : ∀ d : D, deref d hs = .non → d = .non := fun d h => by
    rcases hd d with ⟨j, rfl⟩ | q
    · rcases hdr j with ⟨xs, q⟩ | q <;> rw [q] at h <;> cases h
    · rw [← h, q]
  rename_i h1 h2 h3
  exact fin _ _ (fun z => h1 ⟨kind _ z.1, kind _ z.2⟩) (fun z => h2 ⟨kinds _ z.1, kinds _ z.2⟩) (fun z => h3 ⟨kindb _ z.1, kindb _ z.2⟩) (fun z => hx ⟨kindn _ z.1, kindn _ z.2⟩)
include G
theorem r2_eq : R2D X S (opCmp .eq) (rEqA X.K) := by
  intro π H hs x y v w Q E rel r1 r2 p
  obtain ⟨c, e, q⟩ := okB_post (X := X) p rel
  rcases eq_cases rel r1 r2 e with ⟨h1, h2⟩ | ⟨p, q', h1, h2, h3, h4, h5⟩
  · exact .inl ⟨h1, by rw [h2]; exact q⟩
  · exact .inr ⟨p, q', h1, h2, h3, h4, by rw [h5]; exact q⟩
theorem r2_ne : R2D X S (opCmp .ne) (rNeA X.K) := by
  intro π H hs x y v w Q E rel r1 r2 p
  obtain ⟨c, e, q⟩ := okB_post (X := X) p rel
  cases e' : eqOf (deref x hs) (deref y hs) with
  | none => rw [e'] at e; cases e
  | some c' =>
    rw [e'] at e
    have ec : (!c') = c := Option.some.inj e
    rcases eq_cases rel r1 r2 e' with ⟨h1, h2⟩ | ⟨p, q', h1, h2, h3, h4, h5⟩
    · exact .inl ⟨h1, by rw [h2, ec]; exact q⟩
    · exact .inr ⟨p, q', h1, h2, h3, h4, by rw [h5, ec]; exact q⟩
theorem or_eq : OpR X (compareOp .Eq) (rEqA X.K) := op_eq.or (op_eqD G.room.units)
theorem or_ne : OpR X (compareOp .NotEq) (rNeA X.K) := op_ne.or (op_neD G.room.units)
/-! order -/
omit G in
/-- a < b of data, by values -/
def rOrd (K : PySem.W.Frag) (f : PyData → PyData → Bool) : R2 := fun x y H Q => ∃ d e, Dp K H x d ∧ Dp K H y e ∧ PySem.W.alike d e = true ∧ d ≠ .none ∧ d.depth ≤ 64 ∧ Q (.bl (f d e)) H
theorem or_ltD : OpR X (compareOp .Lt) (rOrd X.K fun d e => PySem.W.dataLt d e) := by
  intro pins s σ H x y v u Q I rx ry ⟨d, e, hd, he, al, hn, hdp, q⟩
  obtain ⟨as, ra⟩ := Dp.reads I d x v hd rx
  obtain ⟨bs, rb⟩ := Dp.reads I e y u he ry
  exact PySem.W.lt_data ra rb al hn (by have := G.room.units; omega) ⟨.bl _, H, I, rfl, q⟩
theorem or_gtD : OpR X (compareOp .Gt) (rOrd X.K fun d e => PySem.W.dataLt e d) := by
  intro pins s σ H x y v u Q I rx ry ⟨d, e, hd, he, al, hn, hdp, q⟩
  obtain ⟨as, ra⟩ := Dp.reads I d x v hd rx
  obtain ⟨bs, rb⟩ := Dp.reads I e y u he ry
  exact PySem.W.gt_data ra rb al hn (by have := G.room.units; omega) ⟨.bl _, H, I, rfl, q⟩
theorem or_leD : OpR X (compareOp .LtE) (rOrd X.K fun d e => !PySem.W.dataLt e d) := by
  intro pins s σ H x y v u Q I rx ry ⟨d, e, hd, he, al, hn, hdp, q⟩
  obtain ⟨as, ra⟩ := Dp.reads I d x v hd rx
  obtain ⟨bs, rb⟩ := Dp.reads I e y u he ry
  exact PySem.W.le_data ra rb al hn (by have := G.room.units; omega) ⟨.bl _, H, I, rfl, q⟩
theorem or_geD : OpR X (compareOp .GtE) (rOrd X.K fun d e => !PySem.W.dataLt d e) := by
  intro pins s σ H x y v u Q I rx ry ⟨d, e, hd, he, al, hn, hdp, q⟩
  obtain ⟨as, ra⟩ := Dp.reads I d x v hd rx
  obtain ⟨bs, rb⟩ := Dp.reads I e y u he ry
  exact PySem.W.ge_data ra rb al hn (by have := G.room.units; omega) ⟨.bl _, H, I, rfl, q⟩
omit G
/-- the three ways two values are compared -/
theorem ord_cases {π : Pi} {H : Hp} {x y : D} {v w : V} (r1 : RD X.K π H x v) (r2 : RD X.K π H y w) (h : D.alike x y = true) :
    (∃ i j, x = .int i ∧ y = .int j ∧ v = .int i ∧ w = .int j) ∨ (∃ i j, x = .str i ∧ y = .str j ∧ v = .str i ∧ w = .str j) ∨
    (Dp X.K H v x.py ∧ Dp X.K H w y.py ∧ PySem.W.alike x.py y.py = true ∧ x.py ≠ .none ∧ y.py ≠ .none ∧ x.py.depth ≤ 64 ∧ y.py.depth ≤ 64 ∧ D.lt x y = PySem.W.dataLt x.py y.py ∧ D.lt y x = PySem.W.dataLt y.py x.py) := by
  cases x <;> cases y <;> try (simp [D.alike] at h; done)
  · cases r1; cases r2; exact .inl ⟨_, _, rfl, rfl, rfl, rfl⟩
  · cases r1; cases r2; exact .inr (.inl ⟨_, _, rfl, rfl, rfl, rfl⟩)
  · rename_i xs ys
    unfold D.alike at h
    rw [Bool.and_eq_true, Bool.and_eq_true] at h
    obtain ⟨a1, a2⟩ := dp_fin h.1.1 r1
    obtain ⟨b1, b2⟩ := dp_fin h.1.2 r2
    exact .inr (.inr ⟨a1, b1, h.2, (fun z => by cases z), (fun z => by cases z), SeqAt.depth_of_shaped a2, SeqAt.depth_of_shaped b2, rfl, rfl⟩)
theorem alike_swap {x y : PyData} (h : PySem.W.alike x y = true) : PySem.W.alike y x = true := by rw [PySem.W.alike_comm]; exact h
def rLtA (K : PySem.W.Frag) : R2 := fun x y H Q => rI0 (fun i j => .bl (decide (i < j))) x y H Q ∨ (∃ i j, x = .str i ∧ y = .str j ∧ Q (.bl (decide (i.cps.toList < j.cps.toList))) H) ∨ rOrd K (fun d e => PySem.W.dataLt d e) x y H Q
def rGtA (K : PySem.W.Frag) : R2 := fun x y H Q => rI0 (fun i j => .bl (decide (j < i))) x y H Q ∨ (∃ i j, x = .str i ∧ y = .str j ∧ Q (.bl (decide (j.cps.toList < i.cps.toList))) H) ∨ rOrd K (fun d e => PySem.W.dataLt e d) x y H Q
def rLeA (K : PySem.W.Frag) : R2 := fun x y H Q => rI0 (fun i j => .bl (decide (i ≤ j))) x y H Q ∨ (∃ i j, x = .str i ∧ y = .str j ∧ Q (.bl (!decide (j.cps.toList < i.cps.toList))) H) ∨ rOrd K (fun d e => !PySem.W.dataLt e d) x y H Q
def rGeA (K : PySem.W.Frag) : R2 := fun x y H Q => rI0 (fun i j => .bl (decide (j ≤ i))) x y H Q ∨ (∃ i j, x = .str i ∧ y = .str j ∧ Q (.bl (!decide (i.cps.toList < j.cps.toList))) H) ∨ rOrd K (fun d e => !PySem.W.dataLt d e) x y H Q
theorem not_lt_le (i j : Int) : (!decide (j < i)) = decide (i ≤ j) := by
  by_cases h : i ≤ j
  · rw [decide_eq_true h, decide_eq_false (by omega)]; rfl
  · rw [decide_eq_false h, decide_eq_true (by omega)]; rfl
include G
theorem or_lt : OpR X (compareOp .Lt) (rLtA X.K) := op_lt.or (op_lt_str.or (or_ltD G))
theorem or_gt : OpR X (compareOp .Gt) (rGtA X.K) := op_gt.or (op_gt_str.or (or_gtD G))
theorem or_le : OpR X (compareOp .LtE) (rLeA X.K) := op_le.or (op_le_str.or (or_leD G))
theorem or_ge : OpR X (compareOp .GtE) (rGeA X.K) := op_ge.or (op_ge_str.or (or_geD G))
theorem r2_lt : R2D X S (opCmp .lt) (rLtA X.K) := by
  intro π H hs x y v w Q E rel r1 r2 p
  dsimp only [opCmp] at p
  split at p
  · rename_i h
    have q := p π H _ (.refl _ _) rel (.bl _)
    rcases ord_cases r1 r2 h with ⟨i, j, rfl, rfl, rfl, rfl⟩ | ⟨i, j, rfl, rfl, rfl, rfl⟩ | ⟨a1, a2, a3, a4, a5, a6, a7, a8, a9⟩
    · exact .inl ⟨_, _, rfl, rfl, q⟩
    · exact .inr (.inl ⟨_, _, rfl, rfl, q⟩)
    · rw [a8] at q
      exact .inr (.inr ⟨_, _, a1, a2, a3, a4, a6, q⟩)
  · exact p.elim
theorem r2_gt : R2D X S (opCmp .gt) (rGtA X.K) := by
  intro π H hs x y v w Q E rel r1 r2 p
  dsimp only [opCmp] at p
  split at p
  · rename_i h
    have q := p π H _ (.refl _ _) rel (.bl _)
    rcases ord_cases r1 r2 h with ⟨i, j, rfl, rfl, rfl, rfl⟩ | ⟨i, j, rfl, rfl, rfl, rfl⟩ | ⟨a1, a2, a3, a4, a5, a6, a7, a8, a9⟩
    · exact .inl ⟨_, _, rfl, rfl, q⟩
    · exact .inr (.inl ⟨_, _, rfl, rfl, q⟩)
    · rw [a9] at q
      exact .inr (.inr ⟨_, _, a1, a2, a3, a4, a6, q⟩)
  · exact p.elim
theorem r2_le : R2D X S (opCmp .le) (rLeA X.K) := by
  intro π H hs x y v w Q E rel r1 r2 p
  dsimp only [opCmp] at p
  split at p
  · rename_i h
    have q := p π H _ (.refl _ _) rel (.bl _)
    rcases ord_cases r1 r2 h with ⟨i, j, rfl, rfl, rfl, rfl⟩ | ⟨i, j, rfl, rfl, rfl, rfl⟩ | ⟨a1, a2, a3, a4, a5, a6, a7, a8, a9⟩
    · exact .inl ⟨_, _, rfl, rfl, by show Q (.bl (decide (i ≤ j))) H; rw [← not_lt_le]; exact q⟩
    · exact .inr (.inl ⟨_, _, rfl, rfl, q⟩)
    · rw [a9] at q
      exact .inr (.inr ⟨_, _, a1, a2, a3, a4, a6, q⟩)
  · exact p.elim
theorem r2_ge : R2D X S (opCmp .ge) (rGeA X.K) := by
  intro π H hs x y v w Q E rel r1 r2 p
  dsimp only [opCmp] at p
  split at p
  · rename_i h
    have q := p π H _ (.refl _ _) rel (.bl _)
    rcases ord_cases r1 r2 h with ⟨i, j, rfl, rfl, rfl, rfl⟩ | ⟨i, j, rfl, rfl, rfl, rfl⟩ | ⟨a1, a2, a3, a4, a5, a6, a7, a8, a9⟩
    · exact .inl ⟨_, _, rfl, rfl, by show Q (.bl (decide (j ≤ i))) H; rw [← not_lt_le]; exact q⟩
    · exact .inr (.inl ⟨_, _, rfl, rfl, q⟩)
    · rw [a8] at q
      exact .inr (.inr ⟨_, _, a1, a2, a3, a4, a6, q⟩)
  · exact p.elim
/-! is -/
theorem r2_is : R2D X S (opCmp .is) (fun x y H Q => ∃ a b, x = .bl a ∧ y = .bl b ∧ Q (.bl (decide (a = b))) H) := by
  intro π H hs x y v w Q E rel r1 r2 p
  cases r1 <;> cases r2 <;> try exact p.elim
  exact ⟨_, _, rfl, rfl, p π H _ (.refl _ _) rel (.bl _)⟩
theorem r2_isnt : R2D X S (opCmp .isnt) (fun x y H Q => ∃ a b, x = .bl a ∧ y = .bl b ∧ Q (.bl (!decide (a = b))) H) := by
  intro π H hs x y v w Q E rel r1 r2 p
  cases r1 <;> cases r2 <;> try exact p.elim
  exact ⟨_, _, rfl, rfl, p π H _ (.refl _ _) rel (.bl _)⟩
theorem dec_non {π : Pi} {H : Hp} {d : D} {v : V} (r : RD X.K π H d v) : decide (v = .non) = isNon d := by
  cases r <;> simp [isNon]
end
end VE
set_option Elab.async false
set_option linter.all false
set_option maxRecDepth 100000
set_option maxHeartbeats 1000000
set_option autoImplicit false
/-! V5: in, subscripts, slices, built-ins, methods -/
namespace VE
open PySem PySem.Spec PyProof.Rows L2
section
variable {X : Cx} {S : Sta} {κ : Kx} {k : Nat} (G : Good X S κ k)
theorem flat_V {π : Pi} {H : Hp} {d : D} {v : V} (r : RD X.K π H d v) (h : D.flat d = true) : flatV v = true := by
  cases r <;> first | rfl | (simp [D.flat] at h; done)
theorem flat_eqv {π : Pi} {H : Hp} {d e : D} {v w : V} (r : RD X.K π H d v) (q : RD X.K π H e w) (h : D.flat d = true) (h' : D.flat e = true) : eqV v w = D.eqv d e := by
  cases r <;> cases q <;> first | rfl | (simp [D.flat] at h; done) | (simp [D.flat] at h'; done)
theorem flat_all {π : Pi} {H : Hp} : ∀ {ds : List D} {vs : List V}, RDs X.K π H ds vs → ds.all D.flat = true → vs.all flatV = true
  | [], _, r, _ => by cases r; rfl
  | d :: ds, _, r, h => by
    cases r with
    | cons h1 h2 =>
      rw [List.all_cons, Bool.and_eq_true] at h ⊢
      exact ⟨flat_V h1 h.1, flat_all h2 h.2⟩
theorem in_flat {π : Pi} {H : Hp} {d : D} {v : V} (r : RD X.K π H d v) (h : D.flat d = true) : ∀ {ds : List D} {vs : List V}, RDs X.K π H ds vs → ds.all D.flat = true → inV v vs = ds.any fun z => D.eqv z d
  | [], _, q, _ => by cases q; rfl
  | e :: es, _, q, h' => by
    cases q with
    | @cons _ _ w ws h1 h2 =>
      rw [List.all_cons, Bool.and_eq_true] at h'
      show (eqV w v || inV v ws) = (D.eqv e d || es.any fun z => D.eqv z d)
      rw [in_flat r h h2 h'.2, flat_eqv h1 r h'.1 h]
theorem any_py {a : D} (h : finD a = true) : ∀ {ys : List D}, ys.all (D.fine 30) = true → ((D.pys ys).any fun z => PyData.eqv z a.py) = ys.any fun z => D.eqv z a
  | [], _ => rfl
  | y :: ys, h' => by
    rw [List.all_cons, Bool.and_eq_true] at h'
    show (PyData.eqv y.py a.py || (D.pys ys).any fun z => PyData.eqv z a.py) = (D.eqv y a || ys.any fun z => D.eqv z a)
    rw [any_py h h'.2, eqv_of 30 y a h'.1 h]
theorem fine_up : ∀ (n : Nat) (d : D), D.fine n d = true → D.fine (n + 1) d = true
  | 0, _, h => by simp [D.fine] at h
  | n + 1, d, h => by
    have key : ∀ xs : List D, xs.all (D.fine n) = true → xs.all (D.fine (n + 1)) = true := fun xs hx => List.all_eq_true.mpr fun x hm => fine_up n x (List.all_eq_true.mp hx x hm)
    cases d <;> first | exact h | exact key _ h
def rInA (K : PySem.W.Frag) : R2 := fun x y H Q => rIn K false x y H Q ∨ rInD K x y H Q ∨ ∃ i j, x = .str i ∧ y = .str j ∧ Q (.bl (!(Builtin.Str.occurrences j i 0 j.length 1).isEmpty)) H
def rNotInA (K : PySem.W.Frag) : R2 := fun x y H Q => rIn K true x y H Q ∨ rNotInD K x y H Q ∨ ∃ i j, x = .str i ∧ y = .str j ∧ Q (.bl (!(!(Builtin.Str.occurrences j i 0 j.length 1).isEmpty))) H
theorem in_cases {π : Pi} {H : Hp} {hs : HS} {x y : D} {v w : V} {ys : List D} {c : Bool} (rel : Rel X.K S.T π H hs) (r1 : RD X.K π H x v) (r2 : RD X.K π H y w) (e : seqOf y hs = some ys) (h : inOf x (isTupD y) ys = some c) :
    (∃ p xs, w = .ref p ∧ (SqL X.K H p xs ∨ SqT X.K H p xs) ∧ flatV v = true ∧ xs.all flatV = true ∧ inV v xs = c) ∨
    (∃ d ds, Dp X.K H v d ∧ Dp X.K H w (.list ds) ∧ SeqAt.shaped d = true ∧ SeqAt.shaped (.list ds) = true ∧ (ds.any fun z => PyData.eqv z d) = c) := by
  obtain ⟨a, vs, hw, rs, ht⟩ := seq_of rel r2 e
  unfold inOf at h
  split at h
  · rename_i hf
    rw [Bool.and_eq_true] at hf
    refine .inl ⟨a, vs, hw, ?_, flat_V r1 hf.1, flat_all rs hf.2, ?_⟩
    · rcases ht with ⟨_, ht, _⟩ | ⟨_, ht⟩
      · exact .inr ht
      · exact .inl ht
    · rw [in_flat r1 hf.1 rs hf.2]; exact Option.some.inj h
  · split at h
    · rename_i hf
      rw [Bool.and_eq_true, Bool.and_eq_true, Bool.not_eq_true'] at hf
      rcases ht with ⟨z, _⟩ | ⟨_, ht⟩
      · rw [z] at hf; exact absurd hf.1.1 (by simp)
      obtain ⟨a1, a2⟩ := dp_fin hf.1.2 r1
      obtain ⟨b1, b2, b3⟩ := dps_of 29 (dp_of 29) ys vs hf.2 rs
      refine .inr ⟨_, D.pys ys, a1, by rw [hw]; exact .lst ht b1, a2, ?_, ?_⟩
      · unfold SeqAt.shaped
        show (PyData.canLayAll0 (D.pys ys) && decide (PyData.depthAll (D.pys ys) + 1 ≤ 64)) = true
        rw [b2, decide_eq_true (by omega)]; rfl
      · rw [any_py hf.1.2 (List.all_eq_true.mpr fun z hz => fine_up 29 z (List.all_eq_true.mp hf.2 z hz))]
        exact Option.some.inj h
    · cases h
include G
theorem or_in : OpR X (compareOp .In) (rInA X.K) := op_in_seq.or ((op_inD (by have := G.room.un; omega)).or op_in_str)
theorem or_notin : OpR X (compareOp .NotIn) (rNotInA X.K) := op_notIn_seq.or ((op_notInD (by have := G.room.un; omega)).or op_notin_str)
theorem r2_in : R2D X S (opCmp .inn) (rInA X.K) := by
  intro π H hs x y v w Q E rel r1 r2 p
  have main : ∀ ys, seqOf y hs = some ys → post X.K S π H Q E (okB (inOf x (isTupD y) ys) hs) → rInA X.K v w H Q := fun ys e p => by
    obtain ⟨c, e2, q⟩ := okB_post (X := X) p rel
    rcases in_cases rel r1 r2 e e2 with ⟨p', xs, h1, h2, h3, h4, h5⟩ | ⟨d, ds, h1, h2, h3, h4, h5⟩
    · exact .inl ⟨p', xs, h1, h2, h3, h4, by rw [if_neg Bool.false_ne_true, h5]; exact q⟩
    · exact .inr (.inl ⟨d, ds, h1, h2, h3, h4, by rw [h5]; exact q⟩)
  have main' : post X.K S π H Q E (match seqOf y hs with | some ys => okB (inOf x (isTupD y) ys) hs | none => .bad) → rInA X.K v w H Q := fun p => by
    cases e : seqOf y hs with
    | none => rw [e] at p; exact p.elim
    | some ys => rw [e] at p; exact main ys e p
  cases y with
  | str y =>
    cases x with
    | str x => cases r1; cases r2; exact .inr (.inr ⟨_, _, rfl, rfl, p π H _ (.refl _ _) rel (.bl _)⟩)
    | _ => exact p.elim
  | _ => exact main' p
theorem r2_notin : R2D X S (opCmp .notin) (rNotInA X.K) := by
  intro π H hs x y v w Q E rel r1 r2 p
  have main : ∀ ys, seqOf y hs = some ys → post X.K S π H Q E (okB ((inOf x (isTupD y) ys).map (!·)) hs) → rNotInA X.K v w H Q := fun ys e p => by
    obtain ⟨c, e2, q⟩ := okB_post (X := X) p rel
    cases e3 : inOf x (isTupD y) ys with
    | none => rw [e3] at e2; cases e2
    | some c' =>
      rw [e3] at e2
      have ec : (!c') = c := Option.some.inj e2
      rcases in_cases rel r1 r2 e e3 with ⟨p', xs, h1, h2, h3, h4, h5⟩ | ⟨d, ds, h1, h2, h3, h4, h5⟩
      · exact .inl ⟨p', xs, h1, h2, h3, h4, by rw [if_pos rfl, h5, ec]; exact q⟩
      · exact .inr (.inl ⟨d, ds, h1, h2, h3, h4, by rw [h5, ec]; exact q⟩)
  have main' : post X.K S π H Q E (match seqOf y hs with | some ys => okB ((inOf x (isTupD y) ys).map (!·)) hs | none => .bad) → rNotInA X.K v w H Q := fun p => by
    cases e : seqOf y hs with
    | none => rw [e] at p; exact p.elim
    | some ys => rw [e] at p; exact main ys e p
  cases y with
  | str y =>
    cases x with
    | str x => cases r1; cases r2; exact .inr (.inr ⟨_, _, rfl, rfl, p π H _ (.refl _ _) rel (.bl _)⟩)
    | _ => exact p.elim
  | _ => exact main' p
/-! subscripts -/
omit G in
theorem atI_rel {K : PySem.W.Frag} {π : Pi} {H : Hp} {ds : List D} {vs : List V} {i : Int} {d : D} (r : RDs K π H ds vs) (h : atI ds i = some d) : ∃ v, atI vs i = some v ∧ RD K π H d v := by
  unfold atI at h ⊢
  rw [r.length] at h
  cases e : ixN vs.length i with
  | none => rw [e] at h; cases h
  | some j =>
    rw [e] at h
    exact r.get (show ds[j]? = some d from h)
theorem r2_ix : R2D X S opIx (rIx X.K) := by
  intro π H hs x y v w Q E rel r1 r2 p0
  have main : ∀ xs i, y = .int i → seqOf x hs = some xs → post X.K S π H Q E (match atI xs i with | some d => .ok d hs | none => .bad) → rIx X.K v w H Q := fun xs i hy e p => by
    subst hy
    cases r2
    obtain ⟨a, vs, hv, rs, ht⟩ := seq_of rel r1 e
    cases e2 : atI xs i with
    | none => rw [e2] at p; exact p.elim
    | some d =>
      rw [e2] at p
      obtain ⟨z, hz, rz⟩ := atI_rel rs e2
      have q := p π H z (.refl _ _) rel rz
      rcases ht with ⟨_, ht, _⟩ | ⟨_, ht⟩
      · exact .inr (.inl ⟨a, vs, i, z, hv, rfl, ht, hz, q⟩)
      · exact .inl ⟨a, vs, i, z, hv, rfl, ht, hz, q⟩
  cases y with
  | int i =>
    have gen : (∀ s, x ≠ .str s) → post X.K S π H Q E (opIx x (.int i) hs) → rIx X.K v w H Q := fun hx p => by
      have e : opIx x (.int i) hs = (match seqOf x hs with | some xs => (match atI xs i with | some d => .ok d hs | none => .bad) | none => .bad) := by
        cases x <;> first | rfl | exact absurd rfl (hx _)
      rw [e] at p
      cases e2 : seqOf x hs with
      | none => rw [e2] at p; exact p.elim
      | some xs => rw [e2] at p; exact main xs i rfl e2 p
    cases x with
    | str s =>
      have e : opIx (.str s) (.int i) hs = (if s.length ≤ lim then (match atI s.cps.toList i with | some c => .ok (.str ⟨#[c]⟩) hs | none => .bad) else .bad) := rfl
      have p := p0
      rw [e] at p
      split at p
      · rename_i hl
        cases r1; cases r2
        cases e2 : atI s.cps.toList i with
        | none => rw [e2] at p; exact p.elim
        | some c =>
          rw [e2] at p
          exact .inr (.inr ⟨_, _, c, rfl, rfl, lim_le hl, e2, p π H _ (.refl _ _) rel (.str _)⟩)
      · exact p.elim
    | _ => exact gen (fun _ z => by cases z) p0
  | _ => exact p0.elim
end
end VE
set_option Elab.async false
set_option linter.all false
set_option maxRecDepth 100000
set_option maxHeartbeats 1000000
set_option autoImplicit false
/-! V6: built-ins on values that the layer lacks: min, max of two data; sorted; repr -/
namespace PySem
open PySem.W
section
variable {prog : Program} {w : World} {A : Around} {E : Value → Shared → Prop} {s : Shared}
theorem call_min_twoH {a b : Value} {x y : PyData} {as bs : List Addr} {Q : Value → Shared → Prop} (hh : A.handled = none) (ra : Reads s.heap a x as) (rb : Reads s.heap b y bs) (hal : alike x y = true) (hx : x ≠ .none) (hu : A.units + 1 + max x.depth y.depth < cLine)
    (hself : alike x x = true) (hself2 : alike y y = true)
    (h : ∀ h' tk, (∀ c o, s.heap.get? c = some o → h'.get? c = some o) → Q (if dataLt y x then b else a) { s with heap := h', toks := tk }) : wpAny (model prog w) A (call (.builtin "min") [a, b]) Q E s := by
  have hname : (toString "min" ++ toString ".loop" : String) = "min.loop" := by decide
  refine call_function_tree F.kind_min F.plain_min F.entry_min (F.args_min2 _ _) ?_
  show wpAny _ A.in1 (Builtin.Builtins.bindParams "min" ["key", "default"] 0 ⟨[], []⟩ >>= _) _ _ s
  refine wpAny_bind (wpAny_of_eq (show Builtin.Builtins.bindParams "min" ["key", "default"] 0 ⟨[], []⟩ = pure [none, none] from rfl) ?_)
  show wpAny _ A.in1 (newTuple [a, b] >>= _) _ _ s
  refine wpAny_bind (wpAny_newObj_type ?_)
  have hT : (s.heap.push { cls := .type "tuple", data := .seq #[a, b] }).IsTuple s.heap.objs.size #[a, b] := ⟨_, Heap.get?_push_size _ rfl, rfl, 0, rfl⟩
  have k0 : ∀ c o, s.heap.get? c = some o → (s.heap.push { cls := .type "tuple", data := .seq #[a, b] }).get? c = some o := fun c o e => Heap.get?_push_of_some _ e
  have hr : ReadsAll (s.heap.push { cls := .type "tuple", data := .seq #[a, b] }) (#[a, b] : Array Value).toList [x, y] _ := .cons (reads_keeps k0 ra) (.cons (reads_keeps k0 rb) .nil)
  have hax : alike y x = true := by rw [alike_comm]; exact hal
  have hy : y ≠ .none := ne_none_both hal hx
  have ha : AlikeAll [x, y] := ⟨fun p hp q hq => by
    have hp' : p = x ∨ p = y := by simpa using hp
    have hq' : q = x ∨ q = y := by simpa using hq
    rcases hp' with e1 | e1 <;> rcases hq' with e2 | e2 <;> rw [e1, e2] <;> assumption, fun p hp => by
    have hp' : p = x ∨ p = y := by simpa using hp
    rcases hp' with e1 | e1 <;> rw [e1] <;> assumption⟩
  refine wpAny_bind (wpAny_mono (iter_tupleW (A := A.in1) (s := { s with heap := s.heap.push { cls := .type "tuple", data := .seq #[a, b] } }) hh hT (fun s₂ e W st hfp hw hk => ?_)) (fun it s₂ h₂ => h₂) fun _ _ e => e)
  refine wpAny_bind (wpAny_newObj_type ?_)
  have hSf := fun hm => Nat.lt_irrefl _ (hfp s₂.heap.objs.size hm)
  rw [hname]
  refine wpAny_pure ⟨plainId_quiet F.plain_min_loop _, codeAny_min_loop_firstH W (s.heap.push { cls := .type "tuple", data := .seq #[a, b] }) hw _ (cmpIn_lt (A := A.in1) (s := { s with heap := s.heap.push { cls := .type "tuple", data := .seq #[a, b] } }) hr ha (by
    show A.units + 1 + max x.depth (max y.depth 0) < cLine
    simpa using hu)) s₂.heap.objs.size hSf (fresh_in hk) _ (by show 0 < 2; decide) (fun b o e => Heap.get?_push_of_some _ (hk b o e)) (W.frame 0 s₂ _ s₂.toks st (Nat.le_refl _) fun b _ o e => Heap.get?_push_of_some _ e) (Heap.get?_push_size _ rfl) fun v s' hP hm => ?_⟩
  obtain ⟨h', tk, rfl, hk'⟩ := moved_old e rfl (Moved.drop_new (tk := s₂.toks) hm (Nat.le_refl _))
  have hv : v = if dataLt y x then b else a := by
    have hP' : (#[a, b] : Array Value)[argBest (fun i j => dataLt ([x, y].getD i .none) ([x, y].getD j .none)) 1]? = some v := hP
    by_cases c : dataLt y x = true
    · have e1 : argBest (fun i j => dataLt ([x, y].getD i .none) ([x, y].getD j .none)) 1 = 1 := by simp [argBest, c]
      rw [e1] at hP'
      rw [if_pos c]; exact (Option.some.inj hP').symm
    · have e1 : argBest (fun i j => dataLt ([x, y].getD i .none) ([x, y].getD j .none)) 1 = 0 := by simp [argBest, c]
      rw [e1] at hP'
      rw [if_neg c]; exact (Option.some.inj hP').symm
  rw [hv]
  exact h h' tk fun c o q => hk' c o (k0 c o q)
theorem call_max_twoH {a b : Value} {x y : PyData} {as bs : List Addr} {Q : Value → Shared → Prop} (hh : A.handled = none) (ra : Reads s.heap a x as) (rb : Reads s.heap b y bs) (hal : alike x y = true) (hx : x ≠ .none) (hu : A.units + 1 + max x.depth y.depth < cLine)
    (hself : alike x x = true) (hself2 : alike y y = true)
    (h : ∀ h' tk, (∀ c o, s.heap.get? c = some o → h'.get? c = some o) → Q (if dataLt x y then b else a) { s with heap := h', toks := tk }) : wpAny (model prog w) A (call (.builtin "max") [a, b]) Q E s := by
  have hname : (toString "max" ++ toString ".loop" : String) = "max.loop" := by decide
  refine call_function_tree F.kind_max F.plain_max F.entry_max (F.args_max2 _ _) ?_
  show wpAny _ A.in1 (Builtin.Builtins.bindParams "max" ["key", "default"] 0 ⟨[], []⟩ >>= _) _ _ s
  refine wpAny_bind (wpAny_of_eq (show Builtin.Builtins.bindParams "max" ["key", "default"] 0 ⟨[], []⟩ = pure [none, none] from rfl) ?_)
  show wpAny _ A.in1 (newTuple [a, b] >>= _) _ _ s
  refine wpAny_bind (wpAny_newObj_type ?_)
  have hT : (s.heap.push { cls := .type "tuple", data := .seq #[a, b] }).IsTuple s.heap.objs.size #[a, b] := ⟨_, Heap.get?_push_size _ rfl, rfl, 0, rfl⟩
  have k0 : ∀ c o, s.heap.get? c = some o → (s.heap.push { cls := .type "tuple", data := .seq #[a, b] }).get? c = some o := fun c o e => Heap.get?_push_of_some _ e
  have hr : ReadsAll (s.heap.push { cls := .type "tuple", data := .seq #[a, b] }) (#[a, b] : Array Value).toList [x, y] _ := .cons (reads_keeps k0 ra) (.cons (reads_keeps k0 rb) .nil)
  have hax : alike y x = true := by rw [alike_comm]; exact hal
  have hy : y ≠ .none := ne_none_both hal hx
  have ha : AlikeAll [x, y] := ⟨fun p hp q hq => by
    have hp' : p = x ∨ p = y := by simpa using hp
    have hq' : q = x ∨ q = y := by simpa using hq
    rcases hp' with e1 | e1 <;> rcases hq' with e2 | e2 <;> rw [e1, e2] <;> assumption, fun p hp => by
    have hp' : p = x ∨ p = y := by simpa using hp
    rcases hp' with e1 | e1 <;> rw [e1] <;> assumption⟩
  refine wpAny_bind (wpAny_mono (iter_tupleW (A := A.in1) (s := { s with heap := s.heap.push { cls := .type "tuple", data := .seq #[a, b] } }) hh hT (fun s₂ e W st hfp hw hk => ?_)) (fun it s₂ h₂ => h₂) fun _ _ e => e)
  refine wpAny_bind (wpAny_newObj_type ?_)
  have hSf := fun hm => Nat.lt_irrefl _ (hfp s₂.heap.objs.size hm)
  rw [hname]
  refine wpAny_pure ⟨plainId_quiet F.plain_max_loop _, codeAny_max_loop_firstH W (s.heap.push { cls := .type "tuple", data := .seq #[a, b] }) hw _ (cmpIn_gt (A := A.in1) (s := { s with heap := s.heap.push { cls := .type "tuple", data := .seq #[a, b] } }) hr ha (by
    show A.units + 1 + max x.depth (max y.depth 0) < cLine
    simpa using hu)) s₂.heap.objs.size hSf (fresh_in hk) _ (by show 0 < 2; decide) (fun b o e => Heap.get?_push_of_some _ (hk b o e)) (W.frame 0 s₂ _ s₂.toks st (Nat.le_refl _) fun b _ o e => Heap.get?_push_of_some _ e) (Heap.get?_push_size _ rfl) fun v s' hP hm => ?_⟩
  obtain ⟨h', tk, rfl, hk'⟩ := moved_old e rfl (Moved.drop_new (tk := s₂.toks) hm (Nat.le_refl _))
  have hv : v = if dataLt x y then b else a := by
    have hP' : (#[a, b] : Array Value)[argBest (fun i j => dataLt ([x, y].getD j .none) ([x, y].getD i .none)) 1]? = some v := hP
    by_cases c : dataLt x y = true
    · have e1 : argBest (fun i j => dataLt ([x, y].getD j .none) ([x, y].getD i .none)) 1 = 1 := by simp [argBest, c]
      rw [e1] at hP'
      rw [if_pos c]; exact (Option.some.inj hP').symm
    · have e1 : argBest (fun i j => dataLt ([x, y].getD j .none) ([x, y].getD i .none)) 1 = 0 := by simp [argBest, c]
      rw [e1] at hP'
      rw [if_neg c]; exact (Option.some.inj hP').symm
  rw [hv]
  exact h h' tk fun c o q => hk' c o (k0 c o q)
end
end PySem
set_option Elab.async false
set_option linter.all false
set_option maxRecDepth 100000
set_option maxHeartbeats 1000000
set_option autoImplicit false
/-! V7: the built-ins' rules, by data -/
namespace VE
open PySem PySem.Spec PyProof.Rows L2
section
variable {X : Cx} {S : Sta} {κ : Kx} {k : Nat} (G : Good X S κ k)
/-- a value-level operation of many -/
def RAD (X : Cx) (S : Sta) (g : List D → HS → R D) (r : List V → Hp → VK → Prop) : Prop := ∀ π H hs ds vs (Q : VK) (E : XK), Rel X.K S.T π H hs → RDs X.K π H ds vs → post X.K S π H Q E (g ds hs) → r vs H Q
theorem rds1 {K : PySem.W.Frag} {π : Pi} {H : Hp} {d : D} {vs : List V} (r : RDs K π H [d] vs) : ∃ v, vs = [v] ∧ RD K π H d v := by
  cases r with
  | cons h1 h2 => cases h2; exact ⟨_, rfl, h1⟩
theorem rds2 {K : PySem.W.Frag} {π : Pi} {H : Hp} {d e : D} {vs : List V} (r : RDs K π H [d, e] vs) : ∃ v w, vs = [v, w] ∧ RD K π H d v ∧ RD K π H e w := by
  cases r with
  | cons h1 h2 => obtain ⟨w, rfl, h⟩ := rds1 h2; exact ⟨_, w, rfl, h1, h⟩
/-- arguments of a wrong number -/
theorem len_cases (ds : List D) : ds = [] ∨ (∃ a, ds = [a]) ∨ (∃ a b, ds = [a, b]) ∨ ∃ a b c r, ds = a :: b :: c :: r := by
  match ds with
  | [] => exact .inl rfl
  | [a] => exact .inr (.inl ⟨a, rfl⟩)
  | [a, b] => exact .inr (.inr (.inl ⟨a, b, rfl⟩))
  | a :: b :: c :: r => exact .inr (.inr (.inr ⟨a, b, c, r, rfl⟩))
def rLenA (K : PySem.W.Frag) : List V → Hp → VK → Prop := fun xs H Q => (∃ p ys, xs = [.ref p] ∧ (SqL K H p ys ∨ SqT K H p ys) ∧ Q (.int ys.length) H) ∨ ∃ z, xs = [.str z] ∧ z.length ≤ sizeLine ∧ Q (.int z.length) H
theorem cr_len : CallR X (.builtin "len") (rLenA X.K) := call_len_seq.or call_len_str
theorem ra_len : RAD X S (opBi .len) (rLenA X.K) := by
  intro π H hs ds vs Q E rel r p
  rcases len_cases ds with rfl | ⟨a, rfl⟩ | ⟨a, b, rfl⟩ | ⟨a, b, c, r', rfl⟩ <;> try exact p.elim
  obtain ⟨v, rfl, rv⟩ := rds1 r
  have main : (∀ s, a ≠ .str s) → rLenA X.K [v] H Q := fun hn => by
    have e : opBi .len [a] hs = (match seqOf a hs with | some xs => .ok (.int xs.length) hs | none => .bad) := by cases a <;> first | rfl | exact absurd rfl (hn _)
    rw [e] at p
    cases e2 : seqOf a hs with
    | none => rw [e2] at p; exact p.elim
    | some xs =>
      rw [e2] at p
      obtain ⟨ad, ws, rfl, rs, ht⟩ := seq_of rel rv e2
      have q := p π H _ (.refl _ _) rel (.int _)
      rw [rs.length] at q
      refine .inl ⟨ad, ws, rfl, ?_, q⟩
      rcases ht with ⟨_, ht, _⟩ | ⟨_, ht⟩
      · exact .inr ht
      · exact .inl ht
  cases a with
  | str s =>
    have e : opBi .len [.str s] hs = (if s.length ≤ lim then .ok (.int s.length) hs else .bad) := rfl
    rw [e] at p
    split at p
    · rename_i hl
      cases rv
      exact .inr ⟨s, rfl, lim_le hl, p π H _ (.refl _ _) rel (.int _)⟩
    · exact p.elim
  | _ => exact main (fun _ z => by cases z)
  all_goals (cases a <;> exact p.elim)
theorem ra_abs : RAD X S (opBi .abs) (fun xs H Q => ∃ i, xs = [.int i] ∧ Q (.int (if i < 0 then -i else i)) H) := by
  intro π H hs ds vs Q E rel r p
  rcases len_cases ds with rfl | ⟨a, rfl⟩ | ⟨a, b, rfl⟩ | ⟨a, b, c, r', rfl⟩ <;> try exact p.elim
  · obtain ⟨v, rfl, rv⟩ := rds1 r
    cases rv <;> try exact p.elim
    exact ⟨_, rfl, p π H _ (.refl _ _) rel (.int _)⟩
  all_goals (cases a <;> exact p.elim)
theorem ra_int : RAD X S (opBi .int) (fun xs H Q => (∃ i, xs = [.int i] ∧ Q (.int i) H) ∨ ∃ k, xs = [.bl k] ∧ Q (.int (if k then 1 else 0)) H) := by
  intro π H hs ds vs Q E rel r p
  rcases len_cases ds with rfl | ⟨a, rfl⟩ | ⟨a, b, rfl⟩ | ⟨a, b, c, r', rfl⟩ <;> try exact p.elim
  · obtain ⟨v, rfl, rv⟩ := rds1 r
    cases rv <;> try exact p.elim
    · exact .inr ⟨_, rfl, p π H _ (.refl _ _) rel (.int _)⟩
    · exact .inl ⟨_, rfl, p π H _ (.refl _ _) rel (.int _)⟩
  all_goals (cases a <;> exact p.elim)
def rTupA (K : PySem.W.Frag) : List V → Hp → VK → Prop := fun xs H Q => ∃ p ys, xs = [.ref p] ∧ ((SqL K H p ys ∧ ∀ l, H l = none → Q (.ref l) (upd H l (.tup ys))) ∨ (SqT K H p ys ∧ Q (.ref p) H))
include G
theorem ra_tuple : RAD X S (opBi .tuple) (rTupA X.K) := by
  intro π H hs ds vs Q E rel r p
  rcases len_cases ds with rfl | ⟨a, rfl⟩ | ⟨a, b, rfl⟩ | ⟨a, b, c, r', rfl⟩ <;> try exact p.elim
  obtain ⟨v, rfl, rv⟩ := rds1 r
  have e : opBi .tuple [a] hs = (if isCtp a then .bad else match seqOf a hs with | some xs => .ok (.tup xs) hs | none => .bad) := rfl
  rw [e] at p
  split at p
  · exact p.elim
  rename_i hct
  cases e2 : seqOf a hs with
  | none => rw [e2] at p; exact p.elim
  | some xs =>
    rw [e2] at p
    obtain ⟨ad, ws, rfl, rs, ht⟩ := seq_of rel rv e2
    refine ⟨ad, ws, rfl, ?_⟩
    rcases ht with ⟨_, ht, ht2⟩ | ⟨_, ht⟩
    · exact .inr ⟨ht, p π H _ (.refl _ _) rel (.tup (ht2 (by simpa using hct)) rs)⟩
    · exact .inl ⟨ht, post_newT G p rel rs⟩
def rTupP (K : PySem.W.Frag) : List V → Hp → VK → Prop := fun xs H Q => ∃ p ys, xs = [.ref p] ∧ SqL K H p ys ∧ ∀ l o, H l = none → o.cls = .type "tuple" → o.dict = none → Q (.ref l) (upd H l (.frz o (.tup ys)))
omit G in
theorem cr_tupP : CallR X (.type "tuple") (rTupP X.K) := by
  intro pins s σ H xs us Q I r h
  obtain ⟨p, ys, rfl, hq, q⟩ := h
  obtain ⟨u, rfl, rx⟩ := vals1 r
  cases rx
  obtain ⟨its, r', pl, hz⟩ := I.list hq
  have hlen := r'.length
  refine call_tuple_list pl.isList (fun h' kp => ?_) (by simp only [List.size_toArray] <;> omega)
  have I1 : Inv X pins σ H { s with heap := h' } := I.kept (t' := s.toks) kp
  have I2 : Inv X pins σ (upd H h'.objs.size (.frz { cls := .type "tuple", data := .seq its.toArray } (.tup ys))) { s with heap := h'.push { cls := .type "tuple", data := .seq its.toArray } } :=
    I1.laid (t' := s.toks) (fun b o e => Heap.get?_push_of_some _ e) (Nat.le_refl _) ⟨Heap.get?_push_size _ rfl, hz, its, r', IsTup.new _ _⟩
  exact ⟨.ref h'.objs.size, _, I2, rfl, q _ _ (I1.hok.fresh (Nat.le_refl _)) rfl rfl⟩
theorem ra_tupP : RAD X S (opBi .tupleP) (rTupP X.K) := by
  intro π H hs ds vs Q E rel r p
  rcases len_cases ds with rfl | ⟨a, rfl⟩ | ⟨a, b, rfl⟩ | ⟨a, b, c, r', rfl⟩ <;> try exact p.elim
  obtain ⟨v, rfl, rv⟩ := rds1 r
  have e : opBi .tupleP [a] hs = (if isTupD a then .bad else match seqOf a hs with | some xs => .ok (.ctp xs) hs | none => .bad) := rfl
  rw [e] at p
  split at p
  · exact p.elim
  rename_i hct
  cases e2 : seqOf a hs with
  | none => rw [e2] at p; exact p.elim
  | some xs =>
    rw [e2] at p
    obtain ⟨ad, ws, rfl, rs, ht⟩ := seq_of rel rv e2
    rcases ht with ⟨z, _⟩ | ⟨_, ht⟩
    · exact absurd z hct
    · refine ⟨ad, ws, rfl, ht, fun l o hl h1 h2 => ?_⟩
      exact p π _ _ (.new hl) (rel.new hl) (.ctp (.inr ⟨rel.fresh hl, o, upd_same, h1, h2⟩) (rs.mono (.new hl)))
def rLstA (K : PySem.W.Frag) : List V → Hp → VK → Prop := fun xs H Q => ∃ p ys, xs = [.ref p] ∧ (SqL K H p ys ∨ SqT K H p ys) ∧ ∀ l, H l = none → Q (.ref l) (upd H l (.lst ys))
theorem ra_list : RAD X S (opBi .list) (rLstA X.K) := by
  intro π H hs ds vs Q E rel r p
  rcases len_cases ds with rfl | ⟨a, rfl⟩ | ⟨a, b, rfl⟩ | ⟨a, b, c, r', rfl⟩ <;> try exact p.elim
  obtain ⟨v, rfl, rv⟩ := rds1 r
  have e : opBi .list [a] hs = (match seqOf a hs with | some xs => .ok (.lst xs) hs | none => .bad) := rfl
  rw [e] at p
  cases e2 : seqOf a hs with
  | none => rw [e2] at p; exact p.elim
  | some xs =>
    rw [e2] at p
    obtain ⟨ad, ws, rfl, rs, ht⟩ := seq_of rel rv e2
    refine ⟨ad, ws, rfl, ?_, post_newL G p rel rs⟩
    rcases ht with ⟨_, ht, _⟩ | ⟨_, ht⟩
    · exact .inr ht
    · exact .inl ht
omit G
/-- a list of truth values -/
theorem allB_of {K : PySem.W.Frag} {π : Pi} {H : Hp} : ∀ {ds : List D} {vs : List V} {c : Bool}, RDs K π H ds vs → allB ds = some c → ∃ bs : List Bool, vs = bs.map V.bl ∧ bs.all id = c
  | [], _, _, r, h => by cases r; cases h; exact ⟨[], rfl, rfl⟩
  | d :: ds, _, c, r, h => by
    cases r with
    | cons h1 h2 =>
      cases h1 <;> try (simp [allB] at h; done)
      rename_i b
      cases e : allB ds with
      | none => simp [allB, e] at h
      | some c' =>
        simp [allB, e] at h
        obtain ⟨bs, rfl, hb⟩ := allB_of h2 e
        exact ⟨b :: bs, rfl, by rw [List.all_cons, hb]; exact h⟩
theorem anyB_of {K : PySem.W.Frag} {π : Pi} {H : Hp} : ∀ {ds : List D} {vs : List V} {c : Bool}, RDs K π H ds vs → anyB ds = some c → ∃ bs : List Bool, vs = bs.map V.bl ∧ bs.any id = c
  | [], _, _, r, h => by cases r; cases h; exact ⟨[], rfl, rfl⟩
  | d :: ds, _, c, r, h => by
    cases r with
    | cons h1 h2 =>
      cases h1 <;> try (simp [anyB] at h; done)
      rename_i b
      cases e : anyB ds with
      | none => simp [anyB, e] at h
      | some c' =>
        simp [anyB, e] at h
        obtain ⟨bs, rfl, hb⟩ := anyB_of h2 e
        exact ⟨b :: bs, rfl, by rw [List.any_cons, hb]; exact h⟩
theorem ra_all : RAD X S (opBi .all) (rAll X.K) := by
  intro π H hs ds vs Q E rel r p
  rcases len_cases ds with rfl | ⟨a, rfl⟩ | ⟨a, b, rfl⟩ | ⟨a, b, c, r', rfl⟩ <;> try exact p.elim
  obtain ⟨v, rfl, rv⟩ := rds1 r
  have e : opBi .all [a] hs = (if isTupD a then .bad else match seqOf a hs with | some xs => (match allB xs with | some c => .ok (.bl c) hs | none => .bad) | none => .bad) := rfl
  rw [e] at p
  split at p
  · exact p.elim
  rename_i ht0
  cases e2 : seqOf a hs with
  | none => rw [e2] at p; exact p.elim
  | some xs =>
    rw [e2] at p
    dsimp only at p
    cases e3 : allB xs with
    | none => rw [e3] at p; exact p.elim
    | some c =>
      rw [e3] at p
      obtain ⟨ad, ws, rfl, rs, ht⟩ := seq_of rel rv e2
      obtain ⟨bs, rfl, hb⟩ := allB_of rs e3
      rcases ht with ⟨z, _⟩ | ⟨_, ht⟩
      · exact absurd z ht0
      · exact ⟨ad, bs, rfl, ht, by rw [hb]; exact p π H _ (.refl _ _) rel (.bl _)⟩
theorem ra_any : RAD X S (opBi .any) (rAny X.K) := by
  intro π H hs ds vs Q E rel r p
  rcases len_cases ds with rfl | ⟨a, rfl⟩ | ⟨a, b, rfl⟩ | ⟨a, b, c, r', rfl⟩ <;> try exact p.elim
  obtain ⟨v, rfl, rv⟩ := rds1 r
  have e : opBi .any [a] hs = (if isTupD a then .bad else match seqOf a hs with | some xs => (match anyB xs with | some c => .ok (.bl c) hs | none => .bad) | none => .bad) := rfl
  rw [e] at p
  split at p
  · exact p.elim
  rename_i ht0
  cases e2 : seqOf a hs with
  | none => rw [e2] at p; exact p.elim
  | some xs =>
    rw [e2] at p
    dsimp only at p
    cases e3 : anyB xs with
    | none => rw [e3] at p; exact p.elim
    | some c =>
      rw [e3] at p
      obtain ⟨ad, ws, rfl, rs, ht⟩ := seq_of rel rv e2
      obtain ⟨bs, rfl, hb⟩ := anyB_of rs e3
      rcases ht with ⟨z, _⟩ | ⟨_, ht⟩
      · exact absurd z ht0
      · exact ⟨ad, bs, rfl, ht, by rw [hb]; exact p π H _ (.refl _ _) rel (.bl _)⟩
include G in
theorem ra_divmod : RAD X S (opBi .divmod) (fun xs H Q => ∃ i j, xs = [.int i, .int j] ∧ CDiv i j ∧ ∀ p, H p = none → Q (.ref p) (upd H p (.tup [.int (i / j), .int (i % j)]))) := by
  intro π H hs ds vs Q E rel r p
  rcases len_cases ds with rfl | ⟨a, rfl⟩ | ⟨a, b, rfl⟩ | ⟨a, b, c, r', rfl⟩ <;> try exact p.elim
  · cases a <;> exact p.elim
  · obtain ⟨v, w, rfl, rv, rw'⟩ := rds2 r
    cases rv <;> try exact p.elim
    cases rw' <;> try exact p.elim
    rename_i i j
    have e : opBi .divmod [.int i, .int j] hs = (if 0 < j ∧ j < 1073741824 then .ok (.tup [.int (i / j), .int (i % j)]) hs else .bad) := rfl
    rw [e] at p
    split at p
    · rename_i hl
      exact ⟨_, _, rfl, hl, post_newT G p rel (.cons (.int _) (.cons (.int _) .nil))⟩
    · exact p.elim
  · cases a <;> first | exact p.elim | (cases b <;> exact p.elim)
theorem ra_gcd : RAD X S (opBi .gcd) rGcd := by
  intro π H hs ds vs Q E rel r p
  rcases len_cases ds with rfl | ⟨a, rfl⟩ | ⟨a, b, rfl⟩ | ⟨a, b, c, r', rfl⟩ <;> try exact p.elim
  · cases a <;> exact p.elim
  · obtain ⟨v, w, rfl, rv, rw'⟩ := rds2 r
    cases rv <;> try exact p.elim
    cases rw' <;> try exact p.elim
    rename_i i j
    have e : opBi .gcd [.int i, .int j] hs = .ok (.int ((Nat.gcd i.natAbs j.natAbs : Nat) : Int)) hs := rfl
    rw [e] at p
    exact ⟨_, _, rfl, p π H _ (.refl _ _) rel (.int _)⟩
  · cases a <;> first | exact p.elim | (cases b <;> exact p.elim)
/-! isinstance -/
theorem ty_of {π : Pi} {H : Hp} {d : D} {v : V} (r : RD X.K π H d v) : (∃ t, (match d with | .non => some "NoneType" | .bl _ => some "bool" | .int _ => some "int" | .str _ => some "str" | .tup _ => some "tuple" | .lst _ => some "list" | _ => none) = some t ∧ TyX X.K H v (.type t)) ∨ (∃ i, d = .ref i) ∨ (∃ xs, d = .scr xs) ∨ ∃ xs, d = .ctp xs := by
  cases r with
  | non => exact .inl ⟨_, rfl, .base .non⟩
  | bl b => exact .inl ⟨_, rfl, .base (.bl b)⟩
  | int i => exact .inl ⟨_, rfl, .base (.int i)⟩
  | str x => exact .inl ⟨_, rfl, .base (.str x)⟩
  | lst h1 h2 => exact .inl ⟨_, rfl, .base (.lst h1.2)⟩
  | scr h1 h2 => exact .inr (.inr (.inl ⟨_, rfl⟩))
  | ref h => exact .inr (.inl ⟨_, rfl⟩)
  | ctp h1 h2 => exact .inr (.inr (.inr ⟨_, rfl⟩))
  | tup h1 h2 => exact .inl ⟨_, rfl, .base (.tup h1.2)⟩
def tyOf (b : BI) : String := match b with
  | .isInt => "int" | .isBool => "bool" | .isTup => "tuple" | _ => "str"
def rIs (K : PySem.W.Frag) (T : String) : V → Hp → VK → Prop := fun v H Q => ∃ t b, TyX K H v (.type t) ∧ kitB t T = some b ∧ Q (.bl b) H
theorem ra_is (b : BI) (hb : b = .isInt ∨ b = .isBool ∨ b = .isTup ∨ b = .isStr) {π : Pi} {H : Hp} {hs : HS} {d : D} {v : V} {Q : VK} {E : XK} (rel : Rel X.K S.T π H hs) (r : RD X.K π H d v) (p : post X.K S π H Q E (opBi b [d] hs)) : rIs X.K (tyOf b) v H Q := by
  rcases ty_of r with ⟨t, e, ht⟩ | ⟨i, rfl⟩ | ⟨xs, rfl⟩ | ⟨xs, rfl⟩
  · cases d <;> cases e <;> rcases hb with rfl | rfl | rfl | rfl <;> exact ⟨_, _, ht, by decide +kernel, p π H _ (.refl _ _) rel (.bl _)⟩
  · rcases hb with rfl | rfl | rfl | rfl <;> exact p.elim
  · rcases hb with rfl | rfl | rfl | rfl <;> exact p.elim
  · rcases hb with rfl | rfl | rfl | rfl <;> exact p.elim
end
end VE
set_option Elab.async false
set_option linter.all false
set_option maxRecDepth 100000
set_option maxHeartbeats 1000000
set_option autoImplicit false
/-! V8: min, max, sorted, repr, slices, methods, stores -/
namespace VE
open PySem PySem.Spec PyProof.Rows L2
mutual
theorem py_alike : ∀ d : D, PySem.W.alike d.py d.py = true
  | .non => by simp [D.py, PySem.W.alike]
  | .bl _ => by simp [D.py, PySem.W.alike]
  | .int _ => by simp [D.py, PySem.W.alike]
  | .str _ => by simp [D.py, PySem.W.alike]
  | .tup xs => by simp only [D.py, PySem.W.alike]; exact pys_alike xs
  | .lst xs => by simp only [D.py, PySem.W.alike]; exact pys_alike xs
  | .scr xs => by simp only [D.py, PySem.W.alike]; exact pys_alike xs
  | .ref _ => by simp [D.py, PySem.W.alike]
  | .fn _ _ => by simp [D.py, PySem.W.alike]
  | .gfn _ => by simp [D.py, PySem.W.alike]
  | .ndf _ => by simp [D.py, PySem.W.alike]
  | .ctp _ => by simp [D.py, PySem.W.alike]
theorem pys_alike : ∀ ds : List D, PySem.W.alikeAll (D.pys ds) (D.pys ds) = true
  | [] => by simp [D.pys, PySem.W.alikeAll]
  | d :: ds => by simp only [D.pys, PySem.W.alikeAll, py_alike d, pys_alike ds]; rfl
end
section
variable {X : Cx} {S : Sta} {κ : Kx} {k : Nat} (G : Good X S κ k)
structure AlikeD (K : PySem.W.Frag) (H : Hp) (x y : D) (v w : V) : Prop where
  a : Dp K H v x.py
  b : Dp K H w y.py
  al : PySem.W.alike x.py y.py = true
  na : x.py ≠ .none
  nb : y.py ≠ .none
  da : x.py.depth ≤ 64
  db : y.py.depth ≤ 64
  lt : D.lt x y = PySem.W.dataLt x.py y.py
  gt : D.lt y x = PySem.W.dataLt y.py x.py
theorem alikeD_of {π : Pi} {H : Hp} {x y : D} {v w : V} (r1 : RD X.K π H x v) (r2 : RD X.K π H y w) (h : D.alike x y = true) : AlikeD X.K H x y v w := by
  rcases ord_cases r1 r2 h with ⟨i, j, rfl, rfl, rfl, rfl⟩ | ⟨i, j, rfl, rfl, rfl, rfl⟩ | ⟨a1, a2, a3, a4, a5, a6, a7, a8, a9⟩
  · exact ⟨.int i, .int j, by simp [D.py, PySem.W.alike], (fun z => by cases z), (fun z => by cases z), Nat.zero_le _, Nat.zero_le _, (PySem.W.dataLt_int i j).symm, (PySem.W.dataLt_int j i).symm⟩
  · exact ⟨.str i, .str j, by simp [D.py, PySem.W.alike], (fun z => by cases z), (fun z => by cases z), Nat.zero_le _, Nat.zero_le _, (PySem.W.dataLt_str i j).symm, (PySem.W.dataLt_str j i).symm⟩
  · exact ⟨a1, a2, a3, a4, a5, a6, a7, a8, a9⟩
def rMinD (K : PySem.W.Frag) (mx : Bool) : List V → Hp → VK → Prop := fun xs H Q => ∃ v w x y, xs = [v, w] ∧ AlikeD K H x y v w ∧ Q (if (if mx then D.lt x y else D.lt y x) then w else v) H
include G
theorem cr_minD : CallR X (.builtin "min") (rMinD X.K false) := by
  intro pins s σ H xs us Q I r ⟨v, w, x, y, e, A, q⟩
  subst e
  obtain ⟨u1, u2, rfl, r1, r2⟩ := vals2 r
  obtain ⟨as, ra⟩ := Dp.reads I _ _ _ A.a r1
  obtain ⟨bs, rb⟩ := Dp.reads I _ _ _ A.b r2
  refine PySem.call_min_twoH (I.ok.hd G.calm) ra rb A.al A.na (by
    have := G.room.un; have h1 := A.da; have h2 := A.db
    have : max x.py.depth y.py.depth ≤ 64 := Nat.max_le.mpr ⟨h1, h2⟩
    omega) (py_alike x) (py_alike y) fun h' tk kk => ?_
  refine ⟨_, H, I.kept (t' := tk) kk, ?_, q⟩
  rw [if_neg Bool.false_ne_true, A.gt]
  split <;> assumption
theorem cr_maxD : CallR X (.builtin "max") (rMinD X.K true) := by
  intro pins s σ H xs us Q I r ⟨v, w, x, y, e, A, q⟩
  subst e
  obtain ⟨u1, u2, rfl, r1, r2⟩ := vals2 r
  obtain ⟨as, ra⟩ := Dp.reads I _ _ _ A.a r1
  obtain ⟨bs, rb⟩ := Dp.reads I _ _ _ A.b r2
  refine PySem.call_max_twoH (I.ok.hd G.calm) ra rb A.al A.na (by
    have := G.room.un; have h1 := A.da; have h2 := A.db
    have : max x.py.depth y.py.depth ≤ 64 := Nat.max_le.mpr ⟨h1, h2⟩
    omega) (py_alike x) (py_alike y) fun h' tk kk => ?_
  refine ⟨_, H, I.kept (t' := tk) kk, ?_, q⟩
  rw [if_pos rfl, A.lt]
  split <;> assumption
theorem ra_min : RAD X S (opBi .min) (rMinD X.K false) := by
  intro π H hs ds vs Q E rel r p
  rcases len_cases ds with rfl | ⟨a, rfl⟩ | ⟨a, b, rfl⟩ | ⟨a, b, c, r', rfl⟩
  · exact p.elim
  · cases a <;> exact p.elim
  · obtain ⟨v, w, rfl, r1, r2⟩ := rds2 r
    have e : opBi .min [a, b] hs = (if D.alike a b then .ok (if D.lt b a then b else a) hs else .bad) := by
      cases a <;> first
        | rfl
        | (cases b <;> first
            | rfl
            | (rename_i i j
               show R.ok (D.int (if j < i then j else i)) hs = R.ok (if decide (j < i) then D.int j else D.int i) hs
               by_cases c : j < i <;> simp [c]))
    rw [e] at p
    split at p
    · rename_i h
      refine ⟨v, w, a, b, rfl, alikeD_of r1 r2 h, ?_⟩
      have q : ∀ z, RD X.K π H (if D.lt b a then b else a) z → Q z H := fun z hz => p π H z (.refl _ _) rel hz
      rw [if_neg Bool.false_ne_true]
      split
      · rename_i c; rw [if_pos c] at q; exact q w r2
      · rename_i c; rw [if_neg c] at q; exact q v r1
    · exact p.elim
  · cases a <;> first | exact p.elim | (cases b <;> exact p.elim)
theorem ra_max : RAD X S (opBi .max) (rMinD X.K true) := by
  intro π H hs ds vs Q E rel r p
  rcases len_cases ds with rfl | ⟨a, rfl⟩ | ⟨a, b, rfl⟩ | ⟨a, b, c, r', rfl⟩
  · exact p.elim
  · cases a <;> exact p.elim
  · obtain ⟨v, w, rfl, r1, r2⟩ := rds2 r
    have e : opBi .max [a, b] hs = (if D.alike a b then .ok (if D.lt a b then b else a) hs else .bad) := by
      cases a <;> first
        | rfl
        | (cases b <;> first
            | rfl
            | (rename_i i j
               show R.ok (D.int (if j > i then j else i)) hs = R.ok (if decide (i < j) then D.int j else D.int i) hs
               by_cases c : i < j <;> simp [c]))
    rw [e] at p
    split at p
    · rename_i h
      refine ⟨v, w, a, b, rfl, alikeD_of r1 r2 h, ?_⟩
      have q : ∀ z, RD X.K π H (if D.lt a b then b else a) z → Q z H := fun z hz => p π H z (.refl _ _) rel hz
      rw [if_pos rfl]
      split
      · rename_i c; rw [if_pos c] at q; exact q w r2
      · rename_i c; rw [if_neg c] at q; exact q v r1
    · exact p.elim
  · cases a <;> first | exact p.elim | (cases b <;> exact p.elim)
/-! sorted -/
omit G
/-- the items with what they stand for -/
structure SortIt (K : PySem.W.Frag) (H : Hp) (vs : List V) (ds : List D) : Prop where
  len : vs.length = ds.length
  dp : ∀ p ∈ vs.zip ds, Dp K H p.1 p.2.py ∧ p.2.py.depth ≤ 64
  al : ∀ x ∈ ds, ∀ y ∈ ds, PySem.W.alike x.py y.py = true ∧ D.lt x y = PySem.W.dataLt x.py y.py
  so : (∀ x ∈ ds, ∃ a r, x.py = .tuple (a :: r)) ∨ ∀ x ∈ ds, x.py ≠ .none ∧ ∀ xs, x.py ≠ .tuple xs
  sz : ds.length ≤ sizeLine
def zle (p q : V × D) : Bool := !D.lt q.2 p.2
def rSortD (K : PySem.W.Frag) : List V → Hp → VK → Prop := fun xs H Q => ∃ a vs ds, xs = [.ref a] ∧ SqL K H a vs ∧ SortIt K H vs ds ∧ ∀ l, H l = none → Q (.ref l) (upd H l (.lst (((vs.zip ds).mergeSort zle).map (·.1))))
theorem vals_each {vs : List V} {us : List Value} {ds : List D} (r : Vals vs us) (hl : vs.length = ds.length) : PySem.W.EachIs (fun u (p : V × D) => RelV p.1 u) us (vs.zip ds) := by
  induction r generalizing ds with
  | nil => exact .nil
  | cons r1 r2 ih =>
    cases ds with
    | nil => simp at hl
    | cons d ds => exact .cons r1 (ih (by simpa using hl))
theorem each_vals {out : List Value} {ps : List (V × D)} (h : PySem.W.EachIs (fun u (p : V × D) => RelV p.1 u) out ps) : Vals (ps.map (·.1)) out := by
  induction h with
  | nil => exact .nil
  | cons h1 h2 ih => exact .cons h1 ih
theorem zip_mem {α β : Type} {a : List α} {b : List β} {p : α × β} (h : p ∈ a.zip b) : p.1 ∈ a ∧ p.2 ∈ b := ⟨(List.of_mem_zip (a := p.1) (b := p.2) h).1, (List.of_mem_zip (a := p.1) (b := p.2) h).2⟩
theorem each_of_mem {α β : Type} {R Q : α → β → Prop} : ∀ {as : List α} {bs : List β}, PySem.W.EachIs R as bs → (∀ a b, b ∈ bs → R a b → Q a b) → PySem.W.EachIs Q as bs
  | _, _, .nil, _ => .nil
  | _, _, .cons h1 h2, f => .cons (f _ _ List.mem_cons_self h1) (each_of_mem h2 fun a b hb => f a b (List.mem_cons_of_mem _ hb))
include G
theorem cr_sortD : CallR X (.builtin "sorted") (rSortD X.K) := by
  intro pins s σ H xs us Q I r ⟨a, vs, ds, e, hL, Z, q⟩
  subst e
  obtain ⟨u, rfl, ru⟩ := vals1 r
  cases ru
  obtain ⟨its, rv, pl, hz⟩ := I.list hL
  have e0 := vals_each rv Z.len
  have hlen : (vs.zip ds).length = ds.length := by rw [List.length_zip, Z.len, Nat.min_self]
  refine PySem.W.sorted_data (l := a) (enc := fun p : V × D => p.2.py) (bs := vs.zip ds) (R := fun u (p : V × D) => RelV p.1 u) pl.isList e0 (each_of_mem e0 fun u p hp hr => Dp.reads I _ _ _ (Z.dp p hp).1 hr) ?_ ?_ (by rw [hlen]; exact Z.sz) ?_ fun out hol ho => ?_
  · intro d hd d' hd'
    obtain ⟨p, hp, rfl⟩ := List.mem_map.mp hd
    obtain ⟨p', hp', rfl⟩ := List.mem_map.mp hd'
    exact (Z.al _ (zip_mem hp).2 _ (zip_mem hp').2).1
  · rcases Z.so with h | h
    · exact .inl fun d hd => by
        obtain ⟨p, hp, rfl⟩ := List.mem_map.mp hd
        exact h _ (zip_mem hp).2
    · exact .inr fun d hd => by
        obtain ⟨p, hp, rfl⟩ := List.mem_map.mp hd
        exact h _ (zip_mem hp).2
  · intro p hp
    have h1 := (Z.dp p hp).2
    have h2 := G.room.un
    show X.A.units + 2 + p.2.py.depth < cLine
    omega
  · obtain ⟨c, hc⟩ := sortedAll_at s.heap its out.toArray
    have hf : H (s.heap.objs.size + 1) = none := I.hok.fresh (Nat.le_succ _)
    have hms : (vs.zip ds).mergeSort (PySem.W.dataLe false fun p : V × D => p.2.py) = (vs.zip ds).mergeSort zle := by
      have := List.map_mergeSort (f := id) (r := PySem.W.dataLe false fun p : V × D => p.2.py) (s := zle) (l := vs.zip ds) fun p hp p' hp' => by
        rw [PySem.W.dataLe_eq]
        show (!PySem.W.dataLt p'.2.py p.2.py) = (!D.lt p'.2 p.2)
        rw [(Z.al _ (zip_mem hp').2 _ (zip_mem hp).2).2]
      simpa using this
    rw [hms] at ho
    refine ⟨.ref (s.heap.objs.size + 1), _, I.laid (a := s.heap.objs.size + 1) (t' := s.toks) (fun b o q => sortedAll_old q) (Nat.le_succ _) (o := .lst (((vs.zip ds).mergeSort zle).map (·.1))) ⟨?_, out, c, each_vals ho, hc⟩, rfl, q _ hf⟩
    rw [List.length_map, List.length_mergeSort, hlen]; exact Z.sz
omit G
theorem rds_zip {K : PySem.W.Frag} {π : Pi} {H : Hp} {ds : List D} {vs : List V} (r : RDs K π H ds vs) : ∀ p ∈ vs.zip ds, RD K π H p.2 p.1 := by
  induction ds generalizing vs with
  | nil => cases r; simp
  | cons d ds ih =>
    cases r with
    | cons h1 h2 =>
      intro p hp
      rw [List.zip_cons_cons] at hp
      rcases List.mem_cons.mp hp with rfl | hp
      · exact h1
      · exact ih h2 p hp
theorem rds_of_all {K : PySem.W.Frag} {π : Pi} {H : Hp} : ∀ (ps : List (V × D)), (∀ p ∈ ps, RD K π H p.2 p.1) → RDs K π H (ps.map (·.2)) (ps.map (·.1))
  | [], _ => .nil
  | p :: ps, h => .cons (h p List.mem_cons_self) (rds_of_all ps fun q hq => h q (List.mem_cons_of_mem _ hq))
include G in
theorem ra_sorted : RAD X S (opBi .sorted) (rSortD X.K) := by
  intro π H hs ds vs Q E rel r p
  rcases len_cases ds with rfl | ⟨a, rfl⟩ | ⟨a, b, rfl⟩ | ⟨a, b, c, r', rfl⟩ <;> try exact p.elim
  obtain ⟨v, rfl, rv⟩ := rds1 r
  have e : opBi .sorted [a] hs = (if isTupD a then .bad else match seqOf a hs with | some xs => (if sortable xs && decide (xs.length ≤ lim) then .ok (.lst (sortD xs)) hs else .bad) | none => .bad) := rfl
  rw [e] at p
  split at p
  · exact p.elim
  rename_i ht0
  cases e2 : seqOf a hs with
  | none => rw [e2] at p; exact p.elim
  | some xs =>
    rw [e2] at p
    dsimp only at p
    split at p
    · rename_i hc
      rw [Bool.and_eq_true, decide_eq_true_eq] at hc
      obtain ⟨hso, hsz⟩ := hc
      obtain ⟨ad, ws, rfl, rs, ht⟩ := seq_of rel rv e2
      rcases ht with ⟨z, _⟩ | ⟨_, ht⟩
      · exact absurd z ht0
      unfold sortable at hso
      rw [Bool.and_eq_true, Bool.or_eq_true, List.all_eq_true] at hso
      have hal : ∀ x ∈ xs, ∀ y ∈ xs, D.alike x y = true := fun x hx y hy => List.all_eq_true.mp (hso.1 x hx) y hy
      have hrel : ∀ x ∈ xs, ∃ v, RD X.K π H x v := fun x hx => by
        obtain ⟨i, hi, rfl⟩ := List.mem_iff_getElem.mp hx
        obtain ⟨v, _, h⟩ := rs.get (List.getElem?_eq_getElem hi)
        exact ⟨v, h⟩
      refine ⟨ad, ws, xs, rfl, ht, ⟨rs.length.symm, fun p hp => ?_, fun x hx y hy => ?_, ?_, lim_le hsz⟩, fun l hl => ?_⟩
      · have A := alikeD_of (rds_zip rs p hp) (rds_zip rs p hp) (hal _ (zip_mem hp).2 _ (zip_mem hp).2)
        exact ⟨A.a, A.da⟩
      · obtain ⟨v1, r1⟩ := hrel x hx
        obtain ⟨v2, r2⟩ := hrel y hy
        have A := alikeD_of r1 r2 (hal x hx y hy)
        exact ⟨A.al, A.lt⟩
      · rcases hso.2 with h | h
        · refine .inl fun x hx => ?_
          have := List.all_eq_true.mp h x hx
          cases x with
          | tup ys =>
            cases ys with
            | nil => simp at this
            | cons y ys => exact ⟨y.py, D.pys ys, rfl⟩
          | _ => simp at this
        · refine .inr fun x hx => ?_
          have h1 := List.all_eq_true.mp h x hx
          obtain ⟨v1, r1⟩ := hrel x hx
          have A := alikeD_of r1 r1 (hal x hx x hx)
          refine ⟨A.na, fun ys z => ?_⟩
          cases x <;> first | (simp at h1; done) | cases z
      · refine p π _ _ (.new hl) (rel.new hl) ?_
        have e3 : sortD xs = ((ws.zip xs).mergeSort zle).map (·.2) := by
          have h1 := List.map_mergeSort (f := fun p : V × D => p.2) (r := zle) (s := fun a b => !D.lt b a) (l := ws.zip xs) fun p hp q hq => rfl
          rw [h1]
          unfold sortD
          congr 1
          exact (List.map_snd_zip (by rw [rs.length]; exact Nat.le_refl _)).symm
        rw [e3]
        exact RD.newL rel hl (rds_of_all _ fun q hq => rds_zip rs q (List.mem_mergeSort.mp hq))
    · exact p.elim
end
end VE
set_option Elab.async false
set_option linter.all false
set_option maxRecDepth 100000
set_option maxHeartbeats 1000000
set_option autoImplicit false
/-! V9: repr, slices, methods, stores, tests -/
namespace VE
open PySem PySem.Spec PyProof.Rows L2
section
variable {X : Cx} {S : Sta} {κ : Kx} {k : Nat} (G : Good X S κ k)
/-! repr -/
def rReprD (X : Cx) : List V → Hp → VK → Prop := fun xs H Q => ∃ a d, xs = [.ref a] ∧ Dp X.K H (.ref a) d ∧ d.showable = true ∧ d.depth ≤ 64 ∧ d.shown.length ≤ sizeLine ∧ d.hasDict = false ∧ Q (.str d.shown) H
include G
theorem cr_reprD : CallR X (.builtin "repr") (rReprD X) := by
  intro pins s σ H xs us Q I r ⟨a, d, e, h1, h2, h3, h4, h5, q⟩
  subst e
  obtain ⟨u, rfl, ru⟩ := vals1 r
  obtain ⟨as, ra⟩ := Dp.reads I _ _ _ h1 ru
  cases ru
  refine repr_of_reads' ra h2 (fun z => by rw [h5] at z; cases z) G.gu (by have := G.room.un; omega) (fun b o e => e) (fun h' u tk kk => ?_) h4
  exact ⟨V.str d.shown, H, I.kept (t' := tk) kk, ⟨_, rfl⟩, q⟩
theorem ra_repr : RAD X S (opBi .repr) (rReprD X) := by
  intro π H hs ds vs Q E rel r p
  rcases len_cases ds with rfl | ⟨a, rfl⟩ | ⟨a, b, rfl⟩ | ⟨a, b, c, r', rfl⟩ <;> try exact p.elim
  obtain ⟨v, rfl, rv⟩ := rds1 r
  have e : opBi .repr [a] hs = (if isSeq (deref a hs) && finD (deref a hs) && decide ((D.py (deref a hs)).shown.length ≤ lim) && (D.py (deref a hs)).showable then .ok (.str (D.py (deref a hs)).shown) hs else .bad) := rfl
  rw [e] at p
  split at p
  · rename_i hc
    rw [Bool.and_eq_true, Bool.and_eq_true, Bool.and_eq_true, decide_eq_true_eq] at hc
    obtain ⟨⟨⟨c0, c1⟩, c2⟩, c3⟩ := hc
    obtain ⟨h1, h2⟩ := dp_deref rel rv c1
    have hd : ∃ ad, v = .ref ad := by
      cases rv <;> first | exact ⟨_, rfl⟩ | (simp [deref, isSeq] at c0; done)
    obtain ⟨ad, rfl⟩ := hd
    have h3 := h2
    unfold SeqAt.shaped at h3
    rw [Bool.and_eq_true, decide_eq_true_eq] at h3
    exact ⟨ad, _, rfl, h1, c3, h3.2, lim_le c2, PyData.hasDict_of_canLay _ h3.1, p π H _ (.refl _ _) rel (.str _)⟩
  · exact p.elim
/-! slices -/
def tO (X : Cx) (S : Sta) (m : Env → HS → R D) : TO := fun σ H Q => ∃ π ρ hs, Rel X.K S.T π H hs ∧ Slots X.K S π H ρ σ ∧ gp X.K S (fun _ _ d o => partOf d = some o) π H Q (fun c d H' => S.W c d σ H') (m ρ hs)
omit G in
theorem po_no : PO X none (tO X S fun _ h => .ok .non h) := by
  refine ⟨fun pins s σ H Q I ⟨π, ρ, hs, rel, sl, p⟩ => po_none.run pins s σ H Q I (p π H none (.refl _ _) rel rfl)⟩
theorem po_e {e : Expr} {m : Env → HS → R D} (he : PE X e (tD X S m)) : PO X (some e) (tO X S fun ρ h => intR (m ρ h)) := by
  refine ⟨fun pins s σ H Q I q => (po_some he).run pins s σ H Q I ?_⟩
  obtain ⟨π, ρ, hs, rel, sl, p⟩ := q
  refine ⟨π, ρ, hs, rel, sl, ?_⟩
  unfold intR at p
  dsimp only at p
  cases hm : m ρ hs with
  | bad => rw [hm] at p; exact p
  | exc c d hs' => rw [hm] at p; exact p
  | ok x hs1 =>
    rw [hm] at p
    intro π1 H1 v e1 rel1 r1
    cases x <;> try exact p.elim
    cases r1
    exact ⟨_, rfl, p π1 H1 _ e1 rel1 rfl⟩
omit G in
theorem RDs.cut {K : PySem.W.Frag} {π : Pi} {H : Hp} {ds : List D} {vs : List V} (h : RDs K π H ds vs) (lo hi : Option Int) : RDs K π H (cutD ds lo hi) (cutV vs lo hi) := by
  unfold cutD cutV
  rw [h.length]
  exact (h.drop _).take _
def rSlD (K : PySem.W.Frag) : V → Option Int → Option Int → Hp → VK → Prop := fun x lo hi H Q => rSlA K x lo hi H Q ∨ rSlL K x lo hi H Q ∨ rSlS x lo hi H Q
omit G in
theorem sl_all : SlR X (rSlD X.K) := sl_tupA.or (sl_list.or sl_str)
theorem r_sl {π : Pi} {H : Hp} {hs : HS} {Q : VK} {E : XK} {x l u : D} {v : V} {lo hi : Option Int} (rel : Rel X.K S.T π H hs) (r : RD X.K π H x v) (hl : partOf l = some lo) (hu : partOf u = some hi) (p : post X.K S π H Q E (opSl x l u hs)) : rSlD X.K v lo hi H Q := by
  unfold opSl at p
  rw [hl, hu] at p
  cases r <;> try exact p.elim
  · dsimp only at p
    split at p
    · rename_i z hz
      exact .inr (.inr ⟨z, rfl, lim_le hz, p π H _ (.refl _ _) rel (.str _)⟩)
    · exact p.elim
  · rename_i a vs ds h1 h2
    refine .inl ⟨a, vs, rfl, h1.sq, fun hw => ?_, fun _ => post_newT G p rel (h2.cut lo hi)⟩
    have e : cutD ds lo hi = ds := by
      unfold cutD
      rw [h2.length, hw.1, hw.2, List.drop_zero, Nat.sub_zero, ← h2.length, List.take_length]
    dsimp only at p
    rw [e] at p
    exact p π H _ (.refl _ _) rel (.tup h1 h2)
  · rename_i a vs ds h1 h2
    exact .inr (.inl ⟨a, vs, rfl, h1.sq, post_newL G p rel (h2.cut lo hi)⟩)
  · rename_i a vs ds h1 h2
    exact .inr (.inl ⟨a, vs, rfl, h1.sq, post_newL G p rel (h2.cut lo hi)⟩)
  · rename_i a vs ds h1 h2
    dsimp only at p
    refine .inl ⟨a, vs, rfl, h1.sq, fun hw => ?_, fun hw => ?_⟩
    · rw [← h2.length] at hw
      rw [if_pos hw] at p
      exact p π H _ (.refl _ _) rel (.ctp h1 h2)
    · rw [← h2.length] at hw
      rw [if_neg hw] at p
      exact post_newT G p rel (h2.cut lo hi)
theorem d_slice {e : Expr} {lo hi : Option Expr} {ma ml mh : Env → HS → R D} {p2 pos : Pos} (he : PE X e (tD X S ma)) (hl : PO X lo (tO X S ml)) (hh : PO X hi (tO X S mh)) :
    PE X (.Subscript e (.Slice lo hi none p2) pos) (tD X S fun ρ h => (ma ρ h).bind fun x h1 => (ml ρ h1).bind fun l h2 => (mh ρ h2).bind fun u h3 => opSl x l u h3) := by
  refine (pe_slice sl_all he hl hh).imp fun σ H Q ⟨π, ρ, hs, rel, sl, p⟩ => ?_
  refine ⟨π, ρ, hs, rel, sl, gp_bind p fun x hs1 π1 H1 v e1 rel1 r1 p1 => ?_⟩
  refine ⟨π1, ρ, hs1, rel1, sl.mono rel e1, gp_bind p1 fun l hs2 π2 H2 lo' e2 rel2 r2 p2 => ?_⟩
  refine ⟨π2, ρ, hs2, rel2, (sl.mono rel e1).mono rel1 e2, gp_bind p2 fun u hs3 π3 H3 hi' e3 rel3 r3 p3 => ?_⟩
  exact r_sl G rel3 ((r1.mono e2).mono e3) r2 r3 p3
theorem d_rev {e : Expr} {ma : Env → HS → R D} {k' : Nat} {p1 p2 p3 pos : Pos} (he : PE X e (tD X S ma)) :
    PE X (.Subscript e (.Slice none none (some (.UnaryOp .USub (.Constant (.int 1) k' p1) p2)) p3) pos) (tD X S fun ρ h => (ma ρ h).bind fun x h1 => opRev x h1) := by
  refine (pe_revL he).imp fun σ H Q q => seq1 G q fun x v π H hs rel r p => ?_
  cases r <;> try exact p.elim
  rename_i a vs ds h1 h2
  exact ⟨a, vs, rfl, h1.sq, post_newL G p rel h2.reverse⟩
theorem d_neg {e : Expr} {ma : Env → HS → R D} {pos : Pos} (he : PE X e (tD X S ma)) : PE X (.UnaryOp .USub e pos) (tD X S fun ρ h => (ma ρ h).bind fun x h1 => opNeg x h1) := by
  refine (pe_un un_neg he).imp fun σ H Q q => seq1 G q fun x v π H hs rel r p => ?_
  cases r <;> try exact p.elim
  exact ⟨_, rfl, p π H _ (.refl _ _) rel (.int _)⟩
/-! truth -/
theorem d_not {a : Expr} {ma : Env → HS → R D} {pos : Pos} (ha : PE X a (tD X S ma)) : PE X (.UnaryOp .Not a pos) (tD X S fun ρ h => (ma ρ h).bind fun d h1 => tst d h1 fun t => .ok (.bl (!t)) h1) := by
  refine (pe_not ha).imp fun σ H Q ⟨π, ρ, hs, rel, sl, p⟩ => ⟨π, ρ, hs, rel, sl, gp_bind p fun x hs1 π1 H1 v e1 rel1 r1 p1 => ?_⟩
  cases r1 <;> try exact p1.elim
  exact ⟨_, rfl, p1 π1 H1 _ (.refl _ _) rel1 (.bl _)⟩
theorem d_one {a : Expr} {ma : Env → HS → R D} {op : BoolOp} {pos : Pos} (ha : PE X a (tD X S ma)) : PE X (.BoolOp op [a] pos) (tD X S fun ρ h => (ma ρ h).bind fun d h1 => tst d h1 fun t => .ok (.bl t) h1) := by
  refine (pe_one ha).imp fun σ H Q ⟨π, ρ, hs, rel, sl, p⟩ => ⟨π, ρ, hs, rel, sl, gp_bind p fun x hs1 π1 H1 v e1 rel1 r1 p1 => ?_⟩
  cases r1 <;> try exact p1.elim
  exact p1 π1 H1 _ (.refl _ _) rel1 (.bl _)
theorem d_and {a b : Expr} {rest : List Expr} {ma mb : Env → HS → R D} {pos : Pos} (ha : PE X a (tD X S ma)) (hb : PE X (.BoolOp .And (b :: rest) pos) (tD X S mb)) :
    PE X (.BoolOp .And (a :: b :: rest) pos) (tD X S fun ρ h => (ma ρ h).bind fun d h1 => tst d h1 fun t => if t then (mb ρ h1).bind fun d h2 => tst d h2 fun t => .ok (.bl t) h2 else .ok (.bl false) h1) := by
  refine (pe_and ha hb).imp fun σ H Q ⟨π, ρ, hs, rel, sl, p⟩ => ⟨π, ρ, hs, rel, sl, gp_bind p fun x hs1 π1 H1 v e1 rel1 r1 p1 => ?_⟩
  cases r1 with
  | bl t =>
    refine ⟨t, rfl, ?_⟩
    dsimp only [tst] at p1
    split
    · rename_i ht
      rw [if_pos ht] at p1
      refine ⟨π1, ρ, hs1, rel1, sl.mono rel e1, gp_bind p1 fun y hs2 π2 H2 w e2 rel2 r2 p2 => ?_⟩
      cases r2 <;> try exact p2.elim
      exact p2 π2 H2 _ (.refl _ _) rel2 (.bl _)
    · rename_i ht
      rw [if_neg ht] at p1
      exact p1 π1 H1 _ (.refl _ _) rel1 (.bl _)
  | _ => exact p1.elim
theorem d_or {a b : Expr} {rest : List Expr} {ma mb : Env → HS → R D} {pos : Pos} (ha : PE X a (tD X S ma)) (hb : PE X (.BoolOp .Or (b :: rest) pos) (tD X S mb)) :
    PE X (.BoolOp .Or (a :: b :: rest) pos) (tD X S fun ρ h => (ma ρ h).bind fun d h1 => tst d h1 fun t => if t then .ok (.bl true) h1 else (mb ρ h1).bind fun d h2 => tst d h2 fun t => .ok (.bl t) h2) := by
  refine (pe_or ha hb).imp fun σ H Q ⟨π, ρ, hs, rel, sl, p⟩ => ⟨π, ρ, hs, rel, sl, gp_bind p fun x hs1 π1 H1 v e1 rel1 r1 p1 => ?_⟩
  cases r1 with
  | bl t =>
    refine ⟨t, rfl, ?_⟩
    dsimp only [tst] at p1
    split
    · rename_i ht
      rw [if_pos ht] at p1
      exact p1 π1 H1 _ (.refl _ _) rel1 (.bl _)
    · rename_i ht
      rw [if_neg ht] at p1
      refine ⟨π1, ρ, hs1, rel1, sl.mono rel e1, gp_bind p1 fun y hs2 π2 H2 w e2 rel2 r2 p2 => ?_⟩
      cases r2 <;> try exact p2.elim
      exact p2 π2 H2 _ (.refl _ _) rel2 (.bl _)
  | _ => exact p1.elim
theorem d_ife {c a b : Expr} {mc ma mb : Env → HS → R D} {pos : Pos} (hc : PT X c (tDT X S mc)) (ha : PE X a (tD X S ma)) (hb : PE X b (tD X S mb)) :
    PE X (.IfExp c a b pos) (tD X S fun ρ h => (mc ρ h).bind fun d h1 => tst d h1 fun t => if t then ma ρ h1 else mb ρ h1) := by
  refine (pe_ifExp hc ha hb).imp fun σ H Q ⟨π, ρ, hs, rel, sl, p⟩ => ?_
  refine ⟨π, ρ, hs, rel, sl, gp_bind p fun x hs1 π1 H1 v e1 rel1 r1 p1 => ?_⟩
  cases r1 with
  | bl t =>
    refine ⟨t, rfl, ?_⟩
    dsimp only [tst] at p1 ⊢
    split
    · rename_i ht
      rw [if_pos ht] at p1
      exact ⟨π1, ρ, hs1, rel1, sl.mono rel e1, p1⟩
    · rename_i ht
      rw [if_neg ht] at p1
      exact ⟨π1, ρ, hs1, rel1, sl.mono rel e1, p1⟩
  | _ => exact p1.elim
/-! tests -/
theorem dt_not {a : Expr} {ma : Env → HS → R D} {pos : Pos} (ha : PT X a (tDT X S ma)) : PT X (.UnaryOp .Not a pos) (tDT X S fun ρ h => (ma ρ h).bind fun d h1 => tst d h1 fun t => .ok (.bl (!t)) h1) := by
  refine (pt_not ha).imp fun σ H Q ⟨π, ρ, hs, rel, sl, p⟩ => ⟨π, ρ, hs, rel, sl, gp_bind p fun x hs1 π1 H1 v e1 rel1 r1 p1 => ?_⟩
  cases r1 <;> try exact p1.elim
  rename_i t
  obtain ⟨c, ec, q⟩ := p1 π1 H1 _ (.refl _ _) rel1 (.bl _)
  cases ec
  exact ⟨_, rfl, q⟩
theorem dw_one {a : Expr} {ma : Env → HS → R D} {op : BoolOp} {pos : Pos} (ha : PT X a (tDT X S ma)) : PW X (.BoolOp op [a] pos) (tDT X S fun ρ h => (ma ρ h).bind fun d h1 => tst d h1 fun t => .ok (.bl t) h1) := by
  have h : PW X (.BoolOp op [a] pos) (tDT X S ma) := by cases op <;> first | exact pw_and1 ha | exact pw_or1 ha
  refine h.imp fun σ H Q ⟨π, ρ, hs, rel, sl, p⟩ => ⟨π, ρ, hs, rel, sl, gp_bind p fun x hs1 π1 H1 v e1 rel1 r1 p1 => ?_⟩
  cases r1 <;> try exact p1.elim
  exact p1 π1 H1 _ (.refl _ _) rel1 (.bl _)
theorem dw_and {a b : Expr} {rest : List Expr} {ma mb : Env → HS → R D} {pos : Pos} (ha : PT X a (tDT X S ma)) (hb : PW X (.BoolOp .And (b :: rest) pos) (tDT X S mb)) :
    PW X (.BoolOp .And (a :: b :: rest) pos) (tDT X S fun ρ h => (ma ρ h).bind fun d h1 => tst d h1 fun t => if t then (mb ρ h1).bind fun d h2 => tst d h2 fun t => .ok (.bl t) h2 else .ok (.bl false) h1) := by
  refine (pw_and ha hb).imp fun σ H Q ⟨π, ρ, hs, rel, sl, p⟩ => ?_
  refine ⟨π, ρ, hs, rel, sl, gp_bind p fun x hs1 π1 H1 v e1 rel1 r1 p1 => ?_⟩
  cases r1 with
  | bl t =>
    refine ⟨t, rfl, ?_⟩
    dsimp only [tst] at p1 ⊢
    split
    · rename_i ht
      rw [if_pos ht] at p1
      refine ⟨π1, ρ, hs1, rel1, sl.mono rel e1, gp_bind p1 fun y hs2 π2 H2 w e2 rel2 r2 p2 => ?_⟩
      cases r2 <;> try exact p2.elim
      exact p2 π2 H2 _ (.refl _ _) rel2 (.bl _)
    · rename_i ht
      rw [if_neg ht] at p1
      obtain ⟨c, ec, q⟩ := p1 π1 H1 _ (.refl _ _) rel1 (.bl _)
      cases ec; exact q
  | _ => exact p1.elim
theorem dw_or {a b : Expr} {rest : List Expr} {ma mb : Env → HS → R D} {pos : Pos} (ha : PT X a (tDT X S ma)) (hb : PW X (.BoolOp .Or (b :: rest) pos) (tDT X S mb)) :
    PW X (.BoolOp .Or (a :: b :: rest) pos) (tDT X S fun ρ h => (ma ρ h).bind fun d h1 => tst d h1 fun t => if t then .ok (.bl true) h1 else (mb ρ h1).bind fun d h2 => tst d h2 fun t => .ok (.bl t) h2) := by
  refine (pw_or ha hb).imp fun σ H Q ⟨π, ρ, hs, rel, sl, p⟩ => ?_
  refine ⟨π, ρ, hs, rel, sl, gp_bind p fun x hs1 π1 H1 v e1 rel1 r1 p1 => ?_⟩
  cases r1 with
  | bl t =>
    refine ⟨t, rfl, ?_⟩
    dsimp only [tst] at p1 ⊢
    split
    · rename_i ht
      rw [if_pos ht] at p1
      obtain ⟨c, ec, q⟩ := p1 π1 H1 _ (.refl _ _) rel1 (.bl _)
      cases ec; exact q
    · rename_i ht
      rw [if_neg ht] at p1
      refine ⟨π1, ρ, hs1, rel1, sl.mono rel e1, gp_bind p1 fun y hs2 π2 H2 w e2 rel2 r2 p2 => ?_⟩
      cases r2 <;> try exact p2.elim
      exact p2 π2 H2 _ (.refl _ _) rel2 (.bl _)
  | _ => exact p1.elim
/-! a op1 b op2 c -/
theorem chain_sound {ma mb mc : Env → HS → R D} {f f' : D → D → HS → R D} {r r' : R2} {σ : L2.St} {H : Hp} {Q : VK} (hr : R2D X S f r) (hr' : R2D X S f' r')
    (h : tD X S (fun ρ h => (ma ρ h).bind fun x h1 => (mb ρ h1).bind fun y h2 => (f x y h2).bind fun d h3 => tst d h3 fun t => if t then (mc ρ h3).bind fun z h4 => f' y z h4 else .ok (.bl false) h3) σ H Q) : tChain r r' (tD X S ma) (tD X S mb) (tD X S mc) σ H Q := by
  obtain ⟨π, ρ, hs, rel, sl, p⟩ := h
  refine ⟨π, ρ, hs, rel, sl, gp_bind p fun x hs1 π1 H1 v e1 rel1 r1 p1 => ?_⟩
  refine ⟨π1, ρ, hs1, rel1, sl.mono rel e1, gp_bind p1 fun y hs2 π2 H2 w e2 rel2 r2 p2 => ?_⟩
  refine hr π2 H2 hs2 x y v w _ (fun c d H' => S.W c d σ H') rel2 (r1.mono e2) r2 (gp_bind p2 fun d hs3 π3 H3 z e3 rel3 r3 p3 => ?_)
  cases r3 with
  | bl t =>
    refine ⟨t, rfl, ?_⟩
    dsimp only [tst] at p3 ⊢
    split
    · rename_i ht
      rw [if_pos ht] at p3
      refine ⟨π3, ρ, hs3, rel3, ((sl.mono rel e1).mono rel1 e2).mono rel2 e3, gp_bind p3 fun z' hs4 π4 H4 w' e4 rel4 r4 p4 => ?_⟩
      exact hr' π4 H4 hs4 y z' w w' _ _ rel4 ((r2.mono e3).mono e4) r4 p4
    · rename_i ht
      rw [if_neg ht] at p3
      exact p3 π3 H3 _ (.refl _ _) rel3 (.bl _)
  | _ => exact p3.elim
theorem d_chain {a b c : Expr} {op op' : CmpOp} {ma mb mc : Env → HS → R D} {f f' : D → D → HS → R D} {r r' : R2} {pos : Pos} (ho : OpR X (compareOp op) r) (ho' : OpR X (compareOp op') r') (hr : R2D X S f r) (hr' : R2D X S f' r')
    (ha : PE X a (tD X S ma)) (hb : PE X b (tD X S mb)) (hc : PE X c (tD X S mc)) (hm : lastMarks [op, op'] [b, c] = false) :
    PE X (.Compare a [op, op'] [b, c] pos) (tD X S fun ρ h => (ma ρ h).bind fun x h1 => (mb ρ h1).bind fun y h2 => (f x y h2).bind fun d h3 => tst d h3 fun t => if t then (mc ρ h3).bind fun z h4 => f' y z h4 else .ok (.bl false) h3) :=
  (pe_chain ho ho' ha hb hc hm).imp fun σ H Q q => chain_sound G hr hr' q
theorem dt_chain {a b c : Expr} {op op' : CmpOp} {ma mb mc : Env → HS → R D} {f f' : D → D → HS → R D} {r r' : R2} {pos : Pos} (ho : OpR X (compareOp op) r) (ho' : OpR X (compareOp op') r') (hr : R2D X S f r) (hr' : R2D X S f' r')
    (ha : PE X a (tD X S ma)) (hb : PE X b (tD X S mb)) (hc : PE X c (tD X S mc)) (hm : lastMarks [op, op'] [b, c] = false) :
    PT X (.Compare a [op, op'] [b, c] pos) (tDT X S fun ρ h => (ma ρ h).bind fun x h1 => (mb ρ h1).bind fun y h2 => (f x y h2).bind fun d h3 => tst d h3 fun t => if t then (mc ρ h3).bind fun z h4 => f' y z h4 else .ok (.bl false) h3) :=
  (pt_chain ho ho' ha hb hc hm).imp fun σ H Q q => chain_sound G hr hr' q
/-! a op b -/
theorem d_cmp2 {a b : Expr} {op : CmpOp} {ma mb : Env → HS → R D} {f : D → D → HS → R D} {r : R2} {pos : Pos} (ho : OpR X (compareOp op) r) (hr : R2D X S f r) (ha : PE X a (tD X S ma)) (hb : PE X b (tD X S mb)) (hm : behindInMarks op b = false) :
    PE X (.Compare a [op] [b] pos) (tD X S fun ρ h => (ma ρ h).bind fun x h1 => (mb ρ h1).bind fun y h2 => f x y h2) := d_op2 G (pe_cmpR ho ha hb hm) hr
theorem dt_cmp2 {a b : Expr} {op : CmpOp} {ma mb : Env → HS → R D} {f : D → D → HS → R D} {r : R2} {pos : Pos} (ho : OpR X (compareOp op) r) (hr : R2D X S f r) (ha : PE X a (tD X S ma)) (hb : PE X b (tD X S mb)) (hm : behindInMarks op b = false) :
    PT X (.Compare a [op] [b] pos) (tDT X S fun ρ h => (ma ρ h).bind fun x h1 => (mb ρ h1).bind fun y h2 => f x y h2) :=
  (pt_cmpR ho ha hb hm).imp fun σ H Q q => seq2 G q fun x y v w π H hs rel r1 r2 p => hr π H hs x y v w _ _ rel r1 r2 p
theorem isN_sound {neg : Bool} {ma : Env → HS → R D} {σ : L2.St} {H : Hp} {Q : VK} (h : tD X S (fun ρ h => (ma ρ h).bind fun x h1 => (R.ok D.non h1).bind fun y h2 => opCmp (if neg then .notN else .isN) x y h2) σ H Q) : (if neg then tNotN (tD X S ma) else tIsN (tD X S ma)) σ H Q := by
  have key : ∀ x v π H hs, Rel X.K S.T π H hs → RD X.K π H x v → post X.K S π H Q (fun c d H' => S.W c d σ H') (opCmp (if neg then .notN else .isN) x .non hs) → Q (.bl (if neg then !decide (v = .non) else decide (v = .non))) H := fun x v π H hs rel r p => by
    have hd := dec_non G r
    cases neg with
    | true =>
      show Q (.bl (!decide (v = .non))) H
      rw [hd]
      exact p π H _ (.refl _ _) rel (.bl _)
    | false =>
      show Q (.bl (decide (v = .non))) H
      rw [hd]
      exact p π H _ (.refl _ _) rel (.bl _)
  cases neg with
  | true => exact seq1 G h fun x v π H hs rel r p => key x v π H hs rel r p
  | false => exact seq1 G h fun x v π H hs rel r p => key x v π H hs rel r p
theorem d_isN {a : Expr} {ma : Env → HS → R D} {j : Nat} {pos pos' : Pos} (ha : PE X a (tD X S ma)) : PE X (.Compare a [.Is] [.Constant .none j pos'] pos) (tD X S fun ρ h => (ma ρ h).bind fun x h1 => (R.ok D.non h1).bind fun y h2 => opCmp .isN x y h2) :=
  (pe_cmp (pc_isN ha)).imp fun σ H Q q => isN_sound G (neg := false) q
theorem dt_isN {a : Expr} {ma : Env → HS → R D} {j : Nat} {pos pos' : Pos} (ha : PE X a (tD X S ma)) : PT X (.Compare a [.Is] [.Constant .none j pos'] pos) (tDT X S fun ρ h => (ma ρ h).bind fun x h1 => (R.ok D.non h1).bind fun y h2 => opCmp .isN x y h2) :=
  (pt_cmp (pc_isN ha)).imp fun σ H Q q => isN_sound G (neg := false) q
theorem d_notN {a : Expr} {ma : Env → HS → R D} {j : Nat} {pos pos' : Pos} (ha : PE X a (tD X S ma)) : PE X (.Compare a [.IsNot] [.Constant .none j pos'] pos) (tD X S fun ρ h => (ma ρ h).bind fun x h1 => (R.ok D.non h1).bind fun y h2 => opCmp .notN x y h2) :=
  (pe_cmp (pc_notN ha)).imp fun σ H Q q => isN_sound G (neg := true) q
theorem dt_notN {a : Expr} {ma : Env → HS → R D} {j : Nat} {pos pos' : Pos} (ha : PE X a (tD X S ma)) : PT X (.Compare a [.IsNot] [.Constant .none j pos'] pos) (tDT X S fun ρ h => (ma ρ h).bind fun x h1 => (R.ok D.non h1).bind fun y h2 => opCmp .notN x y h2) :=
  (pt_cmp (pc_notN ha)).imp fun σ H Q q => isN_sound G (neg := true) q
/-! stores -/
def rSetD : TSet := rSetL
omit G in
theorem r_set {π : Pi} {H : Hp} {hs : HS} {Q : Hp → Prop} {o i d : D} {ov iv dv : V} (rel : Rel X.K S.T π H hs) (ro : RD X.K π H o ov) (ri : RD X.K π H i iv) (rd : RD X.K π H d dv)
    (p : match opSet o i d hs with | .ok _ hs' => ∀ π' H', Ext π H π' H' → Rel X.K S.T π' H' hs' → Q H' | _ => False) : rSetL ov iv dv H Q := by
  cases ro <;> try exact p.elim
  rename_i a j hj
  cases ri <;> try exact p.elim
  · rename_i kk
    unfold opSet at p
    dsimp only at p
    cases hi : hs[j]? with
    | none => rw [hi] at p; exact p.elim
    | some u =>
      rw [hi] at p
      cases u with
      | lst xs =>
        dsimp only at p
        obtain ⟨vs, e1, r1⟩ := rel.obj j _ a hi hj
        cases hm : ixN xs.length kk with
        | none => rw [hm] at p; exact p.elim
        | some m =>
          rw [hm] at p
          have hw : Ext π H π (upd H a (.lst (vs.set m dv))) := Ext.write hj (by rw [e1]; simp)
          refine ⟨a, vs, kk, m, rfl, rfl, e1, by rw [← r1.length]; exact hm, p π _ hw (rel.write hj (by rw [e1]; simp) ⟨_, upd_same, (r1.set m rd).mono hw⟩)⟩
      | _ => exact p.elim
end
/-! methods -/
section
variable {X : Cx} {S : Sta} {κ : Kx} {k : Nat} (G : Good X S κ k)
def RMD (X : Cx) (S : Sta) (f : D → List D → HS → R D) (r : V → List V → Hp → VK → Prop) : Prop := ∀ π H hs a ds v vs (Q : VK) (E : XK), Rel X.K S.T π H hs → RD X.K π H a v → RDs X.K π H ds vs → post X.K S π H Q E (f a ds hs) → r v vs H Q
theorem ref_lst {K : PySem.W.Frag} {T : List NdefX.NTab} {π : Pi} {H : Hp} {hs : HS} {a : Addr} {i : Nat} {xs : List D} (rel : Rel K T π H hs) (hi : π.obj[i]? = some a) (e : hs[i]? = some (.lst xs)) : ∃ vs, H a = some (.lst vs) ∧ RDs K π H xs vs := rel.obj i _ a e hi
theorem rm_append : RMD X S (opMt .append) rAppend := by
  intro π H hs a ds v vs Q E rel ra r p
  cases ra <;> try exact p.elim
  rename_i ad i hi
  rcases len_cases ds with rfl | ⟨d, rfl⟩ | ⟨d, e, rfl⟩ | ⟨d, e, c, r', rfl⟩ <;> try exact p.elim
  obtain ⟨w, rfl, rw'⟩ := rds1 r
  unfold opMt at p
  dsimp only at p
  cases hu : hs[i]? with
  | none => rw [hu] at p; exact p.elim
  | some u =>
    rw [hu] at p
    cases u with
    | lst xs =>
      dsimp only at p
      split at p
      · rename_i hl
        obtain ⟨ws, e1, r1⟩ := ref_lst rel hi hu
        have hw : Ext π H π (upd H ad (.lst (ws ++ [w]))) := Ext.write hi (by rw [e1]; simp)
        refine ⟨ad, ws, w, rfl, rfl, e1, by rw [← r1.length]; exact lim_lt hl, p π _ _ hw (rel.write hi (by rw [e1]; simp) ⟨_, upd_same, (r1.snoc rw').mono hw⟩) .non⟩
      · exact p.elim
    | _ => exact p.elim
theorem rm_extend : RMD X S (opMt .extend) rExtend := by
  intro π H hs a ds v vs Q E rel ra r p
  cases ra <;> try exact p.elim
  rename_i ad i hi
  rcases len_cases ds with rfl | ⟨d, rfl⟩ | ⟨d, e, rfl⟩ | ⟨d, e, c, r', rfl⟩ <;> try exact p.elim
  obtain ⟨w, rfl, rw'⟩ := rds1 r
  unfold opMt at p
  dsimp only at p
  cases hu : hs[i]? with
  | none => rw [hu] at p; exact p.elim
  | some u =>
    rw [hu] at p
    cases u with
    | lst xs =>
      dsimp only at p
      cases hd : lstOf d hs with
      | none => rw [hd] at p; exact p.elim
      | some ys =>
        rw [hd] at p
        dsimp only at p
        split at p
        · rename_i hl
          obtain ⟨ws, e1, r1⟩ := ref_lst rel hi hu
          obtain ⟨b, zs, rfl, e2, r2⟩ := lstOf_rd rel rw' hd
          rw [r1.length, r2.length] at hl
          have hw : Ext π H π (upd H ad (.lst (ws ++ zs))) := Ext.write hi (by rw [e1]; simp)
          exact ⟨ad, b, ws, zs, rfl, rfl, e1, e2, lim_le hl, p π _ _ hw (rel.write hi (by rw [e1]; simp) ⟨_, upd_same, (r1.append r2).mono hw⟩) .non⟩
        · exact p.elim
    | _ => exact p.elim
theorem RDs.dropLast {K : PySem.W.Frag} {π : Pi} {H : Hp} {ds : List D} {vs : List V} (h : RDs K π H ds vs) : RDs K π H ds.dropLast vs.dropLast := by
  rw [List.dropLast_eq_take, List.dropLast_eq_take, h.length]
  exact h.take _
theorem rm_pop : RMD X S (opMt .pop) rPop := by
  intro π H hs a ds v vs Q E rel ra r p
  cases ra <;> try exact p.elim
  rename_i ad i hi
  rcases len_cases ds with rfl | ⟨d, rfl⟩ | ⟨d, e, rfl⟩ | ⟨d, e, c, r', rfl⟩ <;> try exact p.elim
  cases r
  unfold opMt at p
  dsimp only at p
  cases hu : hs[i]? with
  | none => rw [hu] at p; exact p.elim
  | some u =>
    rw [hu] at p
    cases u with
    | lst xs =>
      dsimp only at p
      cases hy : xs[xs.length - 1]? with
      | none => rw [hy] at p; exact p.elim
      | some y =>
        rw [hy] at p
        obtain ⟨ws, e1, r1⟩ := ref_lst rel hi hu
        obtain ⟨w, hw1, hw2⟩ := r1.get hy
        have hw : Ext π H π (upd H ad (.lst ws.dropLast)) := Ext.write hi (by rw [e1]; simp)
        exact ⟨ad, ws, w, rfl, rfl, e1, by rw [← r1.length]; exact hw1, p π _ _ hw (rel.write hi (by rw [e1]; simp) ⟨_, upd_same, r1.dropLast.mono hw⟩) (hw2.mono hw)⟩
    | _ => exact p.elim
theorem strsOf_rd {K : PySem.W.Frag} {π : Pi} {H : Hp} : ∀ {ds : List D} {vs : List V} {ys : List Str}, RDs K π H ds vs → strsOf ds = some ys → vs = ys.map V.str
  | [], _, _, r, h => by cases r; cases h; rfl
  | d :: ds, _, ys, r, h => by
    cases r with
    | cons r1 r2 =>
      cases r1 <;> try (simp [strsOf] at h; done)
      rename_i x
      unfold strsOf at h
      cases h2 : strsOf ds with
      | none => rw [h2] at h; cases h
      | some zs =>
        rw [h2] at h
        cases h
        rw [strsOf_rd r2 h2]; rfl
def rJoinD (K : PySem.W.Frag) : V → List V → Hp → VK → Prop := fun x xs H Q => ∃ a p, ∃ ys : List Str, x = .str a ∧ xs = [.ref p] ∧ (SqL K H p (ys.map V.str) ∨ SqT K H p (ys.map V.str)) ∧ (ys.map (·.length)).sum + ys.length * a.length ≤ 16777216 ∧ Q (.str (Txt.join a ys)) H
theorem rm_join : RMD X S (opMt .join) (rJoinD X.K) := by
  intro π H hs a ds v vs Q E rel ra r p
  cases ra <;> try exact p.elim
  rename_i x
  rcases len_cases ds with rfl | ⟨d, rfl⟩ | ⟨d, e, rfl⟩ | ⟨d, e, c, r', rfl⟩ <;> try exact p.elim
  obtain ⟨w, rfl, rw'⟩ := rds1 r
  unfold opMt at p
  dsimp only at p
  cases h1 : seqOf d hs with
  | none => rw [h1] at p; exact p.elim
  | some xs =>
    rw [h1] at p
    dsimp only at p
    cases h2 : strsOf xs with
    | none => rw [h2] at p; exact p.elim
    | some ys =>
      rw [h2] at p
      dsimp only at p
      split at p
      · rename_i hl
        obtain ⟨ad, ws, rfl, rs, ht⟩ := seq_of rel rw' h1
        have e := strsOf_rd rs h2
        subst e
        refine ⟨x, ad, ys, rfl, rfl, ?_, Nat.le_trans hl (by decide), p π H _ (.refl _ _) rel (.str _)⟩
        rcases ht with ⟨_, ht, _⟩ | ⟨_, ht⟩
        · exact .inr ht
        · exact .inl ht
      · exact p.elim
theorem mtOk_ty {π : Pi} {H : Hp} {hs : HS} {m : MT} {a : D} {v : V} (rel : Rel X.K S.T π H hs) (ra : RD X.K π H a v) (h : mtOk m a hs = true) : tyV X.K (if m = .join then "str" else "list") v H := by
  cases ra with
  | str x => cases m <;> first | rfl | (simp [mtOk] at h; done)
  | @ref ad i hi =>
    have key : ∀ m, m ≠ .join → mtOk m (.ref i) hs = (match hs[i]? with | some (.lst _) => true | _ => false) := fun m hm => by cases m <;> first | rfl | exact absurd rfl hm
    by_cases hm : m = .join
    · subst hm; simp [mtOk] at h
    · rw [key m hm] at h
      rw [if_neg hm]
      cases hu : hs[i]? with
      | none => rw [hu] at h; cases h
      | some u =>
        rw [hu] at h
        cases u with
        | lst xs =>
          obtain ⟨ws, e1, r1⟩ := ref_lst rel hi hu
          exact .inl ⟨rfl, ws, .of e1⟩
        | _ => cases h
  | _ => cases m <;> (simp [mtOk] at h; done)
include G
theorem d_mt {o e : Expr} {es : List Expr} {ma mb : Env → HS → R D} {m : MT} {T id : String} {name : Str} {apos cpos : Pos} {r : V → List V → Hp → VK → Prop} (hT : (if m = .join then "str" else "list") = T) (pa : PlainAttrs T) (slot : Slot T name id) (hty : typeOf (.builtin id) = pure (.type "method_descriptor")) (hm : MtR X id r) (hr : RMD X S (opMt m) r)
    (ho : PE X o (tD X S ma)) (ha : PA X (e :: es) (tDs X S mb)) (hbase : attributeBase o name X.env (eval o X.env) = eval o X.env)
    (hfew : ((backTo cpos (starEach (e :: es) X.env)).all (fun x => !x.1) && (backToKw cpos (keywordEach [] X.env)).all (fun x => x.1.isSome)
      && decide ((e :: es).length + ([] : List Keyword).length + (if ([] : List Keyword).isEmpty then 0 else 1) < 30)) = true)
    (hline : (apos.endLine == cpos.line) = true) (hs : starEach (e :: es) X.env = (false, eval e X.env) :: starEach es X.env) (hplain : (backTo cpos (starEach es X.env)).any (·.1) = false) :
    PE X (.Call (.Attribute o name apos) (e :: es) [] cpos) (tD X S fun ρ h => (ma ρ h).bind fun a h1 => if mtOk m a h1 then (mb ρ h1).bind fun l h2 => opMt m a (its l) h2 else .bad) := by
  refine (pe_bm pa slot hty hm ho ha hbase hfew hline hs hplain).imp fun σ H Q ⟨π, ρ, hs, rel, sl, p⟩ => ?_
  refine ⟨π, ρ, hs, rel, sl, gp_bind p fun x hs1 π1 H1 v e1 rel1 r1 p1 => ?_⟩
  split at p1
  · rename_i hk
    refine ⟨by rw [← hT]; exact mtOk_ty rel1 r1 hk, ⟨π1, ρ, hs1, rel1, sl.mono rel e1, gp_bind p1 fun l hs2 π2 H2 vs e2 rel2 r2 p2 => ?_⟩⟩
    exact hr π2 H2 hs2 x _ v vs Q _ rel2 (r1.mono e2) r2 p2
  · exact p1.elim
theorem d_mt0 {o : Expr} {ma : Env → HS → R D} {m : MT} {T id : String} {name : Str} {apos cpos : Pos} {r : V → List V → Hp → VK → Prop} (hT : (if m = .join then "str" else "list") = T) (pa : PlainAttrs T) (slot : Slot T name id) (hty : typeOf (.builtin id) = pure (.type "method_descriptor")) (hm : MtR X id r) (hr : RMD X S (opMt m) r)
    (ho : PE X o (tD X S ma)) (hbase : attributeBase o name X.env (eval o X.env) = eval o X.env) (hline : (apos.endLine == cpos.line) = true) :
    PE X (.Call (.Attribute o name apos) [] [] cpos) (tD X S fun ρ h => (ma ρ h).bind fun a h1 => if mtOk m a h1 then (R.ok (.lst []) h1).bind fun l h2 => opMt m a (its l) h2 else .bad) := by
  refine (pe_bm0 pa slot hty hm ho hbase hline).imp fun σ H Q ⟨π, ρ, hs, rel, sl, p⟩ => ?_
  refine ⟨π, ρ, hs, rel, sl, gp_bind p fun x hs1 π1 H1 v e1 rel1 r1 p1 => ?_⟩
  split at p1
  · rename_i hk
    refine ⟨by rw [← hT]; exact mtOk_ty rel1 r1 hk, ?_⟩
    exact hr π1 H1 hs1 x [] v [] Q _ rel1 r1 .nil p1
  · exact p1.elim
end
end VE
set_option Elab.async false
set_option linter.all false
set_option maxRecDepth 100000
set_option maxHeartbeats 1000000
set_option autoImplicit false
/-! V10: what is walked -/
namespace VE
open PySem PySem.Spec PyProof.Rows L2
/-! ### enumerate over a tuple -/
theorem meets_enum1 {v : Value} {o : Obj} {P : Heap → Prop} (B : Begins v o P) :
    Meets (Builtin.«enumerate.__new__» ⟨[.type "enumerate", v], []⟩) (fun _ R s => P s.heap ∧
      R (.ok (.ret (.ref (s.heap.push o).objs.size))) { s with heap := (s.heap.push o).push { cls := .type "enumerate", data := .fields #[.none, .bool false, .ref s.heap.objs.size, rawInt 0, .none, .none] } }) :=
  .of_wp fun prog w A R s ⟨hP, hR⟩ => by
    obtain ⟨hp, gs, dr, tk, os⟩ := s
    have hsub := sub_enumerate
    have step : ∀ {A' : Around} {E : Value → Shared → Prop} {Q : Value → Shared → Prop}, Q (.ref hp.objs.size) ⟨hp.push o, gs, dr, tk, os⟩ → wpAny (model prog w) A' (pyIter v) Q E ⟨hp, gs, dr, tk, os⟩ := fun q => B.iter prog w _ _ ⟨hp, gs, dr, tk, os⟩ _ hP q
    wp_walk using step
    refine wpAny_stack_any fun st => wpAny_pure ?_
    split
    · rename_i c _ _ _ _ _
      cases (c == Value.type "enumerate") <;> (wp_walk using step; exact ⟨_, rfl, hR⟩)
    · wp_walk using step
      exact ⟨_, rfl, hR⟩
theorem call_enum1 {prog : Program} {w : World} {A : Around} {E : Value → Shared → Prop} {s : Shared} {v : Value} {o : Obj} {P : Heap → Prop} {Q : Value → Shared → Prop} (B : Begins v o P) (hP : P s.heap)
    (h : ∀ h', IsEnum h' (s.heap.objs.size + 1) s.heap.objs.size 0 .none → h'.get? s.heap.objs.size = some o → (∀ b o, s.heap.get? b = some o → h'.get? b = some o) → Q (.ref (s.heap.objs.size + 1)) { s with heap := h' }) :
    wpAny (model prog w) A (call (.type "enumerate") [v]) Q E s := by
  refine callType_new F.called_enumerate (by decide) (F.typeCall_enumerate_1 _) (F.newCall_enumerate_1 _) (fun obj => F.args_object_init_2 obj _) F.entry_enumerate_new (meets_enum1 B) ⟨hP, ?_⟩
  have sz : (s.heap.push o).objs.size = s.heap.objs.size + 1 := Heap.size_push ..
  show _ ∧ _
  rw [sz]
  have made : IsEnum ((s.heap.push o).push { cls := .type "enumerate", data := .fields #[.none, .bool false, .ref s.heap.objs.size, rawInt 0, .none, .none] }) (s.heap.objs.size + 1) s.heap.objs.size 0 .none := by
    have q := Heap.get?_push_size (s.heap.push o) (o := { cls := .type "enumerate", data := .fields #[.none, .bool false, .ref s.heap.objs.size, rawInt 0, .none, .none] }) rfl
    rw [sz] at q
    exact q
  exact ⟨⟨_, made, rfl⟩, h _ made (Heap.get?_push_of_some _ (Heap.get?_push_size _ B.free)) fun b u x => Heap.get?_push_of_some _ (Heap.get?_push_of_some _ x)⟩
def IteT (K : PySem.W.Frag) (a : Addr) : It :=
  ⟨fun i H => ∃ (xs : List V) (x : V), SqT K H a xs ∧ xs[i]? = some x, fun i H v H' => ∃ T x, v = .ref T ∧ H T = none ∧ H' = upd H T (.tup [.int (i : Nat), x]) ∧ ∀ xs, SqT K H a xs → xs[i]? = some x, fun i H => ∃ xs : List V, SqT K H a xs ∧ xs.length = i⟩
theorem turn_enumT {P : Program} {w : World} {K : PySem.W.Frag} {elts : List Expr} {kk : Nat} {tpos : Pos} (a e it : Addr) (hae : a ≠ it) (hne : e ≠ it) (hea : e ≠ a) :
    Turn P w K (.Tuple elts kk tpos) (IteT K a) [e, it] e (fun i h => (∃ old, IsEnum h e it ((i : Nat) : Int) old) ∧ h.IsTupleIter it a i) where
  mem := by simp
  obj := fun i h st b hb => by
    obtain ⟨⟨old, he⟩, ⟨o, ho, hc, hd⟩⟩ := st
    rcases (by simpa using hb : b = e ∨ b = it) with z | z
    · rw [z]; exact ⟨_, he, fun v q => nomatch q⟩
    · exact ⟨o, by rw [z]; exact ho, fun v q => by rw [hd] at q; cases q⟩
  keep := fun i h h' st k => ⟨⟨st.1.choose, k e (by simp) _ st.1.choose_spec⟩, st.2.at fun o q => k it (by simp) o q⟩
  item := by
    intro X hP hw hK hc i pins s σ H E I hf st ⟨xs, x, hq, hx⟩
    subst hP hw hK
    obtain ⟨⟨old, he⟩, hit⟩ := st
    obtain ⟨its, rv, p, hz⟩ := I.tuple hq
    obtain ⟨u, hu, ru⟩ := rv.get hx
    have hlt : i < its.toArray.size := by
      rw [List.size_toArray]; exact (List.getElem?_eq_some_iff.mp hu).1
    have hel : e < s.heap.objs.size := Heap.lt_size he
    have hil : it < s.heap.objs.size := by obtain ⟨_, q, _⟩ := hit; exact Heap.lt_size q
    refine wpAny_pyNext_enum_itemD (Draws.tuple (A := X.A.in1) (show X.A.in1.handled = none from I.ok.hd hc) it a hae its.toArray) he ⟨hit, p⟩ hlt hne (by simp [hne, hea]) fun y h' tk hy ho hst hT hsz hk => ?_
    have hy' : u = y := by
      have q : its[i]? = some y := by simpa using hy
      rw [hu] at q; exact Option.some.inj q
    subst hy'
    refine ⟨_, rfl, wpAny_letOwnedTupleGo_enum (s := { s with heap := h', toks := tk + 1 }) ho fun h'' he' sb => ?_⟩
    have hT2 : h''.get? s.heap.objs.size = some { cls := .type "tuple", data := .seq #[.int i tk, u] } := (sb.2 _ (Nat.ne_of_gt hel)).trans hT
    have new : ObjOk X.prog X.w (upd H s.heap.objs.size (.tup [.int (i : Nat), x])) h'' s.heap.objs.size (.tup [.int (i : Nat), x]) :=
      ⟨by show 2 ≤ sizeLine; decide, [.int i tk, u], .cons ⟨_, rfl⟩ (.cons ru .nil), ⟨_, hT2, rfl, _, rfl⟩⟩
    have I1 : Inv X pins σ (upd H s.heap.objs.size (.tup [.int (i : Nat), x])) { s with heap := h'', toks := tk + 1 } :=
      I.turnedNew (ch := [e, it]) (fun b ob hb q => (sb.2 b (fun z => hb (by simp [z]))).trans (hk b ob (fun z => hb (by simp [z])) (fun z => hb (by simp [z])) q)) hf (Nat.le_refl _) new
    refine ⟨.ref s.heap.objs.size, _, I1, rfl, ⟨_, x, rfl, I.hok.fresh (Nat.le_refl _), rfl, fun ys hy => by rw [I.tuple_inj hy hq]; exact hx⟩, ⟨⟨u, ?_⟩, hst.1.at fun o q => (sb.2 it (Ne.symm hne)).trans q⟩, fun b hb => ?_⟩
    · rw [show ((i + 1 : Nat) : Int) = (i : Int) + 1 by omega]; exact he'
    · have hb' : b < s.heap.objs.size := by
        rcases (by simpa using hb : b = e ∨ b = it) with z | z <;> rw [z] <;> assumption
      rw [upd_ne (Nat.ne_of_lt hb')]
      exact (hf b hb).1
  done := by
    intro X hP hw hK hc i pins s σ H E I hf st ⟨xs, hq, hx⟩
    subst hP hw hK
    obtain ⟨⟨old, he⟩, hit⟩ := st
    obtain ⟨its, rv, p, hz⟩ := I.tuple hq
    obtain ⟨f0, f1, f2, f3, f4, f5⟩ := hf it (by simp)
    have hl := rv.length
    have e1 : i = its.toArray.size := by rw [List.size_toArray, ← hl, hx]
    subst e1
    exact wpAny_pyNext_enum_endD (Draws.tuple (A := X.A.in1) (show X.A.in1.handled = none from I.ok.hd hc) it a hae its.toArray) he ⟨hit, p⟩ fun h' eb => ⟨rfl, I.turned (t' := s.toks) (fun b o hb q => eb b o hb q) f0 f1 f3 f4 f5⟩
  self := fun A i s Q E st h => let ⟨⟨_, he⟩, _⟩ := st; wpAny_pyIter_enum he h
theorem pi_enumT {X : Cx} {e : Expr} {ta : TA} {p pos tpos : Pos} {elts : List Expr} {kk : Nat} (hg : Gl X "enumerate") (hm : X.mg "enumerate" = none) (ha : PA X [e] ta) (hs : starEach [e] X.env = [(false, eval e X.env)]) :
    PI X (.Tuple elts kk tpos) (.Call (.Name "enumerate" p) [e] [] pos) (fun σ H R => ta σ H fun vs H1 => ∃ a xs, vs = [.ref a] ∧ SqT X.K H1 a xs ∧ R (IteT X.K a) H1) := by
  refine ⟨fun pins s σ H R I h => ?_⟩
  refine Call_ (ld_blt I hg hm boot_enumerate (PyProof.Rows.callWith_type1 (thn (ha.run pos pins s σ H _ I h) fun us s1 ⟨vs, H1, I1, r1, a, xs, ex, hq, q⟩ => ?_) hs rfl))
  subst ex
  obtain ⟨u, rfl, ru⟩ := vals1 r1
  cases ru
  obtain ⟨its, rv, pl, hz⟩ := I1.tuple hq
  have hal : a < s1.heap.objs.size := by obtain ⟨o, ho, _⟩ := (show s1.heap.IsTuple a its.toArray from pl); exact Heap.lt_size ho
  refine call_enum1 (begins_tuple a its.toArray) pl fun h' he hit hk => wpAny_pyIter_enum he ?_
  have I2 : Inv X pins σ H1 { s1 with heap := h' } := I1.kept (t' := s1.toks) hk
  refine ⟨s1.heap.objs.size + 1, [s1.heap.objs.size + 1, s1.heap.objs.size], _, _, H1, rfl, I2, turn_enumT a (s1.heap.objs.size + 1) s1.heap.objs.size (Nat.ne_of_lt hal) (Nat.succ_ne_self _) (Nat.ne_of_gt (Nat.lt_succ_of_lt hal)), ⟨⟨.none, he⟩, ⟨_, hit, rfl, rfl⟩⟩, fun b hb => ?_, q⟩
  have hle : s1.heap.objs.size ≤ b := by
    rcases (by simpa using hb : b = s1.heap.objs.size + 1 ∨ b = s1.heap.objs.size) with z | z <;> rw [z]
    · exact Nat.le_succ _
    · exact Nat.le_refl _
  exact I1.fpOk hle (I1.hok.fresh hle)
/-! ### the items that an iterator hands out -/
/-- it hands out ds, one by one -/
structure Srv (K : PySem.W.Frag) (S : Sta) (π0 : Pi) (H0 : Hp) (J : It) (ds : List D) : Prop where
  go : ∀ i d π H hs, Keeps π0 H0 π H → Rel K S.T π H hs → ds[i]? = some d → J.go i H ∧ ∀ x H', J.yld i H x H' → Ext π H π H' ∧ Rel K S.T π H' hs ∧ RD K π H' d x
  stop : ∀ π H hs, Keeps π0 H0 π H → Rel K S.T π H hs → J.stop ds.length H
def tID (X : Cx) (S : Sta) (m : Env → HS → R D) : TI := fun σ H R => ∃ π ρ hs, Rel X.K S.T π H hs ∧ Slots X.K S π H ρ σ ∧ gp X.K S (fun π H d J => Srv X.K S π H J (its d)) π H R (fun c d H' => S.W c d σ H') (m ρ hs)
section
variable {X : Cx} {S : Sta} {κ : Kx} {k : Nat} {π : Pi} {H : Hp} {hs : HS} {a : Addr} {vs : List V} {ds : List D}
theorem srv_list (ha : ∀ π1 H1, Keeps π H π1 H1 → SqL X.K H1 a vs) (r : RDs X.K π H ds vs) : Srv X.K S π H (Itl X.K a) ds :=
  ⟨fun i d π1 H1 hs1 e rel q => by
    obtain ⟨v, h1, h2⟩ := r.get q
    refine ⟨⟨vs, v, ha _ _ e, h1⟩, fun x H' ⟨e1, e2⟩ => ?_⟩
    subst e1
    have := e2 vs (ha _ _ e)
    rw [h1] at this; cases this
    exact ⟨.refl _ _, rel, h2.kept e⟩, fun π1 H1 hs1 e rel => ⟨vs, ha _ _ e, by rw [r.length]; exact Nat.le_refl _⟩⟩
theorem srv_tup (ha : ∀ π1 H1, Keeps π H π1 H1 → SqT X.K H1 a vs) (r : RDs X.K π H ds vs) : Srv X.K S π H (Itt X.K a) ds :=
  ⟨fun i d π1 H1 hs1 e rel q => by
    obtain ⟨v, h1, h2⟩ := r.get q
    refine ⟨⟨vs, v, ha _ _ e, h1⟩, fun x H' ⟨e1, e2⟩ => ?_⟩
    subst e1
    have := e2 vs (ha _ _ e)
    rw [h1] at this; cases this
    exact ⟨.refl _ _, rel, h2.kept e⟩, fun π1 H1 hs1 e rel => ⟨vs, ha _ _ e, by rw [r.length]; exact Nat.le_refl _⟩⟩
theorem srv_str (x : Str) : Srv X.K S π H (Its x) (x.cps.toList.map fun c => D.str ⟨#[c]⟩) :=
  ⟨fun i d π1 H1 hs1 e rel q => by
    rw [List.getElem?_map] at q
    cases hc : x.cps.toList[i]? with
    | none => rw [hc] at q; cases q
    | some c =>
      rw [hc] at q; cases q
      have hc' : x.cps[i]? = some c := by simpa using hc
      refine ⟨(Array.getElem?_eq_some_iff.mp hc').1, fun v H' ⟨e1, c2, e2, e3⟩ => ?_⟩
      subst e1
      rw [hc'] at e2; cases e2
      subst e3
      exact ⟨.refl _ _, rel, .str _⟩, fun π1 H1 hs1 e rel => by
    show x.cps.size ≤ (x.cps.toList.map fun c => D.str ⟨#[c]⟩).length
    simp⟩
theorem srv_rng (lo : Int) (n : Nat) : Srv X.K S π H (Itr lo n) ((List.range n).map fun (k : Nat) => D.int (lo + (k : Nat))) :=
  ⟨fun i d π1 H1 hs1 e rel q => by
    rw [List.getElem?_map] at q
    cases hc : (List.range n)[i]? with
    | none => rw [hc] at q; cases q
    | some c =>
      rw [hc] at q; cases q
      obtain ⟨h1, h2⟩ := List.getElem?_eq_some_iff.mp hc
      rw [List.getElem_range] at h2
      rw [List.length_range] at h1
      subst h2
      refine ⟨h1, fun v H' ⟨e1, e2⟩ => ?_⟩
      subst e1; subst e2
      exact ⟨.refl _ _, rel, .int _⟩, fun π1 H1 hs1 e rel => by
    show n ≤ ((List.range n).map fun (k : Nat) => D.int (lo + (k : Nat))).length
    simp⟩
theorem enum_get {xs : List D} {i : Nat} {d : D} (q : (enumD xs)[i]? = some d) : ∃ z, xs[i]? = some z ∧ d = .tup [.int (i : Nat), z] := by
  unfold enumD at q
  rw [List.getElem?_map] at q
  cases hc : (List.range xs.length)[i]? with
  | none => rw [hc] at q; cases q
  | some c =>
    rw [hc] at q; cases q
    obtain ⟨h1, h2⟩ := List.getElem?_eq_some_iff.mp hc
    rw [List.getElem_range] at h2
    rw [List.length_range] at h1
    subst h2
    refine ⟨xs[i], List.getElem?_eq_getElem h1, ?_⟩
    show D.tup [D.int i, xs.getD i D.non] = _
    rw [List.getD_eq_getElem?_getD, List.getElem?_eq_getElem h1]; rfl
theorem new_pair {π : Pi} {H : Hp} {d d' : D} {x y : V} {T : Addr} (rel : Rel X.K S.T π H hs) (hT : H T = none) (r1 : RD X.K π H d x) (r2 : RD X.K π H d' y) :
    Ext π H π (upd H T (.tup [x, y])) ∧ Rel X.K S.T π (upd H T (.tup [x, y])) hs ∧ RD X.K π (upd H T (.tup [x, y])) (.tup [d, d']) (.ref T) :=
  ⟨.new hT, rel.new hT, RD.newT rel hT (.cons r1 (.cons r2 .nil))⟩
theorem srv_enum (ha : ∀ π1 H1, Keeps π H π1 H1 → SqL X.K H1 a vs) (r : RDs X.K π H ds vs) : Srv X.K S π H (Ite X.K a) (enumD ds) :=
  ⟨fun i d π1 H1 hs1 e rel q => by
    obtain ⟨z, q', rfl⟩ := enum_get q
    obtain ⟨v, h1, h2⟩ := r.get q'
    refine ⟨⟨vs, v, ha _ _ e, h1⟩, fun x H' ⟨T, y, e1, e2, e3, e4⟩ => ?_⟩
    subst e1; subst e3
    have := e4 vs (ha _ _ e)
    rw [h1] at this; cases this
    exact new_pair rel e2 (.int _) (h2.kept e), fun π1 H1 hs1 e rel => ⟨vs, ha _ _ e, by unfold enumD; rw [List.length_map, List.length_range, r.length]; exact Nat.le_refl _⟩⟩
theorem srv_enumT (ha : ∀ π1 H1, Keeps π H π1 H1 → SqT X.K H1 a vs) (r : RDs X.K π H ds vs) : Srv X.K S π H (IteT X.K a) (enumD ds) :=
  ⟨fun i d π1 H1 hs1 e rel q => by
    obtain ⟨z, q', rfl⟩ := enum_get q
    obtain ⟨v, h1, h2⟩ := r.get q'
    refine ⟨⟨vs, v, ha _ _ e, h1⟩, fun x H' ⟨T, y, e1, e2, e3, e4⟩ => ?_⟩
    subst e1; subst e3
    have := e4 vs (ha _ _ e)
    rw [h1] at this; cases this
    exact new_pair rel e2 (.int _) (h2.kept e), fun π1 H1 hs1 e rel => ⟨vs, ha _ _ e, by unfold enumD; rw [List.length_map, List.length_range, r.length]⟩⟩
theorem zip_get {xs ys : List D} {i : Nat} {d : D} (q : (zipD xs ys)[i]? = some d) : ∃ z w, xs[i]? = some z ∧ ys[i]? = some w ∧ d = .tup [z, w] := by
  unfold zipD at q
  rw [List.getElem?_map] at q
  cases hc : (xs.zip ys)[i]? with
  | none => rw [hc] at q; cases q
  | some c =>
    rw [hc] at q; cases q
    obtain ⟨h1, h2⟩ := List.getElem?_zip_eq_some.mp hc
    exact ⟨c.1, c.2, h1, h2, rfl⟩
theorem zipD_len (xs ys : List D) : (zipD xs ys).length = min xs.length ys.length := by unfold zipD; simp
theorem srv_zip {b : Addr} {ws : List V} {es : List D} (ha : ∀ π1 H1, Keeps π H π1 H1 → SqL X.K H1 a vs) (hb : ∀ π1 H1, Keeps π H π1 H1 → SqL X.K H1 b ws) (r : RDs X.K π H ds vs) (r' : RDs X.K π H es ws) : Srv X.K S π H (Itz X.K a b) (zipD ds es) :=
  ⟨fun i d π1 H1 hs1 e rel q => by
    obtain ⟨z, w, q1, q2, rfl⟩ := zip_get q
    obtain ⟨v, h1, h2⟩ := r.get q1
    obtain ⟨v', h1', h2'⟩ := r'.get q2
    refine ⟨⟨vs, ws, v, v', ha _ _ e, hb _ _ e, h1, h1'⟩, fun x H' ⟨T, x', y', e1, e2, e3, e4, e5⟩ => ?_⟩
    subst e1; subst e3
    have t1 := e4 vs (ha _ _ e)
    have t2 := e5 ws (hb _ _ e)
    rw [h1] at t1; cases t1
    rw [h1'] at t2; cases t2
    exact new_pair rel e2 (h2.kept e) (h2'.kept e), fun π1 H1 hs1 e rel => ⟨vs, ws, ha _ _ e, hb _ _ e, by rw [zipD_len, r.length, r'.length]; omega⟩⟩
theorem srv_zipT {b : Addr} {ws : List V} {es : List D} (ha : ∀ π1 H1, Keeps π H π1 H1 → SqT X.K H1 a vs) (hb : ∀ π1 H1, Keeps π H π1 H1 → SqT X.K H1 b ws) (r : RDs X.K π H ds vs) (r' : RDs X.K π H es ws) : Srv X.K S π H (RZ.ItzT X.K a b) (zipD ds es) :=
  ⟨fun i d π1 H1 hs1 e rel q => by
    obtain ⟨z, w, q1, q2, rfl⟩ := zip_get q
    obtain ⟨v, h1, h2⟩ := r.get q1
    obtain ⟨v', h1', h2'⟩ := r'.get q2
    refine ⟨⟨vs, ws, v, v', ha _ _ e, hb _ _ e, h1, h1'⟩, fun x H' ⟨T, x', y', e1, e2, e3, e4, e5⟩ => ?_⟩
    subst e1; subst e3
    have t1 := e4 vs (ha _ _ e)
    have t2 := e5 ws (hb _ _ e)
    rw [h1] at t1; cases t1
    rw [h1'] at t2; cases t2
    exact new_pair rel e2 (h2.kept e) (h2'.kept e), fun π1 H1 hs1 e rel => ⟨vs, ws, ha _ _ e, hb _ _ e, by rw [zipD_len, r.length, r'.length]; omega⟩⟩
/-! ### the rules -/
theorem _root_.L2.PI.imp {X : Cx} {tg e : Expr} {w w' : TI} (h : PI X tg e w) (i : ∀ σ H R, w' σ H R → w σ H R) : PI X tg e w' := ⟨fun pins s σ H R I q => h.run pins s σ H R I (i σ H R q)⟩
theorem _root_.L2.PI.or {X : Cx} {tg e : Expr} {w w' : TI} (h : PI X tg e w) (h' : PI X tg e w') : PI X tg e (fun σ H R => w σ H R ∨ w' σ H R) := ⟨fun pins s σ H R I q => q.elim (h.run pins s σ H R I) (h'.run pins s σ H R I)⟩
variable {tg e : Expr} {m : Env → HS → R D}
theorem IsL.all (h : IsL π H a vs) : ∀ π1 H1, Keeps π H π1 H1 → SqL X.K H1 a vs := fun _ _ e => (h.ext e).sq
theorem IsS.all (h : IsS X.K π H a vs) : ∀ π1 H1, Keeps π H π1 H1 → SqL X.K H1 a vs := fun _ _ e => (h.ext e).sq
theorem IsC.all (h : IsC X.K π H a vs) : ∀ π1 H1, Keeps π H π1 H1 → SqT X.K H1 a vs := fun _ _ e => (h.extD e.data).sq
theorem IsT.all (h : IsT X.K π H a vs) : ∀ π1 H1, Keeps π H π1 H1 → SqT X.K H1 a vs := fun _ _ e => (h.ext e).sq
/-- a value that is walked -/
theorem di_seq (he : PE X e (tD X S m)) : PI X tg e (tID X S fun ρ h => (m ρ h).bind opSeq) := by
  refine (((pi_list he).or (pi_tup he)).or (pi_str he)).imp fun σ H R ⟨π, ρ, hs, rel, sl, p⟩ => ?_
  dsimp only at p
  cases hm : m ρ hs with
  | bad => rw [hm] at p; exact p.elim
  | exc c d hs' => rw [hm] at p; exact .inl (.inl ⟨π, ρ, hs, rel, sl, by rw [hm]; exact p⟩)
  | ok x hs1 =>
    rw [hm] at p
    cases x <;> try exact p.elim
    · refine .inr ⟨π, ρ, hs, rel, sl, ?_⟩
      rw [hm]
      intro π1 H1 v e1 rel1 r1
      cases r1
      exact ⟨_, rfl, p π1 H1 _ e1 rel1 (srv_str _)⟩
    · refine .inl (.inr ⟨π, ρ, hs, rel, sl, ?_⟩)
      rw [hm]
      intro π1 H1 v e1 rel1 r1
      cases r1 with
      | tup h1 h2 => exact ⟨_, rfl, ⟨_, h1.sq⟩, p π1 H1 _ e1 rel1 (srv_tup h1.all h2)⟩
    · refine .inl (.inl ⟨π, ρ, hs, rel, sl, ?_⟩)
      rw [hm]
      intro π1 H1 v e1 rel1 r1
      cases r1 with
      | lst h1 h2 => exact ⟨_, rfl, ⟨_, h1.sq⟩, p π1 H1 _ e1 rel1 (srv_list h1.all h2)⟩
    · refine .inl (.inl ⟨π, ρ, hs, rel, sl, ?_⟩)
      rw [hm]
      intro π1 H1 v e1 rel1 r1
      cases r1 with
      | scr h1 h2 => exact ⟨_, rfl, ⟨_, h1.sq⟩, p π1 H1 _ e1 rel1 (srv_list h1.all h2)⟩
    · rename_i j
      refine .inl (.inl ⟨π, ρ, hs, rel, sl, ?_⟩)
      rw [hm]
      intro π1 H1 v e1 rel1 r1
      cases r1 with
      | ref ha =>
        rename_i a
        dsimp only [VE.R.bind_ok, opSeq] at p
        cases hq : hs1[j]? with
        | none => rw [hq] at p; exact p.elim
        | some ob =>
          rw [hq] at p
          have hob := rel1.obj j _ a hq ha
          cases ob <;> try exact p.elim
          obtain ⟨ob, vs, h1, h2⟩ := hob
          exact ⟨a, rfl, ⟨vs, .inl (.inr ⟨ob, h1⟩)⟩, p π1 H1 _ e1 rel1 (srv_list (fun π2 H2 e => .inl (.inr ⟨ob, e.fz _ _ _ h1⟩)) h2)⟩
    · refine .inl (.inr ⟨π, ρ, hs, rel, sl, ?_⟩)
      rw [hm]
      intro π1 H1 v e1 rel1 r1
      cases r1 with
      | ctp h1 h2 => exact ⟨_, rfl, ⟨_, h1.sq⟩, p π1 H1 _ e1 rel1 (srv_tup h1.all h2)⟩
theorem okEnd_of {i : Int} (h : okEnd i = true) : -(2 ^ 62) ≤ i ∧ i < 2 ^ 62 := by
  unfold okEnd at h
  rw [decide_eq_true_eq] at h
  have h1 : -(2 ^ 60 : Int) ≤ i := h.1
  have h2 : i < 2 ^ 60 := h.2
  constructor
  · exact Int.le_trans (by decide) h1
  · exact Int.lt_of_lt_of_le h2 (by decide)
theorem di_rng1 {a : Expr} {p pos : Pos} (hg : Gl X "range") (hm : X.mg "range" = none) (ha : PA X [a] (tDs X S m)) (hs : starEach [a] X.env = [(false, eval a X.env)]) (hl : ∀ ρ h d h', m ρ h = .ok d h' → (its d).length = 1) :
    PI X tg (.Call (.Name "range" p) [a] [] pos) (tID X S fun ρ h => (m ρ h).bind fun l h1 => opRng (its l) h1) := by
  refine (pi_range1 hg hm ha hs).imp fun σ H R ⟨π, ρ, hs, rel, sl, p⟩ => ⟨π, ρ, hs, rel, sl, ?_⟩
  dsimp only at p
  cases hm' : m ρ hs with
  | bad => rw [hm'] at p; exact p
  | exc c d hs' => rw [hm'] at p; exact p
  | ok l hs1 =>
    rw [hm'] at p
    intro π1 H1 vs e1 rel1 r1
    have hl' := hl _ _ _ _ hm'
    simp only [VE.R.bind_ok] at p
    generalize its l = ds at p r1 hl'
    clear hm'
    match ds, hl' with
    | [d], zz =>
      clear zz
      obtain ⟨v, rfl, rv⟩ := rds1 r1
      unfold opRng at p
      cases d <;> try exact p.elim
      rename_i j
      cases rv
      dsimp only at p
      split at p
      · rename_i hj
        obtain ⟨b1, b2⟩ := okEnd_of hj
        refine ⟨j, rfl, b1, b2, p π1 H1 _ e1 rel1 ?_⟩
        show Srv X.K S π1 H1 _ (rngD 0 j)
        unfold rngD
        rw [Int.sub_zero]
        exact srv_rng 0 j.toNat
      · exact p.elim
theorem di_rng2 {a b : Expr} {p pos : Pos} (hg : Gl X "range") (hm : X.mg "range" = none) (ha : PA X [a, b] (tDs X S m)) (hs : starEach [a, b] X.env = [(false, eval a X.env), (false, eval b X.env)]) (hs2 : starEach [b] X.env = [(false, eval b X.env)]) (hl : ∀ ρ h d h', m ρ h = .ok d h' → (its d).length = 2) :
    PI X tg (.Call (.Name "range" p) [a, b] [] pos) (tID X S fun ρ h => (m ρ h).bind fun l h1 => opRng (its l) h1) := by
  refine (pi_range2 hg hm ha hs hs2).imp fun σ H R ⟨π, ρ, hs, rel, sl, p⟩ => ⟨π, ρ, hs, rel, sl, ?_⟩
  dsimp only at p
  cases hm' : m ρ hs with
  | bad => rw [hm'] at p; exact p
  | exc c d hs' => rw [hm'] at p; exact p
  | ok l hs1 =>
    rw [hm'] at p
    intro π1 H1 vs e1 rel1 r1
    have hl' := hl _ _ _ _ hm'
    simp only [VE.R.bind_ok] at p
    generalize its l = ds at p r1 hl'
    clear hm'
    match ds, hl' with
    | [d, d'], zz =>
      clear zz
      obtain ⟨v, v', rfl, rv, rv'⟩ := rds2 r1
      unfold opRng at p
      cases d <;> try exact p.elim
      cases d' <;> try exact p.elim
      rename_i i j
      cases rv
      cases rv'
      dsimp only at p
      split at p
      · rename_i hj
        rw [Bool.and_eq_true] at hj
        obtain ⟨b1, b2⟩ := okEnd_of hj.1
        obtain ⟨b3, b4⟩ := okEnd_of hj.2
        exact ⟨i, j, rfl, ⟨b1, b2, b3, b4⟩, p π1 H1 _ e1 rel1 (srv_rng i (j - i).toNat)⟩
      · exact p.elim
theorem di_enum {elts : List Expr} {kk : Nat} {p pos tpos : Pos} (G : Good X S κ k) (hg : Gl X "enumerate") (hm : X.mg "enumerate" = none) (he : PE X e (tD X S m)) (hs : starEach [e] X.env = [(false, eval e X.env)]) :
    PI X (.Tuple elts kk tpos) (.Call (.Name "enumerate" p) [e] [] pos) (tID X S fun ρ h => (m ρ h).bind opEnum) := by
  have ha : PA X [e] (tDs X S fun ρ h => (m ρ h).bind fun d h1 => (R.ok (.lst []) h1).bind fun l h2 => .ok (.lst (d :: its l)) h2) := d_cons G he (d_nil G) (by rw [hs]; rfl)
  refine ((pi_enum hg hm ha hs).or (pi_enumT hg hm ha hs)).imp fun σ H R ⟨π, ρ, hs, rel, sl, p⟩ => ?_
  dsimp only at p
  cases hm' : m ρ hs with
  | bad => rw [hm'] at p; exact p.elim
  | exc c d hs' => rw [hm'] at p; exact .inl ⟨π, ρ, hs, rel, sl, by dsimp only; rw [hm']; exact p⟩
  | ok x hs1 =>
    rw [hm'] at p
    cases x <;> try exact p.elim
    · refine .inr ⟨π, ρ, hs, rel, sl, ?_⟩
      dsimp only
      rw [hm']
      intro π1 H1 vs e1 rel1 r1
      obtain ⟨v, rfl, rv⟩ := rds1 r1
      cases rv with
      | tup h1 h2 => exact ⟨_, _, rfl, h1.sq, p π1 H1 _ e1 rel1 (srv_enumT h1.all h2)⟩
    · refine .inl ⟨π, ρ, hs, rel, sl, ?_⟩
      dsimp only
      rw [hm']
      intro π1 H1 vs e1 rel1 r1
      obtain ⟨v, rfl, rv⟩ := rds1 r1
      cases rv with
      | lst h1 h2 => exact ⟨_, _, rfl, h1.sq, p π1 H1 _ e1 rel1 (srv_enum h1.all h2)⟩
    · refine .inr ⟨π, ρ, hs, rel, sl, ?_⟩
      dsimp only
      rw [hm']
      intro π1 H1 vs e1 rel1 r1
      obtain ⟨v, rfl, rv⟩ := rds1 r1
      cases rv with
      | ctp h1 h2 => exact ⟨_, _, rfl, h1.sq, p π1 H1 _ e1 rel1 (srv_enumT h1.all h2)⟩
theorem di_zip {elts : List Expr} {kk : Nat} {p pos tpos : Pos} {e2 : Expr} {m2 : Env → HS → R D} (G : Good X S κ k) (hg : Gl X "zip") (hm : X.mg "zip" = none) (he : PE X e (tD X S m)) (he2 : PE X e2 (tD X S m2))
    (hs : starEach [e, e2] X.env = (false, eval e X.env) :: starEach [e2] X.env) (hs2 : starEach [e2] X.env = (false, eval e2 X.env) :: starEach [] X.env) (hpl : (backTo pos (starEach [e2] X.env)).any (·.1) = false) :
    PI X (.Tuple elts kk tpos) (.Call (.Name "zip" p) [e, e2] [] pos) (tID X S fun ρ h => (m ρ h).bind fun x h1 => (m2 ρ h1).bind fun y h2 => opZip x y h2) := by
  have ha := d_cons G he (d_cons G he2 (d_nil G) hs2) hs
  refine (RZ.pi_zipA hg hm ha hs hpl).imp fun σ H R ⟨π, ρ, hs, rel, sl, p⟩ => ⟨π, ρ, hs, rel, sl, ?_⟩
  dsimp only at p ⊢
  cases hm' : m ρ hs with
  | bad => rw [hm'] at p; exact p
  | exc c d hs' => rw [hm'] at p; exact p
  | ok x hs1 =>
    rw [hm'] at p
    simp only [VE.R.bind_ok] at p ⊢
    cases hm2 : m2 ρ hs1 with
    | bad => rw [hm2] at p; exact p
    | exc c d hs' => rw [hm2] at p; exact p
    | ok y hs2 =>
      rw [hm2] at p
      intro π1 H1 vs e1 rel1 r1
      obtain ⟨v, w, rfl, rv, rw'⟩ := rds2 r1
      simp only [VE.R.bind_ok] at p
      cases rv <;> cases rw' <;> try exact p.elim
      · rename_i h1 h2 _ _ _ h3 h4; exact ⟨_, _, _, _, rfl, .inr ⟨h1.sq, h3.sq, p π1 H1 _ e1 rel1 (srv_zipT h1.all h3.all h2 h4)⟩⟩
      · rename_i h1 h2 _ _ _ h3 h4; exact ⟨_, _, _, _, rfl, .inr ⟨h1.sq, h3.sq, p π1 H1 _ e1 rel1 (srv_zipT h1.all h3.all h2 h4)⟩⟩
      · rename_i h1 h2 _ _ _ h3 h4; exact ⟨_, _, _, _, rfl, .inl ⟨h1.sq, h3.sq, p π1 H1 _ e1 rel1 (srv_zip h1.all h3.all h2 h4)⟩⟩
      · rename_i h1 h2 _ _ _ h3 h4; exact ⟨_, _, _, _, rfl, .inr ⟨h1.sq, h3.sq, p π1 H1 _ e1 rel1 (srv_zipT h1.all h3.all h2 h4)⟩⟩
      · rename_i h1 h2 _ _ _ h3 h4; exact ⟨_, _, _, _, rfl, .inr ⟨h1.sq, h3.sq, p π1 H1 _ e1 rel1 (srv_zipT h1.all h3.all h2 h4)⟩⟩
end
end VE
set_option Elab.async false
set_option linter.all false
set_option maxRecDepth 100000
set_option maxHeartbeats 1000000
set_option autoImplicit false
/-! V11: targets; comprehensions -/
namespace VE
open PySem PySem.Spec PyProof.Rows L2
theorem _root_.L2.PG.imp {X : Cx} {tg : Expr} {t t' : TG} (h : PG X tg t) (i : ∀ v σ H Q, t' v σ H Q → t v σ H Q) : PG X tg t' := ⟨fun pins s σ H v u Q I r q => h.run pins s σ H v u Q I r (i v σ H Q q)⟩
theorem _root_.L2.PGs.imp {X : Cx} {ts : List Expr} {t t' : TGs} (h : PGs X ts t) (i : ∀ vs σ H Q, t' vs σ H Q → t vs σ H Q) : PGs X ts t' := ⟨fun pins s σ H vs us Q I r q => h.run pins s σ H vs us Q I r (i vs σ H Q q)⟩
theorem _root_.L2.PTs.imp {X : Cx} {ifs : List Expr} {t t' : TT} (h : PTs X ifs t) (i : ∀ σ H Q, t' σ H Q → t σ H Q) : PTs X ifs t' := ⟨fun pins s σ H Q I q => h.run pins s σ H Q I (i σ H Q q)⟩
/-! ### the block -/
def Sta.noX (S : Sta) : Sta := { S with W := fun _ _ _ _ => False, cel := none }
def Kx.blk (κ : Kx) (scope : Scope) : Kx := { N := κ.N, sc := relS scope κ.sc, fn := fun x => scope.names.lookup x == some .cell, code := none, qual := κ.qual }
section
variable {X : Cx} {S : Sta} {κ : Kx} {k : Nat}
theorem Good.blk (G : Good X S κ k) (scope : Scope) (s : Shared) (H : Hp) (C : Addr) (cl : List (Str × Addr)) (fp : List Addr) : Good (X.blk s H scope (compEnvC scope cl C X.env) fp) S.noX (κ.blk scope) k where
  nN := G.nN
  sce := by
    show relS scope X.env.scope = relS scope κ.sc
    rw [G.sce]
  fn := rfl
  qual := G.qual
  nd := G.nd
  calm := G.calm
  takes := fun u s' ⟨a, B, sI, pins, σ, H, cls, d, e, I, nb, up, sky, na, os, ag, w⟩ => w.elim
  room := G.room
  gu := G.gu
  fad := G.fad
  cel := fun c sc h => by cases h
  top := fun h => by cases h
  tab := fun nm h => by cases h
variable {π : Pi} {H : Hp} {hs : HS} {ρ : Env} {σ : L2.St}
theorem wipeD_some {i : Nat} {x : D} : ∀ {vs : List Nat} {ρ : Env}, (wipeD ρ vs)[i]? = some (some x) → ρ[i]? = some (some x) ∧ i ∉ vs
  | [], ρ, h => ⟨h, by simp⟩
  | v :: vs, ρ, h => by
    unfold wipeD at h
    by_cases hi : v = i
    · subst hi
      by_cases hv : v < (wipeD ρ vs).length
      · rw [List.getElem?_set_self hv] at h; cases h
      · rw [List.getElem?_eq_none (by simpa using hv)] at h; cases h
    · rw [List.getElem?_set_ne hi] at h
      obtain ⟨h1, h2⟩ := wipeD_some h
      exact ⟨h1, by simp only [List.mem_cons, not_or]; exact ⟨fun e => hi e.symm, h2⟩⟩
theorem wipeD_length (ρ : Env) : ∀ vs : List Nat, (wipeD ρ vs).length = ρ.length
  | [] => rfl
  | v :: vs => by unfold wipeD; rw [List.length_set, wipeD_length ρ vs]
theorem Slots.wipe (h : Slots X.K S π H ρ σ) (vs : List Nat) : Slots X.K S π H (wipeD ρ vs) (L2.wipe σ vs) :=
  ⟨by rw [wipeD_length, wipe_length]; exact h.len, fun i d q => by
    obtain ⟨h1, h2⟩ := wipeD_some q
    obtain ⟨v, h3, h4⟩ := h.at_ i d h1
    exact ⟨v, by rw [wipe_out h2]; exact h3, h4⟩⟩
theorem Slots.blk (h : Slots X.K S π H ρ σ) (vs : List Nat) : Slots X.K S.noX π H (blkE ρ vs) (L2.wipe σ vs) := by
  refine ⟨by unfold blkE; rw [wipeD_length, wipe_length, List.length_map]; exact h.len, fun i d q => ?_⟩
  unfold blkE at q
  obtain ⟨h1, h2⟩ := wipeD_some q
  rw [List.getElem?_map] at h1
  cases hr : ρ[i]? with
  | none => rw [hr] at h1; cases h1
  | some o =>
    rw [hr] at h1
    have h1 : noNdf o = some d := Option.some.inj h1
    cases o with
    | none => cases h1
    | some d' =>
      have key : d' = d ∧ ∀ c, d' ≠ .ndf c := by
        cases d' <;> first
          | (cases h1; exact ⟨rfl, fun c z => by cases z⟩)
          | (cases h1; done)
      obtain ⟨rfl, hn⟩ := key
      obtain ⟨v, h3, h4⟩ := h.at_ i d' hr
      refine ⟨v, by rw [wipe_out h2]; exact h3, ?_⟩
      rcases h4 with z | z | z
      · exact .inl z
      · refine .inr (.inl ?_)
        cases z with
        | gfn a => exact .gfn a
        | fn a1 a2 a3 a4 a5 => exact .fn a1 a2 a3 a4 a5
      · cases z with
        | ndf a0 ab a1 a2 a3 => exact absurd rfl (hn _)
end
/-! ### targets that are names -/
section
variable {X : Cx} {S : Sta} {κ : Kx} {k : Nat}
def tGN (X : Cx) (S : Sta) (t : E) (vs : List Nat) : TG := fun v σ H Q => ∃ π ρ hs d ρ', Rel X.K S.T π H hs ∧ Slots X.K S π H ρ σ ∧ RD X.K π H d v ∧ stN t d ρ = some ρ' ∧ ∀ σ', Slots X.K S π H ρ' σ' → L2.wipe σ' vs = L2.wipe σ vs → Q σ' H
def tGNs (X : Cx) (S : Sta) (t : E) (vs : List Nat) : TGs := fun ws σ H Q => ∃ π ρ hs ds ρ', Rel X.K S.T π H hs ∧ Slots X.K S π H ρ σ ∧ RDs X.K π H ds ws ∧ stN t (.lst ds) ρ = some ρ' ∧ ∀ σ', Slots X.K S π H ρ' σ' → L2.wipe σ' vs = L2.wipe σ vs → Q σ' H
theorem wipe_nth (j : Nat) : ∀ (vs : List Nat) (σ : L2.St), j ∈ vs → (L2.wipe σ vs)[j]? = if j < σ.length then some none else none
  | w :: ws, σ, h => by
    show ((L2.wipe σ ws).set w none)[j]? = _
    by_cases hw : w = j
    · subst hw
      by_cases hl : w < σ.length
      · rw [List.getElem?_set_self (by rw [wipe_length]; exact hl), if_pos hl]
      · rw [List.getElem?_eq_none (by rw [List.length_set, wipe_length]; omega), if_neg hl]
    · rw [List.getElem?_set_ne hw]
      rcases List.mem_cons.mp h with h | h
      · exact absurd h.symm hw
      · exact wipe_nth j ws σ h
theorem wipe_wipe (σ : L2.St) (vs : List Nat) : L2.wipe (L2.wipe σ vs) vs = L2.wipe σ vs := by
  apply List.ext_getElem?
  intro j
  by_cases h : j ∈ vs
  · rw [wipe_nth j vs _ h, wipe_nth j vs _ h, wipe_length]
  · rw [wipe_out h]
theorem wipe_set {i : Nat} {x : Option V} : ∀ {vs : List Nat} {σ : L2.St}, i ∈ vs → L2.wipe (σ.set i x) vs = L2.wipe σ vs
  | v :: vs, σ, h => by
    show (L2.wipe (σ.set i x) vs).set v none = (L2.wipe σ vs).set v none
    by_cases hi : i ∈ vs
    · rw [wipe_set hi]
    · rcases List.mem_cons.mp h with e | h
      · subst e
        apply List.ext_getElem?
        intro j
        by_cases hj : i = j
        · subst hj
          rw [List.getElem?_set, List.getElem?_set, wipe_length, wipe_length, List.length_set, if_pos rfl, if_pos rfl]
        · rw [List.getElem?_set_ne hj, List.getElem?_set_ne hj]
          by_cases hjv : j ∈ vs
          · have aux : ∀ (σ : L2.St) (vs : List Nat), j ∈ vs → (L2.wipe σ vs)[j]? = if j < σ.length then some none else none := by
              intro σ vs
              induction vs with
              | nil => intro h; cases h
              | cons w ws ih =>
                intro h
                show ((L2.wipe σ ws).set w none)[j]? = _
                by_cases hw : w = j
                · subst hw
                  by_cases hl : w < σ.length
                  · rw [List.getElem?_set_self (by rw [wipe_length]; exact hl), if_pos hl]
                  · rw [List.getElem?_eq_none (by rw [List.length_set, wipe_length]; omega), if_neg hl]
                · rw [List.getElem?_set_ne hw]
                  rcases List.mem_cons.mp h with h | h
                  · exact absurd h.symm hw
                  · exact ih h
            rw [aux _ _ hjv, aux _ _ hjv, List.length_set]
          · rw [wipe_out hjv, wipe_out hjv, List.getElem?_set_ne hj]
      · exact absurd h hi
theorem dg_name (G : Good X S κ k) {i : Nat} {x : Str} {vs : List Nat} {pos : Pos} (hi : κ.N[i]? = some x) (hx : Loc κ.sc x) (hf : κ.fn x = true ∨ κ.sc.names.lookup x = some .local) (hv : i ∈ vs) : PG X (.Name x pos) (tGN X S (.var i) vs) := by
  refine (pg_name (i := i) (by rw [G.nN]; exact G.nd) (by rw [G.nN]; exact hi) (by rw [G.sce]; exact hx) (by rw [G.fn, G.sce]; exact hf)).imp fun v σ H Q ⟨π, ρ, hs, d, ρ', rel, sl, r, e, q⟩ => ?_
  cases e
  exact q _ (sl.set r) (wipe_set hv)
theorem dgs_nil (G : Good X S κ k) {vs : List Nat} : PGs X [] (tGNs X S .nil vs) := by
  refine pgs_nil.imp fun ws σ H Q ⟨π, ρ, hs, ds, ρ', rel, sl, r, e, q⟩ => ?_
  cases ds with
  | nil => cases r; cases e; exact ⟨rfl, q σ sl rfl⟩
  | cons d ds => cases e
theorem dgs_cons (G : Good X S κ k) {e : Expr} {es : List Expr} {t r : E} {vs : List Nat} (h1 : PG X e (tGN X S t vs)) (h2 : PGs X es (tGNs X S r vs)) (hs : (assignEach (e :: es) X.env).map (·.2) = assign e X.env :: (assignEach es X.env).map (·.2)) : PGs X (e :: es) (tGNs X S (.cons t r) vs) := by
  refine (pgs_cons h1 h2 hs).imp fun ws σ H Q ⟨π, ρ, hs, ds, ρ', rel, sl, rr, e, q⟩ => ?_
  cases ds with
  | nil => cases e
  | cons d ds =>
    cases rr with
    | cons r1 r2 =>
      unfold stN at e
      cases h3 : stN t d ρ with
      | none => rw [h3] at e; cases e
      | some ρ1 =>
        rw [h3] at e
        exact ⟨_, _, rfl, π, ρ, hs, d, ρ1, rel, sl, r1, h3, fun σ1 sl1 w1 => ⟨π, ρ1, hs, ds, ρ', rel, sl1, r2, e, fun σ2 sl2 w2 => q σ2 sl2 (w2.trans w1)⟩⟩
theorem stN_len : ∀ {t : E} {n : Nat} {ds : List D} {ρ ρ' : Env}, chainE t = some n → stN t (.lst ds) ρ = some ρ' → ds.length = n := by
  intro t
  induction t with
  | nil =>
    intro n ds ρ ρ' c e
    cases c
    cases ds with
    | nil => rfl
    | cons d ds => cases e
  | cons t r _ ih =>
    intro n ds ρ ρ' c e
    unfold chainE at c
    cases hc : chainE r with
    | none => rw [hc] at c; cases c
    | some m =>
      rw [hc] at c
      have c : m + 1 = n := Option.some.inj c
      cases ds with
      | nil => cases e
      | cons d ds =>
        unfold stN at e
        cases h3 : stN t d ρ with
        | none => rw [h3] at e; cases e
        | some ρ1 =>
          rw [h3] at e
          rw [List.length_cons, ih hc e, c]
  | _ => intro n ds ρ ρ' c e; cases c
theorem dg_tup (G : Good X S κ k) {es : List Expr} {kk : Nat} {t : E} {vs : List Nat} {n : Nat} {pos : Pos} (h : PGs X es (tGNs X S t vs)) (hc : chainE t = some n) (hn : (assignEach es X.env).length = n) (hst : (assignEach es X.env).findIdx? (·.1) = none) :
    PG X (.Tuple es kk pos) (tGN X S (.tup t) vs) := by
  refine (pg_tup G.calm h hn hst).imp fun v σ H Q ⟨π, ρ, hs, d, ρ', rel, sl, r, e, q⟩ => ?_
  cases r with
  | tup h1 h2 => exact ⟨_, _, rfl, h1.sq, by rw [← h2.length]; exact stN_len hc e, π, ρ, hs, _, ρ', rel, sl, h2, e, q⟩
  | _ => cases e
/-! ### a comprehension -/
theorem d_iftrue {ifs : List Expr} (h : ifs = []) : PTs X ifs (tDT X S fun _ h => .ok (.bl true) h) := by
  subst h
  exact pts_nil.imp fun σ H Q ⟨π, ρ, hs, rel, sl, p⟩ => by
    obtain ⟨c, e, q⟩ := p π H _ (.refl _ _) rel (.bl true)
    cases e; exact q
theorem drop_cons {α : Type} {l : List α} {i : Nat} {d : α} (h : l[i]? = some d) : l.drop i = d :: l.drop (i + 1) := by
  obtain ⟨h1, h2⟩ := List.getElem?_eq_some_iff.mp h
  rw [← h2]; exact List.drop_eq_getElem_cons h1
/-- what is left of a comprehension, acc built so far -/
def restC (K : PySem.W.Frag) (S : Sta) (π1 : Pi) (H1 : Hp) (Q : VK) (f : D → HS → R (Option D)) (acc : List D) (ds : List D) (hs : HS) : Prop := match compGo f ds hs with
  | .ok ys h' => (acc ++ ys).length ≤ lim ∧ ∀ π3 H3 v, Ext π1 H1 π3 H3 → Rel K S.T π3 H3 h' → RD K π3 H3 (.lst (acc ++ ys)) v → Q v H3
  | _ => False
theorem restC_cons {K : PySem.W.Frag} {π1 : Pi} {H1 : Hp} {Q : VK} {f : D → HS → R (Option D)} {acc ds : List D} {d : D} {hs : HS} (h : restC K S π1 H1 Q f acc (d :: ds) hs) : ∃ o h1, f d hs = .ok o h1 ∧ restC K S π1 H1 Q f (acc ++ o.toList) ds h1 := by
  unfold restC at h
  unfold compGo at h
  cases hf : f d hs with
  | bad => rw [hf] at h; exact h.elim
  | exc c' d' hh => rw [hf] at h; exact h.elim
  | ok o h1 =>
    rw [hf] at h
    refine ⟨o, h1, rfl, ?_⟩
    unfold restC
    simp only [VE.R.bind_ok] at h
    cases hg : compGo f ds h1 with
    | bad => rw [hg] at h; exact h.elim
    | exc c' d' hh => rw [hg] at h; exact h.elim
    | ok ys h2 =>
      rw [hg] at h
      simp only [VE.R.bind_ok] at h
      dsimp only
      rw [List.append_assoc]
      exact h
theorem restC_len {K : PySem.W.Frag} {π1 : Pi} {H1 : Hp} {Q : VK} {f : D → HS → R (Option D)} {acc ds : List D} {hs : HS} (h : restC K S π1 H1 Q f acc ds hs) : acc.length ≤ lim := by
  unfold restC at h
  cases hg : compGo f ds hs with
  | bad => rw [hg] at h; exact h.elim
  | exc c' d' hh => rw [hg] at h; exact h.elim
  | ok ys h2 =>
    rw [hg] at h
    have := h.1
    rw [List.length_append] at this
    omega
/-- in the block: the heap's state, the list at D built so far -/
structure BSt (K : PySem.W.Frag) (S : Sta) (π1 : Pi) (H1 : Hp) (D : Addr) (π : Pi) (H : Hp) (hs : HS) (acc : List VE.D) : Prop where
  hid : π.hid = D :: π1.hid
  ext : Ext π1 H1 (π.bare π1.hid) H
  kp : Keeps π1 H1 π H
  rel : Rel K S.T π H hs
  at_ : ∃ vs, H D = some (.lst vs) ∧ RDs K π H acc vs
theorem BSt.next {K : PySem.W.Frag} {π1 π π' : Pi} {H1 H H' : Hp} {D : Addr} {hs hs' : HS} {acc : List VE.D} (b : BSt K S π1 H1 D π H hs acc) (e : Ext π H π' H') (rel : Rel K S.T π' H' hs') : BSt K S π1 H1 D π' H' hs' acc := by
  obtain ⟨vs, h1, h2⟩ := b.at_
  have hD : D ∈ π.hid := by rw [b.hid]; exact List.mem_cons_self
  refine ⟨by rw [e.hid]; exact b.hid, ?_, b.kp.trans e.keeps, rel, vs, e.keep _ _ h1 (b.rel.hidL D hD).1 (fun ps z => by cases z), h2.mono e⟩
  refine b.ext.trans ⟨e.pre, rfl, e.keep, e.there, e.fz⟩
theorem BSt.push {K : PySem.W.Frag} {π1 π : Pi} {H1 H : Hp} {D : Addr} {hs : HS} {acc : List VE.D} {d : VE.D} {v : V} (hf : H1 D = none) (b : BSt K S π1 H1 D π H hs acc) (r : RD K π H d v) : ∃ vs, H D = some (.lst vs) ∧ vs.length = acc.length ∧ BSt K S π1 H1 D π (upd H D (.lst (vs ++ [v]))) hs (acc ++ [d]) := by
  obtain ⟨vs, h1, h2⟩ := b.at_
  have hD : D ∈ π.hid := by rw [b.hid]; exact List.mem_cons_self
  have g : Keeps π H π (upd H D (.lst (vs ++ [v]))) := Keeps.grow hD (by rw [h1]; simp)
  refine ⟨vs, h1, h2.length.symm, b.hid, ⟨b.ext.pre, b.ext.hid, fun a o ha hn ht => ?_, fun a ha => ?_, fun a o u ha => ?_⟩, b.kp.trans g, b.rel.grow hD _, _, upd_same, (h2.snoc r).kept g⟩
  · rw [upd_ne (ne_of_none ha hf)]
    exact b.ext.keep a o ha hn ht
  · by_cases z : a = D
    · subst z; exact hf
    · rw [upd_ne z] at ha; exact b.ext.there a ha
  · rw [upd_ne (ne_of_none ha hf)]
    exact b.ext.fz a o u ha
theorem BSt.done {K : PySem.W.Frag} {π1 π : Pi} {H1 H : Hp} {D : Addr} {hs : HS} {acc : List VE.D} {hs0 : HS} (rel1 : Rel K S.T π1 H1 hs0) (hf : H1 D = none) (b : BSt K S π1 H1 D π H hs acc) : Rel K S.T (π.bare π1.hid) H hs ∧ RD K (π.bare π1.hid) H (.lst acc) (.ref D) := by
  have hsub : ∀ x ∈ π1.hid, x ∈ π.hid := fun x hx => by rw [b.hid]; exact List.mem_cons_of_mem _ hx
  have hD : D ∈ π.hid := by rw [b.hid]; exact List.mem_cons_self
  obtain ⟨vs, h1, h2⟩ := b.at_
  exact ⟨b.rel.show hsub, .lst ⟨⟨(b.rel.hidL D hD).1, (rel1.fresh hf).2⟩, h1⟩ (h2.kept (Keeps.show hsub))⟩
theorem BSt.start {K : PySem.W.Frag} {π1 : Pi} {H1 : Hp} {D : Addr} {hs : HS} (rel : Rel K S.T π1 H1 hs) (hf : H1 D = none) : BSt K S π1 H1 D (π1.hide D) (upd H1 D (.lst [])) hs [] :=
  ⟨rfl, Ext.new hf, Keeps.hide hf, rel.hide hf, [], upd_same, .nil⟩
theorem rel_noX {K : PySem.W.Frag} {π : Pi} {H : Hp} {hs : HS} : Rel K S.noX.T π H hs = Rel K S.T π H hs := rfl
/-- from the start of a comprehension -/
theorem restC_of {K : PySem.W.Frag} {π1 : Pi} {H1 : Hp} {Q : VK} {E : XK} {f : D → HS → R (Option D)} {ds : List D} {hs : HS}
    (p : post K S π1 H1 Q E (((compGo f ds hs).nox).bind fun ys h5 => if ys.length ≤ lim then .ok (.lst ys) h5 else .bad)) : restC K S π1 H1 Q f [] ds hs := by
  unfold restC
  cases hg : compGo f ds hs with
  | bad => rw [hg] at p; exact p.elim
  | exc c' d' hh => rw [hg] at p; exact p.elim
  | ok ys h2 =>
    rw [hg] at p
    have p : post K S π1 H1 Q E (if ys.length ≤ lim then .ok (.lst ys) h2 else .bad) := p
    split at p
    · rename_i hl
      exact ⟨hl, fun π3 H3 v e rel r => p π3 H3 v e rel r⟩
    · exact p.elim
/-- the reading of a comprehension does what the fragment says -/
theorem lc_sound (G : Good X S κ k) {t : E} {mi mc me : Env → HS → R D} {vs : List Nat} {σ : L2.St} {H : Hp} {Q : VK}
    (h : tD X S (fun ρ h => (mi ρ h).bind fun l h1 => ((compGo (compF t vs ρ mc me) (its l) h1).nox).bind fun ys h5 => if ys.length ≤ lim then .ok (.lst ys) h5 else .bad) σ H Q) :
    tLc (tID X S mi) (tGN X S.noX t vs) (tDT X S.noX mc) (tD X S.noX me) vs σ H Q := by
  obtain ⟨π, ρ, hs, rel, sl, p⟩ := h
  refine ⟨π, ρ, hs, rel, sl, gp_bind p fun l hs1 π1 H1 J e1 rel1 srv p1 => ?_⟩
  intro D hD
  have rest0 := restC_of p1
  have sl1 : Slots X.K S π1 H1 ρ σ := sl.mono rel e1
  generalize its l = ds at srv rest0
  refine ⟨fun i m H => m = ds.length - i ∧ i ≤ ds.length ∧ ∃ π hs acc, BSt X.K S π1 H1 D π H hs acc ∧ restC X.K S π1 H1 Q (compF t vs ρ mc me) acc (ds.drop i) hs, ⟨ds.length, by simp, Nat.zero_le _, _, hs1, [], .start rel1 hD, by simpa using rest0⟩, ?_⟩
  rintro i m H2 ⟨rfl, hi, π2, hs2, acc, b, rest⟩
  by_cases hlt : i < ds.length
  · right
    have hget : ds[i]? = some ds[i] := List.getElem?_eq_getElem hlt
    obtain ⟨hgo, hy⟩ := srv.go i _ π2 H2 hs2 b.kp b.rel hget
    rw [drop_cons hget] at rest
    obtain ⟨o, h1, hf, rest⟩ := restC_cons rest
    refine ⟨hgo, fun H' => ∃ π hs acc, BSt X.K S π1 H1 D π H' hs acc ∧ restC X.K S π1 H1 Q (compF t vs ρ mc me) acc (ds.drop (i + 1)) hs, fun H' ⟨π', hs', acc', b', r'⟩ => ⟨ds.length - (i + 1), by omega, rfl, hlt, π', hs', acc', b', r'⟩, fun x H' hyld => ?_⟩
    obtain ⟨e3, rel3, r3⟩ := hy x H' hyld
    have b3 := b.next e3 rel3
    have sl3 : Slots X.K S.noX π2 H' (blkE ρ vs) (L2.wipe σ vs) := (sl1.kept rel1 b3.kp).blk vs
    unfold compF at hf
    cases hst : stN t ds[i] (blkE ρ vs) with
    | none => rw [hst] at hf; cases hf
    | some ρ' =>
      rw [hst] at hf
      dsimp only at hf
      refine ⟨π2, blkE ρ vs, hs2, ds[i], ρ', rel3, sl3, r3, hst, fun σ2 sl4 hw => ⟨by rw [hw]; exact wipe_wipe σ vs, ?_⟩⟩
      cases hc : mc ρ' hs2 with
      | bad => rw [hc] at hf; cases hf
      | exc c' d' hh => rw [hc] at hf; cases hf
      | ok bv hs3 =>
        rw [hc] at hf
        refine ⟨π2, ρ', hs2, rel3, sl4, ?_⟩
        rw [hc]
        intro π4 H4 v4 e4 rel4 r4
        have b4 := b3.next e4 rel4
        cases bv <;> try (cases hf; done)
        rename_i bb
        cases r4
        refine ⟨bb, rfl, ?_⟩
        cases bb with
        | false =>
          cases hf
          dsimp only
          rw [if_neg Bool.false_ne_true]
          exact ⟨π4, _, acc, b4, by simpa using rest⟩
        | true =>
          dsimp only
          rw [if_pos rfl]
          have hf : (me ρ' hs3).bind (fun y h2 => R.ok (some y) h2) = .ok o h1 := hf
          cases he : me ρ' hs3 with
          | bad => rw [he] at hf; cases hf
          | exc c' d' hh => rw [he] at hf; cases hf
          | ok y hs4 =>
            rw [he] at hf
            cases hf
            refine ⟨π4, ρ', hs3, rel4, sl4.mono rel3 e4, ?_⟩
            rw [he]
            intro π5 H5 v5 e5 rel5 r5
            have b5 := b4.next e5 rel5
            obtain ⟨ws, w1, w2, b6⟩ := b5.push hD r5
            have hl := restC_len rest
            refine ⟨ws, w1, lim_lt ?_, π5, _, _, b6, rest⟩
            rw [w2]
            rw [List.length_append] at hl
            exact Nat.lt_of_lt_of_le (Nat.lt_succ_self _) hl
  · left
    have e : i = ds.length := by omega
    subst e
    refine ⟨srv.stop π2 H2 hs2 b.kp b.rel, ?_⟩
    rw [List.drop_length] at rest
    unfold restC compGo at rest
    obtain ⟨rel9, r9⟩ := b.done rel1 hD
    exact rest.2 _ _ _ b.ext rel9 (by simpa using r9)
end
end VE
set_option Elab.async false
set_option linter.all false
set_option maxRecDepth 100000
set_option maxHeartbeats 1000000
set_option autoImplicit false
/-! V12: comprehensions of two clauses; the rules of comprehensions -/
namespace VE
open PySem PySem.Spec PyProof.Rows L2
section
variable {X : Cx} {S : Sta} {κ : Kx} {k : Nat}
def rest2 (K : PySem.W.Frag) (S : Sta) (π1 : Pi) (H1 : Hp) (Q : VK) (f : D → HS → R (List D)) (acc : List D) (ds : List D) (hs : HS) : Prop := match comp2Go f ds hs with
  | .ok ys h' => (acc ++ ys).length ≤ lim ∧ ∀ π3 H3 v, Ext π1 H1 π3 H3 → Rel K S.T π3 H3 h' → RD K π3 H3 (.lst (acc ++ ys)) v → Q v H3
  | _ => False
theorem rest2_cons {K : PySem.W.Frag} {π1 : Pi} {H1 : Hp} {Q : VK} {f : D → HS → R (List D)} {acc ds : List D} {d : D} {hs : HS} (h : rest2 K S π1 H1 Q f acc (d :: ds) hs) : ∃ o h1, f d hs = .ok o h1 ∧ rest2 K S π1 H1 Q f (acc ++ o) ds h1 := by
  unfold rest2 at h
  unfold comp2Go at h
  cases hf : f d hs with
  | bad => rw [hf] at h; exact h.elim
  | exc c' d' hh => rw [hf] at h; exact h.elim
  | ok o h1 =>
    rw [hf] at h
    refine ⟨o, h1, rfl, ?_⟩
    unfold rest2
    simp only [VE.R.bind_ok] at h
    cases hg : comp2Go f ds h1 with
    | bad => rw [hg] at h; exact h.elim
    | exc c' d' hh => rw [hg] at h; exact h.elim
    | ok ys h2 =>
      rw [hg] at h
      simp only [VE.R.bind_ok] at h
      dsimp only
      rw [List.append_assoc]
      exact h
theorem rest2_len {K : PySem.W.Frag} {π1 : Pi} {H1 : Hp} {Q : VK} {f : D → HS → R (List D)} {acc ds : List D} {hs : HS} (h : rest2 K S π1 H1 Q f acc ds hs) : acc.length ≤ lim := by
  unfold rest2 at h
  cases hg : comp2Go f ds hs with
  | bad => rw [hg] at h; exact h.elim
  | exc c' d' hh => rw [hg] at h; exact h.elim
  | ok ys h2 =>
    rw [hg] at h
    have := h.1
    rw [List.length_append] at this
    omega
theorem rest2_of {K : PySem.W.Frag} {π1 : Pi} {H1 : Hp} {Q : VK} {E : XK} {f : D → HS → R (List D)} {ds : List D} {hs : HS}
    (p : post K S π1 H1 Q E (((comp2Go f ds hs).nox).bind fun ys h5 => if ys.length ≤ lim then .ok (.lst ys) h5 else .bad)) : rest2 K S π1 H1 Q f [] ds hs := by
  unfold rest2
  cases hg : comp2Go f ds hs with
  | bad => rw [hg] at p; exact p.elim
  | exc c' d' hh => rw [hg] at p; exact p.elim
  | ok ys h2 =>
    rw [hg] at p
    have p : post K S π1 H1 Q E (if ys.length ≤ lim then .ok (.lst ys) h2 else .bad) := p
    split at p
    · rename_i hl
      exact ⟨hl, fun π3 H3 v e rel r => p π3 H3 v e rel r⟩
    · exact p.elim
/-- within a turn: what is left of the inner loop, then the outer one's rest -/
def restI (f1 : D → HS → R (Option D)) (R2 : List D → HS → Prop) (acc : List D) (es : List D) (hs : HS) : Prop := match compGo f1 es hs with
  | .ok zs h' => R2 (acc ++ zs) h'
  | _ => False
theorem restI_cons {f1 : D → HS → R (Option D)} {R2 : List D → HS → Prop} {acc es : List D} {d : D} {hs : HS} (h : restI f1 R2 acc (d :: es) hs) : ∃ o h1, f1 d hs = .ok o h1 ∧ restI f1 R2 (acc ++ o.toList) es h1 := by
  unfold restI at h
  unfold compGo at h
  cases hf : f1 d hs with
  | bad => rw [hf] at h; exact h.elim
  | exc c' d' hh => rw [hf] at h; exact h.elim
  | ok o h1 =>
    rw [hf] at h
    refine ⟨o, h1, rfl, ?_⟩
    unfold restI
    simp only [VE.R.bind_ok] at h
    cases hg : compGo f1 es h1 with
    | bad => rw [hg] at h; exact h.elim
    | exc c' d' hh => rw [hg] at h; exact h.elim
    | ok ys h2 =>
      rw [hg] at h
      simp only [VE.R.bind_ok] at h
      dsimp only
      rw [List.append_assoc]
      exact h
theorem restI_len {f1 : D → HS → R (Option D)} {R2 : List D → HS → Prop} {acc es : List D} {hs : HS} (hr : ∀ acc h, R2 acc h → acc.length ≤ lim) (h : restI f1 R2 acc es hs) : acc.length ≤ lim := by
  unfold restI at h
  cases hg : compGo f1 es hs with
  | bad => rw [hg] at h; exact h.elim
  | exc c' d' hh => rw [hg] at h; exact h.elim
  | ok ys h2 =>
    rw [hg] at h
    have := hr _ _ h
    rw [List.length_append] at this
    omega
theorem wipe_sub {σ σ' : L2.St} {vs vs1 : List Nat} (hv : ∀ i ∈ vs1, i ∈ vs) (h : σ' = L2.wipe σ vs1) : L2.wipe σ' vs = L2.wipe σ vs := by
  subst h
  apply List.ext_getElem?
  intro j
  by_cases h : j ∈ vs
  · rw [wipe_nth j vs _ h, wipe_nth j vs _ h, wipe_length]
  · rw [wipe_out h, wipe_out h, wipe_out (fun z => h (hv j z))]
theorem lc2_sound (G : Good X S κ k) {t t2 : E} {mi m2 me : Env → HS → R D} {vs vs1 : List Nat} {σ : L2.St} {H : Hp} {Q : VK}
    (h : tD X S (fun ρ h => (mi ρ h).bind fun l h1 => ((comp2Go (comp2F t vs t2 vs1 ρ m2 me) (its l) h1).nox).bind fun ys h5 => if ys.length ≤ lim then .ok (.lst ys) h5 else .bad) σ H Q) :
    tLc2 (tID X S mi) (tGN X S.noX t vs) tYes (tID X S.noX m2) (tGN X S.noX t2 vs1) tYes (tD X S.noX me) vs vs1 σ H Q := by
  obtain ⟨π, ρ, hs, rel, sl, p⟩ := h
  refine ⟨π, ρ, hs, rel, sl, gp_bind p fun l hs1 π1 H1 J e1 rel1 srv p1 => ?_⟩
  intro D hD
  have rest0 := rest2_of p1
  have sl1 : Slots X.K S π1 H1 ρ σ := sl.mono rel e1
  generalize its l = ds at srv rest0
  refine ⟨fun i m H => m = ds.length - i ∧ i ≤ ds.length ∧ ∃ π hs acc, BSt X.K S π1 H1 D π H hs acc ∧ rest2 X.K S π1 H1 Q (comp2F t vs t2 vs1 ρ m2 me) acc (ds.drop i) hs, ⟨ds.length, by simp, Nat.zero_le _, _, hs1, [], .start rel1 hD, by simpa using rest0⟩, ?_⟩
  rintro i m H2 ⟨rfl, hi, π2, hs2, acc, b, rest⟩
  by_cases hlt : i < ds.length
  · right
    have hget : ds[i]? = some ds[i] := List.getElem?_eq_getElem hlt
    obtain ⟨hgo, hy⟩ := srv.go i _ π2 H2 hs2 b.kp b.rel hget
    rw [drop_cons hget] at rest
    obtain ⟨o, h1, hf, rest⟩ := rest2_cons rest
    refine ⟨hgo, fun H' => ∃ π hs acc, BSt X.K S π1 H1 D π H' hs acc ∧ rest2 X.K S π1 H1 Q (comp2F t vs t2 vs1 ρ m2 me) acc (ds.drop (i + 1)) hs, fun H' ⟨π', hs', acc', b', r'⟩ => ⟨ds.length - (i + 1), by omega, rfl, hlt, π', hs', acc', b', r'⟩, fun x H' hyld => ?_⟩
    obtain ⟨e3, rel3, r3⟩ := hy x H' hyld
    have b3 := b.next e3 rel3
    have sl3 : Slots X.K S.noX π2 H' (blkE ρ vs) (L2.wipe σ vs) := (sl1.kept rel1 b3.kp).blk vs
    unfold comp2F at hf
    cases hst : stN t ds[i] (blkE ρ vs) with
    | none => rw [hst] at hf; cases hf
    | some ρ' =>
      rw [hst] at hf
      dsimp only at hf
      refine ⟨π2, blkE ρ vs, hs2, ds[i], ρ', rel3, sl3, r3, hst, fun σ2 sl4 hw => ⟨by rw [hw]; exact wipe_wipe σ vs, ?_⟩⟩
      unfold tYes
      dsimp only
      rw [if_pos rfl]
      cases h2 : m2 ρ' hs2 with
      | bad => rw [h2] at hf; cases hf
      | exc c' d' hh => rw [h2] at hf; cases hf
      | ok l2 hs3 =>
        rw [h2] at hf
        have hf : compGo (comp1F t2 vs1 ρ' me) (its l2) hs3 = .ok o h1 := hf
        refine ⟨π2, ρ', hs2, rel3, sl4, ?_⟩
        rw [h2]
        intro π4 H4 J1 e4 rel4 srv1
        have b4 := b3.next e4 rel4
        have sl5 : Slots X.K S.noX π4 H4 ρ' σ2 := sl4.mono rel3 e4
        have restI0 : restI (comp1F t2 vs1 ρ' me) (fun acc hs => rest2 X.K S π1 H1 Q (comp2F t vs t2 vs1 ρ m2 me) acc (ds.drop (i + 1)) hs) acc (its l2) hs3 := by
          unfold restI
          rw [hf]
          exact rest
        generalize its l2 = es at srv1 restI0
        refine ⟨fun j kk H => kk = es.length - j ∧ j ≤ es.length ∧ ∃ π hs acc, BSt X.K S π1 H1 D π H hs acc ∧ Keeps π4 H4 π H ∧ restI (comp1F t2 vs1 ρ' me) (fun acc hs => rest2 X.K S π1 H1 Q (comp2F t vs t2 vs1 ρ m2 me) acc (ds.drop (i + 1)) hs) acc (es.drop j) hs, ⟨es.length, by simp, Nat.zero_le _, π4, hs3, acc, b4, (Ext.refl _ _).keeps, by simpa using restI0⟩, ?_⟩
        rintro j kk H5 ⟨rfl, hj, π5, hs5, acc5, b5, k5, rest5⟩
        by_cases hjl : j < es.length
        · right
          have hget5 : es[j]? = some es[j] := List.getElem?_eq_getElem hjl
          obtain ⟨hgo5, hy5⟩ := srv1.go j _ π5 H5 hs5 k5 b5.rel hget5
          rw [drop_cons hget5] at rest5
          obtain ⟨o5, h5, hf5, rest5⟩ := restI_cons rest5
          refine ⟨hgo5, fun H' => ∃ π hs acc, BSt X.K S π1 H1 D π H' hs acc ∧ Keeps π4 H4 π H' ∧ restI (comp1F t2 vs1 ρ' me) (fun acc hs => rest2 X.K S π1 H1 Q (comp2F t vs t2 vs1 ρ m2 me) acc (ds.drop (i + 1)) hs) acc (es.drop (j + 1)) hs, fun H' ⟨π', hs', acc', b', k', r'⟩ => ⟨es.length - (j + 1), by omega, rfl, hjl, π', hs', acc', b', k', r'⟩, fun x5 H6 hyld5 => ?_⟩
          obtain ⟨e6, rel6, r6⟩ := hy5 x5 H6 hyld5
          have b6 := b5.next e6 rel6
          have sl6 : Slots X.K S.noX π5 H6 (wipeD ρ' vs1) (L2.wipe σ2 vs1) := (sl5.kept rel4 (k5.trans e6.keeps)).wipe vs1
          unfold comp1F at hf5
          cases hst5 : stN t2 es[j] (wipeD ρ' vs1) with
          | none => rw [hst5] at hf5; cases hf5
          | some ρ5 =>
            rw [hst5] at hf5
            dsimp only at hf5
            refine ⟨π5, wipeD ρ' vs1, hs5, es[j], ρ5, rel6, sl6, r6, hst5, fun σ3 sl7 hw3 => ⟨by rw [hw3]; exact wipe_wipe σ2 vs1, ?_⟩⟩
            dsimp only
            rw [if_pos rfl]
            cases he : me ρ5 hs5 with
            | bad => rw [he] at hf5; cases hf5
            | exc c' d' hh => rw [he] at hf5; cases hf5
            | ok y hs6 =>
              rw [he] at hf5
              cases hf5
              refine ⟨π5, ρ5, hs5, rel6, sl7, ?_⟩
              rw [he]
              intro π7 H7 v7 e7 rel7 r7
              have b7 := b6.next e7 rel7
              obtain ⟨ws, w1, w2, b8⟩ := b7.push hD r7
              have hl := restI_len (fun acc h z => rest2_len z) rest5
              refine ⟨ws, w1, lim_lt ?_, π7, _, _, b8, ?_, rest5⟩
              · rw [w2]
                rw [List.length_append] at hl
                exact Nat.lt_of_lt_of_le (Nat.lt_succ_self _) hl
              · have hDh : D ∈ π7.hid := by rw [b7.hid]; exact List.mem_cons_self
                exact ((k5.trans e6.keeps).trans e7.keeps).trans (Keeps.grow hDh (by rw [w1]; simp))
        · left
          have e : j = es.length := by omega
          subst e
          refine ⟨srv1.stop π5 H5 hs5 k5 b5.rel, ?_⟩
          rw [List.drop_length] at rest5
          unfold restI compGo at rest5
          exact ⟨π5, hs5, acc5, b5, by simpa using rest5⟩
  · left
    have e : i = ds.length := by omega
    subst e
    refine ⟨srv.stop π2 H2 hs2 b.kp b.rel, ?_⟩
    rw [List.drop_length] at rest
    unfold rest2 comp2Go at rest
    obtain ⟨rel9, r9⟩ := b.done rel1 hD
    exact rest.2 _ _ _ b.ext rel9 (by simpa using r9)
/-! ### the rules -/
variable {elt tg iter tg1 iter1 : Expr} {ifs : List Expr} {scope : Scope} {own : List (Str × Nat)} {vs1 : List Nat} {pos spos : Pos} {t t2 : E} {mi mc m2 me : Env → HS → R D}
/-- everywhere in a block -/
abbrev InBlk (X : Cx) (scope : Scope) (P : Cx → Prop) : Prop := ∀ (s : Shared) (H : Hp) (C : Addr) (cl : List (Str × Addr)) (fp : List Addr), P (X.blk s H scope (compEnvC scope cl C X.env) fp)
theorem d_lc (G : Good X S κ k) (hi : PI X tg iter (tID X S mi)) (ok : BlkOk κ.N κ.sc scope own) (hg : InBlk X scope fun Y => PG Y tg (tGN X S.noX t (own.map (·.2)))) (ht : InBlk X scope fun Y => PTs Y ifs (tDT X S.noX mc)) (he : InBlk X scope fun Y => PE Y elt (tD X S.noX me))
    (hs : ∀ x, foldedSetIterable iter X.env x = pure x) :
    PE X (.ListComp elt [⟨tg, iter, ifs, 0⟩] scope pos) (tD X S fun ρ h => (mi ρ h).bind fun l h1 => ((compGo (compF t (own.map (·.2)) ρ mc me) (its l) h1).nox).bind fun ys h5 => if ys.length ≤ lim then .ok (.lst ys) h5 else .bad) :=
  (pe_lc G.calm (by rw [G.nN]; exact G.nd) hi (by rw [G.nN, G.sce]; exact ok) hg ht he hs).imp fun σ H Q q => lc_sound G q
theorem d_lc2 (G : Good X S κ k) (hi : PI X tg iter (tID X S mi)) (ok : BlkOk κ.N κ.sc scope own) (hv : ∀ i ∈ vs1, i ∈ own.map (·.2)) (hg : InBlk X scope fun Y => PG Y tg (tGN X S.noX t (own.map (·.2))))
    (hi1 : InBlk X scope fun Y => PI Y tg1 iter1 (tID X S.noX m2)) (hg1 : InBlk X scope fun Y => PG Y tg1 (tGN X S.noX t2 vs1)) (he : InBlk X scope fun Y => PE Y elt (tD X S.noX me))
    (hs : ∀ x, foldedSetIterable iter X.env x = pure x) (hs1 : ∀ env x, foldedSetIterable iter1 env x = pure x) :
    PE X (.ListComp elt [⟨tg, iter, [], 0⟩, ⟨tg1, iter1, [], 0⟩] scope pos) (tD X S fun ρ h => (mi ρ h).bind fun l h1 => ((comp2Go (comp2F t (own.map (·.2)) t2 vs1 ρ m2 me) (its l) h1).nox).bind fun ys h5 => if ys.length ≤ lim then .ok (.lst ys) h5 else .bad) :=
  (pe_lc2 G.calm (by rw [G.nN]; exact G.nd) hi (by rw [G.nN, G.sce]; exact ok) hv hg (fun _ _ _ _ _ => pts_nil) hi1 hg1 (fun _ _ _ _ _ => pts_nil) he hs hs1).imp fun σ H Q q => lc2_sound G q
end
end VE
set_option Elab.async false
set_option linter.all false
set_option maxRecDepth 100000
set_option maxHeartbeats 1000000
set_option autoImplicit false
/-! V13: statements -/
namespace VE
open PySem PySem.Spec PyProof.Rows L2
section
variable {X : Cx} {S : Sta} {κ : Kx} {k : Nat}
def outP (K : PySem.W.Frag) (S : Sta) (E : Ends) (π : Pi) (H : Hp) : Out → Prop
  | .nx ρ hs => ∀ π' H' σ', Ext π H π' H' → Rel K S.T π' H' hs → Slots K S π' H' ρ σ' → E.nx σ' H'
  | .bk ρ hs => ∀ π' H' σ', Ext π H π' H' → Rel K S.T π' H' hs → Slots K S π' H' ρ σ' → E.bk σ' H'
  | .ct ρ hs => ∀ π' H' σ', Ext π H π' H' → Rel K S.T π' H' hs → Slots K S π' H' ρ σ' → E.ct σ' H'
  | .rt d hs => ∀ π' H' v, Ext π H π' H' → Rel K S.T π' H' hs → RD K π' H' d v → E.rt v H'
  | .exc c d ρ hs => ∀ π' H' σ' cls dd, Ext π H π' H' → Rel K S.T π' H' hs → Slots K S π' H' ρ σ' → ExR K S.cv π' H' c d cls dd → S.W cls dd σ' H'
  | .bad => False
theorem outP.mono {K : PySem.W.Frag} {E : Ends} {π π1 : Pi} {H H1 : Hp} {o : Out} (e : Ext π H π1 H1) (h : outP K S E π H o) : outP K S E π1 H1 o := by
  cases o with
  | nx ρ hs => exact fun π' H' σ' e' => h π' H' σ' (e.trans e')
  | bk ρ hs => exact fun π' H' σ' e' => h π' H' σ' (e.trans e')
  | ct ρ hs => exact fun π' H' σ' e' => h π' H' σ' (e.trans e')
  | rt d hs => exact fun π' H' v e' => h π' H' v (e.trans e')
  | exc c d ρ hs => exact fun π' H' σ' cls dd e' => h π' H' σ' cls dd (e.trans e')
  | bad => exact h
def tSD (X : Cx) (S : Sta) (m : Env → HS → Out) : TS := fun E σ H => ∃ π ρ hs, Rel X.K S.T π H hs ∧ Slots X.K S π H ρ σ ∧ outP X.K S E π H (m ρ hs)
/-- an expression within a statement -/
theorem out_bind {β : Type} {K : PySem.W.Frag} {E : Ends} {π : Pi} {H : Hp} {ρ : Env} {σ : L2.St} {hs : HS} {RV : Pi → Hp → D → β → Prop} {N : β → Hp → Prop} {r : R D} {kk : D → HS → Out} (rel : Rel K S.T π H hs) (sl : Slots K S π H ρ σ) (h : outP K S E π H (Out.ofR ρ r kk))
    (n : ∀ d hs1 π1 H1 x, Ext π H π1 H1 → Rel K S.T π1 H1 hs1 → RV π1 H1 d x → Slots K S π1 H1 ρ σ → outP K S E π1 H1 (kk d hs1) → N x H1) (hK : K = X.K) : gp K S RV π H N (fun c d H' => S.W c d σ H') r := by
  subst hK
  cases r with
  | ok d hs1 => exact fun π1 H1 x e rel1 rv => n d hs1 π1 H1 x e rel1 rv (sl.mono rel e) (outP.mono e h)
  | exc c d hs1 => exact fun π1 H1 cls dd e rel1 x => h π1 H1 σ cls dd e rel1 (sl.mono rel e) x
  | bad => exact h
/-! ### the plain ones -/
theorem ds_nil : PSs X [] (tSD X S fun ρ h => .nx ρ h) := pss_nil.imp fun E σ H ⟨π, ρ, hs, rel, sl, p⟩ => p π H σ (.refl _ _) rel sl
theorem ds_pass {pos : Pos} : PS X (.Pass pos) (tSD X S fun ρ h => .nx ρ h) := ps_pass.imp fun E σ H ⟨π, ρ, hs, rel, sl, p⟩ => p π H σ (.refl _ _) rel sl
theorem ds_break {pos : Pos} : PS X (.Break pos) (tSD X S fun ρ h => .bk ρ h) := ps_break.imp fun E σ H ⟨π, ρ, hs, rel, sl, p⟩ => p π H σ (.refl _ _) rel sl
theorem ds_continue {pos : Pos} : PS X (.Continue pos) (tSD X S fun ρ h => .ct ρ h) := ps_continue.imp fun E σ H ⟨π, ρ, hs, rel, sl, p⟩ => p π H σ (.refl _ _) rel sl
theorem ds_never {st : Stmt} : PS X st (tSD X S fun _ _ => .bad) := ps_never.imp fun E σ H ⟨π, ρ, hs, rel, sl, p⟩ => p
theorem ds_retN {pos : Pos} : PS X (.Return none pos) (tSD X S fun _ h => .rt .non h) := ps_retN.imp fun E σ H ⟨π, ρ, hs, rel, sl, p⟩ => p π H _ (.refl _ _) rel .non
theorem ds_cons {st : Stmt} {rest : List Stmt} {ma mb : Env → HS → Out} (h1 : PS X st (tSD X S ma)) (h2 : PSs X rest (tSD X S mb)) : PSs X (st :: rest) (tSD X S fun ρ h => (ma ρ h).then mb) := by
  refine (pss_cons h1 h2).imp fun E σ H ⟨π, ρ, hs, rel, sl, p⟩ => ⟨π, ρ, hs, rel, sl, ?_⟩
  dsimp only at p
  cases hm : ma ρ hs with
  | nx ρ1 hs1 =>
    rw [hm] at p
    exact fun π1 H1 σ1 e rel1 sl1 => ⟨π1, ρ1, hs1, rel1, sl1, outP.mono e p⟩
  | bk ρ1 hs1 => rw [hm] at p; exact p
  | ct ρ1 hs1 => rw [hm] at p; exact p
  | rt d hs1 => rw [hm] at p; exact p
  | exc c d ρ1 hs1 => rw [hm] at p; exact p
  | bad => rw [hm] at p; exact p
theorem ds_ret {e : Expr} {m : Env → HS → R D} {pos : Pos} (he : PE X e (tD X S m)) : PS X (.Return (some e) pos) (tSD X S fun ρ h => .ofR ρ (m ρ h) fun d h1 => .rt d h1) := by
  refine (ps_ret he).imp fun E σ H ⟨π, ρ, hs, rel, sl, p⟩ => ⟨π, ρ, hs, rel, sl, out_bind (β := V) rel sl p (fun d hs1 π1 H1 x e rel1 r sl1 q => q π1 H1 x (.refl _ _) rel1 r) rfl⟩
theorem ds_ex {e : Expr} {m : Env → HS → R D} {pos : Pos} (he : PE X e (tD X S m)) (hs : swapsWith e none pos.line X.env = pure false) : PS X (.Expr e pos) (tSD X S fun ρ h => .ofR ρ (m ρ h) fun _ h1 => .nx ρ h1) := by
  refine (ps_expr he hs).imp fun E σ H ⟨π, ρ, hs, rel, sl, p⟩ => ⟨π, ρ, hs, rel, sl, out_bind (β := V) rel sl p (fun d hs1 π1 H1 x e rel1 r sl1 q => q π1 H1 σ (.refl _ _) rel1 sl1) rfl⟩
theorem ds_if {c : Expr} {a b : List Stmt} {mc : Env → HS → R D} {ma mb : Env → HS → Out} {pos : Pos} (hc : PT X c (tDT X S mc)) (ha : PSs X a (tSD X S ma)) (hb : PSs X b (tSD X S mb)) :
    PS X (.If c a b pos) (tSD X S fun ρ h => .ofR ρ (mc ρ h) fun d h1 => match d with | .bl true => ma ρ h1 | .bl false => mb ρ h1 | _ => .bad) := by
  refine (ps_if hc ha hb).imp fun E σ H ⟨π, ρ, hs, rel, sl, p⟩ => ⟨π, ρ, hs, rel, sl, out_bind (β := V) rel sl p (fun d hs1 π1 H1 x e rel1 r sl1 q => ?_) rfl⟩
  cases r <;> try exact q.elim
  rename_i t
  refine ⟨t, rfl, ?_⟩
  cases t with
  | true => rw [if_pos rfl]; exact ⟨π1, ρ, hs1, rel1, sl1, q⟩
  | false => rw [if_neg Bool.false_ne_true]; exact ⟨π1, ρ, hs1, rel1, sl1, q⟩
/-! ### stores -/
theorem ds_set (G : Good X S κ k) {i : Nat} {x : Str} {e : Expr} {m : Env → HS → R D} {pos pos' : Pos} (hi : κ.N[i]? = some x) (hx : Loc κ.sc x) (hf : κ.fn x = true ∨ κ.sc.names.lookup x = some .local) (he : PE X e (tD X S m)) (hs : swapsWith e (some (.Name x pos')) pos.line X.env = pure false) :
    PS X (.Assign [.Name x pos'] e pos) (tSD X S fun ρ h => .ofR ρ (m ρ h) fun d h1 => .nx (ρ.set i (some d)) h1) := by
  refine (ps_set (i := i) (by rw [G.nN]; exact G.nd) (by rw [G.nN]; exact hi) (by rw [G.sce]; exact hx) he hs (by rw [G.fn, G.sce]; exact hf)).imp fun E σ H ⟨π, ρ, hs, rel, sl, p⟩ => ⟨π, ρ, hs, rel, sl, out_bind (β := V) rel sl p (fun d hs1 π1 H1 x e rel1 r sl1 q => q π1 H1 _ (.refl _ _) rel1 (sl1.set r)) rfl⟩
theorem ds_setLc (G : Good X S κ k) {i : Nat} {y : Str} {py : Pos} {elt tg iter : Expr} {ifs : List Expr} {scope : Scope} {own : List (Str × Nat)} {pos spos : Pos} {t : E} {mi mc me : Env → HS → R D} (hy : κ.N[i]? = some y) (hyl : κ.sc.names.lookup y = some .local)
    (hsw : swapsWith (.ListComp elt [⟨tg, iter, ifs, 0⟩] scope pos) (some (.Name y py)) spos.line X.env = pure true) (hi : PI X tg iter (tID X S mi)) (ok : BlkOk κ.N κ.sc scope own) (hg : InBlk X scope fun Y => PG Y tg (tGN X S.noX t (own.map (·.2)))) (ht : InBlk X scope fun Y => PTs Y ifs (tDT X S.noX mc)) (he : InBlk X scope fun Y => PE Y elt (tD X S.noX me))
    (hs : ∀ x, foldedSetIterable iter X.env x = pure x) :
    PS X (.Assign [.Name y py] (.ListComp elt [⟨tg, iter, ifs, 0⟩] scope pos) spos) (tSD X S fun ρ h => .ofR ρ ((mi ρ h).bind fun l h1 => ((compGo (compF t (own.map (·.2)) ρ mc me) (its l) h1).nox).bind fun ys h5 => if ys.length ≤ lim then .ok (.lst ys) h5 else .bad) fun d h1 => .nx (ρ.set i (some d)) h1) := by
  refine (ps_setLc (i := i) G.calm (by rw [G.nN]; exact G.nd) (by rw [G.nN]; exact hy) (by rw [G.sce]; exact hyl) hsw hi (by rw [G.nN, G.sce]; exact ok) hg ht he hs).imp fun E σ H ⟨π, ρ, hs, rel, sl, p⟩ => ?_
  exact lc_sound G ⟨π, ρ, hs, rel, sl, out_bind (β := V) rel sl p (fun d hs1 π1 H1 x e rel1 r sl1 q => q π1 H1 _ (.refl _ _) rel1 (sl1.set r)) rfl⟩
theorem ds_setLc2 (G : Good X S κ k) {i : Nat} {y : Str} {py : Pos} {elt tg iter tg1 iter1 : Expr} {scope : Scope} {own : List (Str × Nat)} {vs1 : List Nat} {pos spos : Pos} {t t2 : E} {mi m2 me : Env → HS → R D} (hy : κ.N[i]? = some y) (hyl : κ.sc.names.lookup y = some .local)
    (hsw : swapsWith (.ListComp elt [⟨tg, iter, [], 0⟩, ⟨tg1, iter1, [], 0⟩] scope pos) (some (.Name y py)) spos.line X.env = pure true) (hi : PI X tg iter (tID X S mi)) (ok : BlkOk κ.N κ.sc scope own) (hv : ∀ i ∈ vs1, i ∈ own.map (·.2)) (hg : InBlk X scope fun Y => PG Y tg (tGN X S.noX t (own.map (·.2))))
    (hi1 : InBlk X scope fun Y => PI Y tg1 iter1 (tID X S.noX m2)) (hg1 : InBlk X scope fun Y => PG Y tg1 (tGN X S.noX t2 vs1)) (he : InBlk X scope fun Y => PE Y elt (tD X S.noX me))
    (hs : ∀ x, foldedSetIterable iter X.env x = pure x) (hs1 : ∀ env x, foldedSetIterable iter1 env x = pure x) :
    PS X (.Assign [.Name y py] (.ListComp elt [⟨tg, iter, [], 0⟩, ⟨tg1, iter1, [], 0⟩] scope pos) spos) (tSD X S fun ρ h => .ofR ρ ((mi ρ h).bind fun l h1 => ((comp2Go (comp2F t (own.map (·.2)) t2 vs1 ρ m2 me) (its l) h1).nox).bind fun ys h5 => if ys.length ≤ lim then .ok (.lst ys) h5 else .bad) fun d h1 => .nx (ρ.set i (some d)) h1) := by
  refine (ps_setLc2 (i := i) G.calm (by rw [G.nN]; exact G.nd) (by rw [G.nN]; exact hy) (by rw [G.sce]; exact hyl) hsw hi (by rw [G.nN, G.sce]; exact ok) hv hg (fun _ _ _ _ _ => pts_nil) hi1 hg1 (fun _ _ _ _ _ => pts_nil) he hs hs1).imp fun E σ H ⟨π, ρ, hs, rel, sl, p⟩ => ?_
  exact lc2_sound G ⟨π, ρ, hs, rel, sl, out_bind (β := V) rel sl p (fun d hs1 π1 H1 x e rel1 r sl1 q => q π1 H1 _ (.refl _ _) rel1 (sl1.set r)) rfl⟩
/-! targets -/
def gE (K : PySem.W.Frag) (S : Sta) (π : Pi) (H : Hp) (Q : L2.St → Hp → Prop) : R Env → Prop
  | .ok ρ' hs' => ∀ π' H' σ', Ext π H π' H' → Rel K S.T π' H' hs' → Slots K S π' H' ρ' σ' → Q σ' H'
  | _ => False
theorem gE.mono {K : PySem.W.Frag} {π π1 : Pi} {H H1 : Hp} {Q : L2.St → Hp → Prop} {r : R Env} (e : Ext π H π1 H1) (h : gE K S π H Q r) : gE K S π1 H1 Q r := by
  cases r with
  | ok ρ hs => exact fun π' H' σ' e' => h π' H' σ' (e.trans e')
  | _ => exact h
def tGM (X : Cx) (S : Sta) (f : D → Env → HS → R Env) : TG := fun v σ H Q => ∃ π ρ hs d, Rel X.K S.T π H hs ∧ Slots X.K S π H ρ σ ∧ RD X.K π H d v ∧ gE X.K S π H Q (f d ρ hs)
def tGMs (X : Cx) (S : Sta) (f : D → Env → HS → R Env) : TGs := fun ws σ H Q => ∃ π ρ hs ds, Rel X.K S.T π H hs ∧ Slots X.K S π H ρ σ ∧ RDs X.K π H ds ws ∧ gE X.K S π H Q (f (.lst ds) ρ hs)
theorem dm_name (G : Good X S κ k) {i : Nat} {x : Str} {pos : Pos} (hi : κ.N[i]? = some x) (hx : Loc κ.sc x) (hf : κ.fn x = true ∨ κ.sc.names.lookup x = some .local) : PG X (.Name x pos) (tGM X S fun d ρ h => .ok (ρ.set i (some d)) h) := by
  refine (pg_name (i := i) (by rw [G.nN]; exact G.nd) (by rw [G.nN]; exact hi) (by rw [G.sce]; exact hx) (by rw [G.fn, G.sce]; exact hf)).imp fun v σ H Q ⟨π, ρ, hs, d, rel, sl, r, q⟩ => ?_
  exact q π H _ (.refl _ _) rel (sl.set r)
theorem dms_nil (F : Nat → List D → HS → R D) (Gf : Nat → List D → List D → HS → R D) : PGs X [] (tGMs X S (stT F Gf .nil)) := by
  refine pgs_nil.imp fun ws σ H Q ⟨π, ρ, hs, ds, rel, sl, r, q⟩ => ?_
  cases ds with
  | nil => cases r; exact ⟨rfl, q π H σ (.refl _ _) rel sl⟩
  | cons d ds => exact q.elim
theorem dms_cons {F : Nat → List D → HS → R D} {Gf : Nat → List D → List D → HS → R D} {e : Expr} {es : List Expr} {t r : E} (h1 : PG X e (tGM X S (stT F Gf t))) (h2 : PGs X es (tGMs X S (stT F Gf r))) (hs : (assignEach (e :: es) X.env).map (·.2) = assign e X.env :: (assignEach es X.env).map (·.2)) : PGs X (e :: es) (tGMs X S (stT F Gf (.cons t r))) := by
  refine (pgs_cons h1 h2 hs).imp fun ws σ H Q ⟨π, ρ, hs, ds, rel, sl, rr, q⟩ => ?_
  cases ds with
  | nil => exact q.elim
  | cons d ds =>
    cases rr with
    | cons r1 r2 =>
      unfold stT at q
      refine ⟨_, _, rfl, π, ρ, hs, d, rel, sl, r1, ?_⟩
      cases h3 : stT F Gf t d ρ hs with
      | bad => rw [h3] at q; exact q
      | exc c' d' hh => rw [h3] at q; exact q
      | ok ρ1 hs1 =>
        rw [h3] at q
        exact fun π1 H1 σ1 e1 rel1 sl1 => ⟨π1, ρ1, hs1, ds, rel1, sl1, r2.mono e1, gE.mono e1 q⟩
theorem stT_len {F : Nat → List D → HS → R D} {Gf : Nat → List D → List D → HS → R D} : ∀ (t : E) {n : Nat} {ds : List D} {ρ ρ' : Env} {h h' : HS}, chainE t = some n → stT F Gf t (.lst ds) ρ h = .ok ρ' h' → ds.length = n := by
  intro t
  induction t with
  | nil =>
    intro n ds ρ ρ' h h' c e
    cases c
    cases ds with
    | nil => rfl
    | cons d ds => cases e
  | cons t r _ ih =>
    intro n ds ρ ρ' h h' c e
    unfold chainE at c
    cases hc : chainE r with
    | none => rw [hc] at c; cases c
    | some m =>
      rw [hc] at c
      have c : m + 1 = n := Option.some.inj c
      cases ds with
      | nil => cases e
      | cons d ds =>
        unfold stT at e
        cases h3 : stT F Gf t d ρ h with
        | bad => rw [h3] at e; cases e
        | exc c' d' hh => rw [h3] at e; cases e
        | ok ρ1 h1 =>
          rw [h3] at e
          rw [List.length_cons, ih hc e, c]
  | _ => intro n ds ρ ρ' h h' c e; cases c
theorem dm_tup (G : Good X S κ k) {F : Nat → List D → HS → R D} {Gf : Nat → List D → List D → HS → R D} {es : List Expr} {kk : Nat} {t : E} {n : Nat} {pos : Pos} (h : PGs X es (tGMs X S (stT F Gf t))) (hc : chainE t = some n) (hn : (assignEach es X.env).length = n) (hst : (assignEach es X.env).findIdx? (·.1) = none) :
    PG X (.Tuple es kk pos) (tGM X S (stT F Gf (.tup t))) := by
  have hor : PG X (.Tuple es kk pos) (fun v σ H Q => gTup X.K n (tGMs X S (stT F Gf t)) v σ H Q ∨ gLst X.K n (tGMs X S (stT F Gf t)) v σ H Q) :=
    ⟨fun pins s σ H v u Q I r q => q.elim ((pg_tup G.calm h hn hst).run pins s σ H v u Q I r) ((pg_lst G.calm h hn hst).run pins s σ H v u Q I r)⟩
  refine hor.imp fun v σ H Q ⟨π, ρ, hs, d, rel, sl, r, q⟩ => ?_
  have len : ∀ ds, gE X.K S π H Q (stT F Gf t (.lst ds) ρ hs) → ds.length = n := fun ds q => by
    cases h3 : stT F Gf t (.lst ds) ρ hs with
    | ok ρ1 h1 => exact stT_len t hc h3
    | bad => rw [h3] at q; exact q.elim
    | exc c' d' hh => rw [h3] at q; exact q.elim
  cases r with
  | tup h1 h2 => exact .inl ⟨_, _, rfl, h1.sq, by rw [← h2.length]; exact len _ q, π, ρ, hs, _, rel, sl, h2, q⟩
  | lst h1 h2 => exact .inr ⟨_, _, rfl, h1.sq, by rw [← h2.length]; exact len _ q, π, ρ, hs, _, rel, sl, h2, q⟩
  | _ => exact q.elim
theorem dm_ix (G : Good X S κ k) {F : Nat → List D → HS → R D} {Gf : Nat → List D → List D → HS → R D} {o i : Expr} {a b : E} {pos : Pos} (ho : PE X o (tD X S (ev F Gf a))) (hi : PE X i (tD X S (ev F Gf b)))
    (ha : ∀ v, assign (.Subscript o i pos) X.env v = (do
      let ov ← holding [v] (eval o X.env)
      let iv ← holding [v, ov] (eval i X.env)
      standAt pos
      holding [v, ov, iv] (setItem ov iv v)
      release [v, ov, iv] [])) : PG X (.Subscript o i pos) (tGM X S (stT F Gf (.ix a b))) := by
  refine (pg_sub ho hi set_list ha).imp fun v σ H Q ⟨π, ρ, hs, d, rel, sl, r, q⟩ => ⟨π, ρ, hs, rel, sl, ?_⟩
  have q : gE X.K S π H Q ((ev F Gf a ρ hs).bind fun x h1 => (ev F Gf b ρ h1).bind fun y h2 => (opSet x y d h2).bind fun _ h3 => R.ok ρ h3) := q
  cases h1 : ev F Gf a ρ hs with
  | bad => rw [h1] at q; exact q.elim
  | exc c' d' hh => rw [h1] at q; exact q.elim
  | ok x hs1 =>
    rw [h1] at q
    intro π1 H1 ov e1 rel1 r1
    refine ⟨π1, ρ, hs1, rel1, sl.mono rel e1, ?_⟩
    simp only [VE.R.bind_ok] at q
    cases h2 : ev F Gf b ρ hs1 with
    | bad => rw [h2] at q; exact q.elim
    | exc c' d' hh => rw [h2] at q; exact q.elim
    | ok y hs2 =>
      rw [h2] at q
      intro π2 H2 iv e2 rel2 r2
      simp only [VE.R.bind_ok] at q
      refine r_set (hs := hs2) (d := d) rel2 (r1.mono e2) r2 ((r.mono e1).mono e2) ?_
      · cases h3 : opSet x y d hs2 with
        | bad => rw [h3] at q; exact q.elim
        | exc c' d' hh => rw [h3] at q; exact q.elim
        | ok u hs3 =>
          rw [h3] at q
          intro π3 H3 e3 rel3
          exact q π3 H3 σ ((e1.trans e2).trans e3) rel3 (((sl.mono rel e1).mono rel1 e2).mono rel2 e3)
/-- target = value -/
theorem ds_asg (G : Good X S κ k) {tg e : Expr} {m : Env → HS → R D} {f : D → Env → HS → R Env} {pos : Pos} (he : PE X e (tD X S m)) (hg : PG X tg (tGM X S f)) (hs : swapsWithSole [tg] e pos.line X.env = pure false) (hw : swappedStores [tg] e X.env = pure none)
    (h1 : (assignEach [tg] X.env).map (·.2) = [assign tg X.env]) : PS X (.Assign [tg] e pos) (tSD X S fun ρ h => .ofR ρ (m ρ h) fun d h1 => .ofR ρ (f d ρ h1).nox fun ρ' h2 => .nx ρ' h2) := by
  refine (ps_asg he hg hs hw h1).imp fun E σ H ⟨π, ρ, hs, rel, sl, p⟩ => ⟨π, ρ, hs, rel, sl, out_bind (β := V) rel sl p (fun d hs1 π1 H1 x e rel1 r sl1 q => ⟨π1, ρ, hs1, d, rel1, sl1, r, ?_⟩) rfl⟩
  cases hf : f d ρ hs1 with
  | bad => rw [hf] at q; exact q
  | exc c' d' hh => rw [hf] at q; exact q
  | ok ρ' hs2 => rw [hf] at q; exact q
/-- a, b = x, y -/
theorem ds_par (G : Good X S κ k) {F : Nat → List D → HS → R D} {Gf : Nat → List D → List D → HS → R D} {i j : Nat} {x y : Str} {a b : Expr} {m : Env → HS → R D} {px py pt pos : Pos} {kt k2 pt2} (hi : κ.N[i]? = some x) (hj : κ.N[j]? = some y) (hij : i ≠ j) (hx : κ.sc.names.lookup x = some .local) (hy : κ.sc.names.lookup y = some .local) (ha : PA X [a, b] (tDs X S m))
    (hw : swappedStores [.Tuple [.Name x px, .Name y py] kt pt] (.Tuple [a, b] k2 pt2) X.env = pure (some [x, y])) (hs : swapsWithSole [.Tuple [.Name x px, .Name y py] kt pt] (.Tuple [a, b] k2 pt2) pos.line X.env = pure false) (hl : ∀ ρ h d h', m ρ h = .ok d h' → (its d).length = 2) :
    PS X (.Assign [.Tuple [.Name x px, .Name y py] kt pt] (.Tuple [a, b] k2 pt2) pos) (tSD X S fun ρ h => .ofR ρ ((m ρ h).bind fun l h1 => R.ok (.tup (its l)) h1) fun d h1 => .ofR ρ (stT F Gf (.tup (.cons (.var i) (.cons (.var j) .nil))) d ρ h1).nox fun ρ' h2 => .nx ρ' h2) := by
  refine (ps_par (i := i) (j := j) G.calm (by rw [G.nN]; exact G.nd) (by rw [G.nN]; exact hi) (by rw [G.nN]; exact hj) hij (by rw [G.sce]; exact hx) (by rw [G.sce]; exact hy) ha hw hs).imp fun E σ H ⟨π, ρ, hs, rel, sl, p⟩ => ⟨π, ρ, hs, rel, sl, ?_⟩
  dsimp only at p
  cases hm : m ρ hs with
  | bad => rw [hm] at p; exact p
  | exc c d hs1 => rw [hm] at p; exact fun π1 H1 cls dd e rel1 x => p π1 H1 σ cls dd e rel1 (sl.mono rel e) x
  | ok l hs1 =>
    rw [hm] at p
    intro π1 H1 ws e1 rel1 r1
    have hl2 := hl _ _ _ _ hm
    have p := outP.mono e1 p
    simp only [VE.R.bind_ok, Out.ofR] at p
    generalize its l = ds at p r1 hl2
    clear hm
    match ds, hl2 with
    | [d1, d2], zz =>
      clear zz
      obtain ⟨v, w, rfl, rv, rw'⟩ := rds2 r1
      exact ⟨v, w, rfl, p π1 H1 _ (.refl _ _) rel1 (((sl.mono rel e1).set rv).set rw')⟩
theorem ds_par3 (G : Good X S κ k) {F : Nat → List D → HS → R D} {Gf : Nat → List D → List D → HS → R D} {i j l : Nat} {x y z : Str} {a b c : Expr} {m : Env → HS → R D} {px py pz pt pos : Pos} {kt k2 pt2} (hi : κ.N[i]? = some x) (hj : κ.N[j]? = some y) (hl' : κ.N[l]? = some z) (hij : i ≠ j) (hil : i ≠ l) (hjl : j ≠ l) (hx : κ.sc.names.lookup x = some .local) (hy : κ.sc.names.lookup y = some .local) (hz : κ.sc.names.lookup z = some .local) (ha : PA X [a, b, c] (tDs X S m))
    (hw : swappedStores [.Tuple [.Name x px, .Name y py, .Name z pz] kt pt] (.Tuple [a, b, c] k2 pt2) X.env = pure (some [x, y, z])) (hs : swapsWithSole [.Tuple [.Name x px, .Name y py, .Name z pz] kt pt] (.Tuple [a, b, c] k2 pt2) pos.line X.env = pure false) (hl : ∀ ρ h d h', m ρ h = .ok d h' → (its d).length = 3) :
    PS X (.Assign [.Tuple [.Name x px, .Name y py, .Name z pz] kt pt] (.Tuple [a, b, c] k2 pt2) pos) (tSD X S fun ρ h => .ofR ρ ((m ρ h).bind fun l h1 => R.ok (.tup (its l)) h1) fun d h1 => .ofR ρ (stT F Gf (.tup (.cons (.var i) (.cons (.var j) (.cons (.var l) .nil)))) d ρ h1).nox fun ρ' h2 => .nx ρ' h2) := by
  refine (ps_par3 (i := i) (j := j) (l := l) G.calm (by rw [G.nN]; exact G.nd) (by rw [G.nN]; exact hi) (by rw [G.nN]; exact hj) (by rw [G.nN]; exact hl') hij hil hjl (by rw [G.sce]; exact hx) (by rw [G.sce]; exact hy) (by rw [G.sce]; exact hz) ha hw hs).imp fun E σ H ⟨π, ρ, hs, rel, sl, p⟩ => ⟨π, ρ, hs, rel, sl, ?_⟩
  dsimp only at p
  cases hm : m ρ hs with
  | bad => rw [hm] at p; exact p
  | exc c d hs1 => rw [hm] at p; exact fun π1 H1 cls dd e rel1 x => p π1 H1 σ cls dd e rel1 (sl.mono rel e) x
  | ok l hs1 =>
    rw [hm] at p
    intro π1 H1 ws e1 rel1 r1
    have hl2 := hl _ _ _ _ hm
    have p := outP.mono e1 p
    simp only [VE.R.bind_ok, Out.ofR] at p
    generalize its l = ds at p r1 hl2
    clear hm
    match ds, hl2 with
    | [d1, d2, d3], zz =>
      clear zz
      cases r1 with
      | cons rv r1 =>
        obtain ⟨v, w, rfl, rw', ru⟩ := rds2 r1
        exact ⟨_, v, w, rfl, p π1 H1 _ (.refl _ _) rel1 ((((sl.mono rel e1).set rv).set rw').set ru)⟩
/-- name op= value -/
theorem ds_aug (G : Good X S κ k) {i : Nat} {x : Str} {e : Expr} {m : Env → HS → R D} {bo : BO} {op : Operator} {pos pos' : Pos} (hop : (bo = .add ∧ op = .Add) ∨ (bo = .sub ∧ op = .Sub)) (hi : κ.N[i]? = some x) (hx : Loc κ.sc x) (hf : κ.fn x = true ∨ κ.sc.names.lookup x = some .local) (he : PE X e (tD X S m)) :
    PS X (.AugAssign (.Name x pos') op e pos) (tSD X S fun ρ h => match getV ρ i with | some d => if isFn d then .bad else .ofR ρ (m ρ h) fun y h1 => .ofR ρ (opAug bo d y h1) fun z h2 => .nx (ρ.set i (some z)) h2 | none => .bad) := by
  have hp : PIp X op (fun x y H Q => (bo = .add ∧ ipI (fun i j => i + j) x y H Q) ∨ (bo = .sub ∧ ipI (fun i j => i - j) x y H Q)) := by
    intro pins s σ H x y v u Q I r1 r2 h
    rcases hop with ⟨rfl, rfl⟩ | ⟨rfl, rfl⟩
    · exact ip_add pins s σ H x y v u Q I r1 r2 (h.elim (·.2) (fun z => by cases z.1))
    · exact ip_sub pins s σ H x y v u Q I r1 r2 (h.elim (fun z => by cases z.1) (·.2))
  refine (ps_aug (i := i) (by rw [G.nN]; exact G.nd) (by rw [G.nN]; exact hi) (by rw [G.sce]; exact hx) he hp (by rw [G.fn, G.sce]; exact hf)).imp fun E σ H ⟨π, ρ, hs, rel, sl, p⟩ => ?_
  dsimp only at p
  split at p
  · rename_i d ed
    split at p
    · exact p.elim
    · rename_i hnf
      obtain ⟨v, hv, ro⟩ := sl.get ed
      have rd := ro.data hnf
      refine ⟨v, hv, π, ρ, hs, rel, sl, out_bind (β := V) rel sl p (fun y hs1 π1 H1 w e rel1 r sl1 q => ?_) rfl⟩
      have rd1 := rd.mono e
      have key : ∀ i j z, d = .int i → y = .int j → opAug bo d y hs1 = .ok (.int z) hs1 → E.nx (σ.set _ (some (.int z))) H1 := fun i j z e1 e2 e3 => by
        rw [e3] at q
        exact q π1 H1 _ (.refl _ _) rel1 (sl1.set (.int z))
      rcases hop with ⟨rfl, rfl⟩ | ⟨rfl, rfl⟩
      · cases rd1 <;> try exact q.elim
        cases r <;> try exact q.elim
        exact .inl ⟨rfl, _, _, rfl, rfl, key _ _ _ rfl rfl rfl⟩
      · cases rd1 <;> try exact q.elim
        cases r <;> try exact q.elim
        exact .inr ⟨rfl, _, _, rfl, rfl, key _ _ _ rfl rfl rfl⟩
  · exact p.elim
end
end VE
set_option Elab.async false
set_option linter.all false
set_option maxRecDepth 100000
set_option maxHeartbeats 1000000
set_option autoImplicit false
/-! V14: loops, stores to dicts -/
namespace VE
open PySem PySem.Spec PyProof.Rows L2
section
variable {X : Cx} {S : Sta} {κ : Kx} {k : Nat}
theorem ds_while (hp : PassesOwn (model X.prog X.w) X.A X.env X.xe) {c : Expr} {body : List Stmt} {mc : Env → HS → R D} {mb : Env → HS → Out} {n : Nat} {pos : Pos} (hc : PT X c (tDT X S mc)) (hb : PSs X body (tSD X S mb)) :
    PS X (.While c body [] pos) (tSD X S fun ρ h => whGo mc mb n ρ h) := by
  refine (ps_while hp hc hb).imp fun E σ H ⟨π, ρ, hs, rel, sl, p⟩ => ?_
  refine ⟨fun m σ H => ∃ π ρ hs, Rel X.K S.T π H hs ∧ Slots X.K S π H ρ σ ∧ outP X.K S E π H (whGo mc mb m ρ hs), ⟨n, π, ρ, hs, rel, sl, p⟩, ?_⟩
  rintro m σ H ⟨π, ρ, hs, rel, sl, p⟩
  cases m with
  | zero => exact p.elim
  | succ m =>
    refine ⟨π, ρ, hs, rel, sl, out_bind (β := V) rel sl p (fun d hs1 π1 H1 x e rel1 r sl1 q => ?_) rfl⟩
    cases r <;> try exact q.elim
    rename_i t
    refine ⟨t, rfl, ?_⟩
    cases t with
    | false => rw [if_neg Bool.false_ne_true]; exact q π1 H1 σ (.refl _ _) rel1 sl1
    | true =>
      rw [if_pos rfl]
      refine ⟨fun σ' H' => ∃ π ρ hs, Rel X.K S.T π H' hs ∧ Slots X.K S π H' ρ σ' ∧ outP X.K S E π H' (whGo mc mb m ρ hs), fun σ' H' w => ⟨m, Nat.lt_succ_self m, w⟩, π1, ρ, hs1, rel1, sl1, ?_⟩
      dsimp only at q
      cases hm : mb ρ hs1 with
      | nx ρ2 hs2 => rw [hm] at q; exact fun π2 H2 σ2 e2 rel2 sl2 => ⟨π2, ρ2, hs2, rel2, sl2, outP.mono e2 q⟩
      | ct ρ2 hs2 => rw [hm] at q; exact fun π2 H2 σ2 e2 rel2 sl2 => ⟨π2, ρ2, hs2, rel2, sl2, outP.mono e2 q⟩
      | bk ρ2 hs2 => rw [hm] at q; exact q
      | rt d hs2 => rw [hm] at q; exact q
      | exc c d ρ2 hs2 => rw [hm] at q; exact q
      | bad => rw [hm] at q; exact q
theorem ds_for (hp : PassesOwn (model X.prog X.w) X.A X.env X.xe) (G : Good X S κ k) {tg iter : Expr} {body : List Stmt} {mi : Env → HS → R D} {f : D → Env → HS → R Env} {mb : Env → HS → Out} {pos : Pos} (hi : PI X tg iter (tID X S mi)) (hg : PG X tg (tGM X S f)) (hb : PSs X body (tSD X S mb))
    (hs : ∀ x, foldedSetIterable iter X.env x = pure x) : PS X (.For tg iter body [] pos) (tSD X S fun ρ h => .ofR ρ (mi ρ h) fun l h1 => foGo f mb (its l) ρ h1) := by
  refine (ps_for hp G.calm hi hg hb hs).imp fun E σ H ⟨π, ρ, hs, rel, sl, p⟩ => ?_
  refine ⟨π, ρ, hs, rel, sl, out_bind (β := It) rel sl p (fun l hs1 π1 H1 J e1 rel1 srv sl1 q => ?_) rfl⟩
  generalize its l = ds at srv q
  refine ⟨fun i m σ H => m = ds.length - i ∧ i ≤ ds.length ∧ ∃ π ρ hs, Keeps π1 H1 π H ∧ Rel X.K S.T π H hs ∧ Slots X.K S π H ρ σ ∧ outP X.K S E π H (foGo f mb (ds.drop i) ρ hs), ⟨ds.length, by simp, Nat.zero_le _, π1, ρ, hs1, (Ext.refl _ _).keeps, rel1, sl1, by simpa using q⟩, ?_⟩
  rintro i m σ2 H2 ⟨rfl, hi, π2, ρ2, hs2, kp, rel2, sl2, q2⟩
  by_cases hlt : i < ds.length
  · right
    have hget : ds[i]? = some ds[i] := List.getElem?_eq_getElem hlt
    obtain ⟨hgo, hy⟩ := srv.go i _ π2 H2 hs2 kp rel2 hget
    rw [drop_cons hget] at q2
    refine ⟨hgo, fun σ' H' => ∃ π ρ hs, Keeps π1 H1 π H' ∧ Rel X.K S.T π H' hs ∧ Slots X.K S π H' ρ σ' ∧ outP X.K S E π H' (foGo f mb (ds.drop (i + 1)) ρ hs), fun σ' H' w => ⟨ds.length - (i + 1), by omega, rfl, hlt, w⟩, fun x H' hyld => ?_⟩
    obtain ⟨e3, rel3, r3⟩ := hy x H' hyld
    refine ⟨π2, ρ2, hs2, ds[i], rel3, sl2.mono rel2 e3, r3, ?_⟩
    have q3 := outP.mono e3 q2
    unfold foGo at q3
    cases hf : f ds[i] ρ2 hs2 with
    | bad => rw [hf] at q3; exact q3
    | exc c' d' hh => rw [hf] at q3; exact q3
    | ok ρ3 hs3 =>
      rw [hf] at q3
      intro π4 H4 σ4 e4 rel4 sl4
      have q4 := outP.mono e4 q3
      have q4 : outP X.K S E π4 H4 (match mb ρ3 hs3 with | .nx ρ' h' => foGo f mb (ds.drop (i + 1)) ρ' h' | .ct ρ' h' => foGo f mb (ds.drop (i + 1)) ρ' h' | .bk ρ' h' => .nx ρ' h' | o => o) := q4
      refine ⟨π4, ρ3, hs3, rel4, sl4, ?_⟩
      cases hm : mb ρ3 hs3 with
      | nx ρ5 hs5 => rw [hm] at q4; exact fun π5 H5 σ5 e5 rel5 sl5 => ⟨π5, ρ5, hs5, ((kp.trans e3.keeps).trans e4.keeps).trans e5.keeps, rel5, sl5, outP.mono e5 q4⟩
      | ct ρ5 hs5 => rw [hm] at q4; exact fun π5 H5 σ5 e5 rel5 sl5 => ⟨π5, ρ5, hs5, ((kp.trans e3.keeps).trans e4.keeps).trans e5.keeps, rel5, sl5, outP.mono e5 q4⟩
      | bk ρ5 hs5 => rw [hm] at q4; exact q4
      | rt d hs5 => rw [hm] at q4; exact q4
      | exc c d ρ5 hs5 => rw [hm] at q4; exact q4
      | bad => rw [hm] at q4; exact q4
  · left
    have e : i = ds.length := by omega
    subst e
    rw [List.drop_length] at q2
    exact ⟨srv.stop π2 H2 hs2 kp rel2, q2 π2 H2 σ2 (.refl _ _) rel2 sl2⟩
end
end VE
set_option Elab.async false
set_option linter.all false
set_option maxRecDepth 100000
set_option maxHeartbeats 1000000
set_option autoImplicit false
/-! V15: how arguments are bound -/
namespace VE
open PySem PySem.Spec PyProof.Rows L2
/-- plain parameters, no defaults -/
def plainB (p : Arguments) : Bool := p.posonlyargs.isEmpty && p.kwonlyargs.isEmpty && p.vararg.isNone && p.kwarg.isNone
theorem zip_lookup : ∀ {ns : List Str} {vs : List Value} {i : Nat} {n : Str} {v : Value}, ns.Nodup → ns[i]? = some n → vs[i]? = some v → (ns.zip vs).lookup n = some v
  | [], _, _, _, _, _, h, _ => by simp at h
  | _ :: _, [], _, _, _, _, _, h => by simp at h
  | m :: ns, w :: vs, 0, n, v, nd, h1, h2 => by
    simp at h1 h2
    subst h1; subst h2
    simp [List.lookup]
  | m :: ns, w :: vs, i + 1, n, v, nd, h1, h2 => by
    have h1 : ns[i]? = some n := by simpa using h1
    have h2 : vs[i]? = some v := by simpa using h2
    have hne : (n == m) = false := by
      rw [beq_eq_false_iff_ne]
      intro e
      exact (List.nodup_cons.mp nd).1 (e ▸ List.mem_of_getElem? h1)
    rw [List.zip_cons_cons, List.lookup_cons, hne]
    exact zip_lookup (List.nodup_cons.mp nd).2 h1 h2
theorem zip_lookup_none : ∀ {ns : List Str} {vs : List Value} {n : Str}, n ∉ ns → (ns.zip vs).lookup n = none
  | [], _, _, _ => by simp
  | _ :: _, [], _, _ => by simp
  | m :: ns, w :: vs, n, h => by
    have hne : (n == m) = false := by
      rw [beq_eq_false_iff_ne]
      exact fun e => h (by rw [e]; exact List.mem_cons_self)
    rw [List.zip_cons_cons, List.lookup_cons, hne]
    exact zip_lookup_none fun z => h (List.mem_cons_of_mem _ z)
/-- the keywords are put behind the positional ones -/
theorem kw_loop {f : Str × Value → List (Str × Value) × List (Str × Value) → Sem (ForInStep (List (Str × Value) × List (Str × Value)))} {ps : List Str}
    (hf : ∀ k v sl ex, ps.contains k = true → (List.lookup k sl).isSome = false → f (k, v) (sl, ex) = pure (.yield (sl ++ [(k, v)], ex))) :
    ∀ (ks : List Str) (ws : List Value) (sl ex : List (Str × Value)), (∀ k ∈ ks, ps.contains k = true) → ks.Nodup → (∀ k ∈ ks, sl.lookup k = none) → forIn (ks.zip ws) (sl, ex) f = pure (sl ++ ks.zip ws, ex)
  | [], ws, sl, ex, _, _, _ => by simp
  | k :: ks, [], sl, ex, _, _, _ => by simp
  | k :: ks, w :: ws, sl, ex, h1, h2, h3 => by
    rw [List.zip_cons_cons, List.forIn_cons, hf k w sl ex (h1 k List.mem_cons_self) (by rw [h3 k List.mem_cons_self]; rfl), pure_bind]
    dsimp only
    have ih := kw_loop hf ks ws (sl ++ [(k, w)]) ex (fun k' h => h1 k' (List.mem_cons_of_mem _ h)) (List.nodup_cons.mp h2).2 (fun k' h => by
      rw [List.lookup_append, h3 k' (List.mem_cons_of_mem _ h)]
      have hne : (k' == k) = false := by
        rw [beq_eq_false_iff_ne]
        exact fun e => (List.nodup_cons.mp h2).1 (e ▸ h)
      simp [List.lookup, hne])
    rw [ih, List.append_assoc]
    rfl
/-- how nu positional values and the keywords ks fill the parameters ps; perm: where each parameter's value stands among them -/
def kwB (ps ks : List Str) (nu : Nat) (perm : List Nat) : Bool :=
  decide ((ps.take nu ++ ks).Nodup) && decide ((ps.take nu ++ ks).length = ps.length) && decide (nu ≤ ps.length) && decide (ks.Nodup) && (ks.all fun k => ps.contains k) && decide (perm.map (fun j => (ps.take nu ++ ks)[j]?) = ps.map some)
theorem seqNone : seqItems? Value.none = pure none := rfl
theorem fm_zip : ∀ {ps : List Str} {xs : List Value} {m : Str → Option Value}, xs.length = ps.length → (∀ (i : Nat) (n : Str), ps[i]? = some n → m n = xs[i]?) → ps.filterMap (fun n => (m n).map (n, ·)) = ps.zip xs
  | [], xs, m, hl, h => by simp
  | p :: ps, [], m, hl, h => by simp at hl
  | p :: ps, x :: xs, m, hl, h => by
    have h0 : m p = some x := by simpa using h 0 p (by simp)
    have ih := fm_zip (ps := ps) (xs := xs) (m := m) (by simpa using hl) (fun i n e => by simpa using h (i + 1) n (by simpa using e))
    rw [List.filterMap_cons, h0, List.zip_cons_cons]
    show (p, x) :: ps.filterMap (fun n => (m n).map (n, ·)) = _
    rw [ih]
theorem zip_take : ∀ {ps : List Str} {us : List Value}, (ps.take us.length).zip us = ps.zip us
  | [], us => by simp
  | p :: ps, [] => by simp
  | p :: ps, u :: us => by
    rw [List.length_cons, List.take_succ_cons, List.zip_cons_cons, List.zip_cons_cons, zip_take]
def permV (us : List Value) (perm : List Nat) : List Value := perm.map fun j => us.getD j .none
theorem bind_plain {fd : FuncData} {ps ks : List Str} {us ws : List Value} {perm : List Nat} (hp : plainB fd.params = true) (h5 : fd.defaults = .none) (hps : fd.params.args.map (·.arg) = ps) (hk : kwB ps ks us.length perm = true) (hw : ws.length = ks.length) :
    bindArgs fd ⟨us, ks.zip ws⟩ = pure (ps.zip (permV (us ++ ws) perm)) := by
  unfold plainB at hp
  simp only [Bool.and_eq_true, List.isEmpty_iff, Option.isNone_iff_eq_none] at hp
  obtain ⟨⟨⟨h1, h2⟩, h3⟩, h4⟩ := hp
  unfold kwB at hk
  simp only [Bool.and_eq_true, decide_eq_true_eq, List.all_eq_true] at hk
  obtain ⟨⟨⟨⟨⟨k1, k2⟩, k3⟩, k4⟩, k5⟩, k6⟩ := hk
  have hlook : ∀ (i : Nat) (n : Str), ps[i]? = some n → (ps.zip us ++ ks.zip ws).lookup n = (permV (us ++ ws) perm)[i]? := fun i n e => by
    have e1 : perm[i]?.map (fun j => (ps.take us.length ++ ks)[j]?) = some (some n) := by
      have := congrArg (fun l : List (Option Str) => l[i]?) k6
      simpa [e] using this
    cases hj : perm[i]? with
    | none => rw [hj] at e1; cases e1
    | some j =>
      rw [hj] at e1
      have e1 : (ps.take us.length ++ ks)[j]? = some n := Option.some.inj e1
      have hjl : j < (us ++ ws).length := by
        have := (List.getElem?_eq_some_iff.mp e1).1
        rw [List.length_append, List.length_take] at this
        rw [List.length_append, hw]
        omega
      have hz : (ps.zip us ++ ks.zip ws) = (ps.take us.length ++ ks).zip (us ++ ws) := by
        rw [List.zip_append (by rw [List.length_take]; omega), zip_take]
      rw [hz, zip_lookup k1 e1 (List.getElem?_eq_getElem hjl)]
      unfold permV
      rw [List.getElem?_map, hj]
      simp [List.getD_eq_getElem?_getD, List.getElem?_eq_getElem hjl]
  have hsl : ∀ k ∈ ks, (ps.zip us).lookup k = none := fun k hk => by
    rw [← zip_take]
    exact zip_lookup_none fun z => (List.nodup_append.mp k1).2.2 k z k hk rfl
  unfold bindArgs
  simp only [h1, h2, h3, h4, h5, List.map_nil, List.nil_append, List.append_nil, List.contains_nil, Bool.or_false, hps]
  rw [kw_loop (ps := ps) (fun k v sl ex c l => by simp only [c, l, if_true, Bool.false_eq_true, if_false]) ks ws _ _ k5 k4 hsl]
  rw [pure_bind, seqNone, pure_bind]
  have hnot : (decide (us.length > ps.length) && (none : Option Arg).isNone) = false := by
    rw [decide_eq_false (by omega)]; rfl
  have hlen : (permV (us ++ ws) perm).length = ps.length := by
    have := congrArg List.length k6
    unfold permV
    simpa using this
  have hmiss : (ps.filter fun n => (List.lookup n (ps.zip us ++ ks.zip ws)).isNone) = [] := by
    rw [List.filter_eq_nil_iff]
    intro n hn
    obtain ⟨i, hi, e⟩ := List.mem_iff_getElem.mp hn
    have e1 : ps[i]? = some n := by rw [List.getElem?_eq_getElem hi, e]
    rw [hlook i n e1, List.getElem?_eq_getElem (by rw [hlen]; exact hi)]
    simp
  have hfin := fm_zip (ps := ps) (xs := permV (us ++ ws) perm) (m := fun n => (ps.zip us ++ ks.zip ws).lookup n) hlen hlook
  have hd : ((none : Option (Array Value)).getD #[]).toList = [] := rfl
  rw [if_neg (by rw [hnot]; exact Bool.false_ne_true)]
  simp only [hd, List.length_nil, Nat.zero_sub, List.drop_nil, Nat.sub_zero, List.take_length, hmiss, List.isEmpty_nil, Bool.not_true, Bool.false_eq_true, if_false, List.zip_nil_right, List.forIn_nil, pure_bind, List.filter_nil]
  rw [hfin]
end VE
set_option Elab.async false
set_option linter.all false
set_option maxRecDepth 100000
set_option maxHeartbeats 1000000
set_option autoImplicit false
/-! V16: calls of the program's functions -/
namespace VE
open PySem PySem.Spec PyProof.Rows L2
/-- an argument: data, or a function -/
def RA (K : PySem.W.Frag) (S : Sta) (π : Pi) (H : Hp) (d : D) (v : V) : Prop := RD K π H d v ∨ RF K S π H d v
inductive RAs (K : PySem.W.Frag) (S : Sta) (π : Pi) (H : Hp) : List D → List V → Prop
  | nil : RAs K S π H [] []
  | cons {d : D} {ds : List D} {v : V} {vs : List V} : RA K S π H d v → RAs K S π H ds vs → RAs K S π H (d :: ds) (v :: vs)
theorem RAs.of {K : PySem.W.Frag} {S : Sta} {π : Pi} {H : Hp} : ∀ {ds : List D} {vs : List V}, RDs K π H ds vs → RAs K S π H ds vs
  | [], _, h => by cases h; exact .nil
  | d :: ds, _, h => by cases h with | cons h1 h2 => exact .cons (.inl h1) (RAs.of h2)
theorem RAs.length {K : PySem.W.Frag} {S : Sta} {π : Pi} {H : Hp} : ∀ {ds : List D} {vs : List V}, RAs K S π H ds vs → ds.length = vs.length
  | [], _, h => by cases h; rfl
  | d :: ds, _, h => by cases h with | cons h1 h2 => simp [RAs.length h2]
theorem RF_noX {K : PySem.W.Frag} {S : Sta} {π : Pi} {H : Hp} {d : D} {v : V} (h : RF K S π H d v) : RF K S.noX π H d v := by
  cases h with
  | gfn a => exact .gfn a
  | fn a1 a2 a3 a4 a5 => exact .fn a1 a2 a3 a4 a5
theorem RF_unX {K : PySem.W.Frag} {S : Sta} {π : Pi} {H : Hp} {d : D} {v : V} (h : RF K S.noX π H d v) : RF K S π H d v := by
  cases h with
  | gfn a => exact .gfn a
  | fn a1 a2 a3 a4 a5 => exact .fn a1 a2 a3 a4 a5
/-- what a function promises: its arguments' answer is the fragment's -/
def FunSp (K : PySem.W.Frag) (S : Sta) (F : List D → HS → R D) : Sp := fun vs H Q E => ∃ π hs ds, Rel K S.T π H hs ∧ RAs K S π H ds vs ∧ post K S π H Q E (F ds hs)
theorem post_noX {K : PySem.W.Frag} {S : Sta} {π : Pi} {H : Hp} {Q : VK} {E : XK} {r : R D} (h : post K S π H Q E r) : post K S.noX π H Q E r := by
  cases r with
  | ok d hs => exact h
  | exc c d hs => exact h
  | bad => exact h
theorem gp.impE {K : PySem.W.Frag} {S : Sta} {α : Type} {RV : Pi → Hp → D → α → Prop} {π : Pi} {H : Hp} {Q : α → Hp → Prop} {E E' : XK} {r : R D} (h : gp K S RV π H Q E r) (i : ∀ c d H', E c d H' → E' c d H') : gp K S RV π H Q E' r := by
  cases r with
  | ok d hs => exact h
  | exc c d hs => exact fun π' H' cls dd e rel x => i _ _ _ (h π' H' cls dd e rel x)
  | bad => exact h
/-- the promise of a def, where nothing is guarded (no repr is under way) -/
structure FnG (P : Program) (w : World) (K : PySem.W.Frag) (mg : Str → Option Value) (base : Heap) (k : Nat) (f : Addr) (fd : FuncData) (ps : List Str) (sp : Sp) : Prop where
  run : ∀ (A : Around) (outer : List PySem.Env) (s : Shared) (H : Hp) (args : Args) (us : List Value) (vs : List V) (Q : VK) (E : XK), Room k A → A.guards = some [] → Env0 P w K mg base A outer s H → BindsTo s fd args (ps.zip us) → Vals vs us → sp vs H Q E →
    codeAny (model P w) A (.call (.ref f) args) (CR (L2.CX P w) outer P w H s Q E) s
section
variable {X : Cx} {S : Sta} {κ : Kx} {k : Nat}
theorem run_d {pins : List (Addr × Obj)} {σ : L2.St} {H : Hp} {s : Shared} {Q : VK} {E : XK} {W : WX} {j : Nat} {f : Addr} {fd : FuncData} {ps : List Str} {sp : Sp} {us0 us : List Value} {kw : List (Str × Value)} {vs : List V} (Fn : FnG X.prog X.w X.K X.mg X.base j f fd ps sp) (hr : Room j X.A) (hgu : X.A.guards = some []) (tk : Takes X W)
    (I : Inv X pins σ H s) (hb : BindsTo s fd ⟨us0, kw⟩ (ps.zip us)) (r : Vals vs us) (h : sp vs H Q E) (hW : ∀ cls d H', E cls d H' → W cls d σ H') : wpAny (model X.prog X.w) X.A (call (.ref f) us0 kw) (EP X pins σ Q) X.xe s := by
  refine wpAny_call (codeAny_mono (Fn.run X.A X.stack s H ⟨us0, kw⟩ us vs Q E hr hgu I.env0 hb r h) fun res s' hq => ?_)
  cases res with
  | error e => exact tk e s' (XE.of_call I hW hq)
  | ok fl =>
    cases fl with
    | ret u => exact I.after hq
    | next => exact hq.elim
    | brk => exact hq.elim
    | cont => exact hq.elim
/-- the keywords' values -/
theorem dk_nil : PK X [] (tDs X S fun _ h => .ok (.lst []) h) := ⟨fun pos pins s σ H Q I ⟨π, ρ, hs, rel, sl, p⟩ => pk_nil.run pos pins s σ H Q I (p π H [] (.refl _ _) rel .nil)⟩
theorem dk_cons {e : Expr} {kws : List Keyword} {nm : Option Str} {kpos : Pos} {ma mb : Env → HS → R D} (ha : PE X e (tD X S ma)) (hb : PK X kws (tDs X S mb)) :
    PK X (⟨nm, e, kpos⟩ :: kws) (tDs X S fun ρ h => (ma ρ h).bind fun d h1 => (mb ρ h1).bind fun l h2 => .ok (.lst (d :: its l)) h2) := by
  refine ⟨fun pos pins s σ H Q I ⟨π, ρ, hs, rel, sl, p⟩ => (pk_cons ha hb).run pos pins s σ H Q I ⟨π, ρ, hs, rel, sl, gp_bind p fun x hs1 π1 H1 v e1 rel1 r1 p1 => ?_⟩⟩
  refine ⟨π1, ρ, hs1, rel1, sl.mono rel e1, gp_bind p1 fun y hs2 π2 H2 w e2 rel2 r2 p2 => ?_⟩
  exact p2 π2 H2 _ (.refl _ _) rel2 (.cons (r1.mono e2) r2)
/-- a function of the program: its place, its words -/
structure Fun0 (K : PySem.W.Frag) (f : Addr) (fd : FuncData) (ps : List Str) : Prop where
  kp : PySem.W.keepIn K (.ref f) = true
  pl : plainB fd.params = true
  df : fd.defaults = .none
  nm : fd.params.args.map (·.arg) = ps
theorem vals_append {vs ws : List V} {us xs : List Value} (h : Vals vs us) (h' : Vals ws xs) : Vals (vs ++ ws) (us ++ xs) := h.append h'
theorem perm_lt {ps ks : List Str} {nu : Nat} {perm : List Nat} (hk : kwB ps ks nu perm = true) : ∀ j ∈ perm, j < nu + ks.length := by
  unfold kwB at hk
  simp only [Bool.and_eq_true, decide_eq_true_eq, List.all_eq_true] at hk
  obtain ⟨⟨⟨⟨⟨k1, k2⟩, k3⟩, k4⟩, k5⟩, k6⟩ := hk
  intro j hj
  have : (ps.take nu ++ ks)[j]? ∈ ps.map some := by rw [← k6]; exact List.mem_map_of_mem hj
  obtain ⟨n, _, e⟩ := List.mem_map.mp this
  have := (List.getElem?_eq_some_iff.mp e.symm).1
  rw [List.length_append, List.length_take] at this
  omega
def permVV (vs : List V) (perm : List Nat) : List V := perm.map fun j => vs.getD j .non
theorem perm_vals {vs : List V} {us : List Value} (r : Vals vs us) : ∀ {perm : List Nat}, (∀ j ∈ perm, j < vs.length) → Vals (permVV vs perm) (permV us perm)
  | [], _ => .nil
  | j :: perm, h => by
    have hj := h j List.mem_cons_self
    obtain ⟨u, hu, ru⟩ := r.get (List.getElem?_eq_getElem hj)
    refine .cons ?_ (perm_vals r fun j' h' => h j' (List.mem_cons_of_mem _ h'))
    show L2.RelV (vs.getD j .non) (us.getD j .none)
    rw [List.getD_eq_getElem?_getD, List.getD_eq_getElem?_getD, List.getElem?_eq_getElem hj, hu]
    exact ru
theorem perm_ras {K : PySem.W.Frag} {π : Pi} {H : Hp} {ds : List D} {vs : List V} (r : RDs K π H ds vs) : ∀ {perm : List Nat}, (∀ j ∈ perm, j < ds.length) → RDs K π H (permOf ds perm) (permVV vs perm)
  | [], _ => .nil
  | j :: perm, h => by
    have hj := h j List.mem_cons_self
    obtain ⟨v, hv, rv⟩ := r.get (List.getElem?_eq_getElem hj)
    refine .cons ?_ (perm_ras r fun j' h' => h j' (List.mem_cons_of_mem _ h'))
    show RD K π H (ds.getD j .non) (vs.getD j .non)
    rw [List.getD_eq_getElem?_getD, List.getD_eq_getElem?_getD, List.getElem?_eq_getElem hj, hv]
    exact rv
theorem binds_of {f : Addr} {fd : FuncData} {ps ks : List Str} {us ws : List Value} {perm : List Nat} {s : Shared} (F0 : Fun0 X.K f fd ps) (hk : kwB ps ks us.length perm = true) (hw : ws.length = ks.length) : BindsTo s fd ⟨us, ks.zip ws⟩ (ps.zip (permV (us ++ ws) perm)) :=
  .of_eq (bind_plain F0.pl F0.df F0.nm hk hw)
variable {f : Addr} {fd : FuncData} {ps ks : List Str} {perm : List Nat} {F : List D → HS → R D} {x : Str} {p pos : Pos} {e : Expr} {es : List Expr} {kws : List Keyword} {m mk : Env → HS → R D} {nu : Nat}
/-- f(e, .., k = v, ..) -/
theorem d_call (G : Good X S κ k) (Fn : FnG X.prog X.w X.K X.mg X.base k f fd ps (FunSp X.K S.noX F)) (F0 : Fun0 X.K f fd ps) (hg : Gl X x) (hm : X.mg x = some (.ref f)) (hdb : (x == ("__debug__" : Str)) = false)
    (ha : PA X (e :: es) (tDs X S m)) (hkw : PK X kws (tDs X S mk)) (hl : ∀ ρ h d h', m ρ h = .ok d h' → (its d).length = nu) (hlk : ∀ ρ h d h', mk ρ h = .ok d h' → (its d).length = ks.length) (hk : kwB ps ks nu perm = true)
    (hall : (backToKw pos (keywordEach kws X.env)).all (·.1.isSome) = true) (hks : (backToKw pos (keywordEach kws X.env)).filterMap (·.1) = ks)
    (he : starEach (e :: es) X.env = (false, eval e X.env) :: starEach es X.env) (hpl : ((backTo pos (starEach (e :: es) X.env)).any (·.1) || (backToKw pos (keywordEach kws X.env)).any (·.1.isNone)) = false) :
    PE X (.Call (.Name x p) (e :: es) kws pos) (tD X S fun ρ h => (m ρ h).bind fun l h1 => (mk ρ h1).bind fun l2 h2 => F (permOf (its l ++ its l2) perm) h2) := by
  refine ⟨fun pins s σ H Q I ⟨π, ρ, hs, rel, sl, p⟩ => ?_⟩
  dsimp only at p
  refine wpAny_Call_Name_kw (ld_glob I hg hm ?_ hdb)
  refine PySem.W.callWith_KW (h₀ := X.base) I.ok.mod.kin F0.kp hall (thn (ha.run pos pins s σ H (fun vs H1 => ∃ π1 l hs1, Ext π H π1 H1 ∧ Rel X.K S.T π1 H1 hs1 ∧ RDs X.K π1 H1 (its l) vs ∧ (its l).length = nu ∧ post X.K S π1 H1 Q (fun c d H' => S.W c d σ H') ((mk ρ hs1).bind fun l2 h2 => F (permOf (its l ++ its l2) perm) h2)) I ⟨π, ρ, hs, rel, sl, ?_⟩) fun us s1 ⟨vs, H1, I1, r, π1, l, hs1, e1, rel1, r1, hlen, p1⟩ => ?_) hpl he
  · cases hm' : m ρ hs with
    | bad => rw [hm'] at p; exact p
    | exc c d hh => rw [hm'] at p; exact p
    | ok l hs1 =>
      rw [hm'] at p
      exact fun π1 H1 vs e1 rel1 r1 => ⟨π1, l, hs1, e1, rel1, r1, hl _ _ _ _ hm', gp.mono e1 p⟩
  · refine thn (hkw.run pos pins s1 σ H1 (fun ws H2 => ∃ π2 l2 hs2, Ext π1 H1 π2 H2 ∧ Rel X.K S.T π2 H2 hs2 ∧ RDs X.K π2 H2 (its l2) ws ∧ (its l2).length = ks.length ∧ post X.K S π2 H2 Q (fun c d H' => S.W c d σ H') (F (permOf (its l ++ its l2) perm) hs2)) I1 ⟨π1, ρ, hs1, rel1, sl.mono rel e1, ?_⟩) fun xs s2 ⟨ws, H2, I2, r', π2, l2, hs2, e2, rel2, r2, hlen2, p2⟩ => ⟨I2.kIn, ?_⟩
    · cases hm' : mk ρ hs1 with
      | bad => rw [hm'] at p1; exact p1
      | exc c d hh => rw [hm'] at p1; exact p1
      | ok l2 hs2 =>
        rw [hm'] at p1
        exact fun π2 H2 ws e2 rel2 r2 => ⟨π2, l2, hs2, e2, rel2, r2, hlk _ _ _ _ hm', gp.mono e2 p1⟩
    · rw [hks]
      show wpAny (model X.prog X.w) X.A (call (.ref f) us (ks.zip xs)) _ _ _
      have lu : us.length = nu := by rw [← r.length, ← r1.length, hlen]
      have lx : xs.length = ks.length := by rw [← r'.length, ← r2.length, hlen2]
      have rr := r.append r'
      have hlt : ∀ j ∈ perm, j < (its l ++ its l2).length := fun j hj => by
        rw [List.length_append, hlen, hlen2]; exact perm_lt hk j hj
      have rd := (r1.mono e2).append r2
      refine run_d Fn G.room G.gu G.takes I2 (binds_of F0 (by rw [lu]; exact hk) lx) (perm_vals rr fun j hj => by rw [← rd.length]; exact hlt j hj) (E := fun c d H' => S.W c d σ H') ?_ fun cls d H' h => h
      exact ⟨π2, hs2, _, rel2, .of (perm_ras rd hlt), post_noX p2⟩
/-- f(k = v, ..), f() -/
theorem d_call0 (G : Good X S κ k) (Fn : FnG X.prog X.w X.K X.mg X.base k f fd ps (FunSp X.K S.noX F)) (F0 : Fun0 X.K f fd ps) (hg : Gl X x) (hm : X.mg x = some (.ref f)) (hdb : (x == ("__debug__" : Str)) = false)
    (hkw : PK X kws (tDs X S mk)) (hlk : ∀ ρ h d h', mk ρ h = .ok d h' → (its d).length = ks.length) (hk : kwB ps ks 0 perm = true)
    (hall : (backToKw pos (keywordEach kws X.env)).all (·.1.isSome) = true) (hks : (backToKw pos (keywordEach kws X.env)).filterMap (·.1) = ks) (hpl : ((backTo pos (starEach [] X.env)).any (·.1) || (backToKw pos (keywordEach kws X.env)).any (·.1.isNone)) = false) :
    PE X (.Call (.Name x p) [] kws pos) (tD X S fun ρ h => (R.ok (.lst []) h).bind fun l h1 => (mk ρ h1).bind fun l2 h2 => F (permOf (its l ++ its l2) perm) h2) := by
  refine ⟨fun pins s σ H Q I ⟨π, ρ, hs, rel, sl, p⟩ => ?_⟩
  have p : post X.K S π H Q (fun c d H' => S.W c d σ H') ((mk ρ hs).bind fun l2 h2 => F (permOf ([] ++ its l2) perm) h2) := p
  refine wpAny_Call_Name_kw (ld_glob I hg hm ?_ hdb)
  refine PySem.W.callWith_KW0 (h₀ := X.base) I.ok.mod.kin F0.kp hall (thn (hkw.run pos pins s σ H (fun ws H2 => ∃ π2 l2 hs2, Ext π H π2 H2 ∧ Rel X.K S.T π2 H2 hs2 ∧ RDs X.K π2 H2 (its l2) ws ∧ (its l2).length = ks.length ∧ post X.K S π2 H2 Q (fun c d H' => S.W c d σ H') (F (permOf ([] ++ its l2) perm) hs2)) I ⟨π, ρ, hs, rel, sl, ?_⟩) fun xs s2 ⟨ws, H2, I2, r', π2, l2, hs2, e2, rel2, r2, hlen2, p2⟩ => ⟨I2.kIn, ?_⟩) hpl
  · cases hm' : mk ρ hs with
    | bad => rw [hm'] at p; exact p
    | exc c d hh => rw [hm'] at p; exact p
    | ok l2 hs2 =>
      rw [hm'] at p
      exact fun π2 H2 ws e2 rel2 r2 => ⟨π2, l2, hs2, e2, rel2, r2, hlk _ _ _ _ hm', gp.mono e2 p⟩
  · rw [hks]
    show wpAny (model X.prog X.w) X.A (call (.ref f) [] (ks.zip xs)) _ _ _
    have lx : xs.length = ks.length := by rw [← r'.length, ← r2.length, hlen2]
    rw [List.nil_append] at p2
    have hlt : ∀ j ∈ perm, j < (its l2).length := fun j hj => by
      have := perm_lt hk j hj
      rw [hlen2]; omega
    have hbd := binds_of (X := X) (f := f) (us := []) (ws := xs) (s := s2) F0 (by exact hk) lx
    rw [List.nil_append] at hbd
    refine run_d Fn G.room G.gu G.takes I2 hbd (perm_vals r' fun j hj => by rw [← r2.length]; exact hlt j hj) (E := fun c d H' => S.W c d σ H') ?_ fun cls d H' h => h
    exact ⟨π2, hs2, _, rel2, .of (perm_ras r2 hlt), post_noX p2⟩
end
end VE
set_option Elab.async false
set_option linter.all false
set_option maxRecDepth 100000
set_option maxHeartbeats 1000000
set_option autoImplicit false
/-! V17: a function's body, its promise -/
namespace VE
open PySem PySem.Spec PyProof.Rows L2
def Sta.at_ (S : Sta) (E : XK) (cells : Option (List (Str × Addr) × Scope)) : Sta := { S with W := fun c d _ H => E c d H, cel := cells }
theorem RAs.get {K : PySem.W.Frag} {S : Sta} {π : Pi} {H : Hp} : ∀ {ds : List D} {vs : List V} {i : Nat} {d : D}, RAs K S π H ds vs → ds[i]? = some d → ∃ v, vs[i]? = some v ∧ RA K S π H d v
  | [], _, _, _, _, e => by simp at e
  | d' :: ds, _, i, d, h, e => by
    cases h with
    | cons h1 h2 =>
      cases i with
      | zero => simp at e; subst e; exact ⟨_, rfl, h1⟩
      | succ i => simpa using RAs.get h2 (by simpa using e)
theorem RF_at {K : PySem.W.Frag} {S S' : Sta} {π : Pi} {H : Hp} {d : D} {v : V} (h1 : S'.fad = S.fad) (h2 : S'.cod = S.cod) (h : RF K S π H d v) : RF K S' π H d v := by
  cases h with
  | gfn a => exact .gfn (by rw [h1]; exact a)
  | fn a1 a2 a3 a4 a5 => exact .fn (by rw [h2]; exact a1) a2 a3 a4 a5
theorem slots_start {K : PySem.W.Frag} {S S' : Sta} {π : Pi} {H : Hp} {ds : List D} {vs : List V} {n : Nat} (h1 : S'.fad = S.fad) (h2 : S'.cod = S.cod) (r : RAs K S π H ds vs) : Slots K S' π H (ds.map some ++ List.replicate n none) (vs.map some ++ List.replicate n none) := by
  refine ⟨by simp [r.length], fun i d q => ?_⟩
  by_cases hi : i < ds.length
  · rw [List.getElem?_append_left (by simpa using hi), List.getElem?_map] at q
    cases hd : ds[i]? with
    | none => rw [hd] at q; cases q
    | some d' =>
      rw [hd] at q; cases q
      obtain ⟨v, hv, ra⟩ := r.get hd
      refine ⟨v, by rw [List.getElem?_append_left (by rw [List.length_map, ← r.length]; exact hi), List.getElem?_map, hv]; rfl, ra.elim .inl fun z => .inr (.inl (RF_at h1 h2 z))⟩
  · rw [List.getElem?_append_right (by simp; omega), List.getElem?_replicate] at q
    split at q <;> cases q
/-- from the promise to the body's ends -/
theorem out_of {K : PySem.W.Frag} {S S' : Sta} {π : Pi} {H : Hp} {Q : VK} {E : XK} {o : Out} (h1 : S'.T = S.T) (h2 : S'.cv = S.cv) (h3 : S'.W = fun c d _ H => E c d H) (p : post K S π H Q E (runOut o)) : outP K S' { nx := fun _ H' => Q .non H', rt := Q } π H o := by
  cases o with
  | nx ρ hs => exact fun π' H' σ' e rel sl => p π' H' .non e (by rw [← h1]; exact rel) .non
  | rt d hs => exact fun π' H' v e rel r => p π' H' v e (by rw [← h1]; exact rel) r
  | exc c d ρ hs =>
    intro π' H' σ' cls dd e rel sl x
    rw [h3]
    exact p π' H' cls dd e (by rw [← h1]; exact rel) (by rw [← h2]; exact x)
  | bk ρ hs => exact p.elim
  | ct ρ hs => exact p.elim
  | bad => exact p.elim
section
variable {P : Program} {w : World} {K : PySem.W.Frag} {mg : Str → Option Value} {base : Heap} {k np : Nat} {S0 : Sta}
theorem fun_sound {f : Addr} {name qual : Str} {params : Arguments} {body : List Stmt} {scope : Scope} {doc pm cdv ct oc : Value} {an od : Option Addr} {osl : Array (Option Value)} {N ps : List Str}
    (lk : K.lookup f = some ⟨oc, od, .func (PySem.W.fnOf name qual params body scope .none .none doc pm an cdv ct), osl⟩) (hcd : PySem.W.codeIn K cdv qual = true) (Sc : FnScope N ps scope) (hnp : ps.length = np) {fz : Bool} {mb : Env → HS → Out}
    (hb : ∀ (A : Around) (outer : List PySem.Env) (s : Shared) (H : Hp) (E : XK), Room k (A.deeper (envOfC qual scope s.heap.objs.size f cdv)) → A.guards = some [] →
      PSs (cxOf (L2.CX P w) P w K mg base N qual scope f cdv A outer s H E) body (tSD (cxOf (L2.CX P w) P w K mg base N qual scope f cdv A outer s H E) (S0.at_ E (some ((cxOf (L2.CX P w) P w K mg base N qual scope f cdv A outer s H E).env.cells, scope))) mb)) :
    FnG P w K mg base (k + 1) f (PySem.W.fnOf name qual params body scope .none .none doc pm an cdv ct) ps (FunSp K S0 fun as h => if as.length = np then cutR fz h (runOut (mb (as.map some ++ List.replicate (N.length - np) none) h)) else .bad) := by
  refine ⟨fun A outer s H args us vs Q E hr hg e0 hbd r ⟨π, hs, ds, rel, ra, p⟩ => ?_⟩
  dsimp only at p
  split at p
  · rename_i hl
    have p := post_cut rel p
    have hlv : vs.length = ps.length := by rw [← ra.length, hl, hnp]
    refine LamX.run_ofS lk hcd Sc hr e0 hbd r hlv fun hr' => ⟨_, hb A outer s H E hr' hg, π, _, hs, rel, ?_, out_of (S := S0) rfl rfl rfl p⟩
    have e : L2.start N vs = vs.map some ++ List.replicate (N.length - np) none := by unfold L2.start; rw [hlv, hnp]
    rw [e]
    exact slots_start (S := S0) rfl rfl ra
  · exact p.elim
/-! ### functions made within defs -/
/-- the promise of such a function, its captured cells untracked -/
structure ClG (P : Program) (w : World) (K : PySem.W.Frag) (mg : Str → Option Value) (base : Heap) (k : Nat) (C : CodeT) (S0 : Sta) (G : List D → List D → HS → R D) : Prop where
  run : ∀ (A : Around) (outer : List PySem.Env) (s : Shared) (H : Hp) (f : Addr) (cl : List (Str × Addr)) (c' : Addr) (us : List Value) (vs ws : List V) (π : Pi) (hs : HS) (ds caps : List D) (Q : VK) (E : XK), Room k A → A.guards = some [] → Env0 P w K mg base A outer s H →
    H f = some (ClO f C cl c') → H c' = some (LamX.CodeO c' C.qual) → NdefX.CellsAt cl C.fr (ws.map some) s.heap H → Vals vs us → Rel K S0.T π H hs → RDs K π H ds vs → RDs K π H caps ws → post K S0 π H Q E (G caps ds hs) →
    codeAny (model P w) A (.call (.ref f) ⟨us, []⟩) (CR (L2.CX P w) outer P w H s Q E) s
def CodeT.nf (C : CodeT) (cl : List (Str × Addr)) (c' : Addr) : NdefX.NF := ⟨C.name, C.qual, C.params, [], C.scope, cl, c'⟩
abbrev clx (P : Program) (w : World) (K : PySem.W.Frag) (mg : Str → Option Value) (base : Heap) (N : List Str) (C : CodeT) (cl : List (Str × Addr)) (c' f : Addr) (A : Around) (outer : List PySem.Env) (s : Shared) (H : Hp) (E : XK) : Cx :=
  NdefX.ncx (L2.CX P w) P w K mg base N (C.nf cl c') f A outer s H E
theorem clo_at {H : Hp} {h : Heap} {f : Addr} {C : CodeT} {cl : List (Str × Addr)} {c' : Addr} (hok : HOk P w H h) (e : H f = some (ClO f C cl c')) : ∃ (od : Option Addr) (sl : Array (Option Value)) (doc pm ctv : Value), h.get? f = some (⟨.type "function", od, .func (C.fd cl c' doc pm ctv), sl⟩ : Obj) := (hok f _ e).1
theorem permV_range (us : List Value) : permV us (List.range us.length) = us := by
  unfold permV
  apply List.ext_getElem?
  intro i
  rw [List.getElem?_map]
  by_cases hi : i < us.length
  · rw [List.getElem?_range hi, List.getElem?_eq_getElem hi]
    simp [List.getD_eq_getElem?_getD, List.getElem?_eq_getElem hi]
  · rw [List.getElem?_eq_none (by simpa using hi), List.getElem?_eq_none (by omega)]
    rfl
theorem rds_ras_start {S' : Sta} {π : Pi} {H : Hp} {ds caps : List D} {vs ws : List V} {n : Nat} (r : RDs K π H ds vs) (rc : RDs K π H caps ws) : Slots K S' π H (ds.map some ++ (caps.map some ++ List.replicate n none)) (vs.map some ++ (ws.map some ++ List.replicate n none)) := by
  have := slots_start (S := S') (S' := S') (n := n) rfl rfl (RAs.of (S := S') (r.append rc))
  simpa using this
theorem clo_stmts {C : CodeT} {body : List Stmt} (hC : C.body = .stmts body) {N ps : List Str} (Sc : NdefX.NScope N ps C.fr C.scope) (hpl : plainB C.params = true) (hps : C.params.args.map (·.arg) = ps) (hk : kwB ps [] ps.length (List.range ps.length) = true) {nc : Nat} (hnp : ps.length = np) (hnc : C.fr.length = nc) {mb : Env → HS → Out}
    (hb : ∀ (A : Around) (outer : List PySem.Env) (s : Shared) (H : Hp) (E : XK) (cl : List (Str × Addr)) (c' f : Addr), Room k (clx P w K mg base N C cl c' f A outer s H E).A → A.guards = some [] →
      PSs (clx P w K mg base N C cl c' f A outer s H E) body (tSD (clx P w K mg base N C cl c' f A outer s H E) (S0.at_ E none) mb)) :
    ClG P w K mg base (k + 1) C S0 (fun caps as h => if as.length = np ∧ caps.length = nc then cutR false h (runOut (mb (as.map some ++ (caps.map some ++ List.replicate (N.length - np - nc) none)) h)) else .bad) := by
  refine ⟨fun A outer s H f cl c' us vs ws π hs ds caps Q E hr hg e0 hf hc cells rv rel rd rc p => ?_⟩
  split at p
  · rename_i hl
    have p := post_cut rel p
    have hlv : vs.length = ps.length := by rw [← rd.length, hl.1, hnp]
    have hlu : us.length = ps.length := by rw [← rv.length]; exact hlv
    have lim : s.heap.NoLimit := e0.mod.nolimit.keeps fun b o e => (e0.bs b o e).1
    obtain ⟨od, sl, doc, pm, ctv, ho⟩ := clo_at e0.hok hf
    have hbind : bindArgs (C.fd cl c' doc pm ctv) ⟨us, []⟩ = pure (ps.zip us) := by
      have := bind_plain (fd := C.fd cl c' doc pm ctv) (ps := ps) (ks := []) (us := us) (ws := []) (perm := List.range ps.length) hpl rfl hps (by rw [hlu]; exact hk) rfl
      rw [List.append_nil, ← hlu, permV_range] at this
      exact this
    refine codeAny_call_function hr.depth ho rfl Sc.co Sc.gen hC (NdefX.codeO_at e0.hok hc) ?_
    rw [hbind]
    refine wpAny_pure (wpAny_newFunctionEnv Sc.nocell (fun ⟨n, _⟩ hy => Sc.par n (List.of_mem_zip hy).1) (fun h₁ hns hsb => ⟨lim.fresh _ hsb, ?_⟩) Sc.kind)
    refine codeAny_func ?_
    have kp : ∀ b o, s.heap.get? b = some o → h₁.get? b = some o := fun b o e => hsb.extBut b o (Nat.ne_of_lt (Heap.lt_size e)) (Heap.get?_push_of_some _ e)
    have I : Inv (clx P w K mg base N C cl c' f A outer s H E) [] (NdefX.startF N vs (ws.map some)) H { s with heap := h₁, toks := s.toks + (ps.zip us).length } := NdefX.inv_startN (F := C.nf cl c') Sc hr.hd e0 hlv rv cells hns kp
    have sl0 : NdefX.startF N vs (ws.map some) = vs.map some ++ (ws.map some ++ List.replicate (N.length - np - nc) none) := by
      unfold NdefX.startF
      rw [hlv, hnp, List.length_map, ← rc.length, hl.2]
    rw [sl0] at I
    refine wpAny_mono ((hb A outer s H E cl c' f (hr.deeper _) hg).run [] _ _ H _ I ⟨π, _, hs, rel, rds_ras_start rd rc, out_of (S := S0) rfl rfl rfl p⟩) (fun fl s' q => ?_) fun e s' q => q
    have fin : ∀ {σ' : L2.St} {H' : Hp} {v : V} {u : Value}, Inv (clx P w K mg base N C cl c' f A outer s H E) [] σ' H' s' → L2.RelV v u → Q v H' → CE outer P w H s Q u s' := fun {σ' H' v u} J rr q => ⟨v, H', J.os, J.bare, J.base, J.hok, rr, q⟩
    cases fl with
    | ret u =>
      obtain ⟨v, σ', H', J, rr, q⟩ := q
      exact fin J rr q
    | next =>
      obtain ⟨σ', H', J, q⟩ := q
      exact fin (v := V.non) (u := Value.none) J rfl q
    | brk => obtain ⟨_, _, _, z⟩ := q; exact z.elim
    | cont => obtain ⟨_, _, _, z⟩ := q; exact z.elim
  · exact p.elim
theorem clo_lam {C : CodeT} {body : Expr} (hC : C.body = .expr body) {N ps : List Str} (Sc : NdefX.NScope N ps C.fr C.scope) (hpl : plainB C.params = true) (hps : C.params.args.map (·.arg) = ps) (hk : kwB ps [] ps.length (List.range ps.length) = true) {nc : Nat} (hnp : ps.length = np) (hnc : C.fr.length = nc) {me : Env → HS → R D}
    (hb : ∀ (A : Around) (outer : List PySem.Env) (s : Shared) (H : Hp) (E : XK) (cl : List (Str × Addr)) (c' f : Addr), Room k (clx P w K mg base N C cl c' f A outer s H E).A → A.guards = some [] →
      PE (clx P w K mg base N C cl c' f A outer s H E) body (tD (clx P w K mg base N C cl c' f A outer s H E) (S0.at_ E none) me)) :
    ClG P w K mg base (k + 1) C S0 (fun caps as h => if as.length = np ∧ caps.length = nc then cutR false h (me (as.map some ++ (caps.map some ++ List.replicate (N.length - np - nc) none)) h) else .bad) := by
  refine ⟨fun A outer s H f cl c' us vs ws π hs ds caps Q E hr hg e0 hf hc cells rv rel rd rc p => ?_⟩
  split at p
  · rename_i hl
    have p := post_cut rel p
    have hlv : vs.length = ps.length := by rw [← rd.length, hl.1, hnp]
    have hlu : us.length = ps.length := by rw [← rv.length]; exact hlv
    have lim : s.heap.NoLimit := e0.mod.nolimit.keeps fun b o e => (e0.bs b o e).1
    obtain ⟨od, sl, doc, pm, ctv, ho⟩ := clo_at e0.hok hf
    have hbind : bindArgs (C.fd cl c' doc pm ctv) ⟨us, []⟩ = pure (ps.zip us) := by
      have := bind_plain (fd := C.fd cl c' doc pm ctv) (ps := ps) (ks := []) (us := us) (ws := []) (perm := List.range ps.length) hpl rfl hps (by rw [hlu]; exact hk) rfl
      rw [List.append_nil, ← hlu, permV_range] at this
      exact this
    refine PySem.W.kla_callFunE hr.depth ho rfl Sc.co Sc.gen hC (NdefX.codeO_at e0.hok hc) ?_
    rw [hbind]
    refine wpAny_pure (wpAny_newFunctionEnv Sc.nocell (fun ⟨n, _⟩ hy => Sc.par n (List.of_mem_zip hy).1) (fun h₁ hns hsb => ⟨lim.fresh _ hsb, ?_⟩) Sc.kind)
    have kp : ∀ b o, s.heap.get? b = some o → h₁.get? b = some o := fun b o e => hsb.extBut b o (Nat.ne_of_lt (Heap.lt_size e)) (Heap.get?_push_of_some _ e)
    have I : Inv (clx P w K mg base N C cl c' f A outer s H E) [] (NdefX.startF N vs (ws.map some)) H { s with heap := h₁, toks := s.toks + (ps.zip us).length } := NdefX.inv_startN (F := C.nf cl c') Sc hr.hd e0 hlv rv cells hns kp
    have sl0 : NdefX.startF N vs (ws.map some) = vs.map some ++ (ws.map some ++ List.replicate (N.length - np - nc) none) := by
      unfold NdefX.startF
      rw [hlv, hnp, List.length_map, ← rc.length, hl.2]
    rw [sl0] at I
    refine PySem.W.kla_codeExpr (wpAny_mono ((hb A outer s H E cl c' f (hr.deeper _) hg).run [] _ _ H Q I ⟨π, _, hs, rel, rds_ras_start rd rc, ?_⟩) (fun v s' q => ?_) fun e s' q => q)
    · have p : post K S0 π H Q E (me (ds.map some ++ (caps.map some ++ List.replicate (N.length - np - nc) none)) hs) := p
      cases hm : me (ds.map some ++ (caps.map some ++ List.replicate (N.length - np - nc) none)) hs with
      | ok d h' => rw [hm] at p; exact p
      | exc c d h' => rw [hm] at p; exact p
      | bad => rw [hm] at p; exact p
    · obtain ⟨v', H', J, rr, q⟩ := q
      exact ⟨v', H', J.os, J.bare, J.base, J.hok, rr, q⟩
  · exact p.elim
end
end VE
set_option Elab.async false
set_option linter.all false
set_option maxRecDepth 100000
set_option maxHeartbeats 1000000
set_option autoImplicit false
/-! V18: captured cells, tracked and untracked; calls by functions held -/
namespace VE
open PySem PySem.Spec PyProof.Rows L2
/-- the heap without the cells L -/
def lessL (H : Hp) (L : List Addr) : Hp := fun b => if b ∈ L then none else H b
/-- .. with them, as they stand in h -/
def moreL (H : Hp) (L : List Addr) (h : Heap) : Hp := fun b => if b ∈ L then (h.get? b).map (CelO b) else H b
/-- .. with what H0 knows of them -/
def backL (H H0 : Hp) (L : List Addr) : Hp := fun b => if b ∈ L then H0 b else H b
section
variable {H H' H0 : Hp} {L : List Addr} {h : Heap} {b : Addr}
theorem less_in (hb : b ∈ L) : lessL H L b = none := if_pos hb
theorem less_out (hb : b ∉ L) : lessL H L b = H b := if_neg hb
theorem more_in (hb : b ∈ L) : moreL H L h b = (h.get? b).map (CelO b) := if_pos hb
theorem more_out (hb : b ∉ L) : moreL H L h b = H b := if_neg hb
theorem back_in (hb : b ∈ L) : backL H H0 L b = H0 b := if_pos hb
theorem back_out (hb : b ∉ L) : backL H H0 L b = H b := if_neg hb
theorem celO_ok {P : Program} {w : World} {o : Obj} (e : h.get? b = some o) : ObjOk P w H h b (CelO b o) := ⟨e, ⟨o, e⟩, fun h1 h2 x k => k o x⟩
theorem celO_ext {o : Obj} : ∃ φ, CelO b o = .ext φ := ⟨_, rfl⟩
/-- which objects the ext kind is for: cells are none of the others -/
theorem cel_ne_code {P : Program} {w : World} (hok : HOk P w H h) {c : Addr} {q : Str} {o : Obj} {v : Option Value} (e : H c = some (LamX.CodeO c q)) (ho : h.get? c = some o) (hd : o.data = .cell v) : False := by
  obtain ⟨⟨oc, vs, t, h1, h2, h3⟩, _, _⟩ := hok c _ e
  rw [ho] at h1; cases h1
  rw [hd] at h2; cases h2
theorem cel_ne_clo {P : Program} {w : World} (hok : HOk P w H h) {f c' : Addr} {C : CodeT} {cl : List (Str × Addr)} {o : Obj} {v : Option Value} (e : H f = some (ClO f C cl c')) (ho : h.get? f = some o) (hd : o.data = .cell v) : False := by
  obtain ⟨od, sl, doc, pm, ctv, h1⟩ := clo_at hok e
  rw [ho] at h1; cases h1; cases hd
end
/-- L are cells that H knows, in h -/
def Cels (H : Hp) (L : List Addr) (h : Heap) : Prop := ∀ b ∈ L, ∃ o v, H b = some (CelO b o) ∧ h.get? b = some o ∧ o.data = .cell v
/-- L are cells that H does not know, in h -/
def Cels0 (H : Hp) (L : List Addr) (h : Heap) : Prop := ∀ b ∈ L, ∃ o v, H b = none ∧ h.get? b = some o ∧ o.data = .cell v
section
variable {P : Program} {w : World} {K : PySem.W.Frag} {T : List NdefX.NTab} {π π1 : Pi} {H H1 : Hp} {L : List Addr} {h : Heap} {hs hs1 : HS} {d : D} {v : V}
theorem celo_kind {b : Addr} {o : Obj} (r : Rel K T π H hs) (e : H b = some (CelO b o)) : b ∉ π.obj := fun hp => by
  have k := r.kindNo hp e
  cases k
/-- from H to H without the cells -/
theorem less_keep (c : Cels H L h) : KeepD π H π (lessL H L) := ⟨fun _ _ z => z, fun a o e hn _ he => ⟨hn, by
  rw [less_out fun z => ?_]; exact e
  obtain ⟨o', v, e', _⟩ := c a z
  rw [e] at e'; cases e'
  exact he _ rfl⟩⟩
theorem less_rel (hok : HOk P w H h) (c : Cels H L h) (r : Rel K T π H hs) : Rel K T π (lessL H L) hs := by
  have out : ∀ {b}, b ∈ π.obj → b ∉ L := fun hb z => by
    obtain ⟨o, v, e, _⟩ := c _ z
    exact celo_kind r e hb
  refine ⟨r.len, r.nd, fun i o a h1 h2 => (r.obj i o a h1 h2).monoD (less_keep c) (less_out (out (List.mem_of_getElem? h2))), fun p hp => ?_, fun b hb => ?_⟩
  · obtain ⟨ps, e1, e2, e3⟩ := r.tabs p hp
    refine ⟨ps, ?_, e2, fun pos cv hc => ?_⟩
    · rw [less_out fun z => ?_]; exact e1
      obtain ⟨o, v, e, _⟩ := c _ z
      rw [e1] at e; cases e
    · obtain ⟨cc, e4, e5⟩ := e3 pos cv hc
      refine ⟨cc, e4, ?_⟩
      rw [less_out fun z => ?_]; exact e5
      obtain ⟨o, v, _, g1, g2⟩ := c _ z
      exact cel_ne_code hok e5 g1 g2
  · obtain ⟨n, vs, q⟩ := r.hidL b hb
    refine ⟨n, vs, ?_⟩
    rw [less_out fun z => ?_]; exact q
    obtain ⟨o, v, e, _⟩ := c _ z
    rw [q] at e; cases e
theorem less_hok (hok : HOk P w H h) (c : Cels H L h) : HOk P w (lessL H L) h := fun a o e => by
  have ha : a ∉ L := fun z => by rw [less_in z] at e; cases e
  rw [less_out ha] at e
  have nl : ∀ {b u}, H b = some u → (∀ φ, u ≠ .ext φ) → lessL H L b = some u := fun {b u} q n => by
    rw [less_out fun z => ?_]; exact q
    obtain ⟨o', v, e', _⟩ := c _ z
    rw [q] at e'; cases e'
    exact n _ rfl
  exact (hok a o e).stay (fun b u _ z => z) (fun b q => nl q (fun φ z => by cases z)) fun b xs q => nl q (fun φ z => by cases z)
/-- back behind a call that ran without the cells -/
theorem back_ext (c : Cels H L h) (n : ∀ b ∈ L, H1 b = none) (rel1 : Rel K T π1 H1 hs1) (e : Ext π (lessL H L) π1 H1) : Ext π H π1 (backL H1 H L) := by
  obtain ⟨m, m1, m2⟩ := e.pre
  refine ⟨⟨m, m1, fun a ha => ?_⟩, e.hid, fun a o q hn ht => ?_, fun a q => ?_, fun a o u q => ?_⟩
  · have z := m2 a ha
    have hL : a ∉ L := fun hL => rel1.there (by rw [m1]; exact List.mem_append_right _ ha) (n a hL)
    rw [less_out hL] at z; exact z
  · by_cases hL : a ∈ L
    · rw [back_in hL]; exact q
    · rw [back_out hL]; exact e.keep a o (by rw [less_out hL]; exact q) hn ht
  · by_cases hL : a ∈ L
    · rw [back_in hL] at q; exact q
    · rw [back_out hL] at q
      have := e.there a q
      rw [less_out hL] at this; exact this
  · by_cases hL : a ∈ L
    · rw [back_in hL]; exact q
    · rw [back_out hL]; exact e.fz a o u (by rw [less_out hL]; exact q)
theorem back_keep (n : ∀ b ∈ L, H1 b = none) : Keeps π1 H1 π1 (backL H1 H L) := ⟨fun _ _ z => z, fun a o e hn _ => ⟨hn, by
  rw [back_out fun z => ?_]; exact e
  rw [n a z] at e; cases e⟩, fun a o u e => by
  rw [back_out fun z => ?_]; exact e
  rw [n a z] at e; cases e⟩
theorem back_rel (n : ∀ b ∈ L, H1 b = none) (rel1 : Rel K T π1 H1 hs1) : Rel K T π1 (backL H1 H L) hs1 := by
  have out : ∀ {b u}, H1 b = some u → backL H1 H L b = some u := fun {b u} q => by
    rw [back_out fun z => ?_]; exact q
    rw [n b z] at q; cases q
  refine ⟨rel1.len, rel1.nd, fun i o a h1 h2 => (rel1.obj i o a h1 h2).mono (back_keep n) (back_out fun z => rel1.there (List.mem_of_getElem? h2) (n a z)), rel1.tabs.ext fun b u q => out q, fun b hb => ?_⟩
  obtain ⟨m, vs, q⟩ := rel1.hidL b hb
  exact ⟨m, vs, out q⟩
theorem back_hok {h' : Heap} (n : ∀ b ∈ L, H1 b = none) (ok1 : HOk P w H1 h') (cs : ∀ b ∈ L, ∃ o, H b = some (CelO b o) ∧ h'.get? b = some o) : HOk P w (backL H1 H L) h' := fun a o e => by
  by_cases hL : a ∈ L
  · rw [back_in hL] at e
    obtain ⟨o', q, g⟩ := cs a hL
    rw [q] at e; cases e
    exact celO_ok g
  · rw [back_out hL] at e
    have out : ∀ {b u}, H1 b = some u → backL H1 H L b = some u := fun {b u} q => by
      rw [back_out fun z => ?_]; exact q
      rw [n b z] at q; cases q
    exact (ok1 a o e).stay (fun b u _ z => z) (fun b q => out q) fun b xs q => out q
/-- the cells of a function that is held, in the state -/
theorem cels_of {cl : List (Str × Addr)} {fr : List Str} {vs : List V} (hok : HOk P w H h) (c : CellsH H cl fr vs) : Cels H (cl.map (·.2)) h := fun b hb => by
  obtain ⟨p, hp, rfl⟩ := List.mem_map.mp hb
  obtain ⟨o, v, e, hd⟩ := c.all p hp
  exact ⟨o, v, e, (hok p.2 _ e).1, hd⟩
theorem cellsAt_of {cl : List (Str × Addr)} {fr : List Str} {vs : List V} (hok : HOk P w H h) (c : CellsH H cl fr vs) : NdefX.CellsAt cl fr (vs.map some) h (lessL H (cl.map (·.2))) := by
  refine ⟨by rw [List.length_map]; exact c.len, fun y a e => ?_, c.inj, fun i y e => ?_⟩
  · have hm : (y, a) ∈ cl := PySem.mem_of_lookup e
    obtain ⟨o, v, e1, hd⟩ := c.all _ hm
    exact ⟨less_in (List.mem_map_of_mem (f := (·.2)) hm), v, o, (hok a _ e1).1, hd⟩
  · obtain ⟨a, o, u, v, h1, h2, h3, h4, h5⟩ := c.has i y e
    refine ⟨a, h1, fun v' ev => ?_⟩
    rw [List.getElem?_map, h4] at ev
    have ev : v = v' := Option.some.inj (Option.some.inj ev)
    subst ev
    exact ⟨u, h5, o, (hok a _ h2).1, h3⟩
end
section
variable {X : Cx} {S : Sta} {κ : Kx} {k : Nat}
/-- the promise of the functions made within defs, and of the program's own -/
structure Fns (X : Cx) (S : Sta) (k : Nat) (fps : Nat → List Str) (F : Nat → List D → HS → R D) (Gf : Nat → List D → List D → HS → R D) : Prop where
  fn : ∀ i a, S.fad i = some a → ∃ fd, Fun0 X.K a fd (fps i) ∧ FnG X.prog X.w X.K X.mg X.base k a fd (fps i) (FunSp X.K S.noX (F i)) ∧ kwB (fps i) [] (fps i).length (List.range (fps i).length) = true ∧ ∀ ds h, F i ds h ≠ .bad → ds.length = (fps i).length
  cl : ∀ c C, S.cod c = some C → ClG X.prog X.w X.K X.mg X.base k C S.noX (Gf c)
theorem fr_cell {pins : List (Addr × Obj)} {σ : L2.St} {H : Hp} {s : Shared} (I : Inv X pins σ H s) {b : Addr} {o : Obj} (e : H b = some (CelO b o)) : b ∉ frs X.stack := fun z => by
  rw [I.stkFree b z] at e; cases e
/-- a call of a function that is held -/
theorem run_held {pins : List (Addr × Obj)} {σ : L2.St} {H : Hp} {s : Shared} {Q : VK} {E : XK} {C : CodeT} {f c' : Addr} {cl : List (Str × Addr)} {us : List Value} {vs ws : List V} {π : Pi} {hs : HS} {ds caps : List D} {Gc : List D → List D → HS → R D} (G : Good X S κ k)
    (Cg : ClG X.prog X.w X.K X.mg X.base k C S.noX Gc) (I : Inv X pins σ H s) (hf : H f = some (ClO f C cl c')) (hc : H c' = some (LamX.CodeO c' C.qual)) (ch : CellsH H cl C.fr ws) (rv : Vals vs us) (rel : Rel X.K S.T π H hs) (rd : RDs X.K π H ds vs) (rc : RDs X.K π H caps ws) (p : post X.K S π H Q E (Gc caps ds hs).nox) :
    wpAny (model X.prog X.w) X.A (call (.ref f) us) (EP X pins σ Q) X.xe s := by
  have cs := cels_of I.hok ch
  have kp := less_keep (π := π) cs
  have nf : ∀ {a : Addr} {φ : Heap → Prop}, H a = some (.ext φ) → (∀ o v, s.heap.get? a = some o → o.data = .cell v → False) → lessL H (cl.map (·.2)) a = some (.ext φ) := fun {a φ} e n => by
    rw [less_out fun z => ?_]; exact e
    obtain ⟨o, v, _, g1, g2⟩ := cs a z
    exact n o v g1 g2
  have e0 := I.env0
  have e1 : Env0 X.prog X.w X.K X.mg X.base X.A X.stack s (lessL H (cl.map (·.2))) := by
    have le : ∀ {b}, H b = none → lessL H (cl.map (·.2)) b = none := fun {b} e => by
      by_cases hb : b ∈ cl.map (·.2)
      · exact less_in hb
      · rw [less_out hb]; exact e
    exact ⟨e0.frames, e0.mod, fun b o q => ⟨(e0.bs b o q).1, le (e0.bs b o q).2⟩, e0.bsz, e0.funs, fun b q => le (e0.frf b q), less_hok I.hok cs, e0.bare⟩
  have pp : post X.K S.noX π (lessL H (cl.map (·.2))) (fun v H' => (∀ b ∈ cl.map (·.2), H' b = none) → Q v (backL H' H (cl.map (·.2)))) (fun _ _ _ => False) (Gc caps ds hs) := by
    cases hg : Gc caps ds hs with
    | bad => rw [hg] at p; exact p
    | exc c d h' => rw [hg] at p; exact p.elim
    | ok d h' =>
      rw [hg] at p
      intro π1 H1 v e rel1 r1 n
      exact p π1 _ v (back_ext cs n rel1 e) (back_rel n rel1) (r1.kept (back_keep n))
  refine wpAny_call (codeAny_mono (Cg.run X.A X.stack s _ f cl c' us vs ws π hs ds caps _ _ G.room G.gu e1 (nf hf fun o v g1 g2 => cel_ne_clo I.hok hf g1 g2) (nf hc fun o v g1 g2 => cel_ne_code I.hok hc g1 g2) (cellsAt_of I.hok ch) rv (less_rel I.hok cs rel) (rd.keptD kp) (rc.keptD kp) pp) fun res s' hq => ?_)
  cases res with
  | error e =>
    obtain ⟨a, B, H', cls, d, _, _, _, _, _, _, _, z⟩ := hq
    exact z.elim
  | ok fl =>
    cases fl with
    | ret u =>
      obtain ⟨v, H', os, bare, un, hok, rr, q⟩ := hq
      have n : ∀ b ∈ cl.map (·.2), H' b = none := fun b hb => by
        obtain ⟨o, w, _, g, _⟩ := cs b hb
        exact un.free b o g (less_in hb) (by simp)
      refine I.after ⟨v, backL H' H (cl.map (·.2)), os, bare, ?_, back_hok n hok fun b hb => ?_, rr, q n⟩
      · have le : ∀ {b}, H b = none → lessL H (cl.map (·.2)) b = none ∧ b ∉ cl.map (·.2) := fun {b} e => by
          have hb : b ∉ cl.map (·.2) := fun hb => by
            obtain ⟨o, w, q, _⟩ := cs b hb
            rw [e] at q; cases q
          exact ⟨by rw [less_out hb]; exact e, hb⟩
        have ne : ∀ {b u}, H b = some u → (∀ φ, u ≠ .ext φ) → b ∉ cl.map (·.2) := fun {b u} e n hb => by
          obtain ⟨o, w, q, _⟩ := cs b hb
          rw [e] at q; cases q
          exact n _ rfl
        refine ⟨fun b o g e hb hx => un.keep b o g (le e).1 hb hx, fun b o g e hb hx => un.slot b o g (le e).1 hb hx, fun b o g e hx => ?_, fun b o g hx => un.there b o g hx, fun b xs e => ?_, fun b o u e => ?_, fun b ps e => ?_⟩
        · rw [back_out (le e).2]; exact un.free b o g (le e).1 hx
        · have nb := ne e (fun φ z => by cases z)
          rw [back_out nb]; exact un.tups b xs (by rw [less_out nb]; exact e)
        · have nb := ne e (fun φ z => by cases z)
          rw [back_out nb]; exact un.frzs b o u (by rw [less_out nb]; exact e)
        · have nb := ne e (fun φ z => by cases z)
          obtain ⟨more, z⟩ := un.tbls b ps (by rw [less_out nb]; exact e)
          exact ⟨more, by rw [back_out nb]; exact z⟩
      · obtain ⟨o, w, e, g, _⟩ := cs b hb
        exact ⟨o, e, un.keep b o g (less_in hb) (fr_cell I e) (by simp)⟩
    | next => exact hq.elim
    | brk => exact hq.elim
    | cont => exact hq.elim
theorem fnAt_clo {pins : List (Addr × Obj)} {σ : L2.St} {H : Hp} {s : Shared} {f c' : Addr} {C : CodeT} {cl : List (Str × Addr)} (I : Inv X pins σ H s) (e : H f = some (ClO f C cl c')) : PySem.W.FnAt f s.heap := by
  obtain ⟨od, sl, doc, pm, ctv, ho⟩ := clo_at I.hok e
  exact ⟨_, od, _, sl, ho⟩
/-- x(e, ..), x a name that holds a function -/
theorem d_callV (G : Good X S κ k) {F : Nat → List D → HS → R D} {Gf : Nat → List D → List D → HS → R D} {fps : Nat → List Str} (fs : Fns X S k fps F Gf) {i : Nat} {x : Str} {p pos : Pos} {e : Expr} {es : List Expr} {m : Env → HS → R D} (hN : κ.N[i]? = some x) (hv : Vis κ.sc x) (hd : (x == ("__debug__" : Str)) = false) (hcd : (x == ("__classdict__" : Str)) = false)
    (ha : PA X (e :: es) (tDs X S m)) (he : starEach (e :: es) X.env = (false, eval e X.env) :: starEach es X.env) (hpl : (backTo pos (starEach es X.env)).any (·.1) = false) :
    PE X (.Call (.Name x p) (e :: es) [] pos) (tD X S fun ρ h => match getV ρ i with | some (.fn c caps) => (m ρ h).bind fun l h1 => (Gf c caps (its l) h1).nox | some (.gfn f) => (m ρ h).bind fun l h1 => F f (its l) h1 | _ => .bad) := by
  refine ⟨fun pins s σ H Q I ⟨π, ρ, hs, rel, sl, p'⟩ => ?_⟩
  dsimp only at p'
  have args : ∀ {kk : D → HS → R D}, post X.K S π H Q (fun c d H' => S.W c d σ H') ((m ρ hs).bind kk) → tDs X S m σ H fun vs H1 => ∃ π1 l hs1, Ext π H π1 H1 ∧ Rel X.K S.T π1 H1 hs1 ∧ RDs X.K π1 H1 (its l) vs ∧ post X.K S π1 H1 Q (fun c d H' => S.W c d σ H') (kk l hs1) := fun {kk} p => ⟨π, ρ, hs, rel, sl, by
    cases hm' : m ρ hs with
    | bad => rw [hm'] at p; exact p
    | exc c d hh => rw [hm'] at p; exact p
    | ok l hs1 =>
      rw [hm'] at p
      exact fun π1 H1 vs e1 rel1 r1 => ⟨π1, l, hs1, e1, rel1, r1, gp.mono e1 p⟩⟩
  split at p'
  · rename_i c caps hg
    obtain ⟨v, hv1, ro⟩ := sl.get hg
    have rf : RF X.K S π H (.fn c caps) v := by
      rcases ro with z | z | z
      · cases z
      · exact z
      · cases z
    cases rf with
    | @fn _ C f c' cl _ ws a1 a2 a3 a4 a5 =>
      refine wpAny_Call_Name_kw (thn ((pe_var (pos := p) (i := i) (by rw [G.nN]; exact hN) (by rw [G.sce]; exact hv) hd hcd).run pins s σ H (fun w H1 => w = .ref f ∧ H1 = H) I ⟨.ref f, hv1, rfl, rfl⟩) fun u s1 ⟨w, H1, I1, r1, e1, e2⟩ => ?_)
      subst e1; subst e2
      obtain rfl : u = Value.ref f := r1
      refine PySem.W.callWith_F (first := []) (fnAt_clo I1 a2) (thn (ha.run pos pins s1 σ _ _ I1 (args p')) fun us s2 ⟨vs, H2, I2, r, π1, l, hs1, ex, rel1, rd, p1⟩ => ⟨fnAt_clo I2 (ex.keeps.ext_keep rel a2), ?_⟩) he hpl
      show wpAny (model X.prog X.w) X.A (call (.ref f) us) _ _ _
      exact run_held G (fs.cl c C a1) I2 (ex.keeps.ext_keep rel a2) (ex.keeps.ext_keep rel a3) (a5.kept rel ex.keeps) r rel1 rd (a4.mono ex) p1
  · rename_i f hg
    obtain ⟨v, hv1, ro⟩ := sl.get hg
    have rf : RF X.K S π H (.gfn f) v := by
      rcases ro with z | z | z
      · cases z
      · exact z
      · cases z
    cases rf with
    | @gfn _ a ha' =>
      obtain ⟨fd, F0, Fn, hk, hlen⟩ := fs.fn f a ha'
      generalize fps f = ps at F0 Fn hk hlen
      refine wpAny_Call_Name_kw (thn ((pe_var (pos := p) (i := i) (by rw [G.nN]; exact hN) (by rw [G.sce]; exact hv) hd hcd).run pins s σ H (fun w H1 => w = .ref a ∧ H1 = H) I ⟨.ref a, hv1, rfl, rfl⟩) fun u s1 ⟨w, H1, I1, r1, e1, e2⟩ => ?_)
      subst e1; subst e2
      obtain rfl : u = Value.ref a := r1
      refine PySem.W.callWith_K (h₀ := X.base) I.ok.mod.kin F0.kp (thn (ha.run pos pins s1 σ _ _ I1 (args p')) fun us s2 ⟨vs, H2, I2, r, π1, l, hs1, ex, rel1, rd, p1⟩ => ⟨I2.kIn, ?_⟩) he hpl
      show wpAny (model X.prog X.w) X.A (call (.ref a) us) _ _ _
      have hl : us.length = ps.length := by
        rw [← r.length, ← rd.length]
        exact hlen _ hs1 (fun z => by rw [z] at p1; exact p1)
      have hbd := binds_of (X := X) (f := a) (us := us) (ws := []) (ks := []) (s := s2) F0 (by rw [hl]; exact hk) rfl
      rw [List.append_nil, ← hl, permV_range] at hbd
      exact run_d Fn G.room G.gu G.takes I2 hbd r (E := fun c d H' => S.W c d σ H') ⟨π1, hs1, _, rel1, .of rd, post_noX p1⟩ fun cls d H' h => h
  · exact p'.elim
end
end VE
set_option Elab.async false
set_option linter.all false
set_option maxRecDepth 100000
set_option maxHeartbeats 1000000
set_option autoImplicit false
/-! V19: functions as arguments -/
namespace VE
open PySem PySem.Spec PyProof.Rows L2
/-! ### the cells of the running frame, tracked for a call -/
section
variable {P : Program} {w : World} {K : PySem.W.Frag} {T : List NdefX.NTab} {π π1 : Pi} {H H1 : Hp} {L : List Addr} {h : Heap} {hs hs1 : HS}
theorem more_out0 (c : Cels0 H L h) {b : Addr} {u : HO} (e : H b = some u) : moreL H L h b = some u := by
  rw [more_out fun z => ?_]; exact e
  obtain ⟨o, v, q, _⟩ := c b z
  rw [e] at q; cases q
theorem more_keep (c : Cels0 H L h) : Keeps π H π (moreL H L h) := ⟨fun _ _ z => z, fun a o e hn _ => ⟨hn, more_out0 c e⟩, fun a o u e => more_out0 c e⟩
theorem more_rel (c : Cels0 H L h) (r : Rel K T π H hs) : Rel K T π (moreL H L h) hs := by
  refine ⟨r.len, r.nd, fun i o a h1 h2 => (r.obj i o a h1 h2).mono (more_keep c) ?_, r.tabs.ext fun b u q => more_out0 c q, fun b hb => ?_⟩
  · cases q : H a with
    | none => exact absurd q (r.there (List.mem_of_getElem? h2))
    | some u => exact more_out0 c q
  · obtain ⟨m, vs, q⟩ := r.hidL b hb
    exact ⟨m, vs, more_out0 c q⟩
theorem more_hok (hok : HOk P w H h) (c : Cels0 H L h) : HOk P w (moreL H L h) h := fun a o e => by
  by_cases hL : a ∈ L
  · rw [more_in hL] at e
    obtain ⟨o', v, _, g, _⟩ := c a hL
    rw [g] at e; cases e
    exact celO_ok g
  · rw [more_out hL] at e
    exact (hok a o e).stay (fun b u _ z => z) (fun b q => more_out0 c q) fun b xs q => more_out0 c q
theorem more_cel (c : Cels0 H L h) {b : Addr} (hb : b ∈ L) : ∃ o v, moreL H L h b = some (CelO b o) ∧ h.get? b = some o ∧ o.data = .cell v := by
  obtain ⟨o, v, _, g, d⟩ := c b hb
  exact ⟨o, v, by rw [more_in hb, g]; rfl, g, d⟩
/-- behind the call: the cells are as they were -/
theorem after_cel (c : Cels0 H L h) (r : Rel K T π H hs) (e : Ext π (moreL H L h) π1 H1) : ∀ b ∈ L, ∃ o v, H1 b = some (CelO b o) ∧ h.get? b = some o ∧ o.data = .cell v := fun b hb => by
  obtain ⟨o, v, e1, g, d⟩ := more_cel c hb
  refine ⟨o, v, e.keep b _ e1 (fun hp => ?_) (fun ps z => by cases z), g, d⟩
  obtain ⟨_, _, q, _⟩ := c b hb
  exact r.there hp q
theorem after_not (n : ∀ b ∈ L, ∃ o v, H1 b = some (CelO b o) ∧ h.get? b = some o ∧ o.data = .cell v) (rel1 : Rel K T π1 H1 hs1) {b : Addr} (hb : b ∈ π1.obj ∨ b ∈ π1.hid) : b ∉ L := fun z => by
  obtain ⟨o, v, q, _⟩ := n b z
  rcases hb with hb | hb
  · exact celo_kind rel1 q hb
  · obtain ⟨_, vs, e⟩ := rel1.hidL b hb
    rw [q] at e; cases e
theorem after_ext (c : Cels0 H L h) (r : Rel K T π H hs) (e : Ext π (moreL H L h) π1 H1) : Ext π H π1 (lessL H1 L) := by
  obtain ⟨m, m1, m2⟩ := e.pre
  refine ⟨⟨m, m1, fun a ha => ?_⟩, e.hid, fun a o q hn ht => ?_, fun a q => ?_, fun a o u q => ?_⟩
  · have z := m2 a ha
    by_cases hL : a ∈ L
    · obtain ⟨o, v, q, _⟩ := c a hL
      exact q
    · rw [more_out hL] at z; exact z
  · have hL : a ∉ L := fun hL => by
      obtain ⟨o', v, q', _⟩ := c a hL
      rw [q] at q'; cases q'
    rw [less_out hL]
    exact e.keep a o (more_out0 c q) hn ht
  · by_cases hL : a ∈ L
    · obtain ⟨o, v, q', _⟩ := c a hL
      exact q'
    · rw [less_out hL] at q
      have := e.there a q
      rw [more_out hL] at this; exact this
  · have hL : a ∉ L := fun hL => by
      obtain ⟨o', v, q', _⟩ := c a hL
      rw [q] at q'; cases q'
    rw [less_out hL]
    exact e.fz a o u (more_out0 c q)
theorem after_keep (n : ∀ b ∈ L, ∃ o v, H1 b = some (CelO b o) ∧ h.get? b = some o ∧ o.data = .cell v) : KeepD π1 H1 π1 (lessL H1 L) := ⟨fun _ _ z => z, fun a o e hn _ he => ⟨hn, by
  rw [less_out fun z => ?_]; exact e
  obtain ⟨o', v, e', _⟩ := n a z
  rw [e] at e'; cases e'
  exact he _ rfl⟩⟩
theorem after_rel (n : ∀ b ∈ L, ∃ o v, H1 b = some (CelO b o) ∧ h.get? b = some o ∧ o.data = .cell v) (rel1 : Rel K T π1 H1 hs1) : Rel K T π1 (lessL H1 L) hs1 := by
  refine ⟨rel1.len, rel1.nd, fun i o a h1 h2 => (rel1.obj i o a h1 h2).monoD (after_keep n) (less_out (after_not n rel1 (.inl (List.mem_of_getElem? h2)))), fun p hp => ?_, fun b hb => ?_⟩
  · obtain ⟨ps, e1, e2, e3⟩ := rel1.tabs p hp
    refine ⟨ps, ?_, e2, fun pos cv hc => ?_⟩
    · rw [less_out fun z => ?_]; exact e1
      obtain ⟨o, v, e, _⟩ := n _ z
      rw [e1] at e; cases e
    · obtain ⟨cc, e4, e5⟩ := e3 pos cv hc
      refine ⟨cc, e4, ?_⟩
      rw [less_out fun z => ?_]; exact e5
      obtain ⟨o, v, e, g1, g2⟩ := n _ z
      rw [e5] at e
      have e : LamX.CodeO cc (p.2 pos.line pos.col) = CelO cc o := Option.some.inj e
      have e : (fun h : Heap => ∃ (oc : Obj) (vs : Array Value) (t : Tok), h.get? cc = some oc ∧ oc.data = .fields vs ∧ vs[1]? = some (.str (p.2 pos.line pos.col) t)) = fun h : Heap => h.get? cc = some o := by
        unfold LamX.CodeO CelO at e
        exact HO.ext.inj e
      have e6 := congrFun e h
      have e7 : ∃ (oc : Obj) (vs : Array Value) (t : Tok), h.get? cc = some oc ∧ oc.data = .fields vs ∧ vs[1]? = some (.str (p.2 pos.line pos.col) t) := by rw [e6]; exact g1
      obtain ⟨oc, vs, t, f1, f2, _⟩ := e7
      rw [g1] at f1; cases f1
      rw [g2] at f2; cases f2
  · obtain ⟨m, vs, q⟩ := rel1.hidL b hb
    exact ⟨m, vs, by rw [less_out (after_not n rel1 (.inr hb))]; exact q⟩
end
/-! ### arguments -/
section
variable {X : Cx} {S : Sta} {κ : Kx} {k : Nat}
/-- a function made in the running frame; js: where the names that it captures stand -/
structure Own (X : Cx) (S : Sta) (σ : L2.St) (π : Pi) (H : Hp) (c : Nat) (caps : List D) (f : Addr) : Prop where
  ex : ∃ (C : CodeT) (c' : Addr) (vs : List V) (js : List Nat), S.cod c = some C ∧ H f = some (ClO f C (cloFrom X.env.cells C.scope.names []) c') ∧ H c' = some (LamX.CodeO c' C.qual) ∧ RDs X.K π H caps vs ∧ js.map (NdefX.slotAt σ) = vs.map some ∧
    (∀ y ∈ C.scope.names, y.2 = .free → X.env.scope.names.lookup y.1 = some .cell ∨ X.env.scope.names.lookup y.1 = some .free) ∧ (∀ y ∈ C.fr, (y, NameKind.free) ∈ C.scope.names) ∧ js.map (fun j => X.N[j]?) = C.fr.map some
inductive RW (X : Cx) (S : Sta) (σ : L2.St) (π : Pi) (H : Hp) : D → V → Prop
  | arg {d : D} {v : V} : RA X.K S π H d v → RW X S σ π H d v
  | own {c : Nat} {caps : List D} {f : Addr} : Own X S σ π H c caps f → RW X S σ π H (.fn c caps) (.ref f)
inductive RWs (X : Cx) (S : Sta) (σ : L2.St) (π : Pi) (H : Hp) : List D → List V → Prop
  | nil : RWs X S σ π H [] []
  | cons {d : D} {ds : List D} {v : V} {vs : List V} : RW X S σ π H d v → RWs X S σ π H ds vs → RWs X S σ π H (d :: ds) (v :: vs)
variable {π π1 : Pi} {H H1 : Hp} {hs : HS} {σ : L2.St}
theorem RW.mono (r : Rel X.K S.T π H hs) (e : Ext π H π1 H1) {d : D} {v : V} (h : RW X S σ π H d v) : RW X S σ π1 H1 d v := by
  cases h with
  | arg z => exact .arg (z.elim (fun z => .inl (z.mono e)) fun z => .inr (z.kept r e.keeps))
  | own z =>
    obtain ⟨C, c', vs, js, h1, h2, h3, h4, h5⟩ := z.ex
    exact .own ⟨C, c', vs, js, h1, e.keeps.ext_keep r h2, e.keeps.ext_keep r h3, h4.mono e, h5⟩
def tDw1 (X : Cx) (S : Sta) (m : Env → HS → R D) : TE := fun σ H Q => ∃ π ρ hs, Rel X.K S.T π H hs ∧ Slots X.K S π H ρ σ ∧ gp X.K S (fun π H d v => RW X S σ π H d v) π H Q (fun c d H' => S.W c d σ H') (m ρ hs)
def tDw (X : Cx) (S : Sta) (m : Env → HS → R D) : TA := fun σ H Q => ∃ π ρ hs, Rel X.K S.T π H hs ∧ Slots X.K S π H ρ σ ∧ gp X.K S (fun π H d vs => RWs X S σ π H (its d) vs) π H Q (fun c d H' => S.W c d σ H') (m ρ hs)
variable {e : Expr} {es : List Expr} {m ma mb : Env → HS → R D}
theorem dw_data (he : PE X e (tD X S m)) : PE X e (tDw1 X S m) := he.imp fun σ H Q ⟨π, ρ, hs, rel, sl, p⟩ => ⟨π, ρ, hs, rel, sl, by
  cases hm : m ρ hs with
  | bad => rw [hm] at p; exact p
  | exc c d h => rw [hm] at p; exact p
  | ok d h => rw [hm] at p; exact fun π1 H1 v e1 rel1 r1 => p π1 H1 v e1 rel1 (.arg (.inl r1))⟩
theorem dw_nil : PA X [] (tDw X S fun _ hs => .ok (.lst []) hs) := pa_nil.imp fun σ H Q ⟨π, ρ, hs, rel, sl, p⟩ => p π H [] (.refl _ _) rel .nil
theorem dw_cons {a : Expr} (ha : PE X a (tDw1 X S ma)) (hb : PA X es (tDw X S mb)) (hs : starEach (a :: es) X.env = (false, eval a X.env) :: starEach es X.env) :
    PA X (a :: es) (tDw X S fun ρ h => (ma ρ h).bind fun d h1 => (mb ρ h1).bind fun l h2 => .ok (.lst (d :: its l)) h2) := by
  refine (pa_cons ha hb hs).imp fun σ H Q ⟨π, ρ, hs, rel, sl, p⟩ => ⟨π, ρ, hs, rel, sl, gp_bind p fun x hs1 π1 H1 v e1 rel1 r1 p1 => ?_⟩
  refine ⟨π1, ρ, hs1, rel1, sl.mono rel e1, gp_bind p1 fun y hs2 π2 H2 w e2 rel2 r2 p2 => ?_⟩
  exact p2 π2 H2 _ (.refl _ _) rel2 (.cons (r1.mono rel1 e2) r2)
/-- the name of a function of the program -/
theorem dw_gfn {x : Str} {pos : Pos} {i : Nat} {a : Addr} (ha : S.fad i = some a) (hg : Gl X x) (hm : X.mg x = some (.ref a)) (hd : (x == ("__debug__" : Str)) = false) : PE X (.Name x pos) (tDw1 X S fun _ h => .ok (.gfn i) h) :=
  (pe_glob hg hm (v := .ref a) rfl hd).imp fun σ H Q ⟨π, ρ, hs, rel, sl, p⟩ => p π H _ (.refl _ _) rel (.arg (.inr (.gfn ha)))
/-- a name that holds a function, handed on -/
theorem dw_fnv (G : Good X S κ k) {i : Nat} {x : Str} {pos : Pos} (hN : κ.N[i]? = some x) (hv : Vis κ.sc x) (hd : (x == ("__debug__" : Str)) = false) (hcd : (x == ("__classdict__" : Str)) = false) :
    PE X (.Name x pos) (tDw1 X S fun ρ h => match getV ρ i with | some (.fn c caps) => .ok (.fn c caps) h | some (.gfn f) => .ok (.gfn f) h | _ => .bad) := by
  refine (pe_var (i := i) (by rw [G.nN]; exact hN) (by rw [G.sce]; exact hv) hd hcd).imp fun σ H Q ⟨π, ρ, hs, rel, sl, p⟩ => ?_
  dsimp only at p
  split at p
  · rename_i c caps hg
    obtain ⟨v, hv1, ro⟩ := sl.get hg
    refine ⟨v, hv1, p π H v (.refl _ _) rel (.arg (.inr ?_))⟩
    rcases ro with z | z | z
    · cases z
    · exact z
    · cases z
  · rename_i f hg
    obtain ⟨v, hv1, ro⟩ := sl.get hg
    refine ⟨v, hv1, p π H v (.refl _ _) rel (.arg (.inr ?_))⟩
    rcases ro with z | z | z
    · cases z
    · exact z
    · cases z
  · exact p.elim
theorem caps_of {ρ : Env} (sl : Slots X.K S π H ρ σ) : ∀ {js : List Nat} {caps : List D}, capsOf ρ js = some caps → caps.all (fun d => !isFn d) = true → ∃ vs, RDs X.K π H caps vs ∧ js.map (NdefX.slotAt σ) = vs.map some
  | [], _, h, _ => by cases h; exact ⟨[], .nil, rfl⟩
  | j :: js, caps, h, hn => by
    unfold capsOf at h
    cases h1 : getV ρ j with
    | none => rw [h1] at h; cases h
    | some d =>
      cases h2 : capsOf ρ js with
      | none => rw [h1, h2] at h; cases h
      | some ds =>
        rw [h1, h2] at h
        cases h
        rw [List.all_cons, Bool.and_eq_true] at hn
        obtain ⟨vs, r, e⟩ := caps_of sl h2 hn.2
        obtain ⟨v, hv, ro⟩ := sl.get h1
        refine ⟨v :: vs, .cons (ro.data (by simpa using hn.1)) r, ?_⟩
        rw [List.map_cons, List.map_cons, e, NdefX.slotAt_of hv]
/-- what the scopes of a function made here must say -/
def ownB (κ : Kx) (C : CodeT) (js : List Nat) : Bool := NdefX.ndefB κ.sc C.scope C.fr && decide (js.map (fun j => κ.N[j]?) = C.fr.map some)
/-- a def made in the running frame, handed on -/
theorem dw_ndv (G : Good X S κ k) {i c : Nat} {js : List Nat} {x : Str} {pos : Pos} {fr : List Str} (hfr : ∀ C, S.cod c = some C → C.fr = fr) (hB : js.map (fun j => κ.N[j]?) = fr.map some) (hN : κ.N[i]? = some x) (hv : Vis κ.sc x) (hd : (x == ("__debug__" : Str)) = false) (hcd : (x == ("__classdict__" : Str)) = false) :
    PE X (.Name x pos) (tDw1 X S fun ρ h => match getV ρ i, capsOf ρ js with | some (.ndf c'), some caps => if c = c' ∧ caps.all (fun d => !isFn d) = true then .ok (.fn c caps) h else .bad | _, _ => .bad) := by
  refine (pe_var (i := i) (by rw [G.nN]; exact hN) (by rw [G.sce]; exact hv) hd hcd).imp fun σ H Q ⟨π, ρ, hs, rel, sl, p⟩ => ?_
  dsimp only at p
  split at p
  · rename_i c' caps hg hc
    split at p
    · rename_i hh
      obtain ⟨rfl, hn⟩ := hh
      obtain ⟨v, hv1, ro⟩ := sl.get hg
      have rn : RN S H (.ndf c) v := by
        rcases ro with z | z | z
        · cases z
        · cases z
        · exact z
      cases rn with
      | @ndf _ C f c2 cells sc h0 hb h1 h2 h3 =>
        obtain ⟨ec, es⟩ := G.cel _ _ h0
        subst ec
        subst es
        obtain ⟨vs, r, ej⟩ := caps_of sl hc hn
        refine ⟨_, hv1, p π H _ (.refl _ _) rel (.own ⟨C, c2, vs, js, h1, h2, h3, r, ej, fun y hy e => ?_, NdefX.ndef_fr hb, ?_⟩)⟩
        · rw [G.sce]; exact NdefX.ndef_free hb y hy e
        · rw [G.nN, hfr C h1]; exact hB
    · exact p.elim
  · exact p.elim
/-! ### the call -/
def cellL (cells : List (Str × Addr)) : List Addr := cells.filterMap fun p => cells.lookup p.1
theorem cellL_mem {cells : List (Str × Addr)} {y : Str} {c : Addr} (h : cells.lookup y = some c) : c ∈ cellL cells := List.mem_filterMap.mpr ⟨(y, c), PySem.mem_of_lookup h, h⟩
theorem cells0 {pins : List (Addr × Obj)} {s : Shared} (I : Inv X pins σ H s) : Cels0 H (cellL X.env.cells) s.heap := fun b hb => by
  obtain ⟨p, _, e⟩ := List.mem_filterMap.mp hb
  obtain ⟨v, o, ho, hd⟩ := I.cell _ _ e
  exact ⟨o, v, I.freeC _ _ e, ho, hd⟩
theorem own_cells {pins : List (Addr × Obj)} {s : Shared} {C : CodeT} {js : List Nat} {vs : List V} (I : Inv X pins σ H s) (hfree : ∀ y ∈ C.scope.names, y.2 = .free → X.env.scope.names.lookup y.1 = some .cell ∨ X.env.scope.names.lookup y.1 = some .free) (hfr : ∀ y ∈ C.fr, (y, NameKind.free) ∈ C.scope.names)
    (hjs : js.map (fun j => X.N[j]?) = C.fr.map some) (ej : js.map (NdefX.slotAt σ) = vs.map some) : CellsH (moreL H (cellL X.env.cells) s.heap) (cloFrom X.env.cells C.scope.names []) C.fr vs := by
  have cp := NdefX.Caps.made (fr := C.fr) (js := js) I.ok hfree hfr hjs
  have at_ := NdefX.cells_of I cp
  rw [ej] at at_
  have hf : ∀ y ∈ C.scope.names, y.2 = .free → ∃ c, X.env.cells.lookup y.1 = some c := fun y hy e => (hfree y hy e).elim (fun z => I.ok.has _ (.inl z)) fun z => I.ok.has _ (.inr z)
  refine ⟨by have := at_.len; rw [List.length_map] at this; exact this, at_.inj, fun p hp => ?_, fun i y e => ?_⟩
  · rcases cloFrom_mem (n := p.1) (c := p.2) hp with z | ⟨z1, z2⟩
    · cases z
    · obtain ⟨c, hc⟩ := hf _ z1 rfl
      have hc : X.env.cells.lookup p.1 = some c := hc
      rw [hc] at z2
      have z2 : p.2 = c := z2
      rw [z2]
      obtain ⟨o, v, e, g, d⟩ := more_cel (cells0 I) (cellL_mem hc)
      exact ⟨o, v, e, d⟩
  · obtain ⟨a, h1, h2⟩ := at_.has i y e
    have hl := at_.len
    rw [List.length_map] at hl
    have hi : i < vs.length := by rw [hl]; exact (List.getElem?_eq_some_iff.mp e).1
    obtain ⟨u, ru, o, g, d⟩ := h2 vs[i] (by rw [List.getElem?_map, List.getElem?_eq_getElem hi]; rfl)
    obtain ⟨o', v', e', g', d'⟩ := more_cel (cells0 I) (cellL_mem (cp.sub y a h1))
    rw [g] at g'; cases g'
    exact ⟨a, o, u, vs[i], h1, e', d, List.getElem?_eq_getElem hi, ru⟩
theorem rws_ras {pins : List (Addr × Obj)} {s : Shared} (I : Inv X pins σ H s) (rel : Rel X.K S.T π H hs) : ∀ {ds : List D} {vs : List V}, RWs X S σ π H ds vs → RAs X.K S.noX π (moreL H (cellL X.env.cells) s.heap) ds vs
  | [], _, h => by cases h; exact .nil
  | d :: ds, _, h => by
    cases h with
    | cons h1 h2 =>
      refine .cons ?_ (rws_ras I rel h2)
      have mk : Keeps π H π (moreL H (cellL X.env.cells) s.heap) := more_keep (cells0 I)
      cases h1 with
      | arg z => exact z.elim (fun z => .inl (z.kept mk)) fun z => .inr (RF_noX (z.kept rel mk))
      | own z =>
        obtain ⟨C, c', ws, js, a1, a2, a3, a4, a5, a6, a7, a8⟩ := z.ex
        exact .inr (.fn a1 (mk.ext_keep rel a2) (mk.ext_keep rel a3) (a4.kept mk) (own_cells I a6 a7 a8 a5))
theorem RWs.length : ∀ {ds : List D} {vs : List V}, RWs X S σ π H ds vs → ds.length = vs.length
  | [], _, h => by cases h; rfl
  | d :: ds, _, h => by cases h with | cons h1 h2 => simp [RWs.length h2]
/-- f(.., g, ..): functions among the arguments -/
theorem d_callF (G : Good X S κ k) (hfn : κ.fn = fun _ => true) {F : List D → HS → R D} {f : Addr} {fd : FuncData} {ps : List Str} {x : Str} {p pos : Pos} (Fn : FnG X.prog X.w X.K X.mg X.base k f fd ps (FunSp X.K S.noX F)) (F0 : Fun0 X.K f fd ps) (hg : Gl X x) (hm : X.mg x = some (.ref f)) (hdb : (x == ("__debug__" : Str)) = false)
    (hk : kwB ps [] ps.length (List.range ps.length) = true) (hlen : ∀ ds h, F ds h ≠ .bad → ds.length = ps.length) (ha : PA X (e :: es) (tDw X S m)) (he : starEach (e :: es) X.env = (false, eval e X.env) :: starEach es X.env) (hpl : (backTo pos (starEach es X.env)).any (·.1) = false) :
    PE X (.Call (.Name x p) (e :: es) [] pos) (tD X S fun ρ h => (m ρ h).bind fun l h1 => (F (its l) h1).nox) := by
  refine ⟨fun pins s σ H Q I ⟨π, ρ, hs, rel, sl, p'⟩ => ?_⟩
  dsimp only at p'
  have args : tDw X S m σ H fun vs H1 => ∃ π1 l hs1, Ext π H π1 H1 ∧ Rel X.K S.T π1 H1 hs1 ∧ RWs X S σ π1 H1 (its l) vs ∧ post X.K S π1 H1 Q (fun c d H' => S.W c d σ H') (F (its l) hs1).nox := ⟨π, ρ, hs, rel, sl, by
    cases hm' : m ρ hs with
    | bad => rw [hm'] at p'; exact p'
    | exc c d hh => rw [hm'] at p'; exact p'
    | ok l hs1 =>
      rw [hm'] at p'
      exact fun π1 H1 vs e1 rel1 r1 => ⟨π1, l, hs1, e1, rel1, r1, gp.mono e1 p'⟩⟩
  refine wpAny_Call_Name_kw (ld_glob I hg hm ?_ hdb)
  refine PySem.W.callWith_K (h₀ := X.base) I.ok.mod.kin F0.kp (thn (ha.run pos pins s σ H _ I args) fun us s2 ⟨vs, H2, I2, r, π1, l, hs1, ex, rel1, rd, p1⟩ => ⟨I2.kIn, ?_⟩) he hpl
  show wpAny (model X.prog X.w) X.A (call (.ref f) us) _ _ _
  have hl : us.length = ps.length := by
    rw [← r.length, ← rd.length]
    exact hlen _ hs1 (fun z => by rw [z] at p1; exact p1)
  have hbd := binds_of (X := X) (f := f) (us := us) (ws := []) (ks := []) (s := s2) F0 (by rw [hl]; exact hk) rfl
  rw [List.append_nil, ← hl, permV_range] at hbd
  have c0 := cells0 I2
  generalize hL : cellL X.env.cells = L at c0
  have e0 := I2.env0
  have old : ∀ {b}, (b ∈ frs X.stack ∨ ∃ o, X.base.get? b = some o) → b ∉ L := fun {b} hb z => by
    rw [← hL] at z
    obtain ⟨q, _, eq⟩ := List.mem_filterMap.mp z
    have hc := I2.ok.cab q.1 b (by rw [G.fn, hfn]) eq
    obtain ⟨v, o, ho, hd⟩ := I2.cell _ _ eq
    rcases hb with hb | ⟨o', ho'⟩
    · rcases List.mem_cons.mp (I2.stkSub b hb) with z | z
      · obtain ⟨mm, ⟨ob, es, ep, g1, g2, g3⟩, _⟩ := I2.loc
        rw [← z, ho] at g1; cases g1
        rw [hd] at g2; cases g2
      · obtain ⟨_, ob, g, _⟩ := I2.ok.funs.mem z
        exact absurd (Nat.lt_of_lt_of_le (Heap.lt_size g) hc) (Nat.lt_irrefl _)
    · have := (I2.ok.bs b o' ho').1
      exact absurd (Nat.lt_of_lt_of_le (Heap.lt_size this) hc) (Nat.lt_irrefl _)
  have e1 : Env0 X.prog X.w X.K X.mg X.base X.A X.stack s2 (moreL H2 L s2.heap) :=
    ⟨e0.frames, e0.mod, fun b o q => ⟨(e0.bs b o q).1, by rw [more_out (old (.inr ⟨o, q⟩))]; exact (e0.bs b o q).2⟩, e0.bsz, e0.funs, fun b q => by rw [more_out (old (.inl q))]; exact e0.frf b q, more_hok I2.hok c0, e0.bare⟩
  have pp : post X.K S.noX π1 (moreL H2 L s2.heap) (fun v H' => (∀ b ∈ L, ∃ o v, H' b = some (CelO b o) ∧ s2.heap.get? b = some o ∧ o.data = .cell v) ∧ Q v (lessL H' L)) (fun _ _ _ => False) (F (its l) hs1) := by
    cases hg : F (its l) hs1 with
    | bad => rw [hg] at p1; exact p1
    | exc c d h' => rw [hg] at p1; exact p1.elim
    | ok d h' =>
      rw [hg] at p1
      intro π3 H3 v e3 rel3 r3
      have n := after_cel c0 rel1 e3
      exact ⟨n, p1 π3 _ v (after_ext c0 rel1 e3) (after_rel n rel3) (r3.keptD (after_keep n))⟩
  have ras := rws_ras I2 rel1 rd
  rw [hL] at ras
  refine wpAny_call (codeAny_mono (Fn.run X.A X.stack s2 _ ⟨us, []⟩ us vs _ _ G.room G.gu e1 hbd r ⟨π1, hs1, _, more_rel c0 rel1, ras, pp⟩) fun res s' hq => ?_)
  cases res with
  | error e =>
    obtain ⟨a, B, H', cls, d, _, _, _, _, _, _, _, z⟩ := hq
    exact z.elim
  | ok fl =>
    cases fl with
    | ret u =>
      obtain ⟨v, H', os, bare, un, hok, rr, n, q⟩ := hq
      have cs : Cels H' L s'.heap := fun b hb => by
        obtain ⟨o, w, e, g, d⟩ := n b hb
        exact ⟨o, w, e, (hok b _ e).1, d⟩
      refine I2.after ⟨v, lessL H' L, os, bare, ?_, less_hok hok cs, rr, q⟩
      have nb : ∀ {b u}, H2 b = some u → b ∉ L := fun {b u} e hb => by
        obtain ⟨o, w, q, _⟩ := c0 b hb
        rw [e] at q; cases q
      refine ⟨fun b o g e hb hx => ?_, fun b o g e hb hx => ?_, fun b o g e hx => ?_, fun b o g hx => un.there b o g hx, fun b xs e => ?_, fun b o u e => ?_, fun b qs e => ?_⟩
      · by_cases hL' : b ∈ L
        · obtain ⟨o', w, _, g1, _⟩ := n b hL'
          obtain ⟨o2, w2, _, g2, _⟩ := cs b hL'
          rw [g] at g1; cases g1
          obtain ⟨o3, w3, e3, g3, _⟩ := n b hL'
          rw [g] at g3; cases g3
          exact (hok b _ e3).1
        · exact un.keep b o g (by rw [more_out hL']; exact e) hb hx
      · exact un.slot b o g (by rw [more_out (old (.inl hb))]; exact e) hb hx
      · by_cases hL' : b ∈ L
        · exact less_in hL'
        · rw [less_out hL']; exact un.free b o g (by rw [more_out hL']; exact e) hx
      · rw [less_out (nb e)]; exact un.tups b xs (more_out0 c0 e)
      · rw [less_out (nb e)]; exact un.frzs b o u (more_out0 c0 e)
      · obtain ⟨more, z⟩ := un.tbls b qs (more_out0 c0 e)
        exact ⟨more, by rw [less_out (nb e)]; exact z⟩
    | next => exact hq.elim
    | brk => exact hq.elim
    | cont => exact hq.elim
end
end VE
set_option Elab.async false
set_option linter.all false
set_option maxRecDepth 100000
set_option maxHeartbeats 1000000
set_option autoImplicit false
/-! V20: functions made within defs -/
namespace VE
open PySem PySem.Spec PyProof.Rows L2
/-- plain parameters: no defaults, no annotations -/
def bareB (p : Arguments) : Bool := plainB p && p.defaults.isEmpty && p.kw_defaults.isEmpty && p.args.all fun a => a.annotation.isNone
theorem ann_nil {env : PySem.Env} : ∀ {l : List Arg}, (l.all fun a => a.annotation.isNone) = true → annotationsOf l env = []
  | [], _ => rfl
  | ⟨n, some a, p⟩ :: l, h => by simp at h
  | ⟨n, none, p⟩ :: l, h => by
    have h : (l.all fun a => a.annotation.isNone) = true := by simpa using h
    show annotationsOf l env = []
    exact ann_nil h
theorem bare_of {p : Arguments} (h : bareB p = true) : p.defaults = [] ∧ p.kw_defaults = [] ∧ ∀ env, annTrees p none env = [] := by
  obtain ⟨po, a, va, ko, kd, kwa, d⟩ := p
  unfold bareB plainB at h
  simp only [Bool.and_eq_true, List.isEmpty_iff, Option.isNone_iff_eq_none] at h
  obtain ⟨⟨⟨⟨⟨⟨h1, h2⟩, h3⟩, h4⟩, h5⟩, h6⟩, h7⟩ := h
  subst h1 h2 h3 h4 h5 h6
  refine ⟨rfl, rfl, fun env => ?_⟩
  show annotationsOf (a ++ [] ++ [] ++ [] ++ []) env ++ [] = []
  rw [List.append_nil, List.append_nil, List.append_nil, List.append_nil, List.append_nil]
  exact ann_nil h7
theorem extN_ext {K : PySem.W.Frag} {T : List NdefX.NTab} {π : Pi} {H H1 : Hp} {hs : HS} (e : LamX.ExtN H H1) (n : ∀ b, H1 b = none → H b = none) (t : NdefX.TabsN T H1) (r : Rel K T π H hs) : Ext π H π H1 ∧ Rel K T π H1 hs := by
  have ex : Ext π H π H1 := ⟨⟨[], by simp, by simp⟩, rfl, fun a o h _ ht => e a o h ht, n, fun a o u h => e a _ h (fun ps z => by cases z)⟩
  refine ⟨ex, r.len, r.nd, fun i o a h1 h2 => (r.obj i o a h1 h2).mono ex.keeps ?_, t, fun b hb => ?_⟩
  · obtain ⟨u, q, k⟩ := r.kind (List.mem_of_getElem? h2)
    rw [q]; exact e _ _ q (fun ps z => by subst z; cases k)
  · obtain ⟨m, vs, q⟩ := r.hidL b hb
    exact ⟨m, vs, e _ _ q (fun ps z => by cases z)⟩
section
variable {X : Cx} {S : Sta} {κ : Kx} {k : Nat} {pins : List (Addr × Obj)} {σ : L2.St} {H : Hp} {s : Shared}
theorem inv_clo {C : CodeT} {cl : List (Str × Addr)} {c' : Addr} {t' : Nat} {doc pm ctv : Value} (I : Inv X pins σ H s) :
    Inv X pins σ (upd H s.heap.objs.size (ClO s.heap.objs.size C cl c')) { s with heap := s.heap.push { cls := .type "function", data := .func (C.fd cl c' doc pm ctv) }, toks := t' } := by
  have e : (s.heap.push ({ cls := .type "function", data := .func (C.fd cl c' doc pm ctv) } : Obj)).get? s.heap.objs.size = some ({ cls := .type "function", data := .func (C.fd cl c' doc pm ctv) } : Obj) := Heap.get?_push_size _ rfl
  exact I.laid (a := s.heap.objs.size) (fun b u z => Heap.get?_push_of_some _ z) (Nat.le_refl _) ⟨⟨_, _, doc, pm, ctv, e⟩, ⟨_, e⟩, fun h1 h2 ⟨od, sl, d, p, t, z⟩ st => ⟨od, sl, d, p, t, st _ z⟩⟩
theorem clo_ne {f : Addr} {C : CodeT} {cl : List (Str × Addr)} {c' : Addr} (ps : Array Value) : ClO f C cl c' ≠ .tbl ps := fun z => by
  unfold ClO at z
  cases z
/-- a lambda is made -/
theorem lam_made {T : List NdefX.NTab} {nm : Nat → Nat → Str} {c P : Addr} {C : CodeT} {body : Expr} {pos : Pos} {E : Value → Shared → Prop} {Q : Value → Shared → Prop} (I : Inv X pins σ H s) (TB : LamX.TabB X.base X.mg c P) (hcode : X.env.code = .ref c) (hm : (P, nm) ∈ T)
    (hn : nm pos.line pos.col = X.env.qual ++ "<lambda>") (hu : ∀ p ∈ T, p.1 = P → p.2 = nm) (hT : NdefX.TabsN T H) (hC1 : C.name = "<lambda>") (hC2 : C.qual = X.env.qual ++ "<lambda>") (hC3 : C.body = .expr body) (hb : bareB C.params = true)
    (hfree : ∀ y ∈ C.scope.names, y.2 = .free → ∃ c, X.env.cells.lookup y.1 = some c)
    (h : ∀ (f c' : Addr) (H1 : Hp) (s' : Shared), Inv X pins σ H1 s' → LamX.ExtN H H1 → (∀ b, H1 b = none → H b = none) → NdefX.TabsN T H1 → H1 f = some (ClO f C (cloFrom X.env.cells C.scope.names []) c') → H1 c' = some (LamX.CodeO c' C.qual) → Q (.ref f) s') :
    wpAny (model X.prog X.w) X.A (eval (.Lambda C.params body C.scope pos) X.env) Q E s := by
  obtain ⟨b1, b2, _⟩ := bare_of hb
  have hdef : defaultsOf C.params X.env = ([], []) := by
    obtain ⟨name, qual, ⟨po, a, va, ko, kd, kwa, d⟩, bd, sc, fr⟩ := C
    subst b1 b2
    rfl
  obtain ⟨ps, hP, ht, ha⟩ := (show NdefX.TabN H P nm from hT _ hm)
  have bP : s.heap.BuiltinsAt X.mg P := TB.bm.keeps I.bk
  have hP' : s.heap.get? P = some { cls := .none, data := .fields ps } := I.hok P _ hP
  have objEq : ∀ (c' : Addr) (pm ctv : Value), PySem.W.kla_obj "<lambda>" (X.env.qual ++ "<lambda>") C.params body C.scope (cloFrom X.env.cells C.scope.names []) pm c' ctv = { cls := .type "function", data := .func (C.fd (cloFrom X.env.cells C.scope.names []) c' .none pm ctv) } := fun c' pm ctv => by
    obtain ⟨name, qual, params, bd, sc, fr⟩ := C
    subst hC1 hC2 hC3
    rfl
  refine PySem.W.kla_eval hdef ?_
  cases hc : codeAmong pos ps.toList with
  | none =>
    refine PySem.W.kla_makeFunction (mg := X.mg) (c := c) (P := P) (ps := ps) (closure_ok hfree) I.ok.glob (I.mod.glob.keeps I.bk) hcode (TB.code.keeps I.bk) hP' ht hc TB.gP bP fun c' ctv h' tk hx hge hlt hrec htb => ?_
    obtain ⟨c2, oc, vs, t, e2, hoc, hd, hv⟩ := hrec
    cases e2
    have nC : H c' = none := I.hok.fresh hge
    have I1 := LamX.inv_table (t' := tk) (more := #[rawInt pos.line, rawInt pos.col, .ref c']) (h' := h') I hP (fun b o hb e => hx b o hb e) htb hge ⟨oc, vs, t, hoc, hd, hv⟩
    rw [← hC2] at I1
    have grow : LamX.ExtN H (upd (upd H P (.tbl (ps ++ #[rawInt pos.line, rawInt pos.col, .ref c']))) c' (LamX.CodeO c' C.qual)) := fun b o e n => by
      rw [upd_ne (ne_of_none e nC), upd_ne (fun z => n ps (Option.some.inj (e.symm.trans (by rw [z]; exact hP))))]
      exact e
    have eL : (ps ++ #[rawInt pos.line, rawInt pos.col, .ref c']).toList = ps.toList ++ [rawInt pos.line, rawInt pos.col, .ref c'] := by simp
    have T1 : NdefX.TabsN T (upd (upd H P (.tbl (ps ++ #[rawInt pos.line, rawInt pos.col, .ref c']))) c' (LamX.CodeO c' C.qual)) := fun p hp => by
      by_cases hq : p.1 = P
      · rw [hu p hp hq, hq]
        refine ⟨_, by rw [upd_ne (ne_of_none hP nC), upd_same], by rw [eL]; exact PySem.TriplesOk_snoc _ _ _ _ ht, fun p' cv hcv => ?_⟩
        rw [eL] at hcv
        rcases NdefX.among_app2 _ ht hcv with z | ⟨z, z1, z2⟩
        · obtain ⟨c0, e1, e2⟩ := ha p' cv z
          exact ⟨c0, e1, grow _ _ e2 LamX.codeO_ne⟩
        · exact ⟨c', z, by rw [← z1, ← z2, hn, ← hC2]; exact upd_same⟩
      · obtain ⟨ps', a1, a2, a3⟩ := hT p hp
        refine ⟨ps', by rw [upd_ne (ne_of_none a1 nC), upd_ne hq]; exact a1, a2, fun p' cv hcv => ?_⟩
        obtain ⟨c0, e1, e2⟩ := a3 p' cv hcv
        exact ⟨c0, e1, grow _ _ e2 LamX.codeO_ne⟩
    have nF := I1.hok.fresh (Nat.le_refl _)
    have I2 := inv_clo (C := C) (cl := cloFrom X.env.cells C.scope.names []) (c' := c') (t' := tk) (doc := .none) (pm := (X.mg "__name__").getD .none) (ctv := ctv) I1
    rw [objEq]
    refine h h'.objs.size c' _ _ I2 (fun b o e n => ?_) (fun b e => NdefX.upd_none (NdefX.upd_none (NdefX.upd_none e))) (T1.ext fun b o e => ?_) upd_same ?_
    · have e1 := grow b o e n
      exact (upd_ne (ne_of_none e1 nF)).trans e1
    · exact (upd_ne (ne_of_none e nF)).trans e
    · exact (upd_ne (Nat.ne_of_lt hlt)).trans upd_same
  | some cv =>
    obtain ⟨c', e, hco⟩ := ha pos cv hc
    subst e
    rw [hn, ← hC2] at hco
    refine PySem.W.kla_makeFunctionHit (mg := X.mg) (c := c) (P := P) (ps := ps) (closure_ok hfree) I.ok.glob (I.mod.glob.keeps I.bk) hcode (TB.code.keeps I.bk) hP' ht hc bP fun ctv h' tk hx hsz => ?_
    have I1 : Inv X pins σ H { s with heap := h', toks := tk } := I.kept hx
    have nF : H h'.objs.size = none := I1.hok.fresh (Nat.le_refl _)
    have I2 := inv_clo (C := C) (cl := cloFrom X.env.cells C.scope.names []) (c' := c') (t' := tk) (doc := .none) (pm := (X.mg "__name__").getD .none) (ctv := ctv) I1
    have oe := objEq c' ((X.mg "__name__").getD .none) ctv
    unfold PySem.W.kla_obj at oe
    rw [oe]
    refine h h'.objs.size c' _ _ I2 (fun b o e n => (upd_ne (ne_of_none e nF)).trans e) (fun b e => NdefX.upd_none e) (hT.ext fun b o e => (upd_ne (ne_of_none e nF)).trans e) upd_same ((upd_ne (ne_of_none hco nF)).trans hco)
/-- what stands at a lambda, at a def within a def -/
def lamB (κ : Kx) (C : CodeT) (js : List Nat) (pos : Pos) : Bool := match κ.code with
  | some nm => ownB κ C js && bareB C.params && decide (C.name = "<lambda>") && decide (C.qual = κ.qual ++ "<lambda>") && decide (nm pos.line pos.col = κ.qual ++ "<lambda>")
  | none => false
theorem dw_lam (G : Good X S κ k) {c : Nat} {js : List Nat} {C : CodeT} {body : Expr} {pos : Pos} (hC : S.cod c = some C) (hB : lamB κ C js pos = true) (hbody : C.body = .expr body) :
    PE X (.Lambda C.params body C.scope pos) (tDw1 X S fun ρ h => match capsOf ρ js with | some caps => if caps.all (fun d => !isFn d) = true then .ok (.fn c caps) h else .bad | none => .bad) := by
  unfold lamB at hB
  cases hcd : κ.code with
  | none => rw [hcd] at hB; cases hB
  | some nm =>
    rw [hcd] at hB
    simp only [Bool.and_eq_true, decide_eq_true_eq] at hB
    obtain ⟨⟨⟨⟨h1, h2⟩, h3⟩, h4⟩, h5⟩ := hB
    obtain ⟨ca, P, t1, t2, t3, t4⟩ := G.tab _ hcd
    unfold ownB at h1
    rw [Bool.and_eq_true, decide_eq_true_eq] at h1
    have hfr : ∀ y ∈ C.scope.names, y.2 = .free → X.env.scope.names.lookup y.1 = some .cell ∨ X.env.scope.names.lookup y.1 = some .free := fun y hy e => by
      rw [G.sce]; exact NdefX.ndef_free h1.1 y hy e
    refine ⟨fun pins s σ H Q I ⟨π, ρ, hs, rel, sl, p⟩ => ?_⟩
    dsimp only at p
    split at p
    · rename_i caps hcaps
      split at p
      · rename_i hn
        obtain ⟨vs, r, ej⟩ := caps_of sl hcaps hn
        refine lam_made (T := S.T) (C := C) I t2 t1 t3 (by rw [h5, G.qual]) t4 rel.tabs h3 (by rw [h4, G.qual]) hbody h2 (fun y hy e => (hfr y hy e).elim (fun z => I.ok.has _ (.inl z)) fun z => I.ok.has _ (.inr z)) fun f c' H1 s' I1 eN nn T1 f1 c1 => ?_
        obtain ⟨ex, rel1⟩ := extN_ext eN nn T1 rel
        exact ⟨.ref f, H1, I1, rfl, p π H1 _ ex rel1 (.own ⟨C, c', vs, js, hC, f1, c1, r.mono ex, ej, hfr, NdefX.ndef_fr h1.1, by rw [G.nN]; exact h1.2⟩)⟩
      · exact p.elim
    · exact p.elim
def ndfB (κ : Kx) (C : CodeT) (name : Str) (pos : Pos) : Bool := match κ.code with
  | some nm => (NdefX.ndefB κ.sc C.scope C.fr) && bareB C.params && decide (C.name = name) && decide (C.qual = κ.qual ++ name) && decide (nm pos.line pos.col = κ.qual ++ name)
  | none => false
theorem nf_clo {f : Addr} {C : CodeT} {cl : List (Str × Addr)} {c' : Addr} {name : Str} {body : List Stmt} (h1 : C.name = name) (h2 : C.body = .stmts body) : NdefX.FnO f ⟨name, C.qual, C.params, body, C.scope, cl, c'⟩ = ClO f C cl c' := by
  obtain ⟨n, qual, params, bd, sc, fr⟩ := C
  have h1 : n = name := h1
  have h2 : bd = .stmts body := h2
  subst h1 h2
  rfl
theorem ds_ndf (G : Good X S κ k) {i c : Nat} {C : CodeT} {body : List Stmt} {name : Str} {pos : Pos} (hC : S.cod c = some C) (hB : ndfB κ C name pos = true) (hbody : C.body = .stmts body) (hcel : S.cel = some (X.env.cells, κ.sc)) (hi : κ.N[i]? = some name) (hx : Loc κ.sc name) (hf : κ.fn name = true ∨ κ.sc.names.lookup name = some .local) :
    PS X (.FunctionDef name C.params body [] none [] C.scope none name pos) (tSD X S fun ρ h => .nx (ρ.set i (some (.ndf c))) h) := by
  unfold ndfB at hB
  cases hcd : κ.code with
  | none => rw [hcd] at hB; cases hB
  | some nm =>
    rw [hcd] at hB
    simp only [Bool.and_eq_true, decide_eq_true_eq] at hB
    obtain ⟨⟨⟨⟨h1, h2⟩, h3⟩, h4⟩, h5⟩ := hB
    obtain ⟨ca, P, t1, t2, t3, t4⟩ := G.tab _ hcd
    obtain ⟨b1, b2, b3⟩ := bare_of h2
    refine (NdefX.ps_ndefM (T := S.T) (nm := nm) (c := ca) (P := P) (i := i) t2 t1 t3 (by rw [h5, G.qual]) t4 (fun y hy e => by rw [G.sce]; exact NdefX.ndef_free h1 y hy e) b1 b2 (b3 _) (by rw [G.nN]; exact G.nd) (by rw [G.nN]; exact hi) (by rw [G.sce]; exact hx) (by rw [G.fn, G.sce]; exact hf)).imp fun E σ H ⟨π, ρ, hs, rel, sl, p⟩ => ⟨rel.tabs, fun f c' H1 eN nn T1 _ f1 c1 => ?_⟩
    obtain ⟨ex, rel1⟩ := extN_ext eN nn T1 rel
    refine p π H1 _ ex rel1 ((sl.mono rel ex).setO (.inr (.inr (.ndf hcel h1 hC (c' := c') ?_ ?_))))
    · rw [f1, G.qual, ← h4]
      exact congrArg some (nf_clo h3 hbody)
    · rw [h4, ← G.qual]
      exact c1
end
end VE
set_option Elab.async false
set_option linter.all false
set_option maxRecDepth 100000
set_option maxHeartbeats 1000000
set_option autoImplicit false
/-! W1: dicts -/
namespace VE
open PySem PySem.Spec PyProof.Rows L2
/-! ### what is held at a key -/
section
variable {κ : Type} [DecidableEq κ] {P : D → V → Prop}
abbrev DK (P : D → V → Prop) : List (κ × D) → List (κ × V) → Prop := Paired fun p q => p.1 = q.1 ∧ P p.2 q.2
theorem dk_get : ∀ {kvs : List (κ × D)} {ws : List (κ × V)} (k : κ), DK P kvs ws → (∃ d v, getK kvs k = some d ∧ valV ws k = some v ∧ P d v) ∨ (getK kvs k = none ∧ valV ws k = none)
  | _, _, k, .nil => .inr ⟨rfl, rfl⟩
  | _, _, k, @Paired.cons _ _ _ p q ps qs h t => by
    by_cases e : p.1 = k
    · exact .inl ⟨p.2, q.2, by simp [getK, List.find?_cons, e], valV_pos (by rw [← h.1]; exact e), h.2⟩
    · have e' : ¬ q.1 = k := by rw [← h.1]; exact e
      have g : getK (p :: ps) k = getK ps k := by simp [getK, List.find?_cons, e]
      rw [g, valV_neg e']
      exact dk_get k t
theorem dk_any : ∀ {kvs : List (κ × D)} {ws : List (κ × V)} (k : κ), DK P kvs ws → (kvs.any fun p => decide (p.1 = k)) = (ws.any fun p => decide (p.1 = k))
  | _, _, k, .nil => rfl
  | _, _, k, @Paired.cons _ _ _ p q ps qs h t => by rw [List.any_cons, List.any_cons, dk_any k t, h.1]
theorem dk_map {kvs : List (κ × D)} {ws : List (κ × V)} {k : κ} {d : D} {v : V} (r : P d v) (h : DK P kvs ws) : DK P (kvs.map fun p => if p.1 = k then (p.1, d) else p) (ws.map fun p => if p.1 = k then (p.1, v) else p) := by
  induction h with
  | nil => exact .nil
  | @cons p q ps qs h t ih =>
    refine .cons ?_ ih
    show (if p.1 = k then (p.1, d) else p).1 = (if q.1 = k then (q.1, v) else q).1 ∧ P (if p.1 = k then (p.1, d) else p).2 (if q.1 = k then (q.1, v) else q).2
    by_cases e : p.1 = k
    · have e' : q.1 = k := by rw [← h.1]; exact e
      rw [if_pos e, if_pos e']; exact ⟨h.1, r⟩
    · have e' : ¬ q.1 = k := by rw [← h.1]; exact e
      rw [if_neg e, if_neg e']; exact h
theorem dk_snoc {kvs : List (κ × D)} {ws : List (κ × V)} {k : κ} {d : D} {v : V} (r : P d v) (h : DK P kvs ws) : DK P (kvs ++ [(k, d)]) (ws ++ [(k, v)]) := by
  induction h with
  | nil => exact .cons ⟨rfl, r⟩ .nil
  | cons h t ih => exact .cons h ih
theorem dk_put {kvs : List (κ × D)} {ws : List (κ × V)} {k : κ} {d : D} {v : V} (r : P d v) (h : DK P kvs ws) : DK P (putD kvs k d) (putK ws k v) := by
  unfold putD putK
  rw [dk_any k h]
  split
  · exact dk_map r h
  · exact dk_snoc r h
theorem dk_imp {P' : D → V → Prop} {kvs : List (κ × D)} {ws : List (κ × V)} (i : ∀ d v, P d v → P' d v) (h : DK P kvs ws) : DK P' kvs ws := Paired.mapP h fun _ _ q => ⟨q.1, i _ _ q.2⟩
end
section
variable {K : PySem.W.Frag} {π : Pi} {H : Hp}
theorem keyD_rd (k : Key) : RD K π H (keyD k) (kV k) := by
  cases k with
  | inl i => exact .int i
  | inr x => exact .str x
theorem keysD_rd : ∀ ks : List Key, RDs K π H (ks.map keyD) (ks.map kV)
  | [] => .nil
  | k :: ks => .cons (keyD_rd k) (keysD_rd ks)
theorem keyOf_rd {d : D} {v : V} {k : Key} (r : RD K π H d v) (h : keyOf d = some k) : v = kV k := by
  cases r <;> cases h <;> rfl
theorem keysOf_rd : ∀ {ds : List D} {vs : List V} {ks : List Key}, RDs K π H ds vs → keysOf ds = some ks → vs = ks.map kV
  | [], _, _, r, h => by cases r; cases h; rfl
  | d :: ds, _, ks, r, h => by
    cases r with
    | cons h1 h2 =>
      unfold keysOf at h
      cases hk : keyOf d with
      | none => rw [hk] at h; cases h
      | some k =>
        rw [hk] at h
        cases hks : keysOf ds with
        | none => rw [hks] at h; cases h
        | some ks' =>
          rw [hks] at h
          cases h
          rw [keyOf_rd h1 hk, keysOf_rd h2 hks]; rfl
theorem tkeyOf_rd {d : D} {v : V} {ks : List Key} (r : RD K π H d v) (h : tkeyOf d = some ks) : ∃ b, v = .ref b ∧ π.out b ∧ H b = some (.tup (ks.map kV)) := by
  cases r <;> try (cases h; done)
  rename_i a vs ds h1 h2
  have h : keysOf ds = some ks := h
  have := keysOf_rd h2 h
  subst this
  exact ⟨_, rfl, h1⟩
end
section
variable {X : Cx} {S : Sta} {κ : Kx} {k : Nat} (G : Good X S κ k)
theorem keyK {π : Pi} {H : Hp} {y : D} {w : V} {a : Addr} {key : Key} {o : Option D} {kvs : List (Key × D)} {ws : List (Key × V)} (r2 : RD X.K π H y w) (e1 : keyOf y = some key) (e2 : getK kvs key = o) (h1 : Rd H a (.dK ws)) (h2 : KDs X.K π H kvs ws) :
    ∃ u, DGet H a w u ∧ ((o = none ∧ u = none) ∨ ∃ d z, o = some d ∧ u = some z ∧ RD X.K π H d z) := by
  have := keyOf_rd r2 e1
  subst this
  refine ⟨_, .inl ⟨ws, key, h1, rfl, rfl⟩, ?_⟩
  rcases dk_get key h2 with ⟨d, z, g1, g2, g3⟩ | ⟨g1, g2⟩
  · exact .inr ⟨d, z, by rw [← e2, g1], g2, g3⟩
  · exact .inl ⟨by rw [← e2, g1], g2⟩
theorem keyT {π : Pi} {H : Hp} {y : D} {w : V} {a : Addr} {key : List Key} {o : Option D} {kvs : List (List Key × D)} {ws : List (List Key × V)} (r2 : RD X.K π H y w) (e1 : tkeyOf y = some key) (e2 : getK kvs key = o) (h1 : Rd H a (.dT ws)) (h2 : KTs X.K π H kvs ws) :
    ∃ u, DGet H a w u ∧ ((o = none ∧ u = none) ∨ ∃ d z, o = some d ∧ u = some z ∧ RD X.K π H d z) := by
  obtain ⟨b, rfl, _, hb⟩ := tkeyOf_rd r2 e1
  refine ⟨_, .inr ⟨ws, key, b, h1, rfl, hb, rfl⟩, ?_⟩
  rcases dk_get key h2 with ⟨d, z, g1, g2, g3⟩ | ⟨g1, g2⟩
  · exact .inr ⟨d, z, by rw [← e2, g1], g2, g3⟩
  · exact .inl ⟨by rw [← e2, g1], g2⟩
/-- a dict of a run, looked at -/
theorem dict_at {π : Pi} {H : Hp} {hs : HS} {x y : D} {v w : V} {o : Option D} (rel : Rel X.K S.T π H hs) (r1 : RD X.K π H x v) (r2 : RD X.K π H y w) (e : dictAt x y hs = some o) :
    ∃ a, v = .ref a ∧ ∃ u, DGet H a w u ∧ ((o = none ∧ u = none) ∨ ∃ d z, o = some d ∧ u = some z ∧ RD X.K π H d z) := by
  cases x <;> try (cases e; done)
  rename_i j
  cases r1 with
  | ref ha =>
    rename_i a
    refine ⟨a, rfl, ?_⟩
    cases q : hs[j]? with
    | none => simp [dictAt, q] at e
    | some ob =>
      have ho := rel.obj j _ a q ha
      cases ob with
      | lst _ => simp [dictAt, q] at e
      | gone => simp [dictAt, q] at e
      | fzL _ => simp [dictAt, q] at e
      | dct kvs =>
        obtain ⟨ws, h1, h2⟩ := ho
        simp only [dictAt, q, Option.map_eq_some_iff] at e
        obtain ⟨key, e1, e2⟩ := e
        exact keyK r2 e1 e2 (.inl h1) h2
      | dctT kvs =>
        obtain ⟨ws, h1, h2⟩ := ho
        simp only [dictAt, q, Option.map_eq_some_iff] at e
        obtain ⟨key, e1, e2⟩ := e
        exact keyT r2 e1 e2 (.inl h1) h2
      | fzK kvs =>
        obtain ⟨ob, ws, h1, h2⟩ := ho
        simp only [dictAt, q, Option.map_eq_some_iff] at e
        obtain ⟨key, e1, e2⟩ := e
        exact keyK r2 e1 e2 (.inr ⟨ob, h1⟩) h2
      | fzT kvs =>
        obtain ⟨ob, ws, h1, h2⟩ := ho
        simp only [dictAt, q, Option.map_eq_some_iff] at e
        obtain ⟨key, e1, e2⟩ := e
        exact keyT r2 e1 e2 (.inr ⟨ob, h1⟩) h2
variable {e e2 : Expr} {ma mb mc : Env → HS → R D} {pos : Pos}
include G
theorem d_dctO : PE X (.Dict [] [] pos) (tD X S fun _ h => .ok (.ref h.length) (h ++ [.dct []])) :=
  pe_dnewK.imp fun σ H Q ⟨π, ρ, hs, rel, sl, p⟩ => fun a ha => by
    refine p (π.add a) _ _ (.own ha) (rel.own ha ⟨[], upd_same, .nil⟩) (.ref ?_)
    show (π.obj ++ [a])[hs.length]? = some a
    rw [← rel.len]; simp
theorem d_dctTO : PE X (.Dict [] [] pos) (tD X S fun _ h => .ok (.ref h.length) (h ++ [.dctT []])) :=
  pe_dnewT.imp fun σ H Q ⟨π, ρ, hs, rel, sl, p⟩ => fun a ha => by
    refine p (π.add a) _ _ (.own ha) (rel.own ha ⟨[], upd_same, .nil⟩) (.ref ?_)
    show (π.obj ++ [a])[hs.length]? = some a
    rw [← rel.len]; simp
theorem d_dgt (ha : PE X e (tD X S ma)) (hb : PE X e2 (tD X S mb)) (hs : NoSl e2) : PE X (.Subscript e e2 pos) (tD X S fun ρ h => (ma ρ h).bind fun x h1 => (mb ρ h1).bind fun y h2 => opGet x y h2) :=
  (pe_dget (by have := G.room.un; omega) ha hb hs).imp fun σ H Q q => seq2 G q fun x y v w π H hs rel r1 r2 p => by
    unfold opGet at p
    split at p
    · rename_i d hd
      obtain ⟨a, rfl, u, g, h⟩ := dict_at rel r1 r2 hd
      rcases h with ⟨z, _⟩ | ⟨d', z, e1, e2, rz⟩
      · cases z
      · cases e1
        exact ⟨a, z, rfl, by rw [← e2]; exact g, p π H z (.refl _ _) rel rz⟩
    · exact p.elim
theorem d_din (ha : PE X e (tD X S ma)) (hb : PE X e2 (tD X S mb)) : PC X .In e e2 (tD X S fun ρ h => (ma ρ h).bind fun x h1 => (mb ρ h1).bind fun y h2 => opDin x y h2) := by
  refine ⟨fun pins s σ H Q I q => (pc_din (by have := G.room.un; omega) ha hb).run pins s σ H Q I (seq2 G q fun x y v w π H hs rel r1 r2 p => ?_)⟩
  unfold opDin at p
  split at p
  · rename_i o ho
    obtain ⟨a, rfl, u, g, h⟩ := dict_at rel r2 r1 ho
    have e : o.isSome = u.isSome := by rcases h with ⟨rfl, rfl⟩ | ⟨d, z, rfl, rfl, _⟩ <;> rfl
    exact ⟨a, u, rfl, g, by rw [← e]; exact p π H _ (.refl _ _) rel (.bl _)⟩
  · exact p.elim
theorem d_dnin (ha : PE X e (tD X S ma)) (hb : PE X e2 (tD X S mb)) : PC X .NotIn e e2 (tD X S fun ρ h => (ma ρ h).bind fun x h1 => (mb ρ h1).bind fun y h2 => opDnin x y h2) := by
  refine ⟨fun pins s σ H Q I q => (pc_dnotin (by have := G.room.un; omega) ha hb).run pins s σ H Q I (seq2 G q fun x y v w π H hs rel r1 r2 p => ?_)⟩
  unfold opDnin at p
  split at p
  · rename_i o ho
    obtain ⟨a, rfl, u, g, h⟩ := dict_at rel r2 r1 ho
    have e : o.isSome = u.isSome := by rcases h with ⟨rfl, rfl⟩ | ⟨d, z, rfl, rfl, _⟩ <;> rfl
    exact ⟨a, u, rfl, g, by rw [← e]; exact p π H _ (.refl _ _) rel (.bl _)⟩
  · exact p.elim
/-- o[i] = e, o a dict -/
theorem ds_dput {o i : Expr} {pos' : Pos} (ho : PE X o (tD X S ma)) (hi : PE X i (tD X S mb)) (he : PE X e (tD X S mc)) (hsw : swapsWith e (some (.Subscript o i pos')) pos.line X.env = pure false) :
    PS X (.Assign [.Subscript o i pos'] e pos) (tSD X S fun ρ h => .ofR ρ (((mc ρ h).bind fun d h1 => (ma ρ h1).bind fun x h2 => (mb ρ h2).bind fun y h3 => match opPut x y d h3 with | .ok _ h4 => R.ok D.non h4 | _ => R.bad)) fun _ h5 => .nx ρ h5) := by
  refine (ps_dput (by have := G.room.un; omega) ho hi he hsw).imp fun D σ H ⟨π, ρ, hs, rel, sl, p⟩ => ?_
  have q : gp X.K S (fun _ _ _ (_ : Unit) => True) π H (fun _ H' => D.nx σ H') (fun c d H' => S.W c d σ H') _ :=
    out_bind rel sl p (fun d hs1 π1 H1 x e1 rel1 _ sl1 o => o π1 H1 σ (.refl _ _) rel1 sl1) rfl
  refine ⟨π, ρ, hs, rel, sl, gp_bind q fun d hs1 π1 H1 v e1 rel1 rv q1 => ?_⟩
  refine ⟨π1, ρ, hs1, rel1, sl.mono rel e1, gp_bind q1 fun x hs2 π2 H2 u e2 rel2 rx q2 => ?_⟩
  refine ⟨π2, ρ, hs2, rel2, (sl.mono rel e1).mono rel1 e2, gp_bind q2 fun y hs3 π3 H3 w e3 rel3 ry q3 => ?_⟩
  have rv3 := (rv.mono e2).mono e3
  have rx3 := rx.mono e3
  cases hx : x <;> subst hx <;> try exact q3.elim
  rename_i j
  cases rx3 with
  | ref ha =>
    rename_i a
    cases hq : hs3[j]? with
    | none => simp [opPut, hq, gp] at q3
    | some ob =>
      have hob := rel3.obj j _ a hq ha
      cases ob with
      | lst _ => simp [opPut, hq, gp] at q3
      | gone => simp [opPut, hq, gp] at q3
      | fzL _ => simp [opPut, hq, gp] at q3
      | fzK _ => simp [opPut, hq, gp] at q3
      | fzT _ => simp [opPut, hq, gp] at q3
      | dct kvs =>
        obtain ⟨ws, h1, h2⟩ := hob
        simp only [opPut, hq] at q3
        cases hk : keyOf y with
        | none => simp [hk, gp] at q3
        | some key =>
          have := keyOf_rd ry hk
          subst this
          simp only [hk] at q3
          split at q3
          · rename_i hh h4 hh4
            split at hh4
            · rename_i hl
              cases hh4
              have ex : Ext π3 H3 π3 (upd H3 a (.dK (putK ws key v))) := .write ha (by rw [h1]; simp)
              exact ⟨a, _, rfl, .k h1 (Nat.lt_of_lt_of_le (by rw [← Paired.length h2]; exact hl) (by decide)), q3 π3 _ () ex (rel3.write ha (by rw [h1]; simp) ⟨_, upd_same, dk_put (k := key) (P := RD X.K π3 (upd H3 a (.dK (putK ws key v)))) (rv3.mono ex) (dk_imp (fun _ _ z => z.mono ex) h2)⟩) trivial⟩
            · cases hh4
          · exact q3.elim
      | dctT kvs =>
        obtain ⟨ws, h1, h2⟩ := hob
        simp only [opPut, hq] at q3
        cases hk : tkeyOf y with
        | none => simp [hk, gp] at q3
        | some key =>
          obtain ⟨b, rfl, _, hb⟩ := tkeyOf_rd ry hk
          simp only [hk] at q3
          split at q3
          · rename_i hh h4 hh4
            split at hh4
            · rename_i hl
              cases hh4
              have ex : Ext π3 H3 π3 (upd H3 a (.dT (putK ws key v))) := .write ha (by rw [h1]; simp)
              exact ⟨a, _, rfl, .t h1 hb (Nat.lt_of_lt_of_le (by rw [← Paired.length h2]; exact hl) (by decide)), q3 π3 _ () ex (rel3.write ha (by rw [h1]; simp) ⟨_, upd_same, dk_put (k := key) (P := RD X.K π3 (upd H3 a (.dT (putK ws key v)))) (rv3.mono ex) (dk_imp (fun _ _ z => z.mono ex) h2)⟩) trivial⟩
            · cases hh4
          · exact q3.elim
end
/-! ### list(d) -/
def rLsd (X : Cx) : List V → Hp → VK → Prop := fun xs H Q => (∃ d kvs, xs = [V.ref d] ∧ Rd H d (.dT kvs) ∧ ∀ p bs, H p = none → IsKeys H kvs bs → Q (.ref p) (upd H p (.lst (bs.map V.ref)))) ∨ rListD xs H Q
theorem cr_lsd {X : Cx} (hc : X.calm = true) : CallR X (.type "list") (rLsd X) := by
  intro pins s σ H xs us Q I r h
  rcases h with h | h
  · exact call_list_dT hc pins s σ H xs us Q I r h
  · exact call_list_dK hc pins s σ H xs us Q I r h
section
variable {X : Cx} {S : Sta} {κ : Kx} {k : Nat} (G : Good X S κ k)
theorem rel_tup_out {π : Pi} {H : Hp} {hs : HS} {b : Addr} {vs : List V} (rel : Rel X.K S.T π H hs) (hb : H b = some (.tup vs)) : π.out b := by
  refine ⟨fun z => ?_, fun z => ?_⟩
  · have k := rel.kindNo z hb
    cases k
  · obtain ⟨_, vs, q⟩ := rel.hidL b z
    rw [hb] at q; cases q
theorem keys_rds {π : Pi} {H : Hp} {hs : HS} (rel : Rel X.K S.T π H hs) : ∀ {kvs : List (List Key × D)} {ws : List (List Key × V)} {bs : List Addr}, KTs X.K π H kvs ws → IsKeys H ws bs → RDs X.K π H (kvs.map fun p => .tup (p.1.map keyD)) (bs.map V.ref)
  | _, _, _, .nil, .nil => .nil
  | _, _, _, @Paired.cons _ _ _ p q ps qs h t, @Paired.cons _ _ _ _ b _ bs h' t' => .cons (show RD X.K π H (.tup (p.1.map keyD)) (.ref b) by rw [h.1]; exact .tup ⟨rel_tup_out rel h', h'⟩ (keysD_rd _)) (keys_rds rel t t')
theorem keysK_rds {π : Pi} {H : Hp} : ∀ {kvs : List (Key × D)} {ws : List (Key × V)}, KDs X.K π H kvs ws → RDs X.K π H (kvs.map fun p => keyD p.1) (ws.map fun p => kV p.1)
  | _, _, .nil => .nil
  | _, _, @Paired.cons _ _ _ p q ps qs h t => .cons (show RD X.K π H (keyD p.1) (kV q.1) by rw [h.1]; exact keyD_rd _) (keysK_rds t)
include G
theorem r1_lsd : R1D X S opLsd (fun v H Q => rLsd X [v] H Q) := by
  intro π H hs x v Q E rel r1 p
  cases hx : x <;> subst hx <;> try exact p.elim
  rename_i j
  cases r1 with
  | ref ha =>
    rename_i a
    cases hq : hs[j]? with
    | none => simp [opLsd, hq, gp] at p
    | some ob =>
      have hob := rel.obj j _ a hq ha
      cases ob with
      | lst _ => simp [opLsd, hq, gp] at p
      | gone => simp [opLsd, hq, gp] at p
      | fzL _ => simp [opLsd, hq, gp] at p
      | fzK _ => simp [opLsd, hq, gp] at p
      | fzT _ => simp [opLsd, hq, gp] at p
      | dct kvs =>
        obtain ⟨ws, h1, h2⟩ := hob
        simp only [opLsd, hq] at p
        split at p
        · rename_i hl
          exact .inr ⟨a, ws, rfl, h1, fun q hq' => post_newL G p rel (keysK_rds h2) q hq'⟩
        · exact p.elim
      | dctT kvs =>
        obtain ⟨ws, h1, h2⟩ := hob
        simp only [opLsd, hq] at p
        split at p
        · exact .inl ⟨a, ws, rfl, .inl h1, fun q bs hq' hk => post_newL G p rel (keys_rds rel h2 hk) q hq'⟩
        · exact p.elim
end
/-! ### dict(pairs), the keys tuples -/
def mergeV (kvs more : List (List Key × V)) : List (List Key × V) := more.foldl (fun acc kv => putK acc kv.1 kv.2) kvs
theorem mergeV_len : ∀ (more kvs : List (List Key × V)), (mergeV kvs more).length ≤ kvs.length + more.length
  | [], kvs => by show kvs.length ≤ kvs.length + 0; omega
  | p :: r, kvs => by
    have h1 := mergeV_len r (putK kvs p.1 p.2)
    have h2 := length_putK kvs p.1 p.2
    show (mergeV (putK kvs p.1 p.2) r).length ≤ _
    rw [List.length_cons]; omega
/-- a pair of the list: its key (a tuple at an address), its value -/
abbrev PKV := (List Key × Addr) × V
def kvOf (q : PKV) : List Key × V := (q.1.1, q.2)
theorem kt_merge {H : Hp} {more : List PKV} {ps : List (List Key × Addr × Value)} (r : Paired (fun (p : PKV) (q : List Key × Addr × Value) => q.1 = p.1.1 ∧ q.2.1 = p.1.2 ∧ RelV p.2 q.2.2) more ps) :
    ∀ {kvs : List (List Key × V)} {xs : List (List Key × Addr × Value)}, (∀ q ∈ more, H q.1.2 = some (.tup (q.1.1.map kV))) → KT H kvs xs → KT H (mergeV kvs (more.map kvOf)) (storedAllH xs ps) := by
  induction r with
  | nil => intro kvs xs _ r; exact r
  | @cons p q more ps h t ih =>
    intro kvs xs hb r
    have e : KT H (putK kvs p.1.1 p.2) (storedH xs q.1 q.2.1 q.2.2) := by
      rw [h.1, h.2.1]
      exact r.put p.1.1 (hb p List.mem_cons_self) h.2.2
    exact ih (fun q hq => hb q (List.mem_cons_of_mem _ hq)) e
section
variable {X : Cx}
theorem paired_mem {α β : Type} {F : α → β → Prop} : ∀ {l : List α} {m : List β}, Paired F l m → ∀ y ∈ m, ∃ x ∈ l, F x y
  | _, _, .nil, y, h => by cases h
  | _, _, .cons r t, y, h => by
    rcases List.mem_cons.mp h with e | h
    · subst e; exact ⟨_, List.mem_cons_self, r⟩
    · obtain ⟨x, hx, z⟩ := paired_mem t y h
      exact ⟨x, List.mem_cons_of_mem _ hx, z⟩
theorem pk_of {pins : List (Addr × Obj)} {σ : L2.St} {H : Hp} {s : Shared} (I : Inv X pins σ H s) : ∀ {ts : List Addr} {kvs : List PKV}, Paired (fun p (q : PKV) => SqT X.K H p [V.ref q.1.2, q.2]) ts kvs →
    ∃ ps : List (List Key × Addr × Value), Paired (fun (p : PKV) (q : List Key × Addr × Value) => q.1 = p.1.1 ∧ q.2.1 = p.1.2 ∧ RelV p.2 q.2.2) kvs ps ∧ ps.length = ts.length ∧ ∀ (j : Nat) (q : List Key × Addr × Value), ps[j]? = some q → ∃ T, ts[j]? = some T ∧ IsTup s.heap T #[.ref q.2.1, q.2.2]
  | _, _, .nil => ⟨[], .nil, rfl, fun j q e => by simp at e⟩
  | _, _, @Paired.cons _ _ _ T kv ts kvs h t => by
    obtain ⟨ps, r, hl, hp⟩ := pk_of I t
    obtain ⟨its, rv, ht, _⟩ := I.tuple h
    obtain ⟨u, y, ei, ru, ry⟩ := vals2 rv
    subst ei
    cases ru
    refine ⟨(kv.1.1, kv.1.2, y) :: ps, .cons ⟨rfl, rfl, ry⟩ r, by rw [List.length_cons, List.length_cons, hl], fun j q e => ?_⟩
    cases j with
    | zero =>
      have e' : (kv.1.1, kv.1.2, y) = q := Option.some.inj e
      subst e'
      exact ⟨T, rfl, ht⟩
    | succ j =>
      obtain ⟨b, e1, e2⟩ := hp j q (by simpa using e)
      exact ⟨b, by simpa using e1, e2⟩
def rDictPT (X : Cx) : List V → Hp → VK → Prop := fun xs H Q => ∃ (a : Addr) (ts : List Addr) (kvs : List PKV), xs = [.ref a] ∧ SqL X.K H a (ts.map V.ref) ∧ Paired (fun p (q : PKV) => SqT X.K H p [V.ref q.1.2, q.2]) ts kvs ∧ (∀ q ∈ kvs, H q.1.2 = some (.tup (q.1.1.map kV))) ∧
    ∀ p, H p = none → Q (.ref p) (upd H p (.dT (mergeV [] (kvs.map kvOf))))
theorem cr_dictPT (hcalm : X.calm = true) (hu : X.A.units + 64 < cLine) : CallR X (.type "dict") (rDictPT X) := by
  intro pins s σ H xs us Q I r q
  obtain ⟨a, ts, kvs, ex, hq, hp, hk, q⟩ := q
  subst ex
  obtain ⟨u, eu, rx⟩ := vals1 r
  subst eu
  cases rx
  obtain ⟨its, rv, pl, hz⟩ := I.list hq
  have ei := refs_at rv
  subst ei
  rw [List.length_map] at hz
  obtain ⟨ps, rel, hl, hpr⟩ := pk_of I hp
  obtain ⟨o, n, ho, hc, hd, hdat⟩ := pl
  have hfresh : H s.heap.objs.size = none := I.hok.fresh (Nat.le_refl _)
  have hkey : ∀ x ∈ ps, ∃ q ∈ kvs, x.1 = q.1.1 ∧ x.2.1 = q.1.2 := fun x hx => by
    obtain ⟨p, hp', h1, h2, _⟩ := paired_mem rel x hx
    exact ⟨p, hp', h1, h2⟩
  refine call_dict_pairsH (knd := tupleKind (mixKind X.prog X.w)) (ps := ps) (PairArg.list a (ts.map Value.ref).toArray (fun j => ts.getD j 0) (ps.map fun q => (Value.ref q.2.1, q.2.2))) (I.ok.hd hcalm) ?_ ?_ ?_ ?_ ?_ fun h' tk hd' kk => ?_
  · show X.A.units + 1 + 1 < cLine
    omega
  · refine ⟨⟨o, n, ho, hc, hd, hdat⟩, by simp [hl], fun j key v e => ?_⟩
    rw [List.getElem?_map] at e
    cases e2 : ps[j]? with
    | none => rw [e2] at e; cases e
    | some x =>
      rw [e2] at e
      cases e
      obtain ⟨T, h1, h2⟩ := hpr j x e2
      refine ⟨by simp [h1], .inl ?_⟩
      show s.heap.IsTuple (ts.getD j 0) _
      rw [List.getD_eq_getElem?_getD, h1]
      exact h2
  · refine ⟨by simp, fun i key v e => ?_⟩
    have e : (ps.map fun q => (Value.ref q.2.1, q.2.2))[i]? = some (key, v) := e
    rw [List.getElem?_map] at e
    cases e2 : ps[i]? with
    | none => rw [e2] at e; cases e
    | some x => rw [e2] at e; cases e; exact ⟨x.1, x.2.1, rfl, rfl⟩
  · intro h' hk' x hx
    obtain ⟨y, hy, e1, e2⟩ := hkey x hx
    obtain ⟨ob, its, nn, k1, k2, k3, k4⟩ := key_of I.hok (hk y hy)
    rw [e1, e2]
    exact ⟨ob, its, nn, hk' _ _ (Nat.ne_of_lt (Heap.lt_size k1)) (by simp) k1, k2, k3, k4⟩
  · rw [List.length_map, hl]; exact hz
  · have kp : ∀ b o, s.heap.get? b = some o → h'.get? b = some o := fun b o e => kk b o (by simp) e
    have hm : (s.heap.objs.size == sysModules) = false := beq_eq_false_iff_ne.mpr (Nat.ne_of_gt I.big)
    obtain ⟨ob, es, ep, d1, d2, d3, d4, _, d5⟩ := hd'
    have hlen : (mergeV [] (kvs.map kvOf)).length ≤ sizeLine := by
      refine Nat.le_trans (mergeV_len _ _) ?_
      rw [List.length_nil, Nat.zero_add, List.length_map, rel.length, hl]
      exact hz
    refine ⟨.ref s.heap.objs.size, upd H s.heap.objs.size (.dT (mergeV [] (kvs.map kvOf))), I.laid (t' := tk) kp (Nat.le_refl _) ?_, rfl, q _ hfresh⟩
    refine ⟨hlen, hm, _, kt_merge (H := upd H s.heap.objs.size (.dT (mergeV [] (kvs.map kvOf)))) rel (fun y hy => ?_) .nil, ob, es, ep, d1, d2, d3, d4, d5⟩
    rw [upd_ne (ne_of_none (hk y hy) hfresh)]
    exact hk y hy
end
end VE
set_option Elab.async false
set_option linter.all false
set_option maxRecDepth 100000
set_option maxHeartbeats 1000000
set_option autoImplicit false
/-! W2: dict(pairs), min, max, sum of a list, list(range(..)), starred rows, index -/
namespace VE
open PySem PySem.Spec PyProof.Rows L2
/-! ### dict(pairs) -/
section
variable {K : PySem.W.Frag} {π : Pi} {H : Hp}
theorem dk_merge {P : D → V → Prop} {kvs : List (List Key × D)} {ws : List (List Key × V)} (h : DK P kvs ws) : ∀ {acc : List (List Key × D)} {acw : List (List Key × V)}, DK P acc acw → DK P (mergeD acc kvs) (mergeV acw ws) := by
  induction h with
  | nil => intro acc acw r; exact r
  | @cons p q ps qs h t ih =>
    intro acc acw r
    have e : DK P (putD acc p.1 p.2) (putK acw q.1 q.2) := by
      rw [h.1]; exact dk_put h.2 r
    exact ih e
theorem pairs_rd : ∀ {xs : List D} {vs : List V} {kvs : List (List Key × D)}, RDs K π H xs vs → pairsT xs = some kvs → ∃ (ts : List Addr) (pk : List PKV), vs = ts.map V.ref ∧ Paired (fun p (q : PKV) => SqT K H p [V.ref q.1.2, q.2]) ts pk ∧ (∀ q ∈ pk, H q.1.2 = some (.tup (q.1.1.map kV))) ∧ KTs K π H kvs (pk.map kvOf)
  | [], _, kvs, r, h => by
    cases r; cases h
    exact ⟨[], [], rfl, .nil, (fun q hq => by cases hq), .nil⟩
  | x :: xs, _, kvs, r, h => by
    cases r with
    | cons h1 h2 =>
      cases x <;> try (simp [pairsT] at h; done)
      rename_i ds
      match ds, h, h1 with
      | [k, v], h, h1 =>
        simp only [pairsT] at h
        split at h
        · rename_i q qs hq hqs
          cases h
          obtain ⟨ts, pk, e1, e2, e3, e4⟩ := pairs_rd h2 hqs
          cases h1 with
          | @tup T _ _ ht hd =>
            cases hd with
            | cons hk hd =>
              cases hd with
              | @cons _ _ v' _ hv hd =>
                cases hd
                obtain ⟨b, rfl, _, hb⟩ := tkeyOf_rd hk hq
                refine ⟨T :: ts, ((q, b), v') :: pk, by rw [e1]; rfl, .cons ht.sq e2, fun z hz => ?_, .cons ⟨rfl, hv⟩ e4⟩
                rcases List.mem_cons.mp hz with z' | z'
                · subst z'; exact hb
                · exact e3 z z'
        · cases h
      | [], h, _ => simp [pairsT] at h
      | [_], h, _ => simp [pairsT] at h
      | _ :: _ :: _ :: _, h, _ => simp [pairsT] at h
end
section
variable {X : Cx} {S : Sta} {κ : Kx} {k : Nat} (G : Good X S κ k)
theorem r1_dctL : R1D X S opDctL (fun v H Q => rDictPT X [v] H Q) := by
  intro π H hs x v Q E rel r1 p
  cases x <;> try exact p.elim
  cases r1 with
  | lst ha hd =>
    rename_i xs a vs
    simp only [opDctL] at p
    split at p
    · rename_i kvs hk
      split at p
      · rename_i hl
        obtain ⟨ts, pk, rfl, e2, e3, e4⟩ := pairs_rd hd hk
        refine ⟨a, ts, pk, rfl, ha.sq, e2, e3, fun b hb => ?_⟩
        have ex : Ext π H (π.add b) (upd H b (.dT (mergeV [] (pk.map kvOf)))) := .own hb
        refine p (π.add b) _ _ ex (rel.own hb ⟨_, upd_same, dk_imp (fun _ _ z => z.mono ex) (dk_merge e4 .nil)⟩) (.ref ?_)
        show (π.obj ++ [b])[hs.length]? = some b
        rw [← rel.len]; simp
      · exact p.elim
    · exact p.elim
/-! ### min, max, sum of a list -/
theorem intsOf_rd {K : PySem.W.Frag} {π : Pi} {H : Hp} : ∀ {xs : List D} {vs : List V} {ns : List Int}, RDs K π H xs vs → intsOf xs = some ns → vs = ns.map V.int
  | [], _, _, r, h => by cases r; cases h; rfl
  | x :: xs, _, ns, r, h => by
    cases r with
    | cons h1 h2 =>
      cases h1 <;> try (simp [intsOf] at h; done)
      rename_i i
      simp only [intsOf, Option.map_eq_some_iff] at h
      obtain ⟨m, hm, rfl⟩ := h
      rw [intsOf_rd h2 hm]; rfl
theorem foldl_min_mem : ∀ (is : List Int) (i : Int), is.foldl min i ∈ i :: is ∧ ∀ y ∈ i :: is, is.foldl min i ≤ y
  | [], i => ⟨by simp, by simp⟩
  | j :: is, i => by
    obtain ⟨h1, h2⟩ := foldl_min_mem is (min i j)
    refine ⟨?_, fun y hy => ?_⟩
    · show is.foldl min (min i j) ∈ _
      rcases List.mem_cons.mp h1 with e | e
      · rw [e]; rcases Int.le_total i j with z | z
        · rw [Int.min_eq_left z]; simp
        · rw [Int.min_eq_right z]; simp
      · simp [e]
    · show is.foldl min (min i j) ≤ y
      have h0 := h2 (min i j) List.mem_cons_self
      rcases List.mem_cons.mp hy with e | e
      · subst e; exact Int.le_trans h0 (Int.min_le_left _ _)
      · rcases List.mem_cons.mp e with e | e
        · subst e; exact Int.le_trans h0 (Int.min_le_right _ _)
        · exact h2 y (List.mem_cons_of_mem _ e)
theorem foldl_max_mem : ∀ (is : List Int) (i : Int), is.foldl max i ∈ i :: is ∧ ∀ y ∈ i :: is, y ≤ is.foldl max i
  | [], i => ⟨by simp, by simp⟩
  | j :: is, i => by
    obtain ⟨h1, h2⟩ := foldl_max_mem is (max i j)
    refine ⟨?_, fun y hy => ?_⟩
    · show is.foldl max (max i j) ∈ _
      rcases List.mem_cons.mp h1 with e | e
      · rw [e]; rcases Int.le_total i j with z | z
        · rw [Int.max_eq_right z]; simp
        · rw [Int.max_eq_left z]; simp
      · simp [e]
    · show y ≤ is.foldl max (max i j)
      have h0 := h2 (max i j) List.mem_cons_self
      rcases List.mem_cons.mp hy with e | e
      · subst e; exact Int.le_trans (Int.le_max_left _ _) h0
      · rcases List.mem_cons.mp e with e | e
        · subst e; exact Int.le_trans (Int.le_max_right _ _) h0
        · exact h2 y (List.mem_cons_of_mem _ e)
theorem ra_minL : RAD X S (opBi .minL) (rMin X.K) := by
  intro π H hs ds vs Q E rel r p
  rcases len_cases ds with rfl | ⟨a, rfl⟩ | ⟨a, b, rfl⟩ | ⟨a, b, c, r', rfl⟩ <;> try exact p.elim
  obtain ⟨v, rfl, rv⟩ := rds1 r
  simp only [opBi] at p
  split at p
  · exact p.elim
  rename_i ht0
  cases e2 : seqOf a hs with
  | none => rw [e2] at p; exact p.elim
  | some xs =>
    rw [e2] at p
    dsimp only at p
    split at p
    · rename_i i is hi
      obtain ⟨ad, ws, rfl, rs, ht⟩ := seq_of rel rv e2
      have := intsOf_rd rs hi
      subst this
      rcases ht with ⟨z, _⟩ | ⟨_, ht⟩
      · exact absurd z ht0
      refine ⟨ad, i :: is, rfl, ht, by simp, fun m hm hall => ?_⟩
      obtain ⟨h1, h2⟩ := foldl_min_mem is i
      have e : m = is.foldl min i := Int.le_antisymm (hall _ h1) (h2 m hm)
      rw [e]; exact p π H _ (.refl _ _) rel (.int _)
    · exact p.elim
theorem ra_maxL : RAD X S (opBi .maxL) (rMax X.K) := by
  intro π H hs ds vs Q E rel r p
  rcases len_cases ds with rfl | ⟨a, rfl⟩ | ⟨a, b, rfl⟩ | ⟨a, b, c, r', rfl⟩ <;> try exact p.elim
  obtain ⟨v, rfl, rv⟩ := rds1 r
  simp only [opBi] at p
  split at p
  · exact p.elim
  rename_i ht0
  cases e2 : seqOf a hs with
  | none => rw [e2] at p; exact p.elim
  | some xs =>
    rw [e2] at p
    dsimp only at p
    split at p
    · rename_i i is hi
      obtain ⟨ad, ws, rfl, rs, ht⟩ := seq_of rel rv e2
      have := intsOf_rd rs hi
      subst this
      rcases ht with ⟨z, _⟩ | ⟨_, ht⟩
      · exact absurd z ht0
      refine ⟨ad, i :: is, rfl, ht, by simp, fun m hm hall => ?_⟩
      obtain ⟨h1, h2⟩ := foldl_max_mem is i
      have e : m = is.foldl max i := Int.le_antisymm (h2 m hm) (hall _ h1)
      rw [e]; exact p π H _ (.refl _ _) rel (.int _)
    · exact p.elim
theorem r1_sum : R1D X S opSum (fun v H Q => rSum X.K [v] H Q) := by
  intro π H hs x v Q E rel rv p
  unfold opSum at p
  split at p
  · exact p.elim
  rename_i ht0
  cases e2 : seqOf x hs with
  | none => rw [e2] at p; exact p.elim
  | some xs =>
    rw [e2] at p
    dsimp only at p
    split at p
    · rename_i is hi
      obtain ⟨ad, ws, rfl, rs, ht⟩ := seq_of rel rv e2
      have := intsOf_rd rs hi
      subst this
      rcases ht with ⟨z, _⟩ | ⟨_, ht⟩
      · exact absurd z ht0
      exact ⟨ad, is, rfl, ht, p π H _ (.refl _ _) rel (.int _)⟩
    · exact p.elim
/-! ### list(range(..)) -/
def rRng1 : List V → Hp → VK → Prop := fun vs H Q => ∃ j, vs = [V.int j] ∧ ∀ p, H p = none → Q (.ref p) (upd H p (.rng 0 j))
theorem cr_rng1 : CallR X (.type "range") rRng1 := by
  intro pins s σ H vs us Q I r h
  obtain ⟨j, rfl, q⟩ := h
  obtain ⟨u, rfl, t, rfl⟩ := vals1 r
  refine call_range_1 ⟨.ref s.heap.objs.size, upd H s.heap.objs.size (.rng 0 j), I.laid (t' := s.toks + 1 + 1) (fun b o e => Heap.get?_push_of_some _ e) (Nat.le_refl _) ?_, rfl, q _ (I.hok.fresh (Nat.le_refl _))⟩
  exact ⟨s.toks, t, s.toks + 1, Heap.get?_push_size _ rfl⟩
def rngV (lo hi : Int) : List V := (List.range (hi - lo).toNat).map fun (k : Nat) => V.int (lo + (k : Nat))
theorem vals_get2 : ∀ {vs : List V} {us : List Value}, vs.length = us.length → (∀ (j : Nat) (x : V), vs[j]? = some x → ∃ u, us[j]? = some u ∧ RelV x u) → Vals vs us
  | [], [], _, _ => .nil
  | [], _ :: _, h, _ => nomatch h
  | _ :: _, [], h, _ => nomatch h
  | v :: vs, u :: us, h, r => by
    obtain ⟨u', e, q⟩ := r 0 v rfl
    cases e
    exact .cons q (vals_get2 (by simpa using h) fun j x e => r (j + 1) x (by simpa using e))
def rLrng : List V → Hp → VK → Prop := fun vs H Q => ∃ p lo hi, vs = [V.ref p] ∧ H p = some (.rng lo hi) ∧ (hi - lo).toNat ≤ lim ∧ (-(2 ^ 62) ≤ lo ∧ lo < 2 ^ 62 ∧ -(2 ^ 62) ≤ hi ∧ hi < 2 ^ 62) ∧ ∀ q, H q = none → Q (.ref q) (upd H q (.lst (rngV lo hi)))
theorem cr_lrng (hc : X.calm = true) : CallR X (.type "list") rLrng := by
  intro pins s σ H vs us Q I r h
  obtain ⟨p, lo, hi, rfl, hp, hn, ⟨b1, b2, b3, b4⟩, q⟩ := h
  obtain ⟨u, rfl, ru⟩ := vals1 r
  cases ru
  obtain ⟨t, u, v, ho⟩ := I.hok p _ hp
  have hz : Builtin.Range.rangeSize lo hi 1 = ((hi - lo).toNat : Nat) := by
    rw [rangeSize_one]; split <;> omega
  refine call_list_range (I.ok.hd hc) (show IsRange s.heap p lo hi 1 t u v from ho) (small_one b1 b2 b3 b4) hz (Nat.le_trans hn (by decide)) fun h' tk acc' c' kp e it => ?_
  have hl : acc'.toList.length = (rngV lo hi).length := by rw [Array.length_toList, it.1]; simp [rngV]
  have rv : Vals (rngV lo hi) acc'.toList := by
    refine vals_get2 hl.symm fun j x hx => ?_
    have hj : j < (hi - lo).toNat := by
      have := (List.getElem?_eq_some_iff.mp hx).1
      simpa [rngV] using this
    have e1 : x = V.int (lo + (j : Nat)) := by
      have : (rngV lo hi)[j]? = some (V.int (lo + (j : Nat))) := by simp [rngV, hj]
      rw [hx] at this; exact Option.some.inj this
    have hj' : j < acc'.size := by rw [it.1]; exact hj
    obtain ⟨tk, e2⟩ := it.2 j acc'[j] (Array.getElem?_eq_getElem hj')
    refine ⟨acc'[j], by simp [hj'], ?_⟩
    rw [e1, e2, Int.mul_one]
    exact ⟨tk, rfl⟩
  refine ⟨.ref s.heap.objs.size, upd H s.heap.objs.size (.lst (rngV lo hi)), I.laid (t' := tk) (o := .lst (rngV lo hi)) kp (Nat.le_refl _) ⟨?_, acc'.toList, c', rv, by rw [Array.toArray_toList]; exact e⟩, rfl, q _ (I.hok.fresh (Nat.le_refl _))⟩
  simp only [rngV, List.length_map, List.length_range]
  exact Nat.le_trans hn (by decide)
theorem rngD_rd {K : PySem.W.Frag} {π : Pi} {H : Hp} (lo hi : Int) : RDs K π H (rngD lo hi) (rngV lo hi) := by
  unfold rngD rngV
  generalize List.range (hi - lo).toNat = l
  induction l with
  | nil => exact .nil
  | cons k l ih => exact .cons (.int _) ih
variable {m ma mb mc : Env → HS → R D} {e : Expr} {es : List Expr} {pos p1 p2 pos2 : Pos}
include G
theorem lrng_end {π : Pi} {H : Hp} {hs : HS} {Q : VK} {E : XK} {lo hi : Int} (rel : Rel X.K S.T π H hs) (h1 : okEnd lo = true) (h2 : okEnd hi = true) (hl : (rngD lo hi).length ≤ lim) (p : post X.K S π H Q E (.ok (.lst (rngD lo hi)) hs)) :
    ∀ q, H q = none → rLrng [.ref q] (upd H q (.rng lo hi)) Q := fun q hq => by
  have b1 := okEnd_of h1
  have b2 := okEnd_of h2
  refine ⟨q, lo, hi, rfl, upd_same, by simpa [rngD] using hl, ⟨b1.1, b1.2, b2.1, b2.2⟩, fun l hl' => ?_⟩
  have ex : Ext π H π (upd H q (.rng lo hi)) := .new hq
  exact post_newL G (gp.mono ex p) (rel.new hq) (rngD_rd lo hi) l hl'
theorem d_lrng1 (hg : Gl X "list") (hm : X.mg "list" = none) (hg2 : Gl X "range") (hm2 : X.mg "range" = none) (ha : PA X [e] (tDs X S m)) (hs : starEach [e] X.env = (false, eval e X.env) :: starEach [] X.env) (hl : ∀ ρ h d h', m ρ h = .ok d h' → (its d).length = 1) :
    PE X (.Call (.Name "list" p1) [.Call (.Name "range" p2) [e] [] pos2] [] pos) (tD X S fun ρ h => (m ρ h).bind fun l h1 => opLRng (its l) h1) := by
  have inner : PE X (.Call (.Name "range" p2) [e] [] pos2) (tCB rRng1 (tDs X S m)) := pe_callTy cr_rng1 hg2 hm2 (by decide +kernel) ha (by decide) (by decide) hs rfl
  have outer := pe_callTy (T := "list") (pos := pos) (p := p1) (cr_lrng G.calm) hg hm (by decide +kernel) (pa_cons inner pa_nil rfl) (by decide) (by decide) rfl rfl
  refine outer.imp fun σ H Q ⟨π, ρ, hs', rel, sl, p⟩ => ?_
  refine ⟨π, ρ, hs', rel, sl, ?_⟩
  dsimp only at p
  cases hm' : m ρ hs' with
  | bad => rw [hm'] at p; exact p
  | exc c d h1 => rw [hm'] at p; exact p
  | ok l h1 =>
    rw [hm'] at p
    have hlen := hl _ _ _ _ hm'
    intro π1 H1 vs e1 rel1 r1
    have p1 := gp.mono e1 p
    match hx : its l, hlen with
    | [d], hlen1 =>
      clear hlen1
      rw [hx] at r1
      obtain ⟨v, rfl, rv⟩ := rds1 r1
      dsimp only [VE.R.bind_ok] at p1
      rw [hx] at p1
      cases rv <;> try exact p1.elim
      rename_i j
      simp only [opLRng, opRng] at p1
      split at p1
      · rename_i xs hh he
        split at he
        · rename_i hok
          cases he
          split at p1
          · rename_i hlm
            exact ⟨j, rfl, fun q hq => lrng_end G rel1 (by decide) hok hlm p1 q hq⟩
          · exact p1.elim
        · cases he
      · exact p1.elim
theorem d_lrng2 {e' : Expr} (hg : Gl X "list") (hm : X.mg "list" = none) (hg2 : Gl X "range") (hm2 : X.mg "range" = none) (ha : PA X [e, e'] (tDs X S m)) (hs : starEach [e, e'] X.env = (false, eval e X.env) :: starEach [e'] X.env) (hs2 : (backTo pos2 (starEach [e'] X.env)).any (·.1) = false) (hl : ∀ ρ h d h', m ρ h = .ok d h' → (its d).length = 2) :
    PE X (.Call (.Name "list" p1) [.Call (.Name "range" p2) [e, e'] [] pos2] [] pos) (tD X S fun ρ h => (m ρ h).bind fun l h1 => opLRng (its l) h1) := by
  have inner : PE X (.Call (.Name "range" p2) [e, e'] [] pos2) (tCB _ (tDs X S m)) := pe_callTy cr_range2 hg2 hm2 (by decide +kernel) ha (by decide) (by decide) hs hs2
  have outer := pe_callTy (T := "list") (pos := pos) (p := p1) (cr_lrng G.calm) hg hm (by decide +kernel) (pa_cons inner pa_nil rfl) (by decide) (by decide) rfl rfl
  refine outer.imp fun σ H Q ⟨π, ρ, hs', rel, sl, p⟩ => ?_
  refine ⟨π, ρ, hs', rel, sl, ?_⟩
  dsimp only at p
  cases hm' : m ρ hs' with
  | bad => rw [hm'] at p; exact p
  | exc c d h1 => rw [hm'] at p; exact p
  | ok l h1 =>
    rw [hm'] at p
    have hlen := hl _ _ _ _ hm'
    intro π1 H1 vs e1 rel1 r1
    have p1 := gp.mono e1 p
    match hx : its l, hlen with
    | [d, d'], hlen1 =>
      clear hlen1
      rw [hx] at r1
      obtain ⟨v, w, rfl, rv, rw'⟩ := rds2 r1
      dsimp only [VE.R.bind_ok] at p1
      rw [hx] at p1
      cases rv <;> try exact p1.elim
      rename_i i
      cases rw' <;> try exact p1.elim
      rename_i j
      simp only [opLRng, opRng] at p1
      split at p1
      · rename_i xs hh he
        split at he
        · rename_i hok
          rw [Bool.and_eq_true] at hok
          cases he
          split at p1
          · rename_i hlm
            exact ⟨i, j, rfl, fun q hq => lrng_end G rel1 hok.1 hok.2 hlm p1 q hq⟩
          · exact p1.elim
        · cases he
      · exact p1.elim
/-! ### a starred one in a row: first, or second -/
/-- the starred one and what follows it -/
theorem star_tail {te : Env → HS → R D} {f : List D → D → HS → R D} {N : List V → Hp → Prop} {σ : L2.St} {H : Hp} {Q : VK} {ρ : Env} {π : Pi} {hs : HS} (rel : Rel X.K S.T π H hs) (sl : Slots X.K S π H ρ σ)
    (p : post X.K S π H Q (fun c d H' => S.W c d σ H') ((te ρ hs).bind fun d h2 => match starOf d with | some xs => (mb ρ h2).bind fun l h3 => f xs l h3 | none => .bad))
    (n : ∀ zs l π1 H1 hs1 xs ys, Ext π H π1 H1 → Rel X.K S.T π1 H1 hs1 → RDs X.K π1 H1 zs xs → RDs X.K π1 H1 (its l) ys → post X.K S π1 H1 Q (fun c d H' => S.W c d σ H') (f zs l hs1) → N (xs ++ ys) H1) : StX.tStar X.K (tD X S te) (tDs X S mb) σ H N := by
  refine ⟨π, ρ, hs, rel, sl, gp_bind p fun d hs1 π1 H1 v e1 rel1 rv p1 => ?_⟩
  have key : ∀ a zs vs, v = .ref a → RDs X.K π1 H1 zs vs → (SqT X.K H1 a vs ∨ SqL X.K H1 a vs) → post X.K S π1 H1 Q (fun c d H' => S.W c d σ H') ((mb ρ hs1).bind fun l h3 => f zs l h3) →
      ∃ a xs, v = V.ref a ∧ (SqT X.K H1 a xs ∨ SqL X.K H1 a xs) ∧ tDs X S mb σ H1 fun ys H2 => N (xs ++ ys) H2 := fun a zs vs ev h2 hq p1 =>
    ⟨a, vs, ev, hq, π1, ρ, hs1, rel1, sl.mono rel e1, gp_bind p1 fun l hs2 π2 H2 ys e2 rel2 rl p2 => n zs l π2 H2 hs2 vs ys (e1.trans e2) rel2 (h2.mono e2) rl p2⟩
  cases rv with
  | tup h1 h2 => exact key _ _ _ rfl h2 (.inl h1.sq) p1
  | lst h1 h2 => exact key _ _ _ rfl h2 (.inr h1.sq) p1
  | _ => exact p1.elim
theorem len_star {zs : List D} {l : D} {xs ys : List V} {π : Pi} {H : Hp} (r1 : RDs X.K π H zs xs) (r2 : RDs X.K π H (its l) ys) {n : Nat} (h : n + zs.length + (its l).length ≤ lim) : n + (xs ++ ys).length ≤ sizeLine := by
  rw [List.length_append, ← r1.length, ← r2.length]
  exact Nat.le_trans (by omega) (show lim ≤ sizeLine by decide)
theorem d_tupS0 {b : List Expr} {pp : Pos} {q : Nat} (he : PE X e (tD X S ma)) (hb : PA X b (tDs X S mb)) :
    PE X (.Tuple (.Starred e pp :: b) q pos) (tD X S fun ρ h => (R.ok (.lst []) h).bind fun l1 h1 => (ma ρ h1).bind fun d h2 => match starOf d with | some xs => (mb ρ h2).bind fun l2 h3 => if (its l1).length + xs.length + (its l2).length ≤ lim then .ok (.tup (its l1 ++ (xs ++ its l2))) h3 else .bad | none => .bad) := by
  refine (pe_tup (StX.pa_star he hb)).imp fun σ H Q ⟨π, ρ, hs, rel, sl, p⟩ => ?_
  refine star_tail G (f := fun zs l h3 => if 0 + zs.length + (its l).length ≤ lim then .ok (.tup (zs ++ its l)) h3 else .bad) rel sl p fun zs l π1 H1 hs1 xs ys e1 rel1 r1 r2 p1 => ?_
  split at p1
  · rename_i hl
    exact ⟨by have := len_star G r1 r2 hl; omega, post_newT G p1 rel1 (r1.append r2)⟩
  · exact p1.elim
theorem d_lstS0 {b : List Expr} {pp : Pos} (he : PE X e (tD X S ma)) (hb : PA X b (tDs X S mb)) :
    PE X (.List (.Starred e pp :: b) pos) (tD X S fun ρ h => (R.ok (.lst []) h).bind fun l1 h1 => (ma ρ h1).bind fun d h2 => match starOf d with | some xs => (mb ρ h2).bind fun l2 h3 => if (its l1).length + xs.length + (its l2).length ≤ lim then .ok (.lst (its l1 ++ (xs ++ its l2))) h3 else .bad | none => .bad) := by
  refine (pe_lst (StX.pa_star he hb)).imp fun σ H Q ⟨π, ρ, hs, rel, sl, p⟩ => ?_
  refine star_tail G (f := fun zs l h3 => if 0 + zs.length + (its l).length ≤ lim then .ok (.lst (zs ++ its l)) h3 else .bad) rel sl p fun zs l π1 H1 hs1 xs ys e1 rel1 r1 r2 p1 => ?_
  split at p1
  · rename_i hl
    exact ⟨by have := len_star G r1 r2 hl; omega, post_newL G p1 rel1 (r1.append r2)⟩
  · exact p1.elim
theorem d_tupS1 {a0 : Expr} {b : List Expr} {pp : Pos} {q : Nat} (h0 : PE X a0 (tD X S mc)) (hst : starEach (a0 :: .Starred e pp :: b) X.env = (false, eval a0 X.env) :: starEach (.Starred e pp :: b) X.env) (he : PE X e (tD X S ma)) (hb : PA X b (tDs X S mb)) :
    PE X (.Tuple (a0 :: .Starred e pp :: b) q pos) (tD X S fun ρ h => ((mc ρ h).bind fun d h1 => R.ok (D.lst [d]) h1).bind fun l1 h1 => (ma ρ h1).bind fun d h2 => match starOf d with | some xs => (mb ρ h2).bind fun l2 h3 => if (its l1).length + xs.length + (its l2).length ≤ lim then .ok (.tup (its l1 ++ (xs ++ its l2))) h3 else .bad | none => .bad) := by
  refine (pe_tup (pa_cons h0 (StX.pa_star he hb) hst)).imp fun σ H Q ⟨π, ρ, hs, rel, sl, p⟩ => ?_
  have p' : post X.K S π H Q (fun c d H' => S.W c d σ H') ((mc ρ hs).bind fun d0 h1 => (ma ρ h1).bind fun d h2 => match starOf d with | some xs => (mb ρ h2).bind fun l2 h3 => if 1 + xs.length + (its l2).length ≤ lim then .ok (.tup (d0 :: (xs ++ its l2))) h3 else .bad | none => .bad) := by
    dsimp only at p
    cases hm : mc ρ hs with
    | bad => rw [hm] at p; exact p
    | exc c d h1 => rw [hm] at p; exact p
    | ok d0 h1 =>
      rw [hm] at p
      simp only [VE.R.bind_ok, its, List.length_cons, List.length_nil, Nat.zero_add, List.cons_append, List.nil_append, List.singleton_append] at p ⊢
      exact p
  refine ⟨π, ρ, hs, rel, sl, gp_bind p' fun d0 hs1 π1 H1 v0 e1 rel1 r0 p1 => ?_⟩
  refine star_tail G (f := fun zs l h3 => if 1 + zs.length + (its l).length ≤ lim then .ok (.tup (d0 :: (zs ++ its l))) h3 else .bad) rel1 (sl.mono rel e1) p1 fun zs l π2 H2 hs2 xs ys e2 rel2 r1 r2 p2 => ?_
  split at p2
  · rename_i hl
    exact ⟨by have := len_star G r1 r2 hl; simp only [List.length_cons]; omega, post_newT G p2 rel2 (.cons (r0.mono e2) (r1.append r2))⟩
  · exact p2.elim
end
end VE
set_option Elab.async false
set_option linter.all false
set_option maxRecDepth 100000
set_option maxHeartbeats 1000000
set_option autoImplicit false
/-! W3: index; things locked while they are walked -/
namespace VE
open PySem PySem.Spec PyProof.Rows L2
theorem _root_.L2.PE.or {X : Cx} {e : Expr} {t t' : TE} (h : PE X e t) (h' : PE X e t') : PE X e (fun σ H Q => t σ H Q ∨ t' σ H Q) := ⟨fun pins s σ H Q I q => q.elim (h.run pins s σ H Q I) (h'.run pins s σ H Q I)⟩
/-! ### index -/
theorem idxD_spec {y : D} : ∀ {ys : List D} {n i : Nat}, idxD y ys n = some i → n ≤ i ∧ (∃ z, ys[i - n]? = some z ∧ D.eqv z y = true) ∧ ∀ m z, m < i - n → ys[m]? = some z → D.eqv z y = false
  | [], n, i, h => by cases h
  | z :: r, n, i, h => by
    unfold idxD at h
    split at h
    · rename_i hz
      cases h
      exact ⟨Nat.le_refl _, ⟨z, by simp, hz⟩, fun m z' hm => by omega⟩
    · rename_i hz
      obtain ⟨h1, ⟨z', h2, h3⟩, h4⟩ := idxD_spec h
      have e : i - n = (i - (n + 1)) + 1 := by omega
      refine ⟨by omega, ⟨z', by rw [e]; simpa using h2, h3⟩, fun m z2 hm hz2 => ?_⟩
      cases m with
      | zero => simp at hz2; subst hz2; simpa using hz
      | succ m => exact h4 m z2 (by omega) (by simpa using hz2)
theorem strs_all : ∀ {ys : List D}, ys.all isStrD = true → ∃ xs : List Str, ys = xs.map D.str
  | [], _ => ⟨[], rfl⟩
  | y :: ys, h => by
    rw [List.all_cons, Bool.and_eq_true] at h
    obtain ⟨xs, rfl⟩ := strs_all h.2
    cases y <;> first | (simp [isStrD] at h; done) | exact ⟨_ :: xs, rfl⟩
theorem rds_strs {K : PySem.W.Frag} {π : Pi} {H : Hp} : ∀ {xs : List Str} {vs : List V}, RDs K π H (xs.map D.str) vs → vs = xs.map V.str
  | [], _, r => by cases r; rfl
  | x :: xs, _, r => by
    cases r with
    | cons h1 h2 => cases h1; rw [rds_strs h2]; rfl
section
variable {X : Cx} {S : Sta} {κ : Kx} {k : Nat} (G : Good X S κ k)
variable {ma mb mc : Env → HS → R D} {o e : Expr} {apos cpos : Pos}
theorem pe_knT {es : List Expr} {to : TE} {t : TA} {r : V → List V → Hp → VK → Prop} (hm : MtR X "tuple.index" r) (ho : PE X o to) (ha : PA X (e :: es) t) (hbase : attributeBase o "index" X.env (eval o X.env) = eval o X.env)
    (hfew : ((backTo cpos (starEach (e :: es) X.env)).all (fun x => !x.1) && (backToKw cpos (keywordEach [] X.env)).all (fun x => x.1.isSome)
      && decide ((e :: es).length + ([] : List Keyword).length + (if ([] : List Keyword).isEmpty then 0 else 1) < 30)) = true)
    (hline : (apos.endLine == cpos.line) = true) (hs : starEach (e :: es) X.env = (false, eval e X.env) :: starEach es X.env) (hplain : (backTo cpos (starEach es X.env)).any (·.1) = false) :
    PE X (.Call (.Attribute o "index" apos) (e :: es) [] cpos) (fun σ H Q => to σ H fun x H1 => (∃ a ob, x = .ref a ∧ ob.cls = .type "tuple" ∧ ob.dict = none ∧ ((∃ vs, H1 a = some (.frz ob (.tup vs))) ∨ X.K.lookup a = some ob)) ∧ t σ H1 fun xs H2 => r x xs H2 Q) := by
  refine ⟨fun pins s σ H Q I h => ?_⟩
  refine wpAny_Call_method_late hbase hfew hline rfl (thn (ho.run pins s σ H _ I h) fun v s1 ⟨x, H1, I1, r1, ty, q1⟩ => ?_)
  obtain ⟨a, ob, rfl, hc, hd, hk⟩ := ty
  cases r1
  have hob : s1.heap.get? a = some ob := by
    rcases hk with ⟨vs, hk⟩ | hk
    · exact (I1.hok a _ hk).1
    · exact I1.kIn a ob hk
  refine ⟨"tuple", "tuple.index", PySem.F.plainAttrs_tuple, PySem.F.slot_tuple_index, PySem.F.type_tuple_index, ⟨ob, hob, hc⟩, fun b q => by cases q; exact ⟨ob, hob, hd⟩, ?_⟩
  have hA := ha.run cpos pins s1 σ H1 _ I1 q1
  rw [hs] at hA ⊢
  refine Calls.callWith_builtin (by show (false || (backTo cpos (starEach es X.env)).any (·.1)) = false; rw [hplain] <;> rfl) (Calls.evalArgs_plain ?_)
  exact thn hA fun us s2 ⟨vs, H2, I2, r2, q2⟩ => hm pins s2 σ H2 (.ref a) vs (.ref a) us Q I2 rfl r2 q2
include G
theorem d_idx (ho : PE X o (tD X S ma)) (he : PE X e (tD X S mb)) (hbase : attributeBase o "index" X.env (eval o X.env) = eval o X.env)
    (hfew : ((backTo cpos (starEach [e] X.env)).all (fun x => !x.1) && (backToKw cpos (keywordEach [] X.env)).all (fun x => x.1.isSome)
      && decide (([e] : List Expr).length + ([] : List Keyword).length + (if ([] : List Keyword).isEmpty then 0 else 1) < 30)) = true)
    (hline : (apos.endLine == cpos.line) = true) (hs : starEach [e] X.env = (false, eval e X.env) :: starEach [] X.env) :
    PE X (.Call (.Attribute o "index" apos) [e] [] cpos) (tD X S fun ρ h => (ma ρ h).bind fun x h1 => if idxOk x h1 then (mb ρ h1).bind fun y h2 => opIdx x y h2 else .bad) := by
  have hpa : PA X [e] (tCons (tD X S mb) tNil) := pa_cons he pa_nil hs
  have pL := pe_bm (to := tD X S ma) PySem.F.plainAttrs_list PySem.F.slot_list_index PySem.F.type_list_index (mt_indexD (by have := G.room.un; omega)) ho hpa hbase hfew hline hs rfl
  have pT := pe_knT (to := tD X S ma) mt_tup_index ho hpa hbase hfew hline hs rfl
  refine (pL.or pT).imp fun σ H Q ⟨π, ρ, hs0, rel, sl, p⟩ => ?_
  dsimp only at p
  have exc : ∀ {N : V → Hp → Prop}, (∀ x h1, ma ρ hs0 ≠ .ok x h1) → tD X S ma σ H N := fun {N} hn => by
    refine ⟨π, ρ, hs0, rel, sl, ?_⟩
    cases hm : ma ρ hs0 with
    | ok x h1 => exact absurd hm (hn x h1)
    | exc c d h1 => rw [hm] at p; exact p
    | bad => rw [hm] at p; exact p
  cases hm : ma ρ hs0 with
  | exc c d h1 => exact .inl (exc fun x h1 z => by rw [hm] at z; cases z)
  | bad => exact .inl (exc fun x h1 z => by rw [hm] at z; cases z)
  | ok x h1 =>
    rw [hm] at p
    dsimp only [VE.R.bind_ok] at p
    split at p
    · rename_i hok
      by_cases hT : isTupD x = true
      · refine .inr ⟨π, ρ, hs0, rel, sl, ?_⟩
        rw [hm]
        intro π1 H1 v e1 rel1 r1
        have p1 := gp.mono e1 p
        have hty : ∃ a ob, v = .ref a ∧ ob.cls = .type "tuple" ∧ ob.dict = none ∧ ((∃ vs, H1 a = some (.frz ob (.tup vs))) ∨ X.K.lookup a = some ob) := by
          cases r1 <;> try (simp [isTupD] at hT; done)
          · simp [idxOk] at hok
          · rename_i a vs ds q1 q2
            rcases q1 with ⟨_, ob, z1, z2, z3⟩ | ⟨_, ob, z1, z2, z3⟩
            · exact ⟨a, ob, rfl, z2, z3, .inr z1⟩
            · exact ⟨a, ob, rfl, z2, z3, .inl ⟨vs, z1⟩⟩
        refine ⟨hty, π1, ρ, h1, rel1, sl.mono rel e1, gp_bind p1 fun y hs2 π2 H2 w e2 rel2 r2 p2 => ?_⟩
        unfold opIdx at p2
        split at p2
        · rename_i ys hy
          simp only [hT, if_true] at p2
          split at p2
          · rename_i hc
            rw [Bool.and_eq_true] at hc
            split at p2
            · rename_i i hi
              obtain ⟨_, ⟨z, hz, hzy⟩, hno⟩ := idxD_spec hi
              obtain ⟨a, vs, rfl, rs, ht⟩ := seq_of rel2 (r1.mono e2) hy
              obtain ⟨xs, rfl⟩ := strs_all hc.2
              have := rds_strs rs
              subst this
              rcases ht with ⟨_, ht, _⟩ | ⟨z, _⟩
              · cases r2 <;> try (simp [isStrD] at hc; done)
                rename_i yy
                rw [Nat.sub_zero] at hz hno
                rw [List.getElem?_map] at hz
                cases hx : xs[i]? with
                | none => rw [hx] at hz; cases hz
                | some x0 =>
                  rw [hx] at hz; cases hz
                  have e0 : x0 = yy := by simpa [D.eqv] using hzy
                  subst e0
                  refine ⟨a, xs, x0, i, rfl, rfl, ht, hx, fun m hm' hmx => ?_, p2 π2 H2 _ (.refl _ _) rel2 (.int _)⟩
                  have := hno m (.str x0) hm' (by rw [List.getElem?_map, hmx]; rfl)
                  simp [D.eqv] at this
              · rw [hT] at z; cases z
            · exact p2.elim
          · exact p2.elim
        · exact p2.elim
      · refine .inl ⟨π, ρ, hs0, rel, sl, ?_⟩
        rw [hm]
        intro π1 H1 v e1 rel1 r1
        have p1 := gp.mono e1 p
        have hf : isTupD x = false := by simpa using hT
        have hty : tyV X.K "list" v H1 := by
          have hq : ∃ ys, seqOf x h1 = some ys := by
            cases x <;> first | (simp [idxOk, seqOf] at hok; done) | (simp [isTupD] at hT; done) | exact Option.isSome_iff_exists.mp hok
          obtain ⟨ys, hq⟩ := hq
          obtain ⟨a, vs, rfl, rs, ht⟩ := seq_of rel1 r1 hq
          rcases ht with ⟨z, _⟩ | ⟨_, ht⟩
          · exact absurd z hT
          · exact .inl ⟨rfl, vs, ht⟩
        refine ⟨hty, π1, ρ, h1, rel1, sl.mono rel e1, gp_bind p1 fun y hs2 π2 H2 w e2 rel2 r2 p2 => ?_⟩
        unfold opIdx at p2
        split at p2
        · rename_i ys hy
          simp only [hf, Bool.false_eq_true, if_false] at p2
          split at p2
          · rename_i hc
            rw [Bool.and_eq_true] at hc
            split at p2
            · rename_i i hi
              obtain ⟨_, ⟨z, hz, hzy⟩, hno⟩ := idxD_spec hi
              obtain ⟨a, vs, rfl, rs, ht⟩ := seq_of rel2 (r1.mono e2) hy
              rcases ht with ⟨z, _⟩ | ⟨_, ht⟩
              · exact absurd z hT
              have hys : ys.all (D.fine 29) = true := hc.2
              obtain ⟨a1, a2, a3⟩ := dps_of 29 (dp_of 29) ys vs hys rs
              obtain ⟨b1, b2⟩ := dp_fin hc.1 r2
              have fin : ∀ z, z ∈ ys → finD z = true := fun z hz => fine_up 29 z (List.all_eq_true.mp hys z hz)
              rw [Nat.sub_zero] at hz hno
              refine ⟨a, w, y.py, D.pys ys, i, z.py, rfl, rfl, .lst ht a1, b1, ?_, b2, by rw [pys_map, List.getElem?_map, hz]; rfl, by rw [eqv_fin (fin z (List.mem_of_getElem? hz)) hc.1]; exact hzy, fun m z' hm' hmz => ?_, p2 π2 H2 _ (.refl _ _) rel2 (.int _)⟩
              · unfold SeqAt.shaped
                show (PyData.canLayAll0 (D.pys ys) && decide (PyData.depthAll (D.pys ys) + 1 ≤ 64)) = true
                rw [a2, decide_eq_true (by omega)]; rfl
              · rw [pys_map, List.getElem?_map] at hmz
                cases hm2 : ys[m]? with
                | none => rw [hm2] at hmz; cases hmz
                | some z2 =>
                  rw [hm2] at hmz; cases hmz
                  rw [eqv_fin (fin z2 (List.mem_of_getElem? hm2)) hc.1]
                  exact hno m z2 hm' hm2
            · exact p2.elim
          · exact p2.elim
        · exact p2.elim
    · exact p.elim
end
end VE
set_option Elab.async false
set_option linter.all false
set_option maxRecDepth 100000
set_option maxHeartbeats 4000000
set_option autoImplicit false
/-! W6: sets of texts: made of a list, sorted (after the proofs for sets of ints) -/
namespace VE
open PySem PySem.Spec PyProof.Rows L2
/-! ### what a set of texts is -/
def keyS (e : Int × Value) : Str := match e.2 with | .str k _ => k | _ => Str.empty
def GoodS (w : World) (e : Int × Value) : Prop := ∃ k tk, e.2 = Value.str k tk ∧ e.1 = hashStr w k
/-- the set of texts at a: S its members, n their number -/
def SetS (w : World) (h : Heap) (a : Addr) (S : Str → Bool) (n : Nat) : Prop :=
  ∃ o es ep t, h.get? a = some o ∧ o.ExactSet ∧ o.data = .set es ep t ∧ (∀ e ∈ es.toList, GoodS w e) ∧ (es.toList.map keyS).Nodup ∧ (∀ k, S k = true ↔ k ∈ es.toList.map keyS) ∧
    es.size < scanBound ∧ t.fits es.size = true ∧ es.size = n ∧ Ris t.place.toList ∧ (w.params.followText "set-order" = true ∨ t.led = true)
section
variable {P : Program} {w : World} {h h' : Heap} {a : Addr} {S : Str → Bool} {n : Nat}
theorem SetS.at (R : SetS w h a S n) (k : ∀ o, h.get? a = some o → h'.get? a = some o) : SetS w h' a S n := by
  obtain ⟨o, es, ep, t, ho, r⟩ := R
  exact ⟨o, es, ep, t, k o ho, r⟩
theorem SetS.congr {S' : Str → Bool} (R : SetS w h a S n) (e : ∀ k, S' k = S k) : SetS w h a S' n := by
  have q : S' = S := funext e
  rw [q]; exact R
theorem goodS_elems {l : List (Int × Value)} (g : ∀ e ∈ l, GoodS w e) : ElemsOf (PySem.strKind P w) l := fun e he => by
  obtain ⟨k, tk, h1, h2⟩ := g e he
  exact ⟨⟨k, by rw [h1]; exact strKind_is P w k tk, h2⟩, by rw [h1] <;> rfl⟩
theorem goodS_is {e : Int × Value} (g : GoodS w e) (k : Str) : (PySem.strKind P w).is k e.2 = true ↔ keyS e = k := by
  obtain ⟨k0, tk, h1, _⟩ := g
  unfold keyS
  rw [h1]
  constructor
  · intro h
    obtain ⟨u, hu⟩ := Value.isStrOf_shape (x := k) (v := .str k0 tk) h
    injection hu
  · rintro rfl
    exact strKind_is P w _ tk
theorem goodS_mem {l : List (Int × Value)} (g : ∀ e ∈ l, GoodS w e) (k : Str) : k ∈ l.map keyS ↔ ∃ e ∈ l, (PySem.strKind P w).is k e.2 = true := by
  rw [List.mem_map]
  constructor
  · rintro ⟨e, he, q⟩
    exact ⟨e, he, (goodS_is (g e he) k).2 q⟩
  · rintro ⟨e, he, q⟩
    exact ⟨e, he, (goodS_is (g e he) k).1 q⟩
end
section
variable {P : Program} {w : World} {A : Around} {E : Value → Shared → Prop} {s : Shared} {a : Addr} {S : Str → Bool} {n : Nat}
theorem setS_add_tail {g : Bool → Sem Unit} (hg : ∀ (b : Bool) (s₁ : Shared) (Q' : Unit → Shared → Prop), Q' () s₁ → wpAny (model P w) A (g b) Q' E s₁)
    {o : Obj} {es : Array (Int × Value)} {ep : Nat} {t : SetTable} (ho : s.heap.get? a = some o) (hex : o.ExactSet) (hd : o.data = .set es ep t)
    {es1 : Array (Int × Value)} {t2 : SetTable} {S' : Str → Bool} (g1 : ∀ e ∈ es1.toList, GoodS w e) (nd1 : (es1.toList.map keyS).Nodup) (m1 : ∀ k, S' k = true ↔ k ∈ es1.toList.map keyS)
    (hb1 : es1.size < scanBound) (hf2 : t2.fits es1.size = true) (hr : Ris t2.place.toList) (hl : w.params.followText "set-order" = true ∨ t2.led = true) {wasDummy : Bool} {R : Option Bool → Shared → Prop}
    (hR : ∀ h', Heap.SameBut a s.heap h' → SetS w h' a S' es1.size → R (some true) { s with heap := h' }) :
    wpAny (model P w) A (do
        storeSet a es1 t2
        if (!wasDummy && t2.tooFull) = true then do
            g (relayAll t2 es1 (SetTable.grown es1.size)).2.2
            storeSet a (relayAll t2 es1 (SetTable.grown es1.size)).1 (relayAll t2 es1 (SetTable.grown es1.size)).2.1
            pure (some true)
          else pure (some true)) R E s := by
  refine wpAny_bind (wpAny_storeSet_of ho hd ?_ (fits_of_scanBound hb1))
  have ho1 := store_at (es' := es1) (t' := t2) ho hd
  have sb1 := Heap.SameBut.update s.heap a (Obj.putSet es1 t2)
  split
  · have pm := relayAll_perm t2 es1 (SetTable.grown es1.size)
    have hf3 := relayAll_fits t2 es1 (SetTable.grown es1.size)
    have hr3 := relayAll_ris t2 es1 (SetTable.grown es1.size)
    have hl3 := relayAll_led t2 es1 (SetTable.grown es1.size)
    generalize relayAll t2 es1 (SetTable.grown es1.size) = Z at pm hf3 hr3 hl3 ⊢
    obtain ⟨es2, t3, gave⟩ := Z
    dsimp only at pm hf3 hr3 hl3 ⊢
    have hsz : es2.size = es1.size := by rw [← Array.length_toList, pm.length_eq, Array.length_toList]
    have hb2 : es2.size < scanBound := by rw [hsz]; exact hb1
    refine wpAny_bind (hg _ _ _ ?_)
    refine wpAny_bind (wpAny_storeSet_of ho1 rfl ?_ (fits_of_scanBound hb2))
    have ho2 := store_at (es' := es2) (t' := t3) ho1 rfl
    refine wpAny_pure (hR _ (sb1.trans (Heap.SameBut.update _ a _)) ?_)
    exact ⟨_, es2, _, t3, ho2, hex, rfl, fun e he => g1 e (pm.mem_iff.mp he), (pm.map keyS).nodup_iff.mpr nd1, fun k => (m1 k).trans (pm.map keyS).mem_iff.symm, hb2, hf3, hsz, hr3,
      hl.imp id fun z => by rw [hl3]; exact z⟩
  · exact wpAny_pure (hR _ sb1 ⟨_, es1, _, t2, ho1, hex, rfl, g1, nd1, m1, hb1, hf2, rfl, hr, hl⟩)

theorem setS_add_hashed {k : Str} {tk : Tok} {Q : Bool → Shared → Prop} (R : SetS w s.heap a S n) (room : n + 1 < scanBound)
    (hQ : ∀ h', Heap.SameBut a s.heap h' → SetS w h' a (fun j => S j || decide (j = k)) (if S k = true then n else n + 1) → Q (!S k) { s with heap := h' }) :
    wpAny (model P w) A (setAddHashed a (.str k tk) ((PySem.strKind P w).hash k)) Q E s := by
  obtain ⟨o, es, ep, t, ho, hex, hd, g, nd, hm, hb, hf, hn, hr, hl⟩ := R
  have hkey : (PySem.strKind P w).is k (.str k tk) = true := strKind_is P w k tk
  have hsc : (Value.str k tk).scannable = true := rfl
  have hel : ElemsOf (PySem.strKind P w) es.toList := goodS_elems g
  unfold setAddHashed setAddHashedIn
  refine wpAny_holding (wpAny_bind (wpAny_setState_of ho hd hf ?_))
  dsimp only
  rw [byScan_of hsc hb hel]
  simp only [↓reduceIte]
  unfold setAddByScan
  refine wpAny_bind ?_
  refine wpAny_bind (wpAny_rule ?_)
  refine wpAny_bind (wpAny_setScan_of hkey ho hd hf hel ?_)
  cases hfi : List.findIdx? (fun e => (PySem.strKind P w).is k e.2) es.toList with
  | some j =>
    dsimp only
    obtain ⟨hj, pj, _⟩ := List.findIdx?_eq_some_iff_getElem.mp hfi
    have hSk : S k = true := (hm k).2 ((goodS_mem (P := P) (w := w) g k).2 ⟨es.toList[j], List.getElem_mem hj, pj⟩)
    refine wpAny_pure (wpAny_pure ?_)
    have q := hQ s.heap (Heap.SameBut.refl a s.heap) ⟨o, es, ep, t, ho, hex, hd, g, nd, fun i => by
      rw [Bool.or_eq_true, decide_eq_true_eq, ← hm i]
      exact ⟨fun z => z.elim id (fun e => e ▸ hSk), .inl⟩, hb, hf, by rw [if_pos hSk]; exact hn, hr, hl⟩
    rw [hSk] at q
    exact q
  | none =>
    dsimp only
    have hnk : k ∉ es.toList.map keyS := fun z => by
      obtain ⟨e, he, q⟩ := (goodS_mem (P := P) (w := w) g k).1 z
      have c := List.findIdx?_eq_none_iff.mp hfi e he
      rw [q] at c
      cases c
    have hSk : S k = false := by
      cases q : S k with
      | false => rfl
      | true => exact absurd ((hm k).1 q) hnk
    have hgw : ∀ (b : Bool) {s₁ : Shared} {Q' : Unit → Shared → Prop}, Q' () s₁ → wpAny (model P w) A (match b with | true => rule "set.scan.the-table-gave-way" | false => pure ()) Q' E s₁ :=
      fun b s₁ Q' q => by cases b <;> first | exact wpAny_pure q | exact wpAny_rule q
    have pm := layNew_perm t es ((PySem.strKind P w).hash k) (.str k tk)
    have hf1 := layNew_fits t es ((PySem.strKind P w).hash k) (.str k tk)
    have hr1 := layNew_ris t es ((PySem.strKind P w).hash k) (.str k tk) hr
    have hl1 := layNew_led t es ((PySem.strKind P w).hash k) (.str k tk)
    generalize layNew t es ((PySem.strKind P w).hash k) (.str k tk) = Z at pm hf1 hr1 hl1 ⊢
    obtain ⟨es1, t1, wasDummy, gave⟩ := Z
    dsimp only at pm hf1 hr1 hl1 ⊢
    rw [Array.toList_push] at pm
    have pc : es1.toList.Perm (((PySem.strKind P w).hash k, Value.str k tk) :: es.toList) := pm.trans (List.perm_append_singleton _ _)
    have pk : (es1.toList.map keyS).Perm (k :: es.toList.map keyS) := pc.map keyS
    have g1 : ∀ e ∈ es1.toList, GoodS w e := fun e he => by
      rcases List.mem_cons.mp (pc.mem_iff.mp he) with z | z
      · rw [z]; exact ⟨k, tk, rfl, rfl⟩
      · exact g e z
    have nd1 : (es1.toList.map keyS).Nodup := pk.nodup_iff.mpr (List.nodup_cons.mpr ⟨hnk, nd⟩)
    have m1 : ∀ i, (S i || decide (i = k)) = true ↔ i ∈ es1.toList.map keyS := fun i => by
      rw [Bool.or_eq_true, decide_eq_true_eq, hm i, pk.mem_iff, List.mem_cons]
      exact Or.comm
    have hsz : es1.size = n + 1 := by rw [← Array.length_toList, pc.length_eq, List.length_cons, Array.length_toList, hn]
    have hb1 : es1.size < scanBound := by rw [hsz]; exact room
    have hled : w.params.followText "set-order" = true ∨ t1.led = true := hl.imp id fun z => by rw [hl1]; exact z
    have fin : ∀ h', Heap.SameBut a s.heap h' → SetS w h' a (fun j => S j || decide (j = k)) es1.size → Q true { s with heap := h' } := fun h' sb r => by
      have q := hQ h' sb
      rw [hSk] at q
      rw [hsz] at r
      exact q r
    refine wpAny_bind (hgw _ ?_)
    split
    · refine wpAny_bind ?_
      rw [hashByValue_scannable 8 hsc]
      refine wpAny_pure ?_
      refine setS_add_tail ?_ ho hex hd g1 nd1 m1 hb1 ?_ ?_ ?_ ?_
      · intro b s₁ Q' q; cases b <;> first | exact wpAny_pure q | exact wpAny_rule q
      · first | (split <;> first | exact hf1 | exact SetTable.fits_plain_off hf1) | exact hf1
      · first | (split <;> exact hr1) | exact hr1
      · first | (split <;> exact hled) | exact hled
      · intro h' sb r; dsimp only; exact wpAny_pure (fin h' sb r)
    · refine wpAny_bind (wpAny_pure ?_)
      simp only [↓reduceIte]
      refine setS_add_tail ?_ ho hex hd g1 nd1 m1 hb1 hf1 hr1 hled ?_
      · intro b s₁ Q' q; cases b <;> first | exact wpAny_pure q | exact wpAny_rule q
      · intro h' sb r; dsimp only; exact wpAny_pure (fin h' sb r)

end
theorem setS_new_at {w : World} {h : Heap} {a : Addr} {ns : List Str} (ho : h.get? a = some { cls := .type "set", dict := none, data := .set #[] 0 (.fresh 0 0 (!w.params.followText "set-order")) }) : SetS w h a (fun j => decide (j ∈ ns.take 0)) 0 :=
  ⟨_, #[], 0, _, ho, ⟨rfl, rfl, rfl⟩, rfl, (fun e he => by simp at he), (by simp), (fun k => by simp), (by decide), (by rfl), rfl, List.Pairwise.nil, by
    show _ ∨ (!w.params.followText "set-order") = true
    cases w.params.followText "set-order"
    · exact .inr rfl
    · exact .inl rfl⟩
section
variable {P : Program} {w : World} {A : Around} {E : Value → Shared → Prop} {s : Shared}
theorem set_update_strs {I : Addr} {fp wr : List Addr} {G : Array GenState → Array GenState → Prop} {n : Nat} {Pv : Nat → Value → Prop} {St : Nat → Shared → Prop} {R : Result → Shared → Prop}
    (W : WalksS P w A.in1 I fp wr G n Pv St) (S : Addr) (hSf : S ∉ fp) (ns : List Str) (hn : n = ns.length) (hb : ns.length + 1 < scanBound) (hval : ∀ i v, Pv i v → ∃ k t, ns[i]? = some k ∧ v = .str k t) :
    ∀ (k i : Nat) (s : Shared), n - i = k → i ≤ n → St i s → (∃ c, c ≤ i ∧ SetS w s.heap S (fun j => decide (j ∈ ns.take i)) c) →
      (∀ s' c, Moved (S :: wr) G s s' → c ≤ n → SetS w s'.heap S (fun j => decide (j ∈ ns)) c → R (.ok (.ret .none)) s') →
      codeAny (model P w) A (.builtin "set.update.loop" ⟨[.ref S, .ref I], []⟩) R s := by
  have hSw : S ∉ wr := fun h => hSf (W.sub _ h)
  have hsub : ∀ b ∈ wr, b ∈ S :: wr := fun b hb => List.mem_cons_of_mem _ hb
  intro k
  induction k with
  | zero =>
    intro i s hk' hi hst ⟨c, hc, hS⟩ hR
    have hin : i = n := by omega
    subst hin
    refine codeAny_builtin F.entry_set_update_loop ?_
    rw [Around.under_plainId F.plain_set_update_loop _]
    show wpAny _ A.in1 (pyNext (.ref I) >>= _) _ _ s
    refine wpAny_bind (W.done s _ _ hst fun s' hm => ?_)
    show wpAny _ A.in1 (ret Value.none) _ _ s'
    have e : ns.take i = ns := List.take_of_length_le (by omega)
    rw [e] at hS
    exact wpAny_pure (hR s' c (hm.mono hsub) hc (hS.at fun o e => hm.heap S o hSw e))
  | succ k ih =>
    intro i s hk' hi hst ⟨c, hc, hS⟩ hR
    have hlt : i < n := by omega
    refine codeAny_builtin F.entry_set_update_loop ?_
    rw [Around.under_plainId F.plain_set_update_loop _]
    show wpAny _ A.in1 (pyNext (.ref I) >>= _) _ _ s
    refine wpAny_bind (W.item i s _ _ hlt hst fun v s' hP hst' hm => ?_)
    obtain ⟨z, t, hz, rfl⟩ := hval i v hP
    have hS' : SetS w s'.heap S (fun j => decide (j ∈ ns.take i)) c := hS.at fun o e => hm.heap S o hSw e
    show wpAny _ A.in1 (holding [Value.str z t] (setAdd S (.str z t)) >>= _) _ _ s'
    refine wpAny_bind (wpAny_holding ?_)
    unfold setAdd
    refine wpAny_holding ?_
    refine wpAny_bind ((PySem.strKind P w).pyHash (k := z) (strKind_is _ _ _ _) ?_)
    refine setS_add_hashed (s := { s' with toks := s'.toks + 1 }) hS' (by omega) fun h' hsb hS2 => ?_
    have hS3 : SetS w h' S (fun j => decide (j ∈ ns.take (i + 1))) (if decide (z ∈ ns.take i) = true then c else c + 1) := hS2.congr fun j => by
      rw [List.take_add_one, hz]
      simp [List.mem_append]
    have hc3 : (if decide (z ∈ ns.take i) = true then c else c + 1) ≤ i + 1 := by
      split <;> omega
    refine wpAny_pure ⟨plainId_quiet F.plain_set_update_loop _, ih (i + 1) _ (by omega) hlt (W.frame _ s' _ _ hst' (Nat.le_succ _) fun b hb o e => ?_) ⟨_, hc3, hS3⟩ fun s'' c2 hm'' hc'' hS'' => ?_⟩
    · rw [hsb.2 b (fun h : b = S => hSf (by rw [← h]; exact hb))]; exact e
    · refine hR s'' c2 (Moved.trans W.gtrans ((hm.mono hsub).then_heap (Nat.le_succ _) fun b o hb e => ?_) hm'') hc'' hS''
      rw [hsb.2 b (fun h : b = S => hb (by rw [h]; exact List.mem_cons_self))]; exact e

set_option maxRecDepth 100000 in
set_option maxHeartbeats 3200000 in
theorem call_set_strs {l : Addr} {items : Array Value} (ns : List Str) {Q : Value → Shared → Prop} (hh : A.handled = none) (hl : s.heap.IsList l items) (hit : StrsAre items.toList ns) (hb : ns.length + 1 < scanBound)
    (h : ∀ (h' : Heap) (tk c : Nat), SetS w h' s.heap.objs.size (fun j => decide (j ∈ ns)) c → c ≤ ns.length → (∀ b o, s.heap.get? b = some o → h'.get? b = some o) → Q (.ref s.heap.objs.size) { s with heap := h', toks := tk }) :
    wpAny (model P w) A (call (.type "set") [.ref l]) Q E s := by
  have hisz : items.size = ns.length := by
    have q := PyProof.Rows.StrsAre.length hit
    rw [Array.length_toList] at q
    exact q
  obtain ⟨c, tl, hmro⟩ := F.called_set.mro
  have hmade := F.called_set.made
  have hsub := F.called_set.sub
  refine wpAny_call (codeAny_of_tree ?_)
  show wpAny _ _ (callAny (.type "set") _) _ _ _
  refine wpAny_pure ⟨Code.quiet_builtin _ (by decide +kernel), codeAny_builtin F.entry_type_call ?_⟩
  rw [Around.under_plain (weight_type_call_type "set" [.ref l] []) rfl]
  have h1 := F.called_set.notType
  have h2 := F.called_set.canCreate
  have hct := F.typeCall_set_1 (.ref l)
  repeat (any_goals (first | assumption | wp_step))

  refine codeAny_mono (code_set_led1 (.ref l) (E := E) (Q₁ := fun obj s₁ => obj = .ref s.heap.objs.size ∧ s₁ = { s with heap := s.heap.push { cls := .type "set", dict := none, data := .set #[] 0 (.fresh 0 0 (!w.params.followText "set-order")) } }) ⟨rfl, rfl⟩) fun r s₁ hr => ?_
  cases r with
  | error e => exact hr
  | ok fl =>
    cases fl with
    | ret obj =>
      obtain ⟨rfl, rfl⟩ := hr
      have hS : (s.heap.push { cls := .type "set", dict := none, data := .set #[] 0 (.fresh 0 0 (!w.params.followText "set-order")) }).get? s.heap.objs.size = some { cls := .type "set", dict := none, data := .set #[] 0 (.fresh 0 0 (!w.params.followText "set-order")) } := Heap.get?_push_size _ rfl
      have hT : Shared.TypeIs { s with heap := s.heap.push { cls := .type "set", dict := none, data := .set #[] 0 (.fresh 0 0 (!w.params.followText "set-order")) } } (.ref s.heap.objs.size) "set" := ⟨_, hS, rfl⟩
      have hli := F.called_set.init.lookup
      have hbi := F.called_set.init.bind (.ref s.heap.objs.size)
      repeat (any_goals (first | assumption | wp_step))

      refine codeAny_mono (codeAny_call_builtin (R := wants (fun r s₂ => r = .none ∧ ∃ h' tk c, s₂ = { s with heap := h', toks := tk } ∧ SetS w h' s.heap.objs.size (fun j => decide (j ∈ ns)) c ∧ c ≤ ns.length ∧
          (∀ b o, s.heap.get? b = some o → h'.get? b = some o)) E) F.called_set.init.plain F.entry_set_init (check_set_init_1 hT ?_)) fun r₂ s₂ hr₂ => ?_
      · obtain ⟨ol, hol, hcl, nl, hdl⟩ := hl
        obtain ⟨ocls, odict, odata, oslots⟩ := ol
        simp only at hcl hdl
        subst hcl; subst hdl
        have hol' : (s.heap.push { cls := .type "set", dict := none, data := .set #[] 0 (.fresh 0 0 (!w.params.followText "set-order")) }).get? l = some { cls := .type "list", dict := odict, data := .seq items nl, slots := oslots } := Heap.get?_push_of_some _ hol
        have hsls := F.sub_list_set
        have hslf := F.sub_list_frozenset
        have hne : (Value.type "list" == Value.type "dict") = false := by decide
        have hl1 : (s.heap.push { cls := .type "set", dict := none, data := .set #[] 0 (.fresh 0 0 (!w.params.followText "set-order")) }).IsList l items := ⟨_, hol', rfl, nl, rfl⟩
        unfold Builtin.«set.__init__» noKeywords Builtin.Frozenset.updateFrom
        generalize hPI : pyIter = PI
        wp_walk
        subst hPI

        refine wpAny_pyIter_list hl1 ?_
        refine wpAny_bind (wpAny_runValue ?_)
        have hlS : l < s.heap.objs.size := Heap.lt_size hol
        have hh3 : A.in1.in1.in1.handled = none := by simp [hh]
        have hz1 : (s.heap.push { cls := .type "set", dict := none, data := .set #[] 0 (.fresh 0 0 (!w.params.followText "set-order")) }).objs.size = s.heap.objs.size + 1 := Heap.size_push ..
        have hneI : l ≠ (s.heap.push { cls := .type "set", dict := none, data := .set #[] 0 (.fresh 0 0 (!w.params.followText "set-order")) }).objs.size := by
          rw [Heap.size_push]; exact Nat.ne_of_lt (Nat.lt_succ_of_lt hlS)
        have hSf : s.heap.objs.size ∉ [(s.heap.push { cls := .type "set", dict := none, data := .set #[] 0 (.fresh 0 0 (!w.params.followText "set-order")) }).objs.size, l] := by
          rw [Heap.size_push]; simp only [List.mem_cons, List.mem_singleton, List.not_mem_nil, or_false, not_or]
          exact ⟨Nat.ne_of_lt (Nat.lt_succ_self _), Nat.ne_of_gt hlS⟩
        have hval : ∀ (i : Nat) (v : Value), items[i]? = some v → ∃ k t, ns[i]? = some k ∧ v = .str k t := fun i v hv => by
          obtain ⟨y, t, e1, e2⟩ := PyProof.Rows.StrsAre.item hit i v (by rw [Array.getElem?_toList]; exact hv)
          exact ⟨y, t, e2, e1⟩
        refine set_update_strs ((Walks.list hh3 _ l hneI items).toS) s.heap.objs.size
          hSf ns hisz hb hval (items.size - 0) 0 _ (by omega) (Nat.zero_le _)
          ⟨⟨_, Heap.get?_push_size _ rfl, rfl, rfl⟩, (hl1.push _)⟩ ?hS0 ?hR
        case hS0 =>
          have hget : ((s.heap.push { cls := .type "set", dict := none, data := .set #[] 0 (.fresh 0 0 (!w.params.followText "set-order")) }).push { cls := .type "list_iterator", data := .fields #[.ref l, .int 0 0] }).get? s.heap.objs.size
              = some { cls := .type "set", dict := none, data := .set #[] 0 (.fresh 0 0 (!w.params.followText "set-order")) } := Heap.get?_push_of_some _ hS
          exact ⟨0, Nat.le_refl 0, setS_new_at hget⟩
        case hR =>
          intro s' c' hm hc' hS'
          obtain ⟨h', g2, d', tk', os'⟩ := s'
          have eg : g2 = s.gens := hm.gens
          have ed : d' = s.drawn := hm.drawn
          have eo : os' = s.os := hm.os
          subst eg; subst ed; subst eo
          show wpAny _ _ _ _ _ _
          refine wpAny_pure ?_
          show wpAny _ _ (ret Value.none) _ _ _
          rw [hisz] at hc'
          refine wpAny_pure ⟨rfl, h', tk', c', rfl, hS', hc', fun b o e => ?_⟩
          have hb0 : b < s.heap.objs.size := Heap.lt_size e
          have hb1 : b ≠ s.heap.objs.size := Nat.ne_of_lt hb0
          have hb2 : b ≠ (s.heap.push { cls := .type "set", dict := none, data := .set #[] 0 (.fresh 0 0 (!w.params.followText "set-order")) }).objs.size := by
            rw [Heap.size_push]; exact Nat.ne_of_lt (Nat.lt_succ_of_lt hb0)
          exact hm.heap b o (by simp only [List.mem_cons, List.mem_singleton, List.not_mem_nil, or_false, not_or]; exact ⟨hb1, hb2⟩) (Heap.get?_push_of_some _ (Heap.get?_push_of_some _ e))

      · cases r₂ with
        | error e => exact hr₂
        | ok fl₂ =>
          cases fl₂ with
          | ret r =>
            obtain ⟨rfl, h', tk, c', rfl, hS', hc', hk'⟩ := hr₂
            repeat (any_goals (first | assumption | wp_step))
            exact h _ _ _ hS' hc' hk'
          | _ => exact hr₂.elim
    | _ => exact hr.elim

end
end VE
set_option Elab.async false
set_option linter.all false
set_option maxRecDepth 100000
set_option maxHeartbeats 1000000
set_option autoImplicit false
/-! W7: sorted(set(texts)) -/
namespace VE
open PySem PySem.Spec PyProof.Rows L2
/-! ### texts in order -/
def sle (a b : Str) : Prop := ltCps b.cps.toList a.cps.toList = false
theorem sle_trans {a b c : Str} (h1 : sle a b) (h2 : sle b c) : sle a c := by
  unfold sle at *
  rw [ltCps_eq, decide_eq_false_iff_not] at *
  exact fun h => by
    have h1 := List.not_lt.mp h1
    have h2 := List.not_lt.mp h2
    exact absurd (List.lt_of_le_of_lt (List.le_trans h1 h2) h) (List.lt_irrefl _)
theorem sle_anti {a b : Str} (h1 : sle a b) (h2 : sle b a) : a = b := by
  unfold sle at *
  rw [ltCps_eq, decide_eq_false_iff_not] at *
  have e : a.cps.toList = b.cps.toList := List.le_antisymm (List.not_lt.mp h1) (List.not_lt.mp h2)
  obtain ⟨x⟩ := a
  obtain ⟨y⟩ := b
  have e2 : x = y := Array.toList_inj.mp e
  rw [e2]
theorem rising_pw : ∀ (l : List Str) (x : Str), risingS x l = true → (x :: l).Pairwise sle
  | [], x, _ => by simp
  | y :: l, x, h => by
    unfold risingS at h
    rw [Bool.and_eq_true, Bool.not_eq_true'] at h
    have ih := rising_pw l y h.2
    refine List.pairwise_cons.mpr ⟨fun z hz => ?_, ih⟩
    have h0 : sle x y := h.1
    rcases List.mem_cons.mp hz with rfl | hz
    · exact h0
    · exact sle_trans h0 ((List.pairwise_cons.mp ih).1 z hz)
theorem sortedS_pw {l : List Str} (h : sortedS l = true) : l.Pairwise sle := by
  cases l with
  | nil => exact .nil
  | cons x l => exact rising_pw l x h
theorem nodup_dups {l : List Str} : l.eraseDups.Nodup := by
  have : ∀ (n : Nat) (l : List Str), l.length ≤ n → l.eraseDups.Nodup := by
    intro n
    induction n with
    | zero =>
      intro l h
      have e : l = [] := List.length_eq_zero_iff.mp (Nat.le_zero.mp h)
      subst e
      simp
    | succ n ih =>
      intro l h
      cases l with
      | nil => simp
      | cons a l =>
        rw [List.eraseDups_cons]
        refine List.nodup_cons.mpr ⟨fun hm => ?_, ih _ ?_⟩
        · rw [List.mem_eraseDups, List.mem_filter] at hm
          simp at hm
        · have := List.length_filter_le (fun b => !(b == a)) l
          simp only [List.length_cons] at h
          omega
  exact this l.length l (Nat.le_refl _)
/-- the order of sorted(..), on texts -/
theorem dlt_str (x y : Str) : D.lt (.str x) (.str y) = ltCps x.cps.toList y.cps.toList := by
  rw [ltCps_eq] <;> rfl
theorem sortD_strs {zs ys : List Str} (h : zs.Pairwise sle) (p : zs.Perm ys) : sortD (ys.map D.str) = zs.map D.str := by
  unfold sortD
  refine List.Perm.eq_of_pairwise (le := fun a b => (!D.lt b a) = true) ?_ ?_ ?_ ((List.mergeSort_perm _ _).trans (p.symm.map D.str))
  · intro a b ha hb h1 h2
    have ha := (List.mergeSort_perm _ _).mem_iff.mp ha
    obtain ⟨x, _, rfl⟩ := List.mem_map.mp ha
    obtain ⟨y, _, rfl⟩ := List.mem_map.mp hb
    rw [Bool.not_eq_true', dlt_str] at h1 h2
    rw [sle_anti (a := x) (b := y) h1 h2]
  · have hm := List.map_mergeSort (f := D.str) (r := fun a b => !ltCps b.cps.toList a.cps.toList) (s := fun a b => !D.lt b a) (l := ys) fun x _ y _ => by rw [dlt_str]
    rw [← hm]
    refine List.pairwise_map.mpr ?_
    have := List.pairwise_mergeSort (le := fun a b : Str => !ltCps b.cps.toList a.cps.toList) (fun a b c h1 h2 => ?_) (fun a b => ?_) ys
    · exact this.imp fun h => by rw [dlt_str]; exact h
    · rw [Bool.not_eq_true'] at *
      exact sle_trans (a := a) (b := b) (c := c) h1 h2
    · rw [Bool.or_eq_true, Bool.not_eq_true', Bool.not_eq_true', ltCps_eq, ltCps_eq, decide_eq_false_iff_not, decide_eq_false_iff_not]
      rcases List.le_total a.cps.toList b.cps.toList with z | z
      · exact .inl (List.not_lt.mpr z)
      · exact .inr (List.not_lt.mpr z)
  · exact List.pairwise_map.mpr (h.imp fun z => by rw [dlt_str, Bool.not_eq_true']; exact z)
/-! ### sorted(a set) -/
theorem strs_of : ∀ (l : List Value), (∀ v ∈ l, ∃ k tk, v = Value.str k tk) → ∃ ss, StrsAre l ss
  | [], _ => ⟨[], .nil⟩
  | v :: l, h => by
    obtain ⟨k, tk, rfl⟩ := h v List.mem_cons_self
    obtain ⟨ss, hs⟩ := strs_of l fun u hu => h u (List.mem_cons_of_mem _ hu)
    exact ⟨k :: ss, .cons k tk hs⟩
theorem strs_keys : ∀ {l : List Value} {ss : List Str}, StrsAre l ss → l.map (fun v => keyS (0, v)) = ss
  | _, _, .nil => rfl
  | _, _, .cons y t h => by
    rw [List.map_cons, strs_keys h] <;> rfl
section
variable {P : Program} {w : World} {A : Around} {E : Value → Shared → Prop} {s : Shared} {a : Addr}
theorem sorted_setS {S : Str → Bool} {n : Nat} {Q : Value → Shared → Prop} (R : SetS w s.heap a S n) (hh : A.handled = none) (h64 : n < 64)
    (hQ : ∀ s' p (out : Array Value) (c : Nat) (ss : List Str), (∀ b o, s.heap.get? b = some o → s'.heap.get? b = some o) → s'.gens = s.gens → s'.os = s.os → s.heap.objs.size ≤ p →
      s'.heap.get? p = some (seqObj "list" out c) → StrsAre out.toList ss → sortedS ss = true → ss.Nodup → (∀ k, k ∈ ss ↔ S k = true) → ss.length = n → Q (.ref p) s') :
    wpAny (model P w) A (call (.builtin "sorted") [.ref a]) Q E s := by
  obtain ⟨o, es, ep, t, ho, hex, hd, g, nd, hm, hb, hf, hn, hr, hl⟩ := R
  refine Calls.call_function_entry kind_sorted plain_sorted entry_sorted (args_sorted1 _) ?_
  unfold Builtin.«sorted»
  refine wpAny_bind (m := checkCount "sorted" 1 1 _) (wpAny_pure ?_)
  refine wpAny_bind (collect_set (A := A.in1) hh ⟨o, ho, hex.1, hd⟩ hf hb hr hl fun s1 vs k1 hz g1 o1 pm => ?_)
  have hvl : vs.length = n := by rw [pm.length_eq, List.length_map, Array.length_toList]; exact hn
  obtain ⟨ys, hI⟩ := strs_of vs fun v hv => by
    obtain ⟨e, he, q⟩ := List.mem_map.mp (pm.mem_iff.mp hv)
    obtain ⟨k, tk, h1, _⟩ := g e he
    exact ⟨k, tk, by rw [← q]; exact h1⟩
  have pk : ys.Perm (es.toList.map keyS) := by
    have q := pm.map (fun v => keyS (0, v))
    rw [strs_keys hI, List.map_map] at q
    exact q
  refine wpAny_bind (wpAny_newList ?_ (by rw [hvl, sizeLine_eq]; omega))
  have hoL : (s1.heap.push (seqObj "list" vs.toArray 0)).get? s1.heap.objs.size = some (seqObj "list" vs.toArray 0) := Heap.get?_push_size _ rfl
  refine wpAny_bind (wpAny_holding (wpAny_call_entry slot_list_sort ⟨_, hoL, rfl⟩ entry_list_sort
    (list_sort_treeK strKind_oneLt hoL hI.keysOf (fun v₁ v₂ rest e => keyKind_strs (by rw [← e]; exact hI)) (by rw [hvl]; exact h64) fun st' hp hs => ⟨_, rfl, ?_⟩) (args_list_sort _)))
  obtain ⟨ss, a1, a2, a3⟩ := sorted_out_str hI hp hs
  obtain ⟨c, hc⟩ := sortedHeap_at (vs := vs) (out := (arrOf st').map (·.2)) hoL
  have pn : ss.Perm (es.toList.map keyS) := a2.trans pk
  refine wpAny_pure ⟨_, rfl, hQ _ s1.heap.objs.size ((arrOf st').map (·.2)) c ss (fun b u e => ?_) g1 o1 hz hc a1 a3 (pn.nodup_iff.mpr nd) (fun k => by rw [pn.mem_iff, ← hm k]) ?_⟩
  · have q := k1 b u e
    have hlt := Heap.lt_size q
    show (sortedHeap (s1.heap.push (seqObj "list" vs.toArray 0)) s1.heap.objs.size vs ((arrOf st').map (·.2))).get? b = some u
    rw [sortedHeap_old (Nat.ne_of_lt hlt) (by rw [size_push']; exact Nat.lt_succ_of_lt hlt)]
    exact Heap.get?_push_of_some _ q
  · rw [pn.length_eq, List.length_map, Array.length_toList]; exact hn
end
/-! ### the rules -/
def SetSO (w : World) (a : Addr) (S : Str → Bool) (n : Nat) : HO := .ext fun h => SetS w h a S n
section
variable {X : Cx}
theorem setSO_new {w : World} {P : Program} {H : Hp} {h : Heap} {a : Addr} {S : Str → Bool} {n : Nat} (R : SetS w h a S n) : ObjOk P w H h a (SetSO w a S n) := by
  have ⟨o, _, _, _, ho, _⟩ := R
  exact ⟨R, ⟨o, ho⟩, fun h1 h2 p k => SetS.at p k⟩
theorem strs_vals : ∀ {ys : List Str} {us : List Value}, Vals (ys.map V.str) us → StrsAre us ys
  | [], _, .nil => .nil
  | y :: ys, _, .cons r t => by
    obtain ⟨tk, rfl⟩ := r
    exact .cons y tk (strs_vals t)
theorem vals_strs : ∀ {us : List Value} {ys : List Str}, StrsAre us ys → Vals (ys.map V.str) us
  | _, _, .nil => .nil
  | _, _, .cons y t h => .cons ⟨t, rfl⟩ (vals_strs h)
def rSetOfS (K : PySem.W.Frag) (w : World) : List V → Hp → VK → Prop := fun xs H Q => ∃ (l : Addr) (ys : List Str), xs = [V.ref l] ∧ SqL K H l (ys.map V.str) ∧ ys.length < 64 ∧
  ∀ a n, H a = none → n ≤ ys.length → Q (.ref a) (upd H a (SetSO w a (fun x => decide (x ∈ ys)) n))
theorem cr_setOfS (hc : X.calm = true) : CallR X (.type "set") (rSetOfS X.K X.w) := by
  intro pins s σ H xs us Q I r h
  obtain ⟨l, ys, rfl, hl, hf, q⟩ := h
  rw [Vals.ref1 r]
  obtain ⟨its, rv, pl, hz⟩ := I.list hl
  have hn : H s.heap.objs.size = none := I.hok.fresh (Nat.le_refl _)
  refine call_set_strs (P := X.prog) (w := X.w) ys (I.ok.hd hc) pl.isList (by simpa using strs_vals rv) (by have : (64 : Nat) < scanBound := by decide
                                                                                                            omega) fun h' tk c R hle k => ?_
  exact ⟨.ref s.heap.objs.size, upd H s.heap.objs.size (SetSO X.w s.heap.objs.size (fun x => decide (x ∈ ys)) c), I.laid (t' := tk) k (Nat.le_refl _) (setSO_new R), rfl, q _ c hn hle⟩
def rSortedS (w : World) : List V → Hp → VK → Prop := fun vs H Q => ∃ (a : Addr) (S : Str → Bool) (n : Nat), vs = [V.ref a] ∧ H a = some (SetSO w a S n) ∧ n < 64 ∧
  ∀ (ss : List Str) (p : Addr), sortedS ss = true → ss.Nodup → (∀ k, k ∈ ss ↔ S k = true) → ss.length = n → H p = none → Q (.ref p) (upd H p (.lst (ss.map V.str)))
theorem cr_sortedS (hc : X.calm = true) : CallR X (.builtin "sorted") (rSortedS X.w) := by
  intro pins s σ H vs us Q I r h
  obtain ⟨a, S, n, rfl, ha, h64, q⟩ := h
  have R : SetS X.w s.heap a S n := (I.hok a _ ha).1
  rw [Vals.ref1 r]
  refine sorted_setS R (I.ok.hd hc) h64 fun s' p out c ss k g o hp hg hi hs hnd hm hl => ?_
  have hlen : (ss.map V.str).length ≤ sizeLine := by rw [List.length_map, hl, sizeLine_eq]; omega
  have hn : H p = none := I.hok.fresh hp
  have J : Inv X pins σ (upd H p (.lst (ss.map V.str))) { s with heap := s'.heap, gens := s'.gens, drawn := s'.drawn, toks := s'.toks } :=
    I.call (ch := []) (Un.laid k hp hn) (I.hok.laid k hp ⟨hlen, out.toList, c, vals_strs hi, hg⟩) (by rw [g]; exact I.bare) (fun _ z => nomatch z)
  have e : s' = { s with heap := s'.heap, gens := s'.gens, drawn := s'.drawn, toks := s'.toks } := by
    cases s'
    cases s
    cases o
    rfl
  rw [e]
  exact ⟨.ref p, _, J, rfl, q ss p hs hnd hm hl hn⟩
end
theorem rds_of_strs {K : PySem.W.Frag} {π : Pi} {H : Hp} : ∀ ss : List Str, RDs K π H (ss.map D.str) (ss.map V.str)
  | [] => .nil
  | x :: ss => .cons (.str x) (rds_of_strs ss)
section
variable {X : Cx} {S : Sta} {κ : Kx} {k : Nat} (G : Good X S κ k)
include G
/-- sorted(set(xs)) -/
theorem d_sortedSet {a : Expr} {m : Env → HS → R D} {p1 p2 pos1 pos2 : Pos} {x y : Str} (hx : x = "sorted") (hy : y = "set") (hg1 : Gl X x) (hm1 : X.mg x = none) (hg2 : Gl X y) (hm2 : X.mg y = none) (ha : PA X [a] (tCons (tD X S m) tNil)) (hs : starEach [a] X.env = [(false, eval a X.env)]) :
    PE X (.Call (.Name x p1) [.Call (.Name y p2) [a] [] pos2] [] pos1) (tD X S fun ρ h => (m ρ h).bind opSSet) := by
  subst hx hy
  have inner : PE X (.Call (.Name "set" p2) [a] [] pos2) (tCB (rSetOfS X.K X.w) (tCons (tD X S m) tNil)) := pe_callTy (cr_setOfS G.calm) hg2 hm2 (by decide +kernel) ha (by decide) (by decide) hs rfl
  have outer := pe_callB (id := "sorted") (pos := pos1) (p := p1) (cr_sortedS G.calm) hg1 hm1 (by decide +kernel) (pa_cons inner pa_nil rfl) (by decide) (by decide) rfl rfl
  refine outer.imp fun σ H Q q => ?_
  refine seq1 G q fun d v π H1 hs1 rel rv p => ?_
  cases d <;> try exact p.elim
  rename_i xs
  cases rv with
  | lst hl hd =>
    rename_i ad vs
    simp only [opSSet] at p
    split at p
    · rename_i ys hys
      split at p
      · rename_i h64
        obtain rfl := strsOf_rd hd hys
        refine ⟨ad, ys, rfl, hl.sq, h64, fun b n hb hn => ?_⟩
        refine ⟨b, _, n, rfl, upd_same, by omega, fun ss c hso hnd hm hlen hc => ?_⟩
        have hp : ss.Perm ys.eraseDups := (List.perm_ext_iff_of_nodup hnd nodup_dups).mpr fun z => by
          rw [hm z, List.mem_eraseDups, decide_eq_true_eq]
        have es : sortD (ys.eraseDups.map D.str) = ss.map D.str := sortD_strs (sortedS_pw hso) hp
        rw [es] at p
        have rel1 := rel.new (o := SetSO X.w b (fun x => decide (x ∈ ys)) n) hb
        refine p π _ _ ((Ext.new hb).trans (.new hc)) (rel1.new hc) (RD.newL rel1 hc ?_)
        exact rds_of_strs ss
      · exact p.elim
    · exact p.elim
end
end VE
set_option Elab.async false
set_option linter.all false
set_option maxRecDepth 100000
set_option maxHeartbeats 1000000
set_option autoImplicit false
/-! V21: tables of the rules -/
namespace VE
open PySem PySem.Spec PyProof.Rows L2
section
variable {X : Cx} {S : Sta} {κ : Kx} {k : Nat} (G : Good X S κ k)
def boOk : BO → Operator → Bool
  | .add, .Add => true
  | .sub, .Sub => true
  | .mul, .Mult => true
  | .fdiv, .FloorDiv => true
  | .mod, .Mod => true
  | .pow, .Pow => true
  | _, _ => false
include G
theorem bin_rule {o : BO} {op : Operator} (h : boOk o op = true) : ∃ r, OpR X (binaryOp op) r ∧ R2D X S (opBin o) r := by
  unfold boOk at h
  split at h
  · exact ⟨_, or_add, r2_add G⟩
  · exact ⟨_, op_sub, r2_sub G⟩
  · exact ⟨_, or_mul, r2_mul G⟩
  · exact ⟨_, op_fdivN, r2_fdiv G⟩
  · exact ⟨_, op_modN, r2_mod G⟩
  · exact ⟨_, op_pow, r2_pow G⟩
  · cases h
omit G in
def coOk : CO → CmpOp → Bool
  | .eq, .Eq => true
  | .ne, .NotEq => true
  | .lt, .Lt => true
  | .le, .LtE => true
  | .gt, .Gt => true
  | .ge, .GtE => true
  | .is, .Is => true
  | .isnt, .IsNot => true
  | .inn, .In => true
  | .notin, .NotIn => true
  | _, _ => false
theorem cmp_rule {o : CO} {op : CmpOp} (h : coOk o op = true) : ∃ r, OpR X (compareOp op) r ∧ R2D X S (opCmp o) r := by
  unfold coOk at h
  split at h
  · exact ⟨_, or_eq G, r2_eq G⟩
  · exact ⟨_, or_ne G, r2_ne G⟩
  · exact ⟨_, or_lt G, r2_lt G⟩
  · exact ⟨_, or_le G, r2_le G⟩
  · exact ⟨_, or_gt G, r2_gt G⟩
  · exact ⟨_, or_ge G, r2_ge G⟩
  · exact ⟨_, op_is_bl, r2_is G⟩
  · exact ⟨_, op_isnot_bl, r2_isnt G⟩
  · exact ⟨_, or_in G, r2_in G⟩
  · exact ⟨_, or_notin G, r2_notin G⟩
  · cases h
/-! built-ins -/
omit G in
/-- a built-in by its name: a function, a class -/
def biFn : BI → Option Str
  | .len => some "len"
  | .abs => some "abs"
  | .min => some "min"
  | .max => some "max"
  | .minL => some "min"
  | .maxL => some "max"
  | .sorted => some "sorted"
  | .all => some "all"
  | .any => some "any"
  | .divmod => some "divmod"
  | .repr => some "repr"
  | _ => none
omit G in
def biTy : BI → Option Str
  | .int => some "int"
  | .tuple => some "tuple"
  | .tupleP => some "tuple"
  | .list => some "list"
  | _ => none
theorem bi_fn {b : BI} {x : Str} (h : biFn b = some x) : ∃ id r, bootBuiltins x = some (.builtin id) ∧ x ≠ "__name__" ∧ (x == ("__debug__" : Str)) = false ∧ CallR X (.builtin id) r ∧ RAD X S (opBi b) r := by
  match b, h with
  | .len, h => cases h; exact ⟨"len", _, by decide +kernel, by decide, by decide, cr_len, ra_len⟩
  | .abs, h => cases h; exact ⟨"abs", _, by decide +kernel, by decide, by decide, call_abs, ra_abs⟩
  | .min, h => cases h; exact ⟨"min", _, by decide +kernel, by decide, by decide, cr_minD G, ra_min G⟩
  | .max, h => cases h; exact ⟨"max", _, by decide +kernel, by decide, by decide, cr_maxD G, ra_max G⟩
  | .minL, h => cases h; exact ⟨"min", _, by decide +kernel, by decide, by decide, cr_min G.calm, ra_minL⟩
  | .maxL, h => cases h; exact ⟨"max", _, by decide +kernel, by decide, by decide, cr_max G.calm, ra_maxL⟩
  | .sorted, h => cases h; exact ⟨"sorted", _, by decide +kernel, by decide, by decide, cr_sortD G, ra_sorted G⟩
  | .all, h => cases h; exact ⟨"all", _, by decide +kernel, by decide, by decide, cr_all G.calm, ra_all⟩
  | .any, h => cases h; exact ⟨"any", _, by decide +kernel, by decide, by decide, cr_any G.calm, ra_any⟩
  | .divmod, h => cases h; exact ⟨"divmod", _, by decide +kernel, by decide, by decide, call_divmod, ra_divmod G⟩
  | .repr, h => cases h; exact ⟨"repr", _, by decide +kernel, by decide, by decide, cr_reprD G, ra_repr G⟩
theorem bi_ty {b : BI} {x : Str} (h : biTy b = some x) : ∃ id r, bootBuiltins x = some (.type id) ∧ x ≠ "__name__" ∧ (x == ("__debug__" : Str)) = false ∧ CallR X (.type id) r ∧ RAD X S (opBi b) r := by
  match b, h with
  | .int, h => cases h; exact ⟨"int", _, by decide +kernel, by decide, by decide, call_int1, ra_int⟩
  | .tupleP, h => cases h; exact ⟨"tuple", _, by decide +kernel, by decide, by decide, cr_tupP, ra_tupP G⟩
  | .tuple, h => cases h; exact ⟨"tuple", _, by decide +kernel, by decide, by decide, call_tuple_of, ra_tuple G⟩
  | .list, h => cases h; exact ⟨"list", _, by decide +kernel, by decide, by decide, call_list_of, ra_list G⟩
def isTyN : BI → Option (String × Str)
  | .isInt => some ("int", "int")
  | .isBool => some ("bool", "bool")
  | .isTup => some ("tuple", "tuple")
  | .isStr => some ("str", "str")
  | _ => none
theorem d_is {b : BI} {T : String} {tn x : Str} {e : Expr} {m : Env → HS → R D} {p p2 pos : Pos} (hb : isTyN b = some (T, tn)) (hx : x = "isinstance") (hg : Gl X x) (hm : X.mg x = none) (hg2 : Gl X tn) (hm2 : X.mg tn = none) (he : PE X e (tD X S m)) (hs : starEach [e, .Name tn p2] X.env = (false, eval e X.env) :: starEach [.Name tn p2] X.env) :
    PE X (.Call (.Name x p) [e, .Name tn p2] [] pos) (tD X S fun ρ h => (m ρ h).bind fun d h1 => opBi b [d] h1) := by
  subst hx
  have hty : PE X (.Name tn p2) (tC (.ty T)) := by
    cases b <;> cases hb <;> exact pe_bltn (v := .ty _) hg2 hm2 (by decide +kernel) rfl (by decide) (by decide)
  have hpa : PA X [e, .Name tn p2] (tCons (tD X S m) (tCons (tC (.ty T)) tNil)) := pa_cons he (pa_cons hty pa_nil rfl) hs
  refine (pe_callB call_isi hg hm (by decide +kernel) hpa (by decide) (by decide) hs rfl).imp fun σ H Q ⟨π, ρ, hs, rel, sl, p'⟩ => ?_
  refine ⟨π, ρ, hs, rel, sl, gp_bind p' fun d hs1 π1 H1 v e1 rel1 r1 p1 => ?_⟩
  have hT : tyOf b = T := by cases b <;> cases hb <;> rfl
  obtain ⟨t, bb, ty, kt, q⟩ := ra_is b (by cases b <;> first | (cases hb; done) | simp) rel1 r1 p1
  rw [hT] at kt
  exact ⟨v, .ty T, .type t, .type T, bb, rfl, .ty T, ty, kit_ty kt, q⟩
end
end VE
set_option Elab.async false
set_option linter.all false
set_option maxRecDepth 100000
set_option maxHeartbeats 1000000
set_option autoImplicit false
/-! V22: the check of a tree against the fragment -/
namespace VE
open PySem PySem.Spec PyProof.Rows L2
/-- what a law's program gives the check: its functions by name, their parameters, the names that stand for built-ins, its constants, the names that the functions made within defs capture -/
structure GI where
  fns : List (Str × Nat)
  fps : List (List Str)
  none_ : List Str
  gcd : Bool
  gls : List (Str × D)
  frs : List (List Str)
abbrev Ck := Option (List (Nat × CodeT))
def okC (b : Bool) : Ck := if b then some [] else none
def andC (x y : Ck) : Ck := match x, y with
  | some a, some b => some (a ++ b)
  | _, _ => none
instance : HAnd Ck Ck Ck := ⟨andC⟩
theorem okC_some {b : Bool} {l : List (Nat × CodeT)} (h : okC b = some l) : b = true ∧ l = [] := by
  unfold okC at h
  split at h
  · rename_i hb; cases h; exact ⟨hb, rfl⟩
  · cases h
theorem andC_some {x y : Ck} {l : List (Nat × CodeT)} (h : andC x y = some l) : ∃ a b, x = some a ∧ y = some b ∧ l = a ++ b := by
  unfold andC at h
  split at h
  · cases h; exact ⟨_, _, rfl, rfl, rfl⟩
  · cases h
mutual
def D.same : D → D → Bool
  | .non, .non => true
  | .bl a, .bl b => a == b
  | .int i, .int j => decide (i = j)
  | .str x, .str y => decide (x = y)
  | .tup xs, .tup ys => D.sames xs ys
  | .ctp xs, .ctp ys => D.sames xs ys
  | _, _ => false
def D.sames : List D → List D → Bool
  | [], [] => true
  | x :: xs, y :: ys => D.same x y && D.sames xs ys
  | _, _ => false
end
mutual
theorem D.same_eq : ∀ (a b : D), D.same a b = true → a = b
  | .non, b, h => by cases b <;> first | rfl | (simp [D.same] at h; done)
  | .bl a, b, h => by cases b <;> first | (simp [D.same] at h; subst h; rfl) | (simp [D.same] at h; done)
  | .int a, b, h => by cases b <;> first | (simp [D.same] at h; subst h; rfl) | (simp [D.same] at h; done)
  | .str a, b, h => by cases b <;> first | (simp [D.same] at h; subst h; rfl) | (simp [D.same] at h; done)
  | .tup xs, b, h => by
    cases b with
    | tup ys => rw [D.sames_eq xs ys (by simpa [D.same] using h)]
    | _ => simp [D.same] at h
  | .lst _, b, h => by cases b <;> (simp [D.same] at h; done)
  | .scr _, b, h => by cases b <;> (simp [D.same] at h; done)
  | .ref _, b, h => by cases b <;> (simp [D.same] at h; done)
  | .fn _ _, b, h => by cases b <;> (simp [D.same] at h; done)
  | .gfn _, b, h => by cases b <;> (simp [D.same] at h; done)
  | .ndf _, b, h => by cases b <;> (simp [D.same] at h; done)
  | .ctp xs, b, h => by
    cases b with
    | ctp ys => rw [D.sames_eq xs ys (by simpa [D.same] using h)]
    | _ => simp [D.same] at h
theorem D.sames_eq : ∀ (a b : List D), D.sames a b = true → a = b
  | [], b, h => by cases b <;> first | rfl | (simp [D.sames] at h; done)
  | x :: xs, b, h => by
    cases b with
    | nil => simp [D.sames] at h
    | cons y ys =>
      simp [D.sames] at h
      rw [D.same_eq x y h.1, D.sames_eq xs ys h.2]
end
/-! ### names -/
def nameB (x : Str) : Bool := !(x == ("__debug__" : Str)) && !(x == ("__classdict__" : Str))
def visB (κ : Kx) (x : Str) : Bool := match κ.sc.names.lookup x with
  | some .local => true
  | some .cell => true
  | some .free => true
  | _ => false
def locB (κ : Kx) (x : Str) : Bool := (match κ.sc.names.lookup x with
  | some .local => true
  | some .cell => κ.fn x
  | _ => false)
def glB (κ : Kx) (x : Str) : Bool := decide (κ.sc.names.lookup x = some .globalImplicit)
def blB (g : GI) (κ : Kx) (x : Str) : Bool := glB κ x && g.none_.contains x
def atB (κ : Kx) (i : Nat) (x : Str) : Bool := decide (κ.N[i]? = some x)
def noStar : Expr → Bool
  | .Starred _ _ => false
  | _ => true
def noSuper : Expr → Bool
  | .Call _ (_ :: _) _ _ => true
  | .Call _ [] _ _ => false
  | _ => true
def noSlice : Expr → Bool
  | .Slice _ _ _ _ => false
  | _ => true
def noSet : Expr → Bool
  | .Set _ _ _ => false
  | _ => true
def noComp : Expr → Bool
  | .ListComp _ _ _ _ => false
  | .SetComp _ _ _ _ => false
  | .DictComp _ _ _ _ _ => false
  | _ => true
/-- a test that is a value -/
def tvB : Expr → Bool
  | .UnaryOp .Not _ _ => false
  | .BoolOp _ _ _ => false
  | .IfExp _ _ _ _ => false
  | .Compare _ _ _ _ => false
  | _ => true
/-! ### targets that are names -/
def chkN (κ : Kx) (vs : List Nat) : E → Expr → Bool
  | .var i, .Name x _ => atB κ i x && locB κ x && decide (i ∈ vs)
  | .tup t, .Tuple es _ _ => chkNs κ vs t es
  | _, _ => false
where chkNs (κ : Kx) (vs : List Nat) : E → List Expr → Bool
  | .nil, [] => true
  | .cons t r, x :: xs => noStar x && chkN κ vs t x && chkNs κ vs r xs
  | _, _ => false
def lamC (g : GI) (κ : Kx) (c : Nat) (params : Arguments) (body : Expr) (scope : Scope) : CodeT := ⟨"<lambda>", κ.qual ++ "<lambda>", params, .expr body, scope, g.frs.getD c []⟩
def slPart : Expr → Option (Option Expr × Option Expr)
  | .Slice l u none _ => some (l, u)
  | _ => none
/-- one clause; two clauses without conditions -/
def gen1 : List Comprehension → Option (Expr × Expr × List Expr)
  | [⟨tg, iter, ifs, 0⟩] => some (tg, iter, ifs)
  | _ => none
def gen2 : List Comprehension → Option (Expr × Expr × Expr × Expr)
  | [⟨tg, iter, [], 0⟩, ⟨tg1, iter1, [], 0⟩] => some (tg, iter, tg1, iter1)
  | _ => none
theorem gen1_eq {gs : List Comprehension} {tg iter : Expr} {ifs : List Expr} (h : gen1 gs = some (tg, iter, ifs)) : gs = [⟨tg, iter, ifs, 0⟩] := by
  unfold gen1 at h
  split at h
  · cases h; rfl
  · cases h
theorem gen2_eq {gs : List Comprehension} {tg iter tg1 iter1 : Expr} (h : gen2 gs = some (tg, iter, tg1, iter1)) : gs = [⟨tg, iter, [], 0⟩, ⟨tg1, iter1, [], 0⟩] := by
  unfold gen2 at h
  split at h
  · cases h; rfl
  · cases h
/-- a call by a name, without keywords, for a tuple of targets -/
def itCall : Expr → Expr → Option (Str × List Expr)
  | .Tuple _ _ _, .Call (.Name x _) xs [] _ => some (x, xs)
  | _, _ => none
theorem itCall_eq {tg x : Expr} {n : Str} {xs : List Expr} (h : itCall tg x = some (n, xs)) : ∃ elts k p p1 p2, tg = .Tuple elts k p ∧ x = .Call (.Name n p1) xs [] p2 := by
  unfold itCall at h
  split at h
  · cases h; exact ⟨_, _, _, _, _, rfl, rfl⟩
  · cases h
def revB : Expr → Bool
  | .Slice none none (some (.UnaryOp .USub (.Constant (.int 1) _ _) _)) _ => true
  | _ => false
theorem slPart_eq {y : Expr} {l u : Option Expr} (h : slPart y = some (l, u)) : ∃ p, y = .Slice l u none p := by
  unfold slPart at h
  split at h
  · cases h; exact ⟨_, rfl⟩
  · cases h
theorem revB_eq {y : Expr} (h : revB y = true) : ∃ k p1 p2 p3, y = .Slice none none (some (.UnaryOp .USub (.Constant (.int 1) k p1) p2)) p3 := by
  unfold revB at h
  split at h
  · exact ⟨_, _, _, _, rfl⟩
  · cases h
def rngCall : Expr → Option (Str × List Expr)
  | .Call (.Name y _) xs [] _ => some (y, xs)
  | _ => none
theorem rngCall_eq {x : Expr} {y : Str} {xs : List Expr} (h : rngCall x = some (y, xs)) : ∃ p1 p2, x = .Call (.Name y p1) xs [] p2 := by
  unfold rngCall at h
  split at h
  · cases h; exact ⟨_, _, rfl⟩
  · cases h
/-- a starred one, first or second -/
def starAt : List Expr → Option (Option Expr × Expr × List Expr)
  | .Starred y _ :: ys => some (none, y, ys)
  | x0 :: .Starred y _ :: ys => some (some x0, y, ys)
  | _ => none
theorem starAt_eq {xs ys : List Expr} {o : Option Expr} {y : Expr} (h : starAt xs = some (o, y, ys)) : ∃ p, xs = o.toList ++ .Starred y p :: ys := by
  unfold starAt at h
  split at h
  · cases h; exact ⟨_, rfl⟩
  · cases h; exact ⟨_, rfl⟩
  · cases h
/-! ### expressions -/
def mtName : MT → Option (Str × String)
  | .append => some ("append", "list.append")
  | .pop => some ("pop", "list.pop")
  | .extend => some ("extend", "list.extend")
  | .join => some ("join", "str.join")
  | .index => none
def fnB (g : GI) (κ : Kx) (f : Nat) (x : Str) : Bool := glB κ x && g.fns.contains (x, f) && nameB x
def fpsOf (g : GI) (f : Nat) : List Str := g.fps.getD f []
def kwNames : List Keyword → Option (List Str)
  | [] => some []
  | ⟨some n, _, _⟩ :: r => (kwNames r).map (n :: ·)
  | ⟨none, _, _⟩ :: _ => none
mutual
def chkE (g : GI) : E → Bool → Kx → Expr → Ck
  | .var i, t, κ, .Name x _ => okC (nameB x && atB κ i x && visB κ x)
  | .cst d, t, κ, .Constant c _ _ => okC (match d, c with
    | .non, .none => true
    | .bl a, .bool b => a == b
    | .int i, .int j => decide (i = j)
    | .str x, .str y => decide (x = y)
    | _, _ => false)
  | .gl x d, t, κ, .Name y _ => okC (decide (x = y) && nameB y && glB κ y && g.gls.any fun p => decide (p.1 = y) && D.same p.2 d)
  | .tup es, t, κ, .Tuple xs _ _ => okC (decide (xs.length ≤ 1000)) &&& chkL g es κ xs
  | .lst es, t, κ, .List xs _ => okC (decide (xs.length ≤ 1000)) &&& chkL g es κ xs
  | .lstO es, t, κ, .List xs _ => okC (decide (xs.length ≤ 1000)) &&& chkL g es κ xs
  | .callK f es kws ks perm, t, κ, .Call (.Name x _) xs kw _ => okC (fnB g κ f x && decide (kwNames kw = some ks) && kwB (fpsOf g f) ks xs.length perm && decide (ks.length = kw.length)) &&& chkL g es κ xs &&& chkK g kws κ kw
  | .callF f es, t, κ, .Call (.Name x _) xs [] _ => okC (fnB g κ f x && κ.code.isSome && !xs.isEmpty) &&& chkW g es κ xs
  | .callV i es, t, κ, .Call (.Name x _) xs [] _ => okC (nameB x && atB κ i x && visB κ x && !xs.isEmpty) &&& chkL g es κ xs
  | .isT b e, t, κ, .Call (.Name x _) [a, .Name y _] [] _ => okC (decide (x = "isinstance") && blB g κ x && (match isTyN b with | some p => decide (y = p.2) | none => false) && blB g κ y && noStar a) &&& chkE g e false κ a
  | .bi b es, t, κ, .Call (.Name x _) xs [] _ => okC ((match biFn b, biTy b with
        | some y, _ => decide (x = y) && blB g κ x
        | none, some y => decide (x = y) && blB g κ x
        | none, none => (match b with | .gcd => g.gcd && decide (x = "gcd") && glB κ x | _ => false)) && !xs.isEmpty) &&& chkL g es κ xs
  | .mt m e es, t, κ, .Call (.Attribute o name apos) xs [] cpos => okC ((match mtName m with
        | some p => decide (p.1 = name)
        | none => false) && (apos.endLine == cpos.line) && noSuper o && decide (xs.length < 20) && (match m with | .pop => xs.isEmpty && isNil es | _ => !xs.isEmpty)) &&& chkE g e false κ o &&& chkL g es κ xs
  | .bin o a b, t, κ, .BinOp x op y _ => okC (boOk o op) &&& chkE g a false κ x &&& chkE g b false κ y
  | .neg a, t, κ, .UnaryOp .USub x _ => chkE g a false κ x
  | .cmp o a b, t, κ, .Compare x [op] [y] _ => match o, op, y, b with
    | .isN, .Is, .Constant .none _ _, .cst .non => chkE g a false κ x
    | .notN, .IsNot, .Constant .none _ _, .cst .non => chkE g a false κ x
    | _, _, _, _ => okC (coOk o op && !behindInMarks op y) &&& chkE g a false κ x &&& chkE g b false κ y
  | .ch o1 o2 a b c, t, κ, .Compare x [op1, op2] [y, z] _ => okC (coOk o1 op1 && coOk o2 op2 && !lastMarks [op1, op2] [y, z]) &&& chkE g a false κ x &&& chkE g b false κ y &&& chkE g c false κ z
  | .and a b, t, κ, .BoolOp .And (x :: y :: rest) pos => chkE g a t κ x &&& chkE g b t κ (.BoolOp .And (y :: rest) pos)
  | .or a b, t, κ, .BoolOp .Or (x :: y :: rest) pos => chkE g a t κ x &&& chkE g b t κ (.BoolOp .Or (y :: rest) pos)
  | .one a, t, κ, .BoolOp _ [x] _ => chkE g a t κ x
  | .not a, t, κ, .UnaryOp .Not x _ => chkE g a t κ x
  | .ife c a b, t, κ, .IfExp x y z _ => okC (!t) &&& chkE g c true κ x &&& chkE g a false κ y &&& chkE g b false κ z
  | .ix a i, t, κ, .Subscript x y _ => okC (noSlice y) &&& chkE g a false κ x &&& chkE g i false κ y
  | .sl a lo hi, t, κ, .Subscript x y _ => match slPart y with
    | some (l, u) => chkE g a false κ x &&& (match l with | some y => okC (!isNil lo) &&& chkE g lo false κ y | none => okC (isNil lo)) &&& (match u with | some y => okC (!isNil hi) &&& chkE g hi false κ y | none => okC (isNil hi))
    | none => none
  | .rev a, t, κ, .Subscript x y _ => okC (revB y) &&& chkE g a false κ x
  | .comp it tt c e own, t, κ, .ListComp elt gens scope _ => match gen1 gens with
    | some (tg, iter, ifs) => okC (blkC κ.N κ.sc scope own && chkN (κ.blk scope) (own.map (·.2)) tt tg && noSet iter) &&& chkI g it κ tg iter &&&
      (match ifs with | [] => okC (isNil c) | [x] => okC (!isNil c) &&& chkE g c true (κ.blk scope) x | _ => none) &&& chkE g e false (κ.blk scope) elt
    | none => none
  | .comp2 it tt it2 t2 e own vs1, t, κ, .ListComp elt gens scope _ => match gen2 gens with
    | some (tg, iter, tg1, iter1) => okC (blkC κ.N κ.sc scope own && chkN (κ.blk scope) (own.map (·.2)) tt tg && chkN (κ.blk scope) vs1 t2 tg1 && (vs1.all fun i => decide (i ∈ own.map (·.2))) && noSet iter && noSet iter1) &&& chkI g it κ tg iter &&&
      chkI g it2 (κ.blk scope) tg1 iter1 &&& chkE g e false (κ.blk scope) elt
    | none => none
  | .dctO, t, κ, .Dict [] [] _ => some []
  | .dctTO, t, κ, .Dict [] [] _ => some []
  | .dgt a i, t, κ, .Subscript x y _ => okC (noSlice y) &&& chkE g a false κ x &&& chkE g i false κ y
  | .din a d, t, κ, .Compare x [.In] [y] _ => okC (!behindInMarks .In y) &&& chkE g a false κ x &&& chkE g d false κ y
  | .dnin a d, t, κ, .Compare x [.NotIn] [y] _ => okC (!behindInMarks .NotIn y) &&& chkE g a false κ x &&& chkE g d false κ y
  | .lsd e, t, κ, .Call (.Name x _) [a] [] _ => okC (decide (x = "list") && blB g κ x && noStar a) &&& chkE g e false κ a
  | .dctL e, t, κ, .Call (.Name x _) [a] [] _ => okC (decide (x = "dict") && blB g κ x && noStar a) &&& chkE g e false κ a
  | .sum1 e, t, κ, .Call (.Name x _) [a] [] _ => okC (decide (x = "sum") && blB g κ x && noStar a) &&& chkE g e false κ a
  | .listRange es, t, κ, .Call (.Name x _) [r] [] _ => match rngCall r with
    | some (y, xs) => okC (decide (x = "list") && blB g κ x && decide (y = "range") && blB g κ y && (decide (xs.length = 1) || decide (xs.length = 2))) &&& chkL g es κ xs
    | none => none
  | .sortedSet e, t, κ, .Call (.Name x _) [r] [] _ => match rngCall r with
    | some (y, [a]) => okC (decide (x = "sorted") && blB g κ x && decide (y = "set") && blB g κ y && noStar a) &&& chkE g e false κ a
    | _ => none
  | .tupS a p b, t, κ, .Tuple xs _ _ => match starAt xs with
    | some (none, y, ys) => okC (isNil a) &&& chkE g p false κ y &&& chkL g b κ ys
    | some (some x0, y, ys) => okC (!isNil a && noStar x0) &&& chkE g a false κ x0 &&& chkE g p false κ y &&& chkL g b κ ys
    | none => none
  | .lstS a p b, t, κ, .List xs _ => match starAt xs with
    | some (none, y, ys) => okC (isNil a) &&& chkE g p false κ y &&& chkL g b κ ys
    | _ => none
  | .idx a e, t, κ, .Call (.Attribute o name apos) [x] [] cpos => okC (decide (name = "index") && (apos.endLine == cpos.line) && noSuper o && noStar x) &&& chkE g a false κ o &&& chkE g e false κ x
  | _, _, _, _ => none
def chkL (g : GI) : E → Kx → List Expr → Ck
  | .nil, κ, [] => some []
  | .cons e r, κ, x :: xs => okC (noStar x) &&& chkE g e false κ x &&& chkL g r κ xs
  | _, _, _ => none
def chkK (g : GI) : E → Kx → List Keyword → Ck
  | .nil, κ, [] => some []
  | .cons e r, κ, ⟨_, x, _⟩ :: xs => chkE g e false κ x &&& chkK g r κ xs
  | _, _, _ => none
/-- arguments with functions among them -/
def chkW (g : GI) : E → Kx → List Expr → Ck
  | .nil, κ, [] => some []
  | .cons e r, κ, x :: xs => okC (noStar x) &&& (match e, x with
      | .gfn f, .Name y _ => okC (fnB g κ f y)
      | .fnv i, .Name y _ => okC (nameB y && atB κ i y && visB κ y)
      | .ndv i c js, .Name y _ => okC (nameB y && atB κ i y && visB κ y && decide (js.map (fun j => κ.N[j]?) = (g.frs.getD c []).map some))
      | .lam c js, .Lambda params body scope pos => okC (lamB κ (lamC g κ c params body scope) js pos) &&& (some [(c, lamC g κ c params body scope)] : Ck)
      | _, _ => chkE g e false κ x) &&& chkW g r κ xs
  | _, _, _ => none
/-- what is walked -/
def chkI (g : GI) : E → Kx → Expr → Expr → Ck
  | .iseq e, κ, tg, x => chkE g e false κ x
  | .irng es, κ, tg, .Call (.Name x _) xs [] _ => okC (decide (x = "range") && blB g κ x && (decide (xs.length = 1) || decide (xs.length = 2))) &&& chkL g es κ xs
  | .ienum e, κ, tg, x => match itCall tg x with
    | some (n, [y]) => okC (decide (n = "enumerate") && blB g κ n && noStar y) &&& chkE g e false κ y
    | _ => none
  | .izip a b, κ, tg, x => match itCall tg x with
    | some (n, [y, z]) => okC (decide (n = "zip") && blB g κ n && noStar y && noStar z) &&& chkE g a false κ y &&& chkE g b false κ z
    | _ => none
  | _, _, _, _ => none
end
end VE
set_option Elab.async false
set_option linter.all false
set_option maxRecDepth 100000
set_option maxHeartbeats 1000000
set_option autoImplicit false
/-! V23: a tree that passes the check does what the fragment says -/
namespace VE
open PySem PySem.Spec PyProof.Rows L2
structure GOk (g : GI) (X : Cx) (S : Sta) : Prop where
  gf : ∀ x i, g.fns.contains (x, i) = true → ∃ a, S.fad i = some a ∧ X.mg x = some (.ref a)
  nn : ∀ x, g.none_.contains x = true → X.mg x = none
  gl : ∀ p ∈ g.gls, ∃ u v, X.mg p.1 = some u ∧ RelV v u ∧ ∀ π H, RD X.K π H p.2 v
  gc : g.gcd = true → X.mg "gcd" = some (.builtin "math.gcd")
  fr : ∀ c C, S.cod c = some C → C.fr = g.frs.getD c []
/-! ### looks at trees -/
section
variable {env : PySem.Env}
theorem star_cons {a : Expr} {es : List Expr} (h : noStar a = true) : starEach (a :: es) env = (false, eval a env) :: starEach es env := by
  cases a <;> first | rfl | (simp [noStar] at h; done)
theorem star_any {pos : Pos} : ∀ {xs : List Expr}, xs.all noStar = true → (backTo pos (starEach xs env)).any (·.1) = false
  | [], _ => rfl
  | a :: xs, h => by
    rw [List.all_cons, Bool.and_eq_true] at h
    rw [star_cons h.1]
    show (false || (backTo pos (starEach xs env)).any (·.1)) = false
    rw [star_any h.2]; rfl
theorem star_all {pos : Pos} : ∀ {xs : List Expr}, xs.all noStar = true → (backTo pos (starEach xs env)).all (fun x => !x.1) = true
  | [], _ => rfl
  | a :: xs, h => by
    rw [List.all_cons, Bool.and_eq_true] at h
    rw [star_cons h.1]
    show (true && (backTo pos (starEach xs env)).all (fun x => !x.1)) = true
    rw [star_all h.2]; rfl
theorem kw_look {pos : Pos} : ∀ {kw : List Keyword} {ks : List Str}, kwNames kw = some ks → (backToKw pos (keywordEach kw env)).all (·.1.isSome) = true ∧ (backToKw pos (keywordEach kw env)).filterMap (·.1) = ks ∧ (backToKw pos (keywordEach kw env)).any (·.1.isNone) = false
  | [], ks, h => by cases h; exact ⟨rfl, rfl, rfl⟩
  | ⟨some n, v, p⟩ :: r, ks, h => by
    unfold kwNames at h
    cases hr : kwNames r with
    | none => rw [hr] at h; cases h
    | some ks' =>
      rw [hr] at h; cases h
      obtain ⟨h1, h2, h3⟩ := kw_look (pos := pos) hr
      refine ⟨?_, ?_, ?_⟩
      · show (true && (backToKw pos (keywordEach r env)).all (·.1.isSome)) = true
        rw [h1]; rfl
      · show n :: (backToKw pos (keywordEach r env)).filterMap (·.1) = _
        rw [h2]
      · show (false || (backToKw pos (keywordEach r env)).any (·.1.isNone)) = false
        rw [h3]; rfl
  | ⟨none, _, _⟩ :: _, _, h => by cases h
theorem super_no {o : Expr} {name : Str} (h : noSuper o = true) : attributeBase o name env (eval o env) = eval o env := by
  cases o <;> try rfl
  rename_i f xs kw pos
  cases xs with
  | nil => simp [noSuper] at h
  | cons x xs => cases f <;> rfl
theorem slice_no {b : Expr} (h : noSlice b = true) : PlainIx b := fun o i => by
  cases b <;> first | rfl | (simp [noSlice] at h; done)
theorem set_no {e : Expr} (h : noSet e = true) (x : Value) : foldedSetIterable e env x = pure x := by
  cases e <;> first | rfl | (simp [noSet] at h; done)
theorem tv_true {e : Expr} (h : tvB e = true) (whole : Sem Value) : isTrue e env whole = (do let v ← whole; standAt e.pos; holding [v] (truthy v)) := by
  cases e <;> first
    | rfl
    | (simp [tvB] at h; done)
    | (rename_i op a p; cases op <;> first | rfl | (simp [tvB] at h; done))
end
theorem ev_len {F : Nat → List D → HS → R D} {Gf : Nat → List D → List D → HS → R D} : ∀ (e : E) {n : Nat} {ρ : Env} {h : HS} {d : D} {h' : HS}, chainE e = some n → ev F Gf e ρ h = .ok d h' → (its d).length = n := by
  intro e
  induction e with
  | nil => intro n ρ h d h' c q; cases c; cases q; rfl
  | cons e r _ ih =>
    intro n ρ h d h' c q
    unfold chainE at c
    cases hc : chainE r with
    | none => rw [hc] at c; cases c
    | some m =>
      rw [hc] at c
      have c : m + 1 = n := Option.some.inj c
      unfold ev at q
      cases h1 : ev F Gf e ρ h with
      | bad => rw [h1] at q; cases q
      | exc c' d' hh => rw [h1] at q; cases q
      | ok d1 hs1 =>
        rw [h1] at q
        simp only [VE.R.bind_ok] at q
        cases h2 : ev F Gf r ρ hs1 with
        | bad => rw [h2] at q; cases q
        | exc c' d' hh => rw [h2] at q; cases q
        | ok d2 hs2 =>
          rw [h2] at q
          cases q
          show (its d2).length + 1 = n
          rw [ih hc h2, c]
  | _ => intro n ρ h d h' c q; cases c
/-! ### what is to be shown -/
structure Snd (g : GI) (F : Nat → List D → HS → R D) (Gf : Nat → List D → List D → HS → R D) (e : E) : Prop where
  val : ∀ (X : Cx) (S : Sta) (κ : Kx) (k : Nat) (x : Expr) (l : List (Nat × CodeT)), Good X S κ k → GOk g X S → Fns X S k (fpsOf g) F Gf → (∀ p ∈ l, S.cod p.1 = some p.2) → chkE g e false κ x = some l → PE X x (tD X S (ev F Gf e))
  test : ∀ (X : Cx) (S : Sta) (κ : Kx) (k : Nat) (x : Expr) (l : List (Nat × CodeT)), Good X S κ k → GOk g X S → Fns X S k (fpsOf g) F Gf → (∀ p ∈ l, S.cod p.1 = some p.2) → chkE g e true κ x = some l → PT X x (tDT X S (ev F Gf e))
  bop : ∀ (X : Cx) (S : Sta) (κ : Kx) (k : Nat) (op : BoolOp) (vs : List Expr) (pos : Pos) (l : List (Nat × CodeT)), Good X S κ k → GOk g X S → Fns X S k (fpsOf g) F Gf → (∀ p ∈ l, S.cod p.1 = some p.2) → chkE g e true κ (.BoolOp op vs pos) = some l → PW X (.BoolOp op vs pos) (tDT X S (ev F Gf e))
  lst : ∀ (X : Cx) (S : Sta) (κ : Kx) (k : Nat) (xs : List Expr) (l : List (Nat × CodeT)), Good X S κ k → GOk g X S → Fns X S k (fpsOf g) F Gf → (∀ p ∈ l, S.cod p.1 = some p.2) → chkL g e κ xs = some l → PA X xs (tDs X S (ev F Gf e)) ∧ chainE e = some xs.length ∧ xs.all noStar = true
  kws : ∀ (X : Cx) (S : Sta) (κ : Kx) (k : Nat) (kw : List Keyword) (l : List (Nat × CodeT)), Good X S κ k → GOk g X S → Fns X S k (fpsOf g) F Gf → (∀ p ∈ l, S.cod p.1 = some p.2) → chkK g e κ kw = some l → PK X kw (tDs X S (ev F Gf e)) ∧ chainE e = some kw.length
  arg : ∀ (X : Cx) (S : Sta) (κ : Kx) (k : Nat) (xs : List Expr) (l : List (Nat × CodeT)), Good X S κ k → GOk g X S → Fns X S k (fpsOf g) F Gf → (∀ p ∈ l, S.cod p.1 = some p.2) → chkW g e κ xs = some l → PA X xs (tDw X S (ev F Gf e)) ∧ xs.all noStar = true
  itr : ∀ (X : Cx) (S : Sta) (κ : Kx) (k : Nat) (tg x : Expr) (l : List (Nat × CodeT)), Good X S κ k → GOk g X S → Fns X S k (fpsOf g) F Gf → (∀ p ∈ l, S.cod p.1 = some p.2) → chkI g e κ tg x = some l → PI X tg x (tID X S (ev F Gf e))
/-- no row, nothing that is walked -/
def plainE : E → Bool
  | .nil => false
  | .cons _ _ => false
  | .iseq _ => false
  | .irng _ => false
  | .ienum _ => false
  | .izip _ _ => false
  | .ikeys _ => false
  | .iitems _ => false
  | .ivals _ => false
  | _ => true
theorem chkL_no {g : GI} {e : E} (h : plainE e = true) (κ : Kx) (xs : List Expr) : chkL g e κ xs = none := by
  cases e <;> first | (simp [plainE] at h; done) | simp [chkL]
theorem chkK_no {g : GI} {e : E} (h : plainE e = true) (κ : Kx) (xs : List Keyword) : chkK g e κ xs = none := by
  cases e <;> first | (simp [plainE] at h; done) | simp [chkK]
theorem chkW_no {g : GI} {e : E} (h : plainE e = true) (κ : Kx) (xs : List Expr) : chkW g e κ xs = none := by
  cases e <;> first | (simp [plainE] at h; done) | simp [chkW]
theorem chkI_no {g : GI} {e : E} (h : plainE e = true) (κ : Kx) (tg x : Expr) : chkI g e κ tg x = none := by
  cases e <;> first | (simp [plainE] at h; done) | simp [chkI]
section
variable {g : GI} {F : Nat → List D → HS → R D} {Gf : Nat → List D → List D → HS → R D} {e : E}
/-- a plain one, by its value alone: no test of a shape of its own -/
theorem Snd.plain (hp : plainE e = true) (hv : ∀ (X : Cx) (S : Sta) (κ : Kx) (k : Nat) (x : Expr) (l : List (Nat × CodeT)) (t : Bool), Good X S κ k → GOk g X S → Fns X S k (fpsOf g) F Gf → (∀ p ∈ l, S.cod p.1 = some p.2) → chkE g e t κ x = some l → PE X x (tD X S (ev F Gf e)) ∧ (t = true → tvB x = true)) : Snd g F Gf e where
  val := fun X S κ k x l G go fs hp' h => (hv X S κ k x l false G go fs hp' h).1
  test := fun X S κ k x l G go fs hp' h => by
    obtain ⟨h1, h2⟩ := hv X S κ k x l true G go fs hp' h
    exact dt_val G h1 fun whole => tv_true (h2 rfl) whole
  bop := fun X S κ k op vs pos l G go fs hp' h => by
    obtain ⟨h1, h2⟩ := hv X S κ k _ l true G go fs hp' h
    have := h2 rfl
    simp [tvB] at this
  lst := fun X S κ k xs l G go fs hp' h => by rw [chkL_no hp] at h; cases h
  kws := fun X S κ k xs l G go fs hp' h => by rw [chkK_no hp] at h; cases h
  arg := fun X S κ k xs l G go fs hp' h => by rw [chkW_no hp] at h; cases h
  itr := fun X S κ k tg x l G go fs hp' h => by rw [chkI_no hp] at h; cases h
/-- never a value: rows, what is walked, functions as arguments -/
theorem nameB_of {x : Str} (h : nameB x = true) : (x == ("__debug__" : Str)) = false ∧ (x == ("__classdict__" : Str)) = false := by
  unfold nameB at h
  simpa using h
theorem vis_of {κ : Kx} {x : Str} (h : visB κ x = true) : Vis κ.sc x := by
  unfold visB at h
  split at h <;> first | (cases h; done) | skip
  · rename_i q; exact .inl q
  · rename_i q; exact .inr (.inl q)
  · rename_i q; exact .inr (.inr q)
theorem loc_of {κ : Kx} {x : Str} (h : locB κ x = true) : Loc κ.sc x ∧ (κ.fn x = true ∨ κ.sc.names.lookup x = some .local) := by
  unfold locB at h
  split at h <;> first | (cases h; done) | skip
  · rename_i q; exact ⟨.inl q, .inr q⟩
  · rename_i q; exact ⟨.inr q, .inl h⟩
theorem gl_of {X : Cx} {S : Sta} {κ : Kx} {k : Nat} {x : Str} (G : Good X S κ k) (h : glB κ x = true) : Gl X x := by
  unfold glB at h
  have h : κ.sc.names.lookup x = some .globalImplicit := by simpa using h
  show X.env.scope.names.lookup x = some .globalImplicit
  rw [G.sce]; exact h
theorem bl_of {X : Cx} {S : Sta} {κ : Kx} {k : Nat} {x : Str} (G : Good X S κ k) (go : GOk g X S) (h : blB g κ x = true) : Gl X x ∧ X.mg x = none := by
  unfold blB at h
  rw [Bool.and_eq_true] at h
  exact ⟨gl_of G h.1, go.nn _ h.2⟩
theorem at_of {κ : Kx} {i : Nat} {x : Str} (h : atB κ i x = true) : κ.N[i]? = some x := by unfold atB at h; simpa using h
theorem snd_var (i : Nat) : Snd g F Gf (.var i) := .plain rfl fun X S κ k x l t G go fs hp h => by
  cases x <;> simp only [chkE] at h <;> try (cases h; done)
  obtain ⟨h, _⟩ := okC_some h
  simp only [Bool.and_eq_true] at h
  obtain ⟨⟨h1, h2⟩, h3⟩ := h
  obtain ⟨n1, n2⟩ := nameB_of h1
  exact ⟨d_var G (at_of h2) (vis_of h3) n1 n2, fun _ => rfl⟩
theorem snd_cst (d : D) : Snd g F Gf (.cst d) := .plain rfl fun X S κ k x l t G go fs hp h => by
  cases x <;> simp only [chkE] at h <;> try (cases h; done)
  rename_i c j pos
  obtain ⟨h, _⟩ := okC_some h
  refine ⟨?_, fun _ => rfl⟩
  cases d <;> cases c <;> first
    | (simp at h; done)
    | exact d_cst G pe_non fun _ _ => .non
    | (simp at h; subst h; first | exact d_cst G pe_bl fun _ _ => .bl _ | exact d_cst G pe_int fun _ _ => .int _ | exact d_cst G pe_str fun _ _ => .str _)
theorem snd_gl (y : Str) (d : D) : Snd g F Gf (.gl y d) := .plain rfl fun X S κ k x l t G go fs hp h => by
  cases x <;> simp only [chkE] at h <;> try (cases h; done)
  obtain ⟨h, _⟩ := okC_some h
  simp only [Bool.and_eq_true, List.any_eq_true, decide_eq_true_eq] at h
  obtain ⟨⟨⟨h1, h2⟩, h3⟩, p, hp', h4, h5⟩ := h
  subst h1
  obtain ⟨u, v, e1, e2, e3⟩ := go.gl p hp'
  have := D.same_eq _ _ h5
  subst this
  rw [h4] at e1
  exact ⟨d_cst G (pe_glob (gl_of G h3) e1 e2 (nameB_of h2).1) e3, fun _ => rfl⟩
theorem sub_l {S : Sta} {a b : List (Nat × CodeT)} (h : ∀ p ∈ a ++ b, S.cod p.1 = some p.2) : (∀ p ∈ a, S.cod p.1 = some p.2) ∧ ∀ p ∈ b, S.cod p.1 = some p.2 := ⟨fun p hp => h p (List.mem_append_left _ hp), fun p hp => h p (List.mem_append_right _ hp)⟩
theorem andC_okC {b : Bool} {y : Ck} {l : List (Nat × CodeT)} (h : (okC b &&& y) = some l) : b = true ∧ y = some l := by
  obtain ⟨a, c, h1, h2, h3⟩ := andC_some h
  obtain ⟨h4, h5⟩ := okC_some h1
  subst h5
  exact ⟨h4, by rw [h2, h3]; rfl⟩
theorem andC_two {x y : Ck} {l : List (Nat × CodeT)} {S : Sta} (h : (x &&& y) = some l) (hp : ∀ p ∈ l, S.cod p.1 = some p.2) : ∃ a b, x = some a ∧ y = some b ∧ (∀ p ∈ a, S.cod p.1 = some p.2) ∧ ∀ p ∈ b, S.cod p.1 = some p.2 := by
  obtain ⟨a, c, h1, h2, h3⟩ := andC_some h
  subst h3
  obtain ⟨q1, q2⟩ := sub_l hp
  exact ⟨a, c, h1, h2, q1, q2⟩
theorem snd_tup {es : E} (ih : Snd g F Gf es) : Snd g F Gf (.tup es) := .plain rfl fun X S κ k x l t G go fs hp h => by
  cases x <;> simp only [chkE] at h <;> try (cases h; done)
  obtain ⟨h1, h2⟩ := andC_okC h
  obtain ⟨a1, a2, a3⟩ := ih.lst X S κ k _ l G go fs hp h2
  exact ⟨d_tup G a1 (by simpa using h1) fun ρ h d h' q => ev_len es a2 q, fun _ => rfl⟩
theorem snd_lst {es : E} (ih : Snd g F Gf es) : Snd g F Gf (.lst es) := .plain rfl fun X S κ k x l t G go fs hp h => by
  cases x <;> simp only [chkE] at h <;> try (cases h; done)
  obtain ⟨h1, h2⟩ := andC_okC h
  obtain ⟨a1, a2, a3⟩ := ih.lst X S κ k _ l G go fs hp h2
  exact ⟨d_lst G a1 (by simpa using h1) fun ρ h d h' q => ev_len es a2 q, fun _ => rfl⟩
theorem snd_lstO {es : E} (ih : Snd g F Gf es) : Snd g F Gf (.lstO es) := .plain rfl fun X S κ k x l t G go fs hp h => by
  cases x <;> simp only [chkE] at h <;> try (cases h; done)
  obtain ⟨h1, h2⟩ := andC_okC h
  obtain ⟨a1, a2, a3⟩ := ih.lst X S κ k _ l G go fs hp h2
  exact ⟨d_lstO G a1 (by simpa using h1) fun ρ h d h' q => ev_len es a2 q, fun _ => rfl⟩
theorem snd_bin {o : BO} {a b : E} (iha : Snd g F Gf a) (ihb : Snd g F Gf b) : Snd g F Gf (.bin o a b) := .plain rfl fun X S κ k x l t G go fs hp h => by
  cases x <;> simp only [chkE] at h <;> try (cases h; done)
  obtain ⟨l1, l2, h1, h2, p1, p2⟩ := andC_two h hp
  obtain ⟨h3, h1⟩ := andC_okC h1
  obtain ⟨r, o1, o2⟩ := bin_rule G h3
  exact ⟨d_op2 G (pe_op o1 (iha.val X S κ k _ l1 G go fs p1 h1) (ihb.val X S κ k _ l2 G go fs p2 h2)) o2, fun _ => rfl⟩
theorem snd_neg {a : E} (iha : Snd g F Gf a) : Snd g F Gf (.neg a) := .plain rfl fun X S κ k x l t G go fs hp h => by
  cases x <;> try (simp only [chkE] at h; cases h; done)
  rename_i op x pos
  cases op <;> simp only [chkE] at h <;> try (cases h; done)
  exact ⟨d_neg G (iha.val X S κ k _ l G go fs hp h), fun _ => rfl⟩
theorem snd_ix {a i : E} (iha : Snd g F Gf a) (ihi : Snd g F Gf i) : Snd g F Gf (.ix a i) := .plain rfl fun X S κ k x l t G go fs hp h => by
  cases x <;> simp only [chkE] at h <;> try (cases h; done)
  obtain ⟨l1, l2, h1, h2, p1, p2⟩ := andC_two h hp
  obtain ⟨h3, h1⟩ := andC_okC h1
  exact ⟨d_op2 G (pe_ix ix_seq (iha.val X S κ k _ l1 G go fs p1 h1) (ihi.val X S κ k _ l2 G go fs p2 h2) (slice_no h3)) (r2_ix G), fun _ => rfl⟩
theorem chain0 {es : E} (h : chainE es = some 0) : es = .nil := by
  cases es with
  | nil => rfl
  | cons e r =>
    unfold chainE at h
    cases hr : chainE r with
    | none => rw [hr] at h; cases h
    | some m => rw [hr] at h; cases h
  | _ => cases h
theorem fn_of {X : Cx} {S : Sta} {κ : Kx} {k f : Nat} {x : Str} (G : Good X S κ k) (go : GOk g X S) (h : fnB g κ f x = true) : Gl X x ∧ (x == ("__debug__" : Str)) = false ∧ ∃ a, S.fad f = some a ∧ X.mg x = some (.ref a) := by
  unfold fnB at h
  simp only [Bool.and_eq_true] at h
  obtain ⟨⟨h1, h2⟩, h3⟩ := h
  exact ⟨gl_of G h1, (nameB_of h3).1, go.gf _ _ h2⟩
theorem snd_callK {f : Nat} {es kws : E} {ks : List Str} {perm : List Nat} (ih : Snd g F Gf es) (ihk : Snd g F Gf kws) : Snd g F Gf (.callK f es kws ks perm) := .plain rfl fun X S κ k x l t G go fs hp h => by
  cases x <;> try (simp only [chkE] at h; cases h; done)
  rename_i fe xs kw pos
  cases fe <;> simp only [chkE] at h <;> try (cases h; done)
  obtain ⟨l1, l2, h1, h2, p1, p2⟩ := andC_two h hp
  obtain ⟨h3, h1⟩ := andC_okC h1
  simp only [Bool.and_eq_true, decide_eq_true_eq] at h3
  obtain ⟨⟨⟨c1, c2⟩, c3⟩, c4⟩ := h3
  obtain ⟨g1, g2, a, g3, g4⟩ := fn_of G go c1
  obtain ⟨fd, F0, Fn, hk, hlen⟩ := fs.fn f a g3
  obtain ⟨a1, a2, a3⟩ := ih.lst X S κ k _ l1 G go fs p1 h1
  obtain ⟨b1, b2⟩ := ihk.kws X S κ k _ l2 G go fs p2 h2
  obtain ⟨k1, k2, k3⟩ := kw_look (env := X.env) (pos := pos) c2
  refine ⟨?_, fun _ => rfl⟩
  cases xs with
  | nil =>
    have e0 := chain0 a2
    subst e0
    exact d_call0 G Fn F0 g1 g4 g2 b1 (fun ρ h d h' q => by rw [c4]; exact ev_len kws b2 q) c3 k1 k2 (by rw [k3]; rfl)
  | cons x0 xs =>
    have a3' := a3
    rw [List.all_cons, Bool.and_eq_true] at a3'
    exact d_call G Fn F0 g1 g4 g2 a1 b1 (nu := (x0 :: xs).length) (fun ρ h d h' q => ev_len es a2 q) (fun ρ h d h' q => by rw [c4]; exact ev_len kws b2 q) c3 k1 k2 (star_cons a3'.1) (by rw [star_any a3, k3]; rfl)
theorem snd_callV {i : Nat} {es : E} (ih : Snd g F Gf es) : Snd g F Gf (.callV i es) := .plain rfl fun X S κ k x l t G go fs hp h => by
  cases x <;> try (simp only [chkE] at h; cases h; done)
  rename_i fe xs kw pos
  cases fe <;> cases kw <;> simp only [chkE] at h <;> try (cases h; done)
  obtain ⟨h3, h1⟩ := andC_okC h
  simp only [Bool.and_eq_true] at h3
  obtain ⟨⟨⟨c1, c2⟩, c3⟩, c4⟩ := h3
  obtain ⟨a1, a2, a3⟩ := ih.lst X S κ k _ l G go fs hp h1
  refine ⟨?_, fun _ => rfl⟩
  cases xs with
  | nil => simp at c4
  | cons x0 xs =>
    rw [List.all_cons, Bool.and_eq_true] at a3
    exact d_callV G fs (at_of c2) (vis_of c3) (nameB_of c1).1 (nameB_of c1).2 a1 (star_cons a3.1) (star_any a3.2)
theorem snd_callF {f : Nat} {es : E} (ih : Snd g F Gf es) : Snd g F Gf (.callF f es) := .plain rfl fun X S κ k x l t G go fs hp h => by
  cases x <;> try (simp only [chkE] at h; cases h; done)
  rename_i fe xs kw pos
  cases fe <;> cases kw <;> simp only [chkE] at h <;> try (cases h; done)
  obtain ⟨h3, h1⟩ := andC_okC h
  simp only [Bool.and_eq_true] at h3
  obtain ⟨⟨c1, c2⟩, c4⟩ := h3
  obtain ⟨g1, g2, a, g3, g4⟩ := fn_of G go c1
  obtain ⟨fd, F0, Fn, hk, hlen⟩ := fs.fn f a g3
  obtain ⟨a1, a3⟩ := ih.arg X S κ k _ l G go fs hp h1
  refine ⟨?_, fun _ => rfl⟩
  cases xs with
  | nil => simp at c4
  | cons x0 xs =>
    rw [List.all_cons, Bool.and_eq_true] at a3
    exact d_callF G (G.top c2) Fn F0 g1 g4 g2 hk hlen a1 (star_cons a3.1) (star_any a3.2)
theorem snd_cmp {o : CO} {a b : E} (iha : Snd g F Gf a) (ihb : Snd g F Gf b) : Snd g F Gf (.cmp o a b) := by
  have key : ∀ (X : Cx) (S : Sta) (κ : Kx) (k : Nat) (x : Expr) (l : List (Nat × CodeT)) (t : Bool), Good X S κ k → GOk g X S → Fns X S k (fpsOf g) F Gf → (∀ p ∈ l, S.cod p.1 = some p.2) → chkE g (.cmp o a b) t κ x = some l →
      PE X x (tD X S (ev F Gf (.cmp o a b))) ∧ PT X x (tDT X S (ev F Gf (.cmp o a b))) := fun X S κ k x l t G go fs hp h => by
    cases x <;> try (simp only [chkE] at h; cases h; done)
    rename_i x ops ys pos
    match ops, ys, h with
    | [op], [y], h =>
      simp only [chkE] at h
      have gen : ∀ {l}, (∀ p ∈ l, S.cod p.1 = some p.2) → (okC (coOk o op && !behindInMarks op y) &&& chkE g a false κ x &&& chkE g b false κ y) = some l → PE X (.Compare x [op] [y] pos) (tD X S (ev F Gf (.cmp o a b))) ∧ PT X (.Compare x [op] [y] pos) (tDT X S (ev F Gf (.cmp o a b))) := fun {l} hp h => by
        obtain ⟨l1, l2, h1, h2, p1, p2⟩ := andC_two h hp
        obtain ⟨h3, h1⟩ := andC_okC h1
        simp only [Bool.and_eq_true, Bool.not_eq_true'] at h3
        obtain ⟨r, o1, o2⟩ := cmp_rule G h3.1
        have pa := iha.val X S κ k _ l1 G go fs p1 h1
        have pb := ihb.val X S κ k _ l2 G go fs p2 h2
        exact ⟨d_cmp2 G o1 o2 pa pb h3.2, dt_cmp2 G o1 o2 pa pb h3.2⟩
      split at h
      · exact ⟨d_isN G (iha.val X S κ k _ l G go fs hp h), dt_isN G (iha.val X S κ k _ l G go fs hp h)⟩
      · exact ⟨d_notN G (iha.val X S κ k _ l G go fs hp h), dt_notN G (iha.val X S κ k _ l G go fs hp h)⟩
      · exact gen hp h
    | [], _, h => simp [chkE] at h
    | _ :: _ :: _, _, h => simp [chkE] at h
    | [_], [], h => simp [chkE] at h
    | [_], _ :: _ :: _, h => simp [chkE] at h
  exact {
    val := fun X S κ k x l G go fs hp h => (key X S κ k x l false G go fs hp h).1
    test := fun X S κ k x l G go fs hp h => (key X S κ k x l true G go fs hp h).2
    bop := fun X S κ k op vs pos l G go fs hp h => by simp [chkE] at h
    lst := fun X S κ k xs l G go fs hp' h => by rw [chkL_no rfl] at h; cases h
    kws := fun X S κ k xs l G go fs hp' h => by rw [chkK_no rfl] at h; cases h
    arg := fun X S κ k xs l G go fs hp' h => by rw [chkW_no rfl] at h; cases h
    itr := fun X S κ k tg x l G go fs hp' h => by rw [chkI_no rfl] at h; cases h }
theorem snd_ch {o1 o2 : CO} {a b c : E} (iha : Snd g F Gf a) (ihb : Snd g F Gf b) (ihc : Snd g F Gf c) : Snd g F Gf (.ch o1 o2 a b c) := by
  have key : ∀ (X : Cx) (S : Sta) (κ : Kx) (k : Nat) (x : Expr) (l : List (Nat × CodeT)) (t : Bool), Good X S κ k → GOk g X S → Fns X S k (fpsOf g) F Gf → (∀ p ∈ l, S.cod p.1 = some p.2) → chkE g (.ch o1 o2 a b c) t κ x = some l →
      PE X x (tD X S (ev F Gf (.ch o1 o2 a b c))) ∧ PT X x (tDT X S (ev F Gf (.ch o1 o2 a b c))) := fun X S κ k x l t G go fs hp h => by
    cases x <;> try (simp only [chkE] at h; cases h; done)
    rename_i x ops ys pos
    match ops, ys, h with
    | [op1, op2], [y, z], h =>
      simp only [chkE] at h
      obtain ⟨l12, l3, h12, h3, p12, p3⟩ := andC_two h hp
      obtain ⟨l1, l2, h1, h2, p1, p2⟩ := andC_two h12 p12
      obtain ⟨h0, h1⟩ := andC_okC h1
      simp only [Bool.and_eq_true, Bool.not_eq_true'] at h0
      obtain ⟨r, q1, q2⟩ := cmp_rule G h0.1.1
      obtain ⟨r', q3, q4⟩ := cmp_rule G h0.1.2
      have pa := iha.val X S κ k _ l1 G go fs p1 h1
      have pb := ihb.val X S κ k _ l2 G go fs p2 h2
      have pc := ihc.val X S κ k _ l3 G go fs p3 h3
      exact ⟨d_chain G q1 q3 q2 q4 pa pb pc h0.2, dt_chain G q1 q3 q2 q4 pa pb pc h0.2⟩
    | [], _, h => simp [chkE] at h
    | [_], _, h => simp [chkE] at h
    | _ :: _ :: _ :: _, _, h => simp [chkE] at h
    | [_, _], [], h => simp [chkE] at h
    | [_, _], [_], h => simp [chkE] at h
    | [_, _], _ :: _ :: _ :: _, h => simp [chkE] at h
  exact {
    val := fun X S κ k x l G go fs hp h => (key X S κ k x l false G go fs hp h).1
    test := fun X S κ k x l G go fs hp h => (key X S κ k x l true G go fs hp h).2
    bop := fun X S κ k op vs pos l G go fs hp h => by simp [chkE] at h
    lst := fun X S κ k xs l G go fs hp' h => by rw [chkL_no rfl] at h; cases h
    kws := fun X S κ k xs l G go fs hp' h => by rw [chkK_no rfl] at h; cases h
    arg := fun X S κ k xs l G go fs hp' h => by rw [chkW_no rfl] at h; cases h
    itr := fun X S κ k tg x l G go fs hp' h => by rw [chkI_no rfl] at h; cases h }
theorem snd_not {a : E} (iha : Snd g F Gf a) : Snd g F Gf (.not a) where
  val := fun X S κ k x l G go fs hp h => by
    cases x <;> try (simp only [chkE] at h; cases h; done)
    rename_i op x pos
    cases op <;> simp only [chkE] at h <;> try (cases h; done)
    exact d_not G (iha.val X S κ k _ l G go fs hp h)
  test := fun X S κ k x l G go fs hp h => by
    cases x <;> try (simp only [chkE] at h; cases h; done)
    rename_i op x pos
    cases op <;> simp only [chkE] at h <;> try (cases h; done)
    exact dt_not G (iha.test X S κ k _ l G go fs hp h)
  bop := fun X S κ k op vs pos l G go fs hp h => by simp [chkE] at h
  lst := fun X S κ k xs l G go fs hp' h => by rw [chkL_no rfl] at h; cases h
  kws := fun X S κ k xs l G go fs hp' h => by rw [chkK_no rfl] at h; cases h
  arg := fun X S κ k xs l G go fs hp' h => by rw [chkW_no rfl] at h; cases h
  itr := fun X S κ k tg x l G go fs hp' h => by rw [chkI_no rfl] at h; cases h
theorem snd_one {a : E} (iha : Snd g F Gf a) : Snd g F Gf (.one a) where
  val := fun X S κ k x l G go fs hp h => by
    cases x <;> try (simp only [chkE] at h; cases h; done)
    rename_i op vs pos
    match vs, h with
    | [y], h => simp only [chkE] at h; exact d_one G (iha.val X S κ k _ l G go fs hp h)
    | [], h => simp [chkE] at h
    | _ :: _ :: _, h => simp [chkE] at h
  test := fun X S κ k x l G go fs hp h => by
    cases x <;> try (simp only [chkE] at h; cases h; done)
    rename_i op vs pos
    match vs, h with
    | [y], h => simp only [chkE] at h; exact (dw_one G (iha.test X S κ k _ l G go fs hp h)).pt
    | [], h => simp [chkE] at h
    | _ :: _ :: _, h => simp [chkE] at h
  bop := fun X S κ k op vs pos l G go fs hp h => by
    match vs, h with
    | [y], h => simp only [chkE] at h; exact dw_one G (iha.test X S κ k _ l G go fs hp h)
    | [], h => simp [chkE] at h
    | _ :: _ :: _, h => simp [chkE] at h
  lst := fun X S κ k xs l G go fs hp' h => by rw [chkL_no rfl] at h; cases h
  kws := fun X S κ k xs l G go fs hp' h => by rw [chkK_no rfl] at h; cases h
  arg := fun X S κ k xs l G go fs hp' h => by rw [chkW_no rfl] at h; cases h
  itr := fun X S κ k tg x l G go fs hp' h => by rw [chkI_no rfl] at h; cases h
theorem snd_and {a b : E} (iha : Snd g F Gf a) (ihb : Snd g F Gf b) : Snd g F Gf (.and a b) where
  val := fun X S κ k x l G go fs hp h => by
    cases x <;> try (simp only [chkE] at h; cases h; done)
    rename_i op vs pos
    match op, vs, h with
    | .And, y :: z :: rest, h =>
      simp only [chkE] at h
      obtain ⟨l1, l2, h1, h2, p1, p2⟩ := andC_two h hp
      exact d_and G (iha.val X S κ k _ l1 G go fs p1 h1) (ihb.val X S κ k _ l2 G go fs p2 h2)
    | .And, [], h => simp [chkE] at h
    | .And, [_], h => simp [chkE] at h
    | .Or, _, h => simp [chkE] at h
  test := fun X S κ k x l G go fs hp h => by
    cases x <;> try (simp only [chkE] at h; cases h; done)
    rename_i op vs pos
    match op, vs, h with
    | .And, y :: z :: rest, h =>
      simp only [chkE] at h
      obtain ⟨l1, l2, h1, h2, p1, p2⟩ := andC_two h hp
      exact (dw_and G (iha.test X S κ k _ l1 G go fs p1 h1) (ihb.bop X S κ k _ _ _ l2 G go fs p2 h2)).pt
    | .And, [], h => simp [chkE] at h
    | .And, [_], h => simp [chkE] at h
    | .Or, _, h => simp [chkE] at h
  bop := fun X S κ k op vs pos l G go fs hp h => by
    match op, vs, h with
    | .And, y :: z :: rest, h =>
      simp only [chkE] at h
      obtain ⟨l1, l2, h1, h2, p1, p2⟩ := andC_two h hp
      exact dw_and G (iha.test X S κ k _ l1 G go fs p1 h1) (ihb.bop X S κ k _ _ _ l2 G go fs p2 h2)
    | .And, [], h => simp [chkE] at h
    | .And, [_], h => simp [chkE] at h
    | .Or, _, h => simp [chkE] at h
  lst := fun X S κ k xs l G go fs hp' h => by rw [chkL_no rfl] at h; cases h
  kws := fun X S κ k xs l G go fs hp' h => by rw [chkK_no rfl] at h; cases h
  arg := fun X S κ k xs l G go fs hp' h => by rw [chkW_no rfl] at h; cases h
  itr := fun X S κ k tg x l G go fs hp' h => by rw [chkI_no rfl] at h; cases h
theorem snd_or {a b : E} (iha : Snd g F Gf a) (ihb : Snd g F Gf b) : Snd g F Gf (.or a b) where
  val := fun X S κ k x l G go fs hp h => by
    cases x <;> try (simp only [chkE] at h; cases h; done)
    rename_i op vs pos
    match op, vs, h with
    | .Or, y :: z :: rest, h =>
      simp only [chkE] at h
      obtain ⟨l1, l2, h1, h2, p1, p2⟩ := andC_two h hp
      exact d_or G (iha.val X S κ k _ l1 G go fs p1 h1) (ihb.val X S κ k _ l2 G go fs p2 h2)
    | .Or, [], h => simp [chkE] at h
    | .Or, [_], h => simp [chkE] at h
    | .And, _, h => simp [chkE] at h
  test := fun X S κ k x l G go fs hp h => by
    cases x <;> try (simp only [chkE] at h; cases h; done)
    rename_i op vs pos
    match op, vs, h with
    | .Or, y :: z :: rest, h =>
      simp only [chkE] at h
      obtain ⟨l1, l2, h1, h2, p1, p2⟩ := andC_two h hp
      exact (dw_or G (iha.test X S κ k _ l1 G go fs p1 h1) (ihb.bop X S κ k _ _ _ l2 G go fs p2 h2)).pt
    | .Or, [], h => simp [chkE] at h
    | .Or, [_], h => simp [chkE] at h
    | .And, _, h => simp [chkE] at h
  bop := fun X S κ k op vs pos l G go fs hp h => by
    match op, vs, h with
    | .Or, y :: z :: rest, h =>
      simp only [chkE] at h
      obtain ⟨l1, l2, h1, h2, p1, p2⟩ := andC_two h hp
      exact dw_or G (iha.test X S κ k _ l1 G go fs p1 h1) (ihb.bop X S κ k _ _ _ l2 G go fs p2 h2)
    | .Or, [], h => simp [chkE] at h
    | .Or, [_], h => simp [chkE] at h
    | .And, _, h => simp [chkE] at h
  lst := fun X S κ k xs l G go fs hp' h => by rw [chkL_no rfl] at h; cases h
  kws := fun X S κ k xs l G go fs hp' h => by rw [chkK_no rfl] at h; cases h
  arg := fun X S κ k xs l G go fs hp' h => by rw [chkW_no rfl] at h; cases h
  itr := fun X S κ k tg x l G go fs hp' h => by rw [chkI_no rfl] at h; cases h
theorem snd_ife {c a b : E} (ihc : Snd g F Gf c) (iha : Snd g F Gf a) (ihb : Snd g F Gf b) : Snd g F Gf (.ife c a b) := .plain rfl fun X S κ k x l t G go fs hp h => by
  cases x <;> simp only [chkE] at h <;> try (cases h; done)
  obtain ⟨l12, l3, h12, h3, p12, p3⟩ := andC_two h hp
  obtain ⟨l1, l2, h1, h2, p1, p2⟩ := andC_two h12 p12
  obtain ⟨h0, h1'⟩ := andC_okC h1
  have h0 : t = false := by simpa using h0
  subst h0
  exact ⟨d_ife G (ihc.test X S κ k _ l1 G go fs p1 h1') (iha.val X S κ k _ l2 G go fs p2 h2) (ihb.val X S κ k _ l3 G go fs p3 h3), fun z => by cases z⟩
theorem snd_rev {a : E} (iha : Snd g F Gf a) : Snd g F Gf (.rev a) := .plain rfl fun X S κ k x l t G go fs hp h => by
  cases x <;> simp only [chkE] at h <;> try (cases h; done)
  obtain ⟨h0, h1⟩ := andC_okC h
  obtain ⟨k', p1, p2, p3, rfl⟩ := revB_eq h0
  exact ⟨d_rev G (iha.val X S κ k _ l G go fs hp h1), fun _ => rfl⟩
theorem part_ok {X : Cx} {S : Sta} {κ : Kx} {k : Nat} {lo : E} {y : Option Expr} {l : List (Nat × CodeT)} (G : Good X S κ k) (go : GOk g X S) (fs : Fns X S k (fpsOf g) F Gf) (hp : ∀ p ∈ l, S.cod p.1 = some p.2) (ih : Snd g F Gf lo)
    (h : (match y with | some y => okC (!isNil lo) &&& chkE g lo false κ y | none => okC (isNil lo)) = some l) : PO X y (tO X S fun ρ h => evO lo (ev F Gf lo ρ) h) := by
  cases y with
  | none =>
    obtain ⟨h1, _⟩ := okC_some h
    have : (fun (ρ : Env) (h : HS) => evO lo (ev F Gf lo ρ) h) = fun _ h => .ok .non h := by
      funext ρ h
      unfold evO
      rw [if_pos h1]
    rw [this]
    exact po_no
  | some y =>
    obtain ⟨h1, h2⟩ := andC_okC h
    have : (fun (ρ : Env) (h : HS) => evO lo (ev F Gf lo ρ) h) = fun ρ h => intR (ev F Gf lo ρ h) := by
      funext ρ h
      unfold evO
      rw [if_neg (by simpa using h1)]
    rw [this]
    exact po_e G (ih.val X S κ k _ l G go fs hp h2)
theorem snd_sl {a lo hi : E} (iha : Snd g F Gf a) (ihl : Snd g F Gf lo) (ihh : Snd g F Gf hi) : Snd g F Gf (.sl a lo hi) := .plain rfl fun X S κ k x l t G go fs hp h => by
  cases x <;> simp only [chkE] at h <;> try (cases h; done)
  split at h
  · rename_i lq uq hq
    obtain ⟨pp, e⟩ := slPart_eq hq
    subst e
    obtain ⟨l12, l3, h12, h3, p12, p3⟩ := andC_two h hp
    obtain ⟨l1, l2, h1, h2, p1, p2⟩ := andC_two h12 p12
    exact ⟨d_slice G (iha.val X S κ k _ l1 G go fs p1 h1) (part_ok G go fs p2 ihl h2) (part_ok G go fs p3 ihh h3), fun _ => rfl⟩
  · cases h
theorem snd_mt {m : MT} {e es : E} (ihe : Snd g F Gf e) (ih : Snd g F Gf es) : Snd g F Gf (.mt m e es) := .plain rfl fun X S κ k x l t G go fs hp h => by
  cases x <;> try (simp only [chkE] at h; cases h; done)
  rename_i fe xs kw pos
  cases fe <;> cases kw <;> simp only [chkE] at h <;> try (cases h; done)
  rename_i o name apos
  obtain ⟨l1, l2, h1, h2, p1, p2⟩ := andC_two h hp
  obtain ⟨h3, h1⟩ := andC_okC h1
  simp only [Bool.and_eq_true] at h3
  obtain ⟨⟨⟨⟨c1, c2⟩, c3⟩, c4⟩, c5⟩ := h3
  have c4 : xs.length < 20 := by simpa using c4
  have po := ihe.val X S κ k _ l1 G go fs p1 h1
  obtain ⟨a1, a2, a3⟩ := ih.lst X S κ k _ l2 G go fs p2 h2
  refine ⟨?_, fun _ => rfl⟩
  have many : ∀ {T id : String} {r : V → List V → Hp → VK → Prop}, m ≠ .pop → (if m = .join then "str" else "list") = T → PlainAttrs T → Slot T name id → typeOf (.builtin id) = pure (.type "method_descriptor") → MtR X id r → RMD X S (opMt m) r → PE X (.Call (.Attribute o name apos) xs [] pos) (tD X S (ev F Gf (.mt m e es))) := fun {T id r} hne hT pa sl ty mr rm => by
    cases xs with
    | nil => cases m <;> first | exact absurd rfl hne | (simp at c5; done)
    | cons x0 xs =>
      have a3' := a3
      rw [List.all_cons, Bool.and_eq_true] at a3'
      refine d_mt G hT pa sl ty mr rm po a1 (super_no c3) ?_ c2 (star_cons a3'.1) (star_any a3'.2)
      rw [star_all a3]
      show (true && true && decide ((x0 :: xs).length + 0 + 0 < 30)) = true
      rw [decide_eq_true (by omega)]; rfl
  cases m with
  | append =>
    have c1 : name = "append" := by simpa [mtName, eq_comm] using c1
    subst c1
    exact many (by decide) rfl PySem.F.plainAttrs_list PySem.F.slot_list_append PySem.F.type_list_append mt_append rm_append
  | extend =>
    have c1 : name = "extend" := by simpa [mtName, eq_comm] using c1
    subst c1
    exact many (by decide) rfl PySem.F.plainAttrs_list PySem.F.slot_list_extend PySem.F.type_list_extend mt_extend rm_extend
  | join =>
    have c1 : name = "join" := by simpa [mtName, eq_comm] using c1
    subst c1
    exact many (by decide) rfl PySem.F.plainAttrs_str PySem.F.slot_str_join PySem.F.type_str_join mt_join rm_join
  | index => simp [mtName] at c1
  | pop =>
    have c1 : name = "pop" := by simpa [mtName, eq_comm] using c1
    subst c1
    simp only [Bool.and_eq_true] at c5
    have e1 : xs = [] := by simpa using c5.1
    subst e1
    have e2 := chain0 a2
    subst e2
    exact d_mt0 G rfl PySem.F.plainAttrs_list PySem.F.slot_list_pop PySem.F.type_list_pop mt_pop rm_pop po (super_no c3) c2
end
end VE
set_option Elab.async false
set_option linter.all false
set_option maxRecDepth 100000
set_option maxHeartbeats 1000000
set_option autoImplicit false
/-! W5: soundness of the further expressions -/
namespace VE
open PySem PySem.Spec PyProof.Rows L2
section
variable {g : GI} {F : Nat → List D → HS → R D} {Gf : Nat → List D → List D → HS → R D} {e : E}
theorem snd_dctO : Snd g F Gf .dctO := .plain rfl fun X S κ k x l t G go fs hp h => by
  cases x <;> try (simp only [chkE] at h; cases h; done)
  rename_i ks vs pos
  cases ks <;> cases vs <;> simp only [chkE] at h <;> try (cases h; done)
  exact ⟨d_dctO G, fun _ => rfl⟩
theorem snd_dctTO : Snd g F Gf .dctTO := .plain rfl fun X S κ k x l t G go fs hp h => by
  cases x <;> try (simp only [chkE] at h; cases h; done)
  rename_i ks vs pos
  cases ks <;> cases vs <;> simp only [chkE] at h <;> try (cases h; done)
  exact ⟨d_dctTO G, fun _ => rfl⟩
theorem noSl_of {b : Expr} (h : noSlice b = true) : NoSl b := fun o i => by
  cases b <;> first | rfl | (simp [noSlice] at h; done)
theorem snd_dgt {a i : E} (iha : Snd g F Gf a) (ihi : Snd g F Gf i) : Snd g F Gf (.dgt a i) := .plain rfl fun X S κ k x l t G go fs hp h => by
  cases x <;> simp only [chkE] at h <;> try (cases h; done)
  obtain ⟨l1, l2, h1, h2, p1, p2⟩ := andC_two h hp
  obtain ⟨h3, h1⟩ := andC_okC h1
  exact ⟨d_dgt G (iha.val X S κ k _ l1 G go fs p1 h1) (ihi.val X S κ k _ l2 G go fs p2 h2) (noSl_of h3), fun _ => rfl⟩
theorem snd_inn {c : E} {op : CmpOp} (hpl : plainE c = true) (key : ∀ (X : Cx) (S : Sta) (κ : Kx) (k : Nat) (x : Expr) (l : List (Nat × CodeT)) (t : Bool), Good X S κ k → GOk g X S → Fns X S k (fpsOf g) F Gf → (∀ p ∈ l, S.cod p.1 = some p.2) → chkE g c t κ x = some l →
    ∃ y z pos, x = .Compare y [op] [z] pos ∧ PC X op y z (tD X S (ev F Gf c)) ∧ behindInMarks op z = false) : Snd g F Gf c := {
  val := fun X S κ k x l G go fs hp h => by
    obtain ⟨y, z, pos, rfl, h1, h2⟩ := key X S κ k x l false G go fs hp h
    exact pe_cmp h1 h2
  test := fun X S κ k x l G go fs hp h => by
    obtain ⟨y, z, pos, rfl, h1, h2⟩ := key X S κ k x l true G go fs hp h
    exact pt_cmp h1 h2
  bop := fun X S κ k op' vs pos l G go fs hp h => by
    obtain ⟨y, z, pos, e, h1, h2⟩ := key X S κ k _ l true G go fs hp h
    cases e
  lst := fun X S κ k xs l G go fs hp' h => by rw [chkL_no hpl] at h; cases h
  kws := fun X S κ k xs l G go fs hp' h => by rw [chkK_no hpl] at h; cases h
  arg := fun X S κ k xs l G go fs hp' h => by rw [chkW_no hpl] at h; cases h
  itr := fun X S κ k tg x l G go fs hp' h => by rw [chkI_no hpl] at h; cases h }
theorem snd_din {a d : E} (iha : Snd g F Gf a) (ihd : Snd g F Gf d) : Snd g F Gf (.din a d) := snd_inn (op := .In) rfl fun X S κ k x l t G go fs hp h => by
  cases x <;> try (simp only [chkE] at h; cases h; done)
  rename_i x ops ys pos
  match ops, ys, h with
  | [op], [y], h =>
    cases op <;> simp only [chkE] at h <;> try (cases h; done)
    obtain ⟨l1, l2, h1, h2, p1, p2⟩ := andC_two h hp
    obtain ⟨h3, h1⟩ := andC_okC h1
    exact ⟨x, y, pos, rfl, d_din G (iha.val X S κ k _ l1 G go fs p1 h1) (ihd.val X S κ k _ l2 G go fs p2 h2), by simpa using h3⟩
  | [], _, h => simp [chkE] at h
  | _ :: _ :: _, _, h => simp [chkE] at h
  | [_], [], h => simp [chkE] at h
  | [_], _ :: _ :: _, h => simp [chkE] at h
theorem snd_dnin {a d : E} (iha : Snd g F Gf a) (ihd : Snd g F Gf d) : Snd g F Gf (.dnin a d) := snd_inn (op := .NotIn) rfl fun X S κ k x l t G go fs hp h => by
  cases x <;> try (simp only [chkE] at h; cases h; done)
  rename_i x ops ys pos
  match ops, ys, h with
  | [op], [y], h =>
    cases op <;> simp only [chkE] at h <;> try (cases h; done)
    obtain ⟨l1, l2, h1, h2, p1, p2⟩ := andC_two h hp
    obtain ⟨h3, h1⟩ := andC_okC h1
    exact ⟨x, y, pos, rfl, d_dnin G (iha.val X S κ k _ l1 G go fs p1 h1) (ihd.val X S κ k _ l2 G go fs p2 h2), by simpa using h3⟩
  | [], _, h => simp [chkE] at h
  | _ :: _ :: _, _, h => simp [chkE] at h
  | [_], [], h => simp [chkE] at h
  | [_], _ :: _ :: _, h => simp [chkE] at h
/-- a built-in of one argument, called by its name -/
theorem one_pa {X : Cx} {S : Sta} {κ : Kx} {k : Nat} {a : Expr} {m : Env → HS → R D} (ha : PE X a (tD X S m)) (hs : noStar a = true) : PA X [a] (tCons (tD X S m) tNil) := pa_cons ha pa_nil (star_cons hs)
theorem snd_lsd {e : E} (ih : Snd g F Gf e) : Snd g F Gf (.lsd e) := .plain rfl fun X S κ k x l t G go fs hp h => by
  cases x <;> try (simp only [chkE] at h; cases h; done)
  rename_i fe xs kw pos
  cases fe <;> cases kw <;> try (simp only [chkE] at h; cases h; done)
  match xs, h with
  | [a], h =>
    simp only [chkE] at h
    obtain ⟨h0, h1⟩ := andC_okC h
    simp only [Bool.and_eq_true, decide_eq_true_eq] at h0
    obtain ⟨⟨c1, c2⟩, c3⟩ := h0
    subst c1
    obtain ⟨g1, g2⟩ := bl_of G go c2
    refine ⟨(pe_callTy (T := "list") (cr_lsd G.calm) g1 g2 (by decide +kernel) (one_pa (κ := κ) (k := k) (ih.val X S κ k _ l G go fs hp h1) c3) (by decide) (by decide) (star_cons c3) rfl).imp fun σ H Q q => ?_, fun _ => rfl⟩
    exact seq1 G q fun x v π H hs rel r1 p => r1_lsd G π H hs x v Q _ rel r1 p
  | [], h => simp [chkE] at h
  | _ :: _ :: _, h => simp [chkE] at h
theorem snd_dctL {e : E} (ih : Snd g F Gf e) : Snd g F Gf (.dctL e) := .plain rfl fun X S κ k x l t G go fs hp h => by
  cases x <;> try (simp only [chkE] at h; cases h; done)
  rename_i fe xs kw pos
  cases fe <;> cases kw <;> try (simp only [chkE] at h; cases h; done)
  match xs, h with
  | [a], h =>
    simp only [chkE] at h
    obtain ⟨h0, h1⟩ := andC_okC h
    simp only [Bool.and_eq_true, decide_eq_true_eq] at h0
    obtain ⟨⟨c1, c2⟩, c3⟩ := h0
    subst c1
    obtain ⟨g1, g2⟩ := bl_of G go c2
    refine ⟨(pe_callTy (T := "dict") (cr_dictPT G.calm (by have := G.room.un; omega)) g1 g2 (by decide +kernel) (one_pa (κ := κ) (k := k) (ih.val X S κ k _ l G go fs hp h1) c3) (by decide) (by decide) (star_cons c3) rfl).imp fun σ H Q q => ?_, fun _ => rfl⟩
    exact seq1 G q fun x v π H hs rel r1 p => r1_dctL π H hs x v Q _ rel r1 p
  | [], h => simp [chkE] at h
  | _ :: _ :: _, h => simp [chkE] at h
theorem snd_sum1 {e : E} (ih : Snd g F Gf e) : Snd g F Gf (.sum1 e) := .plain rfl fun X S κ k x l t G go fs hp h => by
  cases x <;> try (simp only [chkE] at h; cases h; done)
  rename_i fe xs kw pos
  cases fe <;> cases kw <;> try (simp only [chkE] at h; cases h; done)
  match xs, h with
  | [a], h =>
    simp only [chkE] at h
    obtain ⟨h0, h1⟩ := andC_okC h
    simp only [Bool.and_eq_true, decide_eq_true_eq] at h0
    obtain ⟨⟨c1, c2⟩, c3⟩ := h0
    subst c1
    obtain ⟨g1, g2⟩ := bl_of G go c2
    refine ⟨(pe_callB (id := "sum") (cr_sum G.calm) g1 g2 (by decide +kernel) (one_pa (κ := κ) (k := k) (ih.val X S κ k _ l G go fs hp h1) c3) (by decide) (by decide) (star_cons c3) rfl).imp fun σ H Q q => ?_, fun _ => rfl⟩
    exact seq1 G q fun x v π H hs rel r1 p => r1_sum π H hs x v Q _ rel r1 p
  | [], h => simp [chkE] at h
  | _ :: _ :: _, h => simp [chkE] at h
theorem snd_sortedSet {e : E} (ih : Snd g F Gf e) : Snd g F Gf (.sortedSet e) := .plain rfl fun X S κ k x l t G go fs hp h => by
  cases x <;> try (simp only [chkE] at h; cases h; done)
  rename_i fe xs kw pos
  cases fe <;> cases kw <;> try (simp only [chkE] at h; cases h; done)
  match xs, h with
  | [r], h =>
    simp only [chkE] at h
    split at h
    · rename_i y a hr
      obtain ⟨p1, p2, rfl⟩ := rngCall_eq hr
      obtain ⟨h0, h1⟩ := andC_okC h
      simp only [Bool.and_eq_true, decide_eq_true_eq] at h0
      obtain ⟨⟨⟨⟨c1, c2⟩, c3⟩, c4⟩, c5⟩ := h0
      obtain ⟨g1, g2⟩ := bl_of G go c2
      obtain ⟨g3, g4⟩ := bl_of G go c4
      exact ⟨d_sortedSet G c1 c3 g1 g2 g3 g4 (one_pa (κ := κ) (k := k) (ih.val X S κ k _ l G go fs hp h1) c5) (star_cons c5), fun _ => rfl⟩
    · cases h
  | [], h => simp [chkE] at h
  | _ :: _ :: _, h => simp [chkE] at h
theorem snd_listRange {es : E} (ih : Snd g F Gf es) : Snd g F Gf (.listRange es) := .plain rfl fun X S κ k x l t G go fs hp h => by
  cases x <;> try (simp only [chkE] at h; cases h; done)
  rename_i fe xs kw pos
  cases fe <;> cases kw <;> try (simp only [chkE] at h; cases h; done)
  match xs, h with
  | [r], h =>
    simp only [chkE] at h
    split at h
    · rename_i y ys hr
      obtain ⟨p1, p2, rfl⟩ := rngCall_eq hr
      obtain ⟨h0, h1⟩ := andC_okC h
      simp only [Bool.and_eq_true, Bool.or_eq_true, decide_eq_true_eq] at h0
      obtain ⟨⟨⟨⟨c1, c2⟩, c3⟩, c4⟩, c5⟩ := h0
      subst c1; subst c3
      obtain ⟨g1, g2⟩ := bl_of G go c2
      obtain ⟨g3, g4⟩ := bl_of G go c4
      obtain ⟨a1, a2, a3⟩ := ih.lst X S κ k _ l G go fs hp h1
      refine ⟨?_, fun _ => rfl⟩
      match ys, a1, a2, a3, c5 with
      | [y], a1, a2, a3, _ =>
        rw [List.all_cons, Bool.and_eq_true] at a3
        exact d_lrng1 G g1 g2 g3 g4 a1 (star_cons a3.1) fun ρ h d h' q => ev_len es a2 q
      | [y, z], a1, a2, a3, _ =>
        rw [List.all_cons, Bool.and_eq_true] at a3
        exact d_lrng2 G g1 g2 g3 g4 a1 (star_cons a3.1) (star_any a3.2) fun ρ h d h' q => ev_len es a2 q
      | [], _, _, _, c5 => simp at c5
      | _ :: _ :: _ :: _, _, _, _, c5 => simp at c5
    · cases h
  | [], h => simp [chkE] at h
  | _ :: _ :: _, h => simp [chkE] at h
theorem ev_tupS0 {a p b : E} (hn : isNil a = true) : ev F Gf (.tupS a p b) = fun ρ h => (R.ok (.lst []) h).bind fun l1 h1 => (ev F Gf p ρ h1).bind fun d h2 => match starOf d with | some xs => (ev F Gf b ρ h2).bind fun l2 h3 => if (its l1).length + xs.length + (its l2).length ≤ lim then .ok (.tup (its l1 ++ (xs ++ its l2))) h3 else .bad | none => .bad := by
  funext ρ h; rw [ev, if_pos hn] <;> rfl
theorem ev_lstS0 {a p b : E} (hn : isNil a = true) : ev F Gf (.lstS a p b) = fun ρ h => (R.ok (.lst []) h).bind fun l1 h1 => (ev F Gf p ρ h1).bind fun d h2 => match starOf d with | some xs => (ev F Gf b ρ h2).bind fun l2 h3 => if (its l1).length + xs.length + (its l2).length ≤ lim then .ok (.lst (its l1 ++ (xs ++ its l2))) h3 else .bad | none => .bad := by
  funext ρ h; rw [ev, if_pos hn] <;> rfl
theorem ev_tupS1 {a p b : E} (hn : ¬ isNil a = true) : ev F Gf (.tupS a p b) = fun ρ h => ((ev F Gf a ρ h).bind fun d h1 => R.ok (D.lst [d]) h1).bind fun l1 h1 => (ev F Gf p ρ h1).bind fun d h2 => match starOf d with | some xs => (ev F Gf b ρ h2).bind fun l2 h3 => if (its l1).length + xs.length + (its l2).length ≤ lim then .ok (.tup (its l1 ++ (xs ++ its l2))) h3 else .bad | none => .bad := by
  funext ρ h; rw [ev, if_neg hn] <;> rfl
theorem snd_tupS {a p b : E} (iha : Snd g F Gf a) (ihp : Snd g F Gf p) (ihb : Snd g F Gf b) : Snd g F Gf (.tupS a p b) := .plain rfl fun X S κ k x l t G go fs hp h => by
  cases x <;> try (simp only [chkE] at h; cases h; done)
  rename_i xs q pos
  simp only [chkE] at h
  refine ⟨?_, fun _ => rfl⟩
  split at h
  · rename_i y ys hs
    obtain ⟨pp, rfl⟩ := starAt_eq hs
    obtain ⟨l1, l2, h1, h2, p1, p2⟩ := andC_two h hp
    obtain ⟨h3, h1⟩ := andC_okC h1
    obtain ⟨a1, a2, a3⟩ := ihb.lst X S κ k _ l2 G go fs p2 h2
    have := d_tupS0 G (pos := pos) (pp := pp) (q := q) (ihp.val X S κ k _ l1 G go fs p1 h1) a1
    rw [ev_tupS0 h3]
    exact this
  · rename_i x0 y ys hs
    obtain ⟨pp, rfl⟩ := starAt_eq hs
    obtain ⟨l12, l3, h12, h3, p12, p3⟩ := andC_two h hp
    obtain ⟨l1, l2, h1, h2, p1, p2⟩ := andC_two h12 p12
    obtain ⟨h0, h1⟩ := andC_okC h1
    rw [Bool.and_eq_true] at h0
    obtain ⟨a1, a2, a3⟩ := ihb.lst X S κ k _ l3 G go fs p3 h3
    have := d_tupS1 G (pos := pos) (pp := pp) (q := q) (iha.val X S κ k _ l1 G go fs p1 h1) (star_cons h0.2) (ihp.val X S κ k _ l2 G go fs p2 h2) a1
    have hn : ¬ isNil a = true := by simpa using h0.1
    rw [ev_tupS1 hn]
    exact this
  · cases h
theorem snd_lstS {a p b : E} (ihp : Snd g F Gf p) (ihb : Snd g F Gf b) : Snd g F Gf (.lstS a p b) := .plain rfl fun X S κ k x l t G go fs hp h => by
  cases x <;> try (simp only [chkE] at h; cases h; done)
  rename_i xs pos
  simp only [chkE] at h
  refine ⟨?_, fun _ => rfl⟩
  split at h
  · rename_i y ys hs
    obtain ⟨pp, rfl⟩ := starAt_eq hs
    obtain ⟨l1, l2, h1, h2, p1, p2⟩ := andC_two h hp
    obtain ⟨h3, h1⟩ := andC_okC h1
    obtain ⟨a1, a2, a3⟩ := ihb.lst X S κ k _ l2 G go fs p2 h2
    have := d_lstS0 G (pos := pos) (pp := pp) (ihp.val X S κ k _ l1 G go fs p1 h1) a1
    rw [ev_lstS0 h3]
    exact this
  · cases h
theorem snd_idx {a e : E} (iha : Snd g F Gf a) (ihe : Snd g F Gf e) : Snd g F Gf (.idx a e) := .plain rfl fun X S κ k x l t G go fs hp h => by
  cases x <;> try (simp only [chkE] at h; cases h; done)
  rename_i fe xs kw pos
  cases fe <;> cases kw <;> try (simp only [chkE] at h; cases h; done)
  rename_i o name apos
  match xs, h with
  | [x], h =>
    simp only [chkE] at h
    obtain ⟨l1, l2, h1, h2, p1, p2⟩ := andC_two h hp
    obtain ⟨h3, h4⟩ := andC_okC h1
    simp only [Bool.and_eq_true, decide_eq_true_eq] at h3
    obtain ⟨⟨⟨c1, c2⟩, c3⟩, c4⟩ := h3
    subst c1
    refine ⟨d_idx G (iha.val X S κ k _ l1 G go fs p1 h4) (ihe.val X S κ k _ l2 G go fs p2 h2) (super_no c3) ?_ c2 (star_cons c4), fun _ => rfl⟩
    rw [star_cons c4]
    rfl
  | [], h => simp [chkE] at h
  | _ :: _ :: _, h => simp [chkE] at h
end
end VE
set_option Elab.async false
set_option linter.all false
set_option maxRecDepth 100000
set_option maxHeartbeats 1000000
set_option autoImplicit false
/-! V24: soundness: built-ins, rows, what is walked, comprehensions; all expressions -/
namespace VE
open PySem PySem.Spec PyProof.Rows L2
section
variable {g : GI} {F : Nat → List D → HS → R D} {Gf : Nat → List D → List D → HS → R D} {e : E}
theorem d_bi {X : Cx} {S : Sta} {κ : Kx} {k : Nat} {f : List D → HS → R D} {r : List V → Hp → VK → Prop} {e : Expr} {m : Env → HS → R D} (G : Good X S κ k) (hr : RAD X S f r) (h : PE X e (tCB r (tDs X S m))) : PE X e (tD X S fun ρ h => (m ρ h).bind fun l h1 => f (its l) h1) :=
  h.imp fun σ H Q q => seqA G q fun x vs π H hs rel rs p => hr π H hs _ vs Q _ rel rs p
theorem snd_isT {b : BI} {e' : E} (ih : Snd g F Gf e') : Snd g F Gf (.isT b e') := .plain rfl fun X S κ k x l t G go fs hp h => by
  cases x <;> try (simp only [chkE] at h; cases h; done)
  rename_i fe xs kw pos
  cases fe <;> cases kw <;> try (simp only [chkE] at h; cases h; done)
  match xs, h with
  | [a, .Name y py], h =>
    simp only [chkE] at h
    obtain ⟨h0, h1⟩ := andC_okC h
    simp only [Bool.and_eq_true, decide_eq_true_eq] at h0
    obtain ⟨⟨⟨⟨c1, c2⟩, c3⟩, c4⟩, c5⟩ := h0
    split at c3
    · rename_i p hp'
      have c3 : y = p.2 := by simpa using c3
      subst c3
      obtain ⟨g1, g2⟩ := bl_of G go c2
      obtain ⟨g3, g4⟩ := bl_of G go c4
      exact ⟨d_is G (T := p.1) hp' c1 g1 g2 g3 g4 (ih.val X S κ k _ l G go fs hp h1) (star_cons c5), fun _ => rfl⟩
    · cases c3
  | [], h => simp [chkE] at h
  | [_], h => simp [chkE] at h
  | _ :: _ :: _ :: _, h => simp [chkE] at h
theorem snd_bi {b : BI} {es : E} (ih : Snd g F Gf es) : Snd g F Gf (.bi b es) := .plain rfl fun X S κ k x l t G go fs hp h => by
  cases x <;> try (simp only [chkE] at h; cases h; done)
  rename_i fe xs kw pos
  cases fe <;> cases kw <;> simp only [chkE] at h <;> try (cases h; done)
  rename_i x px
  refine ⟨?_, fun _ => rfl⟩
  obtain ⟨h0, h1⟩ := andC_okC h
  simp only [Bool.and_eq_true] at h0
  obtain ⟨c1, c2⟩ := h0
  obtain ⟨a1, a2, a3⟩ := ih.lst X S κ k _ l G go fs hp h1
  cases xs with
  | nil => simp at c2
  | cons x0 xs =>
    rw [List.all_cons, Bool.and_eq_true] at a3
    split at c1
    · rename_i y hy
      simp only [Bool.and_eq_true, decide_eq_true_eq] at c1
      obtain ⟨c3, c4⟩ := c1
      subst c3
      obtain ⟨g1, g2⟩ := bl_of G go c4
      obtain ⟨id, r, q1, q2, q3, q4, q5⟩ := bi_fn G hy
      exact d_bi G q5 (pe_callB q4 g1 g2 q1 a1 q2 q3 (star_cons a3.1) (star_any a3.2))
    · rename_i y hy0 hy
      simp only [Bool.and_eq_true, decide_eq_true_eq] at c1
      obtain ⟨c3, c4⟩ := c1
      subst c3
      obtain ⟨g1, g2⟩ := bl_of G go c4
      obtain ⟨id, r, q1, q2, q3, q4, q5⟩ := bi_ty G hy
      exact d_bi G q5 (pe_callTy q4 g1 g2 q1 a1 q2 q3 (star_cons a3.1) (star_any a3.2))
    · cases b <;> first | (cases c1; done) | skip
      simp only [Bool.and_eq_true, decide_eq_true_eq] at c1
      obtain ⟨⟨c3, c4⟩, c5⟩ := c1
      subst c4
      exact d_bi G ra_gcd (pe_callBfun cr_gcd (gl_of G c5) (go.gc c3) a1 (by decide) (star_cons a3.1) (star_any a3.2))
/-! rows -/
theorem Snd.row (hv : ∀ t κ x, chkE g e t κ x = none) (hi : ∀ κ tg x, chkI g e κ tg x = none)
    (lst : ∀ (X : Cx) (S : Sta) (κ : Kx) (k : Nat) (xs : List Expr) (l : List (Nat × CodeT)), Good X S κ k → GOk g X S → Fns X S k (fpsOf g) F Gf → (∀ p ∈ l, S.cod p.1 = some p.2) → chkL g e κ xs = some l → PA X xs (tDs X S (ev F Gf e)) ∧ chainE e = some xs.length ∧ xs.all noStar = true)
    (kws : ∀ (X : Cx) (S : Sta) (κ : Kx) (k : Nat) (kw : List Keyword) (l : List (Nat × CodeT)), Good X S κ k → GOk g X S → Fns X S k (fpsOf g) F Gf → (∀ p ∈ l, S.cod p.1 = some p.2) → chkK g e κ kw = some l → PK X kw (tDs X S (ev F Gf e)) ∧ chainE e = some kw.length)
    (arg : ∀ (X : Cx) (S : Sta) (κ : Kx) (k : Nat) (xs : List Expr) (l : List (Nat × CodeT)), Good X S κ k → GOk g X S → Fns X S k (fpsOf g) F Gf → (∀ p ∈ l, S.cod p.1 = some p.2) → chkW g e κ xs = some l → PA X xs (tDw X S (ev F Gf e)) ∧ xs.all noStar = true) : Snd g F Gf e where
  val := fun X S κ k x l G go fs hp' h => by rw [hv] at h; cases h
  test := fun X S κ k x l G go fs hp' h => by rw [hv] at h; cases h
  bop := fun X S κ k op vs pos l G go fs hp' h => by rw [hv] at h; cases h
  lst := lst
  kws := kws
  arg := arg
  itr := fun X S κ k tg x l G go fs hp' h => by rw [hi] at h; cases h
theorem snd_nil : Snd g F Gf .nil := .row (fun t κ x => by simp [chkE]) (fun κ tg x => by simp [chkI])
  (fun X S κ k xs l G go fs hp h => by
    cases xs with
    | nil => exact ⟨d_nil G, rfl, rfl⟩
    | cons x xs => simp [chkL] at h)
  (fun X S κ k xs l G go fs hp h => by
    cases xs with
    | nil => exact ⟨dk_nil, rfl⟩
    | cons x xs => simp [chkK] at h)
  (fun X S κ k xs l G go fs hp h => by
    cases xs with
    | nil => exact ⟨dw_nil, rfl⟩
    | cons x xs => simp [chkW] at h)
theorem dw_of_val {X : Cx} {S : Sta} {κ : Kx} {k : Nat} {a : Expr} {l : List (Nat × CodeT)} (G : Good X S κ k) (go : GOk g X S) (fs : Fns X S k (fpsOf g) F Gf) (hp : ∀ p ∈ l, S.cod p.1 = some p.2) (ih : Snd g F Gf e) (h : chkE g e false κ a = some l) : PE X a (tDw1 X S (ev F Gf e)) := dw_data (ih.val X S κ k a l G go fs hp h)
theorem snd_cons {a r : E} (iha : Snd g F Gf a) (ihr : Snd g F Gf r) : Snd g F Gf (.cons a r) := .row (fun t κ x => by simp [chkE]) (fun κ tg x => by simp [chkI])
  (fun X S κ k xs l G go fs hp h => by
    cases xs with
    | nil => simp [chkL] at h
    | cons x xs =>
      simp only [chkL] at h
      obtain ⟨l1, l2, h1, h2, p1, p2⟩ := andC_two h hp
      obtain ⟨h0, h1⟩ := andC_okC h1
      obtain ⟨a1, a2, a3⟩ := ihr.lst X S κ k _ l2 G go fs p2 h2
      refine ⟨d_cons G (iha.val X S κ k _ l1 G go fs p1 h1) a1 (star_cons h0), ?_, by rw [List.all_cons, h0, a3]; rfl⟩
      unfold chainE; rw [a2]; rfl)
  (fun X S κ k xs l G go fs hp h => by
    cases xs with
    | nil => simp [chkK] at h
    | cons x xs =>
      obtain ⟨nm, x, kp⟩ := x
      simp only [chkK] at h
      obtain ⟨l1, l2, h1, h2, p1, p2⟩ := andC_two h hp
      obtain ⟨a1, a2⟩ := ihr.kws X S κ k _ l2 G go fs p2 h2
      refine ⟨dk_cons (iha.val X S κ k _ l1 G go fs p1 h1) a1, ?_⟩
      unfold chainE; rw [a2]; rfl)
  (fun X S κ k xs l G go fs hp h => by
    cases xs with
    | nil => simp [chkW] at h
    | cons x xs =>
      simp only [chkW] at h
      obtain ⟨l1, l2, h1, h2, p1, p2⟩ := andC_two h hp
      obtain ⟨h0, h1⟩ := andC_okC h1
      obtain ⟨a1, a3⟩ := ihr.arg X S κ k _ l2 G go fs p2 h2
      refine ⟨dw_cons ?_ a1 (star_cons h0), by rw [List.all_cons, h0, a3]; rfl⟩
      split at h1
      · obtain ⟨h1, _⟩ := okC_some h1
        obtain ⟨g1, g2, ad, g3, g4⟩ := fn_of G go h1
        exact dw_gfn g3 g1 g4 g2
      · obtain ⟨h1, _⟩ := okC_some h1
        simp only [Bool.and_eq_true] at h1
        exact dw_fnv G (at_of h1.1.2) (vis_of h1.2) (nameB_of h1.1.1).1 (nameB_of h1.1.1).2
      · obtain ⟨h1, _⟩ := okC_some h1
        simp only [Bool.and_eq_true, decide_eq_true_eq] at h1
        obtain ⟨⟨⟨c1, c2⟩, c3⟩, c4⟩ := h1
        exact dw_ndv G (fun C hC => go.fr _ C hC) c4 (at_of c2) (vis_of c3) (nameB_of c1).1 (nameB_of c1).2
      · obtain ⟨h3, h4⟩ := andC_okC h1
        cases h4
        exact dw_lam G (C := lamC g κ _ _ _ _) (p1 _ List.mem_cons_self) h3 rfl
      · exact dw_of_val G go fs p1 iha h1)
/-! what is walked -/
theorem Snd.walk (hv : ∀ t κ x, chkE g e t κ x = none) (hl : ∀ κ x, chkL g e κ x = none) (hk : ∀ κ x, chkK g e κ x = none) (hw : ∀ κ x, chkW g e κ x = none)
    (itr : ∀ (X : Cx) (S : Sta) (κ : Kx) (k : Nat) (tg x : Expr) (l : List (Nat × CodeT)), Good X S κ k → GOk g X S → Fns X S k (fpsOf g) F Gf → (∀ p ∈ l, S.cod p.1 = some p.2) → chkI g e κ tg x = some l → PI X tg x (tID X S (ev F Gf e))) : Snd g F Gf e where
  val := fun X S κ k x l G go fs hp' h => by rw [hv] at h; cases h
  test := fun X S κ k x l G go fs hp' h => by rw [hv] at h; cases h
  bop := fun X S κ k op vs pos l G go fs hp' h => by rw [hv] at h; cases h
  lst := fun X S κ k xs l G go fs hp' h => by rw [hl] at h; cases h
  kws := fun X S κ k xs l G go fs hp' h => by rw [hk] at h; cases h
  arg := fun X S κ k xs l G go fs hp' h => by rw [hw] at h; cases h
  itr := itr
theorem snd_iseq {a : E} (iha : Snd g F Gf a) : Snd g F Gf (.iseq a) := .walk (fun t κ x => by simp [chkE]) (fun κ x => by simp [chkL]) (fun κ x => by simp [chkK]) (fun κ x => by simp [chkW])
  fun X S κ k tg x l G go fs hp h => by
    simp only [chkI] at h
    exact di_seq (iha.val X S κ k _ l G go fs hp h)
theorem snd_irng {es : E} (ih : Snd g F Gf es) : Snd g F Gf (.irng es) := .walk (fun t κ x => by simp [chkE]) (fun κ x => by simp [chkL]) (fun κ x => by simp [chkK]) (fun κ x => by simp [chkW])
  fun X S κ k tg x l G go fs hp h => by
    cases x <;> try (simp only [chkI] at h; cases h; done)
    rename_i fe xs kw pos
    cases fe <;> cases kw <;> simp only [chkI] at h <;> try (cases h; done)
    obtain ⟨h0, h1⟩ := andC_okC h
    simp only [Bool.and_eq_true, Bool.or_eq_true, decide_eq_true_eq] at h0
    obtain ⟨⟨c1, c2⟩, c3⟩ := h0
    subst c1
    obtain ⟨g1, g2⟩ := bl_of G go c2
    obtain ⟨a1, a2, a3⟩ := ih.lst X S κ k _ l G go fs hp h1
    match xs, a1, a2, a3, c3 with
    | [y], a1, a2, a3, _ =>
      rw [List.all_cons, Bool.and_eq_true] at a3
      exact di_rng1 g1 g2 a1 (by rw [star_cons a3.1]; rfl) fun ρ h d h' q => ev_len es a2 q
    | [y, z], a1, a2, a3, _ =>
      rw [List.all_cons, Bool.and_eq_true, List.all_cons, Bool.and_eq_true] at a3
      exact di_rng2 g1 g2 a1 (by rw [star_cons a3.1, star_cons a3.2.1]; rfl) (by rw [star_cons a3.2.1]; rfl) fun ρ h d h' q => ev_len es a2 q
    | [], _, _, _, c3 => simp at c3
    | _ :: _ :: _ :: _, _, _, _, c3 => simp at c3
theorem snd_ienum {a : E} (iha : Snd g F Gf a) : Snd g F Gf (.ienum a) := .walk (fun t κ x => by simp [chkE]) (fun κ x => by simp [chkL]) (fun κ x => by simp [chkK]) (fun κ x => by simp [chkW])
  fun X S κ k tg x l G go fs hp h => by
    simp only [chkI] at h
    split at h
    · rename_i n y hi
      obtain ⟨elts, kk, p, p1, p2, rfl, rfl⟩ := itCall_eq hi
      obtain ⟨h0, h1⟩ := andC_okC h
      simp only [Bool.and_eq_true, decide_eq_true_eq] at h0
      obtain ⟨⟨c1, c2⟩, c3⟩ := h0
      subst c1
      obtain ⟨g1, g2⟩ := bl_of G go c2
      exact di_enum G g1 g2 (iha.val X S κ k _ l G go fs hp h1) (by rw [star_cons c3]; rfl)
    · cases h
theorem snd_izip {a b : E} (iha : Snd g F Gf a) (ihb : Snd g F Gf b) : Snd g F Gf (.izip a b) := .walk (fun t κ x => by simp [chkE]) (fun κ x => by simp [chkL]) (fun κ x => by simp [chkK]) (fun κ x => by simp [chkW])
  fun X S κ k tg x l G go fs hp h => by
    simp only [chkI] at h
    split at h
    · rename_i n y z hi
      obtain ⟨elts, kk, p, q1, q2, rfl, rfl⟩ := itCall_eq hi
      obtain ⟨l1, l2, h1, h2, p1, p2⟩ := andC_two h hp
      obtain ⟨h0, h1'⟩ := andC_okC h1
      simp only [Bool.and_eq_true, decide_eq_true_eq] at h0
      obtain ⟨⟨⟨c1, c2⟩, c3⟩, c4⟩ := h0
      subst c1
      obtain ⟨g1, g2⟩ := bl_of G go c2
      exact di_zip G g1 g2 (iha.val X S κ k _ l1 G go fs p1 h1') (ihb.val X S κ k _ l2 G go fs p2 h2) (star_cons c3) (star_cons c4) (star_any (by rw [List.all_cons, c4]; rfl))
    · cases h
/-! comprehensions -/
theorem GOk.blk {X : Cx} {S : Sta} (go : GOk g X S) {scope : Scope} (s : Shared) (H : Hp) (C : Addr) (cl : List (Str × Addr)) (fp : List Addr) : GOk g (X.blk s H scope (compEnvC scope cl C X.env) fp) S.noX := ⟨go.gf, go.nn, go.gl, go.gc, go.fr⟩
theorem Fns.blk {X : Cx} {S : Sta} {k : Nat} {fps : Nat → List Str} (fs : Fns X S k fps F Gf) {scope : Scope} (s : Shared) (H : Hp) (C : Addr) (cl : List (Str × Addr)) (fp : List Addr) : Fns (X.blk s H scope (compEnvC scope cl C X.env) fp) S.noX k fps F Gf := ⟨fs.fn, fs.cl⟩
theorem assign_len {env : PySem.Env} : ∀ {xs : List Expr}, xs.all noStar = true → (assignEach xs env).length = xs.length ∧ (assignEach xs env).findIdx? (·.1) = none
  | [], _ => ⟨rfl, rfl⟩
  | a :: xs, h => by
    rw [List.all_cons, Bool.and_eq_true] at h
    obtain ⟨h1, h2⟩ := assign_len (env := env) h.2
    have e : assignEach (a :: xs) env = (false, assign a env) :: assignEach xs env := by
      cases a <;> first | rfl | (simp [noStar] at h; done)
    rw [e]
    refine ⟨by rw [List.length_cons, List.length_cons, h1], ?_⟩
    rw [List.findIdx?_cons, h2]
    rfl
theorem assign_cons {env : PySem.Env} {a : Expr} {xs : List Expr} (h : noStar a = true) : (assignEach (a :: xs) env).map (·.2) = assign a env :: (assignEach xs env).map (·.2) := by
  cases a <;> first | rfl | (simp [noStar] at h; done)
theorem chkN_both {X : Cx} {S : Sta} {κ : Kx} {k : Nat} (G : Good X S κ k) {vs : List Nat} (t : E) : (∀ (x : Expr), chkN κ vs t x = true → PG X x (tGN X S t vs)) ∧ ∀ (xs : List Expr), chkN.chkNs κ vs t xs = true → PGs X xs (tGNs X S t vs) ∧ chainE t = some xs.length ∧ xs.all noStar = true := by
  induction t with
  | var i =>
    refine ⟨fun x h => ?_, fun xs h => by simp [chkN.chkNs] at h⟩
    cases x <;> try (simp [chkN] at h; done)
    simp only [chkN, Bool.and_eq_true, decide_eq_true_eq] at h
    obtain ⟨⟨h1, h2⟩, h3⟩ := h
    exact dg_name G (at_of h1) (loc_of h2).1 (loc_of h2).2 h3
  | tup t ih =>
    refine ⟨fun x h => ?_, fun xs h => by simp [chkN.chkNs] at h⟩
    cases x <;> try (simp [chkN] at h; done)
    simp only [chkN] at h
    obtain ⟨h1, h2, h3⟩ := ih.2 _ h
    obtain ⟨h4, h5⟩ := assign_len (env := X.env) h3
    exact dg_tup G h1 h2 h4 h5
  | nil =>
    refine ⟨fun x h => by simp [chkN] at h, fun xs h => ?_⟩
    cases xs with
    | nil => exact ⟨dgs_nil G, rfl, rfl⟩
    | cons x xs => simp [chkN.chkNs] at h
  | cons t r iht ihr =>
    refine ⟨fun x h => by simp [chkN] at h, fun xs h => ?_⟩
    cases xs with
    | nil => simp [chkN.chkNs] at h
    | cons x xs =>
      simp only [chkN.chkNs, Bool.and_eq_true] at h
      obtain ⟨⟨h1, h2⟩, h3⟩ := h
      obtain ⟨a1, a2, a3⟩ := ihr.2 _ h3
      refine ⟨dgs_cons G (iht.1 _ h2) a1 (assign_cons h1), ?_, by rw [List.all_cons, h1, a3]; rfl⟩
      unfold chainE; rw [a2]; rfl
  | _ => exact ⟨fun x h => by simp [chkN] at h, fun xs h => by simp [chkN.chkNs] at h⟩
theorem snd_comp {it tt c e : E} {own : List (Str × Nat)} (ihi : Snd g F Gf it) (ihc : Snd g F Gf c) (ihe : Snd g F Gf e) : Snd g F Gf (.comp it tt c e own) := .plain rfl fun X S κ k x l t G go fs hp h => by
  cases x <;> simp only [chkE] at h <;> try (cases h; done)
  rename_i elt gens scope pos
  split at h
  · rename_i tg iter ifs hg
    have hg := gen1_eq hg
    subst hg
    obtain ⟨l123, l4, h123, h4, p123, p4⟩ := andC_two h hp
    obtain ⟨l12, l3, h12, h3, p12, p3⟩ := andC_two h123 p123
    obtain ⟨h0, h1⟩ := andC_okC h12
    simp only [Bool.and_eq_true] at h0
    obtain ⟨⟨c1, c2⟩, c3⟩ := h0
    refine ⟨d_lc G (ihi.itr X S κ k _ _ l12 G go fs p12 h1) (blkOk_by c1) (fun s H C cl fp => (chkN_both (G.blk scope s H C cl fp) tt).1 _ c2) (mc := fun ρ' h' => if isNil c then .ok (.bl true) h' else ev F Gf c ρ' h') (fun s H C cl fp => ?_) (fun s H C cl fp => ihe.val _ _ _ k _ l4 (G.blk scope s H C cl fp) (go.blk s H C cl fp) (fs.blk s H C cl fp) p4 h4) (set_no c3), fun _ => rfl⟩
    split at h3
    · obtain ⟨h5, _⟩ := okC_some h3
      simp only [h5, if_true]
      exact d_iftrue (S := S.noX) (X := X.blk s H scope (compEnvC scope cl C X.env) fp) rfl
    · obtain ⟨h5, h6⟩ := andC_okC h3
      have h5 : isNil c = false := by simpa using h5
      simp only [h5, Bool.false_eq_true, if_false]
      exact pts_one (ihc.test _ _ _ k _ l3 (G.blk scope s H C cl fp) (go.blk s H C cl fp) (fs.blk s H C cl fp) p3 h6)
    · cases h3
  · cases h
theorem snd_comp2 {it tt it2 t2 e : E} {own : List (Str × Nat)} {vs1 : List Nat} (ihi : Snd g F Gf it) (ihi2 : Snd g F Gf it2) (ihe : Snd g F Gf e) : Snd g F Gf (.comp2 it tt it2 t2 e own vs1) := .plain rfl fun X S κ k x l t G go fs hp h => by
  cases x <;> simp only [chkE] at h <;> try (cases h; done)
  rename_i elt gens scope pos
  split at h
  · rename_i tg iter tg1 iter1 hg
    have hg := gen2_eq hg
    subst hg
    obtain ⟨l123, l4, h123, h4, p123, p4⟩ := andC_two h hp
    obtain ⟨l12, l3, h12, h3, p12, p3⟩ := andC_two h123 p123
    obtain ⟨h0, h1⟩ := andC_okC h12
    simp only [Bool.and_eq_true, List.all_eq_true, decide_eq_true_eq] at h0
    obtain ⟨⟨⟨⟨⟨c1, c2⟩, c3⟩, c4⟩, c5⟩, c6⟩ := h0
    exact ⟨d_lc2 G (ihi.itr X S κ k _ _ l12 G go fs p12 h1) (blkOk_by c1) c4 (fun s H C cl fp => (chkN_both (G.blk scope s H C cl fp) tt).1 _ c2) (fun s H C cl fp => ihi2.itr _ _ _ k _ _ l3 (G.blk scope s H C cl fp) (go.blk s H C cl fp) (fs.blk s H C cl fp) p3 h3) (fun s H C cl fp => (chkN_both (G.blk scope s H C cl fp) t2).1 _ c3) (fun s H C cl fp => ihe.val _ _ _ k _ l4 (G.blk scope s H C cl fp) (go.blk s H C cl fp) (fs.blk s H C cl fp) p4 h4) (set_no c5) (fun env x => set_no c6 x), fun _ => rfl⟩
  · cases h
/-- one that the check never lets pass -/
theorem snd_none (hv : ∀ t κ x, chkE g e t κ x = none) (hl : ∀ κ x, chkL g e κ x = none) (hk : ∀ κ x, chkK g e κ x = none) (hw : ∀ κ x, chkW g e κ x = none) (hi : ∀ κ tg x, chkI g e κ tg x = none) : Snd g F Gf e :=
  .walk hv hl hk hw fun X S κ k tg x l G go fs hp h => by rw [hi] at h; cases h
/-- EVERY expression -/
theorem snd_all (e : E) : Snd g F Gf e := by
  induction e with
  | nil => exact snd_nil
  | cons e r ih1 ih2 => exact snd_cons ih1 ih2
  | var i => exact snd_var i
  | cst d => exact snd_cst d
  | gl x d => exact snd_gl x d
  | tup es ih => exact snd_tup ih
  | lst es ih => exact snd_lst ih
  | lstO es ih => exact snd_lstO ih
  | callK f es kws ks perm ih1 ih2 => exact snd_callK ih1 ih2
  | callF f es ih => exact snd_callF ih
  | callV i es ih => exact snd_callV ih
  | bi b es ih => exact snd_bi ih
  | isT b e ih => exact snd_isT ih
  | mt m e es ih1 ih2 => exact snd_mt ih1 ih2
  | bin o a b ih1 ih2 => exact snd_bin ih1 ih2
  | neg a ih => exact snd_neg ih
  | cmp o a b ih1 ih2 => exact snd_cmp ih1 ih2
  | ch o1 o2 a b c ih1 ih2 ih3 => exact snd_ch ih1 ih2 ih3
  | and a b ih1 ih2 => exact snd_and ih1 ih2
  | or a b ih1 ih2 => exact snd_or ih1 ih2
  | one a ih => exact snd_one ih
  | not a ih => exact snd_not ih
  | ife c a b ih1 ih2 ih3 => exact snd_ife ih1 ih2 ih3
  | ix a i ih1 ih2 => exact snd_ix ih1 ih2
  | sl a lo hi ih1 ih2 ih3 => exact snd_sl ih1 ih2 ih3
  | rev a ih => exact snd_rev ih
  | comp it t c e own ih1 ih2 ih3 ih4 => exact snd_comp ih1 ih3 ih4
  | comp2 it t it2 t2 e own vs1 ih1 ih2 ih3 ih4 ih5 => exact snd_comp2 ih1 ih3 ih5
  | iseq e ih => exact snd_iseq ih
  | irng es ih => exact snd_irng ih
  | ienum e ih => exact snd_ienum ih
  | izip a b ih1 ih2 => exact snd_izip ih1 ih2
  | dctO => exact snd_dctO
  | dctTO => exact snd_dctTO
  | dgt a b ih1 ih2 => exact snd_dgt ih1 ih2
  | din a b ih1 ih2 => exact snd_din ih1 ih2
  | dnin a b ih1 ih2 => exact snd_dnin ih1 ih2
  | lsd e ih => exact snd_lsd ih
  | dctL e ih => exact snd_dctL ih
  | sum1 e ih => exact snd_sum1 ih
  | listRange e ih => exact snd_listRange ih
  | sortedSet e ih => exact snd_sortedSet ih
  | tupS a p b ih1 ih2 ih3 => exact snd_tupS ih1 ih2 ih3
  | lstS a p b ih1 ih2 ih3 => exact snd_lstS ih2 ih3
  | idx a e ih1 ih2 => exact snd_idx ih1 ih2
  | _ => exact snd_none (fun t κ x => by simp [chkE]) (fun κ x => by simp [chkL]) (fun κ x => by simp [chkK]) (fun κ x => by simp [chkW]) (fun κ tg x => by simp [chkI])
end
end VE
set_option Elab.async false
set_option linter.all false
set_option maxRecDepth 100000
set_option maxHeartbeats 1000000
set_option autoImplicit false
/-! V25: statements: the check, its soundness -/
namespace VE
open PySem PySem.Spec PyProof.Rows L2
/-! ### targets -/
def chkM (g : GI) (κ : Kx) : E → Expr → Ck
  | .var i, .Name x _ => okC (atB κ i x && locB κ x)
  | .tup t, .Tuple es _ _ => chkMs g κ t es
  | .ix a i, .Subscript x y _ => okC (noSlice y) &&& chkE g a false κ x &&& chkE g i false κ y
  | _, _ => none
where chkMs (g : GI) (κ : Kx) : E → List Expr → Ck
  | .nil, [] => some []
  | .cons t r, x :: xs => okC (noStar x) &&& chkM g κ t x &&& chkMs g κ r xs
  | _, _ => none
/-- whether a, b = x, y stores from the right (some true), or from the left -/
def nameIf (sc : Scope) (line : Nat) : Expr → Option Str
  | .Name id pos => if (sc.names.lookup id == some .local && pos.line == line) = true then some id else none
  | _ => none
def swapNm (sc : Scope) (ts : List Expr) : List Str := ts.filterMap (nameIf sc ((ts.head?.map (·.pos.line)).getD 0))
def swapC (sc : Scope) (ts vs : List Expr) : Option Bool :=
  if (!(ts.length == 2 || ts.length == 3) || vs.length != ts.length) = true then some false
  else if (vs.any fun | .Starred .. => true | _ => false) = true then some false
  else if ((swapNm sc ts).length != ts.length || (swapNm sc ts).eraseDups.length != (swapNm sc ts).length) = true then some false
  else if vs.all (foldedForSure 8) = true then some false
  else if vs.all (constantsAlone 8) = true then none
  else some true
theorem swapC_eq {env : PySem.Env} {ts vs : List Expr} {k1 k2 : Nat} {p1 p2 : Pos} {b : Bool} (hk : env.scope.kind = .function) (h : swapC env.scope ts vs = some b) :
    swappedStores [.Tuple ts k1 p1] (.Tuple vs k2 p2) env = pure (if b then some (swapNm env.scope ts) else none) := by
  have hb : env.blockKind = .function := by unfold Env.blockKind; rw [hk]; rfl
  have e1 : (ScopeKind.function != ScopeKind.function) = false := rfl
  unfold swapC at h
  unfold swappedStores
  simp only [hb, e1, Bool.or_false]
  split at h
  · rename_i c
    cases h
    exact if_pos c
  · rename_i c1
    refine (if_neg c1).trans ?_
    split at h
    · rename_i c
      cases h
      exact if_pos c
    · rename_i c2
      refine (if_neg c2).trans ?_
      split at h
      · rename_i c
        cases h
        exact if_pos c
      · rename_i c3
        refine (if_neg c3).trans ?_
        split at h
        · rename_i c
          cases h
          exact if_pos c
        · rename_i c4
          refine (if_neg c4).trans ?_
          split at h
          · cases h
          · rename_i c5
            cases h
            exact if_neg c5
/-! ### statements -/
def boAug : BO → Operator → Bool
  | .add, .Add => true
  | .sub, .Sub => true
  | _, _ => false
/-- name = [..] on one line, the name a local: the store comes within the comprehension -/
def lcSw (sc : Scope) (x : Str) (px : Pos) : Expr → Option Bool
  | .ListComp _ _ scope p => if sc.names.lookup x = some .local then (if ((px.line == p.line) && !(scope.names.any fun (n, k) => n == x && (k == .local || k == .cell))) = true then some true else none) else some false
  | .SetComp _ _ _ _ => none
  | .DictComp _ _ _ _ _ => none
  | _ => some false
def ndfC (g : GI) (κ : Kx) (c : Nat) (name : Str) (params : Arguments) (body : List Stmt) (scope : Scope) : CodeT := ⟨name, κ.qual ++ name, params, .stmts body, scope, g.frs.getD c []⟩
def chkA (g : GI) (κ : Kx) (t e : E) (tg ex : Expr) : Ck := match tg, t with
  | .Name x px, .var i => match lcSw κ.sc x px ex with
    | some true => okC (atB κ i x && decide (κ.sc.kind = .function)) &&& chkE g e false κ ex
    | some false => okC (atB κ i x && locB κ x && decide (κ.sc.kind = .function)) &&& chkE g e false κ ex
    | none => none
  | .Tuple ts _ _, .tup tt => match ex, e with
    | .Tuple vs _ _, .tup es => match swapC κ.sc ts vs with
      | some false => okC (decide (κ.sc.kind = .function)) &&& chkM g κ t tg &&& chkE g e false κ ex
      | some true => match ts, vs, tt with
        | [.Name x _, .Name y _], [a, b], .cons (.var i) (.cons (.var j) .nil) => okC (decide (κ.sc.kind = .function) && atB κ i x && atB κ j y && decide (i ≠ j) && decide (κ.sc.names.lookup x = some .local) && decide (κ.sc.names.lookup y = some .local) && decide (swapNm κ.sc ts = [x, y])) &&& chkL g es κ vs
        | [.Name x _, .Name y _, .Name z _], [a, b, c], .cons (.var i) (.cons (.var j) (.cons (.var k) .nil)) => okC (decide (κ.sc.kind = .function) && atB κ i x && atB κ j y && atB κ k z && decide (i ≠ j) && decide (i ≠ k) && decide (j ≠ k) && decide (κ.sc.names.lookup x = some .local) && decide (κ.sc.names.lookup y = some .local) && decide (κ.sc.names.lookup z = some .local) && decide (swapNm κ.sc ts = [x, y, z])) &&& chkL g es κ vs
        | _, _, _ => none
      | none => none
    | .Tuple _ _ _, _ => none
    | _, _ => chkM g κ t tg &&& chkE g e false κ ex
  | .Subscript _ _ _, .ix _ _ => chkM g κ t tg &&& chkE g e false κ ex
  | _, _ => none
/-- one target, a subscript -/
def subAt : List Expr → Option (Expr × Expr × Pos)
  | [.Subscript x y p] => some (x, y, p)
  | _ => none
theorem subAt_eq {tgs : List Expr} {x y : Expr} {p : Pos} (h : subAt tgs = some (x, y, p)) : tgs = [.Subscript x y p] := by
  unfold subAt at h
  split at h
  · cases h; rfl
  · cases h
mutual
def chkS (g : GI) (κ : Kx) : S → Stmt → Ck
  | .asg t e, .Assign [tg] ex _ => chkA g κ t e tg ex
  | .dput o i e, .Assign tgs ex _ => match subAt tgs with
    | some (x, y, _) => chkE g o false κ x &&& chkE g i false κ y &&& chkE g e false κ ex
    | none => none
  | .aug i o e, .AugAssign (.Name x _) op ex _ => okC (boAug o op && atB κ i x && locB κ x) &&& chkE g e false κ ex
  | .ite c a b, .If x xs ys _ => chkE g c true κ x &&& chkB g κ a xs &&& chkB g κ b ys
  | .wh n c b, .While x xs [] _ => chkE g c true κ x &&& chkB g κ b xs
  | .fo t it b, .For tg iter xs [] _ => okC (noSet iter) &&& chkM g κ t tg &&& chkI g it κ tg iter &&& chkB g κ b xs
  | .ret e, .Return (some x) _ => chkE g e false κ x
  | .retN, .Return none _ => some []
  | .ex e, .Expr x _ => okC (noComp x) &&& chkE g e false κ x
  | .pass, .Pass _ => some []
  | .cont, .Continue _ => some []
  | .brk, .Break _ => some []
  | .never, _ => some []
  | .ndf i c, .FunctionDef name params body [] none [] scope none name' pos => okC (decide (name = name') && ndfB κ (ndfC g κ c name params body scope) name pos && atB κ i name && locB κ name) &&& (some [(c, ndfC g κ c name params body scope)] : Ck)
  | _, _ => none
def chkB (g : GI) (κ : Kx) : S → List Stmt → Ck
  | .skip, [] => some []
  | .seq a b, st :: rest => chkS g κ a st &&& chkB g κ b rest
  | _, _ => none
end
end VE
set_option Elab.async false
set_option linter.all false
set_option maxRecDepth 100000
set_option maxHeartbeats 1000000
set_option autoImplicit false
/-! V26: statements that pass the check do what the fragment says -/
namespace VE
open PySem PySem.Spec PyProof.Rows L2
section
variable {g : GI} {F : Nat → List D → HS → R D} {Gf : Nat → List D → List D → HS → R D} {X : Cx} {S : Sta} {κ : Kx} {k : Nat}
theorem chkM_both (G : Good X S κ k) (go : GOk g X S) (fs : Fns X S k (fpsOf g) F Gf) (t : E) : (∀ (x : Expr) (l : List (Nat × CodeT)), (∀ p ∈ l, S.cod p.1 = some p.2) → chkM g κ t x = some l → PG X x (tGM X S (stT F Gf t))) ∧ ∀ (xs : List Expr) (l : List (Nat × CodeT)), (∀ p ∈ l, S.cod p.1 = some p.2) → chkM.chkMs g κ t xs = some l → PGs X xs (tGMs X S (stT F Gf t)) ∧ chainE t = some xs.length ∧ xs.all noStar = true := by
  induction t with
  | var i =>
    refine ⟨fun x l hp h => ?_, fun xs l hp h => by simp [chkM.chkMs] at h⟩
    cases x <;> try (simp [chkM] at h; done)
    simp only [chkM] at h
    obtain ⟨h, _⟩ := okC_some h
    simp only [Bool.and_eq_true] at h
    exact dm_name G (at_of h.1) (loc_of h.2).1 (loc_of h.2).2
  | tup t ih =>
    refine ⟨fun x l hp h => ?_, fun xs l hp h => by simp [chkM.chkMs] at h⟩
    cases x <;> try (simp [chkM] at h; done)
    simp only [chkM] at h
    obtain ⟨h1, h2, h3⟩ := ih.2 _ l hp h
    obtain ⟨h4, h5⟩ := assign_len (env := X.env) h3
    exact dm_tup G h1 h2 h4 h5
  | ix a i _ _ =>
    refine ⟨fun x l hp h => ?_, fun xs l hp h => by simp [chkM.chkMs] at h⟩
    cases x <;> try (simp [chkM] at h; done)
    simp only [chkM] at h
    obtain ⟨l1, l2, h1, h2, p1, p2⟩ := andC_two h hp
    obtain ⟨h0, h1'⟩ := andC_okC h1
    refine dm_ix G ((snd_all a).val X S κ k _ l1 G go fs p1 h1') ((snd_all i).val X S κ k _ l2 G go fs p2 h2) fun v => ?_
    rename_i o ii pos
    cases ii <;> first | rfl | (simp [noSlice] at h0; done)
  | nil =>
    refine ⟨fun x l hp h => by simp [chkM] at h, fun xs l hp h => ?_⟩
    cases xs with
    | nil => exact ⟨dms_nil F Gf, rfl, rfl⟩
    | cons x xs => simp [chkM.chkMs] at h
  | cons t r iht ihr =>
    refine ⟨fun x l hp h => by simp [chkM] at h, fun xs l hp h => ?_⟩
    cases xs with
    | nil => simp [chkM.chkMs] at h
    | cons x xs =>
      simp only [chkM.chkMs] at h
      obtain ⟨l1, l2, h1, h2, p1, p2⟩ := andC_two h hp
      obtain ⟨h0, h1'⟩ := andC_okC h1
      obtain ⟨a1, a2, a3⟩ := ihr.2 _ l2 p2 h2
      refine ⟨dms_cons (iht.1 _ l1 p1 h1') a1 (assign_cons h0), ?_, by rw [List.all_cons, h0, a3]; rfl⟩
      unfold chainE; rw [a2]; rfl
  | _ => exact ⟨fun x l hp h => by simp [chkM] at h, fun xs l hp h => by simp [chkM.chkMs] at h⟩
theorem sw_no {e : Expr} (h : noComp e = true) (t : Option Expr) (line : Nat) (env : PySem.Env) : swapsWith e t line env = pure false := by
  cases e <;> first | rfl | (simp [noComp] at h; done)
/-- name = value -/
theorem asg_name (G : Good X S κ k) (go : GOk g X S) (fs : Fns X S k (fpsOf g) F Gf) {i : Nat} {e : E} {x : Str} {px pos : Pos} {ex : Expr} {l : List (Nat × CodeT)} (hp : ∀ p ∈ l, S.cod p.1 = some p.2) {b : Bool} (hb : lcSw κ.sc x px ex = some b) (hi : κ.N[i]? = some x) (hl : b = false → locB κ x = true) (hk : κ.sc.kind = .function) (h : chkE g e false κ ex = some l) :
    PS X (.Assign [.Name x px] ex pos) (tSD X S fun ρ h => .ofR ρ (ev F Gf e ρ h) fun d h1 => .ofR ρ (stT F Gf (.var i) d ρ h1).nox fun ρ' h2 => .nx ρ' h2) := by
  have hsem : (fun (ρ : Env) (h : HS) => Out.ofR ρ (ev F Gf e ρ h) fun d h1 => Out.ofR ρ (stT F Gf (.var i) d ρ h1).nox fun ρ' h2 => Out.nx ρ' h2) = fun ρ h => .ofR ρ (ev F Gf e ρ h) fun d h1 => .nx (ρ.set i (some d)) h1 := rfl
  rw [hsem]
  have he := (snd_all (F := F) (Gf := Gf) e).val X S κ k ex l G go fs hp h
  cases b with
  | false =>
    have hl := hl rfl
    refine ds_set G hi (loc_of hl).1 (loc_of hl).2 he ?_
    cases ex <;> first | rfl | skip
    · rename_i elt gens scope p
      have hn : ¬ List.lookup x κ.sc.names = some NameKind.local := by
        intro hx
        simp only [lcSw, hx] at hb
        simp at hb
      unfold swapsWith
      have : (X.env.kindOf x == some .local) = false := by
        show (X.env.scope.names.lookup x == some .local) = false
        rw [G.sce, beq_eq_false_iff_ne]; exact hn
      simp [this]
    · simp [lcSw] at hb
    · simp [lcSw] at hb
  | true =>
    cases ex <;> simp only [lcSw] at hb <;> try (cases hb; done)
    rename_i elt gens scope p
    split at hb
    · rename_i hx
      split at hb
      · rename_i hc
        rw [Bool.and_eq_true, Bool.not_eq_true'] at hc
        have hsw : ∀ gens, swapsWith (.ListComp elt gens scope p) (some (.Name x px)) pos.line X.env = pure true := fun gens => sw_true (by rw [G.sce]; exact hk) (by rw [G.sce]; exact hx) hc.1 hc.2
        cases e <;> simp only [chkE] at h <;> try (cases h; done)
        · rename_i it tt c e own
          split at h
          · rename_i tg iter ifs hg
            have hg := gen1_eq hg
            subst hg
            obtain ⟨l123, l4, h123, h4, p123, p4⟩ := andC_two h hp
            obtain ⟨l12, l3, h12, h3, p12, p3⟩ := andC_two h123 p123
            obtain ⟨h0, h1⟩ := andC_okC h12
            simp only [Bool.and_eq_true] at h0
            obtain ⟨⟨c1, c2⟩, c3⟩ := h0
            refine ds_setLc G hi hx (hsw _) ((snd_all it).itr X S κ k _ _ l12 G go fs p12 h1) (blkOk_by c1) (fun s H C cl fp => (chkN_both (G.blk scope s H C cl fp) tt).1 _ c2) (mc := fun ρ' h' => if isNil c then .ok (.bl true) h' else ev F Gf c ρ' h') (fun s H C cl fp => ?_) (fun s H C cl fp => (snd_all e).val _ _ _ k _ l4 (G.blk scope s H C cl fp) (go.blk s H C cl fp) (fs.blk s H C cl fp) p4 h4) (set_no c3)
            split at h3
            · obtain ⟨h5, _⟩ := okC_some h3
              simp only [h5, if_true]
              exact d_iftrue (S := S.noX) (X := X.blk s H scope (compEnvC scope cl C X.env) fp) rfl
            · obtain ⟨h5, h6⟩ := andC_okC h3
              have h5 : isNil c = false := by simpa using h5
              simp only [h5, Bool.false_eq_true, if_false]
              exact pts_one ((snd_all c).test _ _ _ k _ l3 (G.blk scope s H C cl fp) (go.blk s H C cl fp) (fs.blk s H C cl fp) p3 h6)
            · cases h3
          · cases h
        · rename_i it tt it2 t2 e own vs1
          split at h
          · rename_i tg iter tg1 iter1 hg
            have hg := gen2_eq hg
            subst hg
            obtain ⟨l123, l4, h123, h4, p123, p4⟩ := andC_two h hp
            obtain ⟨l12, l3, h12, h3, p12, p3⟩ := andC_two h123 p123
            obtain ⟨h0, h1⟩ := andC_okC h12
            simp only [Bool.and_eq_true, List.all_eq_true, decide_eq_true_eq] at h0
            obtain ⟨⟨⟨⟨⟨c1, c2⟩, c3⟩, c4⟩, c5⟩, c6⟩ := h0
            exact ds_setLc2 G hi hx (hsw _) ((snd_all it).itr X S κ k _ _ l12 G go fs p12 h1) (blkOk_by c1) c4 (fun s H C cl fp => (chkN_both (G.blk scope s H C cl fp) tt).1 _ c2) (fun s H C cl fp => (snd_all it2).itr _ _ _ k _ _ l3 (G.blk scope s H C cl fp) (go.blk s H C cl fp) (fs.blk s H C cl fp) p3 h3) (fun s H C cl fp => (chkN_both (G.blk scope s H C cl fp) t2).1 _ c3) (fun s H C cl fp => (snd_all e).val _ _ _ k _ l4 (G.blk scope s H C cl fp) (go.blk s H C cl fp) (fs.blk s H C cl fp) p4 h4) (set_no c5) (fun env x => set_no c6 x)
          · cases h
      · cases hb
    · cases hb
/-- (a, b, ..) = value, o[i] = value -/
theorem asg_gen (G : Good X S κ k) (go : GOk g X S) (fs : Fns X S k (fpsOf g) F Gf) {t e : E} {tg ex : Expr} {pos : Pos} {l1 l2 : List (Nat × CodeT)} (p1 : ∀ p ∈ l1, S.cod p.1 = some p.2) (p2 : ∀ p ∈ l2, S.cod p.1 = some p.2) (h1 : chkM g κ t tg = some l1) (h2 : chkE g e false κ ex = some l2)
    (hs : swapsWithSole [tg] ex pos.line X.env = pure false) (hw : swappedStores [tg] ex X.env = pure none) (ha : (assignEach [tg] X.env).map (·.2) = [assign tg X.env]) :
    PS X (.Assign [tg] ex pos) (tSD X S fun ρ h => .ofR ρ (ev F Gf e ρ h) fun d h1 => .ofR ρ (stT F Gf t d ρ h1).nox fun ρ' h2 => .nx ρ' h2) :=
  ds_asg G ((snd_all e).val X S κ k ex l2 G go fs p2 h2) ((chkM_both G go fs t).1 tg l1 p1 h1) hs hw ha
theorem asg_ok (G : Good X S κ k) (go : GOk g X S) (fs : Fns X S k (fpsOf g) F Gf) {t e : E} {tg ex : Expr} {pos : Pos} {l : List (Nat × CodeT)} (hp : ∀ p ∈ l, S.cod p.1 = some p.2) (h : chkA g κ t e tg ex = some l) :
    PS X (.Assign [tg] ex pos) (tSD X S fun ρ h => .ofR ρ (ev F Gf e ρ h) fun d h1 => .ofR ρ (stT F Gf t d ρ h1).nox fun ρ' h2 => .nx ρ' h2) := by
  unfold chkA at h
  split at h
  · rename_i x px i
    split at h
    · rename_i hb
      obtain ⟨h0, h1⟩ := andC_okC h
      simp only [Bool.and_eq_true, decide_eq_true_eq] at h0
      exact asg_name G go fs hp hb (at_of h0.1) (fun z => by cases z) h0.2 h1
    · rename_i hb
      obtain ⟨h0, h1⟩ := andC_okC h
      simp only [Bool.and_eq_true, decide_eq_true_eq] at h0
      exact asg_name G go fs hp hb (at_of h0.1.1) (fun _ => h0.1.2) h0.2 h1
    · cases h
  · rename_i ts kt pt tt
    have tupSw : ∀ ex', swapsWithSole [.Tuple ts kt pt] ex' pos.line X.env = pure false := fun ex' => by
      show swapsWith ex' (some (.Tuple ts kt pt)) pos.line X.env = pure false
      cases ex' <;> rfl
    split at h
    · rename_i vs k2 p2 es
      split at h
      · rename_i hs
        obtain ⟨l1, l2, h1, h2, p1, p2⟩ := andC_two h hp
        obtain ⟨h0, h1'⟩ := andC_okC h1
        have h0 : κ.sc.kind = .function := by simpa using h0
        exact asg_gen G go fs p1 p2 h1' h2 (tupSw _) (by rw [swapC_eq (b := false) (by rw [G.sce]; exact h0) (by rw [G.sce]; exact hs)]; rfl) rfl
      · rename_i hs
        split at h
        · rename_i x px y py a b i j
          obtain ⟨h0, h1⟩ := andC_okC h
          simp only [Bool.and_eq_true, decide_eq_true_eq] at h0
          obtain ⟨⟨⟨⟨⟨⟨c0, c1⟩, c2⟩, c3⟩, c4⟩, c5⟩, c6⟩ := h0
          obtain ⟨a1, a2, a3⟩ := (snd_all es).lst X S κ k _ l G go fs hp h1
          exact ds_par G (at_of c1) (at_of c2) c3 c4 c5 a1 (by rw [swapC_eq (b := true) (by rw [G.sce]; exact c0) (by rw [G.sce]; exact hs), G.sce, c6]; rfl) (tupSw _) fun ρ h d h' q => ev_len es a2 q
        · rename_i x px y py z pz a b c i j kk
          obtain ⟨h0, h1⟩ := andC_okC h
          simp only [Bool.and_eq_true, decide_eq_true_eq] at h0
          obtain ⟨⟨⟨⟨⟨⟨⟨⟨⟨⟨c0, c1⟩, c2⟩, c3⟩, c4⟩, c5⟩, c6⟩, c7⟩, c8⟩, c9⟩, c10⟩ := h0
          obtain ⟨a1, a2, a3⟩ := (snd_all es).lst X S κ k _ l G go fs hp h1
          exact ds_par3 G (at_of c1) (at_of c2) (at_of c3) c4 c5 c6 c7 c8 c9 a1 (by rw [swapC_eq (b := true) (by rw [G.sce]; exact c0) (by rw [G.sce]; exact hs), G.sce, c10]; rfl) (tupSw _) fun ρ h d h' q => ev_len es a2 q
        · cases h
      · cases h
    · cases h
    · rename_i hn1 hn2
      obtain ⟨l1, l2, h1, h2, p1, p2⟩ := andC_two h hp
      refine asg_gen G go fs p1 p2 h1 h2 (tupSw _) ?_ rfl
      cases ex <;> first | rfl | exact (hn1 _ _ _ rfl).elim | exact (hn2 _ _ _ rfl).elim
  · rename_i o ii pp a b
    obtain ⟨l1, l2, h1, h2, p1, p2⟩ := andC_two h hp
    refine asg_gen G go fs p1 p2 h1 h2 ?_ ?_ rfl
    · show swapsWith ex (some (.Subscript o ii pp)) pos.line X.env = pure false
      cases ex <;> rfl
    · cases ex <;> rfl
  · cases h
/-! ### every statement -/
structure SndS (g : GI) (F : Nat → List D → HS → R D) (Gf : Nat → List D → List D → HS → R D) (st : VE.S) : Prop where
  one : ∀ (X : Cx) (S : Sta) (κ : Kx) (k : Nat) (x : Stmt) (l : List (Nat × CodeT)), Good X S κ k → GOk g X S → Fns X S k (fpsOf g) F Gf → PassesOwn (model X.prog X.w) X.A X.env X.xe → (κ.code.isSome = true → S.cel = some (X.env.cells, κ.sc)) → (∀ p ∈ l, S.cod p.1 = some p.2) → chkS g κ st x = some l → PS X x (tSD X S (evS F Gf st))
  row : ∀ (X : Cx) (S : Sta) (κ : Kx) (k : Nat) (xs : List Stmt) (l : List (Nat × CodeT)), Good X S κ k → GOk g X S → Fns X S k (fpsOf g) F Gf → PassesOwn (model X.prog X.w) X.A X.env X.xe → (κ.code.isSome = true → S.cel = some (X.env.cells, κ.sc)) → (∀ p ∈ l, S.cod p.1 = some p.2) → chkB g κ st xs = some l → PSs X xs (tSD X S (evS F Gf st))
theorem sndS_all (st : VE.S) : SndS g F Gf st := by
  induction st with
  | skip => exact ⟨fun X S κ k x l G go fs po hc hp h => by simp [chkS] at h, fun X S κ k xs l G go fs po hc hp h => by
      cases xs with
      | nil => exact ds_nil
      | cons x xs => simp [chkB] at h⟩
  | seq a b iha ihb => exact ⟨fun X S κ k x l G go fs po hc hp h => by simp [chkS] at h, fun X S κ k xs l G go fs po hc hp h => by
      cases xs with
      | nil => simp [chkB] at h
      | cons x xs =>
        simp only [chkB] at h
        obtain ⟨l1, l2, h1, h2, p1, p2⟩ := andC_two h hp
        exact ds_cons (iha.one X S κ k x l1 G go fs po hc p1 h1) (ihb.row X S κ k xs l2 G go fs po hc p2 h2)⟩
  | asg t e => exact ⟨fun X S κ k x l G go fs po hc hp h => by
      cases x <;> try (simp [chkS] at h; done)
      rename_i tgs ex pos
      match tgs, h with
      | [tg], h => simp only [chkS] at h; exact asg_ok G go fs hp h
      | [], h => simp [chkS] at h
      | _ :: _ :: _, h => simp [chkS] at h, fun X S κ k xs l G go fs po hc hp h => by simp [chkB] at h⟩
  | aug i o e => exact ⟨fun X S κ k x l G go fs po hc hp h => by
      cases x <;> try (simp [chkS] at h; done)
      rename_i tg op ex pos
      cases tg <;> try (simp [chkS] at h; done)
      simp only [chkS] at h
      obtain ⟨h0, h1⟩ := andC_okC h
      simp only [Bool.and_eq_true] at h0
      obtain ⟨⟨c1, c2⟩, c3⟩ := h0
      refine ds_aug G ?_ (at_of c2) (loc_of c3).1 (loc_of c3).2 ((snd_all e).val X S κ k _ l G go fs hp h1)
      cases o <;> cases op <;> first | (exact absurd c1 (by decide)) | exact .inl ⟨rfl, rfl⟩ | exact .inr ⟨rfl, rfl⟩, fun X S κ k xs l G go fs po hc hp h => by simp [chkB] at h⟩
  | ite c a b iha ihb => exact ⟨fun X S κ k x l G go fs po hc hp h => by
      cases x <;> try (simp [chkS] at h; done)
      simp only [chkS] at h
      obtain ⟨l12, l3, h12, h3, p12, p3⟩ := andC_two h hp
      obtain ⟨l1, l2, h1, h2, p1, p2⟩ := andC_two h12 p12
      exact ds_if ((snd_all c).test X S κ k _ l1 G go fs p1 h1) (iha.row X S κ k _ l2 G go fs po hc p2 h2) (ihb.row X S κ k _ l3 G go fs po hc p3 h3), fun X S κ k xs l G go fs po hc hp h => by simp [chkB] at h⟩
  | wh n c b ihb => exact ⟨fun X S κ k x l G go fs po hc hp h => by
      cases x <;> try (simp [chkS] at h; done)
      rename_i x xs els pos
      cases els <;> try (simp [chkS] at h; done)
      simp only [chkS] at h
      obtain ⟨l1, l2, h1, h2, p1, p2⟩ := andC_two h hp
      exact ds_while po ((snd_all c).test X S κ k _ l1 G go fs p1 h1) (ihb.row X S κ k _ l2 G go fs po hc p2 h2), fun X S κ k xs l G go fs po hc hp h => by simp [chkB] at h⟩
  | fo t it b ihb => exact ⟨fun X S κ k x l G go fs po hc hp h => by
      cases x <;> try (simp [chkS] at h; done)
      rename_i tg iter xs els pos
      cases els <;> try (simp [chkS] at h; done)
      simp only [chkS] at h
      obtain ⟨l123, l4, h123, h4, p123, p4⟩ := andC_two h hp
      obtain ⟨l12, l3, h12, h3, p12, p3⟩ := andC_two h123 p123
      obtain ⟨h0, h1⟩ := andC_okC h12
      exact ds_for po G ((snd_all it).itr X S κ k _ _ l3 G go fs p3 h3) ((chkM_both G go fs t).1 _ l12 p12 h1) (ihb.row X S κ k _ l4 G go fs po hc p4 h4) (set_no h0), fun X S κ k xs l G go fs po hc hp h => by simp [chkB] at h⟩
  | ret e => exact ⟨fun X S κ k x l G go fs po hc hp h => by
      cases x <;> try (simp [chkS] at h; done)
      rename_i v pos
      cases v <;> try (simp [chkS] at h; done)
      simp only [chkS] at h
      exact ds_ret ((snd_all e).val X S κ k _ l G go fs hp h), fun X S κ k xs l G go fs po hc hp h => by simp [chkB] at h⟩
  | retN => exact ⟨fun X S κ k x l G go fs po hc hp h => by
      cases x <;> try (simp [chkS] at h; done)
      rename_i v pos
      cases v <;> try (simp [chkS] at h; done)
      exact ds_retN, fun X S κ k xs l G go fs po hc hp h => by simp [chkB] at h⟩
  | ex e => exact ⟨fun X S κ k x l G go fs po hc hp h => by
      cases x <;> try (simp [chkS] at h; done)
      simp only [chkS] at h
      obtain ⟨h0, h1⟩ := andC_okC h
      exact ds_ex ((snd_all e).val X S κ k _ l G go fs hp h1) (sw_no h0 _ _ _), fun X S κ k xs l G go fs po hc hp h => by simp [chkB] at h⟩
  | pass => exact ⟨fun X S κ k x l G go fs po hc hp h => by
      cases x <;> try (simp [chkS] at h; done)
      exact ds_pass, fun X S κ k xs l G go fs po hc hp h => by simp [chkB] at h⟩
  | cont => exact ⟨fun X S κ k x l G go fs po hc hp h => by
      cases x <;> try (simp [chkS] at h; done)
      exact ds_continue, fun X S κ k xs l G go fs po hc hp h => by simp [chkB] at h⟩
  | brk => exact ⟨fun X S κ k x l G go fs po hc hp h => by
      cases x <;> try (simp [chkS] at h; done)
      exact ds_break, fun X S κ k xs l G go fs po hc hp h => by simp [chkB] at h⟩
  | never => exact ⟨fun X S κ k x l G go fs po hc hp h => ds_never, fun X S κ k xs l G go fs po hc hp h => by simp [chkB] at h⟩
  | dput o i e =>
    refine ⟨fun X S κ k x l G go fs po hc hp h => ?_, fun X S κ k xs l G go fs po hc hp h => by simp [chkB] at h⟩
    cases x <;> try (simp [chkS] at h; done)
    rename_i tgs ex pos
    simp only [chkS] at h
    split at h
    · rename_i x y p hs
      have hs := subAt_eq hs
      subst hs
      obtain ⟨l12, l3, h12, h3, p12, p3⟩ := andC_two h hp
      obtain ⟨l1, l2, h1, h2, p1, p2⟩ := andC_two h12 p12
      refine ds_dput G ((snd_all o).val X S κ k _ l1 G go fs p1 h1) ((snd_all i).val X S κ k _ l2 G go fs p2 h2) ((snd_all e).val X S κ k _ l3 G go fs p3 h3) ?_
      cases ex <;> rfl
    · cases h
  | frzS i b ih => exact ⟨fun X S κ k x l G go fs po hc hp h => by simp [chkS] at h, fun X S κ k xs l G go fs po hc hp h => by simp [chkB] at h⟩
  | ndf i c => exact ⟨fun X S κ k x l G go fs po hc hp h => by
      cases x <;> try (simp [chkS] at h; done)
      rename_i name params body decos ret tps scope doc name' pos
      match decos, ret, tps, doc, h with
      | [], none, [], none, h =>
        simp only [chkS] at h
        obtain ⟨l1, l2, h1, h2, p1, p2⟩ := andC_two h hp
        obtain ⟨h0, _⟩ := okC_some h1
        simp only [Bool.and_eq_true, decide_eq_true_eq] at h0
        obtain ⟨⟨⟨c1, c2⟩, c3⟩, c4⟩ := h0
        subst c1
        have hC := p2 _ (by rw [← Option.some.inj h2]; exact List.mem_singleton.2 rfl)
        refine ds_ndf (C := ndfC g κ c name params body scope) G hC c2 rfl (hc ?_) (at_of c3) (loc_of c4).1 (loc_of c4).2
        unfold ndfB at c2
        cases hq : κ.code with
        | none => rw [hq] at c2; cases c2
        | some _ => rfl
      | _ :: _, _, _, _, h => simp [chkS] at h
      | [], some _, _, _, h => simp [chkS] at h
      | [], none, _ :: _, _, h => simp [chkS] at h
      | [], none, [], some _, h => simp [chkS] at h, fun X S κ k xs l G go fs po hc hp h => by simp [chkB] at h⟩
end
end VE
set_option Elab.async false
set_option linter.all false
set_option maxRecDepth 100000
set_option maxHeartbeats 1000000
set_option autoImplicit false
/-! V27: the program level: every function of a checked program keeps its promise, at every depth -/
namespace VE
open PySem PySem.Spec PyProof.Rows L2
section
variable (P : Program) (w : World) (K : PySem.W.Frag) (mg : Str → Option Value) (base : Heap) (S0 : Sta) (g : GI)
structure Lvl (k : Nat) (F : Nat → List D → HS → R D) (Gf : Nat → List D → List D → HS → R D) : Prop where
  fn : ∀ i a, S0.fad i = some a → ∃ fd, Fun0 K a fd (fpsOf g i) ∧ FnG P w K mg base k a fd (fpsOf g i) (FunSp K S0.noX (F i)) ∧ kwB (fpsOf g i) [] (fpsOf g i).length (List.range (fpsOf g i).length) = true ∧ ∀ ds h, F i ds h ≠ .bad → ds.length = (fpsOf g i).length
  cl : ∀ c C, S0.cod c = some C → ClG P w K mg base k C S0.noX (Gf c)
def kTop (N : List Str) (scope : Scope) (nm : Nat → Nat → Str) (qual : Str) : Kx := ⟨N, scope, fun _ => true, some nm, qual ++ ".<locals>."⟩
def kClo (N : List Str) (C : CodeT) : Kx := ⟨N, C.scope, fun _ => false, none, C.qual ++ ".<locals>."⟩
/-- a def of the program, checked -/
structure DefOk (i : Nat) (a : Addr) (d : FDef) : Prop where
  ex : ∃ (name qual : Str) (params : Arguments) (body : List Stmt) (scope : Scope) (doc pm ct oc : Value) (an od : Option Addr) (osl : Array (Option Value)) (N : List Str) (ca Pt : Addr) (nm : Nat → Nat → Str) (l : List (Nat × CodeT)),
    K.lookup a = some ⟨oc, od, .func (PySem.W.fnOf name qual params body scope .none .none doc pm an (.ref ca) ct), osl⟩ ∧ PySem.W.codeIn K (.ref ca) qual = true ∧ FnScope N (fpsOf g i) scope ∧ PySem.W.keepIn K (.ref a) = true ∧ plainB params = true ∧ params.args.map (·.arg) = fpsOf g i ∧
    LamX.TabB base mg ca Pt ∧ (Pt, nm) ∈ S0.T ∧ d.np = (fpsOf g i).length ∧ d.nl = N.length ∧ chkB g (kTop N scope nm qual) d.body body = some l ∧ ∀ p ∈ l, S0.cod p.1 = some p.2
  kw : kwB (fpsOf g i) [] (fpsOf g i).length (List.range (fpsOf g i).length) = true
/-- a function made within a def, checked -/
structure CloOk (C : CodeT) (d : CDef) : Prop where
  ex : ∃ (N ps : List Str) (l : List (Nat × CodeT)), NdefX.NScope N ps C.fr C.scope ∧ plainB C.params = true ∧ C.params.args.map (·.arg) = ps ∧ kwB ps [] ps.length (List.range ps.length) = true ∧ ps.length = d.np ∧ C.fr.length = d.nc ∧ d.nl = N.length ∧ (∀ p ∈ l, S0.cod p.1 = some p.2) ∧
    ((∃ body, C.body = .stmts body ∧ chkB g (kClo N C) d.body body = some l) ∨ ∃ body e, C.body = .expr body ∧ d.body = .ret e ∧ chkE g e false (kClo N C) body = some l)
structure ProgOk (pg : Prog) : Prop where
  gf : ∀ x i, g.fns.contains (x, i) = true → ∃ a, S0.fad i = some a ∧ mg x = some (.ref a)
  nn : ∀ x, g.none_.contains x = true → mg x = none
  gl : ∀ p ∈ g.gls, ∃ u v, mg p.1 = some u ∧ RelV v u ∧ ∀ π H, RD K π H p.2 v
  gc : g.gcd = true → mg "gcd" = some (.builtin "math.gcd")
  fr : ∀ c C, S0.cod c = some C → C.fr = g.frs.getD c []
  tt : ∀ p ∈ S0.T, ∀ q ∈ S0.T, p.1 = q.1 → p.2 = q.2
  fn : ∀ i a, S0.fad i = some a → ∃ d, pg.fns[i]? = some d ∧ DefOk K mg base S0 g i a d
  cl : ∀ c C, S0.cod c = some C → ∃ d, pg.clos[c]? = some d ∧ CloOk S0 g C d
end
section
variable {P : Program} {w : World} {K : PySem.W.Frag} {mg : Str → Option Value} {base : Heap} {S0 : Sta} {g : GI} {k : Nat} {F : Nat → List D → HS → R D} {Gf : Nat → List D → List D → HS → R D} {pg : Prog}
theorem runOut_ret (F : Nat → List D → HS → R D) (Gf : Nat → List D → List D → HS → R D) (e : E) (ρ : Env) (h : HS) : runOut (evS F Gf (.ret e) ρ h) = ev F Gf e ρ h := by
  unfold evS
  cases ev F Gf e ρ h <;> rfl
theorem lvl_zero : (∀ i a, S0.fad i = some a → ∃ d, pg.fns[i]? = some d ∧ DefOk K mg base S0 g i a d) → Lvl P w K mg base S0 g 0 (evF pg 0) (evG pg 0) := fun hf => by
  refine ⟨fun i a ha => ?_, fun c C hc => ⟨fun A outer s H f cl c' us vs ws π hs ds caps Q E hr hg e0 h1 h2 h3 h4 h5 h6 h7 p => ?_⟩⟩
  · obtain ⟨d, _, ⟨name, qual, params, body, scope, doc, pm, ct, oc, an, od, osl, N, ca, Pt, nm, l, lk, cd, Sc, kp, pl, hn, _⟩, kw⟩ := hf i a ha
    refine ⟨PySem.W.fnOf name qual params body scope .none .none doc pm an (.ref ca) ct, ⟨kp, pl, rfl, hn⟩, ⟨fun A outer s H args us vs Q E hr hg e0 hb r ⟨π, hs, ds, rel, ra, p⟩ => ?_⟩, kw, fun ds h q => ?_⟩
    · unfold evF at p; exact p.elim
    · unfold evF at q; exact absurd rfl q
  · unfold evG at p; exact p.elim
theorem lvl_succ (ok : ProgOk K mg base S0 g pg) (L : Lvl P w K mg base S0 g k (evF pg k) (evG pg k)) : Lvl P w K mg base S0 g (k + 1) (evF pg (k + 1)) (evG pg (k + 1)) := by
  refine ⟨fun i a ha => ?_, fun c C hc => ?_⟩
  · obtain ⟨d, hd, ⟨name, qual, params, body, scope, doc, pm, ct, oc, an, od, osl, N, ca, Pt, nm, l, lk, cd, Sc, kp, pl, hn, tb, tm, np, nl, ck, hl⟩, kw⟩ := ok.fn i a ha
    have hF : evF pg (k + 1) i = fun as h => if as.length = d.np then cutR d.fz h (runOut (evS (evF pg k) (evG pg k) d.body (as.map some ++ List.replicate (N.length - d.np) none) h)) else .bad := by
      funext as h
      rw [evF, hd]
      simp only [nl]
    refine ⟨PySem.W.fnOf name qual params body scope .none .none doc pm an (.ref ca) ct, ⟨kp, pl, rfl, hn⟩, ?_, kw, fun ds h q => ?_⟩
    · rw [hF]
      refine fun_sound (S0 := S0.noX) (np := d.np) lk cd Sc np.symm fun A outer s H E hr hg => ?_
      refine (sndS_all d.body).row _ _ (kTop N scope nm qual) k body l ?_ ?_ ?_ (passes_of rfl) (fun _ => rfl) hl ck
      · exact ⟨rfl, rfl, rfl, rfl, Sc.nd, rfl, takes_of rfl rfl rfl rfl, hr, hg, fun i a h => by
          obtain ⟨d, _, ⟨_, _, _, _, _, _, _, _, _, _, _, _, _, _, _, _, _, _, _, _, kp, _⟩, _⟩ := ok.fn i a h
          exact kp, fun cells sc h => by cases h; exact ⟨rfl, rfl⟩, fun _ => rfl, fun nm h => by
          cases h; exact ⟨ca, Pt, rfl, tb, tm, fun p hp e => ok.tt p hp _ tm e⟩⟩
      · exact ⟨ok.gf, ok.nn, ok.gl, ok.gc, ok.fr⟩
      · exact ⟨L.fn, L.cl⟩
    · rw [hF] at q
      rw [← np]
      by_cases hh : ds.length = d.np
      · exact hh
      · exact absurd (if_neg hh) q
  · obtain ⟨d, hd, N, ps, l, Sc, pl, hn, kw, hnp, hnc, nl, hl, hB⟩ := ok.cl c C hc
    have hG : evG pg (k + 1) c = fun caps as h => if as.length = d.np ∧ caps.length = d.nc then cutR false h (runOut (evS (evF pg k) (evG pg k) d.body (as.map some ++ (caps.map some ++ List.replicate (N.length - d.np - d.nc) none)) h)) else .bad := by
      funext caps as h
      rw [evG, hd]
      simp only [nl]
    have good : ∀ (A : Around) (outer : List PySem.Env) (s : Shared) (H : Hp) (E : XK) (cl : List (Str × Addr)) (c' f : Addr), Room k (clx P w K mg base N C cl c' f A outer s H E).A → A.guards = some [] → Good (clx P w K mg base N C cl c' f A outer s H E) (S0.noX.at_ E none) (kClo N C) k := fun A outer s H E cl c' f hr hg =>
      ⟨rfl, rfl, rfl, rfl, Sc.nd, rfl, takes_of rfl rfl rfl rfl, hr, hg, fun i a h => by
          obtain ⟨d, _, ⟨_, _, _, _, _, _, _, _, _, _, _, _, _, _, _, _, _, _, _, _, kp, _⟩, _⟩ := ok.fn i a h
          exact kp, fun cells sc h => (by cases h), fun h => (by cases h), fun nm h => (by cases h)⟩
    rw [hG]
    rcases hB with ⟨body, hb, ck⟩ | ⟨body, e, hb, he, ck⟩
    · exact clo_stmts (S0 := S0.noX) hb Sc pl hn kw hnp hnc fun A outer s H E cl c' f hr hg =>
        (sndS_all d.body).row _ _ (kClo N C) k body l (good A outer s H E cl c' f hr hg) ⟨ok.gf, ok.nn, ok.gl, ok.gc, ok.fr⟩ ⟨L.fn, L.cl⟩ (passes_of rfl) (fun h => by cases h) hl ck
    · have := clo_lam (S0 := S0.noX) (k := k) (P := P) (w := w) (K := K) (mg := mg) (base := base) (me := ev (evF pg k) (evG pg k) e) hb Sc pl hn kw hnp hnc fun A outer s H E cl c' f hr hg =>
        (snd_all e).val _ _ (kClo N C) k body l (good A outer s H E cl c' f hr hg) ⟨ok.gf, ok.nn, ok.gl, ok.gc, ok.fr⟩ ⟨L.fn, L.cl⟩ hl ck
      rw [he]
      simp only [runOut_ret]
      exact this
theorem lvl_all (ok : ProgOk K mg base S0 g pg) : ∀ k, Lvl P w K mg base S0 g k (evF pg k) (evG pg k)
  | 0 => lvl_zero ok.fn
  | k + 1 => lvl_succ ok (lvl_all ok k)
end
end VE
set_option Elab.async false
set_option linter.all false
set_option maxRecDepth 100000
set_option maxHeartbeats 1000000
set_option autoImplicit false
/-! V28: the end of a law whose promise asks for guards := some [] -/
namespace VE
open PySem PySem.Spec PyProof.Rows L2
section
variable {P : Program} {w : World} {K : PySem.W.Frag} {mg mb : Str → Option Value} {k : Nat} {fa a : Addr} {ts : List Addr} {fd : FuncData} {x : Str} {S0 : Sta} {s₁ : Shared} {vs : List Value} {ns : List Int}
/-- what is tracked at a law's call: the tables of code, and the script if it is no pinned one -/
def endH (K : PySem.W.Frag) (ts : List Addr) (a : Addr) (vs : List Value) (ns : List Int) : Hp := fun b =>
  if b ∈ ts then some (.tbl #[]) else if b = a ∧ K.lookup a = none then some (.frz { cls := .type "list", data := .seq vs.toArray } (.lst (ns.map V.int))) else none
theorem endH_tab {b : Addr} (h : b ∈ ts) : endH K ts a vs ns b = some (.tbl #[]) := if_pos h
theorem endH_inv {b : Addr} {u : HO} (h : endH K ts a vs ns b = some u) : (b ∈ ts ∧ u = .tbl #[]) ∨ (b ∉ ts ∧ b = a ∧ K.lookup a = none ∧ u = .frz { cls := .type "list", data := .seq vs.toArray } (.lst (ns.map V.int))) := by
  unfold endH at h
  split at h
  · rename_i q; cases h; exact .inl ⟨q, rfl⟩
  · rename_i q
    split at h
    · rename_i r; cases h; exact .inr ⟨q, r.1, r.2, rfl⟩
    · cases h
theorem endH_free {b : Addr} {o : Obj} (hT : ∀ p ∈ ts, s₁.heap.get? p = some { cls := .none, data := .fields #[] }) (ha : s₁.heap.get? a = some { cls := .type "list", data := .seq vs.toArray }) (e : s₁.heap.get? b = some o) (h1 : ∀ vs n, o.data ≠ .seq vs n) (h2 : o.data ≠ .fields #[]) : endH K ts a vs ns b = none := by
  cases q : endH K ts a vs ns b with
  | none => rfl
  | some u =>
    rcases endH_inv q with ⟨m, _⟩ | ⟨_, m, _⟩
    · rw [hT b m] at e; cases e; exact absurd rfl h2
    · rw [m, ha] at e; cases e; exact absurd rfl (h1 _ _)
theorem endH_ok (hT : ∀ p ∈ ts, s₁.heap.get? p = some { cls := .none, data := .fields #[] }) (ha : s₁.heap.get? a = some { cls := .type "list", data := .seq vs.toArray }) (hi : IntsAre vs ns) (hl : ns.length ≤ sizeLine) : HOk P w (endH K ts a vs ns) s₁.heap := fun b u z => by
  rcases endH_inv z with ⟨m, rfl⟩ | ⟨_, rfl, _, rfl⟩
  · exact hT b m
  · exact ⟨ha, by rw [List.length_map]; exact hl, vs, _, vals_ints hi, ha⟩
theorem endB_get (hT : ∀ p ∈ ts, s₁.heap.get? p = some { cls := .none, data := .fields #[] }) (ha : s₁.heap.get? a = some { cls := .type "list", data := .seq vs.toArray }) {b : Addr} {o : Obj} (e : s₁.heap.get? b = some o) (h1 : ∀ vs n, o.data ≠ .seq vs n) (h2 : o.data ≠ .fields #[]) : (hidT s₁.heap (endH K ts a vs ns)).get? b = some o := hidT_get e (endH_free hT ha e h1 h2)
theorem endB_ns (hT : ∀ p ∈ ts, s₁.heap.get? p = some { cls := .none, data := .fields #[] }) (ha : s₁.heap.get? a = some { cls := .type "list", data := .seq vs.toArray }) {b : Addr} {m : Str → Option Value} : s₁.heap.Ns b m → (hidT s₁.heap (endH K ts a vs ns)).Ns b m := fun ⟨o, es, ep, e, d, r⟩ =>
  ⟨o, es, ep, endB_get hT ha e (fun vs n z => by rw [d] at z; cases z) (fun z => by rw [d] at z; cases z), d, r⟩
theorem endB_in (KX : K.In s₁.heap) (nT : ∀ p ∈ ts, K.lookup p = none) : K.In (hidT s₁.heap (endH K ts a vs ns)) := fun b o e => hidT_get (KX b o e) (by
  cases q : endH K ts a vs ns b with
  | none => rfl
  | some u =>
    rcases endH_inv q with ⟨m, _⟩ | ⟨_, m, n, _⟩
    · rw [nT b m] at e; cases e
    · rw [m, n] at e; cases e)
theorem endB_tab (hT : ∀ p ∈ ts, s₁.heap.get? p = some { cls := .none, data := .fields #[] }) (ha : s₁.heap.get? a = some { cls := .type "list", data := .seq vs.toArray }) (hns : s₁.heap.Ns mainGlobals mg)
    (hbm : ∃ (bm : Addr) (ob : Obj), mg "__builtins__" = some (.ref bm) ∧ bm ≠ builtinsNs ∧ s₁.heap.get? bm = some ob ∧ ob.cls = .type "module" ∧ ob.dict = some builtinsNs ∧ ob.data = .plain)
    {c p : Addr} (hp : p ∈ ts) (C : PySem.W.CodeHd s₁.heap c p) : LamX.TabB (hidT s₁.heap (endH K ts a vs ns)) mg c p := by
  obtain ⟨g0, ges, gep, ge, gd, _⟩ := hns
  refine ⟨?_, ?_, fun z => ?_⟩
  · obtain ⟨o, us, file, tf, flags, tg, inF, text, tt, e1, r1, r2, r3, r4⟩ := C
    refine ⟨o, us, file, tf, flags, tg, inF, text, tt, endB_get hT ha e1 (fun vs n z => ?_) (fun z => ?_), r1, r2, r3, r4⟩
    · rw [r2] at z; cases z
    · rw [r2] at z; cases z; simp at r3
  · obtain ⟨bm, ob, b1, b2, b3, b4, b5, b6⟩ := hbm
    refine ⟨bm, ob, b1, b2, fun q => ?_, fun q => ?_, endB_get hT ha b3 (fun vs n z => ?_) (fun z => ?_), b4, b5, b6⟩
    · rw [q, ge] at b3; cases b3; rw [gd] at b6; cases b6
    · rw [q, hT p hp] at b3; cases b3; cases b6
    · rw [b6] at z; cases z
    · rw [b6] at z; cases z
  · rw [z, hT p hp] at ge; cases ge; cases gd
theorem end_env (KX : K.In s₁.heap) (hns : s₁.heap.Ns mainGlobals mg) (hb : s₁.heap.Ns builtinsNs mb) (hbb : ∀ x : Str, x ≠ "__name__" → mb x = bootBuiltins x) (hlim : s₁.heap.NoLimit) (hg : s₁.gens = #[])
    (hT : ∀ p ∈ ts, s₁.heap.get? p = some { cls := .none, data := .fields #[] }) (nT : ∀ p ∈ ts, K.lookup p = none) (ha : s₁.heap.get? a = some { cls := .type "list", data := .seq vs.toArray }) (hi : IntsAre vs ns) (hl : ns.length ≤ sizeLine) :
    Env0 P w K mg (hidT s₁.heap (endH K ts a vs ns)) callerA [] s₁ (endH K ts a vs ns) :=
  ⟨rfl, ⟨endB_in KX nT, endB_ns hT ha hns, ⟨mb, endB_ns hT ha hb, hbb⟩, let ⟨mc, h1, h2⟩ := hlim; ⟨mc, endB_ns hT ha h1, h2⟩⟩, fun b o e => of_hidT e, Nat.le_of_eq (hidT_size _ _), trivial, fun b hb => absurd (show b ∈ ([] : List Addr) from hb) (by simp), endH_ok hT ha hi hl, .of_eq hg⟩
theorem rds_ints {π : Pi} {H : Hp} : ∀ ns : List Int, RDs K π H (ns.map .int) (ns.map V.int)
  | [] => .nil
  | n :: ns => .cons (.int n) (rds_ints ns)
theorem end_sp (hT : ∀ p ∈ S0.T, p.1 ∈ ts) (ha : s₁.heap.get? a = some { cls := .type "list", data := .seq vs.toArray }) (KX : K.In s₁.heap) (aT : a ∉ ts) (hi : IntsAre vs ns) (hl : ns.length ≤ sizeLine) {G : List D → HS → R D} {h' : HS} (hG : G [.scr (ns.map .int)] [] = .ok (.bl true) h') :
    FunSp K S0 G [.ref a] (endH K ts a vs ns) (fun v _ => v = .bl true) fun _ _ _ => False := by
  refine ⟨⟨[], []⟩, [], [.scr (ns.map .int)], ⟨rfl, List.nodup_nil, fun i o b h => by simp at h, fun p hp => ⟨#[], endH_tab (hT p hp), ?_, ?_⟩, fun b hb => absurd (show b ∈ ([] : List Addr) from hb) (by simp)⟩, RAs.of (.cons (.scr (vs := ns.map V.int) ?_ ?_) .nil), ?_⟩
  · first | exact trivial | (intro z hz; simp at hz; done) | (unfold TriplesOk; simp; done) | constructor
  · intro pos cv hc; first | (simp [codeAmong] at hc; done) | (cases hc; done)
  · cases hk : K.lookup a with
    | some o =>
      have e := KX a o hk
      rw [ha] at e
      cases e
      exact .inr fun H' => .inr ⟨_, vs.toArray, _, hk, rfl, rfl, rfl, by rw [List.size_toArray, hi.length]; exact hl, by simpa using vals_ints hi⟩
    | none =>
      refine .inl ⟨⟨by simp, by simp⟩, .inr ⟨{ cls := .type "list", data := .seq vs.toArray }, ?_⟩⟩
      unfold endH
      rw [if_neg aT, if_pos ⟨rfl, hk⟩]
  · exact rds_ints ns
  · rw [hG]
    intro π' H' x _ _ r
    cases r; rfl
/-- a law's call at the head's heap -/
theorem law_end (KX : K.In s₁.heap) (hns : s₁.heap.Ns mainGlobals mg) (hb : s₁.heap.Ns builtinsNs mb) (hbb : ∀ x : Str, x ≠ "__name__" → mb x = bootBuiltins x) (hlim : s₁.heap.NoLimit) (hg : s₁.gens = #[])
    (hT : ∀ p ∈ ts, s₁.heap.get? p = some { cls := .none, data := .fields #[] }) (nT : ∀ p ∈ ts, K.lookup p = none) (hC : ∀ p ∈ ts, ∃ c, PySem.W.CodeHd s₁.heap c p) (ha : s₁.heap.get? a = some { cls := .type "list", data := .seq vs.toArray }) (hi : IntsAre vs ns) (hl : ns.length ≤ sizeLine) (hr : Room k callerA)
    (hST : ∀ p ∈ S0.T, p.1 ∈ ts) (hbind : ∀ (s : Shared) (u : Value), BindsTo s fd ⟨[u], []⟩ [(x, u)]) {G : List D → HS → R D} {h' : HS} (hG : G [.scr (ns.map .int)] [] = .ok (.bl true) h')
    (F : FnG P w K mg (hidT s₁.heap (endH K ts a vs ns)) k fa fd [x] (FunSp K S0 G)) :
    codeAny (model P w) callerA (.call (.ref fa) ⟨[.ref a], []⟩) (fun r s' => r = .ok (.ret (.bool true)) ∧ OldK s₁.heap s'.heap ∧ s'.os = s₁.os ∧ AllBare s'.gens) s₁ := by
  have aT : a ∉ ts := fun z => by
    have q := hT a z
    rw [ha] at q
    have z' : Data.seq vs.toArray _ = Data.fields #[] := congrArg Obj.data (Option.some.inj q)
    cases z'
  have hok : HOk P w (endH K ts a vs ns) s₁.heap := endH_ok hT ha hi hl
  refine codeAny_mono (F.run callerA [] s₁ _ ⟨[.ref a], []⟩ [.ref a] [.ref a] _ _ hr rfl (end_env KX hns hb hbb hlim hg hT nT ha hi hl) (hbind s₁ (.ref a)) (.cons rfl .nil) (end_sp hST ha KX aT hi hl hG)) fun r s' h => ?_
  cases r with
  | error e => obtain ⟨_, _, _, _, _, _, _, _, _, _, _, _, w⟩ := h; exact False.elim w
  | ok fl =>
    cases fl with
    | next => exact False.elim h
    | brk => exact False.elim h
    | cont => exact False.elim h
    | ret u =>
      obtain ⟨v, H', os, bare, un, hok', r', q⟩ := h
      have q' : v = .bl true := q
      subst q'
      obtain rfl : u = Value.bool true := r'
      have key : ∀ b o, b ∉ ts → s₁.heap.get? b = some o → s'.heap.get? b = some o := fun b o nb e => by
        cases q : endH K ts a vs ns b with
        | none => exact un.keep b o e q (by intro z; exact absurd (show b ∈ ([] : List Addr) from z) (by simp)) (by simp)
        | some u =>
          rcases endH_inv q with ⟨m, _⟩ | ⟨_, rfl, _, rfl⟩
          · exact absurd m nb
          · obtain ⟨e2, _⟩ := hok' _ _ (un.frzs _ _ _ q)
            rw [ha] at e; cases e; exact e2
      have grown : ∀ p ∈ ts, ∃ more : Array Value, s'.heap.get? p = some { cls := .none, data := .fields more } := fun p hp => by
        obtain ⟨more, z⟩ := un.tbls p #[] (endH_tab hp)
        exact ⟨_, hok' p _ z⟩
      refine ⟨rfl, ⟨fun b o e => ?_, fun b o e => ?_⟩, os, bare⟩
      · by_cases hb : b ∈ ts
        · obtain ⟨more, hm⟩ := grown b hb
          obtain ⟨c, C⟩ := hC b hb
          rw [hT b hb] at e; cases e
          exact .inr (.inl ⟨(C.tab (hT b hb)).isCodeTable, rfl, #[], more, rfl, by rw [Array.empty_append]; exact hm⟩)
        · exact .inl (key b o hb e)
      · by_cases hb : b ∈ ts
        · obtain ⟨more, hm⟩ := grown b hb
          exact ⟨_, hm⟩
        · exact ⟨o, key b o hb e⟩
end
end VE
set_option Elab.async false
set_option linter.all false
set_option maxRecDepth 100000
set_option maxHeartbeats 1000000
set_option autoImplicit false
/-! V29: a law's walk from the promise of its def -/
namespace VE
open PySem PySem.Spec PyProof.Rows L2
/-- what is known of the law's promise at the head's heap h -/
def LawG (l : PySem.W.OpenLaw) (w : World) (K : PySem.W.Frag) (k n : Nat) (x : Str) (mg : Str → Option Value) (fa : Addr) (h : Heap) : Prop :=
  ∃ (fd : FuncData) (cs : List (Addr × Addr)) (S0 : Sta) (G : List D → HS → R D), (∀ p ∈ cs, h.get? p.2 = some { cls := .none, data := .fields #[] }) ∧ (∀ p ∈ cs, K.lookup p.2 = none) ∧ (∀ p ∈ cs, PySem.W.CodeHd h p.1 p.2) ∧ (∀ (s : Shared) (u : Value), BindsTo s fd ⟨[u], []⟩ [(x, u)]) ∧
    (∀ p ∈ S0.T, p.1 ∈ cs.map (·.2)) ∧ (∀ ns : List Int, ns.length ≤ n → (∀ z ∈ ns, Builtin.Int.intBits z ≤ 1048576) → ∃ h', G [.scr (ns.map .int)] [] = .ok (.bl true) h') ∧
    ∀ base : Heap, K.In base → base.Ns mainGlobals mg → (∀ p ∈ cs, LamX.TabB base mg p.1 p.2) → FnG l.prog w K mg base k fa fd [x] (FunSp K S0 G)
theorem walk_G {l : PySem.W.OpenLaw} {n k : Nat} {q : Program} {loose : List Str} {XP : (Str → Option Value) → Heap → Prop} {YP : World → Heap → Prop} {d : DefRec} {K : Params → PySem.W.Frag} {x : Str}
    (hn : l.most = some n) (hn2 : n ≤ sizeLine) (hdf : d.params.defaults = []) (hr : Room k callerA) (hY : ∀ (w : World) (h : Heap), YP w h → (K w.params).In h)
    (F : ∀ (w : World) (mg : Str → Option Value) (fa : Addr) (h : Heap), YP w h → (K w.params).In h → h.Ns mainGlobals mg → mg d.name = some (.ref fa) → LawG l w (K w.params) k n x mg fa h) :
    PySem.W.WalkO q loose XP YP l.row.toRowW d [] (fun f vs => PySem.call f vs) := by
  refine Att.attach_callB hn hdf fun w s₀ s₁ mg mb fa o pm cd doc a vs ns G Y ho hd hcd hmg hobj hints hlen hbits hg => ?_
  have KX := hY w _ Y
  obtain ⟨fd, cs, S0, Gl, hT, nT, C, hb, hST, hG, hF⟩ := F w mg fa _ Y KX G.T.g hmg
  obtain ⟨h', hG⟩ := hG ns hlen hbits
  have hT' : ∀ p ∈ cs.map (·.2), s₁.heap.get? p = some { cls := .none, data := .fields #[] } := fun p hp => by
    obtain ⟨c, hc, rfl⟩ := List.mem_map.mp hp
    exact hT c hc
  have nT' : ∀ p ∈ cs.map (·.2), (K w.params).lookup p = none := fun p hp => by
    obtain ⟨c, hc, rfl⟩ := List.mem_map.mp hp
    exact nT c hc
  refine law_end (ts := cs.map (·.2)) (S0 := S0) KX G.T.g G.T.b G.T.builtins G.T.nolimit hg hT' nT' (fun p hp => ?_) hobj hints (Nat.le_trans hlen hn2) hr hST hb hG (hF _ (endB_in KX nT') (endB_ns hT' hobj G.T.g) fun p hp => endB_tab hT' hobj G.T.g G.T.bmain (List.mem_map.mpr ⟨p, hp, rfl⟩) (C p hp))
  obtain ⟨c, hc, rfl⟩ := List.mem_map.mp hp
  exact ⟨_, C c hc⟩
end VE
set_option Elab.async false
set_option linter.all false
set_option maxRecDepth 100000
set_option maxHeartbeats 1000000
set_option autoImplicit false
/-! V30: from the head's facts to the law's walk -/
namespace VE
open PySem PySem.Spec PyProof.Rows L2
/-! ### constants of the program -/
mutual
def cstB (K : PySem.W.Frag) : D → Value → Bool
  | .non, .none => true
  | .bl a, .bool b => a == b
  | .int i, .int j _ => decide (i = j)
  | .str x, .str y _ => decide (x = y)
  | .ctp xs, .ref a => (match K.lookup a with
    | some ⟨.type c, none, .seq its _, _⟩ => decide (c = "tuple") && (decide (its.size ≤ sizeLine) && cstsB K xs its.toList)
    | _ => false)
  | _, _ => false
def cstsB (K : PySem.W.Frag) : List D → List Value → Bool
  | [], [] => true
  | d :: ds, u :: us => cstB K d u && cstsB K ds us
  | _, _ => false
end
mutual
theorem cstB_ok {K : PySem.W.Frag} : ∀ (d : D) (u : Value), cstB K d u = true → ∃ v, RelV v u ∧ ∀ π H, RD K π H d v
  | .non, u, h => by cases u <;> first | exact ⟨.non, rfl, fun _ _ => .non⟩ | (simp [cstB] at h; done)
  | .bl a, u, h => by
    cases u <;> first | (simp [cstB] at h; done) | skip
    rename_i b
    have e : a = b := by simpa [cstB] using h
    subst e
    exact ⟨.bl a, rfl, fun _ _ => .bl a⟩
  | .int i, u, h => by
    cases u <;> first | (simp [cstB] at h; done) | skip
    rename_i j t
    have e : i = j := by simpa [cstB] using h
    subst e
    exact ⟨.int i, ⟨t, rfl⟩, fun _ _ => .int i⟩
  | .str x, u, h => by
    cases u <;> first | (simp [cstB] at h; done) | skip
    rename_i y t
    have e : x = y := by simpa [cstB] using h
    subst e
    exact ⟨.str x, ⟨t, rfl⟩, fun _ _ => .str x⟩
  | .tup _, u, h => by cases u <;> (simp [cstB] at h; done)
  | .lst _, u, h => by cases u <;> (simp [cstB] at h; done)
  | .scr _, u, h => by cases u <;> (simp [cstB] at h; done)
  | .ref _, u, h => by cases u <;> (simp [cstB] at h; done)
  | .fn _ _, u, h => by cases u <;> (simp [cstB] at h; done)
  | .gfn _, u, h => by cases u <;> (simp [cstB] at h; done)
  | .ndf _, u, h => by cases u <;> (simp [cstB] at h; done)
  | .ctp xs, u, h => by
    cases u with
    | ref a =>
      unfold cstB at h
      cases q : K.lookup a with
      | none => rw [q] at h; cases h
      | some o =>
        obtain ⟨oc, od, dt, osl⟩ := o
        rw [q] at h
        cases oc with
        | type c =>
          cases od with
          | none =>
            cases dt with
            | seq its n =>
              have h : (decide (c = "tuple") && (decide (its.size ≤ sizeLine) && cstsB K xs its.toList)) = true := h
              rw [Bool.and_eq_true, Bool.and_eq_true] at h
              obtain ⟨h1, h2, h3⟩ := h
              obtain ⟨vs, r, rd⟩ := cstsB_ok xs its.toList h3
              have e : c = "tuple" := of_decide_eq_true h1
              subst e
              exact ⟨.ref a, rfl, fun π H => .ctp (.inl ⟨fun H' => .inr ⟨_, its, n, q, rfl, rfl, of_decide_eq_true h2, r⟩, _, q, rfl, rfl⟩) (rd π H)⟩
            | _ => cases h
          | some d => cases dt <;> cases h
        | _ => cases od <;> cases dt <;> cases h
    | _ => simp [cstB] at h
theorem cstsB_ok {K : PySem.W.Frag} : ∀ (ds : List D) (us : List Value), cstsB K ds us = true → ∃ vs, Vals vs us ∧ ∀ π H, RDs K π H ds vs
  | [], us, h => by
    cases us with
    | nil => exact ⟨[], .nil, fun _ _ => .nil⟩
    | cons _ _ => simp [cstsB] at h
  | d :: ds, us, h => by
    cases us with
    | nil => simp [cstsB] at h
    | cons u us =>
      simp [cstsB] at h
      obtain ⟨v, r, rd⟩ := cstB_ok d u h.1
      obtain ⟨vs, rs, rds⟩ := cstsB_ok ds us h.2
      exact ⟨v :: vs, .cons r rs, fun π H => .cons (rd π H) (rds π H)⟩
end
/-! ### a def of the program -/
structure DefRow where
  dd : He.DefD
  N : List Str
  d : FDef
  cs : Bool
def fscB (N ps : List Str) (sc : Scope) : Bool := decide (sc.kind = .function) && !sc.isCoroutine && !sc.isGenerator && decide N.Nodup && decide (N.take ps.length = ps) && (ps.all fun x => decide (sc.names.lookup x = some .local) || decide (sc.names.lookup x = some .cell)) && sc.names.all fun y => !decide (y.2 = .free)
theorem fscB_ok {N ps : List Str} {sc : Scope} (h : fscB N ps sc = true) : FnScope N ps sc := by
  unfold fscB at h
  simp only [Bool.and_eq_true, Bool.or_eq_true, Bool.not_eq_true', decide_eq_true_eq, decide_eq_false_iff_not, List.all_eq_true] at h
  obtain ⟨⟨⟨⟨⟨⟨h1, h2⟩, h3⟩, h4⟩, h5⟩, h6⟩, h7⟩ := h
  exact ⟨h1, h2, h3, h4, h5, h6, h7⟩
def nscB (N ps fr : List Str) (sc : Scope) : Bool := decide (sc.kind = .function) && !sc.isCoroutine && !sc.isGenerator && decide N.Nodup && decide (N.take (ps.length + fr.length) = ps ++ fr) && (ps.all fun x => decide (sc.names.lookup x = some .local)) && (sc.names.all fun y => !decide (y.2 = .cell)) && (sc.names.all fun y => !decide (y.2 = .free) || decide (y.1 ∈ fr)) && fr.all fun x => decide (sc.names.lookup x = some .free)
theorem nscB_ok {N ps fr : List Str} {sc : Scope} (h : nscB N ps fr sc = true) : NdefX.NScope N ps fr sc := by
  unfold nscB at h
  simp only [Bool.and_eq_true, Bool.or_eq_true, Bool.not_eq_true', decide_eq_true_eq, decide_eq_false_iff_not, List.all_eq_true] at h
  obtain ⟨⟨⟨⟨⟨⟨⟨⟨h1, h2⟩, h3⟩, h4⟩, h5⟩, h6⟩, h7⟩, h8⟩, h9⟩ := h
  exact ⟨h1, h2, h3, h4, h5, h6, h7, fun y hy e => (h8 y hy).elim (fun z => absurd e z) id, h9⟩
def noneC : Ck → Bool
  | some [] => true
  | _ => false
theorem noneC_ok {c : Ck} (h : noneC c = true) : c = some [] := by
  unfold noneC at h
  split at h
  · rfl
  · cases h
def rowK (g : GI) (nm : Nat → Nat → Str) (r : DefRow) : Ck := chkB g (kTop r.N r.dd.scope nm r.dd.qual) r.d.body r.dd.body
def rowC (g : GI) (nm : Nat → Nat → Str) (r : DefRow) : List (Nat × CodeT) := if r.cs = true then (rowK g nm r).getD [] else []
def rowB (g : GI) (nm : Nat → Nat → Str) (i : Nat) (r : DefRow) : Bool :=
  plainB r.dd.params && decide (r.dd.params.args.map (·.arg) = fpsOf g i) && fscB r.N (fpsOf g i) r.dd.scope && decide (r.d.np = (fpsOf g i).length) && decide (r.d.nl = r.N.length) && kwB (fpsOf g i) [] (fpsOf g i).length (List.range (fpsOf g i).length) &&
  r.dd.dfl.isEmpty && r.dd.kwd.isEmpty && decide (r.dd.at_ = (r.dd.name, none)) && (if r.cs = true then (rowK g nm r).isSome else noneC (rowK g nm r))
def bodyB (g : GI) (C : CodeT) (N : List Str) (d : CDef) : Bool := match C.body with
  | .stmts body => noneC (chkB g (kClo N C) d.body body)
  | .expr body => (match d.body with
    | .ret e => noneC (chkE g e false (kClo N C) body)
    | _ => false)
def cloB (g : GI) (c : Nat) (C : CodeT) (N : List Str) (d : CDef) : Bool :=
  nscB N (C.params.args.map (·.arg)) C.fr C.scope && plainB C.params && kwB (C.params.args.map (·.arg)) [] (C.params.args.map (·.arg)).length (List.range (C.params.args.map (·.arg)).length) && decide ((C.params.args.map (·.arg)).length = d.np) && decide (C.fr.length = d.nc) && decide (d.nl = N.length) && decide (C.fr = g.frs.getD c []) && bodyB g C N d
structure PgOk (g : GI) (nm : Nat → Nat → Str) (rs : List DefRow) (cN : List (List Str)) (pg : Prog) : Prop where
  rows : ∀ (i : Nat) (r : DefRow), rs[i]? = some r → rowB g nm i r = true
  fns : pg.fns = rs.map (·.d)
  fnm : (g.fns.all fun p => match rs[p.2]? with | some r => decide (r.dd.name = p.1) | none => false) = true
  fnr : (rs.all fun r => (g.fns.map (·.1)).contains r.dd.name) = true
  nod : ((rs.flatMap (rowC g nm)).map (·.1)).Nodup
  clo : ((rs.flatMap (rowC g nm)).all fun p => match pg.clos[p.1]?, cN[p.1]? with | some d, some N => cloB g p.1 p.2 N d | _, _ => false) = true
/-! ### the head's facts -/
def faOf (g : GI) : List He.Fa := g.fns.map (fun p => .glo p.1) ++ g.none_.map .free
def glB1 (K : PySem.W.Frag) (p : Str × D) : Bool := match PySem.W.nsIn K mainGlobals p.1 with
  | some (some u) => cstB K p.2 u
  | _ => false
def kwNone (K : PySem.W.Frag) (d : He.DefD) : Bool := match K.lookup (He.fAd K d.at_) with
  | some ⟨_, _, .func fd, _⟩ => fd.kwdefaults == Value.none
  | _ => false
def exOf (g : GI) (fn : List He.DefD) (K : PySem.W.Frag) : Bool := g.gls.all (glB1 K) && fn.all (kwNone K) && (!g.gcd || He.eqO (PySem.W.nsIn K mainGlobals "gcd") (some (some (.builtin "math.gcd"))))
theorem look_mem {α : Type} {n : Nat} {v : α} : ∀ {l : List (Nat × α)}, (l.map (·.1)).Nodup → (n, v) ∈ l → l.lookup n = some v
  | [], _, h => by cases h
  | (m, u) :: l, nd, h => by
    rw [List.map_cons, List.nodup_cons] at nd
    rcases List.mem_cons.mp h with e | e
    · cases e; simp
    · have ne : n ≠ m := fun z => nd.1 (z ▸ List.mem_map.mpr ⟨_, e, rfl⟩)
      rw [List.lookup_cons]
      have : (n == m) = false := by simpa using ne
      rw [this]
      exact look_mem nd.2 e
theorem mem_look {α : Type} {n : Nat} {v : α} : ∀ {l : List (Nat × α)}, l.lookup n = some v → (n, v) ∈ l
  | [], h => by cases h
  | (m, u) :: l, h => by
    rw [List.lookup_cons] at h
    cases q : n == m with
    | true =>
      rw [q] at h
      cases h
      rw [beq_iff_eq.mp q]
      exact List.mem_cons_self
    | false =>
      rw [q] at h
      exact List.mem_cons_of_mem _ (mem_look h)
section
variable {g : GI} {nm : Nat → Nat → Str} {rows : List DefRow} {cN : List (List Str)} {pg : Prog} {K : PySem.W.Frag} {w : World} {h base : Heap} {mg : Str → Option Value}
/-- what a run of this program knows -/
def staOf (g : GI) (nm : Nat → Nat → Str) (rows : List DefRow) (K : PySem.W.Frag) : Sta where
  T := rows.map fun r => ((He.cT K r.dd.at_).2, nm)
  cv := fun _ => none
  W := fun _ _ _ _ => True
  fad := fun i => (rows[i]?).map fun r => He.fAd K r.dd.at_
  cod := fun c => (rows.flatMap (rowC g nm)).lookup c
  cel := none
theorem progOk_of (ok : PgOk g nm rows cN pg) (X : K.In h) (G : h.Ns mainGlobals mg) (c : He.SaysX (faOf g) (rows.map (·.dd)) [] (rows.map (·.dd.at_)) (exOf g (rows.map (·.dd))) w h K)
    (tb : ∀ r ∈ rows, LamX.TabB base mg (He.cT K r.dd.at_).1 (He.cT K r.dd.at_).2) : ProgOk K mg base (staOf g nm rows K) g pg := by
  have glo : ∀ p ∈ g.fns, mg p.1 = some (.ref (He.ga K p.1)) := fun p hp =>
    He.glo_ok X G (c.t.d.facts (f := .glo p.1) (List.mem_append_left _ (List.mem_map.mpr ⟨p, hp, rfl⟩)))
  have ex := c.more
  unfold exOf at ex
  rw [Bool.and_eq_true, Bool.and_eq_true] at ex
  obtain ⟨⟨ex1, ex2⟩, ex3⟩ := ex
  have atn : ∀ (i : Nat) (r : DefRow), rows[i]? = some r → r.dd.at_ = (r.dd.name, none) := fun i r hr => by
    have z := ok.rows i r hr
    unfold rowB at z
    simp only [Bool.and_eq_true, decide_eq_true_eq] at z
    exact z.1.2
  refine ⟨fun x i hx => ?_, fun x hx => ?_, fun p hp => ?_, fun hg => ?_, fun c' C hC => ?_, fun p hp q hq e => ?_, fun i a ha => ?_, fun c' C hC => ?_⟩
  · have hm : (x, i) ∈ g.fns := List.contains_iff_mem.mp hx
    have z := List.all_eq_true.mp ok.fnm _ hm
    cases q : rows[i]? with
    | none => simp only [q] at z; cases z
    | some r =>
      simp only [q, decide_eq_true_eq] at z
      refine ⟨He.fAd K r.dd.at_, by show (rows[i]?).map _ = _; rw [q]; rfl, ?_⟩
      rw [atn i r q, ← z]
      have := glo _ hm
      rw [← z] at this
      exact this
  · have hm := List.contains_iff_mem.mp hx
    exact He.free_ok X G (c.t.d.facts (f := .free x) (List.mem_append_right _ (List.mem_map.mpr ⟨x, hm, rfl⟩)))
  · have z := List.all_eq_true.mp ex1 p hp
    unfold glB1 at z
    cases q : PySem.W.nsIn K mainGlobals p.1 with
    | none => rw [q] at z; cases z
    | some r =>
      cases r with
      | none => rw [q] at z; cases z
      | some u =>
        rw [q] at z
        obtain ⟨v, r1, r2⟩ := cstB_ok _ _ z
        exact ⟨u, v, PySem.W.mg_of X G q, r1, r2⟩
  · rw [hg] at ex3
    exact PySem.W.mg_of X G (He.eqO_ok (by simpa using ex3))
  · have hm := mem_look hC
    have z := List.all_eq_true.mp ok.clo _ hm
    cases q1 : pg.clos[c']? with
    | none => simp only [q1] at z; cases z
    | some d =>
      cases q2 : cN[c']? with
      | none => simp only [q1, q2] at z; cases z
      | some N =>
        simp only [q1, q2] at z
        unfold cloB at z
        simp only [Bool.and_eq_true, decide_eq_true_eq] at z
        exact z.1.2
  · obtain ⟨r, _, rfl⟩ := List.mem_map.mp hp
    obtain ⟨r', _, rfl⟩ := List.mem_map.mp hq
    rfl
  · have ha' : (rows[i]?).map (fun r => He.fAd K r.dd.at_) = some a := ha
    cases q : rows[i]? with
    | none => rw [q] at ha'; cases ha'
    | some r =>
      rw [q] at ha'
      obtain rfl : He.fAd K r.dd.at_ = a := Option.some.inj ha'
      have z := ok.rows i r q
      unfold rowB at z
      simp only [Bool.and_eq_true, decide_eq_true_eq, List.isEmpty_iff] at z
      obtain ⟨⟨⟨⟨⟨⟨⟨⟨⟨z1, z2⟩, z3⟩, z4⟩, z5⟩, z6⟩, z7⟩, z8⟩, z9⟩, z10⟩ := z
      have hr : r ∈ rows := List.mem_of_getElem? q
      obtain ⟨fd, F⟩ := c.t.d.defs (d := r.dd) (List.mem_map.mpr ⟨r, hr, rfl⟩)
      obtain ⟨oc, od, dV, kV, doc, pm, an, cdv, ct, osl, rfl, lk, hcd, hD, _⟩ := F.ex
      have kn := List.all_eq_true.mp ex2 r.dd (List.mem_map.mpr ⟨r, hr, rfl⟩)
      unfold kwNone at kn
      rw [lk] at kn
      have hk : kV = .none := by
        have kn : (kV == Value.none) = true := kn
        cases kV <;> first | rfl | (exfalso; revert kn; decide) | cases kn
      subst hk
      have hd : dV = .none := by
        rcases hD with ⟨_, e⟩ | ⟨e, _⟩
        · exact e
        · exact absurd (by unfold He.DefD.dvs; rw [z7]; rfl) e
      subst hd
      obtain ⟨ca, rfl⟩ := He.codeIn_ref hcd
      have hco : (He.cT K r.dd.at_).1 = ca := He.codeOf_eq lk rfl
      refine ⟨r.d, by rw [ok.fns, List.getElem?_map, q]; rfl, ⟨r.dd.name, r.dd.qual, r.dd.params, r.dd.body, r.dd.scope, doc, pm, ct, oc, an, od, osl, r.N, ca, (He.cT K r.dd.at_).2, nm, rowC g nm r, lk, hcd, fscB_ok z3, F.kp, z1, z2, ?_, List.mem_map.mpr ⟨r, hr, rfl⟩, z4, z5, ?_, fun p hp => ?_⟩, z6⟩
      · have := tb r hr
        rw [hco] at this
        exact this
      · show rowK g nm r = some (rowC g nm r)
        unfold rowC
        cases hcs : r.cs with
        | true =>
          rw [hcs] at z10
          obtain ⟨l, hl⟩ := Option.isSome_iff_exists.mp z10
          rw [hl]; rfl
        | false =>
          rw [hcs] at z10
          exact noneC_ok z10
      · exact look_mem ok.nod (List.mem_flatMap.mpr ⟨r, hr, hp⟩)
  · have hm := mem_look hC
    have z := List.all_eq_true.mp ok.clo _ hm
    cases q1 : pg.clos[c']? with
    | none => simp only [q1] at z; cases z
    | some d =>
      cases q2 : cN[c']? with
      | none => simp only [q1, q2] at z; cases z
      | some N =>
        simp only [q1, q2] at z
        unfold cloB at z
        simp only [Bool.and_eq_true, decide_eq_true_eq] at z
        obtain ⟨⟨⟨⟨⟨⟨⟨z1, z2⟩, z3⟩, z4⟩, z5⟩, z6⟩, _⟩, z8⟩ := z
        refine ⟨d, rfl, N, _, [], nscB_ok z1, z2, rfl, z3, z4, z5, z6, fun p hp => (by cases hp), ?_⟩
        unfold bodyB at z8
        split at z8
        · rename_i body e
          exact .inl ⟨body, e, noneC_ok z8⟩
        · rename_i body e
          split at z8
          · rename_i e' hb
            exact .inr ⟨body, e', e, hb, noneC_ok z8⟩
          · cases z8
end
/-! ### the law's walk -/
/-- what is known of the law's promise at the head's heap h -/
def LawE (l : PySem.W.OpenLaw) (w : World) (K : PySem.W.Frag) (k n : Nat) (x : Str) (mg : Str → Option Value) (fa : Addr) (h : Heap) : Prop :=
  ∃ (cs : List (Addr × Addr)) (S0 : Sta) (G : List D → HS → R D), (∀ p ∈ cs, h.get? p.2 = some { cls := .none, data := .fields #[] }) ∧ (∀ p ∈ cs, K.lookup p.2 = none) ∧ (∀ p ∈ cs, PySem.W.CodeHd h p.1 p.2) ∧
    (∀ p ∈ S0.T, p.1 ∈ cs.map (·.2)) ∧ (∀ ns : List Int, ns.length ≤ n → (∀ z ∈ ns, Builtin.Int.intBits z ≤ 1048576) → ∃ h', G [.scr (ns.map .int)] [] = .ok (.bl true) h') ∧
    ∀ base : Heap, K.In base → base.Ns mainGlobals mg → (∀ p ∈ cs, LamX.TabB base mg p.1 p.2) → ∃ fd : FuncData, (∀ (s : Shared) (u : Value), BindsTo s fd ⟨[u], []⟩ [(x, u)]) ∧ FnG l.prog w K mg base k fa fd [x] (FunSp K S0 G)
theorem walk_E {l : PySem.W.OpenLaw} {n k : Nat} {q : Program} {loose : List Str} {XP : (Str → Option Value) → Heap → Prop} {YP : World → Heap → Prop} {d : DefRec} {x : Str}
    (hn : l.most = some n) (hn2 : n ≤ sizeLine) (hdf : d.params.defaults = []) (hr : Room k callerA)
    (F : ∀ (w : World) (mg : Str → Option Value) (fa : Addr) (h : Heap), YP w h → h.Ns mainGlobals mg → mg d.name = some (.ref fa) → ∃ K : PySem.W.Frag, K.In h ∧ LawE l w K k n x mg fa h) :
    PySem.W.WalkO q loose XP YP l.row.toRowW d [] (fun f vs => PySem.call f vs) := by
  refine Att.attach_callB hn hdf fun w s₀ s₁ mg mb fa o pm cd doc a vs ns G Y ho hd hcd hmg hobj hints hlen hbits hg => ?_
  obtain ⟨K, KX, cs, S0, Gl, hT, nT, C, hST, hG, hF⟩ := F w mg fa _ Y G.T.g hmg
  obtain ⟨h', hG⟩ := hG ns hlen hbits
  have hT' : ∀ p ∈ cs.map (·.2), s₁.heap.get? p = some { cls := .none, data := .fields #[] } := fun p hp => by
    obtain ⟨c, hc, rfl⟩ := List.mem_map.mp hp
    exact hT c hc
  have nT' : ∀ p ∈ cs.map (·.2), K.lookup p = none := fun p hp => by
    obtain ⟨c, hc, rfl⟩ := List.mem_map.mp hp
    exact nT c hc
  obtain ⟨fd, hb, hF⟩ := hF _ (endB_in KX nT') (endB_ns hT' hobj G.T.g) fun p hp => endB_tab hT' hobj G.T.g G.T.bmain (List.mem_map.mpr ⟨p, hp, rfl⟩) (C p hp)
  refine law_end (ts := cs.map (·.2)) (S0 := S0) KX G.T.g G.T.b G.T.builtins G.T.nolimit hg hT' nT' (fun p hp => ?_) hobj hints (Nat.le_trans hlen hn2) hr hST hb hG hF
  obtain ⟨c, hc, rfl⟩ := List.mem_map.mp hp
  exact ⟨_, C c hc⟩
theorem lawE_of {l : PySem.W.OpenLaw} {n k : Nat} {g : GI} {nm : Nat → Nat → Str} {rows : List DefRow} {cN : List (List Str)} {pg : Prog} {K : PySem.W.Frag} {w : World} {h : Heap} {mg : Str → Option Value} {fa : Addr} {x : Str} (ok : PgOk g nm rows cN pg)
    (h0 : g.fns.contains ("law", 0) = true) (hx : fpsOf g 0 = [x]) (hl : ∀ ns : List Int, ns.length ≤ n → (∀ z ∈ ns, Builtin.Int.intBits z ≤ 1048576) → ∃ h', evF pg k 0 [.scr (ns.map .int)] [] = .ok (.bl true) h')
    (X : K.In h) (G : h.Ns mainGlobals mg) (hfa : mg ("law" : Str) = some (.ref fa)) (c : He.SaysX (faOf g) (rows.map (·.dd)) [] (rows.map (·.dd.at_)) (exOf g (rows.map (·.dd))) w h K) : LawE l w K k n x mg fa h := by
  refine ⟨rows.map fun r => He.cT K r.dd.at_, (staOf g nm rows K).noX, evF pg k 0, fun p hp => ?_, fun p hp => ?_, fun p hp => ?_, fun p hp => ?_, hl, fun base KB NB tb => ?_⟩
  · obtain ⟨r, hr, rfl⟩ := List.mem_map.mp hp
    exact c.empty _ (List.mem_map.mpr ⟨r, hr, rfl⟩)
  · obtain ⟨r, hr, rfl⟩ := List.mem_map.mp hp
    exact c.out _ (List.mem_map.mpr ⟨r, hr, rfl⟩)
  · obtain ⟨r, hr, rfl⟩ := List.mem_map.mp hp
    exact PySem.W.codeHd_of_K X (c.hd _ (List.mem_map.mpr ⟨r, hr, rfl⟩))
  · have hp : p ∈ rows.map fun r => ((He.cT K r.dd.at_).2, nm) := hp
    obtain ⟨r, hr, rfl⟩ := List.mem_map.mp hp
    exact List.mem_map.mpr ⟨_, List.mem_map.mpr ⟨r, hr, rfl⟩, rfl⟩
  · have po : ProgOk K mg base (staOf g nm rows K) g pg := progOk_of ok X G c fun r hr => tb _ (List.mem_map.mpr ⟨r, hr, rfl⟩)
    have L := lvl_all (P := l.prog) (w := w) po k
    obtain ⟨a, ha, e⟩ := po.gf _ _ h0
    rw [hfa] at e
    cases e
    obtain ⟨fd, F0, Fn, kw, _⟩ := L.fn 0 fa ha
    rw [hx] at F0 Fn kw
    exact ⟨fd, fun s u => .of_eq (bind_plain (us := [u]) (ws := []) (ks := []) F0.pl F0.df F0.nm kw rfl), Fn⟩
/-! ### a law's row by its rows -/
def allRows (g : GI) (nm : Nat → Nat → Str) : Nat → List DefRow → Bool
  | _, [] => true
  | i, r :: rs => rowB g nm i r && allRows g nm (i + 1) rs
theorem allRows_ok {g : GI} {nm : Nat → Nat → Str} : ∀ {rs : List DefRow} {j : Nat}, allRows g nm j rs = true → ∀ (i : Nat) (r : DefRow), rs[i]? = some r → rowB g nm (j + i) r = true
  | [], _, _, i, r, e => by simp at e
  | a :: rs, j, h, i, r, e => by
    unfold allRows at h
    rw [Bool.and_eq_true] at h
    cases i with
    | zero => simp at e; subst e; exact h.1
    | succ i =>
      have z := allRows_ok h.2 i r (by simpa using e)
      rwa [Nat.add_assoc, Nat.add_comm 1 i] at z
theorem allRows_app {g : GI} {nm : Nat → Nat → Str} : ∀ {rs ts : List DefRow} {j : Nat}, allRows g nm j rs = true → allRows g nm (j + rs.length) ts = true → allRows g nm j (rs ++ ts) = true
  | [], _, _, _, h => by simpa using h
  | a :: rs, ts, j, h, h' => by
    unfold allRows at h
    rw [Bool.and_eq_true] at h
    show (rowB g nm j a && allRows g nm (j + 1) (rs ++ ts)) = true
    rw [Bool.and_eq_true]
    refine ⟨h.1, allRows_app h.2 ?_⟩
    rw [List.length_cons] at h'
    rwa [Nat.add_assoc, Nat.add_comm 1]
end VE
set_option Elab.async false
set_option linter.all false
set_option maxRecDepth 100000
set_option maxHeartbeats 1000000
set_option autoImplicit false
/-! P0: the fragment's meaning, step by step, for simp: what is to be done first stands at the head -/
namespace VE
open PySem
/-- by what comes of it -/
def R.el {α β : Type} (r : R α) (X : Nat → D → HS → β) (B : β) (k : α → HS → β) : β := match r with
  | .ok a h => k a h
  | .exc c d h => X c d h
  | .bad => B
def Out.el {β : Type} (o : Out) (nx : Env → HS → β) (rt : D → HS → β) (bk ct : Env → HS → β) (ex : Nat → D → Env → HS → β) (bd : β) : β := match o with
  | .nx ρ h => nx ρ h
  | .rt d h => rt d h
  | .bk ρ h => bk ρ h
  | .ct ρ h => ct ρ h
  | .exc c d ρ h => ex c d ρ h
  | .bad => bd
def onB {β : Type} (d : D) (t f b : β) : β := match d with
  | .bl true => t
  | .bl false => f
  | _ => b
section
variable {α β γ : Type} {X : Nat → D → HS → β} {B : β} {k : α → HS → β}
@[simp ↓] theorem el_ok (a : α) (h : HS) : (R.ok a h).el X B k = k a h := Eq.trans rfl rfl
@[simp ↓] theorem el_exc (c : Nat) (d : D) (h : HS) : (R.exc c d h : R α).el X B k = X c d h := Eq.trans rfl rfl
@[simp ↓] theorem el_bad : (R.bad : R α).el X B k = B := Eq.trans rfl rfl
theorem el_of {r : R α} {a : α} {h : HS} (e : r = .ok a h) : r.el X B k = k a h := by rw [e]; rfl
@[simp ↓] theorem el_bind (r : R γ) (f : γ → HS → R α) : (r.bind f).el X B k = r.el X B fun a h => (f a h).el X B k := by cases r <;> rfl
@[simp ↓] theorem el_nox (r : R α) : r.nox.el X B k = r.el (fun _ _ _ => B) B k := by cases r <;> rfl
@[simp ↓] theorem el_ite (c : Prop) [Decidable c] (r s : R α) : (if c then r else s).el X B k = if c then r.el X B k else s.el X B k := by split <;> rfl
theorem el_id (r : R α) : r.el .exc .bad .ok = r := by cases r <;> rfl
@[simp ↓] theorem onB_bl (c : Bool) (t f b : β) : onB (.bl c) t f b = if c = true then t else f := by cases c <;> rfl
@[simp] theorem ite_ok (c : Prop) [Decidable c] (a b : α) (h : HS) : (if c then R.ok a h else R.ok b h) = R.ok (if c then a else b) h := by split <;> rfl
@[simp] theorem ite_bl (c : Prop) [Decidable c] (a b : Bool) : (if c then D.bl a else D.bl b) = D.bl (if c then a else b) := by split <;> rfl
end
@[simp] theorem getV_zero (o : Option D) (ρ : Env) : getV (o :: ρ) 0 = o := Eq.trans rfl rfl
@[simp] theorem getV_succ (o : Option D) (ρ : Env) (n : Nat) : getV (o :: ρ) (n + 1) = getV ρ n := Eq.trans rfl rfl
@[simp] theorem its_lst (xs : List D) : its (.lst xs) = xs := Eq.trans rfl rfl
section
variable {F : Nat → List D → HS → R D} {G : Nat → List D → List D → HS → R D} {β : Type} {X : Nat → D → HS → β} {B : β} {k : D → HS → β} (ρ : Env) (h : HS)
@[simp ↓] theorem e_nil : (ev F G .nil ρ h).el X B k = k (.lst []) h := Eq.trans rfl rfl
@[simp ↓] theorem e_cons (e r : E) : (ev F G (.cons e r) ρ h).el X B k = (ev F G e ρ h).el X B fun d h1 => (ev F G r ρ h1).el X B fun l h2 => k (.lst (d :: its l)) h2 := by rw [ev]; simp only [el_bind, el_ok]
@[simp ↓] theorem e_var (i : Nat) : (ev F G (.var i) ρ h).el X B k = match getV ρ i with | some d => (if isFn d = true then B else k d h) | none => B := by
  rw [ev]
  cases getV ρ i with
  | none => rfl
  | some d => simp only; split <;> rfl
@[simp ↓] theorem e_cst (d : D) : (ev F G (.cst d) ρ h).el X B k = k d h := Eq.trans rfl rfl
@[simp ↓] theorem e_gl (x : Str) (d : D) : (ev F G (.gl x d) ρ h).el X B k = k d h := Eq.trans rfl rfl
@[simp ↓] theorem e_tup (es : E) : (ev F G (.tup es) ρ h).el X B k = (ev F G es ρ h).el X B fun l h1 => k (.tup (its l)) h1 := by rw [ev]; simp only [el_bind, el_ok]
@[simp ↓] theorem e_lst (es : E) : (ev F G (.lst es) ρ h).el X B k = (ev F G es ρ h).el X B fun l h1 => k (.lst (its l)) h1 := by rw [ev]; simp only [el_bind, el_ok]
@[simp ↓] theorem e_lstO (es : E) : (ev F G (.lstO es) ρ h).el X B k = (ev F G es ρ h).el X B fun l h1 => k (.ref h1.length) (h1 ++ [.lst (its l)]) := by rw [ev]; simp only [el_bind, el_ok]
@[simp ↓] theorem e_dctO : (ev F G .dctO ρ h).el X B k = k (.ref h.length) (h ++ [.dct []]) := Eq.trans rfl rfl
@[simp ↓] theorem e_dctTO : (ev F G .dctTO ρ h).el X B k = k (.ref h.length) (h ++ [.dctT []]) := Eq.trans rfl rfl
@[simp ↓] theorem e_tupS (a p b : E) : (ev F G (.tupS a p b) ρ h).el X B k = (if isNil a = true then R.ok (.lst []) h else (ev F G a ρ h).bind fun d h1 => .ok (.lst [d]) h1).el X B fun l1 h1 => (ev F G p ρ h1).el X B fun d h2 => match starOf d with
    | some xs => (ev F G b ρ h2).el X B fun l2 h3 => if (its l1).length + xs.length + (its l2).length ≤ lim then k (D.tup (its l1 ++ (xs ++ its l2))) h3 else B
    | none => B := by
  rw [ev]; simp only [el_bind]
  congr 1; funext l1 h1; congr 1; funext d h2
  cases starOf d with
  | none => rfl
  | some xs => simp only [el_bind, el_ite, el_ok, el_bad]
@[simp ↓] theorem e_lstS (a p b : E) : (ev F G (.lstS a p b) ρ h).el X B k = (if isNil a = true then R.ok (.lst []) h else (ev F G a ρ h).bind fun d h1 => .ok (.lst [d]) h1).el X B fun l1 h1 => (ev F G p ρ h1).el X B fun d h2 => match starOf d with
    | some xs => (ev F G b ρ h2).el X B fun l2 h3 => if (its l1).length + xs.length + (its l2).length ≤ lim then k (D.lst (its l1 ++ (xs ++ its l2))) h3 else B
    | none => B := by
  rw [ev]; simp only [el_bind]
  congr 1; funext l1 h1; congr 1; funext d h2
  cases starOf d with
  | none => rfl
  | some xs => simp only [el_bind, el_ite, el_ok, el_bad]
@[simp ↓] theorem e_callK (f : Nat) (es kws : E) (ks : List Str) (perm : List Nat) : (ev F G (.callK f es kws ks perm) ρ h).el X B k = (ev F G es ρ h).el X B fun l h1 => (ev F G kws ρ h1).el X B fun m h2 => (F f (permOf (its l ++ its m) perm) h2).el X B k := by rw [ev]; simp only [el_bind, el_ok]
@[simp ↓] theorem e_callF (f : Nat) (es : E) : (ev F G (.callF f es) ρ h).el X B k = (ev F G es ρ h).el X B fun l h1 => (F f (its l) h1).el (fun _ _ _ => B) B k := by rw [ev]; simp only [el_bind, el_nox]
@[simp ↓] theorem e_callV (i : Nat) (es : E) : (ev F G (.callV i es) ρ h).el X B k = match getV ρ i with
    | some (.fn c caps) => (ev F G es ρ h).el X B fun l h1 => (G c caps (its l) h1).el (fun _ _ _ => B) B k
    | some (.gfn f) => (ev F G es ρ h).el X B fun l h1 => (F f (its l) h1).el X B k
    | _ => B := by
  rw [ev]
  split <;> simp_all only [el_bind, el_nox, el_bad]
@[simp ↓] theorem e_lam (c : Nat) (js : List Nat) : (ev F G (.lam c js) ρ h).el X B k = match capsOf ρ js with
    | some caps => if caps.all (fun d => !isFn d) = true then k (.fn c caps) h else B
    | none => B := by
  rw [ev]
  cases capsOf ρ js with
  | none => rfl
  | some d => simp only; split <;> rfl
@[simp ↓] theorem e_ndv (i c : Nat) (js : List Nat) : (ev F G (.ndv i c js) ρ h).el X B k = match getV ρ i, capsOf ρ js with
    | some (.ndf c'), some caps => if c = c' ∧ caps.all (fun d => !isFn d) = true then k (.fn c caps) h else B
    | _, _ => B := by
  rw [ev]
  split <;> simp_all only [el_ite, el_ok, el_bad]
@[simp ↓] theorem e_gfn (f : Nat) : (ev F G (.gfn f) ρ h).el X B k = k (.gfn f) h := Eq.trans rfl rfl
@[simp ↓] theorem e_fnv (i : Nat) : (ev F G (.fnv i) ρ h).el X B k = match getV ρ i with
    | some (.fn c caps) => k (.fn c caps) h
    | some (.gfn f) => k (.gfn f) h
    | _ => B := by
  rw [ev]
  split <;> simp_all only [el_ok, el_bad]
@[simp ↓] theorem e_bi (b : BI) (es : E) : (ev F G (.bi b es) ρ h).el X B k = (ev F G es ρ h).el X B fun l h1 => (opBi b (its l) h1).el X B k := by rw [ev]; simp only [el_bind]
@[simp ↓] theorem e_isT (b : BI) (e : E) : (ev F G (.isT b e) ρ h).el X B k = (ev F G e ρ h).el X B fun d h1 => (opBi b [d] h1).el X B k := by rw [ev]; simp only [el_bind]
@[simp ↓] theorem e_mt (m : MT) (e es : E) : (ev F G (.mt m e es) ρ h).el X B k = (ev F G e ρ h).el X B fun a h1 => if mtOk m a h1 = true then (ev F G es ρ h1).el X B fun l h2 => (opMt m a (its l) h2).el X B k else B := by rw [ev]; simp only [el_bind, el_ite, el_bad]
@[simp ↓] theorem e_bin (o : BO) (a b : E) : (ev F G (.bin o a b) ρ h).el X B k = (ev F G a ρ h).el X B fun x h1 => (ev F G b ρ h1).el X B fun y h2 => (opBin o x y h2).el X B k := by rw [ev]; simp only [el_bind]
@[simp ↓] theorem e_neg (a : E) : (ev F G (.neg a) ρ h).el X B k = (ev F G a ρ h).el X B fun x h1 => (opNeg x h1).el X B k := by rw [ev]; simp only [el_bind]
@[simp ↓] theorem e_cmp (o : CO) (a b : E) : (ev F G (.cmp o a b) ρ h).el X B k = (ev F G a ρ h).el X B fun x h1 => (ev F G b ρ h1).el X B fun y h2 => (opCmp o x y h2).el X B k := by rw [ev]; simp only [el_bind]
theorem tst_el (d : D) (h : HS) (kk : Bool → R D) : (tst d h kk).el X B k = onB d ((kk true).el X B k) ((kk false).el X B k) B := by
  cases d <;> first | rfl | (rename_i b; cases b <;> rfl)
@[simp ↓] theorem e_ch (o1 o2 : CO) (a b c : E) : (ev F G (.ch o1 o2 a b c) ρ h).el X B k = (ev F G a ρ h).el X B fun x h1 => (ev F G b ρ h1).el X B fun y h2 => (opCmp o1 x y h2).el X B fun d h3 => onB d ((ev F G c ρ h3).el X B fun z h4 => (opCmp o2 y z h4).el X B k) (k (.bl false) h3) B := by
  rw [ev]; simp only [el_bind, tst_el, if_true, Bool.false_eq_true, if_false, el_ok]
@[simp ↓] theorem e_and (a b : E) : (ev F G (.and a b) ρ h).el X B k = (ev F G a ρ h).el X B fun d h1 => onB d ((ev F G b ρ h1).el X B fun d h2 => onB d (k (.bl true) h2) (k (.bl false) h2) B) (k (.bl false) h1) B := by
  rw [ev]; simp only [el_bind, tst_el, if_true, Bool.false_eq_true, if_false, el_ok]
@[simp ↓] theorem e_or (a b : E) : (ev F G (.or a b) ρ h).el X B k = (ev F G a ρ h).el X B fun d h1 => onB d (k (.bl true) h1) ((ev F G b ρ h1).el X B fun d h2 => onB d (k (.bl true) h2) (k (.bl false) h2) B) B := by
  rw [ev]; simp only [el_bind, tst_el, if_true, Bool.false_eq_true, if_false, el_ok]
@[simp ↓] theorem e_one (a : E) : (ev F G (.one a) ρ h).el X B k = (ev F G a ρ h).el X B fun d h1 => onB d (k (.bl true) h1) (k (.bl false) h1) B := by
  rw [ev]; simp only [el_bind, tst_el, el_ok]
@[simp ↓] theorem e_not (a : E) : (ev F G (.not a) ρ h).el X B k = (ev F G a ρ h).el X B fun d h1 => onB d (k (.bl false) h1) (k (.bl true) h1) B := by
  rw [ev]; simp only [el_bind, tst_el, el_ok, Bool.not_true, Bool.not_false]
@[simp ↓] theorem e_ife (c a b : E) : (ev F G (.ife c a b) ρ h).el X B k = (ev F G c ρ h).el X B fun d h1 => onB d ((ev F G a ρ h1).el X B k) ((ev F G b ρ h1).el X B k) B := by
  rw [ev]; simp only [el_bind, tst_el, if_true, Bool.false_eq_true, if_false]
@[simp ↓] theorem e_ix (a i : E) : (ev F G (.ix a i) ρ h).el X B k = (ev F G a ρ h).el X B fun x h1 => (ev F G i ρ h1).el X B fun y h2 => (opIx x y h2).el X B k := by rw [ev]; simp only [el_bind]
theorem el_evO (e : E) (h : HS) : (evO e (ev F G e ρ) h).el X B k = if isNil e = true then k .non h else (ev F G e ρ h).el X B fun x h' => (match x with | .int i => R.ok (D.int i) h' | _ => .bad).el X B k := by
  unfold evO
  split
  · rfl
  · unfold intR; rw [el_bind] <;> rfl
@[simp ↓] theorem e_sl (a lo hi : E) : (ev F G (.sl a lo hi) ρ h).el X B k = (ev F G a ρ h).el X B fun x h1 => (evO lo (ev F G lo ρ) h1).el X B fun l h2 => (evO hi (ev F G hi ρ) h2).el X B fun u h3 => (opSl x l u h3).el X B k := by rw [ev]; simp only [el_bind]
@[simp ↓] theorem e_rev (a : E) : (ev F G (.rev a) ρ h).el X B k = (ev F G a ρ h).el X B fun x h1 => (opRev x h1).el X B k := by rw [ev]; simp only [el_bind]
@[simp ↓] theorem e_comp (it t c e : E) (own : List (Str × Nat)) : (ev F G (.comp it t c e own) ρ h).el X B k = (ev F G it ρ h).el X B fun l h1 => (compGo (compF t (own.map (·.2)) ρ (fun ρ' h' => if isNil c then .ok (.bl true) h' else ev F G c ρ' h') (ev F G e)) (its l) h1).el (fun _ _ _ => B) B fun ys h5 => if ys.length ≤ lim then k (.lst ys) h5 else B := by rw [ev]; simp only [el_bind, el_nox, el_ite, el_ok, el_bad]
@[simp ↓] theorem e_comp2 (it t it2 t2 e : E) (own : List (Str × Nat)) (vs1 : List Nat) : (ev F G (.comp2 it t it2 t2 e own vs1) ρ h).el X B k = (ev F G it ρ h).el X B fun l h1 => (comp2Go (comp2F t (own.map (·.2)) t2 vs1 ρ (ev F G it2) (ev F G e)) (its l) h1).el (fun _ _ _ => B) B fun ys h5 => if ys.length ≤ lim then k (.lst ys) h5 else B := by rw [ev]; simp only [el_bind, el_nox, el_ite, el_ok, el_bad]
@[simp ↓] theorem e_iseq (e : E) : (ev F G (.iseq e) ρ h).el X B k = (ev F G e ρ h).el X B fun x h1 => (opSeq x h1).el X B k := by rw [ev]; simp only [el_bind]
@[simp ↓] theorem e_irng (es : E) : (ev F G (.irng es) ρ h).el X B k = (ev F G es ρ h).el X B fun l h1 => (opRng (its l) h1).el X B k := by rw [ev]; simp only [el_bind]
@[simp ↓] theorem e_ienum (e : E) : (ev F G (.ienum e) ρ h).el X B k = (ev F G e ρ h).el X B fun x h1 => (opEnum x h1).el X B k := by rw [ev]; simp only [el_bind]
@[simp ↓] theorem e_izip (a b : E) : (ev F G (.izip a b) ρ h).el X B k = (ev F G a ρ h).el X B fun x h1 => (ev F G b ρ h1).el X B fun y h2 => (opZip x y h2).el X B k := by rw [ev]; simp only [el_bind]
@[simp ↓] theorem e_sortedSet (e : E) : (ev F G (.sortedSet e) ρ h).el X B k = (ev F G e ρ h).el X B fun x h1 => (opSSet x h1).el X B k := by rw [ev]; simp only [el_bind]
@[simp ↓] theorem e_dctL (e : E) : (ev F G (.dctL e) ρ h).el X B k = (ev F G e ρ h).el X B fun x h1 => (opDctL x h1).el X B k := by rw [ev]; simp only [el_bind]
@[simp ↓] theorem e_dct1 (a b : E) : (ev F G (.dct1 a b) ρ h).el X B k = (ev F G a ρ (h ++ [.dctT []])).el X B fun x h1 => (ev F G b ρ h1).el X B fun y h2 => (opDct1 h.length x y h2).el X B k := by rw [ev]; simp only [el_bind]
@[simp ↓] theorem e_dctS (ks : List Str) (es : E) : (ev F G (.dctS ks es) ρ h).el X B k = (ev F G es ρ (h ++ [.dct []])).el X B fun l h1 => (opDctS h.length ks (its l) h1).el X B k := by rw [ev]; simp only [el_bind]
@[simp ↓] theorem e_sum1 (e : E) : (ev F G (.sum1 e) ρ h).el X B k = (ev F G e ρ h).el X B fun x h1 => (opSum x h1).el X B k := by rw [ev]; simp only [el_bind]
@[simp ↓] theorem e_cnt (a b : E) : (ev F G (.cnt a b) ρ h).el X B k = (ev F G a ρ h).el X B fun x h1 => (ev F G b ρ h1).el X B fun y h2 => (opCnt x y h2).el X B k := by rw [ev]; simp only [el_bind]
@[simp ↓] theorem e_str1 (e : E) : (ev F G (.str1 e) ρ h).el X B k = (ev F G e ρ h).el X B fun x h1 => (opStr1 x h1).el X B k := by rw [ev]; simp only [el_bind]
@[simp ↓] theorem e_ikeys (e : E) : (ev F G (.ikeys e) ρ h).el X B k = (ev F G e ρ h).el X B fun x h1 => (opIkeys x h1).el X B k := by rw [ev]; simp only [el_bind]
@[simp ↓] theorem e_iitems (e : E) : (ev F G (.iitems e) ρ h).el X B k = (ev F G e ρ h).el X B fun x h1 => (opIitems x h1).el X B k := by rw [ev]; simp only [el_bind]
@[simp ↓] theorem e_dgt (a b : E) : (ev F G (.dgt a b) ρ h).el X B k = (ev F G a ρ h).el X B fun x h1 => (ev F G b ρ h1).el X B fun y h2 => (opGet x y h2).el X B k := by rw [ev]; simp only [el_bind]
@[simp ↓] theorem e_din (a b : E) : (ev F G (.din a b) ρ h).el X B k = (ev F G a ρ h).el X B fun x h1 => (ev F G b ρ h1).el X B fun y h2 => (opDin x y h2).el X B k := by rw [ev]; simp only [el_bind]
@[simp ↓] theorem e_dnin (a b : E) : (ev F G (.dnin a b) ρ h).el X B k = (ev F G a ρ h).el X B fun x h1 => (ev F G b ρ h1).el X B fun y h2 => (opDnin x y h2).el X B k := by rw [ev]; simp only [el_bind]
@[simp ↓] theorem e_lsd (e : E) : (ev F G (.lsd e) ρ h).el X B k = (ev F G e ρ h).el X B fun x h1 => (opLsd x h1).el X B k := by rw [ev]; simp only [el_bind]
@[simp ↓] theorem e_idx (a b : E) : (ev F G (.idx a b) ρ h).el X B k = (ev F G a ρ h).el X B fun x h1 => if idxOk x h1 = true then (ev F G b ρ h1).el X B fun y h2 => (opIdx x y h2).el X B k else B := by rw [ev]; simp only [el_bind, el_ite, el_bad]
@[simp ↓] theorem e_listRange (es : E) : (ev F G (.listRange es) ρ h).el X B k = (ev F G es ρ h).el X B fun l h1 => (opLRng (its l) h1).el X B k := by rw [ev]; simp only [el_bind]
end
/-! statements -/
section
variable {F : Nat → List D → HS → R D} {G : Nat → List D → List D → HS → R D} {β : Type} {nx : Env → HS → β} {rt : D → HS → β} {bk ct : Env → HS → β} {ex : Nat → D → Env → HS → β} {bd : β} (ρ : Env) (h : HS)
@[simp ↓] theorem o_nx : (Out.nx ρ h).el nx rt bk ct ex bd = nx ρ h := Eq.trans rfl rfl
@[simp ↓] theorem o_rt (d : D) : (Out.rt d h).el nx rt bk ct ex bd = rt d h := Eq.trans rfl rfl
@[simp ↓] theorem o_bk : (Out.bk ρ h).el nx rt bk ct ex bd = bk ρ h := Eq.trans rfl rfl
@[simp ↓] theorem o_ct : (Out.ct ρ h).el nx rt bk ct ex bd = ct ρ h := Eq.trans rfl rfl
@[simp ↓] theorem o_bad : Out.bad.el nx rt bk ct ex bd = bd := Eq.trans rfl rfl
theorem o_ofR {α : Type} (r : R α) (k : α → HS → Out) : (Out.ofR ρ r k).el nx rt bk ct ex bd = r.el (fun c d h => ex c d ρ h) bd fun a h => (k a h).el nx rt bk ct ex bd := by cases r <;> rfl
theorem o_then (o : Out) (k : Env → HS → Out) : (o.then k).el nx rt bk ct ex bd = o.el (fun ρ h => (k ρ h).el nx rt bk ct ex bd) rt bk ct ex bd := by cases o <;> rfl
@[simp ↓] theorem s_skip : (evS F G .skip ρ h).el nx rt bk ct ex bd = nx ρ h := Eq.trans rfl rfl
@[simp ↓] theorem s_pass : (evS F G .pass ρ h).el nx rt bk ct ex bd = nx ρ h := Eq.trans rfl rfl
@[simp ↓] theorem s_seq (a b : S) : (evS F G (.seq a b) ρ h).el nx rt bk ct ex bd = (evS F G a ρ h).el (fun ρ h => (evS F G b ρ h).el nx rt bk ct ex bd) rt bk ct ex bd := by rw [evS, o_then]
@[simp ↓] theorem s_asg (t e : E) : (evS F G (.asg t e) ρ h).el nx rt bk ct ex bd = (ev F G e ρ h).el (fun c d h => ex c d ρ h) bd fun d h1 => (stT F G t d ρ h1).el (fun _ _ _ => bd) bd fun ρ' h2 => nx ρ' h2 := by rw [evS, o_ofR]; simp only [o_ofR, el_nox, o_nx]
@[simp ↓] theorem s_dput (o i e : E) : (evS F G (.dput o i e) ρ h).el nx rt bk ct ex bd = (ev F G e ρ h).el (fun c d h => ex c d ρ h) bd fun d h1 => (ev F G o ρ h1).el (fun c d h => ex c d ρ h) bd fun x h2 => (ev F G i ρ h2).el (fun c d h => ex c d ρ h) bd fun y h3 => (opPut x y d h3).el (fun _ _ _ => bd) bd fun _ h4 => nx ρ h4 := by
  rw [evS, o_ofR]; simp only [el_bind]
  congr 1; funext d h1; congr 1; funext x h2; congr 1; funext y h3
  cases opPut x y d h3 <;> rfl
@[simp ↓] theorem s_aug (i : Nat) (o : BO) (e : E) : (evS F G (.aug i o e) ρ h).el nx rt bk ct ex bd = match getV ρ i with
    | some x => if isFn x = true then bd else (ev F G e ρ h).el (fun c d h => ex c d ρ h) bd fun y h1 => (opAug o x y h1).el (fun c d h => ex c d ρ h) bd fun z h2 => nx (ρ.set i (some z)) h2
    | none => bd := by
  rw [evS]
  cases getV ρ i with
  | none => rfl
  | some d => simp only; split <;> simp only [o_ofR, o_bad, o_nx]
@[simp ↓] theorem s_ite (c : E) (a b : S) : (evS F G (.ite c a b) ρ h).el nx rt bk ct ex bd = (ev F G c ρ h).el (fun c d h => ex c d ρ h) bd fun d h1 => onB d ((evS F G a ρ h1).el nx rt bk ct ex bd) ((evS F G b ρ h1).el nx rt bk ct ex bd) bd := by
  rw [evS, o_ofR]
  congr 1; funext d h1
  cases d <;> first | rfl | (rename_i b; cases b <;> rfl)
@[simp ↓] theorem s_wh (n : Nat) (c : E) (b : S) : (evS F G (.wh n c b) ρ h).el nx rt bk ct ex bd = (whGo (ev F G c) (evS F G b) n ρ h).el nx rt bk ct ex bd := Eq.trans rfl rfl
@[simp ↓] theorem s_fo (t it : E) (b : S) : (evS F G (.fo t it b) ρ h).el nx rt bk ct ex bd = (ev F G it ρ h).el (fun c d h => ex c d ρ h) bd fun l h1 => (foGo (stT F G t) (evS F G b) (its l) ρ h1).el nx rt bk ct ex bd := by rw [evS, o_ofR]
@[simp ↓] theorem s_ret (e : E) : (evS F G (.ret e) ρ h).el nx rt bk ct ex bd = (ev F G e ρ h).el (fun c d h => ex c d ρ h) bd fun d h1 => rt d h1 := by rw [evS, o_ofR]; rfl
@[simp ↓] theorem s_retN : (evS F G .retN ρ h).el nx rt bk ct ex bd = rt .non h := Eq.trans rfl rfl
@[simp ↓] theorem s_ex (e : E) : (evS F G (.ex e) ρ h).el nx rt bk ct ex bd = (ev F G e ρ h).el (fun c d h => ex c d ρ h) bd fun d h1 => nx ρ h1 := by rw [evS, o_ofR]; rfl
@[simp ↓] theorem s_cont : (evS F G .cont ρ h).el nx rt bk ct ex bd = ct ρ h := Eq.trans rfl rfl
@[simp ↓] theorem s_brk : (evS F G .brk ρ h).el nx rt bk ct ex bd = bk ρ h := Eq.trans rfl rfl
@[simp ↓] theorem s_never : (evS F G .never ρ h).el nx rt bk ct ex bd = bd := Eq.trans rfl rfl
@[simp ↓] theorem s_ndf (i c : Nat) : (evS F G (.ndf i c) ρ h).el nx rt bk ct ex bd = nx (ρ.set i (some (.ndf c))) h := Eq.trans rfl rfl
variable {β' : Type} {X : Nat → D → HS → β'} {B : β'} {k : Env → HS → β'}
@[simp ↓] theorem t_var (i : Nat) (d : D) : (stT F G (.var i) d ρ h).el X B k = k (ρ.set i (some d)) h := Eq.trans rfl rfl
@[simp ↓] theorem t_tup (ts : E) (ds : List D) : (stT F G (.tup ts) (.tup ds) ρ h).el X B k = (stT F G ts (.lst ds) ρ h).el X B k := Eq.trans rfl rfl
@[simp ↓] theorem t_tupL (ts : E) (ds : List D) : (stT F G (.tup ts) (.lst ds) ρ h).el X B k = (stT F G ts (.lst ds) ρ h).el X B k := Eq.trans rfl rfl
@[simp ↓] theorem t_cons (t r : E) (d : D) (ds : List D) : (stT F G (.cons t r) (.lst (d :: ds)) ρ h).el X B k = (stT F G t d ρ h).el X B fun ρ' h' => (stT F G r (.lst ds) ρ' h').el X B k := by rw [stT, el_bind]
@[simp ↓] theorem t_nil : (stT F G .nil (.lst []) ρ h).el X B k = k ρ h := Eq.trans rfl rfl
@[simp ↓] theorem t_ix (a i : E) (d : D) : (stT F G (.ix a i) d ρ h).el X B k = (ev F G a ρ h).el X B fun x h1 => (ev F G i ρ h1).el X B fun y h2 => (opSet x y d h2).el X B fun _ h3 => k ρ h3 := by rw [stT]; simp only [el_bind, el_ok]
end
/-! calls -/
/-- a body's run, cut -/
@[irreducible] noncomputable def cutL (fz : Bool) (h0 : HS) (d : D) (h : HS) : R D := cutR fz h0 (.ok d h)
theorem cut_run (fz : Bool) (h0 : HS) (o : Out) : cutR fz h0 (runOut o) = o.el (fun _ h => cutL fz h0 .non h) (cutL fz h0) (fun _ _ => .bad) (fun _ _ => .bad) (fun c d _ h => .exc c d h) .bad := by
  unfold cutL
  cases o <;> rfl
theorem u_at {pg : Prog} {f : Nat} {d : FDef} (e : pg.fns[f]? = some d) (k : Nat) (as : List D) (h : HS) (hl : as.length = d.np) : evF pg (k + 1) f as h = (evS (evF pg k) (evG pg k) d.body (as.map some ++ List.replicate (d.nl - d.np) none) h).el (fun _ h' => cutL d.fz h .non h') (cutL d.fz h) (fun _ _ => .bad) (fun _ _ => .bad) (fun c d _ h => .exc c d h) .bad := by
  rw [evF, e]
  simp only [hl, if_true]
  rw [cut_run]
theorem g_at {pg : Prog} {c : Nat} {d : CDef} (e : pg.clos[c]? = some d) (k : Nat) (caps as : List D) (h : HS) (hl : as.length = d.np) (hc : caps.length = d.nc) : evG pg (k + 1) c caps as h = (evS (evF pg k) (evG pg k) d.body (as.map some ++ (caps.map some ++ List.replicate (d.nl - d.np - d.nc) none)) h).el (fun _ h' => cutL false h .non h') (cutL false h) (fun _ _ => .bad) (fun _ _ => .bad) (fun c d _ h => .exc c d h) .bad := by
  rw [evG, e]
  simp only [hl, hc, and_self, if_true]
  rw [cut_run]
/-! what a call leaves -/
mutual
def noref : D → Bool
  | .tup xs => norefs xs
  | .lst xs => norefs xs
  | .scr xs => norefs xs
  | .ctp xs => norefs xs
  | .ref _ => false
  | _ => true
def norefs : List D → Bool
  | [] => true
  | d :: ds => noref d && norefs ds
end
mutual
theorem blw_of (n : Nat) : ∀ d, noref d = true → D.blw n d = true
  | .tup xs, h => by simpa [D.blw] using blws_of n xs (by simpa [noref] using h)
  | .lst xs, h => by simpa [D.blw] using blws_of n xs (by simpa [noref] using h)
  | .scr xs, h => by simpa [D.blw] using blws_of n xs (by simpa [noref] using h)
  | .ctp xs, h => by simpa [D.blw] using blws_of n xs (by simpa [noref] using h)
  | .ref _, h => by simp [noref] at h
  | .non, _ => rfl
  | .bl _, _ => rfl
  | .int _, _ => rfl
  | .str _, _ => rfl
  | .fn _ _, _ => rfl
  | .gfn _, _ => rfl
  | .ndf _, _ => rfl
theorem blws_of (n : Nat) : ∀ ds, norefs ds = true → D.blws n ds = true
  | [], _ => rfl
  | d :: ds, h => by
    have h : noref d = true ∧ norefs ds = true := by simpa [norefs] using h
    simp [D.blws, blw_of n d h.1, blws_of n ds h.2]
end
@[simp] theorem noref_non : noref .non = true := by simp [noref]
@[simp] theorem noref_bl (b : Bool) : noref (.bl b) = true := by simp [noref]
@[simp] theorem noref_int (i : Int) : noref (.int i) = true := by simp [noref]
@[simp] theorem noref_str (x : Str) : noref (.str x) = true := by simp [noref]
@[simp] theorem noref_tup (xs : List D) : noref (.tup xs) = norefs xs := by simp [noref]
@[simp] theorem noref_lst (xs : List D) : noref (.lst xs) = norefs xs := by simp [noref]
@[simp] theorem noref_ctp (xs : List D) : noref (.ctp xs) = norefs xs := by simp [noref]
@[simp] theorem norefs_nil : norefs [] = true := by simp [norefs]
@[simp] theorem norefs_cons (d : D) (ds : List D) : norefs (d :: ds) = (noref d && norefs ds) := by simp [norefs]
theorem norefs_all : ∀ ds : List D, norefs ds = ds.all noref
  | [] => rfl
  | d :: ds => by simp [norefs_all ds]
@[simp] theorem norefs_app (xs ys : List D) : norefs (xs ++ ys) = (norefs xs && norefs ys) := by simp [norefs_all]
theorem norefs_map {α : Type} (f : α → D) (xs : List α) (h : ∀ x, noref (f x) = true) : norefs (xs.map f) = true := by simp [norefs_all, h]
theorem safe_app (h j : HS) : Safe h (h ++ j) h.length := fun i o hi e => .inl (by rw [List.getElem?_append_left hi] at e; exact e)
theorem safe_set (h j : HS) (w : Nat) (u : DO) (hu : u.blw h.length = true) : Safe h (h.set w u ++ j) h.length := fun i o hi e => by
  rw [List.getElem?_append_left (by simpa using hi)] at e
  by_cases hw : w = i
  · subst hw
    rw [List.getElem?_set_self hi] at e
    cases e; exact .inr hu
  · rw [List.getElem?_set_ne hw] at e; exact .inl e
theorem cutAt_ok {h h' : HS} {m : Nat} {d : D} (h1 : h.length ≤ m) (h2 : Safe h h' m) (h3 : D.blw m d = true) : cutAt h h' m d = .ok d (h'.take m) := by
  unfold cutAt; rw [if_pos ⟨h1, h2, h3⟩]
theorem cutR_data (fz : Bool) (h : HS) (d : D) (h' : HS) (hd : noref d = true) : cutR fz h (.ok d h') = cutAt h h' h.length d := by
  cases d <;> first | rfl | (simp [noref] at hd; done)
/-- data handed back, new objects dropped -/
@[simp] theorem cut_app (fz : Bool) (h j : HS) (d : D) (hd : noref d = true) : cutL fz h d (h ++ j) = .ok d h := by
  unfold cutL
  rw [cutR_data fz h d _ hd, cutAt_ok (Nat.le_refl _) (safe_app h j) (blw_of _ _ hd)]; simp
@[simp] theorem cut_same (fz : Bool) (h : HS) (d : D) (hd : noref d = true) : cutL fz h d h = .ok d h := by
  have := cut_app fz h [] d hd
  simpa using this
theorem cut_set_app (fz : Bool) (h j : HS) (w : Nat) (u : DO) (d : D) (hd : noref d = true) (hu : u.blw h.length = true) : cutL fz h d (h.set w u ++ j) = .ok d (h.set w u) := by
  unfold cutL
  rw [cutR_data fz h d _ hd, cutAt_ok (Nat.le_refl _) (safe_set h j w u hu) (blw_of _ _ hd)]; simp
theorem cut_set (fz : Bool) (h : HS) (w : Nat) (u : DO) (d : D) (hd : noref d = true) (hu : u.blw h.length = true) : cutL fz h d (h.set w u) = .ok d (h.set w u) := by
  have := cut_set_app fz h [] w u d hd hu
  simpa using this
/-- a new list handed back, not changed any more -/
theorem cut_frz (h j : HS) (i : Nat) (xs : List D) (hi : h.length ≤ i) (e : (h ++ j)[i]? = some (.lst xs)) (hx : norefs xs = true) : cutL true h (.ref i) (h ++ j) = .ok (.lst xs) h := by
  unfold cutL
  unfold cutR
  simp only [show ¬ i < h.length by omega, if_false, e]
  rw [if_pos ⟨safe_app h j, blws_of _ _ hx⟩]; simp
@[simp] theorem cut_frz0 (h j : HS) (xs : List D) (hx : norefs xs = true) : cutL true h (.ref h.length) (h ++ .lst xs :: j) = .ok (.lst xs) h := cut_frz h _ _ xs (Nat.le_refl _) (by simp) hx
theorem cut_frz_set (h j : HS) (w : Nat) (u : DO) (hu : u.blw h.length = true) (i : Nat) (xs : List D) (hi : h.length ≤ i) (e : (h.set w u ++ j)[i]? = some (.lst xs)) (hx : norefs xs = true) : cutL true h (.ref i) (h.set w u ++ j) = .ok (.lst xs) (h.set w u) := by
  unfold cutL
  unfold cutR
  simp only [show ¬ i < h.length by omega, if_false, e]
  rw [if_pos ⟨safe_set h j w u hu, blws_of _ _ hx⟩]; simp
end VE
set_option Elab.async false
set_option linter.all false
set_option maxRecDepth 100000
set_option maxHeartbeats 0
/-! the program of law_k79_whole_rooms -/
namespace VE
open PySem
def gl_LETTERS : D := (.str "abcdefghijklmnopqrstuvwxyz")
def gl_MOST_IN_NAME : D := (.int 8)
def gl_WORDS : D := (.ctp [(.str "again"), (.str "at"), (.str "beat"), (.str "calm"), (.str "door"), (.str "ends"), (.str "first"), (.str "from"), (.str "go"), (.str "house"), (.str "in"), (.str "left"), (.str "long"), (.str "never"), (.str "none"), (.str "open"), (.str "post"), (.str "right"), (.str "second"), (.str "shut"), (.str "stand"), (.str "sweep"), (.str "to"), (.str "turns"), (.str "wall"), (.str "way"), (.str "wedge")])
def gl_MOST_STEP : D := (.int 9)
def gl_LEFT : D := (.str "left")
def gl_RIGHT : D := (.str "right")
def gl_TURNS : D := (.ctp [(.str "left"), (.str "right")])
def gl_MOST_PLACE : D := (.int 199)
def gl_MOST_LONG : D := (.int 99)
def gl_SHUT : D := (.str "shut")
def gl_OPEN : D := (.str "open")
def gl_STATES : D := (.ctp [(.str "shut"), (.str "open")])
def gl_MOST_LEAVES : D := (.int 7)
def gl_MOST_WALLS : D := (.int 8)
def f_law : Nat := 0
def f__law_turns : Nat := 1
def f__law_right : Nat := 2
def f__law_well : Nat := 3
def f__law_house : Nat := 4
def f__law_doors : Nat := 5
def f__law_stands : Nat := 6
def f__law_rooms : Nat := 7
def f_rooms_of : Nat := 8
def f__law_one : Nat := 9
def f__law_walk : Nat := 10
def f_walked_rooms : Nat := 11
def f_can_walk : Nat := 12
def f__law_words : Nat := 13
def f__law_dip : Nat := 14
def f__law_leaf : Nat := 15
def f__law_beam : Nat := 16
def f__law_names : Nat := 17
def f_check_house : Nat := 18
def f_check_doors_of : Nat := 19
def f_all_rooms : Nat := 20
def f_check_doored : Nat := 21
def f_rooms_walked : Nat := 22
def f_check_walking : Nat := 23
def f__law_round : Nat := 24
def f_is_house_form : Nat := 25
def f_wrong_doors : Nat := 26
def f_check_stand : Nat := 27
def f_check_room : Nat := 28
def f_open_doors : Nat := 29
def f_wrong_from_one : Nat := 30
def f_is_next_leaf : Nat := 31
def f_is_tuple_of : Nat := 32
def f_wrong_walls : Nat := 33
def f_leaf_names : Nat := 34
def f_wrong_for_all : Nat := 35
def f_check_stand_of : Nat := 36
def f_is_one_of : Nat := 37
def f_wrong_at : Nat := 38
def f_is_leaf_form : Nat := 39
def f_hinge_of : Nat := 40
def f_name_in : Nat := 41
def f_wrong_stand : Nat := 42
def f_is_place_number : Nat := 43
def f_is_name : Nat := 44
def f_is_number : Nat := 45
def f_is_heading_form : Nat := 46
def f_is_word : Nat := 47
def f_is_whole : Nat := 48
def f_is_door : Nat := 49
def f_is_above_last : Nat := 50
def f_is_wall_form : Nat := 51
def b_law : S := (.seq (.ret (.bi .all (.cons (.comp (.iseq (.callK f__law_turns (.cons (.var 0) .nil) .nil [] [0])) (.var 1) .nil (.callK f__law_right (.cons (.callK f__law_well (.cons (.var 0) (.cons (.var 1) .nil)) .nil [] [0, 1]) .nil) .nil [] [0]) [("k", 1)]) .nil))) .skip)
def b__law_turns : S := (.seq (.ret (.listRange (.cons (.bi .max (.cons (.cst (.int 2)) (.cons (.bi .min (.cons (.bi .len (.cons (.var 0) .nil)) (.cons (.cst (.int 3)) .nil))) .nil))) .nil))) .skip)
def b__law_right : S := (.seq (.fo (.var 1) (.irng (.cons (.cst (.int 6)) .nil)) (.seq (.asg (.var 2) (.callK f__law_house (.cons (.var 0) (.cons (.cst (.int 4)) .nil)) .nil [] [0, 1])) (.seq (.asg (.tup (.cons (.var 3) (.cons (.var 4) .nil))) (.tup (.cons (.callK f__law_doors (.cons (.var 0) (.cons (.var 2) .nil)) .nil [] [0, 1]) (.cons (.callK f__law_stands (.cons (.bi .len (.cons (.ix (.var 2) (.cst (.int 0))) .nil)) .nil) .nil [] [0]) .nil)))) (.seq (.asg (.var 5) (.bi .tuple (.cons (.callK f__law_rooms (.cons (.var 3) .nil) .nil [] [0]) .nil))) (.seq (.ite (.cmp .ne (.bi .repr (.cons (.lst (.cons (.callK f_rooms_of (.cons (.var 2) (.cons (.var 3) .nil)) .nil [] [0, 1]) (.cons (.callK f_rooms_of .nil (.cons (.var 3) (.cons (.var 2) .nil)) ["doors", "house"] [1, 0]) .nil))) .nil)) (.bi .repr (.cons (.lst (.cons (.var 5) (.cons (.var 5) .nil))) .nil))) (.seq (.ret (.cst (.bl false))) .skip) .skip) (.seq (.asg (.var 6) (.callK f__law_one (.cons (.var 0) (.cons (.var 4) .nil)) .nil [] [0, 1])) (.seq (.fo (.var 7) (.iseq (.var 5)) (.seq (.asg (.var 8) (.bi .tuple (.cons (.bi .sorted (.cons (.callK f__law_walk (.cons (.var 3) (.cons (.var 6) (.cons (.var 7) .nil))) .nil [] [0, 1, 2]) .nil)) .nil))) (.seq (.asg (.var 9) (.lstO (.cons (.callK f_walked_rooms (.cons (.var 2) (.cons (.var 6) (.cons (.var 3) (.cons (.var 7) .nil)))) .nil [] [0, 1, 2, 3]) .nil))) (.seq (.ex (.mt .append (.var 9) (.cons (.callK f_walked_rooms .nil (.cons (.var 7) (.cons (.var 3) (.cons (.var 6) (.cons (.var 2) .nil)))) ["room", "doors", "stand", "house"] [3, 2, 1, 0]) .nil))) (.seq (.ite (.cmp .ne (.bi .repr (.cons (.var 9) .nil)) (.bi .repr (.cons (.lst (.cons (.var 8) (.cons (.var 8) .nil))) .nil))) (.seq (.ret (.cst (.bl false))) .skip) .skip) (.seq (.asg (.var 10) (.callK f__law_one (.cons (.var 0) (.cons (.var 5) .nil)) .nil [] [0, 1])) (.seq (.asg (.var 9) (.lstO (.cons (.callK f_can_walk (.cons (.var 2) (.cons (.var 6) (.cons (.var 3) (.cons (.var 7) (.cons (.var 10) .nil))))) .nil [] [0, 1, 2, 3, 4]) .nil))) (.seq (.ex (.mt .append (.var 9) (.cons (.callK f_can_walk .nil (.cons (.var 10) (.cons (.var 7) (.cons (.var 3) (.cons (.var 6) (.cons (.var 2) .nil))))) ["room2", "room", "doors", "stand", "house"] [4, 3, 2, 1, 0]) .nil))) (.seq (.ite (.cmp .ne (.bi .repr (.cons (.var 9) .nil)) (.bi .repr (.cons (.bin .mul (.lst (.cons (.cmp .inn (.var 10) (.var 8)) .nil)) (.cst (.int 2))) .nil))) (.seq (.ret (.cst (.bl false))) .skip) .skip) (.seq (.asg (.var 11) (.bi .tuple (.cons (.comp (.iseq (.var 6)) (.var 12) .nil (.callK f__law_one (.cons (.var 0) (.cons (.lst (.cons (.var 12) (.cons (.cst (.str "open")) .nil))) .nil)) .nil [] [0, 1]) [("state", 12)]) .nil))) (.seq (.ite (.and (.cmp .inn (.var 10) (.var 8)) (.one (.cmp .isnt (.callK f_can_walk (.cons (.var 2) (.cons (.var 11) (.cons (.var 3) (.cons (.var 7) (.cons (.var 10) .nil))))) .nil [] [0, 1, 2, 3, 4]) (.cst (.bl true))))) (.seq (.ret (.cst (.bl false))) .skip) .skip) .skip))))))))))) .skip))))))) (.seq (.ret (.cst (.bl true))) .skip))
def b__law_well : S := (.seq (.asg (.var 2) (.ife (.cmp .lt (.var 1) (.bi .len (.cons (.var 0) .nil))) (.bi .int (.cons (.ix (.var 0) (.var 1)) .nil)) (.bin .add (.bin .mul (.cst (.int 8963)) (.var 1)) (.cst (.int 2003))))) (.seq (.asg (.var 3) (.bin .add (.cst (.int 23003)) (.bin .mul (.cst (.int 2203)) (.var 1)))) (.seq (.fo (.var 4) (.iseq (.bin .add (.sl (.var 0) .nil (.cst (.int 7))) (.lst (.cons (.var 2) .nil)))) (.seq (.asg (.var 3) (.bin .mod (.bi .int (.cons (.bin .add (.bin .add (.bin .mul (.var 3) (.cst (.int 33013))) (.bin .mod (.bi .int (.cons (.var 4) .nil)) (.cst (.int 2147480009)))) (.cst (.int 107))) .nil)) (.cst (.int 2147480009)))) .skip)) (.seq (.ret (.lstO (.cons (.ife (.or (.cmp .lt (.var 2) (.cst (.int 0))) (.one (.cmp .ge (.var 2) (.bin .pow (.cst (.int 10)) (.cst (.int 15)))))) (.bi .abs (.cons (.var 2) .nil)) (.cst (.int 0))) (.cons (.var 3) (.cons (.cst (.int 0)) .nil))))) .skip))))
def b__law_house : S := (.seq (.asg (.tup (.cons (.var 2) (.cons (.var 3) .nil))) (.tup (.cons (.lstO .nil) (.cons (.lstO .nil) .nil)))) (.seq (.fo (.var 4) (.iseq (.callK f__law_words (.cons (.var 0) (.cons (.bin .add (.cst (.int 1)) (.callK f__law_dip (.cons (.var 0) (.cons (.var 1) .nil)) .nil [] [0, 1])) .nil)) .nil [] [0, 1])) (.seq (.ex (.mt .append (.var 3) (.cons (.callK f__law_leaf (.cons (.var 0) (.cons (.var 4) (.cons (.var 2) .nil))) .nil [] [0, 1, 2]) .nil))) .skip)) (.seq (.asg (.var 5) (.dctL (.comp (.irng (.cons (.callK f__law_dip (.cons (.var 0) (.cons (.cst (.int 3)) .nil)) .nil [] [0, 1]) .nil)) (.var 6) .nil (.tup (.cons (.callK f__law_beam (.cons (.var 0) .nil) .nil [] [0]) (.cons (.cst (.bl true)) .nil))) [("each", 6)]))) (.seq (.ret (.tup (.cons (.bi .tuple (.cons (.var 3) .nil)) (.cons (.bi .tuple (.cons (.bi .sorted (.cons (.lsd (.var 5)) .nil)) .nil)) .nil)))) .skip))))
def b__law_doors : S := (.seq (.asg (.tup (.cons (.var 2) (.cons (.var 3) .nil))) (.tup (.cons (.tup (.cons (.cst (.str "attic")) (.cons (.cst (.str "hut")) (.cons (.cst (.str "yard")) (.cons (.cst (.str "shed")) .nil))))) (.cons (.lstO .nil) .nil)))) (.seq (.fo (.var 4) (.iseq (.callK f__law_names (.cons (.var 1) .nil) .nil [] [0])) (.seq (.asg (.var 5) (.callK f__law_dip (.cons (.var 0) (.cons (.cst (.int 4)) .nil)) .nil [] [0, 1])) (.seq (.asg (.var 6) (.bin .mod (.bi .int (.cons (.bin .add (.bin .add (.var 5) (.cst (.int 1))) (.callK f__law_dip (.cons (.var 0) (.cons (.cst (.int 3)) .nil)) .nil [] [0, 1])) .nil)) (.cst (.int 4)))) (.seq (.ex (.mt .append (.var 3) (.cons (.tup (.cons (.var 4) (.cons (.bi .min (.cons (.ix (.var 2) (.var 5)) (.cons (.ix (.var 2) (.var 6)) .nil))) (.cons (.bi .max (.cons (.ix (.var 2) (.var 5)) (.cons (.ix (.var 2) (.var 6)) .nil))) .nil)))) .nil))) .skip)))) (.seq (.ret (.bi .tuple (.cons (.var 3) .nil))) .skip)))
def b__law_stands : S := (.seq (.asg (.var 1) (.lst (.cons (.tup .nil) .nil))) (.seq (.fo (.var 2) (.irng (.cons (.var 0) .nil)) (.seq (.asg (.var 3) (.lst .nil)) (.seq (.fo (.var 4) (.iseq (.var 1)) (.seq (.asg (.var 3) (.bin .add (.var 3) (.lst (.cons (.bin .add (.var 4) (.tup (.cons (.cst (.str "open")) .nil))) (.cons (.bin .add (.var 4) (.tup (.cons (.cst (.str "shut")) .nil))) .nil))))) .skip)) (.seq (.asg (.var 1) (.var 3)) .skip)))) (.seq (.ret (.var 1)) .skip)))
def b__law_rooms : S := (.seq (.asg (.var 1) .dctO) (.seq (.fo (.tup (.cons (.var 2) (.cons (.var 3) (.cons (.var 4) .nil)))) (.iseq (.var 0)) (.seq (.dput (.var 1) (.var 3) (.cst (.bl true))) (.seq (.dput (.var 1) (.var 4) (.cst (.bl true))) .skip))) (.seq (.ret (.bi .sorted (.cons (.lsd (.var 1)) .nil))) .skip)))
def b_rooms_of : S := (.seq (.ex (.callK f_check_house (.cons (.var 0) .nil) .nil [] [0])) (.seq (.ex (.callK f_check_doors_of (.cons (.var 0) (.cons (.var 1) .nil)) .nil [] [0, 1])) (.seq (.ret (.bi .tuple (.cons (.callK f_all_rooms (.cons (.var 1) .nil) .nil [] [0]) .nil))) .skip)))
def b__law_one : S := (.seq (.ret (.ix (.var 1) (.callK f__law_dip (.cons (.var 0) (.cons (.bi .len (.cons (.var 1) .nil)) .nil)) .nil [] [0, 1]))) .skip)
def b__law_walk : S := (.seq (.asg (.tup (.cons (.var 3) (.cons (.var 4) .nil))) (.tup (.cons (.lstO (.cons (.var 2) .nil)) (.cons (.lstO (.cons (.var 2) .nil)) .nil)))) (.seq (.wh 1000 (.cmp .ne (.var 4) (.lst .nil)) (.seq (.asg (.var 5) (.mt .pop (.var 4) .nil)) (.seq (.fo (.tup (.cons (.tup (.cons (.var 6) (.cons (.var 7) (.cons (.var 8) .nil)))) (.cons (.var 9) .nil))) (.izip (.var 0) (.var 1)) (.seq (.ite (.and (.cmp .eq (.var 9) (.cst (.str "open"))) (.one (.cmp .inn (.var 5) (.tup (.cons (.var 7) (.cons (.var 8) .nil)))))) (.seq (.asg (.var 10) (.ife (.cmp .eq (.var 5) (.var 7)) (.var 8) (.var 7))) (.seq (.ite (.cmp .notin (.var 10) (.var 3)) (.seq (.ex (.mt .append (.var 3) (.cons (.var 10) .nil))) (.seq (.ex (.mt .append (.var 4) (.cons (.var 10) .nil))) .skip)) .skip) .skip)) .skip) .skip)) .skip))) (.seq (.ret (.var 3)) .skip)))
def b_walked_rooms : S := (.seq (.ex (.callK f_check_doored (.cons (.var 0) (.cons (.var 1) (.cons (.var 2) (.cons (.var 3) .nil)))) .nil [] [0, 1, 2, 3])) (.seq (.ret (.bi .tuple (.cons (.bi .sorted (.cons (.callK f_rooms_walked (.cons (.var 2) (.cons (.var 1) (.cons (.var 3) .nil))) .nil [] [0, 1, 2]) .nil)) .nil))) .skip))
def b_can_walk : S := (.seq (.ex (.callK f_check_walking (.cons (.var 0) (.cons (.var 1) (.cons (.var 2) (.cons (.var 3) (.cons (.var 4) .nil))))) .nil [] [0, 1, 2, 3, 4])) (.seq (.ret (.cmp .inn (.var 4) (.callK f_rooms_walked (.cons (.var 2) (.cons (.var 1) (.cons (.var 3) .nil))) .nil [] [0, 1, 2]))) .skip))
def b__law_words : S := (.seq (.asg (.tup (.cons (.var 2) (.cons (.var 3) .nil))) (.tup (.cons (.cst (.str "abcdefghijklmnopqrstuvwxyz")) (.cons (.lstO .nil) .nil)))) (.seq (.asg (.var 4) (.lst (.cons (.cst (.str "again")) (.cons (.cst (.str "at")) (.cons (.cst (.str "beat")) (.cons (.cst (.str "calm")) (.cons (.cst (.str "door")) (.cons (.cst (.str "ends")) (.cons (.cst (.str "first")) (.cons (.cst (.str "from")) (.cons (.cst (.str "go")) (.cons (.cst (.str "house")) (.cons (.cst (.str "in")) (.cons (.cst (.str "left")) (.cons (.cst (.str "long")) .nil))))))))))))))) (.seq (.asg (.var 4) (.bin .add (.var 4) (.lst (.cons (.cst (.str "never")) (.cons (.cst (.str "none")) (.cons (.cst (.str "open")) (.cons (.cst (.str "post")) (.cons (.cst (.str "right")) (.cons (.cst (.str "second")) (.cons (.cst (.str "shut")) (.cons (.cst (.str "stand")) (.cons (.cst (.str "sweep")) (.cons (.cst (.str "to")) (.cons (.cst (.str "turns")) .nil)))))))))))))) (.seq (.asg (.var 4) (.bin .add (.var 4) (.lst (.cons (.cst (.str "wall")) (.cons (.cst (.str "way")) (.cons (.cst (.str "wedge")) .nil)))))) (.seq (.fo (.var 5) (.irng (.cons (.var 1) .nil)) (.seq (.asg (.var 6) (.mt .join (.cst (.str "")) (.cons (.comp (.irng (.cons (.bin .add (.cst (.int 1)) (.callK f__law_dip (.cons (.var 0) (.cons (.callK f__law_one (.cons (.var 0) (.cons (.lst (.cons (.cst (.int 2)) (.cons (.cst (.int 3)) (.cons (.cst (.int 8)) .nil)))) .nil)) .nil [] [0, 1]) .nil)) .nil [] [0, 1])) .nil)) (.var 7) .nil (.callK f__law_one (.cons (.var 0) (.cons (.var 2) .nil)) .nil [] [0, 1]) [("turn", 7)]) .nil))) (.seq (.asg (.var 8) (.bin .add (.bin .add (.lst (.cons (.var 6) .nil)) (.comp (.iseq (.var 2)) (.var 9) .nil (.bin .add (.bin .add (.sl (.var 6) .nil (.cst (.int 6))) (.var 9)) (.cst (.str "q"))) [("sign", 9)])) (.comp (.iseq (.var 2)) (.var 9) .nil (.bin .add (.bin .add (.sl (.var 6) .nil (.cst (.int 6))) (.var 9)) (.cst (.str "z"))) [("sign", 9)]))) (.seq (.ex (.mt .append (.var 3) (.cons (.ix (.comp (.iseq (.var 8)) (.var 10) (.cmp .notin (.var 10) (.bin .add (.var 3) (.var 4))) (.var 10) [("each", 10)]) (.cst (.int 0))) .nil))) .skip)))) (.seq (.ret (.bi .tuple (.cons (.bi .sorted (.cons (.var 3) .nil)) .nil))) .skip))))))
def b__law_dip : S := (.seq (.ite (.cmp .gt (.ix (.var 0) (.cst (.int 0))) (.cst (.int 0))) (.seq (.asg (.tup (.cons (.ix (.var 0) (.cst (.int 0))) (.cons (.var 2) .nil))) (.bi .divmod (.cons (.ix (.var 0) (.cst (.int 0))) (.cons (.var 1) .nil)))) (.seq (.ret (.var 2)) .skip)) .skip) (.seq (.asg (.ix (.var 0) (.cst (.int 2))) (.bin .add (.ix (.var 0) (.cst (.int 2))) (.cst (.int 1)))) (.seq (.asg (.ix (.var 0) (.cst (.int 1))) (.bin .mod (.bi .int (.cons (.bin .add (.bin .add (.bin .mul (.ix (.var 0) (.cst (.int 1))) (.cst (.int 48271))) (.bin .mul (.cst (.int 7919)) (.ix (.var 0) (.cst (.int 2))))) (.cst (.int 113))) .nil)) (.cst (.int 2147480009)))) (.seq (.ret (.bin .mod (.bi .int (.cons (.bin .fdiv (.ix (.var 0) (.cst (.int 1))) (.cst (.int 163))) .nil)) (.var 1))) .skip))))
def b__law_leaf : S := (.seq (.asg (.tup (.cons (.var 3) (.cons (.var 4) .nil))) (.tup (.cons (.callK f__law_dip (.cons (.var 0) (.cons (.cst (.int 24)) .nil)) .nil [] [0, 1]) (.cons (.callK f__law_dip (.cons (.var 0) (.cons (.cst (.int 24)) .nil)) .nil [] [0, 1]) .nil)))) (.seq (.wh 1000 (.cmp .inn (.tup (.cons (.var 3) (.cons (.var 4) .nil))) (.var 2)) (.seq (.asg (.tup (.cons (.var 3) (.cons (.var 4) .nil))) (.tup (.cons (.bin .mod (.bi .int (.cons (.bin .add (.bin .add (.var 3) (.cst (.int 1))) (.bin .fdiv (.var 4) (.cst (.int 23)))) .nil)) (.cst (.int 24))) (.cons (.bin .mod (.bi .int (.cons (.bin .add (.var 4) (.cst (.int 1))) .nil)) (.cst (.int 24))) .nil)))) .skip)) (.seq (.ex (.mt .append (.var 2) (.cons (.tup (.cons (.var 3) (.cons (.var 4) .nil))) .nil))) (.seq (.asg (.var 5) (.callK f__law_one (.cons (.var 0) (.cons (.callK f__law_round .nil .nil [] []) .nil)) .nil [] [0, 1])) (.seq (.asg (.var 6) (.callK f__law_one (.cons (.var 0) (.cons (.comp (.iseq (.callK f__law_round .nil .nil [] [])) (.var 7) (.cmp .ne (.var 7) (.var 5)) (.var 7) [("each", 7)]) .nil)) .nil [] [0, 1])) (.seq (.asg (.var 8) (.bin .add (.cst (.int 1)) (.callK f__law_dip (.cons (.var 0) (.cons (.callK f__law_one (.cons (.var 0) (.cons (.lst (.cons (.cst (.int 6)) (.cons (.cst (.int 12)) (.cons (.cst (.int 20)) .nil)))) .nil)) .nil [] [0, 1]) .nil)) .nil [] [0, 1]))) (.seq (.ret (.tup (.cons (.var 1) (.cons (.var 3) (.cons (.var 4) (.cons (.var 8) (.cons (.var 5) (.cons (.callK f__law_one (.cons (.var 0) (.cons (.lst (.cons (.cst (.str "left")) (.cons (.cst (.str "right")) .nil))) .nil)) .nil [] [0, 1]) (.cons (.var 6) .nil))))))))) .skip)))))))
def b__law_beam : S := (.seq (.asg (.var 1) (.tup (.cons (.callK f__law_dip (.cons (.var 0) (.cons (.cst (.int 28)) .nil)) .nil [] [0, 1]) (.cons (.callK f__law_dip (.cons (.var 0) (.cons (.cst (.int 28)) .nil)) .nil [] [0, 1]) .nil)))) (.seq (.asg (.var 2) (.ife (.cmp .gt (.callK f__law_dip (.cons (.var 0) (.cons (.cst (.int 4)) .nil)) .nil [] [0, 1]) (.cst (.int 0))) (.tup (.cons (.callK f__law_dip (.cons (.var 0) (.cons (.cst (.int 28)) .nil)) .nil [] [0, 1]) (.cons (.callK f__law_dip (.cons (.var 0) (.cons (.cst (.int 28)) .nil)) .nil [] [0, 1]) .nil))) (.var 1))) (.seq (.ret (.bin .add (.bi .min (.cons (.var 1) (.cons (.var 2) .nil))) (.bi .max (.cons (.var 1) (.cons (.var 2) .nil))))) .skip)))
def b__law_names : S := (.seq (.ret (.bi .tupleP (.cons (.comp (.iseq (.ix (.var 0) (.cst (.int 0)))) (.var 1) .nil (.ix (.var 1) (.cst (.int 0))) [("leaf", 1)]) .nil))) .skip)
def b_check_house : S := (.seq (.ite (.not (.callK f_is_house_form (.cons (.var 0) .nil) .nil [] [0])) (.seq .never .skip) .skip) .skip)
def b_check_doors_of : S := (.seq (.fo (.var 2) (.iseq (.callK f_wrong_doors (.cons (.var 0) (.cons (.var 1) .nil)) .nil [] [0, 1])) (.seq .never .skip)) .skip)
def b_all_rooms : S := (.seq (.ret (.sortedSet (.comp2 (.iseq (.var 0)) (.tup (.cons (.var 1) (.cons (.var 2) (.cons (.var 3) .nil)))) (.iseq (.tup (.cons (.var 2) (.cons (.var 3) .nil)))) (.var 4) (.var 4) [("_", 1), ("one", 2), ("two", 3), ("room", 4)] [4]))) .skip)
def b_check_doored : S := (.seq (.ex (.callK f_check_stand (.cons (.var 0) (.cons (.var 1) .nil)) .nil [] [0, 1])) (.seq (.ex (.callK f_check_doors_of (.cons (.var 0) (.cons (.var 2) .nil)) .nil [] [0, 1])) (.seq (.ex (.callK f_check_room (.cons (.var 2) (.cons (.var 3) .nil)) .nil [] [0, 1])) .skip)))
def b_rooms_walked : S := (.seq (.asg (.tup (.cons (.var 3) (.cons (.var 4) (.cons (.var 5) .nil)))) (.tup (.cons (.callK f_open_doors (.cons (.var 0) (.cons (.var 1) .nil)) .nil [] [0, 1]) (.cons (.lstO (.cons (.var 2) .nil)) (.cons (.cst (.int 0)) .nil))))) (.seq (.wh 1000 (.cmp .lt (.var 5) (.bi .len (.cons (.var 4) .nil))) (.seq (.fo (.tup (.cons (.var 6) (.cons (.var 7) (.cons (.var 8) .nil)))) (.iseq (.var 3)) (.seq (.fo (.tup (.cons (.var 9) (.cons (.var 10) .nil))) (.iseq (.tup (.cons (.tup (.cons (.var 7) (.cons (.var 8) .nil))) (.cons (.tup (.cons (.var 8) (.cons (.var 7) .nil))) .nil)))) (.seq (.ite (.and (.cmp .eq (.var 9) (.ix (.var 4) (.var 5))) (.one (.cmp .notin (.var 10) (.var 4)))) (.seq (.ex (.mt .append (.var 4) (.cons (.var 10) .nil))) .skip) .skip) .skip)) .skip)) (.seq (.aug 5 .add (.cst (.int 1))) .skip))) (.seq (.ret (.var 4)) .skip)))
def b_check_walking : S := (.seq (.ex (.callK f_check_doored (.cons (.var 0) (.cons (.var 1) (.cons (.var 2) (.cons (.var 3) .nil)))) .nil [] [0, 1, 2, 3])) (.seq (.ex (.callK f_check_room (.cons (.var 2) (.cons (.var 4) .nil)) .nil [] [0, 1])) .skip))
def b__law_round : S := (.seq (.asg (.var 0) (.lst (.cons (.tup (.cons (.cst (.int 1)) (.cons (.cst (.int 0)) .nil))) (.cons (.tup (.cons (.cst (.int 4)) (.cons (.cst (.int 3)) .nil))) (.cons (.tup (.cons (.cst (.int 3)) (.cons (.cst (.int 4)) .nil))) (.cons (.tup (.cons (.cst (.int 0)) (.cons (.cst (.int 1)) .nil))) (.cons (.tup (.cons (.bin .sub (.cst (.int 0)) (.cst (.int 3))) (.cons (.cst (.int 4)) .nil))) (.cons (.tup (.cons (.bin .sub (.cst (.int 0)) (.cst (.int 4))) (.cons (.cst (.int 3)) .nil))) (.cons (.tup (.cons (.bin .sub (.cst (.int 0)) (.cst (.int 1))) (.cons (.cst (.int 0)) .nil))) (.cons (.tup (.cons (.bin .sub (.cst (.int 0)) (.cst (.int 4))) (.cons (.bin .sub (.cst (.int 0)) (.cst (.int 3))) .nil))) .nil)))))))))) (.seq (.ret (.bin .add (.var 0) (.lst (.cons (.tup (.cons (.bin .sub (.cst (.int 0)) (.cst (.int 3))) (.cons (.bin .sub (.cst (.int 0)) (.cst (.int 4))) .nil))) (.cons (.tup (.cons (.cst (.int 0)) (.cons (.bin .sub (.cst (.int 0)) (.cst (.int 1))) .nil))) (.cons (.tup (.cons (.cst (.int 3)) (.cons (.bin .sub (.cst (.int 0)) (.cst (.int 4))) .nil))) (.cons (.tup (.cons (.cst (.int 4)) (.cons (.bin .sub (.cst (.int 0)) (.cst (.int 3))) .nil))) .nil))))))) .skip))
def b_is_house_form : S := (.seq (.ite (.or (.not (.callK f_is_tuple_of (.cons (.var 0) (.cons (.cst (.int 2)) .nil)) .nil [] [0, 1])) (.one (.cmp .ne (.callF f_wrong_from_one (.cons (.ix (.var 0) (.cst (.int 0))) (.cons (.gl "MOST_LEAVES" gl_MOST_LEAVES) (.cons (.gfn f_is_next_leaf) .nil)))) (.lst .nil)))) (.seq (.ret (.cst (.bl false))) .skip) .skip) (.seq (.ret (.cmp .eq (.callK f_wrong_walls (.cons (.ix (.var 0) (.cst (.int 1))) .nil) .nil [] [0]) (.lst .nil))) .skip))
def b_wrong_doors : S := (.seq (.asg (.var 2) (.callK f_leaf_names (.cons (.var 0) .nil) .nil [] [0])) (.seq (.ndf 3 0) (.seq (.ret (.callF f_wrong_for_all (.cons (.var 1) (.cons (.bi .len (.cons (.var 2) .nil)) (.cons (.ndv 3 0 [2]) .nil))))) .skip)))
def b_check_stand : S := (.seq (.ex (.callK f_check_house (.cons (.var 0) .nil) .nil [] [0])) (.seq (.ex (.callK f_check_stand_of (.cons (.var 0) (.cons (.var 1) .nil)) .nil [] [0, 1])) .skip))
def b_check_room : S := (.seq (.ite (.not (.callK f_is_one_of (.cons (.var 1) (.cons (.callK f_all_rooms (.cons (.var 0) .nil) .nil [] [0]) .nil)) .nil [] [0, 1])) (.seq .never .skip) .skip) .skip)
def b_open_doors : S := (.seq (.ret (.comp (.izip (.var 0) (.var 1)) (.tup (.cons (.var 2) (.cons (.var 3) .nil))) (.cmp .eq (.var 3) (.gl "OPEN" gl_OPEN)) (.var 2) [("door", 2), ("state", 3)])) .skip)
def b_wrong_from_one : S := (.seq (.ret (.ife (.and (.isT .isTup (.var 0)) (.one (.cmp .eq (.var 0) (.tup .nil)))) (.lst (.cons (.cst .non) .nil)) (.callF f_wrong_at (.cons (.var 0) (.cons (.var 1) (.cons (.fnv 2) .nil)))))) .skip)
def b_is_next_leaf : S := (.seq (.ite (.or (.not (.callK f_is_leaf_form (.cons (.var 0) .nil) .nil [] [0])) (.one (.and (.cmp .ne (.var 1) (.tup .nil)) (.one (.cmp .ge (.ix (.ix (.var 1) (.neg (.cst (.int 1)))) (.cst (.int 0))) (.ix (.var 0) (.cst (.int 0)))))))) (.seq (.ret (.cst (.bl false))) .skip) .skip) (.seq (.ret (.cmp .notin (.callK f_hinge_of (.cons (.var 0) .nil) .nil [] [0]) (.comp (.iseq (.var 1)) (.var 2) .nil (.callK f_hinge_of (.cons (.var 2) .nil) .nil [] [0]) [("leaf", 2)]))) .skip))
def b_is_tuple_of : S := (.seq (.ret (.and (.isT .isTup (.var 0)) (.one (.cmp .eq (.bi .len (.cons (.var 0) .nil)) (.var 1))))) .skip)
def b_wrong_walls : S := (.seq (.ret (.callF f_wrong_at (.cons (.var 0) (.cons (.gl "MOST_WALLS" gl_MOST_WALLS) (.cons (.lam 1 []) .nil))))) .skip)
def b_leaf_names : S := (.seq (.ret (.bi .tupleP (.cons (.comp (.iseq (.ix (.var 0) (.cst (.int 0)))) (.var 1) .nil (.callK f_name_in (.cons (.var 1) .nil) .nil [] [0]) [("leaf", 1)]) .nil))) .skip)
def b_wrong_for_all : S := (.seq (.asg (.var 3) (.callF f_wrong_at (.cons (.var 0) (.cons (.cst .non) (.cons (.fnv 2) .nil))))) (.seq (.ite (.and (.cmp .eq (.var 3) (.lst .nil)) (.one (.cmp .ne (.bi .len (.cons (.var 0) .nil)) (.var 1)))) (.seq (.ret (.lst (.cons (.cst .non) .nil))) .skip) .skip) (.seq (.ret (.var 3)) .skip)))
def b_check_stand_of : S := (.seq (.fo (.var 2) (.iseq (.callK f_wrong_stand (.cons (.var 0) (.cons (.var 1) .nil)) .nil [] [0, 1])) (.seq .never .skip)) .skip)
def b_is_one_of : S := (.seq (.ret (.and (.isT .isStr (.var 0)) (.one (.cmp .inn (.var 0) (.var 1))))) .skip)
def b_wrong_at : S := (.seq (.ite (.not (.isT .isTup (.var 0))) (.seq (.ret (.lst (.cons (.cst .non) .nil))) .skip) .skip) (.seq (.fo (.tup (.cons (.var 3) (.cons (.var 4) .nil))) (.ienum (.var 0)) (.seq (.ite (.or (.cmp .eq (.var 3) (.var 1)) (.one (.not (.callV 2 (.cons (.var 4) (.cons (.sl (.var 0) .nil (.var 3)) .nil)))))) (.seq (.ret (.lst (.cons (.var 3) .nil))) .skip) .skip) .skip)) (.seq (.ret (.lst .nil)) .skip)))
def b_is_leaf_form : S := (.seq (.ite (.or (.not (.callK f_is_tuple_of (.cons (.var 0) (.cons (.cst (.int 7)) .nil)) .nil [] [0, 1])) (.or (.not (.callK f_is_name (.cons (.ix (.var 0) (.cst (.int 0))) .nil) .nil [] [0])) (.one (.not (.bi .all (.cons (.comp (.iseq (.sl (.var 0) (.cst (.int 1)) (.cst (.int 3)))) (.var 1) .nil (.callK f_is_place_number (.cons (.var 1) .nil) .nil [] [0]) [("each", 1)]) .nil)))))) (.seq (.ret (.cst (.bl false))) .skip) .skip) (.seq (.ite (.or (.not (.callK f_is_number (.cons (.ix (.var 0) (.cst (.int 3))) (.cons (.cst (.int 1)) (.cons (.gl "MOST_LONG" gl_MOST_LONG) .nil))) .nil [] [0, 1, 2])) (.one (.not (.callK f_is_one_of (.cons (.ix (.var 0) (.cst (.int 5))) (.cons (.gl "TURNS" gl_TURNS) .nil)) .nil [] [0, 1])))) (.seq (.ret (.cst (.bl false))) .skip) .skip) (.seq (.ret (.and (.callK f_is_heading_form (.cons (.ix (.var 0) (.cst (.int 4))) .nil) .nil [] [0]) (.and (.callK f_is_heading_form (.cons (.ix (.var 0) (.cst (.int 6))) .nil) .nil [] [0]) (.one (.cmp .ne (.ix (.var 0) (.cst (.int 4))) (.ix (.var 0) (.cst (.int 6)))))))) .skip)))
def b_hinge_of : S := (.seq (.ret (.sl (.var 0) (.cst (.int 1)) (.cst (.int 3)))) .skip)
def b_name_in : S := (.seq (.ret (.ix (.var 0) (.cst (.int 0)))) .skip)
def b_wrong_stand : S := (.seq (.ret (.callF f_wrong_for_all (.cons (.var 1) (.cons (.bi .len (.cons (.ix (.var 0) (.cst (.int 0))) .nil)) (.cons (.lam 2 []) .nil))))) .skip)
def b_is_place_number : S := (.seq (.ret (.callK f_is_number (.cons (.var 0) (.cons (.cst (.int 0)) (.cons (.gl "MOST_PLACE" gl_MOST_PLACE) .nil))) .nil [] [0, 1, 2])) .skip)
def b_is_name : S := (.seq (.ret (.and (.callK f_is_word (.cons (.var 0) .nil) .nil [] [0]) (.and (.cmp .le (.bi .len (.cons (.var 0) .nil)) (.gl "MOST_IN_NAME" gl_MOST_IN_NAME)) (.one (.cmp .notin (.var 0) (.gl "WORDS" gl_WORDS)))))) .skip)
def b_is_number : S := (.seq (.ite (.or (.not (.callK f_is_whole (.cons (.var 0) .nil) .nil [] [0])) (.one (.and (.cmp .notN (.var 1) (.cst .non)) (.one (.cmp .lt (.var 0) (.var 1)))))) (.seq (.ret (.cst (.bl false))) .skip) .skip) (.seq (.ret (.or (.cmp .isN (.var 2) (.cst .non)) (.one (.cmp .le (.var 0) (.var 2))))) .skip))
def b_is_heading_form : S := (.seq (.ite (.or (.not (.callK f_is_tuple_of (.cons (.var 0) (.cons (.cst (.int 2)) .nil)) .nil [] [0, 1])) (.one (.not (.bi .all (.cons (.comp (.iseq (.var 0)) (.var 1) .nil (.callK f_is_number (.cons (.var 1) (.cons (.bin .sub (.cst (.int 0)) (.gl "MOST_STEP" gl_MOST_STEP)) (.cons (.gl "MOST_STEP" gl_MOST_STEP) .nil))) .nil [] [0, 1, 2]) [("each", 1)]) .nil))))) (.seq (.ret (.cst (.bl false))) .skip) .skip) (.seq (.ret (.cmp .eq (.bi .gcd (.cons (.ix (.var 0) (.cst (.int 0))) (.cons (.ix (.var 0) (.cst (.int 1))) .nil))) (.cst (.int 1)))) .skip))
def b_is_word : S := (.seq (.ret (.and (.isT .isStr (.var 0)) (.and (.cmp .ne (.var 0) (.cst (.str ""))) (.one (.bi .all (.cons (.comp (.iseq (.var 0)) (.var 1) .nil (.cmp .inn (.var 1) (.gl "LETTERS" gl_LETTERS)) [("letter", 1)]) .nil)))))) .skip)
def b_is_whole : S := (.seq (.ret (.and (.isT .isInt (.var 0)) (.one (.not (.isT .isBool (.var 0)))))) .skip)
def b_is_door : S := (.seq (.ite (.or (.not (.callK f_is_tuple_of (.cons (.var 0) (.cons (.cst (.int 3)) .nil)) .nil [] [0, 1])) (.one (.not (.bi .all (.cons (.comp (.iseq (.var 0)) (.var 1) .nil (.callK f_is_name (.cons (.var 1) .nil) .nil [] [0]) [("each", 1)]) .nil))))) (.seq (.ret (.cst (.bl false))) .skip) .skip) (.seq (.ret (.cmp .lt (.ix (.var 0) (.cst (.int 1))) (.ix (.var 0) (.cst (.int 2))))) .skip))
def b_is_above_last : S := (.seq (.ret (.or (.cmp .eq (.var 1) (.tup .nil)) (.one (.cmp .lt (.ix (.var 1) (.neg (.cst (.int 1)))) (.var 0))))) .skip)
def b_is_wall_form : S := (.seq (.ite (.or (.not (.callK f_is_tuple_of (.cons (.var 0) (.cons (.cst (.int 4)) .nil)) .nil [] [0, 1])) (.one (.not (.bi .all (.cons (.comp (.iseq (.var 0)) (.var 1) .nil (.callK f_is_place_number (.cons (.var 1) .nil) .nil [] [0]) [("each", 1)]) .nil))))) (.seq (.ret (.cst (.bl false))) .skip) .skip) (.seq (.ret (.cmp .le (.sl (.var 0) .nil (.cst (.int 2))) (.sl (.var 0) (.cst (.int 2)) .nil))) .skip))
def cb_0 : S := (.seq (.ret (.and (.callK f_is_door (.cons (.var 0) .nil) .nil [] [0]) (.one (.or (.cmp .ge (.bi .len (.cons (.var 1) .nil)) (.bi .len (.cons (.var 2) .nil))) (.one (.callK f_is_one_of (.cons (.ix (.var 0) (.cst (.int 0))) (.cons (.sl (.var 2) (.bi .len (.cons (.var 1) .nil)) (.bin .add (.bi .len (.cons (.var 1) .nil)) (.cst (.int 1)))) .nil)) .nil [] [0, 1])))))) .skip)
def cb_1 : S := (.ret (.and (.callK f_is_wall_form (.cons (.var 0) .nil) .nil [] [0]) (.one (.callK f_is_above_last (.cons (.var 0) (.cons (.var 1) .nil)) .nil [] [0, 1]))))
def cb_2 : S := (.ret (.callK f_is_one_of (.cons (.var 0) (.cons (.gl "STATES" gl_STATES) .nil)) .nil [] [0, 1]))
def pgF0 : List FDef := [⟨1, 2, true, b_law⟩, ⟨1, 1, true, b__law_turns⟩, ⟨1, 13, true, b__law_right⟩, ⟨2, 5, false, b__law_well⟩, ⟨2, 7, true, b__law_house⟩, ⟨2, 7, true, b__law_doors⟩, ⟨1, 5, true, b__law_stands⟩, ⟨1, 5, true, b__law_rooms⟩, ⟨2, 2, true, b_rooms_of⟩, ⟨2, 2, true, b__law_one⟩, ⟨3, 11, true, b__law_walk⟩, ⟨4, 4, true, b_walked_rooms⟩, ⟨5, 5, true, b_can_walk⟩, ⟨2, 11, true, b__law_words⟩, ⟨2, 3, true, b__law_dip⟩, ⟨3, 9, true, b__law_leaf⟩, ⟨1, 3, true, b__law_beam⟩, ⟨1, 2, true, b__law_names⟩, ⟨1, 1, true, b_check_house⟩, ⟨2, 3, true, b_check_doors_of⟩]
def pgF1 : List FDef := [⟨1, 5, true, b_all_rooms⟩, ⟨4, 4, true, b_check_doored⟩, ⟨3, 11, true, b_rooms_walked⟩, ⟨5, 5, true, b_check_walking⟩, ⟨0, 1, true, b__law_round⟩, ⟨1, 1, true, b_is_house_form⟩, ⟨2, 4, true, b_wrong_doors⟩, ⟨2, 2, true, b_check_stand⟩, ⟨2, 2, true, b_check_room⟩, ⟨2, 4, true, b_open_doors⟩, ⟨3, 3, true, b_wrong_from_one⟩, ⟨2, 3, true, b_is_next_leaf⟩, ⟨2, 2, true, b_is_tuple_of⟩, ⟨1, 1, true, b_wrong_walls⟩, ⟨1, 2, true, b_leaf_names⟩, ⟨3, 4, true, b_wrong_for_all⟩, ⟨2, 3, true, b_check_stand_of⟩, ⟨2, 2, true, b_is_one_of⟩, ⟨3, 5, true, b_wrong_at⟩, ⟨1, 2, true, b_is_leaf_form⟩]
def pgF2 : List FDef := [⟨1, 1, true, b_hinge_of⟩, ⟨1, 1, true, b_name_in⟩, ⟨2, 2, true, b_wrong_stand⟩, ⟨1, 1, true, b_is_place_number⟩, ⟨1, 1, true, b_is_name⟩, ⟨3, 3, true, b_is_number⟩, ⟨1, 2, true, b_is_heading_form⟩, ⟨1, 2, true, b_is_word⟩, ⟨1, 1, true, b_is_whole⟩, ⟨1, 2, true, b_is_door⟩, ⟨2, 2, true, b_is_above_last⟩, ⟨1, 2, true, b_is_wall_form⟩]
def pg : Prog := ⟨pgF0 ++ pgF1 ++ pgF2, [⟨2, 1, 3, cb_0⟩, ⟨2, 0, 2, cb_1⟩, ⟨2, 0, 2, cb_2⟩]⟩
theorem u_law (k : Nat) (a0 : D) (h : HS) : evF pg (k + 1) f_law [a0] h = (evS (evF pg k) (evG pg k) b_law [some a0, none] h).el (fun _ h' => cutL true h .non h') (cutL true h) (fun _ _ => .bad) (fun _ _ => .bad) (fun c d _ h => .exc c d h) .bad := u_at (pg := pg) (f := f_law) (d := ⟨1, 2, true, b_law⟩) rfl k [a0] h rfl
theorem u__law_turns (k : Nat) (a0 : D) (h : HS) : evF pg (k + 1) f__law_turns [a0] h = (evS (evF pg k) (evG pg k) b__law_turns [some a0] h).el (fun _ h' => cutL true h .non h') (cutL true h) (fun _ _ => .bad) (fun _ _ => .bad) (fun c d _ h => .exc c d h) .bad := u_at (pg := pg) (f := f__law_turns) (d := ⟨1, 1, true, b__law_turns⟩) rfl k [a0] h rfl
theorem u__law_right (k : Nat) (a0 : D) (h : HS) : evF pg (k + 1) f__law_right [a0] h = (evS (evF pg k) (evG pg k) b__law_right [some a0, none, none, none, none, none, none, none, none, none, none, none, none] h).el (fun _ h' => cutL true h .non h') (cutL true h) (fun _ _ => .bad) (fun _ _ => .bad) (fun c d _ h => .exc c d h) .bad := u_at (pg := pg) (f := f__law_right) (d := ⟨1, 13, true, b__law_right⟩) rfl k [a0] h rfl
theorem u__law_well (k : Nat) (a0 : D) (a1 : D) (h : HS) : evF pg (k + 1) f__law_well [a0, a1] h = (evS (evF pg k) (evG pg k) b__law_well [some a0, some a1, none, none, none] h).el (fun _ h' => cutL false h .non h') (cutL false h) (fun _ _ => .bad) (fun _ _ => .bad) (fun c d _ h => .exc c d h) .bad := u_at (pg := pg) (f := f__law_well) (d := ⟨2, 5, false, b__law_well⟩) rfl k [a0, a1] h rfl
theorem u__law_house (k : Nat) (a0 : D) (a1 : D) (h : HS) : evF pg (k + 1) f__law_house [a0, a1] h = (evS (evF pg k) (evG pg k) b__law_house [some a0, some a1, none, none, none, none, none] h).el (fun _ h' => cutL true h .non h') (cutL true h) (fun _ _ => .bad) (fun _ _ => .bad) (fun c d _ h => .exc c d h) .bad := u_at (pg := pg) (f := f__law_house) (d := ⟨2, 7, true, b__law_house⟩) rfl k [a0, a1] h rfl
theorem u__law_doors (k : Nat) (a0 : D) (a1 : D) (h : HS) : evF pg (k + 1) f__law_doors [a0, a1] h = (evS (evF pg k) (evG pg k) b__law_doors [some a0, some a1, none, none, none, none, none] h).el (fun _ h' => cutL true h .non h') (cutL true h) (fun _ _ => .bad) (fun _ _ => .bad) (fun c d _ h => .exc c d h) .bad := u_at (pg := pg) (f := f__law_doors) (d := ⟨2, 7, true, b__law_doors⟩) rfl k [a0, a1] h rfl
theorem u__law_stands (k : Nat) (a0 : D) (h : HS) : evF pg (k + 1) f__law_stands [a0] h = (evS (evF pg k) (evG pg k) b__law_stands [some a0, none, none, none, none] h).el (fun _ h' => cutL true h .non h') (cutL true h) (fun _ _ => .bad) (fun _ _ => .bad) (fun c d _ h => .exc c d h) .bad := u_at (pg := pg) (f := f__law_stands) (d := ⟨1, 5, true, b__law_stands⟩) rfl k [a0] h rfl
theorem u__law_rooms (k : Nat) (a0 : D) (h : HS) : evF pg (k + 1) f__law_rooms [a0] h = (evS (evF pg k) (evG pg k) b__law_rooms [some a0, none, none, none, none] h).el (fun _ h' => cutL true h .non h') (cutL true h) (fun _ _ => .bad) (fun _ _ => .bad) (fun c d _ h => .exc c d h) .bad := u_at (pg := pg) (f := f__law_rooms) (d := ⟨1, 5, true, b__law_rooms⟩) rfl k [a0] h rfl
theorem u_rooms_of (k : Nat) (a0 : D) (a1 : D) (h : HS) : evF pg (k + 1) f_rooms_of [a0, a1] h = (evS (evF pg k) (evG pg k) b_rooms_of [some a0, some a1] h).el (fun _ h' => cutL true h .non h') (cutL true h) (fun _ _ => .bad) (fun _ _ => .bad) (fun c d _ h => .exc c d h) .bad := u_at (pg := pg) (f := f_rooms_of) (d := ⟨2, 2, true, b_rooms_of⟩) rfl k [a0, a1] h rfl
theorem u__law_one (k : Nat) (a0 : D) (a1 : D) (h : HS) : evF pg (k + 1) f__law_one [a0, a1] h = (evS (evF pg k) (evG pg k) b__law_one [some a0, some a1] h).el (fun _ h' => cutL true h .non h') (cutL true h) (fun _ _ => .bad) (fun _ _ => .bad) (fun c d _ h => .exc c d h) .bad := u_at (pg := pg) (f := f__law_one) (d := ⟨2, 2, true, b__law_one⟩) rfl k [a0, a1] h rfl
theorem u__law_walk (k : Nat) (a0 : D) (a1 : D) (a2 : D) (h : HS) : evF pg (k + 1) f__law_walk [a0, a1, a2] h = (evS (evF pg k) (evG pg k) b__law_walk [some a0, some a1, some a2, none, none, none, none, none, none, none, none] h).el (fun _ h' => cutL true h .non h') (cutL true h) (fun _ _ => .bad) (fun _ _ => .bad) (fun c d _ h => .exc c d h) .bad := u_at (pg := pg) (f := f__law_walk) (d := ⟨3, 11, true, b__law_walk⟩) rfl k [a0, a1, a2] h rfl
theorem u_walked_rooms (k : Nat) (a0 : D) (a1 : D) (a2 : D) (a3 : D) (h : HS) : evF pg (k + 1) f_walked_rooms [a0, a1, a2, a3] h = (evS (evF pg k) (evG pg k) b_walked_rooms [some a0, some a1, some a2, some a3] h).el (fun _ h' => cutL true h .non h') (cutL true h) (fun _ _ => .bad) (fun _ _ => .bad) (fun c d _ h => .exc c d h) .bad := u_at (pg := pg) (f := f_walked_rooms) (d := ⟨4, 4, true, b_walked_rooms⟩) rfl k [a0, a1, a2, a3] h rfl
theorem u_can_walk (k : Nat) (a0 : D) (a1 : D) (a2 : D) (a3 : D) (a4 : D) (h : HS) : evF pg (k + 1) f_can_walk [a0, a1, a2, a3, a4] h = (evS (evF pg k) (evG pg k) b_can_walk [some a0, some a1, some a2, some a3, some a4] h).el (fun _ h' => cutL true h .non h') (cutL true h) (fun _ _ => .bad) (fun _ _ => .bad) (fun c d _ h => .exc c d h) .bad := u_at (pg := pg) (f := f_can_walk) (d := ⟨5, 5, true, b_can_walk⟩) rfl k [a0, a1, a2, a3, a4] h rfl
theorem u__law_words (k : Nat) (a0 : D) (a1 : D) (h : HS) : evF pg (k + 1) f__law_words [a0, a1] h = (evS (evF pg k) (evG pg k) b__law_words [some a0, some a1, none, none, none, none, none, none, none, none, none] h).el (fun _ h' => cutL true h .non h') (cutL true h) (fun _ _ => .bad) (fun _ _ => .bad) (fun c d _ h => .exc c d h) .bad := u_at (pg := pg) (f := f__law_words) (d := ⟨2, 11, true, b__law_words⟩) rfl k [a0, a1] h rfl
theorem u__law_dip (k : Nat) (a0 : D) (a1 : D) (h : HS) : evF pg (k + 1) f__law_dip [a0, a1] h = (evS (evF pg k) (evG pg k) b__law_dip [some a0, some a1, none] h).el (fun _ h' => cutL true h .non h') (cutL true h) (fun _ _ => .bad) (fun _ _ => .bad) (fun c d _ h => .exc c d h) .bad := u_at (pg := pg) (f := f__law_dip) (d := ⟨2, 3, true, b__law_dip⟩) rfl k [a0, a1] h rfl
theorem u__law_leaf (k : Nat) (a0 : D) (a1 : D) (a2 : D) (h : HS) : evF pg (k + 1) f__law_leaf [a0, a1, a2] h = (evS (evF pg k) (evG pg k) b__law_leaf [some a0, some a1, some a2, none, none, none, none, none, none] h).el (fun _ h' => cutL true h .non h') (cutL true h) (fun _ _ => .bad) (fun _ _ => .bad) (fun c d _ h => .exc c d h) .bad := u_at (pg := pg) (f := f__law_leaf) (d := ⟨3, 9, true, b__law_leaf⟩) rfl k [a0, a1, a2] h rfl
theorem u__law_beam (k : Nat) (a0 : D) (h : HS) : evF pg (k + 1) f__law_beam [a0] h = (evS (evF pg k) (evG pg k) b__law_beam [some a0, none, none] h).el (fun _ h' => cutL true h .non h') (cutL true h) (fun _ _ => .bad) (fun _ _ => .bad) (fun c d _ h => .exc c d h) .bad := u_at (pg := pg) (f := f__law_beam) (d := ⟨1, 3, true, b__law_beam⟩) rfl k [a0] h rfl
theorem u__law_names (k : Nat) (a0 : D) (h : HS) : evF pg (k + 1) f__law_names [a0] h = (evS (evF pg k) (evG pg k) b__law_names [some a0, none] h).el (fun _ h' => cutL true h .non h') (cutL true h) (fun _ _ => .bad) (fun _ _ => .bad) (fun c d _ h => .exc c d h) .bad := u_at (pg := pg) (f := f__law_names) (d := ⟨1, 2, true, b__law_names⟩) rfl k [a0] h rfl
theorem u_check_house (k : Nat) (a0 : D) (h : HS) : evF pg (k + 1) f_check_house [a0] h = (evS (evF pg k) (evG pg k) b_check_house [some a0] h).el (fun _ h' => cutL true h .non h') (cutL true h) (fun _ _ => .bad) (fun _ _ => .bad) (fun c d _ h => .exc c d h) .bad := u_at (pg := pg) (f := f_check_house) (d := ⟨1, 1, true, b_check_house⟩) rfl k [a0] h rfl
theorem u_check_doors_of (k : Nat) (a0 : D) (a1 : D) (h : HS) : evF pg (k + 1) f_check_doors_of [a0, a1] h = (evS (evF pg k) (evG pg k) b_check_doors_of [some a0, some a1, none] h).el (fun _ h' => cutL true h .non h') (cutL true h) (fun _ _ => .bad) (fun _ _ => .bad) (fun c d _ h => .exc c d h) .bad := u_at (pg := pg) (f := f_check_doors_of) (d := ⟨2, 3, true, b_check_doors_of⟩) rfl k [a0, a1] h rfl
theorem u_all_rooms (k : Nat) (a0 : D) (h : HS) : evF pg (k + 1) f_all_rooms [a0] h = (evS (evF pg k) (evG pg k) b_all_rooms [some a0, none, none, none, none] h).el (fun _ h' => cutL true h .non h') (cutL true h) (fun _ _ => .bad) (fun _ _ => .bad) (fun c d _ h => .exc c d h) .bad := u_at (pg := pg) (f := f_all_rooms) (d := ⟨1, 5, true, b_all_rooms⟩) rfl k [a0] h rfl
theorem u_check_doored (k : Nat) (a0 : D) (a1 : D) (a2 : D) (a3 : D) (h : HS) : evF pg (k + 1) f_check_doored [a0, a1, a2, a3] h = (evS (evF pg k) (evG pg k) b_check_doored [some a0, some a1, some a2, some a3] h).el (fun _ h' => cutL true h .non h') (cutL true h) (fun _ _ => .bad) (fun _ _ => .bad) (fun c d _ h => .exc c d h) .bad := u_at (pg := pg) (f := f_check_doored) (d := ⟨4, 4, true, b_check_doored⟩) rfl k [a0, a1, a2, a3] h rfl
theorem u_rooms_walked (k : Nat) (a0 : D) (a1 : D) (a2 : D) (h : HS) : evF pg (k + 1) f_rooms_walked [a0, a1, a2] h = (evS (evF pg k) (evG pg k) b_rooms_walked [some a0, some a1, some a2, none, none, none, none, none, none, none, none] h).el (fun _ h' => cutL true h .non h') (cutL true h) (fun _ _ => .bad) (fun _ _ => .bad) (fun c d _ h => .exc c d h) .bad := u_at (pg := pg) (f := f_rooms_walked) (d := ⟨3, 11, true, b_rooms_walked⟩) rfl k [a0, a1, a2] h rfl
theorem u_check_walking (k : Nat) (a0 : D) (a1 : D) (a2 : D) (a3 : D) (a4 : D) (h : HS) : evF pg (k + 1) f_check_walking [a0, a1, a2, a3, a4] h = (evS (evF pg k) (evG pg k) b_check_walking [some a0, some a1, some a2, some a3, some a4] h).el (fun _ h' => cutL true h .non h') (cutL true h) (fun _ _ => .bad) (fun _ _ => .bad) (fun c d _ h => .exc c d h) .bad := u_at (pg := pg) (f := f_check_walking) (d := ⟨5, 5, true, b_check_walking⟩) rfl k [a0, a1, a2, a3, a4] h rfl
theorem u__law_round (k : Nat) (h : HS) : evF pg (k + 1) f__law_round [] h = (evS (evF pg k) (evG pg k) b__law_round [none] h).el (fun _ h' => cutL true h .non h') (cutL true h) (fun _ _ => .bad) (fun _ _ => .bad) (fun c d _ h => .exc c d h) .bad := u_at (pg := pg) (f := f__law_round) (d := ⟨0, 1, true, b__law_round⟩) rfl k [] h rfl
theorem u_is_house_form (k : Nat) (a0 : D) (h : HS) : evF pg (k + 1) f_is_house_form [a0] h = (evS (evF pg k) (evG pg k) b_is_house_form [some a0] h).el (fun _ h' => cutL true h .non h') (cutL true h) (fun _ _ => .bad) (fun _ _ => .bad) (fun c d _ h => .exc c d h) .bad := u_at (pg := pg) (f := f_is_house_form) (d := ⟨1, 1, true, b_is_house_form⟩) rfl k [a0] h rfl
theorem u_wrong_doors (k : Nat) (a0 : D) (a1 : D) (h : HS) : evF pg (k + 1) f_wrong_doors [a0, a1] h = (evS (evF pg k) (evG pg k) b_wrong_doors [some a0, some a1, none, none] h).el (fun _ h' => cutL true h .non h') (cutL true h) (fun _ _ => .bad) (fun _ _ => .bad) (fun c d _ h => .exc c d h) .bad := u_at (pg := pg) (f := f_wrong_doors) (d := ⟨2, 4, true, b_wrong_doors⟩) rfl k [a0, a1] h rfl
theorem u_check_stand (k : Nat) (a0 : D) (a1 : D) (h : HS) : evF pg (k + 1) f_check_stand [a0, a1] h = (evS (evF pg k) (evG pg k) b_check_stand [some a0, some a1] h).el (fun _ h' => cutL true h .non h') (cutL true h) (fun _ _ => .bad) (fun _ _ => .bad) (fun c d _ h => .exc c d h) .bad := u_at (pg := pg) (f := f_check_stand) (d := ⟨2, 2, true, b_check_stand⟩) rfl k [a0, a1] h rfl
theorem u_check_room (k : Nat) (a0 : D) (a1 : D) (h : HS) : evF pg (k + 1) f_check_room [a0, a1] h = (evS (evF pg k) (evG pg k) b_check_room [some a0, some a1] h).el (fun _ h' => cutL true h .non h') (cutL true h) (fun _ _ => .bad) (fun _ _ => .bad) (fun c d _ h => .exc c d h) .bad := u_at (pg := pg) (f := f_check_room) (d := ⟨2, 2, true, b_check_room⟩) rfl k [a0, a1] h rfl
theorem u_open_doors (k : Nat) (a0 : D) (a1 : D) (h : HS) : evF pg (k + 1) f_open_doors [a0, a1] h = (evS (evF pg k) (evG pg k) b_open_doors [some a0, some a1, none, none] h).el (fun _ h' => cutL true h .non h') (cutL true h) (fun _ _ => .bad) (fun _ _ => .bad) (fun c d _ h => .exc c d h) .bad := u_at (pg := pg) (f := f_open_doors) (d := ⟨2, 4, true, b_open_doors⟩) rfl k [a0, a1] h rfl
theorem u_wrong_from_one (k : Nat) (a0 : D) (a1 : D) (a2 : D) (h : HS) : evF pg (k + 1) f_wrong_from_one [a0, a1, a2] h = (evS (evF pg k) (evG pg k) b_wrong_from_one [some a0, some a1, some a2] h).el (fun _ h' => cutL true h .non h') (cutL true h) (fun _ _ => .bad) (fun _ _ => .bad) (fun c d _ h => .exc c d h) .bad := u_at (pg := pg) (f := f_wrong_from_one) (d := ⟨3, 3, true, b_wrong_from_one⟩) rfl k [a0, a1, a2] h rfl
theorem u_is_next_leaf (k : Nat) (a0 : D) (a1 : D) (h : HS) : evF pg (k + 1) f_is_next_leaf [a0, a1] h = (evS (evF pg k) (evG pg k) b_is_next_leaf [some a0, some a1, none] h).el (fun _ h' => cutL true h .non h') (cutL true h) (fun _ _ => .bad) (fun _ _ => .bad) (fun c d _ h => .exc c d h) .bad := u_at (pg := pg) (f := f_is_next_leaf) (d := ⟨2, 3, true, b_is_next_leaf⟩) rfl k [a0, a1] h rfl
theorem u_is_tuple_of (k : Nat) (a0 : D) (a1 : D) (h : HS) : evF pg (k + 1) f_is_tuple_of [a0, a1] h = (evS (evF pg k) (evG pg k) b_is_tuple_of [some a0, some a1] h).el (fun _ h' => cutL true h .non h') (cutL true h) (fun _ _ => .bad) (fun _ _ => .bad) (fun c d _ h => .exc c d h) .bad := u_at (pg := pg) (f := f_is_tuple_of) (d := ⟨2, 2, true, b_is_tuple_of⟩) rfl k [a0, a1] h rfl
theorem u_wrong_walls (k : Nat) (a0 : D) (h : HS) : evF pg (k + 1) f_wrong_walls [a0] h = (evS (evF pg k) (evG pg k) b_wrong_walls [some a0] h).el (fun _ h' => cutL true h .non h') (cutL true h) (fun _ _ => .bad) (fun _ _ => .bad) (fun c d _ h => .exc c d h) .bad := u_at (pg := pg) (f := f_wrong_walls) (d := ⟨1, 1, true, b_wrong_walls⟩) rfl k [a0] h rfl
theorem u_leaf_names (k : Nat) (a0 : D) (h : HS) : evF pg (k + 1) f_leaf_names [a0] h = (evS (evF pg k) (evG pg k) b_leaf_names [some a0, none] h).el (fun _ h' => cutL true h .non h') (cutL true h) (fun _ _ => .bad) (fun _ _ => .bad) (fun c d _ h => .exc c d h) .bad := u_at (pg := pg) (f := f_leaf_names) (d := ⟨1, 2, true, b_leaf_names⟩) rfl k [a0] h rfl
theorem u_wrong_for_all (k : Nat) (a0 : D) (a1 : D) (a2 : D) (h : HS) : evF pg (k + 1) f_wrong_for_all [a0, a1, a2] h = (evS (evF pg k) (evG pg k) b_wrong_for_all [some a0, some a1, some a2, none] h).el (fun _ h' => cutL true h .non h') (cutL true h) (fun _ _ => .bad) (fun _ _ => .bad) (fun c d _ h => .exc c d h) .bad := u_at (pg := pg) (f := f_wrong_for_all) (d := ⟨3, 4, true, b_wrong_for_all⟩) rfl k [a0, a1, a2] h rfl
theorem u_check_stand_of (k : Nat) (a0 : D) (a1 : D) (h : HS) : evF pg (k + 1) f_check_stand_of [a0, a1] h = (evS (evF pg k) (evG pg k) b_check_stand_of [some a0, some a1, none] h).el (fun _ h' => cutL true h .non h') (cutL true h) (fun _ _ => .bad) (fun _ _ => .bad) (fun c d _ h => .exc c d h) .bad := u_at (pg := pg) (f := f_check_stand_of) (d := ⟨2, 3, true, b_check_stand_of⟩) rfl k [a0, a1] h rfl
theorem u_is_one_of (k : Nat) (a0 : D) (a1 : D) (h : HS) : evF pg (k + 1) f_is_one_of [a0, a1] h = (evS (evF pg k) (evG pg k) b_is_one_of [some a0, some a1] h).el (fun _ h' => cutL true h .non h') (cutL true h) (fun _ _ => .bad) (fun _ _ => .bad) (fun c d _ h => .exc c d h) .bad := u_at (pg := pg) (f := f_is_one_of) (d := ⟨2, 2, true, b_is_one_of⟩) rfl k [a0, a1] h rfl
theorem u_wrong_at (k : Nat) (a0 : D) (a1 : D) (a2 : D) (h : HS) : evF pg (k + 1) f_wrong_at [a0, a1, a2] h = (evS (evF pg k) (evG pg k) b_wrong_at [some a0, some a1, some a2, none, none] h).el (fun _ h' => cutL true h .non h') (cutL true h) (fun _ _ => .bad) (fun _ _ => .bad) (fun c d _ h => .exc c d h) .bad := u_at (pg := pg) (f := f_wrong_at) (d := ⟨3, 5, true, b_wrong_at⟩) rfl k [a0, a1, a2] h rfl
theorem u_is_leaf_form (k : Nat) (a0 : D) (h : HS) : evF pg (k + 1) f_is_leaf_form [a0] h = (evS (evF pg k) (evG pg k) b_is_leaf_form [some a0, none] h).el (fun _ h' => cutL true h .non h') (cutL true h) (fun _ _ => .bad) (fun _ _ => .bad) (fun c d _ h => .exc c d h) .bad := u_at (pg := pg) (f := f_is_leaf_form) (d := ⟨1, 2, true, b_is_leaf_form⟩) rfl k [a0] h rfl
theorem u_hinge_of (k : Nat) (a0 : D) (h : HS) : evF pg (k + 1) f_hinge_of [a0] h = (evS (evF pg k) (evG pg k) b_hinge_of [some a0] h).el (fun _ h' => cutL true h .non h') (cutL true h) (fun _ _ => .bad) (fun _ _ => .bad) (fun c d _ h => .exc c d h) .bad := u_at (pg := pg) (f := f_hinge_of) (d := ⟨1, 1, true, b_hinge_of⟩) rfl k [a0] h rfl
theorem u_name_in (k : Nat) (a0 : D) (h : HS) : evF pg (k + 1) f_name_in [a0] h = (evS (evF pg k) (evG pg k) b_name_in [some a0] h).el (fun _ h' => cutL true h .non h') (cutL true h) (fun _ _ => .bad) (fun _ _ => .bad) (fun c d _ h => .exc c d h) .bad := u_at (pg := pg) (f := f_name_in) (d := ⟨1, 1, true, b_name_in⟩) rfl k [a0] h rfl
theorem u_wrong_stand (k : Nat) (a0 : D) (a1 : D) (h : HS) : evF pg (k + 1) f_wrong_stand [a0, a1] h = (evS (evF pg k) (evG pg k) b_wrong_stand [some a0, some a1] h).el (fun _ h' => cutL true h .non h') (cutL true h) (fun _ _ => .bad) (fun _ _ => .bad) (fun c d _ h => .exc c d h) .bad := u_at (pg := pg) (f := f_wrong_stand) (d := ⟨2, 2, true, b_wrong_stand⟩) rfl k [a0, a1] h rfl
theorem u_is_place_number (k : Nat) (a0 : D) (h : HS) : evF pg (k + 1) f_is_place_number [a0] h = (evS (evF pg k) (evG pg k) b_is_place_number [some a0] h).el (fun _ h' => cutL true h .non h') (cutL true h) (fun _ _ => .bad) (fun _ _ => .bad) (fun c d _ h => .exc c d h) .bad := u_at (pg := pg) (f := f_is_place_number) (d := ⟨1, 1, true, b_is_place_number⟩) rfl k [a0] h rfl
theorem u_is_name (k : Nat) (a0 : D) (h : HS) : evF pg (k + 1) f_is_name [a0] h = (evS (evF pg k) (evG pg k) b_is_name [some a0] h).el (fun _ h' => cutL true h .non h') (cutL true h) (fun _ _ => .bad) (fun _ _ => .bad) (fun c d _ h => .exc c d h) .bad := u_at (pg := pg) (f := f_is_name) (d := ⟨1, 1, true, b_is_name⟩) rfl k [a0] h rfl
theorem u_is_number (k : Nat) (a0 : D) (a1 : D) (a2 : D) (h : HS) : evF pg (k + 1) f_is_number [a0, a1, a2] h = (evS (evF pg k) (evG pg k) b_is_number [some a0, some a1, some a2] h).el (fun _ h' => cutL true h .non h') (cutL true h) (fun _ _ => .bad) (fun _ _ => .bad) (fun c d _ h => .exc c d h) .bad := u_at (pg := pg) (f := f_is_number) (d := ⟨3, 3, true, b_is_number⟩) rfl k [a0, a1, a2] h rfl
theorem u_is_heading_form (k : Nat) (a0 : D) (h : HS) : evF pg (k + 1) f_is_heading_form [a0] h = (evS (evF pg k) (evG pg k) b_is_heading_form [some a0, none] h).el (fun _ h' => cutL true h .non h') (cutL true h) (fun _ _ => .bad) (fun _ _ => .bad) (fun c d _ h => .exc c d h) .bad := u_at (pg := pg) (f := f_is_heading_form) (d := ⟨1, 2, true, b_is_heading_form⟩) rfl k [a0] h rfl
theorem u_is_word (k : Nat) (a0 : D) (h : HS) : evF pg (k + 1) f_is_word [a0] h = (evS (evF pg k) (evG pg k) b_is_word [some a0, none] h).el (fun _ h' => cutL true h .non h') (cutL true h) (fun _ _ => .bad) (fun _ _ => .bad) (fun c d _ h => .exc c d h) .bad := u_at (pg := pg) (f := f_is_word) (d := ⟨1, 2, true, b_is_word⟩) rfl k [a0] h rfl
theorem u_is_whole (k : Nat) (a0 : D) (h : HS) : evF pg (k + 1) f_is_whole [a0] h = (evS (evF pg k) (evG pg k) b_is_whole [some a0] h).el (fun _ h' => cutL true h .non h') (cutL true h) (fun _ _ => .bad) (fun _ _ => .bad) (fun c d _ h => .exc c d h) .bad := u_at (pg := pg) (f := f_is_whole) (d := ⟨1, 1, true, b_is_whole⟩) rfl k [a0] h rfl
theorem u_is_door (k : Nat) (a0 : D) (h : HS) : evF pg (k + 1) f_is_door [a0] h = (evS (evF pg k) (evG pg k) b_is_door [some a0, none] h).el (fun _ h' => cutL true h .non h') (cutL true h) (fun _ _ => .bad) (fun _ _ => .bad) (fun c d _ h => .exc c d h) .bad := u_at (pg := pg) (f := f_is_door) (d := ⟨1, 2, true, b_is_door⟩) rfl k [a0] h rfl
theorem u_is_above_last (k : Nat) (a0 : D) (a1 : D) (h : HS) : evF pg (k + 1) f_is_above_last [a0, a1] h = (evS (evF pg k) (evG pg k) b_is_above_last [some a0, some a1] h).el (fun _ h' => cutL true h .non h') (cutL true h) (fun _ _ => .bad) (fun _ _ => .bad) (fun c d _ h => .exc c d h) .bad := u_at (pg := pg) (f := f_is_above_last) (d := ⟨2, 2, true, b_is_above_last⟩) rfl k [a0, a1] h rfl
theorem u_is_wall_form (k : Nat) (a0 : D) (h : HS) : evF pg (k + 1) f_is_wall_form [a0] h = (evS (evF pg k) (evG pg k) b_is_wall_form [some a0, none] h).el (fun _ h' => cutL true h .non h') (cutL true h) (fun _ _ => .bad) (fun _ _ => .bad) (fun c d _ h => .exc c d h) .bad := u_at (pg := pg) (f := f_is_wall_form) (d := ⟨1, 2, true, b_is_wall_form⟩) rfl k [a0] h rfl
theorem uc_0 (k : Nat) (c0 : D) (a0 : D) (a1 : D) (h : HS) : evG pg (k + 1) 0 [c0] [a0, a1] h = (evS (evF pg k) (evG pg k) cb_0 [some a0, some a1, some c0] h).el (fun _ h' => cutL false h .non h') (cutL false h) (fun _ _ => .bad) (fun _ _ => .bad) (fun c d _ h => .exc c d h) .bad := g_at (pg := pg) (c := 0) (d := ⟨2, 1, 3, cb_0⟩) rfl k [c0] [a0, a1] h rfl rfl
theorem uc_1 (k : Nat) (a0 : D) (a1 : D) (h : HS) : evG pg (k + 1) 1 [] [a0, a1] h = (evS (evF pg k) (evG pg k) cb_1 [some a0, some a1] h).el (fun _ h' => cutL false h .non h') (cutL false h) (fun _ _ => .bad) (fun _ _ => .bad) (fun c d _ h => .exc c d h) .bad := g_at (pg := pg) (c := 1) (d := ⟨2, 0, 2, cb_1⟩) rfl k [] [a0, a1] h rfl rfl
theorem uc_2 (k : Nat) (a0 : D) (a1 : D) (h : HS) : evG pg (k + 1) 2 [] [a0, a1] h = (evS (evF pg k) (evG pg k) cb_2 [some a0, some a1] h).el (fun _ h' => cutL false h .non h') (cutL false h) (fun _ _ => .bad) (fun _ _ => .bad) (fun c d _ h => .exc c d h) .bad := g_at (pg := pg) (c := 2) (d := ⟨2, 0, 2, cb_2⟩) rfl k [] [a0, a1] h rfl rfl
end VE
set_option Elab.async false
set_option linter.all false
set_option maxRecDepth 100000
set_option maxHeartbeats 0
namespace VE
open PySem PyProof.Rows L2
def topS (i : Nat) : Stmt := PySem.Challenge.pw_leafswings_k79_whole_rooms.main.body.getD i (.Pass ⟨0, 0, 0, 0⟩)
def gFns0 : List (Str × Nat) := [("law", 0), ("_law_turns", 1), ("_law_right", 2), ("_law_well", 3), ("_law_house", 4), ("_law_doors", 5), ("_law_stands", 6), ("_law_rooms", 7), ("rooms_of", 8), ("_law_one", 9), ("_law_walk", 10), ("walked_rooms", 11), ("can_walk", 12), ("_law_words", 13), ("_law_dip", 14), ("_law_leaf", 15), ("_law_beam", 16), ("_law_names", 17), ("check_house", 18), ("check_doors_of", 19)]
def gFns1 : List (Str × Nat) := [("all_rooms", 20), ("check_doored", 21), ("rooms_walked", 22), ("check_walking", 23), ("_law_round", 24), ("is_house_form", 25), ("wrong_doors", 26), ("check_stand", 27), ("check_room", 28), ("open_doors", 29), ("wrong_from_one", 30), ("is_next_leaf", 31), ("is_tuple_of", 32), ("wrong_walls", 33), ("leaf_names", 34), ("wrong_for_all", 35), ("check_stand_of", 36), ("is_one_of", 37), ("wrong_at", 38), ("is_leaf_form", 39)]
def gFns2 : List (Str × Nat) := [("hinge_of", 40), ("name_in", 41), ("wrong_stand", 42), ("is_place_number", 43), ("is_name", 44), ("is_number", 45), ("is_heading_form", 46), ("is_word", 47), ("is_whole", 48), ("is_door", 49), ("is_above_last", 50), ("is_wall_form", 51)]
def gFns : List (Str × Nat) := gFns0 ++ gFns1 ++ gFns2
def gFps0 : List (List Str) := [["script"], ["script"], ["well"], ["script", "k"], ["well", "most"], ["well", "house"], ["many"], ["doors"], ["house", "doors"], ["well", "some"], ["doors", "stand", "room"], ["house", "stand", "doors", "room"], ["house", "stand", "doors", "room", "room2"], ["well", "many"], ["well", "many"], ["well", "name", "spots"], ["well"], ["house"], ["value"], ["house", "value"]]
def gFps1 : List (List Str) := [["doors"], ["house", "stand", "doors", "room"], ["doors", "stand", "room"], ["house", "stand", "doors", "room", "room2"], [], ["value"], ["house", "value"], ["house", "stand"], ["doors", "value"], ["doors", "stand"], ["value", "most", "is_right"], ["value", "before"], ["value", "many"], ["value"], ["house"], ["value", "many", "is_right"], ["house", "value"], ["value", "words"], ["value", "most", "is_right"], ["value"]]
def gFps2 : List (List Str) := [["leaf"], ["leaf"], ["house", "value"], ["value"], ["value"], ["value", "low", "high"], ["value"], ["value"], ["value"], ["value"], ["value", "before"], ["value"]]
def gFps : List (List Str) := gFps0 ++ gFps1 ++ gFps2
def gNone0 : List (Str) := ["ValueError", "abs", "all", "bool", "dict", "divmod", "enumerate", "int", "isinstance", "len", "list", "max", "min", "range", "repr", "set", "sorted", "str", "super", "tuple"]
def gNone1 : List (Str) := ["zip"]
def gNone : List (Str) := gNone0 ++ gNone1
def gGls0 : List (Str × D) := [("LETTERS", gl_LETTERS), ("MOST_IN_NAME", gl_MOST_IN_NAME), ("WORDS", gl_WORDS), ("MOST_STEP", gl_MOST_STEP), ("LEFT", gl_LEFT), ("RIGHT", gl_RIGHT), ("TURNS", gl_TURNS), ("MOST_PLACE", gl_MOST_PLACE), ("MOST_LONG", gl_MOST_LONG), ("SHUT", gl_SHUT), ("OPEN", gl_OPEN), ("STATES", gl_STATES), ("MOST_LEAVES", gl_MOST_LEAVES), ("MOST_WALLS", gl_MOST_WALLS)]
def gGls : List (Str × D) := gGls0
def gI : GI := ⟨gFns, gFps, gNone, true, gGls, [["names"], [], []]⟩
def nmL : List ((Nat × Nat) × Str) := [((126, 4), "wrong_doors.<locals>.is_right"), ((98, 39), "wrong_walls.<locals>.<lambda>"), ((107, 47), "wrong_stand.<locals>.<lambda>")]
def nmO (l c : Nat) : Str := (nmL.lookup (l, c)).getD ""
def kap (N : List Str) (i : Nat) (q : Str) : Kx := ⟨N, defScope (topS i), fun _ => true, some nmO, q ++ ".<locals>."⟩
def mkD (i : Nat) (n : Str) : He.DefD := ⟨(n, none), n, n, defArgs (topS i), defBody (topS i), defScope (topS i), [], []⟩
def rowsL0 : List DefRow := [⟨mkD 80 "law", ["script", "k"], ⟨1, 2, true, b_law⟩, false⟩, ⟨mkD 68 "_law_turns", ["script"], ⟨1, 1, true, b__law_turns⟩, false⟩, ⟨mkD 79 "_law_right", ["well", "turn", "house", "doors", "stands", "rooms", "stand", "room", "due", "told", "other", "more", "state"], ⟨1, 13, true, b__law_right⟩, false⟩, ⟨mkD 65 "_law_well", ["script", "k", "spot", "mixed", "each"], ⟨2, 5, false, b__law_well⟩, false⟩, ⟨mkD 73 "_law_house", ["well", "most", "spots", "leaves", "name", "walls", "each"], ⟨2, 7, true, b__law_house⟩, false⟩, ⟨mkD 76 "_law_doors", ["well", "house", "rooms", "found", "name", "one", "two"], ⟨2, 7, true, b__law_doors⟩, false⟩, ⟨mkD 75 "_law_stands", ["many", "found", "k", "longer", "stand"], ⟨1, 5, true, b__law_stands⟩, false⟩, ⟨mkD 77 "_law_rooms", ["doors", "found", "name", "one", "two"], ⟨1, 5, true, b__law_rooms⟩, false⟩, ⟨mkD 61 "rooms_of", ["house", "doors"], ⟨2, 2, true, b_rooms_of⟩, false⟩, ⟨mkD 67 "_law_one", ["well", "some"], ⟨2, 2, true, b__law_one⟩, false⟩, ⟨mkD 78 "_law_walk", ["doors", "stand", "room", "found", "line", "here", "name", "one", "two", "state", "far"], ⟨3, 11, true, b__law_walk⟩, false⟩, ⟨mkD 63 "walked_rooms", ["house", "stand", "doors", "room"], ⟨4, 4, true, b_walked_rooms⟩, false⟩, ⟨mkD 62 "can_walk", ["house", "stand", "doors", "room", "room2"], ⟨5, 5, true, b_can_walk⟩, false⟩, ⟨mkD 69 "_law_words", ["well", "many", "letters", "found", "taken", "k", "word", "turn", "some", "sign", "each"], ⟨2, 11, true, b__law_words⟩, false⟩, ⟨mkD 66 "_law_dip", ["well", "many", "digit"], ⟨2, 3, true, b__law_dip⟩, false⟩, ⟨mkD 71 "_law_leaf", ["well", "name", "spots", "x", "y", "shut", "opened", "each", "far"], ⟨3, 9, true, b__law_leaf⟩, false⟩, ⟨mkD 72 "_law_beam", ["well", "one", "two"], ⟨1, 3, true, b__law_beam⟩, false⟩, ⟨mkD 74 "_law_names", ["house", "leaf"], ⟨1, 2, true, b__law_names⟩, false⟩, ⟨mkD 48 "check_house", ["value"], ⟨1, 1, true, b_check_house⟩, false⟩, ⟨mkD 57 "check_doors_of", ["house", "value", "at"], ⟨2, 3, true, b_check_doors_of⟩, false⟩]
def rowsL1 : List DefRow := [⟨mkD 54 "all_rooms", ["doors", "_", "one", "two", "room"], ⟨1, 5, true, b_all_rooms⟩, false⟩, ⟨mkD 59 "check_doored", ["house", "stand", "doors", "room"], ⟨4, 4, true, b_check_doored⟩, false⟩, ⟨mkD 56 "rooms_walked", ["doors", "stand", "room", "some", "found", "at", "_", "one", "two", "here", "there"], ⟨3, 11, true, b_rooms_walked⟩, false⟩, ⟨mkD 60 "check_walking", ["house", "stand", "doors", "room", "room2"], ⟨5, 5, true, b_check_walking⟩, false⟩, ⟨mkD 70 "_law_round", ["found"], ⟨0, 1, true, b__law_round⟩, false⟩, ⟨mkD 43 "is_house_form", ["value"], ⟨1, 1, true, b_is_house_form⟩, false⟩, ⟨mkD 53 "wrong_doors", ["house", "value", "names", "is_right"], ⟨2, 4, true, b_wrong_doors⟩, true⟩, ⟨mkD 50 "check_stand", ["house", "stand"], ⟨2, 2, true, b_check_stand⟩, false⟩, ⟨mkD 58 "check_room", ["doors", "value"], ⟨2, 2, true, b_check_room⟩, false⟩, ⟨mkD 55 "open_doors", ["doors", "stand", "door", "state"], ⟨2, 4, true, b_open_doors⟩, false⟩, ⟨mkD 15 "wrong_from_one", ["value", "most", "is_right"], ⟨3, 3, true, b_wrong_from_one⟩, false⟩, ⟨mkD 41 "is_next_leaf", ["value", "before", "leaf"], ⟨2, 3, true, b_is_next_leaf⟩, false⟩, ⟨mkD 13 "is_tuple_of", ["value", "many"], ⟨2, 2, true, b_is_tuple_of⟩, false⟩, ⟨mkD 42 "wrong_walls", ["value"], ⟨1, 1, true, b_wrong_walls⟩, true⟩, ⟨mkD 44 "leaf_names", ["house", "leaf"], ⟨1, 2, true, b_leaf_names⟩, false⟩, ⟨mkD 16 "wrong_for_all", ["value", "many", "is_right", "found"], ⟨3, 4, true, b_wrong_for_all⟩, false⟩, ⟨mkD 49 "check_stand_of", ["house", "value", "at"], ⟨2, 3, true, b_check_stand_of⟩, false⟩, ⟨mkD 20 "is_one_of", ["value", "words"], ⟨2, 2, true, b_is_one_of⟩, false⟩, ⟨mkD 14 "wrong_at", ["value", "most", "is_right", "at", "each"], ⟨3, 5, true, b_wrong_at⟩, false⟩, ⟨mkD 34 "is_leaf_form", ["value", "each"], ⟨1, 2, true, b_is_leaf_form⟩, false⟩]
def rowsL2 : List DefRow := [⟨mkD 36 "hinge_of", ["leaf"], ⟨1, 1, true, b_hinge_of⟩, false⟩, ⟨mkD 35 "name_in", ["leaf"], ⟨1, 1, true, b_name_in⟩, false⟩, ⟨mkD 46 "wrong_stand", ["house", "value"], ⟨2, 2, true, b_wrong_stand⟩, true⟩, ⟨mkD 33 "is_place_number", ["value"], ⟨1, 1, true, b_is_place_number⟩, false⟩, ⟨mkD 19 "is_name", ["value"], ⟨1, 1, true, b_is_name⟩, false⟩, ⟨mkD 12 "is_number", ["value", "low", "high"], ⟨3, 3, true, b_is_number⟩, false⟩, ⟨mkD 26 "is_heading_form", ["value", "each"], ⟨1, 2, true, b_is_heading_form⟩, false⟩, ⟨mkD 18 "is_word", ["value", "letter"], ⟨1, 2, true, b_is_word⟩, false⟩, ⟨mkD 11 "is_whole", ["value"], ⟨1, 1, true, b_is_whole⟩, false⟩, ⟨mkD 52 "is_door", ["value", "each"], ⟨1, 2, true, b_is_door⟩, false⟩, ⟨mkD 17 "is_above_last", ["value", "before"], ⟨2, 2, true, b_is_above_last⟩, false⟩, ⟨mkD 40 "is_wall_form", ["value", "each"], ⟨1, 2, true, b_is_wall_form⟩, false⟩]
def rowsL : List DefRow := rowsL0 ++ rowsL1 ++ rowsL2
def cNs : List (List Str) := [["each", "before", "names"], ["each", "before"], ["each", "before"]]
theorem rowsOk0 : allRows gI nmO 0 rowsL0 = true := by decide +kernel
theorem rowsOk1 : allRows gI nmO 20 rowsL1 = true := by decide +kernel
theorem rowsOk2 : allRows gI nmO 40 rowsL2 = true := by decide +kernel
theorem rowsOk : allRows gI nmO 0 rowsL = true := (allRows_app (allRows_app rowsOk0 rowsOk1) rowsOk2)
theorem pgOk : PgOk gI nmO rowsL cNs pg := ⟨fun i r h => by simpa using allRows_ok rowsOk i r h, rfl, by decide +kernel, by decide +kernel, by decide +kernel, by decide +kernel⟩
def looseT0 : List (Str) := ["__name__", "LeafError", "InvalidHouse", "UnknownName", "InvalidStand", "InvalidRows", "LETTERS", "MOST_IN_NAME", "WORDS", "is_whole", "is_number", "is_tuple_of", "wrong_at", "wrong_from_one", "wrong_for_all", "is_above_last", "is_word", "is_name", "is_one_of", "MOST_STEP"]
def looseT1 : List (Str) := ["LEFT", "RIGHT", "TURNS", "is_heading_form", "MOST_PLACE", "MOST_LONG", "SHUT", "OPEN", "STATES", "is_place_number", "is_leaf_form", "name_in", "hinge_of", "MOST_LEAVES", "MOST_WALLS", "is_wall_form", "is_next_leaf", "wrong_walls", "is_house_form", "leaf_names"]
def looseT2 : List (Str) := ["wrong_stand", "check_house", "check_stand_of", "check_stand", "is_door", "wrong_doors", "all_rooms", "open_doors", "rooms_walked", "check_doors_of", "check_room", "check_doored", "check_walking", "rooms_of", "can_walk", "walked_rooms", "_law_well", "_law_dip", "_law_one", "_law_turns"]
def looseT3 : List (Str) := ["_law_words", "_law_round", "_law_leaf", "_law_beam", "_law_house", "_law_names", "_law_stands", "_law_doors", "_law_rooms", "_law_walk", "_law_right"]
def looseT : List (Str) := looseT0 ++ looseT1 ++ looseT2 ++ looseT3
abbrev rwR : PySem.W.OpenRow := PySem.W.OpenLaw.row PySem.Challenge.rw_leafswings_k79_whole_rooms
abbrev hkT : PySem.W.Hook := He.hookX 2 (faOf gI) (rowsL.map (·.dd)) [] (rowsL.map (·.dd.at_)) (exOf gI (rowsL.map (·.dd)))
def obT (s : PySem.W.SharedT) : He.AlX := He.obsX 2 (faOf gI) (rowsL.map (·.dd)) [] (rowsL.map (·.dd.at_)) (exOf gI (rowsL.map (·.dd))) (HandSHeadRun.getT s)
theorem obT_eq (s : PySem.W.SharedT) : obT s = hkT.obs s.abs := He.obsX_eq (HandSHeadRun.getT_eq s)
abbrev vwT : Program := PySem.W.view (PySem.W.OpenLaw.row PySem.Challenge.rw_leafswings_k79_whole_rooms).prog [0, 80]
theorem runT (w : World) : HandSHeadRun.RunEqI rwR vwT hkT obT 20000 looseT w := by
  unfold HandSHeadRun.RunEqI
  kernel_rfl
end VE
set_option Elab.async false
set_option linter.all false
set_option maxRecDepth 100000
set_option maxHeartbeats 1000000
set_option autoImplicit false
/-! P1: loops, comprehensions, draws: plain tools, of no program -/
namespace VE
open PySem
/-! ### loops -/
def turnO (st : D → Env → HS → R Env) (b : Env → HS → Out) (x : D) (ρ : Env) (h : HS) : Out :=
  (st x ρ h).el (fun _ _ _ => .bad) .bad fun ρ1 h1 => (b ρ1 h1).el .nx (fun _ _ => .bad) (fun _ _ => .bad) .nx (fun _ _ _ _ => .bad) .bad
section
variable {st : D → Env → HS → R Env} {b : Env → HS → Out} {x : D} {xs : List D} {ρ ρ' : Env} {h h' : HS}
theorem fo_turn (e : turnO st b x ρ h = .nx ρ' h') : foGo st b (x :: xs) ρ h = foGo st b xs ρ' h' := by
  unfold turnO at e
  rw [foGo]
  cases q : st x ρ h with
  | ok ρ1 h1 =>
    rw [q] at e
    simp only [el_ok] at e
    simp only [R.nox, Out.ofR]
    cases q2 : b ρ1 h1 with
    | nx ρ2 h2 => rw [q2] at e; simp only [o_nx] at e; cases e; rfl
    | ct ρ2 h2 => rw [q2] at e; simp only [o_ct] at e; cases e; rfl
    | rt d h2 => rw [q2] at e; cases e
    | bk d h2 => rw [q2] at e; cases e
    | exc c d ρ2 h2 => rw [q2] at e; cases e
    | bad => rw [q2] at e; cases e
  | exc c d h1 => rw [q] at e; cases e
  | bad => rw [q] at e; cases e
theorem fo_inv (P : Nat → Env → HS → Prop) : ∀ (xs : List D) (i : Nat) (ρ : Env) (h : HS), P i ρ h →
    (∀ j x ρ h, xs[j]? = some x → P (i + j) ρ h → ∃ ρ' h', turnO st b x ρ h = .nx ρ' h' ∧ P (i + j + 1) ρ' h') → ∃ ρ' h', foGo st b xs ρ h = .nx ρ' h' ∧ P (i + xs.length) ρ' h'
  | [], i, ρ, h, p, _ => ⟨ρ, h, rfl, p⟩
  | x :: xs, i, ρ, h, p, f => by
    obtain ⟨ρ1, h1, e1, p1⟩ := f 0 x ρ h rfl p
    obtain ⟨ρ2, h2, e2, p2⟩ := fo_inv P xs (i + 1) ρ1 h1 p1 fun j y ρ h hy hp => by
      have := f (j + 1) y ρ h hy (by rwa [Nat.add_assoc, Nat.add_comm 1 j] at hp)
      rwa [show i + (j + 1) + 1 = i + 1 + j + 1 by omega] at this
    exact ⟨ρ2, h2, by rw [fo_turn e1, e2], by rwa [List.length_cons, Nat.add_comm xs.length, ← Nat.add_assoc]⟩
end
section
variable {c : Env → HS → R D} {b : Env → HS → Out}
theorem wh_el (n : Nat) (ρ : Env) (h : HS) : whGo c b (n + 1) ρ h = (c ρ h).el (fun c d h => .exc c d ρ h) .bad fun d h1 => onB d ((b ρ h1).el (fun ρ' h' => whGo c b n ρ' h') .rt .nx (fun ρ' h' => whGo c b n ρ' h') .exc .bad) (.nx ρ h1) .bad := by
  rw [whGo]
  cases c ρ h with
  | ok d h1 =>
    simp only [Out.ofR, el_ok]
    cases d <;> try rfl
    rename_i t
    cases t with
    | false => rfl
    | true =>
      simp only [onB]
      cases b ρ h1 <;> rfl
  | exc c d h1 => rfl
  | bad => rfl
end
/-! ### comprehensions -/
section
variable {f : D → HS → R (Option D)} {α : Type}
theorem comp_fm (enc : α → D) (g : α → Option D) (h : HS) : ∀ (l : List α), (∀ a ∈ l, f (enc a) h = .ok (g a) h) → compGo f (l.map enc) h = .ok (l.filterMap g) h
  | [], _ => rfl
  | a :: l, H => by
    rw [List.map_cons, compGo, H a List.mem_cons_self]
    simp only [R.bind]
    rw [comp_fm enc g h l fun b hb => H b (List.mem_cons_of_mem _ hb)]
    cases q : g a with
    | none => rw [List.filterMap_cons_none q]; rfl
    | some d => rw [List.filterMap_cons_some q]; rfl
theorem comp_map (enc : α → D) (g : α → D) (h : HS) (l : List α) (H : ∀ a ∈ l, f (enc a) h = .ok (some (g a)) h) : compGo f (l.map enc) h = .ok (l.map g) h := by
  have := comp_fm (f := f) enc (fun a => some (g a)) h l H
  rwa [show l.filterMap (fun a => some (g a)) = l.map g from by rw [← List.filterMap_eq_map]; rfl] at this
theorem comp_mapD (g : D → D) (h : HS) (l : List D) (H : ∀ a ∈ l, f a h = .ok (some (g a)) h) : compGo f l h = .ok (l.map g) h := by
  have := comp_map (f := f) id g h l H
  rwa [List.map_id] at this
/-- each turn gives one, and may change what it draws from -/
theorem comp_dr (P : HS → Prop) (Q : D → D → Prop) : ∀ (xs : List D) (h : HS), P h → (∀ x ∈ xs, ∀ h, P h → ∃ y h', f x h = .ok (some y) h' ∧ P h' ∧ Q x y) → ∃ ys h', compGo f xs h = .ok ys h' ∧ P h' ∧ ys.length = xs.length ∧ ∀ p ∈ xs.zip ys, Q p.1 p.2
  | [], h, p, _ => ⟨[], h, rfl, p, rfl, by simp⟩
  | x :: xs, h, p, H => by
    obtain ⟨y, h1, e1, p1, q1⟩ := H x List.mem_cons_self h p
    obtain ⟨ys, h2, e2, p2, l2, q2⟩ := comp_dr P Q xs h1 p1 fun z hz => H z (List.mem_cons_of_mem _ hz)
    refine ⟨y :: ys, h2, ?_, p2, by simp [l2], fun r hr => ?_⟩
    · rw [compGo, e1]
      simp only [R.bind, e2]
      rfl
    · rw [List.zip_cons_cons] at hr
      rcases List.mem_cons.mp hr with rfl | hr
      · exact q1
      · exact q2 r hr
end
section
variable {β : Type} {X : Nat → D → HS → β} {B : β}
@[simp ↓] theorem cf_el (t : E) (vs : List Nat) (ρ : Env) (mc me : Env → HS → R D) (x : D) (h : HS) (k : Option D → HS → β) : (compF t vs ρ mc me x h).el X B k = match stN t x (blkE ρ vs) with
    | none => B
    | some ρ' => (mc ρ' h).el X B fun b h1 => onB b ((me ρ' h1).el X B fun y h2 => k (some y) h2) (k none h1) B := by
  unfold compF
  cases stN t x (blkE ρ vs) with
  | none => rfl
  | some ρ' =>
    simp only [el_bind]
    congr 1
    funext b h1
    cases b <;> first | rfl | (rename_i c; cases c <;> simp only [onB, el_bind, el_ok])
end
@[simp] theorem stN_var (i : Nat) (d : D) (ρ : Env) : stN (.var i) d ρ = some (ρ.set i (some d)) := Eq.trans rfl rfl
@[simp] theorem stN_tup (ts : E) (ds : List D) (ρ : Env) : stN (.tup ts) (.tup ds) ρ = stN ts (.lst ds) ρ := Eq.trans rfl rfl
@[simp] theorem stN_nil (ρ : Env) : stN .nil (.lst []) ρ = some ρ := Eq.trans rfl rfl
@[simp] theorem stN_consv (i : Nat) (r : E) (d : D) (ds : List D) (ρ : Env) : stN (.cons (.var i) r) (.lst (d :: ds)) ρ = stN r (.lst ds) (ρ.set i (some d)) := Eq.trans rfl rfl
/-! ### draws -/
/-- h' is h with another row of draws at w -/
def Dr (w : Nat) (h h' : HS) : Prop := ∃ a b c : Int, 0 ≤ a ∧ h' = h.set w (.lst [.int a, .int b, .int c])
def Wl (w : Nat) (h : HS) : Prop := ∃ a b c : Int, 0 ≤ a ∧ h[w]? = some (.lst [.int a, .int b, .int c])
section
variable {w : Nat} {h h' h'' : HS}
theorem Wl.lt (W : Wl w h) : w < h.length := by
  obtain ⟨a, b, c, _, e⟩ := W
  exact (List.getElem?_eq_some_iff.mp e).1
theorem Wl.dr (W : Wl w h) (d : Dr w h h') : Wl w h' := by
  obtain ⟨a, b, c, p, rfl⟩ := d
  exact ⟨a, b, c, p, List.getElem?_set_self W.lt⟩
theorem Wl.refl (W : Wl w h) : Dr w h h := by
  obtain ⟨a, b, c, p, e⟩ := W
  refine ⟨a, b, c, p, ?_⟩
  obtain ⟨hl, e⟩ := List.getElem?_eq_some_iff.mp e
  rw [← e, List.set_getElem_self]
theorem Dr.trans (d : Dr w h h') (d' : Dr w h' h'') : Dr w h h'' := by
  obtain ⟨a, b, c, p, rfl⟩ := d
  obtain ⟨a', b', c', p', rfl⟩ := d'
  exact ⟨a', b', c', p', by rw [List.set_set]⟩
theorem Dr.len (d : Dr w h h') : h'.length = h.length := by
  obtain ⟨a, b, c, p, rfl⟩ := d
  simp
theorem Dr.ne (d : Dr w h h') {i : Nat} (hi : i ≠ w) : h'[i]? = h[i]? := by
  obtain ⟨a, b, c, p, rfl⟩ := d
  exact List.getElem?_set_ne (Ne.symm hi)
theorem Wl.app (W : Wl w h) (j : HS) : Wl w (h ++ j) := by
  have hl := W.lt
  obtain ⟨a, b, c, p, e⟩ := W
  exact ⟨a, b, c, p, by rw [List.getElem?_append_left hl]; exact e⟩
/-- a draw behind which the objects above stay -/
theorem Dr.app {j : HS} (W : w < h.length) (d : Dr w (h ++ j) h') : ∃ h1, Dr w h h1 ∧ h' = h1 ++ j := by
  obtain ⟨a, b, c, p, rfl⟩ := d
  exact ⟨h.set w (.lst [.int a, .int b, .int c]), ⟨a, b, c, p, rfl⟩, by rw [List.set_append_left _ _ W]⟩
theorem Dr.set {i : Nat} {o : DO} (hi : i ≠ w) (d : Dr w (h.set i o) h') : ∃ h1, Dr w h h1 ∧ h' = h1.set i o := by
  obtain ⟨a, b, c, p, rfl⟩ := d
  exact ⟨h.set w (.lst [.int a, .int b, .int c]), ⟨a, b, c, p, rfl⟩, List.set_comm _ _ hi⟩
/-- the objects made within are left behind -/
theorem Dr.cut {j : HS} (d : Dr w h h') (fz : Bool) (x : D) (hx : noref x = true) : cutL fz h x (h' ++ j) = .ok x h' := by
  obtain ⟨a, b, c, p, rfl⟩ := d
  exact cut_set_app fz h j w _ x hx (by simp [DO.blw, D.blws, D.blw])
theorem Dr.cut0 (d : Dr w h h') (fz : Bool) (x : D) (hx : noref x = true) : cutL fz h x h' = .ok x h' := by
  have := d.cut (j := []) fz x hx
  simpa using this
end
@[simp] theorem isFn_non : isFn .non = false := Eq.trans rfl rfl
@[simp] theorem isFn_bl (b : Bool) : isFn (.bl b) = false := Eq.trans rfl rfl
@[simp] theorem isFn_int (i : Int) : isFn (.int i) = false := Eq.trans rfl rfl
@[simp] theorem isFn_str (x : Str) : isFn (.str x) = false := Eq.trans rfl rfl
@[simp] theorem isFn_tup (xs : List D) : isFn (.tup xs) = false := Eq.trans rfl rfl
@[simp] theorem isFn_ctp (xs : List D) : isFn (.ctp xs) = false := Eq.trans rfl rfl
@[simp] theorem isFn_lst (xs : List D) : isFn (.lst xs) = false := Eq.trans rfl rfl
@[simp] theorem isFn_scr (xs : List D) : isFn (.scr xs) = false := Eq.trans rfl rfl
@[simp] theorem isFn_ref (i : Nat) : isFn (.ref i) = false := Eq.trans rfl rfl
@[simp] theorem isFn_fn (c : Nat) (xs : List D) : isFn (.fn c xs) = true := Eq.trans rfl rfl
@[simp] theorem isFn_gfn (i : Nat) : isFn (.gfn i) = true := Eq.trans rfl rfl
@[simp] theorem isFn_ndf (i : Nat) : isFn (.ndf i) = true := Eq.trans rfl rfl
@[simp] theorem isNil_nil : isNil .nil = true := Eq.trans rfl rfl
@[simp] theorem isNil_var (i : Nat) : isNil (.var i) = false := Eq.trans rfl rfl
@[simp] theorem isNil_cst (d : D) : isNil (.cst d) = false := Eq.trans rfl rfl
@[simp] theorem isNil_gl (x : Str) (d : D) : isNil (.gl x d) = false := Eq.trans rfl rfl
@[simp] theorem isNil_bin (o : BO) (a b : E) : isNil (.bin o a b) = false := Eq.trans rfl rfl
@[simp] theorem isNil_bi (o : BI) (a : E) : isNil (.bi o a) = false := Eq.trans rfl rfl
@[simp] theorem isNil_ix (a b : E) : isNil (.ix a b) = false := Eq.trans rfl rfl
@[simp] theorem isNil_neg (a : E) : isNil (.neg a) = false := Eq.trans rfl rfl
@[simp] theorem isNil_cmp (o : CO) (a b : E) : isNil (.cmp o a b) = false := Eq.trans rfl rfl
@[simp] theorem isNil_and (a b : E) : isNil (.and a b) = false := Eq.trans rfl rfl
@[simp] theorem isNil_or (a b : E) : isNil (.or a b) = false := Eq.trans rfl rfl
@[simp] theorem isNil_not (a : E) : isNil (.not a) = false := Eq.trans rfl rfl
@[simp] theorem isNil_callK (f : Nat) (es kws : E) (ks : List Str) (p : List Nat) : isNil (.callK f es kws ks p) = false := Eq.trans rfl rfl
@[simp] theorem isNil_sl (a b c : E) : isNil (.sl a b c) = false := Eq.trans rfl rfl
/-! ### operations on plain data -/
section
variable (a b : Int) (x y : Str) (h : HS)
@[simp] theorem c_lt : opCmp .lt (.int a) (.int b) h = .ok (.bl (decide (a < b))) h := by simp [opCmp, D.alike, D.lt]
@[simp] theorem c_gt : opCmp .gt (.int a) (.int b) h = .ok (.bl (decide (b < a))) h := by simp [opCmp, D.alike, D.lt]
@[simp] theorem c_le : opCmp .le (.int a) (.int b) h = .ok (.bl (decide (a ≤ b))) h := by
  have : (!decide (b < a)) = decide (a ≤ b) := by by_cases c : b < a <;> simp [c, show (a ≤ b) ↔ ¬ b < a by omega]
  simp [opCmp, D.alike, D.lt, this]
@[simp] theorem c_ge : opCmp .ge (.int a) (.int b) h = .ok (.bl (decide (b ≤ a))) h := by
  have : (!decide (a < b)) = decide (b ≤ a) := by by_cases c : a < b <;> simp [c, show (b ≤ a) ↔ ¬ a < b by omega]
  simp [opCmp, D.alike, D.lt, this]
@[simp] theorem c_eqi : opCmp .eq (.int a) (.int b) h = .ok (.bl (decide (a = b))) h := by simp [opCmp, okB, eqOf, deref]
@[simp] theorem c_nei : opCmp .ne (.int a) (.int b) h = .ok (.bl (!decide (a = b))) h := by simp [opCmp, okB, eqOf, deref]
@[simp] theorem c_eqs : opCmp .eq (.str x) (.str y) h = .ok (.bl (decide (x = y))) h := by simp [opCmp, okB, eqOf, deref]
@[simp] theorem c_nes : opCmp .ne (.str x) (.str y) h = .ok (.bl (!decide (x = y))) h := by simp [opCmp, okB, eqOf, deref]
@[simp] theorem c_eqin : opCmp .eq (.int a) .non h = .ok (.bl false) h := by simp [opCmp, okB, eqOf, deref, finD, D.fine, D.eqv]
@[simp] theorem c_eqll : opCmp .eq (.lst []) (.lst []) h = .ok (.bl true) h := by simp [opCmp, okB, eqOf, deref, finD, D.fine, D.eqv, D.eqvs]
@[simp] theorem c_nell : opCmp .ne (.lst []) (.lst []) h = .ok (.bl false) h := by simp [opCmp, okB, eqOf, deref, finD, D.fine, D.eqv, D.eqvs]
@[simp] theorem c_eqt0 : opCmp .eq (.tup []) (.tup []) h = .ok (.bl true) h := by simp [opCmp, okB, eqOf, deref, finD, D.fine, D.eqv, D.eqvs]
@[simp] theorem c_net0 : opCmp .ne (.tup []) (.tup []) h = .ok (.bl false) h := by simp [opCmp, okB, eqOf, deref, finD, D.fine, D.eqv, D.eqvs]
theorem fin_nil : finD (.tup []) = true := by simp [finD, D.fine]
theorem c_eqt {d : D} {ds : List D} (f : finD (.tup (d :: ds)) = true) : opCmp .eq (.tup (d :: ds)) (.tup []) h = .ok (.bl false) h := by simp [opCmp, okB, eqOf, deref, f, fin_nil, D.eqv, D.eqvs]
theorem c_net {d : D} {ds : List D} (f : finD (.tup (d :: ds)) = true) : opCmp .ne (.tup (d :: ds)) (.tup []) h = .ok (.bl true) h := by simp [opCmp, okB, eqOf, deref, f, fin_nil, D.eqv, D.eqvs]
@[simp] theorem c_notN (d : D) : opCmp .notN d .non h = .ok (.bl (!isNon d)) h := Eq.trans rfl rfl
@[simp] theorem c_isN (d : D) : opCmp .isN d .non h = .ok (.bl (isNon d)) h := Eq.trans rfl rfl
@[simp] theorem non_int : isNon (.int a) = false := Eq.trans rfl rfl
@[simp] theorem non_non : isNon .non = true := Eq.trans rfl rfl
@[simp] theorem c_isnt (p q : Bool) : opCmp .isnt (.bl p) (.bl q) h = .ok (.bl (!decide (p = q))) h := Eq.trans rfl rfl
@[simp] theorem l_tup (xs : List D) : opBi .len [.tup xs] h = .ok (.int xs.length) h := Eq.trans rfl rfl
@[simp] theorem l_lst (xs : List D) : opBi .len [.lst xs] h = .ok (.int xs.length) h := Eq.trans rfl rfl
@[simp] theorem l_ctp (xs : List D) : opBi .len [.ctp xs] h = .ok (.int xs.length) h := Eq.trans rfl rfl
@[simp] theorem l_scr (xs : List D) : opBi .len [.scr xs] h = .ok (.int xs.length) h := Eq.trans rfl rfl
theorem l_str (hl : x.length ≤ lim) : opBi .len [.str x] h = .ok (.int x.length) h := by simp only [opBi, hl, if_true]
@[simp] theorem q_isInt : opBi .isInt [.int a] h = .ok (.bl true) h := Eq.trans rfl rfl
@[simp] theorem q_isBool : opBi .isBool [.int a] h = .ok (.bl false) h := Eq.trans rfl rfl
@[simp] theorem q_isTup (xs : List D) : opBi .isTup [.tup xs] h = .ok (.bl true) h := Eq.trans rfl rfl
@[simp] theorem q_isStr : opBi .isStr [.str x] h = .ok (.bl true) h := Eq.trans rfl rfl
@[simp] theorem q_int : opBi .int [.int a] h = .ok (.int a) h := Eq.trans rfl rfl
@[simp] theorem q_tuple (xs : List D) : opBi .tuple [.lst xs] h = .ok (.tup xs) h := by simp [opBi, isCtp, seqOf]
@[simp] theorem q_tupleP (xs : List D) : opBi .tupleP [.lst xs] h = .ok (.ctp xs) h := by simp [opBi, isTupD, seqOf]
@[simp] theorem q_tuple_ref (i : Nat) (xs : List D) (e : h[i]? = some (.lst xs)) : opBi .tuple [.ref i] h = .ok (.tup xs) h := by simp [opBi, isCtp, seqOf, e]
@[simp] theorem q_all (xs : List D) (e : allB xs = some true) : opBi .all [.lst xs] h = .ok (.bl true) h := by simp [opBi, isTupD, seqOf, e]
@[simp] theorem q_mini : opBi .min [.int a, .int b] h = .ok (.int (if b < a then b else a)) h := Eq.trans rfl rfl
@[simp] theorem q_maxi : opBi .max [.int a, .int b] h = .ok (.int (if b > a then b else a)) h := Eq.trans rfl rfl
@[simp] theorem b_add : opBin .add (.int a) (.int b) h = .ok (.int (a + b)) h := Eq.trans rfl rfl
@[simp] theorem b_sub : opBin .sub (.int a) (.int b) h = .ok (.int (a - b)) h := Eq.trans rfl rfl
theorem b_mul (s : (small a || small b) = true) : opBin .mul (.int a) (.int b) h = .ok (.int (a * b)) h := by simp only [opBin, s, if_true]
theorem b_mod (s : b ≠ 0) : opBin .mod (.int a) (.int b) h = .ok (.int (a.fmod b)) h := by simp only [opBin, ne_eq, s, not_false_eq_true, if_true]
theorem b_fdiv (s : b ≠ 0) (s2 : b.natAbs < 1073741824) : opBin .fdiv (.int a) (.int b) h = .ok (.int (a.fdiv b)) h := by simp only [opBin, ne_eq, s, not_false_eq_true, true_and, s2, if_true]
theorem b_addt (xs ys : List D) (s : xs.length + ys.length ≤ lim) : opBin .add (.tup xs) (.tup ys) h = .ok (.tup (xs ++ ys)) h := by simp only [opBin, s, if_true]
theorem b_addl (xs ys : List D) (s : xs.length + ys.length ≤ lim) : opBin .add (.lst xs) (.lst ys) h = .ok (.lst (xs ++ ys)) h := by simp only [opBin, addL, lstOf, s, if_true]
theorem b_adds (s : x.length + y.length ≤ lim) : opBin .add (.str x) (.str y) h = .ok (.str (x ++ y)) h := by simp only [opBin, s, if_true]
@[simp] theorem w_tup (xs : List D) : opSeq (.tup xs) h = .ok (.lst xs) h := Eq.trans rfl rfl
@[simp] theorem w_lst (xs : List D) : opSeq (.lst xs) h = .ok (.lst xs) h := Eq.trans rfl rfl
@[simp] theorem w_ctp (xs : List D) : opSeq (.ctp xs) h = .ok (.lst xs) h := Eq.trans rfl rfl
@[simp] theorem w_scr (xs : List D) : opSeq (.scr xs) h = .ok (.lst xs) h := Eq.trans rfl rfl
@[simp] theorem w_str : opSeq (.str x) h = .ok (.lst (x.cps.toList.map fun c => D.str ⟨#[c]⟩)) h := Eq.trans rfl rfl
theorem i_at (i : Nat) {xs : List D} {d : D} (e : xs[i]? = some d) (a : D) (s : seqOf a h = some xs) (ns : ∀ x, a ≠ .str x) : opIx a (.int i) h = .ok d h := by
  have : L2.atI xs (i : Int) = some d := L2.atI_nat e
  cases a <;> first | exact absurd rfl (ns _) | (simp only [opIx, s, this])
end
end VE
set_option Elab.async false
set_option linter.all false
set_option maxRecDepth 100000
set_option maxHeartbeats 1000000
set_option autoImplicit false
/-! La: the checks of forms -/
namespace VE
open PySem
theorem r_is_whole (k : Nat) (i : Int) (h : HS) : evF pg (k + 1) f_is_whole [.int i] h = .ok (.bl true) h := by
  rw [u_is_whole]
  simp [b_is_whole, opBi]
theorem r_is_number (k : Nat) (v lo hi : Int) (h : HS) : evF pg (k + 2) f_is_number [.int v, .int lo, .int hi] h = .ok (.bl (decide (lo ≤ v) && decide (v ≤ hi))) h := by
  rw [u_is_number]
  simp [b_is_number, opBi, permOf, ↓el_of (r_is_whole _ _ _), opCmp, isNon, D.alike, D.lt]
  by_cases h1 : v < lo
  · simp [h1, show ¬ lo ≤ v by omega]
  · simp [h1, show lo ≤ v by omega]
theorem r_is_tuple_of (k : Nat) (xs : List D) (n : Int) (h : HS) : evF pg (k + 1) f_is_tuple_of [.tup xs, .int n] h = .ok (.bl (decide ((xs.length : Int) = n))) h := by
  rw [u_is_tuple_of]
  simp [b_is_tuple_of, opBi, opCmp, seqOf, okB, eqOf, deref]
/-! names -/
def lettersL : List Nat := "abcdefghijklmnopqrstuvwxyz".toList.map Char.toNat
def NameOk (x : Str) : Prop := x.cps.toList ≠ [] ∧ (∀ c ∈ x.cps.toList, c ∈ lettersL) ∧ x.length ≤ 8 ∧ D.str x ∉ (match gl_WORDS with | .ctp ws => ws | _ => [])
theorem in_letters (c : Nat) (hc : c ∈ lettersL) : (Builtin.Str.occurrences ("abcdefghijklmnopqrstuvwxyz" : Str) ⟨#[c]⟩ 0 ("abcdefghijklmnopqrstuvwxyz" : Str).length 1).isEmpty = false := by
  have : (lettersL.all fun c => (Builtin.Str.occurrences ("abcdefghijklmnopqrstuvwxyz" : Str) ⟨#[c]⟩ 0 ("abcdefghijklmnopqrstuvwxyz" : Str).length 1).isEmpty == false) = true := by decide +kernel
  exact beq_iff_eq.mp (List.all_eq_true.mp this c hc)
theorem allB_true {α : Type} : ∀ l : List α, allB (l.map fun _ => D.bl true) = some true
  | [] => rfl
  | _ :: l => by simp [allB, allB_true l]
end VE
set_option Elab.async false
set_option linter.all false
set_option maxRecDepth 100000
set_option maxHeartbeats 1000000
set_option autoImplicit false
/-! Lb: names, leaves -/
namespace VE
open PySem
theorem str_len (x : Str) : x.length = x.cps.toList.length := by simp [Str.length]
theorem r_is_word (k : Nat) (x : Str) (h : HS) (n : NameOk x) : evF pg (k + 1) f_is_word [.str x] h = .ok (.bl true) h := by
  obtain ⟨n1, n2, n3, _⟩ := n
  have hx : ¬ x = "" := by rintro rfl; exact n1 rfl
  have hl : x.cps.toList.length ≤ lim := Nat.le_trans (by rw [← str_len]; exact n3) (by decide : 8 ≤ lim)
  rw [u_is_word]
  simp [b_is_word, opBi, opCmp, okB, eqOf, deref, hx, opSeq]
  rw [el_of (comp_map (fun c : Nat => D.str ⟨#[c]⟩) (fun _ => D.bl true) h x.cps.toList ?H)]
  case H =>
    intro c hc
    refine (el_id _).symm.trans ?_
    simp [opCmp, blkE, wipeD, noNdf, gl_LETTERS, in_letters c (n2 c hc)]
  simp [isTupD, seqOf, allB_true]
  simpa using hl
theorem r_is_place_number (k : Nat) (v : Int) (h : HS) (h1 : 0 ≤ v) (h2 : v ≤ 199) : evF pg (k + 3) f_is_place_number [.int v] h = .ok (.bl true) h := by
  rw [u_is_place_number]
  simp [b_is_place_number, permOf, gl_MOST_PLACE, ↓el_of (r_is_number _ _ _ _ _), h1, h2]
end VE
set_option Elab.async false
set_option linter.all false
set_option maxRecDepth 100000
set_option maxHeartbeats 1000000
set_option autoImplicit false
/-! Lc: leaves, walls -/
namespace VE
open PySem
theorem r_is_name (k : Nat) (x : Str) (h : HS) (n : NameOk x) : evF pg (k + 2) f_is_name [.str x] h = .ok (.bl true) h := by
  have n4 := n.2.2.2
  rw [u_is_name]
  have h1 : x.length ≤ lim := Nat.le_trans n.2.2.1 (by decide)
  have h2 : ((x.length : Int) ≤ 8) := by have := n.2.2.1; omega
  have h3 : (match gl_WORDS with | .ctp ws => ws | _ => []).any (fun z => D.eqv z (.str x)) = false := by
    rw [List.any_eq_false]
    intro z hz e
    simp only [gl_WORDS] at hz n4
    have key : ∀ w : Str, (D.str w).eqv (.str x) = true → w = x := fun w hw => by simpa [D.eqv] using hw
    simp only [List.mem_cons, List.mem_nil_iff, or_false] at hz
    refine n4 ?_
    rcases hz with rfl | rfl | rfl | rfl | rfl | rfl | rfl | rfl | rfl | rfl | rfl | rfl | rfl | rfl | rfl | rfl | rfl | rfl | rfl | rfl | rfl | rfl | rfl | rfl | rfl | rfl | rfl <;> (rw [← key _ e]; simp)
  have h4 : opCmp .notin (.str x) gl_WORDS h = .ok (.bl true) h := by
    simp only [gl_WORDS] at h3 ⊢
    simp only [opCmp, seqOf, inOf]
    rw [if_pos (by simp [D.flat])]
    simp only [okB, Option.map_some, h3, Bool.not_false]
  simp [b_is_name, permOf, ↓el_of (r_is_word _ _ _ n), ↓el_of (l_str _ _ h1), gl_MOST_IN_NAME, ↓el_of h4, h2]
def headings : List (Int × Int) := [(1, 0), (4, 3), (3, 4), (0, 1), (-3, 4), (-4, 3), (-1, 0), (-4, -3), (-3, -4), (0, -1), (3, -4), (4, -3)]
def encH (p : Int × Int) : D := .tup [.int p.1, .int p.2]
structure Leaf where
  name : Str
  x : Int
  y : Int
  far : Int
  shut : Int × Int
  opened : Int × Int
  hand : Str
def Leaf.enc (l : Leaf) : D := .tup [.str l.name, .int l.x, .int l.y, .int l.far, encH l.shut, .str l.hand, encH l.opened]
structure Leaf.Ok (l : Leaf) : Prop where
  nm : NameOk l.name
  x0 : 0 ≤ l.x
  x1 : l.x ≤ 23
  y0 : 0 ≤ l.y
  y1 : l.y ≤ 23
  f0 : 1 ≤ l.far
  f1 : l.far ≤ 20
  sh : l.shut ∈ headings
  op : l.opened ∈ headings
  ne : l.shut ≠ l.opened
  ha : l.hand = "left" ∨ l.hand = "right"
theorem heading_ok (p : Int × Int) (hp : p ∈ headings) : (-9 ≤ p.1 ∧ p.1 ≤ 9) ∧ (-9 ≤ p.2 ∧ p.2 ≤ 9) ∧ gcdD p.1 p.2 = 1 := by
  have : (headings.all fun p => decide ((-9 ≤ p.1 ∧ p.1 ≤ 9) ∧ (-9 ≤ p.2 ∧ p.2 ≤ 9) ∧ gcdD p.1 p.2 = 1)) = true := by decide +kernel
  exact of_decide_eq_true (List.all_eq_true.mp this p hp)
theorem r_is_heading_form (k : Nat) (p : Int × Int) (hp : p ∈ headings) (h : HS) : evF pg (k + 3) f_is_heading_form [encH p] h = .ok (.bl true) h := by
  obtain ⟨⟨a1, a2⟩, ⟨b1, b2⟩, g⟩ := heading_ok p hp
  rw [u_is_heading_form]
  simp [b_is_heading_form, permOf, encH, ↓el_of (r_is_tuple_of _ _ _ _)]
  rw [el_of (comp_mapD (fun _ => D.bl true) h [.int p.1, .int p.2] ?H)]
  case H =>
    intro d hd
    obtain ⟨c, rfl, hc'⟩ : ∃ c, d = .int c ∧ (-9 ≤ c ∧ c ≤ 9) := by
      simp at hd
      rcases hd with rfl | rfl
      · exact ⟨_, rfl, a1, a2⟩
      · exact ⟨_, rfl, b1, b2⟩
    refine (el_id _).symm.trans ?_
    simp [blkE, wipeD, noNdf, permOf, gl_MOST_STEP, ↓el_of (r_is_number _ _ _ _ _), hc'.1, hc'.2]
  have e0 : opIx (.tup [.int p.1, .int p.2]) (.int 0) h = .ok (.int p.1) h := i_at _ 0 rfl _ rfl (fun _ z => by cases z)
  have e1 : opIx (.tup [.int p.1, .int p.2]) (.int 1) h = .ok (.int p.2) h := i_at _ 1 rfl _ rfl (fun _ z => by cases z)
  have e2 : opBi .gcd [.int p.1, .int p.2] h = .ok (.int (gcdD p.1 p.2)) h := rfl
  simp [allB, lim, ↓el_of e0, ↓el_of e1, ↓el_of e2, g]
theorem r_is_one_of (k : Nat) (x : Str) (ys : List D) (b : D) (h : HS) (hb : seqOf b h = some ys) (ns : ∀ y, b ≠ .str y) (nf : isFn b = false) (hf : ys.all D.flat = true) (hx : D.str x ∈ ys) : evF pg (k + 1) f_is_one_of [.str x, b] h = .ok (.bl true) h := by
  rw [u_is_one_of]
  have e : opCmp .inn (.str x) b h = .ok (.bl true) h := by
    have ha : ys.any (fun z => D.eqv z (.str x)) = true := List.any_eq_true.mpr ⟨_, hx, by simp [D.eqv]⟩
    have hi : inOf (.str x) (isTupD b) ys = some true := by
      unfold inOf
      rw [if_pos (by simp [D.flat, hf]), ha]
    cases b <;> first | exact absurd rfl (ns _) | (simp only [opCmp, hb, hi, okB])
  simp [b_is_one_of, nf, ↓el_of e]
theorem enc_at (l : Leaf) (h : HS) (i : Nat) (d : D) (e : [.str l.name, .int l.x, .int l.y, .int l.far, encH l.shut, .str l.hand, encH l.opened][i]? = some d) : opIx l.enc (.int i) h = .ok d h := i_at _ i e _ rfl (fun _ z => by cases z)
theorem r_is_leaf_form (k : Nat) (l : Leaf) (hl : l.Ok) (h : HS) : evF pg (k + 4) f_is_leaf_form [l.enc] h = .ok (.bl true) h := by
  rw [u_is_leaf_form]
  have q0 : opIx l.enc (.int 0) h = .ok (.str l.name) h := enc_at l h 0 _ rfl
  have q3 : opIx l.enc (.int 3) h = .ok (.int l.far) h := enc_at l h 3 _ rfl
  have q4 : opIx l.enc (.int 4) h = .ok (encH l.shut) h := enc_at l h 4 _ rfl
  have q5 : opIx l.enc (.int 5) h = .ok (.str l.hand) h := enc_at l h 5 _ rfl
  have q6 : opIx l.enc (.int 6) h = .ok (encH l.opened) h := enc_at l h 6 _ rfl
  have qs : opSl l.enc (.int 1) (.int 3) h = .ok (.tup [.int l.x, .int l.y]) h := rfl
  have nfe : isFn l.enc = false := rfl
  have ln : evF pg (k + 3) f_is_tuple_of [l.enc, .int 7] h = .ok (.bl true) h := r_is_tuple_of _ _ _ _
  have t5 : evF pg (k + 3) f_is_one_of [.str l.hand, gl_TURNS] h = .ok (.bl true) h := r_is_one_of _ _ _ _ _ rfl (fun _ z => by cases z) rfl rfl (by rcases hl.ha with e | e <;> rw [e] <;> simp)
  have ne : opCmp .ne (encH l.shut) (encH l.opened) h = .ok (.bl true) h := by
    have hh : ¬ l.shut.1 = l.opened.1 ∨ ¬ l.shut.2 = l.opened.2 := by
      by_cases c : l.shut.1 = l.opened.1
      · exact .inr fun z => hl.ne (Prod.ext c z)
      · exact .inl c
    simp [opCmp, encH, deref, eqOf, finD, D.fine, okB, D.eqv, D.eqvs]
    rcases hh with z | z <;> simp [z]
  have hf := hl.f0
  have hf' : l.far ≤ 99 := by have := hl.f1; omega
  simp [b_is_leaf_form, nfe, permOf, ↓el_of ln, ↓el_of q0, ↓el_of q3, ↓el_of q4, ↓el_of q5, ↓el_of q6, ↓el_of qs, ↓el_of (r_is_name _ _ _ hl.nm), el_evO, isNil]
  rw [el_of (comp_mapD (fun _ => D.bl true) h [.int l.x, .int l.y] ?H)]
  case H =>
    intro d hd
    obtain ⟨c, rfl, hc'⟩ : ∃ c, d = .int c ∧ (0 ≤ c ∧ c ≤ 199) := by
      have := hl.x0; have := hl.x1; have := hl.y0; have := hl.y1
      simp at hd
      rcases hd with rfl | rfl
      · exact ⟨_, rfl, by omega, by omega⟩
      · exact ⟨_, rfl, by omega, by omega⟩
    refine (el_id _).symm.trans ?_
    simp [blkE, wipeD, noNdf, permOf, ↓el_of (r_is_place_number _ _ _ hc'.1 hc'.2)]
  simp [allB, lim, ↓el_of q3, ↓el_of q4, ↓el_of q5, ↓el_of q6, gl_MOST_LONG, ↓el_of (r_is_number _ _ _ _ _), hf, hf', ↓el_of t5, permOf, ↓el_of (r_is_heading_form _ _ hl.sh _), ↓el_of (r_is_heading_form _ _ hl.op _), ↓el_of ne]
end VE
set_option Elab.async false
set_option linter.all false
set_option maxRecDepth 100000
set_option maxHeartbeats 1000000
set_option autoImplicit false
/-! P2: what a run can come to; loops by what they keep -/
namespace VE
open PySem
def Has (r : R D) (Q : D → HS → Prop) : Prop := ∃ d h', r = .ok d h' ∧ Q d h'
theorem Has.ok {d : D} {h : HS} {Q : D → HS → Prop} (q : Q d h) : Has (.ok d h) Q := ⟨d, h, rfl, q⟩
theorem Has.imp {r : R D} {Q Q' : D → HS → Prop} (H : Has r Q) (f : ∀ d h, Q d h → Q' d h) : Has r Q' := by
  obtain ⟨d, h, e, q⟩ := H
  exact ⟨d, h, e, f d h q⟩
/-- a run, and then what is done with what it gives -/
theorem Has.el {r : R D} {Q Q' : D → HS → Prop} {X : Nat → D → HS → R D} {B : R D} {k : D → HS → R D} (H : Has r Q) (f : ∀ d h, Q d h → Has (k d h) Q') : Has (r.el X B k) Q' := by
  obtain ⟨d, h, rfl, q⟩ := H
  exact f d h q
/-- the same, for any outcome -/
theorem Has.elim {r : R D} {Q : D → HS → Prop} {β : Type} {X : Nat → D → HS → β} {B : β} {k : D → HS → β} {G : β → Prop} (H : Has r Q) (f : ∀ d h, Q d h → G (k d h)) : G (r.el X B k) := by
  obtain ⟨d, h, rfl, q⟩ := H
  exact f d h q
section
variable {st : D → Env → HS → R Env} {b : Env → HS → Out} {xs : List D} {ρ : Env} {h : HS} {β : Type} {nx : Env → HS → β} {rt : D → HS → β} {bk ct : Env → HS → β} {ex : Nat → D → Env → HS → β} {bd : β}
/-- a turn that goes on -/
abbrev Turn (P : Env → HS → Prop) (o : Out) : Prop := ∃ ρ' h', o = .nx ρ' h' ∧ P ρ' h'
/-- a for loop that comes to its end -/
theorem el_fo (P : Nat → Env → HS → Prop) {G : β → Prop} (p0 : P 0 ρ h) (step : ∀ j x ρ h, xs[j]? = some x → P j ρ h → Turn (P (j + 1)) (turnO st b x ρ h)) (fin : ∀ ρ' h', P xs.length ρ' h' → G (nx ρ' h')) :
    G ((foGo st b xs ρ h).el nx rt bk ct ex bd) := by
  obtain ⟨ρ', h', e, p⟩ := fo_inv (st := st) (b := b) P xs 0 ρ h p0 fun j x ρ h hx p => by
    rw [Nat.zero_add] at p ⊢
    exact step j x ρ h hx p
  rw [e]
  rw [Nat.zero_add] at p
  exact fin ρ' h' p
inductive WO where
  | stop (ρ : Env) (h : HS) | more (ρ : Env) (h : HS) | no
def turnW (c : Env → HS → R D) (b : Env → HS → Out) (ρ : Env) (h : HS) : WO :=
  (c ρ h).el (fun _ _ _ => .no) .no fun d h1 => onB d ((b ρ h1).el .more (fun _ _ => .no) .stop .more (fun _ _ _ _ => .no) .no) (.stop ρ h1) .no
theorem wh_turn {c : Env → HS → R D} {n : Nat} {ρ : Env} {h : HS} : (∀ ρ' h', turnW c b ρ h = .stop ρ' h' → whGo c b (n + 1) ρ h = .nx ρ' h') ∧ ∀ ρ' h', turnW c b ρ h = .more ρ' h' → whGo c b (n + 1) ρ h = whGo c b n ρ' h' := by
  rw [wh_el]
  unfold turnW
  cases c ρ h with
  | ok d h1 =>
    simp only [el_ok]
    cases d <;> try (constructor <;> (intro ρ' h' e; cases e; done))
    rename_i t
    cases t with
    | false =>
      constructor
      · intro ρ' h' e; cases e; rfl
      · intro ρ' h' e; cases e
    | true =>
      simp only [onB]
      cases b ρ h1 <;> constructor <;> intro ρ' h' e <;> cases e <;> rfl
  | exc c d h1 => constructor <;> (intro ρ' h' e; cases e)
  | bad => constructor <;> (intro ρ' h' e; cases e)
theorem wh_run {c : Env → HS → R D} (P : Nat → Env → HS → Prop) (Z : Env → HS → Prop)
    (step : ∀ m ρ h, P m ρ h → (∃ ρ' h', turnW c b ρ h = .stop ρ' h' ∧ Z ρ' h') ∨ ∃ m' ρ' h', turnW c b ρ h = .more ρ' h' ∧ m' < m ∧ P m' ρ' h') :
    ∀ (n m : Nat) (ρ : Env) (h : HS), P m ρ h → m < n → ∃ ρ' h', whGo c b n ρ h = .nx ρ' h' ∧ Z ρ' h'
  | 0, m, ρ, h, _, l => absurd l (Nat.not_lt_zero _)
  | n + 1, m, ρ, h, p, l => by
    rcases step m ρ h p with ⟨ρ', h', e, z⟩ | ⟨m', ρ', h', e, lt, p'⟩
    · exact ⟨ρ', h', wh_turn.1 ρ' h' e, z⟩
    · obtain ⟨ρ2, h2, e2, z⟩ := wh_run P Z step n m' ρ' h' p' (by omega)
      exact ⟨ρ2, h2, by rw [wh_turn.2 ρ' h' e, e2], z⟩
/-- a turn of a while loop: it stops, or it goes on with less to do -/
abbrev TurnW (P : Nat → Env → HS → Prop) (Z : Env → HS → Prop) (m : Nat) (o : WO) : Prop := (∃ ρ' h', o = .stop ρ' h' ∧ Z ρ' h') ∨ ∃ m' ρ' h', o = .more ρ' h' ∧ m' < m ∧ P m' ρ' h'
theorem el_wh {c : Env → HS → R D} (P : Nat → Env → HS → Prop) (Z : Env → HS → Prop) {G : β → Prop} (n m : Nat) (p0 : P m ρ h) (l : m < n)
    (step : ∀ m ρ h, P m ρ h → TurnW P Z m (turnW c b ρ h)) (fin : ∀ ρ' h', Z ρ' h' → G (nx ρ' h')) :
    G ((whGo c b n ρ h).el nx rt bk ct ex bd) := by
  obtain ⟨ρ', h', e, z⟩ := wh_run (b := b) P Z step n m ρ h p0 l
  rw [e]
  exact fin ρ' h' z
end
section
variable {f : D → HS → R (Option D)} {β : Type} {X : Nat → D → HS → β} {B : β} {k : List D → HS → β}
theorem el_comp (P : HS → Prop) (Q : D → D → Prop) {G : β → Prop} (xs : List D) (h : HS) (p0 : P h) (step : ∀ x ∈ xs, ∀ h, P h → ∃ y h', f x h = .ok (some y) h' ∧ P h' ∧ Q x y) (fin : ∀ ys h', P h' → ys.length = xs.length → (∀ p ∈ xs.zip ys, Q p.1 p.2) → G (k ys h')) : G ((compGo f xs h).el X B k) := by
  obtain ⟨ys, h', e, p, l, q⟩ := comp_dr (f := f) P Q xs h p0 step
  rw [e]
  exact fin ys h' p l q
end
theorem zip_ys {α β : Type} {xs : List α} {ys : List β} (l : ys.length = xs.length) {y : β} (hy : y ∈ ys) : ∃ x, (x, y) ∈ xs.zip ys ∧ x ∈ xs := by
  obtain ⟨i, hi, rfl⟩ := List.mem_iff_getElem.mp hy
  refine ⟨xs[i]'(by omega), ?_, List.getElem_mem _⟩
  rw [List.mem_iff_getElem]
  exact ⟨i, by simp; omega, by simp⟩
/-! enumerate, slices -/
theorem enum_item {xs : List D} {j : Nat} {p : D} (h : (enumD xs)[j]? = some p) : ∃ x, xs[j]? = some x ∧ p = .tup [.int j, x] := by
  unfold enumD at h
  rw [List.getElem?_map] at h
  cases q : (List.range xs.length)[j]? with
  | none => rw [q] at h; cases h
  | some i =>
    rw [q] at h
    obtain ⟨hl, e⟩ := List.getElem?_eq_some_iff.mp q
    rw [List.getElem_range] at e
    subst e
    have hl' : j < xs.length := by simpa using hl
    refine ⟨xs[j], List.getElem?_eq_getElem hl', ?_⟩
    have h := (Option.some.inj h).symm
    rw [h]
    show D.tup [.int (j : Nat), xs.getD j .non] = _
    rw [List.getD_eq_getElem?_getD, List.getElem?_eq_getElem hl'] <;> rfl
theorem enum_len (xs : List D) : (enumD xs).length = xs.length := by simp [enumD]
theorem enum_tup (xs : List D) (h : HS) : opEnum (.tup xs) h = .ok (.lst (enumD xs)) h := rfl
theorem sIx_none (n d : Nat) : HT.sIx n d none = d := rfl
theorem sIx_nat {n : Nat} (d j : Nat) (hj : j ≤ n) : HT.sIx n d (some (j : Int)) = j := by
  rw [HT.sIx_nat]; omega
theorem take_tup (xs : List D) (j : Nat) (hj : j ≤ xs.length) (h : HS) : opSl (.tup xs) .non (.int j) h = .ok (.tup (xs.take j)) h := by
  have : cutD xs none (some (j : Int)) = xs.take j := by simp [cutD, sIx_none, sIx_nat _ _ hj]
  simp only [opSl, partOf, this]
end VE
set_option Elab.async false
set_option linter.all false
set_option maxRecDepth 100000
set_option maxHeartbeats 1000000
set_option autoImplicit false
/-! Ld: wrong_at, houses -/
namespace VE
open PySem
/-- a function handed on, called -/
noncomputable def appF (k : Nat) (fr : D) (as : List D) (h : HS) : R D := match fr with
  | .fn c caps => evG pg k c caps as h
  | .gfn f => evF pg k f as h
  | _ => .bad
theorem r_wrong_at (k : Nat) (xs : List D) (most fr : D) (h : HS) (nf : isFn most = false) (nx : ∀ x ∈ xs, isFn x = false) (hm : ∀ i, i < xs.length → opCmp .eq (.int i) most h = .ok (.bl false) h)
    (hr : ∀ i x, xs[i]? = some x → appF k fr [x, .tup (xs.take i)] h = .ok (.bl true) h) : evF pg (k + 1) f_wrong_at [.tup xs, most, fr] h = .ok (.lst []) h := by
  rw [u_wrong_at]
  simp [b_wrong_at, enum_tup]
  refine el_fo (G := fun r : R D => r = R.ok (D.lst []) h) (fun _ ρ h' => ∃ a b : Option D, ρ = [some (D.tup xs), some most, some fr, a, b] ∧ h' = h) ⟨_, _, rfl, rfl⟩ ?_ ?_
  · rintro j p ρ h' hj ⟨a, b, rfl, rfl⟩
    obtain ⟨x, hx, rfl⟩ := enum_item hj
    have hl := (List.getElem?_eq_some_iff.mp hx).1
    refine ⟨[some (.tup xs), some most, some fr, some (.int j), some x], h', ?_, _, _, rfl, rfl⟩
    unfold turnO
    have e1 := hm j hl
    have nfx := nx x (List.mem_of_getElem? hx)
    have e2 := hr j x hx
    have e3 := take_tup xs j (Nat.le_of_lt hl) h'
    cases fr <;> try (cases e2; done)
    · rename_i c caps
      have e2 : evG pg k c caps [x, .tup (xs.take j)] h' = .ok (.bl true) h' := e2
      simp [nf, nfx, ↓el_of e1, el_evO, ↓el_of e3, ↓el_of e2]
    · rename_i f
      have e2 : evF pg k f [x, .tup (xs.take j)] h' = .ok (.bl true) h' := e2
      simp [nf, nfx, ↓el_of e1, el_evO, ↓el_of e3, ↓el_of e2]
  · rintro ρ h' ⟨a, b, rfl, rfl⟩
    simp
end VE
set_option Elab.async false
set_option linter.all false
set_option maxRecDepth 100000
set_option maxHeartbeats 1000000
set_option autoImplicit false
/-! Le: a leaf behind others -/
namespace VE
open PySem
theorem letters_lt : ∀ c ∈ lettersL, c < 1114112 := by
  have : (lettersL.all fun c => decide (c < 1114112)) = true := by decide +kernel
  intro c hc
  exact of_decide_eq_true (List.all_eq_true.mp this c hc)
theorem NameOk.str {x : Str} (n : NameOk x) : PyData.strOk x = true := by
  unfold PyData.strOk
  rw [← Array.all_toList, List.all_eq_true]
  intro c hc
  exact decide_eq_true (letters_lt c (n.2.1 c hc))
theorem Leaf.Ok.fine {l : Leaf} (o : l.Ok) (n : Nat) : D.fine (n + 3) l.enc = true := by
  have h1 := o.nm.str
  have h2 : PyData.strOk l.hand = true := by
    rcases o.ha with e | e <;> rw [e] <;> decide +kernel
  simp [Leaf.enc, encH, D.fine, h1, h2]
theorem Leaf.nfn (l : Leaf) : isFn l.enc = false := rfl
theorem Leaf.nrf (l : Leaf) : noref l.enc = true := by simp [Leaf.enc, encH]
theorem leaves_fin {ls : List Leaf} (o : ∀ l ∈ ls, l.Ok) : finD (.tup (ls.map Leaf.enc)) = true := by
  unfold finD D.fine
  rw [List.all_eq_true]
  intro d hd
  obtain ⟨l, hl, rfl⟩ := List.mem_map.mp hd
  exact (o l hl).fine 26
def slt (x y : Str) : Prop := x.cps.toList < y.cps.toList
theorem r_hinge_of (k : Nat) (l : Leaf) (h : HS) : evF pg (k + 1) f_hinge_of [l.enc] h = .ok (.tup [.int l.x, .int l.y]) h := by
  rw [u_hinge_of]
  have qs : opSl l.enc (.int 1) (.int 3) h = .ok (.tup [.int l.x, .int l.y]) h := rfl
  simp [b_hinge_of, Leaf.nfn, el_evO, ↓el_of qs]
theorem r_is_next_leaf (k : Nat) (l : Leaf) (hl : l.Ok) (bs : List Leaf) (hb : ∀ b ∈ bs, b.Ok) (hn : bs.length ≤ lim) (h : HS) (h1 : ∀ b, bs.getLast? = some b → slt b.name l.name) (h2 : ∀ b ∈ bs, ¬ (b.x = l.x ∧ b.y = l.y)) :
    evF pg (k + 5) f_is_next_leaf [l.enc, .tup (bs.map Leaf.enc)] h = .ok (.bl true) h := by
  have q0 : opIx l.enc (.int 0) h = .ok (.str l.name) h := enc_at l h 0 _ rfl
  have hin : opCmp .notin (.tup [.int l.x, .int l.y]) (.lst (bs.map fun b => .tup [.int b.x, .int b.y])) h = .ok (.bl true) h := by
    have e : inOf (.tup [.int l.x, .int l.y]) false (bs.map fun b => D.tup [.int b.x, .int b.y]) = some false := by
      have f1 : finD (.tup [.int l.x, .int l.y]) = true := by simp [finD, D.fine]
      have f2 : finD (.lst (bs.map fun b => D.tup [.int b.x, .int b.y])) = true := by simp [finD, D.fine]
      have f3 : ((bs.map fun b => D.tup [.int b.x, .int b.y]).any fun z => D.eqv z (.tup [.int l.x, .int l.y])) = false := by
        rw [List.any_eq_false]
        intro z hz e
        obtain ⟨b, hb', rfl⟩ := List.mem_map.mp hz
        simp [D.eqv, D.eqvs] at e
        exact h2 b hb' e
      simp only [inOf, D.flat, Bool.false_and, Bool.false_eq_true, if_false, f1, f2, Bool.not_false, Bool.and_true, if_true, f3]
    simp only [opCmp, seqOf, isTupD, e, Option.map_some, okB, Bool.not_false]
  have fin : ∀ (kk : Bool → R D), True := fun _ => trivial
  rw [u_is_next_leaf]
  have tail : ∀ (h0 : HS), h0 = h → (compGo (compF (.var 2) [2] [some l.enc, some (.tup (bs.map Leaf.enc)), none] (fun ρ' h' => R.ok (.bl true) h') (ev (evF pg (k + 4)) (evG pg (k + 4)) (.callK f_hinge_of (.cons (.var 2) .nil) .nil [] [0]))) (bs.map Leaf.enc) h0) = .ok (bs.map fun b => D.tup [.int b.x, .int b.y]) h0 := by
    rintro h0 rfl
    refine comp_map Leaf.enc (fun b => D.tup [.int b.x, .int b.y]) h0 bs fun b hb' => ?_
    refine (el_id _).symm.trans ?_
    simp [blkE, wipeD, noNdf, Leaf.nfn, permOf, ↓el_of (r_hinge_of _ _ _)]
  have hlast : ∀ b, bs.getLast? = some b → opCmp .ge (.str b.name) (.str l.name) h = .ok (.bl false) h := fun b hb => by
    have : b.name.cps.toList < l.name.cps.toList := h1 b hb
    simp only [opCmp, D.alike, if_true, D.lt]
    rw [decide_eq_true this]
    rfl
  by_cases hbs : bs = []
  · subst hbs
    simp only [List.map_nil] at hin tail ⊢
    simp [b_is_next_leaf, Leaf.nfn, permOf, ↓el_of (r_is_leaf_form _ _ hl _), ↓el_of (r_hinge_of _ _ _), ↓el_of (tail h rfl), lim, ↓el_of hin]
  · have hl' := List.getLast?_eq_getLast hbs
    have ix : opIx (.tup (bs.map Leaf.enc)) (.int (-1)) h = .ok (bs.getLast hbs).enc h := by
      have e : bs.map Leaf.enc = bs.dropLast.map Leaf.enc ++ [(bs.getLast hbs).enc] := by
        conv => lhs; rw [← List.dropLast_concat_getLast hbs]
        simp
      have := L2.atI_last (bs.dropLast.map Leaf.enc) (bs.getLast hbs).enc
      rw [← e] at this
      simp only [opIx, seqOf, this]
    have q0' : opIx (bs.getLast hbs).enc (.int 0) h = .ok (.str (bs.getLast hbs).name) h := enc_at _ h 0 _ rfl
    have ne : opCmp .ne (.tup (bs.map Leaf.enc)) (.tup []) h = .ok (.bl true) h := by
      cases bs with
      | nil => exact absurd rfl hbs
      | cons b r => exact c_net h (leaves_fin hb)
    simp [b_is_next_leaf, Leaf.nfn, permOf, ↓el_of (r_is_leaf_form _ _ hl _), ↓el_of ne, opNeg, ↓el_of ix, ↓el_of q0, ↓el_of q0', ↓el_of (hlast _ hl'), ↓el_of (r_hinge_of _ _ _), ↓el_of (tail h rfl), ↓el_of hin]
    simpa using hn
end VE
set_option Elab.async false
set_option linter.all false
set_option maxRecDepth 100000
set_option maxHeartbeats 1000000
set_option autoImplicit false
/-! P3: the order of data, sorted(..) -/
namespace VE
open PySem PySem.W PyProof.Rows
theorem dlt_eq (a b : D) : D.lt a b = dataLt a.py b.py := by
  cases a <;> cases b <;> first
    | rfl
    | (show decide _ = _; rw [show D.py (.int _) = .int _ from rfl, show D.py (.int _) = .int _ from rfl, dataLt_int]; done)
    | (simp only [D.lt, D.py, dataLt_int]; done)
    | (simp only [D.lt, D.py, dataLt_str]; done)
theorem dlt_irr (a : D) : D.lt a a = false := by rw [dlt_eq]; exact lex_irrefl _
theorem dlt_trans {a b c : D} (h1 : D.lt a b = true) (h2 : D.lt b c = true) : D.lt a c = true := by
  rw [dlt_eq] at *
  exact lex_trans _ _ _ h1 h2
theorem dlt_neg {a b c : D} (h : D.lt a c = true) : D.lt a b = true ∨ D.lt b c = true := by
  simp only [dlt_eq] at *
  exact lex_negTrans _ _ _ h
theorem dlt_asy {a b : D} (h : D.lt a b = true) : D.lt b a = false := by
  cases q : D.lt b a with
  | false => rfl
  | true => rw [dlt_irr a |> fun z => (dlt_trans h q).symm.trans z] 
theorem sortD_perm (xs : List D) : (sortD xs).Perm xs := List.mergeSort_perm _ _
theorem sortD_mem {xs : List D} {d : D} : d ∈ sortD xs ↔ d ∈ xs := (sortD_perm xs).mem_iff
theorem sortD_len (xs : List D) : (sortD xs).length = xs.length := (sortD_perm xs).length_eq
theorem sortD_pw (xs : List D) : (sortD xs).Pairwise fun a b => D.lt b a = false := by
  have := List.pairwise_mergeSort (le := fun a b : D => !D.lt b a) (fun a b c h1 h2 => by
    rw [Bool.not_eq_true'] at *
    cases q : D.lt c a with
    | false => rfl
    | true => rcases dlt_neg (b := b) q with z | z
              · rw [z] at h2; cases h2
              · rw [z] at h1; cases h1) (fun a b => by
    cases q : D.lt b a with
    | false => simp
    | true => rw [dlt_asy q]; simp) xs
  exact this.imp fun h => by rwa [Bool.not_eq_true'] at h
/-- two rows in order with the same members are the same -/
theorem sorted_eq {xs ys : List D} (p : xs.Perm ys) (hx : xs.Pairwise fun a b => D.lt b a = false) (hy : ys.Pairwise fun a b => D.lt b a = false) (inj : ∀ a ∈ xs, ∀ b ∈ xs, keyToks a.py = keyToks b.py → a = b) : xs = ys :=
  List.Perm.eq_of_pairwise (le := fun a b => D.lt b a = false) (fun a b ha hb h1 h2 => inj a ha b (p.mem_iff.mpr hb) (by
    rw [dlt_eq] at h1 h2
    exact lex_total _ _ h2 h1)) hx hy p
theorem sortD_eq {xs ys : List D} (p : xs.Perm ys) (inj : ∀ a ∈ xs, ∀ b ∈ xs, keyToks a.py = keyToks b.py → a = b) : sortD xs = sortD ys :=
  sorted_eq ((sortD_perm xs).trans (p.trans (sortD_perm ys).symm)) (sortD_pw xs) (sortD_pw ys) fun a ha b hb => inj a (sortD_mem.mp ha) b (sortD_mem.mp hb)
theorem str_inj (x y : Str) (h : keyToks (D.str x).py = keyToks (D.str y).py) : D.str x = D.str y := by
  have e : x.cps.toList = y.cps.toList := by
    have h : [Sum.inr x.cps.toList] = [Sum.inr (α := Int) y.cps.toList] := h
    injection h with h _
    injection h
  rw [str_of_cps e]
/-- texts in order, none twice -/
theorem strict_of {xs : List D} (nd : xs.Nodup) (hp : xs.Pairwise fun a b => D.lt b a = false) (inj : ∀ a ∈ xs, ∀ b ∈ xs, keyToks a.py = keyToks b.py → a = b) : xs.Pairwise fun a b => D.lt a b = true := by
  refine List.Pairwise.imp_of_mem (R := fun a b => D.lt b a = false ∧ a ≠ b) (fun {a b} ha hb h => ?_) (List.Pairwise.and hp nd)
  cases q : D.lt a b with
  | true => rfl
  | false =>
    refine absurd (inj a ha b hb ?_) h.2
    have h1 := h.1
    rw [dlt_eq] at h1 q
    exact lex_total _ _ q h1
theorem dlt_ints : ∀ xs ys : List Int, D.lt (.tup (xs.map .int)) (.tup (ys.map .int)) = decide (xs < ys) := fun xs ys => by
  rw [dlt_eq]
  have e : ∀ zs : List Int, D.pys (zs.map D.int) = zs.map PyData.int := fun zs => by
    induction zs with
    | nil => rfl
    | cons z zs ih => simp [D.pys, D.py, ih]
  show dataLt (.tuple (D.pys _)) (.tuple (D.pys _)) = _
  rw [e, e]
  exact dataLt_ints xs ys
end VE
set_option Elab.async false
set_option linter.all false
set_option maxRecDepth 100000
set_option maxHeartbeats 1000000
set_option autoImplicit false
/-! Lf: walls, houses -/
namespace VE
open PySem
theorem pw_take {α : Type} {R : α → α → Prop} {l : List α} (p : l.Pairwise R) {i : Nat} {x : α} (hx : l[i]? = some x) : ∀ b ∈ l.take i, R b x := by
  intro b hb
  obtain ⟨hl, rfl⟩ := List.getElem?_eq_some_iff.mp hx
  obtain ⟨j, hj, rfl⟩ := List.mem_iff_getElem.mp hb
  rw [List.getElem_take]
  rw [List.length_take] at hj
  exact List.pairwise_iff_getElem.mp p j i (by omega) hl (by omega)
theorem alike_ints : ∀ xs ys : List Int, PySem.W.alikeAll (D.pys (xs.map .int)) (D.pys (ys.map .int)) = true
  | [], ys => by cases ys <;> rfl
  | x :: xs, [] => rfl
  | x :: xs, y :: ys => by
    show (PySem.W.alike (.int x) (.int y) && PySem.W.alikeAll (D.pys (xs.map .int)) (D.pys (ys.map .int))) = true
    rw [alike_ints xs ys]
    rfl
theorem alike_tups (xs ys : List Int) : D.alike (.tup (xs.map .int)) (.tup (ys.map .int)) = true := by
  have f : ∀ zs : List Int, D.fine 30 (.tup (zs.map .int)) = true := fun zs => by simp [D.fine]
  show (D.fine 30 _ && D.fine 30 _ && PySem.W.alikeAll _ _) = true
  rw [f, f]
  simpa using alike_ints xs ys
structure Wall where
  a : Int
  b : Int
  c : Int
  d : Int
def Wall.row (w : Wall) : List Int := [w.a, w.b, w.c, w.d]
def Wall.enc (w : Wall) : D := .tup (w.row.map .int)
structure Wall.Ok (w : Wall) : Prop where
  lo : ∀ i ∈ w.row, 0 ≤ i ∧ i ≤ 199
  le : ¬ [w.c, w.d] < [w.a, w.b]
theorem Wall.nfn (w : Wall) : isFn w.enc = false := rfl
theorem Wall.nrf (w : Wall) : noref w.enc = true := by simp [Wall.enc, Wall.row]
theorem walls_fin (ls : List Wall) : finD (.tup (ls.map Wall.enc)) = true := by simp [finD, D.fine, Wall.enc, Wall.row]
theorem r_is_wall_form (k : Nat) (w : Wall) (o : w.Ok) (h : HS) : evF pg (k + 4) f_is_wall_form [w.enc] h = .ok (.bl true) h := by
  have ln : evF pg (k + 3) f_is_tuple_of [w.enc, .int 4] h = .ok (.bl true) h := r_is_tuple_of _ _ _ _
  have s1 : opSl w.enc .non (.int 2) h = .ok (.tup ([w.a, w.b].map .int)) h := rfl
  have s2 : opSl w.enc (.int 2) .non h = .ok (.tup ([w.c, w.d].map .int)) h := rfl
  have s0 : opSeq w.enc h = .ok (.lst (w.row.map .int)) h := rfl
  have c : opCmp .le (.tup ([w.a, w.b].map .int)) (.tup ([w.c, w.d].map .int)) h = .ok (.bl true) h := by
    have e : (!D.lt (.tup ([w.c, w.d].map .int)) (.tup ([w.a, w.b].map .int))) = true := by
      rw [dlt_ints, decide_eq_false o.le]
      rfl
    have e2 := alike_tups [w.a, w.b] [w.c, w.d]
    simp only [opCmp, e2, if_true, e]
  rw [u_is_wall_form]
  simp [b_is_wall_form, Wall.nfn, permOf, ↓el_of ln, ↓el_of s0]
  rw [el_of (comp_map D.int (fun _ => D.bl true) h w.row ?H)]
  case H =>
    intro i hi
    have := o.lo i hi
    refine (el_id _).symm.trans ?_
    simp [blkE, wipeD, noNdf, permOf, ↓el_of (r_is_place_number _ _ _ this.1 this.2)]
  have l4 : (w.row.map fun _ => D.bl true).length ≤ lim := by simp [Wall.row, lim]
  rw [if_pos l4]
  simp [allB_true, el_evO, ↓el_of s1, ↓el_of s2, Wall.nfn]
  exact by rw [show ([D.int w.a, D.int w.b] : List D) = [w.a, w.b].map .int from rfl, show ([D.int w.c, D.int w.d] : List D) = [w.c, w.d].map .int from rfl, el_of c]; simp
theorem r_is_above_last (k : Nat) (w : Wall) (bs : List Wall) (h : HS) (h1 : ∀ b, bs.getLast? = some b → b.row < w.row) : evF pg (k + 1) f_is_above_last [w.enc, .tup (bs.map Wall.enc)] h = .ok (.bl true) h := by
  rw [u_is_above_last]
  by_cases hbs : bs = []
  · subst hbs
    simp [b_is_above_last, Wall.nfn]
  · have hl' := List.getLast?_eq_getLast hbs
    have ix : opIx (.tup (bs.map Wall.enc)) (.int (-1)) h = .ok (bs.getLast hbs).enc h := by
      have e : bs.map Wall.enc = bs.dropLast.map Wall.enc ++ [(bs.getLast hbs).enc] := by
        conv => lhs; rw [← List.dropLast_concat_getLast hbs]
        simp
      have := L2.atI_last (bs.dropLast.map Wall.enc) (bs.getLast hbs).enc
      rw [← e] at this
      simp only [opIx, seqOf, this]
    have ne : opCmp .eq (.tup (bs.map Wall.enc)) (.tup []) h = .ok (.bl false) h := by
      cases bs with
      | nil => exact absurd rfl hbs
      | cons b r => exact c_eqt h (walls_fin (b :: r))
    have lt : opCmp .lt (bs.getLast hbs).enc w.enc h = .ok (.bl true) h := by
      have e1 := alike_tups (bs.getLast hbs).row w.row
      have e2 := dlt_ints (bs.getLast hbs).row w.row
      rw [decide_eq_true (h1 _ hl')] at e2
      show (if D.alike (bs.getLast hbs).enc w.enc = true then R.ok (D.bl (D.lt (bs.getLast hbs).enc w.enc)) h else .bad) = _
      rw [if_pos (show D.alike (bs.getLast hbs).enc w.enc = true from e1)]
      exact congrArg (fun z => R.ok (D.bl z) h) e2
    simp [b_is_above_last, Wall.nfn, ↓el_of ne, opNeg, ↓el_of ix, ↓el_of lt]
theorem r_cb_1 (k : Nat) (w : Wall) (o : w.Ok) (bs : List Wall) (h : HS) (h1 : ∀ b, bs.getLast? = some b → b.row < w.row) : evG pg (k + 5) 1 [] [w.enc, .tup (bs.map Wall.enc)] h = .ok (.bl true) h := by
  rw [uc_1]
  simp [cb_1, Wall.nfn, permOf, ↓el_of (r_is_wall_form _ _ o _), ↓el_of (r_is_above_last _ _ _ _ h1)]
theorem r_wrong_walls (k : Nat) (ws : List Wall) (o : ∀ w ∈ ws, w.Ok) (p : ws.Pairwise fun a b => a.row < b.row) (hl : ws.length ≤ 8) (h : HS) : evF pg (k + 7) f_wrong_walls [.tup (ws.map Wall.enc)] h = .ok (.lst []) h := by
  have e : evF pg (k + 6) f_wrong_at [.tup (ws.map Wall.enc), gl_MOST_WALLS, .fn 1 []] h = .ok (.lst []) h := by
    refine r_wrong_at _ _ _ _ _ rfl (fun x hx => ?_) (fun i hi => ?_) fun i x hx => ?_
    · obtain ⟨w, _, rfl⟩ := List.mem_map.mp hx
      rfl
    · rw [List.length_map] at hi
      have : ¬ ((i : Int) = 8) := by omega
      simp [gl_MOST_WALLS, this]
    · rw [List.getElem?_map] at hx
      cases q : ws[i]? with
      | none => rw [q] at hx; cases hx
      | some w =>
        rw [q] at hx
        cases hx
        show evG pg (k + 5) 1 [] [w.enc, .tup ((ws.map Wall.enc).take i)] h = _
        rw [← List.map_take]
        exact r_cb_1 _ _ (o w (List.mem_of_getElem? q)) _ _ fun b hb => pw_take p q b (List.mem_of_getLast? hb)
  rw [u_wrong_walls]
  simp [b_wrong_walls, capsOf, ↓el_of e]
structure House where
  leaves : List Leaf
  walls : List Wall
def House.ls (H : House) : D := .tup (H.leaves.map Leaf.enc)
def House.ws (H : House) : D := .tup (H.walls.map Wall.enc)
def House.enc (H : House) : D := .tup [H.ls, H.ws]
structure House.Ok (H : House) : Prop where
  ne : H.leaves ≠ []
  few : H.leaves.length ≤ 6
  leaf : ∀ l ∈ H.leaves, l.Ok
  names : H.leaves.Pairwise fun a b => slt a.name b.name
  spots : H.leaves.Pairwise fun a b => ¬ (a.x = b.x ∧ a.y = b.y)
  fewW : H.walls.length ≤ 8
  wall : ∀ w ∈ H.walls, w.Ok
  wallP : H.walls.Pairwise fun a b => a.row < b.row
theorem r_wrong_from_one (k : Nat) (H : House) (o : H.Ok) (h : HS) : evF pg (k + 7) f_wrong_from_one [H.ls, gl_MOST_LEAVES, .gfn f_is_next_leaf] h = .ok (.lst []) h := by
  have e : evF pg (k + 6) f_wrong_at [H.ls, gl_MOST_LEAVES, .gfn f_is_next_leaf] h = .ok (.lst []) h := by
    refine r_wrong_at _ _ _ _ _ rfl (fun x hx => ?_) (fun i hi => ?_) fun i x hx => ?_
    · obtain ⟨w, _, rfl⟩ := List.mem_map.mp hx
      rfl
    · rw [List.length_map] at hi
      have : ¬ ((i : Int) = 7) := by have := o.few; omega
      simp [gl_MOST_LEAVES, this]
    · rw [List.getElem?_map] at hx
      cases q : H.leaves[i]? with
      | none => rw [q] at hx; cases hx
      | some l =>
        rw [q] at hx
        cases hx
        show evF pg (k + 5) f_is_next_leaf [l.enc, .tup ((H.leaves.map Leaf.enc).take i)] h = _
        rw [← List.map_take]
        refine r_is_next_leaf _ _ (o.leaf l (List.mem_of_getElem? q)) _ (fun b hb => o.leaf b (List.mem_of_mem_take hb)) ?_ _ (fun b hb => pw_take o.names q b (List.mem_of_getLast? hb)) fun b hb => pw_take o.spots q b hb
        have := o.few
        rw [List.length_take]
        exact Nat.le_trans (Nat.min_le_right _ _) (Nat.le_trans this (by decide))
  rw [u_wrong_from_one]
  have ne : opCmp .eq H.ls (.tup []) h = .ok (.bl false) h := by
    unfold House.ls
    cases q : H.leaves with
    | nil => exact absurd q o.ne
    | cons b r =>
      refine c_eqt h ?_
      have := leaves_fin o.leaf
      rwa [q] at this
  have nf : isFn H.ls = false := rfl
  have it : opBi .isTup [H.ls] h = .ok (.bl true) h := rfl
  have nf2 : isFn gl_MOST_LEAVES = false := rfl
  simp [b_wrong_from_one, nf, nf2, ↓el_of it, ↓el_of ne, ↓el_of e]
theorem r_is_house_form (k : Nat) (H : House) (o : H.Ok) (h : HS) : evF pg (k + 8) f_is_house_form [H.enc] h = .ok (.bl true) h := by
  have ln : evF pg (k + 7) f_is_tuple_of [H.enc, .int 2] h = .ok (.bl true) h := r_is_tuple_of _ _ _ _
  have i0 : opIx H.enc (.int 0) h = .ok H.ls h := i_at _ 0 (xs := [H.ls, H.ws]) rfl _ rfl (fun _ z => by cases z)
  have i1 : opIx H.enc (.int 1) h = .ok H.ws h := i_at _ 1 (xs := [H.ls, H.ws]) rfl _ rfl (fun _ z => by cases z)
  have nf : isFn H.enc = false := rfl
  rw [u_is_house_form]
  simp [b_is_house_form, nf, permOf, ↓el_of ln, ↓el_of i0, ↓el_of i1, ↓el_of (r_wrong_from_one _ _ o _), ↓el_of (r_wrong_walls _ _ o.wall o.wallP o.fewW _)]
  have e : evF pg (k + 7) f_wrong_walls [H.ws] h = .ok (.lst []) h := r_wrong_walls _ _ o.wall o.wallP o.fewW _
  simp [↓el_of e]
theorem r_check_house (k : Nat) (H : House) (o : H.Ok) (h : HS) : evF pg (k + 9) f_check_house [H.enc] h = .ok .non h := by
  have nf : isFn H.enc = false := rfl
  rw [u_check_house]
  simp [b_check_house, nf, permOf, ↓el_of (r_is_house_form _ _ o _)]
end VE
set_option Elab.async false
set_option linter.all false
set_option maxRecDepth 100000
set_option maxHeartbeats 1000000
set_option autoImplicit false
/-! Lg: draws -/
namespace VE
open PySem
theorem set_at {w : Nat} {h : HS} {xs : List D} (e : h[w]? = some (.lst xs)) (i : Nat) (hi : i < xs.length) (d : D) : opSet (.ref w) (.int i) d h = .ok () (h.set w (.lst (xs.set i d))) := by
  have hx : L2.ixN xs.length (i : Int) = some i := by
    unfold L2.ixN
    rw [if_pos (by omega), if_pos (by omega)]
    simp
  simp only [opSet, e, hx]
theorem ref_ix {w : Nat} {h : HS} {xs : List D} (e : h[w]? = some (.lst xs)) (i : Nat) {d : D} (x : xs[i]? = some d) : opIx (.ref w) (.int i) h = .ok d h := i_at _ i x _ (by simp only [seqOf, e]) (fun _ z => by cases z)
theorem r_dip (k : Nat) {w : Nat} {h : HS} (W : Wl w h) (m : Int) (h1 : 0 < m) (h2 : m < 1073741824) : Has (evF pg (k + 1) f__law_dip [.ref w, .int m] h) fun d h' => ∃ i, d = .int i ∧ 0 ≤ i ∧ i < m ∧ Dr w h h' := by
  have hl := W.lt
  obtain ⟨a, b, c, pa, e⟩ := W
  have s0 : ∀ {h : HS} {a b c : Int}, h[w]? = some (.lst [.int a, .int b, .int c]) → opIx (.ref w) (.int 0) h = .ok (.int a) h := fun e => ref_ix e 0 rfl
  have s1 : ∀ {h : HS} {a b c : Int}, h[w]? = some (.lst [.int a, .int b, .int c]) → opIx (.ref w) (.int 1) h = .ok (.int b) h := fun e => ref_ix e 1 rfl
  have s2 : ∀ {h : HS} {a b c : Int}, h[w]? = some (.lst [.int a, .int b, .int c]) → opIx (.ref w) (.int 2) h = .ok (.int c) h := fun e => ref_ix e 2 rfl
  rw [u__law_dip]
  by_cases ha : 0 < a
  · have dv : opBi .divmod [.int a, .int m] h = .ok (.tup [.int (a / m), .int (a % m)]) h := by
      simp only [opBi, h1, h2, and_self, if_true]
    have st := set_at e 0 (by simp) (.int (a / m))
    have dr : Dr w h (h.set w (.lst [.int (a / m), .int b, .int c])) := ⟨_, _, _, Int.ediv_nonneg pa (by omega), rfl⟩
    refine ⟨.int (a % m), _, ?_, a % m, rfl, Int.emod_nonneg _ (by omega), Int.emod_lt_of_pos _ h1, dr⟩
    simp [b__law_dip, ↓el_of (s0 e), ha, ↓el_of dv]
    rw [show opSet (.ref w) (.int 0) (.int (a / m)) h = _ from st]
    simp [dr.cut0]
  · have e2 : (h.set w (.lst [.int a, .int b, .int (c + 1)]))[w]? = some (.lst [.int a, .int b, .int (c + 1)]) := List.getElem?_set_self hl
    have st := set_at e 2 (by simp) (.int (c + 1))
    have st2 := fun z : Int => set_at e2 1 (by simp) (.int z)
    have e3 : ∀ z : Int, (h.set w (.lst [.int a, .int z, .int (c + 1)]))[w]? = some (.lst [.int a, .int z, .int (c + 1)]) := fun z => List.getElem?_set_self hl
    have dr : ∀ z : Int, Dr w h (h.set w (.lst [.int a, .int z, .int (c + 1)])) := fun z => ⟨a, z, c + 1, pa, rfl⟩
    refine ⟨.int ((((b * 48271 + 7919 * (c + 1) + 113).fmod 2147480009).fdiv 163).fmod m), _, ?_, _, rfl, Int.fmod_nonneg_of_pos _ h1, Int.fmod_lt_of_pos _ h1, dr ((b * 48271 + 7919 * (c + 1) + 113).fmod 2147480009)⟩
    have m1 : opBin .mul (.int b) (.int 48271) (h.set w (.lst [.int a, .int b, .int (c + 1)])) = .ok (.int (b * 48271)) _ := b_mul _ _ _ (by simp [small])
    have m2 : opBin .mul (.int 7919) (.int (c + 1)) (h.set w (.lst [.int a, .int b, .int (c + 1)])) = .ok (.int (7919 * (c + 1))) _ := b_mul _ _ _ (by simp [small])
    simp [b__law_dip, ↓el_of (s0 e), ha, ↓el_of (s2 e)]
    rw [show opSet (.ref w) (.int 2) (.int (c + 1)) h = _ from st]
    simp [↓el_of (s1 e2), ↓el_of (s2 e2), ↓el_of m1, ↓el_of m2, b_mod]
    rw [show opSet (.ref w) (.int 1) (.int _) (h.set w (.lst [.int a, .int b, .int (c + 1)])) = _ from st2 _]
    simp only [el_ok]
    simp [↓el_of (s1 (e3 _)), b_mod, b_fdiv, show m ≠ 0 by omega, (dr _).cut0]
/-- one of a row that is a value -/
theorem r_one (k : Nat) {w : Nat} {h : HS} (W : Wl w h) (S : D) (xs : List D) (hs : ∀ h, seqOf S h = some xs) (hn : ∀ h, opBi .len [S] h = .ok (.int xs.length) h) (nf : isFn S = false) (ns : ∀ x, S ≠ .str x) (ne : xs ≠ []) (hl : xs.length < 1073741824) (hx : ∀ x ∈ xs, noref x = true) :
    Has (evF pg (k + 2) f__law_one [.ref w, S] h) fun d h' => d ∈ xs ∧ Dr w h h' := by
  have h0 : 0 < xs.length := List.length_pos_iff.mpr ne
  rw [u__law_one]
  simp [b__law_one, nf, ↓el_of (hn h), permOf]
  refine Has.elim (G := fun r => Has r _) (r_dip k W (xs.length : Int) (by omega) (by omega)) ?_
  rintro _ h' ⟨i, rfl, i0, i1, dr⟩
  obtain ⟨n, rfl⟩ : ∃ n : Nat, i = n := ⟨i.toNat, by omega⟩
  have hn : n < xs.length := by omega
  have ix : opIx S (.int (n : Int)) h' = .ok xs[n] h' := i_at _ n (List.getElem?_eq_getElem hn) _ (hs h') ns
  rw [el_of ix]
  rw [dr.cut0 true _ (hx _ (List.getElem_mem hn))]
  exact Has.ok ⟨List.getElem_mem hn, dr⟩
theorem r_one_lst (k : Nat) {w : Nat} {h : HS} (W : Wl w h) (xs : List D) (ne : xs ≠ []) (hl : xs.length < 1073741824) (hx : ∀ x ∈ xs, noref x = true) : Has (evF pg (k + 2) f__law_one [.ref w, .lst xs] h) fun d h' => d ∈ xs ∧ Dr w h h' :=
  r_one k W _ xs (fun _ => rfl) (fun _ => rfl) rfl (fun _ z => by cases z) ne hl hx
theorem r_one_tup (k : Nat) {w : Nat} {h : HS} (W : Wl w h) (xs : List D) (ne : xs ≠ []) (hl : xs.length < 1073741824) (hx : ∀ x ∈ xs, noref x = true) : Has (evF pg (k + 2) f__law_one [.ref w, .tup xs] h) fun d h' => d ∈ xs ∧ Dr w h h' :=
  r_one k W _ xs (fun _ => rfl) (fun _ => rfl) rfl (fun _ z => by cases z) ne hl hx
/-- one letter -/
theorem r_one_str (k : Nat) {w : Nat} {h : HS} (W : Wl w h) : Has (evF pg (k + 2) f__law_one [.ref w, .str "abcdefghijklmnopqrstuvwxyz"] h) fun d h' => (∃ c ∈ lettersL, d = .str ⟨#[c]⟩) ∧ Dr w h h' := by
  have hlen : ("abcdefghijklmnopqrstuvwxyz" : Str).length = 26 := by decide +kernel
  have hcp : ("abcdefghijklmnopqrstuvwxyz" : Str).cps.toList = lettersL := by decide +kernel
  have hL : lettersL.length = 26 := by decide +kernel
  have l : opBi .len [.str "abcdefghijklmnopqrstuvwxyz"] h = .ok (.int 26) h := by
    rw [l_str _ _ (by rw [hlen]; decide), hlen]
    rfl
  rw [u__law_one]
  simp [b__law_one, ↓el_of l, permOf]
  refine Has.elim (G := fun r => Has r _) (r_dip k W 26 (by omega) (by omega)) ?_
  rintro _ h' ⟨i, rfl, i0, i1, dr⟩
  obtain ⟨n, rfl⟩ : ∃ n : Nat, i = n := ⟨i.toNat, by omega⟩
  have hn : n < lettersL.length := by omega
  have ix : opIx (.str "abcdefghijklmnopqrstuvwxyz") (.int (n : Int)) h' = .ok (.str ⟨#[lettersL[n]]⟩) h' := by
    have : L2.atI lettersL (n : Int) = some lettersL[n] := L2.atI_nat (List.getElem?_eq_getElem hn)
    unfold opIx
    simp only [hlen, hcp, this]
    rw [if_pos (by decide)]
  rw [el_of ix]
  rw [dr.cut0 true _ (by simp)]
  exact Has.ok ⟨⟨_, List.getElem_mem hn, rfl⟩, dr⟩
end VE
set_option Elab.async false
set_option linter.all false
set_option maxRecDepth 100000
set_option maxHeartbeats 1000000
set_option autoImplicit false
/-! Lh: words -/
namespace VE
open PySem
/-! texts of letters -/
def txt (cs : List Nat) : Str := ⟨cs.toArray⟩
theorem txt_cps (cs : List Nat) : (txt cs).cps.toList = cs := by simp [txt]
theorem txt_len (cs : List Nat) : (txt cs).length = cs.length := by simp [txt, Str.length]
theorem txt_app (a b : List Nat) : txt a ++ txt b = txt (a ++ b) := by
  show (⟨_ ++ _⟩ : Str) = _
  simp [txt]
theorem txt_inj {a b : List Nat} (h : txt a = txt b) : a = b := by
  have := congrArg (fun x : Str => x.cps.toList) h
  simpa [txt_cps] using this
theorem txt_of (x : Str) : x = txt x.cps.toList := by simp [txt]
theorem txt_cut (cs : List Nat) (n : Nat) : cutStr (txt cs) none (some (n : Int)) = txt (cs.take n) := by
  unfold cutStr
  rw [sIx_none, HT.sIx_nat, txt_len, txt_cps]
  simp only [List.drop_zero, Nat.sub_zero]
  show txt _ = _
  congr 1
  rw [List.take_eq_take_iff]
  omega
theorem join_one : ∀ cs : List Nat, Str.join (⟨#[]⟩ : Str) (cs.map fun c => (⟨#[c]⟩ : Str)) = txt cs
  | [] => rfl
  | [c] => rfl
  | c :: d :: r => by
    have ih := join_one (d :: r)
    rw [List.map_cons] at ih
    rw [List.map_cons, List.map_cons, Str.join, ih]
    · show txt [c] ++ txt [] ++ txt (d :: r) = _
      rw [txt_app, txt_app]
      rfl
    · simp
theorem glue_one (cs : List Nat) : Txt.join (⟨#[]⟩ : Str) (cs.map fun c => (⟨#[c]⟩ : Str)) = txt cs := by
  show Builtin.Str.glued _ _ = _
  rw [StrLaws.glued_eq_join, join_one]
/-! the words to choose from -/
def takenL : List D := match gl_WORDS with | .ctp ws => ws | _ => []
theorem taken_strs : ∃ ts : List (List Nat), takenL = ts.map (fun t => D.str (txt t)) ∧ ts.length = 27 ∧ ∀ t ∈ ts, t.getLast? ≠ some 113 := by
  refine ⟨(takenL.map fun d => match d with | .str x => x.cps.toList | _ => []), ?_, by decide +kernel, ?_⟩
  · rw [List.map_map]
    symm
    have : ∀ d ∈ takenL, (match d with | .str _ => true | _ => false) = true := by
      have h : (takenL.all fun d => match d with | .str _ => true | _ => false) = true := by decide +kernel
      exact List.all_eq_true.mp h
    refine (List.map_congr_left (g := id) fun d hd => ?_).trans (List.map_id _)
    have := this d hd
    cases d <;> first | (cases this; done) | skip
    rename_i x
    show D.str (txt x.cps.toList) = D.str x
    rw [← txt_of]
  · have h : ((takenL.map fun d => match d with | .str x => x.cps.toList | _ => []).all fun t => decide (t.getLast? ≠ some 113)) = true := by decide +kernel
    intro t ht
    exact of_decide_eq_true (List.all_eq_true.mp h t ht)
def cands (cs : List Nat) : List (List Nat) := cs :: (lettersL.map (fun s => cs.take 6 ++ [s] ++ [113]) ++ lettersL.map fun s => cs.take 6 ++ [s] ++ [122])
theorem letters_nodup : lettersL.Nodup := by decide +kernel
theorem letters_len : lettersL.length = 26 := by decide +kernel
theorem letters_qz : 113 ∈ lettersL ∧ 122 ∈ lettersL := by decide +kernel
/-- a word that is not there yet -/
theorem cand_new (cs : List Nat) (fs : List (List Nat)) (hf : fs.length < 26) : ∃ c ∈ cands cs, txt c ∉ fs.map txt ∧ D.str (txt c) ∉ takenL := by
  obtain ⟨ts, e, _, hq⟩ := taken_strs
  refine Classical.byContradiction fun hno => ?_
  have all : ∀ s ∈ lettersL, cs.take 6 ++ [s] ++ [113] ∈ fs := fun s hs => by
    refine Classical.byContradiction fun hn => hno ⟨cs.take 6 ++ [s] ++ [113], ?_, fun hm => ?_, fun hm => ?_⟩
    · exact List.mem_cons_of_mem _ (List.mem_append_left _ (List.mem_map.mpr ⟨s, hs, rfl⟩))
    · obtain ⟨f, hf, e⟩ := List.mem_map.mp hm
      rw [txt_inj e] at hf
      exact hn hf
    · rw [e] at hm
      obtain ⟨t, ht, e2⟩ := List.mem_map.mp hm
      injection e2 with e2
      have := hq t ht
      rw [txt_inj e2] at this
      simp at this
  have nd : (lettersL.map fun s => cs.take 6 ++ [s] ++ [113]).Nodup := by
    refine List.pairwise_map.mpr (letters_nodup.imp fun {a b} ne e => ne ?_)
    have e := List.append_cancel_right (List.append_cancel_right (by simpa using e : (cs.take 6 ++ [a]) ++ [113] = (cs.take 6 ++ [b]) ++ [113]) |> fun z => by simpa using z : cs.take 6 ++ [a] ++ [] = cs.take 6 ++ [b] ++ [])
    simpa using e
  have := nd.length_le_of_subset (l₂ := fs) fun x hx => by
    obtain ⟨s, hs, rfl⟩ := List.mem_map.mp hx
    exact all s hs
  rw [List.length_map, letters_len] at this
  omega
/-- such a word is a name -/
theorem cand_ok (cs : List Nat) (hc : ∀ c ∈ cs, c ∈ lettersL) (h1 : cs ≠ []) (h8 : cs.length ≤ 8) : ∀ c ∈ cands cs, D.str (txt c) ∉ takenL → NameOk (txt c) := by
  intro c hm ht
  have key : c ≠ [] ∧ (∀ x ∈ c, x ∈ lettersL) ∧ c.length ≤ 8 := by
    unfold cands at hm
    have tk : ∀ x ∈ cs.take 6, x ∈ lettersL := fun x hx => hc x (List.mem_of_mem_take hx)
    have tl : (cs.take 6).length ≤ 6 := by rw [List.length_take]; exact Nat.min_le_left _ _
    simp only [List.mem_cons, List.mem_append, List.mem_map] at hm
    rcases hm with rfl | ⟨s, hs, rfl⟩ | ⟨s, hs, rfl⟩
    · exact ⟨h1, hc, h8⟩
    · refine ⟨by simp, fun x hx => ?_, by simp only [List.length_append, List.length_singleton]; omega⟩
      simp only [List.mem_append, List.mem_singleton] at hx
      rcases hx with (hx | rfl) | rfl
      · exact tk x hx
      · exact hs
      · exact letters_qz.1
    · refine ⟨by simp, fun x hx => ?_, by simp only [List.length_append, List.length_singleton]; omega⟩
      simp only [List.mem_append, List.mem_singleton] at hx
      rcases hx with (hx | rfl) | rfl
      · exact tk x hx
      · exact hs
      · exact letters_qz.2
  exact ⟨by rw [txt_cps]; exact key.1, by rw [txt_cps]; exact key.2.1, by rw [txt_len]; exact key.2.2, ht⟩
end VE
set_option Elab.async false
set_option linter.all false
set_option maxRecDepth 100000
set_option maxHeartbeats 2000000
set_option autoImplicit false
/-! Li: the words of a house -/
namespace VE
open PySem
def lettersS : Str := "abcdefghijklmnopqrstuvwxyz"
theorem rng_len (n : Nat) : (rngD 0 (n : Int)).length = n := by simp [rngD]
/-- a word drawn: letters, 1 to 8 -/
theorem r_word (k : Nat) {w : Nat} {h : HS} (W : Wl w h) (r1 r3 r4 r5 r6 r7 r8 r9 r10 : Option D) :
    Has (ev (evF pg (k + 2)) (evG pg (k + 2)) (.mt .join (.cst (.str "")) (.cons (.comp (.irng (.cons (.bin .add (.cst (.int 1)) (.callK f__law_dip (.cons (.var 0) (.cons (.callK f__law_one (.cons (.var 0) (.cons (.lst (.cons (.cst (.int 2)) (.cons (.cst (.int 3)) (.cons (.cst (.int 8)) .nil)))) .nil)) .nil [] [0, 1]) .nil)) .nil [] [0, 1])) .nil)) (.var 7) .nil (.callK f__law_one (.cons (.var 0) (.cons (.var 2) .nil)) .nil [] [0, 1]) [("turn", 7)]) .nil)) [some (.ref w), r1, some (.str lettersS), r3, r4, r5, r6, r7, r8, r9, r10] h)
      fun d h' => ∃ cs : List Nat, d = .str (txt cs) ∧ cs ≠ [] ∧ cs.length ≤ 8 ∧ (∀ c ∈ cs, c ∈ lettersL) ∧ Dr w h h' := by
  rw [← el_id (ev _ _ _ _ _)]
  simp [mtOk, permOf]
  refine Has.elim (G := fun r => Has r _) (r_one_lst k W [.int 2, .int 3, .int 8] (by simp) (by simp) (by simp)) ?_
  rintro d h1 ⟨hd, dr1⟩
  obtain ⟨m, rfl, m1, m2⟩ : ∃ m : Int, d = .int m ∧ 0 < m ∧ m ≤ 8 := by
    simp at hd
    rcases hd with rfl | rfl | rfl
    · exact ⟨2, rfl, by decide, by decide⟩
    · exact ⟨3, rfl, by decide, by decide⟩
    · exact ⟨8, rfl, by decide, by decide⟩
  refine Has.elim (G := fun r => Has r _) (r_dip (k + 1) (W.dr dr1) m m1 (by omega)) ?_
  rintro _ h2' ⟨i, rfl, i0, i1, dr2⟩
  obtain ⟨n, hn⟩ : ∃ n : Nat, 1 + i = n := ⟨(1 + i).toNat, by omega⟩
  have hr : opRng [.int (1 + i)] h2' = .ok (.lst (rngD 0 (n : Int))) h2' := by
    have : okEnd (n : Int) = true := by
      unfold okEnd
      rw [decide_eq_true_eq]
      constructor <;> omega
    rw [hn]
    simp only [opRng, this, if_true]
  have W2 := (W.dr dr1).dr dr2
  simp [↓el_of hr]
  refine el_comp (G := fun r => Has r _) (fun h' => Dr w h2' h') (fun _ y => ∃ c ∈ lettersL, y = .str ⟨#[c]⟩) _ _ W2.refl ?_ ?_
  · intro x _ h' dr
    obtain ⟨d, h'', e, ⟨c, hc, rfl⟩, dr'⟩ := r_one_str k (W2.dr dr)
    refine ⟨_, h'', ?_, dr.trans dr', c, hc, rfl⟩
    refine (el_id _).symm.trans ?_
    simp [blkE, wipeD, noNdf, permOf, lettersS, ↓el_of e]
  · intro ys h' dr hl hq
    rw [rng_len] at hl
    have hy : ∀ y ∈ ys, ∃ c ∈ lettersL, y = .str ⟨#[c]⟩ := fun y hy => by
      obtain ⟨x, hx, _⟩ := zip_ys (xs := rngD 0 (n : Int)) (by rw [hl, rng_len]) hy
      exact hq _ hx
    obtain ⟨cs, hcs, e⟩ : ∃ cs : List Nat, (∀ c ∈ cs, c ∈ lettersL) ∧ ys = cs.map fun c => D.str ⟨#[c]⟩ := by
      clear hl hq
      induction ys with
      | nil => exact ⟨[], by simp, rfl⟩
      | cons y ys ih =>
        obtain ⟨c, hc, rfl⟩ := hy y List.mem_cons_self
        obtain ⟨cs, h1, rfl⟩ := ih fun z hz => hy z (List.mem_cons_of_mem _ hz)
        exact ⟨c :: cs, fun z hz => (List.mem_cons.mp hz).elim (fun e => e ▸ hc) (h1 z), rfl⟩
    subst e
    rw [List.length_map] at hl
    have hn8 : n ≤ 8 := by omega
    have hs : ∀ cs : List Nat, strsOf (cs.map fun c => D.str ⟨#[c]⟩) = some (cs.map fun c => (⟨#[c]⟩ : Str)) := fun cs => by
      induction cs with
      | nil => rfl
      | cons c cs ih => simp [strsOf, ih]
    have hsum : ∀ cs : List Nat, ((cs.map fun c => (⟨#[c]⟩ : Str)).map (·.length)).sum = cs.length := fun cs => by
      induction cs with
      | nil => rfl
      | cons c cs ih =>
        simp only [List.map_cons, List.sum_cons, List.length_cons] at ih ⊢
        rw [ih]
        show 1 + _ = _
        omega
    have j : opMt .join (.str "") [.lst (cs.map fun c => D.str ⟨#[c]⟩)] h' = .ok (.str (txt cs)) h' := by
      have e0 : ("" : Str) = ⟨#[]⟩ := rfl
      have : ((cs.map fun c => (⟨#[c]⟩ : Str)).map (·.length)).sum + (cs.map fun c => (⟨#[c]⟩ : Str)).length * ("" : Str).length ≤ lim := by
        rw [hsum, e0]
        show cs.length + _ * 0 ≤ 1000000
        omega
      simp only [opMt, seqOf, hs, this, if_true]
      rw [e0, glue_one]
    have hlim : (cs.map fun c => D.str ⟨#[c]⟩).length ≤ lim := by rw [List.length_map]; exact Nat.le_trans (by omega) (by decide : 8 ≤ lim)
    rw [if_pos hlim]
    simp only [el_ok, its_lst, j]
    refine Has.ok ⟨cs, rfl, fun z => ?_, by omega, hcs, (dr1.trans dr2).trans dr⟩
    subst z
    simp at hl
    omega
end VE
set_option Elab.async false
set_option linter.all false
set_option maxRecDepth 100000
set_option maxHeartbeats 2000000
set_option autoImplicit false
/-! Lj: the words of a house, all -/
namespace VE
open PySem
def lt0 : E := (.lst (.cons (.cst (.str "again")) (.cons (.cst (.str "at")) (.cons (.cst (.str "beat")) (.cons (.cst (.str "calm")) (.cons (.cst (.str "door")) (.cons (.cst (.str "ends")) (.cons (.cst (.str "first")) (.cons (.cst (.str "from")) (.cons (.cst (.str "go")) (.cons (.cst (.str "house")) (.cons (.cst (.str "in")) (.cons (.cst (.str "left")) (.cons (.cst (.str "long")) .nil))))))))))))))
def tk0 : List D := [.str "again", .str "at", .str "beat", .str "calm", .str "door", .str "ends", .str "first", .str "from", .str "go", .str "house", .str "in", .str "left", .str "long"]
theorem ev_lt0 (F : Nat → List D → HS → R D) (G : Nat → List D → List D → HS → R D) (ρ : Env) (h : HS) : ev F G lt0 ρ h = .ok (.lst tk0) h := rfl
def lt1 : E := (.lst (.cons (.cst (.str "never")) (.cons (.cst (.str "none")) (.cons (.cst (.str "open")) (.cons (.cst (.str "post")) (.cons (.cst (.str "right")) (.cons (.cst (.str "second")) (.cons (.cst (.str "shut")) (.cons (.cst (.str "stand")) (.cons (.cst (.str "sweep")) (.cons (.cst (.str "to")) (.cons (.cst (.str "turns")) .nil))))))))))))
def tk1 : List D := [.str "never", .str "none", .str "open", .str "post", .str "right", .str "second", .str "shut", .str "stand", .str "sweep", .str "to", .str "turns"]
theorem ev_lt1 (F : Nat → List D → HS → R D) (G : Nat → List D → List D → HS → R D) (ρ : Env) (h : HS) : ev F G lt1 ρ h = .ok (.lst tk1) h := rfl
def lt2 : E := (.lst (.cons (.cst (.str "wall")) (.cons (.cst (.str "way")) (.cons (.cst (.str "wedge")) .nil))))
def tk2 : List D := [.str "wall", .str "way", .str "wedge"]
theorem ev_lt2 (F : Nat → List D → HS → R D) (G : Nat → List D → List D → HS → R D) (ρ : Env) (h : HS) : ev F G lt2 ρ h = .ok (.lst tk2) h := rfl
theorem tk_all : tk0 ++ tk1 ++ tk2 = takenL := rfl
theorem tk_len : tk0.length = 13 ∧ tk1.length = 11 ∧ tk2.length = 3 := ⟨rfl, rfl, rfl⟩
theorem b_words_eq : b__law_words = (.seq (.asg (.tup (.cons (.var 2) (.cons (.var 3) .nil))) (.tup (.cons (.cst (.str "abcdefghijklmnopqrstuvwxyz")) (.cons (.lstO .nil) .nil)))) (.seq (.asg (.var 4) lt0) (.seq (.asg (.var 4) (.bin .add (.var 4) lt1)) (.seq (.asg (.var 4) (.bin .add (.var 4) lt2)) (.seq (.fo (.var 5) (.irng (.cons (.var 1) .nil)) (.seq (.asg (.var 6) (.mt .join (.cst (.str "")) (.cons (.comp (.irng (.cons (.bin .add (.cst (.int 1)) (.callK f__law_dip (.cons (.var 0) (.cons (.callK f__law_one (.cons (.var 0) (.cons (.lst (.cons (.cst (.int 2)) (.cons (.cst (.int 3)) (.cons (.cst (.int 8)) .nil)))) .nil)) .nil [] [0, 1]) .nil)) .nil [] [0, 1])) .nil)) (.var 7) .nil (.callK f__law_one (.cons (.var 0) (.cons (.var 2) .nil)) .nil [] [0, 1]) [("turn", 7)]) .nil))) (.seq (.asg (.var 8) (.bin .add (.bin .add (.lst (.cons (.var 6) .nil)) (.comp (.iseq (.var 2)) (.var 9) .nil (.bin .add (.bin .add (.sl (.var 6) .nil (.cst (.int 6))) (.var 9)) (.cst (.str "q"))) [("sign", 9)])) (.comp (.iseq (.var 2)) (.var 9) .nil (.bin .add (.bin .add (.sl (.var 6) .nil (.cst (.int 6))) (.var 9)) (.cst (.str "z"))) [("sign", 9)]))) (.seq (.ex (.mt .append (.var 3) (.cons (.ix (.comp (.iseq (.var 8)) (.var 10) (.cmp .notin (.var 10) (.bin .add (.var 3) (.var 4))) (.var 10) [("each", 10)]) (.cst (.int 0))) .nil))) .skip)))) (.seq (.ret (.bi .tuple (.cons (.bi .sorted (.cons (.var 3) .nil)) .nil))) .skip)))))) := rfl
theorem notin_strs (c : List Nat) (ls : List (List Nat)) (h : HS) : opCmp .notin (.str (txt c)) (.lst (ls.map fun f => D.str (txt f))) h = .ok (.bl (!decide (c ∈ ls))) h := by
  have e : ((ls.map fun f => D.str (txt f)).any fun z => D.eqv z (.str (txt c))) = decide (c ∈ ls) := by
    rw [Bool.eq_iff_iff, List.any_eq_true, decide_eq_true_eq]
    constructor
    · rintro ⟨z, hz, e⟩
      obtain ⟨f, hf, rfl⟩ := List.mem_map.mp hz
      simp [D.eqv] at e
      rwa [← txt_inj e]
    · intro hm
      exact ⟨_, List.mem_map.mpr ⟨c, hm, rfl⟩, by simp [D.eqv]⟩
  have hi : inOf (.str (txt c)) false (ls.map fun f => D.str (txt f)) = some (decide (c ∈ ls)) := by
    unfold inOf
    rw [if_pos (by simp [D.flat]), e]
  simp only [opCmp, seqOf, isTupD, hi, Option.map_some, okB]
theorem letters_cps : lettersS.cps.toList = lettersL := by decide +kernel
/-! what is made of a word -/
theorem ev_pre (F : Nat → List D → HS → R D) (G : Nat → List D → List D → HS → R D) (cs : List Nat) (l8 : cs.length ≤ 8) (z : Nat) (zs : Str) (hz : zs = txt [z]) (r0 r1 r3 r4 r5 r7 r8 r9 r10 : Option D) (h : HS) :
    ev F G (.comp (.iseq (.var 2)) (.var 9) .nil (.bin .add (.bin .add (.sl (.var 6) .nil (.cst (.int 6))) (.var 9)) (.cst (.str zs))) [("sign", 9)]) [r0, r1, some (.str lettersS), r3, r4, r5, some (.str (txt cs)), r7, r8, r9, r10] h
      = .ok (.lst ((lettersL.map fun s => cs.take 6 ++ [s] ++ [z]).map fun c => D.str (txt c))) h := by
  have t6 : (cs.take 6).length ≤ 6 := by rw [List.length_take]; exact Nat.min_le_left _ _
  have s1 : opSl (.str (txt cs)) .non (.int 6) h = .ok (.str (txt (cs.take 6))) h := by
    have l : (txt cs).length ≤ lim := by rw [txt_len]; exact Nat.le_trans l8 (by decide)
    have e := txt_cut cs 6
    simp only [opSl, partOf, l, if_true]
    exact congrArg (fun z => R.ok (D.str z) h) e
  have s2 : ∀ c, opBin .add (.str (txt (cs.take 6))) (.str ⟨#[c]⟩) h = .ok (.str (txt (cs.take 6 ++ [c]))) h := fun c => by
    have l : (txt (cs.take 6)).length + (⟨#[c]⟩ : Str).length ≤ lim := by
      rw [txt_len]
      show _ + 1 ≤ 1000000
      omega
    rw [b_adds _ _ h l]
    exact congrArg (fun z => R.ok (D.str z) h) (txt_app (cs.take 6) [c])
  have s3 : ∀ c, opBin .add (.str (txt (cs.take 6 ++ [c]))) (.str zs) h = .ok (.str (txt (cs.take 6 ++ [c] ++ [z]))) h := fun c => by
    subst hz
    have l : (txt (cs.take 6 ++ [c])).length + (txt [z]).length ≤ lim := by
      rw [txt_len, txt_len]
      simp only [List.length_append, List.length_singleton]
      show _ ≤ 1000000
      omega
    rw [b_adds _ _ h l, txt_app]
  refine (el_id _).symm.trans ?_
  simp only [e_comp, e_iseq, e_var, getV_succ, getV_zero, isFn_str, Bool.false_eq_true, if_false, w_str, el_ok, its_lst, letters_cps]
  rw [el_of (comp_map (fun c : Nat => D.str ⟨#[c]⟩) (fun c => D.str (txt (cs.take 6 ++ [c] ++ [z]))) h lettersL ?H)]
  case H =>
    intro c hc
    refine (el_id _).symm.trans ?_
    simp [blkE, wipeD, noNdf, el_evO, ↓el_of s1, ↓el_of (s2 c)]
    rw [show cs.take 6 ++ c :: [z] = cs.take 6 ++ [c] ++ [z] by simp, el_of (s3 c)]
  rw [if_pos (by rw [List.length_map, letters_len]; decide), List.map_map]
  rfl
/-- the first that is not there yet -/
theorem ev_pick (F : Nat → List D → HS → R D) (G : Nat → List D → List D → HS → R D) (cs : List Nat) (fs : List (List Nat)) (hfl : fs.length < 26) (f : Nat) (r0 r1 r2 r5 r6 r7 r9 r10 : Option D) (h : HS) (hf : h[f]? = some (.lst (fs.map fun f => D.str (txt f)))) :
    ∃ c ∈ cands cs, c ∉ fs ∧ D.str (txt c) ∉ takenL ∧ ev F G (.ix (.comp (.iseq (.var 8)) (.var 10) (.cmp .notin (.var 10) (.bin .add (.var 3) (.var 4))) (.var 10) [("each", 10)]) (.cst (.int 0))) [r0, r1, r2, some (.ref f), some (.lst takenL), r5, r6, r7, some (.lst ((cands cs).map fun c => D.str (txt c))), r9, r10] h = .ok (.str (txt c)) h := by
  obtain ⟨ts, et, hts, _⟩ := taken_strs
  have ad : opBin .add (.ref f) (.lst takenL) h = .ok (.lst ((fs ++ ts).map fun f => D.str (txt f))) h := by
    have : (fs.map fun f => D.str (txt f)).length + takenL.length ≤ lim := by
      rw [et, List.length_map, List.length_map, hts]
      show _ ≤ 1000000
      omega
    show addL _ _ _ = _
    simp only [addL, lstOf, hf, this, if_true]
    rw [et, List.map_append]
  have run : (ev F G (.comp (.iseq (.var 8)) (.var 10) (.cmp .notin (.var 10) (.bin .add (.var 3) (.var 4))) (.var 10) [("each", 10)]) [r0, r1, r2, some (.ref f), some (.lst takenL), r5, r6, r7, some (.lst ((cands cs).map fun c => D.str (txt c))), r9, r10] h)
      = .ok (.lst ((cands cs).filterMap fun c => if c ∈ fs ++ ts then none else some (D.str (txt c)))) h := by
    refine (el_id _).symm.trans ?_
    simp only [e_comp, e_iseq, e_var, getV_succ, getV_zero, isFn_lst, Bool.false_eq_true, if_false, w_lst, el_ok, its_lst]
    rw [el_of (comp_fm (fun c => D.str (txt c)) (fun c => if c ∈ fs ++ ts then none else some (D.str (txt c))) h (cands cs) ?H)]
    case H =>
      intro c hc
      refine (el_id _).symm.trans ?_
      simp only [cf_el, List.map_cons, List.map_nil, stN_var, blkE, wipeD, noNdf, isNil_cmp, Bool.false_eq_true, if_false, e_cmp, e_bin, e_var, getV_succ, getV_zero, List.set_cons_zero, List.set_cons_succ, isFn_str, isFn_ref, isFn_lst, ↓el_of ad, ↓el_of (notin_strs c (fs ++ ts) h), onB_bl]
      by_cases hm : c ∈ fs ++ ts
      · simp [hm]
      · simp [hm]
    have hl : ((cands cs).filterMap fun c => if c ∈ fs ++ ts then none else some (D.str (txt c))).length ≤ lim := by
      refine Nat.le_trans (List.length_filterMap_le _ _) ?_
      simp only [cands, List.length_cons, List.length_append, List.length_map, letters_len]
      decide
    rw [if_pos hl]
  have memL : ∀ c, c ∉ fs ++ ts ↔ c ∉ fs ∧ D.str (txt c) ∉ takenL := fun c => by
    rw [et, List.mem_append, not_or]
    refine and_congr_right fun _ => not_congr ⟨fun hm => List.mem_map.mpr ⟨c, hm, rfl⟩, fun hm => ?_⟩
    obtain ⟨t, ht, e⟩ := List.mem_map.mp hm
    injection e with e
    rwa [← txt_inj e]
  cases q : (cands cs).filterMap fun c => if c ∈ fs ++ ts then none else some (D.str (txt c)) with
  | nil =>
    exfalso
    obtain ⟨c, hc, n1, n2⟩ := cand_new cs fs hfl
    have n1' : c ∉ fs := fun hm => n1 (List.mem_map.mpr ⟨c, hm, rfl⟩)
    have : D.str (txt c) ∈ (cands cs).filterMap fun c => if c ∈ fs ++ ts then none else some (D.str (txt c)) := List.mem_filterMap.mpr ⟨c, hc, by rw [if_neg ((memL c).mpr ⟨n1', n2⟩)]⟩
    rw [q] at this
    cases this
  | cons d ds =>
    have hd : d ∈ (cands cs).filterMap fun c => if c ∈ fs ++ ts then none else some (D.str (txt c)) := by rw [q]; exact List.mem_cons_self
    obtain ⟨c, hc, e⟩ := List.mem_filterMap.mp hd
    by_cases hm : c ∈ fs ++ ts
    · rw [if_pos hm] at e; cases e
    · rw [if_neg hm] at e
      cases e
      have := (memL c).mp hm
      refine ⟨c, hc, this.1, this.2, ?_⟩
      rw [q] at run
      refine (el_id _).symm.trans ?_
      have ix : opIx (.lst (D.str (txt c) :: ds)) (.int 0) h = .ok (.str (txt c)) h := i_at _ 0 (xs := D.str (txt c) :: ds) rfl _ rfl (fun _ z => by cases z)
      simp only [e_ix, ↓el_of run, e_cst, ↓el_of ix]
theorem r_words (k : Nat) {w : Nat} {h : HS} (W : Wl w h) (n : Nat) (hn : n ≤ 6) : Has (evF pg (k + 3) f__law_words [.ref w, .int n] h) fun d h' => ∃ ns : List Str, d = .tup (ns.map D.str) ∧ ns.length = n ∧ (∀ x ∈ ns, NameOk x) ∧ ns.Pairwise slt ∧ Dr w h h' := by
  have hr : ∀ h, opRng [.int (n : Int)] h = .ok (.lst (rngD 0 (n : Int))) h := fun h => by
    have : okEnd (n : Int) = true := by
      unfold okEnd
      rw [decide_eq_true_eq]
      constructor <;> omega
    simp only [opRng, this, if_true]
  have hw := W.lt
  obtain ⟨t0, t1, t2⟩ := tk_len
  have a1 : ∀ h, opBin .add (.lst tk0) (.lst tk1) h = .ok (.lst (tk0 ++ tk1)) h := fun h => b_addl h _ _ (by rw [t0, t1]; decide)
  have a2 : ∀ h, opBin .add (.lst (tk0 ++ tk1)) (.lst tk2) h = .ok (.lst takenL) h := fun h => (b_addl h _ _ (by rw [List.length_append, t0, t1, t2]; decide)).trans (by rw [tk_all])
  rw [u__law_words, b_words_eq]
  simp [↓el_of (ev_lt0 _ _ _ _), ↓el_of (ev_lt1 _ _ _ _), ↓el_of (ev_lt2 _ _ _ _), ↓el_of (a1 _), ↓el_of (a2 _), ↓el_of (hr _)]
  refine el_fo (G := fun r => Has r _) (fun j ρ h' => ∃ fs : List (List Nat), fs.length = j ∧ fs.Nodup ∧ (∀ f ∈ fs, NameOk (txt f)) ∧ (∃ r5 r6 r7 r8 r9 r10 : Option D, ρ = [some (.ref w), some (.int n), some (.str lettersS), some (.ref h.length), some (.lst takenL), r5, r6, r7, r8, r9, r10]) ∧
    ∃ h1, Dr w h h1 ∧ h' = h1 ++ [.lst (fs.map fun f => D.str (txt f))]) ⟨[], rfl, List.nodup_nil, by simp, ⟨_, _, _, _, _, _, rfl⟩, h, W.refl, rfl⟩ ?_ ?_
  · rintro j x ρ h' hx ⟨fs, hl, nd, nm, ⟨r5, r6, r7, r8, r9, r10, rfl⟩, h1, dr, rfl⟩
    have hj : j < n := by
      have := (List.getElem?_eq_some_iff.mp hx).1
      rwa [rng_len] at this
    have W1 := (W.dr dr).app [.lst (fs.map fun f => D.str (txt f))]
    unfold turnO
    simp only [s_seq, s_asg, t_var, List.set_cons_zero, List.set_cons_succ]
    refine Has.elim (G := Turn _) (r_word k W1 (some (.int n)) (some (.ref h.length)) (some (.lst takenL)) (some x) r6 r7 r8 r9 r10) ?_
    rintro _ h2 ⟨cs, rfl, ne, l8, hc, dr2⟩
    obtain ⟨h3, dr3, rfl⟩ := dr2.app (by rw [dr.len]; exact hw)
    have hlen : h3.length = h.length := by rw [dr3.len, dr.len]
    have hf : (h3 ++ [DO.lst (fs.map fun f => D.str (txt f))])[h.length]? = some (.lst (fs.map fun f => D.str (txt f))) := by
      rw [List.getElem?_append_right (by omega), hlen]; simp
    have p1 := ev_pre (evF pg (k + 2)) (evG pg (k + 2)) cs l8 113 "q" (by decide +kernel) (some (.ref w)) (some (.int n)) (some (.ref h.length)) (some (.lst takenL)) (some x) r7 r8 r9 r10 (h3 ++ [DO.lst (fs.map fun f => D.str (txt f))])
    have p2 := ev_pre (evF pg (k + 2)) (evG pg (k + 2)) cs l8 122 "z" (by decide +kernel) (some (.ref w)) (some (.int n)) (some (.ref h.length)) (some (.lst takenL)) (some x) r7 r8 r9 r10 (h3 ++ [DO.lst (fs.map fun f => D.str (txt f))])
    have a1 : opBin .add (.lst [.str (txt cs)]) (.lst ((lettersL.map fun s => cs.take 6 ++ [s] ++ [113]).map fun c => D.str (txt c))) (h3 ++ [DO.lst (fs.map fun f => D.str (txt f))]) = _ := b_addl _ _ _ (by rw [List.length_map, List.length_map, letters_len, List.length_singleton]; decide)
    have a2 : opBin .add (.lst ([.str (txt cs)] ++ (lettersL.map fun s => cs.take 6 ++ [s] ++ [113]).map fun c => D.str (txt c))) (.lst ((lettersL.map fun s => cs.take 6 ++ [s] ++ [122]).map fun c => D.str (txt c))) (h3 ++ [DO.lst (fs.map fun f => D.str (txt f))]) = .ok (.lst ((cands cs).map fun c => D.str (txt c))) (h3 ++ [DO.lst (fs.map fun f => D.str (txt f))]) := by
      refine (b_addl _ _ _ (by simp only [List.length_append, List.length_singleton, List.length_map, letters_len]; decide)).trans ?_
      unfold cands
      rw [List.map_cons, List.map_append]
      rfl
    obtain ⟨c, hcand, c1, c2, pk⟩ := ev_pick (evF pg (k + 2)) (evG pg (k + 2)) cs fs (by omega) h.length (some (.ref w)) (some (.int n)) (some (.str lettersS)) (some x) (some (.str (txt cs))) r7 r9 r10 _ hf
    have ap : opMt .append (.ref h.length) [.str (txt c)] (h3 ++ [DO.lst (fs.map fun f => D.str (txt f))]) = .ok .non (h3 ++ [DO.lst ((fs ++ [c]).map fun f => D.str (txt f))]) := by
      have hs : (h3 ++ [DO.lst (fs.map fun f => D.str (txt f))]).set h.length (DO.lst ((fs.map fun f => D.str (txt f)) ++ [D.str (txt c)])) = h3 ++ [DO.lst ((fs.map fun f => D.str (txt f)) ++ [D.str (txt c)])] := by
        rw [← hlen, List.set_append_right _ _ (Nat.le_refl _), Nat.sub_self]
        rfl
      have hl2 : (fs.map fun f => D.str (txt f)).length < lim := by rw [List.length_map]; exact Nat.lt_of_lt_of_le (by omega : fs.length < 26) (by decide)
      simp only [opMt, hf, hl2, if_true, hs, List.map_append, List.map_cons, List.map_nil]
    have mo : mtOk .append (.ref h.length) (h3 ++ [DO.lst (fs.map fun f => D.str (txt f))]) = true := by simp only [mtOk, hf]
    simp only [t_var, List.set_cons_zero, List.set_cons_succ, s_asg, e_bin, e_lst, e_cons, e_nil, e_var, getV_succ, getV_zero, isFn_str, Bool.false_eq_true, if_false, its_lst, ↓el_of p1, ↓el_of a1, ↓el_of p2, ↓el_of a2]
    simp only [s_seq, s_ex, e_mt, e_var, getV_succ, getV_zero, isFn_ref, Bool.false_eq_true, if_false, mo, if_true, e_cons, ↓el_of pk, e_nil, its_lst, ↓el_of ap, s_skip]
    refine ⟨_, _, rfl, fs ++ [c], by simp [hl], ?_, ?_, ⟨_, _, _, _, _, _, rfl⟩, h3, dr.trans dr3, rfl⟩
    · rw [List.nodup_append]
      refine ⟨nd, by simp, fun a ha b hb e => ?_⟩
      simp only [List.mem_singleton] at hb
      subst hb e
      exact c1 ha
    · intro f hf'
      rcases List.mem_append.mp hf' with hf' | hf'
      · exact nm f hf'
      · simp only [List.mem_singleton] at hf'
        subst hf'
        exact cand_ok cs hc ne l8 _ hcand c2
  · rintro ρ h' ⟨fs, hl, nd, nm, ⟨r5, r6, r7, r8, r9, r10, rfl⟩, h1, dr, rfl⟩
    rw [rng_len] at hl
    have hlen : h1.length = h.length := dr.len
    have hf : (h1 ++ [DO.lst (fs.map fun f => D.str (txt f))])[h.length]? = some (.lst (fs.map fun f => D.str (txt f))) := by
      rw [List.getElem?_append_right (by omega), hlen]; simp
    have so : opBi .sorted [.ref h.length] (h1 ++ [DO.lst (fs.map fun f => D.str (txt f))]) = .ok (.lst (sortD (fs.map fun f => D.str (txt f)))) (h1 ++ [DO.lst (fs.map fun f => D.str (txt f))]) := by
      have hs : sortable (fs.map fun f => D.str (txt f)) = true := by
        unfold sortable
        rw [Bool.and_eq_true, Bool.or_eq_true]
        refine ⟨?_, .inr ?_⟩
        · simp [D.alike]
        · simp
      have hl2 : (fs.map fun f => D.str (txt f)).length ≤ lim := by rw [List.length_map, hl]; exact Nat.le_trans hn (by decide)
      simp only [opBi, isTupD, seqOf, hf, hs, hl2, decide_true, Bool.and_self, Bool.false_eq_true, if_false, if_true]
    obtain ⟨ns, hns, hp⟩ : ∃ ns : List Str, sortD (fs.map fun f => D.str (txt f)) = ns.map D.str ∧ ns.Perm (fs.map txt) := by
      refine ⟨(fs.map txt).mergeSort fun a b => !D.lt (.str b) (.str a), ?_, List.mergeSort_perm _ _⟩
      rw [List.map_mergeSort (f := D.str) (s := fun a b => !D.lt b a) (fun x _ y _ => rfl), List.map_map]
      rfl
    have pw := sortD_pw (fs.map fun f => D.str (txt f))
    have ndD : (sortD (fs.map fun f => D.str (txt f))).Nodup := by
      refine (sortD_perm _).nodup_iff.mpr (List.pairwise_map.mpr (nd.imp fun {a b} hne e => hne ?_))
      injection e with e
      exact txt_inj e
    have st := strict_of ndD pw (fun a ha b hb e => by
      have ha := sortD_mem.mp ha
      have hb := sortD_mem.mp hb
      obtain ⟨f, _, rfl⟩ := List.mem_map.mp ha
      obtain ⟨g, _, rfl⟩ := List.mem_map.mp hb
      exact str_inj _ _ e)
    simp [↓el_of so]
    rw [dr.cut true (.tup (sortD (fs.map fun f => D.str (txt f)))) (by
      rw [noref_tup, hns, norefs_all]
      simp)]
    refine Has.ok ⟨ns, by rw [hns], ?_, fun x hx => ?_, ?_, dr⟩
    · rw [hp.length_eq, List.length_map, hl]
    · obtain ⟨f, hf', rfl⟩ := List.mem_map.mp (hp.mem_iff.mp hx)
      exact nm f hf'
    · rw [hns] at st
      exact (List.pairwise_map.mp st).imp fun {a b} z => of_decide_eq_true z
end VE
set_option Elab.async false
set_option linter.all false
set_option maxRecDepth 100000
set_option maxHeartbeats 2000000
set_option autoImplicit false
/-! Lk: a leaf is made -/
namespace VE
open PySem
theorem cut_gen (fz : Bool) (h h' : HS) (d : D) (hd : noref d = true) (hl : h'.length = h.length) (hs : ∀ (i : Nat) (o : DO), h'[i]? = some o → h[i]? = some o ∨ o.blw h.length = true) : cutL fz h d h' = .ok d h' := by
  unfold cutL
  rw [cutR_data fz h d _ hd, cutAt_ok (Nat.le_refl _) (fun i o _ e => hs i o e) (blw_of _ _ hd), ← hl, List.take_length]
theorem enc_eqv (p q : Int × Int) : D.eqv (encH p) (encH q) = decide (p = q) := by
  obtain ⟨a, b⟩ := p
  obtain ⟨c, d⟩ := q
  simp only [encH, D.eqv, D.eqvs, Prod.mk.injEq]
  by_cases e1 : a = c <;> by_cases e2 : b = d <;> simp [e1, e2]
theorem enc_fin (p : Int × Int) (n : Nat) : D.fine (n + 2) (encH p) = true := by simp [encH, D.fine]
theorem ne_enc (p q : Int × Int) (h : HS) : opCmp .ne (encH p) (encH q) h = .ok (.bl (!decide (p = q))) h := by
  have f1 := enc_fin p 28
  have f2 := enc_fin q 28
  have e : eqOf (encH p) (encH q) = some (decide (p = q)) := by
    have e0 : eqOf (encH p) (encH q) = if (finD (encH p) && finD (encH q)) = true then some (D.eqv (encH p) (encH q)) else none := rfl
    rw [e0, show finD (encH p) = true from f1, show finD (encH q) = true from f2, enc_eqv]
    rfl
  show okB ((eqOf (encH p) (encH q)).map (!·)) h = _
  rw [e]
  rfl
theorem in_spots {s : Nat} {h : HS} {ps : List (Int × Int)} (e : h[s]? = some (.lst (ps.map encH))) (p : Int × Int) : opCmp .inn (encH p) (.ref s) h = .ok (.bl (decide (p ∈ ps))) h := by
  have f1 := enc_fin p 28
  have f2 : finD (.lst (ps.map encH)) = true := by
    unfold finD D.fine
    rw [List.all_eq_true]
    intro d hd
    obtain ⟨q, _, rfl⟩ := List.mem_map.mp hd
    exact enc_fin q 27
  have a : ((ps.map encH).any fun z => D.eqv z (encH p)) = decide (p ∈ ps) := by
    rw [Bool.eq_iff_iff, List.any_eq_true, decide_eq_true_eq]
    constructor
    · rintro ⟨z, hz, e⟩
      obtain ⟨q, hq, rfl⟩ := List.mem_map.mp hz
      rw [enc_eqv, decide_eq_true_eq] at e
      rwa [← e]
    · intro hm
      exact ⟨_, List.mem_map.mpr ⟨p, hm, rfl⟩, by rw [enc_eqv, decide_eq_true_eq]⟩
  have hi : inOf (encH p) false (ps.map encH) = some (decide (p ∈ ps)) := by
    unfold inOf
    rw [if_neg (by simp [encH, D.flat]), show finD (encH p) = true from f1, f2, a]
    rfl
  simp only [opCmp, seqOf, e, isTupD, hi, okB]
theorem r_round (k : Nat) (h : HS) : evF pg (k + 1) f__law_round [] h = .ok (.lst (headings.map encH)) h := by
  rw [u__law_round]
  simp [b__law_round, b_addl, lim]
  rfl
theorem heads_nrf : ∀ x ∈ headings.map encH, noref x = true := fun x hx => by
  obtain ⟨p, _, rfl⟩ := List.mem_map.mp hx
  simp [encH]
end VE
set_option Elab.async false
set_option linter.all false
set_option maxRecDepth 100000
set_option maxHeartbeats 2000000
set_option autoImplicit false
/-! Ll: a leaf is made, its run -/
namespace VE
open PySem
/-- where the search for a free spot stands -/
def Ring (ps : List (Int × Int)) (m : Nat) (x y : Int) : Prop := ∃ (y0 : Int) (t : Nat) (vs : List (Int × Int)), 0 ≤ y0 ∧ y0 ≤ 23 ∧ 0 ≤ x ∧ x ≤ 23 ∧ y = (y0 + t) % 24 ∧ vs.length = t ∧ (∀ (i : Nat) (v : Int × Int), vs[i]? = some v → v.2 = (y0 + i) % 24) ∧ (∀ v ∈ vs, v ∈ ps) ∧ m + t = 7 ∧ t ≤ 7
theorem ring_next {ps : List (Int × Int)} (hp : ps.length ≤ 6) {m : Nat} {x y : Int} (R : Ring ps m x y) (hin : (x, y) ∈ ps) {x' : Int} (h0 : 0 ≤ x') (h1 : x' ≤ 23) : ∃ m', m' < m ∧ Ring ps m' x' ((y + 1) % 24) := by
  obtain ⟨y0, t, vs, a1, a2, a3, a4, rfl, l, hv, sub, hm, ht⟩ := R
  have nd : (vs ++ [(x, (y0 + t) % 24)]).Nodup := by
    have hv2 : ∀ (i : Nat) (v : Int × Int), (vs ++ [(x, (y0 + t) % 24)])[i]? = some v → v.2 = (y0 + i) % 24 := fun i v e => by
      rcases Nat.lt_or_ge i vs.length with hi | hi
      · rw [List.getElem?_append_left hi] at e
        exact hv i v e
      · rw [List.getElem?_append_right hi] at e
        rcases Nat.eq_zero_or_pos (i - vs.length) with z | z
        · rw [z] at e
          have e : (x, (y0 + (t : Int)) % 24) = v := by simpa using e
          rw [← e, show i = t by omega]
        · rw [List.getElem?_eq_none (by simp; omega)] at e
          cases e
    refine List.pairwise_iff_getElem.mpr fun i j hi hj hij e => ?_
    have e1 := hv2 i _ (List.getElem?_eq_getElem hi)
    have e2 := hv2 j _ (List.getElem?_eq_getElem hj)
    rw [e] at e1
    rw [e1] at e2
    simp only [List.length_append, List.length_singleton] at hi hj
    omega
  have len := nd.length_le_of_subset (l₂ := ps) fun v hvm => by
    rcases List.mem_append.mp hvm with h | h
    · exact sub v h
    · simp only [List.mem_singleton] at h
      rw [h]; exact hin
  simp only [List.length_append, List.length_singleton] at len
  refine ⟨m - 1, by omega, y0, t + 1, vs ++ [(x, (y0 + t) % 24)], a1, a2, h0, h1, ?_, by simp [l], ?_, ?_, by omega, by omega⟩
  · have : ((y0 + ((t + 1 : Nat) : Int)) % 24) = (y0 + (t : Int) + 1) % 24 := by congr 1; omega
    rw [this]
    omega
  · intro i v e
    rcases Nat.lt_or_ge i vs.length with hi | hi
    · rw [List.getElem?_append_left hi] at e
      exact hv i v e
    · rw [List.getElem?_append_right hi] at e
      rcases Nat.eq_zero_or_pos (i - vs.length) with z | z
      · rw [z] at e
        have e : (x, (y0 + (t : Int)) % 24) = v := by simpa using e
        rw [← e, show i = t by omega]
      · rw [List.getElem?_eq_none (by simp; omega)] at e
        cases e
  · intro v hv'
    rcases List.mem_append.mp hv' with h | h
    · exact sub v h
    · simp only [List.mem_singleton] at h
      rw [h]; exact hin
/-- a leaf but for its name -/
structure Leaf.Ok0 (l : Leaf) : Prop where
  x0 : 0 ≤ l.x
  x1 : l.x ≤ 23
  y0 : 0 ≤ l.y
  y1 : l.y ≤ 23
  f0 : 1 ≤ l.far
  f1 : l.far ≤ 20
  sh : l.shut ∈ headings
  op : l.opened ∈ headings
  ne : l.shut ≠ l.opened
  ha : l.hand = "left" ∨ l.hand = "right"
theorem other_heading (p : Int × Int) : headings.filter (fun q => !decide (q = p)) ≠ [] := by
  by_cases e : p = (1, 0)
  · subst e
    decide +kernel
  · intro z
    have : ((1, 0) : Int × Int) ∈ headings.filter (fun q => !decide (q = p)) := List.mem_filter.mpr ⟨by decide +kernel, by simpa using fun h => e h.symm⟩
    rw [z] at this
    cases this
theorem r_leaf (k : Nat) {w s : Nat} {h : HS} (W : Wl w h) (hws : w ≠ s) (nm : Str) (ps : List (Int × Int)) (hp : ps.length ≤ 6) (hs : h[s]? = some (.lst (ps.map encH))) :
    Has (evF pg (k + 3) f__law_leaf [.ref w, .str nm, .ref s] h) fun d h' => ∃ l : Leaf, d = l.enc ∧ l.name = nm ∧ l.Ok0 ∧ (l.x, l.y) ∉ ps ∧ ∃ h1, Dr w h h1 ∧ h' = h1.set s (.lst ((ps ++ [(l.x, l.y)]).map encH)) := by
  rw [u__law_leaf]
  simp only [b__law_leaf, s_seq, s_asg, e_tup, e_cons, e_callK, e_var, getV_zero, isFn_ref, Bool.false_eq_true, if_false, e_cst, e_nil, its_lst, permOf, List.append_nil, List.map_cons, List.map_nil, List.getD_cons_zero, List.getD_cons_succ]
  refine Has.elim (G := fun r => Has r _) (r_dip (k + 1) W 24 (by decide) (by decide)) ?_
  rintro _ h1 ⟨x, rfl, x0, x1, dr1⟩
  refine Has.elim (G := fun r => Has r _) (r_dip (k + 1) (W.dr dr1) 24 (by decide) (by decide)) ?_
  rintro _ h2 ⟨y, rfl, y0, y1, dr2⟩
  have dr12 := dr1.trans dr2
  have W2 := W.dr dr12
  have hs2 : h2[s]? = some (.lst (ps.map encH)) := by rw [dr12.ne (Ne.symm hws)]; exact hs
  simp only [t_tup, t_cons, t_nil, t_var, List.set_cons_zero, List.set_cons_succ, s_wh]
  refine el_wh (G := fun r => Has r _) (fun m ρ h' => h' = h2 ∧ ∃ (x y : Int) (r5 r6 r7 r8 : Option D), ρ = [some (.ref w), some (.str nm), some (.ref s), some (.int x), some (.int y), r5, r6, r7, r8] ∧ Ring ps m x y)
    (fun ρ h' => h' = h2 ∧ ∃ (x y : Int) (r5 r6 r7 r8 : Option D), ρ = [some (.ref w), some (.str nm), some (.ref s), some (.int x), some (.int y), r5, r6, r7, r8] ∧ 0 ≤ x ∧ x ≤ 23 ∧ 0 ≤ y ∧ y ≤ 23 ∧ (x, y) ∉ ps)
    1000 7 ⟨rfl, x, y, _, _, _, _, rfl, y, 0, [], y0, by omega, x0, by omega, by omega, rfl, by simp, by simp, by omega, by omega⟩ (by decide) ?_ ?_
  · rintro m ρ h' ⟨rfl, x, y, r5, r6, r7, r8, rfl, R⟩
    have R' := R
    obtain ⟨q0, t, vs, a1, a2, a3, a4, e, _⟩ := R'
    have b0 : 0 ≤ y := by omega
    have b1 : y ≤ 23 := by omega
    have ci : opCmp .inn (.tup [.int x, .int y]) (.ref s) h' = .ok (.bl (decide ((x, y) ∈ ps))) h' := in_spots hs2 (x, y)
    unfold turnW
    simp only [e_cmp, e_tup, e_cons, e_nil, e_var, getV_zero, getV_succ, isFn_int, isFn_ref, Bool.false_eq_true, if_false, its_lst, ↓el_of ci, onB_bl]
    by_cases hin : (x, y) ∈ ps
    · have f1 : opBin .fdiv (.int y) (.int 23) h' = .ok (.int (y.fdiv 23)) h' := b_fdiv _ _ _ (by decide) (by decide)
      have hx : 0 ≤ (x + 1 + y.fdiv 23).fmod 24 ∧ (x + 1 + y.fdiv 23).fmod 24 ≤ 23 := ⟨Int.fmod_nonneg_of_pos _ (by decide), by have := Int.fmod_lt_of_pos (x + 1 + y.fdiv 23) (show (0 : Int) < 24 by decide); omega⟩
      obtain ⟨m', lt, R2⟩ := ring_next hp R hin hx.1 hx.2
      have ey : (y + 1).fmod 24 = (y + 1) % 24 := Int.fmod_eq_emod_of_nonneg _ (by decide)
      rw [if_pos (decide_eq_true hin)]
      have m1 : opBin .mod (.int (x + 1 + y.fdiv 23)) (.int 24) h' = .ok (.int ((x + 1 + y.fdiv 23).fmod 24)) h' := b_mod _ _ _ (by decide)
      have m2 : opBin .mod (.int (y + 1)) (.int 24) h' = .ok (.int ((y + 1).fmod 24)) h' := b_mod _ _ _ (by decide)
      simp only [s_seq, s_asg, e_tup, e_cons, e_nil, e_bin, e_bi, e_cst, e_var, getV_zero, getV_succ, isFn_int, Bool.false_eq_true, if_false, its_lst, b_add, q_int, ↓el_of f1, ↓el_of m1, ↓el_of m2, t_tup, t_cons, t_var, t_nil, List.set_cons_zero, List.set_cons_succ, s_skip]
      refine .inr ⟨m', _, _, rfl, lt, rfl, _, _, _, _, _, _, rfl, ?_⟩
      rw [ey]
      exact R2
    · rw [if_neg (by simpa using hin)]
      exact .inl ⟨_, _, rfl, rfl, x, y, _, _, _, _, rfl, a3, a4, b0, b1, hin⟩
  · rintro ρ h' ⟨rfl, x, y, r5, r6, r7, r8, rfl, c0, c1, c2, c3, hni⟩
    have ap : opMt .append (.ref s) [.tup [.int x, .int y]] h' = .ok .non (h'.set s (.lst ((ps ++ [(x, y)]).map encH))) := by
      have hl : (ps.map encH).length < lim := by rw [List.length_map]; exact Nat.lt_of_le_of_lt hp (by decide)
      simp only [opMt, hs2, hl, if_true, List.map_append, List.map_cons, List.map_nil, encH]
    have mo : mtOk .append (.ref s) h' = true := by simp only [mtOk, hs2]
    have lw : w < h'.length := W2.lt
    have ls : s < h'.length := (List.getElem?_eq_some_iff.mp hs2).1
    have W3 : Wl w (h'.set s (.lst ((ps ++ [(x, y)]).map encH))) := by
      obtain ⟨a, b, c, p, e⟩ := W2
      exact ⟨a, b, c, p, by rw [List.getElem?_set_ne (Ne.symm hws)]; exact e⟩
    simp only [s_ex, e_mt, e_var, getV_zero, getV_succ, isFn_ref, isFn_int, Bool.false_eq_true, if_false, mo, if_true, e_cons, e_tup, e_nil, its_lst, ↓el_of ap, e_callK, permOf, List.append_nil, List.map_nil, ↓el_of (r_round _ _), List.map_cons, List.getD_cons_zero, List.getD_cons_succ]
    refine Has.elim (G := fun r => Has r _) (r_one_lst k W3 (headings.map encH) (by decide) (by decide) heads_nrf) ?_
    rintro _ h3 ⟨hd, dr3⟩
    obtain ⟨sh, hsh, rfl⟩ := List.mem_map.mp hd
    have W4 := W3.dr dr3
    simp only [t_var, List.set_cons_zero, List.set_cons_succ]
    have hlist : ∀ hh : HS, (ev (evF pg (k + 2)) (evG pg (k + 2)) (.comp (.iseq (.callK f__law_round .nil .nil [] [])) (.var 7) (.cmp .ne (.var 7) (.var 5)) (.var 7) [("each", 7)]) [some (.ref w), some (.str nm), some (.ref s), some (.int x), some (.int y), some (encH sh), r6, r7, r8] hh) = .ok (.lst ((headings.filter fun q => !decide (q = sh)).map encH)) hh := fun hh => by
      refine (el_id _).symm.trans ?_
      simp only [e_comp, e_iseq, e_callK, e_nil, its_lst, List.append_nil, permOf, List.map_nil, ↓el_of (r_round _ _), w_lst, el_ok]
      rw [el_of (comp_fm encH (fun q => if decide (q = sh) = true then none else some (encH q)) hh headings ?H)]
      case H =>
        intro q hq
        refine (el_id _).symm.trans ?_
        have nfq : isFn (encH q) = false := rfl
        have nns : noNdf (some (encH sh)) = some (encH sh) := rfl
        have nfs : isFn (encH sh) = false := rfl
        simp only [cf_el, List.map_cons, List.map_nil, stN_var, blkE, wipeD, isNil_cmp, Bool.false_eq_true, if_false, e_cmp, e_var, getV_succ, getV_zero, List.set_cons_zero, List.set_cons_succ, nfq, nns, nfs, ↓el_of (ne_enc q sh hh), onB_bl]
        by_cases e : q = sh
        · simp [e]
        · simp [e]
      have e1 : (headings.filterMap fun q => if decide (q = sh) = true then none else some (encH q)) = (headings.filter fun q => !decide (q = sh)).map encH := by
        rw [← List.filterMap_eq_map, List.filterMap_filter]
        congr 1
        funext q
        by_cases e : q = sh <;> simp [e]
      have l : (headings.filterMap fun q => if decide (q = sh) = true then none else some (encH q)).length ≤ lim := Nat.le_trans (List.length_filterMap_le _ _) (by decide)
      rw [if_pos l, e1]
    have nr2 : ∀ z ∈ (headings.filter fun q => !decide (q = sh)).map encH, noref z = true := fun z hz => by
      obtain ⟨p, _, rfl⟩ := List.mem_map.mp hz
      simp [encH]
    have ln2 : ((headings.filter fun q => !decide (q = sh)).map encH).length < 1073741824 := by
      rw [List.length_map]
      exact Nat.lt_of_le_of_lt (List.length_filter_le _ _) (by decide)
    simp only [↓el_of (hlist _)]
    refine Has.elim (G := fun r => Has r _) (r_one_lst k W4 _ (by simpa using other_heading sh) ln2 nr2) ?_
    rintro _ h4 ⟨hd2, dr4⟩
    obtain ⟨op, hop, rfl⟩ := List.mem_map.mp hd2
    obtain ⟨hop1, hop2⟩ := List.mem_filter.mp hop
    have W5 := W4.dr dr4
    simp only [t_var, List.set_cons_zero, List.set_cons_succ, e_bin, e_callK, e_var, getV_zero, getV_succ, isFn_ref, Bool.false_eq_true, if_false, e_lst, e_cons, e_cst, e_nil, its_lst, List.append_nil, permOf, List.map_cons, List.map_nil, List.getD_cons_zero, List.getD_cons_succ]
    refine Has.elim (G := fun r => Has r _) (r_one_lst k W5 [.int 6, .int 12, .int 20] (by simp) (by decide) (by simp)) ?_
    rintro d h5 ⟨hd3, dr5⟩
    obtain ⟨m, rfl, m1, m2⟩ : ∃ m : Int, d = .int m ∧ 0 < m ∧ m ≤ 20 := by
      simp at hd3
      rcases hd3 with rfl | rfl | rfl
      · exact ⟨6, rfl, by decide, by decide⟩
      · exact ⟨12, rfl, by decide, by decide⟩
      · exact ⟨20, rfl, by decide, by decide⟩
    have W6 := W5.dr dr5
    try simp only [its_lst, List.append_nil, permOf, List.map_cons, List.map_nil, List.getD_cons_zero, List.getD_cons_succ]
    refine Has.elim (G := fun r => Has r _) (r_dip (k + 1) W6 m m1 (by omega)) ?_
    rintro _ h6 ⟨i, rfl, i0, i1, dr6⟩
    have W7 := W6.dr dr6
    have nfsh : isFn (encH sh) = false := rfl
    have nfop : isFn (encH op) = false := rfl
    simp only [b_add, el_ok, t_var, List.set_cons_zero, List.set_cons_succ, s_ret, e_tup, e_cons, e_var, getV_zero, getV_succ, isFn_str, isFn_int, isFn_ref, nfsh, nfop, Bool.false_eq_true, if_false, e_callK, e_lst, e_cst, e_nil, its_lst, List.append_nil, permOf, List.map_cons, List.map_nil, List.getD_cons_zero, List.getD_cons_succ]
    refine Has.elim (G := fun r => Has r _) (r_one_lst k W7 [.str "left", .str "right"] (by simp) (by decide) (by simp)) ?_
    rintro d h7 ⟨hd4, dr7⟩
    obtain ⟨hand, rfl, hh⟩ : ∃ x : Str, d = .str x ∧ (x = "left" ∨ x = "right") := by
      simp at hd4
      rcases hd4 with rfl | rfl
      · exact ⟨_, rfl, .inl rfl⟩
      · exact ⟨_, rfl, .inr rfl⟩
    try simp only [its_lst]
    have drA := ((((dr3.trans dr4).trans dr5).trans dr6).trans dr7)
    obtain ⟨h8, dr8, rfl⟩ := drA.set (Ne.symm hws)
    have drT := dr12.trans dr8
    have hl8 : h8.length = h.length := drT.len
    have cut : cutL true h (.tup [.str nm, .int x, .int y, .int (1 + i), encH sh, .str hand, encH op]) (h8.set s (.lst ((ps ++ [(x, y)]).map encH))) = .ok (.tup [.str nm, .int x, .int y, .int (1 + i), encH sh, .str hand, encH op]) (h8.set s (.lst ((ps ++ [(x, y)]).map encH))) := by
      refine cut_gen _ _ _ _ (by simp [encH]) (by rw [List.length_set, hl8]) fun j o e => ?_
      by_cases hj : j = s
      · subst hj
        have hj2 : j < h8.length := by rw [hl8]; rw [dr12.len] at ls; exact ls
        rw [List.getElem?_set_self hj2] at e
        cases e
        exact .inr (by simp only [DO.blw]; exact blws_of _ _ (norefs_map (f := encH) _ fun p => by simp [encH]))
      · rw [List.getElem?_set_ne (Ne.symm hj)] at e
        by_cases hjw : j = w
        · subst hjw
          obtain ⟨a, b, c, _, rfl⟩ := drT
          rw [List.getElem?_set_self (by rw [← dr12.len]; exact lw)] at e
          cases e
          exact .inr (by simp [DO.blw, D.blws, D.blw])
        · rw [drT.ne hjw] at e
          exact .inl e
    rw [cut]
    refine Has.ok ⟨⟨nm, x, y, 1 + i, sh, op, hand⟩, rfl, rfl, ⟨c0, c1, c2, c3, by show 1 ≤ 1 + i; omega, by show 1 + i ≤ 20; omega, hsh, hop1, fun e => ?_, hh⟩, hni, h8, drT, rfl⟩
    have : ¬ op = sh := by simpa using hop2
    exact this e.symm
end VE
set_option Elab.async false
set_option linter.all false
set_option maxRecDepth 100000
set_option maxHeartbeats 1000000
set_option autoImplicit false
/-! P4: dicts -/
namespace VE
open PySem
section
variable {κ : Type} [DecidableEq κ]
theorem put_keys (kvs : List (κ × D)) (k : κ) (v : D) : (putD kvs k v).map (·.1) = if k ∈ kvs.map (·.1) then kvs.map (·.1) else kvs.map (·.1) ++ [k] := by
  unfold putD
  by_cases c : k ∈ kvs.map (·.1)
  · obtain ⟨p, hp, e⟩ := List.mem_map.mp c
    rw [if_pos (List.any_eq_true.mpr ⟨p, hp, decide_eq_true e⟩), if_pos c, List.map_map]
    refine List.map_congr_left fun q hq => ?_
    show (if q.1 = k then (q.1, v) else q).1 = q.1
    split <;> rfl
  · rw [if_neg (fun h => c ?_), if_neg c, List.map_append]
    · rfl
    · obtain ⟨p, hp, e⟩ := List.any_eq_true.mp h
      exact List.mem_map.mpr ⟨p, hp, of_decide_eq_true e⟩
theorem put_nodup {kvs : List (κ × D)} {k : κ} {v : D} (nd : (kvs.map (·.1)).Nodup) : ((putD kvs k v).map (·.1)).Nodup := by
  rw [put_keys]
  split
  · exact nd
  · rename_i c
    rw [List.nodup_append]
    exact ⟨nd, by simp, fun a ha b hb e => c (by simp at hb; rw [← hb, ← e]; exact ha)⟩
theorem put_mem {kvs : List (κ × D)} {k : κ} {v : D} (x : κ) : x ∈ (putD kvs k v).map (·.1) ↔ x ∈ kvs.map (·.1) ∨ x = k := by
  rw [put_keys]
  split
  · rename_i c
    exact ⟨.inl, fun h => h.elim id fun e => e ▸ c⟩
  · rw [List.mem_append, List.mem_singleton]
theorem put_len {kvs : List (κ × D)} {k : κ} {v : D} : (putD kvs k v).length ≤ kvs.length + 1 := by
  have := congrArg List.length (put_keys kvs k v)
  rw [List.length_map] at this
  rw [this]
  split
  · rw [List.length_map]; omega
  · rw [List.length_append, List.length_map]; exact Nat.le_refl _
theorem merge_keys : ∀ (more kvs : List (κ × D)), (kvs.map (·.1)).Nodup → ((mergeD kvs more).map (·.1)).Nodup ∧ (∀ x, x ∈ (mergeD kvs more).map (·.1) ↔ x ∈ kvs.map (·.1) ∨ x ∈ more.map (·.1)) ∧ (mergeD kvs more).length ≤ kvs.length + more.length
  | [], kvs, nd => ⟨nd, fun x => by simp [mergeD], by simp [mergeD]⟩
  | p :: more, kvs, nd => by
    obtain ⟨h1, h2, h3⟩ := merge_keys more (putD kvs p.1 p.2) (put_nodup nd)
    refine ⟨h1, fun x => ?_, ?_⟩
    · show x ∈ (mergeD (putD kvs p.1 p.2) more).map (·.1) ↔ _
      rw [h2, put_mem, List.map_cons, List.mem_cons, or_assoc]
    · show (mergeD (putD kvs p.1 p.2) more).length ≤ _
      have := put_len (kvs := kvs) (k := p.1) (v := p.2)
      simp only [List.length_cons]
      omega
end
end VE
set_option Elab.async false
set_option linter.all false
set_option maxRecDepth 100000
set_option maxHeartbeats 2000000
set_option autoImplicit false
/-! Lm: beams -/
namespace VE
open PySem
def prow (p : Int × Int) : List Int := [p.1, p.2]
theorem alike_enc (p q : Int × Int) : D.alike (encH p) (encH q) = true := alike_tups (prow p) (prow q)
theorem lt_enc (p q : Int × Int) : D.lt (encH p) (encH q) = decide (prow p < prow q) := dlt_ints (prow p) (prow q)
def InB (p : Int × Int) : Prop := (0 ≤ p.1 ∧ p.1 ≤ 27) ∧ (0 ≤ p.2 ∧ p.2 ≤ 27)
/-- two ends in order -/
theorem r_ends (p q : Int × Int) (hp : InB p) (hq : InB q) (h : HS) : ∃ a b : Int × Int, InB a ∧ InB b ∧ ¬ prow b < prow a ∧ opBi .min [encH p, encH q] h = .ok (encH a) h ∧ opBi .max [encH p, encH q] h = .ok (encH b) h := by
  have e1 : opBi .min [encH p, encH q] h = if D.alike (encH p) (encH q) = true then .ok (if D.lt (encH q) (encH p) = true then encH q else encH p) h else .bad := rfl
  have e2 : opBi .max [encH p, encH q] h = if D.alike (encH p) (encH q) = true then .ok (if D.lt (encH p) (encH q) = true then encH q else encH p) h else .bad := rfl
  rw [e1, e2, if_pos (alike_enc p q), if_pos (alike_enc p q), lt_enc, lt_enc]
  by_cases c1 : prow q < prow p
  · have c2 : ¬ prow p < prow q := fun c => List.lt_irrefl _ (List.lt_trans c1 c)
    exact ⟨q, p, hq, hp, c2, by simp [c1], by simp [c2]⟩
  · by_cases c2 : prow p < prow q
    · exact ⟨p, q, hp, hq, c1, by simp [c1], by simp [c2]⟩
    · exact ⟨p, p, hp, hp, List.lt_irrefl _, by simp [c1], by simp [c2]⟩
theorem r_beam (k : Nat) {w : Nat} {h : HS} (W : Wl w h) : Has (evF pg (k + 2) f__law_beam [.ref w] h) fun d h' => ∃ b : Wall, d = b.enc ∧ b.Ok ∧ Dr w h h' := by
  have fin : ∀ (p q : Int × Int) (hp : InB p) (hq : InB q) (h' : HS), Dr w h h' → Has ((opBi .min [encH p, encH q] h').el (fun c d h => R.exc c d h) R.bad fun x h1 => (opBi .max [encH p, encH q] h1).el (fun c d h => R.exc c d h) R.bad fun y h2 => (opBin .add x y h2).el (fun c d h => R.exc c d h) R.bad fun d h1 => cutL true h d h1) fun d h' => ∃ b : Wall, d = b.enc ∧ b.Ok ∧ Dr w h h' := by
    intro p q hp hq h' dr
    obtain ⟨a, b, ha, hb, hle, e1, e2⟩ := r_ends p q hp hq h'
    have ad : opBin .add (encH a) (encH b) h' = .ok (Wall.mk a.1 a.2 b.1 b.2).enc h' := b_addt h' _ _ (by simp [lim])
    rw [el_of e1, el_of e2, el_of ad, dr.cut0 true _ (Wall.nrf _)]
    refine Has.ok ⟨⟨a.1, a.2, b.1, b.2⟩, rfl, ⟨fun i hi => ?_, hle⟩, dr⟩
    obtain ⟨⟨p1, p2⟩, p3, p4⟩ := ha
    obtain ⟨⟨q1, q2⟩, q3, q4⟩ := hb
    simp only [Wall.row, List.mem_cons, List.mem_nil_iff, or_false] at hi
    rcases hi with rfl | rfl | rfl | rfl <;> constructor <;> omega
  rw [u__law_beam]
  simp only [b__law_beam, s_seq, s_asg, e_tup, e_cons, e_callK, e_var, getV_zero, isFn_ref, Bool.false_eq_true, if_false, e_cst, e_nil, its_lst, permOf, List.append_nil, List.map_cons, List.map_nil, List.getD_cons_zero, List.getD_cons_succ]
  refine Has.elim (G := fun r => Has r _) (r_dip k W 28 (by decide) (by decide)) ?_
  rintro _ h1 ⟨x, rfl, x0, x1, dr1⟩
  refine Has.elim (G := fun r => Has r _) (r_dip k (W.dr dr1) 28 (by decide) (by decide)) ?_
  rintro _ h2 ⟨y, rfl, y0, y1, dr2⟩
  have dr12 := dr1.trans dr2
  simp only [t_var, List.set_cons_zero, List.set_cons_succ, e_ife, e_cmp, e_callK, e_cons, e_var, getV_zero, isFn_ref, Bool.false_eq_true, if_false, e_cst, e_nil, its_lst, permOf, List.append_nil, List.map_cons, List.map_nil, List.getD_cons_zero, List.getD_cons_succ]
  refine Has.elim (G := fun r => Has r _) (r_dip k (W.dr dr12) 4 (by decide) (by decide)) ?_
  rintro _ h3 ⟨z, rfl, z0, z1, dr3⟩
  have dr13 := dr12.trans dr3
  simp only [c_gt, el_ok, onB_bl]
  by_cases c : 0 < z
  · rw [if_pos (by simpa using c)]
    simp only [e_tup, e_callK, e_cons, e_var, getV_zero, isFn_ref, Bool.false_eq_true, if_false, e_cst, e_nil, its_lst, permOf, List.append_nil, List.map_cons, List.map_nil, List.getD_cons_zero, List.getD_cons_succ]
    refine Has.elim (G := fun r => Has r _) (r_dip k (W.dr dr13) 28 (by decide) (by decide)) ?_
    rintro _ h4 ⟨u, rfl, u0, u1, dr4⟩
    refine Has.elim (G := fun r => Has r _) (r_dip k (W.dr (dr13.trans dr4)) 28 (by decide) (by decide)) ?_
    rintro _ h5 ⟨v, rfl, v0, v1, dr5⟩
    simp only [t_var, List.set_cons_zero, List.set_cons_succ, s_ret, e_bin, e_bi, e_cons, e_var, getV_zero, getV_succ, isFn_tup, Bool.false_eq_true, if_false, e_nil, its_lst]
    exact fin (x, y) (u, v) ⟨⟨x0, by show x ≤ 27; omega⟩, y0, by show y ≤ 27; omega⟩ ⟨⟨u0, by show u ≤ 27; omega⟩, v0, by show v ≤ 27; omega⟩ h5 ((dr13.trans dr4).trans dr5)
  · rw [if_neg (by simpa using c)]
    simp only [e_var, getV_zero, getV_succ, isFn_tup, Bool.false_eq_true, if_false, t_var, List.set_cons_zero, List.set_cons_succ, s_ret, e_bin, e_bi, e_cons, e_nil, its_lst]
    exact fin (x, y) (x, y) ⟨⟨x0, by show x ≤ 27; omega⟩, y0, by show y ≤ 27; omega⟩ ⟨⟨x0, by show x ≤ 27; omega⟩, y0, by show y ≤ 27; omega⟩ h3 dr13
end VE
set_option Elab.async false
set_option linter.all false
set_option maxRecDepth 100000
set_option maxHeartbeats 2000000
set_option autoImplicit false
/-! Ln: a house is made -/
namespace VE
open PySem
theorem House.nrf (H : House) : noref H.enc = true := by
  have h1 : norefs (H.leaves.map Leaf.enc) = true := norefs_map _ _ Leaf.nrf
  have h2 : norefs (H.walls.map Wall.enc) = true := norefs_map _ _ Wall.nrf
  simp only [House.enc, House.ls, House.ws, noref_tup, norefs_cons, norefs_nil, h1, h2, Bool.and_self]
/-- walls in order, none twice -/
theorem walls_sorted (ws : List Wall) (nd : (ws.map Wall.row).Nodup) : ∃ ws' : List Wall, sortD (ws.map Wall.enc) = ws'.map Wall.enc ∧ ws'.Perm ws ∧ ws'.Pairwise fun a b => a.row < b.row := by
  refine ⟨ws.mergeSort fun a b => !D.lt b.enc a.enc, ?_, List.mergeSort_perm _ _, ?_⟩
  · rw [List.map_mergeSort (f := Wall.enc) (s := fun a b => !D.lt b a) (fun x _ y _ => rfl)]
    rfl
  · have e : sortD (ws.map Wall.enc) = (ws.mergeSort fun a b => !D.lt b.enc a.enc).map Wall.enc := by
      rw [List.map_mergeSort (f := Wall.enc) (s := fun a b => !D.lt b a) (fun x _ y _ => rfl)]
      rfl
    have pw := sortD_pw (ws.map Wall.enc)
    rw [e] at pw
    have pw := List.pairwise_map.mp pw
    have nd2 : ((ws.mergeSort fun a b => !D.lt b.enc a.enc).map Wall.row).Nodup := ((List.mergeSort_perm _ _).map Wall.row).nodup_iff.mpr nd
    refine ((List.pairwise_map.mp nd2).and pw).imp fun {a b} h => ?_
    obtain ⟨hne, hlt⟩ := h
    have hle : ¬ b.row < a.row := by
      have e2 := dlt_ints b.row a.row
      rw [show D.lt (.tup (b.row.map .int)) (.tup (a.row.map .int)) = false from hlt] at e2
      simpa using e2.symm
    refine Classical.byContradiction fun hn => hne ?_
    exact List.le_antisymm (List.not_lt.mp hle) (List.not_lt.mp hn)
theorem pairs_walls : ∀ bs : List Wall, pairsT (bs.map fun b => .tup [b.enc, .bl true]) = some (bs.map fun b => (b.row.map Sum.inl, D.bl true))
  | [] => rfl
  | b :: bs => by
    rw [List.map_cons, List.map_cons]
    have h1 : tkeyOf b.enc = some (b.row.map Sum.inl) := rfl
    simp only [pairsT, h1, pairs_walls bs]
theorem r_house (k : Nat) {w : Nat} {h : HS} (W : Wl w h) (most : Nat) (hm0 : 0 < most) (hm : most ≤ 6) : Has (evF pg (k + 4) f__law_house [.ref w, .int most] h) fun d h' => ∃ H : House, d = H.enc ∧ H.Ok ∧ H.leaves.length ≤ most ∧ Dr w h h' := by
  have hw := W.lt
  rw [u__law_house]
  simp only [b__law_house, s_seq, s_asg, e_tup, e_cons, e_lstO, e_nil, its_lst, t_tup, t_cons, t_nil, t_var, List.set_cons_zero, List.set_cons_succ, s_fo, e_iseq, e_callK, e_bin, e_cst, e_var, getV_zero, getV_succ, isFn_ref, isFn_int, Bool.false_eq_true, if_false, permOf, List.append_nil, List.map_cons, List.map_nil, List.getD_cons_zero, List.getD_cons_succ, List.append_assoc, List.cons_append, List.nil_append, List.length_append, List.length_cons, List.length_nil, Nat.zero_add]
  have W0 := W.app [.lst [], .lst []]
  refine Has.elim (G := fun r => Has r _) (r_dip (k + 2) W0 (most : Int) (by omega) (by omega)) ?_
  rintro _ h1' ⟨i, rfl, i0, i1, dr1⟩
  obtain ⟨h1, drA, rfl⟩ := dr1.app hw
  obtain ⟨n, hn⟩ : ∃ n : Nat, 1 + i = n := ⟨(1 + i).toNat, by omega⟩
  simp only [b_add, el_ok, hn]
  have W1 := W.dr drA
  refine Has.elim (G := fun r => Has r _) (r_words k (W1.app [.lst [], .lst []]) n (by omega)) ?_
  rintro _ h2' ⟨ns, rfl, nl, nok, npw, dr2⟩
  obtain ⟨h2, drB, rfl⟩ := dr2.app W1.lt
  have dr12 := drA.trans drB
  simp only [w_tup, el_ok, its_lst]
  refine el_fo (G := fun r => Has r _) (fun j ρ h' => ∃ ls : List Leaf, ls.length = j ∧ ls.map Leaf.name = ns.take j ∧ (∀ l ∈ ls, l.Ok0) ∧ ls.Pairwise (fun a b => ¬ (a.x = b.x ∧ a.y = b.y)) ∧ (∃ r4 r5 r6 : Option D, ρ = [some (.ref w), some (.int most), some (.ref h.length), some (.ref (h.length + 1)), r4, r5, r6]) ∧
    ∃ h1, Dr w h h1 ∧ h' = h1 ++ [.lst ((ls.map fun l => (l.x, l.y)).map encH), .lst (ls.map Leaf.enc)]) ⟨[], rfl, by simp, by simp, .nil, ⟨_, _, _, rfl⟩, h2, dr12, rfl⟩ ?_ ?_
  · rintro j x ρ h' hx ⟨ls, hl, hnm, ok, pw, ⟨r4, r5, r6, rfl⟩, h3, dr3, rfl⟩
    rw [List.getElem?_map] at hx
    cases q : ns[j]? with
    | none => rw [q] at hx; cases hx
    | some nm =>
      rw [q] at hx
      cases hx
      have hj : j < n := by rw [← nl]; exact (List.getElem?_eq_some_iff.mp q).1
      have hlen : h3.length = h.length := dr3.len
      have W3 := (W.dr dr3).app [.lst ((ls.map fun l => (l.x, l.y)).map encH), .lst (ls.map Leaf.enc)]
      have hs : (h3 ++ [DO.lst ((ls.map fun l => (l.x, l.y)).map encH), .lst (ls.map Leaf.enc)])[h.length]? = some (.lst ((ls.map fun l => (l.x, l.y)).map encH)) := by
        rw [List.getElem?_append_right (by omega), hlen]; simp
      have mo : mtOk .append (.ref (h.length + 1)) (h3 ++ [DO.lst ((ls.map fun l => (l.x, l.y)).map encH), .lst (ls.map Leaf.enc)]) = true := by
        have : (h3 ++ [DO.lst ((ls.map fun l => (l.x, l.y)).map encH), .lst (ls.map Leaf.enc)])[h.length + 1]? = some (.lst (ls.map Leaf.enc)) := by
          rw [List.getElem?_append_right (by omega), hlen]; simp
        simp only [mtOk, this]
      unfold turnO
      simp only [t_var, List.set_cons_zero, List.set_cons_succ, s_seq, s_ex, e_mt, e_var, getV_zero, getV_succ, isFn_ref, isFn_str, Bool.false_eq_true, if_false, mo, if_true, e_cons, e_callK, e_nil, its_lst, permOf, List.append_nil, List.map_cons, List.map_nil, List.getD_cons_zero, List.getD_cons_succ]
      refine Has.elim (G := Turn _) (r_leaf k W3 (by omega) nm (ls.map fun l => (l.x, l.y)) (by rw [List.length_map, hl]; omega) hs) ?_
      rintro _ h4' ⟨l, rfl, lnm, lok, lni, h4, dr4, rfl⟩
      obtain ⟨h5, dr5, rfl⟩ := dr4.app (by rw [hlen]; exact hw)
      have hlen5 : h5.length = h.length := by rw [dr5.len, hlen]
      have hset : (h5 ++ [DO.lst ((ls.map fun l => (l.x, l.y)).map encH), .lst (ls.map Leaf.enc)]).set h.length (.lst (((ls.map fun l => (l.x, l.y)) ++ [(l.x, l.y)]).map encH)) = h5 ++ [DO.lst (((ls.map fun l => (l.x, l.y)) ++ [(l.x, l.y)]).map encH), .lst (ls.map Leaf.enc)] := by
        rw [← hlen5, List.set_append_right _ _ (Nat.le_refl _), Nat.sub_self]
        rfl
      rw [hset]
      have hg : (h5 ++ [DO.lst (((ls.map fun l => (l.x, l.y)) ++ [(l.x, l.y)]).map encH), .lst (ls.map Leaf.enc)])[h.length + 1]? = some (.lst (ls.map Leaf.enc)) := by
        rw [List.getElem?_append_right (by omega), hlen5]; simp
      have ap : opMt .append (.ref (h.length + 1)) [l.enc] (h5 ++ [DO.lst (((ls.map fun l => (l.x, l.y)) ++ [(l.x, l.y)]).map encH), .lst (ls.map Leaf.enc)]) = .ok .non (h5 ++ [DO.lst (((ls ++ [l]).map fun l => (l.x, l.y)).map encH), .lst ((ls ++ [l]).map Leaf.enc)]) := by
        have hl2 : (ls.map Leaf.enc).length < lim := by rw [List.length_map, hl]; exact Nat.lt_of_lt_of_le (by omega : j < 10) (by decide)
        have hs2 : (h5 ++ [DO.lst (((ls.map fun l => (l.x, l.y)) ++ [(l.x, l.y)]).map encH), .lst (ls.map Leaf.enc)]).set (h.length + 1) (.lst (ls.map Leaf.enc ++ [l.enc])) = h5 ++ [DO.lst (((ls ++ [l]).map fun l => (l.x, l.y)).map encH), .lst ((ls ++ [l]).map Leaf.enc)] := by
          rw [← hlen5, List.set_append_right _ _ (by omega), Nat.add_sub_cancel_left]
          simp
        simp only [opMt, hg, hl2, if_true, hs2]
      simp only [its_lst, ↓el_of ap, s_skip, o_nx]
      refine ⟨_, _, rfl, ls ++ [l], by simp [hl], ?_, ?_, ?_, ⟨_, _, _, rfl⟩, h5, dr3.trans dr5, rfl⟩
      · rw [List.map_append, hnm, List.map_cons, List.map_nil, lnm, List.take_add_one, q]
        rfl
      · intro z hz
        rcases List.mem_append.mp hz with hz | hz
        · exact ok z hz
        · simp only [List.mem_singleton] at hz
          rw [hz]; exact lok
      · rw [List.pairwise_append]
        refine ⟨pw, by simp, fun a ha b hb e => lni ?_⟩
        simp only [List.mem_singleton] at hb
        subst hb
        exact List.mem_map.mpr ⟨a, ha, Prod.ext e.1 e.2⟩
  · rintro ρ h' ⟨ls, hl, hnm, ok, pw, ⟨r4, r5, r6, rfl⟩, h3, dr3, rfl⟩
    rw [List.length_map] at hl hnm
    rw [List.take_length] at hnm
    have hlen : h3.length = h.length := dr3.len
    have W3 := W.dr dr3
    have hleaf : ∀ l ∈ ls, l.Ok := fun l hl' => by
      have o := ok l hl'
      have : l.name ∈ ns := by rw [← hnm]; exact List.mem_map.mpr ⟨l, hl', rfl⟩
      exact ⟨nok _ this, o.x0, o.x1, o.y0, o.y1, o.f0, o.f1, o.sh, o.op, o.ne, o.ha⟩
    have hnames : ls.Pairwise fun a b => slt a.name b.name := by
      rw [← hnm] at npw
      exact List.pairwise_map.mp npw
    simp only [s_seq, s_asg, e_dctL, e_comp, e_irng, e_cons, e_callK, e_cst, e_nil, its_lst, e_var, getV_zero, isFn_ref, Bool.false_eq_true, if_false, permOf, List.append_nil, List.map_cons, List.map_nil, List.getD_cons_zero, List.getD_cons_succ]
    refine Has.elim (G := fun r => Has r _) (r_dip (k + 2) (W3.app [.lst ((ls.map fun l => (l.x, l.y)).map encH), .lst (ls.map Leaf.enc)]) 3 (by decide) (by decide)) ?_
    rintro _ h4' ⟨m, rfl, m0, m1, dr4⟩
    obtain ⟨h4, drD, rfl⟩ := dr4.app W3.lt
    obtain ⟨c, rfl⟩ : ∃ c : Nat, m = c := ⟨m.toNat, by omega⟩
    have rg : ∀ h, opRng [.int (c : Int)] h = .ok (.lst (rngD 0 (c : Int))) h := fun h => by
      have : okEnd (c : Int) = true := by
        unfold okEnd
        rw [decide_eq_true_eq]
        constructor <;> omega
      simp only [opRng, this, if_true]
    simp only [its_lst, ↓el_of (rg _)]
    have W4 := (W3.dr drD).app [.lst ((ls.map fun l => (l.x, l.y)).map encH), .lst (ls.map Leaf.enc)]
    refine el_comp (G := fun r => Has r _) (fun h' => Dr w (h4 ++ [.lst ((ls.map fun l => (l.x, l.y)).map encH), .lst (ls.map Leaf.enc)]) h') (fun _ y => ∃ b : Wall, y = .tup [b.enc, .bl true] ∧ b.Ok) _ _ W4.refl ?_ ?_
    · intro x _ h' dr
      obtain ⟨_, h'', e, b, rfl, bok, dr'⟩ := r_beam (k + 1) (W4.dr dr)
      refine ⟨_, h'', ?_, dr.trans dr', b, rfl, bok⟩
      refine (el_id _).symm.trans ?_
      have nw : noNdf (some (.ref w)) = some (.ref w) := rfl
      simp only [cf_el, stN_var, blkE, wipeD, List.map_cons, List.map_nil, List.set_cons_zero, List.set_cons_succ, isNil_nil, if_true, el_ok, onB_bl, e_tup, e_cons, e_callK, e_var, getV_zero, nw, isFn_ref, Bool.false_eq_true, if_false, e_nil, its_lst, List.append_nil, permOf, List.getD_cons_zero, ↓el_of e, e_cst]
    · intro ys h5' dr5 yl yq
      rw [rng_len] at yl
      obtain ⟨h5, drE, rfl⟩ := dr5.app (by rw [drD.len]; exact W3.lt)
      have hlen5 : h5.length = h.length := by rw [drE.len, drD.len, hlen]
      have hy : ∀ y ∈ ys, ∃ b : Wall, y = .tup [b.enc, .bl true] ∧ b.Ok := fun y hy => by
        obtain ⟨x, hx, _⟩ := zip_ys (xs := rngD 0 (c : Int)) (by rw [yl, rng_len]) hy
        exact yq _ hx
      obtain ⟨bs, hbs, e⟩ : ∃ bs : List Wall, (∀ b ∈ bs, b.Ok) ∧ ys = bs.map fun b => D.tup [b.enc, .bl true] := by
        clear yl yq
        induction ys with
        | nil => exact ⟨[], by simp, rfl⟩
        | cons y ys ih =>
          obtain ⟨c, rfl, hc⟩ := hy y List.mem_cons_self
          obtain ⟨cs, h1, rfl⟩ := ih fun z hz => hy z (List.mem_cons_of_mem _ hz)
          exact ⟨c :: cs, fun z hz => (List.mem_cons.mp hz).elim (fun e => e ▸ hc) (h1 z), rfl⟩
      subst e
      rw [List.length_map] at yl
      obtain ⟨k1, k2, k3⟩ := merge_keys (bs.map fun b => ((b.row.map Sum.inl : List L2.Key), D.bl true)) [] List.nodup_nil
      rw [List.length_map, List.length_nil, Nat.zero_add] at k3
      generalize hM : mergeD [] (bs.map fun b => ((b.row.map Sum.inl : List L2.Key), D.bl true)) = M at k1 k2 k3
      have hlimb : (bs.map fun b => D.tup [b.enc, .bl true]).length ≤ lim := by rw [List.length_map]; exact Nat.le_trans (by omega : bs.length ≤ 10) (by decide)
      have dl : opDctL (.lst (bs.map fun b => D.tup [b.enc, .bl true])) (h5 ++ [.lst ((ls.map fun l => (l.x, l.y)).map encH), .lst (ls.map Leaf.enc)]) = .ok (.ref (h.length + 2)) (h5 ++ [.lst ((ls.map fun l => (l.x, l.y)).map encH), .lst (ls.map Leaf.enc), .dctT M]) := by
        have l2 : (bs.map fun b => ((b.row.map Sum.inl : List L2.Key), D.bl true)).length ≤ lim := by rw [List.length_map]; exact Nat.le_trans (by omega : bs.length ≤ 10) (by decide)
        simp only [opDctL, pairs_walls, l2, if_true, hM]
        simp [hlen5]
      obtain ⟨ws, hws, hwk⟩ : ∃ ws : List Wall, (∀ b ∈ ws, b ∈ bs) ∧ M.map (·.1) = ws.map fun b => (b.row.map Sum.inl : List L2.Key) := by
        have hmem : ∀ x ∈ M.map (·.1), ∃ b ∈ bs, x = (b.row.map Sum.inl : List L2.Key) := fun x hx => by
          rcases (k2 x).mp hx with h | h
          · simp at h
          · obtain ⟨p, hp, rfl⟩ := List.mem_map.mp h
            obtain ⟨b, hb, rfl⟩ := List.mem_map.mp hp
            exact ⟨b, hb, rfl⟩
        clear k1 k2 k3 dl hM
        generalize M.map (·.1) = ks at hmem
        induction ks with
        | nil => exact ⟨[], by simp, rfl⟩
        | cons x ks ih =>
          obtain ⟨b, hb, rfl⟩ := hmem x List.mem_cons_self
          obtain ⟨ws, h1, e⟩ := ih fun z hz => hmem z (List.mem_cons_of_mem _ hz)
          exact ⟨b :: ws, fun z hz => (List.mem_cons.mp hz).elim (fun e => e ▸ hb) (h1 z), by rw [List.map_cons, e]⟩
      have keyw : ∀ b : Wall, D.tup ((b.row.map Sum.inl : List L2.Key).map keyD) = b.enc := fun b => rfl
      have lk : (M.map fun p => D.tup (p.1.map keyD)) = ws.map Wall.enc := by
        have := congrArg (List.map fun ks : List L2.Key => D.tup (ks.map keyD)) hwk
        rw [List.map_map, List.map_map] at this
        exact this
      have hM2 : M.length = ws.length := by
        have := congrArg List.length hwk
        rwa [List.length_map, List.length_map] at this
      have ls2 : opLsd (.ref (h.length + 2)) (h5 ++ [.lst ((ls.map fun l => (l.x, l.y)).map encH), .lst (ls.map Leaf.enc), .dctT M]) = .ok (.lst (ws.map Wall.enc)) (h5 ++ [.lst ((ls.map fun l => (l.x, l.y)).map encH), .lst (ls.map Leaf.enc), .dctT M]) := by
        have hg : (h5 ++ [DO.lst ((ls.map fun l => (l.x, l.y)).map encH), .lst (ls.map Leaf.enc), .dctT M])[h.length + 2]? = some (.dctT M) := by
          rw [List.getElem?_append_right (by omega), hlen5]; simp
        have l3 : M.length ≤ lim := Nat.le_trans (by omega : M.length ≤ 10) (by decide)
        simp only [opLsd, hg, l3, if_true, lk]
      have ndr : (ws.map Wall.row).Nodup := by
        rw [hwk] at k1
        refine List.pairwise_map.mpr ((List.pairwise_map.mp k1).imp fun {a b} hne e => hne ?_)
        rw [e]
      obtain ⟨ws', es, pm, pwW⟩ := walls_sorted ws ndr
      have so : ∀ h, opBi .sorted [.lst (ws.map Wall.enc)] h = .ok (.lst (ws'.map Wall.enc)) h := fun h => by
        have hs : sortable (ws.map Wall.enc) = true := by
          unfold sortable
          rw [Bool.and_eq_true, Bool.or_eq_true]
          refine ⟨?_, .inl ?_⟩
          · rw [List.all_eq_true]
            intro x hx
            rw [List.all_eq_true]
            intro y hy
            obtain ⟨a, _, rfl⟩ := List.mem_map.mp hx
            obtain ⟨b, _, rfl⟩ := List.mem_map.mp hy
            exact alike_tups a.row b.row
          · rw [List.all_eq_true]
            intro x hx
            obtain ⟨a, _, rfl⟩ := List.mem_map.mp hx
            rfl
        have l4 : (ws.map Wall.enc).length ≤ lim := by rw [List.length_map, ← hM2]; exact Nat.le_trans (by omega : M.length ≤ 10) (by decide)
        simp only [opBi, isTupD, seqOf, hs, l4, decide_true, Bool.and_self, Bool.false_eq_true, if_false, if_true, es]
      have tl : opBi .tuple [.ref (h.length + 1)] (h5 ++ [.lst ((ls.map fun l => (l.x, l.y)).map encH), .lst (ls.map Leaf.enc), .dctT M]) = .ok (.tup (ls.map Leaf.enc)) (h5 ++ [.lst ((ls.map fun l => (l.x, l.y)).map encH), .lst (ls.map Leaf.enc), .dctT M]) := by
        have hg : (h5 ++ [DO.lst ((ls.map fun l => (l.x, l.y)).map encH), .lst (ls.map Leaf.enc), .dctT M])[h.length + 1]? = some (.lst (ls.map Leaf.enc)) := by
          rw [List.getElem?_append_right (by omega), hlen5]; simp
        simp only [opBi, isCtp, seqOf, hg, Bool.false_eq_true, if_false]
      rw [if_pos hlimb, el_of dl]
      simp only [t_var, List.set_cons_zero, List.set_cons_succ, s_ret, e_tup, e_cons, e_bi, e_lsd, e_var, getV_zero, getV_succ, isFn_ref, Bool.false_eq_true, if_false, e_nil, its_lst, ↓el_of tl, ↓el_of ls2, ↓el_of (so _), q_tuple, el_ok]
      have drT := (dr3.trans drD).trans drE
      have cut := drT.cut (j := [.lst ((ls.map fun l => (l.x, l.y)).map encH), .lst (ls.map Leaf.enc), .dctT M]) true (House.mk ls ws').enc (House.nrf _)
      refine Has.imp (Q := fun d h' => d = (House.mk ls ws').enc ∧ h' = h5) ⟨_, _, cut, rfl, rfl⟩ ?_
      rintro _ _ ⟨rfl, rfl⟩
      refine ⟨⟨ls, ws'⟩, rfl, ⟨?_, ?_, hleaf, hnames, pw, ?_, fun b hb => hbs b (hws b (pm.mem_iff.mp hb)), pwW⟩, ?_, drT⟩
      · intro z
        have z : ls = [] := z
        rw [z] at hl
        simp at hl
        omega
      · show ls.length ≤ 6
        omega
      · show ws'.length ≤ 8
        have := pm.length_eq
        omega
      · show ls.length ≤ most
        omega
end VE
set_option Elab.async false
set_option linter.all false
set_option maxRecDepth 100000
set_option maxHeartbeats 1000000
set_option autoImplicit false
/-! P5: comprehensions of two clauses; what can be reached -/
namespace VE
open PySem
section
variable {f : D → HS → R (List D)} {α : Type}
theorem comp2_map (enc : α → D) (g : α → List D) (h : HS) : ∀ (l : List α), (∀ a ∈ l, f (enc a) h = .ok (g a) h) → comp2Go f (l.map enc) h = .ok (l.flatMap g) h
  | [], _ => rfl
  | a :: l, H => by
    rw [List.map_cons, comp2Go, H a List.mem_cons_self]
    simp only [R.bind]
    rw [comp2_map enc g h l fun b hb => H b (List.mem_cons_of_mem _ hb)]
    rfl
end
section
variable {β : Type} {X : Nat → D → HS → β} {B : β}
@[simp ↓] theorem c1_el (t : E) (vs : List Nat) (ρ : Env) (me : Env → HS → R D) (x : D) (h : HS) (k : Option D → HS → β) : (comp1F t vs ρ me x h).el X B k = match stN t x (wipeD ρ vs) with
    | none => B
    | some ρ' => (me ρ' h).el X B fun y h2 => k (some y) h2 := by
  unfold comp1F
  cases stN t x (wipeD ρ vs) with
  | none => rfl
  | some ρ' => simp only [el_bind, el_ok]
@[simp ↓] theorem c2_el (t : E) (vs : List Nat) (t2 : E) (vs1 : List Nat) (ρ : Env) (m2 me : Env → HS → R D) (x : D) (h : HS) (k : List D → HS → β) : (comp2F t vs t2 vs1 ρ m2 me x h).el X B k = match stN t x (blkE ρ vs) with
    | none => B
    | some ρ' => (m2 ρ' h).el X B fun l h1 => (compGo (comp1F t2 vs1 ρ' me) (its l) h1).el X B k := by
  unfold comp2F
  cases stN t x (blkE ρ vs) with
  | none => rfl
  | some ρ' => simp only [el_bind]
end
/-! ### what can be reached -/
inductive Reach {α : Type} (E : α → α → Prop) (r : α) : α → Prop
  | refl : Reach E r r
  | step {x y : α} : Reach E r x → E x y → Reach E r y
theorem reach_iff {α : Type} {E : α → α → Prop} {r : α} {fs : List α} (h0 : r ∈ fs) (h1 : ∀ x ∈ fs, Reach E r x) (h2 : ∀ x ∈ fs, ∀ y, E x y → y ∈ fs) (x : α) : x ∈ fs ↔ Reach E r x := by
  refine ⟨h1 x, fun h => ?_⟩
  induction h with
  | refl => exact h0
  | step _ e ih => exact h2 _ ih _ e
/-- rows of texts in order, with the same members, none twice -/
theorem sort_strs_eq {xs ys : List Str} (n1 : xs.Nodup) (n2 : ys.Nodup) (h : ∀ x, x ∈ xs ↔ x ∈ ys) : sortD (xs.map D.str) = sortD (ys.map D.str) :=
  sortD_eq (((List.perm_ext_iff_of_nodup n1 n2).mpr h).map _) fun a ha b hb e => by
    obtain ⟨x, _, rfl⟩ := List.mem_map.mp ha
    obtain ⟨y, _, rfl⟩ := List.mem_map.mp hb
    exact str_inj _ _ e
theorem sort_strs (xs : List Str) : ∃ zs : List Str, sortD (xs.map D.str) = zs.map D.str ∧ zs.Perm xs := by
  refine ⟨xs.mergeSort fun a b => !D.lt (.str b) (.str a), ?_, List.mergeSort_perm _ _⟩
  rw [List.map_mergeSort (f := D.str) (s := fun a b => !D.lt b a) (fun x _ y _ => rfl)]
  rfl
theorem sort_strs_pw {xs zs : List Str} (nd : xs.Nodup) (e : sortD (xs.map D.str) = zs.map D.str) (p : zs.Perm xs) : zs.Pairwise fun a b => D.lt (.str a) (.str b) = true := by
  have nz : (zs.map D.str).Nodup := List.pairwise_map.mpr ((p.nodup_iff.mpr nd).imp fun hne h => hne (by injection h))
  have pw := sortD_pw (xs.map D.str)
  rw [e] at pw
  exact List.pairwise_map.mp (strict_of nz pw fun a ha b hb e => by
    obtain ⟨x, _, rfl⟩ := List.mem_map.mp ha
    obtain ⟨y, _, rfl⟩ := List.mem_map.mp hb
    exact str_inj _ _ e)
theorem dups_nodup {l : List Str} : l.eraseDups.Nodup := by
  have : ∀ (n : Nat) (l : List Str), l.length ≤ n → l.eraseDups.Nodup := by
    intro n
    induction n with
    | zero =>
      intro l h
      have e : l = [] := List.length_eq_zero_iff.mp (Nat.le_zero.mp h)
      subst e
      simp
    | succ n ih =>
      intro l h
      cases l with
      | nil => simp
      | cons a l =>
        rw [List.eraseDups_cons]
        refine List.nodup_cons.mpr ⟨fun hm => ?_, ih _ ?_⟩
        · rw [List.mem_eraseDups, List.mem_filter] at hm
          simp at hm
        · have := List.length_filter_le (fun b => !(b == a)) l
          simp only [List.length_cons] at h
          omega
  exact this l.length l (Nat.le_refl _)
theorem strs_map : ∀ l : List Str, strsOf (l.map D.str) = some l
  | [] => rfl
  | x :: l => by simp [strsOf, strs_map l]
theorem sortable_strs (xs : List Str) : sortable (xs.map D.str) = true := by
  unfold sortable
  rw [Bool.and_eq_true, Bool.or_eq_true]
  exact ⟨by simp [D.alike], .inr (by simp)⟩
theorem sorted_strs_run (xs : List Str) (hl : xs.length ≤ lim) (a : D) (h : HS) (ha : seqOf a h = some (xs.map D.str)) (ht : isTupD a = false) : opBi .sorted [a] h = .ok (.lst (sortD (xs.map D.str))) h := by
  have l : (xs.map D.str).length ≤ lim := by rw [List.length_map]; exact hl
  simp only [opBi, ht, ha, sortable_strs, l, decide_true, Bool.and_self, Bool.false_eq_true, if_false, if_true]
end VE
set_option Elab.async false
set_option linter.all false
set_option maxRecDepth 100000
set_option maxHeartbeats 2000000
set_option autoImplicit false
/-! Lo: doors, stands: their checks -/
namespace VE
open PySem
def R4 : List Str := ["attic", "hut", "yard", "shed"]
theorem r4_names : ∀ x ∈ R4, NameOk x := by
  have h : (R4.all fun x => decide (x.cps.toList ≠ []) && (x.cps.toList.all fun c => decide (c ∈ lettersL)) && decide (x.length ≤ 8) && takenL.all fun d => match d with | .str y => !decide (y = x) | _ => true) = true := by decide +kernel
  intro x hx
  have := List.all_eq_true.mp h x hx
  simp only [Bool.and_eq_true, decide_eq_true_eq, List.all_eq_true] at this
  obtain ⟨⟨⟨h1, h2⟩, h3⟩, h4⟩ := this
  refine ⟨h1, h2, h3, fun hm => ?_⟩
  have := h4 _ hm
  simp at this
structure Door where
  name : Str
  a : Str
  b : Str
def Door.enc (d : Door) : D := .tup [.str d.name, .str d.a, .str d.b]
structure Door.Ok (d : Door) : Prop where
  nm : NameOk d.name
  ha : d.a ∈ R4
  hb : d.b ∈ R4
  lt : slt d.a d.b
theorem Door.nfn (d : Door) : isFn d.enc = false := rfl
theorem Door.nrf (d : Door) : noref d.enc = true := by simp [Door.enc]
def encDs (ds : List Door) : D := .tup (ds.map Door.enc)
theorem r_is_door (k : Nat) (d : Door) (o : d.Ok) (h : HS) : evF pg (k + 3) f_is_door [d.enc] h = .ok (.bl true) h := by
  have ln : evF pg (k + 2) f_is_tuple_of [d.enc, .int 3] h = .ok (.bl true) h := r_is_tuple_of _ _ _ _
  have s0 : opSeq d.enc h = .ok (.lst ([d.name, d.a, d.b].map D.str)) h := rfl
  have i1 : opIx d.enc (.int 1) h = .ok (.str d.a) h := i_at _ 1 (xs := [.str d.name, .str d.a, .str d.b]) rfl _ rfl (fun _ z => by cases z)
  have i2 : opIx d.enc (.int 2) h = .ok (.str d.b) h := i_at _ 2 (xs := [.str d.name, .str d.a, .str d.b]) rfl _ rfl (fun _ z => by cases z)
  have lt : opCmp .lt (.str d.a) (.str d.b) h = .ok (.bl true) h := by
    have : d.a.cps.toList < d.b.cps.toList := o.lt
    simp only [opCmp, D.alike, if_true, D.lt]
    rw [decide_eq_true this]
  rw [u_is_door]
  simp only [b_is_door, s_seq, s_ite, e_or, e_not, e_one, e_callK, e_cons, e_cst, e_nil, its_lst, e_var, getV_zero, d.nfn, Bool.false_eq_true, if_false, permOf, List.append_nil, List.map_cons, List.map_nil, List.getD_cons_zero, List.getD_cons_succ, ↓el_of ln, onB_bl, if_true, e_bi, e_comp, e_iseq, ↓el_of s0]
  rw [show ([D.str d.name, D.str d.a, D.str d.b] : List D) = [d.name, d.a, d.b].map D.str from rfl, el_of (comp_map D.str (fun _ => D.bl true) h [d.name, d.a, d.b] ?H)]
  case H =>
    intro x hx
    have nx : NameOk x := by
      simp only [List.mem_cons, List.mem_nil_iff, or_false] at hx
      rcases hx with rfl | rfl | rfl
      · exact o.nm
      · exact r4_names _ o.ha
      · exact r4_names _ o.hb
    refine (el_id _).symm.trans ?_
    simp [blkE, wipeD, noNdf, permOf, ↓el_of (r_is_name _ _ _ nx)]
  have al : opBi .all [.lst ([d.name, d.a, d.b].map fun _ => D.bl true)] h = .ok (.bl true) h := q_all _ _ (allB_true _)
  rw [if_pos (by simp [lim])]
  simp only [↓el_of al, el_ok, onB_bl, Bool.false_eq_true, if_false, if_true, s_skip, s_ret, e_cmp, e_ix, e_var, getV_zero, d.nfn, e_cst, ↓el_of i1, ↓el_of i2, ↓el_of lt]
  rw [cut_same _ _ _ (by simp)]
theorem r_cb_0 (k : Nat) (d : Door) (o : d.Ok) (bs : List D) (ns : List Str) (h : HS) (hn : ns[bs.length]? = some d.name) : evG pg (k + 4) 0 [.ctp (ns.map D.str)] [d.enc, .tup bs] h = .ok (.bl true) h := by
  have hl := (List.getElem?_eq_some_iff.mp hn).1
  have i0 : opIx d.enc (.int 0) h = .ok (.str d.name) h := i_at _ 0 (xs := [.str d.name, .str d.a, .str d.b]) rfl _ rfl (fun _ z => by cases z)
  have hc : cutD (ns.map D.str) (some (bs.length : Int)) (some ((bs.length : Int) + 1)) = [.str d.name] := by
    have e : ((bs.length : Int) + 1) = ((bs.length + 1 : Nat) : Int) := by omega
    unfold cutD
    rw [e, HT.sIx_nat, HT.sIx_nat, List.length_map, Nat.min_eq_left (by omega : bs.length ≤ ns.length), Nat.min_eq_left (by omega : bs.length + 1 ≤ ns.length), Nat.add_sub_cancel_left, ← List.map_drop, List.drop_eq_getElem_cons hl]
    rw [List.getElem?_eq_getElem hl] at hn
    simp [Option.some.inj hn]
  have sl : ∃ S, opSl (.ctp (ns.map D.str)) (.int bs.length) (.int ((bs.length : Int) + 1)) h = .ok S h ∧ seqOf S h = some [.str d.name] ∧ (∀ y, S ≠ .str y) ∧ isFn S = false := by
    simp only [opSl, partOf]
    split
    · rename_i c
      refine ⟨_, rfl, ?_, fun _ z => (by cases z), rfl⟩
      have : cutD (ns.map D.str) (some (bs.length : Int)) (some ((bs.length : Int) + 1)) = ns.map D.str := by
        unfold cutD
        rw [c.1, c.2, Nat.sub_zero, List.drop_zero, List.take_length]
      rw [hc] at this
      rw [this]
      rfl
    · exact ⟨_, rfl, by rw [hc]; rfl, fun _ z => (by cases z), rfl⟩
  obtain ⟨S, sl, sq, sns, snf⟩ := sl
  have one := r_is_one_of (k + 2) d.name [.str d.name] S h sq sns snf rfl (by simp)
  have ge : ¬ ((ns.length : Int) ≤ (bs.length : Int)) := by omega
  rw [uc_0]
  simp only [cb_0, s_seq, s_ret, e_and, e_or, e_one, e_callK, e_cons, e_nil, its_lst, e_var, getV_zero, getV_succ, d.nfn, isFn_tup, isFn_ctp, Bool.false_eq_true, if_false, permOf, List.append_nil, List.map_cons, List.map_nil, List.getD_cons_zero, List.getD_cons_succ, ↓el_of (r_is_door _ _ o _), onB_bl, if_true, e_cmp, e_bi, l_tup, l_ctp, el_ok, List.length_map, c_ge, ge, decide_false, e_ix, e_cst, ↓el_of i0, e_sl, el_evO, isNil_bi, isNil_bin, e_bin, b_add, ↓el_of sl, ↓el_of one]
  rw [cut_same _ _ _ (by simp)]
theorem r_wrong_for_all (k : Nat) (xs : List D) (fr : D) (hfr : (∃ c caps, fr = .fn c caps) ∨ ∃ f, fr = .gfn f) (h : HS) (nx : ∀ x ∈ xs, isFn x = false)
    (hr : ∀ i x, xs[i]? = some x → appF k fr [x, .tup (xs.take i)] h = .ok (.bl true) h) : evF pg (k + 2) f_wrong_for_all [.tup xs, .int xs.length, fr] h = .ok (.lst []) h := by
  have e : evF pg (k + 1) f_wrong_at [.tup xs, .non, fr] h = .ok (.lst []) h := r_wrong_at k xs .non fr h rfl nx (fun i _ => by simp) hr
  rw [u_wrong_for_all]
  rcases hfr with ⟨c, caps, rfl⟩ | ⟨f, rfl⟩ <;> simp [b_wrong_for_all, ↓el_of e]
def names (H : House) : List Str := H.leaves.map Leaf.name
theorem r_name_in (k : Nat) (l : Leaf) (h : HS) : evF pg (k + 1) f_name_in [l.enc] h = .ok (.str l.name) h := by
  rw [u_name_in]
  have q0 : opIx l.enc (.int 0) h = .ok (.str l.name) h := enc_at l h 0 _ rfl
  simp [b_name_in, Leaf.nfn, ↓el_of q0]
theorem house_i0 (H : House) (h : HS) : opIx H.enc (.int 0) h = .ok H.ls h := i_at _ 0 (xs := [H.ls, H.ws]) rfl _ rfl (fun _ z => by cases z)
theorem r_leaf_names (k : Nat) (H : House) (hl : H.leaves.length ≤ 6) (h : HS) : evF pg (k + 2) f_leaf_names [H.enc] h = .ok (.ctp ((names H).map D.str)) h := by
  have nf : isFn H.enc = false := rfl
  have sq : opSeq H.ls h = .ok (.lst (H.leaves.map Leaf.enc)) h := rfl
  rw [u_leaf_names]
  simp only [b_leaf_names, s_seq, s_ret, e_bi, e_cons, e_nil, its_lst, e_comp, e_iseq, e_ix, e_var, getV_zero, nf, Bool.false_eq_true, if_false, e_cst, ↓el_of (house_i0 H h), ↓el_of sq]
  rw [el_of (comp_map Leaf.enc (fun l => D.str l.name) h H.leaves ?H)]
  case H =>
    intro l _
    refine (el_id _).symm.trans ?_
    simp [blkE, wipeD, noNdf, Leaf.nfn, permOf, ↓el_of (r_name_in _ _ _)]
  have l1 : (H.leaves.map fun l => D.str l.name).length ≤ lim := by rw [List.length_map]; exact Nat.le_trans hl (by decide)
  rw [if_pos l1]
  simp only [q_tupleP, el_ok]
  rw [cut_same _ _ _ (by rw [noref_ctp]; exact norefs_map _ _ fun _ => by simp)]
  unfold names
  rw [List.map_map]
  rfl
theorem r_names (k : Nat) (H : House) (hl : H.leaves.length ≤ 6) (h : HS) : evF pg (k + 1) f__law_names [H.enc] h = .ok (.ctp ((names H).map D.str)) h := by
  have nf : isFn H.enc = false := rfl
  have sq : opSeq H.ls h = .ok (.lst (H.leaves.map Leaf.enc)) h := rfl
  rw [u__law_names]
  simp only [b__law_names, s_seq, s_ret, e_bi, e_cons, e_nil, its_lst, e_comp, e_iseq, e_ix, e_var, getV_zero, nf, Bool.false_eq_true, if_false, e_cst, ↓el_of (house_i0 H h), ↓el_of sq]
  rw [el_of (comp_map Leaf.enc (fun l => D.str l.name) h H.leaves ?H)]
  case H =>
    intro l _
    refine (el_id _).symm.trans ?_
    have q0 : opIx l.enc (.int 0) h = .ok (.str l.name) h := enc_at l h 0 _ rfl
    simp [blkE, wipeD, noNdf, Leaf.nfn, ↓el_of q0]
  have l1 : (H.leaves.map fun l => D.str l.name).length ≤ lim := by rw [List.length_map]; exact Nat.le_trans hl (by decide)
  rw [if_pos l1]
  simp only [q_tupleP, el_ok]
  rw [cut_same _ _ _ (by rw [noref_ctp]; exact norefs_map _ _ fun _ => by simp)]
  unfold names
  rw [List.map_map]
  rfl
/-- doors of a house -/
structure DoorsOk (H : House) (ds : List Door) : Prop where
  nm : ds.map Door.name = names H
  ok : ∀ d ∈ ds, d.Ok
theorem DoorsOk.len {H : House} {ds : List Door} (o : DoorsOk H ds) : ds.length = H.leaves.length := by
  have := congrArg List.length o.nm
  simpa [names] using this
theorem r_check_doors_of (k : Nat) (H : House) (hl : H.leaves.length ≤ 6) (ds : List Door) (o : DoorsOk H ds) (h : HS) : evF pg (k + 8) f_check_doors_of [H.enc, encDs ds] h = .ok .non h := by
  have nf : isFn H.enc = false := rfl
  have nf2 : isFn (encDs ds) = false := rfl
  have nl : ((names H).map D.str).length = (ds.map Door.enc).length := by
    rw [List.length_map, ← o.nm, List.length_map, List.length_map]
  have wf : evF pg (k + 6) f_wrong_for_all [encDs ds, .int ((names H).map D.str).length, .fn 0 [.ctp ((names H).map D.str)]] h = .ok (.lst []) h := by
    rw [nl]
    refine r_wrong_for_all (k + 4) (ds.map Door.enc) _ (.inl ⟨_, _, rfl⟩) h (fun x hx => ?_) fun i x hx => ?_
    · obtain ⟨d, _, rfl⟩ := List.mem_map.mp hx
      rfl
    · rw [List.getElem?_map] at hx
      cases q : ds[i]? with
      | none => rw [q] at hx; cases hx
      | some d =>
        rw [q] at hx
        cases hx
        have hi := (List.getElem?_eq_some_iff.mp q).1
        refine r_cb_0 k d (o.ok d (List.mem_of_getElem? q)) _ (names H) h ?_
        rw [List.length_take, List.length_map, Nat.min_eq_left (by omega), ← o.nm, List.getElem?_map, q]
        rfl
  have wd : evF pg (k + 7) f_wrong_doors [H.enc, encDs ds] h = .ok (.lst []) h := by
    rw [u_wrong_doors]
    simp only [b_wrong_doors, s_seq, s_asg, e_callK, e_cons, e_nil, its_lst, e_var, getV_zero, getV_succ, nf, nf2, Bool.false_eq_true, if_false, permOf, List.append_nil, List.map_cons, List.map_nil, List.getD_cons_zero, List.getD_cons_succ, ↓el_of (r_leaf_names _ H hl h), t_var, List.set_cons_zero, List.set_cons_succ, s_ndf, s_ret, e_callF, e_bi, isFn_ctp, l_ctp, el_ok, e_ndv, capsOf, List.all_cons, List.all_nil, Bool.and_true, Bool.not_false, and_self, if_true, ↓el_of wf]
    rw [cut_same _ _ _ (by simp)]
  rw [u_check_doors_of]
  simp [b_check_doors_of, nf, nf2, permOf, ↓el_of wd, foGo]
/-- a stand -/
def stD (b : Bool) : D := .str (if b then "open" else "shut")
def encS (s : List Bool) : D := .tup (s.map stD)
theorem r_check_stand_of (k : Nat) (H : House) (s : List Bool) (hl : s.length = H.leaves.length) (h : HS) : evF pg (k + 6) f_check_stand_of [H.enc, encS s] h = .ok .non h := by
  have nf : isFn H.enc = false := rfl
  have nf2 : isFn (encS s) = false := rfl
  have nl : (H.leaves.map Leaf.enc).length = (s.map stD).length := by
    rw [List.length_map, List.length_map, hl]
  have wf : evF pg (k + 4) f_wrong_for_all [encS s, .int (H.leaves.map Leaf.enc).length, .fn 2 []] h = .ok (.lst []) h := by
    rw [nl]
    refine r_wrong_for_all (k + 2) (s.map stD) _ (.inl ⟨_, _, rfl⟩) h (fun x hx => ?_) fun i x hx => ?_
    · obtain ⟨d, _, rfl⟩ := List.mem_map.mp hx
      rfl
    · rw [List.getElem?_map] at hx
      cases q : s[i]? with
      | none => rw [q] at hx; cases hx
      | some d =>
        rw [q] at hx
        cases hx
        have one := r_is_one_of k (if d then "open" else "shut") [.str "shut", .str "open"] gl_STATES h rfl (fun _ z => by cases z) rfl rfl (by cases d <;> simp)
        show evG pg (k + 2) 2 [] [stD d, .tup ((s.map stD).take i)] h = _
        rw [uc_2]
        have nfd : isFn (stD d) = false := rfl
        simp only [cb_2, s_ret, e_callK, e_cons, e_nil, its_lst, e_var, getV_zero, nfd, Bool.false_eq_true, if_false, e_gl, permOf, List.append_nil, List.map_cons, List.map_nil, List.getD_cons_zero, List.getD_cons_succ]
        rw [show stD d = .str (if d then "open" else "shut") from rfl, el_of one, cut_same _ _ _ (by simp)]
  have ll : opBi .len [H.ls] h = .ok (.int (H.leaves.map Leaf.enc).length) h := rfl
  have nfl : isFn H.ls = false := rfl
  have wd : evF pg (k + 5) f_wrong_stand [H.enc, encS s] h = .ok (.lst []) h := by
    rw [u_wrong_stand]
    simp only [b_wrong_stand, s_seq, s_ret, e_callF, e_cons, e_nil, its_lst, e_var, getV_zero, getV_succ, nf, nf2, Bool.false_eq_true, if_false, e_bi, e_ix, e_cst, ↓el_of (house_i0 H h), ↓el_of ll, e_lam, capsOf, List.all_nil, if_true, ↓el_of wf]
    rw [cut_same _ _ _ (by simp)]
  rw [u_check_stand_of]
  simp [b_check_stand_of, nf, nf2, permOf, ↓el_of wd, foGo]
theorem r_check_stand (k : Nat) (H : House) (o : H.Ok) (s : List Bool) (hl : s.length = H.leaves.length) (h : HS) : evF pg (k + 10) f_check_stand [H.enc, encS s] h = .ok .non h := by
  have nf : isFn H.enc = false := rfl
  have nf2 : isFn (encS s) = false := rfl
  rw [u_check_stand]
  simp [b_check_stand, nf, nf2, permOf, ↓el_of (r_check_house k H o h), ↓el_of (r_check_stand_of (k + 3) H s hl h)]
end VE
set_option Elab.async false
set_option linter.all false
set_option maxRecDepth 100000
set_option maxHeartbeats 2000000
set_option autoImplicit false
/-! Lp: rooms, their names in order -/
namespace VE
open PySem
def ends (ds : List Door) : List Str := ds.flatMap fun d => [d.a, d.b]
def roomsD (ds : List Door) : List D := sortD ((ends ds).eraseDups.map D.str)
theorem ends_len (ds : List Door) : (ends ds).length = 2 * ds.length := by
  induction ds with
  | nil => rfl
  | cons d ds ih =>
    unfold ends at ih ⊢
    simp only [List.flatMap_cons, List.length_append, List.length_cons, List.length_nil, ih]
    omega
theorem roomsD_nrf (ds : List Door) : norefs (roomsD ds) = true := by
  rw [norefs_all, List.all_eq_true]
  intro d hd
  obtain ⟨x, _, rfl⟩ := List.mem_map.mp (sortD_mem.mp hd)
  simp
theorem r_all_rooms (k : Nat) (ds : List Door) (hl : ds.length ≤ 6) (h : HS) : evF pg (k + 1) f_all_rooms [encDs ds] h = .ok (.lst (roomsD ds)) h := by
  have nf2 : isFn (encDs ds) = false := rfl
  have sq : opSeq (encDs ds) h = .ok (.lst (ds.map Door.enc)) h := rfl
  have so : opSSet (.lst (ds.flatMap fun d => [D.str d.a, D.str d.b])) h = .ok (.lst (roomsD ds)) h := by
    have e : (ds.flatMap fun d => [D.str d.a, D.str d.b]) = (ends ds).map D.str := by
      unfold ends
      rw [List.map_flatMap]
      rfl
    have l : (ends ds).length < 64 := by rw [ends_len]; omega
    rw [e]
    simp only [opSSet, strs_map, l, if_true]
    rfl
  rw [u_all_rooms]
  simp only [b_all_rooms, s_seq, s_ret, e_sortedSet, e_comp2, e_iseq, e_var, getV_zero, nf2, Bool.false_eq_true, if_false, ↓el_of sq, its_lst]
  rw [el_of (comp2_map Door.enc (fun d => [D.str d.a, D.str d.b]) h ds ?H)]
  case H =>
    intro d _
    refine (el_id _).symm.trans ?_
    have st : stN (.tup (.cons (.var 1) (.cons (.var 2) (.cons (.var 3) .nil)))) d.enc (blkE [some (encDs ds), none, none, none, none] [1, 2, 3, 4]) = some [some (encDs ds), some (.str d.name), some (.str d.a), some (.str d.b), none] := rfl
    simp only [c2_el, List.map_cons, List.map_nil, st, e_iseq, e_tup, e_cons, e_nil, e_var, getV_zero, getV_succ, isFn_str, Bool.false_eq_true, if_false, its_lst, w_tup, el_ok]
    rw [el_of (comp_mapD id h [.str d.a, .str d.b] ?H2)]
    case H2 =>
      intro x hx
      have nfx : isFn x = false := by
        simp only [List.mem_cons, List.mem_nil_iff, or_false] at hx
        rcases hx with rfl | rfl <;> rfl
      refine (el_id _).symm.trans ?_
      simp only [c1_el, stN_var, wipeD, List.set_cons_zero, List.set_cons_succ, e_var, getV_zero, getV_succ, nfx, Bool.false_eq_true, if_false]
      rfl
    rfl
  have l2 : (ds.flatMap fun d => [D.str d.a, D.str d.b]).length ≤ lim := by
    have : (ds.flatMap fun d => [D.str d.a, D.str d.b]).length = 2 * ds.length := by
      rw [← ends_len]
      unfold ends
      simp [List.length_flatMap]
    rw [this]
    exact Nat.le_trans (by omega : 2 * ds.length ≤ 12) (by decide)
  rw [if_pos l2]
  simp only [↓el_of so]
  rw [cut_same _ _ _ (by rw [noref_lst]; exact roomsD_nrf ds)]
theorem r_is_one_lst (k : Nat) (x : Str) (rs : List D) (h : HS) (hf : rs.all D.flat = true) (hx : D.str x ∈ rs) : evF pg (k + 1) f_is_one_of [.str x, .lst rs] h = .ok (.bl true) h := r_is_one_of k x rs (.lst rs) h rfl (fun _ z => by cases z) rfl hf hx
theorem roomsD_flat (ds : List Door) : (roomsD ds).all D.flat = true := by
  rw [List.all_eq_true]
  intro d hd
  obtain ⟨x, _, rfl⟩ := List.mem_map.mp (sortD_mem.mp hd)
  rfl
theorem roomsD_mem (ds : List Door) (x : Str) : D.str x ∈ roomsD ds ↔ x ∈ ends ds := by
  unfold roomsD
  rw [sortD_mem, List.mem_map]
  constructor
  · rintro ⟨y, hy, e⟩
    injection e with e
    rw [← e]
    exact List.mem_eraseDups.mp hy
  · intro hx
    exact ⟨x, List.mem_eraseDups.mpr hx, rfl⟩
theorem r_check_room (k : Nat) (ds : List Door) (hl : ds.length ≤ 6) (x : Str) (hx : x ∈ ends ds) (h : HS) : evF pg (k + 2) f_check_room [encDs ds, .str x] h = .ok .non h := by
  have nf2 : isFn (encDs ds) = false := rfl
  rw [u_check_room]
  simp [b_check_room, nf2, permOf, ↓el_of (r_all_rooms k ds hl h), ↓el_of (r_is_one_lst k x _ h (roomsD_flat ds) ((roomsD_mem ds x).mpr hx))]
theorem r_rooms_of (k : Nat) (H : House) (o : H.Ok) (ds : List Door) (od : DoorsOk H ds) (h : HS) : evF pg (k + 10) f_rooms_of [H.enc, encDs ds] h = .ok (.tup (roomsD ds)) h := by
  have nf : isFn H.enc = false := rfl
  have nf2 : isFn (encDs ds) = false := rfl
  have hl : ds.length ≤ 6 := by rw [od.len]; exact o.few
  rw [u_rooms_of]
  simp only [b_rooms_of, s_seq, s_ex, s_ret, e_bi, e_callK, e_cons, e_nil, its_lst, e_var, getV_zero, getV_succ, nf, nf2, Bool.false_eq_true, if_false, permOf, List.append_nil, List.map_cons, List.map_nil, List.getD_cons_zero, List.getD_cons_succ, ↓el_of (r_check_house k H o h), ↓el_of (r_check_doors_of (k + 1) H o.few ds od h), ↓el_of (r_all_rooms (k + 8) ds hl h), q_tuple, el_ok]
  rw [cut_same _ _ _ (by rw [noref_tup]; exact roomsD_nrf ds)]
theorem r_check_doored (k : Nat) (H : House) (o : H.Ok) (s : List Bool) (hs : s.length = H.leaves.length) (ds : List Door) (od : DoorsOk H ds) (x : Str) (hx : x ∈ ends ds) (h : HS) : evF pg (k + 11) f_check_doored [H.enc, encS s, encDs ds, .str x] h = .ok .non h := by
  have nf : isFn H.enc = false := rfl
  have nf2 : isFn (encDs ds) = false := rfl
  have nf3 : isFn (encS s) = false := rfl
  have hl : ds.length ≤ 6 := by rw [od.len]; exact o.few
  rw [u_check_doored]
  simp [b_check_doored, nf, nf2, nf3, permOf, ↓el_of (r_check_stand k H o s hs h), ↓el_of (r_check_doors_of (k + 2) H o.few ds od h), ↓el_of (r_check_room (k + 8) ds hl x hx h)]
theorem r_check_walking (k : Nat) (H : House) (o : H.Ok) (s : List Bool) (hs : s.length = H.leaves.length) (ds : List Door) (od : DoorsOk H ds) (x y : Str) (hx : x ∈ ends ds) (hy : y ∈ ends ds) (h : HS) : evF pg (k + 12) f_check_walking [H.enc, encS s, encDs ds, .str x, .str y] h = .ok .non h := by
  have nf : isFn H.enc = false := rfl
  have nf2 : isFn (encDs ds) = false := rfl
  have nf3 : isFn (encS s) = false := rfl
  have hl : ds.length ≤ 6 := by rw [od.len]; exact o.few
  rw [u_check_walking]
  simp [b_check_walking, nf, nf2, nf3, permOf, ↓el_of (r_check_doored k H o s hs ds od x hx h), ↓el_of (r_check_room (k + 9) ds hl y hy h)]
/-! the law's rooms -/
theorem r_law_rooms (k : Nat) (ds : List Door) (hl : ds.length ≤ 6) (h : HS) : evF pg (k + 1) f__law_rooms [encDs ds] h = .ok (.lst (roomsD ds)) h := by
  have nf2 : isFn (encDs ds) = false := rfl
  have sq : ∀ h, opSeq (encDs ds) h = .ok (.lst (ds.map Door.enc)) h := fun _ => rfl
  rw [u__law_rooms]
  simp only [b__law_rooms, s_seq, s_asg, e_dctO, t_var, List.set_cons_zero, List.set_cons_succ, s_fo, e_iseq, e_var, getV_zero, nf2, Bool.false_eq_true, if_false, ↓el_of (sq _), its_lst]
  refine el_fo (G := fun r => r = R.ok (D.lst (roomsD ds)) h) (fun j ρ h' => ∃ kvs : List (L2.Key × D), (∃ r2 r3 r4 : Option D, ρ = [some (encDs ds), some (.ref h.length), r2, r3, r4]) ∧ h' = h ++ [.dct kvs] ∧ (kvs.map (·.1)).Nodup ∧ kvs.length ≤ 2 * j ∧ (∀ p ∈ kvs, ∃ x, p.1 = Sum.inr x) ∧ ∀ x, (Sum.inr x : L2.Key) ∈ kvs.map (·.1) ↔ x ∈ ends (ds.take j))
    ⟨[], ⟨_, _, _, rfl⟩, rfl, List.nodup_nil, by simp, by simp, by simp [ends]⟩ ?_ ?_
  · rintro j x ρ h' hx ⟨kvs, ⟨r2, r3, r4, rfl⟩, rfl, nd, ln, ks, mem⟩
    rw [List.getElem?_map] at hx
    cases q : ds[j]? with
    | none => rw [q] at hx; cases hx
    | some d =>
      rw [q] at hx
      cases hx
      have hj : j < ds.length := (List.getElem?_eq_some_iff.mp q).1
      have g0 : ∀ kv : List (L2.Key × D), (h ++ [DO.dct kv])[h.length]? = some (.dct kv) := fun kv => by rw [List.getElem?_append_right (Nat.le_refl _)]; simp
      have s0 : ∀ (kv kv' : List (L2.Key × D)), (h ++ [DO.dct kv]).set h.length (.dct kv') = h ++ [.dct kv'] := fun kv kv' => by rw [List.set_append_right _ _ (Nat.le_refl _), Nat.sub_self]; rfl
      have p1 : ∀ (kv : List (L2.Key × D)) (x : Str), kv.length < 100 → opPut (.ref h.length) (.str x) (.bl true) (h ++ [.dct kv]) = .ok () (h ++ [.dct (putD kv (Sum.inr x) (.bl true))]) := fun kv x hl => by
        have : kv.length < lim := Nat.lt_of_lt_of_le hl (by decide)
        simp only [opPut, g0, keyOf, this, if_true, s0]
      have l1 := put_len (kvs := kvs) (k := (Sum.inr d.a : L2.Key)) (v := D.bl true)
      have l2 := put_len (kvs := putD kvs (Sum.inr d.a : L2.Key) (D.bl true)) (k := (Sum.inr d.b : L2.Key)) (v := D.bl true)
      unfold turnO
      rw [show Door.enc d = .tup [.str d.name, .str d.a, .str d.b] from rfl]
      simp only [t_tup, t_cons, t_nil, t_var, List.set_cons_zero, List.set_cons_succ, s_seq, s_dput, e_cst, e_var, getV_zero, getV_succ, isFn_ref, isFn_str, Bool.false_eq_true, if_false, ↓el_of (p1 kvs d.a (by omega)), ↓el_of (p1 _ d.b (by omega : (putD kvs (Sum.inr d.a : L2.Key) (D.bl true)).length < 100)), s_skip]
      refine ⟨_, _, rfl, _, ⟨_, _, _, rfl⟩, rfl, put_nodup (put_nodup nd), by omega, ?_, fun x => ?_⟩
      · intro p hp
        have : p.1 ∈ (putD (putD kvs (Sum.inr d.a : L2.Key) (D.bl true)) (Sum.inr d.b : L2.Key) (D.bl true)).map (·.1) := List.mem_map.mpr ⟨p, hp, rfl⟩
        rw [put_mem, put_mem] at this
        rcases this with (h | h) | h
        · obtain ⟨q, hq, e⟩ := List.mem_map.mp h
          obtain ⟨x, hx⟩ := ks q hq
          exact ⟨x, by rw [← e, hx]⟩
        · exact ⟨_, h⟩
        · exact ⟨_, h⟩
      · rw [put_mem, put_mem, mem]
        have : ends (ds.take (j + 1)) = ends (ds.take j) ++ [d.a, d.b] := by
          unfold ends
          rw [List.take_add_one, q]
          simp
        rw [this]
        simp [Sum.inr.injEq, or_assoc]
  · rintro ρ h' ⟨kvs, ⟨r2, r3, r4, rfl⟩, rfl, nd, ln, ks, mem⟩
    rw [List.length_map] at ln mem
    rw [List.take_length] at mem
    have g0 : (h ++ [DO.dct kvs])[h.length]? = some (.dct kvs) := by rw [List.getElem?_append_right (Nat.le_refl _)]; simp
    obtain ⟨xs, hxs⟩ : ∃ xs : List Str, kvs.map (·.1) = xs.map (fun x => (Sum.inr x : L2.Key)) := by
      clear mem ln nd g0
      induction kvs with
      | nil => exact ⟨[], rfl⟩
      | cons p kvs ih =>
        obtain ⟨x, hx⟩ := ks p List.mem_cons_self
        obtain ⟨xs, h⟩ := ih fun q hq => ks q (List.mem_cons_of_mem _ hq)
        exact ⟨x :: xs, by rw [List.map_cons, h, hx]; rfl⟩
    have ndx : xs.Nodup := by
      rw [hxs] at nd
      exact (List.pairwise_map.mp nd).imp fun hne e => hne (by rw [e])
    have lk : (kvs.map fun p => keyD p.1) = xs.map D.str := by
      have := congrArg (List.map keyD) hxs
      rw [List.map_map, List.map_map] at this
      exact this
    have xl : xs.length = kvs.length := by
      have := congrArg List.length hxs
      rw [List.length_map, List.length_map] at this
      exact this.symm
    have l3 : kvs.length ≤ lim := Nat.le_trans (by omega : kvs.length ≤ 12) (by decide)
    have ls2 : opLsd (.ref h.length) (h ++ [.dct kvs]) = .ok (.lst (xs.map D.str)) (h ++ [.dct kvs]) := by
      simp only [opLsd, g0, l3, if_true, lk]
    have so := sorted_strs_run xs (by rw [xl]; exact l3) (.lst (xs.map D.str)) (h ++ [.dct kvs]) rfl rfl
    have e : sortD (xs.map D.str) = roomsD ds := sort_strs_eq ndx dups_nodup fun x => by
      rw [List.mem_eraseDups, ← mem x, hxs, List.mem_map]
      constructor
      · intro hx
        exact ⟨x, hx, rfl⟩
      · rintro ⟨y, hy, e⟩
        injection e with e
        rw [← e]; exact hy
    rw [e] at so
    simp only [s_seq, s_ret, e_bi, e_lsd, e_cons, e_nil, e_var, getV_zero, getV_succ, isFn_ref, Bool.false_eq_true, if_false, its_lst, ↓el_of ls2, ↓el_of so]
    exact cut_app _ _ _ _ (by rw [noref_lst]; exact roomsD_nrf ds)
end VE
set_option Elab.async false
set_option linter.all false
set_option maxRecDepth 100000
set_option maxHeartbeats 2000000
set_option autoImplicit false
/-! Lq: stands and doors are made -/
namespace VE
open PySem
/-- all stands of so many leaves -/
def stands : Nat → List (List Bool)
  | 0 => [[]]
  | n + 1 => (stands n).flatMap fun s => [s ++ [true], s ++ [false]]
theorem stands_len : ∀ n, (stands n).length = 2 ^ n
  | 0 => rfl
  | n + 1 => by
    have ih := stands_len n
    have : ((stands n).flatMap fun s => [s ++ [true], s ++ [false]]).length = 2 * (stands n).length := by
      generalize stands n = l
      induction l with
      | nil => rfl
      | cons s l ih => rw [List.flatMap_cons, List.length_append, ih]; simp; omega
    show ((stands n).flatMap fun s => [s ++ [true], s ++ [false]]).length = _
    rw [this, ih, Nat.pow_succ]
    omega
theorem stands_each : ∀ n, ∀ s ∈ stands n, s.length = n
  | 0, s, h => by simp [stands] at h; subst h; rfl
  | n + 1, s, h => by
    have h : s ∈ (stands n).flatMap fun s => [s ++ [true], s ++ [false]] := h
    obtain ⟨t, ht, h⟩ := List.mem_flatMap.mp h
    have := stands_each n t ht
    simp at h
    rcases h with rfl | rfl <;> simp [this]
theorem add_stand (s : List Bool) (hl : s.length ≤ 10) (b : Bool) (h : HS) : opBin .add (encS s) (.tup [stD b]) h = .ok (encS (s ++ [b])) h := by
  have : (s.map stD).length + [stD b].length ≤ lim := by
    rw [List.length_map]
    show s.length + 1 ≤ 1000000
    omega
  refine (b_addt h _ _ this).trans ?_
  unfold encS
  rw [List.map_append]
  rfl
theorem r_stands (k : Nat) (n : Nat) (hn : n ≤ 6) (h : HS) : evF pg (k + 1) f__law_stands [.int n] h = .ok (.lst ((stands n).map encS)) h := by
  have hr : ∀ h, opRng [.int (n : Int)] h = .ok (.lst (rngD 0 (n : Int))) h := fun h => by
    have : okEnd (n : Int) = true := by
      unfold okEnd
      rw [decide_eq_true_eq]
      constructor <;> omega
    simp only [opRng, this, if_true]
  rw [u__law_stands]
  simp only [b__law_stands, s_seq, s_asg, e_lst, e_cons, e_tup, e_nil, its_lst, t_var, List.set_cons_zero, List.set_cons_succ, s_fo, e_irng, e_var, getV_zero, isFn_int, Bool.false_eq_true, if_false, ↓el_of (hr _)]
  refine el_fo (G := fun r => r = R.ok (D.lst ((stands n).map encS)) h) (fun j ρ h' => h' = h ∧ ∃ r2 r3 r4 : Option D, ρ = [some (.int n), some (.lst ((stands j).map encS)), r2, r3, r4]) ⟨rfl, _, _, _, rfl⟩ ?_ ?_
  · rintro j x ρ h' hx ⟨rfl, r2, r3, r4, rfl⟩
    have hj : j < n := by
      have := (List.getElem?_eq_some_iff.mp hx).1
      rwa [rng_len] at this
    unfold turnO
    simp only [t_var, List.set_cons_zero, List.set_cons_succ, s_seq, s_asg, e_lst, e_nil, s_fo, e_iseq, e_var, getV_zero, getV_succ, isFn_lst, Bool.false_eq_true, if_false, w_lst, el_ok, its_lst]
    refine el_fo (G := Turn _) (fun i ρ h'' => h'' = h' ∧ ∃ r4 : Option D, ρ = [some (.int n), some (.lst ((stands j).map encS)), some x, some (.lst ((((stands j).take i).flatMap fun s => [s ++ [true], s ++ [false]]).map encS)), r4]) ⟨rfl, r4, rfl⟩ ?_ ?_
    · rintro i y ρ h'' hy ⟨rfl, r4', rfl⟩
      rw [List.getElem?_map] at hy
      cases q : (stands j)[i]? with
      | none => rw [q] at hy; cases hy
      | some s =>
        rw [q] at hy
        cases hy
        have hs : s.length = j := stands_each j s (List.mem_of_getElem? q)
        have nfs : isFn (encS s) = false := rfl
        have hli : ((((stands j).take i).flatMap fun s => [s ++ [true], s ++ [false]]).map encS).length + [encS (s ++ [true]), encS (s ++ [false])].length ≤ lim := by
          have e : ∀ l : List (List Bool), (l.flatMap fun s => [s ++ [true], s ++ [false]]).length = 2 * l.length := fun l => by
            induction l with
            | nil => rfl
            | cons s l ih => rw [List.flatMap_cons, List.length_append, ih]; simp; omega
          rw [List.length_map, e, List.length_take, stands_len]
          have : 2 ^ j ≤ 2 ^ 6 := Nat.pow_le_pow_right (by decide) (by omega)
          show 2 * min i (2 ^ j) + 2 ≤ 1000000
          have := Nat.min_le_right i (2 ^ j)
          omega
        have ad := b_addl h'' ((((stands j).take i).flatMap fun s => [s ++ [true], s ++ [false]]).map encS) [encS (s ++ [true]), encS (s ++ [false])] hli
        have a1 : opBin .add (encS s) (.tup [.str "open"]) h'' = .ok (encS (s ++ [true])) h'' := add_stand s (by omega) true h''
        have a2 : opBin .add (encS s) (.tup [.str "shut"]) h'' = .ok (encS (s ++ [false])) h'' := add_stand s (by omega) false h''
        unfold turnO
        simp only [t_var, List.set_cons_zero, List.set_cons_succ, s_seq, s_asg, e_bin, e_lst, e_cons, e_tup, e_cst, e_nil, its_lst, e_var, getV_zero, getV_succ, isFn_lst, nfs, Bool.false_eq_true, if_false, ↓el_of a1, ↓el_of a2, ↓el_of ad, s_skip]
        refine ⟨_, _, rfl, rfl, some (encS s), ?_⟩
        rw [List.take_add_one, q, List.flatMap_append, List.map_append]
        rfl
    · rintro ρ h'' ⟨rfl, r4', rfl⟩
      simp only [s_seq, s_asg, e_var, getV_zero, getV_succ, isFn_lst, Bool.false_eq_true, if_false, t_var, List.set_cons_zero, List.set_cons_succ, s_skip, o_nx]
      refine ⟨_, _, rfl, rfl, some x, some (.lst ((stands (j + 1)).map encS)), r4', ?_⟩
      rw [List.length_map, List.take_length]
      rfl
  · rintro ρ h' ⟨rfl, r2, r3, r4, rfl⟩
    rw [rng_len]
    simp only [s_seq, s_ret, e_var, getV_zero, getV_succ, isFn_lst, Bool.false_eq_true, if_false]
    have nr : ∀ s : List Bool, noref (encS s) = true := fun s => by
      unfold encS
      rw [noref_tup]
      exact norefs_map _ _ fun b => by simp [stD]
    exact cut_same _ _ _ (by rw [noref_lst]; exact norefs_map _ _ nr)
/-! doors -/
theorem r4_lt : ∀ i j : Fin 4, i ≠ j → slt (if D.lt (.str R4[j]) (.str R4[i]) = true then R4[j] else R4[i]) (if D.lt (.str R4[i]) (.str R4[j]) = true then R4[j] else R4[i]) := by
  have : ∀ i j : Fin 4, i ≠ j → (D.lt (.str (if D.lt (.str R4[j]) (.str R4[i]) = true then R4[j] else R4[i])) (.str (if D.lt (.str R4[i]) (.str R4[j]) = true then R4[j] else R4[i]))) = true := by decide +kernel
  intro i j h
  have := this i j h
  show (_ : List Nat) < _
  exact of_decide_eq_true this
theorem r_doors (k : Nat) {w : Nat} {h : HS} (W : Wl w h) (H : House) (o : H.Ok) : Has (evF pg (k + 2) f__law_doors [.ref w, H.enc] h) fun d h' => ∃ ds : List Door, d = encDs ds ∧ DoorsOk H ds ∧ Dr w h h' := by
  have hw := W.lt
  have nf : isFn H.enc = false := rfl
  have sq : ∀ h, opSeq (.ctp ((names H).map D.str)) h = .ok (.lst ((names H).map D.str)) h := fun _ => rfl
  have nlen : (names H).length = H.leaves.length := by simp [names]
  rw [u__law_doors]
  simp only [b__law_doors, s_seq, s_asg, e_tup, e_cons, e_cst, e_nil, e_lstO, its_lst, t_tup, t_cons, t_nil, t_var, List.set_cons_zero, List.set_cons_succ, s_fo, e_iseq, e_callK, e_var, getV_zero, getV_succ, nf, Bool.false_eq_true, if_false, permOf, List.append_nil, List.map_cons, List.map_nil, List.getD_cons_zero, List.getD_cons_succ, ↓el_of (r_names (k) H o.few _), ↓el_of (sq _)]
  refine el_fo (G := fun r => Has r _) (fun j ρ h' => ∃ ds : List Door, ds.length = j ∧ ds.map Door.name = (names H).take j ∧ (∀ d ∈ ds, d.Ok) ∧ (∃ r4 r5 r6 : Option D, ρ = [some (.ref w), some H.enc, some (.tup (R4.map D.str)), some (.ref h.length), r4, r5, r6]) ∧
    ∃ h1, Dr w h h1 ∧ h' = h1 ++ [.lst (ds.map Door.enc)]) ⟨[], rfl, by simp, by simp, ⟨_, _, _, rfl⟩, h, W.refl, rfl⟩ ?_ ?_
  · rintro j x ρ h' hx ⟨ds, hl, hnm, ok, ⟨r4, r5, r6, rfl⟩, h1, dr, rfl⟩
    rw [List.getElem?_map] at hx
    cases q : (names H)[j]? with
    | none => rw [q] at hx; cases hx
    | some nm =>
      rw [q] at hx
      cases hx
      have hj : j < 6 := by
        have := (List.getElem?_eq_some_iff.mp q).1
        have := o.few
        omega
      have hnmok : NameOk nm := by
        have : nm ∈ names H := List.mem_of_getElem? q
        obtain ⟨l, hl', rfl⟩ := List.mem_map.mp this
        exact (o.leaf l hl').nm
      have W1 := W.dr dr
      unfold turnO
      simp only [t_var, List.set_cons_zero, List.set_cons_succ, s_seq, s_asg, e_callK, e_cons, e_cst, e_nil, its_lst, e_var, getV_zero, getV_succ, isFn_ref, Bool.false_eq_true, if_false, permOf, List.append_nil, List.map_cons, List.map_nil, List.getD_cons_zero, List.getD_cons_succ]
      refine Has.elim (G := Turn _) (r_dip k (W1.app [.lst (ds.map Door.enc)]) 4 (by decide) (by decide)) ?_
      rintro _ h2' ⟨a, rfl, a0, a1, dr2⟩
      obtain ⟨h2, drA, rfl⟩ := dr2.app W1.lt
      have W2 := W1.dr drA
      simp only [t_var, List.set_cons_zero, List.set_cons_succ, e_bin, e_bi, e_cons, e_callK, e_cst, e_nil, its_lst, e_var, getV_zero, getV_succ, isFn_ref, isFn_int, Bool.false_eq_true, if_false, permOf, List.append_nil, List.map_cons, List.map_nil, List.getD_cons_zero, List.getD_cons_succ, b_add, el_ok]
      refine Has.elim (G := Turn _) (r_dip k (W2.app [.lst (ds.map Door.enc)]) 3 (by decide) (by decide)) ?_
      rintro _ h3' ⟨b, rfl, b0, b1, dr3⟩
      obtain ⟨h3, drB, rfl⟩ := dr3.app W2.lt
      have hlen : h3.length = h.length := by rw [drB.len, drA.len, dr.len]
      have md : opBin .mod (.int (a + 1 + b)) (.int 4) (h3 ++ [.lst (ds.map Door.enc)]) = .ok (.int ((a + 1 + b) % 4)) (h3 ++ [.lst (ds.map Door.enc)]) := by
        rw [b_mod _ _ _ (by decide), Int.fmod_eq_emod_of_nonneg _ (by decide)]
      obtain ⟨i, hi⟩ : ∃ i : Fin 4, a = (i.val : Int) := ⟨⟨a.toNat, by omega⟩, by show a = (a.toNat : Int); omega⟩
      obtain ⟨i2, hi2⟩ : ∃ i2 : Fin 4, (a + 1 + b) % 4 = (i2.val : Int) := ⟨⟨((a + 1 + b) % 4).toNat, by omega⟩, by show _ = ((((a + 1 + b) % 4).toNat : Nat) : Int); omega⟩
      have hne : i ≠ i2 := by
        intro e
        rw [e] at hi
        omega
      have ix1 : ∀ (i : Fin 4) h, opIx (.tup (R4.map D.str)) (.int (i.val : Int)) h = .ok (.str R4[i]) h := fun i h => i_at _ i.val (xs := R4.map D.str) (by
        rw [List.getElem?_map, List.getElem?_eq_getElem i.isLt]; rfl) _ rfl (fun _ z => by cases z)
      have mn : ∀ (x y : Str) h, opBi .min [.str x, .str y] h = .ok (.str (if D.lt (.str y) (.str x) = true then y else x)) h := fun x y h => by
        have e : opBi .min [.str x, .str y] h = if D.alike (.str x) (.str y) = true then .ok (if D.lt (.str y) (.str x) = true then .str y else .str x) h else .bad := rfl
        rw [e, if_pos (show D.alike (.str x) (.str y) = true from rfl)]
        split <;> rfl
      have mx : ∀ (x y : Str) h, opBi .max [.str x, .str y] h = .ok (.str (if D.lt (.str x) (.str y) = true then y else x)) h := fun x y h => by
        have e : opBi .max [.str x, .str y] h = if D.alike (.str x) (.str y) = true then .ok (if D.lt (.str x) (.str y) = true then .str y else .str x) h else .bad := rfl
        rw [e, if_pos (show D.alike (.str x) (.str y) = true from rfl)]
        split <;> rfl
      have hg : (h3 ++ [DO.lst (ds.map Door.enc)])[h.length]? = some (.lst (ds.map Door.enc)) := by
        rw [List.getElem?_append_right (by omega), hlen]; simp
      have mo : mtOk .append (.ref h.length) (h3 ++ [DO.lst (ds.map Door.enc)]) = true := by simp only [mtOk, hg]
      have ap : ∀ d : Door, opMt .append (.ref h.length) [.tup [.str d.name, .str d.a, .str d.b]] (h3 ++ [DO.lst (ds.map Door.enc)]) = .ok .non (h3 ++ [DO.lst ((ds ++ [d]).map Door.enc)]) := fun d => by
        have hl2 : (ds.map Door.enc).length < lim := by rw [List.length_map, hl]; exact Nat.lt_of_lt_of_le (by omega : j < 10) (by decide)
        have hs2 : (h3 ++ [DO.lst (ds.map Door.enc)]).set h.length (.lst (ds.map Door.enc ++ [.tup [.str d.name, .str d.a, .str d.b]])) = h3 ++ [DO.lst ((ds ++ [d]).map Door.enc)] := by
          rw [← hlen, List.set_append_right _ _ (Nat.le_refl _), Nat.sub_self, List.map_append]
          rfl
        simp only [opMt, hg, hl2, if_true, hs2]
      simp only [b_add, q_int, el_ok, ↓el_of md, t_var, List.set_cons_zero, List.set_cons_succ]
      rw [hi2, hi]
      have ap' := ap ⟨nm, if D.lt (.str R4[i2]) (.str R4[i]) = true then R4[i2] else R4[i], if D.lt (.str R4[i]) (.str R4[i2]) = true then R4[i2] else R4[i]⟩
      simp only [s_ex, e_mt, e_var, getV_zero, getV_succ, isFn_ref, isFn_str, isFn_tup, isFn_int, Bool.false_eq_true, if_false, mo, if_true, e_cons, e_tup, e_bi, e_ix, ↓el_of (ix1 _ _), ↓el_of (mn _ _ _), ↓el_of (mx _ _ _), e_nil, its_lst, ↓el_of ap', s_skip, o_nx]
      refine ⟨_, _, rfl, _, ?_, ?_, ?_, ⟨_, _, _, rfl⟩, h3, (dr.trans drA).trans drB, rfl⟩
      · simp [hl]
      · rw [List.map_append, hnm, List.map_cons, List.map_nil, List.take_add_one, q]
        rfl
      · intro d hd
        rcases List.mem_append.mp hd with hd | hd
        · exact ok d hd
        · simp only [List.mem_singleton] at hd
          subst hd
          refine ⟨hnmok, ?_, ?_, r4_lt i i2 hne⟩
          · show (if _ then _ else _) ∈ R4
            split <;> exact List.getElem_mem _
          · show (if _ then _ else _) ∈ R4
            split <;> exact List.getElem_mem _
  · rintro ρ h' ⟨ds, hl, hnm, ok, ⟨r4, r5, r6, rfl⟩, h1, dr, rfl⟩
    rw [List.length_map] at hl hnm
    rw [List.take_length] at hnm
    have hlen : h1.length = h.length := dr.len
    have hg : (h1 ++ [DO.lst (ds.map Door.enc)])[h.length]? = some (.lst (ds.map Door.enc)) := by
      rw [List.getElem?_append_right (by omega), hlen]; simp
    have tl : opBi .tuple [.ref h.length] (h1 ++ [.lst (ds.map Door.enc)]) = .ok (encDs ds) (h1 ++ [.lst (ds.map Door.enc)]) := by
      simp only [opBi, isCtp, seqOf, hg, Bool.false_eq_true, if_false]
      rfl
    simp only [s_seq, s_ret, e_bi, e_cons, e_nil, e_var, getV_zero, getV_succ, isFn_ref, Bool.false_eq_true, if_false, its_lst, ↓el_of tl]
    rw [dr.cut true (encDs ds) (by unfold encDs; rw [noref_tup]; exact norefs_map _ _ Door.nrf)]
    exact Has.ok ⟨ds, rfl, ⟨hnm, ok⟩, dr⟩
end VE
set_option Elab.async false
set_option linter.all false
set_option maxRecDepth 100000
set_option maxHeartbeats 2000000
set_option autoImplicit false
/-! Lr: walks -/
namespace VE
open PySem
def opens (ds : List Door) (st : List Bool) : List Door := (ds.zip st).filterMap fun p => if p.2 = true then some p.1 else none
def prs (d : Door) : List (Str × Str) := [(d.a, d.b), (d.b, d.a)]
def adj (os : List Door) (x y : Str) : Prop := (x, y) ∈ os.flatMap prs
theorem opens_mem {ds : List Door} {st : List Bool} {d : Door} : d ∈ opens ds st ↔ (d, true) ∈ ds.zip st := by
  unfold opens
  rw [List.mem_filterMap]
  constructor
  · rintro ⟨⟨d', b⟩, hp, e⟩
    cases b with
    | false => simp at e
    | true =>
      have e : d' = d := by simpa using e
      rwa [← e]
  · intro h
    exact ⟨(d, true), h, rfl⟩
theorem opens_sub {ds : List Door} {st : List Bool} {d : Door} (h : d ∈ opens ds st) : d ∈ ds := (List.of_mem_zip (opens_mem.mp h)).1
theorem adj_r4 {ds : List Door} {st : List Bool} (ok : ∀ d ∈ ds, d.Ok) {x y : Str} (h : adj (opens ds st) x y) : y ∈ R4 := by
  obtain ⟨d, hd, hp⟩ := List.mem_flatMap.mp h
  have o := ok d (opens_sub hd)
  simp only [prs, List.mem_cons, List.mem_nil_iff, or_false, Prod.mk.injEq] at hp
  rcases hp with ⟨_, rfl⟩ | ⟨_, rfl⟩
  · exact o.hb
  · exact o.ha
theorem nod4 {fs : List Str} (nd : fs.Nodup) (sub : ∀ x ∈ fs, x ∈ R4) : fs.length ≤ 4 := nd.length_le_of_subset (l₂ := R4) sub
/-! opened doors -/
theorem r_open_doors (k : Nat) (ds : List Door) (hl : ds.length ≤ 6) (st : List Bool) (h : HS) : evF pg (k + 1) f_open_doors [encDs ds, encS st] h = .ok (.lst ((opens ds st).map Door.enc)) h := by
  have nf2 : isFn (encDs ds) = false := rfl
  have nf3 : isFn (encS st) = false := rfl
  have zp : opZip (encDs ds) (encS st) h = .ok (.lst ((ds.zip st).map fun p => .tup [p.1.enc, stD p.2])) h := by
    show R.ok (D.lst (zipD (ds.map Door.enc) (st.map stD))) h = _
    congr 2
    unfold zipD
    rw [List.zip_map, List.map_map]
    rfl
  rw [u_open_doors]
  simp only [b_open_doors, s_seq, s_ret, e_comp, e_izip, e_var, getV_zero, getV_succ, nf2, nf3, Bool.false_eq_true, if_false, ↓el_of zp, its_lst]
  rw [el_of (comp_fm (fun p : Door × Bool => D.tup [p.1.enc, stD p.2]) (fun p => if p.2 = true then some p.1.enc else none) h (ds.zip st) ?H)]
  case H =>
    rintro ⟨d, b⟩ _
    have nfb : isFn (stD b) = false := rfl
    have eqb : opCmp .eq (stD b) gl_OPEN h = .ok (.bl b) h := by
      show opCmp .eq (.str (if b then "open" else "shut")) (.str "open") h = _
      rw [c_eqs]
      cases b
      · have : decide ((if false = true then ("open" : Str) else "shut") = "open") = false := by decide +kernel
        rw [this]
      · rfl
    refine (el_id _).symm.trans ?_
    simp only [cf_el, List.map_cons, List.map_nil, stN_tup, stN_consv, stN_nil, blkE, wipeD, List.set_cons_zero, List.set_cons_succ, isNil_cmp, Bool.false_eq_true, if_false, e_cmp, e_var, getV_zero, getV_succ, nfb, d.nfn, e_gl, ↓el_of eqb, onB_bl]
    cases b <;> rfl
  have e1 : ((ds.zip st).filterMap fun p => if p.2 = true then some p.1.enc else none) = (opens ds st).map Door.enc := by
    unfold opens
    rw [List.map_filterMap]
    congr 1
    funext p
    cases p.2 <;> rfl
  have l : ((ds.zip st).filterMap fun p => if p.2 = true then some p.1.enc else none).length ≤ lim := by
    refine Nat.le_trans (List.length_filterMap_le _ _) ?_
    rw [List.length_zip]
    exact Nat.le_trans (Nat.min_le_left _ _) (Nat.le_trans hl (by decide))
  rw [if_pos l, e1]
  exact cut_same _ _ _ (by rw [noref_lst]; exact norefs_map _ _ Door.nrf)
/-! the program's walk -/
def stepF (cur : Str) (fs : List Str) (p : Str × Str) : List Str := if p.1 = cur ∧ p.2 ∉ fs then fs ++ [p.2] else fs
theorem fold_more (cur : Str) : ∀ (ps : List (Str × Str)) (fs : List Str), fs.Nodup → ∃ more, ps.foldl (stepF cur) fs = fs ++ more ∧ (fs ++ more).Nodup ∧ (∀ x ∈ more, (cur, x) ∈ ps) ∧ ∀ y, (cur, y) ∈ ps → y ∈ fs ++ more
  | [], fs, nd => ⟨[], by simp, by simpa using nd, by simp, by simp⟩
  | p :: ps, fs, nd => by
    rw [List.foldl_cons]
    by_cases c : p.1 = cur ∧ p.2 ∉ fs
    · have e : stepF cur fs p = fs ++ [p.2] := if_pos c
      have nd' : (fs ++ [p.2]).Nodup := by
        rw [List.nodup_append]
        exact ⟨nd, by simp, fun a ha b hb e => c.2 (by simp at hb; rw [← hb, ← e]; exact ha)⟩
      obtain ⟨more, e1, n1, m1, m2⟩ := fold_more cur ps (fs ++ [p.2]) nd'
      refine ⟨p.2 :: more, by rw [e, e1]; simp, by simpa using n1, fun x hx => ?_, fun y hy => ?_⟩
      · rcases List.mem_cons.mp hx with rfl | hx
        · rw [← c.1]; exact List.mem_cons_self
        · exact List.mem_cons_of_mem _ (m1 x hx)
      · rcases List.mem_cons.mp hy with e | hy
        · rw [← e]; simp
        · have := m2 y hy
          simpa using this
    · have e : stepF cur fs p = fs := if_neg c
      obtain ⟨more, e1, n1, m1, m2⟩ := fold_more cur ps fs nd
      refine ⟨more, by rw [e, e1], n1, fun x hx => List.mem_cons_of_mem _ (m1 x hx), fun y hy => ?_⟩
      rcases List.mem_cons.mp hy with e | hy
      · refine List.mem_append_left _ (Classical.byContradiction fun hn => c ?_)
        rw [← e]; exact ⟨rfl, hn⟩
      · exact m2 y hy
theorem notin_ref {f : Nat} {h : HS} {fs : List Str} (e : h[f]? = some (.lst (fs.map D.str))) (x : Str) : opCmp .notin (.str x) (.ref f) h = .ok (.bl (!decide (x ∈ fs))) h := by
  have a : ((fs.map D.str).any fun z => D.eqv z (.str x)) = decide (x ∈ fs) := by
    rw [Bool.eq_iff_iff, List.any_eq_true, decide_eq_true_eq]
    constructor
    · rintro ⟨z, hz, e⟩
      obtain ⟨y, hy, rfl⟩ := List.mem_map.mp hz
      have : y = x := by simpa [D.eqv] using e
      rwa [← this]
    · intro hm
      exact ⟨_, List.mem_map.mpr ⟨x, hm, rfl⟩, by simp [D.eqv]⟩
  have hi : inOf (.str x) false (fs.map D.str) = some (decide (x ∈ fs)) := by
    unfold inOf
    rw [if_pos (by simp [D.flat]), a]
  simp only [opCmp, seqOf, e, isTupD, hi, Option.map_some, okB]
theorem at_end (h : HS) (u : DO) : (h ++ [u])[h.length]? = some u := by rw [List.getElem?_append_right (Nat.le_refl _)]; simp
theorem set_end (h : HS) (u v : DO) : (h ++ [u]).set h.length v = h ++ [v] := by rw [List.set_append_right _ _ (Nat.le_refl _), Nat.sub_self]; rfl
theorem r_rooms_walked (k : Nat) (ds : List Door) (hl : ds.length ≤ 6) (ok : ∀ d ∈ ds, d.Ok) (st : List Bool) (room : Str) (hr : room ∈ R4) (h : HS) :
    ∃ fs : List Str, evF pg (k + 2) f_rooms_walked [encDs ds, encS st, .str room] h = .ok (.lst (fs.map D.str)) h ∧ fs.Nodup ∧ (∀ x, x ∈ fs ↔ Reach (adj (opens ds st)) room x) ∧ ∀ x ∈ fs, x ∈ R4 := by
  have nf2 : isFn (encDs ds) = false := rfl
  have nf3 : isFn (encS st) = false := rfl
  generalize hos : opens ds st = os
  have okR : ∀ {x y}, adj os x y → y ∈ R4 := fun h => by rw [← hos] at h; exact adj_r4 ok h
  rw [u_rooms_walked]
  simp only [b_rooms_walked, s_seq, s_asg, e_tup, e_cons, e_callK, e_lstO, e_cst, e_nil, its_lst, e_var, getV_zero, getV_succ, nf2, nf3, isFn_str, Bool.false_eq_true, if_false, permOf, List.append_nil, List.map_cons, List.map_nil, List.getD_cons_zero, List.getD_cons_succ, ↓el_of (r_open_doors k ds hl st h), t_tup, t_cons, t_nil, t_var, List.set_cons_zero, List.set_cons_succ, s_wh]
  rw [hos]
  refine el_wh (G := fun r => ∃ fs : List Str, r = R.ok (D.lst (fs.map D.str)) h ∧ fs.Nodup ∧ (∀ x, x ∈ fs ↔ Reach (adj os) room x) ∧ ∀ x ∈ fs, x ∈ R4)
    (fun m ρ h' => ∃ (fs : List Str) (a : Nat), (∃ r6 r7 r8 r9 r10 : Option D, ρ = [some (encDs ds), some (encS st), some (.str room), some (.lst (os.map Door.enc)), some (.ref h.length), some (.int a), r6, r7, r8, r9, r10]) ∧ h' = h ++ [.lst (fs.map D.str)] ∧ fs.Nodup ∧ room ∈ fs ∧ (∀ x ∈ fs, Reach (adj os) room x) ∧ (∀ x ∈ fs, x ∈ R4) ∧ (∀ i x, i < a → fs[i]? = some x → ∀ y, adj os x y → y ∈ fs) ∧ a ≤ fs.length ∧ m + a = 5)
    (fun ρ h' => ∃ (fs : List Str), (∃ r5 r6 r7 r8 r9 r10 : Option D, ρ = [some (encDs ds), some (encS st), some (.str room), some (.lst (os.map Door.enc)), some (.ref h.length), r5, r6, r7, r8, r9, r10]) ∧ h' = h ++ [.lst (fs.map D.str)] ∧ fs.Nodup ∧ room ∈ fs ∧ (∀ x ∈ fs, Reach (adj os) room x) ∧ (∀ x ∈ fs, x ∈ R4) ∧ ∀ x ∈ fs, ∀ y, adj os x y → y ∈ fs)
    1000 5 ⟨[room], 0, ⟨_, _, _, _, _, rfl⟩, rfl, by simp, by simp, by simp [Reach.refl], by simpa using hr, by simp, by simp, by simp⟩ (by decide) ?_ ?_
  · rintro m ρ h' ⟨fs, a, ⟨r6, r7, r8, r9, r10, rfl⟩, rfl, nd, hroom, hreach, h4, hcl, hle, hm⟩
    have hfl := nod4 nd h4
    have ln : opBi .len [.ref h.length] (h ++ [.lst (fs.map D.str)]) = .ok (.int fs.length) (h ++ [.lst (fs.map D.str)]) := by
      simp only [opBi, seqOf, at_end, List.length_map]
    unfold turnW
    simp only [e_cmp, e_var, getV_zero, getV_succ, isFn_int, isFn_ref, Bool.false_eq_true, if_false, e_bi, e_cons, e_nil, its_lst, ↓el_of ln, c_lt, el_ok, onB_bl]
    by_cases ha : a < fs.length
    · rw [if_pos (by simpa using ha)]
      obtain ⟨cur, hcur⟩ : ∃ cur, fs[a]? = some cur := ⟨_, List.getElem?_eq_getElem ha⟩
      simp only [s_seq, s_fo, e_iseq, e_var, getV_zero, getV_succ, isFn_lst, Bool.false_eq_true, if_false, w_lst, el_ok, its_lst]
      refine el_fo (G := TurnW _ _ m) (fun j ρ h' => (∃ r6 r7 r8 r9 r10 : Option D, ρ = [some (encDs ds), some (encS st), some (.str room), some (.lst (os.map Door.enc)), some (.ref h.length), some (.int a), r6, r7, r8, r9, r10]) ∧ h' = h ++ [.lst ((((os.take j).flatMap prs).foldl (stepF cur) fs).map D.str)]) ⟨⟨_, _, _, _, _, rfl⟩, by simp⟩ ?_ ?_
      · rintro j x ρ h' hx ⟨⟨r6, r7, r8, r9, r10, rfl⟩, rfl⟩
        rw [List.getElem?_map] at hx
        cases q : os[j]? with
        | none => rw [q] at hx; cases hx
        | some d =>
          rw [q] at hx
          cases hx
          generalize hfj : ((os.take j).flatMap prs).foldl (stepF cur) fs = fj
          have ej : ((os.take (j + 1)).flatMap prs).foldl (stepF cur) fs = (prs d).foldl (stepF cur) fj := by
            rw [List.take_add_one, q, List.flatMap_append, List.foldl_append, hfj]
            simp
          obtain ⟨more, em, nm, _, _⟩ := fold_more cur ((os.take j).flatMap prs) fs nd
          rw [hfj] at em
          have ndj : fj.Nodup := by rw [em]; exact nm
          have curj : fj[a]? = some cur := by rw [em, List.getElem?_append_left ha]; exact hcur
          unfold turnO
          rw [show Door.enc d = .tup [.str d.name, .str d.a, .str d.b] from rfl]
          simp only [t_tup, t_cons, t_nil, t_var, List.set_cons_zero, List.set_cons_succ, s_seq, s_fo, e_iseq, e_tup, e_cons, e_nil, e_var, getV_zero, getV_succ, isFn_str, Bool.false_eq_true, if_false, its_lst, w_tup, el_ok]
          refine el_fo (G := Turn _) (fun i ρ h' => (∃ r9 r10 : Option D, ρ = [some (encDs ds), some (encS st), some (.str room), some (.lst (os.map Door.enc)), some (.ref h.length), some (.int a), some (.str d.name), some (.str d.a), some (.str d.b), r9, r10]) ∧ h' = h ++ [.lst ((((prs d).take i).foldl (stepF cur) fj).map D.str)]) ⟨⟨_, _, rfl⟩, by simp⟩ ?_ ?_
          · rintro i y ρ h' hy ⟨⟨r9, r10, rfl⟩, rfl⟩
            have hy : ((prs d).map fun p => D.tup [.str p.1, .str p.2])[i]? = some y := hy
            rw [List.getElem?_map] at hy
            cases q2 : (prs d)[i]? with
            | none => rw [q2] at hy; cases hy
            | some p =>
              rw [q2] at hy
              cases hy
              generalize hfi : ((prs d).take i).foldl (stepF cur) fj = fi
              have ei : ((prs d).take (i + 1)).foldl (stepF cur) fj = stepF cur fi p := by
                rw [List.take_add_one, q2, List.foldl_append, hfi]
                rfl
              obtain ⟨more2, em2, nm2, _, _⟩ := fold_more cur ((prs d).take i) fj ndj
              rw [hfi] at em2
              have curi : fi[a]? = some cur := by rw [em2, List.getElem?_append_left (List.getElem?_eq_some_iff.mp curj).1]; exact curj
              have fil : fi.length < lim := by
                have h2 : ∀ (c : Str) (ps : List (Str × Str)) (gs : List Str), (ps.foldl (stepF c) gs).length ≤ gs.length + ps.length := fun c ps => by
                  induction ps with
                  | nil => intro gs; simp
                  | cons p ps ih =>
                    intro gs
                    rw [List.foldl_cons]
                    have := ih (stepF c gs p)
                    have h3 : (stepF c gs p).length ≤ gs.length + 1 := by
                      unfold stepF
                      split <;> simp
                    simp only [List.length_cons]
                    omega
                have h4 := h2 cur ((os.take j).flatMap prs) fs
                have h5 := h2 cur ((prs d).take i) fj
                rw [hfj] at h4
                rw [hfi] at h5
                have h6 : ((os.take j).flatMap prs).length ≤ 12 := by
                  have e : ∀ l : List Door, (l.flatMap prs).length = 2 * l.length := fun l => by
                    induction l with
                    | nil => rfl
                    | cons d l ih => rw [List.flatMap_cons, List.length_append, ih]; simp [prs]; omega
                  rw [e, List.length_take]
                  have h7 : os.length ≤ ds.length := by
                    rw [← hos]
                    unfold opens
                    refine Nat.le_trans (List.length_filterMap_le _ _) ?_
                    rw [List.length_zip]
                    exact Nat.min_le_left _ _
                  have := Nat.min_le_right j os.length
                  omega
                have h8 : ((prs d).take i).length ≤ 2 := by rw [List.length_take]; exact Nat.min_le_right _ _
                exact Nat.lt_of_le_of_lt (by omega : fi.length ≤ 20) (by decide)
              have ix : opIx (.ref h.length) (.int a) (h ++ [.lst (fi.map D.str)]) = .ok (.str cur) (h ++ [.lst (fi.map D.str)]) := ref_ix (at_end _ _) a (by rw [List.getElem?_map, curi]; rfl)
              have ni := notin_ref (at_end h (.lst (fi.map D.str))) p.2
              have mo : mtOk .append (.ref h.length) (h ++ [.lst (fi.map D.str)]) = true := by simp only [mtOk, at_end]
              have ap : opMt .append (.ref h.length) [.str p.2] (h ++ [.lst (fi.map D.str)]) = .ok .non (h ++ [.lst ((fi ++ [p.2]).map D.str)]) := by
                have : (fi.map D.str).length < lim := by rw [List.length_map]; exact fil
                simp only [opMt, at_end, this, if_true, set_end, List.map_append, List.map_cons, List.map_nil]
              unfold turnO
              simp only [t_tup, t_cons, t_nil, t_var, List.set_cons_zero, List.set_cons_succ, s_seq, s_ite, e_and, e_one, e_cmp, e_ix, e_var, getV_zero, getV_succ, isFn_str, isFn_ref, isFn_int, Bool.false_eq_true, if_false, ↓el_of ix, c_eqs, el_ok, onB_bl, ↓el_of ni]
              by_cases c1 : p.1 = cur
              · rw [if_pos (by simpa using c1)]
                by_cases c2 : p.2 ∈ fi
                · simp only [c2, decide_true, Bool.not_true, Bool.false_eq_true, if_false, onB_bl, s_skip, o_nx]
                  refine ⟨_, _, rfl, ⟨_, _, rfl⟩, ?_⟩
                  rw [ei]
                  unfold stepF
                  rw [if_neg (fun z => z.2 c2)]
                · simp only [c2, decide_false, Bool.not_false, if_true, onB_bl, s_seq, s_ex, e_mt, e_var, getV_zero, getV_succ, isFn_ref, isFn_str, Bool.false_eq_true, if_false, mo, e_cons, e_nil, its_lst, ↓el_of ap, s_skip, o_nx]
                  refine ⟨_, _, rfl, ⟨_, _, rfl⟩, ?_⟩
                  rw [ei]
                  unfold stepF
                  rw [if_pos ⟨c1, c2⟩]
              · rw [if_neg (by simpa using c1)]
                simp only [onB_bl, Bool.false_eq_true, if_false, s_skip, o_nx]
                refine ⟨_, _, rfl, ⟨_, _, rfl⟩, ?_⟩
                rw [ei]
                unfold stepF
                rw [if_neg (fun z => c1 z.1)]
          · rintro ρ h' ⟨⟨r9, r10, rfl⟩, rfl⟩
            simp only [s_skip, o_nx]
            refine ⟨_, _, rfl, ⟨_, _, _, _, _, rfl⟩, ?_⟩
            rw [ej]
            rfl
      · rintro ρ h' ⟨⟨r6, r7, r8, r9, r10, rfl⟩, rfl⟩
        rw [List.length_map, List.take_length]
        obtain ⟨more, em, nm, m1, m2⟩ := fold_more cur (os.flatMap prs) fs nd
        rw [em]
        have cf : cur ∈ fs := List.mem_of_getElem? hcur
        have ag : opAug .add (.int a) (.int 1) (h ++ [.lst ((fs ++ more).map D.str)]) = .ok (.int ((a + 1 : Nat) : Int)) (h ++ [.lst ((fs ++ more).map D.str)]) := rfl
        simp only [s_seq, s_aug, getV_zero, getV_succ, isFn_int, Bool.false_eq_true, if_false, e_cst, ↓el_of ag, List.set_cons_zero, List.set_cons_succ, s_skip, o_nx]
        refine .inr ⟨m - 1, _, _, rfl, by omega, fs ++ more, a + 1, ⟨_, _, _, _, _, rfl⟩, rfl, nm, List.mem_append_left _ hroom, fun x hx => ?_, fun x hx => ?_, fun i x hi hx y hy => ?_, by rw [List.length_append]; omega, by omega⟩
        · rcases List.mem_append.mp hx with hx | hx
          · exact hreach x hx
          · exact .step (hreach cur cf) (m1 x hx)
        · rcases List.mem_append.mp hx with hx | hx
          · exact h4 x hx
          · exact okR (m1 x hx)
        · rcases Nat.lt_or_ge i a with hi' | hi'
          · rw [List.getElem?_append_left (by omega)] at hx
            exact List.mem_append_left _ (hcl i x hi' hx y hy)
          · have : i = a := by omega
            subst this
            rw [List.getElem?_append_left ha, hcur] at hx
            cases hx
            exact m2 y hy
    · rw [if_neg (by simpa using ha)]
      refine .inl ⟨_, _, rfl, fs, ⟨_, _, _, _, _, _, rfl⟩, rfl, nd, hroom, hreach, h4, fun x hx y hy => ?_⟩
      obtain ⟨i, hi, rfl⟩ := List.mem_iff_getElem.mp hx
      exact hcl i _ (by omega) (List.getElem?_eq_getElem hi) y hy
  · rintro ρ h' ⟨fs, ⟨r5, r6, r7, r8, r9, r10, rfl⟩, rfl, nd, hroom, hreach, h4, hcl⟩
    simp only [s_seq, s_ret, e_var, getV_zero, getV_succ, isFn_ref, Bool.false_eq_true, if_false]
    exact ⟨fs, cut_frz0 _ _ _ (norefs_map _ _ fun _ => by simp), nd, reach_iff hroom hreach hcl, h4⟩
end VE
set_option Elab.async false
set_option linter.all false
set_option maxRecDepth 100000
set_option maxHeartbeats 2000000
set_option autoImplicit false
/-! Ls: the law's walk -/
namespace VE
open PySem
def farOf (here : Str) (d : Door) : Str := if here = d.a then d.b else d.a
def stepL (here : Str) (s : List Str × List Str) (p : Door × Bool) : List Str × List Str :=
  if p.2 = true ∧ (here = p.1.a ∨ here = p.1.b) ∧ farOf here p.1 ∉ s.1 then (s.1 ++ [farOf here p.1], s.2 ++ [farOf here p.1]) else s
theorem adj_zip {ds : List Door} {st : List Bool} (ok : ∀ d ∈ ds, d.Ok) (x y : Str) : adj (opens ds st) x y ↔ ∃ d, (d, true) ∈ ds.zip st ∧ (x = d.a ∨ x = d.b) ∧ farOf x d = y := by
  unfold adj
  rw [List.mem_flatMap]
  have ne : ∀ d ∈ ds, d.a ≠ d.b := fun d hd e => by
    have : d.a.cps.toList < d.b.cps.toList := (ok d hd).lt
    rw [e] at this
    exact List.lt_irrefl _ this
  constructor
  · rintro ⟨d, hd, hp⟩
    have hz := opens_mem.mp hd
    have nd := ne d (opens_sub hd)
    simp only [prs, List.mem_cons, List.mem_nil_iff, or_false, Prod.mk.injEq] at hp
    rcases hp with ⟨rfl, rfl⟩ | ⟨rfl, rfl⟩
    · exact ⟨d, hz, .inl rfl, if_pos rfl⟩
    · exact ⟨d, hz, .inr rfl, if_neg (fun e => nd e.symm)⟩
  · rintro ⟨d, hz, hx, rfl⟩
    have hd := opens_mem.mpr hz
    refine ⟨d, hd, ?_⟩
    unfold farOf
    by_cases c : x = d.a
    · rw [if_pos c, c]
      simp [prs]
    · rw [if_neg c]
      rcases hx with hx | hx
      · exact absurd hx c
      · rw [hx]
        simp [prs]
theorem foldL_more (here : Str) : ∀ (ps : List (Door × Bool)) (fs ln : List Str), fs.Nodup → ∃ more, ps.foldl (stepL here) (fs, ln) = (fs ++ more, ln ++ more) ∧ (fs ++ more).Nodup ∧ (∀ x ∈ more, ∃ d, (d, true) ∈ ps ∧ (here = d.a ∨ here = d.b) ∧ farOf here d = x) ∧ ∀ d, (d, true) ∈ ps → (here = d.a ∨ here = d.b) → farOf here d ∈ fs ++ more
  | [], fs, ln, nd => ⟨[], by simp, by simpa using nd, by simp, by simp⟩
  | p :: ps, fs, ln, nd => by
    rw [List.foldl_cons]
    by_cases c : p.2 = true ∧ (here = p.1.a ∨ here = p.1.b) ∧ farOf here p.1 ∉ fs
    · have e : stepL here (fs, ln) p = (fs ++ [farOf here p.1], ln ++ [farOf here p.1]) := if_pos c
      have nd' : (fs ++ [farOf here p.1]).Nodup := by
        rw [List.nodup_append]
        exact ⟨nd, by simp, fun a ha b hb e => c.2.2 (by simp at hb; rw [← hb, ← e]; exact ha)⟩
      obtain ⟨more, e1, n1, m1, m2⟩ := foldL_more here ps (fs ++ [farOf here p.1]) (ln ++ [farOf here p.1]) nd'
      refine ⟨farOf here p.1 :: more, by rw [e, e1]; simp, by simpa using n1, fun x hx => ?_, fun d hd hh => ?_⟩
      · rcases List.mem_cons.mp hx with rfl | hx
        · exact ⟨p.1, by rw [← c.1]; exact List.mem_cons_self, c.2.1, rfl⟩
        · obtain ⟨d, hd, r⟩ := m1 x hx
          exact ⟨d, List.mem_cons_of_mem _ hd, r⟩
      · rcases List.mem_cons.mp hd with e | hd
        · have : p.1 = d := by rw [← e]
          rw [this]; simp
        · have := m2 d hd hh
          simpa using this
    · have e : stepL here (fs, ln) p = (fs, ln) := if_neg c
      obtain ⟨more, e1, n1, m1, m2⟩ := foldL_more here ps fs ln nd
      refine ⟨more, by rw [e, e1], n1, fun x hx => ?_, fun d hd hh => ?_⟩
      · obtain ⟨d, hd, r⟩ := m1 x hx
        exact ⟨d, List.mem_cons_of_mem _ hd, r⟩
      · rcases List.mem_cons.mp hd with e | hd
        · refine List.mem_append_left _ (Classical.byContradiction fun hn => c ?_)
          have e1 : p.1 = d := by rw [← e]
          have e2 : p.2 = true := by rw [← e]
          rw [e1]
          exact ⟨e2, hh, hn⟩
        · exact m2 d hd hh
theorem in_pair (x a b : Str) (h : HS) : opCmp .inn (.str x) (.tup [.str a, .str b]) h = .ok (.bl (decide (x = a ∨ x = b))) h := by
  have e : ([D.str a, D.str b].any fun z => D.eqv z (.str x)) = decide (x = a ∨ x = b) := by
    rw [Bool.eq_iff_iff, List.any_eq_true, decide_eq_true_eq]
    simp only [List.mem_cons, List.mem_nil_iff, or_false]
    constructor
    · rintro ⟨z, rfl | rfl, e⟩
      · exact .inl (show a = x by simpa [D.eqv] using e).symm
      · exact .inr (show b = x by simpa [D.eqv] using e).symm
    · rintro (rfl | rfl)
      · exact ⟨_, .inl rfl, by simp [D.eqv]⟩
      · exact ⟨_, .inr rfl, by simp [D.eqv]⟩
  have hi : inOf (.str x) true [.str a, .str b] = some (decide (x = a ∨ x = b)) := by
    unfold inOf
    rw [if_pos (by simp [D.flat]), e]
  simp only [opCmp, seqOf, isTupD, hi, okB]
theorem two_a (h : HS) (u v : DO) : (h ++ [u, v])[h.length]? = some u := by rw [List.getElem?_append_right (Nat.le_refl _)]; simp
theorem two_b (h : HS) (u v : DO) : (h ++ [u, v])[h.length + 1]? = some v := by rw [List.getElem?_append_right (by omega)]; simp
theorem set_a (h : HS) (u v w : DO) : (h ++ [u, v]).set h.length w = h ++ [w, v] := by rw [List.set_append_right _ _ (Nat.le_refl _), Nat.sub_self]; rfl
theorem set_b (h : HS) (u v w : DO) : (h ++ [u, v]).set (h.length + 1) w = h ++ [u, w] := by rw [List.set_append_right _ _ (by omega), Nat.add_sub_cancel_left]; rfl
theorem r4_str {x : Str} (h : x ∈ R4) : PyData.strOk x = true := (r4_names x h).str
theorem r_law_walk (k : Nat) (ds : List Door) (hl : ds.length ≤ 6) (ok : ∀ d ∈ ds, d.Ok) (st : List Bool) (room : Str) (hr : room ∈ R4) (h : HS) :
    ∃ fs : List Str, evF pg (k + 1) f__law_walk [encDs ds, encS st, .str room] h = .ok (.lst (fs.map D.str)) h ∧ fs.Nodup ∧ (∀ x, x ∈ fs ↔ Reach (adj (opens ds st)) room x) ∧ ∀ x ∈ fs, x ∈ R4 := by
  have nf2 : isFn (encDs ds) = false := rfl
  have nf3 : isFn (encS st) = false := rfl
  have okR : ∀ {x y}, adj (opens ds st) x y → y ∈ R4 := fun h => adj_r4 ok h
  have zp : ∀ h, opZip (encDs ds) (encS st) h = .ok (.lst ((ds.zip st).map fun p => .tup [p.1.enc, stD p.2])) h := fun h => by
    show R.ok (D.lst (zipD (ds.map Door.enc) (st.map stD))) h = _
    congr 2
    unfold zipD
    rw [List.zip_map, List.map_map]
    rfl
  rw [u__law_walk]
  simp only [b__law_walk, s_seq, s_asg, e_tup, e_cons, e_lstO, e_nil, its_lst, e_var, getV_zero, getV_succ, isFn_str, Bool.false_eq_true, if_false, t_tup, t_cons, t_nil, t_var, List.set_cons_zero, List.set_cons_succ, s_wh, List.append_assoc, List.cons_append, List.nil_append, List.length_append, List.length_cons, List.length_nil, Nat.zero_add]
  refine el_wh (G := fun r => ∃ fs : List Str, r = R.ok (D.lst (fs.map D.str)) h ∧ fs.Nodup ∧ (∀ x, x ∈ fs ↔ Reach (adj (opens ds st)) room x) ∧ ∀ x ∈ fs, x ∈ R4)
    (fun m ρ h' => ∃ (fs ln : List Str), (∃ r5 r6 r7 r8 r9 r10 : Option D, ρ = [some (encDs ds), some (encS st), some (.str room), some (.ref h.length), some (.ref (h.length + 1)), r5, r6, r7, r8, r9, r10]) ∧ h' = h ++ [.lst (fs.map D.str), .lst (ln.map D.str)] ∧ fs.Nodup ∧ room ∈ fs ∧ (∀ x ∈ fs, Reach (adj (opens ds st)) room x) ∧ (∀ x ∈ fs, x ∈ R4) ∧ (∀ x ∈ ln, x ∈ fs) ∧ (∀ x ∈ fs, x ∉ ln → ∀ y, adj (opens ds st) x y → y ∈ fs) ∧ m = 2 * (4 - fs.length) + ln.length ∧ m ≤ 7)
    (fun ρ h' => ∃ (fs : List Str), (∃ r5 r6 r7 r8 r9 r10 : Option D, ρ = [some (encDs ds), some (encS st), some (.str room), some (.ref h.length), some (.ref (h.length + 1)), r5, r6, r7, r8, r9, r10]) ∧ h' = h ++ [.lst (fs.map D.str), .lst []] ∧ fs.Nodup ∧ room ∈ fs ∧ (∀ x ∈ fs, Reach (adj (opens ds st)) room x) ∧ (∀ x ∈ fs, x ∈ R4) ∧ ∀ x ∈ fs, ∀ y, adj (opens ds st) x y → y ∈ fs)
    1000 7 ⟨[room], [room], ⟨_, _, _, _, _, _, rfl⟩, rfl, by simp, by simp, by simp [Reach.refl], by simpa using hr, by simp, by simp, by simp, by simp⟩ (by decide) ?_ ?_
  · rintro m ρ h' ⟨fs, ln, ⟨r5, r6, r7, r8, r9, r10, rfl⟩, rfl, nd, hroom, hreach, h4, hsub, hcl, hm, hll⟩
    have hfl := nod4 nd h4
    have fin : finD (.lst (ln.map D.str)) = true := by
      unfold finD D.fine
      rw [List.all_eq_true]
      intro d hd
      obtain ⟨x, hx, rfl⟩ := List.mem_map.mp hd
      exact r4_str (h4 x (hsub x hx))
    have cn : opCmp .ne (.ref (h.length + 1)) (.lst []) (h ++ [.lst (fs.map D.str), .lst (ln.map D.str)]) = .ok (.bl (!ln.isEmpty)) (h ++ [.lst (fs.map D.str), .lst (ln.map D.str)]) := by
      have e0 : eqOf (.lst (ln.map D.str)) (.lst []) = some ln.isEmpty := by
        have e1 : eqOf (.lst (ln.map D.str)) (.lst []) = if (finD (.lst (ln.map D.str)) && finD (.lst [])) = true then some (D.eqv (.lst (ln.map D.str)) (.lst [])) else none := rfl
        rw [e1, fin]
        cases ln <;> simp [finD, D.fine, D.eqv, D.eqvs]
      have dr : deref (.ref (h.length + 1)) (h ++ [.lst (fs.map D.str), .lst (ln.map D.str)]) = .lst (ln.map D.str) := by simp only [deref, two_b]
      have dr2 : deref (.lst []) (h ++ [.lst (fs.map D.str), .lst (ln.map D.str)]) = .lst [] := rfl
      simp only [opCmp, dr, dr2, e0, Option.map_some, okB]
    unfold turnW
    simp only [e_cmp, e_lst, e_nil, its_lst, e_var, getV_zero, getV_succ, isFn_ref, Bool.false_eq_true, if_false, ↓el_of cn, onB_bl]
    by_cases hln : ln = []
    · subst hln
      simp only [List.isEmpty_nil, Bool.not_true, Bool.false_eq_true, if_false]
      exact .inl ⟨_, _, rfl, fs, ⟨_, _, _, _, _, _, rfl⟩, rfl, nd, hroom, hreach, h4, fun x hx y hy => hcl x hx (by simp) y hy⟩
    · obtain ⟨ln0, here, rfl⟩ : ∃ ln0 here, ln = ln0 ++ [here] := ⟨ln.dropLast, ln.getLast hln, (List.dropLast_concat_getLast hln).symm⟩
      have hhere : here ∈ fs := hsub here (by simp)
      have hemp : (ln0 ++ [here]).isEmpty = false := by cases ln0 <;> rfl
      have mo : mtOk .pop (.ref (h.length + 1)) (h ++ [.lst (fs.map D.str), .lst ((ln0 ++ [here]).map D.str)]) = true := by simp only [mtOk, two_b]
      have po : opMt .pop (.ref (h.length + 1)) [] (h ++ [.lst (fs.map D.str), .lst ((ln0 ++ [here]).map D.str)]) = .ok (.str here) (h ++ [.lst (fs.map D.str), .lst (ln0.map D.str)]) := by
        have e1 : ((ln0 ++ [here]).map D.str)[((ln0 ++ [here]).map D.str).length - 1]? = some (.str here) := by simp
        have e2 : ((ln0 ++ [here]).map D.str).dropLast = ln0.map D.str := by simp
        simp only [opMt, two_b, e1, set_b, e2]
      rw [hemp]
      simp only [Bool.not_false, if_true, s_seq, s_asg, e_mt, e_var, getV_zero, getV_succ, isFn_ref, Bool.false_eq_true, if_false, mo, e_nil, its_lst, ↓el_of po, t_var, List.set_cons_zero, List.set_cons_succ, s_fo, e_izip, nf2, nf3, ↓el_of (zp _)]
      refine el_fo (G := TurnW _ _ m) (fun j ρ h' => (∃ r6 r7 r8 r9 r10 : Option D, ρ = [some (encDs ds), some (encS st), some (.str room), some (.ref h.length), some (.ref (h.length + 1)), some (.str here), r6, r7, r8, r9, r10]) ∧
        h' = h ++ [.lst ((((ds.zip st).take j).foldl (stepL here) (fs, ln0)).1.map D.str), .lst ((((ds.zip st).take j).foldl (stepL here) (fs, ln0)).2.map D.str)]) ⟨⟨_, _, _, _, _, rfl⟩, by simp⟩ ?_ ?_
      · rintro j x ρ h' hx ⟨⟨r6, r7, r8, r9, r10, rfl⟩, rfl⟩
        rw [List.getElem?_map] at hx
        cases q : (ds.zip st)[j]? with
        | none => rw [q] at hx; cases hx
        | some p =>
          obtain ⟨d, b⟩ := p
          rw [q] at hx
          obtain rfl : D.tup [.tup [.str d.name, .str d.a, .str d.b], stD b] = x := Option.some.inj hx
          obtain ⟨more, em, nm, _, _⟩ := foldL_more here ((ds.zip st).take j) fs ln0 nd
          have ej : ((ds.zip st).take (j + 1)).foldl (stepL here) (fs, ln0) = stepL here (fs ++ more, ln0 ++ more) (d, b) := by
            rw [List.take_add_one, q, List.foldl_append, em]
            rfl
          rw [em]
          rw [ej]
          have h4m : more.length ≤ 12 := by
            have h2 : ∀ (ps : List (Door × Bool)) (s : List Str × List Str), (ps.foldl (stepL here) s).1.length ≤ s.1.length + ps.length := fun ps => by
              induction ps with
              | nil => intro s; simp
              | cons p ps ih =>
                intro s
                rw [List.foldl_cons]
                have := ih (stepL here s p)
                have h3 : (stepL here s p).1.length ≤ s.1.length + 1 := by
                  unfold stepL
                  split <;> simp
                simp only [List.length_cons]
                omega
            have h5 := h2 ((ds.zip st).take j) (fs, ln0)
            rw [em] at h5
            simp only [List.length_append] at h5
            have h6 : ((ds.zip st).take j).length ≤ 6 := by
              rw [List.length_take, List.length_zip]
              have := Nat.min_le_left ds.length st.length
              have := Nat.min_le_right j (min ds.length st.length)
              omega
            omega
          have hl0 : ln0.length ≤ 50 := by simp only [List.length_append, List.length_singleton] at hm; omega
          generalize hF : fs ++ more = F
          generalize hL : ln0 ++ more = L
          have hFl : F.length ≤ 100 := by rw [← hF, List.length_append]; omega
          have hLl : L.length ≤ 100 := by rw [← hL, List.length_append]; omega
          have nfb : isFn (stD b) = false := rfl
          have eqb : ∀ h, opCmp .eq (stD b) (.str "open") h = .ok (.bl b) h := fun h => by
            show opCmp .eq (.str (if b then "open" else "shut")) (.str "open") h = _
            rw [c_eqs]
            cases b
            · have : decide ((if false = true then ("open" : Str) else "shut") = "open") = false := by decide +kernel
              rw [this]
            · rfl
          have ni := notin_ref (two_a h (.lst (F.map D.str)) (.lst (L.map D.str)))
          have mo1 : mtOk .append (.ref h.length) (h ++ [.lst (F.map D.str), .lst (L.map D.str)]) = true := by simp only [mtOk, two_a]
          have ap1 : ∀ y, opMt .append (.ref h.length) [.str y] (h ++ [.lst (F.map D.str), .lst (L.map D.str)]) = .ok .non (h ++ [.lst ((F ++ [y]).map D.str), .lst (L.map D.str)]) := fun y => by
            have : (F.map D.str).length < lim := by rw [List.length_map]; exact Nat.lt_of_le_of_lt hFl (by decide)
            simp only [opMt, two_a, this, if_true, set_a, List.map_append, List.map_cons, List.map_nil]
          have mo2 : ∀ F', mtOk .append (.ref (h.length + 1)) (h ++ [.lst F', .lst (L.map D.str)]) = true := fun F' => by simp only [mtOk, two_b]
          have ap2 : ∀ F' y, opMt .append (.ref (h.length + 1)) [.str y] (h ++ [.lst F', .lst (L.map D.str)]) = .ok .non (h ++ [.lst F', .lst ((L ++ [y]).map D.str)]) := fun F' y => by
            have : (L.map D.str).length < lim := by rw [List.length_map]; exact Nat.lt_of_le_of_lt hLl (by decide)
            simp only [opMt, two_b, this, if_true, set_b, List.map_append, List.map_cons, List.map_nil]
          have ip := in_pair here d.a d.b (h ++ [.lst (F.map D.str), .lst (L.map D.str)])
          unfold turnO
          simp only [t_tup, t_cons, t_nil, t_var, List.set_cons_zero, List.set_cons_succ, s_seq, s_ite, e_and, e_one, e_cmp, e_cst, e_tup, e_cons, e_nil, its_lst, e_var, getV_zero, getV_succ, nfb, isFn_str, Bool.false_eq_true, if_false, ↓el_of (eqb _), onB_bl, ↓el_of ip]
          cases b with
          | false =>
            simp only [Bool.false_eq_true, if_false, onB_bl, s_skip, o_nx]
            refine ⟨_, _, rfl, ⟨_, _, _, _, _, rfl⟩, ?_⟩
            unfold stepL
            rw [if_neg (by simp)]
          | true =>
            simp only [if_true]
            by_cases c1 : here = d.a ∨ here = d.b
            · rw [if_pos (by simpa using c1)]
              simp only [onB_bl, if_true, s_seq, s_asg, e_ife, e_cmp, e_var, getV_zero, getV_succ, isFn_str, Bool.false_eq_true, if_false, c_eqs, el_ok]
              have far : (if decide (here = d.a) = true then (R.ok (D.str d.b) (h ++ [.lst (F.map D.str), .lst (L.map D.str)]) : R D) else R.ok (D.str d.a) (h ++ [.lst (F.map D.str), .lst (L.map D.str)])) = .ok (.str (farOf here d)) (h ++ [.lst (F.map D.str), .lst (L.map D.str)]) := by
                unfold farOf
                by_cases c : here = d.a <;> simp [c]
              have goal : ∀ y, y = farOf here d → Turn (fun ρ h' => (∃ r6 r7 r8 r9 r10 : Option D, ρ = [some (encDs ds), some (encS st), some (.str room), some (.ref h.length), some (.ref (h.length + 1)), some (.str here), r6, r7, r8, r9, r10]) ∧
                  h' = h ++ [.lst ((stepL here (F, L) (d, true)).1.map D.str), .lst ((stepL here (F, L) (d, true)).2.map D.str)])
                  ((evS (evF pg k) (evG pg k) (.seq (.ite (.cmp .notin (.var 10) (.var 3)) (.seq (.ex (.mt .append (.var 3) (.cons (.var 10) .nil))) (.seq (.ex (.mt .append (.var 4) (.cons (.var 10) .nil))) .skip)) .skip) .skip) [some (encDs ds), some (encS st), some (.str room), some (.ref h.length), some (.ref (h.length + 1)), some (.str here), some (.str d.name), some (.str d.a), some (.str d.b), some (stD true), some (.str y)] (h ++ [.lst (F.map D.str), .lst (L.map D.str)])).el .nx (fun _ _ => .bad) (fun _ _ => .bad) .nx (fun _ _ _ _ => .bad) .bad) := by
                rintro y rfl
                simp only [s_seq, s_ite, e_cmp, e_var, getV_zero, getV_succ, isFn_str, isFn_ref, Bool.false_eq_true, if_false, ↓el_of (ni _), onB_bl]
                by_cases c2 : farOf here d ∈ F
                · simp only [c2, decide_true, Bool.not_true, Bool.false_eq_true, if_false, s_skip, o_nx]
                  refine ⟨_, _, rfl, ⟨_, _, _, _, _, rfl⟩, ?_⟩
                  unfold stepL
                  rw [if_neg (fun z => z.2.2 c2)]
                · simp only [c2, decide_false, Bool.not_false, if_true, s_seq, s_ex, e_mt, e_var, getV_zero, getV_succ, isFn_ref, isFn_str, Bool.false_eq_true, if_false, mo1, e_cons, e_nil, its_lst, ↓el_of (ap1 _), mo2, ↓el_of (ap2 _ _), s_skip, o_nx]
                  refine ⟨_, _, rfl, ⟨_, _, _, _, _, rfl⟩, ?_⟩
                  unfold stepL
                  rw [if_pos ⟨rfl, c1, c2⟩]
              have g := goal _ rfl
              by_cases c : here = d.a
              · have e : farOf here d = d.b := if_pos c
                rw [e] at g
                simp only [c, decide_true, if_true, onB_bl, el_ok, t_var, List.set_cons_zero, List.set_cons_succ] at g ⊢
                simpa only [s_seq, s_ite, e_cmp, e_var, getV_zero, getV_succ, isFn_str, isFn_ref, Bool.false_eq_true, if_false, s_skip, o_nx] using g
              · have e : farOf here d = d.a := if_neg c
                rw [e] at g
                simp only [c, decide_false, Bool.false_eq_true, if_false, onB_bl, el_ok, t_var, List.set_cons_zero, List.set_cons_succ] at g ⊢
                simpa only [s_seq, s_ite, e_cmp, e_var, getV_zero, getV_succ, isFn_str, isFn_ref, Bool.false_eq_true, if_false, s_skip, o_nx] using g
            · rw [if_neg (by simpa using c1)]
              simp only [onB_bl, Bool.false_eq_true, if_false, s_skip, o_nx]
              refine ⟨_, _, rfl, ⟨_, _, _, _, _, rfl⟩, ?_⟩
              unfold stepL
              rw [if_neg (fun z => c1 z.2.1)]
      · rintro ρ h' ⟨⟨r6, r7, r8, r9, r10, rfl⟩, rfl⟩
        rw [List.length_map, List.take_length]
        obtain ⟨more, em, nm, m1, m2⟩ := foldL_more here (ds.zip st) fs ln0 nd
        rw [em]
        simp only [s_skip, o_nx]
        have r4m : ∀ x ∈ fs ++ more, x ∈ R4 := fun x hx => by
          rcases List.mem_append.mp hx with hx | hx
          · exact h4 x hx
          · exact okR ((adj_zip ok here x).mpr (m1 x hx))
        have l4 := nod4 nm r4m
        rw [List.length_append] at l4
        refine .inr ⟨2 * (4 - (fs ++ more).length) + (ln0 ++ more).length, _, _, rfl, ?_, fs ++ more, ln0 ++ more, ⟨_, _, _, _, _, _, rfl⟩, rfl, nm, List.mem_append_left _ hroom, fun x hx => ?_, r4m, fun x hx => ?_, fun x hx hn y hy => ?_, rfl, ?_⟩
        · simp only [List.length_append, List.length_singleton] at hm ⊢
          omega
        · rcases List.mem_append.mp hx with hx | hx
          · exact hreach x hx
          · exact .step (hreach here hhere) ((adj_zip ok here x).mpr (m1 x hx))
        · rcases List.mem_append.mp hx with hx | hx
          · exact List.mem_append_left _ (hsub x (List.mem_append_left _ hx))
          · exact List.mem_append_right _ hx
        · by_cases e : x = here
          · subst e
            obtain ⟨d, hd, hh, rfl⟩ := (adj_zip ok x y).mp hy
            exact m2 d hd hh
          · rcases List.mem_append.mp hx with hx | hx
            · refine List.mem_append_left _ (hcl x hx (fun z => ?_) y hy)
              rcases List.mem_append.mp z with z | z
              · exact hn (List.mem_append_left _ z)
              · simp only [List.mem_singleton] at z
                exact e z
            · exact absurd (List.mem_append_right _ hx) hn
        · simp only [List.length_append, List.length_singleton] at hm ⊢
          omega
  · rintro ρ h' ⟨fs, ⟨r5, r6, r7, r8, r9, r10, rfl⟩, rfl, nd, hroom, hreach, h4, hcl⟩
    simp only [s_seq, s_ret, e_var, getV_zero, getV_succ, isFn_ref, Bool.false_eq_true, if_false]
    exact ⟨fs, cut_frz0 _ _ _ (norefs_map _ _ fun _ => by simp), nd, reach_iff hroom hreach hcl, h4⟩
end VE
set_option Elab.async false
set_option linter.all false
set_option maxRecDepth 100000
set_option maxHeartbeats 2000000
set_option autoImplicit false
/-! Lt: what is asked of a house, and how it is shown -/
namespace VE
open PySem
theorem in_strs (x : Str) (fs : List Str) (b : D) (h : HS) (hb : seqOf b h = some (fs.map D.str)) (ns : ∀ y, b ≠ .str y) : opCmp .inn (.str x) b h = .ok (.bl (decide (x ∈ fs))) h := by
  have a : ((fs.map D.str).any fun z => D.eqv z (.str x)) = decide (x ∈ fs) := by
    rw [Bool.eq_iff_iff, List.any_eq_true, decide_eq_true_eq]
    constructor
    · rintro ⟨z, hz, e⟩
      obtain ⟨y, hy, rfl⟩ := List.mem_map.mp hz
      have : y = x := by simpa [D.eqv] using e
      rwa [← this]
    · intro hm
      exact ⟨_, List.mem_map.mpr ⟨x, hm, rfl⟩, by simp [D.eqv]⟩
  have hi : inOf (.str x) (isTupD b) (fs.map D.str) = some (decide (x ∈ fs)) := by
    unfold inOf
    rw [if_pos (by simp [D.flat]), a]
  cases b <;> first | exact absurd rfl (ns _) | (simp only [opCmp, hb, hi, okB])
theorem r_walked_rooms (k : Nat) (H : House) (o : H.Ok) (st : List Bool) (hs : st.length = H.leaves.length) (ds : List Door) (od : DoorsOk H ds) (x : Str) (hx : x ∈ ends ds) (h : HS) :
    ∃ fs : List Str, evF pg (k + 12) f_walked_rooms [H.enc, encS st, encDs ds, .str x] h = .ok (.tup (sortD (fs.map D.str))) h ∧ fs.Nodup ∧ (∀ y, y ∈ fs ↔ Reach (adj (opens ds st)) x y) ∧ ∀ y ∈ fs, y ∈ R4 := by
  have nf : isFn H.enc = false := rfl
  have nf2 : isFn (encDs ds) = false := rfl
  have nf3 : isFn (encS st) = false := rfl
  have hl : ds.length ≤ 6 := by rw [od.len]; exact o.few
  have hx4 : x ∈ R4 := by
    obtain ⟨d, hd, hm⟩ := List.mem_flatMap.mp hx
    simp only [List.mem_cons, List.mem_nil_iff, or_false] at hm
    rcases hm with rfl | rfl
    · exact (od.ok d hd).ha
    · exact (od.ok d hd).hb
  obtain ⟨fs, e, nd, re, h4⟩ := r_rooms_walked (k + 9) ds hl od.ok st x hx4 h
  have l4 := nod4 nd h4
  have so := sorted_strs_run fs (Nat.le_trans l4 (by decide)) (.lst (fs.map D.str)) h rfl rfl
  refine ⟨fs, ?_, nd, re, h4⟩
  rw [u_walked_rooms]
  simp only [b_walked_rooms, s_seq, s_ex, s_ret, e_bi, e_callK, e_cons, e_nil, its_lst, e_var, getV_zero, getV_succ, nf, nf2, nf3, isFn_str, Bool.false_eq_true, if_false, permOf, List.append_nil, List.map_cons, List.map_nil, List.getD_cons_zero, List.getD_cons_succ, ↓el_of (r_check_doored k H o st hs ds od x hx h), ↓el_of e, ↓el_of so, q_tuple, el_ok]
  refine cut_same _ _ _ ?_
  obtain ⟨zs, ez, _⟩ := sort_strs fs
  rw [noref_tup, ez]
  exact norefs_map _ _ fun _ => by simp
theorem r_can_walk (k : Nat) (H : House) (o : H.Ok) (st : List Bool) (hs : st.length = H.leaves.length) (ds : List Door) (od : DoorsOk H ds) (x y : Str) (hx : x ∈ ends ds) (hy : y ∈ ends ds) (h : HS) :
    ∃ b : Bool, evF pg (k + 13) f_can_walk [H.enc, encS st, encDs ds, .str x, .str y] h = .ok (.bl b) h ∧ (b = true ↔ Reach (adj (opens ds st)) x y) := by
  have nf : isFn H.enc = false := rfl
  have nf2 : isFn (encDs ds) = false := rfl
  have nf3 : isFn (encS st) = false := rfl
  have hl : ds.length ≤ 6 := by rw [od.len]; exact o.few
  have hx4 : x ∈ R4 := by
    obtain ⟨d, hd, hm⟩ := List.mem_flatMap.mp hx
    simp only [List.mem_cons, List.mem_nil_iff, or_false] at hm
    rcases hm with rfl | rfl
    · exact (od.ok d hd).ha
    · exact (od.ok d hd).hb
  obtain ⟨fs, e, nd, re, h4⟩ := r_rooms_walked (k + 10) ds hl od.ok st x hx4 h
  have ii := in_strs y fs (.lst (fs.map D.str)) h rfl (fun _ z => by cases z)
  refine ⟨decide (y ∈ fs), ?_, by rw [decide_eq_true_eq, re]⟩
  rw [u_can_walk]
  simp only [b_can_walk, s_seq, s_ex, s_ret, e_cmp, e_callK, e_cons, e_nil, its_lst, e_var, getV_zero, getV_succ, nf, nf2, nf3, isFn_str, Bool.false_eq_true, if_false, permOf, List.append_nil, List.map_cons, List.map_nil, List.getD_cons_zero, List.getD_cons_succ, ↓el_of (r_check_walking k H o st hs ds od x y hx hy h), ↓el_of e, ↓el_of ii]
  exact cut_same _ _ _ (by simp)
/-! repr -/
def shows (d : D) : Bool := isSeq d && finD d && decide ((D.py d).shown.length ≤ lim) && (D.py d).showable
theorem r_repr (d a : D) (h : HS) (e : deref a h = d) (s : shows d = true) : opBi .repr [a] h = .ok (.str (D.py d).shown) h := by
  have s' : (isSeq (deref a h) && finD (deref a h) && decide ((D.py (deref a h)).shown.length ≤ lim) && (D.py (deref a h)).showable) = true := by rw [e]; exact s
  simp only [opBi, s', if_true]
  rw [e]
def S4 : List Str := ["attic", "hut", "shed", "yard"]
def pickR (a b c d : Bool) : List Str := (if a then [("attic" : Str)] else []) ++ ((if b then [("hut" : Str)] else []) ++ ((if c then [("shed" : Str)] else []) ++ (if d then [("yard" : Str)] else [])))
theorem filt_pick (p : Str → Bool) : S4.filter p = pickR (p "attic") (p "hut") (p "shed") (p "yard") := by
  simp only [S4, List.filter_cons, List.filter_nil, pickR]
  cases p "attic" <;> cases p "hut" <;> cases p "shed" <;> cases p "yard" <;> rfl
theorem shows_pick : ∀ a b c d : Bool, shows (.lst [.tup ((pickR a b c d).map D.str), .tup ((pickR a b c d).map D.str)]) = true := by decide +kernel
theorem shows_bl : ∀ b : Bool, shows (.lst [.bl b, .bl b]) = true := by decide +kernel
theorem s4_pw : S4.Pairwise fun a b => D.lt (.str a) (.str b) = true := by
  have h : (S4.zipIdx.all fun p => S4.zipIdx.all fun q => !decide (p.2 < q.2) || D.lt (.str p.1) (.str q.1)) = true := by decide +kernel
  refine List.pairwise_iff_getElem.mpr fun i j hi hj hij => ?_
  have h1 := List.all_eq_true.mp h (S4[i], i) (by rw [List.mem_iff_getElem]; exact ⟨i, by simpa using hi, by simp⟩)
  have h2 := List.all_eq_true.mp h1 (S4[j], j) (by rw [List.mem_iff_getElem]; exact ⟨j, by simpa using hj, by simp⟩)
  simpa [hij] using h2
theorem s4_r4 : ∀ x, x ∈ S4 ↔ x ∈ R4 := by
  intro x
  simp only [S4, R4, List.mem_cons, List.mem_nil_iff, or_false]
  constructor
  · rintro (rfl | rfl | rfl | rfl) <;> simp
  · rintro (rfl | rfl | rfl | rfl) <;> simp
/-- rooms in order can be shown -/
theorem shows_rooms (fs : List Str) (nd : fs.Nodup) (h4 : ∀ x ∈ fs, x ∈ R4) : shows (.lst [.tup (sortD (fs.map D.str)), .tup (sortD (fs.map D.str))]) = true := by
  obtain ⟨zs, e, p⟩ := sort_strs fs
  have pw := sort_strs_pw nd e p
  have nz : zs.Nodup := p.nodup_iff.mpr nd
  have ez : zs = S4.filter fun x => decide (x ∈ zs) := by
    refine List.Perm.eq_of_pairwise (le := fun a b => D.lt (.str a) (.str b) = true) (fun a b _ _ h1 h2 => ?_) pw (s4_pw.filter _) ?_
    · rw [dlt_asy h1] at h2; cases h2
    · have n4 : (S4.filter fun x => decide (x ∈ zs)).Nodup := (show S4.Nodup by decide +kernel).filter _
      refine (List.perm_ext_iff_of_nodup nz n4).mpr fun x => ?_
      rw [List.mem_filter, decide_eq_true_eq, s4_r4]
      exact ⟨fun h => ⟨h4 x (p.mem_iff.mp h), h⟩, fun h => h.2⟩
  rw [e, ez, filt_pick]
  exact shows_pick _ _ _ _
theorem Reach.mono {α : Type} {E E' : α → α → Prop} {r x : α} (h : Reach E r x) (f : ∀ a b, E a b → E' a b) : Reach E' r x := by
  induction h with
  | refl => exact .refl
  | step _ e ih => exact .step ih (f _ _ e)
end VE
set_option Elab.async false
set_option linter.all false
set_option maxRecDepth 100000
set_option maxHeartbeats 2000000
set_option autoImplicit false
/-! Lu: the wells and the turns -/
namespace VE
open PySem
def scrD (ns : List Int) : D := .scr (ns.map .int)
theorem lrng_of {as : List D} {h : HS} {xs : List D} (o : opRng as h = .ok (.lst xs) h) (l : xs.length ≤ lim) : opLRng as h = .ok (.lst xs) h := by
  unfold opLRng
  rw [o]
  exact if_pos l
/-- a new list handed back as such -/
theorem cut_new (h : HS) (xs : List D) (hx : norefs xs = true) : cutL false h (.ref h.length) (h ++ [.lst xs]) = .ok (.ref h.length) (h ++ [.lst xs]) := by
  have e : cutR false h (.ok (.ref h.length) (h ++ [.lst xs])) = cutAt h (h ++ [.lst xs]) (h.length + 1) (.ref h.length) := by
    unfold cutR
    simp
  unfold cutL
  rw [e, cutAt_ok (Nat.le_succ _) (fun i o hi e => ?_) (by simp [D.blw])]
  · rw [List.take_of_length_le (by simp)]
  · rcases Nat.lt_or_ge i h.length with hl | hl
    · rw [List.getElem?_append_left hl] at e
      exact .inl e
    · have : i = h.length := by omega
      subst this
      rw [at_end] at e
      cases e
      exact .inr (by simp only [DO.blw]; exact blws_of _ _ hx)
theorem r_turns (k : Nat) (ns : List Int) (h : HS) : ∃ n : Nat, n ≤ 3 ∧ evF pg (k + 1) f__law_turns [scrD ns] h = .ok (.lst (rngD 0 (n : Int))) h := by
  have nf : isFn (scrD ns) = false := rfl
  have ln : opBi .len [scrD ns] h = .ok (.int ns.length) h := by
    show R.ok (D.int ((ns.map D.int).length : Nat)) h = _
    rw [List.length_map]
  obtain ⟨n, hn, e⟩ : ∃ n : Nat, n ≤ 3 ∧ (if (2 : Int) < (if (3 : Int) < (ns.length : Int) then 3 else (ns.length : Int)) then (if (3 : Int) < (ns.length : Int) then (3 : Int) else (ns.length : Int)) else 2) = (n : Int) := by
    by_cases c : (3 : Int) < (ns.length : Int)
    · rw [if_pos c]; exact ⟨3, by decide, rfl⟩
    · rw [if_neg c]
      by_cases c2 : (2 : Int) < (ns.length : Int)
      · rw [if_pos c2]; exact ⟨ns.length, by omega, rfl⟩
      · rw [if_neg c2]; exact ⟨2, by decide, rfl⟩
  have lr : opLRng [.int (n : Int)] h = .ok (.lst (rngD 0 (n : Int))) h := by
    have ok : okEnd (n : Int) = true := by
      unfold okEnd
      rw [decide_eq_true_eq]
      constructor <;> omega
    have l : (rngD 0 (n : Int)).length ≤ lim := by rw [rng_len]; exact Nat.le_trans hn (by decide)
    have o : opRng [.int (n : Int)] h = .ok (.lst (rngD 0 (n : Int))) h := by simp only [opRng, ok, if_true]
    exact lrng_of o l
  refine ⟨n, hn, ?_⟩
  rw [u__law_turns]
  simp only [b__law_turns, s_seq, s_ret, e_listRange, e_cons, e_bi, e_cst, e_nil, e_var, getV_zero, nf, Bool.false_eq_true, if_false, its_lst, ↓el_of ln, q_mini, q_maxi, el_ok, gt_iff_lt]
  rw [e, el_of lr]
  exact cut_same _ _ _ (by
    rw [noref_lst]
    unfold rngD
    exact norefs_map _ _ fun _ => by simp)
theorem r_well (k : Nat) (ns : List Int) (hl : ns.length ≤ 1000) (j : Nat) (hj : j ≤ 10) (h : HS) : ∃ a b : Int, 0 ≤ a ∧ evF pg (k + 1) f__law_well [scrD ns, .int j] h = .ok (.ref h.length) (h ++ [.lst [.int a, .int b, .int 0]]) := by
  have nf : isFn (scrD ns) = false := rfl
  have ln : opBi .len [scrD ns] h = .ok (.int ns.length) h := by
    show R.ok (D.int ((ns.map D.int).length : Nat)) h = _
    rw [List.length_map]
  have spot : ∃ s : Int, (ev (evF pg k) (evG pg k) (.ife (.cmp .lt (.var 1) (.bi .len (.cons (.var 0) .nil))) (.bi .int (.cons (.ix (.var 0) (.var 1)) .nil)) (.bin .add (.bin .mul (.cst (.int 8963)) (.var 1)) (.cst (.int 2003)))) [some (scrD ns), some (.int j), none, none, none] h) = .ok (.int s) h := by
    by_cases c : (j : Int) < (ns.length : Int)
    · have ix : opIx (scrD ns) (.int (j : Int)) h = .ok (.int (ns[j]'(by omega))) h := i_at _ j (xs := ns.map .int) (by rw [List.getElem?_map, List.getElem?_eq_getElem (by omega)]; rfl) _ rfl (fun _ z => by cases z)
      refine ⟨ns[j]'(by omega), ?_⟩
      refine (el_id _).symm.trans ?_
      simp only [e_ife, e_cmp, e_bi, e_cons, e_nil, its_lst, e_var, getV_zero, getV_succ, isFn_int, nf, Bool.false_eq_true, if_false, ↓el_of ln, c_lt, el_ok, onB_bl, c, decide_true, if_true, e_ix, ↓el_of ix, q_int]
    · refine ⟨8963 * (j : Int) + 2003, ?_⟩
      have m : opBin .mul (.int 8963) (.int (j : Int)) h = .ok (.int (8963 * (j : Int))) h := b_mul _ _ _ (by simp [small])
      refine (el_id _).symm.trans ?_
      simp only [e_ife, e_cmp, e_bi, e_cons, e_nil, its_lst, e_var, getV_zero, getV_succ, isFn_int, nf, Bool.false_eq_true, if_false, ↓el_of ln, c_lt, el_ok, onB_bl, c, decide_false, e_bin, e_cst, ↓el_of m, b_add]
  obtain ⟨s, spot⟩ := spot
  have m2 : opBin .mul (.int 2203) (.int (j : Int)) h = .ok (.int (2203 * (j : Int))) h := b_mul _ _ _ (by simp [small])
  have sl : opSl (scrD ns) .non (.int 7) h = .ok (.lst ((ns.take 7).map .int)) h := by
    have e : cutD (ns.map D.int) none (some 7) = (ns.take 7).map .int := by
      have e7 : (some (7 : Int)) = some ((7 : Nat) : Int) := rfl
      unfold cutD
      rw [e7, sIx_none, HT.sIx_nat, List.length_map, List.drop_zero, Nat.sub_zero, ← List.map_take]
      congr 1
      rw [List.take_eq_take_iff]
      omega
    show R.ok (D.lst (cutD (ns.map D.int) none (some 7))) h = _
    rw [e]
  have ad : opBin .add (.lst ((ns.take 7).map .int)) (.lst [.int s]) h = .ok (.lst ((ns.take 7 ++ [s]).map .int)) h := by
    refine (b_addl h _ _ ?_).trans (by rw [List.map_append]; rfl)
    rw [List.length_map, List.length_take, List.length_singleton]
    have := Nat.min_le_left 7 ns.length
    exact Nat.le_trans (by omega : min 7 ns.length + 1 ≤ 8) (by decide)
  rw [u__law_well]
  simp only [b__law_well, s_seq, s_asg, ↓el_of spot, t_var, List.set_cons_zero, List.set_cons_succ, e_bin, e_cst, e_var, getV_zero, getV_succ, isFn_int, nf, Bool.false_eq_true, if_false, ↓el_of m2, b_add, el_ok, s_fo, e_iseq, e_sl, el_evO, isNil_nil, isNil_cst, if_true, ↓el_of sl, e_lst, e_cons, e_nil, its_lst, ↓el_of ad, w_lst]
  refine el_fo (G := fun r => ∃ a b : Int, 0 ≤ a ∧ r = R.ok (D.ref h.length) (h ++ [.lst [.int a, .int b, .int 0]])) (fun i ρ h' => h' = h ∧ ∃ (m : Int) (r4 : Option D), ρ = [some (scrD ns), some (.int j), some (.int s), some (.int m), r4]) ⟨rfl, _, _, rfl⟩ ?_ ?_
  · rintro i x ρ h' hx ⟨rfl, m, r4, rfl⟩
    rw [List.getElem?_map] at hx
    cases q : (ns.take 7 ++ [s])[i]? with
    | none => rw [q] at hx; cases hx
    | some z =>
      rw [q] at hx
      cases hx
      have m3 : opBin .mul (.int m) (.int 33013) h' = .ok (.int (m * 33013)) h' := b_mul _ _ _ (by simp [small])
      have d1 : ∀ z : Int, opBin .mod (.int z) (.int 2147480009) h' = .ok (.int (z.fmod 2147480009)) h' := fun z => b_mod _ _ _ (by decide)
      unfold turnO
      simp only [t_var, List.set_cons_zero, List.set_cons_succ, s_seq, s_asg, e_bin, e_bi, e_cons, e_nil, its_lst, e_cst, e_var, getV_zero, getV_succ, isFn_int, Bool.false_eq_true, if_false, ↓el_of m3, q_int, el_ok, ↓el_of (d1 _), b_add, s_skip]
      exact ⟨_, _, rfl, rfl, _, _, rfl⟩
  · rintro ρ h' ⟨rfl, m, r4, rfl⟩
    have pw : opBin .pow (.int 10) (.int 15) h' = .ok (.int (10 ^ 15)) h' := by
      simp only [opBin]
      rw [if_pos (by decide)]
      rfl
    have ab : opBi .abs [.int s] h' = .ok (.int (if s < 0 then -s else s)) h' := rfl
    have fin : ∀ a : Int, 0 ≤ a → ∃ a' b : Int, 0 ≤ a' ∧ (cutL false h' (.ref h'.length) (h' ++ [.lst [.int a, .int m, .int 0]])) = R.ok (D.ref h'.length) (h' ++ [.lst [.int a', .int b, .int 0]]) := fun a ha =>
      ⟨a, m, ha, cut_new h' _ (by simp)⟩
    simp only [s_seq, s_ret, e_lstO, e_cons, e_ife, e_or, e_one, e_cmp, e_bin, e_cst, e_nil, its_lst, e_var, getV_zero, getV_succ, isFn_int, Bool.false_eq_true, if_false, c_lt, c_ge, el_ok, onB_bl, ↓el_of pw, e_bi, ↓el_of ab]
    by_cases c1 : s < 0
    · simp only [c1, decide_true, if_true]
      exact fin _ (by omega)
    · simp only [c1, decide_false, Bool.false_eq_true, if_false]
      by_cases c2 : (10 : Int) ^ 15 ≤ s
      · simp only [c2, decide_true, if_true]
        exact fin _ (by omega)
      · simp only [c2, decide_false, Bool.false_eq_true, if_false]
        exact fin _ (by omega)
end VE
set_option Elab.async false
set_option linter.all false
set_option maxRecDepth 100000
set_option maxHeartbeats 4000000
set_option autoImplicit false
/-! Lv: the law -/
namespace VE
open PySem
def Gg (w : Nat) (h h' : HS) : Prop := ∃ h1 j, Dr w h h1 ∧ h' = h1 ++ j
section
variable {w : Nat} {h h' h'' : HS}
theorem Gg.wl (W : Wl w h) (g : Gg w h h') : Wl w h' := by
  obtain ⟨h1, j, dr, rfl⟩ := g
  exact (W.dr dr).app j
theorem Gg.dr (W : Wl w h) (g : Gg w h h') (d : Dr w h' h'') : Gg w h h'' := by
  obtain ⟨h1, j, dr, rfl⟩ := g
  obtain ⟨h2, dr2, rfl⟩ := d.app (W.dr dr).lt
  exact ⟨h2, j, dr.trans dr2, rfl⟩
theorem Gg.app (g : Gg w h h') (j : HS) : Gg w h (h' ++ j) := by
  obtain ⟨h1, j1, dr, rfl⟩ := g
  exact ⟨h1, j1 ++ j, dr, by rw [List.append_assoc]⟩
theorem Gg.cut (g : Gg w h h') (fz : Bool) (x : D) (hx : noref x = true) : Has (cutL fz h x h') fun d h'' => d = x ∧ Gg w h h'' := by
  obtain ⟨h1, j, dr, rfl⟩ := g
  exact ⟨x, h1, dr.cut fz x hx, rfl, h1, [], dr, by simp⟩
end
theorem ends_r4 {H : House} {ds : List Door} (od : DoorsOk H ds) {x : Str} (hx : x ∈ ends ds) : x ∈ R4 := by
  obtain ⟨d, hd, hm⟩ := List.mem_flatMap.mp hx
  simp only [List.mem_cons, List.mem_nil_iff, or_false] at hm
  rcases hm with rfl | rfl
  · exact (od.ok d hd).ha
  · exact (od.ok d hd).hb
theorem roomsD_str {ds : List Door} {d : D} (h : d ∈ roomsD ds) : ∃ x, d = .str x ∧ x ∈ ends ds := by
  obtain ⟨x, _, rfl⟩ := List.mem_map.mp (sortD_mem.mp h)
  exact ⟨x, rfl, (roomsD_mem ds x).mp h⟩
theorem ne_str (x : Str) (h : HS) : opCmp .ne (.str x) (.str x) h = .ok (.bl false) h := by rw [c_nes]; simp
theorem stD_inj {c c' : Bool} (h : stD c = stD c') : c = c' := by
  have ne : ¬ ("open" : Str) = "shut" := by decide +kernel
  cases c <;> cases c' <;> first | rfl | (exfalso; unfold stD at h; simp at h; first | exact ne h | exact ne h.symm)
theorem more_of : ∀ (st : List Bool) (ys : List D), ys.length = (st.map stD).length → (∀ p ∈ (st.map stD).zip ys, ∃ c c' : Bool, p.1 = stD c ∧ p.2 = stD c' ∧ (c = true → c' = true)) → ∃ bs : List Bool, ys = bs.map stD ∧ ∀ p ∈ st.zip bs, p.1 = true → p.2 = true
  | [], ys, hl, _ => by
    have : ys = [] := List.length_eq_zero_iff.mp hl
    subst this
    exact ⟨[], rfl, by simp⟩
  | c :: st, [], hl, _ => by simp at hl
  | c :: st, y :: ys, hl, hq => by
    obtain ⟨c0, c', e1, rfl, imp⟩ := hq (stD c, y) (by simp)
    have ec : c = c0 := stD_inj e1
    subst ec
    obtain ⟨bs, rfl, hb⟩ := more_of st ys (by simpa using hl) fun p hp => hq p (by simp only [List.map_cons, List.zip_cons_cons]; exact List.mem_cons_of_mem _ hp)
    refine ⟨c' :: bs, rfl, fun p hp => ?_⟩
    rw [List.zip_cons_cons] at hp
    rcases List.mem_cons.mp hp with rfl | hp
    · exact imp
    · exact hb p hp
theorem zip_more {d : Door} : ∀ (ds : List Door) (st bs : List Bool), bs.length = st.length → (∀ p ∈ st.zip bs, p.1 = true → p.2 = true) → (d, true) ∈ ds.zip st → (d, true) ∈ ds.zip bs
  | [], st, bs, _, _, h => by simp at h
  | x :: ds, [], bs, _, _, h => by simp at h
  | x :: ds, c :: st, [], hl, _, _ => by simp at hl
  | x :: ds, c :: st, b :: bs, hl, hb, h => by
    rw [List.zip_cons_cons] at h ⊢
    rcases List.mem_cons.mp h with e | h
    · have e1 : x = d := by injection e with e1 _; exact e1.symm
      have e2 : c = true := by injection e with _ e2; exact e2.symm
      have e3 : b = true := hb (c, b) (by simp) e2
      rw [e1, e3]
      exact List.mem_cons_self
    · exact List.mem_cons_of_mem _ (zip_more ds st bs (by simpa using hl) (fun p hp => hb p (by rw [List.zip_cons_cons]; exact List.mem_cons_of_mem _ hp)) h)
/-- one turn of the law, for one room -/
theorem r_room (k : Nat) {w : Nat} {h0 : HS} (W : Wl w h0) (H : House) (o : H.Ok) (ds : List Door) (od : DoorsOk H ds) (st : List Bool) (hst : st.length = H.leaves.length) (S4' : D) (nf4 : isFn S4' = false) (room : Str) (hroom : room ∈ ends ds)
    (r1 r8 r9 r10 r11 r12 : Option D) (r7 : Option D) (h : HS) (g : Gg w h0 h) (B : S) (hB : B = (.seq (.asg (.var 8) (.bi .tuple (.cons (.bi .sorted (.cons (.callK f__law_walk (.cons (.var 3) (.cons (.var 6) (.cons (.var 7) .nil))) .nil [] [0, 1, 2]) .nil)) .nil))) (.seq (.asg (.var 9) (.lstO (.cons (.callK f_walked_rooms (.cons (.var 2) (.cons (.var 6) (.cons (.var 3) (.cons (.var 7) .nil)))) .nil [] [0, 1, 2, 3]) .nil))) (.seq (.ex (.mt .append (.var 9) (.cons (.callK f_walked_rooms .nil (.cons (.var 7) (.cons (.var 3) (.cons (.var 6) (.cons (.var 2) .nil)))) ["room", "doors", "stand", "house"] [3, 2, 1, 0]) .nil))) (.seq (.ite (.cmp .ne (.bi .repr (.cons (.var 9) .nil)) (.bi .repr (.cons (.lst (.cons (.var 8) (.cons (.var 8) .nil))) .nil))) (.seq (.ret (.cst (.bl false))) .skip) .skip) (.seq (.asg (.var 10) (.callK f__law_one (.cons (.var 0) (.cons (.var 5) .nil)) .nil [] [0, 1])) (.seq (.asg (.var 9) (.lstO (.cons (.callK f_can_walk (.cons (.var 2) (.cons (.var 6) (.cons (.var 3) (.cons (.var 7) (.cons (.var 10) .nil))))) .nil [] [0, 1, 2, 3, 4]) .nil))) (.seq (.ex (.mt .append (.var 9) (.cons (.callK f_can_walk .nil (.cons (.var 10) (.cons (.var 7) (.cons (.var 3) (.cons (.var 6) (.cons (.var 2) .nil))))) ["room2", "room", "doors", "stand", "house"] [4, 3, 2, 1, 0]) .nil))) (.seq (.ite (.cmp .ne (.bi .repr (.cons (.var 9) .nil)) (.bi .repr (.cons (.bin .mul (.lst (.cons (.cmp .inn (.var 10) (.var 8)) .nil)) (.cst (.int 2))) .nil))) (.seq (.ret (.cst (.bl false))) .skip) .skip) (.seq (.asg (.var 11) (.bi .tuple (.cons (.comp (.iseq (.var 6)) (.var 12) .nil (.callK f__law_one (.cons (.var 0) (.cons (.lst (.cons (.var 12) (.cons (.cst (.str "open")) .nil))) .nil)) .nil [] [0, 1]) [("state", 12)]) .nil))) (.seq (.ite (.and (.cmp .inn (.var 10) (.var 8)) (.one (.cmp .isnt (.callK f_can_walk (.cons (.var 2) (.cons (.var 11) (.cons (.var 3) (.cons (.var 7) (.cons (.var 10) .nil))))) .nil [] [0, 1, 2, 3, 4]) (.cst (.bl true))))) (.seq (.ret (.cst (.bl false))) .skip) .skip) .skip))))))))))) :
    Turn (fun ρ h' => Gg w h0 h' ∧ ∃ r7 r8 r9 r10 r11 r12 : Option D, ρ = [some (.ref w), r1, some H.enc, some (encDs ds), some S4', some (.tup (roomsD ds)), some (encS st), r7, r8, r9, r10, r11, r12])
      (turnO (stT (evF pg (k + 13)) (evG pg (k + 13)) (.var 7)) (evS (evF pg (k + 13)) (evG pg (k + 13)) B) (.str room) [some (.ref w), r1, some H.enc, some (encDs ds), some S4', some (.tup (roomsD ds)), some (encS st), r7, r8, r9, r10, r11, r12] h) := by
  subst hB
  have nfH : isFn H.enc = false := rfl
  have nfD : isFn (encDs ds) = false := rfl
  have nfS : isFn (encS st) = false := rfl
  have hl : ds.length ≤ 6 := by rw [od.len]; exact o.few
  have nr : ∀ fs : List Str, noref (.tup (sortD (fs.map D.str))) = true := fun fs => by
    obtain ⟨zs, ez, _⟩ := sort_strs fs
    rw [noref_tup, ez]
    exact norefs_map _ _ fun _ => by simp
  obtain ⟨fs, e1, nd1, re1, f41⟩ := r_law_walk (k + 12) ds hl od.ok st room (ends_r4 od hroom) h
  have so := sorted_strs_run fs (Nat.le_trans (nod4 nd1 f41) (by decide)) (.lst (fs.map D.str)) h rfl rfl
  obtain ⟨zs, ez, pz⟩ := sort_strs fs
  have wk : ∀ h, evF pg (k + 13) f_walked_rooms [H.enc, encS st, encDs ds, .str room] h = .ok (.tup (sortD (fs.map D.str))) h := fun h => by
    obtain ⟨gs, e2, nd2, re2, f42⟩ := r_walked_rooms (k + 1) H o st hst ds od room hroom h
    rw [e2, sort_strs_eq nd2 nd1 fun x => by rw [re2, re1]]
  have sh := shows_rooms fs nd1 f41
  have ap1 : ∀ h v v', opMt .append (.ref h.length) [v'] (h ++ [.lst [v]]) = .ok .non (h ++ [.lst [v, v']]) := fun h v v' => by
    have : [v].length < lim := by show 1 < 1000000; decide
    simp only [opMt, at_end, this, if_true, set_end]
    rfl
  have mo1 : ∀ (h : HS) v, mtOk .append (.ref h.length) (h ++ [.lst [v]]) = true := fun h v => by simp only [mtOk, at_end]
  have rp1 : ∀ (h : HS) (d : D) (s : shows (.lst [d, d]) = true), opBi .repr [.ref h.length] (h ++ [.lst [d, d]]) = .ok (.str (D.py (.lst [d, d])).shown) (h ++ [.lst [d, d]]) := fun h d s => r_repr (.lst [d, d]) _ _ (by simp only [deref, at_end]) s
  have rp2 : ∀ (h : HS) (d : D) (s : shows (.lst [d, d]) = true), opBi .repr [.lst [d, d]] h = .ok (.str (D.py (.lst [d, d])).shown) h := fun h d s => r_repr (.lst [d, d]) _ _ rfl s
  have g1 := g.app [.lst [.tup (sortD (fs.map D.str)), .tup (sortD (fs.map D.str))]]
  unfold turnO
  simp only [s_seq, s_asg, s_ex, s_ite, s_fo, s_ret, e_tup, e_lst, e_lstO, e_cons, e_nil, e_cst, e_bi, e_bin, e_cmp, e_ix, e_iseq, e_callK, e_mt, e_and, e_one, e_var, getV_zero, getV_succ, isFn_ref, isFn_str, isFn_int, isFn_bl, isFn_tup, isFn_lst, nfH, nfD, nfS, Bool.false_eq_true, if_false, its_lst, permOf, List.append_nil, List.cons_append, List.nil_append, List.map_cons, List.map_nil, List.getD_cons_zero, List.getD_cons_succ, t_tup, t_cons, t_nil, t_var, List.set_cons_zero, List.set_cons_succ, el_ok, onB_bl, s_skip, o_nx, q_tuple, w_tup, ↓el_of e1, ↓el_of so, ↓el_of (wk _), mo1, if_true, ↓el_of (ap1 _ _ _), ↓el_of (rp1 _ _ sh), ↓el_of (rp2 _ _ sh), ↓el_of (ne_str _ _)]
  refine Has.elim (G := Turn _) (r_one_tup (k + 11) (g1.wl W) (roomsD ds) ?ne ?len ?nrf) ?_
  case ne =>
    intro z
    have := (roomsD_mem ds room).mpr hroom
    rw [z] at this
    cases this
  case len =>
    unfold roomsD
    rw [sortD_len, List.length_map]
    have h1 := (dups_nodup (l := ends ds)).length_le_of_subset (l₂ := R4) fun x hx => ends_r4 od (List.mem_eraseDups.mp hx)
    exact Nat.lt_of_le_of_lt h1 (by decide)
  case nrf =>
    intro x hx
    obtain ⟨y, rfl, _⟩ := roomsD_str hx
    simp
  rintro _ h2 ⟨hd, dr2⟩
  obtain ⟨other, rfl, hother⟩ := roomsD_str hd
  have g2 := g1.dr W dr2
  obtain ⟨b, eb, hb⟩ : ∃ b : Bool, (∀ h, evF pg (k + 13) f_can_walk [H.enc, encS st, encDs ds, .str room, .str other] h = .ok (.bl b) h) ∧ (b = true ↔ Reach (adj (opens ds st)) room other) := by
    refine ⟨decide (other ∈ fs), fun h => ?_, by rw [decide_eq_true_eq, re1]⟩
    obtain ⟨b, e, hb⟩ := r_can_walk k H o st hst ds od room other hroom hother h
    rw [e]
    have : b = decide (other ∈ fs) := by
      rw [Bool.eq_iff_iff, hb, decide_eq_true_eq, re1]
    rw [this]
  have inn : ∀ h, opCmp .inn (.str other) (.tup (sortD (fs.map D.str))) h = .ok (.bl b) h := fun h => by
    rw [in_strs other zs (.tup (sortD (fs.map D.str))) h (by rw [ez]; rfl) (fun _ z => by cases z)]
    have : decide (other ∈ zs) = b := by
      rw [Bool.eq_iff_iff, decide_eq_true_eq, hb, pz.mem_iff, re1]
    rw [this]
  have ml : ∀ h, opBin .mul (.lst [.bl b]) (.int 2) h = .ok (.lst [.bl b, .bl b]) h := fun h => rfl
  have g3 := g2.app [.lst [.bl b, .bl b]]
  have lit : opSeq (encS st) (h2 ++ [.lst [.bl b, .bl b]]) = .ok (.lst (st.map stD)) (h2 ++ [.lst [.bl b, .bl b]]) := rfl
  simp only [s_seq, s_asg, s_ex, s_ite, s_fo, s_ret, e_tup, e_lst, e_lstO, e_cons, e_nil, e_cst, e_bi, e_bin, e_cmp, e_ix, e_iseq, e_callK, e_mt, e_and, e_one, e_var, getV_zero, getV_succ, isFn_ref, isFn_str, isFn_int, isFn_bl, isFn_tup, isFn_lst, nfH, nfD, nfS, Bool.false_eq_true, if_false, its_lst, permOf, List.append_nil, List.cons_append, List.nil_append, List.map_cons, List.map_nil, List.getD_cons_zero, List.getD_cons_succ, t_tup, t_cons, t_nil, t_var, List.set_cons_zero, List.set_cons_succ, el_ok, onB_bl, s_skip, o_nx, q_tuple, w_tup, ↓el_of (eb _), mo1, if_true, ↓el_of (ap1 _ _ _), ↓el_of (inn _), ↓el_of (ml _), ↓el_of (rp1 _ _ (shows_bl b)), ↓el_of (rp2 _ _ (shows_bl b)), ↓el_of (ne_str _ _), e_comp, ↓el_of lit]
  refine el_comp (G := Turn _) (fun h' => Gg w h0 h') (fun x y => ∃ c c' : Bool, x = stD c ∧ y = stD c' ∧ (c = true → c' = true)) _ _ g3 ?_ ?_
  · intro x hx h' g'
    obtain ⟨c, _, rfl⟩ := List.mem_map.mp hx
    obtain ⟨y, h'', e, hy, dr'⟩ := r_one_lst (k + 11) (g'.wl W) [stD c, .str "open"] (by simp) (by show 2 < 1073741824; decide) (by simp [stD])
    have hy' : ∃ c' : Bool, y = stD c' ∧ (c = true → c' = true) := by
      simp only [List.mem_cons, List.mem_nil_iff, or_false] at hy
      rcases hy with rfl | rfl
      · exact ⟨c, rfl, id⟩
      · exact ⟨true, rfl, fun _ => rfl⟩
    obtain ⟨c', rfl, hc⟩ := hy'
    refine ⟨_, h'', ?_, g'.dr W dr', c, c', rfl, rfl, hc⟩
    refine (el_id _).symm.trans ?_
    have nw : noNdf (some (.ref w)) = some (.ref w) := rfl
    have nfc : isFn (stD c) = false := rfl
    simp only [cf_el, stN_var, blkE, wipeD, List.map_cons, List.map_nil, List.set_cons_zero, List.set_cons_succ, isNil_nil, if_true, el_ok, onB_bl, e_lst, e_cons, e_callK, e_var, getV_zero, getV_succ, nw, nfc, isFn_ref, Bool.false_eq_true, if_false, e_cst, e_nil, its_lst, List.append_nil, permOf, List.getD_cons_zero, List.getD_cons_succ, ↓el_of e]
  · intro ys h' g' yl yq
    obtain ⟨bs, ebs, hbs⟩ := more_of st ys yl yq
    subst ebs
    have hbl : bs.length = st.length := by simpa using yl
    have sub : ∀ x y, adj (opens ds st) x y → adj (opens ds bs) x y := fun x y h => by
      obtain ⟨d, hd, hp⟩ := List.mem_flatMap.mp h
      exact List.mem_flatMap.mpr ⟨d, opens_mem.mpr (zip_more ds st bs hbl hbs (opens_mem.mp hd)), hp⟩
    obtain ⟨b', e', hb'⟩ := r_can_walk k H o bs (by rw [hbl, hst]) ds od room other hroom hother h'
    have hbb : b = true → b' = true := fun z => hb'.mpr ((hb.mp z).mono sub)
    have l1 : (bs.map stD).length ≤ lim := by
      rw [List.length_map, hbl, hst]
      exact Nat.le_trans o.few (by decide)
    have nfM : isFn (.tup (bs.map stD)) = false := rfl
    rw [if_pos l1]
    have e'' : evF pg (k + 13) f_can_walk [H.enc, .tup (bs.map stD), encDs ds, .str room, .str other] h' = .ok (.bl b') h' := e'
    cases b with
    | false =>
      simp only [Bool.false_eq_true, if_false]
      exact ⟨_, _, rfl, g', _, _, _, _, _, _, rfl⟩
    | true =>
      have : b' = true := hbb rfl
      subst this
      simp only [if_true, ↓el_of e'', c_isnt, decide_true, Bool.not_true, el_ok, onB_bl, Bool.false_eq_true, if_false]
      exact ⟨_, _, rfl, g', _, _, _, _, _, _, rfl⟩
end VE
set_option Elab.async false
set_option linter.all false
set_option maxRecDepth 100000
set_option maxHeartbeats 4000000
set_option autoImplicit false
/-! Lw: the law, whole -/
namespace VE
open PySem
theorem r_right (k : Nat) {w : Nat} {h0 : HS} (W : Wl w h0) : Has (evF pg (k + 14) f__law_right [.ref w] h0) fun d h' => d = .bl true ∧ Gg w h0 h' := by
  have r6 : ∀ h, opRng [.int 6] h = .ok (.lst (rngD 0 6)) h := fun h => by
    have : okEnd 6 = true := by decide +kernel
    simp only [opRng, this, if_true]
  rw [u__law_right]
  simp only [b__law_right, s_seq, s_fo, e_irng, e_cons, e_cst, e_nil, its_lst, ↓el_of (r6 _)]
  refine el_fo (G := fun r => Has r _) (fun _ ρ h' => Gg w h0 h' ∧ ∃ r1 r2 r3 r4 r5 r6 r7 r8 r9 r10 r11 r12 : Option D, ρ = [some (.ref w), r1, r2, r3, r4, r5, r6, r7, r8, r9, r10, r11, r12]) ⟨⟨h0, [], W.refl, by simp⟩, _, _, _, _, _, _, _, _, _, _, _, _, rfl⟩ ?_ ?_
  · rintro j x ρ h hx ⟨g, r1, r2, r3, r4, r5, r6, r7, r8, r9, r10, r11, r12, rfl⟩
    unfold turnO
    simp only [t_var, List.set_cons_zero, List.set_cons_succ, s_seq, s_asg, e_callK, e_cons, e_cst, e_nil, e_var, getV_zero, isFn_ref, Bool.false_eq_true, if_false, its_lst, permOf, List.append_nil, List.map_cons, List.map_nil, List.getD_cons_zero, List.getD_cons_succ]
    refine Has.elim (G := Turn _) (r_house (k + 9) (g.wl W) 4 (by decide) (by decide)) ?_
    rintro _ h1 ⟨H, rfl, o, _, dr1⟩
    have g1 := g.dr W dr1
    have nfH : isFn H.enc = false := rfl
    simp only [t_var, List.set_cons_zero, List.set_cons_succ, e_tup, e_callK, e_cons, e_cst, e_nil, e_var, getV_zero, getV_succ, isFn_ref, nfH, Bool.false_eq_true, if_false, its_lst, permOf, List.append_nil, List.map_cons, List.map_nil, List.getD_cons_zero, List.getD_cons_succ]
    refine Has.elim (G := Turn _) (r_doors (k + 11) (g1.wl W) H o) ?_
    rintro _ h2 ⟨ds, rfl, od, dr2⟩
    have g2 := g1.dr W dr2
    have nfD : isFn (encDs ds) = false := rfl
    have hl : ds.length ≤ 6 := by rw [od.len]; exact o.few
    have ll : ∀ h, opBi .len [H.ls] h = .ok (.int H.leaves.length) h := fun h => by
      show R.ok (D.int ((H.leaves.map Leaf.enc).length : Nat)) h = _
      rw [List.length_map]
    have rp2 : ∀ h, opBi .repr [.lst [.tup (roomsD ds), .tup (roomsD ds)]] h = .ok (.str (D.py (.lst [.tup (roomsD ds), .tup (roomsD ds)])).shown) h := fun h =>
      r_repr (.lst [.tup (roomsD ds), .tup (roomsD ds)]) _ h rfl (shows_rooms _ dups_nodup fun x hx => ends_r4 od (List.mem_eraseDups.mp hx))
    have nfst : isFn (.lst ((stands H.leaves.length).map encS)) = false := rfl
    simp only [s_seq, s_asg, s_ex, s_ite, s_fo, s_ret, e_tup, e_lst, e_lstO, e_cons, e_nil, e_cst, e_bi, e_bin, e_cmp, e_ix, e_iseq, e_callK, e_mt, e_and, e_one, e_var, getV_zero, getV_succ, isFn_ref, isFn_str, isFn_int, isFn_bl, isFn_tup, isFn_lst, nfH, nfD, Bool.false_eq_true, if_false, its_lst, permOf, List.append_nil, List.cons_append, List.nil_append, List.map_cons, List.map_nil, List.getD_cons_zero, List.getD_cons_succ, t_tup, t_cons, t_nil, t_var, List.set_cons_zero, List.set_cons_succ, el_ok, onB_bl, s_skip, o_nx, q_tuple, w_tup, ↓el_of (house_i0 H _), ↓el_of (ll _), ↓el_of (r_stands (k + 12) H.leaves.length o.few _), ↓el_of (r_law_rooms (k + 12) ds hl _), ↓el_of (r_rooms_of (k + 3) H o ds od _), ↓el_of (rp2 _), ↓el_of (ne_str _ _)]
    refine Has.elim (G := Turn _) (r_one_lst (k + 11) (g2.wl W) ((stands H.leaves.length).map encS) ?ne ?len ?nrf) ?_
    case ne =>
      intro z
      have := congrArg List.length z
      rw [List.length_map, stands_len] at this
      have h2 : 0 < 2 ^ H.leaves.length := Nat.pow_pos (by decide)
      simp at this
    case len =>
      rw [List.length_map, stands_len]
      have : 2 ^ H.leaves.length ≤ 2 ^ 6 := Nat.pow_le_pow_right (by decide) o.few
      omega
    case nrf =>
      intro x hx
      obtain ⟨s, _, rfl⟩ := List.mem_map.mp hx
      unfold encS
      rw [noref_tup]
      exact norefs_map _ _ fun b => by simp [stD]
    rintro _ h3 ⟨hd, dr3⟩
    obtain ⟨st, hst, rfl⟩ := List.mem_map.mp hd
    have hsl := stands_each _ st hst
    have g3 := g2.dr W dr3
    have nfS : isFn (encS st) = false := rfl
    try simp only [t_var, List.set_cons_zero, List.set_cons_succ, s_fo, e_iseq, e_var, getV_zero, getV_succ, isFn_tup, Bool.false_eq_true, if_false, w_tup, el_ok, its_lst]
    refine el_fo (G := Turn _) (fun _ ρ h' => Gg w h0 h' ∧ ∃ r7 r8 r9 r10 r11 r12 : Option D, ρ = [some (.ref w), some x, some H.enc, some (encDs ds), some (.lst ((stands H.leaves.length).map encS)), some (.tup (roomsD ds)), some (encS st), r7, r8, r9, r10, r11, r12]) ⟨g3, _, _, _, _, _, _, rfl⟩ ?_ ?_
    · rintro i y ρ h' hy ⟨g', r7, r8, r9, r10, r11, r12, rfl⟩
      obtain ⟨room, rfl, hroom⟩ := roomsD_str (List.mem_of_getElem? hy)
      exact r_room k W H o ds od st hsl _ nfst room hroom (some x) r8 r9 r10 r11 r12 r7 h' g' _ rfl
    · rintro ρ h' ⟨g', r7, r8, r9, r10, r11, r12, rfl⟩
      try simp only [s_skip, o_nx]
      exact ⟨_, _, rfl, g', _, _, _, _, _, _, _, _, _, _, _, _, rfl⟩
  · rintro ρ h ⟨g, r1, r2, r3, r4, r5, r6, r7, r8, r9, r10, r11, r12, rfl⟩
    simp only [s_seq, s_ret, e_cst]
    exact g.cut _ _ (by simp)
theorem all_true : ∀ (ys : List D), (∀ y ∈ ys, y = .bl true) → allB ys = some true
  | [], _ => rfl
  | y :: ys, h => by
    rw [h y List.mem_cons_self]
    show (allB ys).map (true && ·) = _
    rw [all_true ys fun z hz => h z (List.mem_cons_of_mem _ hz)]
    rfl
/-- the law answers yes -/
theorem law_yes (ns : List Int) (hl : ns.length ≤ 63) : ∃ h', evF pg 20 0 [.scr (ns.map .int)] [] = .ok (.bl true) h' := by
  have nf : isFn (scrD ns) = false := rfl
  obtain ⟨n, hn, tn⟩ := r_turns 18 ns []
  have key : Has (evF pg 20 f_law [scrD ns] []) fun d _ => d = .bl true := by
    rw [u_law]
    simp only [b_law, s_seq, s_ret, e_bi, e_cons, e_nil, its_lst, e_comp, e_iseq, e_callK, e_var, getV_zero, nf, Bool.false_eq_true, if_false, permOf, List.append_nil, List.map_cons, List.map_nil, List.getD_cons_zero, ↓el_of tn, w_lst, el_ok]
    refine el_comp (G := fun r => Has r _) (fun _ => True) (fun _ y => y = .bl true) _ _ trivial ?_ ?_
    · intro x hx h _
      obtain ⟨j, hj, rfl⟩ : ∃ j : Nat, j ≤ 10 ∧ x = .int j := by
        obtain ⟨i, hi, e⟩ := List.mem_map.mp hx
        have := List.mem_range.mp hi
        exact ⟨i, by omega, by rw [← e]; simp⟩
      obtain ⟨a, b, ha, ew⟩ := r_well 18 ns (by omega) j hj h
      have W : Wl h.length (h ++ [.lst [.int a, .int b, .int 0]]) := ⟨a, b, 0, ha, at_end _ _⟩
      obtain ⟨_, h', er, rfl, _⟩ := r_right 5 W
      refine ⟨_, h', ?_, trivial, rfl⟩
      refine (el_id _).symm.trans ?_
      have ns' : noNdf (some (scrD ns)) = some (scrD ns) := rfl
      simp only [cf_el, stN_var, blkE, wipeD, List.map_cons, List.map_nil, List.set_cons_zero, List.set_cons_succ, isNil_nil, if_true, el_ok, onB_bl, e_callK, e_cons, e_nil, its_lst, e_var, getV_zero, getV_succ, ns', nf, isFn_int, Bool.false_eq_true, if_false, permOf, List.append_nil, List.getD_cons_zero, List.getD_cons_succ, ↓el_of ew, ↓el_of er]
    · intro ys h' _ yl yq
      rw [rng_len] at yl
      have hy : ∀ y ∈ ys, y = .bl true := fun y hy => by
        obtain ⟨x, hx, _⟩ := zip_ys (xs := rngD 0 (n : Int)) (by rw [yl, rng_len]) hy
        exact yq _ hx
      have al : opBi .all [.lst ys] h' = .ok (.bl true) h' := q_all _ _ (all_true ys hy)
      have l : ys.length ≤ lim := by rw [yl]; exact Nat.le_trans hn (by decide)
      rw [if_pos l, el_of al]
      unfold cutL
      have ca : cutAt [] h' ([] : HS).length (.bl true) = .ok (.bl true) (h'.take 0) := cutAt_ok (Nat.zero_le _) (fun i o hi => absurd hi (Nat.not_lt_zero _)) (blw_of _ _ (by simp))
      rw [cutR_data _ _ _ _ (by simp), ca]
      exact Has.ok rfl
  obtain ⟨_, h', e, rfl⟩ := key
  exact ⟨h', e⟩
end VE
set_option Elab.async false
set_option linter.all false
set_option maxRecDepth 100000
set_option maxHeartbeats 0
open PySem PySem.W PySem.Calls PyProof.Rows
theorem PySem.Challenge.cw_leafswings_k79_whole_rooms_holds : PySem.Challenge.rw_leafswings_k79_whole_rooms.Holds := by
  w_on; o_law
  refine HandSHeadRun.head_imp (r := OpenLaw.row PySem.Challenge.rw_leafswings_k79_whole_rooms) (q := VE.vwT) (H := VE.hkT) (ob := VE.obT) (M := 20000) (loose := VE.looseT) (d := HandSHeadRun.topDef (OpenLaw.row PySem.Challenge.rw_leafswings_k79_whole_rooms).prog 80) (kwd := []) VE.obT_eq VE.runT
    (by kernel_rfl) (by kernel_rfl) (by kernel_rfl) (by rfl) (by first | assumption | decide +kernel) (by decide +kernel) ⟨rfl, rfl, rfl, rfl, rfl, by decide +kernel⟩ ?hw ?hc
  case hw => w_witness2
  case hc =>
    refine VE.walk_E (l := PySem.Challenge.rw_leafswings_k79_whole_rooms) (n := 63) (k := 20) (x := "script") rfl (by decide) (by kernel_rfl) ⟨rfl, by decide, by decide⟩ ?F
    intro w mg fa h Y G hmg0
    obtain ⟨K, KX, c⟩ := Y
    have hmg : mg ("law" : PySem.Str) = some (.ref fa) := by
      have e : (HandSHeadRun.topDef (OpenLaw.row PySem.Challenge.rw_leafswings_k79_whole_rooms).prog 80).name = ("law" : PySem.Str) := by kernel_rfl
      rw [← e]
      exact hmg0
    exact ⟨K, KX, VE.lawE_of VE.pgOk (by decide +kernel) rfl (fun ns hl _ => VE.law_yes ns hl) KX G hmg c⟩
