import PyProof.Rows.All
import Wide.All
import OpenK.AllK
import Wide.FinOn
import HandS.ForMost
import HandS.ForExc
import HandS.Evl
import HandS.TupAny
import HandS.TupMul
import HandS.IsInst
import KE.DataEq
import HandS.Lambda
import HandS.ExcCtx
import HandS.ExcIs
import HandS.HotCalls
import HandS.HeadHook1
import HandS.Zip
import KE.GoesMore
import KE.KNestM
import HandS.Defaults
import HandS.Head0
import HandS.Head1
import HandS.Head2
import HandS.HeadHook2
import HandS.HeadHook3
import HandS.HeadHook4
import HandS.EndTab
import HandS.HeadWalk
import HandS.Set
import HandS.SetFor
import HandS.Style
import HandS.TryOnly
import PyProof.ZipIter
import PyProof.EnumIter
import HandS.TupSets
import HandS.SortOrd
import KE.KSortTupAny
import PySem.Challenge.RW_heapintake_k36_whole_what_waits
set_option Elab.async false
set_option linter.all false
set_option maxRecDepth 100000
set_option maxHeartbeats 4000000
namespace DL
open PySem PySem.Spec PyProof.Rows L2

/-! ### how heaps grow -/
abbrev Wx := Evl.Ex
/-- the tables of code objects that this proof knows -/
class TabsC where
  T : List (Addr × Str)
variable [TabsC]
/-- all but tables stays; the tables that are known stay known -/
structure Ex (H H' : Hp) : Prop where
  nt : ∀ b o, H b = some o → (∀ ps, o ≠ .tbl ps) → H' b = some o
  tb : LamX.Tabs TabsC.T H → LamX.Tabs TabsC.T H'
theorem Ex.refl (H : Hp) : Ex H H := ⟨fun _ _ h _ => h, fun h => h⟩
theorem Ex.trans {H H1 H2 : Hp} (a : Ex H H1) (b : Ex H1 H2) : Ex H H2 := ⟨fun x o h n => b.nt x o (a.nt x o h n) n, fun h => b.tb (a.tb h)⟩
theorem Ex.of {H H' : Hp} (e : Wx H H') : Ex H H' where
  nt := fun x o h _ => e x o h
  tb := fun h => h.ext e
theorem Ex.new {H : Hp} {p : Addr} {o : HO} (h : H p = none) : Ex H (upd H p o) := .of (Evl.Ex.new h)
theorem Ex.l {H H' : Hp} (e : Ex H H') {a : Addr} {xs : List V} (h : H a = some (.lst xs)) : H' a = some (.lst xs) := e.nt a _ h (fun ps z => nomatch z)
theorem Ex.d {H H' : Hp} (e : Ex H H') {a : Addr} {xs : List (Key × V)} (h : H a = some (.dK xs)) : H' a = some (.dK xs) := e.nt a _ h (fun ps z => nomatch z)
/-! ### the domain -/
abbrev D := PyData
inductive Out (α : Type) where
  | stuck | err (c : Nat) | ok (a : α)
def Out.bind {α β : Type} : Out α → (α → Out β) → Out β
  | .stuck, _ => .stuck
  | .err c, _ => .err c
  | .ok a, f => f a
@[simp] theorem bind_ok {α β : Type} (a : α) (f : α → Out β) : (Out.ok a).bind f = f a := rfl
@[simp] theorem bind_err {α β : Type} (c : Nat) (f : α → Out β) : (Out.err c : Out α).bind f = .err c := rfl
@[simp] theorem bind_stuck {α β : Type} (f : α → Out β) : (Out.stuck : Out α).bind f = .stuck := rfl
def lift {α : Type} : Option α → Out α
  | some a => .ok a
  | none => .stuck
@[simp] theorem lift_some {α : Type} (a : α) : lift (some a) = .ok a := rfl
@[simp] theorem lift_none {α : Type} : lift (none : Option α) = .stuck := rfl
abbrev Env := List (Option D)
abbrev GE := Env → Out D
abbrev GT := Env → Out Bool
abbrev GA := Env → Out (List D)
inductive Fl where
  | nx (ρ : Env) | rt (d : D) | bk (ρ : Env) | ct (ρ : Env)
abbrev GS := Env → Out Fl

def isCon : D → Bool
  | .list _ => true
  | .dict _ => true
  | _ => false

/-! ### what a value is, in a heap -/
def kD : Key → D
  | .inl i => .int i
  | .inr x => .str x
theorem kD_inj {a b : Key} (h : kD a = kD b) : a = b := by
  cases a <;> cases b <;> simp [kD] at h <;> simp [h]
/-- a tuple of pairs of keys whose one object is known -/
def PTu (K : PySem.W.Frag) (H : Hp) (ps : List (D × D)) (v : V) : Prop := ∃ (a : Addr) (o : Obj) (L : List (Addr × Key × Key)), v = .ref a ∧ H a = some (.frz o (.tup (L.map fun p => V.ref p.1))) ∧ o.cls = .type "tuple" ∧ o.dict = none ∧
  (∀ p ∈ L, SqT K H p.1 [L2.kV p.2.1, L2.kV p.2.2]) ∧ ps = [(.bool true, .tuple (L.map fun p => .tuple [kD p.2.1, kD p.2.2]))]
theorem PTu.mono {K : PySem.W.Frag} {H H' : Hp} {ps : List (D × D)} {v : V} (e : Wx H H') (h : PTu K H ps v) : PTu K H' ps v := by
  obtain ⟨a, o, L, h1, h2, h3, h4, h5, h6⟩ := h
  exact ⟨a, o, L, h1, e _ _ h2, h3, h4, fun p hp => Evl.ex_t e (h5 p hp), h6⟩
/-- what is held by its address alone: an exception; a lambda, its code object beside it; or such a tuple -/
def Opq (K : PySem.W.Frag) (H : Hp) (ps : List (D × D)) (v : V) : Prop := (∃ a : Addr, v = .ref a ∧ ps = [(.bool true, .int (a : Nat))]) ∨ (∃ (f c : Addr) (q : Str), v = .ref f ∧ H c = some (LamX.CodeO c q) ∧ ps = [(.bool false, .tuple [.int (f : Nat), .int (c : Nat), .str q])]) ∨ PTu K H ps v
theorem Opq.mono {K : PySem.W.Frag} {H H' : Hp} {ps : List (D × D)} {v : V} (e : Wx H H') (h : Opq K H ps v) : Opq K H' ps v := by
  rcases h with h | ⟨f, c, q, h1, h2, h3⟩ | h
  · exact .inl h
  · exact .inr (.inl ⟨f, c, q, h1, e _ _ h2, h3⟩)
  · exact .inr (.inr (h.mono e))
theorem Opq.one {K : PySem.W.Frag} {H : Hp} {ps : List (D × D)} {v : V} (h : Opq K H ps v) : ∃ b d, ps = [(.bool b, d)] := by
  rcases h with ⟨a, _, h⟩ | ⟨f, c, q, _, _, h⟩ | ⟨a, o, L, _, _, _, _, _, h⟩
  · exact ⟨_, _, h⟩
  · exact ⟨_, _, h⟩
  · exact ⟨_, _, h⟩
mutual
def Mn (K : PySem.W.Frag) (H : Hp) : D → V → Prop
  | .none, v => v = .non
  | .bool b, v => v = .bl b
  | .int i, v => v = .int i
  | .str x, v => v = .str x
  | .list ds, v => ∃ a xs, v = .ref a ∧ H a = some (.lst xs) ∧ MnA K H ds xs
  | .tuple ds, v => ∃ a xs, v = .ref a ∧ SqT K H a xs ∧ MnA K H ds xs
  | .dict ps, v => (∃ a kvs, v = .ref a ∧ H a = some (.dK kvs) ∧ MnK K H ps kvs) ∨ (∃ (a : Addr) (ns : List Int), v = .ref a ∧ (SqL K H a (ns.map V.int) ∧ ps = [(.none, .list (ns.map .int))])) ∨ Opq K H ps v
def MnA (K : PySem.W.Frag) (H : Hp) : List D → List V → Prop
  | [], vs => vs = []
  | d :: ds, vs => ∃ v r, vs = v :: r ∧ Mn K H d v ∧ MnA K H ds r
def MnK (K : PySem.W.Frag) (H : Hp) : List (D × D) → List (Key × V) → Prop
  | [], kvs => kvs = []
  | (k, d) :: ps, kvs => ∃ q v r, kvs = (q, v) :: r ∧ k = kD q ∧ Mn K H d v ∧ MnK K H ps r
end
section
variable {K : PySem.W.Frag} {H H' : Hp}
mutual
theorem Mn.mono (e : Wx H H') : ∀ (d : D) (v : V), Mn K H d v → Mn K H' d v
  | .none, _, h => by simpa only [Mn] using h
  | .bool _, _, h => by simpa only [Mn] using h
  | .int _, _, h => by simpa only [Mn] using h
  | .str _, _, h => by simpa only [Mn] using h
  | .list ds, v, h => by
    simp only [Mn] at h ⊢
    obtain ⟨a, xs, h1, h2, h3⟩ := h
    exact ⟨a, xs, h1, e a _ h2, MnA.mono e ds xs h3⟩
  | .tuple ds, v, h => by
    simp only [Mn] at h ⊢
    obtain ⟨a, xs, h1, h2, h3⟩ := h
    exact ⟨a, xs, h1, Evl.ex_t e h2, MnA.mono e ds xs h3⟩
  | .dict ps, v, h => by
    simp only [Mn] at h ⊢
    rcases h with ⟨a, kvs, h1, h2, h3⟩ | ⟨a, ns, h1, h2, h3⟩ | h
    · exact .inl ⟨a, kvs, h1, e a _ h2, MnK.mono e ps kvs h3⟩
    · exact .inr (.inl ⟨a, ns, h1, Evl.ex_l e h2, h3⟩)
    · exact .inr (.inr (h.mono e))
theorem MnA.mono (e : Wx H H') : ∀ (ds : List D) (vs : List V), MnA K H ds vs → MnA K H' ds vs
  | [], _, h => by simpa only [MnA] using h
  | d :: ds, vs, h => by
    simp only [MnA] at h ⊢
    obtain ⟨v, r, h1, h2, h3⟩ := h
    exact ⟨v, r, h1, Mn.mono e d v h2, MnA.mono e ds r h3⟩
theorem MnK.mono (e : Wx H H') : ∀ (ps : List (D × D)) (kvs : List (Key × V)), MnK K H ps kvs → MnK K H' ps kvs
  | [], _, h => by simpa only [MnK] using h
  | (k, d) :: ps, kvs, h => by
    simp only [MnK] at h ⊢
    obtain ⟨q, v, r, h1, h2, h3, h4⟩ := h
    exact ⟨q, v, r, h1, h2, Mn.mono e d v h3, MnK.mono e ps r h4⟩
end
theorem MnA.length : ∀ {ds : List D} {vs : List V}, MnA K H ds vs → vs.length = ds.length
  | [], vs, h => by
    simp only [MnA] at h
    subst h
    rfl
  | d :: ds, vs, h => by
    simp only [MnA] at h
    obtain ⟨v, r, rfl, _, h3⟩ := h
    simp [MnA.length h3]
theorem MnA.get : ∀ {ds : List D} {vs : List V} {i : Nat} {d : D}, MnA K H ds vs → ds[i]? = some d → ∃ v, vs[i]? = some v ∧ Mn K H d v
  | [], _, _, _, _, e => by simp at e
  | x :: ds, vs, 0, d, h, e => by
    simp only [MnA] at h
    obtain ⟨v, r, rfl, h2, _⟩ := h
    have : x = d := by simpa using e
    subst this
    exact ⟨v, rfl, h2⟩
  | x :: ds, vs, i + 1, d, h, e => by
    simp only [MnA] at h
    obtain ⟨v, r, rfl, _, h3⟩ := h
    have q := MnA.get (i := i) (d := d) h3 (by simpa using e)
    simpa using q
theorem MnA.append : ∀ {ds es : List D} {vs us : List V}, MnA K H ds vs → MnA K H es us → MnA K H (ds ++ es) (vs ++ us)
  | [], _, _, _, h, g => by
    simp only [MnA] at h
    subst h
    exact g
  | d :: ds, es, vs, us, h, g => by
    simp only [MnA] at h
    obtain ⟨v, r, rfl, h2, h3⟩ := h
    simp only [List.cons_append, MnA]
    exact ⟨v, r ++ us, rfl, h2, MnA.append h3 g⟩
theorem MnA.take : ∀ {ds : List D} {vs : List V} (n : Nat), MnA K H ds vs → MnA K H (ds.take n) (vs.take n)
  | _, _, 0, _ => by simp [MnA]
  | [], vs, n + 1, h => by
    simp only [MnA] at h
    subst h
    simp [MnA]
  | d :: ds, vs, n + 1, h => by
    simp only [MnA] at h
    obtain ⟨v, r, rfl, h2, h3⟩ := h
    simp only [List.take_succ_cons, MnA]
    exact ⟨v, _, rfl, h2, MnA.take n h3⟩
theorem MnA.drop : ∀ {ds : List D} {vs : List V} (n : Nat), MnA K H ds vs → MnA K H (ds.drop n) (vs.drop n)
  | _, _, 0, h => by simpa using h
  | [], vs, n + 1, h => by
    simp only [MnA] at h
    subst h
    simp [MnA]
  | d :: ds, vs, n + 1, h => by
    simp only [MnA] at h
    obtain ⟨v, r, rfl, h2, h3⟩ := h
    simp only [List.drop_succ_cons]
    exact MnA.drop n h3
theorem MnA.set : ∀ {ds : List D} {vs : List V} (n : Nat) {d : D} {v : V}, MnA K H ds vs → Mn K H d v → MnA K H (ds.set n d) (vs.set n v)
  | [], vs, n, _, _, h, _ => by
    simp only [MnA] at h
    subst h
    simp [MnA]
  | e :: ds, vs, 0, d, v, h, g => by
    simp only [MnA] at h
    obtain ⟨w, r, rfl, h2, h3⟩ := h
    simp only [List.set_cons_zero, MnA]
    exact ⟨v, r, rfl, g, h3⟩
  | e :: ds, vs, n + 1, d, v, h, g => by
    simp only [MnA] at h
    obtain ⟨w, r, rfl, h2, h3⟩ := h
    simp only [List.set_cons_succ, MnA]
    exact ⟨w, _, rfl, h2, MnA.set n h3 g⟩
theorem MnA.reverse : ∀ {ds : List D} {vs : List V}, MnA K H ds vs → MnA K H ds.reverse vs.reverse
  | [], vs, h => by
    simp only [MnA] at h
    subst h
    simp [MnA]
  | d :: ds, vs, h => by
    simp only [MnA] at h
    obtain ⟨v, r, rfl, h2, h3⟩ := h
    simp only [List.reverse_cons]
    refine (MnA.reverse h3).append ?_
    simp only [MnA]
    exact ⟨v, [], rfl, h2, rfl⟩
theorem MnA.ints : ∀ {ns : List Int} {vs : List V}, MnA K H (ns.map .int) vs → vs = ns.map V.int
  | [], vs, h => by simpa only [List.map_nil, MnA] using h
  | n :: ns, vs, h => by
    simp only [List.map_cons, MnA, Mn] at h
    obtain ⟨v, r, rfl, rfl, h3⟩ := h
    rw [MnA.ints h3, List.map_cons]
theorem MnA.strs : ∀ {ns : List Str} {vs : List V}, MnA K H (ns.map .str) vs → vs = ns.map V.str
  | [], vs, h => by simpa only [List.map_nil, MnA] using h
  | n :: ns, vs, h => by
    simp only [List.map_cons, MnA, Mn] at h
    obtain ⟨v, r, rfl, rfl, h3⟩ := h
    rw [MnA.strs h3, List.map_cons]
theorem MnA.of_strs : ∀ {ns : List Str}, MnA K H (ns.map .str) (ns.map V.str)
  | [] => by simp [MnA]
  | n :: ns => by
    simp only [List.map_cons, MnA, Mn]
    exact ⟨_, _, rfl, rfl, MnA.of_strs⟩
theorem MnA.of_ints : ∀ {ns : List Int}, MnA K H (ns.map .int) (ns.map V.int)
  | [] => by simp [MnA]
  | n :: ns => by
    simp only [List.map_cons, MnA, Mn]
    exact ⟨_, _, rfl, rfl, MnA.of_ints⟩
theorem MnA.bools : ∀ {ns : List Bool} {vs : List V}, MnA K H (ns.map .bool) vs → vs = ns.map V.bl
  | [], vs, h => by simpa only [List.map_nil, MnA] using h
  | n :: ns, vs, h => by
    simp only [List.map_cons, MnA, Mn] at h
    obtain ⟨v, r, rfl, rfl, h3⟩ := h
    rw [MnA.bools h3, List.map_cons]
end

/-! ### what is hidden -/
def noT : Option HO → Option HO
  | some (.tbl _) => none
  | o => o
theorem noT_some {o : Option HO} {u : HO} (h : noT o = some u) : o = some u ∧ ∀ ps, u ≠ .tbl ps := by
  unfold noT at h
  split at h
  · cases h
  · rename_i n
    exact ⟨h, fun ps z => n ps (by rw [h, z])⟩
theorem noT_of {u : HO} (h : ∀ ps, u ≠ .tbl ps) : noT (some u) = some u := by
  unfold noT
  split
  · rename_i ps z
    cases z
    exact (h ps rfl).elim
  · rfl
theorem new_of {o : Option HO} (h : o = none) : noT o = none := by
  rw [h]
  rfl
theorem noT_ne {o : Option HO} (h : noT o ≠ none) : ∃ u, o = some u ∧ ∀ ps, u ≠ .tbl ps := by
  cases q : noT o with
  | none => exact (h q).elim
  | some u => exact ⟨u, noT_some q⟩
theorem noT_no {o : Option HO} {u : HO} (h : noT o = none) (e : o = some u) : ∃ ps, u = .tbl ps := by
  subst e
  unfold noT at h
  split at h
  · rename_i ps z
    cases z
    exact ⟨ps, rfl⟩
  · cases h
/-- .. none but a table stands there -/
theorem fresh_back {H H' : Hp} {p : Addr} (e : Ex H H') (h : noT (H' p) = none) : noT (H p) = none := Classical.byContradiction fun z => by
  obtain ⟨u, h1, h2⟩ := noT_ne z
  rw [e.nt p u h1 h2] at h
  obtain ⟨ps, h3⟩ := noT_no h rfl
  exact h2 ps h3
def hide (hid : List Addr) (H : Hp) : Hp := fun a => if a ∈ hid then none else noT (H a)
theorem hide_out {hid : List Addr} {H : Hp} {a : Addr} {o : HO} (h : hide hid H a = some o) : a ∉ hid ∧ H a = some o ∧ ∀ ps, o ≠ .tbl ps := by
  unfold hide at h
  split at h
  · cases h
  · rename_i n
    exact ⟨n, noT_some h⟩
theorem hide_at {hid : List Addr} {H : Hp} {a : Addr} {o : HO} (n : a ∉ hid) (h : H a = some o) (t : ∀ ps, o ≠ .tbl ps) : hide hid H a = some o := by
  unfold hide
  rw [if_neg n, h]
  exact noT_of t
theorem hide_ex {hid : List Addr} {H : Hp} : Wx (hide hid H) H := fun a o h => (hide_out h).2.1
theorem hide_mono {hid : List Addr} {H H' : Hp} (e : Ex H H') : Wx (hide hid H) (hide hid H') := fun a o h => by
  obtain ⟨n, h1, t⟩ := hide_out h
  exact hide_at n (e.nt a o h1 t) t
theorem hide_sub {hid hid' : List Addr} {H : Hp} (s : ∀ a ∈ hid, a ∈ hid') : Wx (hide hid' H) (hide hid H) := fun a o h => by
  obtain ⟨n, h1, t⟩ := hide_out h
  exact hide_at (fun z => n (s a z)) h1 t
theorem hide_upd {hid : List Addr} {H : Hp} {a : Addr} {o : HO} (h : a ∈ hid) : hide hid (upd H a o) = hide hid H := by
  funext b
  unfold hide
  split
  · rfl
  · rename_i hn
    rw [upd_ne (fun z => hn (by rw [z]; exact h))]

structure Sx where
  hid : List Addr
  own : Nat → Option Addr
  σ : L2.St
  H : Hp

/-- a container that its slot owns -/
def OwnAt (K : PySem.W.Frag) (hid : List Addr) (H : Hp) (a : Addr) : D → Prop
  | .list ds => ∃ xs, H a = some (.lst xs) ∧ MnA K (hide (a :: hid) H) ds xs
  | .dict ps => ∃ kvs, H a = some (.dK kvs) ∧ MnK K (hide (a :: hid) H) ps kvs
  | _ => False
theorem hide_up {hid : List Addr} {a : Addr} {H : Hp} : Wx (hide (a :: hid) H) (hide hid H) := hide_sub fun _ h => List.mem_cons_of_mem _ h
theorem hide_new {hid : List Addr} {H H' : Hp} {p : Addr} (hp : noT (H p) = none) (e : Ex H H') : Wx (hide hid H) (hide (p :: hid) H') := fun b o' hb => by
  obtain ⟨hn, h1, t⟩ := hide_out hb
  have hbp : b ≠ p := fun z => by
    rw [z] at h1
    obtain ⟨ps, h3⟩ := noT_no hp h1
    exact t ps h3
  exact hide_at (by simp only [List.mem_cons, not_or]; exact ⟨hbp, hn⟩) (e.nt _ _ h1 t) t
theorem hide_swap {hid : List Addr} {a b : Addr} {H : Hp} : Wx (hide (a :: b :: hid) H) (hide (b :: a :: hid) H) := hide_sub fun c h => by
  simp only [List.mem_cons] at h ⊢
  rcases h with h | h | h
  · exact .inr (.inl h)
  · exact .inl h
  · exact .inr (.inr h)
theorem OwnAt.mono {K : PySem.W.Frag} {hid : List Addr} {H H' : Hp} {a : Addr} (e : Ex H H') : ∀ {d : D}, OwnAt K hid H a d → OwnAt K hid H' a d
  | .list ds, ⟨xs, h1, h2⟩ => ⟨xs, e.l h1, MnA.mono (hide_mono e) ds xs h2⟩
  | .dict ps, ⟨kvs, h1, h2⟩ => ⟨kvs, e.d h1, MnK.mono (hide_mono e) ps kvs h2⟩
/-- .. when hidden or not, what it holds is what it is -/
theorem OwnAt.full {K : PySem.W.Frag} {hid : List Addr} {H : Hp} {a : Addr} : ∀ {d : D}, OwnAt K hid H a d → Mn K H d (.ref a)
  | .list ds, ⟨xs, h1, h2⟩ => by
    simp only [Mn]
    exact ⟨a, xs, rfl, h1, MnA.mono hide_ex ds xs h2⟩
  | .dict ps, ⟨kvs, h1, h2⟩ => by
    simp only [Mn]
    exact .inl ⟨a, kvs, rfl, h1, MnK.mono hide_ex ps kvs h2⟩
theorem OwnAt.froz {K : PySem.W.Frag} {hid : List Addr} {H : Hp} {a : Addr} (n : a ∉ hid) : ∀ {d : D}, OwnAt K hid H a d → Mn K (hide hid H) d (.ref a)
  | .list ds, ⟨xs, h1, h2⟩ => by
    simp only [Mn]
    exact ⟨a, xs, rfl, hide_at n h1 (fun ps z => nomatch z), MnA.mono hide_up ds xs h2⟩
  | .dict ps, ⟨kvs, h1, h2⟩ => by
    simp only [Mn]
    exact .inl ⟨a, kvs, rfl, hide_at n h1 (fun ps z => nomatch z), MnK.mono hide_up ps kvs h2⟩

/-- a list or a dict stands there -/
def IsC : Option HO → Prop
  | some (.lst _) => True
  | some (.dK _) => True
  | some (.ins _ _ _) => True
  | _ => False
theorem Ex.mut {H H' : Hp} {p : Addr} {o : HO} (e : Ex H H') (h : noT (H p) = none) (c : IsC (H' p)) : Ex H (upd H' p o) where
  nt := fun b u hb n => by
    rw [upd_ne (fun z => by
      rw [z] at hb
      obtain ⟨ps, h3⟩ := noT_no h hb
      exact n ps h3)]
    exact e.nt b u hb n
  tb := fun t q hq => by
    obtain ⟨ps, h1, h2, h3⟩ := e.tb t q hq
    refine ⟨ps, by rw [upd_ne (fun z => by rw [← z, h1] at c; exact c)]; exact h1, h2, fun pos cv hc => ?_⟩
    obtain ⟨c', e1, e2⟩ := h3 pos cv hc
    exact ⟨c', e1, by rw [upd_ne (fun z => by rw [← z, e2] at c; exact c)]; exact e2⟩
theorem IsC.some {o : Option HO} (h : IsC o) : ∃ u, o = some u ∧ ∀ ps, u ≠ .tbl ps := by
  cases o with
  | none => exact h.elim
  | some u => exact ⟨u, rfl, fun ps z => by subst z; exact h⟩
theorem IsC.ne {o : Option HO} (h : IsC o) : noT o ≠ none := fun z => by
  obtain ⟨u, rfl, n⟩ := h.some
  obtain ⟨ps, h3⟩ := noT_no z rfl
  exact n ps h3
mutual
/-- no list, no dict within -/
def imm : D → Bool
  | .none => true
  | .bool _ => true
  | .int _ => true
  | .str _ => true
  | .list _ => false
  | .tuple ds => immA ds
  | .dict _ => false
def immA : List D → Bool
  | [] => true
  | d :: ds => imm d && immA ds
end
theorem imm_con {d : D} (h : imm d = true) : isCon d = false := by
  cases d <;> simp_all [imm, isCon]
section
variable {K : PySem.W.Frag} {hid : List Addr} {H : Hp}
mutual
theorem Mn.imm (k : ∀ a ∈ hid, IsC (H a)) : ∀ (d : D) (v : V), DL.imm d = true → Mn K H d v → Mn K (hide hid H) d v
  | .none, _, _, h => by simpa only [Mn] using h
  | .bool _, _, _, h => by simpa only [Mn] using h
  | .int _, _, _, h => by simpa only [Mn] using h
  | .str _, _, _, h => by simpa only [Mn] using h
  | .list ds, v, p, h => by simp [DL.imm] at p
  | .tuple ds, v, p, h => by
    simp only [Mn] at h ⊢
    obtain ⟨a, xs, h1, h2, h3⟩ := h
    refine ⟨a, xs, h1, ?_, MnA.imm k ds xs (by simpa only [DL.imm] using p) h3⟩
    rcases h2 with (h2 | ⟨o, h2⟩) | h2
    · exact .inl (.inl (hide_at (fun z => by have := k a z; rw [h2] at this; exact this) h2 (fun ps z => nomatch z)))
    · exact .inl (.inr ⟨o, hide_at (fun z => by have := k a z; rw [h2] at this; exact this) h2 (fun ps z => nomatch z)⟩)
    · exact .inr h2
  | .dict ps, v, p, h => by simp [DL.imm] at p
theorem MnA.imm (k : ∀ a ∈ hid, IsC (H a)) : ∀ (ds : List D) (vs : List V), DL.immA ds = true → MnA K H ds vs → MnA K (hide hid H) ds vs
  | [], _, _, h => by simpa only [MnA] using h
  | d :: ds, vs, p, h => by
    simp only [MnA] at h ⊢
    obtain ⟨v, r, h1, h2, h3⟩ := h
    have p' : DL.imm d = true ∧ DL.immA ds = true := by simpa [DL.immA] using p
    exact ⟨v, r, h1, Mn.imm k d v p'.1 h2, MnA.imm k ds r p'.2 h3⟩
end
end

/-! ### the ledger: objects and dicts that names hold by their addresses -/
def iC (K : PySem.W.Frag) : Addr := He.ga K "Intake"
inductive Ent where
  | ob (a tl : Addr) (p : D) (ts : List Str) (r : Str)
  | di (a : Addr) (ps : List (D × D))
def Ent.d : Ent → D
  | .ob a _ p ts r => .tuple [.int (a : Nat), p, .list (ts.map .str), .str r]
  | .di a ps => .tuple [.bool true, .int (a : Nat), .dict ps]
def Ent.as : Ent → List Addr
  | .ob a tl _ _ _ => [a, tl]
  | .di a _ => [a]
def ledD (mu : Bool) (L : List Ent) : D := bif mu then .list (L.map Ent.d) else .tuple (L.map Ent.d)
def addrs (L : List Ent) : List Addr := L.flatMap Ent.as
def ObOk (K : PySem.W.Frag) (hid : List Addr) (H : Hp) : Ent → Prop
  | .ob a tl p ts r => ∃ dx pv, H a = some (.ins (iC K) dx [("plan", pv), ("texts", .ref tl), ("rest", .str r)]) ∧ H tl = some (.lst (ts.map .str)) ∧ Mn K (hide hid H) p pv
  | .di a ps => ∃ kvs, H a = some (.dK kvs) ∧ MnK K (hide hid H) ps kvs
theorem Ex.i {H H' : Hp} (e : Ex H H') {a C dx : Addr} {xs : List (Str × V)} (h : H a = some (.ins C dx xs)) : H' a = some (.ins C dx xs) := e.nt a _ h (fun ps z => nomatch z)
theorem ObOk.step {K : PySem.W.Frag} {hid hid' : List Addr} {H H' : Hp} : ∀ {e : Ent}, (∀ a ∈ e.as, H' a = H a) → Wx (hide hid H) (hide hid' H') → ObOk K hid H e → ObOk K hid' H' e
  | .ob a tl p ts r, h, x, ⟨dx, pv, h1, h2, h3⟩ => ⟨dx, pv, by rw [h a (by simp [Ent.as])]; exact h1, by rw [h tl (by simp [Ent.as])]; exact h2, Mn.mono x p pv h3⟩
  | .di a ps, h, x, ⟨kvs, h1, h2⟩ => ⟨kvs, by rw [h a (by simp [Ent.as])]; exact h1, MnK.mono x ps kvs h2⟩
theorem ObOk.isC {K : PySem.W.Frag} {hid : List Addr} {H : Hp} : ∀ {e : Ent}, ObOk K hid H e → ∀ a ∈ e.as, IsC (H a)
  | .ob a tl p ts r, ⟨dx, pv, h1, h2, h3⟩, b, hb => by
    simp only [Ent.as, List.mem_cons, List.not_mem_nil, or_false] at hb
    rcases hb with rfl | rfl
    · rw [h1]; trivial
    · rw [h2]; trivial
  | .di a ps, ⟨kvs, h1, h2⟩, b, hb => by
    simp only [Ent.as, List.mem_cons, List.not_mem_nil, or_false] at hb
    subst hb
    rw [h1]
    trivial
structure LedIn (K : PySem.W.Frag) (hid : List Addr) (H : Hp) (L : List Ent) : Prop where
  ok : ∀ e ∈ L, ObOk K hid H e
  nd : (addrs L).Nodup
  hd : ∀ a ∈ addrs L, a ∈ hid
theorem LedIn.isC {K : PySem.W.Frag} {hid : List Addr} {H : Hp} {L : List Ent} (h : LedIn K hid H L) : ∀ a ∈ addrs L, IsC (H a) := fun a ha => by
  obtain ⟨e, he, ha⟩ := List.mem_flatMap.mp ha
  exact (h.ok e he).isC a ha
/-- the ledger of a def -/
def LedOk (K : PySem.W.Frag) (H0 : Hp) (hid : List Addr) (own : Nat → Option Addr) (H : Hp) (d : D) : Prop :=
  ∃ mu L, d = ledD mu L ∧ LedIn K hid H L ∧ (∀ a ∈ addrs L, ∀ i, own i ≠ some a) ∧ (mu = true → ∀ a ∈ addrs L, noT (H0 a) = none)
theorem isC_ex {H H' : Hp} {a : Addr} (e : Ex H H') (h : IsC (H a)) : H' a = H a := by
  obtain ⟨u, h1, h2⟩ := h.some
  rw [h1]
  exact e.nt a u h1 h2
theorem LedIn.step {K : PySem.W.Frag} {hid hid' : List Addr} {H H' : Hp} {L : List Ent} (h : LedIn K hid H L) (c : ∀ a ∈ addrs L, H' a = H a) (x : Wx (hide hid H) (hide hid' H')) (s : ∀ a ∈ addrs L, a ∈ hid') : LedIn K hid' H' L :=
  ⟨fun e he => (h.ok e he).step (fun a ha => c a (List.mem_flatMap.mpr ⟨e, he, ha⟩)) x, h.nd, s⟩
theorem LedIn.ext {K : PySem.W.Frag} {hid : List Addr} {H H' : Hp} {L : List Ent} (h : LedIn K hid H L) (e : Ex H H') : LedIn K hid H' L :=
  h.step (fun a ha => isC_ex e (h.isC a ha)) (hide_mono e) h.hd

structure Sees (K : PySem.W.Frag) (H0 : Hp) (hid0 : List Addr) (O : Nat → Option Bool) (s : Sx) (ρ : Env) : Prop where
  len : s.σ.length = ρ.length
  ex0 : Ex H0 s.H
  sub : ∀ a ∈ hid0, a ∈ s.hid
  knd : ∀ a ∈ s.hid, IsC (s.H a)
  dom0 : ∀ a ∈ hid0, noT (H0 a) ≠ none
  tb0 : LamX.Tabs TabsC.T H0
  fz : ∀ (i : Nat) (d : D), O i = some false → ρ[i]? = some (some d) → ∃ v, s.σ[i]? = some (some v) ∧ Mn K (hide s.hid s.H) d v
  ow : ∀ (i : Nat) (d : D), O i = some true → ρ[i]? = some (some d) → ∃ a, s.σ[i]? = some (some (.ref a)) ∧ s.own i = some a ∧ OwnAt K s.hid s.H a d
  oh : ∀ (i : Nat) (a : Addr), s.own i = some a → a ∈ s.hid ∧ noT (H0 a) = none
  inj : ∀ (i j : Nat) (a : Addr), s.own i = some a → s.own j = some a → i = j
  led : ∀ (i : Nat) (d : D), O i = none → ρ[i]? = some (some d) → LedOk K H0 s.hid s.own s.H d

section
variable {K : PySem.W.Frag} {H0 : Hp} {hid0 : List Addr} {O : Nat → Option Bool} {s : Sx} {ρ : Env} {H' : Hp}
theorem dom_ex {hid : List Addr} {H H' : Hp} (e : Ex H H') (h : ∀ a ∈ hid, noT (H a) ≠ none) : ∀ a ∈ hid, noT (H' a) ≠ none := fun a ha z => by
  obtain ⟨u, h1, h2⟩ := noT_ne (h a ha)
  rw [e.nt a u h1 h2] at z
  obtain ⟨ps, h3⟩ := noT_no z rfl
  exact h2 ps h3
theorem Sees.dom (S : Sees K H0 hid0 O s ρ) : ∀ a ∈ s.hid, noT (s.H a) ≠ none := fun a h => (S.knd a h).ne
theorem knd_ex {hid : List Addr} {H H' : Hp} (e : Ex H H') (h : ∀ a ∈ hid, IsC (H a)) : ∀ a ∈ hid, IsC (H' a) := fun a ha => by
  have k := h a ha
  cases q : H a with
  | none => rw [q] at k; exact k.elim
  | some o =>
    rw [q] at k
    rw [e.nt a o q (fun ps z => by rw [z] at k; exact k)]
    exact k
theorem Sees.ext (S : Sees K H0 hid0 O s ρ) (e : Ex s.H H') : Sees K H0 hid0 O { s with H := H' } ρ where
  len := S.len
  ex0 := S.ex0.trans e
  sub := S.sub
  knd := knd_ex e S.knd
  dom0 := S.dom0
  tb0 := S.tb0
  fz := fun i d h1 h2 => by
    obtain ⟨v, a, b⟩ := S.fz i d h1 h2
    exact ⟨v, a, Mn.mono (hide_mono e) d v b⟩
  ow := fun i d h1 h2 => by
    obtain ⟨a, e1, e2, e3⟩ := S.ow i d h1 h2
    exact ⟨a, e1, e2, e3.mono e⟩
  oh := S.oh
  inj := S.inj
  led := fun i d h1 h2 => by
    obtain ⟨mu, L, e1, e2, e3, e4⟩ := S.led i d h1 h2
    exact ⟨mu, L, e1, e2.ext e, e3, e4⟩
/-- an address that is hidden more -/
theorem Sees.hides (S : Sees K H0 hid0 O s ρ) {p : Addr} {o : HO} (hp : s.H p = none) (ho : IsC (some o)) : Sees K H0 hid0 O { s with hid := p :: s.hid, H := upd s.H p o } ρ where
  len := S.len
  ex0 := S.ex0.trans (Ex.new hp)
  sub := fun a h => List.mem_cons_of_mem _ (S.sub a h)
  knd := fun a h => by
    show IsC (upd s.H p o a)
    by_cases q : a = p
    · rw [q, upd_same]; exact ho
    · rw [upd_ne q]
      rcases List.mem_cons.mp h with h | h
      · exact (q h).elim
      · exact S.knd a h
  dom0 := S.dom0
  tb0 := S.tb0
  fz := fun i d h1 h2 => by
    obtain ⟨v, a, b⟩ := S.fz i d h1 h2
    exact ⟨v, a, Mn.mono (hide_new (new_of hp) (Ex.new hp)) d v b⟩
  ow := fun i d h1 h2 => by
    obtain ⟨a, e1, e2, e3⟩ := S.ow i d h1 h2
    refine ⟨a, e1, e2, ?_⟩
    have ex : Wx (hide (a :: s.hid) s.H) (hide (a :: p :: s.hid) (upd s.H p o)) := by
      have hs : (p ∈ a :: s.hid) → (upd s.H p o) p = some o := fun _ => upd_same
      exact (hide_new (hid := a :: s.hid) (new_of hp) (Ex.new hp)).trans hide_swap
    show OwnAt K (p :: s.hid) (upd s.H p o) a d
    cases d with
    | list ds =>
      obtain ⟨xs, q1, q2⟩ := e3
      exact ⟨xs, (Ex.new hp).l q1, MnA.mono ex ds xs q2⟩
    | dict ps =>
      obtain ⟨xs, q1, q2⟩ := e3
      exact ⟨xs, (Ex.new hp).d q1, MnK.mono ex ps xs q2⟩
    | none => exact e3.elim
    | bool _ => exact e3.elim
    | int _ => exact e3.elim
    | str _ => exact e3.elim
    | tuple _ => exact e3.elim
  oh := fun i a h => ⟨List.mem_cons_of_mem _ (S.oh i a h).1, (S.oh i a h).2⟩
  inj := S.inj
  led := fun i d h1 h2 => by
    obtain ⟨mu, L, e1, e2, e3, e4⟩ := S.led i d h1 h2
    exact ⟨mu, L, e1, e2.step (fun a ha => isC_ex (Ex.new hp) (e2.isC a ha)) (hide_new (new_of hp) (Ex.new hp)) (fun a ha => List.mem_cons_of_mem _ (e2.hd a ha)), e3, e4⟩
end

/-! ### how a result is held -/
inductive Md where
  | fz | bo | au
deriving DecidableEq
def Rm (K : PySem.W.Frag) (m : Md) (hid : List Addr) (H H' : Hp) (d : D) (v : V) : Prop :=
  match m with
  | .fz => Mn K (hide hid H') d v
  | .bo => Mn K (hide hid H') d v ∨ ∃ a, v = .ref a ∧ OwnAt K hid H' a d
  | .au => if isCon d then ∃ a, v = .ref a ∧ noT (H a) = none ∧ OwnAt K hid H' a d else Mn K (hide hid H') d v
section
variable {K : PySem.W.Frag} {hid : List Addr} {H H1 H' : Hp} {d : D} {v : V}
theorem rm_fz (dom : ∀ a ∈ hid, noT (H a) ≠ none) (h : Rm K .au hid H H' d v) : Rm K .fz hid H H' d v := by
  unfold Rm at h ⊢
  dsimp only at h ⊢
  split at h
  · obtain ⟨a, rfl, h1, h2⟩ := h
    exact h2.froz fun z => dom a z h1
  · exact h
theorem rm_bo (h : Rm K .fz hid H H' d v) : Rm K .bo hid H H' d v := .inl h
theorem bo_ext (e : Ex H1 H') (h : Rm K .bo hid H H1 d v) : Rm K .bo hid H H' d v := by
  rcases h with h | ⟨a, h1, h2⟩
  · exact .inl (Mn.mono (hide_mono e) d v h)
  · exact .inr ⟨a, h1, h2.mono e⟩
theorem fz_ext (e : Ex H1 H') (h : Rm K .fz hid H H1 d v) : Rm K .fz hid H H' d v := Mn.mono (hide_mono e) d v h
theorem bo_full (h : Rm K .bo hid H H' d v) : Mn K H' d v := by
  rcases h with h | ⟨a, rfl, h2⟩
  · exact Mn.mono hide_ex d v h
  · exact h2.full
theorem bo_full0 (h : Rm K .bo hid H H' d v) : Mn K (hide [] H') d v := by
  rcases h with h | ⟨a, rfl, h2⟩
  · exact Mn.mono (hide_sub (by simp)) d v h
  · cases d with
    | list ds =>
      obtain ⟨xs, q1, q2⟩ := h2
      simp only [Mn]
      exact ⟨a, xs, rfl, hide_at (by simp) q1 (fun ps z => nomatch z), MnA.mono (hide_sub (by simp)) ds xs q2⟩
    | dict ps =>
      obtain ⟨xs, q1, q2⟩ := h2
      simp only [Mn]
      exact .inl ⟨a, xs, rfl, hide_at (by simp) q1 (fun ps z => nomatch z), MnK.mono (hide_sub (by simp)) ps xs q2⟩
    | none => exact h2.elim
    | bool _ => exact h2.elim
    | int _ => exact h2.elim
    | str _ => exact h2.elim
    | tuple _ => exact h2.elim
/-- fresh with respect to an earlier heap -/
theorem rm_back {m : Md} (e : Ex H H1) (h : Rm K m hid H1 H' d v) : Rm K m hid H H' d v := by
  cases m with
  | fz => exact h
  | bo => exact h
  | au =>
    unfold Rm at h ⊢
    dsimp only at h ⊢
    split at h
    · rename_i hc
      rw [if_pos hc]
      obtain ⟨a, h1, h2, h3⟩ := h
      exact ⟨a, h1, fresh_back e h2, h3⟩
    · rename_i hc
      rw [if_neg hc]
      exact h
theorem rm_of {m : Md} (dom : ∀ a ∈ hid, noT (H a) ≠ none) (h : Rm K .au hid H H' d v) : Rm K m hid H H' d v := by
  cases m with
  | fz => exact rm_fz dom h
  | bo => exact rm_bo (rm_fz dom h)
  | au => exact h
/-- of no container -/
theorem rm_plain {m : Md} (hc : isCon d = false) (h : Mn K (hide hid H') d v) : Rm K m hid H H' d v := by
  cases m with
  | fz => exact h
  | bo => exact .inl h
  | au =>
    unfold Rm
    dsimp only
    rw [if_neg (by rw [hc]; decide)]
    exact h
end
end DL
set_option Elab.async false
set_option linter.all false
set_option maxRecDepth 100000
set_option maxHeartbeats 4000000
namespace DL
open PySem PySem.Spec PyProof.Rows L2
variable [TabsC]

/-! ### families of contexts -/
structure RoomW (k : Nat) (A : Around) : Prop where
  dp : A.depth + 3 * k + 5 < recursionLimit
  un : A.units + 16 * k + 200 < cLine
theorem RoomW.of {k : Nat} {A : Around} (r : Room k A) : RoomW k A := ⟨r.dp, r.un⟩
theorem RoomW.to {k j : Nat} {A : Around} (r : RoomW k A) (h : A.handled = none) (l : j ≤ k) : Room j A := (Room.mk h r.dp r.un : Room k A).mono l
theorem passN {X : Cx} : Passes (L2N.CX X.prog X.w) X E0 := fun _ _ _ _ _ _ _ h => by
  obtain ⟨_, _, _, _, _, _, _, _, _, _, _, _, h⟩ := h
  exact h.elim
structure Fam where
  ι : Type
  X : ι → Cx
  P : Program
  w : World
  K : PySem.W.Frag
  mg : Str → Option Value
  base : Heap
  N : List Str
  sn : List (Str × NameKind)
  E : XK
  cl : Nat → Value
  O : Nat → Option Bool
  lv : Nat
  hP : ∀ i, (X i).prog = P
  hw : ∀ i, (X i).w = w
  hK : ∀ i, (X i).K = K
  hmg : ∀ i, (X i).mg = mg
  hbase : ∀ i, (X i).base = base
  hN : ∀ i, (X i).N = N
  hsn : ∀ i, (X i).env.scope.names = sn
  hot : Bool
  calm : hot = false → ∀ i, (X i).calm = true
  nd : N.Nodup
  room : ∀ i, RoomW lv (X i).A
  hd : hot = false → ∀ i, (X i).A.handled = none
  own : ∀ i, PassesOwn (model (X i).prog (X i).w) (X i).A (X i).env (X i).xe
  pas : ∀ i, Passes (L2N.CX P w) (X i) E
  hki : ∀ i, (X i).env.scope.kind = .function
  sto : Str → Bool
  hsto : ∀ i x, sto x = true → Loc (X i).env.scope x ∧ ((X i).fn x = true ∨ (X i).env.scope.names.lookup x = some .local)

def SemE (F : Fam) (m : Md) (te : TE) (g : GE) : Prop :=
  ∀ (H0 : Hp) (hid0 : List Addr) (s : Sx) (ρ : Env), Sees F.K H0 hid0 F.O s ρ → ∀ Q : VK,
    (match g ρ with
      | .ok d => ∀ v H', Ex s.H H' → Rm F.K m s.hid s.H H' d v → Q v H'
      | .err c => ∀ H', Ex s.H H' → F.E (F.cl c) none H'
      | .stuck => False) → te s.σ s.H Q
def SemT (F : Fam) (tt : TT) (g : GT) : Prop :=
  ∀ (H0 : Hp) (hid0 : List Addr) (s : Sx) (ρ : Env), Sees F.K H0 hid0 F.O s ρ → ∀ Q : Bool → Hp → Prop,
    (match g ρ with
      | .ok b => ∀ H', Ex s.H H' → Q b H'
      | .err c => ∀ H', Ex s.H H' → F.E (F.cl c) none H'
      | .stuck => False) → tt s.σ s.H Q
/-- a list of arguments, each held as m -/
inductive RmA (K : PySem.W.Frag) (m : Md) (hid : List Addr) (H H' : Hp) : List D → List V → Prop
  | nil : RmA K m hid H H' [] []
  | cons {d : D} {v : V} {ds : List D} {vs : List V} : Rm K m hid H H' d v → RmA K m hid H H' ds vs → RmA K m hid H H' (d :: ds) (v :: vs)
def SemA (F : Fam) (m : Md) (ta : TA) (g : GA) : Prop :=
  ∀ (H0 : Hp) (hid0 : List Addr) (s : Sx) (ρ : Env), Sees F.K H0 hid0 F.O s ρ → ∀ Q : List V → Hp → Prop,
    (match g ρ with
      | .ok ds => ∀ vs H', Ex s.H H' → RmA F.K m s.hid s.H H' ds vs → Q vs H'
      | .err c => ∀ H', Ex s.H H' → F.E (F.cl c) none H'
      | .stuck => False) → ta s.σ s.H Q

def DE (F : Fam) (m : Md) (e : Expr) (g : GE) : Prop := ∃ te, (∀ i, PE (F.X i) e te) ∧ SemE F m te g
def DT (F : Fam) (e : Expr) (g : GT) : Prop := ∃ tt, (∀ i, PT (F.X i) e tt) ∧ SemT F tt g
def DA (F : Fam) (m : Md) (es : List Expr) (g : GA) : Prop := ∃ ta, (∀ i, PA (F.X i) es ta) ∧ SemA F m ta g

section
variable {F : Fam}
theorem semE_fz {te : TE} {g : GE} (h : SemE F .au te g) : SemE F .fz te g := fun H0 hid0 s ρ S Q q => h H0 hid0 s ρ S Q (by
  split at q
  · exact fun v H' e r => q v H' e (rm_fz S.dom r)
  · exact q
  · exact q)
theorem semE_bo {te : TE} {g : GE} (h : SemE F .fz te g) : SemE F .bo te g := fun H0 hid0 s ρ S Q q => h H0 hid0 s ρ S Q (by
  split at q
  · exact fun v H' e r => q v H' e (rm_bo r)
  · exact q
  · exact q)
theorem de_fz {e : Expr} {g : GE} (h : DE F .au e g) : DE F .fz e g := ⟨h.choose, h.choose_spec.1, semE_fz h.choose_spec.2⟩
theorem de_bo {e : Expr} {g : GE} (h : DE F .fz e g) : DE F .bo e g := ⟨h.choose, h.choose_spec.1, semE_bo h.choose_spec.2⟩
theorem de_ab {e : Expr} {g : GE} (h : DE F .au e g) : DE F .bo e g := de_bo (de_fz h)

/-! ### names and constants -/
def visB (sn : List (Str × NameKind)) (x : Str) : Bool :=
  match sn.lookup x with
  | some .local => true
  | some .cell => true
  | some .free => true
  | _ => false
theorem vis_of {X : Cx} {x : Str} (h : visB X.env.scope.names x = true) : Vis X.env.scope x := by
  unfold visB at h
  unfold Vis
  split at h <;> rename_i q <;> first | exact .inl q | exact .inr (.inl q) | exact .inr (.inr q) | cases h
def eVar (i : Nat) : GE := fun ρ => match ρ[i]? with
  | some (some d) => .ok d
  | _ => .stuck
def eC (d : D) : GE := fun _ => .ok d
theorem sem_var {i : Nat} (hO : F.O i = some false) : SemE F .fz (tVar i) (eVar i) := fun H0 hid0 s ρ S Q q => by
  unfold eVar at q
  split at q
  · rename_i z
    split at z
    · rename_i d h
      cases z
      obtain ⟨v, h1, h2⟩ := S.fz i _ hO h
      exact ⟨v, h1, q v s.H (Ex.refl _) h2⟩
    · cases z
  · rename_i z
    split at z <;> cases z
  · exact q.elim
theorem sem_own {i : Nat} (hO : F.O i = some true) : SemE F .bo (tVar i) (eVar i) := fun H0 hid0 s ρ S Q q => by
  unfold eVar at q
  split at q
  · rename_i z
    split at z
    · rename_i d h
      cases z
      obtain ⟨a, h1, h2, h3⟩ := S.ow i _ hO h
      exact ⟨_, h1, q _ s.H (Ex.refl _) (.inr ⟨a, rfl, h3⟩)⟩
    · cases z
  · rename_i z
    split at z <;> cases z
  · exact q.elim
theorem de_var (i : Nat) {x : Str} {pos : Pos} (hN : F.N[i]? = some x := by rfl) (hv : visB F.sn x = true := by rfl) (hO : F.O i = some false := by rfl)
    (hd : (x == ("__debug__" : Str)) = false := by decide) (hcd : (x == ("__classdict__" : Str)) = false := by decide) : DE F .fz (.Name x pos) (eVar i) :=
  ⟨tVar i, fun j => pe_var (by rw [F.hN]; exact hN) (vis_of (by rw [F.hsn]; exact hv)) hd hcd, sem_var hO⟩
theorem de_own (i : Nat) {x : Str} {pos : Pos} (hN : F.N[i]? = some x := by rfl) (hv : visB F.sn x = true := by rfl) (hO : F.O i = some true := by rfl)
    (hd : (x == ("__debug__" : Str)) = false := by decide) (hcd : (x == ("__classdict__" : Str)) = false := by decide) : DE F .bo (.Name x pos) (eVar i) :=
  ⟨tVar i, fun j => pe_var (by rw [F.hN]; exact hN) (vis_of (by rw [F.hsn]; exact hv)) hd hcd, sem_own hO⟩
/-- a constant value -/
theorem sem_c {m : Md} {d : D} {v : V} (hc : isCon d = false) (h : ∀ H, Mn F.K H d v) : SemE F m (tC v) (eC d) := fun H0 hid0 s ρ S Q q => q v s.H (Ex.refl _) (rm_plain hc (h _))
theorem de_int {m : Md} {i : Int} {j pos} : DE F m (.Constant (.int i) j pos) (eC (.int i)) := ⟨_, fun _ => pe_int, sem_c rfl fun _ => by simp [Mn]⟩
theorem de_bl {m : Md} {b : Bool} {j pos} : DE F m (.Constant (.bool b) j pos) (eC (.bool b)) := ⟨_, fun _ => pe_bl, sem_c rfl fun _ => by simp [Mn]⟩
theorem de_non {m : Md} {j pos} : DE F m (.Constant .none j pos) (eC .none) := ⟨_, fun _ => pe_non, sem_c rfl fun _ => by simp [Mn]⟩
theorem de_str {m : Md} {x : Str} {j pos} : DE F m (.Constant (.str x) j pos) (eC (.str x)) := ⟨_, fun _ => pe_str, sem_c rfl fun _ => by simp [Mn]⟩
/-- a global name of the def -/
theorem gl_of {x : Str} (h : F.sn.lookup x = some .globalImplicit) (i : F.ι) : Gl (F.X i) x := by
  show (F.X i).env.scope.names.lookup x = some .globalImplicit
  rw [F.hsn]
  exact h
/-- a module's constant -/
theorem de_glob {m : Md} {x : Str} {d : D} {v : V} {u : Value} {pos : Pos} (hm : F.mg x = some u) (r : RelV v u) (hc : isCon d = false) (h : ∀ H, Mn F.K H d v) (hg : F.sn.lookup x = some .globalImplicit := by rfl) (hd : (x == ("__debug__" : Str)) = false := by decide) : DE F m (.Name x pos) (eC d) :=
  ⟨_, fun i => pe_glob (gl_of hg i) (by rw [F.hmg]; exact hm) r hd, sem_c hc h⟩

/-! ### two operands, one operand, by values -/
def e2 (f : D → D → Option D) (a b : GE) : GE := fun ρ => (a ρ).bind fun x => (b ρ).bind fun y => lift (f x y)
def e1 (f : D → Option D) (a : GE) : GE := fun ρ => (a ρ).bind fun x => lift (f x)
/-- an operation on two values does what f tells, the result held as m -/
def OpS (K : PySem.W.Frag) (m : Md) (r : R2) (f : D → D → Option D) : Prop := ∀ (hid : List Addr) (H : Hp) (d e z : D) (x y : V) (Q : VK), (∀ a ∈ hid, noT (H a) ≠ none) → Rm K .bo hid H H d x → Rm K .bo hid H H e y → f d e = some z →
  (∀ v H', Ex H H' → Rm K m hid H H' z v → Q v H') → r x y H Q
def UnS (K : PySem.W.Frag) (m : Md) (r : V → Hp → VK → Prop) (f : D → Option D) : Prop := ∀ (hid : List Addr) (H : Hp) (d z : D) (x : V) (Q : VK), (∀ a ∈ hid, noT (H a) ≠ none) → Rm K .bo hid H H d x → f d = some z →
  (∀ v H', Ex H H' → Rm K m hid H H' z v → Q v H') → r x H Q
theorem bo_at {K : PySem.W.Frag} {hid : List Addr} {H H' : Hp} {d : D} {v : V} (h : Rm K .bo hid H H' d v) : Rm K .bo hid H' H' d v := h
theorem sem_op {m : Md} {r : R2} {f : D → D → Option D} {ta tb : TE} {ga gb : GE} (ha : SemE F .bo ta ga) (hb : SemE F .bo tb gb) (hr : OpS F.K m r f) : SemE F m (tOp r ta tb) (e2 f ga gb) := fun H0 hid0 s ρ S Q q => by
  refine ha H0 hid0 s ρ S _ ?_
  unfold e2 at q
  split
  · rename_i d hd
    intro v H1 e1 r1
    rw [hd, bind_ok] at q
    refine hb H0 hid0 { s with H := H1 } ρ (S.ext e1) _ ?_
    split
    · rename_i d2 hd2
      intro u H2 e2 r2
      rw [hd2, bind_ok] at q
      cases hf : f d d2 with
      | none => rw [hf] at q; exact q.elim
      | some z =>
        rw [hf] at q
        exact hr s.hid H2 d d2 z v u Q (dom_ex (e1.trans e2) S.dom) (bo_ext e2 r1) r2 hf fun v' H' e' r' => q v' H' ((e1.trans e2).trans e') (rm_back (e1.trans e2) r')
    · rename_i c hd2
      rw [hd2, bind_err] at q
      exact fun H2 e2 => q H2 (e1.trans e2)
    · rename_i hd2
      rw [hd2, bind_stuck] at q
      exact q
  · rename_i c hd
    rw [hd, bind_err] at q
    exact q
  · rename_i hd
    rw [hd, bind_stuck] at q
    exact q
theorem sem_un {m : Md} {r : V → Hp → VK → Prop} {f : D → Option D} {ta : TE} {ga : GE} (ha : SemE F .bo ta ga) (hr : UnS F.K m r f) : SemE F m (tUn r ta) (e1 f ga) := fun H0 hid0 s ρ S Q q => by
  refine ha H0 hid0 s ρ S _ ?_
  unfold e1 at q
  split
  · rename_i d hd
    intro v H1 e1 r1
    rw [hd, bind_ok] at q
    cases hf : f d with
    | none => rw [hf] at q; exact q.elim
    | some z =>
      rw [hf] at q
      exact hr s.hid H1 d z v Q (dom_ex e1 S.dom) r1 hf fun v' H' e' r' => q v' H' (e1.trans e') (rm_back e1 r')
  · rename_i c hd
    rw [hd, bind_err] at q
    exact q
  · rename_i hd
    rw [hd, bind_stuck] at q
    exact q
theorem OpS.or1 {K : PySem.W.Frag} {m : Md} {r r' : R2} {f f' : D → D → Option D} (h : OpS K m r f) (h' : OpS K m r' f') : OpS K m (fun x y H Q => r x y H Q ∨ r' x y H Q) fun x y => (f x y).or (f' x y) := fun hid H d e z x y Q dom rx ry hf q => by
  have hf : (f d e).or (f' d e) = some z := hf
  cases hq : f d e with
  | some z' =>
    rw [hq] at hf
    exact .inl (h hid H d e z x y Q dom rx ry (by rw [hq]; exact hf) q)
  | none =>
    rw [hq] at hf
    exact .inr (h' hid H d e z x y Q dom rx ry hf q)
theorem OpS.imp {K : PySem.W.Frag} {m : Md} {r : R2} {f f' : D → D → Option D} (h : OpS K m r f) (hf : ∀ d e z, f' d e = some z → f d e = some z) : OpS K m r f' := fun hid H d e z x y Q dom rx ry h1 q => h hid H d e z x y Q dom rx ry (hf d e z h1) q
theorem bo_int {K : PySem.W.Frag} {hid : List Addr} {H H' : Hp} {i : Int} {v : V} (h : Rm K .bo hid H H' (.int i) v) : v = .int i := by
  rcases h with h | ⟨a, _, h⟩
  · simpa only [Mn] using h
  · exact h.elim
theorem bo_str {K : PySem.W.Frag} {hid : List Addr} {H H' : Hp} {i : Str} {v : V} (h : Rm K .bo hid H H' (.str i) v) : v = .str i := by
  rcases h with h | ⟨a, _, h⟩
  · simpa only [Mn] using h
  · exact h.elim
theorem bo_bool {K : PySem.W.Frag} {hid : List Addr} {H H' : Hp} {i : Bool} {v : V} (h : Rm K .bo hid H H' (.bool i) v) : v = .bl i := by
  rcases h with h | ⟨a, _, h⟩
  · simpa only [Mn] using h
  · exact h.elim
theorem bo_none {K : PySem.W.Frag} {hid : List Addr} {H H' : Hp} {v : V} (h : Rm K .bo hid H H' .none v) : v = .non := by
  rcases h with h | ⟨a, _, h⟩
  · simpa only [Mn] using h
  · exact h.elim
theorem bo_tup {K : PySem.W.Frag} {hid : List Addr} {H H' : Hp} {ds : List D} {v : V} (h : Rm K .bo hid H H' (.tuple ds) v) : ∃ a xs, v = .ref a ∧ SqT K (hide hid H') a xs ∧ MnA K (hide hid H') ds xs := by
  rcases h with h | ⟨a, _, h⟩
  · simpa only [Mn] using h
  · exact h.elim
theorem bo_list {K : PySem.W.Frag} {hid : List Addr} {H H' : Hp} {ds : List D} {v : V} (h : Rm K .bo hid H H' (.list ds) v) : ∃ a xs, v = .ref a ∧ H' a = some (.lst xs) ∧ MnA K (hide hid H') ds xs := by
  rcases h with h | ⟨a, e, h⟩
  · simp only [Mn] at h
    obtain ⟨a, xs, h1, h2, h3⟩ := h
    exact ⟨a, xs, h1, hide_ex _ _ h2, h3⟩
  · obtain ⟨xs, h1, h2⟩ := h
    exact ⟨a, xs, e, h1, MnA.mono hide_up ds xs h2⟩
theorem bo_dict {K : PySem.W.Frag} {hid : List Addr} {H H' : Hp} {ps : List (D × D)} {v : V} (h : Rm K .bo hid H H' (.dict ps) v) : (∃ a kvs, v = .ref a ∧ H' a = some (.dK kvs) ∧ MnK K (hide hid H') ps kvs) ∨ (∃ (a : Addr) (ns : List Int), v = .ref a ∧ SqL K H' a (ns.map V.int) ∧ ps = [(.none, .list (ns.map .int))]) ∨ ∃ b d, ps = [(.bool b, d)] := by
  rcases h with h | ⟨a, e, h⟩
  · simp only [Mn] at h
    rcases h with ⟨a, xs, h1, h2, h3⟩ | ⟨a, ns, h1, h2, h3⟩ | h
    · exact .inl ⟨a, xs, h1, hide_ex _ _ h2, h3⟩
    · exact .inr (.inl ⟨a, ns, h1, Evl.ex_l hide_ex h2, h3⟩)
    · exact .inr (.inr h.one)
  · obtain ⟨xs, h1, h2⟩ := h
    exact .inl ⟨a, xs, e, h1, MnK.mono hide_up ps xs h2⟩
/-- a fresh list, tuple -/
theorem au_list {K : PySem.W.Frag} {hid : List Addr} {H : Hp} {p : Addr} {ds : List D} {xs : List V} (hp : H p = none) (h : MnA K (hide hid H) ds xs) : Rm K .au hid H (upd H p (.lst xs)) (.list ds) (.ref p) := by
  unfold Rm
  dsimp only
  refine (if_pos (show isCon (PyData.list ds) = true from rfl)).mpr ?_
  exact ⟨p, rfl, new_of hp, xs, upd_same, MnA.mono (hide_new (new_of hp) (Ex.new hp)) ds xs h⟩
theorem au_tup {K : PySem.W.Frag} {m : Md} {hid : List Addr} {H : Hp} {p : Addr} {ds : List D} {xs : List V} (dom : ∀ a ∈ hid, noT (H a) ≠ none) (hp : H p = none) (h : MnA K (hide hid H) ds xs) : Rm K m hid H (upd H p (.tup xs)) (.tuple ds) (.ref p) := by
  refine rm_plain rfl ?_
  simp only [Mn]
  refine ⟨p, xs, rfl, .inl (.inl ?_), MnA.mono (hide_mono (Ex.new hp)) ds xs h⟩
  exact hide_at (fun z => dom p z (new_of hp)) upd_same (fun ps z => nomatch z)
theorem small_line {n : Nat} (h : n ≤ 1000000) : n ≤ sizeLine := Nat.le_trans h (by decide)
theorem rm_int {K : PySem.W.Frag} {m : Md} {hid : List Addr} {H H' : Hp} {i : Int} : Rm K m hid H H' (.int i) (.int i) := rm_plain rfl (by simp [Mn])
theorem rm_str {K : PySem.W.Frag} {m : Md} {hid : List Addr} {H H' : Hp} {i : Str} : Rm K m hid H H' (.str i) (.str i) := rm_plain rfl (by simp [Mn])
theorem rm_bool {K : PySem.W.Frag} {m : Md} {hid : List Addr} {H H' : Hp} {i : Bool} : Rm K m hid H H' (.bool i) (.bl i) := rm_plain rfl (by simp [Mn])
theorem rm_none {K : PySem.W.Frag} {m : Md} {hid : List Addr} {H H' : Hp} : Rm K m hid H H' .none .non := rm_plain rfl (by simp [Mn])
end
end DL
set_option Elab.async false
set_option linter.all false
set_option maxRecDepth 100000
set_option maxHeartbeats 4000000
namespace DL
open PySem PySem.Spec PyProof.Rows L2
variable [TabsC]
section
variable {F : Fam} {K : PySem.W.Frag}

theorem de_any {m : Md} {e : Expr} {g : GE} (h : DE F m e g) : DE F .bo e g := by
  cases m with
  | fz => exact de_bo h
  | bo => exact h
  | au => exact de_ab h
theorem opR {f : Value → Value → Sem Value} {r : PySem.W.Frag → R2} (h : ∀ X : Cx, OpR X f (r X.K)) (i : F.ι) : OpR (F.X i) f (r F.K) := by
  have z := h (F.X i)
  rw [F.hK i] at z
  exact z
theorem de_op {m ma mb : Md} {op : Operator} {r : R2} {f : D → D → Option D} {a b : Expr} {ga gb : GE} {pos : Pos} (ho : ∀ i, OpR (F.X i) (binaryOp op) r) (hr : OpS F.K m r f) (ha : DE F ma a ga) (hb : DE F mb b gb) : DE F m (.BinOp a op b pos) (e2 f ga gb) := by
  obtain ⟨ta, pa, sa⟩ := de_any ha
  obtain ⟨tb, pb, sb⟩ := de_any hb
  exact ⟨tOp r ta tb, fun i => pe_op (ho i) (pa i) (pb i), sem_op sa sb hr⟩
/-- a comparison: as a value, as a test -/
def DC (F : Fam) (m : Md) (e : Expr) (g : GE) : Prop := ∃ te, (∀ i, PE (F.X i) e te) ∧ (∀ i, PT (F.X i) e (tTest te)) ∧ SemE F m te g
theorem dc_e {m : Md} {e : Expr} {g : GE} (h : DC F m e g) : DE F m e g := ⟨h.choose, h.choose_spec.1, h.choose_spec.2.2⟩
theorem de_cmp {m ma mb : Md} {op : CmpOp} {r : R2} {f : D → D → Option D} {a b : Expr} {ga gb : GE} {pos : Pos} (ho : ∀ i, OpR (F.X i) (compareOp op) r) (hr : OpS F.K m r f) (hm : behindInMarks op b = false) (ha : DE F ma a ga) (hb : DE F mb b gb) : DC F m (.Compare a [op] [b] pos) (e2 f ga gb) := by
  obtain ⟨ta, pa, sa⟩ := de_any ha
  obtain ⟨tb, pb, sb⟩ := de_any hb
  exact ⟨tOp r ta tb, fun i => pe_cmpR (ho i) (pa i) (pb i) hm, fun i => pt_cmpR (ho i) (pa i) (pb i) hm, sem_op sa sb hr⟩

/-! ### ints -/
def dI (g : Int → Int → D) : D → D → Option D
  | .int i, .int j => some (g i j)
  | _, _ => none
def dIc (C : Int → Int → Bool) (g : Int → Int → D) : D → D → Option D
  | .int i, .int j => if C i j then some (g i j) else none
  | _, _ => none
theorem ops_rI0 {m : Md} {gv : Int → Int → V} {g : Int → Int → D} (h : ∀ hid H H' i j, Rm K m hid H H' (g i j) (gv i j)) : OpS K m (rI0 gv) (dI g) := fun hid H d e z x y Q dom rx ry hf q => by
  cases d <;> simp only [dI] at hf <;> try cases hf
  cases e <;> simp only [dI] at hf <;> try cases hf
  exact ⟨_, _, bo_int rx, bo_int ry, q _ _ (Ex.refl _) (h _ _ _ _ _)⟩
theorem ops_rI {m : Md} {C : Int → Int → Prop} {Cb : Int → Int → Bool} {gv : Int → Int → V} {g : Int → Int → D} (hC : ∀ i j, Cb i j = true → C i j) (h : ∀ hid H H' i j, Rm K m hid H H' (g i j) (gv i j)) : OpS K m (rI C gv) (dIc Cb g) := fun hid H d e z x y Q dom rx ry hf q => by
  cases d <;> simp only [dIc] at hf <;> try cases hf
  cases e <;> simp only [dIc] at hf <;> try cases hf
  split at hf
  · rename_i hc
    cases hf
    exact ⟨_, _, bo_int rx, bo_int ry, hC _ _ hc, q _ _ (Ex.refl _) (h _ _ _ _ _)⟩
  · cases hf

/-! ### + -/
def dAddS : D → D → Option D
  | .str x, .str y => if x.length + y.length ≤ 1000000 then some (.str (x ++ y)) else none
  | _, _ => none
def dAddT : D → D → Option D
  | .tuple xs, .tuple ys => if xs.length + ys.length ≤ 1000000 then some (.tuple (xs ++ ys)) else none
  | _, _ => none
def dAddL : D → D → Option D
  | .list xs, .list ys => if xs.length + ys.length ≤ 1000000 then some (.list (xs ++ ys)) else none
  | _, _ => none
theorem ops_addS {m : Md} : OpS K m (fun x y H Q => ∃ i j, x = .str i ∧ y = .str j ∧ i.length + j.length ≤ sizeLine ∧ Q (.str (i ++ j)) H) dAddS := fun hid H d e z x y Q dom rx ry hf q => by
  cases d <;> simp only [dAddS] at hf <;> try cases hf
  cases e <;> simp only [dAddS] at hf <;> try cases hf
  split at hf
  · rename_i hc
    cases hf
    exact ⟨_, _, bo_str rx, bo_str ry, small_line hc, q _ _ (Ex.refl _) rm_str⟩
  · cases hf
theorem ops_addT {m : Md} : OpS K m (rCatA K) dAddT := fun hid H d e z x y Q dom rx ry hf q => by
  cases d <;> simp only [dAddT] at hf <;> try cases hf
  cases e <;> simp only [dAddT] at hf <;> try cases hf
  split at hf
  · rename_i hc
    cases hf
    obtain ⟨a, xs, rfl, h1, h2⟩ := bo_tup rx
    obtain ⟨b, ys, rfl, h3, h4⟩ := bo_tup ry
    have ap := h2.append h4
    refine ⟨a, b, xs, ys, rfl, rfl, Evl.ex_t hide_ex h1, Evl.ex_t hide_ex h3, by rw [h2.length, h4.length]; exact small_line hc, fun e => ?_, fun e1 e2 => ?_, fun e1 e2 p hp => q _ _ (Ex.new hp) (au_tup dom hp ap)⟩
    · subst e
      refine q _ _ (Ex.refl _) (rm_plain rfl ?_)
      simp only [Mn]
      exact ⟨b, ys, rfl, h3, ap⟩
    · subst e2
      rw [List.append_nil] at ap
      refine q _ _ (Ex.refl _) (rm_plain rfl ?_)
      simp only [Mn]
      exact ⟨a, xs, rfl, h1, ap⟩
  · cases hf
theorem ops_addL : OpS K .au rCat dAddL := fun hid H d e z x y Q dom rx ry hf q => by
  cases d <;> simp only [dAddL] at hf <;> try cases hf
  cases e <;> simp only [dAddL] at hf <;> try cases hf
  split at hf
  · rename_i hc
    cases hf
    obtain ⟨a, xs, rfl, h1, h2⟩ := bo_list rx
    obtain ⟨b, ys, rfl, h3, h4⟩ := bo_list ry
    exact ⟨a, b, xs, ys, rfl, rfl, h1, h3, by rw [h2.length, h4.length]; exact small_line hc, fun p hp => q _ _ (Ex.new hp) (au_list hp (h2.append h4))⟩
  · cases hf
def dAdd : D → D → Option D := fun x y => (dI (fun i j => .int (i + j)) x y).or ((dAddS x y).or ((dAddL x y).or (dAddT x y)))
theorem de_add {ma mb : Md} {a b : Expr} {ga gb : GE} {pos : Pos} (ha : DE F ma a ga) (hb : DE F mb b gb) : DE F .au (.BinOp a .Add b pos) (e2 dAdd ga gb) :=
  de_op (r := fun x y H Q => (rI0 (fun i j => .int (i + j))) x y H Q ∨ ((fun x y H Q => ∃ i j, x = .str i ∧ y = .str j ∧ i.length + j.length ≤ sizeLine ∧ Q (.str (i ++ j)) H) x y H Q ∨ (rCat x y H Q ∨ rCatA F.K x y H Q)))
    (fun i => op_add.or (op_add_str.or (op_cat.or (opR (F := F) (r := rCatA) (fun X => op_catA) i)))) ((ops_rI0 fun _ _ _ _ _ => rm_int).or1 (ops_addS.or1 (ops_addL.or1 ops_addT))) ha hb
theorem de_sub {m ma mb : Md} {a b : Expr} {ga gb : GE} {pos : Pos} (ha : DE F ma a ga) (hb : DE F mb b gb) : DE F m (.BinOp a .Sub b pos) (e2 (dI fun i j => .int (i - j)) ga gb) := de_op (fun _ => op_sub) (ops_rI0 fun _ _ _ _ _ => rm_int) ha hb
def cMul (i j : Int) : Bool := (decide (-(2 ^ 64) < i) && decide (i < 2 ^ 64)) || (decide (-(2 ^ 64) < j) && decide (j < 2 ^ 64))
theorem cMul_ok (i j : Int) (h : cMul i j = true) : CMul i j := by
  unfold cMul at h
  simp only [Bool.or_eq_true, Bool.and_eq_true, decide_eq_true_eq] at h
  exact h
def cDiv (_ j : Int) : Bool := decide (0 < j) && decide (j < 1073741824)
theorem cDiv_ok (i j : Int) (h : cDiv i j = true) : CDiv i j := by
  unfold cDiv at h
  simp only [Bool.and_eq_true, decide_eq_true_eq] at h
  exact h
def cPos (_ j : Int) : Bool := decide (0 < j)
theorem cPos_ok (i j : Int) (h : cPos i j = true) : 0 < j := of_decide_eq_true h
theorem de_fdiv {m ma mb : Md} {a b : Expr} {ga gb : GE} {pos : Pos} (ha : DE F ma a ga) (hb : DE F mb b gb) : DE F m (.BinOp a .FloorDiv b pos) (e2 (dIc cDiv fun i j => .int (i / j)) ga gb) := de_op (fun _ => op_fdiv) (ops_rI cDiv_ok fun _ _ _ _ _ => rm_int) ha hb
theorem de_mod {m ma mb : Md} {a b : Expr} {ga gb : GE} {pos : Pos} (ha : DE F ma a ga) (hb : DE F mb b gb) : DE F m (.BinOp a .Mod b pos) (e2 (dIc cPos fun i j => .int (i % j)) ga gb) := de_op (fun _ => op_mod) (ops_rI cPos_ok fun _ _ _ _ _ => rm_int) ha hb
theorem un_negS {m : Md} : UnS K m (rU fun i => .int (-i)) (fun d => match d with | .int i => some (.int (-i)) | _ => none) := fun hid H d z x Q dom rx hf q => by
  cases d <;> simp only at hf <;> try cases hf
  exact ⟨_, bo_int rx, q _ _ (Ex.refl _) rm_int⟩
def dNeg : D → Option D := fun d => match d with | .int i => some (.int (-i)) | _ => none
theorem de_neg {m ma : Md} {a : Expr} {ga : GE} {pos : Pos} (ha : DE F ma a ga) : DE F m (.UnaryOp .USub a pos) (e1 dNeg ga) := by
  obtain ⟨ta, pa, sa⟩ := de_any ha
  exact ⟨_, fun i => pe_un un_neg (pa i), sem_un sa un_negS⟩

/-! ### comparisons -/
def dLtS (f : List Nat → List Nat → Bool) : D → D → Option D
  | .str x, .str y => some (.bool (f x.cps.toList y.cps.toList))
  | _, _ => none
theorem ops_cmpS {m : Md} {f : List Nat → List Nat → Bool} : OpS K m (fun x y H Q => ∃ i j : Str, x = .str i ∧ y = .str j ∧ Q (.bl (f i.cps.toList j.cps.toList)) H) (dLtS f) := fun hid H d e z x y Q dom rx ry hf q => by
  cases d <;> simp only [dLtS] at hf <;> try cases hf
  cases e <;> simp only [dLtS] at hf <;> try cases hf
  exact ⟨_, _, bo_str rx, bo_str ry, q _ _ (Ex.refl _) rm_bool⟩
def dLt : D → D → Option D := fun x y => (dI (fun i j => .bool (decide (i < j))) x y).or (dLtS (fun p q => decide (p < q)) x y)
def dLe : D → D → Option D := fun x y => (dI (fun i j => .bool (decide (i ≤ j))) x y).or (dLtS (fun p q => !decide (q < p)) x y)
def dGt : D → D → Option D := fun x y => (dI (fun i j => .bool (decide (j < i))) x y).or (dLtS (fun p q => decide (q < p)) x y)
def dGe : D → D → Option D := fun x y => (dI (fun i j => .bool (decide (j ≤ i))) x y).or (dLtS (fun p q => !decide (p < q)) x y)
abbrev rLtV : R2 := fun x y H Q => (rI0 fun i j => .bl (decide (i < j))) x y H Q ∨ (fun x y H Q => ∃ i j : Str, x = .str i ∧ y = .str j ∧ Q (.bl (decide (i.cps.toList < j.cps.toList))) H) x y H Q
abbrev rLeV : R2 := fun x y H Q => (rI0 fun i j => .bl (decide (i ≤ j))) x y H Q ∨ (fun x y H Q => ∃ i j : Str, x = .str i ∧ y = .str j ∧ Q (.bl (!decide (j.cps.toList < i.cps.toList))) H) x y H Q
abbrev rGtV : R2 := fun x y H Q => (rI0 fun i j => .bl (decide (j < i))) x y H Q ∨ (fun x y H Q => ∃ i j : Str, x = .str i ∧ y = .str j ∧ Q (.bl (decide (j.cps.toList < i.cps.toList))) H) x y H Q
abbrev rGeV : R2 := fun x y H Q => (rI0 fun i j => .bl (decide (j ≤ i))) x y H Q ∨ (fun x y H Q => ∃ i j : Str, x = .str i ∧ y = .str j ∧ Q (.bl (!decide (i.cps.toList < j.cps.toList))) H) x y H Q
/-- an order, its operator, its rule -/
structure Ord (F : Fam) (op : CmpOp) (r : R2) (f : D → D → Option D) : Prop where
  ho : ∀ i, OpR (F.X i) (compareOp op) r
  hr : ∀ m, OpS F.K m r f
  nm : ∀ b, behindInMarks op b = false
theorem o_lt : Ord F .Lt rLtV dLt := ⟨fun _ => op_lt.or op_lt_str, fun _ => (ops_rI0 fun _ _ _ _ _ => rm_bool).or1 (ops_cmpS (f := fun p q => decide (p < q))), fun b => nomark b⟩
theorem o_le : Ord F .LtE rLeV dLe := ⟨fun _ => op_le.or op_le_str, fun _ => (ops_rI0 fun _ _ _ _ _ => rm_bool).or1 (ops_cmpS (f := fun p q => !decide (q < p))), fun b => nomark b⟩
theorem o_gt : Ord F .Gt rGtV dGt := ⟨fun _ => op_gt.or op_gt_str, fun _ => (ops_rI0 fun _ _ _ _ _ => rm_bool).or1 (ops_cmpS (f := fun p q => decide (q < p))), fun b => nomark b⟩
theorem o_ge : Ord F .GtE rGeV dGe := ⟨fun _ => op_ge.or op_ge_str, fun _ => (ops_rI0 fun _ _ _ _ _ => rm_bool).or1 (ops_cmpS (f := fun p q => !decide (p < q))), fun b => nomark b⟩
theorem de_ord {m ma mb : Md} {op : CmpOp} {r : R2} {f : D → D → Option D} {a b : Expr} {ga gb : GE} {pos : Pos} (o : Ord F op r f) (ha : DE F ma a ga) (hb : DE F mb b gb) : DC F m (.Compare a [op] [b] pos) (e2 f ga gb) := de_cmp o.ho (o.hr m) (o.nm b) ha hb
/-- a < b < c -/
def eCh (f f' : D → D → Option D) (a b c : GE) : GE := fun ρ => (a ρ).bind fun x => (b ρ).bind fun y => (lift (f x y)).bind fun k => match k with
  | .bool true => (c ρ).bind fun z => lift (f' y z)
  | .bool false => .ok (.bool false)
  | _ => .stuck
theorem bo_nf {hid : List Addr} {H H' : Hp} {d : D} {v : V} (h : Rm K .fz hid H H' d v) : Mn K (hide hid H') d v := h
theorem sem_chain {m : Md} {r r' : R2} {f f' : D → D → Option D} {ta tb tc : TE} {ga gb gc : GE} (ha : SemE F .bo ta ga) (hb : SemE F .bo tb gb) (hc : SemE F .bo tc gc) (hr : OpS F.K .fz r f) (hr' : OpS F.K m r' f') : SemE F m (tChain r r' ta tb tc) (eCh f f' ga gb gc) := fun H0 hid0 s ρ S Q q => by
  refine ha H0 hid0 s ρ S _ ?_
  unfold eCh at q
  split
  · rename_i d hd
    intro v H1 e1 r1
    rw [hd, bind_ok] at q
    refine hb H0 hid0 { s with H := H1 } ρ (S.ext e1) _ ?_
    split
    · rename_i d2 hd2
      intro u H2 e2 r2
      rw [hd2, bind_ok] at q
      cases hf : f d d2 with
      | none => rw [hf] at q; exact q.elim
      | some z =>
        rw [hf, lift_some, bind_ok] at q
        refine hr s.hid H2 d d2 z v u _ (dom_ex (e1.trans e2) S.dom) (bo_ext e2 r1) r2 hf fun k H3 e3 r3 => ?_
        have r3 : Mn F.K (hide s.hid H3) z k := r3
        cases z with
        | bool t =>
          simp only [Mn] at r3
          subst r3
          refine ⟨t, rfl, ?_⟩
          cases t with
          | false => exact q _ _ ((e1.trans e2).trans e3) rm_bool
          | true =>
            show tc s.σ H3 fun w' H4 => r' u w' H4 Q
            refine hc H0 hid0 { s with H := H3 } ρ (S.ext ((e1.trans e2).trans e3)) _ ?_
            dsimp only at q
            split
            · rename_i d3 hd3
              intro w H4 e4 r4
              rw [hd3, bind_ok] at q
              cases hf' : f' d2 d3 with
              | none => rw [hf'] at q; exact q.elim
              | some z' =>
                rw [hf'] at q
                exact hr' s.hid H4 d2 d3 z' u w Q (dom_ex (((e1.trans e2).trans e3).trans e4) S.dom) (bo_ext (e3.trans e4) r2) r4 hf' fun v' H' e' r' => q v' H' ((((e1.trans e2).trans e3).trans e4).trans e') (rm_back (((e1.trans e2).trans e3).trans e4) r')
            · rename_i c hd3
              rw [hd3, bind_err] at q
              exact fun H4 e4 => q H4 (((e1.trans e2).trans e3).trans e4)
            · rename_i hd3
              rw [hd3, bind_stuck] at q
              exact q
        | none => exact q.elim
        | int _ => exact q.elim
        | str _ => exact q.elim
        | list _ => exact q.elim
        | tuple _ => exact q.elim
        | dict _ => exact q.elim
    · rename_i c hd2
      rw [hd2, bind_err] at q
      exact fun H2 e2 => q H2 (e1.trans e2)
    · rename_i hd2
      rw [hd2, bind_stuck] at q
      exact q
  · rename_i c hd
    rw [hd, bind_err] at q
    exact q
  · rename_i hd
    rw [hd, bind_stuck] at q
    exact q
theorem de_chain {m ma mb mc : Md} {op op' : CmpOp} {r r' : R2} {f f' : D → D → Option D} {a b c : Expr} {ga gb gc : GE} {pos : Pos} (o : Ord F op r f) (o' : Ord F op' r' f') (ha : DE F ma a ga) (hb : DE F mb b gb) (hc : DE F mc c gc) : DC F m (.Compare a [op, op'] [b, c] pos) (eCh f f' ga gb gc) := by
  obtain ⟨ta, pa, sa⟩ := de_any ha
  obtain ⟨tb, pb, sb⟩ := de_any hb
  obtain ⟨tc, pc, sc⟩ := de_any hc
  exact ⟨_, fun i => pe_chain (o.ho i) (o'.ho i) (pa i) (pb i) (pc i) (by unfold lastMarks; exact o'.nm c), fun i => pt_chain (o.ho i) (o'.ho i) (pa i) (pb i) (pc i) (by unfold lastMarks; exact o'.nm c), sem_chain sa sb sc (o.hr .fz) (o'.hr m)⟩

/-! ### == -/
mutual
theorem Mn.dp {H : Hp} : ∀ (d : D) (v : V), d.plain = true → Mn K H d v → Dp K H v d
  | .none, v, _, h => by simp only [Mn] at h; subst h; exact .non
  | .bool b, v, _, h => by simp only [Mn] at h; subst h; exact .bl b
  | .int i, v, _, h => by simp only [Mn] at h; subst h; exact .int i
  | .str x, v, _, h => by simp only [Mn] at h; subst h; exact .str x
  | .list ds, v, p, h => by
    simp only [Mn] at h
    obtain ⟨a, xs, rfl, h2, h3⟩ := h
    exact .lst (SqL.of h2) (MnA.dp ds xs (by simpa only [PyData.plain] using p) h3)
  | .tuple ds, v, p, h => by
    simp only [Mn] at h
    obtain ⟨a, xs, rfl, h2, h3⟩ := h
    exact .tup h2 (MnA.dp ds xs (by simpa only [PyData.plain] using p) h3)
  | .dict _, _, p, _ => by simp [PyData.plain] at p
theorem MnA.dp {H : Hp} : ∀ (ds : List D) (vs : List V), PyData.plainAll ds = true → MnA K H ds vs → DpAll K H vs ds
  | [], vs, _, h => by simp only [MnA] at h; subst h; exact .nil
  | d :: ds, vs, p, h => by
    simp only [MnA] at h
    obtain ⟨v, r, rfl, h2, h3⟩ := h
    have p' : d.plain = true ∧ PyData.plainAll ds = true := by simpa [PyData.plainAll] using p
    exact .cons (Mn.dp d v p'.1 h2) (MnA.dp ds r p'.2 h3)
end
def rEqP (K : PySem.W.Frag) (f : D → D → Bool) : R2 := fun x y H Q => ∃ d e, Dp K H x d ∧ Dp K H y e ∧ d.plain = true ∧ e.plain = true ∧ min d.depth e.depth ≤ 100 ∧ Q (.bl (f d e)) H
theorem op_eqP {X : Cx} (hu : X.A.units + 120 < cLine) : OpR X (compareOp .Eq) (rEqP X.K fun d e => PyData.eqv d e) := by
  intro pins s σ H x y v u Q I rx ry h
  obtain ⟨d, e, hd, he, sd, se, hm, q⟩ := h
  obtain ⟨as, r1⟩ := Dp.reads I d x v hd rx
  obtain ⟨bs, r2⟩ := Dp.reads I e y u he ry
  exact SeqAt.eq_plain r1 r2 sd se (by omega) ⟨.bl _, H, I, rfl, q⟩
theorem op_neP {X : Cx} (hu : X.A.units + 120 < cLine) : OpR X (compareOp .NotEq) (rEqP X.K fun d e => !PyData.eqv d e) := by
  intro pins s σ H x y v u Q I rx ry h
  obtain ⟨d, e, hd, he, sd, se, hm, q⟩ := h
  obtain ⟨as, r1⟩ := Dp.reads I d x v hd rx
  obtain ⟨bs, r2⟩ := Dp.reads I e y u he ry
  exact SeqAt.ne_plain r1 r2 sd se (by omega) ⟨.bl _, H, I, rfl, q⟩
def okEq (x y : D) : Bool := x.plain && y.plain && decide (min x.depth y.depth ≤ 100)
def dEq : D → D → Option D := fun x y => if okEq x y then some (.bool (PyData.eqv x y)) else none
def dNe : D → D → Option D := fun x y => if okEq x y then some (.bool (!PyData.eqv x y)) else none
theorem ops_eqP {m : Md} {f : D → D → Bool} : OpS K m (rEqP K f) (fun x y => if okEq x y then some (.bool (f x y)) else none) := fun hid H d e z x y Q dom rx ry hf q => by
  dsimp only at hf
  split at hf
  · rename_i hc
    cases hf
    unfold okEq at hc
    simp only [Bool.and_eq_true, decide_eq_true_eq] at hc
    exact ⟨d, e, Mn.dp d x hc.1.1 (bo_full rx), Mn.dp e y hc.1.2 (bo_full ry), hc.1.1, hc.1.2, hc.2, q _ _ (Ex.refl _) rm_bool⟩
  · cases hf
theorem units120 (i : F.ι) : (F.X i).A.units + 120 < cLine := by
  have := (F.room i).un
  omega
theorem de_eq {m ma mb : Md} {a b : Expr} {ga gb : GE} {pos : Pos} (ha : DE F ma a ga) (hb : DE F mb b gb) : DC F m (.Compare a [.Eq] [b] pos) (e2 dEq ga gb) :=
  de_cmp (r := rEqP F.K fun d e => PyData.eqv d e) (fun i => by have z := op_eqP (X := F.X i) (units120 i); rw [F.hK i] at z; exact z) ops_eqP (nomark b) ha hb
theorem de_ne {m ma mb : Md} {a b : Expr} {ga gb : GE} {pos : Pos} (ha : DE F ma a ga) (hb : DE F mb b gb) : DC F m (.Compare a [.NotEq] [b] pos) (e2 dNe ga gb) :=
  de_cmp (r := rEqP F.K fun d e => !PyData.eqv d e) (fun i => by have z := op_neP (X := F.X i) (units120 i); rw [F.hK i] at z; exact z) (ops_eqP (f := fun d e => !PyData.eqv d e)) (nomark b) ha hb
/-! ### is None -/
def dIsN (neg : Bool) : D → Option D := fun x => match x with
  | .none => some (.bool (!neg))
  | _ => some (.bool neg)
theorem none_iff {hid : List Addr} {H H' : Hp} {d : D} {v : V} (h : Rm K .bo hid H H' d v) : decide (v = V.non) = match d with | .none => true | _ => false := by
  have h := bo_full h
  cases d <;> simp only [Mn] at h <;> try (subst h; rfl)
  · obtain ⟨a, _, rfl, _⟩ := h; rfl
  · obtain ⟨a, _, rfl, _⟩ := h; rfl
  · rcases h with ⟨a, _, rfl, _⟩ | ⟨a, _, rfl, _⟩ | ⟨a, rfl, _⟩ | ⟨a, _, _, rfl, _⟩ | ⟨a, _, _, rfl, _⟩ <;> rfl
theorem sem_isN {m : Md} {ta : TE} {ga : GE} (ha : SemE F .bo ta ga) : SemE F m (tIsN ta) (e1 (dIsN false) ga) := fun H0 hid0 s ρ S Q q => by
  refine ha H0 hid0 s ρ S _ ?_
  unfold e1 at q
  split
  · rename_i d hd
    intro v H1 e1 r1
    rw [hd, bind_ok] at q
    show Q (.bl (decide (v = .non))) H1
    rw [none_iff r1]
    cases d <;> exact q _ _ e1 rm_bool
  · rename_i c hd
    rw [hd, bind_err] at q
    exact q
  · rename_i hd
    rw [hd, bind_stuck] at q
    exact q
theorem sem_notN {m : Md} {ta : TE} {ga : GE} (ha : SemE F .bo ta ga) : SemE F m (tNotN ta) (e1 (dIsN true) ga) := fun H0 hid0 s ρ S Q q => by
  refine ha H0 hid0 s ρ S _ ?_
  unfold e1 at q
  split
  · rename_i d hd
    intro v H1 e1 r1
    rw [hd, bind_ok] at q
    show Q (.bl (!decide (v = .non))) H1
    rw [none_iff r1]
    cases d <;> exact q _ _ e1 rm_bool
  · rename_i c hd
    rw [hd, bind_err] at q
    exact q
  · rename_i hd
    rw [hd, bind_stuck] at q
    exact q
theorem de_isN {m ma : Md} {a : Expr} {ga : GE} {j pos pos'} (ha : DE F ma a ga) : DC F m (.Compare a [.Is] [.Constant .none j pos'] pos) (e1 (dIsN false) ga) := by
  obtain ⟨ta, pa, sa⟩ := de_any ha
  exact ⟨_, fun i => pe_cmp (pc_isN (pa i)) rfl, fun i => pt_cmp (pc_isN (pa i)) rfl, sem_isN sa⟩
theorem de_notN {m ma : Md} {a : Expr} {ga : GE} {j pos pos'} (ha : DE F ma a ga) : DC F m (.Compare a [.IsNot] [.Constant .none j pos'] pos) (e1 (dIsN true) ga) := by
  obtain ⟨ta, pa, sa⟩ := de_any ha
  exact ⟨_, fun i => pe_cmp (pc_notN (pa i)) rfl, fun i => pt_cmp (pc_notN (pa i)) rfl, sem_notN sa⟩
end
end DL
set_option Elab.async false
set_option linter.all false
set_option maxRecDepth 100000
set_option maxHeartbeats 4000000
namespace DL
open PySem PySem.Spec PyProof.Rows L2
variable [TabsC]
section
variable {F : Fam} {K : PySem.W.Frag}
/-! ### tests -/
def tV (g : GE) : GT := fun ρ => (g ρ).bind fun d => match d with
  | .bool b => .ok b
  | _ => .stuck
theorem sem_tV {m : Md} {te : TE} {g : GE} (h : SemE F m te g) : SemT F (tTest te) (tV g) := fun H0 hid0 s ρ S Q q => by
  refine h H0 hid0 s ρ S _ ?_
  unfold tV at q
  split
  · rename_i d hd
    intro v H1 e1 r1
    rw [hd, bind_ok] at q
    cases d with
    | bool b =>
      have : v = .bl b := by
        cases m with
        | fz => exact bo_bool (rm_bo r1)
        | bo => exact bo_bool r1
        | au => exact bo_bool (rm_bo (rm_fz S.dom r1))
      exact ⟨b, this, q _ e1⟩
    | none => exact q.elim
    | int _ => exact q.elim
    | str _ => exact q.elim
    | list _ => exact q.elim
    | tuple _ => exact q.elim
    | dict _ => exact q.elim
  · rename_i c hd
    rw [hd, bind_err] at q
    exact q
  · rename_i hd
    rw [hd, bind_stuck] at q
    exact q
theorem dc_t {m : Md} {e : Expr} {g : GE} (h : DC F m e g) : DT F e (tV g) := ⟨_, h.choose_spec.2.1, sem_tV h.choose_spec.2.2⟩
theorem dt_val {m : Md} {e : Expr} {g : GE} (h : DE F m e g) (he : ∀ env whole, isTrue e env whole = (do let v ← whole; standAt e.pos; holding [v] (truthy v)) := by intro _ _; rfl) : DT F e (tV g) :=
  ⟨_, fun i => pt_val (h.choose_spec.1 i) (he _), sem_tV h.choose_spec.2⟩
def gNot (a : GT) : GT := fun ρ => (a ρ).bind fun x => .ok (!x)
def gAnd (a b : GT) : GT := fun ρ => (a ρ).bind fun x => if x then b ρ else .ok false
def gOr (a b : GT) : GT := fun ρ => (a ρ).bind fun x => if x then .ok true else b ρ
theorem sem_not {t : TT} {g : GT} (h : SemT F t g) : SemT F (tNot t) (gNot g) := fun H0 hid0 s ρ S Q q => by
  refine h H0 hid0 s ρ S _ ?_
  unfold gNot at q
  split
  · rename_i d hd
    rw [hd, bind_ok] at q
    exact fun H1 e1 => q H1 e1
  · rename_i c hd
    rw [hd, bind_err] at q
    exact q
  · rename_i hd
    rw [hd, bind_stuck] at q
    exact q
theorem sem_and {t u : TT} {g k : GT} (h : SemT F t g) (h2 : SemT F u k) : SemT F (tAnd t u) (gAnd g k) := fun H0 hid0 s ρ S Q q => by
  refine h H0 hid0 s ρ S _ ?_
  unfold gAnd at q
  split
  · rename_i d hd
    rw [hd, bind_ok] at q
    intro H1 e1
    cases d with
    | false => exact q H1 e1
    | true =>
      show u s.σ H1 Q
      refine h2 H0 hid0 { s with H := H1 } ρ (S.ext e1) _ ?_
      have q : match k ρ with | .ok b => ∀ H', Ex s.H H' → Q b H' | .err c => ∀ H', Ex s.H H' → F.E (F.cl c) none H' | .stuck => False := q
      split at q
      · rename_i z; first | exact fun H' e' => q H' (e1.trans e') | (rw [z]; exact fun H' e' => q H' (e1.trans e'))
      · rename_i z; first | exact fun H' e' => q H' (e1.trans e') | (rw [z]; exact fun H' e' => q H' (e1.trans e'))
      · exact q.elim
  · rename_i c hd
    rw [hd, bind_err] at q
    exact q
  · rename_i hd
    rw [hd, bind_stuck] at q
    exact q
theorem sem_or {t u : TT} {g k : GT} (h : SemT F t g) (h2 : SemT F u k) : SemT F (tOr t u) (gOr g k) := fun H0 hid0 s ρ S Q q => by
  refine h H0 hid0 s ρ S _ ?_
  unfold gOr at q
  split
  · rename_i d hd
    rw [hd, bind_ok] at q
    intro H1 e1
    cases d with
    | true => exact q H1 e1
    | false =>
      show u s.σ H1 Q
      refine h2 H0 hid0 { s with H := H1 } ρ (S.ext e1) _ ?_
      have q : match k ρ with | .ok b => ∀ H', Ex s.H H' → Q b H' | .err c => ∀ H', Ex s.H H' → F.E (F.cl c) none H' | .stuck => False := q
      split at q
      · rename_i z; first | exact fun H' e' => q H' (e1.trans e') | (rw [z]; exact fun H' e' => q H' (e1.trans e'))
      · rename_i z; first | exact fun H' e' => q H' (e1.trans e') | (rw [z]; exact fun H' e' => q H' (e1.trans e'))
      · exact q.elim
  · rename_i c hd
    rw [hd, bind_err] at q
    exact q
  · rename_i hd
    rw [hd, bind_stuck] at q
    exact q
/-- and, or chains as tests -/
def DW (F : Fam) (e : Expr) (g : GT) : Prop := ∃ tt, (∀ i, PW (F.X i) e tt) ∧ SemT F tt g
theorem dw_t {e : Expr} {g : GT} (h : DW F e g) : DT F e g := ⟨_, fun i => (h.choose_spec.1 i).pt, h.choose_spec.2⟩
theorem dw_and1 {a : Expr} {g : GT} {pos : Pos} (h : DT F a g) : DW F (.BoolOp .And [a] pos) g := ⟨_, fun i => pw_and1 (h.choose_spec.1 i), h.choose_spec.2⟩
theorem dw_or1 {a : Expr} {g : GT} {pos : Pos} (h : DT F a g) : DW F (.BoolOp .Or [a] pos) g := ⟨_, fun i => pw_or1 (h.choose_spec.1 i), h.choose_spec.2⟩
theorem dw_and {a b : Expr} {rest : List Expr} {g k : GT} {pos : Pos} (h : DT F a g) (h2 : DW F (.BoolOp .And (b :: rest) pos) k) : DW F (.BoolOp .And (a :: b :: rest) pos) (gAnd g k) :=
  ⟨_, fun i => pw_and (h.choose_spec.1 i) (h2.choose_spec.1 i), sem_and h.choose_spec.2 h2.choose_spec.2⟩
theorem dw_or {a b : Expr} {rest : List Expr} {g k : GT} {pos : Pos} (h : DT F a g) (h2 : DW F (.BoolOp .Or (b :: rest) pos) k) : DW F (.BoolOp .Or (a :: b :: rest) pos) (gOr g k) :=
  ⟨_, fun i => pw_or (h.choose_spec.1 i) (h2.choose_spec.1 i), sem_or h.choose_spec.2 h2.choose_spec.2⟩
theorem dt_not {a : Expr} {g : GT} {pos : Pos} (h : DT F a g) : DT F (.UnaryOp .Not a pos) (gNot g) := ⟨_, fun i => pt_not (h.choose_spec.1 i), sem_not h.choose_spec.2⟩
/-! ### and, or, not as values -/
def eAnd (a b : GE) : GE := fun ρ => (a ρ).bind fun x => match x with
  | .bool true => b ρ
  | .bool false => .ok (.bool false)
  | _ => .stuck
def eOr (a b : GE) : GE := fun ρ => (a ρ).bind fun x => match x with
  | .bool false => b ρ
  | .bool true => .ok (.bool true)
  | _ => .stuck
def dNot : D → Option D
  | .bool b => some (.bool (!b))
  | _ => none
def WE (F : Fam) (m : Md) (hid : List Addr) (H : Hp) (Q : VK) : Out D → Prop
  | .ok d => ∀ v H', Ex H H' → Rm F.K m hid H H' d v → Q v H'
  | .err c => ∀ H', Ex H H' → F.E (F.cl c) none H'
  | .stuck => False
theorem q_ext {m : Md} {hid : List Addr} {H H1 : Hp} {Q : VK} (e1 : Ex H H1) : ∀ {o : Out D}, WE F m hid H Q o → WE F m hid H1 Q o
  | .ok d, q => fun v H' e r => q v H' (e1.trans e) (rm_back e1 r)
  | .err n, q => fun H' e => q H' (e1.trans e)
  | .stuck, q => q
theorem sem_andV {m ma : Md} {ta tb : TE} {ga gb : GE} (ha : SemE F ma ta ga) (hb : SemE F m tb gb) : SemE F m (tAndV ta tb) (eAnd ga gb) := fun H0 hid0 s ρ S Q q => by
  refine ha H0 hid0 s ρ S _ ?_
  unfold eAnd at q
  split
  · rename_i d hd
    intro v H1 e1 r1
    rw [hd, bind_ok] at q
    cases d with
    | bool b =>
      have : v = .bl b := by
        cases ma with
        | fz => exact bo_bool (rm_bo r1)
        | bo => exact bo_bool r1
        | au => exact bo_bool (rm_bo (rm_fz S.dom r1))
      refine ⟨b, this, ?_⟩
      cases b with
      | false => exact q _ _ e1 rm_bool
      | true => exact hb H0 hid0 { s with H := H1 } ρ (S.ext e1) Q (q_ext (o := gb ρ) e1 q)
    | none => exact q.elim
    | int _ => exact q.elim
    | str _ => exact q.elim
    | list _ => exact q.elim
    | tuple _ => exact q.elim
    | dict _ => exact q.elim
  · rename_i c hd
    rw [hd, bind_err] at q
    exact q
  · rename_i hd
    rw [hd, bind_stuck] at q
    exact q
theorem sem_orV {m ma : Md} {ta tb : TE} {ga gb : GE} (ha : SemE F ma ta ga) (hb : SemE F m tb gb) : SemE F m (tOrV ta tb) (eOr ga gb) := fun H0 hid0 s ρ S Q q => by
  refine ha H0 hid0 s ρ S _ ?_
  unfold eOr at q
  split
  · rename_i d hd
    intro v H1 e1 r1
    rw [hd, bind_ok] at q
    cases d with
    | bool b =>
      have : v = .bl b := by
        cases ma with
        | fz => exact bo_bool (rm_bo r1)
        | bo => exact bo_bool r1
        | au => exact bo_bool (rm_bo (rm_fz S.dom r1))
      refine ⟨b, this, ?_⟩
      cases b with
      | true => exact q _ _ e1 rm_bool
      | false => exact hb H0 hid0 { s with H := H1 } ρ (S.ext e1) Q (q_ext (o := gb ρ) e1 q)
    | none => exact q.elim
    | int _ => exact q.elim
    | str _ => exact q.elim
    | list _ => exact q.elim
    | tuple _ => exact q.elim
    | dict _ => exact q.elim
  · rename_i c hd
    rw [hd, bind_err] at q
    exact q
  · rename_i hd
    rw [hd, bind_stuck] at q
    exact q
theorem sem_notV {m ma : Md} {ta : TE} {ga : GE} (ha : SemE F ma ta ga) : SemE F m (tNotV ta) (e1 dNot ga) := fun H0 hid0 s ρ S Q q => by
  refine ha H0 hid0 s ρ S _ ?_
  unfold e1 at q
  split
  · rename_i d hd
    intro v H1 e1 r1
    rw [hd, bind_ok] at q
    cases d with
    | bool b =>
      have : v = .bl b := by
        cases ma with
        | fz => exact bo_bool (rm_bo r1)
        | bo => exact bo_bool r1
        | au => exact bo_bool (rm_bo (rm_fz S.dom r1))
      exact ⟨b, this, q _ _ e1 rm_bool⟩
    | none => exact q.elim
    | int _ => exact q.elim
    | str _ => exact q.elim
    | list _ => exact q.elim
    | tuple _ => exact q.elim
    | dict _ => exact q.elim
  · rename_i c hd
    rw [hd, bind_err] at q
    exact q
  · rename_i hd
    rw [hd, bind_stuck] at q
    exact q
theorem de_one {m : Md} {op : BoolOp} {a : Expr} {ga : GE} {pos : Pos} (ha : DE F m a ga) : DE F m (.BoolOp op [a] pos) ga := ⟨_, fun i => pe_one (ha.choose_spec.1 i), ha.choose_spec.2⟩
theorem de_and {m ma : Md} {a b : Expr} {rest : List Expr} {ga gb : GE} {pos : Pos} (ha : DE F ma a ga) (hb : DE F m (.BoolOp .And (b :: rest) pos) gb) : DE F m (.BoolOp .And (a :: b :: rest) pos) (eAnd ga gb) :=
  ⟨_, fun i => pe_and (ha.choose_spec.1 i) (hb.choose_spec.1 i), sem_andV ha.choose_spec.2 hb.choose_spec.2⟩
theorem de_or {m ma : Md} {a b : Expr} {rest : List Expr} {ga gb : GE} {pos : Pos} (ha : DE F ma a ga) (hb : DE F m (.BoolOp .Or (b :: rest) pos) gb) : DE F m (.BoolOp .Or (a :: b :: rest) pos) (eOr ga gb) :=
  ⟨_, fun i => pe_or (ha.choose_spec.1 i) (hb.choose_spec.1 i), sem_orV ha.choose_spec.2 hb.choose_spec.2⟩
theorem de_not {m ma : Md} {a : Expr} {ga : GE} {pos : Pos} (ha : DE F ma a ga) : DE F m (.UnaryOp .Not a pos) (e1 dNot ga) := ⟨_, fun i => pe_not (ha.choose_spec.1 i), sem_notV ha.choose_spec.2⟩
def eIf (t : GT) (a b : GE) : GE := fun ρ => (t ρ).bind fun k => if k then a ρ else b ρ
theorem sem_if {m : Md} {t : TT} {ta tb : TE} {gt : GT} {ga gb : GE} (ht : SemT F t gt) (ha : SemE F m ta ga) (hb : SemE F m tb gb) : SemE F m (tIf t ta tb) (eIf gt ga gb) := fun H0 hid0 s ρ S Q q => by
  refine ht H0 hid0 s ρ S _ ?_
  unfold eIf at q
  split
  · rename_i d hd
    rw [hd, bind_ok] at q
    intro H1 e1
    cases d with
    | false => exact hb H0 hid0 { s with H := H1 } ρ (S.ext e1) Q (q_ext (o := gb ρ) e1 q)
    | true => exact ha H0 hid0 { s with H := H1 } ρ (S.ext e1) Q (q_ext (o := ga ρ) e1 q)
  · rename_i c hd
    rw [hd, bind_err] at q
    exact q
  · rename_i hd
    rw [hd, bind_stuck] at q
    exact q
theorem de_if {m : Md} {c a b : Expr} {gt : GT} {ga gb : GE} {pos : Pos} (hc : DT F c gt) (ha : DE F m a ga) (hb : DE F m b gb) : DE F m (.IfExp c a b pos) (eIf gt ga gb) :=
  ⟨_, fun i => pe_ifExp (hc.choose_spec.1 i) (ha.choose_spec.1 i) (hb.choose_spec.1 i), sem_if hc.choose_spec.2 ha.choose_spec.2 hb.choose_spec.2⟩

/-! ### arguments, displays -/
def aNil : GA := fun _ => .ok []
def aCons (g : GE) (a : GA) : GA := fun ρ => (g ρ).bind fun d => (a ρ).bind fun ds => .ok (d :: ds)
theorem rm_ext {m : Md} {hid : List Addr} {H H1 H' : Hp} {d : D} {v : V} (e : Ex H1 H') (h : Rm K m hid H H1 d v) : Rm K m hid H H' d v := by
  cases m with
  | fz => exact fz_ext e h
  | bo => exact bo_ext e h
  | au =>
    unfold Rm at h ⊢
    dsimp only at h ⊢
    split at h
    · rename_i hc
      rw [if_pos hc]
      obtain ⟨a, h1, h2, h3⟩ := h
      exact ⟨a, h1, h2, h3.mono e⟩
    · rename_i hc
      rw [if_neg hc]
      exact Mn.mono (hide_mono e) d v h
theorem sem_nil {m : Md} : SemA F m tNil aNil := fun H0 hid0 s ρ S Q q => q [] s.H (Ex.refl _) .nil
theorem rma_back {m : Md} {hid : List Addr} {H H1 H' : Hp} (e : Ex H H1) : ∀ {ds : List D} {vs : List V}, RmA K m hid H1 H' ds vs → RmA K m hid H H' ds vs
  | _, _, .nil => .nil
  | _, _, .cons h t => .cons (rm_back e h) (rma_back e t)
theorem sem_cons {m : Md} {te : TE} {ta : TA} {g : GE} {ga : GA} (h : SemE F m te g) (ht : SemA F m ta ga) : SemA F m (tCons te ta) (aCons g ga) := fun H0 hid0 s ρ S Q q => by
  refine h H0 hid0 s ρ S _ ?_
  unfold aCons at q
  split
  · rename_i d hd
    intro v H1 e1 r1
    rw [hd, bind_ok] at q
    refine ht H0 hid0 { s with H := H1 } ρ (S.ext e1) _ ?_
    split
    · rename_i ds hds
      rw [hds, bind_ok] at q
      exact fun vs H2 e2 r2 => q (v :: vs) H2 (e1.trans e2) (.cons (rm_ext e2 r1) (rma_back e1 r2))
    · rename_i c hds
      rw [hds, bind_err] at q
      exact fun H2 e2 => q H2 (e1.trans e2)
    · rename_i hds
      rw [hds, bind_stuck] at q
      exact q
  · rename_i c hd
    rw [hd, bind_err] at q
    exact q
  · rename_i hd
    rw [hd, bind_stuck] at q
    exact q
theorem da_nil {m : Md} : DA F m [] aNil := ⟨_, fun _ => pa_nil, sem_nil⟩
theorem pa_consX {X : Cx} {e : Expr} {es : List Expr} {te : TE} {t : TA} (h : PE X e te) (ht : PA X es t) (hs : ∀ env, starEach (e :: es) env = (false, eval e env) :: starEach es env) : PA X (e :: es) (tCons te t) := pa_cons h ht (hs _)
theorem da_cons {m : Md} {e : Expr} {es : List Expr} {g : GE} {ga : GA} (h : DE F m e g) (ht : DA F m es ga) (hs : ∀ env, starEach (e :: es) env = (false, eval e env) :: starEach es env := by intro _; rfl) : DA F m (e :: es) (aCons g ga) :=
  ⟨_, fun i => pa_consX (h.choose_spec.1 i) (ht.choose_spec.1 i) hs, sem_cons h.choose_spec.2 ht.choose_spec.2⟩
theorem rma_mn {hid : List Addr} {H H' : Hp} : ∀ {ds : List D} {vs : List V}, RmA K .fz hid H H' ds vs → MnA K (hide hid H') ds vs
  | _, _, .nil => by simp [MnA]
  | _, _, .cons (d := d) (v := v) (ds := ds) (vs := vs) h t => by
    simp only [MnA]
    exact ⟨v, vs, rfl, h, rma_mn t⟩
theorem rma_full {hid : List Addr} {H H' : Hp} : ∀ {ds : List D} {vs : List V}, RmA K .bo hid H H' ds vs → MnA K (hide [] H') ds vs
  | _, _, .nil => by simp [MnA]
  | _, _, .cons (d := d) (v := v) (ds := ds) (vs := vs) h t => by
    simp only [MnA]
    exact ⟨v, vs, rfl, bo_full0 h, rma_full t⟩
theorem rma_fzbo {hid : List Addr} {H H' : Hp} : ∀ {ds : List D} {vs : List V}, RmA K .fz hid H H' ds vs → RmA K .bo hid H H' ds vs
  | _, _, .nil => .nil
  | _, _, .cons h t => .cons (rm_bo h) (rma_fzbo t)
def eTup (a : GA) : GE := fun ρ => (a ρ).bind fun ds => if ds.length ≤ 1000000 then .ok (.tuple ds) else .stuck
def eLst (a : GA) : GE := fun ρ => (a ρ).bind fun ds => if ds.length ≤ 1000000 then .ok (.list ds) else .stuck
theorem sem_tup {m : Md} {ta : TA} {g : GA} (h : SemA F .fz ta g) : SemE F m (tTup ta) (eTup g) := fun H0 hid0 s ρ S Q q => by
  refine h H0 hid0 s ρ S _ ?_
  unfold eTup at q
  split
  · rename_i ds hd
    rw [hd, bind_ok] at q
    intro vs H1 e1 r1
    split at q
    · rename_i o d hz hk
      split at hk
      · rename_i hl
        cases hk
        have ra := rma_mn r1
        exact ⟨by rw [ra.length]; exact small_line hl, fun p hp => q _ _ (e1.trans (Ex.new hp)) (rm_back e1 (au_tup (dom_ex e1 S.dom) hp ra))⟩
      · cases hk
    · rename_i hk
      split at hk <;> cases hk
    · exact q.elim
  · rename_i c hd
    rw [hd, bind_err] at q
    exact q
  · rename_i hd
    rw [hd, bind_stuck] at q
    exact q
theorem sem_lst {ta : TA} {g : GA} (h : SemA F .fz ta g) : SemE F .au (tLst ta) (eLst g) := fun H0 hid0 s ρ S Q q => by
  refine h H0 hid0 s ρ S _ ?_
  unfold eLst at q
  split
  · rename_i ds hd
    rw [hd, bind_ok] at q
    intro vs H1 e1 r1
    by_cases hl : ds.length ≤ 1000000
    · rw [if_pos hl] at q
      have ra := rma_mn r1
      exact ⟨by rw [ra.length]; exact small_line hl, fun p hp => q _ _ (e1.trans (Ex.new hp)) (rm_back e1 (au_list hp ra))⟩
    · rw [if_neg hl] at q
      exact q.elim
  · rename_i c hd
    rw [hd, bind_err] at q
    exact q
  · rename_i hd
    rw [hd, bind_stuck] at q
    exact q
theorem de_tup {m : Md} {es : List Expr} {g : GA} {x1 : Nat} {pos : Pos} (h : DA F .fz es g) : DE F m (.Tuple es x1 pos) (eTup g) := ⟨_, fun i => pe_tup (h.choose_spec.1 i), sem_tup h.choose_spec.2⟩
theorem de_lst {es : List Expr} {g : GA} {pos : Pos} (h : DA F .fz es g) : DE F .au (.List es pos) (eLst g) := ⟨_, fun i => pe_lst (h.choose_spec.1 i), sem_lst h.choose_spec.2⟩
end
end DL
set_option Elab.async false
set_option linter.all false
set_option maxRecDepth 100000
set_option maxHeartbeats 4000000
namespace DL
open PySem PySem.Spec PyProof.Rows L2
variable [TabsC]
/-! ### targets -/
abbrev Tg := D → Env → Option Env
/-- slots that a target sets -/
def SemG (F : Fam) (g : TG) (tg : Tg) (js : List Nat) : Prop :=
  ∀ (H0 : Hp) (hid0 : List Addr) (s : Sx) (ρ ρ' : Env) (d : D) (x : V), Sees F.K H0 hid0 F.O s ρ → Mn F.K (hide s.hid s.H) d x → tg d ρ = some ρ' → ∀ Q : L2.St → Hp → Prop,
    (∀ σ', Sees F.K H0 hid0 F.O { s with σ := σ' } ρ' → σ'.length = s.σ.length → (∀ j, j ∉ js → σ'[j]? = s.σ[j]?) → Q σ' s.H) → g x s.σ s.H Q
def DG (F : Fam) (target : Expr) (tg : Tg) (js : List Nat) : Prop := ∃ g, (∀ i, PG (F.X i) target g) ∧ SemG F g tg js
section
variable {F : Fam} {K : PySem.W.Frag} {H0 : Hp} {hid0 : List Addr} {O : Nat → Option Bool} {s : Sx} {ρ : Env}
/-- a slot that owns nothing is set -/
theorem Sees.set (S : Sees K H0 hid0 O s ρ) {i : Nat} {d : D} {x : V} (hO : O i = some false) (h : Mn K (hide s.hid s.H) d x) : Sees K H0 hid0 O { s with σ := s.σ.set i (some x) } (ρ.set i (some d)) where
  len := by
    show (s.σ.set i (some x)).length = _
    rw [List.length_set, List.length_set]
    exact S.len
  ex0 := S.ex0
  sub := S.sub
  knd := S.knd
  dom0 := S.dom0
  tb0 := S.tb0
  fz := fun j e h1 h2 => by
    show ∃ v, (s.σ.set i (some x))[j]? = some (some v) ∧ _
    by_cases hj : i = j
    · subst hj
      by_cases hl : i < ρ.length
      · rw [List.getElem?_set_self hl] at h2
        cases h2
        exact ⟨x, List.getElem?_set_self (by rw [S.len]; exact hl), h⟩
      · rw [List.getElem?_eq_none (by rw [List.length_set]; omega)] at h2
        cases h2
    · rw [List.getElem?_set_ne hj] at h2 ⊢
      exact S.fz j e h1 h2
  ow := fun j e h1 h2 => by
    show ∃ a, (s.σ.set i (some x))[j]? = some (some (V.ref a)) ∧ _
    have hj : i ≠ j := fun z => by rw [z, h1] at hO; cases hO
    rw [List.getElem?_set_ne hj] at h2 ⊢
    exact S.ow j e h1 h2
  oh := S.oh
  inj := S.inj
  led := fun j e h1 h2 => by
    have hj : i ≠ j := fun z => by rw [z, h1] at hO; cases hO
    rw [List.getElem?_set_ne hj] at h2
    exact S.led j e h1 h2
def tgN (i : Nat) : Tg := fun d ρ => some (ρ.set i (some d))
theorem semg_name {i : Nat} (hO : F.O i = some false) : SemG F (gName i) (tgN i) [i] := fun H0 hid0 s ρ ρ' d x S h e Q q => by
  cases e
  exact q _ (S.set hO h) (by rw [List.length_set]) fun j hj => List.getElem?_set_ne (fun z => hj (by simp [z]))
theorem dg_name (i : Nat) {x : Str} {pos : Pos} (hN : F.N[i]? = some x := by rfl) (hs : F.sto x = true := by rfl) (hO : F.O i = some false := by rfl) : DG F (.Name x pos) (tgN i) [i] :=
  ⟨gName i, fun j => pg_name (by rw [F.hN]; exact F.nd) (by rw [F.hN]; exact hN) (F.hsto j x hs).1 (F.hsto j x hs).2, semg_name hO⟩
/-- a, b, .. : a tuple -/
abbrev Tgs := List D → Env → Option Env
def SemGs (F : Fam) (g : TGs) (tg : Tgs) (js : List Nat) : Prop :=
  ∀ (H0 : Hp) (hid0 : List Addr) (s : Sx) (ρ ρ' : Env) (ds : List D) (xs : List V), Sees F.K H0 hid0 F.O s ρ → MnA F.K (hide s.hid s.H) ds xs → tg ds ρ = some ρ' → ∀ Q : L2.St → Hp → Prop,
    (∀ σ', Sees F.K H0 hid0 F.O { s with σ := σ' } ρ' → σ'.length = s.σ.length → (∀ j, j ∉ js → σ'[j]? = s.σ[j]?) → Q σ' s.H) → g xs s.σ s.H Q
def DGs (F : Fam) (targets : List Expr) (tg : Tgs) (js : List Nat) (n : Nat) : Prop := ∃ g, (∀ i, PGs (F.X i) targets g) ∧ SemGs F g tg js ∧ (∀ env, (assignEach targets env).length = n ∧ (assignEach targets env).findIdx? (·.1) = none) ∧ (∀ ds ρ ρ', tg ds ρ = some ρ' → ds.length = n)
def tgNil : Tgs := fun ds ρ => match ds with
  | [] => some ρ
  | _ :: _ => none
def tgCons (t : Tg) (u : Tgs) : Tgs := fun ds ρ => match ds with
  | [] => none
  | d :: ds => (t d ρ).bind (u ds)
theorem dgs_nil : DGs F [] tgNil [] 0 := ⟨gNil, fun i => pgs_nil, fun H0 hid0 s ρ ρ' ds xs S h e Q q => (by
  cases ds with
  | nil =>
    cases e
    simp only [MnA] at h
    subst h
    exact ⟨rfl, q s.σ S rfl fun _ _ => rfl⟩
  | cons _ _ => cases e), fun env => ⟨rfl, rfl⟩, fun ds ρ ρ' e => by
    cases ds with
    | nil => rfl
    | cons _ _ => cases e⟩
theorem dgs_cons {e : Expr} {es : List Expr} {t : Tg} {u : Tgs} {js ks : List Nat} {n : Nat} (h1 : DG F e t js) (h2 : DGs F es u ks n) (hs : ∀ env, assignEach (e :: es) env = (false, assign e env) :: assignEach es env := by intro _; rfl) : DGs F (e :: es) (tgCons t u) (js ++ ks) (n + 1) := by
  obtain ⟨g1, p1, s1⟩ := h1
  obtain ⟨g2, p2, s2, l2, m2⟩ := h2
  refine ⟨gCons g1 g2, fun i => pgs_cons (p1 i) (p2 i) (by rw [hs]; rfl), fun H0 hid0 s ρ ρ' ds xs S h e Q q => ?_, fun env => ?_, fun ds ρ ρ' e => ?_⟩
  · cases ds with
    | nil => cases e
    | cons d ds =>
      simp only [MnA] at h
      obtain ⟨v, r, rfl, hv, hr⟩ := h
      refine ⟨v, r, rfl, ?_⟩
      cases ht : t d ρ with
      | none =>
        have e : (t d ρ).bind (u ds) = some ρ' := e
        rw [ht] at e
        cases e
      | some ρ1 =>
        have e : (t d ρ).bind (u ds) = some ρ' := e
        rw [ht] at e
        refine s1 H0 hid0 s ρ ρ1 d v S hv ht _ fun σ1 S1 L1 K1 => ?_
        refine s2 H0 hid0 { s with σ := σ1 } ρ1 ρ' ds r S1 hr e _ fun σ2 S2 L2 K2 => ?_
        exact q σ2 S2 (L2.trans L1) fun j hj => by
          simp only [List.mem_append, not_or] at hj
          exact (K2 j hj.2).trans (K1 j hj.1)
  · obtain ⟨a, b⟩ := l2 env
    rw [hs]
    refine ⟨by rw [List.length_cons, a], ?_⟩
    rw [List.findIdx?_cons, b]
    rfl
  · cases ds with
    | nil => cases e
    | cons d ds =>
      have e : (t d ρ).bind (u ds) = some ρ' := e
      cases ht : t d ρ with
      | none => rw [ht] at e; cases e
      | some ρ1 =>
        rw [ht] at e
        rw [List.length_cons, m2 ds ρ1 ρ' e]
def tgT (u : Tgs) : Tg := fun d ρ => match d with
  | .tuple ds => u ds ρ
  | _ => none
theorem dg_tup {es : List Expr} {u : Tgs} {ks : List Nat} {n k : Nat} {pos : Pos} (h : DGs F es u ks n) (hc : F.hot = false := by rfl) : DG F (.Tuple es k pos) (tgT u) ks := by
  obtain ⟨g, p, sg, l, m⟩ := h
  refine ⟨gTup F.K n g, fun i => by have z := pg_tup (pos := pos) (k := k) (F.calm hc i) (p i) (n := n) (l _).1 (l _).2; rw [F.hK i] at z; exact z, fun H0 hid0 s ρ ρ' d x S h e Q q => ?_⟩
  cases d with
  | tuple ds =>
    simp only [Mn] at h
    obtain ⟨a, xs, rfl, h2, h3⟩ := h
    exact ⟨a, xs, rfl, Evl.ex_t hide_ex h2, by rw [h3.length]; exact m ds ρ ρ' e, sg H0 hid0 s ρ ρ' ds xs S h3 e Q q⟩
  | none => cases e
  | bool _ => cases e
  | int _ => cases e
  | str _ => cases e
  | list _ => cases e
  | dict _ => cases e

/-! ### what is walked -/
structure Walks (K : PySem.W.Frag) (J : It) (B C : Hp) (ds : List D) : Prop where
  at_ : ∀ (hid : List Addr) (H : Hp), Wx B H → Wx C (hide hid H) → (∀ a ∈ hid, noT (H a) ≠ none) → ∀ (i : Nat) (d : D), ds[i]? = some d → J.go i H ∧ ∀ x H', J.yld i H x H' → Ex H H' ∧ Mn K (hide hid H') d x
  end_ : ∀ (hid : List Addr) (H : Hp), Wx B H → Wx C (hide hid H) → (∀ a ∈ hid, noT (H a) ≠ none) → J.stop ds.length H
/-- borrowed: while all stands; frozen: while what is not hidden stands -/
def Rb (m : Md) (hid : List Addr) (H : Hp) : Hp := match m with
  | .bo => hide [] H
  | _ => hide hid H
def SemI (F : Fam) (m : Md) (wi : TI) (gi : GA) : Prop :=
  ∀ (H0 : Hp) (hid0 : List Addr) (s : Sx) (ρ : Env), Sees F.K H0 hid0 F.O s ρ → ∀ R : It → Hp → Prop,
    (match gi ρ with
      | .ok ds => ∀ J H', Ex s.H H' → Walks F.K J (Rb m s.hid H') (hide s.hid H') ds → R J H'
      | .err c => ∀ H', Ex s.H H' → F.E (F.cl c) none H'
      | .stuck => False) → wi s.σ s.H R
def DI (F : Fam) (m : Md) (tg iter : Expr) (gi : GA) : Prop := ∃ wi, (∀ i, PI (F.X i) tg iter wi) ∧ SemI F m wi gi
theorem walk_list {B C : Hp} {a : Addr} {xs : List V} {ds : List D} (hB : B a = some (.lst xs)) (h : MnA K C ds xs) : Walks K (Itl K a) B C ds where
  at_ := fun hid H eB eC _ i d hd => by
    obtain ⟨v, hv, mv⟩ := h.get hd
    have hs : SqL K H a xs := SqL.of (eB _ _ hB)
    exact ⟨⟨xs, v, hs, hv⟩, fun x H' ⟨e, hx⟩ => by
      subst e
      have := hx xs hs
      rw [hv] at this
      cases this
      exact ⟨Ex.refl _, Mn.mono eC d v mv⟩⟩
  end_ := fun hid H eB eC _ => ⟨xs, SqL.of (eB _ _ hB), by rw [h.length]; exact Nat.le_refl _⟩
theorem walk_tup {B C : Hp} {a : Addr} {xs : List V} {ds : List D} (hC : SqT K C a xs) (h : MnA K C ds xs) : Walks K (Itt K a) B C ds where
  at_ := fun hid H eB eC _ i d hd => by
    obtain ⟨v, hv, mv⟩ := h.get hd
    have hs : SqT K H a xs := Evl.ex_t (eC.trans hide_ex) hC
    exact ⟨⟨xs, v, hs, hv⟩, fun x H' ⟨e, hx⟩ => by
      subst e
      have := hx xs hs
      rw [hv] at this
      cases this
      exact ⟨Ex.refl _, Mn.mono eC d v mv⟩⟩
  end_ := fun hid H eB eC _ => ⟨xs, Evl.ex_t (eC.trans hide_ex) hC, by rw [h.length]; exact Nat.le_refl _⟩
theorem walk_str {B C : Hp} {z : Str} : Walks K (Its z) B C (z.cps.toList.map fun c => .str ⟨#[c]⟩) where
  at_ := fun hid H eB eC _ i d hd => by
    rw [List.getElem?_map] at hd
    cases q : z.cps.toList[i]? with
    | none => rw [q] at hd; cases hd
    | some c =>
      rw [q] at hd
      cases hd
      have hi : i < z.cps.size := by
        have := (List.getElem?_eq_some_iff.mp q).1
        simpa using this
      refine ⟨hi, fun x H' ⟨e, c', hc, hx⟩ => ?_⟩
      subst e
      subst hx
      have : z.cps[i]? = some c := by simpa using q
      rw [this] at hc
      cases hc
      exact ⟨Ex.refl _, by simp [Mn]⟩
  end_ := fun hid H eB eC _ => by
    show z.cps.size ≤ _
    rw [List.length_map]
    simp
theorem walk_rng {B C : Hp} {lo : Int} {n : Nat} : Walks K (Itr lo n) B C ((List.range n).map fun i => .int (lo + (i : Nat))) where
  at_ := fun hid H eB eC _ i d hd => by
    rw [List.getElem?_map] at hd
    cases q : (List.range n)[i]? with
    | none => rw [q] at hd; cases hd
    | some c =>
      rw [q] at hd
      cases hd
      obtain ⟨h1, h2⟩ := List.getElem?_eq_some_iff.mp q
      rw [List.getElem_range] at h2
      subst h2
      have h1 : i < n := by simpa using h1
      refine ⟨h1, fun x H' ⟨e, hx⟩ => ?_⟩
      subst e
      subst hx
      exact ⟨Ex.refl _, by simp [Mn]⟩
  end_ := fun hid H eB eC _ => by
    show n ≤ _
    rw [List.length_map, List.length_range]
    exact Nat.le_refl _
theorem pi_alt {X : Cx} {tg l : Expr} {w w' : TI} (h : PI X tg l w) (h' : PI X tg l w') : PI X tg l (fun σ H R => w σ H R ∨ w' σ H R) := ⟨fun pins s σ H R I q => by
  rcases q with q | q
  · exact h.run pins s σ H R I q
  · exact h'.run pins s σ H R I q⟩
/-- a list, a tuple, a text -/
def iSeq (g : GE) : GA := fun ρ => (g ρ).bind fun d => match d with
  | .list ds => .ok ds
  | .tuple ds => .ok ds
  | .str z => .ok (z.cps.toList.map fun c => .str ⟨#[c]⟩)
  | _ => .stuck
theorem semi_seq {m : Md} {te : TE} {g : GE} (h : SemE F m te g) (hm : m ≠ .au) : SemI F m (fun σ H R => iList F.K te σ H R ∨ iTup F.K te σ H R ∨ iStr te σ H R) (iSeq g) := fun H0 hid0 s ρ S R q => by
  unfold iSeq at q
  cases hg : g ρ with
  | stuck => rw [hg] at q; exact q.elim
  | err c =>
    rw [hg, bind_err] at q
    refine .inl (h H0 hid0 s ρ S _ ?_)
    rw [hg]
    exact q
  | ok d =>
    rw [hg, bind_ok] at q
    cases d with
    | list ds =>
      refine .inl (h H0 hid0 s ρ S _ ?_)
      rw [hg]
      intro v H' e r
      have hb : ∃ a xs, v = .ref a ∧ Rb m s.hid H' a = some (.lst xs) ∧ MnA F.K (hide s.hid H') ds xs := by
        cases m with
        | au => exact (hm rfl).elim
        | bo =>
          obtain ⟨a, xs, e1, e2, e3⟩ := bo_list r
          exact ⟨a, xs, e1, hide_at (by simp) e2 (fun ps z => nomatch z), e3⟩
        | fz =>
          have r : Mn F.K (hide s.hid H') (.list ds) v := r
          simp only [Mn] at r
          exact r
      obtain ⟨a, xs, rfl, h1, h2⟩ := hb
      have hx : H' a = some (.lst xs) := by
        cases m with
        | au => exact hide_ex _ _ h1
        | bo => exact hide_ex _ _ h1
        | fz => exact hide_ex _ _ h1
      exact ⟨a, rfl, ⟨xs, SqL.of hx⟩, q _ _ e (walk_list h1 h2)⟩
    | tuple ds =>
      refine .inr (.inl (h H0 hid0 s ρ S _ ?_))
      rw [hg]
      intro v H' e r
      have hb : ∃ a xs, v = .ref a ∧ SqT F.K (hide s.hid H') a xs ∧ MnA F.K (hide s.hid H') ds xs := by
        cases m with
        | au => exact (hm rfl).elim
        | bo => exact bo_tup r
        | fz =>
          have r : Mn F.K (hide s.hid H') (.tuple ds) v := r
          simpa only [Mn] using r
      obtain ⟨a, xs, rfl, h1, h2⟩ := hb
      exact ⟨a, rfl, ⟨xs, Evl.ex_t hide_ex h1⟩, q _ _ e (walk_tup h1 h2)⟩
    | str z =>
      refine .inr (.inr (h H0 hid0 s ρ S _ ?_))
      rw [hg]
      intro v H' e r
      have hb : v = .str z := by
        cases m with
        | au => exact (hm rfl).elim
        | bo => exact bo_str r
        | fz => exact bo_str (rm_bo r)
      exact ⟨z, hb, q _ _ e walk_str⟩
    | dict ps => exact q.elim
    | none => exact q.elim
    | bool _ => exact q.elim
    | int _ => exact q.elim
theorem di_seq {m : Md} {tg iter : Expr} {g : GE} (h : DE F m iter g) (hm : m ≠ .au := by decide) : DI F m tg iter (iSeq g) := by
  obtain ⟨te, p, se⟩ := h
  refine ⟨_, fun i => ?_, semi_seq se hm⟩
  have h1 := pi_list (tg := tg) (p i)
  have h2 := pi_tup (tg := tg) (p i)
  rw [F.hK i] at h1 h2
  exact pi_alt h1 (pi_alt h2 (pi_str (p i)))
end
end DL
set_option Elab.async false
set_option linter.all false
set_option maxRecDepth 100000
set_option maxHeartbeats 4000000
namespace DL
open PySem PySem.Spec PyProof.Rows L2
variable [TabsC]
/-! ### comprehensions -/
def relN (sn names : List (Str × NameKind)) : List (Str × NameKind) := names.map fun (n, k) => if (k == .free && NameKind.beqF sn n) then (n, .cell) else (n, k)
where NameKind.beqF (sn : List (Str × NameKind)) (n : Str) : Bool := sn.lookup n == some .cell
def stoB (names : List (Str × NameKind)) (x : Str) : Bool := match names.lookup x with
  | some .local => true
  | some .cell => true
  | _ => false
def scOf (sn : List (Str × NameKind)) : Scope := { kind := .function, names := sn, isGenerator := false, isCoroutine := false, more := [] }
theorem blk_ok {X : Cx} {N : List Str} {sn : List (Str × NameKind)} {scope : Scope} {own : List (Str × Nat)} (hN : X.N = N) (hs : X.env.scope.names = sn) (h : blkC N (scOf sn) scope own = true) : BlkOk X.N X.env.scope scope own := by
  have b := blkOk_by h
  subst hN
  exact ⟨b.kind, b.uniq, b.ix, fun y hy e => by rw [hs]; exact b.free y hy e, b.own⟩
def blkFam (F : Fam) (scope : Scope) (hk : scope.kind = .function) : Fam where
  ι := F.ι × Shared × Hp × Addr × List (Str × Addr) × List Addr
  X := fun p => (F.X p.1).blk p.2.1 p.2.2.1 scope (compEnvC scope p.2.2.2.2.1 p.2.2.2.1 (F.X p.1).env) p.2.2.2.2.2
  P := F.P
  w := F.w
  K := F.K
  mg := F.mg
  base := F.base
  N := F.N
  sn := relN F.sn scope.names
  E := L2.E0
  cl := F.cl
  O := F.O
  lv := F.lv
  hP := fun p => F.hP p.1
  hw := fun p => F.hw p.1
  hK := fun p => F.hK p.1
  hmg := fun p => F.hmg p.1
  hbase := fun p => F.hbase p.1
  hN := fun p => F.hN p.1
  hsn := fun p => by
    show (relS scope (F.X p.1).env.scope).names = _
    unfold relS relN relN.NameKind.beqF
    rw [F.hki, F.hsn]
    simp
  hot := F.hot
  calm := fun h p => F.calm h p.1
  nd := F.nd
  room := fun p => F.room p.1
  hd := fun h p => F.hd h p.1
  own := fun p => PassesOwn.never
  pas := fun p => by
    have z := passN (X := (F.X p.1).blk p.2.1 p.2.2.1 scope (compEnvC scope p.2.2.2.2.1 p.2.2.2.1 (F.X p.1).env) p.2.2.2.2.2)
    rw [show ((F.X p.1).blk p.2.1 p.2.2.1 scope (compEnvC scope p.2.2.2.2.1 p.2.2.2.1 (F.X p.1).env) p.2.2.2.2.2).prog = F.P from F.hP p.1, show ((F.X p.1).blk p.2.1 p.2.2.1 scope (compEnvC scope p.2.2.2.2.1 p.2.2.2.1 (F.X p.1).env) p.2.2.2.2.2).w = F.w from F.hw p.1] at z
    exact z
  hki := fun p => hk
  sto := stoB scope.names
  hsto := fun p x h => by
    unfold stoB at h
    have key : ∀ k, scope.names.lookup x = some k → k ≠ .free → (relS scope (F.X p.1).env.scope).names.lookup x = some k := fun k e n => lookup_relS_keep n e
    split at h
    · rename_i e
      have z := key _ e (by decide)
      exact ⟨.inl z, .inr z⟩
    · rename_i e
      have z := key _ e (by decide)
      refine ⟨.inr z, .inl ?_⟩
      show (scope.names.lookup x == some NameKind.cell) = true
      rw [e]
      rfl
    · cases h
/-- one turn: what it adds -/
def lcStep (tg : Tg) (tt : GT) (te : GE) (ρw : Env) (d : D) : Out (List D) :=
  match tg d ρw with
  | none => .stuck
  | some ρ2 => match tt ρ2 with
    | .ok true => match te ρ2 with
      | .ok y => .ok [y]
      | _ => .stuck
    | .ok false => .ok []
    | _ => .stuck
def lcAll (f : D → Out (List D)) : List D → Out (List D)
  | [] => .ok []
  | d :: ds => (f d).bind fun a => (lcAll f ds).bind fun r => .ok (a ++ r)
def wipeE (ρ : Env) (vs : List Nat) : Env := match vs with
  | [] => ρ
  | v :: vs => (wipeE ρ vs).set v none
def eLc (gi : GA) (tg : Tg) (tt : GT) (te : GE) (vs : List Nat) : GE := fun ρ => (gi ρ).bind fun ds => if ds.length ≤ 1000000 then (lcAll (lcStep tg tt te (wipeE ρ vs)) ds).bind fun r => .ok (.list r) else .stuck
def gYes : GT := fun _ => .ok true
section
variable {F : Fam} {K : PySem.W.Frag} {H0 : Hp} {hid0 : List Addr} {O : Nat → Option Bool} {s : Sx} {ρ : Env}
theorem wipe_get : ∀ (σ : L2.St) (vs : List Nat) (j : Nat), (wipe σ vs)[j]? = if j ∈ vs ∧ j < σ.length then some none else σ[j]?
  | σ, [], j => by simp [wipe]
  | σ, v :: vs, j => by
    unfold wipe
    by_cases h : v = j
    · subst h
      by_cases hl : v < σ.length
      · rw [List.getElem?_set_self (by rw [wipe_length]; exact hl), if_pos ⟨List.mem_cons_self, hl⟩]
      · rw [if_neg (fun z => hl z.2), List.getElem?_eq_none (by rw [List.length_set, wipe_length]; omega), List.getElem?_eq_none (by omega)]
    · rw [List.getElem?_set_ne h, wipe_get σ vs j]
      have : (j ∈ v :: vs) ↔ j ∈ vs := by simp [Ne.symm h]
      simp only [this]
theorem wipe_same {σ σ' : L2.St} {vs js : List Nat} (hl : σ'.length = σ.length) (h : ∀ j, j ∉ js → σ'[j]? = σ[j]?) (hs : ∀ j ∈ js, j ∈ vs) : wipe σ' vs = wipe σ vs := by
  apply List.ext_getElem?
  intro j
  rw [wipe_get, wipe_get, hl]
  by_cases c : j ∈ vs ∧ j < σ.length
  · rw [if_pos c, if_pos c]
  · rw [if_neg c, if_neg c]
    by_cases hj : j ∈ js
    · have : ¬ j < σ.length := fun z => c ⟨hs j hj, z⟩
      rw [List.getElem?_eq_none (by omega), List.getElem?_eq_none (by omega)]
    · exact h j hj
theorem wipeE_length : ∀ (ρ : Env) (vs : List Nat), (wipeE ρ vs).length = ρ.length
  | ρ, [] => rfl
  | ρ, v :: vs => by unfold wipeE; rw [List.length_set, wipeE_length ρ vs]
theorem wipeE_some : ∀ {ρ : Env} {vs : List Nat} {j : Nat} {d : D}, (wipeE ρ vs)[j]? = some (some d) → ρ[j]? = some (some d) ∧ j ∉ vs
  | ρ, [], j, d, h => ⟨h, by simp⟩
  | ρ, v :: vs, j, d, h => by
    unfold wipeE at h
    by_cases hj : v = j
    · subst hj
      by_cases hl : v < (wipeE ρ vs).length
      · rw [List.getElem?_set_self hl] at h; cases h
      · rw [List.getElem?_eq_none (by rw [List.length_set]; omega)] at h; cases h
    · rw [List.getElem?_set_ne hj] at h
      obtain ⟨h1, h2⟩ := wipeE_some h
      exact ⟨h1, by simp only [List.mem_cons, not_or]; exact ⟨Ne.symm hj, h2⟩⟩
theorem Sees.wiped (S : Sees K H0 hid0 O s ρ) (vs : List Nat) : Sees K H0 hid0 O { s with σ := wipe s.σ vs } (wipeE ρ vs) where
  len := by
    show (wipe s.σ vs).length = _
    rw [wipe_length, wipeE_length]
    exact S.len
  ex0 := S.ex0
  sub := S.sub
  knd := S.knd
  dom0 := S.dom0
  tb0 := S.tb0
  fz := fun j d h1 h2 => by
    obtain ⟨h2, h3⟩ := wipeE_some h2
    obtain ⟨v, a, b⟩ := S.fz j d h1 h2
    refine ⟨v, ?_, b⟩
    show (wipe s.σ vs)[j]? = _
    rw [wipe_get, if_neg (fun z => h3 z.1)]
    exact a
  ow := fun j d h1 h2 => by
    obtain ⟨h2, h3⟩ := wipeE_some h2
    obtain ⟨v, a, b⟩ := S.ow j d h1 h2
    refine ⟨v, ?_, b⟩
    show (wipe s.σ vs)[j]? = _
    rw [wipe_get, if_neg (fun z => h3 z.1)]
    exact a
  oh := S.oh
  inj := S.inj
  led := fun j d h1 h2 => S.led j d h1 (wipeE_some h2).1
theorem lcAll_at {f : D → Out (List D)} : ∀ {ds : List D} {r : List D}, lcAll f ds = .ok r → ∀ {i : Nat} {d : D}, ds[i]? = some d → ∃ acc a, lcAll f (ds.take i) = .ok acc ∧ f d = .ok a ∧ lcAll f (ds.take (i + 1)) = .ok (acc ++ a)
  | [], _, _, _, _, h => by simp at h
  | x :: ds, r, hr, 0, d, h => by
    have e : x = d := by simpa using h
    subst e
    unfold lcAll at hr
    cases hf : f x with
    | stuck => rw [hf] at hr; cases hr
    | err c => rw [hf] at hr; cases hr
    | ok a => exact ⟨[], a, rfl, rfl, by simp [lcAll, hf]⟩
  | x :: ds, r, hr, i + 1, d, h => by
    unfold lcAll at hr
    cases hf : f x with
    | stuck => rw [hf] at hr; cases hr
    | err c => rw [hf] at hr; cases hr
    | ok a =>
      rw [hf, bind_ok] at hr
      cases hq : lcAll f ds with
      | stuck => rw [hq] at hr; cases hr
      | err c => rw [hq] at hr; cases hr
      | ok r' =>
        obtain ⟨acc, b, h1, h2, h3⟩ := lcAll_at hq (i := i) (d := d) (by simpa using h)
        exact ⟨a ++ acc, b, by simp [lcAll, hf, h1], h2, by rw [List.take_succ_cons]; simp [lcAll, hf, h3, List.append_assoc]⟩
theorem lcStep_le {tg : Tg} {tt : GT} {te : GE} {ρw : Env} {d : D} {a : List D} (h : lcStep tg tt te ρw d = .ok a) : a.length ≤ 1 := by
  unfold lcStep at h
  split at h
  · cases h
  · split at h
    · split at h
      · cases h; simp
      · cases h
    · cases h; simp
    · cases h
theorem lcAll_le {f : D → Out (List D)} (hf : ∀ d a, f d = .ok a → a.length ≤ 1) : ∀ {ds : List D} {r : List D}, lcAll f ds = .ok r → r.length ≤ ds.length
  | [], r, h => by cases h; simp
  | x :: ds, r, h => by
    unfold lcAll at h
    cases q : f x with
    | stuck => rw [q] at h; cases h
    | err c => rw [q] at h; cases h
    | ok a =>
      rw [q, bind_ok] at h
      cases q2 : lcAll f ds with
      | stuck => rw [q2] at h; cases h
      | err c => rw [q2] at h; cases h
      | ok r' =>
        rw [q2, bind_ok] at h
        cases h
        have h1 := hf x a q
        have h2 := lcAll_le hf q2
        rw [List.length_append, List.length_cons]
        omega
theorem hide_cons {D : Addr} {hid : List Addr} {H : Hp} (h : H D = none) : hide (D :: hid) H = hide hid H := by
  funext b
  unfold hide
  by_cases hb : b = D
  · subst hb
    rw [if_pos List.mem_cons_self, h]
    split <;> rfl
  · simp [hb]
theorem sem_lc {m : Md} {wi : TI} {g : TG} {t : TT} {te : TE} {gi : GA} {tg : Tg} {tt : GT} {ge : GE} {js : List Nat} {vs : List Nat} {scope : Scope} {hk : scope.kind = .function}
    (hi : SemI F m wi gi) (hg : SemG (blkFam F scope hk) g tg js) (ht : SemT (blkFam F scope hk) t tt) (he : SemE (blkFam F scope hk) .fz te ge) (hjs : ∀ j ∈ js, j ∈ vs) : SemE F .au (tLc wi g t te vs) (eLc gi tg tt ge vs) := fun H0 hid0 s ρ S Q q => by
  refine hi H0 hid0 s ρ S _ ?_
  unfold eLc at q
  cases hds : gi ρ with
  | stuck => rw [hds] at q; exact q.elim
  | err c => rw [hds, bind_err] at q; exact q
  | ok ds =>
    rw [hds, bind_ok] at q
    by_cases hlen : ds.length ≤ 1000000
    case neg => rw [if_neg hlen] at q; exact q.elim
    rw [if_pos hlen] at q
    cases hr : lcAll (lcStep tg tt ge (wipeE ρ vs)) ds with
    | stuck => rw [hr] at q; exact q.elim
    | err c =>
      -- no error comes of a comprehension
      exfalso
      have : ∀ ds c, lcAll (lcStep tg tt ge (wipeE ρ vs)) ds ≠ .err c := by
        intro ds
        induction ds with
        | nil => intro c h; cases h
        | cons d ds ih =>
          intro c h
          unfold lcAll at h
          cases q1 : lcStep tg tt ge (wipeE ρ vs) d with
          | stuck => rw [q1] at h; cases h
          | err c' =>
            unfold lcStep at q1
            split at q1
            · cases q1
            · split at q1
              · split at q1 <;> cases q1
              · cases q1
              · cases q1
          | ok a =>
            rw [q1, bind_ok] at h
            cases q2 : lcAll (lcStep tg tt ge (wipeE ρ vs)) ds with
            | stuck => rw [q2] at h; cases h
            | err c' => exact ih c' q2
            | ok r' => rw [q2] at h; cases h
      exact this ds c hr
    | ok r =>
      rw [hr, bind_ok] at q
      intro J H1 e1 W Dl hD
      have S1 := S.ext e1
      refine ⟨fun i n H => n = ds.length - i ∧ i ≤ ds.length ∧ Ex H1 H ∧ ∃ acc ys, lcAll (lcStep tg tt ge (wipeE ρ vs)) (ds.take i) = .ok acc ∧ H Dl = some (.lst ys) ∧ MnA F.K (hide (Dl :: s.hid) H) acc ys,
        ⟨ds.length, by simp, Nat.zero_le _, Ex.new hD, [], [], rfl, upd_same, by simp [MnA]⟩, ?_⟩
      rintro i n H ⟨hn, hi2, eH, acc, ys, hacc, hDl, hmn⟩
      have hB : Wx (Rb m s.hid H1) H := by
        cases m with
        | bo => exact (hide_mono eH).trans hide_ex
        | fz => exact (hide_mono eH).trans hide_ex
        | au => exact (hide_mono eH).trans hide_ex
      have hC : Wx (hide s.hid H1) (hide (Dl :: s.hid) H) := by
        rw [← hide_cons hD]
        exact hide_mono eH
      have hknd : ∀ a ∈ Dl :: s.hid, IsC (H a) := fun a ha => by
        rcases List.mem_cons.mp ha with rfl | ha
        · rw [hDl]; trivial
        · exact knd_ex eH S1.knd a ha
      by_cases hlt : i < ds.length
      · have hd : ds[i]? = some ds[i] := List.getElem?_eq_getElem hlt
        obtain ⟨acc', a, h1, h2, h3⟩ := lcAll_at hr hd
        rw [hacc] at h1
        cases h1
        obtain ⟨go, yl⟩ := W.at_ (Dl :: s.hid) H hB hC (fun a ha => (hknd a ha).ne) i _ hd
        refine .inr ⟨go, fun H' => Ex H1 H' ∧ ∃ ys', H' Dl = some (.lst ys') ∧ MnA F.K (hide (Dl :: s.hid) H') (acc ++ a) ys', fun H' ⟨a1, ys', a2, a3⟩ => ⟨n - 1, by omega, by omega, by omega, a1, _, ys', h3, a2, a3⟩, fun x H2 hy => ?_⟩
        obtain ⟨e2, mx⟩ := yl x H2 hy
        have hDl2 := e2.l hDl
        -- the block's state
        have SB : Sees F.K H0 hid0 F.O { hid := Dl :: s.hid, own := s.own, σ := wipe s.σ vs, H := H2 } (wipeE ρ vs) := by
          have a1 := (S1.hides (o := .lst []) hD trivial).wiped vs
          refine ⟨a1.len, S.ex0.trans ((e1.trans eH).trans e2), a1.sub, knd_ex e2 hknd, a1.dom0, a1.tb0, fun j d b1 b2 => ?_, fun j d b1 b2 => ?_, a1.oh, a1.inj, fun j d b1 b2 => ?_⟩
          · obtain ⟨v, c1, c2⟩ := (S1.wiped vs).fz j d b1 b2
            exact ⟨v, c1, Mn.mono (hC.trans (hide_mono e2)) d v c2⟩
          · obtain ⟨b, c1, c2, c3⟩ := (S1.wiped vs).ow j d b1 b2
            refine ⟨b, c1, c2, ?_⟩
            cases d with
            | list ds =>
              obtain ⟨xs, q1, q2⟩ := c3
              exact ⟨xs, e2.l (eH.l q1), MnA.mono ((hide_new (hid := b :: s.hid) (new_of hD) (eH.trans e2)).trans hide_swap) ds xs q2⟩
            | dict ps =>
              obtain ⟨xs, q1, q2⟩ := c3
              exact ⟨xs, e2.d (eH.d q1), MnK.mono ((hide_new (hid := b :: s.hid) (new_of hD) (eH.trans e2)).trans hide_swap) ps xs q2⟩
            | none => exact c3.elim
            | bool _ => exact c3.elim
            | int _ => exact c3.elim
            | str _ => exact c3.elim
            | tuple _ => exact c3.elim
          · obtain ⟨mu, L, c1, c2, c3, c4⟩ := (S1.wiped vs).led j d b1 b2
            exact ⟨mu, L, c1, c2.step (fun b hb => isC_ex (eH.trans e2) (c2.isC b hb)) (hC.trans (hide_mono e2)) (fun b hb => List.mem_cons_of_mem _ (c2.hd b hb)), c3, c4⟩
        unfold lcStep at h2
        cases htg : tg ds[i] (wipeE ρ vs) with
        | none => rw [htg] at h2; cases h2
        | some ρ2 =>
          rw [htg] at h2
          refine hg H0 hid0 _ _ ρ2 _ x SB mx htg _ fun σ2 S2 L2 K2 => ?_
          refine ⟨?_, ht H0 hid0 { hid := Dl :: s.hid, own := s.own, σ := σ2, H := H2 } ρ2 S2 _ ?_⟩
          · have z := wipe_same (vs := vs) L2 K2 hjs
            rw [z]
            exact wipe_same (js := vs) (by rw [wipe_length]) (fun j hj => by rw [wipe_get, if_neg (fun z => hj z.1)]) (fun _ h => h)
          · dsimp only at h2
            cases htt : tt ρ2 with
            | stuck => rw [htt] at h2; cases h2
            | err c => rw [htt] at h2; cases h2
            | ok b =>
              rw [htt] at h2
              intro H3 e3
              cases b with
              | false =>
                cases h2
                show Ex H1 H3 ∧ _
                exact ⟨(eH.trans e2).trans e3, ys, e3.l hDl2, by rw [List.append_nil]; exact MnA.mono (hide_mono (e2.trans e3)) _ _ hmn⟩
              | true =>
                dsimp only at h2
                show te σ2 H3 _
                refine he H0 hid0 { hid := Dl :: s.hid, own := s.own, σ := σ2, H := H3 } ρ2 (S2.ext e3) _ ?_
                cases hge : ge ρ2 with
                | stuck => rw [hge] at h2; cases h2
                | err c => rw [hge] at h2; cases h2
                | ok y =>
                  rw [hge] at h2
                  cases h2
                  intro v H4 e4 r4
                  have r4 : Mn F.K (hide (Dl :: s.hid) H4) y v := r4
                  have hDl4 := e4.l (e3.l hDl2)
                  have hle := lcAll_le (fun d a => lcStep_le) hacc
                  refine ⟨ys, hDl4, ?_, ?_, _, upd_same, ?_⟩
                  · rw [hmn.length]
                    refine Nat.lt_of_le_of_lt hle ?_
                    rw [List.length_take]
                    exact Nat.lt_of_lt_of_le (Nat.lt_of_le_of_lt (Nat.min_le_left _ _) hlt) (small_line hlen)
                  · exact Ex.mut (((eH.trans e2).trans e3).trans e4) (new_of hD) (by rw [hDl4]; trivial)
                  · rw [hide_upd List.mem_cons_self]
                    refine (MnA.mono (hide_mono ((e2.trans e3).trans e4)) _ _ hmn).append ?_
                    simp only [MnA]
                    exact ⟨v, [], rfl, r4, rfl⟩
      · have hi3 : i = ds.length := by omega
        subst hi3
        refine .inl ⟨W.end_ (Dl :: s.hid) H hB hC fun a ha => (hknd a ha).ne, ?_⟩
        rw [List.take_length, hr] at hacc
        cases hacc
        refine q (.ref Dl) H (e1.trans eH) (rm_back e1 ?_)
        unfold Rm
        dsimp only
        refine (if_pos (show isCon (PyData.list r) = true from rfl)).mpr ⟨Dl, rfl, new_of hD, ys, hDl, hmn⟩
/-- a clause's tests -/
def DTs (F : Fam) (ifs : List Expr) (g : GT) : Prop := ∃ tt, (∀ i, PTs (F.X i) ifs tt) ∧ SemT F tt g
theorem dts_nil : DTs F [] gYes := ⟨_, fun _ => pts_nil, fun H0 hid0 s ρ S Q q => q s.H (Ex.refl _)⟩
theorem dts_one {e : Expr} {g : GT} (h : DT F e g) : DTs F [e] g := ⟨_, fun i => pts_one (h.choose_spec.1 i), h.choose_spec.2⟩
theorem de_lc {m : Md} {elt tg iter : Expr} {ifs : List Expr} {scope : Scope} {pos : Pos} {gi : GA} {tgd : Tg} {tt : GT} {ge : GE} {js : List Nat} (own : List (Str × Nat)) (hk : scope.kind = .function)
    (ok : blkC F.N (scOf F.sn) scope own = true) (hi : DI F m tg iter gi) (hg : DG (blkFam F scope hk) tg tgd js) (ht : DTs (blkFam F scope hk) ifs tt) (he : DE (blkFam F scope hk) .fz elt ge)
    (hjs : (js.all fun j => (own.map (·.2)).contains j) = true) (hs : ∀ env x, foldedSetIterable iter env x = pure x := by intro _ _; rfl) (hc : F.hot = false := by rfl) : DE F .au (.ListComp elt [⟨tg, iter, ifs, 0⟩] scope pos) (eLc gi tgd tt ge (own.map (·.2))) := by
  obtain ⟨wi, pi, si⟩ := hi
  obtain ⟨g, pg, sg⟩ := hg
  obtain ⟨t, pt, st⟩ := ht
  obtain ⟨te, pe, se⟩ := he
  refine ⟨tLc wi g t te (own.map (·.2)), fun i => pe_lc (F.calm hc i) (by rw [F.hN]; exact F.nd) (pi i) (blk_ok (F.hN i) (F.hsn i) ok) (fun s H C cl fp => pg (i, s, H, C, cl, fp)) (fun s H C cl fp => pt (i, s, H, C, cl, fp)) (fun s H C cl fp => pe (i, s, H, C, cl, fp)) (hs _), sem_lc si sg st se fun j hj => ?_⟩
  rw [List.all_eq_true] at hjs
  have := hjs j hj
  simpa using this
end
end DL
set_option Elab.async false
set_option linter.all false
set_option maxRecDepth 100000
set_option maxHeartbeats 4000000
namespace DL
open PySem PySem.Spec PyProof.Rows L2
variable [TabsC]
section
variable {F : Fam} {K : PySem.W.Frag}
/-! ### calls by values -/
def eCl (f : List D → Option D) (a : GA) : GE := fun ρ => (a ρ).bind fun ds => lift (f ds)
def CallS (K : PySem.W.Frag) (m : Md) (r : List V → Hp → VK → Prop) (f : List D → Option D) : Prop := ∀ (hid : List Addr) (H : Hp) (ds : List D) (z : D) (vs : List V) (Q : VK), (∀ a ∈ hid, IsC (H a)) → RmA K .bo hid H H ds vs → f ds = some z →
  (∀ v H', Ex H H' → Rm K m hid H H' z v → Q v H') → r vs H Q
theorem rma_at {hid : List Addr} {H1 H H' : Hp} : ∀ {ds : List D} {vs : List V}, RmA K .bo hid H1 H' ds vs → RmA K .bo hid H H' ds vs
  | _, _, .nil => .nil
  | _, _, .cons h t => .cons h (rma_at t)
theorem sem_cl {m : Md} {r : List V → Hp → VK → Prop} {f : List D → Option D} {ta : TA} {ga : GA} (h : SemA F .bo ta ga) (hr : CallS F.K m r f) : SemE F m (tCB r ta) (eCl f ga) := fun H0 hid0 s ρ S Q q => by
  refine h H0 hid0 s ρ S _ ?_
  unfold eCl at q
  split
  · rename_i ds hd
    intro vs H1 e1 r1
    rw [hd, bind_ok] at q
    cases hf : f ds with
    | none => rw [hf] at q; exact q.elim
    | some z =>
      rw [hf] at q
      exact hr s.hid H1 ds z vs Q (knd_ex e1 S.knd) (rma_at r1) hf fun v' H' e' r' => q v' H' (e1.trans e') (rm_back e1 r')
  · rename_i c hd
    rw [hd, bind_err] at q
    exact q
  · rename_i hd
    rw [hd, bind_stuck] at q
    exact q
theorem CallS.or1 {m : Md} {r r' : List V → Hp → VK → Prop} {f f' : List D → Option D} (h : CallS K m r f) (h' : CallS K m r' f') : CallS K m (fun xs H Q => r xs H Q ∨ r' xs H Q) fun ds => (f ds).or (f' ds) := fun hid H ds z vs Q k rs hf q => by
  have hf : (f ds).or (f' ds) = some z := hf
  cases hq : f ds with
  | some z' =>
    rw [hq] at hf
    exact .inl (h hid H ds z vs Q k rs (by rw [hq]; exact hf) q)
  | none =>
    rw [hq] at hf
    exact .inr (h' hid H ds z vs Q k rs hf q)
theorem callR0 {f : Value} {r : PySem.W.Frag → List V → Hp → VK → Prop} (h : ∀ X : Cx, CallR X f (r X.K)) (i : F.ι) : CallR (F.X i) f (r F.K) := by
  have z := h (F.X i)
  rw [F.hK i] at z
  exact z
theorem callR {f : Value} {r : PySem.W.Frag → List V → Hp → VK → Prop} (h : ∀ X : Cx, X.calm = true → CallR X f (r X.K)) (hc : F.hot = false) (i : F.ι) : CallR (F.X i) f (r F.K) := by
  have z := h (F.X i) (F.calm hc i)
  rw [F.hK i] at z
  exact z
theorem de_callB {m : Md} {id : String} {x : Str} {r : List V → Hp → VK → Prop} {f : List D → Option D} {e : Expr} {es : List Expr} {ga : GA} {p pos : Pos} (hc : ∀ i, CallR (F.X i) (.builtin id) r) (hs : CallS F.K m r f) (hm : F.mg x = none) (hv : bootBuiltins x = some (.builtin id)) (ha : DA F .bo (e :: es) ga)
    (hg : F.sn.lookup x = some .globalImplicit := by rfl) (hn : x ≠ "__name__" := by decide) (hdb : (x == ("__debug__" : Str)) = false := by decide)
    (he : ∀ env, starEach (e :: es) env = (false, eval e env) :: starEach es env := by intro _; rfl) (hpl : ∀ env, (backTo pos (starEach es env)).any (·.1) = false := by intro _; rfl) : DE F m (.Call (.Name x p) (e :: es) [] pos) (eCl f ga) :=
  ⟨_, fun i => pe_callB (hc i) (gl_of hg i) (by rw [F.hmg]; exact hm) hv (ha.choose_spec.1 i) hn hdb (he _) (hpl _), sem_cl ha.choose_spec.2 hs⟩
theorem de_callT {m : Md} {T : String} {x : Str} {r : List V → Hp → VK → Prop} {f : List D → Option D} {e : Expr} {es : List Expr} {ga : GA} {p pos : Pos} (hc : ∀ i, CallR (F.X i) (.type T) r) (hs : CallS F.K m r f) (hm : F.mg x = none) (hv : bootBuiltins x = some (.type T)) (ha : DA F .bo (e :: es) ga)
    (hg : F.sn.lookup x = some .globalImplicit := by rfl) (hn : x ≠ "__name__" := by decide) (hdb : (x == ("__debug__" : Str)) = false := by decide)
    (he : ∀ env, starEach (e :: es) env = (false, eval e env) :: starEach es env := by intro _; rfl) (hpl : ∀ env, (backTo pos (starEach es env)).any (·.1) = false := by intro _; rfl) : DE F m (.Call (.Name x p) (e :: es) [] pos) (eCl f ga) :=
  ⟨_, fun i => pe_callTy (hc i) (gl_of hg i) (by rw [F.hmg]; exact hm) hv (ha.choose_spec.1 i) hn hdb (he _) (hpl _), sem_cl ha.choose_spec.2 hs⟩
theorem rma1 {m : Md} {hid : List Addr} {H H' : Hp} {d : D} {vs : List V} (h : RmA K m hid H H' [d] vs) : ∃ v, vs = [v] ∧ Rm K m hid H H' d v := by
  cases h with
  | cons h t => cases t; exact ⟨_, rfl, h⟩
theorem rma2 {m : Md} {hid : List Addr} {H H' : Hp} {d e : D} {vs : List V} (h : RmA K m hid H H' [d, e] vs) : ∃ v u, vs = [v, u] ∧ Rm K m hid H H' d v ∧ Rm K m hid H H' e u := by
  cases h with
  | cons h t => cases t with
    | cons h' t => cases t; exact ⟨_, _, rfl, h, h'⟩
/-- one argument -/
def f1 (f : D → Option D) : List D → Option D
  | [d] => f d
  | _ => none
/-- len -/
def dLen : D → Option D
  | .list ds => some (.int ds.length)
  | .tuple ds => some (.int ds.length)
  | .str x => if x.length ≤ 1000000 then some (.int x.length) else none
  | .dict [(.none, .list ds)] => some (.int ds.length)
  | .dict [(.bool _, _)] => none
  | .dict ps => some (.int ps.length)
  | _ => none
theorem MnK.length {H : Hp} : ∀ {ps : List (D × D)} {kvs : List (Key × V)}, MnK K H ps kvs → kvs.length = ps.length
  | [], kvs, h => by
    simp only [MnK] at h
    subst h
    rfl
  | (k, d) :: ps, kvs, h => by
    simp only [MnK] at h
    obtain ⟨q, v, r, rfl, _, _, h3⟩ := h
    simp [MnK.length h3]
theorem calls_len {m : Md} : CallS K m (fun xs H Q => (∃ x n, xs = [x] ∧ LenV K x H n ∧ Q (.int n) H) ∨ ∃ a kvs, xs = [V.ref a] ∧ H a = some (.dK kvs) ∧ Q (.int kvs.length) H) (f1 dLen) := fun hid H ds z vs Q k rs hf q => by
  match ds, hf with
  | [d], hf =>
    obtain ⟨v, rfl, r⟩ := rma1 rs
    have hf : dLen d = some z := hf
    cases d with
    | list ds =>
      cases hf
      obtain ⟨a, xs, rfl, h1, h2⟩ := bo_list r
      rw [← h2.length] at q
      exact .inl ⟨_, _, rfl, .inl ⟨xs, SqL.of h1, rfl⟩, q _ _ (Ex.refl _) rm_int⟩
    | tuple ds =>
      cases hf
      obtain ⟨a, xs, rfl, h1, h2⟩ := bo_tup r
      rw [← h2.length] at q
      exact .inl ⟨_, _, rfl, .inr ⟨xs, Evl.ex_t hide_ex h1, rfl⟩, q _ _ (Ex.refl _) rm_int⟩
    | str x =>
      unfold dLen at hf
      dsimp only at hf
      split at hf
      · rename_i hl
        cases hf
        have := bo_str r
        subst this
        exact .inl ⟨_, _, rfl, ⟨small_line hl, rfl⟩, q _ _ (Ex.refl _) rm_int⟩
      · cases hf
    | dict ps =>
      rcases bo_dict r with ⟨a, kvs, rfl, h1, h2⟩ | ⟨a, ns, rfl, h1, rfl⟩ | ⟨b, d, rfl⟩
      · have hz : z = .int ps.length := by
          unfold dLen at hf
          split at hf
          · rename_i e; cases e
          · rename_i e; cases e
          · rename_i e; cases e
          · rename_i e
            cases e
            simp only [MnK] at h2
            obtain ⟨q', _, _, _, hk, _⟩ := h2
            cases q' <;> simp [kD] at hk
          · cases hf
          · rename_i e; cases e; cases hf; rfl
          · cases hf
        subst hz
        rw [← h2.length] at q
        exact .inr ⟨a, kvs, rfl, h1, q _ _ (Ex.refl _) rm_int⟩
      · cases hf
        refine .inl ⟨_, _, rfl, .inl ⟨_, h1, rfl⟩, ?_⟩
        have e : ((ns.map V.int).length : Int) = ((ns.map PyData.int).length : Int) := by simp
        rw [e]
        exact q _ _ (Ex.refl _) rm_int
      · cases hf
    | none => cases hf
    | bool _ => cases hf
    | int _ => cases hf
theorem de_len {m ma : Md} {e : Expr} {g : GE} {p pos : Pos} (hm : F.mg "len" = none) (h : DE F ma e g) (hg : F.sn.lookup ("len" : Str) = some .globalImplicit := by rfl)
    (he : ∀ env, starEach [e] env = [(false, eval e env)] := by intro _; rfl) : DE F m (.Call (.Name "len" p) [e] [] pos) (eCl (f1 dLen) (aCons g aNil)) :=
  de_callB (fun i => (callR0 (r := fun K xs H Q => ∃ x n, xs = [x] ∧ LenV K x H n ∧ Q (.int n) H) (fun X => call_len) i).or call_lenD) calls_len hm PySem.boot_len (da_cons (de_any h) da_nil he) hg (by decide) (by decide) he (by intro _; rfl)
/-- a sum, all, any -/
def boolsOf : List D → Option (List Bool)
  | [] => some []
  | .bool b :: ds => (boolsOf ds).map (b :: ·)
  | _ => none
theorem boolsOf_eq : ∀ {ds : List D} {bs : List Bool}, boolsOf ds = some bs → ds = bs.map .bool
  | [], bs, h => by cases h; rfl
  | .bool b :: ds, bs, h => by
    unfold boolsOf at h
    cases q : boolsOf ds with
    | none => rw [q] at h; cases h
    | some r =>
      rw [q] at h
      cases h
      rw [boolsOf_eq q]
      rfl
  | .none :: ds, bs, h => by cases h
  | .int _ :: ds, bs, h => by cases h
  | .str _ :: ds, bs, h => by cases h
  | .list _ :: ds, bs, h => by cases h
  | .tuple _ :: ds, bs, h => by cases h
  | .dict _ :: ds, bs, h => by cases h
@[simp] theorem boolsOf_map : ∀ bs : List Bool, boolsOf (bs.map .bool) = some bs
  | [] => rfl
  | b :: bs => by simp [boolsOf, boolsOf_map bs]
def intsOf : List D → Option (List Int)
  | [] => some []
  | .int b :: ds => (intsOf ds).map (b :: ·)
  | _ => none
theorem intsOf_eq : ∀ {ds : List D} {bs : List Int}, intsOf ds = some bs → ds = bs.map .int
  | [], bs, h => by cases h; rfl
  | .int b :: ds, bs, h => by
    unfold intsOf at h
    cases q : intsOf ds with
    | none => rw [q] at h; cases h
    | some r =>
      rw [q] at h
      cases h
      rw [intsOf_eq q]
      rfl
  | .none :: ds, bs, h => by cases h
  | .bool _ :: ds, bs, h => by cases h
  | .str _ :: ds, bs, h => by cases h
  | .list _ :: ds, bs, h => by cases h
  | .tuple _ :: ds, bs, h => by cases h
  | .dict _ :: ds, bs, h => by cases h
@[simp] theorem intsOf_map : ∀ bs : List Int, intsOf (bs.map .int) = some bs
  | [] => rfl
  | b :: bs => by simp [intsOf, intsOf_map bs]
def strsOf : List D → Option (List Str)
  | [] => some []
  | .str b :: ds => (strsOf ds).map (b :: ·)
  | _ => none
theorem strsOf_eq : ∀ {ds : List D} {bs : List Str}, strsOf ds = some bs → ds = bs.map .str
  | [], bs, h => by cases h; rfl
  | .str b :: ds, bs, h => by
    unfold strsOf at h
    cases q : strsOf ds with
    | none => rw [q] at h; cases h
    | some r =>
      rw [q] at h
      cases h
      rw [strsOf_eq q]
      rfl
  | .none :: ds, bs, h => by cases h
  | .bool _ :: ds, bs, h => by cases h
  | .int _ :: ds, bs, h => by cases h
  | .list _ :: ds, bs, h => by cases h
  | .tuple _ :: ds, bs, h => by cases h
  | .dict _ :: ds, bs, h => by cases h
@[simp] theorem strsOf_map : ∀ bs : List Str, strsOf (bs.map .str) = some bs
  | [] => rfl
  | b :: bs => by simp [strsOf, strsOf_map bs]
def dAll : D → Option D
  | .list ds => (boolsOf ds).map fun bs => .bool (bs.all id)
  | _ => none
theorem calls_all {m : Md} : CallS K m (rAll K) (f1 dAll) := fun hid H ds z vs Q k rs hf q => by
  match ds, hf with
  | [d], hf =>
    obtain ⟨v, rfl, r⟩ := rma1 rs
    have hf : dAll d = some z := hf
    cases d with
    | list ds =>
      obtain ⟨a, xs, rfl, h1, h2⟩ := bo_list r
      have hf : (boolsOf ds).map (fun bs => PyData.bool (bs.all id)) = some z := hf
      cases hb : boolsOf ds with
      | none => rw [hb] at hf; cases hf
      | some bs =>
        rw [hb] at hf
        cases hf
        have := boolsOf_eq hb
        subst this
        have := h2.bools
        subst this
        exact ⟨a, bs, rfl, SqL.of h1, q _ _ (Ex.refl _) rm_bool⟩
    | tuple ds => cases hf
    | str x => cases hf
    | dict ps => cases hf
    | none => cases hf
    | bool _ => cases hf
    | int _ => cases hf
theorem de_all {m ma : Md} {e : Expr} {g : GE} {p pos : Pos} (hm : F.mg "all" = none) (h : DE F ma e g) (hg : F.sn.lookup ("all" : Str) = some .globalImplicit := by rfl)
    (he : ∀ env, starEach [e] env = [(false, eval e env)] := by intro _; rfl) (hc : F.hot = false := by rfl) : DE F m (.Call (.Name "all" p) [e] [] pos) (eCl (f1 dAll) (aCons g aNil)) :=
  de_callB (callR (r := rAll) (fun X h => cr_all h) hc) calls_all hm (by decide +kernel) (da_cons (de_any h) da_nil he) hg (by decide) (by decide) he (by intro _; rfl)
def dSum : D → Option D
  | .list ds => (intsOf ds).map fun bs => .int bs.sum
  | _ => none
theorem calls_sum {m : Md} : CallS K m (rSum K) (f1 dSum) := fun hid H ds z vs Q k rs hf q => by
  match ds, hf with
  | [d], hf =>
    obtain ⟨v, rfl, r⟩ := rma1 rs
    have hf : dSum d = some z := hf
    cases d with
    | list ds =>
      obtain ⟨a, xs, rfl, h1, h2⟩ := bo_list r
      have hf : (intsOf ds).map (fun bs => PyData.int bs.sum) = some z := hf
      cases hb : intsOf ds with
      | none => rw [hb] at hf; cases hf
      | some bs =>
        rw [hb] at hf
        cases hf
        have := intsOf_eq hb
        subst this
        have := h2.ints
        subst this
        exact ⟨a, bs, rfl, SqL.of h1, q _ _ (Ex.refl _) rm_int⟩
    | tuple ds => cases hf
    | str x => cases hf
    | dict ps => cases hf
    | none => cases hf
    | bool _ => cases hf
    | int _ => cases hf
theorem de_sum {m ma : Md} {e : Expr} {g : GE} {p pos : Pos} (hm : F.mg "sum" = none) (h : DE F ma e g) (hg : F.sn.lookup ("sum" : Str) = some .globalImplicit := by rfl)
    (he : ∀ env, starEach [e] env = [(false, eval e env)] := by intro _; rfl) (hc : F.hot = false := by rfl) : DE F m (.Call (.Name "sum" p) [e] [] pos) (eCl (f1 dSum) (aCons g aNil)) :=
  de_callB (callR (r := rSum) (fun X h => cr_sum h) hc) calls_sum hm (by decide +kernel) (da_cons (de_any h) da_nil he) hg (by decide) (by decide) he (by intro _; rfl)
/-- tuple(xs), list(xs) -/
def dTuple : D → Option D
  | .list ds => if ds.length ≤ 1000000 then some (.tuple ds) else none
  | .tuple ds => some (.tuple ds)
  | _ => none
theorem calls_tuple {m : Md} : CallS K m (fun xs H Q => ∃ p ys, xs = [.ref p] ∧ ((SqL K H p ys ∧ ∀ l, H l = none → Q (.ref l) (upd H l (.tup ys))) ∨ (SqT K H p ys ∧ Q (.ref p) H))) (f1 dTuple) := fun hid H ds z vs Q k rs hf q => by
  match ds, hf with
  | [d], hf =>
    obtain ⟨v, rfl, r⟩ := rma1 rs
    have hf : dTuple d = some z := hf
    have dom : ∀ a ∈ hid, noT (H a) ≠ none := fun a ha => (k a ha).ne
    cases d with
    | list ds =>
      obtain ⟨a, xs, rfl, h1, h2⟩ := bo_list r
      unfold dTuple at hf
      dsimp only at hf
      split at hf
      · cases hf
        exact ⟨a, xs, rfl, .inl ⟨SqL.of h1, fun l hl => q _ _ (Ex.new hl) (au_tup dom hl h2)⟩⟩
      · cases hf
    | tuple ds =>
      cases hf
      obtain ⟨a, xs, rfl, h1, h2⟩ := bo_tup r
      refine ⟨a, xs, rfl, .inr ⟨Evl.ex_t hide_ex h1, q _ _ (Ex.refl _) (rm_plain rfl ?_)⟩⟩
      simp only [Mn]
      exact ⟨a, xs, rfl, h1, h2⟩
    | str x => cases hf
    | dict ps => cases hf
    | none => cases hf
    | bool _ => cases hf
    | int _ => cases hf
theorem de_tuple {m ma : Md} {e : Expr} {g : GE} {p pos : Pos} (hm : F.mg "tuple" = none) (h : DE F ma e g) (hg : F.sn.lookup ("tuple" : Str) = some .globalImplicit := by rfl)
    (he : ∀ env, starEach [e] env = [(false, eval e env)] := by intro _; rfl) : DE F m (.Call (.Name "tuple" p) [e] [] pos) (eCl (f1 dTuple) (aCons g aNil)) :=
  de_callT (callR0 (r := fun K xs H Q => ∃ p ys, xs = [.ref p] ∧ ((SqL K H p ys ∧ ∀ l, H l = none → Q (.ref l) (upd H l (.tup ys))) ∨ (SqT K H p ys ∧ Q (.ref p) H))) fun X => call_tuple_of) calls_tuple hm (by decide +kernel) (da_cons (de_any h) da_nil he) hg (by decide) (by decide) he (by intro _; rfl)
def dList : D → Option D
  | .list ds => some (.list ds)
  | .tuple ds => some (.list ds)
  | _ => none
theorem calls_list : CallS K .au (fun xs H Q => ∃ p ys, xs = [.ref p] ∧ (SqL K H p ys ∨ SqT K H p ys) ∧ ∀ l, H l = none → Q (.ref l) (upd H l (.lst ys))) (f1 dList) := fun hid H ds z vs Q k rs hf q => by
  match ds, hf with
  | [d], hf =>
    obtain ⟨v, rfl, r⟩ := rma1 rs
    have hf : dList d = some z := hf
    cases d with
    | list ds =>
      cases hf
      obtain ⟨a, xs, rfl, h1, h2⟩ := bo_list r
      exact ⟨a, xs, rfl, .inl (SqL.of h1), fun l hl => q _ _ (Ex.new hl) (au_list hl h2)⟩
    | tuple ds =>
      cases hf
      obtain ⟨a, xs, rfl, h1, h2⟩ := bo_tup r
      exact ⟨a, xs, rfl, .inr (Evl.ex_t hide_ex h1), fun l hl => q _ _ (Ex.new hl) (au_list hl h2)⟩
    | str x => cases hf
    | dict ps => cases hf
    | none => cases hf
    | bool _ => cases hf
    | int _ => cases hf
theorem de_list {ma : Md} {e : Expr} {g : GE} {p pos : Pos} (hm : F.mg "list" = none) (h : DE F ma e g) (hg : F.sn.lookup ("list" : Str) = some .globalImplicit := by rfl)
    (he : ∀ env, starEach [e] env = [(false, eval e env)] := by intro _; rfl) : DE F .au (.Call (.Name "list" p) [e] [] pos) (eCl (f1 dList) (aCons g aNil)) :=
  de_callT (callR0 (r := fun K xs H Q => ∃ p ys, xs = [.ref p] ∧ (SqL K H p ys ∨ SqT K H p ys) ∧ ∀ l, H l = none → Q (.ref l) (upd H l (.lst ys))) fun X => call_list_of) calls_list hm (by decide +kernel) (da_cons (de_any h) da_nil he) hg (by decide) (by decide) he (by intro _; rfl)
/-- int(x): of an int, a bool, a text -/
def dInt : D → Option D
  | .int i => some (.int i)
  | .bool b => some (.int (if b then 1 else 0))
  | .str x => if x.length ≤ 640 then (PySem.intText? x).map .int else none
  | _ => none
theorem calls_int {m : Md} : CallS K m (fun xs H Q => ((∃ i, xs = [.int i] ∧ Q (.int i) H) ∨ ∃ k : Bool, xs = [.bl k] ∧ Q (.int (if k then 1 else 0)) H) ∨ ∃ a n, xs = [.str a] ∧ PySem.intText? a = some n ∧ a.length ≤ 640 ∧ Q (.int n) H) (f1 dInt) := fun hid H ds z vs Q k rs hf q => by
  match ds, hf with
  | [d], hf =>
    obtain ⟨v, rfl, r⟩ := rma1 rs
    have hf : dInt d = some z := hf
    cases d with
    | int i =>
      cases hf
      have := bo_int r
      subst this
      exact .inl (.inl ⟨i, rfl, q _ _ (Ex.refl _) rm_int⟩)
    | bool i =>
      cases hf
      have := bo_bool r
      subst this
      exact .inl (.inr ⟨i, rfl, q _ _ (Ex.refl _) rm_int⟩)
    | str x =>
      have := bo_str r
      subst this
      unfold dInt at hf
      dsimp only at hf
      split at hf
      · rename_i hl
        cases hn : PySem.intText? x with
        | none => rw [hn] at hf; cases hf
        | some n =>
          rw [hn] at hf
          cases hf
          exact .inr ⟨x, n, rfl, hn, hl, q _ _ (Ex.refl _) rm_int⟩
      · cases hf
    | tuple ds => cases hf
    | list x => cases hf
    | dict ps => cases hf
    | none => cases hf
theorem de_intc {m ma : Md} {e : Expr} {g : GE} {p pos : Pos} (hm : F.mg "int" = none) (h : DE F ma e g) (hg : F.sn.lookup ("int" : Str) = some .globalImplicit := by rfl)
    (he : ∀ env, starEach [e] env = [(false, eval e env)] := by intro _; rfl) : DE F m (.Call (.Name "int" p) [e] [] pos) (eCl (f1 dInt) (aCons g aNil)) :=
  de_callT (fun i => call_int1.or call_int_str) calls_int hm (by decide +kernel) (da_cons (de_any h) da_nil he) hg (by decide) (by decide) he (by intro _; rfl)
/-- str(n) -/
def dStr : D → Option D
  | .int i => if i.natAbs ≤ 1000000000000 then some (.str (toString i)) else none
  | _ => none
theorem calls_str {m : Md} : CallS K m (fun xs H Q => ∃ i, xs = [.int i] ∧ i.natAbs.log2 < 1920 ∧ Q (.str (toString i)) H) (f1 dStr) := fun hid H ds z vs Q k rs hf q => by
  match ds, hf with
  | [d], hf =>
    obtain ⟨v, rfl, r⟩ := rma1 rs
    have hf : dStr d = some z := hf
    cases d with
    | int i =>
      have := bo_int r
      subst this
      unfold dStr at hf
      dsimp only at hf
      split at hf
      · rename_i hl
        cases hf
        refine ⟨i, rfl, ?_, q _ _ (Ex.refl _) rm_str⟩
        by_cases h0 : i.natAbs = 0
        · rw [h0]; decide
        · rw [Nat.log2_lt h0]
          exact Nat.lt_of_le_of_lt hl (Nat.lt_of_lt_of_le (show 1000000000000 < 2 ^ 40 by decide) (Nat.pow_le_pow_right (by decide) (by decide)))
      · cases hf
    | bool i => cases hf
    | str x => cases hf
    | tuple ds => cases hf
    | list x => cases hf
    | dict ps => cases hf
    | none => cases hf
theorem de_strc {m ma : Md} {e : Expr} {g : GE} {p pos : Pos} (hm : F.mg "str" = none) (h : DE F ma e g) (hg : F.sn.lookup ("str" : Str) = some .globalImplicit := by rfl)
    (he : ∀ env, starEach [e] env = [(false, eval e env)] := by intro _; rfl) : DE F m (.Call (.Name "str" p) [e] [] pos) (eCl (f1 dStr) (aCons g aNil)) :=
  de_callT (fun i => call_str_int) calls_str hm (by decide +kernel) (da_cons (de_any h) da_nil he) hg (by decide) (by decide) he (by intro _; rfl)
/-- max(a, b), min(a, b) of ints -/
def dMax : List D → Option D
  | [.int i, .int j] => some (.int (if j > i then j else i))
  | _ => none
def dMin : List D → Option D
  | [.int i, .int j] => some (.int (if j < i then j else i))
  | _ => none
theorem calls_max {m : Md} : CallS K m (fun xs H Q => ∃ i j, xs = [.int i, .int j] ∧ Q (.int (if j > i then j else i)) H) dMax := fun hid H ds z vs Q k rs hf q => by
  unfold dMax at hf
  split at hf
  · cases hf
    obtain ⟨v, u, rfl, r1, r2⟩ := rma2 rs
    rw [bo_int r1, bo_int r2]
    exact ⟨_, _, rfl, q _ _ (Ex.refl _) rm_int⟩
  · cases hf
theorem calls_min {m : Md} : CallS K m (fun xs H Q => ∃ i j, xs = [.int i, .int j] ∧ Q (.int (if j < i then j else i)) H) dMin := fun hid H ds z vs Q k rs hf q => by
  unfold dMin at hf
  split at hf
  · cases hf
    obtain ⟨v, u, rfl, r1, r2⟩ := rma2 rs
    rw [bo_int r1, bo_int r2]
    exact ⟨_, _, rfl, q _ _ (Ex.refl _) rm_int⟩
  · cases hf
theorem de_max {m : Md} {e : Expr} {es : List Expr} {ga : GA} {p pos : Pos} (hm : F.mg "max" = none) (h : DA F .bo (e :: es) ga) (hg : F.sn.lookup ("max" : Str) = some .globalImplicit := by rfl)
    (he : ∀ env, starEach (e :: es) env = (false, eval e env) :: starEach es env := by intro _; rfl) (hpl : ∀ env, (backTo pos (starEach es env)).any (·.1) = false := by intro _; rfl) (hc : F.hot = false := by rfl) : DE F m (.Call (.Name "max" p) (e :: es) [] pos) (eCl dMax ga) :=
  de_callB (fun i => call_max2 (F.calm hc i)) calls_max hm (by decide +kernel) h hg (by decide) (by decide) he hpl
theorem de_min {m : Md} {e : Expr} {es : List Expr} {ga : GA} {p pos : Pos} (hm : F.mg "min" = none) (h : DA F .bo (e :: es) ga) (hg : F.sn.lookup ("min" : Str) = some .globalImplicit := by rfl)
    (he : ∀ env, starEach (e :: es) env = (false, eval e env) :: starEach es env := by intro _; rfl) (hpl : ∀ env, (backTo pos (starEach es env)).any (·.1) = false := by intro _; rfl) (hc : F.hot = false := by rfl) : DE F m (.Call (.Name "min" p) (e :: es) [] pos) (eCl dMin ga) :=
  de_callB (fun i => call_min2 (F.calm hc i)) calls_min hm (by decide +kernel) h hg (by decide) (by decide) he hpl

/-! ### isinstance of a built-in class -/
def tyD : D → String
  | .none => "NoneType"
  | .bool _ => "bool"
  | .int _ => "int"
  | .str _ => "str"
  | .list _ => "list"
  | .tuple _ => "tuple"
  | .dict _ => "dict"
def dIsi (T : String) : D → Option D := fun d => match d with
  | .dict _ => none
  | d => (kitB (tyD d) T).map .bool
theorem ty_of {hid : List Addr} {H H' : Hp} {d : D} {v : V} (hn : isCon d = true → ∃ ds, d = .list ds) (r : Rm K .bo hid H H' d v) : TyX K H' v (.type (tyD d)) := by
  cases d with
  | none => have := bo_none r; subst this; exact .base .non
  | bool b => have := bo_bool r; subst this; exact .base (.bl b)
  | int i => have := bo_int r; subst this; exact .base (.int i)
  | str x => have := bo_str r; subst this; exact .base (.str x)
  | list ds =>
    obtain ⟨a, xs, rfl, h1, h2⟩ := bo_list r
    exact .base (.lst h1)
  | tuple ds =>
    obtain ⟨a, xs, rfl, h1, h2⟩ := bo_tup r
    rcases Evl.ex_t hide_ex h1 with (h1 | ⟨o, h1⟩) | ⟨o, its, n, h1, h2, _⟩
    · exact .base (.tup h1)
    · exact .fTuple h1
    · exact .kTuple h1 h2
  | dict ps =>
    obtain ⟨ds, e⟩ := hn rfl
    cases e
theorem sem_isi {m ma : Md} {te : TE} {g : GE} {T : String} (h : SemE F ma te g) (hb : ma = .bo) : SemE F m (tCB (rIsi F.K) (tCons te (tCons (tC (.ty T)) tNil))) (e1 (dIsi T) g) := fun H0 hid0 s ρ S Q q => by
  subst hb
  refine h H0 hid0 s ρ S _ ?_
  unfold e1 at q
  split
  · rename_i d hd
    intro v H1 e1 r1
    rw [hd, bind_ok] at q
    cases hf : dIsi T d with
    | none => rw [hf] at q; exact q.elim
    | some z =>
      rw [hf] at q
      have hn : isCon d = true → ∃ ds, d = .list ds := fun hc => by
        cases d <;> simp [isCon] at hc
        · exact ⟨_, rfl⟩
        · cases hf
      have hk : ∃ b, kitB (tyD d) T = some b ∧ z = .bool b := by
        unfold dIsi at hf
        split at hf
        · cases hf
        · cases hk : kitB (tyD d) T with
          | none => rw [hk] at hf; cases hf
          | some b => rw [hk] at hf; cases hf; exact ⟨b, rfl, rfl⟩
      obtain ⟨b, hb, rfl⟩ := hk
      exact ⟨v, .ty T, _, _, b, rfl, .ty T, ty_of hn r1, kit_ty hb, q _ _ e1 rm_bool⟩
  · rename_i c hd
    rw [hd, bind_err] at q
    exact q
  · rename_i hd
    rw [hd, bind_stuck] at q
    exact q
theorem de_isi {m ma : Md} {T : String} {x : Str} {e : Expr} {g : GE} {p p2 pos : Pos} (hm : F.mg "isinstance" = none) (hmT : F.mg x = none) (hvT : bootBuiltins x = some (.type T)) (h : DE F ma e g) (hg : F.sn.lookup ("isinstance" : Str) = some .globalImplicit := by rfl) (hgT : F.sn.lookup x = some .globalImplicit := by rfl)
    (hnT : x ≠ "__name__" := by decide) (hdT : (x == ("__debug__" : Str)) = false := by decide) (he : ∀ env, starEach (e :: [.Name x p2]) env = (false, eval e env) :: starEach [.Name x p2] env := by intro _; rfl) : DE F m (.Call (.Name "isinstance" p) [e, .Name x p2] [] pos) (e1 (dIsi T) g) := by
  obtain ⟨te, pe, se⟩ := de_any h
  refine ⟨_, fun i => ?_, sem_isi (T := T) se rfl⟩
  have hc := callR0 (F := F) (r := rIsi) (fun X => call_isi) i
  exact pe_callB hc (gl_of hg i) (by rw [F.hmg]; exact hm) (by decide +kernel) (pa_cons (pe i) (pa_cons (pe_bltn (v := .ty T) (gl_of hgT i) (by rw [F.hmg]; exact hmT) hvT rfl hnT hdT) pa_nil) (he _)) (by decide) (by decide) (he _) (by rfl)
end
end DL
set_option Elab.async false
set_option linter.all false
set_option maxRecDepth 100000
set_option maxHeartbeats 4000000
namespace DL
open PySem PySem.Spec PyProof.Rows L2
variable [TabsC]
theorem pe_alt {X : Cx} {e : Expr} {t t' : TE} (h : PE X e t) (h' : PE X e t') : PE X e (fun σ H Q => t σ H Q ∨ t' σ H Q) := ⟨fun pins s σ H Q I q => by
  rcases q with q | q
  · exact h.run pins s σ H Q I q
  · exact h'.run pins s σ H Q I q⟩
theorem pt_alt {X : Cx} {e : Expr} {t t' : TE} (h : PT X e (tTest t)) (h' : PT X e (tTest t')) : PT X e (tTest fun σ H Q => t σ H Q ∨ t' σ H Q) := ⟨fun pins s σ H Q I q => by
  rcases q with q | q
  · exact h.run pins s σ H Q I q
  · exact h'.run pins s σ H Q I q⟩
section
variable {F : Fam} {K : PySem.W.Frag}
theorem sem_alt {m : Md} {t t' : TE} {g g1 g2 : GE} (h : SemE F m t g1) (h' : SemE F m t' g2) (hg : ∀ ρ, g ρ = .stuck ∨ g1 ρ = g ρ ∨ g2 ρ = g ρ) : SemE F m (fun σ H Q => t σ H Q ∨ t' σ H Q) g := fun H0 hid0 s ρ S Q q => by
  rcases hg ρ with e | e | e
  · rw [e] at q; exact q.elim
  · exact .inl (h H0 hid0 s ρ S Q (by rw [e]; exact q))
  · exact .inr (h' H0 hid0 s ρ S Q (by rw [e]; exact q))
theorem e2_or {f f' : D → D → Option D} {a b : GE} (ρ : Env) : e2 (fun x y => (f x y).or (f' x y)) a b ρ = .stuck ∨ e2 f a b ρ = e2 (fun x y => (f x y).or (f' x y)) a b ρ ∨ e2 f' a b ρ = e2 (fun x y => (f x y).or (f' x y)) a b ρ := by
  unfold e2
  cases a ρ with
  | stuck => exact .inl rfl
  | err c => exact .inr (.inl rfl)
  | ok x =>
    rw [bind_ok, bind_ok, bind_ok]
    cases b ρ with
    | stuck => exact .inl rfl
    | err c => exact .inr (.inl rfl)
    | ok y =>
      rw [bind_ok, bind_ok, bind_ok]
      cases hf : f x y with
      | some z => exact .inr (.inl (by simp [hf]))
      | none => exact .inr (.inr (by simp [hf]))
/-! ### subscripts -/
def keyOf : D → Option Key
  | .int i => some (.inl i)
  | .str x => some (.inr x)
  | _ => none
theorem keyOf_eq {d : D} {k : Key} (h : keyOf d = some k) : d = kD k := by
  cases d <;> simp [keyOf] at h <;> subst h <;> rfl
theorem keyOf_kD (k : Key) : keyOf (kD k) = some k := by cases k <;> rfl
def getK (ps : List (D × D)) (k : Key) : Option D := (ps.find? fun p => decide (keyOf p.1 = some k)).map (·.2)
theorem MnK.get {H : Hp} {k : Key} : ∀ {ps : List (D × D)} {kvs : List (Key × V)}, MnK K H ps kvs → (∀ d, getK ps k = some d → ∃ v, valV kvs k = some v ∧ Mn K H d v) ∧ (getK ps k = none → valV kvs k = none)
  | [], kvs, h => by
    simp only [MnK] at h
    subst h
    exact ⟨fun d hd => (by cases hd), fun _ => rfl⟩
  | (q, d) :: ps, kvs, h => by
    simp only [MnK] at h
    obtain ⟨k', v, r, rfl, rfl, h2, h3⟩ := h
    have ih := MnK.get (k := k) h3
    unfold getK valV at *
    rw [List.find?_cons, List.find?_cons]
    simp only [keyOf_kD, Option.some.injEq]
    by_cases e : k' = k
    · subst e
      simp only [decide_true]
      exact ⟨fun d' hd => by cases hd; exact ⟨v, rfl, h2⟩, fun hd => by cases hd⟩
    · simp only [e, decide_false]
      exact ih
def dIxS : D → D → Option D
  | .list ds, .int i => atI ds i
  | .tuple ds, .int i => atI ds i
  | .str x, .int i => if x.length ≤ 1000000 then (atI x.cps.toList i).map fun c => .str ⟨#[c]⟩ else none
  | .dict [(.none, .list ns)], .int i => atI ns i
  | _, _ => none
def dIxD : D → D → Option D
  | .dict ps, k => (keyOf k).bind (getK ps)
  | _, _ => none
def dIx : D → D → Option D := fun x y => (dIxS x y).or (dIxD x y)
theorem atI_mna {H : Hp} {ds : List D} {vs : List V} {i : Int} {d : D} (h : MnA K H ds vs) (e : atI ds i = some d) : ∃ v, atI vs i = some v ∧ Mn K H d v := by
  unfold atI at e ⊢
  rw [h.length]
  cases q : ixN ds.length i with
  | none => rw [q] at e; cases e
  | some j =>
    rw [q] at e
    exact h.get e
theorem ops_ixS : OpS K .fz (rIx K) dIxS := fun hid H d e z x y Q dom rx ry hf q => by
  unfold dIxS at hf
  split at hf
  · rename_i ds i
    obtain ⟨a, xs, rfl, h1, h2⟩ := bo_list rx
    obtain ⟨v, hv, mv⟩ := atI_mna h2 hf
    exact .inl ⟨a, xs, i, v, rfl, bo_int ry, SqL.of h1, hv, q _ _ (Ex.refl _) mv⟩
  · rename_i ds i
    obtain ⟨a, xs, rfl, h1, h2⟩ := bo_tup rx
    obtain ⟨v, hv, mv⟩ := atI_mna h2 hf
    exact .inr (.inl ⟨a, xs, i, v, rfl, bo_int ry, Evl.ex_t hide_ex h1, hv, q _ _ (Ex.refl _) mv⟩)
  · rename_i x' i
    split at hf
    · rename_i hl
      cases hc : atI x'.cps.toList i with
      | none => rw [hc] at hf; cases hf
      | some c =>
        rw [hc] at hf
        cases hf
        exact .inr (.inr ⟨x', i, c, bo_str rx, bo_int ry, small_line hl, hc, q _ _ (Ex.refl _) (rm_str (m := .fz))⟩)
    · cases hf
  · rename_i ns i
    rcases bo_dict rx with ⟨a, kvs, _, _, hk⟩ | ⟨a, is, rfl, hs, hk⟩ | ⟨b, d, hk⟩
    · simp only [MnK] at hk
      obtain ⟨q', _, _, _, hk1, _⟩ := hk
      cases q' <;> simp [kD] at hk1
    · have hk : ns = is.map .int := by simpa using hk
      subst hk
      have hm : MnA K (hide hid H) (is.map .int) (is.map V.int) := MnA.of_ints
      obtain ⟨v, hv, mv⟩ := atI_mna hm hf
      exact .inl ⟨a, _, i, v, rfl, bo_int ry, hs, hv, q _ _ (Ex.refl _) mv⟩
    · cases hk
  · cases hf
theorem ops_ixD : OpS K .fz (fun x y H Q => ∃ a v, x = .ref a ∧ DGet H a y (some v) ∧ Q v H) dIxD := fun hid H d k' z x y Q dom rx ry hf q => by
  cases d with
  | dict ps =>
    have hf2 : (keyOf k').bind (getK ps) = some z := hf
    clear hf
    cases hk : keyOf k' with
    | none => rw [hk] at hf2; cases hf2
    | some k =>
      rw [hk] at hf2
      have ek := keyOf_eq hk
      subst ek
      have ey : y = kV k := by
        cases k
        · exact bo_int ry
        · exact bo_str ry
      subst ey
      rcases bo_dict rx with ⟨a, kvs, rfl, h1, h2⟩ | ⟨a, is, rfl, hs, hk2⟩ | ⟨b, d, hk2⟩
      · obtain ⟨v, hv, mv⟩ := (MnK.get (k := k) h2).1 z hf2
        exact ⟨a, v, rfl, by rw [← hv]; exact DGet.k h1, q _ _ (Ex.refl _) mv⟩
      · subst hk2
        have hf3 : getK [(.none, .list (is.map .int))] k = some z := hf2
        unfold getK at hf3
        simp [keyOf] at hf3
      · subst hk2
        have hf3 : getK [(.bool b, d)] k = some z := hf2
        unfold getK at hf3
        simp [keyOf] at hf3
  | none => cases hf
  | bool _ => cases hf
  | int _ => cases hf
  | str _ => cases hf
  | list _ => cases hf
  | tuple _ => cases hf
theorem hu1 (i : F.ι) : (F.X i).A.units + 1 < cLine := by
  have := (F.room i).un
  omega
theorem de_ix {ma mb : Md} {a b : Expr} {ga gb : GE} {pos : Pos} (hs : PlainIx b) (ha : DE F ma a ga) (hb : DE F mb b gb) : DE F .fz (.Subscript a b pos) (e2 dIx ga gb) := by
  obtain ⟨ta, pa, sa⟩ := de_any ha
  obtain ⟨tb, pb, sb⟩ := de_any hb
  refine ⟨_, fun i => pe_alt (t := tOp (rIx F.K) ta tb) (t' := tDGet ta tb) ?_ (pe_dget (hu1 i) (pa i) (pb i) hs), sem_alt (sem_op sa sb ops_ixS) (sem_op (r := fun x y H Q => ∃ a v, x = .ref a ∧ DGet H a y (some v) ∧ Q v H) sa sb ops_ixD) fun ρ => e2_or ρ⟩
  have z := pe_ix (pos := pos) (ix_seq (X := F.X i)) (pa i) (pb i) hs
  rw [F.hK i] at z
  exact z
/-! ### slices -/
abbrev GO := Env → Out (Option Int)
def SemO (F : Fam) (to : TO) (g : GO) : Prop :=
  ∀ (H0 : Hp) (hid0 : List Addr) (s : Sx) (ρ : Env), Sees F.K H0 hid0 F.O s ρ → ∀ Q : Option Int → Hp → Prop,
    (match g ρ with
      | .ok b => ∀ H', Ex s.H H' → Q b H'
      | .err c => ∀ H', Ex s.H H' → F.E (F.cl c) none H'
      | .stuck => False) → to s.σ s.H Q
def DO (F : Fam) (e : Option Expr) (g : GO) : Prop := ∃ to, (∀ i, PO (F.X i) e to) ∧ SemO F to g
def oNo : GO := fun _ => .ok none
def oI (g : GE) : GO := fun ρ => (g ρ).bind fun d => match d with
  | .int i => .ok (some i)
  | _ => .stuck
theorem do_no : DO F none oNo := ⟨_, fun _ => po_none, fun H0 hid0 s ρ S Q q => q s.H (Ex.refl _)⟩
theorem do_i {m : Md} {e : Expr} {g : GE} (h : DE F m e g) : DO F (some e) (oI g) := by
  obtain ⟨te, pe, se⟩ := de_any h
  refine ⟨_, fun i => po_some (pe i), fun H0 hid0 s ρ S Q q => se H0 hid0 s ρ S _ ?_⟩
  unfold oI at q
  split
  · rename_i d hd
    rw [hd, bind_ok] at q
    intro v H1 e1 r1
    cases d with
    | int i => exact ⟨i, bo_int r1, q _ e1⟩
    | none => exact q.elim
    | bool _ => exact q.elim
    | str _ => exact q.elim
    | list _ => exact q.elim
    | tuple _ => exact q.elim
    | dict _ => exact q.elim
  · rename_i c hd
    rw [hd, bind_err] at q
    exact q
  · rename_i hd
    rw [hd, bind_stuck] at q
    exact q
def cutD {α : Type} (xs : List α) (lo hi : Option Int) : List α := (xs.drop (HT.sIx xs.length 0 lo)).take (HT.sIx xs.length xs.length hi - HT.sIx xs.length 0 lo)
theorem MnA.cut {H : Hp} {ds : List D} {vs : List V} (lo hi : Option Int) (h : MnA K H ds vs) : MnA K H (cutD ds lo hi) (cutV vs lo hi) := by
  unfold cutD cutV
  rw [h.length]
  exact (h.drop _).take _
def dSl : D → Option Int → Option Int → Option D
  | .list ds, lo, hi => some (.list (cutD ds lo hi))
  | .tuple ds, lo, hi => some (.tuple (cutD ds lo hi))
  | .str x, lo, hi => if x.length ≤ 1000000 then some (.str (cutS x lo hi)) else none
  | _, _, _ => none
abbrev rSlV (K : PySem.W.Frag) : V → Option Int → Option Int → Hp → VK → Prop := fun x lo hi H Q => rSlL K x lo hi H Q ∨ (rSlA K x lo hi H Q ∨ rSlS x lo hi H Q)
theorem sls {hid : List Addr} {H : Hp} {d z : D} {x : V} {lo hi : Option Int} {Q : VK} (dom : ∀ a ∈ hid, noT (H a) ≠ none) (rx : Rm K .bo hid H H d x) (hf : dSl d lo hi = some z) (q : ∀ v H', Ex H H' → Rm K .au hid H H' z v → Q v H') : rSlV K x lo hi H Q := by
  cases d with
  | list ds =>
    cases hf
    obtain ⟨a, xs, rfl, h1, h2⟩ := bo_list rx
    exact .inl ⟨a, xs, rfl, SqL.of h1, fun p hp => q _ _ (Ex.new hp) (au_list hp (h2.cut lo hi))⟩
  | tuple ds =>
    cases hf
    obtain ⟨a, xs, rfl, h1, h2⟩ := bo_tup rx
    refine .inr (.inl ⟨a, xs, rfl, Evl.ex_t hide_ex h1, fun ⟨e1, e2⟩ => q _ _ (Ex.refl _) (rm_plain rfl ?_), fun _ p hp => q _ _ (Ex.new hp) (au_tup dom hp (h2.cut lo hi))⟩)
    have ec : cutD ds lo hi = ds := by
      unfold cutD
      rw [← h2.length, e1, e2, List.drop_zero, Nat.sub_zero, h2.length, List.take_length]
    rw [ec]
    simp only [Mn]
    exact ⟨a, xs, rfl, h1, h2⟩
  | str x' =>
    unfold dSl at hf
    dsimp only at hf
    split at hf
    · rename_i hl
      cases hf
      have := bo_str rx
      subst this
      exact .inr (.inr ⟨x', rfl, small_line hl, q _ _ (Ex.refl _) rm_str⟩)
    · cases hf
  | none => cases hf
  | bool _ => cases hf
  | int _ => cases hf
  | dict _ => cases hf
def eSl (a : GE) (lo hi : GO) : GE := fun ρ => (a ρ).bind fun x => (lo ρ).bind fun l => (hi ρ).bind fun h => lift (dSl x l h)
theorem sem_sl {ta : TE} {tl th : TO} {ga : GE} {gl gh : GO} (ha : SemE F .bo ta ga) (hl : SemO F tl gl) (hh : SemO F th gh) : SemE F .au (tSl (rSlV F.K) ta tl th) (eSl ga gl gh) := fun H0 hid0 s ρ S Q q => by
  refine ha H0 hid0 s ρ S _ ?_
  unfold eSl at q
  cases hd : ga ρ with
  | stuck => rw [hd] at q; exact q.elim
  | err c => rw [hd, bind_err] at q; exact q
  | ok d =>
    rw [hd, bind_ok] at q
    intro v H1 e1 r1
    refine hl H0 hid0 { s with H := H1 } ρ (S.ext e1) _ ?_
    cases hdl : gl ρ with
    | stuck => rw [hdl] at q; exact q.elim
    | err c => rw [hdl, bind_err] at q; exact fun H2 e2 => q H2 (e1.trans e2)
    | ok l =>
      rw [hdl, bind_ok] at q
      intro H2 e2
      refine hh H0 hid0 { s with H := H2 } ρ (S.ext (e1.trans e2)) _ ?_
      cases hdh : gh ρ with
      | stuck => rw [hdh] at q; exact q.elim
      | err c => rw [hdh, bind_err] at q; exact fun H3 e3 => q H3 ((e1.trans e2).trans e3)
      | ok h =>
        rw [hdh, bind_ok] at q
        intro H3 e3
        cases hf : dSl d l h with
        | none => rw [hf] at q; exact q.elim
        | some z =>
          rw [hf] at q
          have e13 := (e1.trans e2).trans e3
          exact sls (dom_ex e13 S.dom) (bo_ext (e2.trans e3) r1) hf fun v' H' e' r' => q v' H' (e13.trans e') (rm_back e13 r')
theorem de_sl {ma : Md} {a : Expr} {lo hi : Option Expr} {ga : GE} {gl gh : GO} {p2 pos : Pos} (ha : DE F ma a ga) (hl : DO F lo gl) (hh : DO F hi gh) : DE F .au (.Subscript a (.Slice lo hi none p2) pos) (eSl ga gl gh) := by
  obtain ⟨ta, pa, sa⟩ := de_any ha
  obtain ⟨tl, pl, sl⟩ := hl
  obtain ⟨th, ph, sh⟩ := hh
  refine ⟨_, fun i => ?_, sem_sl sa sl sh⟩
  have z := pe_slice (pos := pos) (p2 := p2) (sl_list.or (sl_tupA.or sl_str) : SlR (F.X i) _) (pa i) (pl i) (ph i)
  rw [F.hK i] at z
  exact z
/-! ### in, not in -/
def rInP (K : PySem.W.Frag) (neg : Bool) : R2 := fun x y H Q => ∃ d ds, Dp K H x d ∧ (Dp K H y (.list ds) ∨ Dp K H y (.tuple ds)) ∧ d.plain = true ∧ PyData.plainAll ds = true ∧ min (PyData.depthAll ds) d.depth ≤ 100 ∧ Q (.bl (if neg then !ds.any fun z => PyData.eqv z d else ds.any fun z => PyData.eqv z d)) H
theorem op_inP {X : Cx} (hu : X.A.units + 120 < cLine) : OpR X (compareOp .In) (rInP X.K false) := by
  intro pins s σ H x y v u Q I rx ry h
  obtain ⟨d, ds, hd, he, sd, se, hm, q⟩ := h
  obtain ⟨as, r1⟩ := Dp.reads I d x v hd rx
  rcases he with he | he
  · obtain ⟨bs, r2⟩ := Dp.reads I _ y u he ry
    exact SeqAt.in_list_data r2 r1 se sd (by omega) ⟨.bl _, H, I, rfl, q⟩
  · obtain ⟨bs, r2⟩ := Dp.reads I _ y u he ry
    exact SeqAt.in_tuple_data r2 r1 se sd (by omega) ⟨.bl _, H, I, rfl, q⟩
theorem op_notInP {X : Cx} (hu : X.A.units + 120 < cLine) : OpR X (compareOp .NotIn) (rInP X.K true) := by
  intro pins s σ H x y v u Q I rx ry h
  obtain ⟨d, ds, hd, he, sd, se, hm, q⟩ := h
  obtain ⟨as, r1⟩ := Dp.reads I d x v hd rx
  rcases he with he | he
  · obtain ⟨bs, r2⟩ := Dp.reads I _ y u he ry
    exact SeqAt.notIn_list_data r2 r1 se sd (by omega) ⟨.bl _, H, I, rfl, q⟩
  · obtain ⟨bs, r2⟩ := Dp.reads I _ y u he ry
    exact SeqAt.notIn_tuple_data r2 r1 se sd (by omega) ⟨.bl _, H, I, rfl, q⟩
def okIn (d : D) (ds : List D) : Bool := d.plain && PyData.plainAll ds && decide (min (PyData.depthAll ds) d.depth ≤ 100)
def dInL (neg : Bool) : D → D → Option D
  | d, .list ds => if okIn d ds then some (.bool (neg ^^ ds.any fun z => PyData.eqv z d)) else none
  | d, .tuple ds => if okIn d ds then some (.bool (neg ^^ ds.any fun z => PyData.eqv z d)) else none
  | _, _ => none
def dInS (neg : Bool) : D → D → Option D
  | .str x, .str z => match x.cps.toList with
    | [c] => some (.bool (neg ^^ decide (c ∈ z.cps.toList)))
    | _ => none
  | _, _ => none
def isScr : List (D × D) → Bool
  | [(.none, _)] => true
  | [(.bool _, _)] => true
  | _ => false
theorem one_sign {x : Str} {c : Nat} (h : x.cps.toList = [c]) : x = ⟨#[c]⟩ := by
  obtain ⟨a⟩ := x
  have : a = #[c] := by
    apply Array.ext'
    simpa using h
  rw [this]
def dInD (neg : Bool) : D → D → Option D
  | k, .dict ps => if isScr ps then none else (keyOf k).map fun k => .bool (neg ^^ (getK ps k).isSome)
  | _, _ => none
theorem ops_inL {m : Md} {neg : Bool} : OpS K m (rInP K neg) (dInL neg) := fun hid H d e z x y Q dom rx ry hf q => by
  have key : ∀ ds, (Dp K H y (.list ds) ∨ Dp K H y (.tuple ds)) → (if okIn d ds then some (PyData.bool (neg ^^ ds.any fun z => PyData.eqv z d)) else none) = some z → rInP K neg x y H Q := fun ds hd hf => by
    split at hf
    · rename_i hc
      cases hf
      unfold okIn at hc
      simp only [Bool.and_eq_true, decide_eq_true_eq] at hc
      refine ⟨d, ds, Mn.dp d x hc.1.1 (bo_full rx), hd, hc.1.1, hc.1.2, hc.2, ?_⟩
      cases neg
      · have := q (.bl (ds.any fun z => PyData.eqv z d)) H (Ex.refl _) (by simpa using rm_bool)
        simpa using this
      · have := q (.bl (!ds.any fun z => PyData.eqv z d)) H (Ex.refl _) (by simpa using rm_bool)
        simpa using this
    · cases hf
  cases e with
  | list ds =>
    have hf : (if okIn d ds then some (PyData.bool (neg ^^ ds.any fun z => PyData.eqv z d)) else none) = some z := hf
    refine key ds (.inl ?_) hf
    have hp : PyData.plainAll ds = true := by
      split at hf
      · rename_i hc; unfold okIn at hc; simp only [Bool.and_eq_true] at hc; exact hc.1.2
      · cases hf
    exact Mn.dp (.list ds) y (by simpa only [PyData.plain] using hp) (bo_full ry)
  | tuple ds =>
    have hf : (if okIn d ds then some (PyData.bool (neg ^^ ds.any fun z => PyData.eqv z d)) else none) = some z := hf
    refine key ds (.inr ?_) hf
    have hp : PyData.plainAll ds = true := by
      split at hf
      · rename_i hc; unfold okIn at hc; simp only [Bool.and_eq_true] at hc; exact hc.1.2
      · cases hf
    exact Mn.dp (.tuple ds) y (by simpa only [PyData.plain] using hp) (bo_full ry)
  | str x => simp [dInL] at hf
  | dict ps => simp [dInL] at hf
  | none => simp [dInL] at hf
  | bool _ => simp [dInL] at hf
  | int _ => simp [dInL] at hf
theorem sign_in {neg : Bool} {d e z : D} (hf : dInS neg d e = some z) : ∃ (c : Nat) (t : Str), d = .str ⟨#[c]⟩ ∧ e = .str t ∧ z = .bool (neg ^^ decide (c ∈ t.cps.toList)) := by
  cases d <;> simp only [dInS] at hf <;> try cases hf
  cases e <;> simp only [dInS] at hf <;> try cases hf
  split at hf
  · rename_i c hc
    cases hf
    exact ⟨c, _, by rw [one_sign hc], rfl, rfl⟩
  · cases hf
theorem ops_inS {m : Md} : OpS K m (fun x y H Q => ∃ (c : Nat) (z : Str), x = .str ⟨#[c]⟩ ∧ y = .str z ∧ Q (.bl (decide (c ∈ z.cps.toList))) H) (dInS false) := fun hid H d e z x y Q dom rx ry hf q => by
  obtain ⟨c, t, rfl, rfl, rfl⟩ := sign_in hf
  exact ⟨_, _, bo_str rx, bo_str ry, q _ _ (Ex.refl _) (by simpa using rm_bool)⟩
theorem ops_notInS {m : Md} : OpS K m (fun x y H Q => ∃ (c : Nat) (z : Str), x = .str ⟨#[c]⟩ ∧ y = .str z ∧ Q (.bl (!decide (c ∈ z.cps.toList))) H) (dInS true) := fun hid H d e z x y Q dom rx ry hf q => by
  obtain ⟨c, t, rfl, rfl, rfl⟩ := sign_in hf
  exact ⟨_, _, bo_str rx, bo_str ry, q _ _ (Ex.refl _) (by simpa using rm_bool)⟩
theorem ops_inD {m : Md} {neg : Bool} : OpS K m (fun y x H Q => ∃ a o, x = .ref a ∧ DGet H a y o ∧ Q (.bl (neg ^^ o.isSome)) H) (dInD neg) := fun hid H k' e z x y Q dom rx ry hf q => by
  cases e with
  | dict ps =>
    have hf : (if isScr ps then none else (keyOf k').map fun k => PyData.bool (neg ^^ (getK ps k).isSome)) = some z := hf
    split at hf
    · cases hf
    · rename_i hns
      cases hk : keyOf k' with
      | none => rw [hk] at hf; cases hf
      | some k =>
        rw [hk] at hf
        cases hf
        have ek := keyOf_eq hk
        subst ek
        have ex : x = kV k := by
          cases k
          · exact bo_int rx
          · exact bo_str rx
        subst ex
        rcases bo_dict ry with ⟨a, kvs, rfl, h1, h2⟩ | ⟨a, is, rfl, hs, hk2⟩ | ⟨b, d, hk2⟩
        · refine ⟨a, _, rfl, DGet.k h1, ?_⟩
          have e : (valV kvs k).isSome = (getK ps k).isSome := by
            obtain ⟨g1, g2⟩ := MnK.get (k := k) h2
            cases q : getK ps k with
            | none => rw [g2 q]; rfl
            | some d =>
              obtain ⟨v, hv, _⟩ := g1 d q
              rw [hv]; rfl
          rw [e]
          exact q _ _ (Ex.refl _) rm_bool
        · subst hk2
          exact absurd rfl hns
        · subst hk2
          exact absurd rfl hns
  | none => cases hf
  | bool _ => cases hf
  | int _ => cases hf
  | str _ => cases hf
  | list _ => cases hf
  | tuple _ => cases hf
def dIn (neg : Bool) : D → D → Option D := fun x y => ((dInL neg x y).or (dInS neg x y)).or (dInD neg x y)
theorem de_in {m ma mb : Md} {a b : Expr} {ga gb : GE} {pos : Pos} (ha : DE F ma a ga) (hb : DE F mb b gb) (hm : behindInMarks .In b = false := by rfl) : DC F m (.Compare a [.In] [b] pos) (e2 (dIn false) ga gb) := by
  obtain ⟨ta, pa, sa⟩ := de_any ha
  obtain ⟨tb, pb, sb⟩ := de_any hb
  have ho : ∀ i, OpR (F.X i) (compareOp .In) (fun x y H Q => rInP F.K false x y H Q ∨ (fun x y H Q => ∃ (c : Nat) (z : Str), x = .str ⟨#[c]⟩ ∧ y = .str z ∧ Q (.bl (decide (c ∈ z.cps.toList))) H) x y H Q) := fun i => by
    have z := (op_inP (X := F.X i) (units120 i)).or op_in_sign
    rw [F.hK i] at z
    exact z
  refine ⟨_, fun i => pe_alt (t' := tDIn ta tb) (pe_cmpR (ho i) (pa i) (pb i) hm) (pe_cmp (pc_din (hu1 i) (pa i) (pb i)) hm), fun i => pt_alt (pt_cmpR (ho i) (pa i) (pb i) hm) (pt_cmp (pc_din (hu1 i) (pa i) (pb i)) hm), ?_⟩
  exact sem_alt (sem_op sa sb (ops_inL.or1 ops_inS)) (sem_op (r := fun y x H Q => ∃ a o, x = .ref a ∧ DGet H a y o ∧ Q (.bl o.isSome) H) (f := dInD false) sa sb (by have z := ops_inD (K := F.K) (m := m) (neg := false); simpa only [Bool.false_xor] using z)) fun ρ => e2_or ρ
theorem de_notIn {m ma mb : Md} {a b : Expr} {ga gb : GE} {pos : Pos} (ha : DE F ma a ga) (hb : DE F mb b gb) (hm : behindInMarks .NotIn b = false := by rfl) : DC F m (.Compare a [.NotIn] [b] pos) (e2 (dIn true) ga gb) := by
  obtain ⟨ta, pa, sa⟩ := de_any ha
  obtain ⟨tb, pb, sb⟩ := de_any hb
  have ho : ∀ i, OpR (F.X i) (compareOp .NotIn) (fun x y H Q => rInP F.K true x y H Q ∨ (fun x y H Q => ∃ (c : Nat) (z : Str), x = .str ⟨#[c]⟩ ∧ y = .str z ∧ Q (.bl (!decide (c ∈ z.cps.toList))) H) x y H Q) := fun i => by
    have z := (op_notInP (X := F.X i) (units120 i)).or op_notIn_sign
    rw [F.hK i] at z
    exact z
  refine ⟨_, fun i => pe_alt (t' := tDNotIn ta tb) (pe_cmpR (ho i) (pa i) (pb i) hm) (pe_cmp (pc_dnotin (hu1 i) (pa i) (pb i)) hm), fun i => pt_alt (pt_cmpR (ho i) (pa i) (pb i) hm) (pt_cmp (pc_dnotin (hu1 i) (pa i) (pb i)) hm), ?_⟩
  exact sem_alt (sem_op sa sb (ops_inL.or1 ops_notInS)) (sem_op (r := fun y x H Q => ∃ a o, x = .ref a ∧ DGet H a y o ∧ Q (.bl (!o.isSome)) H) (f := dInD true) sa sb (by have z := ops_inD (K := F.K) (m := m) (neg := true); simpa only [Bool.true_xor] using z)) fun ρ => e2_or ρ

/-! ### methods of texts -/
def eM0 (f : D → Option D) (a : GE) : GE := e1 f a
theorem sem_m0 {m : Md} {r : V → List V → Hp → VK → Prop} {f : D → Option D} {ta : TE} {ga : GE} (ha : SemE F .bo ta ga) (hr : UnS F.K m (fun x H Q => (∃ a, x = .str a) ∧ r x [] H Q) f) : SemE F m (tM0 r ta) (e1 f ga) := sem_un (r := fun x H Q => (∃ a, x = .str a) ∧ r x [] H Q) ha hr
theorem sem_m1 {m : Md} {r : V → List V → Hp → VK → Prop} {f : D → D → Option D} {ta tb : TE} {ga gb : GE} (ha : SemE F .bo ta ga) (hb : SemE F .bo tb gb) (hs : ∀ ρ d, ga ρ = .ok d → e2 f ga gb ρ ≠ .stuck → ∃ x, d = .str x) (hr : OpS F.K m (fun x y H Q => r x [y] H Q) f) : SemE F m (tM1 r ta tb) (e2 f ga gb) := fun H0 hid0 s ρ S Q q => by
  refine ha H0 hid0 s ρ S _ ?_
  have hq : e2 f ga gb ρ ≠ .stuck := fun z => by rw [z] at q; exact q
  have hs := hs ρ
  unfold e2 at q
  split
  · rename_i d hd
    intro v H1 e1 r1
    rw [hd, bind_ok] at q
    obtain ⟨x, rfl⟩ := hs d hd hq
    refine ⟨⟨x, bo_str r1⟩, hb H0 hid0 { s with H := H1 } ρ (S.ext e1) _ ?_⟩
    split
    · rename_i d2 hd2
      intro u H2 e2 r2
      rw [hd2, bind_ok] at q
      cases hf : f (.str x) d2 with
      | none => rw [hf] at q; exact q.elim
      | some z =>
        rw [hf] at q
        exact hr s.hid H2 _ d2 z v u Q (dom_ex (e1.trans e2) S.dom) (bo_ext e2 r1) r2 hf fun v' H' e' r' => q v' H' ((e1.trans e2).trans e') (rm_back (e1.trans e2) r')
    · rename_i c hd2
      rw [hd2, bind_err] at q
      exact fun H2 e2 => q H2 (e1.trans e2)
    · rename_i hd2
      rw [hd2, bind_stuck] at q
      exact q
  · rename_i c hd
    rw [hd, bind_err] at q
    exact q
  · rename_i hd
    rw [hd, bind_stuck] at q
    exact q
/-- a text first, whatever the second part is -/
def dS (f : Str → D → Option D) : D → D → Option D
  | .str x, d => f x d
  | _, _ => none
def eM1 (f : Str → D → Option D) (a b : GE) : GE := fun ρ => (a ρ).bind fun x => match x with
  | .str x => (b ρ).bind fun y => lift (f x y)
  | _ => .stuck
theorem sem_m1' {m : Md} {r : V → List V → Hp → VK → Prop} {f : Str → D → Option D} {ta tb : TE} {ga gb : GE} (ha : SemE F .bo ta ga) (hb : SemE F .bo tb gb) (hr : OpS F.K m (fun x y H Q => r x [y] H Q) (dS f)) : SemE F m (tM1 r ta tb) (eM1 f ga gb) := fun H0 hid0 s ρ S Q q => by
  refine ha H0 hid0 s ρ S _ ?_
  unfold eM1 at q
  cases hd : ga ρ with
  | stuck => rw [hd] at q; exact q.elim
  | err c => rw [hd, bind_err] at q; exact q
  | ok d =>
    rw [hd, bind_ok] at q
    intro v H1 e1 r1
    cases d with
    | str x =>
      refine ⟨⟨x, bo_str r1⟩, hb H0 hid0 { s with H := H1 } ρ (S.ext e1) _ ?_⟩
      dsimp only at q
      cases hd2 : gb ρ with
      | stuck => rw [hd2] at q; exact q.elim
      | err c => rw [hd2, bind_err] at q; exact fun H2 e2 => q H2 (e1.trans e2)
      | ok d2 =>
        rw [hd2, bind_ok] at q
        intro u H2 e2 r2
        cases hf : f x d2 with
        | none => rw [hf] at q; exact q.elim
        | some z =>
          rw [hf] at q
          exact hr s.hid H2 (.str x) d2 z v u Q (dom_ex (e1.trans e2) S.dom) (bo_ext e2 r1) r2 hf fun v' H' e' r' => q v' H' ((e1.trans e2).trans e') (rm_back (e1.trans e2) r')
    | none => exact q.elim
    | bool _ => exact q.elim
    | int _ => exact q.elim
    | list _ => exact q.elim
    | tuple _ => exact q.elim
    | dict _ => exact q.elim
/-- s.split(t) -/
def dSplit (x : Str) : D → Option D
  | .str y => if y.length ≠ 0 ∧ x.length ≤ 1000000 then some (.list ((Txt.split x y).map .str)) else none
  | _ => none
theorem ops_split : OpS K .au (fun x y H Q => ∃ a b, x = V.str a ∧ [y] = [V.str b] ∧ (b.length == 0) = false ∧ a.length + 2 ≤ sizeLine ∧ rNewStrs (Txt.split a b) H Q) (dS dSplit) := fun hid H d e z x y Q dom rx ry hf q => by
  cases d <;> simp only [dS] at hf <;> try cases hf
  cases e <;> simp only [dSplit] at hf <;> try cases hf
  split at hf
  · rename_i hc
    cases hf
    have := bo_str rx
    subst this
    have := bo_str ry
    subst this
    exact ⟨_, _, rfl, rfl, by simpa using hc.1, Nat.le_trans (Nat.add_le_add_right hc.2 2) (by decide), fun p hp => q _ _ (Ex.new hp) (au_list hp MnA.of_strs)⟩
  · cases hf
theorem de_split {ma mb : Md} {a b : Expr} {ga gb : GE} {apos pos : Pos} (ha : DE F ma a ga) (hb : DE F mb b gb) (hs : ∀ env, starEach [b] env = [(false, eval b env)] := by intro _; rfl) (hbase : ∀ env, attributeBase a "split" env (eval a env) = eval a env := by intro _; rfl) (hline : (apos.endLine == pos.line) = true := by rfl) :
    DE F .au (.Call (.Attribute a "split" apos) [b] [] pos) (eM1 dSplit ga gb) := by
  obtain ⟨ta, pa, sa⟩ := de_any ha
  obtain ⟨tb, pb, sb⟩ := de_any hb
  exact ⟨_, fun i => pe_split (pa i) (pb i) (hs _) (hbase _) hline, sem_m1' sa sb ops_split⟩
/-- s.join(xs) -/
def sumL (ys : List Str) : Nat := (ys.map (·.length)).sum
def dJoin (x : Str) : D → Option D
  | .list ds => (strsOf ds).bind fun ys => if sumL ys + ys.length * x.length ≤ 1000000 then some (.str (Txt.join x ys)) else none
  | .tuple ds => (strsOf ds).bind fun ys => if sumL ys + ys.length * x.length ≤ 1000000 then some (.str (Txt.join x ys)) else none
  | _ => none
abbrev rJoinV (K : PySem.W.Frag) : V → List V → Hp → VK → Prop := fun x xs H Q => ∃ a p, ∃ ys : List Str, x = V.str a ∧ xs = [V.ref p] ∧ (SqL K H p (ys.map V.str) ∨ SqT K H p (ys.map V.str)) ∧ (ys.map (·.length)).sum + ys.length * a.length ≤ 16777216 ∧ Q (.str (Txt.join a ys)) H
theorem ops_join {m : Md} : OpS K m (fun x y H Q => rJoinV K x [y] H Q) (dS dJoin) := fun hid H d e z x y Q dom rx ry hf q => by
  cases d <;> simp only [dS] at hf <;> try cases hf
  have := bo_str rx
  subst this
  cases e <;> simp only [dJoin] at hf <;> try cases hf
  · rename_i x' ds
    obtain ⟨p, xs, rfl, h1, h2⟩ := bo_list ry
    cases hs : strsOf ds with
    | none => rw [hs] at hf; cases hf
    | some ys =>
      rw [hs] at hf
      have hf : (if sumL ys + ys.length * x'.length ≤ 1000000 then some (PyData.str (Txt.join x' ys)) else none) = some z := hf
      split at hf
      · rename_i hl
        cases hf
        have := strsOf_eq hs
        subst this
        have := h2.strs
        subst this
        exact ⟨_, p, ys, rfl, rfl, .inl (SqL.of h1), Nat.le_trans hl (by decide), q _ _ (Ex.refl _) rm_str⟩
      · cases hf
  · rename_i x' ds
    obtain ⟨p, xs, rfl, h1, h2⟩ := bo_tup ry
    cases hs : strsOf ds with
    | none => rw [hs] at hf; cases hf
    | some ys =>
      rw [hs] at hf
      have hf : (if sumL ys + ys.length * x'.length ≤ 1000000 then some (PyData.str (Txt.join x' ys)) else none) = some z := hf
      split at hf
      · rename_i hl
        cases hf
        have := strsOf_eq hs
        subst this
        have := h2.strs
        subst this
        exact ⟨_, p, ys, rfl, rfl, .inr (Evl.ex_t hide_ex h1), Nat.le_trans hl (by decide), q _ _ (Ex.refl _) rm_str⟩
      · cases hf
theorem de_join {m ma mb : Md} {a b : Expr} {ga gb : GE} {apos pos : Pos} (ha : DE F ma a ga) (hb : DE F mb b gb) (hs : ∀ env, starEach [b] env = [(false, eval b env)] := by intro _; rfl) (hbase : ∀ env, attributeBase a "join" env (eval a env) = eval a env := by intro _; rfl) (hline : (apos.endLine == pos.line) = true := by rfl) :
    DE F m (.Call (.Attribute a "join" apos) [b] [] pos) (eM1 dJoin ga gb) := by
  obtain ⟨ta, pa, sa⟩ := de_any ha
  obtain ⟨tb, pb, sb⟩ := de_any hb
  refine ⟨tM1 (rJoinV F.K) ta tb, fun i => ?_, sem_m1' sa sb ops_join⟩
  have z := pe_join (pa i) (pb i) (hs _) (hbase _) hline
  rw [F.hK i] at z
  exact z
/-- s.upper() -/
def dUpper : D → Option D
  | .str x => if x.length ≤ 1000000 then some (.str (Txt.upper x)) else none
  | _ => none
theorem uns_upper {m : Md} : UnS K m (fun x H Q => (∃ a, x = .str a) ∧ ∃ a, x = .str a ∧ ([] : List V) = [] ∧ a.length ≤ 5592405 ∧ Q (.str (Txt.upper a)) H) dUpper := fun hid H d z x Q dom rx hf q => by
  cases d <;> simp only [dUpper] at hf <;> try cases hf
  split at hf
  · rename_i hc
    cases hf
    have := bo_str rx
    subst this
    exact ⟨⟨_, rfl⟩, _, rfl, rfl, Nat.le_trans hc (by decide), q _ _ (Ex.refl _) rm_str⟩
  · cases hf
theorem de_upper {m ma : Md} {a : Expr} {ga : GE} {apos pos : Pos} (ha : DE F ma a ga) (hbase : ∀ env, attributeBase a "upper" env (eval a env) = eval a env := by intro _; rfl) (hline : (apos.endLine == pos.line) = true := by rfl) :
    DE F m (.Call (.Attribute a "upper" apos) [] [] pos) (e1 dUpper ga) := by
  obtain ⟨ta, pa, sa⟩ := de_any ha
  exact ⟨_, fun i => pe_upper (pa i) (hbase _) hline, sem_m0 sa uns_upper⟩
end
end DL
set_option Elab.async false
set_option linter.all false
set_option maxRecDepth 100000
set_option maxHeartbeats 4000000
namespace DL
open PySem PySem.Spec PyProof.Rows L2
variable [TabsC]
/-! ### defs, their calls -/
def WF (K : PySem.W.Frag) (cl : Nat → Value) (m : Md) (hid : List Addr) (H : Hp) (Q : VK) (E : XK) : Out D → Prop
  | .ok d => ∀ v H', Ex H H' → Rm K m hid H H' d v → Q v H'
  | .err c => ∀ H', Ex H H' → E (cl c) none H'
  | .stuck => False
def spD (K : PySem.W.Frag) (cl : Nat → Value) (n : Nat) (m : Md) (f : List D → Out D) : Sp := fun vs H Q E => vs.length = n ∧ LamX.Tabs TabsC.T H ∧ ∃ (hid : List Addr) (ds : List D), (∀ a ∈ hid, IsC (H a)) ∧ MnA K (hide hid H) ds vs ∧ WF K cl m hid H Q E (f ds)
structure FnD (P : Program) (w : World) (K : PySem.W.Frag) (mg : Str → Option Value) (base : Heap) (cl : Nat → Value) (x : Str) (n : Nat) (m : Md) (k : Nat) (f : List D → Out D) : Prop where
  ex : ∃ (fa : Addr) (fd : FuncData) (ps : List Str), FnOk P w K mg base (L2N.CX P w) k fa fd ps (spD K cl n m f) ∧ mg x = some (.ref fa) ∧ PySem.W.keepIn K (.ref fa) = true ∧ L2.Binds K fd ps []
  ln : ∀ ds, ds.length ≠ n → f ds = .stuck
def eCall (f : List D → Out D) (a : GA) : GE := fun ρ => (a ρ).bind f
def imO : Out D → Out D
  | .ok d => if imm d then .ok d else .stuck
  | o => o
def eCallB (f : List D → Out D) (a : GA) : GE := fun ρ => (a ρ).bind fun ds => imO (f ds)
section
variable {F : Fam} {K : PySem.W.Frag}
theorem fnok_at {k : Nat} {fa : Addr} {fd : FuncData} {ps : List Str} {sp : Sp} (i : F.ι) (h : FnOk F.P F.w F.K F.mg F.base (L2N.CX F.P F.w) k fa fd ps sp) : FnOk (F.X i).prog (F.X i).w (F.X i).K (F.X i).mg (F.X i).base (L2N.CX F.P F.w) k fa fd ps sp := by
  rw [F.hP, F.hw, F.hK, F.hmg, F.hbase]
  exact h
theorem de_call {x : Str} {n k : Nat} {m : Md} {f : List D → Out D} {e : Expr} {es : List Expr} {ga : GA} {p pos : Pos} (h : FnD F.P F.w F.K F.mg F.base F.cl x n m k f) (hk : k ≤ F.lv) (ha : DA F .fz (e :: es) ga) (hg : F.sn.lookup x = some .globalImplicit := by rfl) (hdb : (x == ("__debug__" : Str)) = false := by decide)
    (he : ∀ env, starEach (e :: es) env = (false, eval e env) :: starEach es env := by intro _; rfl) (hpl : ∀ env, (backTo pos (starEach es env)).any (·.1) = false := by intro _; rfl) (hh : F.hot = false := by rfl) : DE F m (.Call (.Name x p) (e :: es) [] pos) (eCall f ga) := by
  obtain ⟨fa, fd, ps, hF, hm, hkp, hb⟩ := h.ex
  obtain ⟨ta, pa, sa⟩ := ha
  refine ⟨tCall (spD F.K F.cl n m f) [] F.E ta, fun i => pe_call (fnok_at i hF) ((F.room i).to (F.hd hh i) hk) (gl_of hg i) (by rw [F.hmg]; exact hm) (by rw [F.hK]; exact hkp) (by rw [F.hK]; exact hb) .nil (F.pas i) (pa i) hdb (he _) (hpl _), fun H0 hid0 s ρ S Q q => sa H0 hid0 s ρ S _ ?_⟩
  unfold eCall at q
  split
  · rename_i ds hd
    rw [hd, bind_ok] at q
    intro vs H1 e1 r1
    have mn := rma_mn r1
    show spD F.K F.cl n m f (vs ++ []) H1 Q F.E
    rw [List.append_nil]
    refine ⟨?_, (S.ex0.trans e1).tb S.tb0, s.hid, ds, knd_ex e1 S.knd, mn, ?_⟩
    · rw [mn.length]
      exact Classical.byContradiction fun z => by rw [h.ln ds z] at q; exact q
    · split at q
      · rename_i d hf
        rw [hf]
        exact fun v H' e r => q v H' (e1.trans e) (rm_back e1 r)
      · rename_i c hf
        rw [hf]
        exact fun H' e => q H' (e1.trans e)
      · exact q.elim
  · rename_i c hd
    rw [hd, bind_err] at q
    exact q
  · rename_i hd
    rw [hd, bind_stuck] at q
    exact q
/-- what is handed in may be a name's own list; what comes back has none within -/
theorem de_callO {m' : Md} {x : Str} {n k : Nat} {m : Md} {f : List D → Out D} {e : Expr} {es : List Expr} {ga : GA} {p pos : Pos} (h : FnD F.P F.w F.K F.mg F.base F.cl x n m k f) (hk : k ≤ F.lv) (ha : DA F .bo (e :: es) ga) (hg : F.sn.lookup x = some .globalImplicit := by rfl) (hdb : (x == ("__debug__" : Str)) = false := by decide)
    (he : ∀ env, starEach (e :: es) env = (false, eval e env) :: starEach es env := by intro _; rfl) (hpl : ∀ env, (backTo pos (starEach es env)).any (·.1) = false := by intro _; rfl) (hh : F.hot = false := by rfl) : DE F m' (.Call (.Name x p) (e :: es) [] pos) (eCallB f ga) := by
  obtain ⟨fa, fd, ps, hF, hm, hkp, hb⟩ := h.ex
  obtain ⟨ta, pa, sa⟩ := ha
  refine ⟨tCall (spD F.K F.cl n m f) [] F.E ta, fun i => pe_call (fnok_at i hF) ((F.room i).to (F.hd hh i) hk) (gl_of hg i) (by rw [F.hmg]; exact hm) (by rw [F.hK]; exact hkp) (by rw [F.hK]; exact hb) .nil (F.pas i) (pa i) hdb (he _) (hpl _), fun H0 hid0 s ρ S Q q => sa H0 hid0 s ρ S _ ?_⟩
  unfold eCallB at q
  split
  · rename_i ds hd
    rw [hd, bind_ok] at q
    intro vs H1 e1 r1
    have mn := rma_full r1
    show spD F.K F.cl n m f (vs ++ []) H1 Q F.E
    rw [List.append_nil]
    refine ⟨?_, (S.ex0.trans e1).tb S.tb0, [], ds, fun a h => (by cases h), mn, ?_⟩
    · rw [mn.length]
      exact Classical.byContradiction fun z => by rw [h.ln ds z] at q; exact q
    · cases hf : f ds with
      | stuck => rw [hf] at q; exact q
      | err c =>
        rw [hf] at q
        exact fun H' e => q H' (e1.trans e)
      | ok d =>
        rw [hf] at q
        have q : match (if imm d then Out.ok d else .stuck) with | .ok d => ∀ v H', Ex s.H H' → Rm F.K m' s.hid s.H H' d v → Q v H' | .err c => ∀ H', Ex s.H H' → F.E (F.cl c) none H' | .stuck => False := q
        by_cases hi : imm d = true
        · rw [if_pos hi] at q
          intro v H' e r
          refine q v H' (e1.trans e) (rm_plain (imm_con hi) (Mn.imm (knd_ex (e1.trans e) S.knd) d v hi ?_))
          have r' : Rm F.K .fz [] H1 H' d v := by
            cases m with
            | fz => exact r
            | bo =>
              rcases r with r | ⟨a, rfl, r⟩
              · exact r
              · have := imm_con hi
                cases d <;> simp [isCon] at this <;> exact r.elim
            | au => exact rm_fz (fun a h => by cases h) r
          have r' : Mn F.K (hide [] H') d v := r'
          exact Mn.mono hide_ex d v r'
        · rw [if_neg hi] at q
          exact q.elim
  · rename_i c hd
    rw [hd, bind_err] at q
    exact q
  · rename_i hd
    rw [hd, bind_stuck] at q
    exact q
end
/-! ### statements -/
/-- how a def's end is held: as m; or, for a def with a ledger, the ledger beside it -/
def RmR (K : PySem.W.Frag) (m : Md) (hid : List Addr) (H H' : Hp) (d : D) (v : V) : Prop := match m with
  | .bo => ∃ d' L', d = .tuple [d', ledD true L'] ∧ LedIn K (hid ++ addrs L') H' L' ∧ (∀ a ∈ addrs L', noT (H a) = none) ∧ Mn K (hide (hid ++ addrs L') H') d' v
  | .fz => Rm K .fz hid H H' d v
  | .au => Rm K .au hid H H' d v
theorem rmR_of {K : PySem.W.Frag} {m : Md} {hid : List Addr} {H H' : Hp} {d : D} {v : V} (h : m ≠ .bo) : RmR K m hid H H' d v ↔ Rm K m hid H H' d v := by
  cases m with
  | bo => exact absurd rfl h
  | fz => exact Iff.rfl
  | au => exact Iff.rfl
def WS (F : Fam) (rm : Md) (H0 : Hp) (hid0 : List Addr) (Hf : Hp) (Dn : Ends) : Out Fl → Prop
  | .ok (.nx ρ') => ∀ s', Wx Hf (hide s'.hid s'.H) → Sees F.K H0 hid0 F.O s' ρ' → Dn.nx s'.σ s'.H
  | .ok (.rt d) => ∀ v H', Ex H0 H' → RmR F.K rm hid0 H0 H' d v → Dn.rt v H'
  | .ok (.bk ρ') => ∀ s', Wx Hf (hide s'.hid s'.H) → Sees F.K H0 hid0 F.O s' ρ' → Dn.bk s'.σ s'.H
  | .ok (.ct ρ') => ∀ s', Wx Hf (hide s'.hid s'.H) → Sees F.K H0 hid0 F.O s' ρ' → Dn.ct s'.σ s'.H
  | .err c => ∀ H', Ex H0 H' → F.E (F.cl c) none H'
  | .stuck => False
def SemS (F : Fam) (rm : Md) (t : TS) (g : GS) : Prop :=
  ∀ (H0 : Hp) (hid0 : List Addr) (s : Sx) (ρ : Env), Sees F.K H0 hid0 F.O s ρ → ∀ Dn : Ends, WS F rm H0 hid0 (hide s.hid s.H) Dn (g ρ) → t Dn s.σ s.H
def DS (F : Fam) (rm : Md) (st : Stmt) (g : GS) : Prop := ∃ t, (∀ i, PS (F.X i) st t) ∧ SemS F rm t g
def DSs (F : Fam) (rm : Md) (sts : List Stmt) (g : GS) : Prop := ∃ t, (∀ i, PSs (F.X i) sts t) ∧ SemS F rm t g
def sNil : GS := fun ρ => .ok (.nx ρ)
def sThen (o : Out Fl) (k : GS) : Out Fl := match o with
  | .ok (.nx ρ') => k ρ'
  | o => o
def sSeq (g k : GS) : GS := fun ρ => sThen (g ρ) k
section
variable {F : Fam} {rm : Md} {K : PySem.W.Frag} {H0 : Hp} {hid0 : List Addr} {s : Sx} {ρ : Env}
theorem WS.mono {Hf Hf' : Hp} {Dn : Ends} (e : Wx Hf Hf') : ∀ {o : Out Fl}, WS F rm H0 hid0 Hf Dn o → WS F rm H0 hid0 Hf' Dn o
  | .ok (.nx ρ'), q => fun s' e' => q s' (e.trans e')
  | .ok (.rt d), q => q
  | .ok (.bk ρ'), q => fun s' e' => q s' (e.trans e')
  | .ok (.ct ρ'), q => fun s' e' => q s' (e.trans e')
  | .err c, q => q
  | .stuck, q => q
theorem dss_nil : DSs F rm [] sNil := ⟨_, fun _ => pss_nil, fun H0 hid0 s ρ S Dn q => q s (Evl.Ex.refl _) S⟩
theorem sem_seq {t u : TS} {g k : GS} (h : SemS F rm t g) (h2 : SemS F rm u k) : SemS F rm (tSeq t u) (sSeq g k) := fun H0 hid0 s ρ S Dn q => by
  refine h H0 hid0 s ρ S { Dn with nx := u Dn } ?_
  unfold sSeq at q
  cases hg : g ρ with
  | stuck => rw [hg] at q; exact q
  | err c => rw [hg] at q; exact q
  | ok f =>
    rw [hg] at q
    cases f with
    | nx ρ' => exact fun s' e S' => h2 H0 hid0 s' ρ' S' Dn (WS.mono e q)
    | rt d => exact q
    | bk ρ' => exact q
    | ct ρ' => exact q
theorem dss_cons {st : Stmt} {rest : List Stmt} {g k : GS} (h : DS F rm st g) (h2 : DSs F rm rest k) : DSs F rm (st :: rest) (sSeq g k) :=
  ⟨_, fun i => pss_cons (h.choose_spec.1 i) (h2.choose_spec.1 i), sem_seq h.choose_spec.2 h2.choose_spec.2⟩
theorem dss_one {st : Stmt} {g : GS} (h : DS F rm st g) : DSs F rm [st] g := ⟨_, fun i => pss_one (h.choose_spec.1 i), h.choose_spec.2⟩
theorem fro (S : Sees F.K H0 hid0 F.O s ρ) {H' : Hp} (e : Ex s.H H') : Wx (hide s.hid s.H) (hide s.hid H') := hide_mono e
def sExpr (g : GE) : GS := fun ρ => (g ρ).bind fun _ => .ok (.nx ρ)
theorem ds_expr {m : Md} {e : Expr} {g : GE} {pos : Pos} (h : DE F m e g) (hs : ∀ env, swapsWith e none pos.line env = pure false := by intro _; rfl) : DS F rm (.Expr e pos) (sExpr g) := by
  obtain ⟨te, pe, se⟩ := h
  refine ⟨_, fun i => ps_expr (pe i) (hs _), fun H0 hid0 s ρ S Dn q => se H0 hid0 s ρ S _ ?_⟩
  unfold sExpr at q
  split
  · rename_i d hd
    rw [hd, bind_ok] at q
    exact fun v H' e r => q { s with H := H' } (hide_mono e) (S.ext e)
  · rename_i c hd
    rw [hd, bind_err] at q
    exact fun H' e => q H' (S.ex0.trans e)
  · rename_i hd
    rw [hd, bind_stuck] at q
    exact q
theorem ds_doc {x : Str} {j pos pos'} : DS F rm (.Expr (.Constant (.str x) j pos) pos') sNil := ⟨_, fun i => ps_doc, fun H0 hid0 s ρ S Dn q => q s (Evl.Ex.refl _) S⟩
theorem ds_pass {pos : Pos} : DS F rm (.Pass pos) sNil := ⟨_, fun i => ps_pass, fun H0 hid0 s ρ S Dn q => q s (Evl.Ex.refl _) S⟩
def sBrk : GS := fun ρ => .ok (.bk ρ)
def sCnt : GS := fun ρ => .ok (.ct ρ)
theorem ds_break {pos : Pos} : DS F rm (.Break pos) sBrk := ⟨_, fun i => ps_break, fun H0 hid0 s ρ S Dn q => q s (Evl.Ex.refl _) S⟩
theorem ds_continue {pos : Pos} : DS F rm (.Continue pos) sCnt := ⟨_, fun i => ps_continue, fun H0 hid0 s ρ S Dn q => q s (Evl.Ex.refl _) S⟩
/-! x = e -/
def sSet (i : Nat) (g : GE) : GS := fun ρ => (g ρ).bind fun d => .ok (.nx (ρ.set i (some d)))
theorem sem_set {i : Nat} {te : TE} {g : GE} (hO : F.O i = some false) (h : SemE F .fz te g) : SemS F rm (tAsg te (gName i)) (sSet i g) := fun H0 hid0 s ρ S Dn q => by
  refine h H0 hid0 s ρ S _ ?_
  unfold sSet at q
  split
  · rename_i d hd
    rw [hd, bind_ok] at q
    exact fun v H' e r => q { s with σ := s.σ.set i (some v), H := H' } (hide_mono e) ((S.ext e).set hO r)
  · rename_i c hd
    rw [hd, bind_err] at q
    exact fun H' e => q H' (S.ex0.trans e)
  · rename_i hd
    rw [hd, bind_stuck] at q
    exact q
theorem ds_set (i : Nat) {x : Str} {e : Expr} {g : GE} {pos' pos : Pos} (h : DE F .fz e g) (hN : F.N[i]? = some x := by rfl) (hst : F.sto x = true := by rfl) (hO : F.O i = some false := by rfl) (hs : ∀ env, swapsWith e (some (.Name x pos')) pos.line env = pure false := by intro _; rfl) : DS F rm (.Assign [.Name x pos'] e pos) (sSet i g) :=
  ⟨_, fun j => ps_set (by rw [F.hN]; exact F.nd) (by rw [F.hN]; exact hN) (F.hsto j x hst).1 (h.choose_spec.1 j) (hs _) (F.hsto j x hst).2, sem_set hO h.choose_spec.2⟩
/-- a slot takes a new list or dict as its own -/
theorem Sees.take (S : Sees F.K H0 hid0 F.O s ρ) {i : Nat} {d : D} {H' : Hp} {a : Addr} (hO : F.O i = some true) (e : Ex s.H H') (hn : noT (s.H a) = none) (h : OwnAt F.K s.hid H' a d) :
    Sees F.K H0 hid0 F.O { hid := a :: s.hid, own := fun j => if j = i then some a else s.own j, σ := s.σ.set i (some (.ref a)), H := H' } (ρ.set i (some d)) ∧ Wx (hide s.hid s.H) (hide (a :: s.hid) H') := by
  have fx : Wx (hide s.hid s.H) (hide (a :: s.hid) H') := by
    exact hide_new hn e
  have hc : isCon d = true ∧ IsC (H' a) := by
    cases d with
    | list ds => obtain ⟨xs, h1, _⟩ := h; exact ⟨rfl, by rw [h1]; trivial⟩
    | dict ds => obtain ⟨xs, h1, _⟩ := h; exact ⟨rfl, by rw [h1]; trivial⟩
    | none => exact h.elim
    | bool _ => exact h.elim
    | int _ => exact h.elim
    | str _ => exact h.elim
    | tuple _ => exact h.elim
  have na : ∀ j b, s.own j = some b → b ≠ a := fun j b hj z => by
    have := S.dom b (S.oh j b hj).1
    rw [z] at this
    exact this hn
  have n0 : noT (H0 a) = none := fresh_back S.ex0 hn
  -- what is owned, under one address hidden more
  have ow' : ∀ {b : Addr} {d : D}, b ≠ a → OwnAt F.K s.hid s.H b d → OwnAt F.K (a :: s.hid) H' b d := fun {b d} hb o => by
    cases d with
    | list ds =>
      obtain ⟨xs, q1, q2⟩ := o
      exact ⟨xs, e.l q1, MnA.mono ((hide_new (hid := b :: s.hid) hn e).trans hide_swap) ds xs q2⟩
    | dict ps =>
      obtain ⟨xs, q1, q2⟩ := o
      exact ⟨xs, e.d q1, MnK.mono ((hide_new (hid := b :: s.hid) hn e).trans hide_swap) ps xs q2⟩
    | none => exact o.elim
    | bool _ => exact o.elim
    | int _ => exact o.elim
    | str _ => exact o.elim
    | tuple _ => exact o.elim
  have new : OwnAt F.K (a :: s.hid) H' a d := by
    have hh : Wx (hide (a :: s.hid) H') (hide (a :: a :: s.hid) H') := hide_sub fun b hb => by
      simp only [List.mem_cons] at hb ⊢
      rcases hb with hb | hb | hb
      · exact .inl hb
      · exact .inl hb
      · exact .inr hb
    cases d with
    | list ds =>
      obtain ⟨xs, q1, q2⟩ := h
      exact ⟨xs, q1, MnA.mono hh ds xs q2⟩
    | dict ps =>
      obtain ⟨xs, q1, q2⟩ := h
      exact ⟨xs, q1, MnK.mono hh ps xs q2⟩
    | none => exact h.elim
    | bool _ => exact h.elim
    | int _ => exact h.elim
    | str _ => exact h.elim
    | tuple _ => exact h.elim
  refine ⟨⟨?_, S.ex0.trans e, fun b hb => List.mem_cons_of_mem _ (S.sub b hb), fun b hb => ?_, S.dom0, S.tb0, fun j d' h1 h2 => ?_, fun j d' h1 h2 => ?_, fun j b hj => ?_, fun j k b hj hk => ?_, fun j d' h1 h2 => ?_⟩, fx⟩
  · show (s.σ.set i (some (.ref a))).length = _
    rw [List.length_set, List.length_set]
    exact S.len
  · rcases List.mem_cons.mp hb with rfl | hb
    · exact hc.2
    · exact knd_ex e S.knd b hb
  · show ∃ v, (s.σ.set i (some (.ref a)))[j]? = some (some v) ∧ _
    have hj : i ≠ j := fun z => by rw [← z, hO] at h1; cases h1
    rw [List.getElem?_set_ne hj] at h2 ⊢
    obtain ⟨v, q1, q2⟩ := S.fz j d' h1 h2
    exact ⟨v, q1, Mn.mono fx d' v q2⟩
  · show ∃ b, (s.σ.set i (some (.ref a)))[j]? = some (some (V.ref b)) ∧ (if j = i then some a else s.own j) = some b ∧ _
    by_cases hj : i = j
    · subst hj
      by_cases hl : i < ρ.length
      · rw [List.getElem?_set_self hl] at h2
        cases h2
        refine ⟨a, List.getElem?_set_self (by rw [S.len]; exact hl), if_pos rfl, ?_⟩
        exact new
      · rw [List.getElem?_eq_none (by rw [List.length_set]; omega)] at h2
        cases h2
    · rw [List.getElem?_set_ne hj] at h2 ⊢
      obtain ⟨b, q1, q2, q3⟩ := S.ow j d' h1 h2
      exact ⟨b, q1, by rw [if_neg (Ne.symm hj)]; exact q2, ow' (na j b q2) q3⟩
  · have hj : (if j = i then some a else s.own j) = some b := hj
    split at hj
    · cases hj
      exact ⟨List.mem_cons_self, n0⟩
    · exact ⟨List.mem_cons_of_mem _ (S.oh j b hj).1, (S.oh j b hj).2⟩
  · have hj : (if j = i then some a else s.own j) = some b := hj
    have hk : (if k = i then some a else s.own k) = some b := hk
    split at hj
    · split at hk
      · rename_i e1 e2; rw [e1, e2]
      · cases hj
        exact absurd rfl (na k a hk)
    · split at hk
      · cases hk
        exact absurd rfl (na j a hj)
      · exact S.inj j k b hj hk
  · have hj : i ≠ j := fun z => by rw [← z, hO] at h1; cases h1
    rw [List.getElem?_set_ne hj] at h2
    obtain ⟨mu, L, e1, e2, e3, e4⟩ := S.led j d' h1 h2
    refine ⟨mu, L, e1, e2.step (fun b hb => isC_ex e (e2.isC b hb)) fx (fun b hb => List.mem_cons_of_mem _ (e2.hd b hb)), fun b hb k hk => ?_, e4⟩
    have hk : (if k = i then some a else s.own k) = some b := hk
    split at hk
    · cases hk
      exact (e2.isC a hb).ne (by rw [isC_ex (H := s.H) (H' := s.H) (Ex.refl _) (e2.isC a hb)]; exact hn)
    · exact e3 b hb k hk
end
end DL
set_option Elab.async false
set_option linter.all false
set_option maxRecDepth 100000
set_option maxHeartbeats 4000000
namespace DL
open PySem PySem.Spec PyProof.Rows L2
variable [TabsC]
section
variable {F : Fam} {rm : Md} {K : PySem.W.Frag} {H0 : Hp} {hid0 : List Addr} {s : Sx} {ρ : Env}
/-! ### if -/
def sIf (c : GT) (a b : GS) : GS := fun ρ => (c ρ).bind fun k => bif k then a ρ else b ρ
theorem sem_ifS {tc : TT} {t u : TS} {c : GT} {a b : GS} (hc : SemT F tc c) (ha : SemS F rm t a) (hb : SemS F rm u b) : SemS F rm (tIfS tc t u) (sIf c a b) := fun H0 hid0 s ρ S Dn q => by
  refine hc H0 hid0 s ρ S _ ?_
  unfold sIf at q
  split
  · rename_i k hk
    rw [hk, bind_ok] at q
    intro H' e
    cases k with
    | true =>
      rw [if_pos rfl]
      exact ha H0 hid0 { s with H := H' } ρ (S.ext e) Dn (WS.mono (hide_mono e) q)
    | false =>
      rw [if_neg Bool.false_ne_true]
      exact hb H0 hid0 { s with H := H' } ρ (S.ext e) Dn (WS.mono (hide_mono e) q)
  · rename_i k hk
    rw [hk, bind_err] at q
    exact fun H' e => q H' (S.ex0.trans e)
  · rename_i hk
    rw [hk, bind_stuck] at q
    exact q
theorem ds_if {c : Expr} {a b : List Stmt} {pos : Pos} {gc : GT} {ga gb : GS} (hc : DT F c gc) (ha : DSs F rm a ga) (hb : DSs F rm b gb) : DS F rm (.If c a b pos) (sIf gc ga gb) :=
  ⟨_, fun i => ps_if (hc.choose_spec.1 i) (ha.choose_spec.1 i) (hb.choose_spec.1 i), sem_ifS hc.choose_spec.2 ha.choose_spec.2 hb.choose_spec.2⟩
/-! ### return -/
def sRet (g : GE) : GS := fun ρ => (g ρ).bind fun d => .ok (.rt d)
theorem rm_out {m : Md} {H' : Hp} {d : D} {v : V} (S : Sees F.K H0 hid0 F.O s ρ) (e : Ex s.H H') (r : Rm F.K m s.hid s.H H' d v) (hm : m ≠ .bo) : Rm F.K m hid0 H0 H' d v := by
  cases m with
  | fz => exact Mn.mono (hide_sub S.sub) d v r
  | bo => exact (hm rfl).elim
  | au =>
    unfold Rm at r ⊢
    dsimp only at r ⊢
    split at r
    · rename_i hc
      rw [if_pos hc]
      obtain ⟨a, h1, h2, h3⟩ := r
      refine ⟨a, h1, fresh_back S.ex0 h2, ?_⟩
      have hs : ∀ b ∈ a :: hid0, b ∈ a :: s.hid := fun b hb => by
        rcases List.mem_cons.mp hb with rfl | hb
        · exact List.mem_cons_self
        · exact List.mem_cons_of_mem _ (S.sub b hb)
      cases d with
      | list ds => obtain ⟨xs, q1, q2⟩ := h3; exact ⟨xs, q1, MnA.mono (hide_sub hs) ds xs q2⟩
      | dict ds => obtain ⟨xs, q1, q2⟩ := h3; exact ⟨xs, q1, MnK.mono (hide_sub hs) ds xs q2⟩
      | none => exact h3.elim
      | bool _ => exact h3.elim
      | int _ => exact h3.elim
      | str _ => exact h3.elim
      | tuple _ => exact h3.elim
    · rename_i hc
      rw [if_neg hc]
      exact Mn.mono (hide_sub S.sub) d v r
theorem ds_ret {e : Expr} {g : GE} {pos : Pos} (h : DE F rm e g) (hm : rm ≠ .bo := by decide) : DS F rm (.Return (some e) pos) (sRet g) := by
  obtain ⟨te, pe, se⟩ := h
  refine ⟨_, fun i => ps_ret (pe i), fun H0 hid0 s ρ S Dn q => se H0 hid0 s ρ S _ ?_⟩
  unfold sRet at q
  split
  · rename_i d hd
    rw [hd, bind_ok] at q
    exact fun v H' e r => q v H' (S.ex0.trans e) ((rmR_of hm).mpr (rm_out S e r hm))
  · rename_i c hd
    rw [hd, bind_err] at q
    exact fun H' e => q H' (S.ex0.trans e)
  · rename_i hd
    rw [hd, bind_stuck] at q
    exact q
/-- what a slot owns is given back -/
theorem ds_retO (i : Nat) {x : Str} {p pos : Pos} (hN : F.N[i]? = some x := by rfl) (hv : visB F.sn x = true := by rfl) (hO : F.O i = some true := by rfl) (hm : rm ≠ .bo := by decide)
    (hd : (x == ("__debug__" : Str)) = false := by decide) (hcd : (x == ("__classdict__" : Str)) = false := by decide) : DS F rm (.Return (some (.Name x p)) pos) (sRet (eVar i)) := by
  refine ⟨_, fun j => ps_ret (pe_var (i := i) (by rw [F.hN]; exact hN) (vis_of (by rw [F.hsn]; exact hv)) hd hcd), fun H0 hid0 s ρ S Dn q => ?_⟩
  unfold sRet eVar at q
  split at q
  · rename_i d h
    rw [bind_ok] at q
    obtain ⟨a, h1, h2, h3⟩ := S.ow i d hO h
    obtain ⟨ha, hn⟩ := S.oh i a h2
    refine ⟨.ref a, h1, q _ s.H S.ex0 ((rmR_of hm).mpr ?_)⟩
    have hs : ∀ b ∈ a :: hid0, b ∈ a :: s.hid := fun b hb => by
      rcases List.mem_cons.mp hb with rfl | hb
      · exact List.mem_cons_self
      · exact List.mem_cons_of_mem _ (S.sub b hb)
    have key : OwnAt F.K hid0 s.H a d ∧ isCon d = true := by
      cases d with
      | list ds => obtain ⟨xs, q1, q2⟩ := h3; exact ⟨⟨xs, q1, MnA.mono (hide_sub hs) ds xs q2⟩, rfl⟩
      | dict ds => obtain ⟨xs, q1, q2⟩ := h3; exact ⟨⟨xs, q1, MnK.mono (hide_sub hs) ds xs q2⟩, rfl⟩
      | none => exact h3.elim
      | bool _ => exact h3.elim
      | int _ => exact h3.elim
      | str _ => exact h3.elim
      | tuple _ => exact h3.elim
    have hau : Rm F.K .au hid0 H0 s.H d (.ref a) := by
      unfold Rm
      dsimp only
      rw [if_pos key.2]
      exact ⟨a, rfl, hn, key.1⟩
    cases rm with
    | fz => exact rm_fz S.dom0 hau
    | bo => exact (hm rfl).elim
    | au => exact hau
  · exact q.elim
/-! ### an owned slot is set -/
def sOwn (i : Nat) (g : GE) : GS := fun ρ => (g ρ).bind fun d => bif isCon d then .ok (.nx (ρ.set i (some d))) else .stuck
theorem sem_own_set {i : Nat} {te : TE} {g : GE} (hO : F.O i = some true) (h : SemE F .au te g) : SemS F rm (tAsg te (gName i)) (sOwn i g) := fun H0 hid0 s ρ S Dn q => by
  refine h H0 hid0 s ρ S _ ?_
  unfold sOwn at q
  split
  · rename_i d hd
    rw [hd, bind_ok] at q
    intro v H' e r
    unfold Rm at r
    dsimp only at r
    by_cases hc : isCon d = true
    · rw [hc] at q
      rw [if_pos hc] at r
      obtain ⟨a, rfl, hn, ho⟩ := r
      obtain ⟨S', x⟩ := S.take (i := i) hO e hn ho
      exact q _ x S'
    · rw [Bool.not_eq_true] at hc
      rw [hc] at q
      exact q.elim
  · rename_i c hd
    rw [hd, bind_err] at q
    exact fun H' e => q H' (S.ex0.trans e)
  · rename_i hd
    rw [hd, bind_stuck] at q
    exact q
theorem ds_setO (i : Nat) {x : Str} {e : Expr} {g : GE} {pos' pos : Pos} (h : DE F .au e g) (hN : F.N[i]? = some x := by rfl) (hst : F.sto x = true := by rfl) (hO : F.O i = some true := by rfl) (hs : ∀ env, swapsWith e (some (.Name x pos')) pos.line env = pure false := by intro _; rfl) : DS F rm (.Assign [.Name x pos'] e pos) (sOwn i g) :=
  ⟨_, fun j => ps_set (by rw [F.hN]; exact F.nd) (by rw [F.hN]; exact hN) (F.hsto j x hst).1 (h.choose_spec.1 j) (hs _) (F.hsto j x hst).2, sem_own_set hO h.choose_spec.2⟩
/-! ### target = e -/
def sTg (g : GE) (tg : Tg) : GS := fun ρ => (g ρ).bind fun d => match tg d ρ with
  | some ρ' => .ok (.nx ρ')
  | none => .stuck
theorem ds_tg {tgx e : Expr} {g : GE} {tg : Tg} {js : List Nat} {pos : Pos} (h : DE F .fz e g) (hg : DG F tgx tg js) (hs : ∀ env, swapsWithSole [tgx] e pos.line env = pure false := by intro _; rfl) (hw : ∀ env, swappedStores [tgx] e env = pure none := by intro _; rfl)
    (h1 : ∀ env, (assignEach [tgx] env).map (·.2) = [assign tgx env] := by intro _; rfl) : DS F rm (.Assign [tgx] e pos) (sTg g tg) := by
  obtain ⟨te, pe, se⟩ := h
  obtain ⟨gg, pg, sg⟩ := hg
  refine ⟨_, fun i => ps_asg (pe i) (pg i) (hs _) (hw _) (h1 _), fun H0 hid0 s ρ S Dn q => se H0 hid0 s ρ S _ ?_⟩
  unfold sTg at q
  split
  · rename_i d hd
    rw [hd, bind_ok] at q
    intro v H' e r
    cases ht : tg d ρ with
    | none => rw [ht] at q; exact q.elim
    | some ρ' =>
      rw [ht] at q
      exact sg H0 hid0 { s with H := H' } ρ ρ' d v (S.ext e) r ht _ fun σ' S' _ _ => q { s with σ := σ', H := H' } (hide_mono e) S'
  · rename_i c hd
    rw [hd, bind_err] at q
    exact fun H' e => q H' (S.ex0.trans e)
  · rename_i hd
    rw [hd, bind_stuck] at q
    exact q
/-! ### while, with fuel -/
def whGo (c : GT) (b : GS) : Nat → Env → Out Fl
  | 0, _ => .stuck
  | n + 1, ρ => (c ρ).bind fun k => bif k then (match b ρ with
      | .ok (.nx ρ') => whGo c b n ρ'
      | .ok (.ct ρ') => whGo c b n ρ'
      | .ok (.bk ρ') => .ok (.nx ρ')
      | o => o) else .ok (.nx ρ)
def sWhile (n : Nat) (c : GT) (b : GS) : GS := whGo c b n
theorem ds_while (n : Nat) {c : Expr} {body : List Stmt} {pos : Pos} {gc : GT} {gb : GS} (hc : DT F c gc) (hb : DSs F rm body gb) : DS F rm (.While c body [] pos) (sWhile n gc gb) := by
  obtain ⟨tc, pc, sc⟩ := hc
  obtain ⟨tb, pb, sb⟩ := hb
  refine ⟨_, fun i => ps_while (F.own i) (pc i) (pb i), fun H0 hid0 s ρ S Dn q => ?_⟩
  refine ⟨fun m σ H => ∃ s' ρ', s'.σ = σ ∧ s'.H = H ∧ Sees F.K H0 hid0 F.O s' ρ' ∧ WS F rm H0 hid0 (hide s'.hid s'.H) Dn (whGo gc gb m ρ'), ⟨n, s, ρ, rfl, rfl, S, q⟩, ?_⟩
  rintro m σ H ⟨s', ρ', rfl, rfl, S', q'⟩
  refine sc H0 hid0 s' ρ' S' _ ?_
  cases m with
  | zero => exact q'.elim
  | succ m =>
    unfold whGo at q'
    split
    · rename_i k hk
      rw [hk, bind_ok] at q'
      intro H' e
      cases k with
      | false =>
        rw [if_neg Bool.false_ne_true]
        exact q' { s' with H := H' } (hide_mono e) (S'.ext e)
      | true =>
        rw [if_pos rfl]
        refine ⟨fun σ2 H2 => ∃ s2 ρ2, s2.σ = σ2 ∧ s2.H = H2 ∧ Sees F.K H0 hid0 F.O s2 ρ2 ∧ WS F rm H0 hid0 (hide s2.hid s2.H) Dn (whGo gc gb m ρ2), fun σ2 H2 ⟨s2, ρ2, a, b, c, d⟩ => ⟨m, Nat.lt_succ_self m, s2, ρ2, a, b, c, d⟩, ?_⟩
        refine sb H0 hid0 { s' with H := H' } ρ' (S'.ext e) _ ?_
        have q2 : WS F rm H0 hid0 (hide s'.hid H') Dn (match gb ρ' with
          | .ok (.nx ρ') => whGo gc gb m ρ'
          | .ok (.ct ρ') => whGo gc gb m ρ'
          | .ok (.bk ρ') => .ok (.nx ρ')
          | o => o) := WS.mono (hide_mono e) q'
        cases hb : gb ρ' with
        | stuck => rw [hb] at q2; exact q2
        | err c => rw [hb] at q2; exact q2
        | ok f =>
          rw [hb] at q2
          cases f with
          | nx ρ2 => exact fun s2 e2 S2 => ⟨s2, ρ2, rfl, rfl, S2, WS.mono e2 q2⟩
          | ct ρ2 => exact fun s2 e2 S2 => ⟨s2, ρ2, rfl, rfl, S2, WS.mono e2 q2⟩
          | bk ρ2 => exact q2
          | rt d => exact q2
    · rename_i c hk
      rw [hk, bind_err] at q'
      exact fun H' e => q' H' (S'.ex0.trans e)
    · rename_i hk
      rw [hk, bind_stuck] at q'
      exact q'
/-! ### for -/
def forGo (tg : Tg) (b : GS) : List D → Env → Out Fl
  | [], ρ => .ok (.nx ρ)
  | d :: ds, ρ => match tg d ρ with
    | none => .stuck
    | some ρ1 => match b ρ1 with
      | .ok (.nx ρ') => forGo tg b ds ρ'
      | .ok (.ct ρ') => forGo tg b ds ρ'
      | .ok (.bk ρ') => .ok (.nx ρ')
      | o => o
def sFor (gi : GA) (tg : Tg) (b : GS) : GS := fun ρ => (gi ρ).bind fun ds => forGo tg b ds ρ
theorem ds_for {tgx iter : Expr} {body : List Stmt} {pos : Pos} {gi : GA} {tg : Tg} {js : List Nat} {gb : GS} (hi : DI F .fz tgx iter gi) (hg : DG F tgx tg js) (hb : DSs F rm body gb) (hs : ∀ env x, foldedSetIterable iter env x = pure x := by intro _ _; rfl) (hc : F.hot = false := by rfl) :
    DS F rm (.For tgx iter body [] pos) (sFor gi tg gb) := by
  obtain ⟨wi, pi, si⟩ := hi
  obtain ⟨g, pg, sg⟩ := hg
  obtain ⟨tb, pb, sb⟩ := hb
  refine ⟨_, fun i => ps_for (F.own i) (F.calm hc i) (pi i) (pg i) (pb i) (hs _), fun H0 hid0 s ρ S Dn q => si H0 hid0 s ρ S _ ?_⟩
  unfold sFor at q
  cases hds : gi ρ with
  | stuck => rw [hds] at q; exact q.elim
  | err c => rw [hds, bind_err] at q; exact fun H' e => q H' (S.ex0.trans e)
  | ok ds =>
    rw [hds, bind_ok] at q
    intro J H1 e1 W
    have W : Walks F.K J (hide s.hid H1) (hide s.hid H1) ds := W
    refine ⟨fun i n σ H => n = ds.length - i ∧ i ≤ ds.length ∧ ∃ s' ρ', s'.σ = σ ∧ s'.H = H ∧ Sees F.K H0 hid0 F.O s' ρ' ∧ Wx (hide s.hid H1) (hide s'.hid s'.H) ∧ WS F rm H0 hid0 (hide s'.hid s'.H) Dn (forGo tg gb (ds.drop i) ρ'),
      ⟨ds.length, by simp, Nat.zero_le _, { s with H := H1 }, ρ, rfl, rfl, S.ext e1, Evl.Ex.refl _, WS.mono (hide_mono e1) (by rw [List.drop_zero]; exact q)⟩, ?_⟩
    rintro i n σ H ⟨hn, hi2, s', ρ', rfl, rfl, S', x', q'⟩
    by_cases hlt : i < ds.length
    · have hd : ds[i]? = some ds[i] := List.getElem?_eq_getElem hlt
      obtain ⟨go, yl⟩ := W.at_ s'.hid s'.H (x'.trans hide_ex) x' S'.dom i _ hd
      rw [List.drop_eq_getElem_cons hlt] at q'
      refine .inr ⟨go, fun σ2 H2 => ∃ s2 ρ2, s2.σ = σ2 ∧ s2.H = H2 ∧ Sees F.K H0 hid0 F.O s2 ρ2 ∧ Wx (hide s.hid H1) (hide s2.hid s2.H) ∧ WS F rm H0 hid0 (hide s2.hid s2.H) Dn (forGo tg gb (ds.drop (i + 1)) ρ2),
        fun σ2 H2 z => ⟨n - 1, by omega, by omega, by omega, z⟩, fun x H2 hy => ?_⟩
      obtain ⟨e2, mx⟩ := yl x H2 hy
      unfold forGo at q'
      cases htg : tg ds[i] ρ' with
      | none => rw [htg] at q'; exact q'.elim
      | some ρ1 =>
        rw [htg] at q'
        refine sg H0 hid0 { s' with H := H2 } ρ' ρ1 _ x (S'.ext e2) mx htg _ fun σ2 S2 _ _ => ?_
        refine sb H0 hid0 { s' with σ := σ2, H := H2 } ρ1 S2 _ ?_
        have q2 := WS.mono (rm := rm) (H0 := H0) (hid0 := hid0) (Dn := Dn) (hide_mono (hid := s'.hid) e2) q'
        dsimp only at q2
        have xx : Wx (hide s.hid H1) (hide s'.hid H2) := x'.trans (hide_mono e2)
        cases hb : gb ρ1 with
        | stuck => rw [hb] at q2; exact q2
        | err c => rw [hb] at q2; exact q2
        | ok f =>
          rw [hb] at q2
          cases f with
          | nx ρ3 => exact fun s3 e3 S3 => ⟨s3, ρ3, rfl, rfl, S3, xx.trans e3, WS.mono e3 q2⟩
          | ct ρ3 => exact fun s3 e3 S3 => ⟨s3, ρ3, rfl, rfl, S3, xx.trans e3, WS.mono e3 q2⟩
          | bk ρ3 => exact q2
          | rt d => exact q2
    · have hi3 : i = ds.length := by omega
      subst hi3
      rw [List.drop_length] at q'
      exact .inl ⟨W.end_ s'.hid s'.H (x'.trans hide_ex) x' S'.dom, q' s' (Evl.Ex.refl _) S'⟩
end
end DL
set_option Elab.async false
set_option linter.all false
set_option maxRecDepth 100000
set_option maxHeartbeats 4000000
namespace DL
open PySem PySem.Spec PyProof.Rows L2
variable [TabsC]
section
variable {F : Fam} {rm : Md} {K : PySem.W.Frag} {H0 : Hp} {hid0 : List Addr} {O : Nat → Option Bool} {s : Sx} {ρ : Env}
theorem hide_dup {hid : List Addr} {a : Addr} {H : Hp} (h : a ∈ hid) : hide (a :: hid) H = hide hid H := by
  funext b
  unfold hide
  by_cases hb : b ∈ hid
  · rw [if_pos hb, if_pos (List.mem_cons_of_mem _ hb)]
  · rw [if_neg hb, if_neg (fun z => by
      rcases List.mem_cons.mp z with z | z
      · exact hb (by rw [z]; exact h)
      · exact hb z)]
theorem OwnAt.isC {hid : List Addr} {H : Hp} {a : Addr} {d : D} (h : OwnAt K hid H a d) : IsC (H a) ∧ isCon d = true := by
  cases d with
  | list ds => obtain ⟨xs, h1, _⟩ := h; exact ⟨by rw [h1]; trivial, rfl⟩
  | dict ds => obtain ⟨xs, h1, _⟩ := h; exact ⟨by rw [h1]; trivial, rfl⟩
  | none => exact h.elim
  | bool _ => exact h.elim
  | int _ => exact h.elim
  | str _ => exact h.elim
  | tuple _ => exact h.elim
/-- what a slot owns is changed in place -/
theorem Sees.put (S : Sees K H0 hid0 O s ρ) {i : Nat} {d : D} {a : Addr} {o : HO} (hO : O i = some true) (hσ : s.σ[i]? = some (some (.ref a))) (hw : s.own i = some a) (h : OwnAt K s.hid (upd s.H a o) a d) :
    Sees K H0 hid0 O { s with H := upd s.H a o } (ρ.set i (some d)) ∧ Wx (hide s.hid s.H) (hide s.hid (upd s.H a o)) := by
  obtain ⟨ha, hn⟩ := S.oh i a hw
  have e : hide s.hid (upd s.H a o) = hide s.hid s.H := hide_upd ha
  refine ⟨⟨?_, Ex.mut S.ex0 hn (S.knd a ha), S.sub, fun b hb => ?_, S.dom0, S.tb0, fun j d' h1 h2 => ?_, fun j d' h1 h2 => ?_, S.oh, S.inj, fun j d' h1 h2 => ?_⟩, by rw [e]; exact Evl.Ex.refl _⟩
  · show s.σ.length = _
    rw [List.length_set]
    exact S.len
  · show IsC (upd s.H a o b)
    by_cases q : b = a
    · rw [q]; exact h.isC.1
    · rw [upd_ne q]; exact S.knd b hb
  · have hj : i ≠ j := fun z => by rw [← z, hO] at h1; cases h1
    rw [List.getElem?_set_ne hj] at h2
    obtain ⟨v, q1, q2⟩ := S.fz j d' h1 h2
    refine ⟨v, q1, ?_⟩
    show Mn K (hide s.hid (upd s.H a o)) d' v
    rw [e]
    exact q2
  · by_cases hj : i = j
    · subst hj
      by_cases hl : i < ρ.length
      · rw [List.getElem?_set_self hl] at h2
        cases h2
        exact ⟨a, hσ, hw, h⟩
      · rw [List.getElem?_eq_none (by rw [List.length_set]; omega)] at h2
        cases h2
    · rw [List.getElem?_set_ne hj] at h2
      obtain ⟨b, q1, q2, q3⟩ := S.ow j d' h1 h2
      refine ⟨b, q1, q2, ?_⟩
      have hb : b ≠ a := fun z => hj (S.inj i j a hw (by rw [← z]; exact q2))
      have e2 : hide (b :: s.hid) (upd s.H a o) = hide (b :: s.hid) s.H := hide_upd (List.mem_cons_of_mem _ ha)
      show OwnAt K s.hid (upd s.H a o) b d'
      cases d' with
      | list ds =>
        obtain ⟨xs, z1, z2⟩ := q3
        exact ⟨xs, by rw [upd_ne hb]; exact z1, by rw [e2]; exact z2⟩
      | dict ps =>
        obtain ⟨xs, z1, z2⟩ := q3
        exact ⟨xs, by rw [upd_ne hb]; exact z1, by rw [e2]; exact z2⟩
      | none => exact q3.elim
      | bool _ => exact q3.elim
      | int _ => exact q3.elim
      | str _ => exact q3.elim
      | tuple _ => exact q3.elim
  · have hj : i ≠ j := fun z => by rw [← z, hO] at h1; cases h1
    rw [List.getElem?_set_ne hj] at h2
    obtain ⟨mu, L, e1, e2, e3, e4⟩ := S.led j d' h1 h2
    exact ⟨mu, L, e1, e2.step (fun b hb => upd_ne fun z => e3 b hb i (by rw [z]; exact hw)) (by rw [e]; exact Evl.Ex.refl _) e2.hd, e3, e4⟩
theorem ownL {a : Addr} {xs : List V} (h : a ∈ s.hid) {ds : List D} (m : MnA K (hide s.hid s.H) ds xs) : OwnAt K s.hid (upd s.H a (.lst xs)) a (.list ds) :=
  ⟨xs, upd_same, by rw [hide_upd List.mem_cons_self, hide_dup h]; exact m⟩
theorem ownD {a : Addr} {xs : List (Key × V)} (h : a ∈ s.hid) {ps : List (D × D)} (m : MnK K (hide s.hid s.H) ps xs) : OwnAt K s.hid (upd s.H a (.dK xs)) a (.dict ps) :=
  ⟨xs, upd_same, by rw [hide_upd List.mem_cons_self, hide_dup h]; exact m⟩
/-! ### x.append(e) -/
def sApp (i : Nat) (g : GE) : GS := fun ρ => match ρ[i]? with
  | some (some (.list ds)) => (g ρ).bind fun d => if ds.length < 1000000 then .ok (.nx (ρ.set i (some (.list (ds ++ [d]))))) else .stuck
  | _ => .stuck
theorem ds_append (i : Nat) {x : Str} {e : Expr} {g : GE} {p apos cpos pos : Pos} (h : DE F .fz e g) (hN : F.N[i]? = some x := by rfl) (hv : visB F.sn x = true := by rfl) (hO : F.O i = some true := by rfl)
    (hfew : ∀ env, ((backTo cpos (starEach [e] env)).all (fun x => !x.1) && (backToKw cpos (keywordEach [] env)).all (fun x => x.1.isSome) && decide ([e].length + ([] : List Keyword).length + (if ([] : List Keyword).isEmpty then 0 else 1) < 30)) = true := by intro _; rfl)
    (hline : (apos.endLine == cpos.line) = true := by rfl) (hs : ∀ env, starEach [e] env = (false, eval e env) :: starEach [] env := by intro _; rfl) (hsw : ∀ env, swapsWith (.Call (.Attribute (.Name x p) "append" apos) [e] [] cpos) none pos.line env = pure false := by intro _; rfl)
    (hd : (x == ("__debug__" : Str)) = false := by decide) (hcd : (x == ("__classdict__" : Str)) = false := by decide) : DS F rm (.Expr (.Call (.Attribute (.Name x p) "append" apos) [e] [] cpos) pos) (sApp i g) := by
  obtain ⟨te, pe, se⟩ := h
  refine ⟨tDrop (tBM F.K "list" rAppend (tVar i) (tCons te tNil)), fun j => ps_expr ?_ (hsw _), fun H0 hid0 s ρ S Dn q => ?_⟩
  · have z := pe_bm PySem.F.plainAttrs_list PySem.F.slot_list_append PySem.F.type_list_append mt_append (pe_var (pos := p) (i := i) (by rw [F.hN]; exact hN) (vis_of (by rw [F.hsn]; exact hv)) hd hcd) (pa_cons (pe j) pa_nil (hs _)) rfl (hfew _) hline (hs _) rfl
    rw [F.hK j] at z
    exact z
  unfold sApp at q
  split at q
  · rename_i ds hi
    obtain ⟨a, h1, h2, xs, h3, h4⟩ := S.ow i _ hO hi
    obtain ⟨ha, hn⟩ := S.oh i a h2
    refine ⟨.ref a, h1, .inl ⟨rfl, xs, SqL.of h3⟩, se H0 hid0 s ρ S _ ?_⟩
    split
    · rename_i d hd'
      rw [hd', bind_ok] at q
      intro v H' e r
      split at q
      · rename_i hl
        have h4' : MnA F.K (hide s.hid s.H) ds xs := by rw [hide_dup ha] at h4; exact h4
        refine ⟨a, xs, v, rfl, rfl, e.l h3, ?_, ?_⟩
        · rw [h4'.length]
          exact Nat.lt_of_lt_of_le hl (small_line (Nat.le_refl _))
        · have S' := S.ext e
          have mn : MnA F.K (hide s.hid H') (ds ++ [d]) (xs ++ [v]) := (MnA.mono (hide_mono e) _ _ h4').append (by simp only [MnA]; exact ⟨v, [], rfl, r, rfl⟩)
          obtain ⟨S2, w2⟩ := S'.put (o := .lst (xs ++ [v])) hO h1 h2 (ownL (s := { s with H := H' }) ha mn)
          exact q _ ((hide_mono e).trans w2) S2
      · exact q.elim
    · rename_i c hd'
      rw [hd', bind_err] at q
      exact fun H' e => q H' (S.ex0.trans e)
    · rename_i hd'
      rw [hd', bind_stuck] at q
      exact q
  · exact q.elim
/-! ### x[i] = e, x a list -/
def sStL (i : Nat) (gi ge : GE) : GS := fun ρ => match ρ[i]? with
  | some (some (.list ds)) => (ge ρ).bind fun d => (gi ρ).bind fun k => match k with
    | .int k => (match ixN ds.length k with
      | some j => .ok (.nx (ρ.set i (some (.list (ds.set j d)))))
      | none => .stuck)
    | _ => .stuck
  | _ => .stuck
theorem ds_setL (i : Nat) {x : Str} {e ei : Expr} {g gi : GE} {p p1 pos : Pos} (h : DE F .fz e g) (hi : DE F .fz ei gi) (hN : F.N[i]? = some x := by rfl) (hv : visB F.sn x = true := by rfl) (hO : F.O i = some true := by rfl)
    (hs : ∀ env, swapsWithSole [.Subscript (.Name x p) ei p1] e pos.line env = pure false := by intro _; rfl) (hw : ∀ env, swappedStores [.Subscript (.Name x p) ei p1] e env = pure none := by intro _; rfl) (h1 : ∀ env, (assignEach [.Subscript (.Name x p) ei p1] env).map (·.2) = [assign (.Subscript (.Name x p) ei p1) env] := by intro _; rfl)
    (ha : ∀ env v, assign (.Subscript (.Name x p) ei p1) env v = (do
      let ov ← holding [v] (eval (.Name x p) env)
      let iv ← holding [v, ov] (eval ei env)
      standAt p1
      holding [v, ov, iv] (setItem ov iv v)
      release [v, ov, iv] []) := by intro _ _; rfl)
    (hd : (x == ("__debug__" : Str)) = false := by decide) (hcd : (x == ("__classdict__" : Str)) = false := by decide) : DS F rm (.Assign [.Subscript (.Name x p) ei p1] e pos) (sStL i gi g) := by
  obtain ⟨te, pe, se⟩ := h
  obtain ⟨ti, pi, si⟩ := hi
  refine ⟨tAsg te (gSub (tVar i) ti rSetL), fun j => ps_asg (pe j) (pg_sub (pe_var (pos := p) (i := i) (by rw [F.hN]; exact hN) (vis_of (by rw [F.hsn]; exact hv)) hd hcd) (pi j) set_list (ha _)) (hs _) (hw _) (h1 _), fun H0 hid0 s ρ S Dn q => ?_⟩
  unfold sStL at q
  split at q
  · rename_i ds hi
    obtain ⟨a, h1, h2, xs, h3, h4⟩ := S.ow i _ hO hi
    obtain ⟨ha, hn⟩ := S.oh i a h2
    refine se H0 hid0 s ρ S _ ?_
    split
    · rename_i d hd'
      rw [hd', bind_ok] at q
      intro v H1 e1 r1
      refine ⟨.ref a, h1, si H0 hid0 { s with H := H1 } ρ (S.ext e1) _ ?_⟩
      split
      · rename_i k hk
        rw [hk, bind_ok] at q
        intro u H2 e2 r2
        cases k with
        | int k =>
          dsimp only at q
          cases hj : ixN ds.length k with
          | none => rw [hj] at q; exact q.elim
          | some j =>
            rw [hj] at q
            have h4' : MnA F.K (hide s.hid s.H) ds xs := by rw [hide_dup ha] at h4; exact h4
            have hu : u = .int k := by
              have r2 : Mn F.K (hide s.hid H2) (.int k) u := r2
              simpa only [Mn] using r2
            refine ⟨a, xs, k, j, rfl, hu, e2.l (e1.l h3), by rw [h4'.length]; exact hj, ?_⟩
            have S' := (S.ext e1).ext e2
            have mn : MnA F.K (hide s.hid H2) (ds.set j d) (xs.set j v) := (MnA.mono (hide_mono (e1.trans e2)) _ _ h4').set j (Mn.mono (hide_mono e2) d v r1)
            obtain ⟨S2, w2⟩ := S'.put (o := .lst (xs.set j v)) hO h1 h2 (ownL (s := { s with H := H2 }) ha mn)
            exact q _ ((hide_mono (e1.trans e2)).trans w2) S2
        | none => exact q.elim
        | bool _ => exact q.elim
        | str _ => exact q.elim
        | list _ => exact q.elim
        | tuple _ => exact q.elim
        | dict _ => exact q.elim
      · rename_i c hk
        rw [hk, bind_err] at q
        exact fun H' e => q H' (S.ex0.trans (e1.trans e))
      · rename_i hk
        rw [hk, bind_stuck] at q
        exact q
    · rename_i c hd'
      rw [hd', bind_err] at q
      exact fun H' e => q H' (S.ex0.trans e)
    · rename_i hd'
      rw [hd', bind_stuck] at q
      exact q
  · exact q.elim
/-! ### raise C("..") -/
def FamR (F : Fam) : Prop := ∀ i, L2N.Takes (F.X i) fun cls d _ H => F.E cls d H
structure ExD (K : PySem.W.Frag) (mg : Str → Option Value) (cl : Nat → Value) (x : Str) (c : Nat) : Prop where
  ex : ∃ C : Addr, cl c = .ref C ∧ mg x = some (.ref C) ∧ PySem.W.keepIn K (.ref C) = true ∧ PySem.W.subIn K (.ref C) (.type "BaseException") = some true ∧ PySem.W.typeIn K (.ref C) = some (.type "type") ∧
    PySem.W.excIn K C [.type "ValueError", .type "Exception", .type "BaseException", .type "object"] "ValueError.__new__" = true
def sRai (c : Nat) : GS := fun _ => .err c
theorem ds_raise (c : Nat) {x t : Str} {j : Nat} {p p2 pos pos2 : Pos} (h : ExD F.K F.mg F.cl x c) (tk : FamR F) (hg : F.sn.lookup x = some .globalImplicit := by rfl) (hdb : (x == ("__debug__" : Str)) = false := by decide) (hh : F.hot = false := by rfl) :
    DS F rm (.Raise (some (.Call (.Name x p) [.Constant (.str t) j p2] [] pos)) none pos2) (sRai c) := by
  obtain ⟨C, h0, h1, h2, h3, h4, h5⟩ := h.ex
  refine ⟨fun D σ H => F.E (.ref C) none H, fun i => L2N.ps_raise (F.calm hh i) (tk i) (L2N.pmk_own PySem.F.excBase_ValueError (by rw [F.hK]; exact h5) (by rw [F.hmg]; exact h1) (by rw [F.hK]; exact h2) (raises_own (by rw [F.hK]; exact h3) (by rw [F.hK]; exact h4)) (gl_of hg i) hdb), fun H0 hid0 s ρ S Dn q => ?_⟩
  have q := q s.H S.ex0
  rw [h0] at q
  exact q
end
end DL
set_option Elab.async false
set_option linter.all false
set_option maxRecDepth 100000
set_option maxHeartbeats 4000000
namespace DL
open PySem PySem.Spec PyProof.Rows L2
variable [TabsC]
/-! ### a def's body -/
def famD (P : Program) (w : World) (K : PySem.W.Frag) (mg : Str → Option Value) (base : Heap) (N : List Str) (qual : Str) (scope : Scope) (f : Addr) (cdv : Value) (E : XK) (cl : Nat → Value) (O : Nat → Option Bool) (k : Nat) (hk : scope.kind = .function) (nd : N.Nodup) : Fam where
  ι := {p : Around × List PySem.Env × Shared × Hp // Room k (p.1.deeper (envOfC qual scope p.2.2.1.heap.objs.size f cdv))}
  X := fun i => cxOf (L2N.CX P w) P w K mg base N qual scope f cdv i.1.1 i.1.2.1 i.1.2.2.1 i.1.2.2.2 E
  P := P
  w := w
  K := K
  mg := mg
  base := base
  N := N
  sn := scope.names
  E := E
  cl := cl
  O := O
  lv := k
  hP := fun _ => rfl
  hw := fun _ => rfl
  hK := fun _ => rfl
  hmg := fun _ => rfl
  hbase := fun _ => rfl
  hN := fun _ => rfl
  hsn := fun _ => rfl
  hot := false
  calm := fun _ _ => rfl
  nd := nd
  room := fun i => .of i.2
  hd := fun _ i => i.2.hd
  own := fun _ => passes_of rfl
  pas := fun i => L2N.passes_call (L2N.takes_of rfl rfl rfl rfl) fun _ _ _ _ h => h
  hki := fun _ => hk
  sto := stoB scope.names
  hsto := fun i x h => by
    unfold stoB at h
    refine ⟨?_, .inl rfl⟩
    split at h
    · rename_i e; exact .inl e
    · rename_i e; exact .inr e
    · cases h
theorem famD_R {P : Program} {w : World} {K : PySem.W.Frag} {mg : Str → Option Value} {base : Heap} {N : List Str} {qual : Str} {scope : Scope} {f : Addr} {cdv : Value} {E : XK} {cl : Nat → Value} {O : Nat → Option Bool} {k : Nat} {hk : scope.kind = .function} {nd : N.Nodup} :
    FamR (famD P w K mg base N qual scope f cdv E cl O k hk nd) := fun _ => L2N.takes_of rfl rfl rfl rfl
def env0 (N : Nat) (ds : List D) : Env := ds.map some ++ List.replicate (N - ds.length) none
def outD : Out Fl → Out D
  | .ok (.rt d) => .ok d
  | .ok (.nx _) => .ok .none
  | .err c => .err c
  | _ => .stuck
def runD (N n : Nat) (g : GS) (ds : List D) : Out D := bif ds.length == n then outD (g (env0 N ds)) else .stuck
theorem runD_ln {N n : Nat} {g : GS} (ds : List D) (h : ds.length ≠ n) : runD N n g ds = .stuck := by
  unfold runD
  have : (ds.length == n) = false := by simpa using h
  rw [this]
  rfl
theorem MnA.get2 {K : PySem.W.Frag} {H : Hp} {ds : List D} {vs : List V} (h : MnA K H ds vs) {i : Nat} {d : D} (e : ds[i]? = some d) : ∃ v, vs[i]? = some v ∧ Mn K H d v := h.get e
theorem sees0 {K : PySem.W.Frag} {H : Hp} {hid : List Addr} {O : Nat → Option Bool} {N : List Str} {vs : List V} {ds : List D} (hl : vs.length ≤ N.length) (knd : ∀ a ∈ hid, IsC (H a)) (tb : LamX.Tabs TabsC.T H) (m : MnA K (hide hid H) ds vs) (hO : ∀ i, i < vs.length → O i = some false) :
    Sees K H hid O { hid := hid, own := fun _ => none, σ := L2.start N vs, H := H } (env0 N.length ds) := by
  have e := m.length
  have key : ∀ (i : Nat) (d : D), (env0 N.length ds)[i]? = some (some d) → ds[i]? = some d := fun i d h => by
    unfold env0 at h
    by_cases hi : i < ds.length
    · rw [List.getElem?_append_left (by simpa using hi), List.getElem?_map] at h
      cases q : ds[i]? with
      | none => rw [q] at h; cases h
      | some x => rw [q] at h; cases h; rfl
    · rw [List.getElem?_append_right (by simpa using hi), List.getElem?_replicate] at h
      split at h <;> cases h
  refine ⟨?_, Ex.refl _, fun a h => h, knd, fun a h => (knd a h).ne, tb, fun i d _ h => ?_, fun i d hO' h => ?_, fun i a h => (by cases h), fun i j a h => (by cases h), fun i d h1 h => ?_⟩
  · show (L2.start N vs).length = (env0 N.length ds).length
    unfold L2.start env0
    rw [List.length_append, List.length_append, List.length_map, List.length_map, List.length_replicate, List.length_replicate, e]
  · obtain ⟨v, hv, mv⟩ := m.get2 (key i d h)
    refine ⟨v, ?_, mv⟩
    have hi := (List.getElem?_eq_some_iff.mp hv).1
    show (L2.start N vs)[i]? = _
    unfold L2.start
    rw [List.getElem?_append_left (by simpa using hi), List.getElem?_map, hv]
    rfl
  · have hi := (List.getElem?_eq_some_iff.mp (key i d h)).1
    rw [hO i (by omega)] at hO'
    cases hO'
  · have hi := (List.getElem?_eq_some_iff.mp (key i d h)).1
    rw [hO i (by omega)] at h1
    cases h1
section
variable {P : Program} {w : World} {K : PySem.W.Frag} {mg : Str → Option Value} {base : Heap} {cl : Nat → Value}
theorem okXN {x qual : Str} {st : Stmt} {f : Addr} {fd : FuncData} {N ps : List Str} {k : Nat} {sp : Sp} (F : L2.Fun K x qual st f fd) (S : FnScope N ps (defScope st)) (len : ∀ vs H Q E, sp vs H Q E → vs.length = ps.length)
    (hb : ∀ (cdv : Value) (A : Around) (outer : List PySem.Env) (s : Shared) (H : Hp) (vs : List V) (Q : VK) (E : XK), Room k (A.deeper (envOfC qual (defScope st) s.heap.objs.size f cdv)) → sp vs H Q E →
      ∃ t, PSs (cxOf (L2N.CX P w) P w K mg base N qual (defScope st) f cdv A outer s H E) (defBody st) t ∧ t { nx := fun _ H1 => Q .non H1, rt := Q } (L2.start N vs) H) : FnOk P w K mg base (L2N.CX P w) (k + 1) f fd ps sp := by
  obtain ⟨oc, od, kV, doc, pm, an, cdv, ct, osl, rfl, lk, hcd⟩ := F.ex
  exact fn_of lk hcd S len (hb cdv)
theorem fn_ok {x qual : Str} {st : Stmt} {f : Addr} {fd : FuncData} {N ps : List Str} {k n : Nat} {rm : Md} {O : Nat → Option Bool} {g : GS} (F : Fun K x qual st f fd) (S : FnScope N ps (defScope st)) (hn : ps.length = n := by rfl) (hnN : n ≤ N.length := by decide)
    (hO : (List.range n).all (fun i => O i == some false) = true := by decide)
    (hb : ∀ (cdv : Value) (E : XK), DSs (famD P w K mg base N qual (defScope st) f cdv E cl O k S.kind S.nd) rm (defBody st) g) (hrm : rm ≠ .bo := by decide) : FnOk P w K mg base (L2N.CX P w) (k + 1) f fd ps (spD K cl n rm (runD N.length n g)) := by
  refine okXN F S (fun vs H Q E h => by rw [hn]; exact h.1) fun cdv A outer s H vs Q E hr h => ?_
  obtain ⟨t, pt, st⟩ := hb cdv E
  refine ⟨t, pt ⟨(A, outer, s, H), hr⟩, ?_⟩
  obtain ⟨hl, tb, hid, ds, knd, m, q⟩ := h
  have hO' : ∀ i, i < vs.length → O i = some false := fun i hi => by
    rw [List.all_eq_true] at hO
    have := hO i (List.mem_range.mpr (by omega))
    simpa using this
  have S0 := sees0 (O := O) (N := N) (by omega) knd tb m hO'
  refine st H hid _ _ S0 _ ?_
  have hdl : (ds.length == n) = true := by
    have := m.length
    simp; omega
  unfold runD at q
  rw [hdl] at q
  dsimp only [cond] at q
  cases hg : g (env0 N.length ds) with
  | stuck => rw [hg] at q; exact q.elim
  | err c => rw [hg] at q; exact fun H' e => q H' e
  | ok fl =>
    rw [hg] at q
    cases fl with
    | nx ρ' => exact fun s' e S' => q .non s'.H S'.ex0 (rm_plain rfl (by simp [Mn]))
    | rt d => exact fun v H' e r => q v H' e ((rmR_of hrm).mp r)
    | bk ρ' => exact q.elim
    | ct ρ' => exact q.elim
theorem fnD {x qual : Str} {st : Stmt} {f : Addr} {fd : FuncData} {N ps : List Str} {k n : Nat} {rm : Md} {O : Nat → Option Bool} {g : GS} (F : Fun K x qual st f fd) (S : FnScope N ps (defScope st)) (hm : mg x = some (.ref f)) (hbi : L2.Binds K fd ps []) (hn : ps.length = n := by rfl) (hnN : n ≤ N.length := by decide)
    (hO : (List.range n).all (fun i => O i == some false) = true := by decide)
    (hb : ∀ (cdv : Value) (E : XK), DSs (famD P w K mg base N qual (defScope st) f cdv E cl O k S.kind S.nd) rm (defBody st) g) (hrm : rm ≠ .bo := by decide) : FnD P w K mg base cl x n rm (k + 1) (runD N.length n g) :=
  ⟨⟨f, fd, ps, fn_ok F S hn hnN hO hb hrm, hm, F.kp, hbi⟩, fun ds h => runD_ln ds h⟩
end
end DL
set_option Elab.async false
set_option linter.all false
set_option maxRecDepth 100000
set_option maxHeartbeats 4000000
namespace DL
open PySem PySem.Spec PyProof.Rows L2
variable [TabsC]
/-! ### list.count, list.index of flat items -/
def flD : D → Bool
  | .none => true
  | .bool _ => true
  | .int _ => true
  | .str _ => true
  | _ => false
theorem fl_eq {H : Hp} {K : PySem.W.Frag} {d e : D} {x y : V} (fd : flD d = true) (fe : flD e = true) (hx : Mn K H d x) (hy : Mn K H e y) : eqV x y = PyData.eqv d e := by
  cases d <;> simp [flD] at fd <;> simp only [Mn] at hx <;> subst hx <;> cases e <;> simp [flD] at fe <;> simp only [Mn] at hy <;> subst hy <;> simp [eqV, PyData.eqv]
theorem fl_flat {H : Hp} {K : PySem.W.Frag} {d : D} {x : V} (fd : flD d = true) (hx : Mn K H d x) : flatV x = true := by
  cases d <;> simp [flD] at fd <;> simp only [Mn] at hx <;> subst hx <;> rfl
theorem fl_all {H : Hp} {K : PySem.W.Frag} : ∀ {ds : List D} {xs : List V}, ds.all flD = true → MnA K H ds xs → xs.all flatV = true
  | [], xs, _, h => by
    simp only [MnA] at h
    subst h
    rfl
  | d :: ds, xs, f, h => by
    simp only [MnA] at h
    obtain ⟨v, r, rfl, h1, h2⟩ := h
    rw [List.all_cons, Bool.and_eq_true] at f
    rw [List.all_cons, fl_flat f.1 h1, fl_all f.2 h2]
    rfl
theorem fl_count {H : Hp} {K : PySem.W.Frag} {e : D} {y : V} (fe : flD e = true) (hy : Mn K H e y) : ∀ {ds : List D} {xs : List V}, ds.all flD = true → MnA K H ds xs → xs.countP (fun z => eqV z y) = ds.countP fun z => PyData.eqv z e
  | [], xs, _, h => by
    simp only [MnA] at h
    subst h
    rfl
  | d :: ds, xs, f, h => by
    simp only [MnA] at h
    obtain ⟨v, r, rfl, h1, h2⟩ := h
    rw [List.all_cons, Bool.and_eq_true] at f
    rw [List.countP_cons, List.countP_cons, fl_count fe hy f.2 h2, fl_eq f.1 fe h1 hy]
def rCntV (K : PySem.W.Frag) : V → List V → Hp → VK → Prop := fun x xs H Q => ∃ (p : Addr) (ys : List V) (y : V), x = .ref p ∧ xs = [y] ∧ SqL K H p ys ∧ flatV y = true ∧ ys.all flatV = true ∧ Q (.int (ys.countP fun z => eqV z y : Nat)) H
theorem cnt_eq {y : V} : ∀ {ys : List V} {its : List Value}, Vals ys its → ys.all flatV = true → its.countP (eqU y) = ys.countP fun z => eqV z y
  | _, _, .nil, _ => rfl
  | z :: ys, u :: its, .cons r t, f => by
    rw [List.all_cons, Bool.and_eq_true] at f
    rw [List.countP_cons, List.countP_cons, cnt_eq t f.2, eqU_of r f.1]
theorem mt_lcntV {X : Cx} : MtR X "list.count" (rCntV X.K) := by
  intro pins s σ H x xs v us Q I rx rxs h
  obtain ⟨p, ys, y, rfl, rfl, hs, fy, fys, q⟩ := h
  cases rx
  obtain ⟨u, rfl, ru⟩ := rxs.one
  obtain ⟨its, rv, ⟨⟨cls, dd, data, sl⟩, n, ho, hc, hdn, hd⟩, hlen⟩ := I.list hs
  simp only at hc hd
  subst hc hd
  refine call_meets PySem.F.slot_list_count ⟨_, ho, rfl⟩ PySem.F.entry_list_count (PySem.F.args_list_count_2 _ _)
    (SeqAt.list_countAt p its.toArray n dd sl u (eqU y)) ⟨ho, fun z hz => mem_eqAt ru fy rv fys z (by simpa using hz), ?_⟩
  have ec : its.toArray.toList.countP (eqU y) = ys.countP fun z => eqV z y := cnt_eq rv fys
  refine ⟨.int (ys.countP fun z => eqV z y : Nat), H, I.tok _, ⟨s.toks, ?_⟩, q⟩
  show Value.int ((its.toArray.toList.countP (eqU y) : Nat) : Int) s.toks = _
  rw [ec]
section
variable {F : Fam} {K : PySem.W.Frag}
/-- a method of lists, one argument -/
def eLM (f : List D → D → Option D) (a b : GE) : GE := fun ρ => (a ρ).bind fun x => match x with
  | .list ds => (b ρ).bind fun y => lift (f ds y)
  | _ => .stuck
def LmS (K : PySem.W.Frag) (m : Md) (r : V → List V → Hp → VK → Prop) (f : List D → D → Option D) : Prop := ∀ (hid : List Addr) (H : Hp) (ds : List D) (e z : D) (a : Addr) (xs : List V) (y : V) (Q : VK), H a = some (.lst xs) → MnA K (hide hid H) ds xs → Rm K .bo hid H H e y → f ds e = some z →
  (∀ v H', Ex H H' → Rm K m hid H H' z v → Q v H') → r (.ref a) [y] H Q
theorem sem_lm {m : Md} {r : V → List V → Hp → VK → Prop} {f : List D → D → Option D} {ta tb : TE} {ga gb : GE} (ha : SemE F .bo ta ga) (hb : SemE F .bo tb gb) (hr : LmS F.K m r f) : SemE F m (tBM F.K "list" r ta (tCons tb tNil)) (eLM f ga gb) := fun H0 hid0 s ρ S Q q => by
  refine ha H0 hid0 s ρ S _ ?_
  unfold eLM at q
  cases hd : ga ρ with
  | stuck => rw [hd] at q; exact q.elim
  | err c => rw [hd, bind_err] at q; exact q
  | ok d =>
    rw [hd, bind_ok] at q
    intro v H1 e1 r1
    cases d with
    | list ds =>
      obtain ⟨a, xs, rfl, h1, h2⟩ := bo_list r1
      refine ⟨.inl ⟨rfl, xs, SqL.of h1⟩, hb H0 hid0 { s with H := H1 } ρ (S.ext e1) _ ?_⟩
      dsimp only at q
      cases hd2 : gb ρ with
      | stuck => rw [hd2] at q; exact q.elim
      | err c => rw [hd2, bind_err] at q; exact fun H2 e2 => q H2 (e1.trans e2)
      | ok d2 =>
        rw [hd2, bind_ok] at q
        intro u H2 e2 r2
        cases hf : f ds d2 with
        | none => rw [hf] at q; exact q.elim
        | some z =>
          rw [hf] at q
          exact hr s.hid H2 ds d2 z a xs u Q (e2.l h1) (MnA.mono (hide_mono e2) _ _ h2) r2 hf fun v' H' e' r' => q v' H' ((e1.trans e2).trans e') (rm_back (e1.trans e2) r')
    | none => exact q.elim
    | bool _ => exact q.elim
    | int _ => exact q.elim
    | str _ => exact q.elim
    | tuple _ => exact q.elim
    | dict _ => exact q.elim
theorem de_lm {m ma mb : Md} {a b : Expr} {name : Str} {id : String} {r : PySem.W.Frag → V → List V → Hp → VK → Prop} {f : List D → D → Option D} {ga gb : GE} {apos cpos : Pos} (slot : Slot "list" name id) (hty : typeOf (.builtin id) = pure (.type "method_descriptor")) (hm : ∀ i, MtR (F.X i) id (r (F.X i).K)) (hr : LmS F.K m (r F.K) f) (ha : DE F ma a ga) (hb : DE F mb b gb)
    (hfew : ∀ env, ((backTo cpos (starEach [b] env)).all (fun x => !x.1) && (backToKw cpos (keywordEach [] env)).all (fun x => x.1.isSome) && decide ([b].length + ([] : List Keyword).length + (if ([] : List Keyword).isEmpty then 0 else 1) < 30)) = true := by intro _; rfl)
    (hline : (apos.endLine == cpos.line) = true := by rfl) (hs : ∀ env, starEach [b] env = (false, eval b env) :: starEach [] env := by intro _; rfl) (hbase : ∀ env, attributeBase a name env (eval a env) = eval a env := by intro _; rfl) :
    DE F m (.Call (.Attribute a name apos) [b] [] cpos) (eLM f ga gb) := by
  obtain ⟨ta, pa, sa⟩ := de_any ha
  obtain ⟨tb, pb, sb⟩ := de_any hb
  refine ⟨_, fun i => ?_, sem_lm sa sb hr⟩
  have z := pe_bm PySem.F.plainAttrs_list slot hty (hm i) (pa i) (pa_cons (pb i) pa_nil (hs _)) (hbase _) (hfew _) hline (hs _) rfl
  rw [F.hK i] at z
  exact z
def dCnt (ds : List D) (e : D) : Option D := if ds.all flD && flD e then some (.int (ds.countP fun z => PyData.eqv z e : Nat)) else none
theorem lms_cnt {m : Md} : LmS K m (rCntV K) dCnt := fun hid H ds e z a xs y Q h1 h2 ry hf q => by
  unfold dCnt at hf
  split at hf
  · rename_i hc
    cases hf
    rw [Bool.and_eq_true] at hc
    have m1 : MnA K H ds xs := MnA.mono hide_ex _ _ h2
    have m2 := bo_full ry
    refine ⟨a, xs, y, rfl, rfl, SqL.of h1, fl_flat hc.2 m2, fl_all hc.1 m1, ?_⟩
    rw [fl_count hc.2 m2 hc.1 m1]
    exact q _ _ (Ex.refl _) rm_int
  · cases hf
theorem de_count {m ma mb : Md} {a b : Expr} {ga gb : GE} {apos cpos : Pos} (ha : DE F ma a ga) (hb : DE F mb b gb)
    (hfew : ∀ env, ((backTo cpos (starEach [b] env)).all (fun x => !x.1) && (backToKw cpos (keywordEach [] env)).all (fun x => x.1.isSome) && decide ([b].length + ([] : List Keyword).length + (if ([] : List Keyword).isEmpty then 0 else 1) < 30)) = true := by intro _; rfl)
    (hline : (apos.endLine == cpos.line) = true := by rfl) (hs : ∀ env, starEach [b] env = (false, eval b env) :: starEach [] env := by intro _; rfl) (hbase : ∀ env, attributeBase a "count" env (eval a env) = eval a env := by intro _; rfl) :
    DE F m (.Call (.Attribute a "count" apos) [b] [] cpos) (eLM dCnt ga gb) :=
  de_lm (r := rCntV) PySem.F.slot_list_count PySem.F.type_list_count (fun i => mt_lcntV) lms_cnt ha hb hfew hline hs hbase
def dIdx (ds : List D) (e : D) : Option D := if ds.all flD && flD e then (ds.findIdx? fun z => PyData.eqv z e).map fun j => .int (j : Nat) else none
theorem lms_idx {m : Md} : LmS K m (rIndex K) dIdx := fun hid H ds e z a xs y Q h1 h2 ry hf q => by
  unfold dIdx at hf
  split at hf
  · rename_i hc
    rw [Bool.and_eq_true] at hc
    cases hj : ds.findIdx? (fun z => PyData.eqv z e) with
    | none => rw [hj] at hf; cases hf
    | some j =>
      rw [hj] at hf
      cases hf
      have m1 : MnA K H ds xs := MnA.mono hide_ex _ _ h2
      have m2 := bo_full ry
      rw [List.findIdx?_eq_some_iff_getElem] at hj
      obtain ⟨hl, hp, hn⟩ := hj
      obtain ⟨w, hw, mw⟩ := m1.get (List.getElem?_eq_getElem hl)
      have fa : ∀ (k : Nat) (hk : k < ds.length), flD ds[k] = true := fun k hk => List.all_eq_true.mp hc.1 _ (List.getElem_mem hk)
      refine ⟨a, xs, y, j, w, rfl, rfl, SqL.of h1, fl_flat hc.2 m2, fl_all hc.1 m1, hw, by rw [fl_eq (fa j hl) hc.2 mw m2]; exact hp, fun k z' hk hz' => ?_, q _ _ (Ex.refl _) rm_int⟩
      have hkl : k < ds.length := by omega
      obtain ⟨w2, hw2, mw2⟩ := m1.get (List.getElem?_eq_getElem hkl)
      rw [hw2] at hz'
      cases hz'
      rw [fl_eq (fa k hkl) hc.2 mw2 m2]
      have := hn k hk
      simpa using this
  · cases hf
theorem de_index {m ma mb : Md} {a b : Expr} {ga gb : GE} {apos cpos : Pos} (ha : DE F ma a ga) (hb : DE F mb b gb)
    (hfew : ∀ env, ((backTo cpos (starEach [b] env)).all (fun x => !x.1) && (backToKw cpos (keywordEach [] env)).all (fun x => x.1.isSome) && decide ([b].length + ([] : List Keyword).length + (if ([] : List Keyword).isEmpty then 0 else 1) < 30)) = true := by intro _; rfl)
    (hline : (apos.endLine == cpos.line) = true := by rfl) (hs : ∀ env, starEach [b] env = (false, eval b env) :: starEach [] env := by intro _; rfl) (hbase : ∀ env, attributeBase a "index" env (eval a env) = eval a env := by intro _; rfl) :
    DE F m (.Call (.Attribute a "index" apos) [b] [] cpos) (eLM dIdx ga gb) :=
  de_lm (r := rIndex) PySem.F.slot_list_index PySem.F.type_list_index (fun i => mt_index) lms_idx ha hb hfew hline hs hbase
end
end DL
set_option Elab.async false
set_option linter.all false
set_option maxRecDepth 100000
set_option maxHeartbeats 4000000
namespace DL
open PySem PySem.Spec PyProof.Rows L2
variable [TabsC]
/-! ### a lambda, its exceptions with no context -/
abbrev lamN (X : Cx) (A : Around) (outer : List PySem.Env) (s : Shared) (H : Hp) (E : XK) (scope : Scope) (f c' : Addr) : Cx :=
  (LamX.lamCx X A outer s H E scope f c').wish fun e s1 => wpAny (model X.prog X.w) (A.deeper (LamX.lamEnv X scope s.heap.objs.size f c')) (leaving (LamX.lamEnv X scope s.heap.objs.size f c') e) (fun _ => L2N.CX X.prog X.w outer H s E e) (fun e2 => L2N.CX X.prog X.w outer H s E e2) s1
abbrev gvX (X : Cx) (Ng : List Str) (x : Str) (sg : Scope) (g : Addr) (cdg : Value) (s : Shared) (H : Hp) : Cx := cxOf C8.CX0 X.prog X.w X.K X.mg X.base Ng x sg g cdg X.A X.stack s H C8.E0
section
variable {X : Cx}
theorem act_n {pins : List (Addr × Obj)} {σ : L2.St} {H : Hp} {s : Shared} {Ng : List Str} {x a : Str} {sg : Scope} {g f c' : Addr} {cdg pm ctv : Value} {params : Arguments} {body : Expr} {scope : Scope} {k i : Nat} {pn : List (Addr × Obj)} {xe : Value → Shared → Prop} {W : WX} {E : XK} {tb : TE} {p1 p2 : Pos}
    (I : Inv X pins σ H s) (L : LamX.LamS X.env.scope scope) (hf : s.heap.get? f = some (PySem.W.kla_obj "<lambda>" (X.env.qual ++ "<lambda>") params body scope (cloFrom X.env.cells scope.names []) pm c' ctv)) (n1 : H f = none) (n2 : f ∉ frs X.stack)
    (hbind : bindArgs (PySem.W.kla_fn "<lambda>" (X.env.qual ++ "<lambda>") params body scope (cloFrom X.env.cells scope.names []) pm (.ref c') ctv) ⟨[], []⟩ = pure []) (tk : L2N.Takes ((gvX X Ng x sg g cdg s H).tr pn xe) W) (hW : ∀ cls d σ1 H1, E cls d H1 → W cls d σ1 H1) (hr : Room (k + 1) (X.A.deeper (envOfC x sg s.heap.objs.size g cdg)))
    (hb : ∀ (A : Around) (outer : List PySem.Env) (s : Shared) (H : Hp), Room k (A.deeper (LamX.lamEnv X scope s.heap.objs.size f c')) → PE (lamN X A outer s H E scope f c') body tb) (hN : Ng[i]? = some a) (hv : Vis sg a) (hd : (a == ("__debug__" : Str)) = false := by decide) (hcd : (a == ("__classdict__" : Str)) = false := by decide) :
    PE ((gvX X Ng x sg g cdg s H).tr pn xe) (.Call (.Name a p1) [] [] p2) (fun σ1 H1 Q => σ1[i]? = some (some (.ref f)) ∧ H1 c' = some (LamX.CodeO c' (X.env.qual ++ "<lambda>")) ∧ tb σ H1 Q) := by
  refine ⟨fun pz sz σz Hz Q Iz hz => ?_⟩
  obtain ⟨z1, z2, z3⟩ := hz
  have nm := pe_var (X := (gvX X Ng x sg g cdg s H).tr pn xe) (pos := p1) hN hv hd hcd
  refine wpAny_Call_Name_kw (thn (nm.run pz sz σz Hz (fun v H1 => v = V.ref f ∧ H1 = Hz) Iz ⟨_, z1, rfl, rfl⟩) fun u s1 y => ?_)
  obtain ⟨v, H1, I1, r1, ev, eH⟩ := y
  subst ev eH
  cases (show u = Value.ref f from r1)
  have hf1 := I1.base.keep f _ hf n1 n2 (fun z => nomatch (show f ∈ ([] : List Addr) from z))
  have un : Un (frs X.stack) [] H H1 s.heap s1.heap := I1.base
  obtain ⟨oc, vs, t, k1, k2, k3⟩ := (I1.hok c' _ z2).1
  have rc : codeAny (model X.prog X.w) (X.A.deeper (envOfC x sg s.heap.objs.size g cdg)) (.call (.ref f) ⟨[], []⟩) (CR (L2N.CX X.prog X.w) (envOfC x sg s.heap.objs.size g cdg :: X.stack) X.prog X.w H1 s1 Q E) s1 := by
    refine PySem.W.kla_callFunE hr.depth hf1 rfl L.co L.gen rfl ⟨c', oc, vs, t, rfl, k1, k2, k3⟩ ?_
    rw [hbind]
    have own : ∀ y ∈ scope.names, y.2 ≠ .cell := fun y hy => (L.own y hy).2
    refine wpAny_pure (wpAny_newFunctionEnv own (fun y hy => (nomatch hy)) (fun h1 ns sb => ⟨I1.nolimit.fresh _ sb, ?_⟩) L.kind)
    have kp : ∀ b o, s1.heap.get? b = some o → h1.get? b = some o := fun b o e => sb.extBut b o (Nat.ne_of_lt (Heap.lt_size e)) (Heap.get?_push_of_some _ e)
    have J := (LamX.lam_start2 (A := X.A.deeper (envOfC x sg s.heap.objs.size g cdg)) (E := E) (f := f) (c' := c') (tk := s1.toks + ([] : List (Str × Value)).length) I L I1.env0 hr.hd un ns kp).wish
    have run := (hb (X.A.deeper (envOfC x sg s.heap.objs.size g cdg)) (envOfC x sg s.heap.objs.size g cdg :: X.stack) s1 H1 (hr.deeper _)).run [] _ _ H1 Q (J _) z3
    refine PySem.W.kla_codeExpr (wpAny_mono run (fun v s2 hq => ?_) fun e s2 hq => hq)
    obtain ⟨v2, H2, J2, rv, q⟩ := hq
    exact ⟨v2, H2, J2.os, J2.bare, J2.base, J2.hok, rv, q⟩
  refine PySem.W.callWith_F0 ⟨_, _, _, _, hf1⟩ (wpAny_call (codeAny_mono rc fun r s2 hq => ?_))
  · cases r with
    | error e => exact L2N.passes_call tk hW pz σz H1 s1 e s2 I1 hq
    | ok fl =>
      cases fl with
      | ret u => exact I1.after hq
      | next => exact hq.elim
      | brk => exact hq.elim
      | cont => exact hq.elim
/-- the def that calls what it got -/
def GivesN (X : Cx) (Ng : List Str) (x : Str) (sg : Scope) (g : Addr) (cdg : Value) (bg : List Stmt) (a q : Str) (TT : (XK → Hp → VK → Prop) → Hp → VK → Prop) : Prop :=
  ∀ (f c' : Addr) (s : Shared) (H : Hp) (Q : VK) (tl : XK → Hp → VK → Prop),
    (∀ (W : WX) (pn : List (Addr × Obj)) (xe : Value → Shared → Prop) (E : XK) (p1 p2 : Pos), L2N.Takes ((gvX X Ng x sg g cdg s H).tr pn xe) W → (∀ cls d σ1 H1, E cls d H1 → W cls d σ1 H1) →
      PE ((gvX X Ng x sg g cdg s H).tr pn xe) (.Call (.Name a p1) [] [] p2) (fun σ1 H1 Q => σ1[0]? = some (some (.ref f)) ∧ H1 c' = some (LamX.CodeO c' q) ∧ tl E H1 Q)) →
    H c' = some (LamX.CodeO c' q) → TT tl H Q → ∃ t, PSs (gvX X Ng x sg g cdg s H).nox bg t ∧ t { nx := fun _ H1 => Q .non H1, rt := Q } (L2.start Ng [.ref f]) H
theorem pe_lamN {T : List (Addr × Str)} {TT : (XK → Hp → VK → Prop) → Hp → VK → Prop} {x a : Str} {g c P : Addr} {k : Nat} {pg : Arguments} {bg : List Stmt} {sg : Scope} {dV kV doc pm cdv ct oc : Value} {an od : Option Addr} {osl : Array (Option Value)} {Ng : List Str} {params : Arguments} {body : Expr} {scope : Scope} {t : XK → TE} {p lpos pos : Pos}
    (hg : Gl X x) (hm : X.mg x = some (.ref g)) (hk : PySem.W.keepIn X.K (.ref g) = true) (lk : X.K.lookup g = some ⟨oc, od, .func (PySem.W.fnOf x x pg bg sg dV kV doc pm an cdv ct), osl⟩) (hcg : PySem.W.codeIn X.K cdv x = true) (hb : L2.Binds X.K (PySem.W.fnOf x x pg bg sg dV kV doc pm an cdv ct) [a] [])
    (Sg : FnScope Ng [a] sg) (h0 : Ng[0]? = some a) (hva : Vis sg a) (hG : GivesN X Ng x sg g cdv bg a (X.env.qual ++ "<lambda>") TT) (TB : LamX.TabB X.base X.mg c P) (hcode : X.env.code = .ref c) (hmT : (P, X.env.qual ++ "<lambda>") ∈ T) (hu : ∀ p ∈ T, p.1 = P → p.2 = X.env.qual ++ "<lambda>") (hr : Room (k + 2) X.A) (L : LamX.LamS X.env.scope scope)
    (hdef : defaultsOf params X.env = ([], [])) (hbind : ∀ (q : Str) (cl : List (Str × Addr)) (pm cv ctv : Value), bindArgs (PySem.W.kla_fn "<lambda>" q params body scope cl pm cv ctv) ⟨[], []⟩ = pure [])
    (hbody : ∀ (A : Around) (outer : List PySem.Env) (s : Shared) (H : Hp) (E : XK) (f c' : Addr), Room k (A.deeper (LamX.lamEnv X scope s.heap.objs.size f c')) → PE (lamN X A outer s H E scope f c') body (t E)) (hdb : (x == ("__debug__" : Str)) = false := by decide) (hd : (a == ("__debug__" : Str)) = false := by decide) (hcd : (a == ("__classdict__" : Str)) = false := by decide) :
    PE X (.Call (.Name x p) [.Lambda params body scope lpos] [] pos) (LamX.tLam T TT t) := by
  refine ⟨fun pins s σ H Q I h => ?_⟩
  refine wpAny_Call_Name_kw (ld_glob I hg hm (PySem.W.callWith_K (h₀ := X.base) I.ok.mod.kin hk ?_ (by rfl) (by rfl)) hdb)
  refine Calls.spliced_cons (LamX.lam_make2 I TB hcode hmT hu h.1 hdef (L.has I.ok) fun f c' pm' ctv H1 s1 I1 eN T1 hf n1 n2 hco => Calls.spliced_nil ⟨I1.kIn, ?_⟩)
  refine wpAny_call (codeAny_mono (LamX.run_ofS (CX := C8.CX0) (E := C8.E0) (Q := Q) (H := H1) (N := Ng) (ps := [a]) (us := [.ref f]) (vs := [.ref f]) lk hcg Sg hr I1.env0 (hb s1 [.ref f] I1.kIn rfl) (.cons rfl .nil) rfl fun hr1 => ?_) fun r s2 hq => ?_)
  · obtain ⟨t1, u1, u2⟩ := hG f c' s1 H1 Q (fun E H2 Q2 => t E σ H2 Q2) (fun W pn xe E p1 p2 tk hW => act_n (i := 0) I1 L hf n1 n2 (hbind _ _ _ _ _) tk hW hr1 (fun A outer s H r2 => hbody A outer s H E f c' r2) h0 hva hd hcd) hco (h.2 H1 eN T1)
    exact ⟨t1, u1.nox, u2⟩
  · cases r with
    | error e => exact (show False from hq).elim
    | ok fl =>
      cases fl with
      | ret u => exact I1.after hq
      | next => exact hq.elim
      | brk => exact hq.elim
      | cont => exact hq.elim
theorem takesN0 : L2N.Takes X fun _ _ _ _ => False := fun _ _ ⟨_, _, _, _, _, _, _, _, _, _, _, _, _, _, _, _, z⟩ => z.elim
end
/-! ### a lambda's body -/
theorem pass_of {X : Cx} {E : XK} (tk : L2N.Takes X fun cls d _ H => E cls d H) : Passes (L2N.CX X.prog X.w) X E := L2N.passes_call tk fun _ _ _ _ h => h
def lamFam (F : Fam) (scope : Scope) (hk : scope.kind = .function) (E : XK) (k : Nat) : Fam where
  ι := {p : F.ι × Around × List PySem.Env × Shared × Hp × Addr × Addr // Room k (p.2.1.deeper (LamX.lamEnv (F.X p.1) scope p.2.2.2.1.heap.objs.size p.2.2.2.2.2.1 p.2.2.2.2.2.2))}
  X := fun i => lamN (F.X i.1.1) i.1.2.1 i.1.2.2.1 i.1.2.2.2.1 i.1.2.2.2.2.1 E scope i.1.2.2.2.2.2.1 i.1.2.2.2.2.2.2
  P := F.P
  w := F.w
  K := F.K
  mg := F.mg
  base := F.base
  N := F.N
  sn := scope.names
  E := E
  cl := F.cl
  O := F.O
  lv := k
  hP := fun i => F.hP i.1.1
  hw := fun i => F.hw i.1.1
  hK := fun i => F.hK i.1.1
  hmg := fun i => F.hmg i.1.1
  hbase := fun i => F.hbase i.1.1
  hN := fun i => F.hN i.1.1
  hsn := fun i => rfl
  hot := false
  calm := fun _ _ => rfl
  nd := F.nd
  room := fun i => .of i.2
  hd := fun _ i => i.2.hd
  own := fun i => passes_of rfl
  pas := fun i => by
    have z := pass_of (X := lamN (F.X i.1.1) i.1.2.1 i.1.2.2.1 i.1.2.2.2.1 i.1.2.2.2.2.1 E scope i.1.2.2.2.2.2.1 i.1.2.2.2.2.2.2) (E := E) (L2N.takes_of rfl rfl rfl rfl)
    rw [show (lamN (F.X i.1.1) i.1.2.1 i.1.2.2.1 i.1.2.2.2.1 i.1.2.2.2.2.1 E scope i.1.2.2.2.2.2.1 i.1.2.2.2.2.2.2).prog = F.P from F.hP i.1.1, show (lamN (F.X i.1.1) i.1.2.1 i.1.2.2.1 i.1.2.2.2.1 i.1.2.2.2.2.1 E scope i.1.2.2.2.2.2.1 i.1.2.2.2.2.2.2).w = F.w from F.hw i.1.1] at z
    exact z
  hki := fun _ => hk
  sto := fun _ => false
  hsto := fun i x h => by cases h
/-- what the def that got the lambda makes of its reading -/
def TTd (K : PySem.W.Frag) (cl : Nat → Value) (tf : Out D → Out D) : (XK → Hp → VK → Prop) → Hp → VK → Prop := fun tl H Q => ∃ (hid : List Addr) (o : Out D), LamX.Tabs TabsC.T H ∧ (∀ a ∈ hid, IsC (H a)) ∧
  (∀ (H1 : Hp), Ex H H1 → ∀ (E : XK) (Q' : VK), (match o with
    | .ok d => ∀ v H', Ex H1 H' → Rm K .fz hid H1 H' d v → Q' v H'
    | .err c => ∀ H', Ex H1 H' → E (cl c) none H'
    | .stuck => False) → tl E H1 Q') ∧ WF K cl .fz hid H Q E0 (tf o)
structure ToldD (P : Program) (w : World) (K : PySem.W.Frag) (mg : Str → Option Value) (base : Heap) (cl : Nat → Value) (x a q : Str) (tf : Out D → Out D) : Prop where
  ex : ∃ (g : Addr) (pg : Arguments) (bg : List Stmt) (sg : Scope) (dV kV doc pm cdv ct oc : Value) (an od : Option Addr) (osl : Array (Option Value)) (Ng : List Str), mg x = some (.ref g) ∧ PySem.W.keepIn K (.ref g) = true ∧
    K.lookup g = some ⟨oc, od, .func (PySem.W.fnOf x x pg bg sg dV kV doc pm an cdv ct), osl⟩ ∧ PySem.W.codeIn K cdv x = true ∧ L2.Binds K (PySem.W.fnOf x x pg bg sg dV kV doc pm an cdv ct) [a] [] ∧ FnScope Ng [a] sg ∧ Ng[0]? = some a ∧ Vis sg a ∧
    ∀ X : Cx, X.prog = P → X.w = w → X.K = K → X.mg = mg → X.base = base → RoomW 2 X.A → GivesN X Ng x sg g cdv bg a q (TTd K cl tf)
  ne : ∀ o c, tf o ≠ .err c
def eTold (tf : Out D → Out D) (g : GE) : GE := fun ρ => tf (g ρ)
section
variable {F : Fam} {K : PySem.W.Frag}
theorem de_lamcall {x a ql : Str} {tf : Out D → Out D} {c P' : Addr} {k : Nat} {params : Arguments} {body : Expr} {scope : Scope} {gb : GE} {p lpos pos : Pos} (T : ToldD F.P F.w F.K F.mg F.base F.cl x a (ql ++ "<lambda>") tf) (hq : ∀ i, (F.X i).env.qual = ql) (TB : LamX.TabB F.base F.mg c P') (hcode : ∀ i, (F.X i).env.code = .ref c)
    (hmT : (P', ql ++ "<lambda>") ∈ TabsC.T) (hu : ∀ p ∈ TabsC.T, p.1 = P' → p.2 = ql ++ "<lambda>") (L : ∀ i, LamX.LamS (F.X i).env.scope scope) (hk : scope.kind = .function) (hlv : k + 2 ≤ F.lv) (hb : ∀ E, DE (lamFam F scope hk E k) .fz body gb)
    (hg : F.sn.lookup x = some .globalImplicit := by rfl) (hdef : ∀ env, defaultsOf params env = ([], []) := by intro _; rfl)
    (hbind : ∀ (q : Str) (cl : List (Str × Addr)) (pm cv ctv : Value), bindArgs (PySem.W.kla_fn "<lambda>" q params body scope cl pm cv ctv) ⟨[], []⟩ = pure [] := by intros; rfl)
    (hdb : (x == ("__debug__" : Str)) = false := by decide) (hd : (a == ("__debug__" : Str)) = false := by decide) (hcd : (a == ("__classdict__" : Str)) = false := by decide) (hh : F.hot = false := by rfl) :
    DE F .fz (.Call (.Name x p) [.Lambda params body scope lpos] [] pos) (eTold tf gb) := by
  obtain ⟨g, pg, bg, sg, dV, kV, doc, pm, cdv, ct, oc, an, od, osl, Ng, h1, h2, h3, h4, h5, h6, h7, h8, h9⟩ := T.ex
  refine ⟨LamX.tLam TabsC.T (TTd F.K F.cl tf) fun E => (hb E).choose, fun i => ?_, fun H0 hid0 s ρ S Q q => ?_⟩
  · have hr : Room (k + 2) (F.X i).A := (F.room i).to (F.hd hh i) hlv
    have hG := h9 (F.X i) (F.hP i) (F.hw i) (F.hK i) (F.hmg i) (F.hbase i) ⟨by have := hr.dp; omega, by have := hr.un; omega⟩
    refine pe_lamN (c := c) (P := P') (gl_of hg i) (by rw [F.hmg]; exact h1) (by rw [F.hK]; exact h2) (by rw [F.hK]; exact h3) (by rw [F.hK]; exact h4) (by rw [F.hK]; exact h5) h6 h7 h8 (by rw [hq i]; exact hG) (by rw [F.hbase, F.hmg]; exact TB) (hcode i) (by rw [hq i]; exact hmT)
      (fun p hp e => by rw [hq i]; exact hu p hp e) hr (L i) (hdef _) hbind (fun A outer s H E f c' hr' => (hb E).choose_spec.1 ⟨(i, A, outer, s, H, f, c'), hr'⟩) hdb hd hcd
  · refine ⟨S.ex0.tb S.tb0, fun H1 eN T1 => ?_⟩
    have e : Ex s.H H1 := ⟨fun b o h n => eN b o h n, fun _ => T1⟩
    refine ⟨s.hid, gb ρ, T1, knd_ex e S.knd, fun H2 e2 E Q' h => ?_, ?_⟩
    · exact (hb E).choose_spec.2 H0 hid0 { s with H := H2 } ρ ((S.ext e).ext e2) Q' h
    · unfold eTold at q
      cases ho : tf (gb ρ) with
      | stuck => rw [ho] at q; exact q.elim
      | err c => exact (T.ne _ _ ho).elim
      | ok d =>
        rw [ho] at q
        exact fun v H' e' r => q v H' (e.trans e') r
/-! ### an except suite -/
theorem takes_len {X : Cx} {W : WX} (tk : L2N.Takes X W) : L2N.Takes X fun cls d σ H => σ.length = X.N.length → W cls d σ H := fun u s' ⟨a, B, sI, pins, σ, H, cls, d, e, I, nb, up, sky, na, os, ag, w⟩ =>
  tk u s' ⟨a, B, sI, pins, σ, H, cls, d, e, I, nb, up, sky, na, os, ag, w I.len⟩
def suiteFam (X : Cx) (a : Addr) (cls : Value) (cl : Nat → Value) (lv : Nat) (nd : X.N.Nodup) (hr : RoomW lv X.A) (hk : X.env.scope.kind = .function) (hf : X.fn = fun _ => true) : Fam where
  ι := {p : Obj × List (Addr × Obj) // L2N.Zn cls none p.1 ∧ ∃ vs, p.1.data = .fields vs}
  X := fun p => X.suite a ((a, p.1.1) :: p.1.2)
  P := X.prog
  w := X.w
  K := X.K
  mg := X.mg
  base := X.base
  N := X.N
  sn := X.env.scope.names
  E := E0
  cl := cl
  O := fun _ => some false
  lv := lv
  hP := fun _ => rfl
  hw := fun _ => rfl
  hK := fun _ => rfl
  hmg := fun _ => rfl
  hbase := fun _ => rfl
  hN := fun _ => rfl
  hsn := fun _ => rfl
  hot := true
  calm := fun h => by cases h
  nd := nd
  room := fun _ => ⟨hr.dp, hr.un⟩
  hd := fun h => by cases h
  own := fun _ => PassesOwn.never
  pas := fun _ => passN
  hki := fun _ => hk
  sto := stoB X.env.scope.names
  hsto := fun i x h => by
    unfold stoB at h
    refine ⟨?_, .inl (by show X.fn x = true; rw [hf])⟩
    split at h
    · rename_i e; exact .inl e
    · rename_i e; exact .inr e
    · cases h
/-- the value of the caught exception's name -/
def excD (a : Addr) : D := .dict [(.bool true, .int (a : Nat))]
def isExc (a : Addr) : D → Bool
  | .dict [(.bool true, .int i)] => decide (i = (a : Nat))
  | _ => false
theorem isExc_eq {a : Addr} {d : D} (h : isExc a d = true) : d = excD a := by
  unfold isExc at h
  split at h
  · rw [decide_eq_true_eq] at h
    rw [h]
    rfl
  · cases h
theorem isExc_self (a : Addr) : isExc a (excD a) = true := by simp [isExc, excD]
def eIsE (i : Nat) (a : Addr) (b : Bool) : GE := fun ρ => match ρ[i]? with
  | some (some d) => bif isExc a d then .ok (.bool b) else .stuck
  | _ => .stuck
/-- isinstance(e, C), e the caught exception, its class D's -/
theorem de_isE {X : Cx} {a D : Addr} {b : Bool} {cl : Nat → Value} {lv : Nat} {nd : X.N.Nodup} {hr : RoomW lv X.A} {hk : X.env.scope.kind = .function} {hf : X.fn = fun _ => true} {m : Md} {x e : Str} {v : V} {cv : Value} {p p1 p2 pos : Pos} (i : Nat)
    (EC : ExcC X.K D) (ht : ∀ Y : Cx, Y.mg = X.mg → Y.env = X.env → PE Y (.Name x p2) (tC v)) (hcv : ∀ u, RelV v u → u = cv) (hkit : PySem.W.kitOne X.K (.ref D) cv = some b) (hm : X.mg "isinstance" = none) (hN : X.N[i]? = some e) (hv : visB X.env.scope.names e = true)
    (hg : X.env.scope.names.lookup ("isinstance" : Str) = some .globalImplicit) (hd : (e == ("__debug__" : Str)) = false := by decide) (hcd : (e == ("__classdict__" : Str)) = false := by decide) :
    DE (suiteFam X a (.ref D) cl lv nd hr hk hf) m (.Call (.Name "isinstance" p) [.Name e p1, .Name x p2] [] pos) (eIsE i a b) := by
  refine ⟨_, fun j => pe_callB (call_isE EC j.2.1.zc j.2.2) hg hm (by decide +kernel) (pa_cons (pe_var (i := i) hN (vis_of hv) hd hcd) (pa_cons (ht _ rfl rfl) pa_nil)) (by decide) (by decide) (by rfl) (by rfl), fun H0 hid0 s ρ S Q q => ?_⟩
  unfold eIsE at q
  cases hρ : ρ[i]? with
  | none => rw [hρ] at q; exact q.elim
  | some o =>
    cases o with
    | none => rw [hρ] at q; exact q.elim
    | some d =>
      rw [hρ] at q
      dsimp only at q
      cases hi : isExc a d with
      | false => rw [hi] at q; exact q.elim
      | true =>
        rw [hi] at q
        have := isExc_eq hi
        subst this
        obtain ⟨v', h1, h2⟩ := S.fz i _ rfl hρ
        have ev : v' = .ref a := by
          unfold excD at h2
          simp only [Mn] at h2
          rcases h2 with ⟨a', kvs, _, _, h3⟩ | ⟨a', ns, _, _, h3⟩ | ⟨a', e1, h3⟩ | ⟨f, c, q, _, _, h3⟩ | ⟨a', o', L', _, _, _, _, _, h3⟩
          · simp only [MnK] at h3
            obtain ⟨q', _, _, _, hk, _⟩ := h3
            cases q' <;> simp [kD] at hk
          · simp at h3
          · have : (a : Nat) = (a' : Nat) := by
              have h3 : ((a : Nat) : Int) = ((a' : Nat) : Int) := by simpa using h3
              exact Int.ofNat.inj h3
            rw [e1]
            exact congrArg V.ref this.symm
          · simp at h3
          · simp at h3
        subst ev
        exact ⟨_, h1, ⟨v, cv, b, rfl, hcv, hkit, q _ _ (Ex.refl _) rm_bool⟩⟩
end
end DL
set_option Elab.async false
set_option linter.all false
set_option maxRecDepth 100000
set_option maxHeartbeats 4000000
namespace DL
open PySem PySem.Spec PyProof.Rows L2
variable [TabsC]
def tfOf (told : Str) (rf : Nat → Option D) : Out D → Out D
  | .ok d => .ok (.tuple [.str told, d])
  | .err c => lift (rf c)
  | .stuck => .stuck
theorem tfOf_ne {told : Str} {rf : Nat → Option D} (o : Out D) (c : Nat) : tfOf told rf o ≠ .err c := by
  cases o with
  | ok d => intro h; cases h
  | err c' =>
    intro h
    have h : lift (rf c') = .err c := h
    cases q : rf c' with
    | none => rw [q] at h; cases h
    | some d => rw [q] at h; cases h
  | stuck => intro h; cases h
abbrev toldX (X : Cx) (Ng : List Str) (x : Str) (sg : Scope) (g : Addr) (cdg : Value) (s : Shared) (H : Hp) : Cx := (cxOf C8.CX0 X.prog X.w X.K X.mg X.base Ng x sg g cdg X.A X.stack s H C8.E0).nox
theorem toldX_room {X : Cx} {Ng : List Str} {x : Str} {sg : Scope} {g : Addr} {cdg : Value} {s : Shared} {H : Hp} (hr : RoomW 2 X.A) : RoomW 1 (toldX X Ng x sg g cdg s H).A :=
  ⟨by have := hr.dp; show X.A.depth + 1 + 3 * 1 + 5 < _; omega, by have := hr.un; show X.A.units + 3 + 16 * 1 + 200 < _; omega⟩
theorem told_g {X : Cx} {cl : Nat → Value} {rf : Nat → Option D} {gs : Addr → Nat → GS} {Ng : List Str} {x a e en found told q : Str} {sg : Scope} {g CS : Addr} {cdg : Value} {j0 kt : Nat} {b₀ : Stmt} {suite : List Stmt} {p0 p1 p2 p4 p7 p8 p9 p10 pf pt pa : Pos} (ie jf : Nat)
    (nd : Ng.Nodup) (hk : sg.kind = .function) (hr : RoomW 2 X.A) (hpos : 0 < Ng.length)
    (hge : sg.names.lookup e = some .globalImplicit) (hme : X.mg e = some (.ref CS)) (hexm : ∀ c r, rf c = some r → PySem.W.exmOne X.K (cl c) (.ref CS) = some true)
    (hie : Ng[ie]? = some en) (hle : sg.names.lookup en = some .local) (hjf : Ng[jf]? = some found) (hlf : sg.names.lookup found = some .local) (hne : ie ≠ jf)
    (hsu : ∀ (s : Shared) (H : Hp) (a' : Addr) (c : Nat) (r : D), rf c = some r → DSs (suiteFam (toldX X Ng x sg g cdg s H) a' (cl c) cl 1 nd (toldX_room hr) hk rfl) .fz (b₀ :: suite) (gs a' c))
    (hgs : ∀ (a' : Addr) (c : Nat) (r : D), rf c = some r → ∃ ρ', gs a' c ((List.replicate Ng.length none).set ie (some (excD a'))) = .ok (.nx ρ') ∧ ρ'[jf]? = some (some r))
    (hde : (e == ("__debug__" : Str)) = false := by decide) (hdf : (found == ("__debug__" : Str)) = false := by decide) (hcf : (found == ("__classdict__" : Str)) = false := by decide)
    (hstar : ∀ env, starEach [.Constant (.str told) j0 p0, .Call (.Name a p1) [] [] p2] env = (false, eval (.Constant (.str told) j0 p0) env) :: starEach [.Call (.Name a p1) [] [] p2] env := by intro _; rfl) :
    GivesN X Ng x sg g cdg [.Try [.Assign [.Name found pf] (.Tuple [.Constant (.str told) j0 p0, .Call (.Name a p1) [] [] p2] kt pt) pa] [.ExceptHandler (some (.Name e p4)) (some en) (b₀ :: suite) p7] [] [] p8, .Return (some (.Name found p9)) p10] a q (TTd X.K cl (tfOf told rf)) := by
  intro f c' s H Q tl act hc h
  obtain ⟨hid, o, hT, knd, htl, hw⟩ := h
  have hgl : Gl (toldX X Ng x sg g cdg s H) e := hge
  refine ⟨_, pss_cons (L2N.ps_try_as (X := toldX X Ng x sg g cdg s H) (i := ie) (n := en) (c := .ref CS) (Wout := fun _ _ _ _ => False)
      (tb := fun W Dn σ H1 => ∃ Ech : XK, (∀ cls d σ' H', Ech cls d H' → σ'.length = Ng.length → W cls d σ' H') ∧ tAsg (tTup (tCons (tC (.str told)) (tCons (fun σZ HZ Q => σZ[0]? = some (some (.ref f)) ∧ HZ c' = some (LamX.CodeO c' q) ∧ tl Ech HZ Q) tNil))) (gName jf) Dn σ H1)
      (ts := fun a' cls d Dn σ H1 => d = none ∧ ∃ (c : Nat) (r : PyData) (hc : rf c = some r), cls = cl c ∧ (hsu s H a' c r hc).choose Dn σ H1)
      rfl rfl nd hie hle ⟨hgl, hde, .inl hme⟩ takesN0 (fun W pn xe tk _ => ?_) (fun a' oe cls d pn hz hv => ?_)) (pss_one (ps_ret (pe_var (i := jf) hjf (.inl hlf) hdf hcf))), ?_⟩
  · refine ⟨fun pins s' σ H1 Dn I h' => ?_⟩
    obtain ⟨Ech, hW, h1⟩ := h'
    have hp := act (fun cls d σ H => σ.length = Ng.length → W cls d σ H) pn xe Ech p1 p2 (takes_len tk) (fun cls d σ' H' z => hW cls d σ' H' z)
    have hq := pss_one (ps_set (pos := pa) (pos' := pf) (i := jf) (X := (toldX X Ng x sg g cdg s H).tr pn xe) nd hjf (.inl hlf) (show PE _ (.Tuple [.Constant (.str told) j0 p0, .Call (.Name a p1) [] [] p2] kt pt) _ from pe_tup (pa_cons pe_str (pa_cons hp pa_nil) (hstar _))) (by rfl) (.inl rfl))
    exact hq.run pins s' σ H1 Dn I h1
  · refine ⟨fun pins s' σ H1 Dn I h' => ?_⟩
    obtain ⟨hd, c, r, hc, ecl, h1⟩ := h'
    subst hd
    have hz' : L2N.Zn (cl c) none oe := by rw [← ecl]; exact hz
    exact ((hsu s H a' c r hc).choose_spec.1 ⟨(oe, pn), hz', hv⟩).run pins s' σ H1 Dn I h1
  · -- what is told
    have hst : (L2.start Ng [V.ref f])[0]? = some (some (V.ref f)) := by unfold L2.start; rfl
    have hln : (L2.start Ng [V.ref f]).length = Ng.length := by
      unfold L2.start
      rw [List.length_append, List.length_map, List.length_replicate, List.length_singleton]
      omega
    have hjl : jf < Ng.length := (List.getElem?_eq_some_iff.mp hjf).1
    have hil : ie < Ng.length := (List.getElem?_eq_some_iff.mp hie).1
    refine ⟨fun cls d H' => d = none ∧ Ex H H' ∧ ∃ c, cls = cl c ∧ o = .err c, fun cls d σ' H' hE hσ => ?_, ?_⟩
    · obtain ⟨hd, eH, c, ecl, eo⟩ := hE
      rw [eo] at hw
      cases hc : rf c with
      | none =>
        have hw : WF X.K cl .fz hid H Q E0 (lift (rf c)) := hw
        rw [hc] at hw
        exact hw.elim
      | some r =>
        have hw : WF X.K cl .fz hid H Q E0 (lift (rf c)) := hw
        rw [hc] at hw
        refine ⟨true, by rw [ecl]; exact hexm c r hc, fun _ a' na => ⟨hd, c, r, hc, ecl, ?_⟩, fun z => by cases z⟩
        obtain ⟨ρ', g1, g2⟩ := hgs a' c r hc
        -- the suite
        have S0 : Sees X.K H' hid (fun _ => some false) { hid := hid, own := fun _ => none, σ := σ'.set ie (some (.ref a')), H := H' } ((List.replicate Ng.length none).set ie (some (excD a'))) := by
          refine ⟨?_, Ex.refl _, fun _ h => h, knd_ex eH knd, fun b hb => (knd_ex eH knd b hb).ne, eH.tb hT, fun i d _ hd' => ?_, fun i d hO => (by cases hO), fun i b hb => (by cases hb), fun i j b hb => (by cases hb), fun i d hO => (by cases hO)⟩
          · show (σ'.set ie _).length = _
            rw [List.length_set, List.length_set, List.length_replicate]
            exact hσ
          · by_cases hi : ie = i
            · subst hi
              rw [List.getElem?_set_self (by rw [List.length_replicate]; exact hil)] at hd'
              cases hd'
              refine ⟨.ref a', List.getElem?_set_self (by rw [hσ]; exact hil), ?_⟩
              unfold excD
              simp only [Mn]
              exact .inr (.inr (.inl ⟨a', rfl, rfl⟩))
            · rw [List.getElem?_set_ne hi, List.getElem?_replicate] at hd'
              split at hd' <;> cases hd'
        refine (hsu s H a' c r hc).choose_spec.2 H' hid _ _ S0 _ ?_
        rw [g1]
        intro s' w' S'
        obtain ⟨v, hv1, hv2⟩ := S'.fz jf r rfl g2
        refine ⟨v, ?_, ?_⟩
        · rw [List.getElem?_set_ne hne]
          exact hv1
        · exact hw v s'.H (eH.trans S'.ex0) (Mn.mono (hide_sub S'.sub) r v hv2)
    · -- the body
      refine ⟨hst, hc, htl H (Ex.refl _) _ _ ?_⟩
      cases ho : o with
      | stuck =>
        rw [ho] at hw
        exact hw.elim
      | err c =>
        exact fun H' e => ⟨rfl, e, c, rfl, rfl⟩
      | ok d =>
        rw [ho] at hw
        intro v H1 e1 r1
        refine ⟨small_line (show (2 : Nat) ≤ 1000000 from by decide), fun p hp => ?_⟩
        refine ⟨.ref p, List.getElem?_set_self (by rw [hln]; exact hjl), ?_⟩
        refine hw (.ref p) _ (e1.trans (Ex.new hp)) ?_
        have m : MnA X.K (hide hid H1) [.str told, d] [.str told, v] := by
          simp only [MnA, Mn]
          exact ⟨_, _, rfl, rfl, v, [], rfl, r1, rfl⟩
        exact rm_back e1 (au_tup (dom_ex e1 fun b hb => (knd b hb).ne) hp m)
end DL
set_option Elab.async false
set_option linter.all false
set_option maxRecDepth 100000
set_option maxHeartbeats 4000000
namespace DL
open PySem PySem.Spec PyProof.Rows L2
variable [TabsC]
section
variable {F : Fam} {K : PySem.W.Frag}
/-! ### range -/
def iR1 (g : GE) : GA := fun ρ => (g ρ).bind fun d => match d with
  | .int j => if j ≤ 1000000 ∧ -1000000 ≤ j then .ok ((List.range j.toNat).map fun i => .int (i : Nat)) else .stuck
  | _ => .stuck
theorem di_range1 {m ma : Md} {tg a : Expr} {g : GE} {p pos : Pos} (hm : F.mg "range" = none) (h : DE F ma a g) (hg : F.sn.lookup ("range" : Str) = some .globalImplicit := by rfl) (hs : ∀ env, starEach [a] env = [(false, eval a env)] := by intro _; rfl) : DI F m tg (.Call (.Name "range" p) [a] [] pos) (iR1 g) := by
  obtain ⟨te, pe, se⟩ := de_any h
  refine ⟨_, fun i => pi_range1 (gl_of hg i) (by rw [F.hmg]; exact hm) (pa_cons (pe i) pa_nil (hs _)) (hs _), fun H0 hid0 s ρ S R q => se H0 hid0 s ρ S _ ?_⟩
  unfold iR1 at q
  split
  · rename_i d hd
    rw [hd, bind_ok] at q
    intro v H' e r
    cases d with
    | int j =>
      dsimp only at q
      by_cases hj : j ≤ 1000000 ∧ -1000000 ≤ j
      · rw [if_pos hj] at q
        have := bo_int r
        subst this
        refine ⟨j, rfl, by omega, by omega, q _ _ e ?_⟩
        have w : Walks F.K (Itr 0 j.toNat) (Rb m s.hid H') (hide s.hid H') ((List.range j.toNat).map fun i => .int (0 + (i : Nat))) := walk_rng
        simpa using w
      · rw [if_neg hj] at q
        exact q.elim
    | none => exact q.elim
    | bool _ => exact q.elim
    | str _ => exact q.elim
    | list _ => exact q.elim
    | tuple _ => exact q.elim
    | dict _ => exact q.elim
  · rename_i c hd
    rw [hd, bind_err] at q
    exact q
  · rename_i hd
    rw [hd, bind_stuck] at q
    exact q
/-! ### pairs: zip, enumerate -/
theorem rb_list {m : Md} {hid : List Addr} {H H' : Hp} {ds : List D} {v : V} (hm : m ≠ .au) (r : Rm K m hid H H' (.list ds) v) : ∃ a xs, v = .ref a ∧ Rb m hid H' a = some (.lst xs) ∧ MnA K (hide hid H') ds xs := by
  cases m with
  | au => exact (hm rfl).elim
  | bo =>
    obtain ⟨a, xs, e1, e2, e3⟩ := bo_list r
    exact ⟨a, xs, e1, hide_at (by simp) e2 (fun ps z => nomatch z), e3⟩
  | fz =>
    have r : Mn K (hide hid H') (.list ds) v := r
    simp only [Mn] at r
    exact r
theorem rb_tup {m : Md} {hid : List Addr} {H H' : Hp} {ds : List D} {v : V} (hm : m ≠ .au) (r : Rm K m hid H H' (.tuple ds) v) : ∃ a xs, v = .ref a ∧ SqT K (hide hid H') a xs ∧ MnA K (hide hid H') ds xs := by
  cases m with
  | au => exact (hm rfl).elim
  | bo => exact bo_tup r
  | fz =>
    have r : Mn K (hide hid H') (.tuple ds) v := r
    simpa only [Mn] using r
theorem rb_ex {m : Md} {hid : List Addr} {H : Hp} (hm : m ≠ .au) : Wx (Rb m hid H) H := by
  cases m with
  | au => exact (hm rfl).elim
  | bo => exact hide_ex
  | fz => exact hide_ex
/-- a new pair -/
theorem pair_new {hid : List Addr} {H : Hp} {T : Addr} {d e : D} {x y : V} (dom : ∀ a ∈ hid, noT (H a) ≠ none) (hT : H T = none) (hx : Mn K (hide hid H) d x) (hy : Mn K (hide hid H) e y) : Ex H (upd H T (.tup [x, y])) ∧ Mn K (hide hid (upd H T (.tup [x, y]))) (.tuple [d, e]) (.ref T) := by
  refine ⟨Ex.new hT, ?_⟩
  have m : MnA K (hide hid H) [d, e] [x, y] := by
    simp only [MnA]
    exact ⟨x, _, rfl, hx, y, [], rfl, hy, rfl⟩
  exact au_tup (m := .fz) dom hT m
def pairs (ds es : List D) : List D := (ds.zip es).map fun p => .tuple [p.1, p.2]
theorem pairs_get {ds es : List D} {i : Nat} {d : D} (h : (pairs ds es)[i]? = some d) : ∃ x y, ds[i]? = some x ∧ es[i]? = some y ∧ d = .tuple [x, y] := by
  unfold pairs at h
  rw [List.getElem?_map] at h
  cases q : (ds.zip es)[i]? with
  | none => rw [q] at h; cases h
  | some p =>
    rw [q] at h
    cases h
    rw [List.getElem?_zip_eq_some] at q
    exact ⟨p.1, p.2, q.1, q.2, rfl⟩
theorem walk_zipL {B C : Hp} {a b : Addr} {xs ys : List V} {ds es : List D} (h1 : B a = some (.lst xs)) (h2 : B b = some (.lst ys)) (m1 : MnA K C ds xs) (m2 : MnA K C es ys) : Walks K (Itz K a b) B C (pairs ds es) where
  at_ := fun hid H eB eC dom i d hd => by
    obtain ⟨d1, d2, g1, g2, rfl⟩ := pairs_get hd
    obtain ⟨x, hx, mx⟩ := m1.get g1
    obtain ⟨y, hy, my⟩ := m2.get g2
    have s1 : SqL K H a xs := SqL.of (eB _ _ h1)
    have s2 : SqL K H b ys := SqL.of (eB _ _ h2)
    refine ⟨⟨xs, ys, x, y, s1, s2, hx, hy⟩, fun v H' ⟨T, x', y', ev, hT, eH, f1, f2⟩ => ?_⟩
    subst ev
    subst eH
    have e1 := f1 xs s1
    rw [hx] at e1
    cases e1
    have e2 := f2 ys s2
    rw [hy] at e2
    cases e2
    exact pair_new dom hT (Mn.mono eC _ _ mx) (Mn.mono eC _ _ my)
  end_ := fun hid H eB eC _ => ⟨xs, ys, SqL.of (eB _ _ h1), SqL.of (eB _ _ h2), by
    unfold pairs
    rw [List.length_map, List.length_zip, m1.length, m2.length]
    omega⟩
theorem walk_zipT {B C : Hp} {a b : Addr} {xs ys : List V} {ds es : List D} (h1 : SqT K C a xs) (h2 : SqT K C b ys) (m1 : MnA K C ds xs) (m2 : MnA K C es ys) : Walks K (RZ.ItzT K a b) B C (pairs ds es) where
  at_ := fun hid H eB eC dom i d hd => by
    obtain ⟨d1, d2, g1, g2, rfl⟩ := pairs_get hd
    obtain ⟨x, hx, mx⟩ := m1.get g1
    obtain ⟨y, hy, my⟩ := m2.get g2
    have s1 : SqT K H a xs := Evl.ex_t (eC.trans hide_ex) h1
    have s2 : SqT K H b ys := Evl.ex_t (eC.trans hide_ex) h2
    refine ⟨⟨xs, ys, x, y, s1, s2, hx, hy⟩, fun v H' ⟨T, x', y', ev, hT, eH, f1, f2⟩ => ?_⟩
    subst ev
    subst eH
    have e1 := f1 xs s1
    rw [hx] at e1
    cases e1
    have e2 := f2 ys s2
    rw [hy] at e2
    cases e2
    exact pair_new dom hT (Mn.mono eC _ _ mx) (Mn.mono eC _ _ my)
  end_ := fun hid H eB eC _ => ⟨xs, ys, Evl.ex_t (eC.trans hide_ex) h1, Evl.ex_t (eC.trans hide_ex) h2, by
    unfold pairs
    rw [List.length_map, List.length_zip, m1.length, m2.length]
    omega⟩
def iZip (g : GA) : GA := fun ρ => (g ρ).bind fun vs => match vs with
  | [.list ds, .list es] => .ok (pairs ds es)
  | [.tuple ds, .tuple es] => .ok (pairs ds es)
  | _ => .stuck
theorem rma_two {m : Md} {hid : List Addr} {H H' : Hp} {d e : D} {vs : List V} (h : RmA K m hid H H' [d, e] vs) : ∃ v u, vs = [v, u] ∧ Rm K m hid H H' d v ∧ Rm K m hid H H' e u := rma2 h
theorem di_zip {m : Md} {a b : Expr} {elts : List Expr} {kk : Nat} {tpos : Pos} {g : GA} {p pos : Pos} (hmg : F.mg "zip" = none) (h : DA F m [a, b] g) (hm : m ≠ .au := by decide) (hg : F.sn.lookup ("zip" : Str) = some .globalImplicit := by rfl)
    (hs : ∀ env, starEach [a, b] env = (false, eval a env) :: starEach [b] env := by intro _; rfl) (hpl : ∀ env, (backTo pos (starEach [b] env)).any (·.1) = false := by intro _; rfl) : DI F m (.Tuple elts kk tpos) (.Call (.Name "zip" p) [a, b] [] pos) (iZip g) := by
  obtain ⟨ta, pa, sa⟩ := h
  refine ⟨RZ.iZipA F.K ta, fun i => ?_, fun H0 hid0 s ρ S R q => sa H0 hid0 s ρ S _ ?_⟩
  · have z := RZ.pi_zipA (tpos := tpos) (elts := elts) (kk := kk) (p := p) (gl_of hg i) (by rw [F.hmg]; exact hmg) (pa i) (hs _) (hpl _)
    rw [F.hK i] at z
    exact z
  · unfold iZip at q
    cases hd : g ρ with
    | stuck => rw [hd] at q; exact q.elim
    | err c => rw [hd, bind_err] at q; exact q
    | ok vs =>
      rw [hd, bind_ok] at q
      dsimp only
      intro ws H' e r
      split at q
      · rename_i z
        split at z
        · cases z
          obtain ⟨v, u, rfl, r1, r2⟩ := rma_two r
          obtain ⟨a1, xs, rfl, b1, c1⟩ := rb_list hm r1
          obtain ⟨a2, ys, rfl, b2, c2⟩ := rb_list hm r2
          exact ⟨a1, a2, xs, ys, rfl, .inl ⟨SqL.of (rb_ex hm _ _ b1), SqL.of (rb_ex hm _ _ b2), q _ _ e (walk_zipL b1 b2 c1 c2)⟩⟩
        · cases z
          obtain ⟨v, u, rfl, r1, r2⟩ := rma_two r
          obtain ⟨a1, xs, rfl, b1, c1⟩ := rb_tup hm r1
          obtain ⟨a2, ys, rfl, b2, c2⟩ := rb_tup hm r2
          exact ⟨a1, a2, xs, ys, rfl, .inr ⟨Evl.ex_t hide_ex b1, Evl.ex_t hide_ex b2, q _ _ e (walk_zipT b1 b2 c1 c2)⟩⟩
        · cases z
      · rename_i z
        split at z <;> cases z
      · exact q.elim
def numbered (ds : List D) : List D := pairs ((List.range ds.length).map fun i => .int (i : Nat)) ds
theorem num_get {ds : List D} {i : Nat} {d : D} (h : (numbered ds)[i]? = some d) : ∃ y, ds[i]? = some y ∧ d = .tuple [.int (i : Nat), y] := by
  obtain ⟨x, y, h1, h2, rfl⟩ := pairs_get h
  rw [List.getElem?_map] at h1
  have hi := (List.getElem?_eq_some_iff.mp h2).1
  rw [List.getElem?_range hi] at h1
  cases h1
  exact ⟨y, h2, rfl⟩
theorem walk_enumL {B C : Hp} {a : Addr} {xs : List V} {ds : List D} (h1 : B a = some (.lst xs)) (m1 : MnA K C ds xs) : Walks K (Ite K a) B C (numbered ds) where
  at_ := fun hid H eB eC dom i d hd => by
    obtain ⟨d1, g1, rfl⟩ := num_get hd
    obtain ⟨x, hx, mx⟩ := m1.get g1
    have s1 : SqL K H a xs := SqL.of (eB _ _ h1)
    refine ⟨⟨xs, x, s1, hx⟩, fun v H' ⟨T, x', ev, hT, eH, f1⟩ => ?_⟩
    subst ev
    subst eH
    have e1 := f1 xs s1
    rw [hx] at e1
    cases e1
    exact pair_new dom hT (by simp [Mn]) (Mn.mono eC _ _ mx)
  end_ := fun hid H eB eC _ => ⟨xs, SqL.of (eB _ _ h1), by
    unfold numbered pairs
    rw [List.length_map, List.length_zip, List.length_map, List.length_range, m1.length]
    omega⟩
end
end DL
set_option Elab.async false
set_option linter.all false
set_option maxRecDepth 100000
set_option maxHeartbeats 4000000
namespace DL
open PySem PySem.Spec PyProof.Rows L2
/-! ### enumerate of a tuple -/
theorem meets_enumT (l : Addr) (items : Array Value) (n : Nat) (dct : Option Addr) (sl : Array (Option Value)) :
    Meets (Builtin.«enumerate.__new__» ⟨[.type "enumerate", .ref l], []⟩) (fun _ R s => s.heap.get? l = some { cls := .type "tuple", dict := dct, data := .seq items n, slots := sl } ∧
      R (.ok (.ret (.ref (s.heap.push { cls := .type "tuple_iterator", data := .fields #[.ref l, .int 0 0] }).objs.size)))
        { s with heap := (s.heap.push { cls := .type "tuple_iterator", data := .fields #[.ref l, .int 0 0] }).push { cls := .type "enumerate", data := .fields #[.none, .bool false, .ref s.heap.objs.size, rawInt 0, .none, .none] } }) :=
  .of_wp fun prog w A R s h => by
    obtain ⟨hp, g, d, tk, os⟩ := s
    obtain ⟨hl, h⟩ := h
    have hsub := sub_enumerate
    have hL : Heap.IsTuple (Shared.heap ⟨hp, g, d, tk, os⟩) l items := ⟨_, hl, rfl, n, rfl⟩
    wp_walk using AutoSeq1.wpAny_loadPart' hl
    refine wpAny_stack_any fun st => wpAny_pure ?_
    split
    · rename_i c _ _ _ _ _
      cases (c == Value.type "enumerate")
      · wp_walk using AutoSeq1.wpAny_loadPart' hl, wpAny_pyIter_tuple hL
        exact ⟨_, rfl, h⟩
      · wp_walk using AutoSeq1.wpAny_loadPart' hl, wpAny_pyIter_tuple hL
        exact ⟨_, rfl, h⟩
    · wp_walk using AutoSeq1.wpAny_loadPart' hl, wpAny_pyIter_tuple hL
      exact ⟨_, rfl, h⟩
section
variable {prog : Program} {w : World} {A : Around} {E : Value → Shared → Prop} {s : Shared}
theorem call_enumT {l : Addr} {items : Array Value} {Q : Value → Shared → Prop} (hL : s.heap.IsTuple l items)
    (h : ∀ h', IsEnum h' (s.heap.objs.size + 1) s.heap.objs.size 0 .none → h'.IsTupleIter s.heap.objs.size l 0 → h'.objs.size = s.heap.objs.size + 2 →
      (∀ b o, s.heap.get? b = some o → h'.get? b = some o) → Q (.ref (s.heap.objs.size + 1)) { s with heap := h' }) :
    wpAny (model prog w) A (call (.type "enumerate") [.ref l]) Q E s := by
  obtain ⟨⟨c, dct, dt, sl⟩, hl, hc, n, hd⟩ := hL
  replace hc : c = .type "tuple" := hc
  replace hd : dt = .seq items n := hd
  subst hc hd
  refine callType_new PySem.F.called_enumerate (by decide) (PySem.F.typeCall_enumerate_1 _) (PySem.F.newCall_enumerate_1 _) (fun obj => PySem.F.args_object_init_2 obj _) PySem.F.entry_enumerate_new (meets_enumT l items n dct sl) ⟨hl, ?_⟩
  have hz : (s.heap.push { cls := .type "tuple_iterator", data := .fields #[.ref l, .int 0 0] }).objs.size = s.heap.objs.size + 1 := Heap.size_push ..
  show _ ∧ _
  rw [hz]
  have he : IsEnum ((s.heap.push { cls := .type "tuple_iterator", data := .fields #[.ref l, .int 0 0] }).push { cls := .type "enumerate", data := .fields #[.none, .bool false, .ref s.heap.objs.size, rawInt 0, .none, .none] }) (s.heap.objs.size + 1) s.heap.objs.size 0 .none := by
    have := Heap.get?_push_size (s.heap.push { cls := .type "tuple_iterator", data := .fields #[.ref l, .int 0 0] }) (o := { cls := .type "enumerate", data := .fields #[.none, .bool false, .ref s.heap.objs.size, rawInt 0, .none, .none] }) rfl
    rw [hz] at this
    exact this
  exact ⟨⟨_, he, rfl⟩, h _ he ⟨_, Heap.get?_push_of_some _ (Heap.get?_push_size _ rfl), rfl, rfl⟩ (by rw [Heap.size_push, hz]) fun b o x => Heap.get?_push_of_some _ (Heap.get?_push_of_some _ x)⟩
end
def IteT (K : PySem.W.Frag) (a : Addr) : It :=
  ⟨fun i H => ∃ (xs : List V) (x : V), SqT K H a xs ∧ xs[i]? = some x, fun i H v H' => ∃ T x, v = .ref T ∧ H T = none ∧ H' = upd H T (.tup [.int (i : Nat), x]) ∧ ∀ xs, SqT K H a xs → xs[i]? = some x, fun i H => ∃ xs : List V, SqT K H a xs ∧ xs.length ≤ i⟩
theorem turn_enumT {P : Program} {w : World} {K : PySem.W.Frag} {elts : List Expr} {kk : Nat} {tpos : Pos} (a e it : Addr) :
    Turn P w K (.Tuple elts kk tpos) (IteT K a) [e, it] e (fun i h => (∃ old, IsEnum h e it ((i : Nat) : Int) old) ∧ h.IsTupleIter it a i ∧ e ≠ it) where
  mem := by simp
  obj := fun i h st b hb => by
    obtain ⟨⟨old, he⟩, ⟨o, ho, hc, hd⟩, _⟩ := st
    have e' : b = e ∨ b = it := by simpa using hb
    rcases e' with z | z
    · rw [z]; exact ⟨_, he, fun v q => nomatch q⟩
    · rw [z]; exact ⟨o, ho, fun v q => by rw [hd] at q; cases q⟩
  keep := fun i h h' st k => let ⟨⟨old, he⟩, hi, hne⟩ := st; ⟨⟨old, k e (by simp) _ he⟩, hi.at fun o q => k it (by simp) o q, hne⟩
  item := by
    intro X hP hw hK hc i pins s σ H E I hf st hg
    subst hP hw hK
    obtain ⟨⟨old, he⟩, hit, hne⟩ := st
    obtain ⟨xs, x, hq, hx⟩ := hg
    obtain ⟨its, rv, p, hz⟩ := I.tuple hq
    obtain ⟨u, hu, ru⟩ := rv.get hx
    have hel : e < s.heap.objs.size := Heap.lt_size he
    have hil : it < s.heap.objs.size := by obtain ⟨_, q, _⟩ := hit; exact Heap.lt_size q
    have pT : s.heap.IsTuple a its.toArray := p
    obtain ⟨oa, hoa, hca, na, hda⟩ := id pT
    have hat : a ≠ it := fun z => by
      obtain ⟨o, ho, hc', _⟩ := hit
      rw [← z, hoa] at ho
      cases ho
      rw [hca] at hc'
      exact absurd hc' (by decide)
    have hea : e ∉ [it, a] := fun z => by
      rcases List.mem_cons.mp z with z | z
      · exact hne z
      · have z : e = a := by simpa using z
        have he2 : s.heap.get? e = some { cls := .type "enumerate", dict := none, data := .fields #[.none, .bool false, .ref it, rawInt ((i : Nat) : Int), .none, old], slots := #[] } := he
        rw [z, hoa] at he2
        have he' := Option.some.inj he2
        rw [he'] at hca
        exact absurd (show Value.type "enumerate" = Value.type "tuple" from hca) (by decide)
    have hlt : i < its.toArray.size := by
      have := (List.getElem?_eq_some_iff.mp hu).1
      simpa using this
    refine wpAny_pyNext_enum_itemD (Draws.tuple (A := X.A.in1) (I.ok.hd hc) it a hat its.toArray) he ⟨hit, pT⟩ hlt hne hea fun u' h' tk hP ho st' hT hsz hk => ?_
    have hu' : its.toArray[i]? = some u := by simpa using hu
    have eu : u' = u := by
      have hP' : its.toArray[i]? = some u' := hP
      rw [hu'] at hP'
      exact (Option.some.inj hP').symm
    subst eu
    refine ⟨_, rfl, wpAny_letOwnedTupleGo_enum (s := { s with heap := h', toks := tk + 1 }) ho fun h'' he' sb => ?_⟩
    have hT2 : h''.get? s.heap.objs.size = some { cls := .type "tuple", data := .seq #[.int i tk, u'] } := (sb.2 _ (Nat.ne_of_gt hel)).trans hT
    have new : ObjOk X.prog X.w (upd H s.heap.objs.size (.tup [.int (i : Nat), x])) h'' s.heap.objs.size (.tup [.int (i : Nat), x]) :=
      ⟨by show 2 ≤ sizeLine; decide, [.int i tk, u'], .cons ⟨_, rfl⟩ (.cons ru .nil), ⟨_, hT2, rfl, _, rfl⟩⟩
    have I1 : Inv X pins σ (upd H s.heap.objs.size (.tup [.int (i : Nat), x])) { s with heap := h'', toks := tk + 1 } :=
      I.turnedNew (ch := [e, it]) (fun b ob hb q => (sb.2 b (fun z => hb (by simp [z]))).trans (hk b ob (fun z => hb (by simp [z])) (fun z => hb (by simp [z])) q)) hf (Nat.le_refl _) new
    refine ⟨.ref s.heap.objs.size, _, I1, rfl, ⟨_, x, rfl, I.hok.fresh (Nat.le_refl _), rfl, fun ys hy => by rw [I.tuple_inj hy hq]; exact hx⟩, ⟨⟨u', ?_⟩, st'.1.at fun o q => (sb.2 it (Ne.symm hne)).trans q, hne⟩, fun b hb => ?_⟩
    · have e1 : ((i + 1 : Nat) : Int) = (i : Int) + 1 := by omega
      rw [e1]; exact he'
    · have hb' : b < s.heap.objs.size := by
        have e' : b = e ∨ b = it := by simpa using hb
        rcases e' with z | z
        · rw [z]; exact hel
        · rw [z]; exact hil
      rw [upd_ne (Nat.ne_of_lt hb')]
      exact (hf b hb).1
  done := by
    intro X hP hw hK hc i pins s σ H E I hf st hg
    subst hP hw hK
    obtain ⟨⟨old, he⟩, hit, hne⟩ := st
    obtain ⟨xs, hq, hx⟩ := hg
    obtain ⟨its, rv, p, hz⟩ := I.tuple hq
    have pT : s.heap.IsTuple a its.toArray := p
    obtain ⟨f0, f1, f2, f3, f4, f5⟩ := hf it (by simp)
    have hl := rv.length
    have hT : s.TypeIs (.ref e) "enumerate" := ⟨_, he, rfl⟩
    unfold pyNext
    refine wpAny_bind (wpAny_attempt (wpAny_callSpecial?_slot (name := Str.ofString "__next__") hT PySem.F.slot_enumerate_next
      (wpAny_call_entry PySem.F.slot_enumerate_next hT PySem.F.entry_enumerate_next ?_ (PySem.F.args_enumerate_next_1 _))))
    show wpAny _ _ (field (.ref e) 2 >>= _) _ _ _
    refine wpAny_bind (wpAny_field he rfl (x := .ref it) rfl ?_)
    refine wpAny_bind (wpAny_nextOf_tuple_end (I.ok.hd hc) hit pT (by simp; omega) fun h' x he' hx' => ?_)
    obtain ⟨o, ho, hc'⟩ := hx'
    refine wpAny_bind (wpAny_isInstance (T := "StopIteration") (b := true) ⟨o, ho, hc'⟩ isSubtype_stop ?_)
    exact wpAny_pure ⟨rfl, I.turned (t' := s.toks) (fun b o hb q => he' b o hb q) f0 f1 f3 f4 f5⟩
  self := fun A i s Q E st h => let ⟨⟨_, he⟩, _⟩ := st; wpAny_pyIter_enum he h
def iEnumT (K : PySem.W.Frag) (ta : TA) : TI := fun σ H R => ta σ H fun vs H1 => ∃ a xs, vs = [.ref a] ∧ SqT K H1 a xs ∧ R (IteT K a) H1
theorem pi_enumT {X : Cx} {e : Expr} {ta : TA} {p pos tpos : Pos} {elts : List Expr} {kk : Nat} (hg : Gl X "enumerate") (hm : X.mg "enumerate" = none) (ha : PA X [e] ta) (hs : starEach [e] X.env = [(false, eval e X.env)] := by rfl) :
    PI X (.Tuple elts kk tpos) (.Call (.Name "enumerate" p) [e] [] pos) (iEnumT X.K ta) := by
  refine ⟨fun pins s σ H R I h => ?_⟩
  refine Call_ (ld_blt I hg hm PyProof.Rows.boot_enumerate (PyProof.Rows.callWith_type1 (thn (ha.run pos pins s σ H _ I h) fun us s1 ⟨vs, H1, I1, r1, q1⟩ => ?_) hs rfl))
  obtain ⟨a, xs, ex, hq, q⟩ := q1
  subst ex
  cases r1 with
  | cons r rr =>
    cases rr
    cases r
    obtain ⟨its, rv, p', hz⟩ := I1.tuple hq
    refine call_enumT (show s1.heap.IsTuple a its.toArray from p') fun h' he hit hsz hk => wpAny_pyIter_enum he ?_
    have I2 : Inv X pins σ H1 { s1 with heap := h' } := I1.kept (t' := s1.toks) hk
    refine ⟨s1.heap.objs.size + 1, [s1.heap.objs.size + 1, s1.heap.objs.size], _, _, H1, rfl, I2, turn_enumT a (s1.heap.objs.size + 1) s1.heap.objs.size, ⟨⟨.none, he⟩, hit, Nat.succ_ne_self _⟩, fun b hb => ?_, q⟩
    have e' : b = s1.heap.objs.size + 1 ∨ b = s1.heap.objs.size := by simpa using hb
    have hle : s1.heap.objs.size ≤ b := by
      rcases e' with z | z
      · rw [z]; exact Nat.le_add_right _ _
      · rw [z]; exact Nat.le_refl _
    exact I1.fpOk hle (I1.hok.fresh hle)
variable [TabsC]
section
variable {F : Fam} {K : PySem.W.Frag}
theorem walk_enumT {B C : Hp} {a : Addr} {xs : List V} {ds : List D} (h1 : SqT K C a xs) (m1 : MnA K C ds xs) : Walks K (IteT K a) B C (numbered ds) where
  at_ := fun hid H eB eC dom i d hd => by
    obtain ⟨d1, g1, rfl⟩ := num_get hd
    obtain ⟨x, hx, mx⟩ := m1.get g1
    have s1 : SqT K H a xs := Evl.ex_t (eC.trans hide_ex) h1
    refine ⟨⟨xs, x, s1, hx⟩, fun v H' ⟨T, x', ev, hT, eH, f1⟩ => ?_⟩
    subst ev
    subst eH
    have e1 := f1 xs s1
    rw [hx] at e1
    cases e1
    exact pair_new dom hT (by simp [Mn]) (Mn.mono eC _ _ mx)
  end_ := fun hid H eB eC _ => ⟨xs, Evl.ex_t (eC.trans hide_ex) h1, by
    unfold numbered pairs
    rw [List.length_map, List.length_zip, List.length_map, List.length_range, m1.length]
    omega⟩
def iEnum1 (g : GE) : GA := fun ρ => (g ρ).bind fun d => match d with
  | .list ds => .ok (numbered ds)
  | .tuple ds => .ok (numbered ds)
  | _ => .stuck
theorem di_enum {m : Md} {e : Expr} {elts : List Expr} {kk : Nat} {tpos : Pos} {g : GE} {p pos : Pos} (hmg : F.mg "enumerate" = none) (h : DE F m e g) (hm : m ≠ .au := by decide) (hg : F.sn.lookup ("enumerate" : Str) = some .globalImplicit := by rfl) (hs : ∀ env, starEach [e] env = [(false, eval e env)] := by intro _; rfl) :
    DI F m (.Tuple elts kk tpos) (.Call (.Name "enumerate" p) [e] [] pos) (iEnum1 g) := by
  obtain ⟨te, pe, se⟩ := h
  refine ⟨fun σ H R => iEnum F.K (tCons te tNil) σ H R ∨ iEnumT F.K (tCons te tNil) σ H R, fun i => ?_, fun H0 hid0 s ρ S R q => ?_⟩
  · have z := L2.pi_enum (tpos := tpos) (elts := elts) (kk := kk) (p := p) (pos := pos) (gl_of hg i) (by rw [F.hmg]; exact hmg) (pa_cons (pe i) pa_nil (hs _)) (hs _)
    have z2 := pi_enumT (tpos := tpos) (elts := elts) (kk := kk) (p := p) (pos := pos) (gl_of hg i) (by rw [F.hmg]; exact hmg) (pa_cons (pe i) pa_nil (hs _)) (hs _)
    rw [F.hK i] at z z2
    exact pi_alt z z2
  · unfold iEnum1 at q
    cases hd : g ρ with
    | stuck => rw [hd] at q; exact q.elim
    | err c =>
      rw [hd, bind_err] at q
      refine .inl (se H0 hid0 s ρ S _ ?_)
      rw [hd]
      exact q
    | ok d =>
      rw [hd, bind_ok] at q
      cases d with
      | list ds =>
        refine .inl (se H0 hid0 s ρ S _ ?_)
        rw [hd]
        intro v H' e r
        obtain ⟨a, xs, rfl, b1, c1⟩ := rb_list hm r
        exact ⟨a, xs, rfl, SqL.of (rb_ex hm _ _ b1), q _ _ e (walk_enumL b1 c1)⟩
      | tuple ds =>
        refine .inr (se H0 hid0 s ρ S _ ?_)
        rw [hd]
        intro v H' e r
        obtain ⟨a, xs, rfl, b1, c1⟩ := rb_tup hm r
        exact ⟨a, xs, rfl, Evl.ex_t hide_ex b1, q _ _ e (walk_enumT b1 c1)⟩
      | none => exact q.elim
      | bool _ => exact q.elim
      | int _ => exact q.elim
      | str _ => exact q.elim
      | dict _ => exact q.elim
end
end DL
set_option Elab.async false
set_option linter.all false
set_option maxRecDepth 100000
set_option maxHeartbeats 4000000
namespace DL
open PySem PySem.Spec PyProof.Rows L2
variable [TabsC]
section
variable {F : Fam} {K : PySem.W.Frag}
abbrev dSub : D → D → Option D := dI fun i j => .int (i - j)
abbrev dDiv : D → D → Option D := dIc cDiv fun i j => .int (i / j)
abbrev dMod : D → D → Option D := dIc cPos fun i j => .int (i % j)
/-! ### constants of the module -/
theorem de_gstr {m : Md} {x s : Str} {pos : Pos} (h : ∃ t, F.mg x = some (.str s t)) (hg : F.sn.lookup x = some .globalImplicit := by rfl) (hd : (x == ("__debug__" : Str)) = false := by decide) : DE F m (.Name x pos) (eC (.str s)) := by
  obtain ⟨t, h⟩ := h
  exact de_glob (v := .str s) h ⟨t, rfl⟩ rfl (fun _ => by simp [Mn]) hg hd
theorem de_gint {m : Md} {x : Str} {i : Int} {pos : Pos} (h : ∃ t, F.mg x = some (.int i t)) (hg : F.sn.lookup x = some .globalImplicit := by rfl) (hd : (x == ("__debug__" : Str)) = false := by decide) : DE F m (.Name x pos) (eC (.int i)) := by
  obtain ⟨t, h⟩ := h
  exact de_glob (v := .int i) h ⟨t, rfl⟩ rfl (fun _ => by simp [Mn]) hg hd
def GTup (K : PySem.W.Frag) (mg : Str → Option Value) (x : Str) (ss : List Str) : Prop := ∃ (a : Addr) (o : Obj) (its : Array Value) (n : Nat), mg x = some (.ref a) ∧ K.lookup a = some o ∧ o.cls = .type "tuple" ∧ o.data = .seq its n ∧ its.size ≤ sizeLine ∧ Vals (ss.map V.str) its.toList
theorem de_gtup {m : Md} {x : Str} {ss : List Str} {pos : Pos} (h : GTup F.K F.mg x ss) (hg : F.sn.lookup x = some .globalImplicit := by rfl) (hd : (x == ("__debug__" : Str)) = false := by decide) : DE F m (.Name x pos) (eC (.tuple (ss.map .str))) := by
  obtain ⟨a, o, its, n, h1, h2, h3, h4, h5, h6⟩ := h
  refine de_glob (v := .ref a) h1 rfl rfl (fun H => ?_) hg hd
  simp only [Mn]
  exact ⟨a, ss.map V.str, rfl, .inr ⟨o, its, n, h2, h3, h4, h5, h6⟩, MnA.of_strs⟩
/-! ### * -/
theorem MnA.rep {H : Hp} {ds : List D} {xs : List V} (h : MnA K H ds xs) : ∀ n : Nat, MnA K H (List.replicate n ds).flatten (List.replicate n xs).flatten
  | 0 => by simp [MnA]
  | n + 1 => by
    rw [List.replicate_succ, List.replicate_succ, List.flatten_cons, List.flatten_cons]
    exact h.append (MnA.rep h n)
def dRep : D → D → Option D
  | .list xs, .int k => if xs.length * k.toNat ≤ 1000000 ∧ -1000000 ≤ k ∧ k ≤ 1000000 then some (.list (List.replicate k.toNat xs).flatten) else none
  | _, _ => none
theorem ops_rep : OpS K .au rRep dRep := fun hid H d e z x y Q dom rx ry hf q => by
  cases d <;> simp only [dRep] at hf <;> try cases hf
  cases e <;> simp only [dRep] at hf <;> try cases hf
  split at hf
  · rename_i hc
    cases hf
    obtain ⟨a, xs, rfl, h1, h2⟩ := bo_list rx
    refine ⟨a, _, xs, rfl, bo_int ry, h1, by omega, by omega, by rw [h2.length]; exact small_line hc.1, fun p hp => q _ _ (Ex.new hp) (au_list hp (h2.rep _))⟩
  · cases hf
def dMul : D → D → Option D := fun x y => (dIc cMul (fun i j => .int (i * j)) x y).or (dRep x y)
theorem de_mul {ma mb : Md} {a b : Expr} {ga gb : GE} {pos : Pos} (ha : DE F ma a ga) (hb : DE F mb b gb) : DE F .au (.BinOp a .Mult b pos) (e2 dMul ga gb) :=
  de_op (r := fun x y H Q => (rI CMul fun i j => .int (i * j)) x y H Q ∨ rRep x y H Q) (fun i => op_mul.or op_rep) ((ops_rI cMul_ok fun _ _ _ _ _ => rm_int).or1 ops_rep) ha hb
end
end DL
set_option Elab.async false
set_option linter.all false
set_option maxRecDepth 100000
set_option maxHeartbeats 4000000
namespace DL
open PySem PySem.Spec PyProof.Rows L2
/-! ### defs that the head tells of -/
section
variable {K : PySem.W.Frag} {x q : Str} {st : Stmt} {f : Addr} {fd : FuncData}
theorem fun_of (F : FunD K x q (defArgs st) (defBody st) (defScope st) [] [] f fd) : L2.Fun K x q st f fd := by
  obtain ⟨oc, od, dV, kV, doc, pm, an, cdv, ct, osl, e, lk, hcd, hD, hK⟩ := F.ex
  rcases hD with ⟨_, z⟩ | ⟨e', _⟩
  · subst z
    exact ⟨⟨oc, od, kV, doc, pm, an, cdv, ct, osl, e, lk, hcd⟩, F.kp⟩
  · exact absurd rfl e'
/-- .. with its code object -/
theorem okXC {P : Program} {w : World} {mg : Str → Option Value} {base : Heap} {N ps : List Str} {k : Nat} {sp : Sp} (F : L2.Fun K x q st f fd) (S : FnScope N ps (defScope st)) (len : ∀ vs H Q E, sp vs H Q E → vs.length = ps.length)
    (hbody : ∀ (cdv : Value), fd.code = cdv → ∀ (A : Around) (outer : List PySem.Env) (s : Shared) (H : Hp) (vs : List V) (Q : VK) (E : XK), Room k (A.deeper (envOfC q (defScope st) s.heap.objs.size f cdv)) → sp vs H Q E →
      ∃ t, PSs (cxOf (L2N.CX P w) P w K mg base N q (defScope st) f cdv A outer s H E) (defBody st) t ∧ t { nx := fun _ H' => Q .non H', rt := Q } (L2.start N vs) H) : FnOk P w K mg base (L2N.CX P w) (k + 1) f fd ps sp := by
  obtain ⟨oc, od, kV, doc, pm, an, cdv, ct, osl, rfl, lk, hcd⟩ := F.ex
  exact fn_of lk hcd S len fun A outer s H vs Q E hr hsp => hbody cdv rfl A outer s H vs Q E hr hsp
end
/-! ### the module's constant tuples; the errors -/
def strsB : List Value → List Str → Bool
  | [], [] => true
  | .str x _ :: vs, y :: ys => decide (x = y) && strsB vs ys
  | _, _ => false
theorem strsB_ok : ∀ {vs : List Value} {ss : List Str}, strsB vs ss = true → Vals (ss.map V.str) vs
  | [], [], _ => .nil
  | [], _ :: _, h => by cases h
  | v :: vs, [], h => by cases v <;> cases h
  | v :: vs, y :: ys, h => by
    cases v with
    | str x t =>
      obtain ⟨h1, h2⟩ := Bool.and_eq_true_iff.mp (show (decide (x = y) && strsB vs ys) = true from h)
      have e := of_decide_eq_true h1
      subst e
      exact .cons ⟨t, rfl⟩ (strsB_ok h2)
    | _ => cases h
def gtupB (K : PySem.W.Frag) (x : Str) (ss : List Str) : Bool := match PySem.W.nsIn K mainGlobals x with
  | some (some (.ref a)) => (match K.lookup a with
    | some ⟨.type c, _, .seq its _, _⟩ => decide (c = "tuple") && (decide (its.size ≤ 1000000) && strsB its.toList ss)
    | _ => false)
  | _ => false
theorem gtup_ok {K : PySem.W.Frag} {h : Heap} {mg : Str → Option Value} {x : Str} {ss : List Str} (X : K.In h) (G : h.Ns mainGlobals mg) (c : gtupB K x ss = true) : GTup K mg x ss := by
  unfold gtupB at c
  split at c
  · rename_i a e
    split at c
    · rename_i cl od its n sl lk
      obtain ⟨h1, h2⟩ := Bool.and_eq_true_iff.mp c
      obtain ⟨h3, h4⟩ := Bool.and_eq_true_iff.mp h2
      have e1 := of_decide_eq_true h1
      subst e1
      exact ⟨a, _, its, n, PySem.W.mg_of X G e, lk, rfl, rfl, Nat.le_trans (of_decide_eq_true h3) (by decide), strsB_ok h4⟩
    · cases c
  · cases c
/-- the errors by number -/
def enm : Nat → Str
  | 0 => "NoText"
  | 1 => "NoRow"
  | 2 => "Unlike"
  | _ => "HeapError"
def eAd (K : PySem.W.Frag) (c : Nat) : Addr := He.ga K (enm c)
structure Ecls (K : PySem.W.Frag) (mg : Str → Option Value) : Prop where
  g : ∀ c, c < 4 → mg (enm c) = some (.ref (eAd K c))
  ec : ∀ c, c < 3 → ExcC K (eAd K c)
  kit : ∀ c j, c < 3 → j < 3 → PySem.W.kitOne K (.ref (eAd K c)) (.ref (eAd K j)) = some (decide (c = j))
  kitV : ∀ c, c < 3 → PySem.W.kitOne K (.ref (eAd K c)) (.type "ValueError") = some true
  exm : ∀ c, c < 3 → PySem.W.exmOne K (.ref (eAd K c)) (.ref (eAd K 3)) = some true
def ecB (K : PySem.W.Frag) (D : Addr) : Bool :=
  decide (PySem.W.findIn K (.ref D) "__getattribute__" = some (some (.builtin "BaseException.__getattribute__"))) && (decide (PySem.W.findIn K (.ref D) "__getattr__" = some none) && (decide (PySem.W.subIn K (.ref D) (.type "BaseException") = some true) && (PySem.W.hasDictIn K D &&
    (decide (PySem.W.findIn K (.ref D) "__class__" = some (some (.builtin "object.__class__"))) && (decide (PySem.W.specialIn K (.builtin "object.__class__") "__get__" = some (some (.builtin "getset_descriptor.__get__"))) && (decide (PySem.W.takesIn K (.builtin "object.__class__") = some true) && decide (PySem.W.mroIn K D (.type "object") = some true)))))))
theorem ecB_ok {K : PySem.W.Frag} {D : Addr} (h : ecB K D = true) : ExcC K D := by
  unfold ecB at h
  simp only [Bool.and_eq_true, decide_eq_true_eq] at h
  obtain ⟨h1, h2, h3, h4, h5, h6, h7, h8⟩ := h
  exact ⟨h1, h2, h3, h4, h5, h6, h7, h8⟩
def eclsB (K : PySem.W.Frag) : Bool := ((List.range 4).all fun c => decide (PySem.W.nsIn K mainGlobals (enm c) = some (some (.ref (eAd K c))))) && ((List.range 3).all fun c => ecB K (eAd K c) && (((List.range 3).all fun j => decide (PySem.W.kitOne K (.ref (eAd K c)) (.ref (eAd K j)) = some (decide (c = j)))) &&
  (decide (PySem.W.kitOne K (.ref (eAd K c)) (.type "ValueError") = some true) && decide (PySem.W.exmOne K (.ref (eAd K c)) (.ref (eAd K 3)) = some true))))
theorem ecls_ok {K : PySem.W.Frag} {h : Heap} {mg : Str → Option Value} (X : K.In h) (G : h.Ns mainGlobals mg) (c : eclsB K = true) : Ecls K mg := by
  unfold eclsB at c
  simp only [Bool.and_eq_true, List.all_eq_true, List.mem_range, decide_eq_true_eq] at c
  obtain ⟨c1, c2⟩ := c
  exact ⟨fun c h => PySem.W.mg_of X G (c1 c h), fun c h => ecB_ok (c2 c h).1, fun c j h h' => (c2 c h).2.1 j h', fun c h => (c2 c h).2.2.1, fun c h => (c2 c h).2.2.2⟩
abbrev clE (K : PySem.W.Frag) : Nat → Value := fun c => .ref (eAd K c)
theorem exd_ok {K : PySem.W.Frag} {h : Heap} {mg : Str → Option Value} (X : K.In h) (G : h.Ns mainGlobals mg) (c : Nat) (h1 : PySem.W.nsIn K mainGlobals (enm c) = some (some (.ref (eAd K c)))) (h2 : (He.Fa.exc (enm c)).ok K = true) : ExD K mg (clE K) (enm c) c := by
  obtain ⟨a, b, d, e⟩ := He.exc_ok h2
  exact ⟨eAd K c, rfl, PySem.W.mg_of X G h1, b, d, e, a⟩
theorem noCX {P : Program} {w : World} {outer : List PySem.Env} {H : Hp} {s : Shared} {e : Value} {s' : Shared} (h : L2N.CX P w outer H s (fun _ _ _ => False) e s') : False := by
  obtain ⟨_, _, _, _, _, _, _, _, _, _, _, _, z⟩ := h
  exact z
theorem tabs1 {H : Hp} {P : Addr} {q : Str} (h : H P = some (.tbl #[])) : LamX.Tabs [(P, q)] H := fun p hp => by
  have e : p = (P, q) := by simpa using hp
  subst e
  exact LamX.TabS.nil h
theorem tabs0 {H : Hp} : LamX.Tabs [] H := fun p hp => by cases hp
variable [TabsC]
section
variable {P : Program} {w : World} {K : PySem.W.Frag} {mg : Str → Option Value} {base : Heap} {cl : Nat → Value}
/-- a def whose code object is known: one that makes lambdas -/
theorem fn_okC {x qual : Str} {st : Stmt} {f : Addr} {fd : FuncData} {N ps : List Str} {k n : Nat} {rm : Md} {O : Nat → Option Bool} {g : GS} {c : Addr} (F : Fun K x qual st f fd) (hc : fd.code = .ref c) (S : FnScope N ps (defScope st)) (hn : ps.length = n := by rfl) (hnN : n ≤ N.length := by decide)
    (hO : (List.range n).all (fun i => O i == some false) = true := by decide)
    (hb : ∀ (E : XK), DSs (famD P w K mg base N qual (defScope st) f (.ref c) E cl O k S.kind S.nd) rm (defBody st) g) (hrm : rm ≠ .bo := by decide) : FnOk P w K mg base (L2N.CX P w) (k + 1) f fd ps (spD K cl n rm (runD N.length n g)) := by
  refine okXC F S (fun vs H Q E h => by rw [hn]; exact h.1) fun cdv ec A outer s H vs Q E hr h => ?_
  rw [hc] at ec
  subst ec
  obtain ⟨t, pt, st⟩ := hb E
  refine ⟨t, pt ⟨(A, outer, s, H), hr⟩, ?_⟩
  obtain ⟨hl, tb, hid, ds, knd, m, q⟩ := h
  have hO' : ∀ i, i < vs.length → O i = some false := fun i hi => by
    rw [List.all_eq_true] at hO
    have := hO i (List.mem_range.mpr (by omega))
    simpa using this
  have S0 := sees0 (O := O) (N := N) (by omega) knd tb m hO'
  refine st H hid _ _ S0 _ ?_
  have hdl : (ds.length == n) = true := by
    have := m.length
    simp; omega
  unfold runD at q
  rw [hdl] at q
  dsimp only [cond] at q
  cases hg : g (env0 N.length ds) with
  | stuck => rw [hg] at q; exact q.elim
  | err c => rw [hg] at q; exact fun H' e => q H' e
  | ok fl =>
    rw [hg] at q
    cases fl with
    | nx ρ' => exact fun s' e S' => q .non s'.H S'.ex0 (rm_plain rfl (by simp [Mn]))
    | rt d => exact fun v H' e r => q v H' e ((rmR_of hrm).mp r)
    | bk ρ' => exact q.elim
    | ct ρ' => exact q.elim
/-- what the law is asked at a script -/
def scrD (ns : List Int) : D := .dict [(.none, .list (ns.map .int))]
theorem law_sp {f : List D → Out D} {H : Hp} {a : Addr} {ns : List Int} (hT : LamX.Tabs TabsC.T H) (hS : SqL K H a (ns.map V.int)) (hf : f [scrD ns] = .ok (.bool true)) : spD K cl 1 .fz f [.ref a] H (fun v _ => v = .bl true) fun _ _ _ => False := by
  refine ⟨rfl, hT, [], [scrD ns], fun b hb => (by cases hb), ?_, ?_⟩
  · simp only [MnA]
    refine ⟨_, [], rfl, ?_, rfl⟩
    unfold scrD
    simp only [Mn]
    refine .inr (.inl ⟨a, ns, rfl, ?_, rfl⟩)
    rcases hS with (h | ⟨o, h⟩) | h
    · exact .inl (.inl (hide_at (by simp) h (fun ps z => nomatch z)))
    · exact .inl (.inr ⟨o, hide_at (by simp) h (fun ps z => nomatch z)⟩)
    · exact .inr h
  · rw [hf]
    intro v H' e r
    have r : Mn K (hide [] H') (.bool true) v := r
    simpa only [Mn] using r
end
end DL
set_option Elab.async false
set_option linter.all false
set_option maxRecDepth 100000
set_option maxHeartbeats 4000000
namespace DL
open PySem PySem.Spec PyProof.Rows L2
/-! ### the plain reckoning: what the combinators come to -/
section
variable {ρ ρ1 : Env} {d : D} {c : Nat} {g g2 : GE} {t u : GT} {s k : GS} {a : GA}
@[simp] theorem p_thenN {k : GS} : sThen (.ok (.nx ρ)) k = k ρ := rfl
@[simp] theorem p_thenR {k : GS} : sThen (.ok (.rt d)) k = .ok (.rt d) := rfl
@[simp] theorem p_thenE {k : GS} : sThen (.err c) k = .err c := rfl
@[simp] theorem p_thenS {k : GS} : sThen .stuck k = .stuck := rfl
@[simp] theorem p_seq : sSeq s k ρ = sThen (s ρ) k := rfl
@[simp] theorem p_nil : sNil ρ = .ok (.nx ρ) := rfl
@[simp] theorem p_set {i : Nat} : sSet i g ρ = (g ρ).bind fun d => .ok (.nx (ρ.set i (some d))) := rfl
@[simp] theorem p_own {i : Nat} : sOwn i g ρ = (g ρ).bind fun d => bif isCon d then .ok (.nx (ρ.set i (some d))) else .stuck := rfl
@[simp] theorem p_ret : sRet g ρ = (g ρ).bind fun d => .ok (.rt d) := rfl
@[simp] theorem p_rai : sRai c ρ = .err c := rfl
@[simp] theorem p_expr : sExpr g ρ = (g ρ).bind fun _ => .ok (.nx ρ) := rfl
@[simp] theorem p_if : sIf t s k ρ = (t ρ).bind fun x => bif x then s ρ else k ρ := rfl
@[simp] theorem p_c : eC d ρ = .ok d := rfl
@[simp] theorem p_var {i : Nat} : eVar i ρ = match ρ[i]? with
  | some (some d) => .ok d
  | _ => .stuck := rfl
@[simp] theorem p_e2 {f : D → D → Option D} : e2 f g g2 ρ = (g ρ).bind fun x => (g2 ρ).bind fun y => lift (f x y) := rfl
@[simp] theorem p_e1 {f : D → Option D} : e1 f g ρ = (g ρ).bind fun x => lift (f x) := rfl
@[simp] theorem p_call {f : List D → Out D} : eCall f a ρ = (a ρ).bind f := rfl
@[simp] theorem p_callB {f : List D → Out D} : eCallB f a ρ = (a ρ).bind fun ds => imO (f ds) := rfl
@[simp] theorem p_cl {f : List D → Option D} : eCl f a ρ = (a ρ).bind fun ds => lift (f ds) := rfl
@[simp] theorem p_f1 {f : D → Option D} : f1 f [d] = f d := rfl
@[simp] theorem p_told {tf : Out D → Out D} : eTold tf g ρ = tf (g ρ) := rfl
@[simp] theorem p_anil : aNil ρ = .ok [] := rfl
@[simp] theorem p_acons : aCons g a ρ = (g ρ).bind fun d => (a ρ).bind fun ds => .ok (d :: ds) := rfl
@[simp] theorem p_tup : eTup a ρ = (a ρ).bind fun ds => if ds.length ≤ 1000000 then .ok (.tuple ds) else .stuck := rfl
@[simp] theorem p_lst : eLst a ρ = (a ρ).bind fun ds => if ds.length ≤ 1000000 then .ok (.list ds) else .stuck := rfl
@[simp] theorem p_tV : tV g ρ = (g ρ).bind fun d => match d with
  | .bool b => .ok b
  | _ => .stuck := rfl
@[simp] theorem p_not : gNot t ρ = (t ρ).bind fun x => .ok (!x) := rfl
@[simp] theorem p_and : gAnd t u ρ = (t ρ).bind fun x => if x then u ρ else .ok false := rfl
@[simp] theorem p_or : gOr t u ρ = (t ρ).bind fun x => if x then .ok true else u ρ := rfl
@[simp] theorem p_ite {g3 : GE} : eIf t g2 g3 ρ = (t ρ).bind fun k => if k then g2 ρ else g3 ρ := rfl
@[simp] theorem p_eand : eAnd g g2 ρ = (g ρ).bind fun x => match x with
  | .bool true => g2 ρ
  | .bool false => .ok (.bool false)
  | _ => .stuck := rfl
@[simp] theorem p_eor : eOr g g2 ρ = (g ρ).bind fun x => match x with
  | .bool false => g2 ρ
  | .bool true => .ok (.bool true)
  | _ => .stuck := rfl
@[simp] theorem p_ch {f f' : D → D → Option D} {g3 : GE} : eCh f f' g g2 g3 ρ = (g ρ).bind fun x => (g2 ρ).bind fun y => (lift (f x y)).bind fun k => match k with
  | .bool true => (g3 ρ).bind fun z => lift (f' y z)
  | .bool false => .ok (.bool false)
  | _ => .stuck := rfl
@[simp] theorem p_tg {tg : Tg} : sTg g tg ρ = (g ρ).bind fun d => match tg d ρ with
  | some ρ' => .ok (.nx ρ')
  | none => .stuck := rfl
@[simp] theorem p_tgN {i : Nat} : tgN i d ρ = some (ρ.set i (some d)) := rfl
@[simp] theorem p_tgT {u : Tgs} {ds : List D} : tgT u (.tuple ds) ρ = u ds ρ := rfl
@[simp] theorem p_tgNil : tgNil [] ρ = some ρ := rfl
@[simp] theorem p_tgCons {t : Tg} {u : Tgs} {ds : List D} : tgCons t u (d :: ds) ρ = (t d ρ).bind (u ds) := rfl
@[simp] theorem p_outR : outD (.ok (.rt d)) = .ok d := rfl
@[simp] theorem p_outN : outD (.ok (.nx ρ)) = .ok .none := rfl
@[simp] theorem p_outE : outD (.err c) = .err c := rfl
end
theorem run_at {N n : Nat} {g : GS} {ds : List D} (h : ds.length = n) : runD N n g ds = outD (g (env0 N ds)) := by
  unfold runD
  have : (ds.length == n) = true := by simpa using h
  rw [this]
  rfl
/-! ### ints -/
@[simp] theorem d_add {i j : Int} : dAdd (.int i) (.int j) = some (.int (i + j)) := rfl
@[simp] theorem d_sub {i j : Int} : dSub (.int i) (.int j) = some (.int (i - j)) := rfl
theorem d_mul {i j : Int} (h : cMul i j = true) : dMul (.int i) (.int j) = some (.int (i * j)) := by
  show (if cMul i j then some (PyData.int (i * j)) else none).or (dRep (.int i) (.int j)) = _
  rw [if_pos h]
  rfl
theorem d_mulr {i j : Int} (h : -18446744073709551616 < j ∧ j < 18446744073709551616) : dMul (.int i) (.int j) = some (.int (i * j)) := d_mul (by
  unfold cMul
  simp only [Bool.or_eq_true, Bool.and_eq_true, decide_eq_true_eq]
  exact .inr ⟨by omega, by omega⟩)
theorem d_mull {i j : Int} (h : -18446744073709551616 < i ∧ i < 18446744073709551616) : dMul (.int i) (.int j) = some (.int (i * j)) := d_mul (by
  unfold cMul
  simp only [Bool.or_eq_true, Bool.and_eq_true, decide_eq_true_eq]
  exact .inl ⟨by omega, by omega⟩)
theorem d_div {i j : Int} (h : 0 < j ∧ j < 1073741824) : dDiv (.int i) (.int j) = some (.int (i / j)) := by
  show (if cDiv i j then some (PyData.int (i / j)) else none) = _
  rw [if_pos]
  unfold cDiv
  simp [h]
theorem d_mod {i j : Int} (h : 0 < j) : dMod (.int i) (.int j) = some (.int (i % j)) := by
  show (if cPos i j then some (PyData.int (i % j)) else none) = _
  rw [if_pos]
  unfold cPos
  simp [h]
@[simp] theorem d_lt {i j : Int} : dLt (.int i) (.int j) = some (.bool (decide (i < j))) := rfl
@[simp] theorem d_le {i j : Int} : dLe (.int i) (.int j) = some (.bool (decide (i ≤ j))) := rfl
@[simp] theorem d_gt {i j : Int} : dGt (.int i) (.int j) = some (.bool (decide (j < i))) := rfl
@[simp] theorem d_ge {i j : Int} : dGe (.int i) (.int j) = some (.bool (decide (j ≤ i))) := rfl
theorem okEq_ii {i j : Int} : okEq (.int i) (.int j) = true := by simp [okEq, PyData.plain, PyData.depth]
@[simp] theorem d_eqI {i j : Int} : dEq (.int i) (.int j) = some (.bool (decide (i = j))) := by
  unfold dEq
  rw [okEq_ii, if_pos rfl]
  simp only [PyData.eqv]
  congr 2
@[simp] theorem d_neI {i j : Int} : dNe (.int i) (.int j) = some (.bool (!decide (i = j))) := by
  unfold dNe
  rw [okEq_ii, if_pos rfl]
  simp only [PyData.eqv]
  congr 3
@[simp] theorem d_lenL {ds : List D} : dLen (.list ds) = some (.int ds.length) := rfl
@[simp] theorem d_lenT {ds : List D} : dLen (.tuple ds) = some (.int ds.length) := rfl
@[simp] theorem d_lenS {ns : List Int} : dLen (scrD ns) = some (.int ns.length) := by
  show some (PyData.int ((ns.map PyData.int).length : Nat)) = _
  rw [List.length_map]
theorem ixN_pos {n : Nat} {i : Int} (h0 : 0 ≤ i) (h1 : i < n) : ixN n i = some i.toNat := by
  unfold ixN
  simp [h0, h1]
theorem atI_pos {α : Type} {xs : List α} {i : Int} (h0 : 0 ≤ i) (h1 : i < xs.length) : atI xs i = xs[i.toNat]? := by
  unfold atI
  rw [ixN_pos h0 h1]
  rfl
@[simp] theorem d_ixL {ds : List D} {i : Int} : dIx (.list ds) (.int i) = atI ds i := by
  show (atI ds i).or none = _
  cases atI ds i <;> rfl
@[simp] theorem d_ixT {ds : List D} {i : Int} : dIx (.tuple ds) (.int i) = atI ds i := by
  show (atI ds i).or none = _
  cases atI ds i <;> rfl
theorem d_ixScr {ns : List Int} {i : Int} (h0 : 0 ≤ i) (h1 : i < ns.length) : dIx (scrD ns) (.int i) = some (.int (ns.getD i.toNat 0)) := by
  have e : atI (ns.map PyData.int) i = some (.int (ns.getD i.toNat 0)) := by
    rw [atI_pos h0 (by rw [List.length_map]; exact h1), List.getElem?_map]
    have hl : i.toNat < ns.length := by omega
    rw [List.getElem?_eq_getElem hl, List.getD_eq_getElem?_getD, List.getElem?_eq_getElem hl]
    rfl
  show (atI (ns.map PyData.int) i).or (dIxD (scrD ns) (.int i)) = _
  rw [e]
  rfl
/-! ### loops -/
theorem forGo_inv {tg : Tg} {b : GS} (I : Nat → Env → Prop) : ∀ (ds : List D) (i : Nat), (∀ (j : Nat) (d : D) (ρ : Env), ds[j]? = some d → I (i + j) ρ → ∃ ρ1, tg d ρ = some ρ1 ∧ ∃ ρ2, (b ρ1 = .ok (.nx ρ2) ∨ b ρ1 = .ok (.ct ρ2)) ∧ I (i + j + 1) ρ2) →
    ∀ ρ, I i ρ → ∃ ρ', forGo tg b ds ρ = .ok (.nx ρ') ∧ I (i + ds.length) ρ'
  | [], i, _, ρ, h => ⟨ρ, rfl, h⟩
  | d :: ds, i, st, ρ, h => by
    obtain ⟨ρ1, h1, ρ2, h2, h3⟩ := st 0 d ρ rfl h
    obtain ⟨ρ', h4, h5⟩ := forGo_inv I ds (i + 1) (fun j e ρ' he hI => by
      have := st (j + 1) e ρ' (by simpa using he) (by rw [show i + (j + 1) = i + 1 + j by omega]; exact hI)
      rw [show i + (j + 1) = i + 1 + j by omega] at this
      exact this) ρ2 h3
    refine ⟨ρ', ?_, by rw [List.length_cons, show i + (ds.length + 1) = i + 1 + ds.length by omega]; exact h5⟩
    unfold forGo
    rw [h1]
    rcases h2 with h2 | h2
    · dsimp only
      rw [h2]
      exact h4
    · dsimp only
      rw [h2]
      exact h4
theorem p_for {gi : GA} {tg : Tg} {b : GS} {ρ : Env} {ds : List D} (h : gi ρ = .ok ds) : sFor gi tg b ρ = forGo tg b ds ρ := by
  unfold sFor
  rw [h]
  rfl
theorem p_seqN {s k : GS} {ρ ρ1 : Env} (h : s ρ = .ok (.nx ρ1)) : sSeq s k ρ = k ρ1 := by
  rw [p_seq, h]
  rfl
end DL
set_option Elab.async false
set_option linter.all false
set_option maxRecDepth 100000
set_option maxHeartbeats 4000000
/-! ### sets of texts: made of a list, brought in order -/
namespace DL
open PySem PySem.Spec PyProof.Rows L2
/-- the text of an entry -/
def tx (e : Int × Value) : Str := match e.2 with
  | .str x _ => x
  | _ => Str.ofString ""
/-- an entry of a set of texts -/
def TxE (P : Program) (w : World) (e : Int × Value) : Prop := ∃ x u, e = ((strKind P w).hash x, Value.str x u)
/-- entries, none twice, the table beside them -/
structure TxT (P : Program) (w : World) (es : Array (Int × Value)) (t : SetTable) (S : List Str) : Prop where
  all : ∀ e ∈ es.toList, TxE P w e
  once : (es.toList.map tx).Nodup
  mem : ∀ x, x ∈ S ↔ x ∈ es.toList.map tx
  few : es.size < scanBound
  fit : t.fits es.size = true
  ris : Ris t.place.toList
  led : w.params.followText "set-order" = true ∨ t.led = true
/-- at a: a set of the texts of S (some may stand there twice) -/
def TxAt (P : Program) (w : World) (h : Heap) (a : Addr) (S : List Str) (n : Nat) : Prop := ∃ o es ep t, h.get? a = some o ∧ o.ExactSet ∧ o.data = .set es ep t ∧ TxT P w es t S ∧ es.size ≤ n
theorem strs_at : ∀ {vs : List Value} {ss : List Str}, StrsAre vs ss → ∀ {i : Nat} {v : Value}, vs[i]? = some v → ∃ x u, ss[i]? = some x ∧ v = .str x u
  | _, _, .nil, i, v, h => by simp at h
  | _, _, .cons x u t, 0, v, h => ⟨x, u, rfl, by simpa using h.symm⟩
  | _, _, .cons x u t, i + 1, v, h => by
    obtain ⟨y, z, h1, h2⟩ := strs_at t (i := i) (v := v) (by simpa using h)
    exact ⟨y, z, by simpa using h1, h2⟩
section
variable {P : Program} {w : World} {A : Around} {E : Value → Shared → Prop} {s : Shared} {a : Addr} {S : List Str} {n : Nat}
theorem TxE.el {es : List (Int × Value)} (h : ∀ e ∈ es, TxE P w e) : ElemsOf (strKind P w) es := fun e he => by
  obtain ⟨x, u, rfl⟩ := h e he
  exact ⟨⟨x, strKind_is P w x u, rfl⟩, rfl⟩
theorem TxE.is_iff {e : Int × Value} (h : TxE P w e) (x : Str) : (strKind P w).is x e.2 = true ↔ tx e = x := by
  obtain ⟨y, u, rfl⟩ := h
  constructor
  · intro q
    exact (strKind P w).inj _ _ _ (strKind_is P w y u) q
  · intro q
    have q : y = x := q
    subst q
    exact strKind_is P w y u
theorem TxAt.keep {h h' : Heap} (T : TxAt P w h a S n) (k : ∀ o, h.get? a = some o → h'.get? a = some o) : TxAt P w h' a S n := by
  obtain ⟨o, es, ep, t, g, r⟩ := T
  exact ⟨o, es, ep, t, k o g, r⟩
theorem TxT.more {es es1 : Array (Int × Value)} {t t1 : SetTable} (T : TxT P w es t S) {x : Str} {u : Tok} (hx : x ∉ es.toList.map tx) (pm : es1.toList.Perm (es.toList ++ [((strKind P w).hash x, Value.str x u)])) (hf : t1.fits es1.size = true) (hr : Ris t1.place.toList)
    (hl : w.params.followText "set-order" = true ∨ t1.led = true) (room : es.size + 1 < scanBound) : TxT P w es1 t1 (x :: S) ∧ es1.size = es.size + 1 := by
  have pc : es1.toList.Perm (((strKind P w).hash x, Value.str x u) :: es.toList) := pm.trans (List.perm_append_singleton _ _)
  have pk : (es1.toList.map tx).Perm (x :: es.toList.map tx) := pc.map tx
  have sz : es1.size = es.size + 1 := by
    have z := pc.length_eq
    simpa using z
  refine ⟨⟨fun e he => ?_, pk.nodup_iff.mpr (List.nodup_cons.mpr ⟨hx, T.once⟩), fun y => ?_, by rw [sz]; exact room, hf, hr, hl⟩, sz⟩
  · rcases List.mem_cons.mp (pc.mem_iff.mp he) with z | z
    · exact ⟨x, u, z⟩
    · exact T.all e z
  · rw [pk.mem_iff, List.mem_cons, List.mem_cons, T.mem y]
theorem TxT.same {es es1 : Array (Int × Value)} {t t1 : SetTable} (T : TxT P w es t S) (pm : es1.toList.Perm es.toList) (hf : t1.fits es1.size = true) (hr : Ris t1.place.toList) (hl : t1.led = t.led) : TxT P w es1 t1 S ∧ es1.size = es.size := by
  have sz : es1.size = es.size := by
    have z := pm.length_eq
    simpa using z
  exact ⟨⟨fun e he => T.all e (pm.mem_iff.mp he), (pm.map tx).nodup_iff.mpr T.once, fun y => (T.mem y).trans (pm.map tx).mem_iff.symm, by rw [sz]; exact T.few, hf, hr, T.led.imp id fun z => by rw [hl]; exact z⟩, sz⟩
/-- what stands behind the new entry: stored, laid anew where it is too full -/
theorem txt_tail {g : Bool → Sem Unit} (hg : ∀ (b : Bool) (s₁ : Shared) (Q' : Unit → Shared → Prop), Q' () s₁ → wpAny (model P w) A (g b) Q' E s₁) {o : Obj} {es es1 : Array (Int × Value)} {ep : Nat} {t t2 : SetTable} (ho : s.heap.get? a = some o) (hex : o.ExactSet) (hd : o.data = .set es ep t)
    (T : TxT P w es1 t2 S) {wasDummy : Bool} {R : Option Bool → Shared → Prop} (hR : ∀ h', Heap.SameBut a s.heap h' → TxAt P w h' a S es1.size → R (some true) { s with heap := h' }) :
    wpAny (model P w) A (do
        storeSet a es1 t2
        if (!wasDummy && t2.tooFull) = true then do
            g (relayAll t2 es1 (SetTable.grown es1.size)).2.2
            storeSet a (relayAll t2 es1 (SetTable.grown es1.size)).1 (relayAll t2 es1 (SetTable.grown es1.size)).2.1
            pure (some true)
          else pure (some true)) R E s := by
  have now := store_at (es' := es1) (t' := t2) ho hd
  have sb := Heap.SameBut.update s.heap a (Obj.putSet es1 t2)
  refine wpAny_bind (wpAny_storeSet_of ho hd ?_ (fits_of_scanBound T.few))
  by_cases hc : (!wasDummy && t2.tooFull) = true
  · rw [if_pos hc]
    have anew := T.same (relayAll_perm t2 es1 (SetTable.grown es1.size)) (relayAll_fits t2 es1 (SetTable.grown es1.size)) (relayAll_ris t2 es1 (SetTable.grown es1.size)) (relayAll_led t2 es1 (SetTable.grown es1.size))
    refine wpAny_bind (hg _ _ _ (wpAny_bind (wpAny_storeSet_of now rfl ?_ (fits_of_scanBound anew.1.few))))
    have then_ := store_at (es' := (relayAll t2 es1 (SetTable.grown es1.size)).1) (t' := (relayAll t2 es1 (SetTable.grown es1.size)).2.1) now rfl
    exact wpAny_pure (hR _ (sb.trans (Heap.SameBut.update _ a _)) ⟨_, _, _, _, then_, hex, rfl, anew.1, Nat.le_of_eq anew.2⟩)
  · rw [if_neg hc]
    exact wpAny_pure (hR _ sb ⟨_, _, _, _, now, hex, rfl, T, Nat.le_refl _⟩)
/-- a text is added -/
theorem txt_add {x : Str} {u : Tok} {Q : Bool → Shared → Prop} (T : TxAt P w s.heap a S n) (room : n + 1 < scanBound) (hQ : ∀ b h', Heap.SameBut a s.heap h' → TxAt P w h' a (x :: S) (n + 1) → Q b { s with heap := h' }) :
    wpAny (model P w) A (setAddHashed a (.str x u) ((strKind P w).hash x)) Q E s := by
  obtain ⟨o, es, ep, t, ho, hex, hd, T, hn⟩ := T
  have el : ElemsOf (strKind P w) es.toList := TxE.el T.all
  have isx : (strKind P w).is x (.str x u) = true := strKind_is P w x u
  unfold setAddHashed setAddHashedIn
  refine wpAny_holding (wpAny_bind (wpAny_setState_of ho hd T.fit ?_))
  dsimp only
  rw [byScan_of (show (Value.str x u).scannable = true from rfl) T.few el]
  simp only [↓reduceIte]
  unfold setAddByScan
  refine wpAny_bind (wpAny_bind (wpAny_rule (wpAny_bind (wpAny_setScan_of isx ho hd T.fit el ?_))))
  cases hfi : List.findIdx? (fun e => (strKind P w).is x e.2) es.toList with
  | some j =>
    obtain ⟨hj, pj, _⟩ := List.findIdx?_eq_some_iff_getElem.mp hfi
    have hm : x ∈ S := (T.mem x).mpr (List.mem_map.mpr ⟨es.toList[j], List.getElem_mem hj, (TxE.is_iff (T.all _ (List.getElem_mem hj)) x).mp pj⟩)
    dsimp only
    refine wpAny_pure (wpAny_pure (hQ _ s.heap (Heap.SameBut.refl a s.heap) ⟨o, es, ep, t, ho, hex, hd, ⟨T.all, T.once, fun y => ?_, T.few, T.fit, T.ris, T.led⟩, Nat.le_succ_of_le hn⟩))
    rw [List.mem_cons, ← T.mem y]
    exact ⟨fun z => z.elim (fun e => e ▸ hm) id, .inr⟩
  | none =>
    dsimp only
    have hx : x ∉ es.toList.map tx := fun z => by
      obtain ⟨e, he, q⟩ := List.mem_map.mp z
      have c := List.findIdx?_eq_none_iff.mp hfi e he
      rw [(TxE.is_iff (T.all e he) x).mpr q] at c
      cases c
    have quiet : ∀ (b : Bool) {s₁ : Shared} {Q' : Unit → Shared → Prop}, Q' () s₁ → wpAny (model P w) A (match b with | true => rule "set.scan.the-table-gave-way" | false => pure ()) Q' E s₁ := fun b {s₁ Q'} q => by
      cases b <;> first | exact wpAny_pure q | exact wpAny_rule q
    have rm : es.size + 1 < scanBound := by omega
    have pm := layNew_perm t es ((strKind P w).hash x) (.str x u)
    have ft := layNew_fits t es ((strKind P w).hash x) (.str x u)
    have rs := layNew_ris t es ((strKind P w).hash x) (.str x u) T.ris
    have ld := layNew_led t es ((strKind P w).hash x) (.str x u)
    generalize layNew t es ((strKind P w).hash x) (.str x u) = Z at pm ft rs ld ⊢
    obtain ⟨es1, t1, wasDummy, gave⟩ := Z
    dsimp only at pm ft rs ld ⊢
    rw [Array.toList_push] at pm
    have hl1 : w.params.followText "set-order" = true ∨ t1.led = true := T.led.imp id fun z => by rw [ld]; exact z
    have fin : ∀ {t2 : SetTable}, t2.fits es1.size = true → Ris t2.place.toList → (w.params.followText "set-order" = true ∨ t2.led = true) → TxT P w es1 t2 (x :: S) ∧ es1.size ≤ n + 1 := fun {t2} f r l => by
      obtain ⟨z1, z2⟩ := T.more hx pm f r l rm
      exact ⟨z1, by omega⟩
    refine wpAny_bind (quiet _ ?_)
    split
    · refine wpAny_bind ?_
      rw [hashByValue_scannable 8 (show (Value.str x u).scannable = true from rfl)]
      refine wpAny_pure ?_
      refine txt_tail (S := x :: S) ?_ ho hex hd (fin ?_ ?_ ?_).1 ?_
      · intro b s₁ Q' q
        cases b <;> first | exact wpAny_pure q | exact wpAny_rule q
      · first | (split <;> first | exact ft | exact SetTable.fits_plain_off ft) | exact ft
      · first | (split <;> exact rs) | exact rs
      · first | (split <;> exact hl1) | exact hl1
      · intro h' sb ⟨o', es', ep', t', r1, r2, r3, r4, r5⟩
        dsimp only
        exact wpAny_pure (hQ _ h' sb ⟨o', es', ep', t', r1, r2, r3, r4, Nat.le_trans r5 (fin ft rs hl1).2⟩)
    · refine wpAny_bind (wpAny_pure ?_)
      simp only [↓reduceIte]
      refine txt_tail (S := x :: S) ?_ ho hex hd (fin ft rs hl1).1 ?_
      · intro b s₁ Q' q
        cases b <;> first | exact wpAny_pure q | exact wpAny_rule q
      · intro h' sb ⟨o', es', ep', t', r1, r2, r3, r4, r5⟩
        dsimp only
        exact wpAny_pure (hQ _ h' sb ⟨o', es', ep', t', r1, r2, r3, r4, Nat.le_trans r5 (fin ft rs hl1).2⟩)
theorem TxAt.congr {S' : List Str} {h : Heap} (T : TxAt P w h a S n) (e : ∀ x, x ∈ S' ↔ x ∈ S) : TxAt P w h a S' n := by
  obtain ⟨o, es, ep, t, g, r1, r2, r3, r4⟩ := T
  exact ⟨o, es, ep, t, g, r1, r2, ⟨r3.all, r3.once, fun x => (e x).trans (r3.mem x), r3.few, r3.fit, r3.ris, r3.led⟩, r4⟩
/-- the walker I gives the texts of ss, one by one -/
theorem txt_loop {I : Addr} {fp wr : List Addr} {G : Array GenState → Array GenState → Prop} {m : Nat} {Pv : Nat → Value → Prop} {St : Nat → Shared → Prop} {R : Result → Shared → Prop} (W : WalksS P w A.in1 I fp wr G m Pv St) (B : Addr) (off : B ∉ fp) (ss : List Str) (hm : m = ss.length)
    (few : ss.length + 1 < scanBound) (vals : ∀ i v, Pv i v → ∃ x u, ss[i]? = some x ∧ v = .str x u) : ∀ (left i : Nat) (s : Shared), m - i = left → i ≤ m → St i s → TxAt P w s.heap B (ss.take i) i →
      (∀ s', Moved (B :: wr) G s s' → TxAt P w s'.heap B ss m → R (.ok (.ret .none)) s') → codeAny (model P w) A (.builtin "set.update.loop" ⟨[.ref B, .ref I], []⟩) R s := by
  have offW : B ∉ wr := fun z => off (W.sub _ z)
  have more : ∀ b ∈ wr, b ∈ B :: wr := fun b z => List.mem_cons_of_mem _ z
  intro left
  induction left with
  | zero =>
    intro i s hl hi st T fin
    have e : i = m := by omega
    subst e
    refine codeAny_builtin F.entry_set_update_loop ?_
    rw [Around.under_plainId F.plain_set_update_loop _]
    show wpAny _ A.in1 (pyNext (.ref I) >>= _) _ _ s
    refine wpAny_bind (W.done s _ _ st fun s' mv => ?_)
    show wpAny _ A.in1 (ret Value.none) _ _ s'
    rw [List.take_of_length_le (by omega)] at T
    exact wpAny_pure (fin s' (mv.mono more) (T.keep fun o q => mv.heap B o offW q))
  | succ left ih =>
    intro i s hl hi st T fin
    have lt : i < m := by omega
    refine codeAny_builtin F.entry_set_update_loop ?_
    rw [Around.under_plainId F.plain_set_update_loop _]
    show wpAny _ A.in1 (pyNext (.ref I) >>= _) _ _ s
    refine wpAny_bind (W.item i s _ _ lt st fun v s' pv st' mv => ?_)
    obtain ⟨x, u, hx, rfl⟩ := vals i v pv
    show wpAny _ A.in1 (holding [Value.str x u] (setAdd B (.str x u)) >>= _) _ _ s'
    refine wpAny_bind (wpAny_holding ?_)
    unfold setAdd
    refine wpAny_holding (wpAny_bind ((strKind P w).pyHash (k := x) (strKind_is _ _ _ _) ?_))
    refine txt_add (s := { s' with toks := s'.toks + 1 }) (T.keep fun o q => mv.heap B o offW q) (by omega) fun b h' sb T2 => ?_
    have T3 : TxAt P w h' B (ss.take (i + 1)) (i + 1) := T2.congr fun y => by
      rw [List.take_add_one, hx]
      simp [List.mem_append, or_comm]
    refine wpAny_pure ⟨plainId_quiet F.plain_set_update_loop _, ih (i + 1) _ (by omega) lt (W.frame _ s' _ _ st' (Nat.le_succ _) fun c hc o q => ?_) T3 fun s2 mv2 T4 => ?_⟩
    · rw [sb.2 c (fun z : c = B => off (by rw [← z]; exact hc))]
      exact q
    · refine fin s2 (Moved.trans W.gtrans ((mv.mono more).then_heap (Nat.le_succ _) fun c o hc q => ?_) mv2) T4
      rw [sb.2 c (fun z : c = B => hc (by rw [z]; exact List.mem_cons_self))]
      exact q
theorem txt_fresh {h : Heap} {b : Addr} (g : h.get? b = some { cls := .type "set", dict := none, data := .set #[] 0 (.fresh 0 0 (!w.params.followText "set-order")) }) : TxAt P w h b [] 0 :=
  ⟨_, #[], 0, _, g, ⟨rfl, rfl, rfl⟩, rfl, ⟨fun e he => by simp at he, by simp, fun k => by simp, by decide, by rfl, List.Pairwise.nil, by
    show _ ∨ (!w.params.followText "set-order") = true
    cases w.params.followText "set-order"
    · exact .inr rfl
    · exact .inl rfl⟩, Nat.le_refl _⟩
abbrev newSet (w : World) : Obj := { cls := .type "set", dict := none, data := .set #[] 0 (.fresh 0 0 (!w.params.followText "set-order")) }
/-- set(a list of texts) -/
theorem txt_set {l : Addr} {items : Array Value} (ss : List Str) {Q : Value → Shared → Prop} (hh : A.handled = none) (hl : s.heap.IsList l items) (hit : StrsAre items.toList ss) (few : ss.length + 1 < scanBound)
    (fin : ∀ (h' : Heap) (k : Nat), TxAt P w h' s.heap.objs.size ss ss.length → (∀ b o, s.heap.get? b = some o → h'.get? b = some o) → Q (.ref s.heap.objs.size) { s with heap := h', toks := k }) :
    wpAny (model P w) A (call (.type "set") [.ref l]) Q E s := by
  have size : items.size = ss.length := by
    have z := hit.length
    rw [Array.length_toList] at z
    exact z
  obtain ⟨c, tl, hmro⟩ := F.called_set.mro
  have hmade := F.called_set.made
  have hsub := F.called_set.sub
  refine wpAny_call (codeAny_of_tree ?_)
  show wpAny _ _ (callAny (.type "set") _) _ _ _
  refine wpAny_pure ⟨Code.quiet_builtin _ (by decide +kernel), codeAny_builtin F.entry_type_call ?_⟩
  rw [Around.under_plain (weight_type_call_type "set" [.ref l] []) rfl]
  have h1 := F.called_set.notType
  have h2 := F.called_set.canCreate
  have hct := F.typeCall_set_1 (.ref l)
  repeat (any_goals (first | assumption | wp_step))
  refine codeAny_mono (code_set_led1 (.ref l) (E := E) (Q₁ := fun ob s1 => ob = .ref s.heap.objs.size ∧ s1 = { s with heap := s.heap.push (newSet w) }) ⟨rfl, rfl⟩) fun r s1 hr => ?_
  cases r with
  | error e => exact hr
  | ok fl =>
    cases fl with
    | ret ob =>
      obtain ⟨rfl, rfl⟩ := hr
      have hS : (s.heap.push (newSet w)).get? s.heap.objs.size = some (newSet w) := Heap.get?_push_size _ rfl
      have hT : Shared.TypeIs { s with heap := s.heap.push (newSet w) } (.ref s.heap.objs.size) "set" := ⟨_, hS, rfl⟩
      have hli := F.called_set.init.lookup
      have hbi := F.called_set.init.bind (.ref s.heap.objs.size)
      repeat (any_goals (first | assumption | wp_step))
      refine codeAny_mono (codeAny_call_builtin (R := wants (fun r s2 => r = .none ∧ ∃ h' k, s2 = { s with heap := h', toks := k } ∧ TxAt P w h' s.heap.objs.size ss ss.length ∧ ∀ b o, s.heap.get? b = some o → h'.get? b = some o) E) F.called_set.init.plain F.entry_set_init (check_set_init_1 hT ?_)) fun r2 s2 hr2 => ?_
      · obtain ⟨ol, hol, hcl, nl, hdl⟩ := hl
        obtain ⟨ocls, odict, odata, oslots⟩ := ol
        simp only at hcl hdl
        subst hcl
        subst hdl
        have hol' : (s.heap.push (newSet w)).get? l = some { cls := .type "list", dict := odict, data := .seq items nl, slots := oslots } := Heap.get?_push_of_some _ hol
        have hsls := F.sub_list_set
        have hslf := F.sub_list_frozenset
        have hne : (Value.type "list" == Value.type "dict") = false := by decide
        have hl1 : (s.heap.push (newSet w)).IsList l items := ⟨_, hol', rfl, nl, rfl⟩
        unfold Builtin.«set.__init__» noKeywords Builtin.Frozenset.updateFrom
        generalize hPI : pyIter = PI
        wp_walk
        subst hPI
        refine wpAny_pyIter_list hl1 ?_
        refine wpAny_bind (wpAny_runValue ?_)
        have below : l < s.heap.objs.size := Heap.lt_size hol
        have calm3 : A.in1.in1.in1.handled = none := by simp [hh]
        have apart : l ≠ (s.heap.push (newSet w)).objs.size := by
          rw [Heap.size_push]
          exact Nat.ne_of_lt (Nat.lt_succ_of_lt below)
        have out : s.heap.objs.size ∉ [(s.heap.push (newSet w)).objs.size, l] := by
          rw [Heap.size_push]
          simp only [List.mem_cons, List.mem_singleton, List.not_mem_nil, or_false, not_or]
          exact ⟨Nat.ne_of_lt (Nat.lt_succ_self _), Nat.ne_of_gt below⟩
        have vals : ∀ (i : Nat) (v : Value), items[i]? = some v → ∃ x u, ss[i]? = some x ∧ v = .str x u := fun i v hv => by
          have hv' : items.toList[i]? = some v := by rw [Array.getElem?_toList]; exact hv
          exact strs_at hit hv'
        refine txt_loop ((Walks.list calm3 _ l apart items).toS) s.heap.objs.size out ss size few vals (items.size - 0) 0 _ (by omega) (Nat.zero_le _) ⟨⟨_, Heap.get?_push_size _ rfl, rfl, rfl⟩, (hl1.push _)⟩ ?hS0 ?hR
        case hS0 => exact txt_fresh (Heap.get?_push_of_some _ hS)
        case hR =>
          intro s' mv T
          obtain ⟨h', g2, d', k', os'⟩ := s'
          have eg : g2 = s.gens := mv.gens
          have ed : d' = s.drawn := mv.drawn
          have eo : os' = s.os := mv.os
          subst eg
          subst ed
          subst eo
          show wpAny _ _ _ _ _ _
          refine wpAny_pure ?_
          show wpAny _ _ (ret Value.none) _ _ _
          rw [size] at T
          refine wpAny_pure ⟨rfl, h', k', rfl, T, fun b o e => ?_⟩
          have b0 : b < s.heap.objs.size := Heap.lt_size e
          refine mv.heap b o ?_ (Heap.get?_push_of_some _ (Heap.get?_push_of_some _ e))
          rw [Heap.size_push]
          simp only [List.mem_cons, List.mem_singleton, List.not_mem_nil, or_false, not_or]
          exact ⟨Nat.ne_of_lt b0, Nat.ne_of_lt (Nat.lt_succ_of_lt b0)⟩
      · cases r2 with
        | error e => exact hr2
        | ok fl2 =>
          cases fl2 with
          | ret r =>
            obtain ⟨rfl, h', k', rfl, T, old⟩ := hr2
            repeat (any_goals (first | assumption | wp_step))
            exact fin _ _ T old
          | _ => exact hr2.elim
    | _ => exact hr.elim
end
end DL
set_option Elab.async false
set_option linter.all false
set_option maxRecDepth 100000
set_option maxHeartbeats 4000000
namespace DL
open PySem PySem.Spec PyProof.Rows L2
section
variable {P : Program} {w : World} {A : Around} {E : Value → Shared → Prop} {s : Shared} {a : Addr} {S : List Str} {n : Nat}
/-- set(a tuple of texts) -/
theorem txt_setT {l : Addr} {items : Array Value} (ss : List Str) {Q : Value → Shared → Prop} (hh : A.handled = none) (hl : s.heap.IsTuple l items) (hit : StrsAre items.toList ss) (few : ss.length + 1 < scanBound)
    (fin : ∀ (h' : Heap) (k : Nat), TxAt P w h' s.heap.objs.size ss ss.length → (∀ b o, s.heap.get? b = some o → h'.get? b = some o) → Q (.ref s.heap.objs.size) { s with heap := h', toks := k }) :
    wpAny (model P w) A (call (.type "set") [.ref l]) Q E s := by
  have size : items.size = ss.length := by
    have z := hit.length
    rw [Array.length_toList] at z
    exact z
  obtain ⟨c, tl, hmro⟩ := F.called_set.mro
  have hmade := F.called_set.made
  have hsub := F.called_set.sub
  refine wpAny_call (codeAny_of_tree ?_)
  show wpAny _ _ (callAny (.type "set") _) _ _ _
  refine wpAny_pure ⟨Code.quiet_builtin _ (by decide +kernel), codeAny_builtin F.entry_type_call ?_⟩
  rw [Around.under_plain (weight_type_call_type "set" [.ref l] []) rfl]
  have h1 := F.called_set.notType
  have h2 := F.called_set.canCreate
  have hct := F.typeCall_set_1 (.ref l)
  repeat (any_goals (first | assumption | wp_step))
  refine codeAny_mono (code_set_led1 (.ref l) (E := E) (Q₁ := fun ob s1 => ob = .ref s.heap.objs.size ∧ s1 = { s with heap := s.heap.push (newSet w) }) ⟨rfl, rfl⟩) fun r s1 hr => ?_
  cases r with
  | error e => exact hr
  | ok fl =>
    cases fl with
    | ret ob =>
      obtain ⟨rfl, rfl⟩ := hr
      have hS : (s.heap.push (newSet w)).get? s.heap.objs.size = some (newSet w) := Heap.get?_push_size _ rfl
      have hT : Shared.TypeIs { s with heap := s.heap.push (newSet w) } (.ref s.heap.objs.size) "set" := ⟨_, hS, rfl⟩
      have hli := F.called_set.init.lookup
      have hbi := F.called_set.init.bind (.ref s.heap.objs.size)
      repeat (any_goals (first | assumption | wp_step))
      refine codeAny_mono (codeAny_call_builtin (R := wants (fun r s2 => r = .none ∧ ∃ h' k, s2 = { s with heap := h', toks := k } ∧ TxAt P w h' s.heap.objs.size ss ss.length ∧ ∀ b o, s.heap.get? b = some o → h'.get? b = some o) E) F.called_set.init.plain F.entry_set_init (check_set_init_1 hT ?_)) fun r2 s2 hr2 => ?_
      · obtain ⟨ol, hol, hcl, nl, hdl⟩ := hl
        obtain ⟨ocls, odict, odata, oslots⟩ := ol
        simp only at hcl hdl
        subst hcl
        subst hdl
        have hol' : (s.heap.push (newSet w)).get? l = some { cls := .type "tuple", dict := odict, data := .seq items nl, slots := oslots } := Heap.get?_push_of_some _ hol
        have hsls := F.sub_tuple_set
        have hslf := F.sub_tuple_frozenset
        have hne : (Value.type "tuple" == Value.type "dict") = false := by decide
        have hl1 : (s.heap.push (newSet w)).IsTuple l items := ⟨_, hol', rfl, nl, rfl⟩
        unfold Builtin.«set.__init__» noKeywords Builtin.Frozenset.updateFrom
        generalize hPI : pyIter = PI
        wp_walk
        subst hPI
        refine wpAny_pyIter_tuple hl1 ?_
        refine wpAny_bind (wpAny_runValue ?_)
        have below : l < s.heap.objs.size := Heap.lt_size hol
        have calm3 : A.in1.in1.in1.handled = none := by simp [hh]
        have apart : l ≠ (s.heap.push (newSet w)).objs.size := by
          rw [Heap.size_push]
          exact Nat.ne_of_lt (Nat.lt_succ_of_lt below)
        have out : s.heap.objs.size ∉ [(s.heap.push (newSet w)).objs.size, l] := by
          rw [Heap.size_push]
          simp only [List.mem_cons, List.mem_singleton, List.not_mem_nil, or_false, not_or]
          exact ⟨Nat.ne_of_lt (Nat.lt_succ_self _), Nat.ne_of_gt below⟩
        have vals : ∀ (i : Nat) (v : Value), items[i]? = some v → ∃ x u, ss[i]? = some x ∧ v = .str x u := fun i v hv => by
          have hv' : items.toList[i]? = some v := by rw [Array.getElem?_toList]; exact hv
          exact strs_at hit hv'
        refine txt_loop ((Walks.tuple calm3 _ l apart items).toS) s.heap.objs.size out ss size few vals (items.size - 0) 0 _ (by omega) (Nat.zero_le _) ⟨⟨_, Heap.get?_push_size _ rfl, rfl, rfl⟩, (hl1.push _)⟩ ?hS0 ?hR
        case hS0 => exact txt_fresh (Heap.get?_push_of_some _ hS)
        case hR =>
          intro s' mv T
          obtain ⟨h', g2, d', k', os'⟩ := s'
          have eg : g2 = s.gens := mv.gens
          have ed : d' = s.drawn := mv.drawn
          have eo : os' = s.os := mv.os
          subst eg
          subst ed
          subst eo
          show wpAny _ _ _ _ _ _
          refine wpAny_pure ?_
          show wpAny _ _ (ret Value.none) _ _ _
          rw [size] at T
          refine wpAny_pure ⟨rfl, h', k', rfl, T, fun b o e => ?_⟩
          have b0 : b < s.heap.objs.size := Heap.lt_size e
          refine mv.heap b o ?_ (Heap.get?_push_of_some _ (Heap.get?_push_of_some _ e))
          rw [Heap.size_push]
          simp only [List.mem_cons, List.mem_singleton, List.not_mem_nil, or_false, not_or]
          exact ⟨Nat.ne_of_lt b0, Nat.ne_of_lt (Nat.lt_succ_of_lt b0)⟩
      · cases r2 with
        | error e => exact hr2
        | ok fl2 =>
          cases fl2 with
          | ret r =>
            obtain ⟨rfl, h', k', rfl, T, old⟩ := hr2
            repeat (any_goals (first | assumption | wp_step))
            exact fin _ _ T old
          | _ => exact hr2.elim
    | _ => exact hr.elim

/-- sorted(the set) -/
theorem txt_sorted {Q : Value → Shared → Prop} (hh : A.handled = none) (T : TxAt P w s.heap a S n) (hn : n < 64)
    (fin : ∀ (s' : Shared) (L : Addr) (ys : List Str) (out : List Value) (ep : Nat), ys.Nodup → (∀ x, x ∈ ys ↔ x ∈ S) → sortedS ys = true → StrsAre out ys → ys.length < 64 → s.heap.objs.size ≤ L → s'.heap.get? L = some (seqObj "list" out.toArray ep) →
      (∀ b o, s.heap.get? b = some o → s'.heap.get? b = some o) → s'.gens = s.gens → s'.os = s.os → Q (.ref L) s') :
    wpAny (model P w) A (call (.builtin "sorted") [.ref a]) Q E s := by
  obtain ⟨o, es, ep, t, ho, hex, hd, T, hle⟩ := T
  refine Calls.call_function_entry PyProof.Rows.kind_sorted PyProof.Rows.plain_sorted PyProof.Rows.entry_sorted (PyProof.Rows.args_sorted1 _) ?_
  unfold Builtin.«sorted»
  refine wpAny_bind (m := checkCount "sorted" 1 1 _) (wpAny_pure ?_)
  refine wpAny_bind (collect_set (A := A.in1) hh ⟨o, ho, hex.1, hd⟩ T.fit T.few T.ris T.led fun s1 vs k1 hz g1 o1 pm => ?_)
  have hS : StrsAre vs (vs.map strOf) := strsAre_map vs fun v hv => by
    obtain ⟨e, he, rfl⟩ := List.mem_map.mp (pm.mem_iff.mp hv)
    obtain ⟨x, u, rfl⟩ := T.all e he
    exact ⟨x, u, rfl⟩
  have ek : (es.toList.map (·.2)).map strOf = es.toList.map tx := by
    rw [List.map_map]
    refine List.map_congr_left fun e he => ?_
    obtain ⟨x, u, rfl⟩ := T.all e he
    rfl
  have pk : (vs.map strOf).Perm (es.toList.map tx) := by
    rw [← ek]
    exact pm.map strOf
  have hlen : vs.length < 64 := by
    rw [pm.length_eq, List.length_map, Array.length_toList]
    omega
  refine wpAny_bind (wpAny_newList ?_ (by rw [sizeLine_eq]; omega))
  have hoL : (s1.heap.push (seqObj "list" vs.toArray 0)).get? s1.heap.objs.size = some (seqObj "list" vs.toArray 0) := Heap.get?_push_size _ rfl
  refine wpAny_bind (wpAny_holding (wpAny_call_entry PyProof.Rows.slot_list_sort ⟨_, hoL, rfl⟩ PyProof.Rows.entry_list_sort
    (list_sort_treeK strKind_oneLt (s := { s1 with heap := s1.heap.push (seqObj "list" vs.toArray 0) }) hoL hS.keysOf (fun v₁ v₂ rest e => keyKind_strs (by rw [← e]; exact hS)) hlen fun st' hp hs => ⟨_, rfl, ?_⟩)
    (PyProof.Rows.args_list_sort _)))
  obtain ⟨ys, g1', g2', g3'⟩ := sorted_out_str hS hp hs
  obtain ⟨e', he'⟩ := PyProof.Rows.sortedHeap_at (vs := vs) (out := (arrOf st').map (·.2)) hoL
  have pe := g2'.trans pk
  refine wpAny_pure ?_
  refine ⟨_, rfl, ?_⟩
  refine fin { s1 with heap := PyProof.Rows.sortedHeap (s1.heap.push (seqObj "list" vs.toArray 0)) s1.heap.objs.size vs ((arrOf st').map (·.2)) } s1.heap.objs.size ys ((arrOf st').map (·.2)).toList e' (pe.nodup_iff.mpr T.once) (fun x => pe.mem_iff.trans (T.mem x).symm) g3' g1' (by rw [g2'.length_eq, List.length_map]; exact hlen) hz (by rw [Array.toArray_toList]; exact he') (fun b u e => ?_) g1 o1
  have hb : b < s1.heap.objs.size := Nat.lt_of_lt_of_le (Heap.lt_size e) hz
  show (PyProof.Rows.sortedHeap _ _ _ _).get? b = _
  rw [PyProof.Rows.sortedHeap_old (Nat.ne_of_lt hb) (by rw [size_push']; exact Nat.lt_succ_of_lt hb)]
  exact Heap.get?_push_of_some _ (k1 b u e)
end
/-! ### the order of texts, in plain -/
def ltS (a b : Str) : Bool := decide (a.cps.toList < b.cps.toList)
def insS (x : Str) : List Str → List Str
  | [] => [x]
  | y :: r => if ltS y x then y :: insS x r else x :: y :: r
def sortS : List Str → List Str
  | [] => []
  | x :: r => insS x (sortS r)
def dedS : List Str → List Str
  | [] => []
  | x :: r => if r.elem x then dedS r else x :: dedS r
/-- sorted(set(ss)) -/
def setS (ss : List Str) : List Str := sortS (dedS ss)
def leS (a b : Str) : Prop := ltS b a = false
theorem leS_trans {a b c : Str} (h : leS a b) (h' : leS b c) : leS a c := by
  unfold leS ltS at *
  simp only [decide_eq_false_iff_not] at *
  exact List.not_lt.mpr (List.le_trans (List.not_lt.mp h) (List.not_lt.mp h'))
theorem leS_total (a b : Str) : leS a b ∨ leS b a := by
  unfold leS ltS
  simp only [decide_eq_false_iff_not]
  by_cases h : b.cps.toList < a.cps.toList
  · exact .inr fun z => List.lt_irrefl _ (List.lt_trans h z)
  · exact .inl h
theorem str_ext {a b : Str} (h : a.cps.toList = b.cps.toList) : a = b := by
  obtain ⟨⟨a⟩⟩ := a
  obtain ⟨⟨b⟩⟩ := b
  have h : a = b := h
  rw [h]
theorem leS_anti {a b : Str} (h : leS a b) (h' : leS b a) : a = b := by
  unfold leS ltS at *
  simp only [decide_eq_false_iff_not] at *
  exact str_ext (List.le_antisymm (List.not_lt.mp h) (List.not_lt.mp h'))
theorem insS_perm (x : Str) : ∀ r : List Str, (insS x r).Perm (x :: r)
  | [] => List.Perm.refl _
  | y :: r => by
    unfold insS
    split
    · exact ((insS_perm x r).cons y).trans (List.Perm.swap x y r)
    · exact List.Perm.refl _
theorem sortS_perm : ∀ r : List Str, (sortS r).Perm r
  | [] => List.Perm.refl _
  | x :: r => (insS_perm x (sortS r)).trans ((sortS_perm r).cons x)
theorem insS_rises (x : Str) : ∀ r : List Str, r.Pairwise leS → (insS x r).Pairwise leS
  | [], _ => List.pairwise_singleton _ _
  | y :: r, h => by
    obtain ⟨h1, h2⟩ := List.pairwise_cons.mp h
    unfold insS
    split
    · rename_i c
      refine List.pairwise_cons.mpr ⟨fun z hz => ?_, insS_rises x r h2⟩
      rcases List.mem_cons.mp ((insS_perm x r).mem_iff.mp hz) with rfl | m
      · rcases leS_total y z with q | q
        · exact q
        · unfold leS at q
          rw [c] at q
          cases q
      · exact h1 z m
    · rename_i c
      have c : leS x y := by
        unfold leS
        simpa using c
      refine List.pairwise_cons.mpr ⟨fun z hz => ?_, h⟩
      rcases List.mem_cons.mp hz with rfl | m
      · exact c
      · exact leS_trans c (h1 z m)
theorem sortS_rises : ∀ r : List Str, (sortS r).Pairwise leS
  | [] => List.Pairwise.nil
  | x :: r => insS_rises x _ (sortS_rises r)
theorem dedS_mem : ∀ (r : List Str) (x : Str), x ∈ dedS r ↔ x ∈ r
  | [], x => Iff.rfl
  | y :: r, x => by
    unfold dedS
    split
    · rename_i c
      rw [dedS_mem r x, List.mem_cons]
      exact ⟨.inr, fun z => z.elim (fun e => e ▸ (by simpa using c)) id⟩
    · rw [List.mem_cons, List.mem_cons, dedS_mem r x]
theorem dedS_nodup : ∀ r : List Str, (dedS r).Nodup
  | [] => List.nodup_nil
  | y :: r => by
    unfold dedS
    split
    · exact dedS_nodup r
    · rename_i c
      refine List.nodup_cons.mpr ⟨fun z => c ?_, dedS_nodup r⟩
      have z := (dedS_mem r y).mp z
      simpa using z
theorem rising_pw : ∀ (l : List Str) (p : Str), risingS p l = true → (p :: l).Pairwise leS
  | [], p, _ => List.pairwise_singleton _ _
  | x :: r, p, h => by
    unfold risingS at h
    simp only [Bool.and_eq_true, Bool.not_eq_true'] at h
    have c : leS p x := by
      unfold leS ltS
      rw [← ltCps_eq]
      exact h.1
    have t := rising_pw r x h.2
    refine List.pairwise_cons.mpr ⟨fun z hz => ?_, t⟩
    rcases List.mem_cons.mp hz with rfl | m
    · exact c
    · exact leS_trans c ((List.pairwise_cons.mp t).1 z m)
theorem sorted_pw : ∀ (l : List Str), sortedS l = true → l.Pairwise leS
  | [], _ => List.Pairwise.nil
  | x :: r, h => rising_pw r x h
theorem sortS_uniq {ys zs : List Str} (p : ys.Perm zs) (h : sortedS ys = true) : ys = sortS zs :=
  List.Perm.eq_of_pairwise (le := leS) (fun _ _ _ _ a b => leS_anti a b) (sorted_pw _ h) (sortS_rises zs) (p.trans (sortS_perm zs).symm)
theorem setS_uniq {ys ss : List Str} (nd : ys.Nodup) (hm : ∀ x, x ∈ ys ↔ x ∈ ss) (h : sortedS ys = true) : ys = setS ss :=
  sortS_uniq ((List.perm_ext_iff_of_nodup nd (dedS_nodup ss)).mpr fun x => (hm x).trans (dedS_mem ss x).symm) h
theorem setS_mem {ss : List Str} {x : Str} : x ∈ setS ss ↔ x ∈ ss := ((sortS_perm _).mem_iff).trans (dedS_mem ss x)
theorem setS_nodup (ss : List Str) : (setS ss).Nodup := (sortS_perm _).nodup_iff.mpr (dedS_nodup ss)
/-- sorted(set(e)) -/
def rSS (K : PySem.W.Frag) (xs : List V) (H : Hp) (Q : VK) : Prop := ∃ (l : Addr) (ss : List Str), xs = [.ref l] ∧ (SqL K H l (ss.map V.str) ∨ SqT K H l (ss.map V.str)) ∧ ss.length < 64 ∧ ∀ p, H p = none → Q (.ref p) (upd H p (.lst ((setS ss).map V.str)))
theorem vals_strs : ∀ {ss : List Str} {us : List Value}, Vals (ss.map V.str) us → StrsAre us ss
  | [], _, .nil => .nil
  | x :: ss, _, .cons r t => by
    obtain ⟨u, rfl⟩ := r
    exact .cons x u (vals_strs t)
theorem Inv.drawn {X : Cx} {pins : List (Addr × Obj)} {σ : L2.St} {H : Hp} {s s' : Shared} {k : Nat} (I : Inv X pins σ H { s with heap := s'.heap, toks := k }) (hg : s'.gens = s.gens) (ho : s'.os = s.os) : Inv X pins σ H s' :=
  ⟨I.ok, ho.trans I.os, by rw [hg]; exact I.bare, I.base, I.loc, I.cell, I.free, I.freeC, I.pin, I.hok, I.len⟩
theorem pe_sortSet {X : Cx} {a : Expr} {ta : TE} {p p2 q pos : Pos} (hc : X.calm = true) (hg : Gl X "sorted") (hm : X.mg "sorted" = none) (hg2 : Gl X "set") (hm2 : X.mg "set" = none) (ha : PE X a ta)
    (na : starEach [a] X.env = (false, eval a X.env) :: starEach [] X.env := by rfl) : PE X (.Call (.Name "sorted" p) [.Call (.Name "set" p2) [a] [] q] [] pos) (tCB (rSS X.K) (tCons ta tNil)) := by
  refine ⟨fun pins s σ H Q I h => ?_⟩
  refine Call_ (ld_blt I hg hm (show bootBuiltins "sorted" = some (.builtin "sorted") by decide +kernel) ?_)
  refine PyProof.Rows.callWith_builtin1 (PyProof.Rows.args_cons ?_ rfl) rfl rfl
  refine Call_ (ld_blt I hg2 hm2 (show bootBuiltins "set" = some (.type "set") by decide +kernel) ?_)
  refine PyProof.Rows.callWith_type1 (PyProof.Rows.args_cons (thn (ha.run pins s σ H _ I h) fun v s1 ⟨x, H1, I1, r1, q1⟩ => PyProof.Rows.args_nil ?_) na) na rfl
  obtain ⟨l, ss, ex, hq, h64, q1⟩ := q1
  have ex : x = .ref l := (List.cons.inj ex).1
  subst ex
  cases r1
  have few : ss.length + 1 < scanBound := by
    unfold scanBound
    omega
  have hh := I1.ok.hd hc
  have fin : ∀ (h' : Heap) (k : Nat), TxAt X.prog X.w h' s1.heap.objs.size ss ss.length → (∀ b o, s1.heap.get? b = some o → h'.get? b = some o) →
      wpAny (model X.prog X.w) X.A (spliced (backTo pos (starEach [] X.env))) (fun vs s₂ => wpAny (model X.prog X.w) X.A (call (Value.builtin "sorted") (Value.ref s1.heap.objs.size :: vs)) (EP X pins σ Q) X.xe s₂) X.xe { s1 with heap := h', toks := k } := fun h' k T old => by
    have I2 : L2.Inv X pins σ H1 { s1 with heap := h', toks := k } := I1.kept old
    refine PyProof.Rows.args_nil (txt_sorted (s := { s1 with heap := h', toks := k }) hh T h64 fun s' L ys out ep nd hm srt hs h64' hsz hL old2 hg ho => ?_)
    have e := setS_uniq nd hm srt
    subst e
    have hz : ((setS ss).map V.str).length ≤ sizeLine := by
      rw [List.length_map, sizeLine_eq]
      omega
    have I3 : L2.Inv X pins σ (upd H1 L (.lst ((setS ss).map V.str))) { { s1 with heap := h', toks := k } with heap := s'.heap, toks := k } :=
      I2.laid old2 hsz (show ObjOk X.prog X.w _ _ _ (.lst ((setS ss).map V.str)) from ⟨hz, out, ep, vals_of_strs hs, hL⟩)
    exact ⟨.ref L, _, Inv.drawn I3 hg ho, rfl, q1 L (I2.hok.fresh hsz)⟩
  rcases hq with hq | hq
  · obtain ⟨its, r, pl, hz⟩ := I1.list hq
    exact txt_set ss hh pl.isList (by simpa using vals_strs r) few fin
  · obtain ⟨its, r, pl, hz⟩ := I1.tuple hq
    exact txt_setT ss hh pl (by simpa using vals_strs r) few fin
def dSortSet : D → Option D
  | .list ds => (strsOf ds).bind fun ss => if ss.length < 64 then some (.list ((setS ss).map .str)) else none
  | .tuple ds => (strsOf ds).bind fun ss => if ss.length < 64 then some (.list ((setS ss).map .str)) else none
  | _ => none
variable [TabsC]
section
variable {F : Fam} {K : PySem.W.Frag}
theorem mna_strs {H : Hp} : ∀ (ss : List Str), MnA K H (ss.map .str) (ss.map V.str)
  | [] => by simp [MnA]
  | x :: ss => by
    simp only [MnA, List.map_cons]
    exact ⟨.str x, ss.map V.str, rfl, by simp [Mn], mna_strs ss⟩
theorem calls_sortSet : CallS K .au (rSS K) (f1 dSortSet) := fun hid H ds z vs Q k rs hf q => by
  match ds, hf with
  | [d], hf =>
    obtain ⟨v, rfl, r⟩ := rma1 rs
    have hf : dSortSet d = some z := hf
    have fin : ∀ {ds : List D} {xs : List V} {a : Addr}, ((strsOf ds).bind fun ss => if ss.length < 64 then some (PyData.list ((setS ss).map .str)) else none) = some z → MnA K (hide hid H) ds xs → (SqL K H a xs ∨ SqT K H a xs) → rSS K [.ref a] H Q := fun {ds xs a} hf h2 h1 => by
      cases hb : strsOf ds with
      | none => rw [hb] at hf; cases hf
      | some bs =>
        rw [hb] at hf
        have hf : (if bs.length < 64 then some (PyData.list ((setS bs).map .str)) else none) = some z := hf
        split at hf
        · rename_i hl
          cases hf
          have := strsOf_eq hb
          subst this
          have := h2.strs
          subst this
          exact ⟨a, bs, rfl, h1, hl, fun p hp => q _ _ (Ex.new hp) (au_list hp (mna_strs _))⟩
        · cases hf
    cases d with
    | list ds =>
      obtain ⟨a, xs, rfl, h1, h2⟩ := bo_list r
      exact fin hf h2 (.inl (SqL.of h1))
    | tuple ds =>
      obtain ⟨a, xs, rfl, h1, h2⟩ := bo_tup r
      exact fin hf h2 (.inr (Evl.ex_t hide_ex h1))
    | str x => cases hf
    | dict ps => cases hf
    | none => cases hf
    | bool _ => cases hf
    | int _ => cases hf
theorem de_sortSet {ma : Md} {e : Expr} {g : GE} {p p2 q pos : Pos} (hm : F.mg "sorted" = none) (hm2 : F.mg "set" = none) (h : DE F ma e g) (hg : F.sn.lookup ("sorted" : Str) = some .globalImplicit := by rfl) (hg2 : F.sn.lookup ("set" : Str) = some .globalImplicit := by rfl)
    (he : ∀ env, starEach [e] env = (false, eval e env) :: starEach [] env := by intro _; rfl) (hc : F.hot = false := by rfl) : DE F .au (.Call (.Name "sorted" p) [.Call (.Name "set" p2) [e] [] q] [] pos) (eCl (f1 dSortSet) (aCons g aNil)) := by
  obtain ⟨te, h1, h2⟩ := de_any h
  refine ⟨tCB (rSS F.K) (tCons te tNil), fun i => ?_, sem_cl (sem_cons h2 sem_nil) calls_sortSet⟩
  have z := pe_sortSet (p := p) (p2 := p2) (q := q) (pos := pos) (F.calm hc i) (gl_of hg i) (by rw [F.hmg]; exact hm) (gl_of hg2 i) (by rw [F.hmg]; exact hm2) (h1 i) (he _)
  rw [F.hK i] at z
  exact z
/-- sorted(d): the keys of a dict, all texts -/
def dSorted : D → Option D
  | .dict ps => (strsOf (ps.map (·.1))).bind fun ks => if ks.length < 64 then some (.list ((sortS ks).map .str)) else none
  | _ => none
theorem keys_strs : ∀ {ps : List (D × D)} {kvs : List (Key × V)} {ks : List Str} {H : Hp}, MnK K H ps kvs → strsOf (ps.map (·.1)) = some ks → kvs.map (·.1) = ks.map Sum.inr
  | [], kvs, ks, H, h, e => by
    simp only [MnK] at h
    subst h
    cases e
    rfl
  | (k, d) :: ps, kvs, ks, H, h, e => by
    simp only [MnK] at h
    obtain ⟨q, v, r, rfl, hk, _, h3⟩ := h
    rw [List.map_cons] at e
    cases q with
    | inl i =>
      simp only [kD] at hk
      subst hk
      cases e
    | inr x =>
      simp only [kD] at hk
      subst hk
      have e : (strsOf (ps.map (·.1))).map (x :: ·) = some ks := e
      cases hs : strsOf (ps.map (·.1)) with
      | none => rw [hs] at e; cases e
      | some r' =>
        rw [hs] at e
        cases e
        rw [List.map_cons, List.map_cons, keys_strs h3 hs]
theorem calls_sorted : CallS K .au (fun xs H Q => ∃ (a : Addr) (kvs : List (Key × V)) (ks : List Str), xs = [.ref a] ∧ Rd H a (.dK kvs) ∧ kvs.map (·.1) = ks.map Sum.inr ∧ ks.length < 64 ∧
    ∀ ys p, ys.Perm ks → sortedS ys = true → H p = none → Q (.ref p) (upd H p (.lst (ys.map V.str)))) (f1 dSorted) := fun hid H ds z vs Q k rs hf q => by
  match ds, hf with
  | [d], hf =>
    obtain ⟨v, rfl, r⟩ := rma1 rs
    have hf : dSorted d = some z := hf
    cases d with
    | dict ps =>
      have hf : ((strsOf (ps.map (·.1))).bind fun ks => if ks.length < 64 then some (PyData.list ((sortS ks).map .str)) else none) = some z := hf
      cases hb : strsOf (ps.map (·.1)) with
      | none => rw [hb] at hf; cases hf
      | some ks =>
        rw [hb] at hf
        have hf : (if ks.length < 64 then some (PyData.list ((sortS ks).map .str)) else none) = some z := hf
        split at hf
        · rename_i hl
          cases hf
          rcases bo_dict r with ⟨a, kvs, rfl, h1, h2⟩ | ⟨a, ns, rfl, h1, rfl⟩ | ⟨b, d, rfl⟩
          · refine ⟨a, kvs, ks, rfl, .inl h1, keys_strs h2 hb, hl, fun ys p hy hs hp => ?_⟩
            have := sortS_uniq hy hs
            subst this
            exact q _ _ (Ex.new hp) (au_list hp (mna_strs _))
          · cases hb
          · cases hb
        · cases hf
    | list ds => cases hf
    | tuple ds => cases hf
    | str x => cases hf
    | none => cases hf
    | bool _ => cases hf
    | int _ => cases hf
theorem de_sorted {ma : Md} {e : Expr} {g : GE} {p pos : Pos} (hm : F.mg "sorted" = none) (h : DE F ma e g) (hg : F.sn.lookup ("sorted" : Str) = some .globalImplicit := by rfl)
    (he : ∀ env, starEach [e] env = [(false, eval e env)] := by intro _; rfl) (hc : F.hot = false := by rfl) : DE F .au (.Call (.Name "sorted" p) [e] [] pos) (eCl (f1 dSorted) (aCons g aNil)) :=
  de_callB (fun i => call_sortedD (F.calm hc i)) calls_sorted hm (by decide +kernel) (da_cons (de_any h) da_nil he) hg (by decide) (by decide) he (by intro _; rfl)
end
end DL
set_option Elab.async false
set_option linter.all false
set_option maxRecDepth 100000
set_option maxHeartbeats 4000000
/-! ### dicts: made, read, changed -/
namespace DL
open PySem PySem.Spec PyProof.Rows L2
variable [TabsC]
section
variable {K : PySem.W.Frag} {H : Hp}
def putD (ps : List (D × D)) (k : Key) (d : D) : List (D × D) :=
  if (ps.any fun p => decide (keyOf p.1 = some k)) = true then ps.map (fun p => if keyOf p.1 = some k then (p.1, d) else p) else ps ++ [(kD k, d)]
def dropD (ps : List (D × D)) (k : Key) : List (D × D) := ps.filter fun p => decide (keyOf p.1 ≠ some k)
def mergeD (ps : List (D × D)) (more : List (Key × D)) : List (D × D) := more.foldl (fun acc p => putD acc p.1 p.2) ps
theorem MnK.any {k : Key} : ∀ {ps : List (D × D)} {kvs : List (Key × V)}, MnK K H ps kvs → (kvs.any fun kv => decide (kv.1 = k)) = ps.any fun p => decide (keyOf p.1 = some k)
  | [], kvs, h => by
    simp only [MnK] at h
    subst h
    rfl
  | (q, d) :: ps, kvs, h => by
    simp only [MnK] at h
    obtain ⟨k', v, r, rfl, rfl, h2, h3⟩ := h
    rw [List.any_cons, List.any_cons, MnK.any h3]
    simp only [keyOf_kD, Option.some.injEq]
theorem MnK.snoc {k : Key} {d : D} {v : V} : ∀ {ps : List (D × D)} {kvs : List (Key × V)}, MnK K H ps kvs → Mn K H d v → MnK K H (ps ++ [(kD k, d)]) (kvs ++ [(k, v)])
  | [], kvs, h, m => by
    simp only [MnK] at h
    subst h
    simp only [List.nil_append, MnK]
    exact ⟨k, v, [], rfl, rfl, m, rfl⟩
  | (q, d') :: ps, kvs, h, m => by
    simp only [MnK] at h
    obtain ⟨k', v', r, rfl, rfl, h2, h3⟩ := h
    simp only [List.cons_append, MnK]
    exact ⟨k', v', r ++ [(k, v)], rfl, rfl, h2, h3.snoc m⟩
theorem MnK.repl {k : Key} {d : D} {v : V} : ∀ {ps : List (D × D)} {kvs : List (Key × V)}, MnK K H ps kvs → Mn K H d v → MnK K H (ps.map fun p => if keyOf p.1 = some k then (p.1, d) else p) (kvs.map fun kv => if kv.1 = k then (kv.1, v) else kv)
  | [], kvs, h, m => by
    simp only [MnK] at h
    subst h
    simp only [List.map_nil, MnK]
  | (q, d') :: ps, kvs, h, m => by
    simp only [MnK] at h
    obtain ⟨k', v', r, rfl, rfl, h2, h3⟩ := h
    simp only [List.map_cons, keyOf_kD, Option.some.injEq]
    by_cases e : k' = k
    · rw [if_pos e, if_pos e]
      simp only [MnK]
      exact ⟨k', v, _, rfl, rfl, m, h3.repl m⟩
    · rw [if_neg e, if_neg e]
      simp only [MnK]
      exact ⟨k', v', _, rfl, rfl, h2, h3.repl m⟩
theorem MnK.put {k : Key} {d : D} {v : V} {ps : List (D × D)} {kvs : List (Key × V)} (h : MnK K H ps kvs) (m : Mn K H d v) : MnK K H (putD ps k d) (putK kvs k v) := by
  unfold putD putK
  rw [h.any]
  split
  · exact h.repl m
  · exact h.snoc m
theorem MnK.drop {k : Key} : ∀ {ps : List (D × D)} {kvs : List (Key × V)}, MnK K H ps kvs → MnK K H (dropD ps k) (dropK kvs k)
  | [], kvs, h => by
    simp only [MnK] at h
    subst h
    simp only [dropD, dropK, List.filter_nil, MnK]
  | (q, d') :: ps, kvs, h => by
    simp only [MnK] at h
    obtain ⟨k', v', r, rfl, rfl, h2, h3⟩ := h
    have ih := h3.drop (k := k)
    unfold dropD dropK at ih ⊢
    by_cases e : k' = k
    · rw [List.filter_cons_of_neg (by simp [keyOf_kD, e]), List.filter_cons_of_neg (by simp [e])]
      exact ih
    · rw [List.filter_cons_of_pos (by simp [keyOf_kD, e]), List.filter_cons_of_pos (by simp [e])]
      simp only [MnK]
      exact ⟨k', v', _, rfl, rfl, h2, ih⟩
/-- pairs, their values meant -/
def MnP (K : PySem.W.Frag) (H : Hp) : List (Key × D) → List (Key × V) → Prop
  | [], kvs => kvs = []
  | (k, d) :: ps, kvs => ∃ v r, kvs = (k, v) :: r ∧ Mn K H d v ∧ MnP K H ps r
theorem MnK.merge : ∀ {more : List (Key × D)} {ms : List (Key × V)} {ps : List (D × D)} {kvs : List (Key × V)}, MnP K H more ms → MnK K H ps kvs → MnK K H (mergeD ps more) (mergeK kvs ms)
  | [], ms, ps, kvs, h, h0 => by
    simp only [MnP] at h
    subst h
    exact h0
  | (k, d) :: more, ms, ps, kvs, h, h0 => by
    simp only [MnP] at h
    obtain ⟨v, r, rfl, m, h3⟩ := h
    show MnK K H (mergeD (putD ps k d) more) (mergeK (putK kvs k v) r)
    exact MnK.merge h3 (h0.put m)
def keysD : List (D × D) → Option (List (Key × D))
  | [] => some []
  | (k, d) :: ps => (keyOf k).bind fun k => (keysD ps).map ((k, d) :: ·)
theorem MnK.toP : ∀ {ps : List (D × D)} {kvs : List (Key × V)}, MnK K H ps kvs → ∃ m, keysD ps = some m ∧ MnP K H m kvs
  | [], kvs, h => by
    simp only [MnK] at h
    subst h
    exact ⟨[], rfl, rfl⟩
  | (q, d) :: ps, kvs, h => by
    simp only [MnK] at h
    obtain ⟨k', v', r, rfl, rfl, h2, h3⟩ := h
    obtain ⟨m, e, hm⟩ := h3.toP
    refine ⟨(k', d) :: m, ?_, ?_⟩
    · simp only [keysD, keyOf_kD, e, Option.bind_some, Option.map_some]
    · simp only [MnP]
      exact ⟨v', r, rfl, h2, hm⟩
theorem putD_len (ps : List (D × D)) (k : Key) (d : D) : (putD ps k d).length ≤ ps.length + 1 := by
  unfold putD
  split <;> simp
/-- a dict that is none of the opaque ones -/
def isDct (ps : List (D × D)) : Bool := (keysD ps).isSome
theorem bo_dct {hid : List Addr} {H H' : Hp} {ps : List (D × D)} {v : V} (h : Rm K .bo hid H H' (.dict ps) v) (hd : isDct ps = true) : ∃ a kvs, v = .ref a ∧ H' a = some (.dK kvs) ∧ MnK K (hide hid H') ps kvs := by
  rcases bo_dict h with h | ⟨a, ns, _, _, rfl⟩ | ⟨b, d, rfl⟩
  · exact h
  · cases hd
  · cases hd
theorem au_dict {hid : List Addr} {H : Hp} {p : Addr} {ps : List (D × D)} {kvs : List (Key × V)} (hp : H p = none) (h : MnK K (hide hid H) ps kvs) : Rm K .au hid H (upd H p (.dK kvs)) (.dict ps) (.ref p) := by
  unfold Rm
  dsimp only
  refine (if_pos (show isCon (PyData.dict ps) = true from rfl)).mpr ?_
  exact ⟨p, rfl, new_of hp, kvs, upd_same, MnK.mono (hide_new (new_of hp) (Ex.new hp)) ps kvs h⟩
end
section
variable {F : Fam} {rm : Md} {K : PySem.W.Frag}
/-! ### {} -/
def eDict0 : GE := fun _ => .ok (.dict [])
theorem de_dict0 {pos : Pos} : DE F .au (.Dict [] [] pos) eDict0 :=
  ⟨tDNewK, fun i => pe_dnewK, fun H0 hid0 s ρ S Q q p hp => q _ _ (Ex.new hp) (au_dict hp (by simp only [MnK]))⟩
/-! ### x.get(k, z) -/
def eGet (a b c : GE) : GE := fun ρ => (a ρ).bind fun x => match x with
  | .dict ps => bif isDct ps then (b ρ).bind fun k => (c ρ).bind fun z => match keyOf k with
    | some k => .ok ((getK ps k).getD z)
    | none => .stuck
    else .stuck
  | _ => .stuck
theorem key_at {hid : List Addr} {H H' : Hp} {k : Key} {v : V} (h : Rm K .bo hid H H' (kD k) v) : v = kV k := by
  cases k with
  | inl i => exact bo_int h
  | inr x => exact bo_str h
theorem de_get {ma mb : Md} {o e f : Expr} {ga gb gc : GE} {apos cpos : Pos} (ha : DE F ma o ga) (hb : DE F mb e gb) (hc : DE F .fz f gc) (h1 : ∀ env, attributeBase o "get" env (eval o env) = eval o env := by intro _; rfl)
    (h2 : ∀ env, ((backTo cpos (starEach [e, f] env)).all (fun x => !x.1) && (backToKw cpos (keywordEach [] env)).all (fun x => x.1.isSome)
    && decide (([e, f] : List Expr).length + ([] : List Keyword).length + (if ([] : List Keyword).isEmpty then 0 else 1) < 30)) = true := by intro _; rfl) (h3 : (apos.endLine == cpos.line) = true := by rfl)
    (h4 : ∀ env, backTo cpos (starEach [e, f] env) = [(false, eval e env), (false, eval f env)] := by intro _; rfl) : DE F .fz (.Call (.Attribute o "get" apos) [e, f] [] cpos) (eGet ga gb gc) := by
  obtain ⟨ta, pa, sa⟩ := de_any ha
  obtain ⟨tb, pb, sb⟩ := de_any hb
  obtain ⟨tc, pc, sc⟩ := hc
  refine ⟨tDGet2 ta tb tc, fun i => pe_dget2 (hu1 i) (pa i) (pb i) (pc i) ⟨h1 _, h2 _, h3, h4 _⟩, fun H0 hid0 s ρ S Q q => sa H0 hid0 s ρ S _ ?_⟩
  unfold eGet at q
  split
  · rename_i x hx
    rw [hx, bind_ok] at q
    intro v H1 e1 r1
    cases x with
    | dict ps =>
      dsimp only at q
      cases hd : isDct ps with
      | false => rw [hd] at q; exact q.elim
      | true =>
        rw [hd] at q
        have q : _ := q
        simp only [cond_true] at q
        obtain ⟨a, kvs, rfl, g1, g2⟩ := bo_dct r1 hd
        refine ⟨a, rfl, .inl ⟨kvs, .inl g1⟩, sb H0 hid0 { s with H := H1 } ρ (S.ext e1) _ ?_⟩
        split
        · rename_i k hk
          rw [hk, bind_ok] at q
          intro u H2 e2 r2
          refine sc H0 hid0 { s with H := H2 } ρ ((S.ext e1).ext e2) _ ?_
          split
          · rename_i z hz
            rw [hz, bind_ok] at q
            intro w H3 e3 r3
            cases hk2 : keyOf k with
            | none => rw [hk2] at q; exact q.elim
            | some k' =>
              rw [hk2] at q
              have := keyOf_eq hk2
              subst this
              have hu := key_at r2
              subst hu
              have g1' := (e2.trans e3).d g1
              have g2' := MnK.mono (hide_mono (hid := s.hid) (e2.trans e3)) ps kvs g2
              refine ⟨_, DGet.k g1', q _ _ ((e1.trans e2).trans e3) ?_⟩
              obtain ⟨z1, z2⟩ := MnK.get (k := k') g2'
              show Mn F.K (hide s.hid H3) _ _
              cases hg : getK ps k' with
              | none =>
                rw [z2 hg]
                exact r3
              | some d =>
                obtain ⟨v, hv, mv⟩ := z1 d hg
                rw [hv]
                exact mv
          · rename_i c hz
            rw [hz, bind_err] at q
            exact fun H3 e3 => q H3 ((e1.trans e2).trans e3)
          · rename_i hz
            rw [hz, bind_stuck] at q
            exact q
        · rename_i c hk
          rw [hk, bind_err] at q
          exact fun H2 e2 => q H2 (e1.trans e2)
        · rename_i hk
          rw [hk, bind_stuck] at q
          exact q
    | none => exact q.elim
    | bool _ => exact q.elim
    | int _ => exact q.elim
    | str _ => exact q.elim
    | list _ => exact q.elim
    | tuple _ => exact q.elim
  · rename_i c hx
    rw [hx, bind_err] at q
    exact q
  · rename_i hx
    rw [hx, bind_stuck] at q
    exact q
/-! ### x[k] = e, x a dict -/
def sPutD (i : Nat) (gk ge : GE) : GS := fun ρ => match ρ[i]? with
  | some (some (.dict ps)) => (ge ρ).bind fun d => (gk ρ).bind fun k => match keyOf k with
    | some k => bif decide (ps.length < 1000000) then .ok (.nx (ρ.set i (some (.dict (putD ps k d))))) else .stuck
    | none => .stuck
  | _ => .stuck
theorem ds_dput (i : Nat) {x : Str} {e ei : Expr} {g gi : GE} {p p1 pos : Pos} (h : DE F .fz e g) (hi : DE F .fz ei gi) (hN : F.N[i]? = some x := by rfl) (hv : visB F.sn x = true := by rfl) (hO : F.O i = some true := by rfl)
    (hs : ∀ env, swapsWith e (some (.Subscript (.Name x p) ei p1)) pos.line env = pure false := by intro _; rfl)
    (hd : (x == ("__debug__" : Str)) = false := by decide) (hcd : (x == ("__classdict__" : Str)) = false := by decide) : DS F rm (.Assign [.Subscript (.Name x p) ei p1] e pos) (sPutD i gi g) := by
  obtain ⟨te, pe, se⟩ := h
  obtain ⟨ti, pi, si⟩ := hi
  refine ⟨L2.sDPut (tVar i) ti te, fun j => ps_dput (hu1 j) (pe_var (pos := p) (i := i) (by rw [F.hN]; exact hN) (vis_of (by rw [F.hsn]; exact hv)) hd hcd) (pi j) (pe j) (hs _), fun H0 hid0 s ρ S Dn q => ?_⟩
  unfold DL.sPutD at q
  split at q
  · rename_i ds hi
    obtain ⟨a, h1, h2, xs, h3, h4⟩ := S.ow i _ hO hi
    obtain ⟨ha, hn⟩ := S.oh i a h2
    refine se H0 hid0 s ρ S _ ?_
    split
    · rename_i d hd'
      rw [hd', bind_ok] at q
      intro v H1 e1 r1
      refine ⟨.ref a, h1, si H0 hid0 { s with H := H1 } ρ (S.ext e1) _ ?_⟩
      split
      · rename_i k hk
        rw [hk, bind_ok] at q
        intro u H2 e2 r2
        cases hk2 : keyOf k with
        | none => rw [hk2] at q; exact q.elim
        | some k' =>
          rw [hk2] at q
          dsimp only at q
          have := keyOf_eq hk2
          subst this
          have hu := key_at (rm_bo r2)
          subst hu
          cases hz : decide (ds.length < 1000000) with
          | false => rw [hz] at q; exact q.elim
          | true =>
            rw [hz] at q
            simp only [cond_true] at q
            have hz : ds.length < 1000000 := by simpa using hz
            have h4' : MnK F.K (hide s.hid s.H) ds xs := by rw [hide_dup ha] at h4; exact h4
            have S' := (S.ext e1).ext e2
            have mn : MnK F.K (hide s.hid H2) (putD ds k' d) (putK xs k' v) := (MnK.mono (hide_mono (e1.trans e2)) _ _ h4').put (Mn.mono (hide_mono e2) d v r1)
            obtain ⟨S2, w2⟩ := S'.put (o := .dK (putK xs k' v)) hO h1 h2 (ownD (s := { s with H := H2 }) ha mn)
            refine ⟨a, _, rfl, DPut.k (e2.d (e1.d h3)) ?_, q _ ((hide_mono (e1.trans e2)).trans w2) S2⟩
            rw [h4'.length]
            exact Nat.lt_of_lt_of_le hz (small_line (Nat.le_refl _))
      · rename_i c hk
        rw [hk, bind_err] at q
        exact fun H' e => q H' (S.ex0.trans (e1.trans e))
      · rename_i hk
        rw [hk, bind_stuck] at q
        exact q
    · rename_i c hd'
      rw [hd', bind_err] at q
      exact fun H' e => q H' (S.ex0.trans e)
    · rename_i hd'
      rw [hd', bind_stuck] at q
      exact q
  · exact q.elim
/-! ### x.pop(k), there -/
def sDPop (i : Nat) (gk : GE) : GS := fun ρ => match ρ[i]? with
  | some (some (.dict ps)) => (gk ρ).bind fun k => match keyOf k with
    | some k => bif (getK ps k).isSome then .ok (.nx (ρ.set i (some (.dict (dropD ps k))))) else .stuck
    | none => .stuck
  | _ => .stuck
theorem ds_dpop (i : Nat) {x : Str} {e : Expr} {g : GE} {p apos cpos pos : Pos} (h : DE F .fz e g) (hN : F.N[i]? = some x := by rfl) (hv : visB F.sn x = true := by rfl) (hO : F.O i = some true := by rfl)
    (h2 : ∀ env, ((backTo cpos (starEach [e] env)).all (fun x => !x.1) && (backToKw cpos (keywordEach [] env)).all (fun x => x.1.isSome)
    && decide (([e] : List Expr).length + ([] : List Keyword).length + (if ([] : List Keyword).isEmpty then 0 else 1) < 30)) = true := by intro _; rfl) (h3 : (apos.endLine == cpos.line) = true := by rfl)
    (h4 : ∀ env, backTo cpos (starEach [e] env) = [(false, eval e env)] := by intro _; rfl) (h1 : ∀ env, attributeBase (.Name x p) "pop" env (eval (.Name x p) env) = eval (.Name x p) env := by intro _; rfl)
    (hsw : ∀ env, swapsWith (.Call (.Attribute (.Name x p) "pop" apos) [e] [] cpos) none pos.line env = pure false := by intro _; rfl)
    (hd : (x == ("__debug__" : Str)) = false := by decide) (hcd : (x == ("__classdict__" : Str)) = false := by decide) : DS F rm (.Expr (.Call (.Attribute (.Name x p) "pop" apos) [e] [] cpos) pos) (sDPop i g) := by
  obtain ⟨te, pe, se⟩ := h
  refine ⟨tDrop (tDPop1 (tVar i) te), fun j => ps_expr (pe_dpop1 (pe_var (pos := p) (i := i) (by rw [F.hN]; exact hN) (vis_of (by rw [F.hsn]; exact hv)) hd hcd) (pe j) ⟨h1 _, h2 _, h3, h4 _⟩) (hsw _), fun H0 hid0 s ρ S Dn q => ?_⟩
  unfold sDPop at q
  split at q
  · rename_i ds hi
    obtain ⟨a, h1, h2, xs, h3, h4⟩ := S.ow i _ hO hi
    obtain ⟨ha, hn⟩ := S.oh i a h2
    refine ⟨.ref a, h1, a, rfl, .inl ⟨xs, .inl h3⟩, se H0 hid0 s ρ S _ ?_⟩
    split
    · rename_i k hk
      rw [hk, bind_ok] at q
      intro u H2 e2 r2
      cases hk2 : keyOf k with
      | none => rw [hk2] at q; exact q.elim
      | some k' =>
        rw [hk2] at q
        dsimp only at q
        have := keyOf_eq hk2
        subst this
        have hu := key_at (rm_bo r2)
        subst hu
        cases hz : getK ds k' with
        | none => rw [hz] at q; exact q.elim
        | some d =>
          rw [hz] at q
          simp only [Option.isSome_some, cond_true] at q
          have h4' : MnK F.K (hide s.hid H2) ds xs := by
            rw [hide_dup ha] at h4
            exact MnK.mono (hide_mono e2) _ _ h4
          obtain ⟨v, hv', _⟩ := (MnK.get (k := k') h4').1 d hz
          obtain ⟨S2, w2⟩ := (S.ext e2).put (o := .dK (dropK xs k')) hO h1 h2 (ownD (s := { s with H := H2 }) ha h4'.drop)
          exact ⟨xs, k', v, e2.d h3, rfl, hv', q _ ((hide_mono e2).trans w2) S2⟩
    · rename_i c hk
      rw [hk, bind_err] at q
      exact fun H' e => q H' (S.ex0.trans e)
    · rename_i hk
      rw [hk, bind_stuck] at q
      exact q
  · exact q.elim
/-! ### x.update(d) -/
theorem mt_dupd {X : Cx} : MtR X "dict.update" (fun x vs H Q => ∃ (a b : Addr) (kvs more : List (Key × V)), x = .ref a ∧ vs = [.ref b] ∧ a ≠ b ∧ H a = some (.dK kvs) ∧ H b = some (.dK more) ∧ kvs.length + more.length ≤ sizeLine ∧
    Q .non (upd H a (.dK (mergeK kvs more)))) := by
  intro pins s σ H x vs v us Q I rx rv h
  obtain ⟨a, b, kvs, more, rfl, rfl, hne, h1, h2, hz, q⟩ := h
  cases rx
  obtain ⟨u, rfl, r1⟩ := vals1 rv
  cases r1
  obtain ⟨z1, hd1, vs1, rel1, dd1⟩ := dk_of I.hok h1
  obtain ⟨z2, hd2, vs2, rel2, dd2⟩ := dk_of I.hok h2
  refine call_meetsIn PySem.F.slot_dict_update dd1.typeIs PySem.F.entry_dict_update (PySem.F.args_dict_update_2 _ _) (meets_dict_update (mixKind X.prog X.w) a b hne hd2)
    ⟨vs1, vs2, dd1, dd2, (by rw [← rel1.length, ← rel2.length]; exact hz), fun h' dd' _ hs => ?_⟩
  have he : ∃ q, h'.get? a = some q := let ⟨q, _, _, hq, _⟩ := dd'; ⟨q, hq⟩
  exact ⟨.non, _, d_write (t' := s.toks) I (by rw [h1]; exact True.intro) hs he (dk_new (Nat.le_trans (length_mergeK more kvs) hz) hd1 (KV.merge rel2 rel1) dd'), rfl, q⟩
def sDUpd (i : Nat) (g : GE) : GS := fun ρ => match ρ[i]? with
  | some (some (.dict ps)) => (g ρ).bind fun d => match d with
    | .dict more => (match keysD more with
      | some m => bif decide (ps.length + more.length < 1000000) then .ok (.nx (ρ.set i (some (.dict (mergeD ps m))))) else .stuck
      | none => .stuck)
    | _ => .stuck
  | _ => .stuck
theorem ds_dupd (i : Nat) {x : Str} {e : Expr} {g : GE} {p apos cpos pos : Pos} (h : DE F .fz e g) (hN : F.N[i]? = some x := by rfl) (hv : visB F.sn x = true := by rfl) (hO : F.O i = some true := by rfl)
    (hfew : ∀ env, ((backTo cpos (starEach [e] env)).all (fun x => !x.1) && (backToKw cpos (keywordEach [] env)).all (fun x => x.1.isSome) && decide ([e].length + ([] : List Keyword).length + (if ([] : List Keyword).isEmpty then 0 else 1) < 30)) = true := by intro _; rfl)
    (hline : (apos.endLine == cpos.line) = true := by rfl) (hs : ∀ env, starEach [e] env = (false, eval e env) :: starEach [] env := by intro _; rfl) (hsw : ∀ env, swapsWith (.Call (.Attribute (.Name x p) "update" apos) [e] [] cpos) none pos.line env = pure false := by intro _; rfl)
    (hd : (x == ("__debug__" : Str)) = false := by decide) (hcd : (x == ("__classdict__" : Str)) = false := by decide) : DS F rm (.Expr (.Call (.Attribute (.Name x p) "update" apos) [e] [] cpos) pos) (sDUpd i g) := by
  obtain ⟨te, pe, se⟩ := h
  refine ⟨tDrop (tBM F.K "dict" (fun x vs H Q => ∃ (a b : Addr) (kvs more : List (Key × V)), x = .ref a ∧ vs = [.ref b] ∧ a ≠ b ∧ H a = some (.dK kvs) ∧ H b = some (.dK more) ∧ kvs.length + more.length ≤ sizeLine ∧
    Q .non (upd H a (.dK (mergeK kvs more)))) (tVar i) (tCons te tNil)), fun j => ps_expr ?_ (hsw _), fun H0 hid0 s ρ S Dn q => ?_⟩
  · have z := pe_bm PySem.F.plainAttrs_dict PySem.F.slot_dict_update PySem.F.type_dict_update mt_dupd (pe_var (pos := p) (i := i) (by rw [F.hN]; exact hN) (vis_of (by rw [F.hsn]; exact hv)) hd hcd) (pa_cons (pe j) pa_nil (hs _)) rfl (hfew _) hline (hs _) rfl
    rw [F.hK j] at z
    exact z
  unfold sDUpd at q
  split at q
  · rename_i ds hi
    obtain ⟨a, h1, h2, xs, h3, h4⟩ := S.ow i _ hO hi
    obtain ⟨ha, hn⟩ := S.oh i a h2
    refine ⟨.ref a, h1, ?_, se H0 hid0 s ρ S _ ?_⟩
    · exact .inr (.inr (.inl ⟨rfl, .inl ⟨xs, h3⟩⟩))
    split
    · rename_i d hd'
      rw [hd', bind_ok] at q
      intro v H' e r
      cases d with
      | dict more =>
        dsimp only at q
        cases hk : keysD more with
        | none => rw [hk] at q; exact q.elim
        | some m =>
          rw [hk] at q
          dsimp only at q
          cases hz : decide (ds.length + more.length < 1000000) with
          | false => rw [hz] at q; exact q.elim
          | true =>
            rw [hz] at q
            simp only [cond_true] at q
            have hz : ds.length + more.length < 1000000 := by simpa using hz
            have r' : Mn F.K (hide s.hid H') (.dict more) v := r
            have hdct : isDct more = true := by unfold isDct; rw [hk]; rfl
            have h4' : MnK F.K (hide s.hid H') ds xs := by
              rw [hide_dup ha] at h4
              exact MnK.mono (hide_mono e) _ _ h4
            simp only [Mn] at r'
            rcases r' with ⟨b, ms, rfl, g1, g2⟩ | ⟨b, ns, _, _, rfl⟩ | r'
            · obtain ⟨gn, g1', _⟩ := hide_out g1
              have hne : a ≠ b := fun z => gn (by rw [← z]; exact ha)
              obtain ⟨m', em, hm⟩ := g2.toP
              rw [hk] at em
              cases em
              obtain ⟨S2, w2⟩ := (S.ext e).put (o := .dK (mergeK xs ms)) hO h1 h2 (ownD (s := { s with H := H' }) ha (MnK.merge hm h4'))
              refine ⟨a, b, xs, ms, rfl, rfl, hne, e.d h3, g1', ?_, q _ ((hide_mono e).trans w2) S2⟩
              rw [h4'.length, g2.length]
              exact Nat.le_trans (Nat.le_of_lt hz) (small_line (Nat.le_refl _))
            · cases hdct
            · obtain ⟨b, d, rfl⟩ := r'.one
              cases hdct
      | none => exact q.elim
      | bool _ => exact q.elim
      | int _ => exact q.elim
      | str _ => exact q.elim
      | list _ => exact q.elim
      | tuple _ => exact q.elim
    · rename_i c hd'
      rw [hd', bind_err] at q
      exact fun H' e => q H' (S.ex0.trans e)
    · rename_i hd'
      rw [hd', bind_stuck] at q
      exact q
  · exact q.elim
/-! ### dict(pairs) -/
def pairsD : List D → Option (List (Key × D))
  | [] => some []
  | .tuple [k, d] :: ds => (keyOf k).bind fun k => (pairsD ds).map ((k, d) :: ·)
  | _ => none
def dDict : D → Option D
  | .list ds => if ds.length ≤ 1000000 then (pairsD ds).map fun m => .dict (mergeD [] m) else none
  | _ => none
theorem pairs_mn {H : Hp} : ∀ {ds : List D} {xs : List V} {m : List (Key × D)}, MnA K H ds xs → pairsD ds = some m → ∃ (ps : List Addr) (kvs : List (Key × V)), xs = ps.map V.ref ∧ Paired (fun p kv => SqT K H p [kV kv.1, kv.2]) ps kvs ∧ MnP K H m kvs
  | [], xs, m, h, e => by
    simp only [MnA] at h
    subst h
    cases e
    exact ⟨[], [], rfl, .nil, rfl⟩
  | .tuple [k, d] :: ds, xs, m, h, e => by
    simp only [MnA] at h
    obtain ⟨v, r, rfl, hv, h3⟩ := h
    simp only [Mn, MnA] at hv
    obtain ⟨a, ys, rfl, hs, v1, r1, rfl, m1, v2, r2, rfl, m2, rfl⟩ := hv
    have e : ((keyOf k).bind fun k => (pairsD ds).map ((k, d) :: ·)) = some m := e
    cases hk : keyOf k with
    | none => rw [hk] at e; cases e
    | some k' =>
      rw [hk] at e
      have e : (pairsD ds).map ((k', d) :: ·) = some m := e
      cases hp : pairsD ds with
      | none => rw [hp] at e; cases e
      | some m' =>
        rw [hp] at e
        cases e
        have := keyOf_eq hk
        subst this
        have hv1 : v1 = kV k' := by
          cases k' <;> simp only [kD, Mn] at m1 <;> exact m1
        subst hv1
        obtain ⟨ps, kvs, rfl, hp2, hm⟩ := pairs_mn h3 hp
        refine ⟨a :: ps, (k', v2) :: kvs, rfl, .cons hs hp2, ?_⟩
        simp only [MnP]
        exact ⟨v2, kvs, rfl, m2, hm⟩
  | .none :: ds, xs, m, h, e => by cases e
  | .bool _ :: ds, xs, m, h, e => by cases e
  | .int _ :: ds, xs, m, h, e => by cases e
  | .str _ :: ds, xs, m, h, e => by cases e
  | .list _ :: ds, xs, m, h, e => by cases e
  | .dict _ :: ds, xs, m, h, e => by cases e
  | .tuple [] :: ds, xs, m, h, e => by cases e
  | .tuple [_] :: ds, xs, m, h, e => by cases e
  | .tuple (_ :: _ :: _ :: _) :: ds, xs, m, h, e => by cases e
theorem paired_sqt {H H' : Hp} (e : Wx H H') : ∀ {ps : List Addr} {kvs : List (Key × V)}, Paired (fun p (kv : Key × V) => SqT K H p [kV kv.1, kv.2]) ps kvs → Paired (fun p (kv : Key × V) => SqT K H' p [kV kv.1, kv.2]) ps kvs
  | _, _, .nil => .nil
  | _, _, .cons h t => .cons (Evl.ex_t e h) (paired_sqt e t)
theorem calls_dict : CallS K .au (fun xs H Q => ∃ (a : Addr) (ps : List Addr) (kvs : List (Key × V)), xs = [.ref a] ∧ SqL K H a (ps.map V.ref) ∧ Paired (fun p kv => SqT K H p [kV kv.1, kv.2]) ps kvs ∧
    ∀ p, H p = none → Q (.ref p) (upd H p (.dK (mergeK [] kvs)))) (f1 dDict) := fun hid H ds z vs Q k rs hf q => by
  match ds, hf with
  | [d], hf =>
    obtain ⟨v, rfl, r⟩ := rma1 rs
    have hf : dDict d = some z := hf
    cases d with
    | list ds =>
      have hf : (if ds.length ≤ 1000000 then (pairsD ds).map fun m => PyData.dict (mergeD [] m) else none) = some z := hf
      split at hf
      · cases hb : pairsD ds with
        | none => rw [hb] at hf; cases hf
        | some m =>
          rw [hb] at hf
          cases hf
          obtain ⟨a, xs, rfl, h1, h2⟩ := bo_list r
          obtain ⟨ps, kvs, rfl, hp, hm⟩ := pairs_mn h2 hb
          exact ⟨a, ps, kvs, rfl, SqL.of h1, paired_sqt hide_ex hp, fun p hp => q _ _ (Ex.new hp) (au_dict hp (MnK.merge hm (by simp only [MnK])))⟩
      · cases hf
    | dict ds => cases hf
    | tuple ds => cases hf
    | str x => cases hf
    | none => cases hf
    | bool _ => cases hf
    | int _ => cases hf
theorem de_dictP {ma : Md} {e : Expr} {g : GE} {p pos : Pos} (hm : F.mg "dict" = none) (h : DE F ma e g) (hg : F.sn.lookup ("dict" : Str) = some .globalImplicit := by rfl)
    (he : ∀ env, starEach [e] env = [(false, eval e env)] := by intro _; rfl) (hc : F.hot = false := by rfl) : DE F .au (.Call (.Name "dict" p) [e] [] pos) (eCl (f1 dDict) (aCons g aNil)) :=
  de_callT (callR (r := fun K xs H Q => ∃ (a : Addr) (ps : List Addr) (kvs : List (Key × V)), xs = [.ref a] ∧ SqL K H a (ps.map V.ref) ∧ Paired (fun p kv => SqT K H p [kV kv.1, kv.2]) ps kvs ∧
    ∀ p, H p = none → Q (.ref p) (upd H p (.dK (mergeK [] kvs)))) (fun X h => call_dictP h) hc) calls_dict hm (by decide +kernel) (da_cons (de_any h) da_nil he) hg (by decide) (by decide) he (by intro _; rfl)
/-! ### i, j = a, b -/
def sPar (i j : Nat) (ga : GA) : GS := fun ρ => (ga ρ).bind fun ds => match ds with
  | [d, e] => .ok (.nx ((ρ.set i (some d)).set j (some e)))
  | _ => .stuck
theorem ds_par (i j : Nat) {x y : Str} {a b : Expr} {ga : GA} {px py pt pos : Pos} {kt k2 pt2} (h : DA F .fz [a, b] ga) (hi : F.N[i]? = some x := by rfl) (hj : F.N[j]? = some y := by rfl) (hij : i ≠ j := by decide)
    (hx : F.sn.lookup x = some .local := by rfl) (hy : F.sn.lookup y = some .local := by rfl) (hOi : F.O i = some false := by rfl) (hOj : F.O j = some false := by rfl)
    (hw : ∀ env : PySem.Env, env.scope.names = F.sn → env.scope.kind = .function → swappedStores [.Tuple [.Name x px, .Name y py] kt pt] (.Tuple [a, b] k2 pt2) env = pure (some [x, y]) := by intro env h1 h2; unfold swappedStores PySem.Env.blockKind PySem.Env.kindOf; simp only [h1, h2]; rfl)
    (hs : ∀ env, swapsWithSole [.Tuple [.Name x px, .Name y py] kt pt] (.Tuple [a, b] k2 pt2) pos.line env = pure false := by intro _; rfl) (hc : F.hot = false := by rfl) :
    DS F rm (.Assign [.Tuple [.Name x px, .Name y py] kt pt] (.Tuple [a, b] k2 pt2) pos) (sPar i j ga) := by
  obtain ⟨ta, pa, sa⟩ := h
  refine ⟨tPar i j ta, fun l => ps_par (F.calm hc l) (by rw [F.hN]; exact F.nd) (by rw [F.hN]; exact hi) (by rw [F.hN]; exact hj) hij (by rw [F.hsn]; exact hx) (by rw [F.hsn]; exact hy) (pa l) (hw _ (F.hsn l) (F.hki l)) (hs _), fun H0 hid0 s ρ S Dn q => sa H0 hid0 s ρ S _ ?_⟩
  unfold sPar at q
  split
  · rename_i ds hd
    rw [hd, bind_ok] at q
    intro vs H' e r
    match ds, r, q with
    | [d1, d2], r, q =>
      obtain ⟨v, u, rfl, r1, r2⟩ := rma2 r
      refine ⟨v, u, rfl, q { s with σ := (s.σ.set i (some v)).set j (some u), H := H' } (hide_mono e) ?_⟩
      exact ((S.ext e).set hOi r1).set hOj r2
    | [], _, q => exact q.elim
    | [_], _, q => exact q.elim
    | _ :: _ :: _ :: _, _, q => exact q.elim
  · rename_i c hd
    rw [hd, bind_err] at q
    exact fun H' e => q H' (S.ex0.trans e)
  · rename_i hd
    rw [hd, bind_stuck] at q
    exact q
/-- target = a tuple, its stores not exchanged -/
theorem ds_tgS {tgx e : Expr} {g : GE} {tg : Tg} {js : List Nat} {pos : Pos} (h : DE F .fz e g) (hg : DG F tgx tg js) (hs : ∀ env, swapsWithSole [tgx] e pos.line env = pure false := by intro _; rfl)
    (hw : ∀ env : PySem.Env, env.scope.names = F.sn → env.scope.kind = .function → swappedStores [tgx] e env = pure none := by intro env h1 h2; unfold swappedStores PySem.Env.blockKind PySem.Env.kindOf; simp only [h1, h2]; rfl)
    (h1 : ∀ env, (assignEach [tgx] env).map (·.2) = [assign tgx env] := by intro _; rfl) : DS F rm (.Assign [tgx] e pos) (sTg g tg) := by
  obtain ⟨te, pe, se⟩ := h
  obtain ⟨gg, pg, sg⟩ := hg
  refine ⟨_, fun i => ps_asg (pe i) (pg i) (hs _) (hw _ (F.hsn i) (F.hki i)) (h1 _), fun H0 hid0 s ρ S Dn q => se H0 hid0 s ρ S _ ?_⟩
  unfold sTg at q
  split
  · rename_i d hd
    rw [hd, bind_ok] at q
    intro v H' e r
    cases ht : tg d ρ with
    | none => rw [ht] at q; exact q.elim
    | some ρ' =>
      rw [ht] at q
      exact sg H0 hid0 { s with H := H' } ρ ρ' d v (S.ext e) r ht _ fun σ' S' _ _ => q { s with σ := σ', H := H' } (hide_mono e) S'
  · rename_i c hd
    rw [hd, bind_err] at q
    exact fun H' e => q H' (S.ex0.trans e)
  · rename_i hd
    rw [hd, bind_stuck] at q
    exact q
end
end DL
set_option Elab.async false
set_option linter.all false
set_option maxRecDepth 100000
set_option maxHeartbeats 4000000
/-! ### x[::-1], x a list or a tuple -/
namespace DL
open PySem PySem.Spec PyProof.Rows L2
section
variable {P : Program} {w : World} {A : Around} {E : Value → Shared → Prop} {s : Shared}
theorem filterMap_some {α β : Type} {f : α → Option β} {g : α → β} : ∀ {l : List α}, (∀ x ∈ l, f x = some (g x)) → l.filterMap f = l.map g
  | [], _ => rfl
  | x :: l, h => by
    rw [List.filterMap_cons, h x List.mem_cons_self, List.map_cons]
    exact congrArg _ (filterMap_some fun y hy => h y (List.mem_cons_of_mem _ hy))
theorem rev_pick (xs : Array Value) : (List.range xs.size).filterMap (fun (k : Nat) => xs[(((xs.size : Nat) : Int) - 1 + (k : Int) * (-1)).toNat]?) = xs.toList.reverse := by
  have e := filterMap_some (l := List.range xs.size) (f := fun (k : Nat) => xs[(((xs.size : Nat) : Int) - 1 + (k : Int) * (-1)).toNat]?) (g := fun k => (xs.toList.reverse[k]?).getD Value.none) fun k hk => by
    have hk := List.mem_range.mp hk
    have h1 : (((xs.size : Nat) : Int) - 1 + (k : Int) * (-1)).toNat = xs.size - 1 - k := by omega
    have h2 : xs.size - 1 - k < xs.size := by omega
    show xs[(((xs.size : Nat) : Int) - 1 + (k : Int) * (-1)).toNat]? = some ((xs.toList.reverse[k]?).getD Value.none)
    rw [h1, List.getElem?_reverse (by rw [Array.length_toList]; exact hk), Array.length_toList, Array.getElem?_toList, Array.getElem?_eq_getElem h2]
    rfl
  rw [e]
  apply List.ext_getElem?
  intro i
  rw [List.getElem?_map]
  by_cases h : i < xs.size
  · rw [List.getElem?_range h, List.getElem?_eq_getElem (l := xs.toList.reverse) (by rw [List.length_reverse, Array.length_toList]; exact h)]
    show some ((xs.toList.reverse[i]?).getD Value.none) = _
    rw [List.getElem?_eq_getElem (l := xs.toList.reverse) (by rw [List.length_reverse, Array.length_toList]; exact h)]
    rfl
  · rw [List.getElem?_eq_none (by rw [List.length_range]; omega), List.getElem?_eq_none (by rw [List.length_reverse, Array.length_toList]; omega)]
    rfl
theorem getItem_tuple_rev {t sl : Addr} {items : Array Value} {vl vu vs : Value} {Q : Value → Shared → Prop} (ht : IsTup s.heap t items) (hs : s.heap.IsSliceOf sl vl vu vs) (pl : IsPart vl none) (pu : IsPart vu none) (ps : IsPart vs (some (-1)))
    (h : Q (.ref s.heap.objs.size) { s with heap := s.heap.push { cls := .type "tuple", data := .seq items.toList.reverse.toArray } })
    (hsz : items.size ≤ sizeLine) : wpAny (model P w) A (getItem (.ref t) (.ref sl)) Q E s := by
  have hz : sizeOk (.seq items.toList.reverse.toArray) := by
    show items.toList.reverse.toArray.size ≤ sizeLine
    rw [List.size_toArray, List.length_reverse, Array.length_toList]
    exact hsz
  obtain ⟨os, hos, hcs, hds⟩ := id hs
  have hTs : s.TypeIs (.ref sl) "slice" := ⟨os, hos, hcs⟩
  unfold getItem
  try with_reducible refine wpAny_holding ?_
  first | refine wpAny_bind (wpAny_pure ?_) | skip
  refine wpAny_bind (wpAny_sequenceKey ht.typeIs (by decide) ?_)
  refine wpAny_bind (wpAny_callSpecial?_slot (name := Str.ofString "__getitem__") ht.typeIs PyProof.Rows.slot_tuple_getitem
    (wpAny_call_entry PyProof.Rows.slot_tuple_getitem ht.typeIs entry_tuple_getitem ?_ (args_tuple_getitem _ _)))
  show wpAny _ _ (Builtin.Tuple.tupleItemsOf (.ref t) >>= _) _ _ s
  refine wpAny_bind (tupleItemsOf_ ht ?_)
  refine wpAny_bind (wpAny_typeOf hTs ?_)
  rw [if_pos (by decide)]
  have sa : ∀ {A' : Around} {E' : Value → Shared → Prop} {Q' : Int × Int × Nat → Shared → Prop}, Q' (((items.size : Nat) : Int) - 1, -1, items.size) s → wpAny (model P w) A' (Builtin.Slice.sliceApplied (.ref sl) (pure (items.size : Int))) Q' E' s := fun {A' E' Q'} h => by
    unfold Builtin.Slice.sliceApplied Builtin.Slice.sliceFields
    refine wpAny_bind (wpAny_bind (wpAny_field hos hds (x := vl) rfl (wpAny_bind (wpAny_field hos hds (x := vu) rfl (wpAny_bind (wpAny_field hos hds (x := vs) rfl (wpAny_pure ?_)))))))
    refine wpAny_bind (HT.slicePart_ ps ?_)
    show wpAny _ _ (if ((-1 : Int) == 0) = true then _ else _) _ _ s
    rw [if_neg (by decide)]
    refine wpAny_bind (HT.slicePart_ pl (wpAny_bind (HT.slicePart_ pu (wpAny_bind (wpAny_pure ?_)))))
    have e1 : Builtin.Slice.sliceAdjust none none (-1) ((items.size : Nat) : Int) = (((items.size : Nat) : Int) - 1, -1) := rfl
    show wpAny _ _ (match Builtin.Slice.sliceAdjust none none (-1) ((items.size : Nat) : Int) with | (lo, hi) => pure (lo, (-1 : Int), Builtin.Slice.slicePlaces lo hi (-1))) _ _ s
    rw [e1]
    show wpAny _ _ (pure (((items.size : Nat) : Int) - 1, (-1 : Int), Builtin.Slice.slicePlaces (((items.size : Nat) : Int) - 1) (-1) (-1))) _ _ s
    have e2 : Builtin.Slice.slicePlaces (((items.size : Nat) : Int) - 1) (-1) (-1) = items.size := by
      unfold Builtin.Slice.slicePlaces
      rw [if_neg (by decide)]
      have : (-(-1) : Int) = 1 := by decide
      rw [this, Int.ediv_one]
      split <;> omega
    rw [e2]
    exact wpAny_pure h
  refine wpAny_bind (sa ?_)
  have hno : ¬ (((((items.size : Nat) : Int) - 1) == 0 && (-1 : Int) == 1 && items.size == items.size) = true) := by simp
  show wpAny _ _ (if ((((items.size : Nat) : Int) - 1) == 0 && (-1 : Int) == 1 && items.size == items.size) = true then _ else _) _ _ s
  rw [if_neg hno, rev_pick]
  first
    | exact wpAny_bind (m := Builtin.Tuple.tupleExact _) (wpAny_newObj_type (wpAny_pure ⟨_, rfl, wpAny_pure h⟩) hz)
    | exact wpAny_bind (m := Builtin.Tuple.tupleExact _) (wpAny_newObj_type (wpAny_bind (wpAny_pure (wpAny_pure ⟨_, rfl, wpAny_pure h⟩))) hz)
    | exact wpAny_bind (wpAny_bind (m := Builtin.Tuple.tupleExact _) (wpAny_newObj_type (wpAny_pure (wpAny_pure ⟨_, rfl, wpAny_pure h⟩)) hz))
    | exact wpAny_bind (wpAny_bind (m := Builtin.Tuple.tupleExact _) (wpAny_newObj_type (wpAny_pure ⟨_, rfl, wpAny_pure h⟩) hz))
def tRevT (K : PySem.W.Frag) (te : TE) : TE := fun σ H Q => te σ H fun x H1 => ∃ a xs, x = .ref a ∧ SqT K H1 a xs ∧ ∀ p, H1 p = none → Q (.ref p) (upd H1 p (.tup xs.reverse))
theorem pe_revT {X : Cx} {e : Expr} {te : TE} {k : Nat} {p1 p2 p3 pos : Pos} (he : PE X e te) : PE X (.Subscript e (.Slice none none (some (.UnaryOp .USub (.Constant (.int 1) k p1) p2)) p3) pos) (tRevT X.K te) := by
  refine ⟨fun pins s σ H Q I h => ?_⟩
  refine Subscript_ (thn (he.run pins s σ H _ I h) fun v s1 ⟨x, H1, I1, r1, q1⟩ => ?_)
  obtain ⟨a, xs, ex, hx, q⟩ := q1
  subst ex
  cases r1
  have hst : PO X (some (.UnaryOp .USub (.Constant (.int 1) k p1) p2)) (tPart (tUn (rU fun i => .int (-i)) (tC (.int 1)))) := po_some (pe_un un_neg pe_int)
  refine wpAny_Slice (thn (po_none.run pins s1 σ H1 (fun o H2 => o = none ∧ H2 = H1) I1 ⟨rfl, rfl⟩) fun vl s2 ⟨l, H2, I2, pl, el, e2⟩ => ?_)
  subst el e2
  refine thn (po_none.run pins s2 σ H2 (fun o H3 => o = none ∧ H3 = H2) I2 ⟨rfl, rfl⟩) fun vu s3 ⟨u, H3, I3, pu, eu, e3⟩ => ?_
  subst eu e3
  refine thn (hst.run pins s3 σ H3 (fun o H4 => o = some (-1) ∧ H4 = H3) I3 ⟨1, rfl, -1, rfl, rfl, rfl⟩) fun vs s4 ⟨o, H4, I4, ps, eo, e4⟩ => ?_
  subst eo e4
  have I5 : L2.Inv X pins σ H4 { s4 with heap := s4.heap.push { cls := .type "slice", data := .fields #[vl, vu, vs] } } := I4.kept (t' := s4.toks) fun b ob q => Heap.get?_push_of_some _ q
  obtain ⟨its, r, ht, hz⟩ := I5.tuple hx
  have hlen := r.length
  show wpAny (model X.prog X.w) X.A (subscriptTail e (.Slice none none (some (.UnaryOp .USub (.Constant (.int 1) k p1) p2)) p3) (.ref a) (.ref s4.heap.objs.size)) (EP X pins σ Q) X.xe { s4 with heap := s4.heap.push { cls := .type "slice", data := .fields #[vl, vu, vs] } }
  refine tail_any (ops := [.ref a, .ref s4.heap.objs.size]) ht.typeIs (PyProof.Rows.slot_tuple_getitem.lookup) ?_ (by with_unfolding_all rfl)
  refine getItem_tuple_rev ht (Heap.IsSliceOf.new _ vl vu vs) pl pu ps ?_ (by rw [List.size_toArray]; omega)
  refine ⟨.ref _, _, I5.laid (t' := s4.toks) (o := .tup xs.reverse) (fun b ob q => Heap.get?_push_of_some _ q) (Nat.le_refl _) ?_, rfl, q _ (I5.hok.fresh (Nat.le_refl _))⟩
  exact ⟨by rw [List.length_reverse]; exact hz, _, by simpa using r.reverse, IsTup.new _ _⟩
end
variable [TabsC]
section
variable {F : Fam} {K : PySem.W.Frag}
theorem MnA.rev {H : Hp} : ∀ {ds : List D} {vs : List V}, MnA K H ds vs → MnA K H ds.reverse vs.reverse
  | [], vs, h => by
    simp only [MnA] at h
    subst h
    simp [MnA]
  | d :: ds, vs, h => by
    simp only [MnA] at h
    obtain ⟨v, r, rfl, m, t⟩ := h
    rw [List.reverse_cons, List.reverse_cons]
    exact t.rev.append (by simp only [MnA]; exact ⟨v, [], rfl, m, rfl⟩)
def dRevL : D → Option D
  | .list ds => some (.list ds.reverse)
  | _ => none
def dRevT : D → Option D
  | .tuple ds => some (.tuple ds.reverse)
  | _ => none
def dRev (d : D) : Option D := (dRevL d).or (dRevT d)
theorem e1_or {f f' : D → Option D} {a : GE} (ρ : Env) : e1 (fun x => (f x).or (f' x)) a ρ = .stuck ∨ e1 f a ρ = e1 (fun x => (f x).or (f' x)) a ρ ∨ e1 f' a ρ = e1 (fun x => (f x).or (f' x)) a ρ := by
  unfold e1
  cases a ρ with
  | stuck => exact .inl rfl
  | err c => exact .inr (.inl rfl)
  | ok x =>
    rw [bind_ok, bind_ok, bind_ok]
    cases hf : f x with
    | some z => exact .inr (.inl (by simp [hf]))
    | none => exact .inr (.inr (by simp [hf]))
theorem de_rev {ma : Md} {e : Expr} {g : GE} {k : Nat} {p1 p2 p3 pos : Pos} (h : DE F ma e g) : DE F .au (.Subscript e (.Slice none none (some (.UnaryOp .USub (.Constant (.int 1) k p1) p2)) p3) pos) (e1 dRev g) := by
  obtain ⟨te, pe, se⟩ := de_any h
  refine ⟨fun σ H Q => tRevL F.K te σ H Q ∨ tRevT F.K te σ H Q, fun i => pe_alt ?_ ?_, sem_alt (g1 := e1 dRevL g) (g2 := e1 dRevT g) ?_ ?_ fun ρ => e1_or ρ⟩
  · have z := pe_revL (k := k) (p1 := p1) (p2 := p2) (p3 := p3) (pos := pos) (pe i)
    rw [F.hK i] at z
    exact z
  · have z := pe_revT (k := k) (p1 := p1) (p2 := p2) (p3 := p3) (pos := pos) (pe i)
    rw [F.hK i] at z
    exact z
  · refine sem_un (r := fun x H Q => ∃ a xs, x = .ref a ∧ SqL F.K H a xs ∧ ∀ p, H p = none → Q (.ref p) (upd H p (.lst xs.reverse))) se fun hid H d z x Q dom r hf q => ?_
    cases d with
    | list ds =>
      cases hf
      obtain ⟨a, xs, rfl, h1, h2⟩ := bo_list r
      exact ⟨a, xs, rfl, SqL.of h1, fun p hp => q _ _ (Ex.new hp) (au_list hp h2.rev)⟩
    | tuple ds => cases hf
    | dict ds => cases hf
    | str x => cases hf
    | none => cases hf
    | bool _ => cases hf
    | int _ => cases hf
  · refine sem_un (r := fun x H Q => ∃ a xs, x = .ref a ∧ SqT F.K H a xs ∧ ∀ p, H p = none → Q (.ref p) (upd H p (.tup xs.reverse))) se fun hid H d z x Q dom r hf q => ?_
    cases d with
    | tuple ds =>
      cases hf
      obtain ⟨a, xs, rfl, h1, h2⟩ := bo_tup r
      exact ⟨a, xs, rfl, Evl.ex_t hide_ex h1, fun p hp => q _ _ (Ex.new hp) (au_tup dom hp h2.rev)⟩
    | list ds => cases hf
    | dict ds => cases hf
    | str x => cases hf
    | none => cases hf
    | bool _ => cases hf
    | int _ => cases hf
/-! ### x = [a comprehension] -/
def DEc (F : Fam) (e : Expr) (g : GE) : Prop := ∃ te, (∀ (i : F.ι) (k : Nat) (y : Str) (py spos : Pos), F.N[k]? = some y → F.sn.lookup y = some .local → (∀ env : PySem.Env, env.scope.names = F.sn → env.scope.kind = .function → swapsWith e (some (.Name y py)) spos.line env = pure true) →
  PS (F.X i) (.Assign [.Name y py] e spos) (tAsg te (gName k))) ∧ SemE F .au te g
theorem dec_lc {m : Md} {elt tg iter : Expr} {ifs : List Expr} {scope : Scope} {pos : Pos} {gi : GA} {tgd : Tg} {tt : GT} {ge : GE} {js : List Nat} (own : List (Str × Nat)) (hk : scope.kind = .function)
    (ok : blkC F.N (scOf F.sn) scope own = true) (hi : DI F m tg iter gi) (hg : DG (blkFam F scope hk) tg tgd js) (ht : DTs (blkFam F scope hk) ifs tt) (he : DE (blkFam F scope hk) .fz elt ge)
    (hjs : (js.all fun j => (own.map (·.2)).contains j) = true) (hs : ∀ env x, foldedSetIterable iter env x = pure x := by intro _ _; rfl) (hc : F.hot = false := by rfl) : DEc F (.ListComp elt [⟨tg, iter, ifs, 0⟩] scope pos) (eLc gi tgd tt ge (own.map (·.2))) := by
  obtain ⟨wi, pi, si⟩ := hi
  obtain ⟨g, pg, sg⟩ := hg
  obtain ⟨t, pt, st⟩ := ht
  obtain ⟨te, pe, se⟩ := he
  refine ⟨tLc wi g t te (own.map (·.2)), fun i k y py spos hN hl hsw => ps_setLc (F.calm hc i) (by rw [F.hN]; exact F.nd) (by rw [F.hN]; exact hN) (by rw [F.hsn]; exact hl) (hsw _ (F.hsn i) (F.hki i)) (pi i) (blk_ok (F.hN i) (F.hsn i) ok) (fun s H C cl fp => pg (i, s, H, C, cl, fp)) (fun s H C cl fp => pt (i, s, H, C, cl, fp)) (fun s H C cl fp => pe (i, s, H, C, cl, fp)) (hs _), sem_lc si sg st se fun j hj => ?_⟩
  rw [List.all_eq_true] at hjs
  have := hjs j hj
  simpa using this
theorem ds_setC {rm : Md} (i : Nat) {y : Str} {elt : Expr} {gs : List Comprehension} {scope : Scope} {g : GE} {py pos spos : Pos} (h : DEc F (.ListComp elt gs scope pos) g) (hN : F.N[i]? = some y := by rfl) (hy : F.sn.lookup y = some .local := by rfl) (hO : F.O i = some false := by rfl) (hl : (py.line == pos.line) = true := by rfl)
    (ha : (scope.names.any fun (n, k) => n == y && (k == .local || k == .cell)) = false := by rfl) : DS F rm (.Assign [.Name y py] (.ListComp elt gs scope pos) spos) (sSet i g) := by
  obtain ⟨te, ps, se⟩ := h
  exact ⟨_, fun j => ps j i y py spos hN hy fun env h1 h2 => sw_true h2 (by rw [h1]; exact hy) hl ha, sem_set hO (semE_fz se)⟩
theorem ds_setCO {rm : Md} (i : Nat) {y : Str} {elt : Expr} {gs : List Comprehension} {scope : Scope} {g : GE} {py pos spos : Pos} (h : DEc F (.ListComp elt gs scope pos) g) (hN : F.N[i]? = some y := by rfl) (hy : F.sn.lookup y = some .local := by rfl) (hO : F.O i = some true := by rfl) (hl : (py.line == pos.line) = true := by rfl)
    (ha : (scope.names.any fun (n, k) => n == y && (k == .local || k == .cell)) = false := by rfl) : DS F rm (.Assign [.Name y py] (.ListComp elt gs scope pos) spos) (sOwn i g) := by
  obtain ⟨te, ps, se⟩ := h
  exact ⟨_, fun j => ps j i y py spos hN hy fun env h1 h2 => sw_true h2 (by rw [h1]; exact hy) hl ha, sem_own_set hO se⟩
theorem sw_cell {elt : Expr} {gs : List Comprehension} {scope : Scope} {pos py : Pos} {y : Str} {l : Nat} {env : PySem.Env} (hy : env.scope.names.lookup y = some .cell) : swapsWith (.ListComp elt gs scope pos) (some (.Name y py)) l env = pure false := by
  have ky : env.kindOf y = some .cell := hy
  have hq : ((some NameKind.cell : Option NameKind) == some NameKind.local) = false := by decide
  unfold swapsWith
  simp only [ky, hq, Bool.and_false, Bool.false_and]
/-- x = [a comprehension], x also read by a lambda -/
theorem ds_setK {rm : Md} (i : Nat) {y : Str} {elt : Expr} {gs : List Comprehension} {scope : Scope} {g : GE} {py pos spos : Pos} (h : DE F .fz (.ListComp elt gs scope pos) g) (hN : F.N[i]? = some y := by rfl) (hst : F.sto y = true := by rfl) (hy : F.sn.lookup y = some .cell := by rfl) (hO : F.O i = some false := by rfl) :
    DS F rm (.Assign [.Name y py] (.ListComp elt gs scope pos) spos) (sSet i g) :=
  ⟨_, fun j => ps_set (by rw [F.hN]; exact F.nd) (by rw [F.hN]; exact hN) (F.hsto j y hst).1 (h.choose_spec.1 j) (sw_cell (by rw [F.hsn]; exact hy)) (F.hsto j y hst).2, sem_set hO h.choose_spec.2⟩
end
end DL
set_option Elab.async false
set_option linter.all false
set_option maxRecDepth 100000
set_option maxHeartbeats 4000000
namespace DL
open PySem PySem.Spec PyProof.Rows L2
variable [TabsC]
section
variable {F : Fam} {K : PySem.W.Frag}
/-! ### a, b, .. = a list of that length -/
def tgL (u : Tgs) : Tg := fun d ρ => match d with
  | .list ds => u ds ρ
  | _ => none
theorem dg_lst {es : List Expr} {u : Tgs} {ks : List Nat} {n k : Nat} {pos : Pos} (h : DGs F es u ks n) (hc : F.hot = false := by rfl) : DG F (.Tuple es k pos) (tgL u) ks := by
  obtain ⟨g, p, sg, l, m⟩ := h
  refine ⟨gLst F.K n g, fun i => by have z := pg_lst (pos := pos) (k := k) (F.calm hc i) (p i) (n := n) (l _).1 (l _).2; rw [F.hK i] at z; exact z, fun H0 hid0 s ρ ρ' d x S h e Q q => ?_⟩
  cases d with
  | list ds =>
    simp only [Mn] at h
    obtain ⟨a, xs, rfl, h2, h3⟩ := h
    exact ⟨a, xs, rfl, SqL.of (hide_ex _ _ h2), by rw [h3.length]; exact m ds ρ ρ' e, sg H0 hid0 s ρ ρ' ds xs S h3 e Q q⟩
  | none => cases e
  | bool _ => cases e
  | int _ => cases e
  | str _ => cases e
  | tuple _ => cases e
  | dict _ => cases e
theorem p_tgL {u : Tgs} {ds : List D} {ρ : Env} : tgL u (.list ds) ρ = u ds ρ := rfl
end
end DL
set_option Elab.async false
set_option linter.all false
set_option maxRecDepth 100000
set_option maxHeartbeats 4000000
namespace DL
open PySem PySem.Spec PyProof.Rows L2
variable [TabsC]
/-! ### the end of a list, while an exception is handled -/
section
variable {prog : Program} {w : World} {A : Around} {E : Value → Shared → Prop} {s : Shared}
theorem next_end_hot {it l x1 : Addr} {i : Nat} {items : Array Value} {Q : Option Value → Shared → Prop} (hot : HotX.HotAt A x1 s.heap) (hit : s.heap.IsListIter it l i) (hl : s.heap.IsList l items) (hx : items[i]? = none)
    (hQ : ∀ h1, Heap.ExtBut it s.heap h1 → Q none { s with heap := h1 }) : wpAny (model prog w) A (pyNext (.ref it)) Q E s := by
  obtain ⟨hh, o1, v1, g1, d1, c1⟩ := hot
  obtain ⟨oi, hoi, hci, hdi⟩ := id hit
  obtain ⟨ol, hol, _, nl, hdl⟩ := hl
  have hne : it ≠ x1 := fun z => by
    rw [← z, hoi] at g1
    cases g1
    rw [hdi] at d1
    cases d1
    simp at c1
  unfold pyNext
  refine wpAny_bind (wpAny_attempt (wpAny_callSpecial?_slot (name := Str.ofString "__next__") hit.typeIs slot_listiter_next (wpAny_call_entry slot_listiter_next hit.typeIs entry_listiter_next ?_ (args_listiter_next _))))
  show wpAny _ _ (do let r ← field (.ref it) 0; _) _ _ _
  refine wpAny_bind (wpAny_field hoi hdi (x := .ref l) rfl ?_)
  show wpAny _ _ (if (Value.ref l == Value.none) = true then _ else _) _ _ _
  rw [if_neg (show ¬ ((Value.ref l == Value.none) = true) from fun z => Bool.noConfusion z)]
  show wpAny _ _ (do let r ← field (.ref it) 1; _) _ _ _
  refine wpAny_bind (wpAny_field hoi hdi (x := .int i 0) rfl ?_)
  show wpAny _ _ (do let r ← seqItems? (.ref l); _) _ _ _
  refine wpAny_bind (wpAny_seqItems hol hdl ?_)
  simp only [Int.toNat_natCast, hx]
  refine wpAny_bind (wpAny_rule (wpAny_bind (wpAny_setField hoi hdi (by simp) (wpAny_bind (m := newExc (.type "StopIteration") []) ?_))))
  simp only [newExc, newTuple]
  refine wpAny_bind (wpAny_newObj_type (wpAny_bind (m := firstArgMember _ _) (wpAny_of_eq (a := Value.none) (by first | rfl | (simp only [firstArgMember]; rfl)) (wpAny_newObj_type ?_ (by size_fits)))) (by size_fits))
  have g2 := (Heap.get?_update_other s.heap (Obj.mapFields (·.setIfInBounds 0 Value.none)) hne).trans g1
  refine HotX.raiseNew_hot ⟨hh, o1, v1, Heap.get?_push_of_some _ (Heap.get?_push_of_some _ g2), d1, c1⟩ (Nat.ne_of_lt (Heap.lt_size (Heap.get?_push_of_some _ g2))) (Heap.get?_push_size _ rfl) rfl (by first | (simp; done) | (simp; omega) | (simp only [Array.size_append]; simp; omega)) ?_
  refine wpAny_bind (wpAny_isInstance (T := "StopIteration") (b := true) ⟨_, Heap.get?_update_self _ (Heap.get?_push_size _ rfl) rfl, rfl⟩ isSubtype_stop (wpAny_pure (hQ _ fun b o hb e => ?_)))
  have e2 := (Heap.get?_update_other s.heap (Obj.mapFields (·.setIfInBounds 0 Value.none)) (Ne.symm hb)).trans e
  rw [Heap.get?_update_other _ _ (Nat.ne_of_gt (Heap.lt_size (Heap.get?_push_of_some _ e2)))]
  exact Heap.get?_push_of_some _ (Heap.get?_push_of_some _ e2)
theorem walks_hot {I ax x1 : Addr} {items : Array Value} (n1 : ax ≠ I) :
    PySem.Walks prog w A I [I, ax, x1] [I] items.size (fun i v => items[i]? = some v) (fun i h => (h.IsListIter I ax i ∧ h.IsList ax items) ∧ HotX.HotAt A x1 h) where
  sub := fun b hb => by
    simp only [List.mem_singleton] at hb
    simp [hb]
  frame := fun i h h1 ⟨⟨a, b⟩, hh, o, vs, g, d⟩ k => ⟨⟨a.at fun o e => k I (by simp) o e, b.at fun o e => k ax (by simp) o e⟩, hh, o, vs, k x1 (by simp) o g, d⟩
  item := fun i s Q E hi ⟨⟨a, b⟩, hh, o, vs, g, d, c⟩ q => by
    have hne : I ≠ x1 := fun z => by
      obtain ⟨oi, e1, _, e3⟩ := a
      rw [← z, e1] at g
      cases g
      rw [e3] at d
      cases d
      simp at c
    refine wpAny_pyNext_list_item a b (x := items[i]) (by simp [hi]) fun h1 st sb => q _ h1 s.toks (by simp [hi]) ⟨⟨st, b.extBut sb.extBut n1⟩, hh, o, vs, (sb.2 x1 (Ne.symm hne)).trans g, d, c⟩ fun b o hb e => sb.extBut b o (fun z => hb (by simp [z])) e
  done := fun s Q E ⟨⟨a, b⟩, hot⟩ q => next_end_hot hot a b (by simp) fun h1 e1 => q h1 s.toks fun b o hb e => e1 b o (fun z => hb (by simp [z])) e
  self := fun _ _ _ _ st q => wpAny_pyIter_listiter st.1.1 q
end
section
variable {X : Cx}
theorem cr_allH (hc : L2H.HotC X) : CallR X (.builtin "all") (rAll X.K) := fun pins s σ H vs us Q I r h => by
  obtain ⟨a, bs, rfl, hs, q⟩ := h
  obtain ⟨its, rv, hl, _⟩ := I.list hs
  obtain ⟨x1, hh, o1, v1, g1, d1⟩ := hc.at I
  rw [Vals.ref1 r]
  have hb := rv.bls
  refine call_all_walk (iter_any hl.isList fun s2 e2 st hne => ?_)
  subst e2
  refine ⟨_, _, _, _, _, _, _, rfl, walks_hot (A := X.A.in1) (x1 := x1) (items := its.toArray) hne, ⟨st, hh, o1, v1, Heap.get?_push_of_some _ g1, d1⟩, truth_bools hb, fun h1 tk hk => ⟨.bl _, H, I.kept fun b o eo => hk b o (fun hm => ?_) (Heap.get?_push_of_some _ eo), ?_, q⟩⟩
  · have hm : b = s.heap.objs.size := by simpa using hm
    rw [hm] at eo
    exact Nat.lt_irrefl _ (Heap.lt_size eo)
  · show Value.bool _ = Value.bool _
    rw [← L2.all_range, hb]
    simp
theorem suite_hot {a : Addr} {cls : Value} {cl : Nat → Value} {lv : Nat} {nd : X.N.Nodup} {hr : RoomW lv X.A} {hk : X.env.scope.kind = .function} {hf : X.fn = fun _ => true} (j : (suiteFam X a cls cl lv nd hr hk hf).ι) : L2H.HotC ((suiteFam X a cls cl lv nd hr hk hf).X j) := by
  obtain ⟨⟨o, pn⟩, hz, vs, hv⟩ := j
  exact ⟨(a, o), ⟨rfl, vs, hv, hz.2.2 vs hv⟩, List.mem_cons_self⟩
variable {a : Addr} {cls : Value} {cl : Nat → Value} {lv : Nat} {nd : X.N.Nodup} {hr : RoomW lv X.A} {hk : X.env.scope.kind = .function} {hf : X.fn = fun _ => true}
theorem de_allH {m ma : Md} {e : Expr} {g : GE} {p pos : Pos} (hm : X.mg "all" = none) (h : DE (suiteFam X a cls cl lv nd hr hk hf) ma e g) (hg : X.env.scope.names.lookup ("all" : Str) = some .globalImplicit)
    (he : ∀ env, starEach [e] env = [(false, eval e env)] := by intro _; rfl) : DE (suiteFam X a cls cl lv nd hr hk hf) m (.Call (.Name "all" p) [e] [] pos) (eCl (f1 dAll) (aCons g aNil)) :=
  de_callB (F := suiteFam X a cls cl lv nd hr hk hf) (r := rAll X.K) (fun i => cr_allH (suite_hot i)) calls_all hm (by decide +kernel) (da_cons (de_any h) da_nil he) hg (by decide) (by decide) he (by intro _; rfl)
/-! ### isinstance(e, (C, D)), e the caught exception -/
def rIsET (K : PySem.W.Frag) (D a : Addr) : List V → Hp → VK → Prop := fun xs H Q => ∃ (tp : Addr) (cs : List V) (us : List Value) (b : Bool), xs = [.ref a, .ref tp] ∧ H tp = some (.tup cs) ∧ Paired ClsV cs us ∧ PySem.W.kitAny K (.ref D) us = some b ∧ Q (.bl b) H
theorem call_isET {D : Addr} {oe : Obj} {pn : List (Addr × Obj)} (C : ExcC X.K D) (hz : Zc (.ref D) none oe) (hf : ∃ vs, oe.data = .fields vs) : CallR (X.suite a ((a, oe) :: pn)) (.builtin "isinstance") (rIsET X.K D a) := fun pins s σ H xs us Q I r h => by
  obtain ⟨tp, cs, ws, b, rfl, hT, k, e, q⟩ := h
  obtain ⟨u1, u2, rfl, r1, r2⟩ := vals2 r
  cases (show u1 = Value.ref a from r1)
  cases (show u2 = Value.ref tp from r2)
  have g1 := (I.pin (a, oe) (List.mem_append.mpr (.inl List.mem_cons_self))).1
  have J : PySem.W.InstAt s.heap a oe D none := by
    obtain ⟨vs, hv⟩ := hf
    obtain ⟨oc, od, oda, osl⟩ := oe
    obtain ⟨z1, z2⟩ := hz
    dsimp only at z1 z2 hv
    subst z1 z2 hv
    exact ⟨g1, rfl, rfl, trivial⟩
  obtain ⟨_, its, rv, o, h1, h2, n, h3⟩ := (show ObjOk X.prog X.w H s.heap tp (.tup cs) from I.hok tp _ hT)
  cases ClsV.all k rv
  obtain ⟨oc, od, dt, sl⟩ := o
  dsimp only at h2 h3
  subst h2 h3
  exact PySem.W.kia_tup (PySem.W.handS_kitx_exc C.hg C.hk C.hs C.hd C.ha C.hn C.ht C.hm) I.kIn J h1 e (fun z => nomatch z) fun tk => ⟨.bl b, H, I.tok tk, rfl, q⟩
theorem exc_at {K : PySem.W.Frag} {H0 : Hp} {hid0 : List Addr} {O : Nat → Option Bool} {s : Sx} {ρ : Env} {i : Nat} {a : Addr} (S : Sees K H0 hid0 O s ρ) (hO : O i = some false) (h : ρ[i]? = some (some (excD a))) : s.σ[i]? = some (some (.ref a)) := by
  obtain ⟨v, h1, h2⟩ := S.fz i _ hO h
  have ev : v = .ref a := by
    unfold excD at h2
    simp only [Mn] at h2
    rcases h2 with ⟨a', kvs, _, _, h3⟩ | ⟨a', ns, _, _, h3⟩ | ⟨a', e1, h3⟩ | ⟨f, c, q, _, _, h3⟩ | ⟨a', o', L', _, _, _, _, _, h3⟩
    · simp only [MnK] at h3
      obtain ⟨q', _, _, _, hk, _⟩ := h3
      cases q' <;> simp [kD] at hk
    · simp at h3
    · have : (a : Nat) = (a' : Nat) := by
        have h3 : ((a : Nat) : Int) = ((a' : Nat) : Int) := by simpa using h3
        exact Int.ofNat.inj h3
      rw [e1]
      exact congrArg V.ref this.symm
    · simp at h3
    · simp at h3
  rw [← ev]
  exact h1
theorem de_isET {D : Addr} {b : Bool} {m : Md} {x y e : Str} {c1 c2 : Addr} {kt : Nat} {p p1 p2 p3 p4 pos : Pos} (i : Nat)
    (EC : ExcC X.K D) (hx : X.mg x = some (.ref c1)) (hy : X.mg y = some (.ref c2)) (hkit : PySem.W.kitAny X.K (.ref D) [.ref c1, .ref c2] = some b) (hm : X.mg "isinstance" = none) (hN : X.N[i]? = some e) (hv : visB X.env.scope.names e = true)
    (hg : X.env.scope.names.lookup ("isinstance" : Str) = some .globalImplicit) (gx : X.env.scope.names.lookup x = some .globalImplicit) (gy : X.env.scope.names.lookup y = some .globalImplicit) (hd : (e == ("__debug__" : Str)) = false := by decide) (hcd : (e == ("__classdict__" : Str)) = false := by decide)
    (hdx : (x == ("__debug__" : Str)) = false := by decide) (hdy : (y == ("__debug__" : Str)) = false := by decide) :
    DE (suiteFam X a (.ref D) cl lv nd hr hk hf) m (.Call (.Name "isinstance" p) [.Name e p1, .Tuple [.Name x p2, .Name y p3] kt p4] [] pos) (eIsE i a b) := by
  refine ⟨_, fun j => pe_callB (call_isET EC j.2.1.zc j.2.2) hg hm (by decide +kernel) (pa_cons (pe_var (i := i) hN (vis_of hv) hd hcd) (pa_cons (pe_tup (pa_cons (pe_glob (v := .ref c1) gx hx rfl hdx) (pa_cons (pe_glob (v := .ref c2) gy hy rfl hdy) pa_nil))) pa_nil)) (by decide) (by decide) (by rfl) (by rfl), fun H0 hid0 s ρ S Q q => ?_⟩
  unfold eIsE at q
  cases hρ : ρ[i]? with
  | none => rw [hρ] at q; exact q.elim
  | some o =>
    cases o with
    | none => rw [hρ] at q; exact q.elim
    | some d =>
      rw [hρ] at q
      dsimp only at q
      cases hi : isExc a d with
      | false => rw [hi] at q; exact q.elim
      | true =>
        rw [hi] at q
        have := isExc_eq hi
        subst this
        refine ⟨_, exc_at S rfl hρ, small_line (show (2 : Nat) ≤ 1000000 from by decide), fun tp hp => ?_⟩
        exact ⟨tp, [.ref c1, .ref c2], [.ref c1, .ref c2], b, rfl, upd_same, .cons (.own c1) (.cons (.own c2) .nil), hkit, q _ _ (Ex.new hp) rm_bool⟩
end
theorem Ecls.kitA {K : PySem.W.Frag} {mg : Str → Option Value} (EC : Ecls K mg) (c j k : Nat) (hc : c < 3) (hj : j < 3) (hk : k < 3) : PySem.W.kitAny K (.ref (eAd K c)) [.ref (eAd K j), .ref (eAd K k)] = some (decide (c = j) || decide (c = k)) := by
  refine kitAny_cons (EC.kit c j hc hj) (fun h => ?_) (fun h => ?_)
  · rw [h, Bool.false_or]
    exact kitAny_cons (EC.kit c k hc hk) (fun h => by rw [h]; rfl) (fun h => h)
  · rw [h]
    rfl
end DL
set_option Elab.async false
set_option linter.all false
set_option maxRecDepth 100000
set_option maxHeartbeats 4000000
namespace DL
open PySem PySem.Spec PyProof.Rows L2
variable [TabsC]
/-! ### zip of a tuple with a list -/
section
variable {prog : Program} {w : World} {A : Around} {E : Value → Shared → Prop} {s : Shared}
/-- an iterator at it over what stands at l -/
structure ItK (prog : Program) (w : World) (it l : Addr) (its : Array Value) (St : Nat → Heap → Prop) : Prop where
  keep : ∀ {k : Nat} {h h1 : Heap}, St k h → (∀ o, h.get? it = some o → h1.get? it = some o) → (∀ o, h.get? l = some o → h1.get? l = some o) → St k h1
  item : ∀ {A : Around} {E : Value → Shared → Prop} {s : Shared} {k : Nat} {x : Value} {Q : Value → Shared → Prop}, St k s.heap → its[k]? = some x → (∀ h1, St (k + 1) h1 → Heap.SameBut it s.heap h1 → Q x { s with heap := h1 }) → wpAny (model prog w) A (Builtin.SmallTypes.nextOf (.ref it)) Q E s
  stop : ∀ {A : Around} {E : Value → Shared → Prop} {s : Shared} {k : Nat} {Q : Value → Shared → Prop}, A.handled = none → St k s.heap → its[k]? = none → (∀ h1 e, Heap.ExtBut it s.heap h1 → (∃ o, h1.get? e = some o ∧ o.cls = .type "StopIteration") → E (.ref e) { s with heap := h1 }) → wpAny (model prog w) A (Builtin.SmallTypes.nextOf (.ref it)) Q E s
theorem itk_tup {it l : Addr} {its : Array Value} (n : l ≠ it) : ItK prog w it l its fun k h => h.IsTupleIter it l k ∧ h.IsTuple l its where
  keep := fun ⟨a, o, ho, r⟩ k1 k2 => ⟨a.at fun o e => k1 o e, o, k2 o ho, r⟩
  item := fun ⟨a, b⟩ hx q => RZ.nextOf_tuple_item a b hx fun h1 st sb => q h1 ⟨st, b.extBut sb.extBut n⟩ sb
  stop := fun hh ⟨a, b⟩ hx q => RZ.nextOf_tuple_end hh a b hx q
theorem itk_lst {it l : Addr} {its : Array Value} (n : l ≠ it) : ItK prog w it l its fun k h => h.IsListIter it l k ∧ h.IsList l its where
  keep := fun ⟨a, o, ho, r⟩ k1 k2 => ⟨a.at fun o e => k1 o e, o, k2 o ho, r⟩
  item := fun ⟨a, b⟩ hx q => wpAny_nextOf_list_item a b hx fun h1 st sb => q h1 ⟨st, b.extBut sb.extBut n⟩ sb
  stop := fun hh ⟨a, b⟩ hx q => wpAny_nextOf_list_end hh a b hx q
variable {z TI TO i1 i2 l1 l2 : Addr} {xs ys : Array Value} {S1 S2 : Nat → Heap → Prop}
theorem mix_item {k1 k2 : Nat} {x y a b : Value} {Q : Value → Shared → Prop} (D : ZipApart z TI TO i1 i2 l1 l2) (J1 : ItK prog w i1 l1 xs S1) (J2 : ItK prog w i2 l2 ys S2)
    (hz : IsZip s.heap z TI TO .none) (hTI : IsPair s.heap TI (.ref i1) (.ref i2)) (hTO : IsPair s.heap TO a b) (h1 : S1 k1 s.heap) (h2 : S2 k2 s.heap) (hx : xs[k1]? = some x) (hy : ys[k2]? = some y)
    (hi1 : i1 < s.heap.objs.size) (hi2 : i2 < s.heap.objs.size) (hl1 : l1 < s.heap.objs.size) (hl2 : l2 < s.heap.objs.size)
    (hQ : ∀ h9, IsZip h9 z TI TO (rawInt s.heap.objs.size) → IsPair h9 TO x y → S1 (k1 + 1) h9 → S2 (k2 + 1) h9 → IsPair h9 s.heap.objs.size x y → h9.objs.size = s.heap.objs.size + 1 → (∀ c o, c ≠ z → c ≠ TO → c ≠ i1 → c ≠ i2 → s.heap.get? c = some o → h9.get? c = some o) → Q (.ref s.heap.objs.size) { s with heap := h9 }) :
    wpAny (model prog w) A (Builtin.«zip.__next__» ⟨[.ref z], []⟩) (fun fin s9 => ∃ v, fin = .done (.ret v) ∧ Q v s9) E s := by
  show wpAny _ _ (do let r ← field (.ref z) 2; _) _ _ _
  refine wpAny_bind (wpAny_field hz rfl (x := .bool false) rfl ?_)
  show wpAny _ _ (do let r ← field (.ref z) 3; _) _ _ _
  refine wpAny_bind (wpAny_field hz rfl (x := .ref TI) rfl (wpAny_bind (wpAny_seqItems hTI rfl ?_)))
  show wpAny _ _ (do let r ← Builtin.SmallTypes.ownedTupleIsFree (.ref z); _) _ _ _
  refine wpAny_bind ?_
  unfold Builtin.SmallTypes.ownedTupleIsFree
  refine wpAny_bind (wpAny_field hz rfl (x := .none) rfl (wpAny_pure ?_))
  simp only [if_true]
  refine wpAny_bind (wpAny_rule (wpAny_bind (wpAny_field hz rfl (x := .ref TO) rfl (wpAny_bind (wpAny_setField_rec hz (by simp) fun g1 z1 c1 => wpAny_bind ?_)))))
  have z1 : IsZip g1 z TI TO .ellipsis := z1
  simp only [List.zipIdx_cons, List.zipIdx_nil, List.forIn_cons, List.forIn_nil]
  refine wpAny_bind (wpAny_bind (wpAny_onRaise ?_))
  show wpAny _ _ (do let r ← Builtin.SmallTypes.nextOf (.ref i1); _) _ _ _
  have a1 : S1 k1 g1 := J1.keep h1 (fun o e => c1.extBut _ _ D.i1z e) fun o e => c1.extBut _ _ D.l1z e
  have b1 : S2 k2 g1 := J2.keep h2 (fun o e => c1.extBut _ _ D.i2z e) fun o e => c1.extBut _ _ D.l2z e
  refine wpAny_bind (J1.item a1 hx fun g2 a2 c2 => wpAny_pure ?_)
  have b2 : S2 k2 g2 := J2.keep b1 (fun o e => c2.extBut _ _ D.i12.symm e) fun o e => c2.extBut _ _ D.l2i1 e
  have t2 : IsPair g2 TO a b := c2.extBut _ _ D.TOi1 (c1.extBut _ _ D.TOz hTO)
  refine wpAny_bind (wpAny_seqItems t2 rfl (wpAny_bind (wpAny_updateSeq_pair t2 fun g3 t3 c3 => wpAny_bind (wpAny_letGo (wpAny_pure ?_)))))
  have t3 : IsPair g3 TO x b := t3
  have a3 : S1 (k1 + 1) g3 := J1.keep a2 (fun o e => c3.extBut _ _ D.TOi1.symm e) fun o e => c3.extBut _ _ D.l1TO e
  have b3 : S2 k2 g3 := J2.keep b2 (fun o e => c3.extBut _ _ D.TOi2.symm e) fun o e => c3.extBut _ _ D.l2TO e
  refine wpAny_bind (wpAny_bind (wpAny_onRaise ?_))
  show wpAny _ _ (do let r ← Builtin.SmallTypes.nextOf (.ref i2); _) _ _ _
  refine wpAny_bind (J2.item b3 hy fun g4 b4 c4 => wpAny_pure ?_)
  have a4 : S1 (k1 + 1) g4 := J1.keep a3 (fun o e => c4.extBut _ _ D.i12 e) fun o e => c4.extBut _ _ D.l1i2 e
  have t4 : IsPair g4 TO x b := c4.extBut _ _ D.TOi2 t3
  refine wpAny_bind (wpAny_seqItems t4 rfl (wpAny_bind (wpAny_updateSeq_pair t4 fun g5 t5 c5 => wpAny_bind (wpAny_letGo (wpAny_pure (wpAny_pure ?_))))))
  have t5 : IsPair g5 TO x y := t5
  have a5 : S1 (k1 + 1) g5 := J1.keep a4 (fun o e => c5.extBut _ _ D.TOi1.symm e) fun o e => c5.extBut _ _ D.l1TO e
  have b5 : S2 (k2 + 1) g5 := J2.keep b4 (fun o e => c5.extBut _ _ D.TOi2.symm e) fun o e => c5.extBut _ _ D.l2TO e
  refine wpAny_bind (wpAny_seqItems t5 rfl (wpAny_bind (wpAny_newTuple ?_)))
  have n5 : g5.objs.size = s.heap.objs.size := by rw [c5.1, c4.1, c3.1, c2.1, c1.1]
  have z5 : IsZip g5 z TI TO .ellipsis := c5.extBut _ _ D.TOz.symm (c4.extBut _ _ D.i2z.symm (c3.extBut _ _ D.TOz.symm (c2.extBut _ _ D.i1z.symm z1)))
  have k5 : ∀ c o, c ≠ z → c ≠ TO → c ≠ i1 → c ≠ i2 → s.heap.get? c = some o → g5.get? c = some o := fun c o n1 n2 n3 n4 e => c5.extBut _ _ n2 (c4.extBut _ _ n4 (c3.extBut _ _ n2 (c2.extBut _ _ n3 (c1.extBut _ _ n1 e))))
  have lz : z < g5.objs.size := Heap.lt_size z5
  show wpAny _ _ (do let r ← Builtin.SmallTypes.ownedTupleHandOut (.ref z) (.ref g5.objs.size); _) _ _ _
  refine wpAny_bind ?_
  unfold Builtin.SmallTypes.ownedTupleHandOut
  have z6 : IsZip (g5.push { cls := .type "tuple", data := .seq #[x, y] }) z TI TO .ellipsis := Heap.get?_push_of_some _ z5
  refine wpAny_bind (wpAny_setField_rec z6 (by simp) fun g7 z7 c7 => ?_)
  have z7 : IsZip g7 z TI TO (rawInt g5.objs.size) := z7
  refine wpAny_setField_rec z7 (by simp) fun g8 z8 c8 => wpAny_pure ⟨_, rfl, ?_⟩
  have z8 : IsZip g8 z TI TO (rawInt g5.objs.size) := z8
  have up : ∀ c o, c ≠ z → g5.get? c = some o → g8.get? c = some o := fun c o n e => c8.extBut _ _ n (c7.extBut _ _ n (Heap.get?_push_of_some _ e))
  have t8 : IsPair g8 g5.objs.size x y := c8.extBut _ _ (Nat.ne_of_gt lz) (c7.extBut _ _ (Nat.ne_of_gt lz) (Heap.get?_push_size _ rfl))
  have n8 : g8.objs.size = g5.objs.size + 1 := by rw [c8.1, c7.1, Heap.size_push]
  rw [n5] at z8 t8 n8
  show Q (.ref g5.objs.size) _
  rw [n5]
  exact hQ g8 z8 (up _ _ D.TOz t5) (J1.keep a5 (fun o e => up _ o D.i1z e) fun o e => up _ o D.l1z e) (J2.keep b5 (fun o e => up _ o D.i2z e) fun o e => up _ o D.l2z e) t8 n8 fun c o n1 n2 n3 n4 e => up c o n1 (k5 c o n1 n2 n3 n4 e)
theorem mix_end {k1 k2 : Nat} {a b : Value} {Q : Fin → Shared → Prop} (hh : A.handled = none) (D : ZipApart z TI TO i1 i2 l1 l2) (J1 : ItK prog w i1 l1 xs S1) (J2 : ItK prog w i2 l2 ys S2)
    (hz : IsZip s.heap z TI TO .none) (hTI : IsPair s.heap TI (.ref i1) (.ref i2)) (hTO : IsPair s.heap TO a b) (h1 : S1 k1 s.heap) (h2 : S2 k2 s.heap) (hend : xs[k1]? = none ∨ ys[k2]? = none)
    (hE : ∀ h9 e, (∀ c o, c ≠ z → c ≠ TO → c ≠ i1 → c ≠ i2 → s.heap.get? c = some o → h9.get? c = some o) → (∃ o, h9.get? e = some o ∧ o.cls = .type "StopIteration") → E (.ref e) { s with heap := h9 }) : wpAny (model prog w) A (Builtin.«zip.__next__» ⟨[.ref z], []⟩) Q E s := by
  show wpAny _ _ (do let r ← field (.ref z) 2; _) _ _ _
  refine wpAny_bind (wpAny_field hz rfl (x := .bool false) rfl ?_)
  show wpAny _ _ (do let r ← field (.ref z) 3; _) _ _ _
  refine wpAny_bind (wpAny_field hz rfl (x := .ref TI) rfl (wpAny_bind (wpAny_seqItems hTI rfl ?_)))
  show wpAny _ _ (do let r ← Builtin.SmallTypes.ownedTupleIsFree (.ref z); _) _ _ _
  refine wpAny_bind ?_
  unfold Builtin.SmallTypes.ownedTupleIsFree
  refine wpAny_bind (wpAny_field hz rfl (x := .none) rfl (wpAny_pure ?_))
  simp only [if_true]
  refine wpAny_bind (wpAny_rule (wpAny_bind (wpAny_field hz rfl (x := .ref TO) rfl (wpAny_bind (wpAny_setField_rec hz (by simp) fun g1 z1 c1 => wpAny_bind ?_)))))
  have z1 : IsZip g1 z TI TO .ellipsis := z1
  simp only [List.zipIdx_cons, List.zipIdx_nil, List.forIn_cons, List.forIn_nil]
  have a1 : S1 k1 g1 := J1.keep h1 (fun o e => c1.extBut _ _ D.i1z e) fun o e => c1.extBut _ _ D.l1z e
  have b1 : S2 k2 g1 := J2.keep h2 (fun o e => c1.extBut _ _ D.i2z e) fun o e => c1.extBut _ _ D.l2z e
  have nz : ∀ {g : Heap} {e : Addr} {oe : Obj}, IsZip g z TI TO .ellipsis → g.get? e = some oe → oe.cls = .type "StopIteration" → e ≠ z := fun hg he hc q => by
    subst q
    rw [hg] at he
    cases he
    simp at hc
  refine wpAny_bind (wpAny_bind (wpAny_onRaise ?_))
  show wpAny _ _ (do let r ← Builtin.SmallTypes.nextOf (.ref i1); _) _ _ _
  cases hx : xs[k1]? with
  | none =>
    refine wpAny_bind (J1.stop hh a1 hx fun g2 e c2 he => ?_)
    obtain ⟨oe, e1, e2⟩ := he
    have z2 : IsZip g2 z TI TO .ellipsis := c2 _ _ D.i1z.symm z1
    exact wpAny_setField_rec z2 (by simp) fun g3 _ c3 => hE g3 e (fun c o n1 _ n3 _ x => c3.extBut _ _ n1 (c2 _ _ n3 (c1.extBut _ _ n1 x))) ⟨oe, c3.extBut _ _ (nz z2 e1 e2) e1, e2⟩
  | some x =>
    have hy : ys[k2]? = none := hend.elim (fun h => by rw [hx] at h; cases h) id
    refine wpAny_bind (J1.item a1 hx fun g2 a2 c2 => wpAny_pure ?_)
    have b2 : S2 k2 g2 := J2.keep b1 (fun o e => c2.extBut _ _ D.i12.symm e) fun o e => c2.extBut _ _ D.l2i1 e
    have t2 : IsPair g2 TO a b := c2.extBut _ _ D.TOi1 (c1.extBut _ _ D.TOz hTO)
    refine wpAny_bind (wpAny_seqItems t2 rfl (wpAny_bind (wpAny_updateSeq_pair t2 fun g3 t3 c3 => wpAny_bind (wpAny_letGo (wpAny_pure (wpAny_bind (wpAny_bind (wpAny_onRaise ?_))))))))
    have b3 : S2 k2 g3 := J2.keep b2 (fun o e => c3.extBut _ _ D.TOi2.symm e) fun o e => c3.extBut _ _ D.l2TO e
    show wpAny _ _ (do let r ← Builtin.SmallTypes.nextOf (.ref i2); _) _ _ _
    refine wpAny_bind (J2.stop hh b3 hy fun g4 e c4 he => ?_)
    obtain ⟨oe, e1, e2⟩ := he
    have z4 : IsZip g4 z TI TO .ellipsis := c4 _ _ D.i2z.symm (c3.extBut _ _ D.TOz.symm (c2.extBut _ _ D.i1z.symm z1))
    exact wpAny_setField_rec z4 (by simp) fun g5 _ c5 => hE g5 e (fun c o n1 n2 n3 n4 x => c5.extBut _ _ n1 (c4 _ _ n4 (c3.extBut _ _ n2 (c2.extBut _ _ n3 (c1.extBut _ _ n1 x))))) ⟨oe, c5.extBut _ _ (nz z4 e1 e2) e1, e2⟩
end
/-- the tuple at a, the list at b, at each turn -/
def ItzM (K : PySem.W.Frag) (a b : Addr) : It :=
  ⟨fun i H => ∃ (xs ys : List V) (x y : V), SqT K H a xs ∧ SqL K H b ys ∧ xs[i]? = some x ∧ ys[i]? = some y,
    fun i H v H1 => ∃ T x y, v = .ref T ∧ H T = none ∧ H1 = upd H T (.tup [x, y]) ∧ (∀ xs, SqT K H a xs → xs[i]? = some x) ∧ ∀ ys, SqL K H b ys → ys[i]? = some y,
    fun i H => ∃ xs ys : List V, SqT K H a xs ∧ SqL K H b ys ∧ (xs.length ≤ i ∨ ys.length ≤ i)⟩
theorem turn_mix {P : Program} {w : World} {K : PySem.W.Frag} {elts : List Expr} {kk : Nat} {tpos : Pos} {a b z TI TO i1 i2 : Addr} (D : ZipApart z TI TO i1 i2 a b) :
    Turn P w K (.Tuple elts kk tpos) (ItzM K a b) [z, TI, TO, i1, i2] z fun i h => IsZip h z TI TO .none ∧ IsPair h TI (.ref i1) (.ref i2) ∧ (∃ x y, IsPair h TO x y) ∧ h.IsTupleIter i1 a i ∧ h.IsListIter i2 b i where
  mem := by simp
  obj := fun i h ⟨q1, q2, ⟨x, y, q3⟩, ⟨o1, e1, _, d1⟩, o2, e2, _, d2⟩ c hc => by
    simp only [List.mem_cons, List.not_mem_nil, or_false] at hc
    rcases hc with q | q | q | q | q <;> rw [q]
    · exact ⟨_, q1, fun v n => nomatch n⟩
    · exact ⟨_, q2, fun v n => nomatch n⟩
    · exact ⟨_, q3, fun v n => nomatch n⟩
    · exact ⟨o1, e1, fun v n => by rw [d1] at n; cases n⟩
    · exact ⟨o2, e2, fun v n => by rw [d2] at n; cases n⟩
  keep := fun i h h1 ⟨q1, q2, ⟨x, y, q3⟩, q4, q5⟩ k => ⟨k z (by simp) _ q1, k TI (by simp) _ q2, ⟨x, y, k TO (by simp) _ q3⟩, q4.at fun o e => k i1 (by simp) o e, q5.at fun o e => k i2 (by simp) o e⟩
  item := fun X hP hw hK hc i pins s σ H E I hf ⟨hz, hTI, ⟨x0, y0, hTO⟩, h1, h2⟩ ⟨xs, ys, x, y, qx, qy, hx, hy⟩ => by
    subst hP hw hK
    obtain ⟨its, rv, p, _⟩ := I.tuple qx
    obtain ⟨its2, rv2, p2, _⟩ := I.list qy
    obtain ⟨u, hu, ru⟩ := rv.get hx
    obtain ⟨u2, hu2, ru2⟩ := rv2.get hy
    have lz : z < s.heap.objs.size := Heap.lt_size hz
    have l1 : i1 < s.heap.objs.size := by obtain ⟨_, e, _⟩ := h1; exact Heap.lt_size e
    have l2 : i2 < s.heap.objs.size := by obtain ⟨_, e, _⟩ := h2; exact Heap.lt_size e
    have l3 : a < s.heap.objs.size := by obtain ⟨_, e, _⟩ := id p; exact Heap.lt_size e
    have hT : s.TypeIs (.ref z) "zip" := ⟨_, hz, rfl⟩
    unfold pyNext
    refine wpAny_bind (wpAny_attempt (wpAny_callSpecial?_slot (name := Str.ofString "__next__") hT F.slot_zip_next (wpAny_call_entry F.slot_zip_next hT F.entry_zip_next
      (mix_item D (itk_tup D.l1i1) (itk_lst D.l2i2) hz hTI hTO ⟨h1, p⟩ ⟨h2, p2.isList⟩ (x := u) (y := u2) (by simpa using hu) (by simpa using hu2) l1 l2 l3 p2.lt fun h9 z9 t9 s1 s2 hT9 n9 k9 => wpAny_pure ⟨_, rfl, ?_⟩) (F.args_zip_next_1 _))))
    refine wpAny_letOwnedTupleGo_zip (s := { s with heap := h9 }) z9 fun h8 z8 sb => ?_
    have hT2 : h8.get? s.heap.objs.size = some { cls := .type "tuple", data := .seq #[u, u2] } := (sb.2 _ (Nat.ne_of_gt lz)).trans hT9
    have new : ObjOk X.prog X.w (upd H s.heap.objs.size (.tup [x, y])) h8 s.heap.objs.size (.tup [x, y]) := ⟨by show 2 ≤ sizeLine; decide, [u, u2], .cons ru (.cons ru2 .nil), ⟨_, hT2, rfl, _, rfl⟩⟩
    have I1 := I.turnedNew (t' := s.toks) (ch := [z, TI, TO, i1, i2]) (h' := h8) (fun c o hb q => (sb.2 c (fun n => hb (by simp [n]))).trans (k9 c o (fun n => hb (by simp [n])) (fun n => hb (by simp [n])) (fun n => hb (by simp [n])) (fun n => hb (by simp [n])) q)) hf (Nat.le_refl _) new
    refine ⟨.ref s.heap.objs.size, _, I1, rfl, ⟨_, x, y, rfl, I.hok.fresh (Nat.le_refl _), rfl, fun l hl => by rw [I.tuple_inj hl qx]; exact hx, fun l hl => by rw [I.list_inj hl qy]; exact hy⟩, ⟨z8, (sb.2 _ D.TIz).trans (k9 _ _ D.TIz D.TITO D.TIi1 D.TIi2 hTI), ⟨u, u2, (sb.2 _ D.TOz).trans t9⟩, s1.1.at fun o q => (sb.2 _ D.i1z).trans q, s2.1.at fun o q => (sb.2 _ D.i2z).trans q⟩, fun c hcm => ?_⟩
    have hlt : c < s.heap.objs.size := by
      have hcm2 := hcm
      simp only [List.mem_cons, List.not_mem_nil, or_false] at hcm2
      rcases hcm2 with q | q | q | q | q <;> rw [q]
      · exact lz
      · exact Heap.lt_size hTI
      · exact Heap.lt_size hTO
      · exact l1
      · exact l2
    rw [upd_ne (Nat.ne_of_lt hlt)]
    exact (hf c hcm).1
  done := fun X hP hw hK hc i pins s σ H E I hf ⟨hz, hTI, ⟨x0, y0, hTO⟩, h1, h2⟩ ⟨xs, ys, qx, qy, hend⟩ => by
    subst hP hw hK
    obtain ⟨its, rv, p, _⟩ := I.tuple qx
    obtain ⟨its2, rv2, p2, _⟩ := I.list qy
    have n1 := rv.length
    have n2 := rv2.length
    have he : its.toArray[i]? = none ∨ its2.toArray[i]? = none := hend.imp (fun q => by simp; omega) fun q => by simp; omega
    have hT : s.TypeIs (.ref z) "zip" := ⟨_, hz, rfl⟩
    unfold pyNext
    refine wpAny_bind (wpAny_attempt (wpAny_callSpecial?_slot (name := Str.ofString "__next__") hT F.slot_zip_next (wpAny_call_entry F.slot_zip_next hT F.entry_zip_next (mix_end (I.ok.hd hc) D (itk_tup D.l1i1) (itk_lst D.l2i2) hz hTI hTO ⟨h1, p⟩ ⟨h2, p2.isList⟩ he fun h9 e k9 he => ?_) (F.args_zip_next_1 _))))
    obtain ⟨o, ho, hc2⟩ := he
    refine wpAny_bind (wpAny_isInstance (T := "StopIteration") (b := true) ⟨o, ho, hc2⟩ isSubtype_stop (wpAny_pure ⟨rfl, ?_⟩))
    exact I.turnedL (t' := s.toks) (ch := [z, TI, TO, i1, i2]) (fun c o hb q => k9 c o (fun n => hb (by simp [n])) (fun n => hb (by simp [n])) (fun n => hb (by simp [n])) (fun n => hb (by simp [n])) q) hf
  self := fun A i s Q E st h => wpAny_pyIter_zip st.1 h
abbrev mxH1 (h : Heap) (l1 : Addr) : Heap := h.push { cls := .type "tuple_iterator", data := .fields #[.ref l1, .int 0 0] }
abbrev mxH2 (h : Heap) (l1 l2 : Addr) : Heap := (mxH1 h l1).push { cls := .type "list_iterator", data := .fields #[.ref l2, .int 0 0] }
abbrev mxH3 (h : Heap) (l1 l2 : Addr) : Heap := (mxH2 h l1 l2).push { cls := .type "tuple", data := .seq #[.ref h.objs.size, .ref (mxH1 h l1).objs.size] }
abbrev mxH4 (h : Heap) (l1 l2 : Addr) : Heap := (mxH3 h l1 l2).push { cls := .type "tuple", data := .seq #[.none, .none] }
abbrev mxH5 (h : Heap) (l1 l2 : Addr) : Heap := (mxH4 h l1 l2).push { cls := .type "zip", data := .fields #[.none, .bool false, .bool false, .ref (mxH2 h l1 l2).objs.size, .ref (mxH3 h l1 l2).objs.size] }
theorem meets_mix (l1 l2 : Addr) (xs ys : Array Value) : Meets (Builtin.«zip.__new__» ⟨[.type "zip", .ref l1, .ref l2], []⟩) (fun _ R s => s.heap.IsTuple l1 xs ∧ s.heap.IsList l2 ys ∧ R (.ok (.ret (.ref (mxH4 s.heap l1 l2).objs.size))) { s with heap := mxH5 s.heap l1 l2 }) :=
  .of_wp fun prog w A R s h => by
    obtain ⟨hp, g, d, tk, os⟩ := s
    obtain ⟨hl1, hl2, h⟩ := h
    have hsub := sub_zip
    have hL1 : Heap.IsTuple (Shared.heap ⟨hp, g, d, tk, os⟩) l1 xs := hl1
    have hL2 : Heap.IsList (Shared.heap ⟨mxH1 hp l1, g, d, tk, os⟩) l2 ys := Heap.IsList.push hl2 _
    wp_walk using wpAny_pyIter_tuple hL1, wpAny_pyIter_list hL2
    exact ⟨_, rfl, h⟩
theorem call_mix {prog : Program} {w : World} {A : Around} {E : Value → Shared → Prop} {s : Shared} {l1 l2 : Addr} {xs ys : Array Value} {Q : Value → Shared → Prop} (hl1 : s.heap.IsTuple l1 xs) (hl2 : s.heap.IsList l2 ys)
    (h : ∀ h9, IsZip h9 (s.heap.objs.size + 4) (s.heap.objs.size + 2) (s.heap.objs.size + 3) .none → IsPair h9 (s.heap.objs.size + 2) (.ref s.heap.objs.size) (.ref (s.heap.objs.size + 1)) → IsPair h9 (s.heap.objs.size + 3) .none .none → h9.IsTupleIter s.heap.objs.size l1 0 → h9.IsListIter (s.heap.objs.size + 1) l2 0 →
      (∀ c o, s.heap.get? c = some o → h9.get? c = some o) → Q (.ref (s.heap.objs.size + 4)) { s with heap := h9 }) : wpAny (model prog w) A (call (.type "zip") [.ref l1, .ref l2]) Q E s := by
  refine callType_new F.called_zip (by decide) (F.typeCall_zip_2 _ _) (F.newCall_zip_2 _ _) (fun obj => F.args_object_init_3 obj _ _) F.entry_zip_new (meets_mix l1 l2 xs ys) ⟨hl1, hl2, ?_⟩
  have n1 : (mxH1 s.heap l1).objs.size = s.heap.objs.size + 1 := Heap.size_push ..
  have n2 : (mxH2 s.heap l1 l2).objs.size = s.heap.objs.size + 2 := by rw [Heap.size_push, n1]
  have n3 : (mxH3 s.heap l1 l2).objs.size = s.heap.objs.size + 3 := by rw [Heap.size_push, n2]
  have n4 : (mxH4 s.heap l1 l2).objs.size = s.heap.objs.size + 4 := by rw [Heap.size_push, n3]
  have up : ∀ {h : Heap} {o : Obj} {c : Addr} {u : Obj}, h.get? c = some u → (h.push o).get? c = some u := fun e => Heap.get?_push_of_some _ e
  have g5 : (mxH5 s.heap l1 l2).get? (mxH4 s.heap l1 l2).objs.size = some _ := Heap.get?_push_size _ rfl
  have g4 : (mxH5 s.heap l1 l2).get? (mxH3 s.heap l1 l2).objs.size = some _ := up (Heap.get?_push_size _ rfl)
  have g3 : (mxH5 s.heap l1 l2).get? (mxH2 s.heap l1 l2).objs.size = some _ := up (up (Heap.get?_push_size _ rfl))
  have g2 : (mxH5 s.heap l1 l2).get? (mxH1 s.heap l1).objs.size = some _ := up (up (up (Heap.get?_push_size _ rfl)))
  have g1 : (mxH5 s.heap l1 l2).get? s.heap.objs.size = some _ := up (up (up (up (Heap.get?_push_size _ rfl))))
  rw [n2, n3, n4] at g5
  rw [n1, n2] at g3
  rw [n3] at g4
  rw [n1] at g2
  show _ ∧ Q (.ref (mxH4 s.heap l1 l2).objs.size) _
  rw [n4]
  exact ⟨⟨_, g5, rfl⟩, h _ g5 g3 g4 ⟨_, g1, rfl, rfl⟩ ⟨_, g2, rfl, rfl⟩ fun c o x => up (up (up (up (up x))))⟩
def iMixK (K : PySem.W.Frag) (ta : TA) : TI := fun σ H R => ta σ H fun vs H1 => ∃ a b xs ys, vs = [.ref a, .ref b] ∧ SqT K H1 a xs ∧ SqL K H1 b ys ∧ R (ItzM K a b) H1
theorem pi_mix {X : Cx} {e e2 : Expr} {ta : TA} {p pos tpos : Pos} {elts : List Expr} {kk : Nat} (hg : Gl X "zip") (hm : X.mg "zip" = none) (ha : PA X [e, e2] ta) (hs : starEach [e, e2] X.env = (false, eval e X.env) :: starEach [e2] X.env := by rfl)
    (hpl : (backTo pos (starEach [e2] X.env)).any (·.1) = false := by rfl) : PI X (.Tuple elts kk tpos) (.Call (.Name "zip" p) [e, e2] [] pos) (iMixK X.K ta) := by
  refine ⟨fun pins s σ H R I h => Call_ (ld_blt I hg hm PyProof.Rows.boot_zip (PyProof.Rows.callWith_type1 (thn (ha.run pos pins s σ H _ I h) fun us s1 ⟨vs, H1, I1, r1, a, b, xs, ys, ex, qx, qy, q⟩ => ?_) hs hpl))⟩
  subst ex
  obtain ⟨u1, u2, rfl, e1, e2⟩ := vals2 r1
  cases (show u1 = Value.ref a from e1)
  cases (show u2 = Value.ref b from e2)
  obtain ⟨its, rv, p1, _⟩ := I1.tuple qx
  obtain ⟨its2, rv2, p2, _⟩ := I1.list qy
  have l1 : a < s1.heap.objs.size := by obtain ⟨_, e, _⟩ := id p1; exact Heap.lt_size e
  refine call_mix (show s1.heap.IsTuple a its.toArray from p1) p2.isList fun h9 hz hTI hTO h1 h2 hk => wpAny_pyIter_zip hz ?_
  refine ⟨s1.heap.objs.size + 4, [s1.heap.objs.size + 4, s1.heap.objs.size + 2, s1.heap.objs.size + 3, s1.heap.objs.size, s1.heap.objs.size + 1], _, _, H1, rfl, I1.kept (t' := s1.toks) hk, turn_mix (PySem.W.ktu_apart s1.heap.objs.size a b l1 p2.lt), ⟨hz, hTI, ⟨_, _, hTO⟩, h1, h2⟩, fun c hcm => ?_, q⟩
  have hle : s1.heap.objs.size ≤ c := by
    simp only [List.mem_cons, List.not_mem_nil, or_false] at hcm
    rcases hcm with z | z | z | z | z <;> rw [z] <;> first | exact Nat.le_add_right _ _ | exact Nat.le_refl _
  exact I1.fpOk hle (I1.hok.fresh hle)
section
variable {F : Fam} {K : PySem.W.Frag}
theorem walk_mix {B C : Hp} {a b : Addr} {xs ys : List V} {ds es : List D} (h1 : SqT K C a xs) (h2 : B b = some (.lst ys)) (m1 : MnA K C ds xs) (m2 : MnA K C es ys) : Walks K (ItzM K a b) B C (pairs ds es) where
  at_ := fun hid H eB eC dom i d hd => by
    obtain ⟨d1, d2, g1, g2, rfl⟩ := pairs_get hd
    obtain ⟨x, hx, mx⟩ := m1.get g1
    obtain ⟨y, hy, my⟩ := m2.get g2
    have s1 : SqT K H a xs := Evl.ex_t (eC.trans hide_ex) h1
    have s2 : SqL K H b ys := SqL.of (eB _ _ h2)
    refine ⟨⟨xs, ys, x, y, s1, s2, hx, hy⟩, fun v H1 ⟨T, x1, y1, ev, hT, eH, f1, f2⟩ => ?_⟩
    subst ev eH
    have e1 := f1 xs s1
    rw [hx] at e1
    cases e1
    have e2 := f2 ys s2
    rw [hy] at e2
    cases e2
    exact pair_new dom hT (Mn.mono eC _ _ mx) (Mn.mono eC _ _ my)
  end_ := fun hid H eB eC _ => ⟨xs, ys, Evl.ex_t (eC.trans hide_ex) h1, SqL.of (eB _ _ h2), by
    unfold pairs
    rw [List.length_map, List.length_zip, m1.length, m2.length]
    omega⟩
def iMix (g : GA) : GA := fun ρ => (g ρ).bind fun vs => match vs with
  | [.tuple ds, .list es] => .ok (pairs ds es)
  | _ => .stuck
theorem di_mix {m : Md} {a b : Expr} {elts : List Expr} {kk : Nat} {tpos : Pos} {g : GA} {p pos : Pos} (hmg : F.mg "zip" = none) (h : DA F m [a, b] g) (hm : m ≠ .au := by decide) (hg : F.sn.lookup ("zip" : Str) = some .globalImplicit := by rfl)
    (hs : ∀ env, starEach [a, b] env = (false, eval a env) :: starEach [b] env := by intro _; rfl) (hpl : ∀ env, (backTo pos (starEach [b] env)).any (·.1) = false := by intro _; rfl) : DI F m (.Tuple elts kk tpos) (.Call (.Name "zip" p) [a, b] [] pos) (iMix g) := by
  obtain ⟨ta, pa, sa⟩ := h
  refine ⟨iMixK F.K ta, fun i => ?_, fun H0 hid0 s ρ S R q => sa H0 hid0 s ρ S _ ?_⟩
  · have z := pi_mix (tpos := tpos) (elts := elts) (kk := kk) (p := p) (gl_of hg i) (by rw [F.hmg]; exact hmg) (pa i) (hs _) (hpl _)
    rw [F.hK i] at z
    exact z
  · unfold iMix at q
    cases hd : g ρ with
    | stuck => rw [hd] at q; exact q.elim
    | err c => rw [hd, bind_err] at q; exact q
    | ok vs =>
      rw [hd, bind_ok] at q
      dsimp only
      intro ws H1 e r
      split at q
      · rename_i z
        split at z
        · cases z
          obtain ⟨v, u, rfl, r1, r2⟩ := rma_two r
          obtain ⟨a1, xs, rfl, b1, c1⟩ := rb_tup hm r1
          obtain ⟨a2, ys, rfl, b2, c2⟩ := rb_list hm r2
          exact ⟨a1, a2, xs, ys, rfl, Evl.ex_t hide_ex b1, SqL.of (rb_ex hm _ _ b2), q _ _ e (walk_mix b1 b2 c1 c2)⟩
        · cases z
      · rename_i z
        split at z <;> cases z
      · exact q.elim
end
end DL
set_option Elab.async false
set_option linter.all false
set_option maxRecDepth 100000
set_option maxHeartbeats 4000000
namespace DL
open PySem PySem.Spec PyProof.Rows L2
/-! ### tuple * int -/
theorem tmul_one (l : Addr) (items : Array Value) (n : Nat) (dd : Option Addr) (sl : Array (Option Value)) (x : Int) (u : Tok) (c0 : (decide (x < -(2 ^ 63)) || decide (x ≥ 2 ^ 63)) = false) (c1 : (items.isEmpty || x == 1) = true) :
    Meets (Builtin.«tuple.__mul__» ⟨[.ref l, .int x u], []⟩) (fun _ R s => s.heap.get? l = some { cls := .type "tuple", dict := dd, data := .seq items n, slots := sl } ∧ R (.ok (.ret (Value.ref l))) s) :=
  .of_wp fun prog w A R s h => by
    obtain ⟨hp, g, d, tk, os⟩ := s
    obtain ⟨hl, h⟩ := h
    have f1 := AutoSeq1.idx_int
    wp_walk using wpAny_loadPart' hl
    repeat (first
      | (refine wpAny_ite_false (decide_eq_false (by rw [c0]; exact Bool.false_ne_true)) ?_; wp_walk using wpAny_loadPart' hl)
      | (refine wpAny_ite_true (decide_eq_true (by rw [c1])) ?_; wp_walk using wpAny_loadPart' hl))
    exact ⟨_, rfl, h⟩
theorem tmul_none (l : Addr) (items : Array Value) (n : Nat) (dd : Option Addr) (sl : Array (Option Value)) (x : Int) (u : Tok) (c0 : (decide (x < -(2 ^ 63)) || decide (x ≥ 2 ^ 63)) = false) (c1 : (items.isEmpty || x == 1) = false) (c2 : (decide (x ≤ 0) || items.isEmpty) = true) :
    Meets (Builtin.«tuple.__mul__» ⟨[.ref l, .int x u], []⟩) (fun _ R s => s.heap.get? l = some { cls := .type "tuple", dict := dd, data := .seq items n, slots := sl } ∧
      R (.ok (.ret (Value.ref s.heap.objs.size))) { s with heap := s.heap.push { cls := Value.type "tuple", data := Data.seq #[] }, toks := s.toks }) :=
  .of_wp fun prog w A R s h => by
    obtain ⟨hp, g, d, tk, os⟩ := s
    obtain ⟨hl, h⟩ := h
    have f1 := AutoSeq1.idx_int
    wp_walk using wpAny_loadPart' hl
    repeat (first
      | (refine wpAny_ite_false (decide_eq_false (by rw [c0]; exact Bool.false_ne_true)) ?_; wp_walk using wpAny_loadPart' hl)
      | (refine wpAny_ite_false (decide_eq_false (by rw [c1]; exact Bool.false_ne_true)) ?_; wp_walk using wpAny_loadPart' hl)
      | (refine wpAny_ite_true (decide_eq_true (by rw [c2])) ?_; wp_walk using wpAny_loadPart' hl))
    exact ⟨_, rfl, h⟩
def rRepT1 (K : PySem.W.Frag) : R2 := fun x y H Q => ∃ l k xs, x = .ref l ∧ y = .int k ∧ SqT K H l xs ∧ (xs = [] ∨ k = 1) ∧ -1000 ≤ k ∧ k ≤ 1000 ∧ Q (.ref l) H
def rRepT0 (K : PySem.W.Frag) : R2 := fun x y H Q => ∃ l k xs, x = .ref l ∧ y = .int k ∧ SqT K H l xs ∧ xs ≠ [] ∧ -1000 ≤ k ∧ k ≤ 0 ∧ ∀ p, H p = none → Q (.ref p) (upd H p (.tup []))
section
variable {X : Cx}
theorem small_k {k : Int} (h1 : -1000 ≤ k) (h2 : k ≤ 1000) : (decide (k < -(2 ^ 63)) || decide (k ≥ 2 ^ 63)) = false := by
  rw [decide_eq_false (by omega), decide_eq_false (by omega)] <;> rfl
theorem empty_iff {xs : List V} {its : List Value} (r : Vals xs its) : its.toArray.isEmpty = xs.isEmpty := by
  cases r <;> rfl
theorem op_repT1 : OpR X (binaryOp .Mult) (rRepT1 X.K) := by
  intro pins s σ H x y v u Q I rx ry h
  obtain ⟨l, k, xs, rfl, rfl, hT, hne, h1, h2, q⟩ := h
  cases rx
  obtain ⟨t, rfl⟩ := ry
  obtain ⟨its, r, ⟨⟨cls, dd, data, sl⟩, ho, hc, n, hd⟩, hs⟩ := I.tuple hT
  simp only at hc hd
  subst hc hd
  have c1 : (its.toArray.isEmpty || k == 1) = true := by
    rw [empty_iff r]
    rcases hne with rfl | rfl
    · rfl
    · simp
  refine wpAny_binaryOp_repeat_ref (T := "tuple") (U := "int") (by decide) ⟨_, ho, rfl⟩ (fun s' => typeIs_int s' k t) noFill_tuple_mul F.fills_int_mul F.slot_int_rmul repeat_tuple F.slot_int_index.lookup
    (call_meets F.slot_int_rmul (typeIs_int s k t) F.entry_int_rmul (F.args_int_rmul_2 _ _) (int_rmul_tuple k t l its.toArray n dd sl)
      ⟨ho, rfl, ⟨_, ho, rfl⟩, call_meets F.slot_tuple_mul ⟨_, ho, rfl⟩ F.entry_tuple_mul (F.args_tuple_mul_2 _ _) (tmul_one l its.toArray n dd sl k t (small_k h1 h2) c1) ⟨ho, ?_⟩⟩)
  exact ⟨.ref l, _, I, rfl, q⟩
theorem op_repT0 : OpR X (binaryOp .Mult) (rRepT0 X.K) := by
  intro pins s σ H x y v u Q I rx ry h
  obtain ⟨l, k, xs, rfl, rfl, hT, hne, h1, h2, q⟩ := h
  cases rx
  obtain ⟨t, rfl⟩ := ry
  obtain ⟨its, r, ⟨⟨cls, dd, data, sl⟩, ho, hc, n, hd⟩, hs⟩ := I.tuple hT
  simp only at hc hd
  subst hc hd
  have e0 : its.toArray.isEmpty = false := by
    rw [empty_iff r]
    cases xs with
    | nil => exact absurd rfl hne
    | cons a b => rfl
  have c1 : (its.toArray.isEmpty || k == 1) = false := by
    rw [e0, Bool.false_or]
    exact beq_eq_false_iff_ne.mpr (by omega)
  have c2 : (decide (k ≤ 0) || its.toArray.isEmpty) = true := by
    rw [decide_eq_true h2]
    rfl
  refine wpAny_binaryOp_repeat_ref (T := "tuple") (U := "int") (by decide) ⟨_, ho, rfl⟩ (fun s' => typeIs_int s' k t) noFill_tuple_mul F.fills_int_mul F.slot_int_rmul repeat_tuple F.slot_int_index.lookup
    (call_meets F.slot_int_rmul (typeIs_int s k t) F.entry_int_rmul (F.args_int_rmul_2 _ _) (int_rmul_tuple k t l its.toArray n dd sl)
      ⟨ho, rfl, ⟨_, ho, rfl⟩, call_meets F.slot_tuple_mul ⟨_, ho, rfl⟩ F.entry_tuple_mul (F.args_tuple_mul_2 _ _) (tmul_none l its.toArray n dd sl k t (small_k h1 (by omega)) c1 c2) ⟨ho, ?_⟩⟩)
  refine ⟨.ref s.heap.objs.size, _, I.laid (t' := s.toks) (o := .tup []) (fun b ob q => Heap.get?_push_of_some _ q) (Nat.le_refl _) ?_, rfl, q _ (I.hok.fresh (Nat.le_refl _))⟩
  exact ⟨Nat.zero_le _, _, .nil, IsTup.new _ _⟩
end
variable [TabsC]
/-! ### a def that is a try, its except without a name -/
def tryFam (X : Cx) (cl : Nat → Value) (k : Nat) (nd : X.N.Nodup) (hr : Room k X.A) (hk : X.env.scope.kind = .function) (hf : X.fn = fun _ => true) (hca : X.calm = true) (E : XK) : Fam where
  ι := {p : (List (Addr × Obj)) × (Value → Shared → Prop) × WX // L2N.Takes (X.tr p.1 p.2.1) p.2.2 ∧ PassesOwn (model X.prog X.w) X.A X.env p.2.1 ∧ ∀ cls d σ H, E cls d H → σ.length = X.N.length → p.2.2 cls d σ H}
  X := fun i => X.tr i.1.1 i.1.2.1
  P := X.prog
  w := X.w
  K := X.K
  mg := X.mg
  base := X.base
  N := X.N
  sn := X.env.scope.names
  E := E
  cl := cl
  O := fun _ => some false
  lv := k
  hP := fun _ => rfl
  hw := fun _ => rfl
  hK := fun _ => rfl
  hmg := fun _ => rfl
  hbase := fun _ => rfl
  hN := fun _ => rfl
  hsn := fun _ => rfl
  hot := false
  calm := fun _ _ => hca
  nd := nd
  room := fun i => .of hr
  hd := fun _ i => hr.hd
  own := fun i => i.2.2.1
  pas := fun i => L2N.passes_call (takes_len i.2.1) i.2.2.2
  hki := fun _ => hk
  sto := stoB X.env.scope.names
  hsto := fun i x h => by
    unfold stoB at h
    refine ⟨?_, .inl (by show X.fn x = true; rw [hf])⟩
    split at h
    · rename_i e; exact .inl e
    · rename_i e; exact .inr e
    · cases h
/-- what is given back, and what an exception is made to -/
def tryO (rf : Nat → Option D) : Out D → Out D
  | .ok d => .ok d
  | .err c => lift (rf c)
  | .stuck => .stuck
def runT (N n : Nat) (rf : Nat → Option D) (g : GE) (ds : List D) : Out D := bif ds.length == n then tryO rf (g (env0 N ds)) else .stuck
theorem runT_ln {N n : Nat} {rf : Nat → Option D} {g : GE} (ds : List D) (h : ds.length ≠ n) : runT N n rf g ds = .stuck := by
  unfold runT
  have : (ds.length == n) = false := by simpa using h
  rw [this]
  rfl
section
variable {P : Program} {w : World} {K : PySem.W.Frag} {mg : Str → Option Value} {base : Heap} {cl : Nat → Value}
abbrev bodX (P : Program) (w : World) (K : PySem.W.Frag) (mg : Str → Option Value) (base : Heap) (N : List Str) (qual : Str) (scope : Scope) (f : Addr) (cdv : Value) (A : Around) (outer : List PySem.Env) (s : Shared) (H : Hp) (E : XK) : Cx := (cxOf (L2N.CX P w) P w K mg base N qual scope f cdv A outer s H E).nox
theorem fnD_try {x qual : Str} {st : Stmt} {f CS : Addr} {fd : FuncData} {N ps : List Str} {k n : Nat} {rf : Nat → Option D} {gs : Nat → GS} {ge : GE} {found en : Str} {e : Expr} {b₀ : Stmt} {suite : List Stmt} {pf pa p4 p7 p8 p9 p10 : Pos} (jf : Nat) (F : Fun K x qual st f fd) (S : FnScope N ps (defScope st)) (hm : mg x = some (.ref f)) (hbi : L2.Binds K fd ps []) (hn : ps.length = n := by rfl) (hnN : n ≤ N.length := by decide)
    (hst : defBody st = [.Try [.Assign [.Name found pf] e pa] [.ExceptHandler (some (.Name en p4)) none (b₀ :: suite) p7] [] [] p8, .Return (some (.Name found p9)) p10])
    (hge : (defScope st).names.lookup en = some .globalImplicit) (hme : mg en = some (.ref CS)) (hexm : ∀ c r, rf c = some r → PySem.W.exmOne K (cl c) (.ref CS) = some true)
    (hjf : N[jf]? = some found) (hlf : (defScope st).names.lookup found = some .local)
    (hb : ∀ (cdv : Value) (A : Around) (outer : List PySem.Env) (s : Shared) (H : Hp) (E Ec : XK) (hr : Room k (bodX P w K mg base N qual (defScope st) f cdv A outer s H E).A), DE (tryFam (bodX P w K mg base N qual (defScope st) f cdv A outer s H E) cl k S.nd hr S.kind rfl rfl Ec) .fz e ge)
    (hsu : ∀ (cdv : Value) (A : Around) (outer : List PySem.Env) (s : Shared) (H : Hp) (E : XK) (hr : Room k (bodX P w K mg base N qual (defScope st) f cdv A outer s H E).A) (a' : Addr) (c : Nat) (r : D), rf c = some r → DSs (suiteFam (bodX P w K mg base N qual (defScope st) f cdv A outer s H E) a' (cl c) cl k S.nd (.of hr) S.kind rfl) .fz (b₀ :: suite) (gs c))
    (hgs : ∀ (c : Nat) (r : D), rf c = some r → ∃ ρ', gs c (List.replicate N.length none) = .ok (.nx ρ') ∧ ρ'[jf]? = some (some r))
    (hsw : ∀ env, swapsWith e (some (Expr.Name found pf)) pa.line env = pure false := by intro _; rfl) (hde : (en == ("__debug__" : Str)) = false := by decide) (hdf : (found == ("__debug__" : Str)) = false := by decide) (hcf : (found == ("__classdict__" : Str)) = false := by decide) :
    FnD P w K mg base cl x n .fz (k + 1) (runT N.length n rf ge) := by
  refine ⟨⟨f, fd, ps, okXN F S (fun vs H Q E h => by rw [hn]; exact h.1) fun cdv A outer s H vs Q E hr h => ?_, hm, F.kp, hbi⟩, fun ds h => runT_ln ds h⟩
  rw [hst]
  obtain ⟨hl, tb, hid, ds, knd, m, q⟩ := h
  have hdl : (ds.length == n) = true := by
    have := m.length
    simp; omega
  unfold runT at q
  rw [hdl] at q
  dsimp only [cond] at q
  have S0 := sees0 (O := fun _ => some false) (N := N) (by omega) knd tb m (fun _ _ => rfl)
  have hgl : Gl (bodX P w K mg base N qual (defScope st) f cdv A outer s H E) en := hge
  refine ⟨_, PSs.nox (pss_cons (L2N.ps_try_many (X := bodX P w K mg base N qual (defScope st) f cdv A outer s H E) (Wout := fun _ _ _ _ => False) (l := [(.ref CS, fun a' cls d Dn σ H1 => d = none ∧ ∃ (c : Nat) (r : PyData) (hc : rf c = some r), cls = cl c ∧ (hsu cdv A outer s H E hr a' c r hc).choose Dn σ H1)])
      (tb := fun W Dn σ H1 => ∃ Ech : XK, (∀ cls d σ' H', Ech cls d H' → σ'.length = N.length → W cls d σ' H') ∧ tAsg (hb cdv A outer s H E Ech hr).choose (gName jf) Dn σ H1)
      rfl rfl takesN0 (fun W pn xe tk po => ?_) (.cons ⟨hgl, hde, .inl hme⟩ (fun a' oe cls d pn hz hv => ?_) .nil)) (pss_one (ps_ret (pe_var (i := jf) hjf (.inl hlf) hdf hcf)))), ?_⟩
  · refine ⟨fun pins s' σ H1 Dn I h' => ?_⟩
    obtain ⟨Ech, hW, h1⟩ := h'
    have hp := (hb cdv A outer s H E Ech hr).choose_spec.1 ⟨(pn, xe, W), tk, po, hW⟩
    have hq := pss_one (ps_set (pos := pa) (pos' := pf) (i := jf) (X := (bodX P w K mg base N qual (defScope st) f cdv A outer s H E).tr pn xe) S.nd hjf (.inl hlf) hp (hsw _) (.inl rfl))
    exact hq.run pins s' σ H1 Dn I h1
  · refine ⟨fun pins s' σ H1 Dn I h' => ?_⟩
    obtain ⟨hd, c, r, hc, ecl, h1⟩ := h'
    subst hd
    have hz' : L2N.Zn (cl c) none oe := by rw [← ecl]; exact hz
    exact ((hsu cdv A outer s H E hr a' c r hc).choose_spec.1 ⟨(oe, pn), hz', hv⟩).run pins s' σ H1 Dn I h1
  · have hln : (L2.start N vs).length = N.length := S0.len.trans (by unfold env0; rw [List.length_append, List.length_map, List.length_replicate]; have := m.length; omega)
    have hjl : jf < N.length := (List.getElem?_eq_some_iff.mp hjf).1
    refine ⟨fun cls d H' => d = none ∧ Ex H H' ∧ ∃ c, cls = cl c ∧ ge (env0 N.length ds) = .err c, fun cls d σ' H' hE hσ => ?_, ?_⟩
    · obtain ⟨hd, eH, c, ecl, eo⟩ := hE
      rw [eo] at q
      have q : WF K cl .fz hid H Q E (lift (rf c)) := q
      cases hc : rf c with
      | none =>
        rw [hc] at q
        exact q.elim
      | some r =>
        rw [hc] at q
        refine ⟨true, by rw [ecl]; exact hexm c r hc, fun _ a' na => ⟨hd, c, r, hc, ecl, ?_⟩, fun z => by cases z⟩
        obtain ⟨ρ', g1, g2⟩ := hgs c r hc
        have S1 : Sees K H' hid (fun _ => some false) { hid := hid, own := fun _ => none, σ := σ', H := H' } (List.replicate N.length none) := by
          refine ⟨?_, Ex.refl _, fun _ h => h, knd_ex eH knd, fun b hb => (knd_ex eH knd b hb).ne, eH.tb tb, fun i d _ hd' => ?_, fun i d hO => (by cases hO), fun i b hb => (by cases hb), fun i j b hb => (by cases hb), fun i d hO => (by cases hO)⟩
          · show σ'.length = _
            rw [List.length_replicate]
            exact hσ
          · rw [List.getElem?_replicate] at hd'
            split at hd' <;> cases hd'
        refine (hsu cdv A outer s H E hr a' c r hc).choose_spec.2 H' hid _ _ S1 _ ?_
        rw [g1]
        intro s' w' S'
        obtain ⟨v, hv1, hv2⟩ := S'.fz jf r rfl g2
        exact ⟨v, hv1, q v s'.H (eH.trans S'.ex0) (Mn.mono (hide_sub S'.sub) r v hv2)⟩
    · refine (hb cdv A outer s H E _ hr).choose_spec.2 H hid _ _ S0 _ ?_
      cases ho : ge (env0 N.length ds) with
      | stuck =>
        rw [ho] at q
        exact q.elim
      | err c =>
        exact fun H' e => ⟨rfl, e, c, rfl, rfl⟩
      | ok d =>
        rw [ho] at q
        intro v H1 e1 r1
        exact ⟨v, List.getElem?_set_self (by rw [hln]; exact hjl), q v H1 e1 r1⟩
theorem exd_at {x : Str} {c : Nat} (h : ExD K mg cl x c) (r : PySem.W.exmOne K (cl c) (cl c) = some true) : ∃ C, mg x = some (.ref C) ∧ PySem.W.exmOne K (cl c) (.ref C) = some true := by
  obtain ⟨C, h0, h1, _⟩ := h.ex
  exact ⟨C, h1, by rw [← h0]; exact r⟩
end
def dRepT : D → D → Option D
  | .tuple xs, .int k => if xs.length ≤ 1000 ∧ -1000 ≤ k ∧ k ≤ 1000 then some (.tuple (List.replicate k.toNat xs).flatten) else none
  | _, _ => none
abbrev rRepTA (K : PySem.W.Frag) : R2 := fun x y H Q => rRepT1 K x y H Q ∨ (rRepT0 K x y H Q ∨ rRepT K x y H Q)
theorem rep_nil {α : Type} : ∀ k : Nat, (List.replicate k ([] : List α)).flatten = []
  | 0 => rfl
  | k + 1 => by rw [List.replicate_succ, List.flatten_cons, rep_nil k]; rfl
section
variable {F : Fam} {K : PySem.W.Frag}
theorem ops_repT {m : Md} : OpS K m (rRepTA K) dRepT := fun hid H d e z x y Q dom rx ry hf q => by
  cases d <;> simp only [dRepT] at hf <;> try cases hf
  cases e <;> simp only [dRepT] at hf <;> try cases hf
  rename_i ds k
  split at hf
  · rename_i hc
    cases hf
    obtain ⟨a, xs, rfl, h1, h2⟩ := bo_tup rx
    have hl := h2.length
    have T := Evl.ex_t (K := K) hide_ex h1
    by_cases e1 : xs = []
    · subst e1
      have : ds = [] := List.eq_nil_of_length_eq_zero hl.symm
      subst this
      rw [rep_nil] at q
      refine .inl ⟨a, k, [], rfl, bo_int ry, T, .inl rfl, hc.2.1, hc.2.2, q _ _ (Ex.refl _) (rm_plain rfl ?_)⟩
      simp only [Mn]
      exact ⟨a, [], rfl, h1, h2⟩
    · by_cases k1 : k = 1
      · subst k1
        have e : (List.replicate (1 : Int).toNat ds).flatten = ds := by
          show (List.replicate 1 ds).flatten = ds
          simp
        rw [e] at q
        refine .inl ⟨a, 1, xs, rfl, bo_int ry, T, .inr rfl, hc.2.1, hc.2.2, q _ _ (Ex.refl _) (rm_plain rfl ?_)⟩
        simp only [Mn]
        exact ⟨a, xs, rfl, h1, h2⟩
      · by_cases k0 : k ≤ 0
        · have e : k.toNat = 0 := by omega
          rw [e] at q
          exact .inr (.inl ⟨a, k, xs, rfl, bo_int ry, T, e1, hc.2.1, k0, fun p hp => q _ _ (Ex.new hp) (au_tup dom hp (by simp [MnA]))⟩)
        · exact .inr (.inr ⟨a, k, xs, rfl, bo_int ry, T, e1, by omega, hc.2.2, by omega, fun p hp => q _ _ (Ex.new hp) (au_tup dom hp (h2.rep _))⟩)
  · cases hf
theorem de_repT {m ma mb : Md} {a b : Expr} {ga gb : GE} {pos : Pos} (ha : DE F ma a ga) (hb : DE F mb b gb) : DE F m (.BinOp a .Mult b pos) (e2 dRepT ga gb) :=
  de_op (r := rRepTA F.K) (opR (F := F) (r := rRepTA) fun X => op_repT1.or (op_repT0.or op_repT)) ops_repT ha hb
end
section
variable {P : Program} {w : World} {K : PySem.W.Frag} {mg : Str → Option Value} {base : Heap} {cl : Nat → Value}
/-- a def of which nothing is asked -/
theorem fnD_stuck {x qual : Str} {st : Stmt} {f : Addr} {fd : FuncData} {N ps : List Str} {k n : Nat} {rm : Md} (F : Fun K x qual st f fd) (S : FnScope N ps (defScope st)) (hm : mg x = some (.ref f)) (hbi : L2.Binds K fd ps []) (hn : ps.length = n := by rfl) : FnD P w K mg base cl x n rm (k + 1) fun _ => .stuck := by
  refine ⟨⟨f, fd, ps, okXN (N := N) F S (fun vs H Q E h => by rw [hn]; exact h.1) fun cdv A outer s H vs Q E hr h => ?_, hm, F.kp, hbi⟩, fun ds h => rfl⟩
  obtain ⟨_, _, _, _, _, _, q⟩ := h
  exact q.elim
end
end DL
set_option Elab.async false
set_option linter.all false
set_option maxRecDepth 100000
set_option maxHeartbeats 4000000
/-! ### sets of tuples of texts and ints: what stands in the table, by the places -/
namespace DL
open PySem PySem.Spec PyProof.Rows L2
/-- a tuple of texts and ints -/
abbrev RK (P : Program) (w : World) (h : Heap) (k : List Key) (a : Addr) : Prop := IsTupleKey (mixKind P w) h k a
abbrev rh (P : Program) (w : World) (k : List Key) : Int := tupleKeyHash (mixKind P w) k
theorem RK.move {P : Program} {w : World} {h h' : Heap} {k : List Key} {a : Addr} (x : RK P w h k a) (m : ∀ o, h.get? a = some o → h'.get? a = some o) : RK P w h' k a := by
  obtain ⟨o, its, n, g, r⟩ := x
  exact ⟨o, its, n, m o g, r⟩
theorem mk_items {P : Program} {w : World} {k : List Key} {vs : List Value} (h : ItemsAre (mixKind P w) k vs) {v : Value} (hv : v ∈ vs) : (∃ i t, v = .int i t) ∨ ∃ x t, v = .str x t := by
  induction h with
  | nil => exact nomatch hv
  | cons h1 _ ih =>
    rcases List.mem_cons.mp hv with e | hv
    · subst e
      rcases keyIs_shape h1 with ⟨i, t, _, e⟩ | ⟨x, t, _, e⟩
      · exact .inl ⟨i, t, e⟩
      · exact .inr ⟨x, t, e⟩
    · exact ih hv
section
variable {P : Program} {w : World} {A : Around} {E : Value → Shared → Prop} {s : Shared}
theorem cls_item (n : Nat) {v : Value} (h : (∃ i t, v = Value.int i t) ∨ ∃ x t, v = Value.str x t) : ofAClassStatement n v = pure false ∧ hashByValue n v = pure (plainKind v) := by
  rcases h with ⟨i, t, rfl⟩ | ⟨x, t, rfl⟩
  · exact ⟨by cases n <;> rfl, hashByValue_scannable n rfl⟩
  · exact ⟨by cases n <;> rfl, hashByValue_scannable n rfl⟩
theorem rk_class {k : List Key} {b : Addr} {Q : Bool → Shared → Prop} (x : RK P w s.heap k b) (q : Q false s) : wpAny (model P w) A (ofAClassStatement 8 (.ref b)) Q E s := by
  have ty := x.typeIs
  obtain ⟨o, its, n, g, _, dat, all⟩ := x
  unfold ofAClassStatement
  refine wpAny_bind (wpAny_typeOf ty ?_)
  dsimp only
  simp only [show (("tuple" : String) == "tuple") = true from by decide, if_true, Bool.not_true, Bool.false_eq_true, if_false]
  try refine wpAny_bind (wpAny_pure ?_)
  try simp only [Bool.not_true, Bool.false_eq_true, if_false]
  show wpAny _ _ (seqItems? (.ref b) >>= _) _ _ s
  refine wpAny_bind (wpAny_seqItems g dat ?_)
  dsimp only
  refine wpAny_bind ?_
  show wpAny _ _ (forIn its _ _) _ _ s
  rw [← Array.forIn_toList]
  refine wpAny_forIn_list _ (fun left r s' => r.1 = none ∧ s' = s ∧ ∀ v ∈ left, v ∈ its.toList) _ ?_ ?_ _ _ ⟨rfl, rfl, fun _ h => h⟩
  · rintro v left r s' ⟨hr, rfl, sub⟩
    rw [(cls_item _ (mk_items all (sub v List.mem_cons_self))).1]
    refine wpAny_bind (wpAny_pure ?_)
    simp only [Bool.false_eq_true, if_false]
    exact wpAny_pure ⟨rfl, rfl, fun u hu => sub u (List.mem_cons_of_mem _ hu)⟩
  · rintro ⟨r1, r2⟩ s' ⟨hr, rfl, _⟩
    simp only at hr
    subst hr
    exact wpAny_pure q
theorem rk_byValue {k : List Key} {b : Addr} {Q : Bool → Shared → Prop} (x : RK P w s.heap k b) (q : ∀ z, Q z s) : wpAny (model P w) A (hashByValue 8 (.ref b)) Q E s := by
  have ty := x.typeIs
  obtain ⟨o, its, n, g, _, dat, all⟩ := x
  unfold hashByValue
  refine wpAny_bind (wpAny_specialOf ty PySem.F.slot_tuple_hash.lookup ?_)
  show wpAny _ _ (seqItems? (.ref b) >>= _) _ _ s
  refine wpAny_bind (wpAny_seqItems g dat ?_)
  refine wpAny_bind ?_
  show wpAny _ _ (forIn its _ _) _ _ s
  rw [← Array.forIn_toList]
  refine wpAny_forIn_list _ (fun left r s' => r.1 = none ∧ s' = s ∧ ∀ v ∈ left, v ∈ its.toList) _ ?_ ?_ _ _ ⟨rfl, rfl, fun _ h => h⟩
  · rintro v left r s' ⟨hr, rfl, sub⟩
    rw [(cls_item _ (mk_items all (sub v List.mem_cons_self))).2]
    refine wpAny_bind (wpAny_pure ?_)
    cases plainKind v
    · simp only [Bool.not_false, if_true]
      exact wpAny_pure (wpAny_pure (q _))
    · simp only [Bool.not_true, Bool.false_eq_true, if_false]
      exact wpAny_pure ⟨rfl, rfl, fun u hu => sub u (List.mem_cons_of_mem _ hu)⟩
  · rintro ⟨r1, r2⟩ s' ⟨hr, rfl, _⟩
    simp only at hr
    subst hr
    exact wpAny_pure (q _)
/-- what the search would show: nothing -/
theorem rk_seen {k : List Key} {b : Addr} {Q : Bool → Shared → Prop} (x : RK P w s.heap k b) {ys : List Value} (hy : ∀ y ∈ ys, ∃ j c, y = Value.ref c ∧ RK P w s.heap j c) (q : Q false s) :
    wpAny (model P w) A (searchCouldBeSeen (.ref b) ys) Q E s := by
  unfold searchCouldBeSeen
  refine wpAny_bind ?_
  refine wpAny_forIn_list _ (fun left r s' => r.1 = none ∧ s' = s ∧ ∀ y ∈ left, y ∈ ys) _ ?_ ?_ _ _ ⟨rfl, rfl, fun _ h => h⟩
  · rintro v left r s' ⟨hr, rfl, sub⟩
    obtain ⟨j, c, rfl, z⟩ := hy v (sub v List.mem_cons_self)
    have sub' : ∀ y ∈ left, y ∈ ys := fun u hu => sub u (List.mem_cons_of_mem _ hu)
    dsimp only
    by_cases same : (b == c || (carriedByValue (.ref b) && carriedByValue (.ref c))) = true
    · exact wp_if_pos same (wpAny_pure ⟨rfl, rfl, sub'⟩)
    · refine wp_if_neg same ?_
      refine wpAny_bind (wpAny_eqIsQuiet_tuple x ?_)
      simp only [Bool.not_true, Bool.false_eq_true, if_false]
      refine wpAny_bind (wpAny_eqIsQuiet_tuple z ?_)
      simp only [Bool.not_true, Bool.false_eq_true, if_false]
      refine wpAny_bind (rk_class x ?_)
      simp only [Bool.false_eq_true, if_false]
      refine wpAny_bind (rk_class z ?_)
      simp only [Bool.false_eq_true, if_false]
      exact wpAny_pure ⟨rfl, rfl, sub'⟩
  · rintro ⟨r1, r2⟩ s' ⟨hr, rfl, _⟩
    simp only at hr
    subst hr
    exact wpAny_pure q
end
/-- the set at a holds just the keys ks, each at its place of the entries -/
structure Tb (P : Program) (w : World) (M : List Key → Addr → Prop) (h : Heap) (a : Addr) (ks : List (List Key)) (es : Array (Int × Value)) (ep : Nat) (t : SetTable) : Prop where
  ob : ∃ o, h.get? a = some o ∧ o.ExactSet ∧ o.data = .set es ep t
  sz : es.size = ks.length
  en : ∀ (i : Nat) (k : List Key), ks[i]? = some k → ∃ c, es[i]? = some (rh P w k, .ref c) ∧ RK P w h k c ∧ M k c
  tab : TabOk t (ks.map (rh P w))
  nd : ks.Nodup
  led : w.params.followText "set-order" = true ∨ t.led = true
  room : ks.length * 5 < t.mask * 3
  few : ks.length < 64
section
variable {P : Program} {w : World} {A : Around} {E : Value → Shared → Prop} {s : Shared} {a : Addr} {ks : List (List Key)} {es : Array (Int × Value)} {ep : Nat} {t : SetTable} {M : List Key → Addr → Prop}
theorem tab_fits {hs : List Int} (T : TabOk t hs) (h : hs.length ≤ t.mask) (e : es.size = hs.length) : t.fits es.size = true := by
  have z := T.sz
  unfold SetTable.fits SetTable.fill
  rw [T.dm, Bool.and_eq_true, beq_iff_eq, decide_eq_true_eq]
  show t.place.size = es.size ∧ t.place.size + 0 ≤ t.mask
  omega
theorem Tb.fits {h : Heap} (T : Tb P w M h a ks es ep t) : t.fits es.size = true := by
  have r := T.room
  refine tab_fits T.tab ?_ ?_ <;> rw [List.length_map]
  · omega
  · exact T.sz
theorem Tb.live {h : Heap} (T : Tb P w M h a ks es ep t) {e : Int × Value} (he : e ∈ es.toList) : ∃ k c, e.2 = .ref c ∧ RK P w h k c := by
  obtain ⟨i, hi, e1⟩ := List.getElem_of_mem he
  have hi' : i < ks.length := by rw [← T.sz]; simpa using hi
  obtain ⟨c, h1, h2, _⟩ := T.en i ks[i] (List.getElem?_eq_getElem hi')
  have : es.toList[i]? = some e := by rw [List.getElem?_eq_getElem hi, e1]
  rw [Array.getElem?_toList, h1] at this
  cases this
  exact ⟨_, c, rfl, h2⟩
theorem undummied (m : Nat) : ∀ (n : Nat) (p : SetTable.Probe), p.dummy = none → (nth m p n).dummy = none
  | 0, p, h => h
  | n + 1, p, h => undummied m n (adv m p) (by unfold adv; split <;> exact h)
/-- from the c-th step on: the key is found, or the first empty slot -/
theorem tb_seek (T : Tb P w M s.heap a ks es ep t) {x : Addr} {k : List Key} (hx : RK P w s.heap k x) (hu : A.units < cLine) {K : Nat} (hf : K < 10 * SetTable.turns t.mask) (hK : way t.mask (rh P w k) K ∉ t.place.toList)
    (hb : ∀ c, c < K → way t.mask (rh P w k) c ∈ t.place.toList) {Q : SetFound → Shared → Prop} (yes : k ∈ ks → Q (.there none) s) (no : k ∉ ks → Q (.free (way t.mask (rh P w k) K) false) s) :
    ∀ (f c : Nat) (st : Option SetTable.Probe), st.getD (t.probeStart (rh P w k)) = nth t.mask (t.probeStart (rh P w k)) c → c ≤ K → K < f + c →
      (∀ i : Nat, ks[i]? = some k → ∃ c', c ≤ c' ∧ c' < K ∧ t.place.toList[i]? = some (way t.mask (rh P w k) c')) → wpAny (model P w) A (setSearchFrom a (.ref x) (rh P w k) true f st) Q E s := by
  intro f
  induction f with
  | zero => intro c st _ h1 h2 _; omega
  | succ f ih =>
    intro c st hst hc hfc ahead
    obtain ⟨o, ho, hex, hd⟩ := T.ob
    rw [setSearchFrom_succ]
    refine wpAny_bind (wpAny_setState_of ho hd T.fits ?_)
    dsimp only
    refine wp_if_neg (by unfold SetTable.gaveWay; rw [mask_odd T.tab.mok]; decide) ?_
    try refine wpAny_bind (wpAny_pure ?_)
    have at_ : ∀ q, (nth t.mask (nth t.mask (t.probeStart (rh P w k)) c) q) = nth t.mask (t.probeStart (rh P w k)) (c + q) := fun q => (nth_add t.mask c _ q).symm
    have j_ : ∀ q, (nth t.mask (t.probeStart (rh P w k)) q).j = way t.mask (rh P w k) q := fun q => rfl
    have hash_ : ∀ (i : Nat) (j : List Key), ks[i]? = some j → (es[i]?.map (·.1)).getD 0 = rh P w j := fun i j h => by
      obtain ⟨_, h1, _⟩ := T.en i j h
      rw [h1]
      rfl
    have spec := go_spec t T.tab.ris T.tab.dm (fun i => (es[i]?.map (·.1)).getD 0) (rh P w k) (10 * SetTable.turns t.mask) (K - c) (nth t.mask (t.probeStart (rh P w k)) c) (undummied t.mask c _ rfl) (by omega)
      (fun q hq => by rw [at_, j_]; exact hb (c + q) (by omega)) (by rw [at_, j_, show c + (K - c) = K by omega]; exact hK)
    simp only [at_, j_] at spec
    rcases spec with ⟨q, i, hq, hi, hh, first, pr⟩ | ⟨none_, pr⟩
    · have pr' : t.probe (fun i => (es[i]?.map (·.1)).getD 0) (rh P w k) (st.getD (t.probeStart (rh P w k))) = some (.candidate (way t.mask (rh P w k) (c + q)) i (nth t.mask (t.probeStart (rh P w k)) (c + (q + 1)))) := by
        rw [hst]
        exact pr
      rw [pr']
      dsimp only
      have il : i < ks.length := by
        have z1 := (List.getElem?_eq_some_iff.mp hi).1
        have z2 := T.tab.sz
        rw [List.length_map] at z2
        rw [Array.length_toList] at z1
        omega
      have hp : ks[i]? = some ks[i] := List.getElem?_eq_getElem il
      generalize ks[i] = j at hp
      obtain ⟨y, hy, ky, _⟩ := T.en i j hp
      have rest : wpAny (model P w) A (searchRest a (.ref x) (rh P w k) true f es t (way t.mask (rh P w k) (c + q)) i (nth t.mask (t.probeStart (rh P w k)) (c + (q + 1)))) Q E s := by
        unfold searchRest
        rw [hy]
        dsimp only
        refine wpAny_bind (wpAny_holding (wpAny_eqBool_tuple hu ky hx ?_))
        refine wpAny_bind (wpAny_setState_of ho hd T.fits ?_)
        dsimp only
        by_cases e : j = k
        · refine wp_if_pos (by simp [e]) (wpAny_pure (yes ?_))
          rw [← e]
          exact List.mem_of_getElem? hp
        · refine wp_if_neg (by simp [e]) ?_
          try refine wpAny_bind (wpAny_pure ?_)
          rw [sameMem]
          dsimp only
          have slot : t.slot (way t.mask (rh P w k) (c + q)) = .live i := slot_live T.tab.ris hi
          simp only [if_true, slot, hy]
          refine wpAny_bind (wpAny_isSame_ref_self (wpAny_bind (wpAny_pure ?_)))
          simp only [if_true]
          refine wp_if_neg (by simp [e]) (ih (c + (q + 1)) _ rfl (by omega) (by omega) fun i0 h0 => ?_)
          obtain ⟨c', z1, z2, z3⟩ := ahead i0 h0
          refine ⟨c', ?_, z2, z3⟩
          by_cases l : c' < c + q
          · exact absurd (hash_ i0 k h0) (first (c' - c) i0 (by omega) (by rw [show c + (c' - c) = c' by omega]; exact z3))
          · by_cases l2 : c' = c + q
            · subst l2
              have := slot_live T.tab.ris z3
              rw [slot] at this
              injection this with this
              subst this
              rw [hp] at h0
              exact absurd (Option.some.inj h0) e
            · omega
      by_cases l : t.led = true
      · refine wp_if_neg (by simp [l]) ?_
        try refine wpAny_bind (wpAny_pure ?_)
        exact rest
      · refine wp_if_pos (by simp [l]) (wpAny_bind (rk_seen hx (fun y hy => ?_) ?_))
        · obtain ⟨e, he, ee⟩ := List.mem_map.mp hy
          have he : e ∈ es.toList := by
            have z : e ∈ es ∧ e.1 = rh P w k := by simpa using he
            simpa using z.1
          obtain ⟨j', c', z1, z2⟩ := T.live he
          exact ⟨j', c', ee ▸ z1, z2⟩
        · refine wp_if_neg (by decide) ?_
          try refine wpAny_bind (wpAny_pure ?_)
          exact rest
    · have pr' : t.probe (fun i => (es[i]?.map (·.1)).getD 0) (rh P w k) (st.getD (t.probeStart (rh P w k))) = some (.empty (way t.mask (rh P w k) K) none) := by
        rw [hst]
        rw [show c + (K - c) = K by omega] at pr
        exact pr
      rw [pr']
      dsimp only
      refine wpAny_pure (no fun m => ?_)
      obtain ⟨i, hi, e⟩ := List.getElem_of_mem m
      have h0 : ks[i]? = some k := by rw [List.getElem?_eq_getElem hi, e]
      obtain ⟨c', z1, z2, z3⟩ := ahead i h0
      exact absurd (hash_ i k h0) (none_ (c' - c) i (by omega) (by rw [show c + (c' - c) = c' by omega]; exact z3))
theorem tb_search (T : Tb P w M s.heap a ks es ep t) {x : Addr} {k : List Key} (hx : RK P w s.heap k x) (hu : A.units < cLine) {Q : SetFound → Shared → Prop} (yes : k ∈ ks → Q (.there none) s)
    (no : ∀ K, k ∉ ks → way t.mask (rh P w k) K ∉ t.place.toList → (∀ c, c < K → way t.mask (rh P w k) c ∈ t.place.toList) → Q (.free (way t.mask (rh P w k) K) false) s) :
    wpAny (model P w) A (setSearch a (.ref x) (rh P w k) true) Q E s := by
  have r := T.room
  obtain ⟨K, hf, hK, hb⟩ := T.tab.first (by rw [List.length_map]; omega) (rh P w k)
  have big : K < 100000 := by
    have : 10 * SetTable.turns t.mask ≤ 1420 := by
      unfold SetTable.turns
      rcases T.tab.mok with e | e | e <;> omega
    omega
  unfold setSearch
  refine tb_seek T hx hu hf hK hb yes (fun n => no K n hK hb) 100000 0 none rfl (Nat.zero_le _) (by omega) fun i hi => ?_
  have il : i < t.place.toList.length := by
    have z1 := (List.getElem?_eq_some_iff.mp hi).1
    have z2 := T.tab.sz
    rw [List.length_map] at z2
    rw [Array.length_toList]
    omega
  have hj := List.getElem?_eq_getElem il
  obtain ⟨c, hc, e⟩ := T.tab.before hK (show (ks.map (rh P w))[i]? = some (rh P w k) by rw [List.getElem?_map, hi]; rfl) hj
  exact ⟨c, Nat.zero_le _, hc, by rw [hj, e]⟩
/-! ### laid anew, added to -/
theorem getD_at {α : Type} {xs : List α} {i : Nat} (d : α) (h : i < xs.length) : xs[i]? = some (xs.getD i d) := by
  rw [List.getD_eq_getElem?_getD, List.getElem?_eq_getElem h]
  rfl
theorem map_getD {α : Type} (xs : List α) (d : α) : (List.range xs.length).map (fun i => xs.getD i d) = xs := by
  refine List.ext_getElem? fun i => ?_
  rw [List.getElem?_map]
  by_cases h : i < xs.length
  · rw [List.getElem?_range h, getD_at d h]
    rfl
  · rw [List.getElem?_eq_none (by rw [List.length_range]; omega), List.getElem?_eq_none (by omega)]
    rfl
theorem fm_map {α : Type} (es : Array α) (d : α) : ∀ l : List Nat, (∀ i ∈ l, i < es.size) → l.filterMap (fun i => es[i]?) = l.map fun i => es.toList.getD i d
  | [], _ => rfl
  | i :: l, h => by
    have e : es[i]? = some (es.toList.getD i d) := by
      rw [← Array.getElem?_toList]
      exact getD_at d (by rw [Array.length_toList]; exact h i List.mem_cons_self)
    rw [List.filterMap_cons_some e, List.map_cons, fm_map es d l fun j hj => h j (List.mem_cons_of_mem _ hj)]
/-- a table that may be too full, beside its keys -/
structure Tb0 (P : Program) (w : World) (M : List Key → Addr → Prop) (h : Heap) (a : Addr) (ks : List (List Key)) (es : Array (Int × Value)) (ep : Nat) (t : SetTable) : Prop where
  ob : ∃ o, h.get? a = some o ∧ o.ExactSet ∧ o.data = .set es ep t
  sz : es.size = ks.length
  en : ∀ (i : Nat) (k : List Key), ks[i]? = some k → ∃ c, es[i]? = some (rh P w k, .ref c) ∧ RK P w h k c ∧ M k c
  tab : TabOk t (ks.map (rh P w))
  nd : ks.Nodup
  led : w.params.followText "set-order" = true ∨ t.led = true
  few : ks.length < 64
theorem rk_other {h h' : Heap} {k : List Key} {b : Addr} {o : Obj} (x : RK P w h k b) (ho : h.get? a = some o) (hd : o.data = .set es ep t) (sb : Heap.SameBut a h h') : RK P w h' k b := by
  obtain ⟨o', its, n, g, c, d, r⟩ := x
  have ne : b ≠ a := by
    rintro rfl
    obtain rfl : o' = o := Option.some.inj (g.symm.trans ho)
    rw [hd] at d
    exact nomatch d
  exact ⟨o', its, n, (sb.2 b ne).trans g, c, d, r⟩
theorem tins_len {α : Type} (l : List α) {p : Nat} {x : α} (hp : p ≤ l.length) : (l.take p ++ x :: l.drop p).length = l.length + 1 := by
  rw [List.length_append, List.length_cons, List.length_take, List.length_drop]
  omega
theorem tb_relay (T : Tb0 P w M s.heap a ks es ep t) (room : ks.length ≤ t.mask) {wanted m : Nat} (hw : SetTable.sizeAbove wanted - 1 = m) (hM : MaskOk m) (hs : SetTable.sizeAbove wanted ≤ 128) (hn : ks.length * 5 < m * 3) {Q : Unit → Shared → Prop}
    (hQ : ∀ h' ks' es' ep' t', Heap.SameBut a s.heap h' → Tb P w M h' a ks' es' ep' t' → ks'.Perm ks → Q () { s with heap := h' }) : wpAny (model P w) A (setRelay a wanted) Q E s := by
  obtain ⟨o, ho, hex, hd⟩ := T.ob
  have sz := T.sz
  obtain ⟨t', order, e, pm, T', em, el, _, _⟩ := relaid_ok t (hs := es.map (·.1)) (wanted := wanted) hw hM (by rw [Array.size_map]; omega)
  rw [Array.size_map, sz] at pm
  have lt : ∀ i ∈ order.toList, i < ks.length := fun i hi => List.mem_range.mp (pm.mem_iff.mp hi)
  let d0 : Int × Value := (0, .none)
  have el2 : (order.filterMap (es[·]?)).toList = order.toList.map fun i => es.toList.getD i d0 := by
    rw [Array.toList_filterMap]
    exact fm_map es d0 _ fun i hi => by rw [sz]; exact lt i hi
  have pk : (order.toList.map fun i => ks.getD i []).Perm ks := by
    have := pm.map fun i => ks.getD i []
    rwa [map_getD] at this
  have size' : (order.filterMap (es[·]?)).size = es.size := by
    have := congrArg List.length el2
    rw [Array.length_toList, List.length_map, pm.length_eq, List.length_range] at this
    omega
  have hh : (order.toList.map fun i => ks.getD i []).map (rh P w) = order.toList.map fun i => (es.map (·.1)).getD i 0 := by
    rw [List.map_map]
    refine List.map_congr_left fun i hi => ?_
    obtain ⟨c, z, _⟩ := T.en i _ (getD_at [] (lt i hi))
    show rh P w (ks.getD i []) = _
    have z2 : (es.map (·.1))[i]? = some (rh P w (ks.getD i [])) := by
      rw [Array.getElem?_map, z]
      rfl
    simp [Array.getD_eq_getD_getElem?, z2]
  have fit := tab_fits T.tab (by rw [List.length_map]; exact room) (by rw [List.length_map]; exact sz)
  rw [setRelay_eq]
  refine wpAny_bind (wpAny_setState_of ho hd fit ?_)
  dsimp only
  refine wp_if_neg (by rw [sizeLine_eq]; omega) ?_
  try refine wpAny_bind (wpAny_pure ?_)
  rw [e]
  dsimp only
  refine wpAny_bind (wp_if_neg (by rw [size']; simp) ?_)
  try refine wpAny_bind (wpAny_pure ?_)
  refine wpAny_pure ?_
  dsimp only
  have few := T.few
  refine wpAny_storeSet_of ho hd ?_ (by rw [size', sizeLine_eq]; omega)
  have sb : Heap.SameBut a s.heap (s.heap.update a (Obj.putSet (order.filterMap (es[·]?)) t')) := Heap.SameBut.update ..
  refine hQ _ _ _ (ep + 1) t' sb ⟨⟨_, store_at ho hd, ⟨hex.1, hex.2.1, hex.2.2⟩, rfl⟩, ?_, fun i k hk => ?_, ?_, pk.nodup_iff.mpr T.nd, by rw [el]; exact T.led, by rw [pk.length_eq, em]; exact hn, by rw [pk.length_eq]; exact few⟩ pk
  · rw [size', sz, pk.length_eq]
  · rw [List.getElem?_map] at hk
    obtain ⟨j, hj, rfl⟩ := Option.map_eq_some_iff.mp hk
    have jl := lt j (List.mem_of_getElem? hj)
    obtain ⟨c, z1, z2, z3⟩ := T.en j _ (getD_at [] jl)
    refine ⟨c, ?_, rk_other z2 ho hd sb, z3⟩
    rw [← Array.getElem?_toList, el2, List.getElem?_map, hj]
    show some (es.toList.getD j d0) = _
    rw [← getD_at d0 (by rw [Array.length_toList]; omega), Array.getElem?_toList, z1]
  · rw [hh]
    exact T'
theorem tb_add (T : Tb P w M s.heap a ks es ep t) {x : Addr} {k : List Key} (hx : RK P w s.heap k x) (hm : M k x) (hu : A.units < cLine) (few : ks.length + 1 < 64) {Q : Bool → Shared → Prop}
    (hQ : ∀ b h' ks' es' ep' t', Heap.SameBut a s.heap h' → Tb P w M h' a ks' es' ep' t' → (k ∈ ks → ks' = ks) → (k ∉ ks → ks'.Perm (k :: ks)) → Q b { s with heap := h' }) :
    wpAny (model P w) A (setAddHashed a (.ref x) (rh P w k)) Q E s := by
  obtain ⟨o, ho, hex, hd⟩ := T.ob
  have sz := T.sz
  have room := T.room
  unfold setAddHashed
  refine wpAny_holding ?_
  rw [show (100000 : Nat) = 99999 + 1 from rfl, setAddHashedIn_succ]
  refine wpAny_bind (wpAny_setState_of ho hd T.fits ?_)
  dsimp only
  refine wp_if_neg (by simp [byScan, Value.scannable]) ?_
  try refine wpAny_bind (wpAny_pure ?_)
  refine wpAny_bind (tb_search T hx hu (fun m => ?_) fun K m hK hb => ?_)
  · exact wpAny_pure (hQ false s.heap ks es ep t (Heap.SameBut.refl a s.heap) T (fun _ => rfl) fun z => absurd m z)
  · dsimp only
    refine wpAny_bind (wpAny_setState_of ho hd T.fits ?_)
    dsimp only
    obtain ⟨q1, q2, q3, q4, q5, _, _, _, q9⟩ := T.tab.put hK hb
    rw [List.length_map] at q2
    generalize t.put (way t.mask (rh P w k) K) = pt at q1 q3 q4 q5 q9 ⊢
    obtain ⟨t1, p⟩ := pt
    dsimp only at q1 q3 q4 q5 q9 ⊢
    subst q1
    generalize SetTable.below t.place (way t.mask (rh P w k) K) = p at q2 q3 ⊢
    have hks : (ks.map (rh P w)).take p ++ rh P w k :: (ks.map (rh P w)).drop p = (ks.take p ++ k :: ks.drop p).map (rh P w) := by
      rw [List.map_append, List.map_cons, List.map_take, List.map_drop]
    rw [hks] at q3
    have pm : (ks.take p ++ k :: ks.drop p).Perm (k :: ks) := by
      have z : (ks.take p ++ k :: ks.drop p).Perm (k :: (ks.take p ++ ks.drop p)) := List.perm_middle
      rwa [List.take_append_drop] at z
    have len1 : (ks.take p ++ k :: ks.drop p).length = ks.length + 1 := pm.length_eq
    have ins : (SetTable.insertAt es p (rh P w k, Value.ref x)).toList = es.toList.take p ++ (rh P w k, Value.ref x) :: es.toList.drop p := SetTable.toList_insertAt _ _ _
    have size1 : (SetTable.insertAt es p (rh P w k, Value.ref x)).size = ks.length + 1 := by
      have := congrArg List.length ins
      rw [tins_len es.toList (by rw [Array.length_toList]; omega), Array.length_toList, Array.length_toList] at this
      omega
    have en1 : ∀ (i : Nat) (j : List Key), (ks.take p ++ k :: ks.drop p)[i]? = some j → ∃ c, (SetTable.insertAt es p (rh P w k, Value.ref x))[i]? = some (rh P w j, .ref c) ∧ RK P w s.heap j c ∧ M j c := fun i j hj => by
      rw [tins_get ks (by omega)] at hj
      rw [← Array.getElem?_toList, ins, tins_get es.toList (by rw [Array.length_toList]; omega)]
      split at hj
      · rename_i c
        rw [if_pos c, Array.getElem?_toList]
        exact T.en i j hj
      · rename_i c
        rw [if_neg c]
        split at hj
        · rename_i c2
          rw [if_pos c2]
          cases hj
          exact ⟨x, rfl, hx, hm⟩
        · rename_i c2
          rw [if_neg c2, Array.getElem?_toList]
          exact T.en (i - 1) j hj
    have nd1 : (ks.take p ++ k :: ks.drop p).Nodup := pm.nodup_iff.mpr (List.nodup_cons.mpr ⟨m, T.nd⟩)
    generalize ks.take p ++ k :: ks.drop p = ks1 at *
    generalize SetTable.insertAt es p (rh P w k, Value.ref x) = es1 at *
    -- what follows, whatever the mark
    have go : ∀ z : Bool, wpAny (model P w) A (do
        storeSet a es1 (if z = true then t1 else { t1 with plain := false })
        if (!false && (if z = true then t1 else { t1 with plain := false }).tooFull) = true then do
            setRelay a (SetTable.grown (es.size + 1))
            pure true
          else pure true) Q E s := fun z => by
      have tz : ∃ t2 : SetTable, (if z = true then t1 else { t1 with plain := false }) = t2 ∧ TabOk t2 (ks1.map (rh P w)) ∧ t2.mask = t.mask ∧ t2.led = t.led ∧ t2.fill = ks.length + 1 := by
        cases z
        · exact ⟨_, rfl, ⟨q3.ris, q3.dm, q3.sz, q3.mok, q3.bd, q3.reach⟩, q4, q5, by rw [← List.length_map (f := rh P w), ← q9]; rfl⟩
        · exact ⟨t1, rfl, q3, q4, q5, by rw [q9, List.length_map]⟩
      obtain ⟨t2, e2, T2, m2, l2, f2⟩ := tz
      rw [e2]
      refine wpAny_bind (wpAny_storeSet_of ho hd ?_ (by rw [size1, sizeLine_eq]; omega))
      have sb : Heap.SameBut a s.heap (s.heap.update a (Obj.putSet es1 t2)) := Heap.SameBut.update ..
      have ho1 := store_at (es' := es1) (t' := t2) ho hd
      generalize s.heap.update a (Obj.putSet es1 t2) = h1 at sb ho1 ⊢
      have now : Tb0 P w M h1 a ks1 es1 (ep + 1) t2 := ⟨⟨_, ho1, ⟨hex.1, hex.2.1, hex.2.2⟩, rfl⟩, by omega, fun i j hj => by
        obtain ⟨c, z1, z2, z3⟩ := en1 i j hj
        exact ⟨c, z1, rk_other z2 ho hd sb, z3⟩, T2, nd1, by rw [l2]; exact T.led, by omega⟩
      by_cases full : t2.tooFull = true
      · refine wp_if_pos (by simp [full]) (wpAny_bind ?_)
        have hfull : (ks.length + 1) * 5 ≥ t.mask * 3 := by
          unfold SetTable.tooFull at full
          rw [decide_eq_true_eq, f2, m2] at full
          exact full
        have two : (t.mask = 7 ∧ ks.length = 4) ∨ (t.mask = 31 ∧ ks.length = 18) := by
          rcases T.tab.mok with e | e | e <;> rw [e] at hfull room
          · exact .inl ⟨e, by omega⟩
          · exact .inr ⟨e, by omega⟩
          · omega
        have more : ∀ m', SetTable.sizeAbove (SetTable.grown (es.size + 1)) - 1 = m' → MaskOk m' → SetTable.sizeAbove (SetTable.grown (es.size + 1)) ≤ 128 → (ks.length + 1) * 5 < m' * 3 →
            wpAny (model P w) A (setRelay a (SetTable.grown (es.size + 1))) (fun _ s' => wpAny (model P w) A (pure true) Q E s') E { s with heap := h1 } := fun m' z1 z2 z3 z4 =>
          tb_relay (s := { s with heap := h1 }) now (by rw [len1, m2]; rcases two with ⟨e, e2⟩ | ⟨e, e2⟩ <;> omega) z1 z2 z3 (by rw [len1]; exact z4) fun h2 ks2 es2 ep2 t3 sb2 R2 pm2 => wpAny_pure (hQ true h2 ks2 es2 ep2 t3 (sb.trans sb2) R2 (fun z => absurd z m) fun _ => pm2.trans pm)
        rcases two with ⟨_, e⟩ | ⟨_, e⟩
        · exact more 31 (by rw [sz, e, size_20]) (.inr (.inl rfl)) (by rw [sz, e, size_20]; decide) (by omega)
        · exact more 127 (by rw [sz, e, size_76]) (.inr (.inr rfl)) (by rw [sz, e, size_76]; decide) (by omega)
      · refine wp_if_neg (by simp [full]) (wpAny_pure (hQ true h1 ks1 es1 (ep + 1) t2 sb ⟨now.ob, now.sz, now.en, now.tab, now.nd, now.led, ?_, now.few⟩ (fun z => absurd z m) fun _ => pm))
        unfold SetTable.tooFull at full
        rw [decide_eq_true_eq, f2, m2] at full
        rw [m2]
        omega
    by_cases pl : t1.plain = true
    · first
        | (refine wpAny_bind (wp_if_pos pl (rk_byValue hx fun z => ?_)); exact go z)
        | exact wp_if_pos pl (wpAny_bind (rk_byValue hx go))
    · first
        | (refine wpAny_bind (wp_if_neg pl (wpAny_pure ?_)); exact go true)
        | exact wp_if_neg pl (wpAny_bind (wpAny_pure (go true)))
end
end DL
set_option Elab.async false
set_option linter.all false
set_option maxRecDepth 100000
set_option maxHeartbeats 4000000
/-! ### set(a list of tuples), sorted(that) -/
namespace DL
open PySem PySem.Spec PyProof.Rows L2
def InL (L : List (Addr × List Key)) (k : List Key) (c : Addr) : Prop := (c, k) ∈ L
section
variable {P : Program} {w : World} {A : Around} {E : Value → Shared → Prop} {s : Shared} {a : Addr} {ks : List (List Key)} {es : Array (Int × Value)} {ep : Nat} {t : SetTable} {M : List Key → Addr → Prop}
theorem Tb.keep {h h' : Heap} (T : Tb P w M h a ks es ep t) (ka : ∀ o, h.get? a = some o → h'.get? a = some o) (hM : ∀ k c, M k c → RK P w h' k c) : Tb P w M h' a ks es ep t := by
  obtain ⟨o, ho, r⟩ := T.ob
  exact ⟨⟨o, ka o ho, r⟩, T.sz, fun i k hk => by
    obtain ⟨c, z1, _, z3⟩ := T.en i k hk
    exact ⟨c, z1, hM k c z3, z3⟩, T.tab, T.nd, T.led, T.room, T.few⟩
/-- the set at B after i items -/
def GotK (P : Program) (w : World) (L : List (Addr × List Key)) (B : Addr) (i : Nat) (h : Heap) : Prop := ∃ ks es ep t, Tb P w (InL L) h B ks es ep t ∧ (∀ k, k ∈ ks ↔ k ∈ (L.take i).map (·.2)) ∧ ks.length ≤ i
theorem rk_loop {I : Addr} {fp wr : List Addr} {G : Array GenState → Array GenState → Prop} {m : Nat} {Pv : Nat → Value → Prop} {St : Nat → Shared → Prop} {R : Result → Shared → Prop} (W : WalksS P w A.in1 I fp wr G m Pv St) (B : Addr) (off : B ∉ fp) (L : List (Addr × List Key)) (hm : m = L.length)
    (few : L.length < 64) (vals : ∀ i v, Pv i v → ∃ p, L[i]? = some p ∧ v = .ref p.1) (h0 : Heap) (hk : ∀ p ∈ L, RK P w h0 p.2 p.1) (hB : h0.get? B = none) (hw : ∀ b ∈ wr, h0.get? b = none) (hu : A.in1.units < cLine) :
    ∀ (left i : Nat) (s : Shared), m - i = left → i ≤ m → St i s → (∀ b o, h0.get? b = some o → s.heap.get? b = some o) → GotK P w L B i s.heap →
      (∀ s', Moved (B :: wr) G s s' → GotK P w L B m s'.heap → R (.ok (.ret .none)) s') → codeAny (model P w) A (.builtin "set.update.loop" ⟨[.ref B, .ref I], []⟩) R s := by
  have offW : B ∉ wr := fun z => off (W.sub _ z)
  have more : ∀ b ∈ wr, b ∈ B :: wr := fun b z => List.mem_cons_of_mem _ z
  have old : ∀ {s s' : Shared}, Moved wr G s s' → (∀ b o, h0.get? b = some o → s.heap.get? b = some o) → ∀ b o, h0.get? b = some o → s'.heap.get? b = some o := fun mv k b o e =>
    mv.heap b o (fun z => by rw [hw b z] at e; cases e) (k b o e)
  have still : ∀ {h h' : Heap} {i : Nat}, GotK P w L B i h → (∀ o, h.get? B = some o → h'.get? B = some o) → (∀ b o, h0.get? b = some o → h'.get? b = some o) → GotK P w L B i h' := fun ⟨ks, es, ep, t, T, r⟩ k1 k2 =>
    ⟨ks, es, ep, t, T.keep k1 fun k c z => (hk (c, k) z).move fun o e => k2 c o e, r⟩
  intro left
  induction left with
  | zero =>
    intro i s hl hi st k T fin
    have e : i = m := by omega
    subst e
    refine codeAny_builtin F.entry_set_update_loop ?_
    rw [Around.under_plainId F.plain_set_update_loop _]
    show wpAny _ A.in1 (pyNext (.ref I) >>= _) _ _ s
    refine wpAny_bind (W.done s _ _ st fun s' mv => ?_)
    show wpAny _ A.in1 (ret Value.none) _ _ s'
    exact wpAny_pure (fin s' (mv.mono more) (still T (fun o q => mv.heap B o offW q) (old mv k)))
  | succ left ih =>
    intro i s hl hi st k T fin
    have lt : i < m := by omega
    refine codeAny_builtin F.entry_set_update_loop ?_
    rw [Around.under_plainId F.plain_set_update_loop _]
    show wpAny _ A.in1 (pyNext (.ref I) >>= _) _ _ s
    refine wpAny_bind (W.item i s _ _ lt st fun v s' pv st' mv => ?_)
    obtain ⟨p, hp, rfl⟩ := vals i v pv
    have k' := old mv k
    obtain ⟨ks, es, ep, t, T', g, gl⟩ := still T (fun o q => mv.heap B o offW q) k'
    have mp : p ∈ L := List.mem_of_getElem? hp
    have hx : RK P w s'.heap p.2 p.1 := (hk p mp).move fun o e => k' p.1 o e
    show wpAny _ A.in1 (holding [Value.ref p.1] (setAdd B (.ref p.1)) >>= _) _ _ s'
    refine wpAny_bind (wpAny_holding ?_)
    unfold setAdd
    refine wpAny_holding (wpAny_bind (wpAny_pyHash_tuple hu hx ?_))
    refine tb_add (s := { s' with toks := s'.toks + (p.2.length + 1) }) T' hx (show (p.1, p.2) ∈ L from mp) hu (by omega) fun b h' ks' es' ep' t' sb T2 same new => ?_
    have k2 : ∀ b o, h0.get? b = some o → h'.get? b = some o := fun b o e => (sb.2 b (fun z => by rw [z, hB] at e; cases e)).trans (k' b o e)
    have tk : (L.take (i + 1)).map (·.2) = (L.take i).map (·.2) ++ [p.2] := by
      rw [List.take_add_one, hp, List.map_append]
      rfl
    have G2 : GotK P w L B (i + 1) h' := by
      refine ⟨ks', es', ep', t', T2, fun j => ?_, ?_⟩
      · rw [tk, List.mem_append, List.mem_singleton]
        by_cases c : p.2 ∈ ks
        · rw [same c, g j]
          exact ⟨.inl, fun z => z.elim id fun e => by rw [e]; exact (g _).mp c⟩
        · rw [(new c).mem_iff, List.mem_cons, g j]
          exact ⟨fun z => z.elim .inr .inl, fun z => z.elim .inr .inl⟩
      · by_cases c : p.2 ∈ ks
        · rw [same c]
          omega
        · rw [(new c).length_eq, List.length_cons]
          omega
    refine wpAny_pure ⟨plainId_quiet F.plain_set_update_loop _, ih (i + 1) _ (by omega) lt (W.frame _ s' _ _ st' (Nat.le_add_right _ _) fun c hc o q => ?_) k2 G2 fun s2 mv2 T4 => ?_⟩
    · rw [sb.2 c (fun z : c = B => off (by rw [← z]; exact hc))]
      exact q
    · refine fin s2 (Moved.trans W.gtrans ((mv.mono more).then_heap (Nat.le_add_right _ _) fun c o hc q => ?_) mv2) T4
      rw [sb.2 c (fun z : c = B => hc (by rw [z]; exact List.mem_cons_self))]
      exact q
theorem got_fresh {h : Heap} {b : Addr} (L : List (Addr × List Key)) (g : h.get? b = some (newSet w)) : GotK P w L b 0 h :=
  ⟨[], #[], 0, _, ⟨⟨_, g, ⟨rfl, rfl, rfl⟩, rfl⟩, rfl, fun i k hk => by simp at hk, ⟨List.Pairwise.nil, rfl, rfl, .inl rfl, fun x hx => (nomatch hx), fun i h j hi => by simp at hi⟩, List.nodup_nil, by
    show _ ∨ (!w.params.followText "set-order") = true
    cases w.params.followText "set-order"
    · exact .inr rfl
    · exact .inl rfl, by show 0 * 5 < 7 * 3; decide, by decide⟩, fun k => by simp, Nat.le_refl _⟩
/-- set(a list of tuples) -/
theorem rk_set {l : Addr} {items : Array Value} (L : List (Addr × List Key)) {Q : Value → Shared → Prop} (hh : A.handled = none) (hu : A.units + 3 < cLine) (hl : s.heap.IsList l items) (hit : items.toList = L.map fun p => Value.ref p.1) (hk : ∀ p ∈ L, RK P w s.heap p.2 p.1) (few : L.length < 64)
    (fin : ∀ (h' : Heap) (k : Nat), GotK P w L s.heap.objs.size L.length h' → (∀ b o, s.heap.get? b = some o → h'.get? b = some o) → Q (.ref s.heap.objs.size) { s with heap := h', toks := k }) :
    wpAny (model P w) A (call (.type "set") [.ref l]) Q E s := by
  have size : items.size = L.length := by
    have z := congrArg List.length hit
    rw [Array.length_toList, List.length_map] at z
    exact z
  obtain ⟨c, tl, hmro⟩ := PySem.F.called_set.mro
  have hmade := PySem.F.called_set.made
  have hsub := PySem.F.called_set.sub
  refine wpAny_call (codeAny_of_tree ?_)
  show wpAny _ _ (callAny (.type "set") _) _ _ _
  refine wpAny_pure ⟨Code.quiet_builtin _ (by decide +kernel), codeAny_builtin PySem.F.entry_type_call ?_⟩
  rw [Around.under_plain (weight_type_call_type "set" [.ref l] []) rfl]
  have h1 := PySem.F.called_set.notType
  have h2 := PySem.F.called_set.canCreate
  have hct := PySem.F.typeCall_set_1 (.ref l)
  repeat (any_goals (first | assumption | wp_step))
  refine codeAny_mono (code_set_led1 (.ref l) (E := E) (Q₁ := fun ob s1 => ob = .ref s.heap.objs.size ∧ s1 = { s with heap := s.heap.push (newSet w) }) ⟨rfl, rfl⟩) fun r s1 hr => ?_
  cases r with
  | error e => exact hr
  | ok fl =>
    cases fl with
    | ret ob =>
      obtain ⟨rfl, rfl⟩ := hr
      have hS : (s.heap.push (newSet w)).get? s.heap.objs.size = some (newSet w) := Heap.get?_push_size _ rfl
      have hT : Shared.TypeIs { s with heap := s.heap.push (newSet w) } (.ref s.heap.objs.size) "set" := ⟨_, hS, rfl⟩
      have hli := PySem.F.called_set.init.lookup
      have hbi := PySem.F.called_set.init.bind (.ref s.heap.objs.size)
      repeat (any_goals (first | assumption | wp_step))
      refine codeAny_mono (codeAny_call_builtin (R := wants (fun r s2 => r = .none ∧ ∃ h' k, s2 = { s with heap := h', toks := k } ∧ GotK P w L s.heap.objs.size L.length h' ∧ ∀ b o, s.heap.get? b = some o → h'.get? b = some o) E) PySem.F.called_set.init.plain PySem.F.entry_set_init (check_set_init_1 hT ?_)) fun r2 s2 hr2 => ?_
      · obtain ⟨ol, hol, hcl, nl, hdl⟩ := hl
        obtain ⟨ocls, odict, odata, oslots⟩ := ol
        simp only at hcl hdl
        subst hcl
        subst hdl
        have hol' : (s.heap.push (newSet w)).get? l = some { cls := .type "list", dict := odict, data := .seq items nl, slots := oslots } := Heap.get?_push_of_some _ hol
        have hsls := PySem.F.sub_list_set
        have hslf := PySem.F.sub_list_frozenset
        have hne : (Value.type "list" == Value.type "dict") = false := by decide
        have hl1 : (s.heap.push (newSet w)).IsList l items := ⟨_, hol', rfl, nl, rfl⟩
        unfold Builtin.«set.__init__» noKeywords Builtin.Frozenset.updateFrom
        generalize hPI : pyIter = PI
        wp_walk
        subst hPI
        refine wpAny_pyIter_list hl1 ?_
        refine wpAny_bind (wpAny_runValue ?_)
        have below : l < s.heap.objs.size := Heap.lt_size hol
        have calm3 : A.in1.in1.in1.handled = none := by simp [hh]
        have apart : l ≠ (s.heap.push (newSet w)).objs.size := by
          rw [Heap.size_push]
          exact Nat.ne_of_lt (Nat.lt_succ_of_lt below)
        have out : s.heap.objs.size ∉ [(s.heap.push (newSet w)).objs.size, l] := by
          rw [Heap.size_push]
          simp only [List.mem_cons, List.mem_singleton, List.not_mem_nil, or_false, not_or]
          exact ⟨Nat.ne_of_lt (Nat.lt_succ_self _), Nat.ne_of_gt below⟩
        have vals : ∀ (i : Nat) (v : Value), items[i]? = some v → ∃ p, L[i]? = some p ∧ v = .ref p.1 := fun i v hv => by
          have hv' : items.toList[i]? = some v := by rw [Array.getElem?_toList]; exact hv
          rw [hit, List.getElem?_map] at hv'
          obtain ⟨p, hp, e⟩ := Option.map_eq_some_iff.mp hv'
          exact ⟨p, hp, e.symm⟩
        have fresh : ∀ b, s.heap.objs.size ≤ b → s.heap.get? b = none := fun b hb => by
          cases q : s.heap.get? b with
          | none => rfl
          | some o => exact absurd (Heap.lt_size q) (Nat.not_lt.mpr hb)
        refine rk_loop ((Walks.list calm3 _ l apart items).toS) s.heap.objs.size out L size few vals s.heap hk (fresh _ (Nat.le_refl _)) (fun b hb => fresh b (by
          rw [List.mem_singleton.mp hb, Heap.size_push]
          exact Nat.le_succ _)) hu (items.size - 0) 0 _ (by omega) (Nat.zero_le _) ⟨⟨_, Heap.get?_push_size _ rfl, rfl, rfl⟩, (hl1.push _)⟩ (fun b o e => Heap.get?_push_of_some _ (Heap.get?_push_of_some _ e)) ?hS0 ?hR
        case hS0 => exact got_fresh L (Heap.get?_push_of_some _ hS)
        case hR =>
          intro s' mv T
          obtain ⟨h', g2, d', k', os'⟩ := s'
          have eg : g2 = s.gens := mv.gens
          have ed : d' = s.drawn := mv.drawn
          have eo : os' = s.os := mv.os
          subst eg
          subst ed
          subst eo
          show wpAny _ _ _ _ _ _
          refine wpAny_pure ?_
          show wpAny _ _ (ret Value.none) _ _ _
          rw [size] at T
          refine wpAny_pure ⟨rfl, h', k', rfl, T, fun b o e => ?_⟩
          have b0 : b < s.heap.objs.size := Heap.lt_size e
          refine mv.heap b o ?_ (Heap.get?_push_of_some _ (Heap.get?_push_of_some _ e))
          rw [Heap.size_push]
          simp only [List.mem_cons, List.mem_singleton, List.not_mem_nil, or_false, not_or]
          exact ⟨Nat.ne_of_lt b0, Nat.ne_of_lt (Nat.lt_succ_of_lt b0)⟩
      · cases r2 with
        | error e => exact hr2
        | ok fl2 =>
          cases fl2 with
          | ret r =>
            obtain ⟨rfl, h', k', rfl, T, old⟩ := hr2
            repeat (any_goals (first | assumption | wp_step))
            exact fin _ _ T old
          | _ => exact hr2.elim
    | _ => exact hr.elim
end
end DL
set_option Elab.async false
set_option linter.all false
set_option maxRecDepth 100000
set_option maxHeartbeats 4000000
/-! ### the order of tuples of texts and ints, in plain -/
namespace DL
open PySem PySem.Spec PyProof.Rows L2
def isR : Key → Bool
  | .inl _ => false
  | .inr _ => true
def itK : Key → Int ⊕ List Nat
  | .inl i => .inl i
  | .inr x => .inr x.cps.toList
def kb (k : List Key) : List (Int ⊕ List Nat) := k.map itK
def ltK (a b : List Key) : Bool := lexLt itemOrd (kb a) (kb b)
theorem itK_inj {a b : Key} (h : itK a = itK b) : a = b := by
  cases a <;> cases b
  · exact congrArg Sum.inl (Sum.inl.inj h)
  · cases h
  · cases h
  · exact congrArg Sum.inr (str_ext (Sum.inr.inj h))
theorem kb_inj : ∀ {a b : List Key}, kb a = kb b → a = b
  | [], [], _ => rfl
  | [], _ :: _, h => by cases h
  | _ :: _, [], h => by cases h
  | x :: a, y :: b, h => by
    have h : itK x :: kb a = itK y :: kb b := h
    injection h with h1 h2
    rw [itK_inj h1, kb_inj h2]
def leK (a b : List Key) : Prop := ltK b a = false
theorem leK_total (a b : List Key) : leK a b ∨ leK b a := by
  unfold leK ltK
  cases h : lexLt itemOrd (kb b) (kb a) with
  | false => exact .inl rfl
  | true =>
    refine .inr ?_
    cases h2 : lexLt itemOrd (kb a) (kb b) with
    | false => rfl
    | true =>
      have := lex_trans (O := itemOrd) _ _ _ h h2
      rw [lex_irrefl] at this
      cases this
theorem leK_trans {a b c : List Key} (h : leK a b) (h' : leK b c) : leK a c := by
  unfold leK ltK at *
  cases q : lexLt itemOrd (kb c) (kb a) with
  | false => rfl
  | true =>
    rcases lex_negTrans (O := itemOrd) (kb c) (kb b) (kb a) q with z | z
    · rw [h'] at z; cases z
    · rw [h] at z; cases z
theorem leK_anti {a b : List Key} (h : leK a b) (h' : leK b a) : a = b := kb_inj (lex_total (O := itemOrd) _ _ h' h)
def insK (x : List Key) : List (List Key) → List (List Key)
  | [] => [x]
  | y :: r => if ltK y x then y :: insK x r else x :: y :: r
def sortK : List (List Key) → List (List Key)
  | [] => []
  | x :: r => insK x (sortK r)
def hasK (x : List Key) (r : List (List Key)) : Bool := r.any fun y => decide (y = x)
theorem hasK_iff {x : List Key} {r : List (List Key)} : hasK x r = true ↔ x ∈ r := by
  unfold hasK
  rw [List.any_eq_true]
  exact ⟨fun ⟨y, hy, e⟩ => of_decide_eq_true e ▸ hy, fun h => ⟨x, h, decide_eq_true rfl⟩⟩
def dedK : List (List Key) → List (List Key)
  | [] => []
  | x :: r => if hasK x r then dedK r else x :: dedK r
/-- sorted(set(ks)) -/
def setK (ks : List (List Key)) : List (List Key) := sortK (dedK ks)
theorem insK_perm (x : List Key) : ∀ r : List (List Key), (insK x r).Perm (x :: r)
  | [] => List.Perm.refl _
  | y :: r => by
    unfold insK
    split
    · exact ((insK_perm x r).cons y).trans (List.Perm.swap x y r)
    · exact List.Perm.refl _
theorem sortK_perm : ∀ r : List (List Key), (sortK r).Perm r
  | [] => List.Perm.refl _
  | x :: r => (insK_perm x (sortK r)).trans ((sortK_perm r).cons x)
theorem insK_rises (x : List Key) : ∀ r : List (List Key), r.Pairwise leK → (insK x r).Pairwise leK
  | [], _ => List.pairwise_singleton _ _
  | y :: r, h => by
    obtain ⟨h1, h2⟩ := List.pairwise_cons.mp h
    unfold insK
    split
    · rename_i c
      refine List.pairwise_cons.mpr ⟨fun z hz => ?_, insK_rises x r h2⟩
      rcases List.mem_cons.mp ((insK_perm x r).mem_iff.mp hz) with rfl | m
      · rcases leK_total y z with q | q
        · exact q
        · unfold leK at q
          rw [c] at q
          cases q
      · exact h1 z m
    · rename_i c
      have c : leK x y := by
        unfold leK
        simpa using c
      refine List.pairwise_cons.mpr ⟨fun z hz => ?_, h⟩
      rcases List.mem_cons.mp hz with rfl | m
      · exact c
      · exact leK_trans c (h1 z m)
theorem sortK_rises : ∀ r : List (List Key), (sortK r).Pairwise leK
  | [] => List.Pairwise.nil
  | x :: r => insK_rises x _ (sortK_rises r)
theorem dedK_mem : ∀ (r : List (List Key)) (x : List Key), x ∈ dedK r ↔ x ∈ r
  | [], x => Iff.rfl
  | y :: r, x => by
    unfold dedK
    split
    · rename_i c
      rw [dedK_mem r x, List.mem_cons]
      exact ⟨.inr, fun z => z.elim (fun e => e ▸ hasK_iff.mp c) id⟩
    · rw [List.mem_cons, List.mem_cons, dedK_mem r x]
theorem dedK_nodup : ∀ r : List (List Key), (dedK r).Nodup
  | [] => List.nodup_nil
  | y :: r => by
    unfold dedK
    split
    · exact dedK_nodup r
    · rename_i c
      refine List.nodup_cons.mpr ⟨fun z => c (hasK_iff.mpr ((dedK_mem r y).mp z)), dedK_nodup r⟩
theorem sortK_uniq {ys zs : List (List Key)} (p : ys.Perm zs) (h : ys.Pairwise leK) : ys = sortK zs :=
  List.Perm.eq_of_pairwise (le := leK) (fun _ _ _ _ a b => leK_anti a b) h (sortK_rises zs) (p.trans (sortK_perm zs).symm)
theorem setK_uniq {ys ss : List (List Key)} (nd : ys.Nodup) (hm : ∀ x, x ∈ ys ↔ x ∈ ss) (h : ys.Pairwise leK) : ys = setK ss :=
  sortK_uniq ((List.perm_ext_iff_of_nodup nd (dedK_nodup ss)).mpr fun x => (hm x).trans (dedK_mem ss x).symm) h
theorem setK_mem {ss : List (List Key)} {x : List Key} : x ∈ setK ss ↔ x ∈ ss := ((sortK_perm _).mem_iff).trans (dedK_mem ss x)
theorem setK_nodup (ss : List (List Key)) : (setK ss).Nodup := (sortK_perm _).nodup_iff.mpr (dedK_nodup ss)
theorem dedK_len : ∀ r : List (List Key), (dedK r).length ≤ r.length
  | [] => Nat.le_refl _
  | x :: r => by
    have := dedK_len r
    unfold dedK
    split <;> rw [List.length_cons] <;> try rw [List.length_cons]
    · omega
    · omega
theorem setK_len (ss : List (List Key)) : (setK ss).length ≤ ss.length := by
  unfold setK
  rw [(sortK_perm _).length_eq]
  exact dedK_len ss
/-! ### the code's sorting of such tuples -/
def shF (sh : List Bool) : Nat → Bool := fun i => sh.getD i false
section
variable {P : Program} {w : World} {A : Around} {E : Value → Shared → Prop} {s : Shared}
theorem tk_items {shape : Nat → Bool} : ∀ {k : List Key} {vs : List Value} (i : Nat), ItemsAre (mixKind P w) k vs → (∀ (j : Nat) (x : Key), k[j]? = some x → shape (i + j) = isR x) → tupItems shape i vs = some (kb k)
  | _, _, i, .nil, _ => rfl
  | x :: k, v :: vs, i, .cons h t, hs => by
    have ih := tk_items (shape := shape) (i + 1) t fun j y hy => by
      have := hs (j + 1) y hy
      rwa [show i + (j + 1) = i + 1 + j by omega] at this
    have h0 := hs 0 x rfl
    rw [Nat.add_zero] at h0
    rcases keyIs_shape h with ⟨n, u, rfl, rfl⟩ | ⟨z, u, rfl, rfl⟩
    · show (if shape i = true then none else (tupItems shape (i + 1) vs).map (Sum.inl n :: ·)) = _
      rw [h0, if_neg (by unfold isR; exact Bool.false_ne_true), ih]
      rfl
    · show (if shape i = true then (tupItems shape (i + 1) vs).map (Sum.inr z.cps.toList :: ·) else none) = _
      rw [h0, show isR (Sum.inr z) = true from rfl, if_pos rfl, ih]
      rfl
theorem rk_key {h : Heap} {k : List Key} {c : Addr} {sh : List Bool} (x : RK P w h k c) (e : k.map isR = sh) : tupKey h (shF sh) (.ref c) = some (kb k) := by
  obtain ⟨o, its, n, g, _, d, all⟩ := x
  show (match h.get? c with | some o => _ | none => none) = _
  rw [g]
  show (match o.data with | .seq xs _ => tupItems (shF sh) 0 xs.toList | _ => none) = _
  rw [d]
  refine tk_items 0 all fun j y hy => ?_
  rw [Nat.zero_add]
  show sh.getD j false = _
  rw [← e, List.getD_eq_getElem?_getD, List.getElem?_map, hy]
  rfl
theorem swoK (f : Value → List (Int ⊕ List Nat)) : SrtO.Swo fun v u => lexLt itemOrd (f v) (f u) := by
  refine ⟨fun x y h => ?_, fun x y z h1 h2 => ?_⟩
  · cases q : lexLt itemOrd (f y) (f x) with
    | false => rfl
    | true =>
      have := lex_trans (O := itemOrd) _ _ _ h q
      rw [lex_irrefl] at this
      cases this
  · cases q : lexLt itemOrd (f z) (f x) with
    | false => rfl
    | true =>
      rcases lex_negTrans (O := itemOrd) _ (f y) _ q with z' | z'
      · rw [h2] at z'; cases z'
      · rw [h1] at z'; cases z'
def kv (h : Heap) (sh : List Bool) (v : Value) : List (Int ⊕ List Nat) := (tupKey h (shF sh) v).getD []
/-- the values are tuples of that shape -/
def AllK (P : Program) (w : World) (h : Heap) (sh : List Bool) (vs : List Value) : Prop := ∀ v ∈ vs, ∃ k c, v = .ref c ∧ RK P w h k c ∧ k.map isR = sh
theorem tupsOf_all {h : Heap} {b : Bool} {sh : List Bool} : ∀ {vs : List Value}, AllK P w h (b :: sh) vs → ∃ fs, TupsOf h (shF (b :: sh)) vs fs ∧ fs.length = vs.length
  | [], _ => ⟨[], .nil, rfl⟩
  | v :: vs, H => by
    obtain ⟨fs, h1, h2⟩ := tupsOf_all fun u hu => H u (List.mem_cons_of_mem _ hu)
    obtain ⟨k, c, rfl, ⟨o, its, n, g, cl, d, all⟩, e⟩ := H v List.mem_cons_self
    cases k with
    | nil => cases e
    | cons x k =>
      generalize hv : its.toList = us at all
      cases all with
      | @cons _ u _ us hx t =>
        have e0 : isR x = b := (List.cons.inj e).1
        refine ⟨u :: fs, .cons ⟨c, o, its, n, rfl, g, cl, d, ?_, fun q => ?_, fun q => ?_⟩ h1, by rw [List.length_cons, List.length_cons, h2]⟩
        · rw [← Array.getElem?_toList, hv]
          rfl
        · have q : b = false := q
          rcases keyIs_shape hx with ⟨n, u, rfl, rfl⟩ | ⟨z, u, rfl, rfl⟩
          · exact ⟨n, u, rfl⟩
          · rw [q] at e0; cases e0
        · have q : b = true := q
          rcases keyIs_shape hx with ⟨n, u, rfl, rfl⟩ | ⟨z, u, rfl, rfl⟩
          · rw [q] at e0; cases e0
          · exact ⟨z, u, rfl⟩
theorem allK_sortable {a : Addr} {b : Bool} {sh : List Bool} {vs : List Value} (H : AllK P w s.heap (b :: sh) vs) (h2 : 2 ≤ vs.length) (ha : ∀ o, s.heap.get? a = some o → o.cls ≠ .type "tuple") :
    SrtO.SortableO P w A s a vs fun v u => lexLt itemOrd (kv s.heap (b :: sh) v) (kv s.heap (b :: sh) u) := by
  intro h' keep
  have mv : ∀ {k : List Key} {c : Addr}, RK P w s.heap k c → RK P w h' k c := fun {k c} ⟨o, its, n, g, cl, r⟩ => ⟨o, its, n, keep c o (fun z => by
    subst z
    exact ha o g cl) g, cl, r⟩
  have H' : AllK P w h' (b :: sh) vs := fun v hv => by
    obtain ⟨k, c, e, x, y⟩ := H v hv
    exact ⟨k, c, e, mv x, y⟩
  have at_ : ∀ v ∈ vs, tupKey h' (shF (b :: sh)) v = some (kv s.heap (b :: sh) v) := fun v hv => by
    obtain ⟨k, c, rfl, x, y⟩ := H v hv
    unfold kv
    rw [rk_key x y, rk_key (mv x) y]
    rfl
  obtain ⟨fs, f1, f2⟩ := tupsOf_all H'
  refine ⟨tuples' true, fun Q E hq => ?_, fun p q hp hq => ?_⟩
  · exact tup_kind (s := { s with heap := h' }) (by omega) f1 hq
  · show wpAny (model P w) A (keyLt' (tuples' true) p.1 q.1) (fun r s' => s' = { s with heap := h' } ∧ r = lexLt itemOrd (kv s.heap (b :: sh) p.1) (kv s.heap (b :: sh) q.1)) (fun _ _ => False) { s with heap := h' }
    exact tup_ltAt (s := { s with heap := h' }) true A _ p.1 q.1 _ _ (at_ _ hp) (at_ _ hq) ⟨rfl, rfl⟩
end
end DL
set_option Elab.async false
set_option linter.all false
set_option maxRecDepth 100000
set_option maxHeartbeats 4000000
namespace DL
open PySem PySem.Spec PyProof.Rows L2
theorem perm_lift {α β : Type} {f : α → β} {l m : List β} (p : l.Perm m) : ∀ E : List α, m = E.map f → ∃ E' : List α, E'.Perm E ∧ l = E'.map f := by
  induction p with
  | nil => exact fun E e => ⟨E, List.Perm.refl _, e⟩
  | cons x p ih =>
    intro E e
    cases E with
    | nil => cases e
    | cons z E =>
      injection e with e1 e2
      obtain ⟨E', q1, q2⟩ := ih E e2
      exact ⟨z :: E', q1.cons z, by rw [e1, q2]; rfl⟩
  | swap x y l =>
    intro E e
    match E, e with
    | z1 :: z2 :: E, e =>
      injection e with e1 e2
      injection e2 with e2 e3
      exact ⟨z2 :: z1 :: E, List.Perm.swap _ _ _, by rw [e1, e2, e3]; rfl⟩
  | trans p q ih1 ih2 =>
    intro E e
    obtain ⟨E1, a1, a2⟩ := ih2 E e
    obtain ⟨E2, b1, b2⟩ := ih1 E1 a2
    exact ⟨E2, b1.trans a1, b2⟩
theorem ents_pairs {hs : List Key → Int} {M : List Key → Addr → Prop} : ∀ (ks : List (List Key)) (xs : List (Int × Value)), xs.length = ks.length → (∀ (i : Nat) (k : List Key), ks[i]? = some k → ∃ c, xs[i]? = some (hs k, .ref c) ∧ M k c) →
    ∃ E : List (Addr × List Key), E.map (·.2) = ks ∧ xs.map (·.2) = E.map (fun p => Value.ref p.1) ∧ ∀ p ∈ E, M p.2 p.1
  | [], [], _, _ => ⟨[], rfl, rfl, fun p h => nomatch h⟩
  | k :: ks, x :: xs, hl, h => by
    obtain ⟨E, e1, e2, e3⟩ := ents_pairs ks xs (by simpa using hl) fun i j hj => h (i + 1) j hj
    obtain ⟨c, z1, z2⟩ := h 0 k rfl
    have z1 : x = (hs k, .ref c) := Option.some.inj z1
    refine ⟨(c, k) :: E, by rw [List.map_cons, e1], by rw [List.map_cons, List.map_cons, e2, z1], fun p hp => ?_⟩
    rcases List.mem_cons.mp hp with rfl | hp
    · exact z2
    · exact e3 p hp
  | [], _ :: _, hl, _ => by cases hl
  | _ :: _, [], hl, _ => by cases hl
section
variable {P : Program} {w : World} {A : Around} {E : Value → Shared → Prop} {s : Shared} {a : Addr}
/-- sorted(the set) -/
theorem rk_sorted {b : Bool} {sh : List Bool} {L : List (Addr × List Key)} {n : Nat} {Q : Value → Shared → Prop} (hh : A.handled = none) (T : GotK P w L a n s.heap) (hsh : ∀ p ∈ L, p.2.map isR = b :: sh)
    (fin : ∀ (s' : Shared) (R : Addr) (L' : List (Addr × List Key)) (ep : Nat), (∀ p ∈ L', p ∈ L) → L'.map (·.2) = setK ((L.take n).map (·.2)) → s.heap.objs.size ≤ R → s'.heap.get? R = some (seqObj "list" (L'.map fun p => Value.ref p.1).toArray ep) →
      (∀ b o, s.heap.get? b = some o → s'.heap.get? b = some o) → s'.gens = s.gens → s'.os = s.os → Q (.ref R) s') :
    wpAny (model P w) A (call (.builtin "sorted") [.ref a]) Q E s := by
  obtain ⟨ks, es, ep, t, T, g, gl⟩ := T
  obtain ⟨o, ho, hex, hd⟩ := T.ob
  have few := T.few
  refine Calls.call_function_entry PyProof.Rows.kind_sorted PyProof.Rows.plain_sorted PyProof.Rows.entry_sorted (PyProof.Rows.args_sorted1 _) ?_
  unfold Builtin.«sorted»
  refine wpAny_bind (m := checkCount "sorted" 1 1 _) (wpAny_pure ?_)
  refine wpAny_bind (collect_set (A := A.in1) hh ⟨o, ho, hex.1, hd⟩ T.fits (by rw [T.sz]; unfold scanBound; omega) T.tab.ris T.led fun s1 vs k1 hz g1 o1 pm => ?_)
  obtain ⟨L0, e1, e2, e3⟩ := ents_pairs (hs := rh P w) (M := fun k c => RK P w s.heap k c ∧ InL L k c) ks es.toList (by rw [Array.length_toList]; exact T.sz) fun i k hk => by
    rw [Array.getElem?_toList]
    exact T.en i k hk
  have vlen : vs.length = ks.length := by rw [pm.length_eq, List.length_map, Array.length_toList, T.sz]
  refine wpAny_bind (wpAny_newList ?_ (by rw [sizeLine_eq]; omega))
  have hoL : (s1.heap.push (seqObj "list" vs.toArray 0)).get? s1.heap.objs.size = some (seqObj "list" vs.toArray 0) := Heap.get?_push_size _ rfl
  have rk : ∀ p ∈ L0, RK P w (s1.heap.push (seqObj "list" vs.toArray 0)) p.2 p.1 := fun p hp => (e3 p hp).1.move fun o e => Heap.get?_push_of_some _ (k1 p.1 o e)
  have all : AllK P w (s1.heap.push (seqObj "list" vs.toArray 0)) (b :: sh) vs := fun v hv => by
    have := pm.mem_iff.mp hv
    rw [e2] at this
    obtain ⟨p, hp, rfl⟩ := List.mem_map.mp this
    exact ⟨p.2, p.1, rfl, rk p hp, hsh _ (e3 p hp).2⟩
  refine wpAny_bind (wpAny_holding (wpAny_call_entry PyProof.Rows.slot_list_sort ⟨_, hoL, rfl⟩ PyProof.Rows.entry_list_sort
    (SrtO.list_sort_ord (s := { s1 with heap := s1.heap.push (seqObj "list" vs.toArray 0) }) (swoK (kv (s1.heap.push (seqObj "list" vs.toArray 0)) (b :: sh))) hoL (by rw [sizeLine_eq]; omega)
      (fun h2 => allK_sortable (s := { s1 with heap := s1.heap.push (seqObj "list" vs.toArray 0) }) all h2 fun o' e => by
        rw [hoL] at e
        cases e
        intro c
        exact absurd (Value.type.inj c) (by decide))
      fun out srt stb => ⟨_, rfl, ?_⟩) (PyProof.Rows.args_list_sort _)))
  obtain ⟨L', p1, p2⟩ := perm_lift (stb.perm.trans pm) L0 e2
  subst p2
  obtain ⟨e', he'⟩ := PyProof.Rows.sortedHeap_at (vs := vs) (out := (L'.map fun p => Value.ref p.1).toArray) hoL
  have mem : ∀ p ∈ L', p ∈ L0 := fun p hp => p1.mem_iff.mp hp
  have pk : (L'.map (·.2)).Perm ks := by
    rw [← e1]
    exact p1.map _
  have pw : (L'.map (·.2)).Pairwise leK := by
    rw [List.pairwise_map]
    refine List.Pairwise.imp_of_mem (fun {x y} hx hy h => ?_) (List.pairwise_map.mp srt)
    have kx : kv (s1.heap.push (seqObj "list" vs.toArray 0)) (b :: sh) (.ref x.1) = kb x.2 := by
      unfold kv
      rw [rk_key (rk x (mem x hx)) (hsh _ (e3 x (mem x hx)).2)]
      rfl
    have ky : kv (s1.heap.push (seqObj "list" vs.toArray 0)) (b :: sh) (.ref y.1) = kb y.2 := by
      unfold kv
      rw [rk_key (rk y (mem y hy)) (hsh _ (e3 y (mem y hy)).2)]
      rfl
    have h : lexLt itemOrd (kv (s1.heap.push (seqObj "list" vs.toArray 0)) (b :: sh) (.ref y.1)) (kv (s1.heap.push (seqObj "list" vs.toArray 0)) (b :: sh) (.ref x.1)) = false := h
    rw [kx, ky] at h
    exact h
  refine wpAny_pure ?_
  refine ⟨_, rfl, ?_⟩
  refine fin { s1 with heap := PyProof.Rows.sortedHeap (s1.heap.push (seqObj "list" vs.toArray 0)) s1.heap.objs.size vs (L'.map fun p => Value.ref p.1).toArray } s1.heap.objs.size L' e' (fun p hp => (e3 p (mem p hp)).2)
    (setK_uniq (pk.nodup_iff.mpr T.nd) (fun x => pk.mem_iff.trans (g x)) pw) hz he' (fun b u e => ?_) g1 o1
  have hb : b < s1.heap.objs.size := Nat.lt_of_lt_of_le (Heap.lt_size e) hz
  show (PyProof.Rows.sortedHeap _ _ _ _).get? b = _
  rw [PyProof.Rows.sortedHeap_old (Nat.ne_of_lt hb) (by rw [size_push']; exact Nat.lt_succ_of_lt hb)]
  exact Heap.get?_push_of_some _ (k1 b u e)
end
/-! ### the rule -/
def kV : Key → V
  | .inl i => .int i
  | .inr x => .str x
/-- sorted(set(e)), e a list of tuples of one shape -/
def rSK (K : PySem.W.Frag) (xs : List V) (H : Hp) (Q : VK) : Prop := ∃ (l : Addr) (L : List (Addr × List Key)) (b : Bool) (sh : List Bool), xs = [.ref l] ∧ SqL K H l (L.map fun p => V.ref p.1) ∧ (∀ p ∈ L, SqT K H p.1 (p.2.map kV)) ∧ (∀ p ∈ L, p.2.map isR = b :: sh) ∧ L.length < 64 ∧
  ∀ (p : Addr) (L' : List (Addr × List Key)), H p = none → (∀ q ∈ L', q ∈ L) → L'.map (·.2) = setK (L.map (·.2)) → Q (.ref p) (upd H p (.lst (L'.map fun q => V.ref q.1)))
theorem vals_items {P : Program} {w : World} : ∀ {k : List Key} {us : List Value}, Vals (k.map kV) us → ItemsAre (mixKind P w) k us
  | [], _, .nil => .nil
  | .inl i :: k, _, .cons r t => by
    obtain ⟨u, rfl⟩ := r
    exact .cons (mixKind_int P w i u) (vals_items t)
  | .inr x :: k, _, .cons r t => by
    obtain ⟨u, rfl⟩ := r
    exact .cons (mixKind_str P w x u) (vals_items t)
theorem vals_reft : ∀ {L : List (Addr × List Key)} {us : List Value}, Vals (L.map fun p => V.ref p.1) us → us = L.map fun p => Value.ref p.1
  | [], _, .nil => rfl
  | p :: L, _, .cons r t => by
    cases r
    rw [vals_reft t]
    rfl
theorem vals_ofref : ∀ L : List (Addr × List Key), Vals (L.map fun p => V.ref p.1) (L.map fun p => Value.ref p.1)
  | [] => .nil
  | p :: L => .cons rfl (vals_ofref L)
theorem pe_sortSetK {X : Cx} {a : Expr} {ta : TE} {p p2 q pos : Pos} (hc : X.calm = true) (hu : X.A.units + 64 < cLine) (hg : Gl X "sorted") (hm : X.mg "sorted" = none) (hg2 : Gl X "set") (hm2 : X.mg "set" = none) (ha : PE X a ta)
    (na : starEach [a] X.env = (false, eval a X.env) :: starEach [] X.env := by rfl) : PE X (.Call (.Name "sorted" p) [.Call (.Name "set" p2) [a] [] q] [] pos) (tCB (rSK X.K) (tCons ta tNil)) := by
  refine ⟨fun pins s σ H Q I h => ?_⟩
  refine Call_ (ld_blt I hg hm (show bootBuiltins "sorted" = some (.builtin "sorted") by decide +kernel) ?_)
  refine PyProof.Rows.callWith_builtin1 (PyProof.Rows.args_cons ?_ rfl) rfl rfl
  refine Call_ (ld_blt I hg2 hm2 (show bootBuiltins "set" = some (.type "set") by decide +kernel) ?_)
  refine PyProof.Rows.callWith_type1 (PyProof.Rows.args_cons (thn (ha.run pins s σ H _ I h) fun v s1 ⟨x, H1, I1, r1, q1⟩ => PyProof.Rows.args_nil ?_) na) na rfl
  obtain ⟨l, L, b, sh, ex, hq, hk, hsh, h64, q1⟩ := q1
  have ex : x = .ref l := (List.cons.inj ex).1
  subst ex
  cases r1
  have hh := I1.ok.hd hc
  obtain ⟨its, r, pl, hz⟩ := I1.list hq
  have rk : ∀ p ∈ L, RK X.prog X.w s1.heap p.2 p.1 := fun p hp => by
    obtain ⟨its, r, ⟨o, ho, hc, n, hd⟩, _⟩ := I1.tuple (hk p hp)
    exact ⟨o, its.toArray, n, ho, hc, hd, by simpa using vals_items r⟩
  refine rk_set L hh (by omega) pl.isList (by simpa using vals_reft r) rk h64 fun h' k T old => ?_
  have I2 : L2.Inv X pins σ H1 { s1 with heap := h', toks := k } := I1.kept old
  refine PyProof.Rows.args_nil (rk_sorted (s := { s1 with heap := h', toks := k }) hh T hsh fun s' R L' ep sub eq hsz hL old2 hg ho => ?_)
  rw [List.take_length] at eq
  have hl : (L'.map fun p => V.ref p.1).length ≤ sizeLine := by
    have e1 : L'.length = (L'.map (·.2)).length := by rw [List.length_map]
    have e2 := setK_len (L.map (·.2))
    rw [← eq, ← e1, List.length_map] at e2
    rw [List.length_map, sizeLine_eq]
    omega
  have I3 : L2.Inv X pins σ (upd H1 R (.lst (L'.map fun p => V.ref p.1))) { { s1 with heap := h', toks := k } with heap := s'.heap, toks := k } :=
    I2.laid old2 hsz (show ObjOk X.prog X.w _ _ _ (.lst (L'.map fun p => V.ref p.1)) from ⟨hl, L'.map (fun p => Value.ref p.1), ep, vals_ofref L', hL⟩)
  refine ⟨.ref R, _, Inv.drawn I3 ?_ ho, rfl, q1 R L' (I2.hok.fresh hsz) sub eq⟩
  exact hg
variable [TabsC]
/-- a text or an int of data -/
def keyOf? : D → Option Key
  | .int i => some (.inl i)
  | .str x => some (.inr x)
  | _ => none
def partsK : List D → Option (List Key)
  | [] => some []
  | d :: ds => (keyOf? d).bind fun k => (partsK ds).map (k :: ·)
def rowKey : D → Option (List Key)
  | .tuple ds => partsK ds
  | _ => none
def rowsK : List D → Option (List (List Key))
  | [] => some []
  | d :: ds => (rowKey d).bind fun k => (rowsK ds).map (k :: ·)
def rowT (k : List Key) : D := .tuple (k.map kD)
def oneShape : List (List Key) → Bool
  | [] => true
  | k :: r => !k.isEmpty && r.all fun j => decide (j.map isR = k.map isR)
def dSortSetK : D → Option D
  | .list ds => (rowsK ds).bind fun ks => if ks.length < 64 ∧ oneShape ks = true then some (.list ((setK ks).map rowT)) else none
  | _ => none
theorem partsK_eq : ∀ {ds : List D} {k : List Key}, partsK ds = some k → ds = k.map kD
  | [], _, h => by cases h; rfl
  | d :: ds, k, h => by
    unfold partsK at h
    cases d with
    | int i =>
      cases q : partsK ds with
      | none => rw [q] at h; cases h
      | some r => rw [q] at h; cases h; rw [partsK_eq q]; rfl
    | str x =>
      cases q : partsK ds with
      | none => rw [q] at h; cases h
      | some r => rw [q] at h; cases h; rw [partsK_eq q]; rfl
    | _ => cases h
theorem rowsK_eq : ∀ {ds : List D} {ks : List (List Key)}, rowsK ds = some ks → ds = ks.map rowT
  | [], _, h => by cases h; rfl
  | d :: ds, ks, h => by
    unfold rowsK at h
    cases d with
    | tuple es =>
      cases q : partsK es with
      | none => rw [show rowKey (.tuple es) = partsK es from rfl, q] at h; cases h
      | some k =>
        rw [show rowKey (.tuple es) = partsK es from rfl, q] at h
        cases q2 : rowsK ds with
        | none => rw [q2] at h; cases h
        | some r =>
          rw [q2] at h
          cases h
          rw [rowsK_eq q2, partsK_eq q]
          rfl
    | _ => cases h
section
variable {F : Fam} {K : PySem.W.Frag}
theorem mna_parts {H : Hp} : ∀ {k : List Key} {xs : List V}, MnA K H (k.map kD) xs → xs = k.map kV
  | [], xs, h => by
    simp only [MnA, List.map_nil] at h
    exact h
  | q :: k, xs, h => by
    simp only [MnA, List.map_cons] at h
    obtain ⟨v, r, rfl, h1, h2⟩ := h
    rw [mna_parts h2, List.map_cons]
    cases q with
    | inl i => simp only [kD, Mn] at h1; rw [h1]; rfl
    | inr x => simp only [kD, Mn] at h1; rw [h1]; rfl
theorem mna_ofparts {H : Hp} : ∀ k : List Key, MnA K H (k.map kD) (k.map kV)
  | [] => by simp [MnA]
  | q :: k => by
    simp only [MnA, List.map_cons]
    refine ⟨kV q, k.map kV, rfl, ?_, mna_ofparts k⟩
    cases q <;> simp [kD, kV, Mn]
theorem mna_rows {H : Hp} : ∀ {ks : List (List Key)} {xs : List V}, MnA K H (ks.map rowT) xs → ∃ L : List (Addr × List Key), L.map (·.2) = ks ∧ xs = L.map (fun p => V.ref p.1) ∧ ∀ p ∈ L, SqT K H p.1 (p.2.map kV)
  | [], xs, h => by
    simp only [MnA, List.map_nil] at h
    exact ⟨[], rfl, h, fun p hp => nomatch hp⟩
  | k :: ks, xs, h => by
    simp only [MnA, List.map_cons] at h
    obtain ⟨v, r, rfl, h1, h2⟩ := h
    obtain ⟨L, e1, e2, e3⟩ := mna_rows h2
    unfold rowT at h1
    simp only [Mn] at h1
    obtain ⟨a, vs, rfl, h3, h4⟩ := h1
    have := mna_parts h4
    subst this
    refine ⟨(a, k) :: L, by rw [List.map_cons, e1], by rw [List.map_cons, e2], fun p hp => ?_⟩
    rcases List.mem_cons.mp hp with rfl | hp
    · exact h3
    · exact e3 p hp
theorem mna_back {H : Hp} : ∀ {L : List (Addr × List Key)}, (∀ p ∈ L, SqT K H p.1 (p.2.map kV)) → MnA K H ((L.map (·.2)).map rowT) (L.map fun p => V.ref p.1)
  | [], _ => by simp [MnA]
  | p :: L, h => by
    simp only [MnA, List.map_cons]
    refine ⟨.ref p.1, L.map fun p => V.ref p.1, rfl, ?_, mna_back fun q hq => h q (List.mem_cons_of_mem _ hq)⟩
    unfold rowT
    simp only [Mn]
    exact ⟨p.1, p.2.map kV, rfl, h p List.mem_cons_self, mna_ofparts _⟩
theorem calls_sortSetK : CallS K .au (rSK K) (f1 dSortSetK) := fun hid H ds z vs Q k rs hf q => by
  match ds, hf with
  | [d], hf =>
    obtain ⟨v, rfl, r⟩ := rma1 rs
    have hf : dSortSetK d = some z := hf
    cases d with
    | list ds =>
      have hf : ((rowsK ds).bind fun ks => if ks.length < 64 ∧ oneShape ks = true then some (PyData.list ((setK ks).map rowT)) else none) = some z := hf
      cases hb : rowsK ds with
      | none => rw [hb] at hf; cases hf
      | some ks =>
        rw [hb] at hf
        have hf : (if ks.length < 64 ∧ oneShape ks = true then some (PyData.list ((setK ks).map rowT)) else none) = some z := hf
        split at hf
        · rename_i hc
          cases hf
          obtain ⟨a, xs, rfl, h1, h2⟩ := bo_list r
          rw [rowsK_eq hb] at h2
          obtain ⟨L, e1, rfl, e3⟩ := mna_rows h2
          obtain ⟨b, sh, hs⟩ : ∃ b sh, ∀ k ∈ ks, k.map isR = b :: sh := by
            cases ks with
            | nil => exact ⟨true, [], fun k h => nomatch h⟩
            | cons k r =>
              have c := hc.2
              unfold oneShape at c
              rw [Bool.and_eq_true, List.all_eq_true] at c
              cases k with
              | nil => exact absurd c.1 (by decide)
              | cons x k =>
                refine ⟨isR x, k.map isR, fun j hj => ?_⟩
                rcases List.mem_cons.mp hj with rfl | hj
                · rfl
                · exact of_decide_eq_true (c.2 j hj)
          refine ⟨a, L, b, sh, rfl, SqL.of h1, fun p hp => Evl.ex_t hide_ex (e3 p hp), fun p hp => hs _ (by rw [← e1]; exact List.mem_map.mpr ⟨p, hp, rfl⟩), by rw [← e1, List.length_map] at hc; exact hc.1, fun p L' hp sub eq => ?_⟩
          refine q _ _ (Ex.new hp) (au_list hp ?_)
          rw [← e1, ← eq]
          exact mna_back fun q hq => e3 q (sub q hq)
        · cases hf
    | tuple ds => cases hf
    | str x => cases hf
    | dict ps => cases hf
    | none => cases hf
    | bool _ => cases hf
    | int _ => cases hf
theorem de_sortSetK {ma : Md} {e : Expr} {g : GE} {p p2 q pos : Pos} (hm : F.mg "sorted" = none) (hm2 : F.mg "set" = none) (h : DE F ma e g) (hg : F.sn.lookup ("sorted" : Str) = some .globalImplicit := by rfl) (hg2 : F.sn.lookup ("set" : Str) = some .globalImplicit := by rfl)
    (he : ∀ env, starEach [e] env = (false, eval e env) :: starEach [] env := by intro _; rfl) (hc : F.hot = false := by rfl) : DE F .au (.Call (.Name "sorted" p) [.Call (.Name "set" p2) [e] [] q] [] pos) (eCl (f1 dSortSetK) (aCons g aNil)) := by
  obtain ⟨te, h1, h2⟩ := de_any h
  refine ⟨tCB (rSK F.K) (tCons te tNil), fun i => ?_, sem_cl (sem_cons h2 sem_nil) calls_sortSetK⟩
  have z := pe_sortSetK (p := p) (p2 := p2) (q := q) (pos := pos) (F.calm hc i) (by have := units120 i; omega) (gl_of hg i) (by rw [F.hmg]; exact hm) (gl_of hg2 i) (by rw [F.hmg]; exact hm2) (h1 i) (he _)
  rw [F.hK i] at z
  exact z
end
end DL
set_option Elab.async false
set_option linter.all false
set_option maxRecDepth 100000
set_option maxHeartbeats 4000000
namespace DL
open PySem PySem.Spec PyProof.Rows L2
variable [TabsC]
/-! ### what a ledger's deeds may change -/
structure ExL (as : List Addr) (H H' : Hp) : Prop where
  nt : ∀ b o, b ∉ as → H b = some o → (∀ ps, o ≠ .tbl ps) → H' b = some o
  tb : LamX.Tabs TabsC.T H → LamX.Tabs TabsC.T H'
theorem Ex.exL {as : List Addr} {H H' : Hp} (e : Ex H H') : ExL as H H' := ⟨fun b o _ h n => e.nt b o h n, e.tb⟩
theorem ExL.refl {as : List Addr} {H : Hp} : ExL as H H := ⟨fun _ _ _ h _ => h, fun h => h⟩
theorem ExL.trans {as : List Addr} {H H1 H2 : Hp} (a : ExL as H H1) (b : ExL as H1 H2) : ExL as H H2 :=
  ⟨fun x o m h n => b.nt x o m (a.nt x o m h n) n, fun h => b.tb (a.tb h)⟩
theorem ExL.mono {as bs : List Addr} {H H' : Hp} (h : ExL as H H') (s : ∀ a ∈ as, a ∈ bs) : ExL bs H H' := ⟨fun b o m e n => h.nt b o (fun z => m (s b z)) e n, h.tb⟩
theorem tabs_upd {H : Hp} {a : Addr} {o : HO} (c : IsC (H a)) (t : LamX.Tabs TabsC.T H) : LamX.Tabs TabsC.T (upd H a o) := fun q hq => by
  obtain ⟨ps, h1, h2, h3⟩ := t q hq
  refine ⟨ps, by rw [upd_ne (fun z => by rw [← z, h1] at c; exact c)]; exact h1, h2, fun pos cv hc => ?_⟩
  obtain ⟨c', e1, e2⟩ := h3 pos cv hc
  exact ⟨c', e1, by rw [upd_ne (fun z => by rw [← z, e2] at c; exact c)]; exact e2⟩
theorem ExL.upd {as : List Addr} {H : Hp} {a : Addr} {o : HO} (m : a ∈ as) (c : IsC (H a)) : ExL as H (upd H a o) :=
  ⟨fun b u n h _ => by rw [upd_ne (fun z => n (by rw [z]; exact m))]; exact h, tabs_upd c⟩
/-- the heap less some addresses -/
def less (as : List Addr) (H : Hp) : Hp := fun b => if b ∈ as then none else H b
theorem less_ex {as : List Addr} {H : Hp} : Wx (less as H) H := fun b o h => by
  unfold less at h
  split at h
  · cases h
  · exact h
theorem less_none {as : List Addr} {H : Hp} {b : Addr} (h : b ∈ as) : less as H b = none := if_pos h
theorem less_out {as : List Addr} {H : Hp} {b : Addr} (h : b ∉ as) : less as H b = H b := if_neg h
theorem less_tabs {as : List Addr} {H : Hp} (c : ∀ a ∈ as, IsC (H a)) (t : LamX.Tabs TabsC.T H) : LamX.Tabs TabsC.T (less as H) := fun q hq => by
  obtain ⟨ps, h1, h2, h3⟩ := t q hq
  have n : ∀ b o, H b = some o → ¬ IsC (some o) → b ∉ as := fun b o e z m => z (by rw [← e]; exact c b m)
  refine ⟨ps, by rw [less_out (n _ _ h1 (fun z => z))]; exact h1, h2, fun pos cv hc => ?_⟩
  obtain ⟨c', e1, e2⟩ := h3 pos cv hc
  exact ⟨c', e1, by rw [less_out (n _ _ e2 (fun z => z))]; exact e2⟩
theorem exL_of {as : List Addr} {H H' : Hp} (c : ∀ a ∈ as, IsC (H a)) (e : Ex (less as H) H') : ExL as H H' :=
  ⟨fun b o m h n => e.nt b o (by rw [less_out m]; exact h) n, fun t => e.tb (less_tabs c t)⟩
theorem ex_less {as : List Addr} {H : Hp} : Ex (less as H) H := .of less_ex
/-- one slot for the ledger -/
def ledO (k : Nat) (f : Nat → Bool) : Nat → Option Bool := fun i => if i = k then none else some (f i)
theorem ledO_one {k : Nat} {f : Nat → Bool} {j : Nat} (h : ledO k f j = none) : j = k := by
  unfold ledO at h
  split at h
  · assumption
  · cases h
structure LF (O : Nat → Option Bool) (iL : Nat) : Prop where
  at_ : O iL = none
  one : ∀ j, O j = none → j = iL
theorem lf_ledO {k : Nat} {f : Nat → Bool} : LF (ledO k f) k := ⟨if_pos rfl, fun _ h => ledO_one h⟩
/-- how the ledger goes on -/
structure StepL (K : PySem.W.Frag) (hid : List Addr) (H : Hp) (L : List Ent) (hid' : List Addr) (H' : Hp) (L' : List Ent) : Prop where
  x : ExL (addrs L) H H'
  keep : ∀ a ∈ hid, a ∉ addrs L → a ∈ hid'
  new : ∀ a ∈ hid', a ∈ hid ∨ noT (H a) = none
  knd : ∀ a ∈ hid', IsC (H' a)
  led : LedIn K hid' H' L'
  nw : ∀ a ∈ addrs L', a ∈ addrs L ∨ noT (H a) = none
section
variable {K : PySem.W.Frag} {H0 : Hp} {hid0 : List Addr} {O : Nat → Option Bool} {s : Sx} {ρ : Env}
theorem StepL.wx {hid hid' : List Addr} {H H' : Hp} {L L' : List Ent} (h : StepL K hid H L hid' H' L') (c : ∀ a ∈ addrs L, a ∈ hid) (b : Addr) (hb : b ∉ addrs L) : Wx (hide hid H) (hide hid' H') ∧ Wx (hide (b :: hid) H) (hide (b :: hid') H') := by
  have key : ∀ x o, hide hid H x = some o → hide hid' H' x = some o := fun x o hx => by
    obtain ⟨n, e, t⟩ := hide_out hx
    refine hide_at (fun z => ?_) (h.x.nt x o (fun z => n (c x z)) e t) t
    rcases h.new x z with z | z
    · exact n z
    · obtain ⟨ps, h3⟩ := noT_no z e
      exact t ps h3
  refine ⟨key, fun x o hx => ?_⟩
  obtain ⟨n, e, t⟩ := hide_out hx
  simp only [List.mem_cons, not_or] at n
  obtain ⟨n2, e2, _⟩ := hide_out (key x o (hide_at n.2 e t))
  exact hide_at (by simp only [List.mem_cons, not_or]; exact ⟨n.1, n2⟩) e2 t
theorem StepL.wx0 {hid hid' : List Addr} {H H' : Hp} {L L' : List Ent} (h : StepL K hid H L hid' H' L') (c : ∀ a ∈ addrs L, a ∈ hid) : Wx (hide hid H) (hide hid' H') := fun x o hx => by
  obtain ⟨n, e, t⟩ := hide_out hx
  refine hide_at (fun z => ?_) (h.x.nt x o (fun z => n (c x z)) e t) t
  rcases h.new x z with z | z
  · exact n z
  · obtain ⟨ps, h3⟩ := noT_no z e
    exact t ps h3
/-- the ledger that a def sees -/
structure Led (K : PySem.W.Frag) (H0 : Hp) (s : Sx) (L : List Ent) : Prop where
  li : LedIn K s.hid s.H L
  od : ∀ a ∈ addrs L, ∀ i, s.own i ≠ some a
def isMu : D → Bool
  | .list _ => true
  | _ => false
theorem Sees.ledR (S : Sees K H0 hid0 O s ρ) {iL : Nat} {l : D} (lf : LF O iL) (h : ρ[iL]? = some (some l)) : ∃ mu L, l = ledD mu L ∧ Led K H0 s L := by
  obtain ⟨mu, L, h1, h2, h3, _⟩ := S.led iL l lf.at_ h
  exact ⟨mu, L, h1, h2, h3⟩
theorem Sees.ledM (S : Sees K H0 hid0 O s ρ) {iL : Nat} {l : D} (lf : LF O iL) (h : ρ[iL]? = some (some l)) (hm : isMu l = true) : ∃ L, l = ledD true L ∧ Led K H0 s L ∧ ∀ a ∈ addrs L, noT (H0 a) = none := by
  obtain ⟨mu, L, h1, h2, h3, h4⟩ := S.led iL l lf.at_ h
  cases mu with
  | true => exact ⟨L, h1, ⟨h2, h3⟩, h4 rfl⟩
  | false => rw [h1] at hm; cases hm
theorem Sees.stepL (S : Sees K H0 hid0 O s ρ) {iL : Nat} {L L' : List Ent} {hid' : List Addr} {H' : Hp} (lf : LF O iL) (hl : iL < ρ.length) (LD : Led K H0 s L) (fr : ∀ a ∈ addrs L, noT (H0 a) = none) (st : StepL K s.hid s.H L hid' H' L') :
    Sees K H0 hid0 O { s with hid := hid', H := H' } (ρ.set iL (some (ledD true L'))) ∧ Wx (hide s.hid s.H) (hide hid' H') := by
  have fx := st.wx0 LD.li.hd
  have ne : ∀ j b, O j = some b → iL ≠ j := fun j b h z => by rw [← z, lf.at_] at h; cases h
  have own_out : ∀ i a, s.own i = some a → a ∉ addrs L := fun i a h z => LD.od a z i h
  refine ⟨⟨?_, ⟨fun b o h n => ?_, fun t => st.x.tb (S.ex0.tb t)⟩, fun a ha => ?_, st.knd, S.dom0, S.tb0, fun j d h1 h2 => ?_, fun j d h1 h2 => ?_, fun i a h => ?_, S.inj, fun j d h1 h2 => ?_⟩, fx⟩
  · show s.σ.length = _
    rw [List.length_set]
    exact S.len
  · have e := S.ex0.nt b o h n
    refine st.x.nt b o (fun z => ?_) e n
    obtain ⟨ps, h3⟩ := noT_no (fr b z) h
    exact n ps h3
  · exact st.keep a (S.sub a ha) fun z => S.dom0 a ha (fr a z)
  · rw [List.getElem?_set_ne (ne j _ h1)] at h2
    obtain ⟨v, q1, q2⟩ := S.fz j d h1 h2
    exact ⟨v, q1, Mn.mono fx d v q2⟩
  · rw [List.getElem?_set_ne (ne j _ h1)] at h2
    obtain ⟨a, q1, q2, q3⟩ := S.ow j d h1 h2
    refine ⟨a, q1, q2, ?_⟩
    have na := own_out j a q2
    have w := (st.wx LD.li.hd a na).2
    show OwnAt K hid' H' a d
    cases d with
    | list ds => obtain ⟨xs, z1, z2⟩ := q3; exact ⟨xs, st.x.nt a _ na z1 (fun ps z => nomatch z), MnA.mono w ds xs z2⟩
    | dict ps => obtain ⟨xs, z1, z2⟩ := q3; exact ⟨xs, st.x.nt a _ na z1 (fun ps z => nomatch z), MnK.mono w ps xs z2⟩
    | none => exact q3.elim
    | bool _ => exact q3.elim
    | int _ => exact q3.elim
    | str _ => exact q3.elim
    | tuple _ => exact q3.elim
  · exact ⟨st.keep a (S.oh i a h).1 (own_out i a h), (S.oh i a h).2⟩
  · have e := lf.one j h1
    subst e
    rw [List.getElem?_set_self hl] at h2
    cases h2
    refine ⟨true, L', rfl, st.led, fun a ha i hi => ?_, fun _ a ha => ?_⟩
    · rcases st.nw a ha with z | z
      · exact LD.od a z i hi
      · exact S.dom a (S.oh i a hi).1 z
    · rcases st.nw a ha with z | z
      · exact fr a z
      · exact fresh_back S.ex0 z
end
/-! ### entries -/
def lookE (l : D) (o : D) : Option (List D) := match o with
  | .dict [(.bool true, .int i)] => (match l with
    | .list es => es.findSome? fun e => match e with
      | .tuple (.int j :: r) => if j = i then some r else none
      | _ => none
    | .tuple es => es.findSome? fun e => match e with
      | .tuple (.int j :: r) => if j = i then some r else none
      | _ => none
    | _ => none)
  | _ => none
theorem mn_exc {K : PySem.W.Frag} {H : Hp} {i : Int} {v : V} (h : Mn K H (.dict [(.bool true, .int i)]) v) : ∃ a : Addr, v = .ref a ∧ i = (a : Nat) := by
  simp only [Mn] at h
  rcases h with ⟨a', kvs, _, _, h3⟩ | ⟨a', ns, _, _, h3⟩ | ⟨a', e1, h3⟩ | ⟨f, c, q, _, _, h3⟩ | ⟨a', o', L', _, _, _, _, _, h3⟩
  · simp only [MnK] at h3
    obtain ⟨q', _, _, _, hk, _⟩ := h3
    cases q' <;> simp [kD] at hk
  · simp at h3
  · simp at h3
    exact ⟨a', e1, h3⟩
  · simp at h3
  · simp at h3
theorem lookE_led {mu : Bool} {L : List Ent} {o : D} {r : List D} (h : lookE (ledD mu L) o = some r) : ∃ a : Addr, o = excD a ∧ ∃ e ∈ L, e.d = .tuple (.int (a : Nat) :: r) := by
  unfold lookE at h
  split at h
  · rename_i i
    have key : ∀ L : List Ent, ((L.map Ent.d).findSome? fun e => match e with
        | .tuple (.int j :: r) => if j = i then some r else none
        | _ => none) = some r → ∃ a : Addr, PyData.dict [(.bool true, .int i)] = excD a ∧ ∃ e ∈ L, e.d = .tuple (.int (a : Nat) :: r) := fun L h => by
      obtain ⟨e, he, h⟩ := List.exists_of_findSome?_eq_some h
      obtain ⟨e, hin, rfl⟩ := List.mem_map.mp he
      cases e with
      | ob a tl p ts x =>
        simp only [Ent.d] at h
        split at h
        · rename_i z
          cases h
          exact ⟨a, by unfold excD; rw [z], Ent.ob a tl p ts x, hin, rfl⟩
        · cases h
      | di a ps =>
        cases h
    cases mu with
    | true => exact key L h
    | false => exact key L h
  · cases h
end DL
set_option Elab.async false
set_option linter.all false
set_option maxRecDepth 100000
set_option maxHeartbeats 4000000
namespace DL
open PySem PySem.Spec PyProof.Rows L2
variable [TabsC]
/-! ### the intake's class, its fields -/
structure IntC (K : PySem.W.Frag) : Prop where
  cls : Cls K (iC K)
  na : ∀ f ∈ (["plan", "texts", "rest"] : List Str), NoAttr K (iC K) f
def eFld (iL k : Nat) (go : GE) : GE := fun ρ => (go ρ).bind fun o => match ρ[iL]? with
  | some (some l) => (match lookE l o with
    | some [p, ts, r] => .ok (if k = 0 then p else if k = 1 then ts else r)
    | _ => .stuck)
  | _ => .stuck
theorem exc_ref {K : PySem.W.Frag} {H : Hp} {a : Addr} {v : V} (h : Mn K H (excD a) v) : v = .ref a := by
  obtain ⟨a', z1, z2⟩ := mn_exc (show Mn K H (.dict [(.bool true, .int (a : Nat))]) v from h)
  have : a' = a := Int.ofNat.inj z2.symm
  rw [z1, this]
theorem ent_ob {a : Addr} {p ts r : D} : ∀ {e : Ent}, e.d = .tuple [.int (a : Nat), p, ts, r] → ∃ tl xs x, e = .ob a tl p xs x ∧ ts = .list (xs.map .str) ∧ r = .str x
  | .ob a' tl p' xs x, h => by
    simp only [Ent.d, PyData.tuple.injEq, List.cons.injEq, PyData.int.injEq, and_true] at h
    obtain ⟨h1, h2, h3, h4⟩ := h
    have : a' = a := Int.ofNat.inj h1
    exact ⟨tl, xs, x, by rw [this, h2], h3.symm, h4.symm⟩
  | .di a' ps, h => by
    simp [Ent.d] at h
section
variable {F : Fam}
theorem sem_fld {iL k : Nat} {f : Str} {te : TE} {go : GE} (lf : LF F.O iL) (C : IntC F.K) (hk : (k = 0 ∧ f = "plan") ∨ (k = 1 ∧ f = "texts") ∨ (k = 2 ∧ f = "rest")) (h : SemE F .fz te go) : SemE F .bo (tFld F.K te f) (eFld iL k go) := fun H0 hid0 s ρ S Q q => by
  refine h H0 hid0 s ρ S _ ?_
  unfold eFld at q
  cases ho : go ρ with
  | stuck => rw [ho] at q; exact q.elim
  | err c => rw [ho, bind_err] at q; exact q
  | ok o =>
    rw [ho, bind_ok] at q
    intro v H' e r
    cases hl : ρ[iL]? with
    | none => rw [hl] at q; exact q.elim
    | some l0 =>
      cases l0 with
      | none => rw [hl] at q; exact q.elim
      | some l =>
        rw [hl] at q
        dsimp only at q
        cases hx : lookE l o with
        | none => rw [hx] at q; exact q.elim
        | some r0 =>
          rw [hx] at q
          rcases r0 with _ | ⟨p, _ | ⟨ts, _ | ⟨x, _ | ⟨y, t⟩⟩⟩⟩
          · exact q.elim
          · exact q.elim
          · exact q.elim
          · dsimp only at q
            obtain ⟨mu, L, rfl, LD⟩ := (S.ext e).ledR lf hl
            obtain ⟨a, rfl, e0, he, hd⟩ := lookE_led hx
            obtain ⟨tl, xs, x', rfl, rfl, rfl⟩ := ent_ob hd
            obtain ⟨dx, pv, h1, h2, h3⟩ := LD.li.ok _ he
            have h1 : H' a = some (.ins (iC F.K) dx [("plan", pv), ("texts", .ref tl), ("rest", .str x')]) := h1
            have h2 : H' tl = some (.lst (xs.map .str)) := h2
            have ev : v = .ref a := exc_ref r
            subst ev
            rcases hk with ⟨rfl, rfl⟩ | ⟨rfl, rfl⟩ | ⟨rfl, rfl⟩
            · exact ⟨a, iC F.K, dx, _, pv, rfl, h1, C.cls, C.na _ (by simp), rfl, q _ H' e (.inl h3)⟩
            · exact ⟨a, iC F.K, dx, _, .ref tl, rfl, h1, C.cls, C.na _ (by simp), rfl, q _ H' e (.inr ⟨tl, rfl, _, h2, MnA.of_strs⟩)⟩
            · exact ⟨a, iC F.K, dx, _, .str x', rfl, h1, C.cls, C.na _ (by simp), rfl, q _ H' e rm_str⟩
          · exact q.elim
theorem de_fld {iL k : Nat} {f : Str} {e : Expr} {go : GE} {pos : Pos} (lf : LF F.O iL) (C : IntC F.K) (hk : (k = 0 ∧ f = "plan") ∨ (k = 1 ∧ f = "texts") ∨ (k = 2 ∧ f = "rest")) (h : DE F .fz e go) (hb : ∀ env, attributeBase e f env (eval e env) = eval e env := by intro _; rfl) : DE F .bo (.Attribute e f pos) (eFld iL k go) := by
  obtain ⟨te, pe, se⟩ := h
  exact ⟨_, fun i => by have z := pe_fld (f := f) (pos := pos) (pe i) (hb _); rw [F.hK i] at z; exact z, sem_fld lf C hk se⟩
/-- the text that waits, the plan: no list of a name's own -/
theorem sem_fldF {iL k : Nat} {f : Str} {te : TE} {go : GE} (lf : LF F.O iL) (C : IntC F.K) (hk : (k = 0 ∧ f = "plan") ∨ (k = 2 ∧ f = "rest")) (h : SemE F .fz te go) : SemE F .fz (tFld F.K te f) (eFld iL k go) := fun H0 hid0 s ρ S Q q => by
  refine h H0 hid0 s ρ S _ ?_
  unfold eFld at q
  cases ho : go ρ with
  | stuck => rw [ho] at q; exact q.elim
  | err c => rw [ho, bind_err] at q; exact q
  | ok o =>
    rw [ho, bind_ok] at q
    intro v H' e r
    cases hl : ρ[iL]? with
    | none => rw [hl] at q; exact q.elim
    | some l0 =>
      cases l0 with
      | none => rw [hl] at q; exact q.elim
      | some l =>
        rw [hl] at q
        dsimp only at q
        cases hx : lookE l o with
        | none => rw [hx] at q; exact q.elim
        | some r0 =>
          rw [hx] at q
          rcases r0 with _ | ⟨p, _ | ⟨ts, _ | ⟨x, _ | ⟨y, t⟩⟩⟩⟩
          · exact q.elim
          · exact q.elim
          · exact q.elim
          · dsimp only at q
            obtain ⟨mu, L, rfl, LD⟩ := (S.ext e).ledR lf hl
            obtain ⟨a, rfl, e0, he, hd⟩ := lookE_led hx
            obtain ⟨tl, xs, x', rfl, rfl, rfl⟩ := ent_ob hd
            obtain ⟨dx, pv, h1, h2, h3⟩ := LD.li.ok _ he
            have h1 : H' a = some (.ins (iC F.K) dx [("plan", pv), ("texts", .ref tl), ("rest", .str x')]) := h1
            have ev : v = .ref a := exc_ref r
            subst ev
            rcases hk with ⟨rfl, rfl⟩ | ⟨rfl, rfl⟩
            · exact ⟨a, iC F.K, dx, _, pv, rfl, h1, C.cls, C.na _ (by simp), rfl, q _ H' e h3⟩
            · exact ⟨a, iC F.K, dx, _, .str x', rfl, h1, C.cls, C.na _ (by simp), rfl, q _ H' e rm_str⟩
          · exact q.elim
theorem de_fldF {iL k : Nat} {f : Str} {e : Expr} {go : GE} {pos : Pos} (lf : LF F.O iL) (C : IntC F.K) (hk : (k = 0 ∧ f = "plan") ∨ (k = 2 ∧ f = "rest")) (h : DE F .fz e go) (hb : ∀ env, attributeBase e f env (eval e env) = eval e env := by intro _; rfl) : DE F .fz (.Attribute e f pos) (eFld iL k go) := by
  obtain ⟨te, pe, se⟩ := h
  exact ⟨_, fun i => by have z := pe_fld (f := f) (pos := pos) (pe i) (hb _); rw [F.hK i] at z; exact z, sem_fldF lf C hk se⟩
end
theorem FnD.alias {P : Program} {w : World} {K : PySem.W.Frag} {mg : Str → Option Value} {base : Heap} {cl : Nat → Value} {x y : Str} {n k : Nat} {m : Md} {f : List D → Out D} (h : FnD P w K mg base cl x n m k f) (e : mg y = mg x) : FnD P w K mg base cl y n m k f := by
  obtain ⟨fa, fd, ps, h1, h2, h3, h4⟩ := h.ex
  exact ⟨⟨fa, fd, ps, h1, e.trans h2, h3, h4⟩, h.ln⟩
/-! ### what only reads: its promise -/
def frzL : D → D
  | .list es => .tuple es
  | d => d
theorem frzL_led {mu : Bool} {L : List Ent} : frzL (ledD mu L) = ledD false L := by cases mu <;> rfl
def spR (K : PySem.W.Frag) (cl : Nat → Value) (n : Nat) (m : Md) (f : List D → D → Out D) : Sp := fun vs H Q E => vs.length = n ∧ LamX.Tabs TabsC.T H ∧ ∃ (hid : List Addr) (ds : List D) (L : List Ent), (∀ a ∈ hid, IsC (H a)) ∧ MnA K (hide hid H) ds vs ∧ LedIn K hid H L ∧ WF K cl m hid H Q E (f ds (ledD false L))
/-- a method that only reads -/
structure FnR (P : Program) (w : World) (K : PySem.W.Frag) (mg : Str → Option Value) (base : Heap) (cl : Nat → Value) (x : Str) (n : Nat) (m : Md) (k : Nat) (f : List D → D → Out D) : Prop where
  ex : ∃ (fa : Addr) (fd : FuncData) (ps : List Str), FnOk P w K mg base (L2N.CX P w) k fa fd ps (spR K cl n m f) ∧ Meth K (iC K) x fa ∧ L2.Binds K fd ps []
  ln : ∀ ds l, ds.length ≠ n → f ds l = .stuck
/-- a def that only reads -/
structure FnRf (P : Program) (w : World) (K : PySem.W.Frag) (mg : Str → Option Value) (base : Heap) (cl : Nat → Value) (x : Str) (n : Nat) (m : Md) (k : Nat) (f : List D → D → Out D) : Prop where
  ex : ∃ (fa : Addr) (fd : FuncData) (ps : List Str), FnOk P w K mg base (L2N.CX P w) k fa fd ps (spR K cl n m f) ∧ mg x = some (.ref fa) ∧ PySem.W.keepIn K (.ref fa) = true ∧ L2.Binds K fd ps []
  ln : ∀ ds l, ds.length ≠ n → f ds l = .stuck
def isOb (l o : D) : Bool := match lookE l o with
  | some [_, _, _] => true
  | _ => false
theorem isOb_at {K : PySem.W.Frag} {H0 : Hp} {s : Sx} {mu : Bool} {L : List Ent} {o : D} (LD : Led K H0 s L) (h : isOb (ledD mu L) o = true) : ∃ a tl p xs x, o = excD a ∧ Ent.ob a tl p xs x ∈ L ∧ ∃ dx pv, s.H a = some (.ins (iC K) dx [("plan", pv), ("texts", .ref tl), ("rest", .str x)]) := by
  unfold isOb at h
  split at h
  · rename_i p ts r hx
    obtain ⟨a, rfl, e0, he, hd⟩ := lookE_led hx
    obtain ⟨tl, xs, x', rfl, rfl, rfl⟩ := ent_ob hd
    obtain ⟨dx, pv, h1, h2, h3⟩ := LD.li.ok _ he
    exact ⟨a, tl, p, xs, x', rfl, he, dx, pv, h1⟩
  · cases h
def eMR (iL : Nat) (f : List D → D → Out D) (go : GE) (ga : GA) : GE := fun ρ => (go ρ).bind fun o => match ρ[iL]? with
  | some (some l) => if isOb l o then (ga ρ).bind fun ds => f (o :: ds) (frzL l) else .stuck
  | _ => .stuck
def eCR (iL : Nat) (f : List D → D → Out D) (ga : GA) : GE := fun ρ => (ga ρ).bind fun ds => match ρ[iL]? with
  | some (some l) => f ds (frzL l)
  | _ => .stuck
section
variable {F : Fam}
theorem sem_mr {iL n k : Nat} {x : Str} {m : Md} {f : List D → D → Out D} {te : TE} {ta : TA} {go : GE} {ga : GA} (lf : LF F.O iL) (R : FnR F.P F.w F.K F.mg F.base F.cl x n m k f) (hx : ∀ a b c : V, ([("plan", a), ("texts", b), ("rest", c)] : List (Str × V)).lookup x = none) (h : SemE F .fz te go) (ha : SemA F .fz ta ga) :
    SemE F m (tMeth (iC F.K) x (spR F.K F.cl n m f) [] F.E te ta) (eMR iL f go ga) := fun H0 hid0 s ρ S Q q => by
  refine h H0 hid0 s ρ S _ ?_
  unfold eMR at q
  cases ho : go ρ with
  | stuck => rw [ho] at q; exact q.elim
  | err c => rw [ho, bind_err] at q; exact q
  | ok o =>
    rw [ho, bind_ok] at q
    intro v H1 e1 r1
    cases hl : ρ[iL]? with
    | none => rw [hl] at q; exact q.elim
    | some l0 =>
      cases l0 with
      | none => rw [hl] at q; exact q.elim
      | some l =>
        rw [hl] at q
        dsimp only at q
        by_cases hob : isOb l o = true
        case neg => rw [if_neg hob] at q; exact q.elim
        rw [if_pos hob] at q
        obtain ⟨mu, L, rfl, LD⟩ := (S.ext e1).ledR lf hl
        obtain ⟨a, tl, p, xs, x', rfl, he, dx, pv, h1⟩ := isOb_at LD hob
        have ev := exc_ref r1
        subst ev
        refine ⟨a, dx, _, rfl, h1, hx _ _ _, ha H0 hid0 { s with H := H1 } ρ (S.ext e1) _ ?_⟩
        cases hg : ga ρ with
        | stuck => rw [hg] at q; exact q.elim
        | err c => rw [hg, bind_err] at q; exact fun H' e => q H' (e1.trans e)
        | ok ds =>
          rw [hg, bind_ok, frzL_led] at q
          intro vs H2 e2 r2
          rw [List.append_nil]
          have mn : MnA F.K (hide s.hid H2) (excD a :: ds) (.ref a :: vs) := by
            simp only [MnA]
            exact ⟨_, _, rfl, Mn.mono (hide_mono e2) _ _ r1, rma_mn r2⟩
          refine ⟨?_, ((S.ex0.trans e1).trans e2).tb S.tb0, s.hid, excD a :: ds, L, knd_ex (e1.trans e2) S.knd, mn, LD.li.ext e2, ?_⟩
          · rw [mn.length]
            exact Classical.byContradiction fun z => by rw [R.ln _ _ z] at q; exact q
          · cases hf : f (excD a :: ds) (ledD false L) with
            | stuck => rw [hf] at q; exact q.elim
            | err c => rw [hf] at q; exact fun H' e => q H' ((e1.trans e2).trans e)
            | ok d => rw [hf] at q; exact fun v H' e r => q v H' ((e1.trans e2).trans e) (rm_back (e1.trans e2) r)
theorem de_mr0 {iL n k : Nat} {x : Str} {m : Md} {f : List D → D → Out D} {e : Expr} {go : GE} {apos pos : Pos} {pl : PySem.Env → Sem Bool} (lf : LF F.O iL) (C : IntC F.K) (R : FnR F.P F.w F.K F.mg F.base F.cl x n m k f) (hk : k ≤ F.lv) (h : DE F .fz e go) (hx : ∀ a b c : V, ([("plan", a), ("texts", b), ("rest", c)] : List (Str × V)).lookup x = none := by intro _ _ _; rfl)
    (ht : ∀ env, eval (.Call (.Attribute e x apos) [] [] pos) env = (do
      let ov ← eval e env
      standAt apos.atName
      let (f, first) ← holding [ov] (getMethod ov x (pl env))
      callWith pos f first (backTo pos (starEach [] env)) (backToKw pos (keywordEach [] env))) := by intro _; rfl) (hh : F.hot = false := by rfl) :
    DE F m (.Call (.Attribute e x apos) [] [] pos) (eMR iL f go aNil) := by
  obtain ⟨fa, fd, ps, hF, hM, hb⟩ := R.ex
  obtain ⟨te, pe, se⟩ := h
  refine ⟨_, fun i => pe_meth0 (C := iC F.K) (pl := pl (F.X i).env) (pe i) (by rw [F.hK]; exact C.cls) (by rw [F.hK]; exact hM) (fnok_at i hF) ((F.room i).to (F.hd hh i) hk) (by rw [F.hK]; exact hb) .nil (F.pas i) (ht _), sem_mr lf R hx se sem_nil⟩
theorem de_mr {iL n k : Nat} {x : Str} {m : Md} {f : List D → D → Out D} {e e1 : Expr} {es : List Expr} {go : GE} {ga : GA} {apos pos : Pos} {pl : PySem.Env → Sem Bool} (lf : LF F.O iL) (C : IntC F.K) (R : FnR F.P F.w F.K F.mg F.base F.cl x n m k f) (hk : k ≤ F.lv) (h : DE F .fz e go) (ha : DA F .fz (e1 :: es) ga) (hx : ∀ a b c : V, ([("plan", a), ("texts", b), ("rest", c)] : List (Str × V)).lookup x = none := by intro _ _ _; rfl)
    (hst : ∀ env, starEach (e1 :: es) env = (false, eval e1 env) :: starEach es env := by intro _; rfl) (hpl : ∀ env, (backTo pos (starEach es env)).any (·.1) = false := by intro _; rfl)
    (ht : ∀ env, eval (.Call (.Attribute e x apos) (e1 :: es) [] pos) env = (do
      let ov ← eval e env
      standAt apos.atName
      let (f, first) ← holding [ov] (getMethod ov x (pl env))
      callWith pos f first (backTo pos (starEach (e1 :: es) env)) (backToKw pos (keywordEach [] env))) := by intro _; rfl) (hh : F.hot = false := by rfl) :
    DE F m (.Call (.Attribute e x apos) (e1 :: es) [] pos) (eMR iL f go ga) := by
  obtain ⟨fa, fd, ps, hF, hM, hb⟩ := R.ex
  obtain ⟨te, pe, se⟩ := h
  obtain ⟨ta, pa, sa⟩ := ha
  exact ⟨_, fun i => pe_meth (C := iC F.K) (pl := pl (F.X i).env) (pe i) (by rw [F.hK]; exact C.cls) (by rw [F.hK]; exact hM) (fnok_at i hF) ((F.room i).to (F.hd hh i) hk) (by rw [F.hK]; exact hb) .nil (F.pas i) (pa i) (hst _) (hpl _) (ht _), sem_mr lf R hx se sa⟩
/-- a def that only reads -/
theorem de_cr {iL n k : Nat} {x : Str} {m : Md} {f : List D → D → Out D} {e : Expr} {es : List Expr} {ga : GA} {p pos : Pos} (lf : LF F.O iL) (h : FnRf F.P F.w F.K F.mg F.base F.cl x n m k f) (hk : k ≤ F.lv) (ha : DA F .fz (e :: es) ga) (hg : F.sn.lookup x = some .globalImplicit := by rfl) (hdb : (x == ("__debug__" : Str)) = false := by decide)
    (he : ∀ env, starEach (e :: es) env = (false, eval e env) :: starEach es env := by intro _; rfl) (hpl : ∀ env, (backTo pos (starEach es env)).any (·.1) = false := by intro _; rfl) (hh : F.hot = false := by rfl) : DE F m (.Call (.Name x p) (e :: es) [] pos) (eCR iL f ga) := by
  obtain ⟨fa, fd, ps, hF, hm, hkp, hb⟩ := h.ex
  obtain ⟨ta, pa, sa⟩ := ha
  refine ⟨tCall (spR F.K F.cl n m f) [] F.E ta, fun i => pe_call (fnok_at i hF) ((F.room i).to (F.hd hh i) hk) (gl_of hg i) (by rw [F.hmg]; exact hm) (by rw [F.hK]; exact hkp) (by rw [F.hK]; exact hb) .nil (F.pas i) (pa i) hdb (he _) (hpl _), fun H0 hid0 s ρ S Q q => sa H0 hid0 s ρ S _ ?_⟩
  unfold eCR at q
  cases hd : ga ρ with
  | stuck => rw [hd] at q; exact q.elim
  | err c => rw [hd, bind_err] at q; exact q
  | ok ds =>
    rw [hd, bind_ok] at q
    cases hl : ρ[iL]? with
    | none => rw [hl] at q; exact q.elim
    | some l0 =>
      cases l0 with
      | none => rw [hl] at q; exact q.elim
      | some l =>
        rw [hl] at q
        dsimp only at q
        intro vs H1 e1 r1
        obtain ⟨mu, L, rfl, LD⟩ := (S.ext e1).ledR lf hl
        rw [frzL_led] at q
        have mn := rma_mn r1
        show spR F.K F.cl n m f (vs ++ []) H1 Q F.E
        rw [List.append_nil]
        refine ⟨?_, (S.ex0.trans e1).tb S.tb0, s.hid, ds, L, knd_ex e1 S.knd, mn, LD.li, ?_⟩
        · rw [mn.length]
          exact Classical.byContradiction fun z => by rw [h.ln _ _ z] at q; exact q
        · cases hf : f ds (ledD false L) with
          | stuck => rw [hf] at q; exact q.elim
          | err c => rw [hf] at q; exact fun H' e => q H' (e1.trans e)
          | ok d => rw [hf] at q; exact fun v H' e r => q v H' (e1.trans e) (rm_back e1 r)
end
end DL
set_option Elab.async false
set_option linter.all false
set_option maxRecDepth 100000
set_option maxHeartbeats 4000000
namespace DL
open PySem PySem.Spec PyProof.Rows L2
variable [TabsC]
/-! ### defs with a ledger -/
def env0L (N : Nat) (ds : List D) (l : D) : Env := env0 (N - 1) ds ++ [some l]
theorem env0_len {n : Nat} {ds : List D} (h : ds.length ≤ n) : (env0 n ds).length = n := by
  unfold env0
  rw [List.length_append, List.length_map, List.length_replicate]
  omega
theorem env0_get {n : Nat} {ds : List D} {i : Nat} {d : D} (h : (env0 n ds)[i]? = some (some d)) : ds[i]? = some d := by
  unfold env0 at h
  by_cases hi : i < ds.length
  · rw [List.getElem?_append_left (by simpa using hi), List.getElem?_map] at h
    cases q : ds[i]? with
    | none => rw [q] at h; cases h
    | some x => rw [q] at h; cases h; rfl
  · rw [List.getElem?_append_right (by simpa using hi), List.getElem?_replicate] at h
    split at h <;> cases h
theorem env0L_get {N : Nat} {ds : List D} {l d : D} {i : Nat} (hn : ds.length ≤ N - 1) (h : (env0L N ds l)[i]? = some (some d)) : (i < N - 1 ∧ ds[i]? = some d) ∨ (i = N - 1 ∧ d = l) := by
  unfold env0L at h
  by_cases hi : i < N - 1
  · rw [List.getElem?_append_left (by rw [env0_len hn]; exact hi)] at h
    exact .inl ⟨hi, env0_get h⟩
  · rw [List.getElem?_append_right (by rw [env0_len hn]; omega), env0_len hn] at h
    by_cases hz : i - (N - 1) = 0
    · rw [hz] at h
      cases h
      exact .inr ⟨by omega, rfl⟩
    · obtain ⟨k, hk⟩ : ∃ k, i - (N - 1) = k + 1 := ⟨i - (N - 1) - 1, by omega⟩
      rw [hk] at h
      simp at h
theorem sees0L {K : PySem.W.Frag} {H H0 : Hp} {hid hid0 : List Addr} {O : Nat → Option Bool} {N : List Str} {vs : List V} {ds : List D} {L : List Ent} {mu : Bool} (ex : Ex H0 H) (sub : ∀ a ∈ hid0, a ∈ hid) (dom0 : ∀ a ∈ hid0, noT (H0 a) ≠ none) (tb0 : LamX.Tabs TabsC.T H0)
    (hl : vs.length < N.length) (knd : ∀ a ∈ hid, IsC (H a)) (m : MnA K (hide hid H) ds vs) (li : LedIn K hid H L) (fr : mu = true → ∀ a ∈ addrs L, noT (H0 a) = none) (lf : LF O (N.length - 1)) (hO : ∀ i, i < vs.length → O i = some false) :
    Sees K H0 hid0 O { hid := hid, own := fun _ => none, σ := L2.start N vs, H := H } (env0L N.length ds (ledD mu L)) := by
  have e := m.length
  have hn : ds.length ≤ N.length - 1 := by omega
  refine ⟨?_, ex, sub, knd, dom0, tb0, fun i d h1 h => ?_, fun i d hO' h => ?_, fun i a h => (by cases h), fun i j a h => (by cases h), fun i d h1 h => ?_⟩
  · show (L2.start N vs).length = (env0L N.length ds (ledD mu L)).length
    unfold L2.start env0L
    rw [List.length_append, List.length_append, List.length_map, List.length_replicate, env0_len hn, List.length_singleton]
    omega
  · rcases env0L_get hn h with ⟨hi, h⟩ | ⟨hi, rfl⟩
    · obtain ⟨v, hv, mv⟩ := m.get2 h
      refine ⟨v, ?_, mv⟩
      have hi := (List.getElem?_eq_some_iff.mp hv).1
      show (L2.start N vs)[i]? = _
      unfold L2.start
      rw [List.getElem?_append_left (by simpa using hi), List.getElem?_map, hv]
      rfl
    · rw [hi, lf.at_] at h1
      cases h1
  · rcases env0L_get hn h with ⟨hi, h⟩ | ⟨hi, rfl⟩
    · have hi := (List.getElem?_eq_some_iff.mp h).1
      rw [hO i (by omega)] at hO'
      cases hO'
    · rw [hi, lf.at_] at hO'
      cases hO'
  · rcases env0L_get hn h with ⟨hi, h⟩ | ⟨hi, rfl⟩
    · have hi := (List.getElem?_eq_some_iff.mp h).1
      rw [hO i (by omega)] at h1
      cases h1
    · exact ⟨mu, L, rfl, li, fun a _ i z => (by cases z), fr⟩
def runR (N n : Nat) (g : GS) (ds : List D) (l : D) : Out D := bif ds.length == n then outD (g (env0L N ds l)) else .stuck
theorem runR_ln {N n : Nat} {g : GS} (ds : List D) (l : D) (h : ds.length ≠ n) : runR N n g ds l = .stuck := by
  unfold runR
  have : (ds.length == n) = false := by simpa using h
  rw [this]
  rfl
def endL (N : Nat) : Out Fl → Out (D × D)
  | .ok (.nx ρ) => (match ρ[N - 1]? with
    | some (some (.list es)) => .ok (.none, .list es)
    | _ => .stuck)
  | .ok (.rt (.tuple [d, l])) => .ok (d, l)
  | _ => .stuck
/-- what cannot be read alone is done; what it refuses is told by the reading, where nothing is changed -/
def runL (N n : Nat) (g : GS) (ds : List D) (l : D) : Out (D × D) := bif ds.length == n then (match outD (g (env0L N ds (frzL l))) with
  | .err c => .err c
  | _ => endL N (g (env0L N ds l))) else .stuck
theorem runL_ln {N n : Nat} {g : GS} (ds : List D) (l : D) (h : ds.length ≠ n) : runL N n g ds l = .stuck := by
  unfold runL
  have : (ds.length == n) = false := by simpa using h
  rw [this]
  rfl
def WL (K : PySem.W.Frag) (cl : Nat → Value) (hid : List Addr) (H : Hp) (L : List Ent) (Q : VK) (E : XK) : Out (D × D) → Prop
  | .ok (d, l') => ∀ v hid' H' L', l' = ledD true L' → StepL K hid H L hid' H' L' → Mn K (hide hid' H') d v → Q v H'
  | .err c => ∀ H', Ex H H' → E (cl c) none H'
  | .stuck => False
def spL (K : PySem.W.Frag) (cl : Nat → Value) (n : Nat) (f : List D → D → Out (D × D)) : Sp := fun vs H Q E => vs.length = n ∧ LamX.Tabs TabsC.T H ∧ ∃ (hid : List Addr) (ds : List D) (L : List Ent), (∀ a ∈ hid, IsC (H a)) ∧ MnA K (hide hid H) ds vs ∧ LedIn K hid H L ∧ WL K cl hid H L Q E (f ds (ledD true L))
/-- a method, a def, that changes the ledger -/
structure FnL (P : Program) (w : World) (K : PySem.W.Frag) (mg : Str → Option Value) (base : Heap) (cl : Nat → Value) (x : Str) (n : Nat) (k : Nat) (f : List D → D → Out (D × D)) : Prop where
  ex : ∃ (fa : Addr) (fd : FuncData) (ps : List Str), FnOk P w K mg base (L2N.CX P w) k fa fd ps (spL K cl n f) ∧ Meth K (iC K) x fa ∧ L2.Binds K fd ps []
  ln : ∀ ds l, ds.length ≠ n → f ds l = .stuck
structure FnLf (P : Program) (w : World) (K : PySem.W.Frag) (mg : Str → Option Value) (base : Heap) (cl : Nat → Value) (x : Str) (n : Nat) (k : Nat) (f : List D → D → Out (D × D)) : Prop where
  ex : ∃ (fa : Addr) (fd : FuncData) (ps : List Str), FnOk P w K mg base (L2N.CX P w) k fa fd ps (spL K cl n f) ∧ mg x = some (.ref fa) ∧ PySem.W.keepIn K (.ref fa) = true ∧ L2.Binds K fd ps []
  ln : ∀ ds l, ds.length ≠ n → f ds l = .stuck
section
variable {P : Program} {w : World} {K : PySem.W.Frag} {mg : Str → Option Value} {base : Heap} {cl : Nat → Value}
/-- the reading of a def's body, run as one that reads -/
theorem run_R {F : Fam} {rm : Md} {n : Nat} {g : GS} {t : TS} {vs : List V} {H : Hp} {Q : VK} {E : XK} (hK : F.K = K) (hcl : F.cl = cl) (hE : F.E = E) (sg : SemS F rm t g) (hrm : rm ≠ .bo) (lf : LF F.O (F.N.length - 1)) (hnN : n < F.N.length) (hO : (List.range n).all (fun i => F.O i == some false) = true)
    (h : spR K cl n rm (runR F.N.length n g) vs H Q E) : t { nx := fun _ H1 => Q .non H1, rt := Q } (L2.start F.N vs) H := by
  subst hK hcl hE
  obtain ⟨hl, tb, hid, ds, L, knd, m, li, q⟩ := h
  have hO' : ∀ i, i < vs.length → F.O i = some false := fun i hi => by
    rw [List.all_eq_true] at hO
    have := hO i (List.mem_range.mpr (by omega))
    simpa using this
  have S0 := sees0L (mu := false) (H0 := H) (hid0 := hid) (Ex.refl H) (fun _ h => h) (fun a h => (knd a h).ne) tb (N := F.N) (by omega) knd m li (fun z => (by cases z)) lf hO'
  refine sg H hid _ _ S0 _ ?_
  have hdl : (ds.length == n) = true := by
    have := m.length
    simp; omega
  unfold runR at q
  rw [hdl] at q
  dsimp only [cond] at q
  cases hg : g (env0L F.N.length ds (ledD false L)) with
  | stuck => rw [hg] at q; exact q.elim
  | err c => rw [hg] at q; exact fun H' e => q H' e
  | ok fl =>
    rw [hg] at q
    cases fl with
    | nx ρ' => exact fun s' e S' => q .non s'.H S'.ex0 (rm_plain rfl (by simp [Mn]))
    | rt d => exact fun v H' e r => q v H' e ((rmR_of hrm).mp r)
    | bk ρ' => exact q.elim
    | ct ρ' => exact q.elim
theorem run_L {F : Fam} {n : Nat} {g : GS} {t : TS} {vs : List V} {H : Hp} {Q : VK} {E : XK} (hK : F.K = K) (hcl : F.cl = cl) (hE : F.E = E) (sg : SemS F .bo t g) (lf : LF F.O (F.N.length - 1)) (hnN : n < F.N.length) (hO : (List.range n).all (fun i => F.O i == some false) = true)
    (h : spL K cl n (runL F.N.length n g) vs H Q E) : t { nx := fun _ H1 => Q .non H1, rt := Q } (L2.start F.N vs) H := by
  subst hK hcl hE
  obtain ⟨hl, tb, hid, ds, L, knd, m, li, q⟩ := h
  have hO' : ∀ i, i < vs.length → F.O i = some false := fun i hi => by
    rw [List.all_eq_true] at hO
    have := hO i (List.mem_range.mpr (by omega))
    simpa using this
  have hdl : (ds.length == n) = true := by
    have := m.length
    simp; omega
  unfold runL at q
  rw [hdl] at q
  dsimp only [cond] at q
  rw [frzL_led] at q
  by_cases hc : ∃ c, outD (g (env0L F.N.length ds (ledD false L))) = .err c
  · obtain ⟨c, hc⟩ := hc
    rw [hc] at q
    have S0 := sees0L (mu := false) (H0 := H) (hid0 := hid) (Ex.refl H) (fun _ h => h) (fun a h => (knd a h).ne) tb (N := F.N) (by omega) knd m li (fun z => (by cases z)) lf hO'
    refine sg H hid _ _ S0 _ ?_
    have hg : g (env0L F.N.length ds (ledD false L)) = .err c := by
      cases hg : g (env0L F.N.length ds (ledD false L)) with
      | stuck => rw [hg] at hc; cases hc
      | err c' => rw [hg] at hc; cases hc; rfl
      | ok fl =>
        rw [hg] at hc
        cases fl <;> cases hc
    rw [hg]
    exact q
  · have q : WL F.K F.cl hid H L Q F.E (endL F.N.length (g (env0L F.N.length ds (ledD true L)))) := by
      cases ho : outD (g (env0L F.N.length ds (ledD false L))) with
      | err c => exact absurd ⟨c, ho⟩ hc
      | ok d => rw [ho] at q; exact q
      | stuck => rw [ho] at q; exact q
    let hid0 := hid.filter fun a => decide (a ∉ addrs L)
    have mem0 : ∀ a, a ∈ hid0 ↔ a ∈ hid ∧ a ∉ addrs L := fun a => by
      show a ∈ hid.filter _ ↔ _
      rw [List.mem_filter, decide_eq_true_iff]
    have c0 : ∀ a ∈ addrs L, IsC (H a) := li.isC
    have S0 := sees0L (mu := true) (H0 := less (addrs L) H) (hid0 := hid0) ex_less (fun a h => ((mem0 a).mp h).1) (fun a h => by
      rw [less_out ((mem0 a).mp h).2]
      exact (knd a ((mem0 a).mp h).1).ne) (less_tabs c0 tb) (N := F.N) (by omega) knd m li (fun _ a h => by rw [less_none h]; rfl) lf hO'
    refine sg _ hid0 _ _ S0 _ ?_
    have stp : ∀ {H' : Hp} {L' : List Ent} {hx : List Addr}, Ex (less (addrs L) H) H' → LedIn F.K hx H' L' → (∀ a ∈ hid0 ++ addrs L', a ∈ hx) → (∀ a ∈ addrs L', noT (less (addrs L) H a) = none) → StepL F.K hid H L (hid0 ++ addrs L') H' L' := fun {H' L' hx} e li' sb fr => by
      have nw : ∀ a ∈ addrs L', a ∈ addrs L ∨ noT (H a) = none := fun a ha => by
        by_cases z : a ∈ addrs L
        · exact .inl z
        · have := fr a ha
          rw [less_out z] at this
          exact .inr this
      refine ⟨exL_of c0 e, fun a h1 h2 => List.mem_append.mpr (.inl ((mem0 a).mpr ⟨h1, h2⟩)), fun a h => ?_, fun a h => ?_, li'.step (fun _ _ => rfl) (hide_sub sb) (fun a h => List.mem_append.mpr (.inr h)), nw⟩
      · rcases List.mem_append.mp h with h | h
        · exact .inl ((mem0 a).mp h).1
        · rcases nw a h with z | z
          · exact .inl (li.hd a z)
          · exact .inr z
      · rcases List.mem_append.mp h with h | h
        · have c := knd a ((mem0 a).mp h).1
          have c' : IsC (less (addrs L) H a) := by rw [less_out ((mem0 a).mp h).2]; exact c
          rw [isC_ex e c']
          exact c'
        · exact li'.isC a h
    cases hg : g (env0L F.N.length ds (ledD true L)) with
    | stuck => rw [hg] at q; exact q.elim
    | err c => rw [hg] at q; exact q.elim
    | ok fl =>
      rw [hg] at q
      cases fl with
      | nx ρ' =>
        intro s' wx S'
        unfold endL at q
        dsimp only at q
        split at q
        · rename_i es hρ
          obtain ⟨L', e1, LD, fr⟩ := S'.ledM lf hρ rfl
          have sb : ∀ a ∈ hid0 ++ addrs L', a ∈ s'.hid := fun a h => by
            rcases List.mem_append.mp h with h | h
            · exact S'.sub a h
            · exact LD.li.hd a h
          exact q .non _ _ L' e1 (stp S'.ex0 LD.li sb fr) (by simp [Mn])
        · exact q.elim
      | rt d =>
        intro v H' e r
        obtain ⟨d', L', rfl, li', fr, mv⟩ := r
        exact q v _ H' L' rfl (stp e li' (fun a h => h) fr) mv
      | bk ρ' => exact q.elim
      | ct ρ' => exact q.elim
theorem fn_okR {x qual : Str} {st : Stmt} {f : Addr} {fd : FuncData} {N ps : List Str} {k n : Nat} {rm : Md} {O : Nat → Option Bool} {g : GS} (F : L2.Fun K x qual st f fd) (S : FnScope N ps (defScope st)) (hn : ps.length = n) (hnN : n < N.length) (lf : LF O (N.length - 1))
    (hO : (List.range n).all (fun i => O i == some false) = true) (hrm : rm ≠ .bo)
    (hb : ∀ (cdv : Value) (E : XK), DSs (famD P w K mg base N qual (defScope st) f cdv E cl O k S.kind S.nd) rm (defBody st) g) : FnOk P w K mg base (L2N.CX P w) (k + 1) f fd ps (spR K cl n rm (runR N.length n g)) := by
  refine okXN F S (fun vs H Q E h => by rw [hn]; exact h.1) fun cdv A outer s H vs Q E hr h => ?_
  obtain ⟨t, pt, sg⟩ := hb cdv E
  exact ⟨t, pt ⟨(A, outer, s, H), hr⟩, run_R (F := famD P w K mg base N qual (defScope st) f cdv E cl O k S.kind S.nd) rfl rfl rfl sg hrm lf hnN hO h⟩
theorem fn_okL {x qual : Str} {st : Stmt} {f : Addr} {fd : FuncData} {N ps : List Str} {k n : Nat} {O : Nat → Option Bool} {g : GS} (F : L2.Fun K x qual st f fd) (S : FnScope N ps (defScope st)) (hn : ps.length = n) (hnN : n < N.length) (lf : LF O (N.length - 1))
    (hO : (List.range n).all (fun i => O i == some false) = true)
    (hb : ∀ (cdv : Value) (E : XK), DSs (famD P w K mg base N qual (defScope st) f cdv E cl O k S.kind S.nd) .bo (defBody st) g) : FnOk P w K mg base (L2N.CX P w) (k + 1) f fd ps (spL K cl n (runL N.length n g)) := by
  refine okXN F S (fun vs H Q E h => by rw [hn]; exact h.1) fun cdv A outer s H vs Q E hr h => ?_
  obtain ⟨t, pt, sg⟩ := hb cdv E
  exact ⟨t, pt ⟨(A, outer, s, H), hr⟩, run_L (F := famD P w K mg base N qual (defScope st) f cdv E cl O k S.kind S.nd) rfl rfl rfl sg lf hnN hO h⟩
/-- .. where the code object is known: defs that make lambdas -/
theorem fn_okLC {x qual : Str} {st : Stmt} {f : Addr} {fd : FuncData} {N ps : List Str} {k n : Nat} {O : Nat → Option Bool} {g : GS} {c : Addr} (F : L2.Fun K x qual st f fd) (hc : fd.code = .ref c) (S : FnScope N ps (defScope st)) (hn : ps.length = n) (hnN : n < N.length) (lf : LF O (N.length - 1))
    (hO : (List.range n).all (fun i => O i == some false) = true)
    (hb : ∀ (E : XK), DSs (famD P w K mg base N qual (defScope st) f (.ref c) E cl O k S.kind S.nd) .bo (defBody st) g) : FnOk P w K mg base (L2N.CX P w) (k + 1) f fd ps (spL K cl n (runL N.length n g)) := by
  refine okXC F S (fun vs H Q E h => by rw [hn]; exact h.1) fun cdv ec A outer s H vs Q E hr h => ?_
  rw [hc] at ec
  subst ec
  obtain ⟨t, pt, sg⟩ := hb E
  exact ⟨t, pt ⟨(A, outer, s, H), hr⟩, run_L (F := famD P w K mg base N qual (defScope st) f (.ref c) E cl O k S.kind S.nd) rfl rfl rfl sg lf hnN hO h⟩
/-- the law itself: its ledger begins empty -/
def runW (N n : Nat) (g : GS) (ds : List D) : Out D := runR N n g ds (.list [])
theorem fn_okW {x qual : Str} {st : Stmt} {f : Addr} {fd : FuncData} {N ps : List Str} {k n : Nat} {rm : Md} {O : Nat → Option Bool} {g : GS} {c : Addr} (F : L2.Fun K x qual st f fd) (hc : fd.code = .ref c) (S : FnScope N ps (defScope st)) (hn : ps.length = n) (hnN : n < N.length) (lf : LF O (N.length - 1))
    (hO : (List.range n).all (fun i => O i == some false) = true) (hrm : rm ≠ .bo)
    (hb : ∀ (E : XK), DSs (famD P w K mg base N qual (defScope st) f (.ref c) E cl O k S.kind S.nd) rm (defBody st) g) : FnOk P w K mg base (L2N.CX P w) (k + 1) f fd ps (spD K cl n rm (runW N.length n g)) := by
  refine okXC F S (fun vs H Q E h => by rw [hn]; exact h.1) fun cdv ec A outer s H vs Q E hr h => ?_
  rw [hc] at ec
  subst ec
  obtain ⟨t, pt, sg⟩ := hb E
  refine ⟨t, pt ⟨(A, outer, s, H), hr⟩, ?_⟩
  obtain ⟨hl, tb, hid, ds, knd, m, q⟩ := h
  have hO' : ∀ i, i < vs.length → O i = some false := fun i hi => by
    rw [List.all_eq_true] at hO
    have := hO i (List.mem_range.mpr (by omega))
    simpa using this
  have S0 := sees0L (mu := true) (L := []) (H0 := H) (hid0 := hid) (O := O) (Ex.refl H) (fun _ h => h) (fun a h => (knd a h).ne) tb (N := N) (by omega) knd m ⟨fun e h => (nomatch h), List.nodup_nil, fun a h => (nomatch h)⟩ (fun _ a h => (nomatch h)) lf hO'
  refine sg H hid _ _ S0 _ ?_
  have hdl : (ds.length == n) = true := by
    have := m.length
    simp; omega
  unfold runW runR at q
  rw [hdl] at q
  dsimp only [cond] at q
  show WS _ rm H hid _ _ (g (env0L N.length ds (.list [])))
  cases hg : g (env0L N.length ds (.list [])) with
  | stuck => rw [hg] at q; exact q.elim
  | err c => rw [hg] at q; exact fun H' e => q H' e
  | ok fl =>
    rw [hg] at q
    cases fl with
    | nx ρ' => exact fun s' e S' => q .non s'.H S'.ex0 (rm_plain rfl (by simp [Mn]))
    | rt d => exact fun v H' e r => q v H' e ((rmR_of hrm).mp r)
    | bk ρ' => exact q.elim
    | ct ρ' => exact q.elim
theorem fn_okW0 {x qual : Str} {st : Stmt} {f : Addr} {fd : FuncData} {N ps : List Str} {k n : Nat} {rm : Md} {O : Nat → Option Bool} {g : GS} (F : L2.Fun K x qual st f fd) (S : FnScope N ps (defScope st)) (hn : ps.length = n) (hnN : n < N.length) (lf : LF O (N.length - 1))
    (hO : (List.range n).all (fun i => O i == some false) = true) (hrm : rm ≠ .bo)
    (hb : ∀ (cdv : Value) (E : XK), DSs (famD P w K mg base N qual (defScope st) f cdv E cl O k S.kind S.nd) rm (defBody st) g) : FnOk P w K mg base (L2N.CX P w) (k + 1) f fd ps (spD K cl n rm (runW N.length n g)) := by
  refine okXN F S (fun vs H Q E h => by rw [hn]; exact h.1) fun cdv A outer s H vs Q E hr h => ?_
  obtain ⟨t, pt, sg⟩ := hb cdv E
  refine ⟨t, pt ⟨(A, outer, s, H), hr⟩, ?_⟩
  obtain ⟨hl, tb, hid, ds, knd, m, q⟩ := h
  have hO' : ∀ i, i < vs.length → O i = some false := fun i hi => by
    rw [List.all_eq_true] at hO
    have := hO i (List.mem_range.mpr (by omega))
    simpa using this
  have S0 := sees0L (mu := true) (L := []) (H0 := H) (hid0 := hid) (O := O) (Ex.refl H) (fun _ h => h) (fun a h => (knd a h).ne) tb (N := N) (by omega) knd m ⟨fun e h => (nomatch h), List.nodup_nil, fun a h => (nomatch h)⟩ (fun _ a h => (nomatch h)) lf hO'
  refine sg H hid _ _ S0 _ ?_
  have hdl : (ds.length == n) = true := by
    have := m.length
    simp; omega
  unfold runW runR at q
  rw [hdl] at q
  dsimp only [cond] at q
  show WS _ rm H hid _ _ (g (env0L N.length ds (.list [])))
  cases hg : g (env0L N.length ds (.list [])) with
  | stuck => rw [hg] at q; exact q.elim
  | err c => rw [hg] at q; exact fun H' e => q H' e
  | ok fl =>
    rw [hg] at q
    cases fl with
    | nx ρ' => exact fun s' e S' => q .non s'.H S'.ex0 (rm_plain rfl (by simp [Mn]))
    | rt d => exact fun v H' e r => q v H' e ((rmR_of hrm).mp r)
    | bk ρ' => exact q.elim
    | ct ρ' => exact q.elim
end
end DL
set_option Elab.async false
set_option linter.all false
set_option maxRecDepth 100000
set_option maxHeartbeats 4000000
namespace DL
open PySem PySem.Spec PyProof.Rows L2
variable [TabsC]
/-! ### an entry is changed -/
theorem nd_one : ∀ {L : List Ent} {e1 e2 : Ent} {x : Addr}, (addrs L).Nodup → e1 ∈ L → e2 ∈ L → x ∈ e1.as → x ∈ e2.as → e1 = e2
  | [], _, _, _, _, h, _, _, _ => (nomatch h)
  | c :: L, e1, e2, x, nd, h1, h2, x1, x2 => by
    have nd : (c.as ++ addrs L).Nodup := nd
    obtain ⟨_, n2, n3⟩ := List.nodup_append.mp nd
    rcases List.mem_cons.mp h1 with k1 | k1
    · rcases List.mem_cons.mp h2 with k2 | k2
      · rw [k1, k2]
      · exact absurd rfl (n3 x (by rw [← k1]; exact x1) x (List.mem_flatMap.mpr ⟨e2, k2, x2⟩))
    · rcases List.mem_cons.mp h2 with k2 | k2
      · exact absurd rfl (n3 x (by rw [← k2]; exact x2) x (List.mem_flatMap.mpr ⟨e1, k1, x1⟩))
      · exact nd_one n2 k1 k2 x1 x2
def updE (a : Addr) (xs : List Str) (x : Str) : Ent → Ent
  | .ob b tl p ts r => if b = a then .ob b tl p xs x else .ob b tl p ts r
  | .di b ps => .di b ps
theorem updE_as {a : Addr} {xs : List Str} {x : Str} : ∀ e : Ent, (updE a xs x e).as = e.as
  | .ob b tl p ts r => by
    show Ent.as (if b = a then .ob b tl p xs x else .ob b tl p ts r) = _
    split <;> rfl
  | .di b ps => rfl
theorem updE_ob {a b tl : Addr} {p : D} {xs ts : List Str} {x r : Str} : updE a xs x (.ob b tl p ts r) = if b = a then .ob b tl p xs x else .ob b tl p ts r := rfl
def updL (L : List Ent) (a : Addr) (xs : List Str) (x : Str) : List Ent := L.map (updE a xs x)
theorem updL_as {a : Addr} {xs : List Str} {x : Str} : ∀ L : List Ent, addrs (updL L a xs x) = addrs L
  | [] => rfl
  | e :: L => by
    show (updE a xs x e).as ++ addrs (updL L a xs x) = e.as ++ addrs L
    rw [updE_as, updL_as L]
def setE (o ts r : D) : D → D
  | .list es => .list (es.map fun e => match e with
    | .tuple [.int j, p, t0, r0] => (match o with
      | .dict [(.bool true, .int i)] => if j = i then .tuple [.int j, p, ts, r] else .tuple [.int j, p, t0, r0]
      | _ => .tuple [.int j, p, t0, r0])
    | e => e)
  | l => l
theorem setE_led {a : Addr} {xs : List Str} {x : Str} {L : List Ent} : setE (excD a) (.list (xs.map .str)) (.str x) (ledD true L) = ledD true (updL L a xs x) := by
  show PyData.list _ = PyData.list _
  congr 1
  rw [List.map_map]
  unfold updL
  rw [List.map_map]
  refine List.map_congr_left fun e _ => ?_
  cases e with
  | ob b tl p ts r =>
    show (if ((b : Nat) : Int) = ((a : Nat) : Int) then _ else _) = Ent.d (updE a xs x (.ob b tl p ts r))
    rw [updE_ob]
    by_cases h : b = a
    · subst h
      rw [if_pos rfl, if_pos rfl]
      rfl
    · rw [if_neg h, if_neg (fun z : ((b : Nat) : Int) = ((a : Nat) : Int) => h (Int.ofNat.inj z))]
      rfl
  | di b ps => rfl
section
variable {K : PySem.W.Frag} {H0 : Hp} {hid0 : List Addr} {O : Nat → Option Bool} {s : Sx} {ρ : Env}
theorem Led.upd {L : List Ent} {a tl : Addr} {p : D} {ts : List Str} {r : Str} {xs : List Str} {x : Str} {H' : Hp} (LD : Led K H0 s L) (knd : ∀ b ∈ s.hid, IsC (s.H b)) (he : Ent.ob a tl p ts r ∈ L) (h1 : ∀ dx pv, s.H a = some (.ins (iC K) dx [("plan", pv), ("texts", .ref tl), ("rest", .str r)]) → H' a = some (.ins (iC K) dx [("plan", pv), ("texts", .ref tl), ("rest", .str x)]))
    (h2 : H' tl = some (.lst (xs.map .str))) (h3 : ∀ b, b ≠ a → b ≠ tl → H' b = s.H b) (h4 : LamX.Tabs TabsC.T s.H → LamX.Tabs TabsC.T H') : StepL K s.hid s.H L s.hid H' (updL L a xs x) := by
  obtain ⟨dx, pv, z1, z2, z3⟩ := LD.li.ok _ he
  have ma : a ∈ addrs L := List.mem_flatMap.mpr ⟨_, he, by simp [Ent.as]⟩
  have mt : tl ∈ addrs L := List.mem_flatMap.mpr ⟨_, he, by simp [Ent.as]⟩
  have out : ∀ b, b ∉ s.hid → H' b = s.H b := fun b hb => h3 b (fun z => hb (by rw [z]; exact LD.li.hd a ma)) (fun z => hb (by rw [z]; exact LD.li.hd tl mt))
  have hh : hide s.hid H' = hide s.hid s.H := by
    funext b
    unfold hide
    split
    · rfl
    · rename_i n
      rw [out b n]
  have a' := h1 dx pv z1
  refine ⟨⟨fun b o n e _ => ?_, h4⟩, fun b hb _ => hb, fun b hb => .inl hb, fun b hb => ?_, ⟨fun e' he' => ?_, by rw [updL_as]; exact LD.li.nd, fun b hb => LD.li.hd b (by rw [updL_as] at hb; exact hb)⟩, fun b hb => .inl (by rw [updL_as] at hb; exact hb)⟩
  · rw [h3 b (fun z => n (by rw [z]; exact ma)) (fun z => n (by rw [z]; exact mt))]
    exact e
  · by_cases q1 : b = a
    · rw [q1, a']; trivial
    · by_cases q2 : b = tl
      · rw [q2, h2]; trivial
      · rw [h3 b q1 q2]; exact knd b hb
  · obtain ⟨e, hin, rfl⟩ := List.mem_map.mp he'
    have ok := LD.li.ok e hin
    cases e with
    | ob b tl' p' ts' r' =>
      obtain ⟨dx', pv', y1, y2, y3⟩ := ok
      rw [updE_ob]
      by_cases q : b = a
      · rw [if_pos q]
        subst q
        have := nd_one LD.li.nd hin he (x := b) (by simp [Ent.as]) (by simp [Ent.as])
        cases this
        exact ⟨dx, pv, a', h2, by rw [hh]; exact z3⟩
      · rw [if_neg q]
        have n1 : b ≠ tl := fun z => by rw [z, z2] at y1; cases y1
        have n2 : tl' ≠ a := fun z => by rw [z, z1] at y2; cases y2
        have n3 : tl' ≠ tl := fun z => by
          have := nd_one LD.li.nd hin he (x := tl) (by simp [Ent.as, z]) (by simp [Ent.as])
          cases this
          exact q rfl
        exact ⟨dx', pv', by rw [h3 b q n1]; exact y1, by rw [h3 tl' n2 n3]; exact y2, by rw [hh]; exact y3⟩
    | di b ps =>
      obtain ⟨kvs, y1, y2⟩ := ok
      show ObOk K s.hid H' (.di b ps)
      have n1 : b ≠ tl := fun z => by rw [z, z2] at y1; cases y1
      have n2 : b ≠ a := fun z => by rw [z, z1] at y1; cases y1
      exact ⟨kvs, by rw [h3 b n2 n1]; exact y1, by rw [hh]; exact y2⟩
end
/-- what an intake holds: plan, texts, rest -/
def entE (l : Option (Option D)) (o : D) : Option (List D × D) := match l with
  | some (some (.list es)) => (match lookE (.list es) o with
    | some [_, .list ts, r] => some (ts, r)
    | _ => none)
  | _ => none
theorem entE_at {F : Fam} {H0 : Hp} {hid0 : List Addr} {s : Sx} {ρ : Env} {iL : Nat} {o : D} {ts : List D} {r : D} (S : Sees F.K H0 hid0 F.O s ρ) (lf : LF F.O iL) (h : entE ρ[iL]? o = some (ts, r)) :
    ∃ es L a tl p xs x, ρ[iL]? = some (some (.list es)) ∧ .list es = ledD true L ∧ Led F.K H0 s L ∧ (∀ a ∈ addrs L, noT (H0 a) = none) ∧ iL < ρ.length ∧ o = excD a ∧ Ent.ob a tl p xs x ∈ L ∧ ts = xs.map .str ∧ r = .str x := by
  unfold entE at h
  split at h
  · rename_i es hl
    split at h
    · rename_i p ts' r' hx
      cases h
      obtain ⟨L, e1, LD, fr⟩ := S.ledM lf hl rfl
      rw [e1] at hx
      obtain ⟨a, rfl, e0, he, hd⟩ := lookE_led hx
      obtain ⟨tl, xs, x', rfl, e2, rfl⟩ := ent_ob hd
      cases e2
      exact ⟨es, L, a, tl, p, xs, x', hl, e1, LD, fr, (List.getElem?_eq_some_iff.mp hl).1, rfl, he, rfl, rfl⟩
    · cases h
  · cases h
def setL (iL : Nat) (o : D) (ts : List D) (r : D) (ρ : Env) : Env := match ρ[iL]? with
  | some (some l) => ρ.set iL (some (setE o (.list ts) r l))
  | _ => ρ
section
variable {F : Fam} {rm : Md}
/-! ### self.rest = e -/
def sRest (iL : Nat) (go ge : GE) : GS := fun ρ => (ge ρ).bind fun d => match d with
  | .str x => (go ρ).bind fun o => (match entE ρ[iL]? o with
    | some (ts, _) => .ok (.nx (setL iL o ts (.str x) ρ))
    | none => .stuck)
  | _ => .stuck
theorem ds_rest {iL : Nat} {o e : Expr} {go ge : GE} {m : Md} {pos' pos : Pos} (lf : LF F.O iL) (C : IntC F.K) (ho : DE F .fz o go) (he : DE F m e ge) (hs : ∀ env, swapsWith e (some (.Attribute o "rest" pos')) pos.line env = pure false := by intro _; rfl) : DS F rm (.Assign [.Attribute o "rest" pos'] e pos) (sRest iL go ge) := by
  obtain ⟨to, po, so⟩ := ho
  obtain ⟨te, pe, se⟩ := de_any he
  refine ⟨sFld F.K to te "rest", fun i => by have z := ps_fld (f := "rest") (pos := pos) (pos' := pos') (po i) (pe i) (hs _); rw [F.hK i] at z; exact z, fun H0 hid0 s ρ S Dn q => se H0 hid0 s ρ S _ ?_⟩
  unfold sRest at q
  cases hd : ge ρ with
  | stuck => rw [hd] at q; exact q.elim
  | err c => rw [hd, bind_err] at q; exact fun H' e => q H' (S.ex0.trans e)
  | ok d =>
    rw [hd, bind_ok] at q
    intro v H1 e1 r1
    cases d with
    | str x =>
      have ev := bo_str r1
      subst ev
      refine so H0 hid0 { s with H := H1 } ρ (S.ext e1) _ ?_
      dsimp only at q
      cases hg : go ρ with
      | stuck => rw [hg] at q; exact q.elim
      | err c => rw [hg, bind_err] at q; exact fun H' e => q H' (S.ex0.trans (e1.trans e))
      | ok o =>
        rw [hg, bind_ok] at q
        intro u H2 e2 r2
        cases hen : entE ρ[iL]? o with
        | none => rw [hen] at q; exact q.elim
        | some tr =>
          obtain ⟨ts, r⟩ := tr
          rw [hen] at q
          dsimp only at q
          have S2 := (S.ext e1).ext e2
          obtain ⟨es, L, a, tl, p, xs, x0, hl, el, LD, fr, hlt, rfl, hin, rfl, rfl⟩ := entE_at S2 lf hen
          have eu := exc_ref r2
          subst eu
          obtain ⟨dx, pv, z1, z2, z3⟩ := LD.li.ok _ hin
          refine ⟨a, iC F.K, dx, _, rfl, z1, C.cls, C.na _ (by simp), by show 3 < 1000; decide, ?_⟩
          have nt : tl ≠ a := fun z => by
            have z2 : H2 tl = _ := z2
            have z1 : H2 a = _ := z1
            rw [z, z1] at z2
            cases z2
          have st := LD.upd (H' := upd H2 a (.ins (iC F.K) dx (putF "rest" (.str x) [("plan", pv), ("texts", .ref tl), ("rest", .str x0)]))) (xs := xs) (x := x) S2.knd hin (fun dx' pv' h => by
            have h : H2 a = _ := h
            have z1 : H2 a = _ := z1
            rw [z1] at h
            cases h
            rw [upd_same]
            rfl) (by rw [upd_ne nt]; exact z2) (fun b n1 n2 => upd_ne n1) (tabs_upd (by have z1 : H2 a = _ := z1; show IsC (H2 a); rw [z1]; trivial))
          obtain ⟨S3, w3⟩ := S2.stepL lf hlt LD fr st
          have er : setL iL (excD a) (xs.map .str) (.str x) ρ = ρ.set iL (some (ledD true (updL L a xs x))) := by
            unfold setL
            rw [hl]
            dsimp only
            rw [el, setE_led]
          rw [er] at q
          exact q _ ((hide_mono (e1.trans e2)).trans w3) S3
    | none => exact q.elim
    | bool _ => exact q.elim
    | int _ => exact q.elim
    | list _ => exact q.elim
    | tuple _ => exact q.elim
    | dict _ => exact q.elim
/-! ### the texts as a list that is changed -/
theorem recv {iL : Nat} {to : TE} {go : GE} {H0 : Hp} {hid0 : List Addr} {s : Sx} {ρ : Env} {Q : VK} {ts : List D} {r o : D} (lf : LF F.O iL) (C : IntC F.K) (so : SemE F .fz to go) (S : Sees F.K H0 hid0 F.O s ρ) (hg : go ρ = .ok o) (hen : entE ρ[iL]? o = some (ts, r))
    (k : ∀ H1, Ex s.H H1 → ∀ es L a tl p xs x, ρ[iL]? = some (some (.list es)) → .list es = ledD true L → Led F.K H0 { s with H := H1 } L → (∀ a ∈ addrs L, noT (H0 a) = none) → iL < ρ.length → o = excD a → Ent.ob a tl p xs x ∈ L → ts = xs.map .str → r = .str x → H1 tl = some (.lst (xs.map .str)) → Q (.ref tl) H1) : tFld F.K to "texts" s.σ s.H Q := by
  refine so H0 hid0 s ρ S _ ?_
  rw [hg]
  intro u H1 e1 r1
  obtain ⟨es, L, a, tl, p, xs, x, hl, el, LD, fr, hlt, rfl, hin, rfl, rfl⟩ := entE_at (S.ext e1) lf hen
  have eu := exc_ref r1
  subst eu
  obtain ⟨dx, pv, z1, z2, z3⟩ := LD.li.ok _ hin
  exact ⟨a, iC F.K, dx, _, .ref tl, rfl, z1, C.cls, C.na _ (by simp), rfl, k H1 e1 es L a tl p xs x hl el LD fr hlt rfl hin rfl rfl z2⟩
theorem new_texts {iL : Nat} {H0 : Hp} {hid0 : List Addr} {s : Sx} {ρ : Env} {es : List D} {L : List Ent} {a tl : Addr} {p : D} {xs ys : List Str} {x : Str} (lf : LF F.O iL) (S : Sees F.K H0 hid0 F.O s ρ) (hl : ρ[iL]? = some (some (.list es))) (el : .list es = ledD true L) (LD : Led F.K H0 s L) (fr : ∀ a ∈ addrs L, noT (H0 a) = none) (hlt : iL < ρ.length) (hin : Ent.ob a tl p xs x ∈ L) :
    Sees F.K H0 hid0 F.O { s with H := upd s.H tl (.lst (ys.map .str)) } (setL iL (excD a) (ys.map .str) (.str x) ρ) ∧ Wx (hide s.hid s.H) (hide s.hid (upd s.H tl (.lst (ys.map .str)))) := by
  obtain ⟨dx, pv, z1, z2, z3⟩ := LD.li.ok _ hin
  have nt : a ≠ tl := fun z => by rw [z, z2] at z1; cases z1
  have st := LD.upd (H' := upd s.H tl (.lst (ys.map .str))) (xs := ys) (x := x) S.knd hin (fun dx' pv' h => by rw [upd_ne nt]; exact h) upd_same (fun b n1 n2 => upd_ne n2) (tabs_upd (by rw [z2]; trivial))
  have S3 := S.stepL lf hlt LD fr st
  have er : setL iL (excD a) (ys.map .str) (.str x) ρ = ρ.set iL (some (ledD true (updL L a ys x))) := by
    unfold setL
    rw [hl]
    dsimp only
    rw [el, setE_led]
  rw [er]
  exact S3
def sTxA (iL : Nat) (go ge : GE) : GS := fun ρ => (go ρ).bind fun o => match entE ρ[iL]? o with
  | some (ts, r) => (ge ρ).bind fun d => (match d with
    | .str x => if ts.length < 1000000 then .ok (.nx (setL iL o (ts ++ [.str x]) r ρ)) else .stuck
    | _ => .stuck)
  | none => .stuck
theorem ds_txA {iL : Nat} {o e : Expr} {go ge : GE} {p2 apos cpos pos : Pos} (lf : LF F.O iL) (C : IntC F.K) (ho : DE F .fz o go) (he : DE F .fz e ge)
    (hb : ∀ env, attributeBase o "texts" env (eval o env) = eval o env := by intro _; rfl) (hb2 : ∀ env, attributeBase (.Attribute o "texts" p2) "append" env (eval (.Attribute o "texts" p2) env) = eval (.Attribute o "texts" p2) env := by intro _; rfl)
    (hfew : ∀ env, ((backTo cpos (starEach [e] env)).all (fun x => !x.1) && (backToKw cpos (keywordEach [] env)).all (fun x => x.1.isSome) && decide ([e].length + ([] : List Keyword).length + (if ([] : List Keyword).isEmpty then 0 else 1) < 30)) = true := by intro _; rfl)
    (hline : (apos.endLine == cpos.line) = true := by rfl) (hs : ∀ env, starEach [e] env = (false, eval e env) :: starEach [] env := by intro _; rfl) (hsw : ∀ env, swapsWith (.Call (.Attribute (.Attribute o "texts" p2) "append" apos) [e] [] cpos) none pos.line env = pure false := by intro _; rfl) :
    DS F rm (.Expr (.Call (.Attribute (.Attribute o "texts" p2) "append" apos) [e] [] cpos) pos) (sTxA iL go ge) := by
  obtain ⟨to, po, so⟩ := ho
  obtain ⟨te, pe, se⟩ := he
  refine ⟨tDrop (tBM F.K "list" rAppend (tFld F.K to "texts") (tCons te tNil)), fun j => ps_expr ?_ (hsw _), fun H0 hid0 s ρ S Dn q => ?_⟩
  · have y := pe_fld (f := "texts") (pos := p2) (po j) (hb _)
    have z := pe_bm PySem.F.plainAttrs_list PySem.F.slot_list_append PySem.F.type_list_append mt_append y (pa_cons (pe j) pa_nil (hs _)) (hb2 _) (hfew _) hline (hs _) rfl
    rw [F.hK j] at z
    exact z
  unfold sTxA at q
  cases hg : go ρ with
  | stuck => rw [hg] at q; exact q.elim
  | err c =>
    rw [hg, bind_err] at q
    refine so H0 hid0 s ρ S _ ?_
    rw [hg]
    exact fun H' e => q H' (S.ex0.trans e)
  | ok o =>
    rw [hg, bind_ok] at q
    cases hen : entE ρ[iL]? o with
    | none => rw [hen] at q; exact q.elim
    | some tr =>
      obtain ⟨ts, r⟩ := tr
      rw [hen] at q
      dsimp only at q
      refine recv lf C so S hg hen fun H1 e1 es L a tl p xs x hl el LD fr hlt eo hin ets er z2 => ⟨.inl ⟨rfl, _, SqL.of z2⟩, se H0 hid0 { s with H := H1 } ρ (S.ext e1) _ ?_⟩
      subst eo ets er
      cases hd : ge ρ with
      | stuck => rw [hd] at q; exact q.elim
      | err c => rw [hd] at q; exact fun H' e => q H' (S.ex0.trans (e1.trans e))
      | ok d =>
        rw [hd] at q
        rw [bind_ok] at q
        intro v H2 e2 r2
        cases d with
        | str y =>
          dsimp only at q
          split at q
          · rename_i hlen
            have ev : v = .str y := by
              have r2 : Mn F.K (hide s.hid H2) (.str y) v := r2
              simpa only [Mn] using r2
            subst ev
            have z2' := e2.l z2
            refine ⟨tl, _, .str y, rfl, rfl, z2', by rw [List.length_map] at hlen ⊢; exact Nat.lt_of_lt_of_le hlen (small_line (Nat.le_refl _)), ?_⟩
            obtain ⟨S3, w3⟩ := new_texts (ys := xs ++ [y]) lf ((S.ext e1).ext e2) hl el ⟨LD.li.ext e2, LD.od⟩ fr hlt hin
            have ea : (xs ++ [y]).map PyData.str = xs.map .str ++ [.str y] := by rw [List.map_append]; rfl
            have eb : (xs ++ [y]).map V.str = xs.map .str ++ [.str y] := by rw [List.map_append]; rfl
            rw [ea, eb] at S3
            rw [eb] at w3
            exact q _ ((hide_mono (e1.trans e2)).trans w3) S3
          · exact q.elim
        | none => exact q.elim
        | bool _ => exact q.elim
        | int _ => exact q.elim
        | list _ => exact q.elim
        | tuple _ => exact q.elim
        | dict _ => exact q.elim
end
end DL
set_option Elab.async false
set_option linter.all false
set_option maxRecDepth 100000
set_option maxHeartbeats 4000000
namespace DL
open PySem PySem.Spec PyProof.Rows L2
variable [TabsC]
section
variable {F : Fam} {rm : Md}
/-! ### self.texts[i] = e -/
def sTxS (iL : Nat) (go gi ge : GE) : GS := fun ρ => (ge ρ).bind fun d => match d with
  | .str y => (go ρ).bind fun o => (match entE ρ[iL]? o with
    | some (ts, r) => (gi ρ).bind fun k => (match k with
      | .int k => (match ixN ts.length k with
        | some j => .ok (.nx (setL iL o (ts.set j (.str y)) r ρ))
        | none => .stuck)
      | _ => .stuck)
    | none => .stuck)
  | _ => .stuck
theorem ds_txS {iL : Nat} {o e ei : Expr} {go ge gi : GE} {p2 p1 pos : Pos} (lf : LF F.O iL) (C : IntC F.K) (ho : DE F .fz o go) (hi : DE F .fz ei gi) (he : DE F .fz e ge)
    (hb : ∀ env, attributeBase o "texts" env (eval o env) = eval o env := by intro _; rfl)
    (hs : ∀ env, swapsWithSole [.Subscript (.Attribute o "texts" p2) ei p1] e pos.line env = pure false := by intro _; rfl) (hw : ∀ env, swappedStores [.Subscript (.Attribute o "texts" p2) ei p1] e env = pure none := by intro _; rfl) (h1 : ∀ env, (assignEach [.Subscript (.Attribute o "texts" p2) ei p1] env).map (·.2) = [assign (.Subscript (.Attribute o "texts" p2) ei p1) env] := by intro _; rfl)
    (ha : ∀ env v, assign (.Subscript (.Attribute o "texts" p2) ei p1) env v = (do
      let ov ← holding [v] (eval (.Attribute o "texts" p2) env)
      let iv ← holding [v, ov] (eval ei env)
      standAt p1
      holding [v, ov, iv] (setItem ov iv v)
      release [v, ov, iv] []) := by intro _ _; rfl) : DS F rm (.Assign [.Subscript (.Attribute o "texts" p2) ei p1] e pos) (sTxS iL go gi ge) := by
  obtain ⟨to, po, so⟩ := ho
  obtain ⟨te, pe, se⟩ := he
  obtain ⟨ti, pi, si⟩ := hi
  refine ⟨tAsg te (gSub (tFld F.K to "texts") ti rSetL), fun j => ps_asg (pe j) (pg_sub (by have y := pe_fld (f := "texts") (pos := p2) (po j) (hb _); rw [F.hK j] at y; exact y) (pi j) set_list (ha _)) (hs _) (hw _) (h1 _), fun H0 hid0 s ρ S Dn q => se H0 hid0 s ρ S _ ?_⟩
  unfold sTxS at q
  cases hd : ge ρ with
  | stuck => rw [hd] at q; exact q.elim
  | err c => rw [hd, bind_err] at q; exact fun H' e => q H' (S.ex0.trans e)
  | ok d =>
    rw [hd, bind_ok] at q
    intro v H1 e1 r1
    cases d with
    | str y =>
      have ev : v = .str y := by
        have r1 : Mn F.K (hide s.hid H1) (.str y) v := r1
        simpa only [Mn] using r1
      subst ev
      dsimp only at q
      cases hg : go ρ with
      | stuck => rw [hg] at q; exact q.elim
      | err c =>
        rw [hg, bind_err] at q
        refine so H0 hid0 { s with H := H1 } ρ (S.ext e1) _ ?_
        rw [hg]
        exact fun H' e => q H' (S.ex0.trans (e1.trans e))
      | ok o =>
        rw [hg, bind_ok] at q
        cases hen : entE ρ[iL]? o with
        | none => rw [hen] at q; exact q.elim
        | some tr =>
          obtain ⟨ts, r⟩ := tr
          rw [hen] at q
          dsimp only at q
          refine recv (s := { s with H := H1 }) lf C so (S.ext e1) hg hen fun H2 e2 es L a tl p xs x hl el LD fr hlt eo hin ets er z2 => si H0 hid0 { s with H := H2 } ρ ((S.ext e1).ext e2) _ ?_
          subst eo ets er
          cases hk : gi ρ with
          | stuck => rw [hk] at q; exact q.elim
          | err c => rw [hk] at q; exact fun H' e => q H' (S.ex0.trans ((e1.trans e2).trans e))
          | ok k =>
            rw [hk] at q
            intro u H3 e3 r3
            cases k with
            | int k =>
              have eu : u = .int k := by
                have r3 : Mn F.K (hide s.hid H3) (.int k) u := r3
                simpa only [Mn] using r3
              subst eu
              dsimp only [bind_ok] at q
              cases hj : ixN (xs.map PyData.str).length k with
              | none => rw [hj] at q; exact q.elim
              | some j =>
                rw [hj] at q
                refine ⟨tl, _, k, j, rfl, rfl, e3.l z2, by rw [List.length_map] at hj ⊢; exact hj, ?_⟩
                obtain ⟨S3, w3⟩ := new_texts (ys := xs.set j y) lf (((S.ext e1).ext e2).ext e3) hl el ⟨LD.li.ext e3, LD.od⟩ fr hlt hin
                rw [List.map_set, List.map_set] at S3
                rw [List.map_set] at w3
                exact q _ ((hide_mono ((e1.trans e2).trans e3)).trans w3) S3
            | none => exact q.elim
            | bool _ => exact q.elim
            | str _ => exact q.elim
            | list _ => exact q.elim
            | tuple _ => exact q.elim
            | dict _ => exact q.elim
    | none => exact q.elim
    | bool _ => exact q.elim
    | int _ => exact q.elim
    | list _ => exact q.elim
    | tuple _ => exact q.elim
    | dict _ => exact q.elim
/-! ### self.texts.pop(i) -/
def sTxP (iL : Nat) (go ge : GE) : GS := fun ρ => (go ρ).bind fun o => match entE ρ[iL]? o with
  | some (ts, r) => (ge ρ).bind fun d => (match d with
    | .int i => if -1000000000 ≤ i ∧ i ≤ 1000000000 then (match seqIndex? i ts.length with
      | some k => if k < ts.length then .ok (.nx (setL iL o (ts.eraseIdx k) r ρ)) else .stuck
      | none => .stuck) else .stuck
    | _ => .stuck)
  | none => .stuck
theorem eraseIdx_map {α β : Type} (f : α → β) : ∀ (xs : List α) (k : Nat), (xs.map f).eraseIdx k = (xs.eraseIdx k).map f
  | [], _ => rfl
  | x :: xs, 0 => rfl
  | x :: xs, k + 1 => by
    show f x :: (xs.map f).eraseIdx k = f x :: (xs.eraseIdx k).map f
    rw [eraseIdx_map f xs k]
theorem ds_txP {iL : Nat} {o e : Expr} {go ge : GE} {p2 apos cpos pos : Pos} (lf : LF F.O iL) (C : IntC F.K) (ho : DE F .fz o go) (he : DE F .fz e ge)
    (hb : ∀ env, attributeBase o "texts" env (eval o env) = eval o env := by intro _; rfl) (hb2 : ∀ env, attributeBase (.Attribute o "texts" p2) "pop" env (eval (.Attribute o "texts" p2) env) = eval (.Attribute o "texts" p2) env := by intro _; rfl)
    (hfew : ∀ env, ((backTo cpos (starEach [e] env)).all (fun x => !x.1) && (backToKw cpos (keywordEach [] env)).all (fun x => x.1.isSome) && decide ([e].length + ([] : List Keyword).length + (if ([] : List Keyword).isEmpty then 0 else 1) < 30)) = true := by intro _; rfl)
    (hline : (apos.endLine == cpos.line) = true := by rfl) (hs : ∀ env, starEach [e] env = (false, eval e env) :: starEach [] env := by intro _; rfl) (hsw : ∀ env, swapsWith (.Call (.Attribute (.Attribute o "texts" p2) "pop" apos) [e] [] cpos) none pos.line env = pure false := by intro _; rfl) :
    DS F rm (.Expr (.Call (.Attribute (.Attribute o "texts" p2) "pop" apos) [e] [] cpos) pos) (sTxP iL go ge) := by
  obtain ⟨to, po, so⟩ := ho
  obtain ⟨te, pe, se⟩ := he
  refine ⟨tDrop (tBM F.K "list" rPopAt (tFld F.K to "texts") (tCons te tNil)), fun j => ps_expr ?_ (hsw _), fun H0 hid0 s ρ S Dn q => ?_⟩
  · have y := pe_fld (f := "texts") (pos := p2) (po j) (hb _)
    have z := pe_bm PySem.F.plainAttrs_list PySem.F.slot_list_pop PySem.F.type_list_pop mt_popAt y (pa_cons (pe j) pa_nil (hs _)) (hb2 _) (hfew _) hline (hs _) rfl
    rw [F.hK j] at z
    exact z
  unfold sTxP at q
  cases hg : go ρ with
  | stuck => rw [hg] at q; exact q.elim
  | err c =>
    rw [hg, bind_err] at q
    refine so H0 hid0 s ρ S _ ?_
    rw [hg]
    exact fun H' e => q H' (S.ex0.trans e)
  | ok o =>
    rw [hg, bind_ok] at q
    cases hen : entE ρ[iL]? o with
    | none => rw [hen] at q; exact q.elim
    | some tr =>
      obtain ⟨ts, r⟩ := tr
      rw [hen] at q
      dsimp only at q
      refine recv lf C so S hg hen fun H1 e1 es L a tl p xs x hl el LD fr hlt eo hin ets er z2 => ⟨.inl ⟨rfl, _, SqL.of z2⟩, se H0 hid0 { s with H := H1 } ρ (S.ext e1) _ ?_⟩
      subst eo ets er
      cases hd : ge ρ with
      | stuck => rw [hd] at q; exact q.elim
      | err c => rw [hd] at q; exact fun H' e => q H' (S.ex0.trans (e1.trans e))
      | ok d =>
        rw [hd] at q
        intro v H2 e2 r2
        cases d with
        | int i =>
          dsimp only [bind_ok] at q
          split at q
          · rename_i hr
            split at q
            · rename_i k hk
              split at q
              · rename_i hlen
                have ev : v = .int i := by
                  have r2 : Mn F.K (hide s.hid H2) (.int i) v := r2
                  simpa only [Mn] using r2
                subst ev
                rw [List.length_map] at hk hlen
                refine ⟨tl, _, i, k, .str xs[k], rfl, rfl, e2.l z2, by omega, by omega, by rw [List.length_map]; exact hk, by rw [List.getElem?_map, List.getElem?_eq_getElem hlen]; rfl, ?_⟩
                obtain ⟨S3, w3⟩ := new_texts (ys := xs.eraseIdx k) lf ((S.ext e1).ext e2) hl el ⟨LD.li.ext e2, LD.od⟩ fr hlt hin
                rw [← eraseIdx_map, ← eraseIdx_map] at S3
                rw [← eraseIdx_map] at w3
                exact q _ ((hide_mono (e1.trans e2)).trans w3) S3
              · exact q.elim
            · exact q.elim
          · exact q.elim
        | none => exact q.elim
        | bool _ => exact q.elim
        | str _ => exact q.elim
        | list _ => exact q.elim
        | tuple _ => exact q.elim
        | dict _ => exact q.elim
end
/-! ### expressions that change the ledger -/
abbrev GX := Env → Out (D × Env)
abbrev GTX := Env → Out (Bool × Env)
def SemX (F : Fam) (te : TE) (g : GX) : Prop :=
  ∀ (H0 : Hp) (hid0 : List Addr) (s : Sx) (ρ : Env), Sees F.K H0 hid0 F.O s ρ → ∀ Q : VK,
    (match g ρ with
      | .ok (d, ρ') => ∀ v s', s'.σ = s.σ → Sees F.K H0 hid0 F.O s' ρ' → Wx (hide s.hid s.H) (hide s'.hid s'.H) → Mn F.K (hide s'.hid s'.H) d v → Q v s'.H
      | .err c => ∀ H', Ex s.H H' → F.E (F.cl c) none H'
      | .stuck => False) → te s.σ s.H Q
def SemTX (F : Fam) (tt : TT) (g : GTX) : Prop :=
  ∀ (H0 : Hp) (hid0 : List Addr) (s : Sx) (ρ : Env), Sees F.K H0 hid0 F.O s ρ → ∀ Q : Bool → Hp → Prop,
    (match g ρ with
      | .ok (b, ρ') => ∀ s', s'.σ = s.σ → Sees F.K H0 hid0 F.O s' ρ' → Wx (hide s.hid s.H) (hide s'.hid s'.H) → Q b s'.H
      | .err c => ∀ H', Ex s.H H' → F.E (F.cl c) none H'
      | .stuck => False) → tt s.σ s.H Q
def DX (F : Fam) (e : Expr) (g : GX) : Prop := ∃ te, (∀ i, PE (F.X i) e te) ∧ SemX F te g
def DTX (F : Fam) (e : Expr) (g : GTX) : Prop := ∃ tt, (∀ i, PT (F.X i) e tt) ∧ SemTX F tt g
section
variable {F : Fam} {rm : Md}
/-! statements -/
def sExprX (g : GX) : GS := fun ρ => (g ρ).bind fun p => .ok (.nx p.2)
theorem ds_exprX {e : Expr} {g : GX} {pos : Pos} (h : DX F e g) (hs : ∀ env, swapsWith e none pos.line env = pure false := by intro _; rfl) : DS F rm (.Expr e pos) (sExprX g) := by
  obtain ⟨te, pe, se⟩ := h
  refine ⟨_, fun i => ps_expr (pe i) (hs _), fun H0 hid0 s ρ S Dn q => se H0 hid0 s ρ S _ ?_⟩
  unfold sExprX at q
  cases hd : g ρ with
  | stuck => rw [hd] at q; exact q.elim
  | err c => rw [hd, bind_err] at q; exact fun H' e => q H' (S.ex0.trans e)
  | ok p =>
    rw [hd, bind_ok] at q
    intro v s' es S' w m
    have z := q s' w S'
    rw [es] at z
    exact z
def sSetX (i : Nat) (g : GX) : GS := fun ρ => (g ρ).bind fun p => .ok (.nx (p.2.set i (some p.1)))
theorem ds_setX (i : Nat) {x : Str} {e : Expr} {g : GX} {pos' pos : Pos} (h : DX F e g) (hN : F.N[i]? = some x := by rfl) (hst : F.sto x = true := by rfl) (hO : F.O i = some false := by rfl) (hs : ∀ env, swapsWith e (some (.Name x pos')) pos.line env = pure false := by intro _; rfl) : DS F rm (.Assign [.Name x pos'] e pos) (sSetX i g) := by
  obtain ⟨te, pe, se⟩ := h
  refine ⟨_, fun j => ps_set (by rw [F.hN]; exact F.nd) (by rw [F.hN]; exact hN) (F.hsto j x hst).1 (pe j) (hs _) (F.hsto j x hst).2, fun H0 hid0 s ρ S Dn q => se H0 hid0 s ρ S _ ?_⟩
  unfold sSetX at q
  cases hd : g ρ with
  | stuck => rw [hd] at q; exact q.elim
  | err c => rw [hd, bind_err] at q; exact fun H' e => q H' (S.ex0.trans e)
  | ok p =>
    rw [hd, bind_ok] at q
    intro v s' es S' w m
    have z := q { s' with σ := s'.σ.set i (some v) } w (S'.set hO m)
    show Dn.nx (s.σ.set i (some v)) s'.H
    rw [← es]
    exact z
def sRetX (iL : Nat) (g : GX) : GS := fun ρ => (g ρ).bind fun p => match p.2[iL]? with
  | some (some (.list es)) => .ok (.rt (.tuple [p.1, .list es]))
  | _ => .stuck
theorem ds_retX {iL : Nat} {e : Expr} {g : GX} {pos : Pos} (lf : LF F.O iL) (h : DX F e g) : DS F .bo (.Return (some e) pos) (sRetX iL g) := by
  obtain ⟨te, pe, se⟩ := h
  refine ⟨_, fun i => ps_ret (pe i), fun H0 hid0 s ρ S Dn q => se H0 hid0 s ρ S _ ?_⟩
  unfold sRetX at q
  cases hd : g ρ with
  | stuck => rw [hd] at q; exact q.elim
  | err c => rw [hd, bind_err] at q; exact fun H' e => q H' (S.ex0.trans e)
  | ok p =>
    obtain ⟨d, ρ'⟩ := p
    rw [hd, bind_ok] at q
    intro v s' es S' w m
    dsimp only at q
    split at q
    · rename_i es' hl
      obtain ⟨L, el, LD, fr⟩ := S'.ledM lf hl rfl
      have sb : ∀ a ∈ hid0 ++ addrs L, a ∈ s'.hid := fun a h => by
        rcases List.mem_append.mp h with h | h
        · exact S'.sub a h
        · exact LD.li.hd a h
      exact q v s'.H S'.ex0 ⟨d, L, by rw [el], LD.li.step (fun _ _ => rfl) (hide_sub sb) (fun a h => List.mem_append.mpr (.inr h)), fr, Mn.mono (hide_sub sb) d v m⟩
    · exact q.elim
def sIfX (c : GTX) (a b : GS) : GS := fun ρ => (c ρ).bind fun k => bif k.1 then a k.2 else b k.2
theorem ds_ifX {c : Expr} {a b : List Stmt} {pos : Pos} {gc : GTX} {ga gb : GS} (hc : DTX F c gc) (ha : DSs F rm a ga) (hb : DSs F rm b gb) : DS F rm (.If c a b pos) (sIfX gc ga gb) := by
  obtain ⟨tc, pc, sc⟩ := hc
  obtain ⟨ta, pa, sa⟩ := ha
  obtain ⟨tb, pb, sb⟩ := hb
  refine ⟨tIfS tc ta tb, fun i => ps_if (pc i) (pa i) (pb i), fun H0 hid0 s ρ S Dn q => sc H0 hid0 s ρ S _ ?_⟩
  unfold sIfX at q
  cases hk : gc ρ with
  | stuck => rw [hk] at q; exact q.elim
  | err c => rw [hk, bind_err] at q; exact fun H' e => q H' (S.ex0.trans e)
  | ok p =>
    obtain ⟨k, ρ'⟩ := p
    rw [hk, bind_ok] at q
    intro s' es S' w
    cases k with
    | true =>
      rw [if_pos rfl, ← es]
      exact sa H0 hid0 s' ρ' S' Dn (WS.mono w q)
    | false =>
      rw [if_neg Bool.false_ne_true, ← es]
      exact sb H0 hid0 s' ρ' S' Dn (WS.mono w q)
/-! rules -/
def xE (g : GE) : GX := fun ρ => (g ρ).bind fun d => .ok (d, ρ)
theorem semX_de {te : TE} {g : GE} (h : SemE F .fz te g) : SemX F te (xE g) := fun H0 hid0 s ρ S Q q => by
  refine h H0 hid0 s ρ S _ ?_
  unfold xE at q
  cases hd : g ρ with
  | stuck => rw [hd] at q; exact q.elim
  | err c => rw [hd, bind_err] at q; exact q
  | ok d =>
    rw [hd, bind_ok] at q
    exact fun v H' e r => q v { s with H := H' } rfl (S.ext e) (hide_mono e) r
theorem dx_de {e : Expr} {g : GE} (h : DE F .fz e g) : DX F e (xE g) := ⟨_, h.choose_spec.1, semX_de h.choose_spec.2⟩
def tVX (g : GX) : GTX := fun ρ => (g ρ).bind fun p => match p.1 with
  | .bool b => .ok (b, p.2)
  | _ => .stuck
theorem semTX_val {te : TE} {g : GX} (h : SemX F te g) : SemTX F (tTest te) (tVX g) := fun H0 hid0 s ρ S Q q => by
  refine h H0 hid0 s ρ S _ ?_
  unfold tVX at q
  cases hd : g ρ with
  | stuck => rw [hd] at q; exact q.elim
  | err c => rw [hd, bind_err] at q; exact q
  | ok p =>
    obtain ⟨d, ρ'⟩ := p
    rw [hd, bind_ok] at q
    intro v s' es S' w m
    cases d with
    | bool b =>
      simp only [Mn] at m
      exact ⟨b, m, q s' es S' w⟩
    | none => exact q.elim
    | int _ => exact q.elim
    | str _ => exact q.elim
    | list _ => exact q.elim
    | tuple _ => exact q.elim
    | dict _ => exact q.elim
theorem dtx_val {e : Expr} {g : GX} (h : DX F e g) (he : ∀ env whole, isTrue e env whole = (do let v ← whole; standAt e.pos; holding [v] (truthy v)) := by intro _ _; rfl) : DTX F e (tVX g) :=
  ⟨_, fun i => pt_val (h.choose_spec.1 i) (he _), semTX_val h.choose_spec.2⟩
def gNotX (a : GTX) : GTX := fun ρ => (a ρ).bind fun x => .ok (!x.1, x.2)
theorem dtx_not {a : Expr} {g : GTX} {pos : Pos} (h : DTX F a g) : DTX F (.UnaryOp .Not a pos) (gNotX g) := by
  obtain ⟨tt, pt, st⟩ := h
  refine ⟨_, fun i => pt_not (pt i), fun H0 hid0 s ρ S Q q => st H0 hid0 s ρ S _ ?_⟩
  unfold gNotX at q
  cases hd : g ρ with
  | stuck => rw [hd] at q; exact q.elim
  | err c => rw [hd, bind_err] at q; exact q
  | ok p =>
    rw [hd, bind_ok] at q
    exact fun s' es S' w => q s' es S' w
/-- an operator, its left side changing the ledger -/
def x2 (f : D → D → Option D) (ga : GX) (gb : GE) : GX := fun ρ => (ga ρ).bind fun p => match gb p.2 with
  | .ok y => (match f p.1 y with
    | some z => .ok (z, p.2)
    | none => .stuck)
  | _ => .stuck
theorem semX_op {r : R2} {f : D → D → Option D} {ta tb : TE} {ga : GX} {gb : GE} (ha : SemX F ta ga) (hb : SemE F .bo tb gb) (hr : OpS F.K .fz r f) : SemX F (tOp r ta tb) (x2 f ga gb) := fun H0 hid0 s ρ S Q q => by
  refine ha H0 hid0 s ρ S _ ?_
  unfold x2 at q
  cases hd : ga ρ with
  | stuck => rw [hd] at q; exact q.elim
  | err c => rw [hd, bind_err] at q; exact q
  | ok p =>
    obtain ⟨d, ρ'⟩ := p
    rw [hd, bind_ok] at q
    intro v s' es S' w m
    rw [← es]
    refine hb H0 hid0 s' ρ' S' _ ?_
    dsimp only at q
    cases hd2 : gb ρ' with
    | stuck => rw [hd2] at q; exact q.elim
    | err c => rw [hd2] at q; exact q.elim
    | ok d2 =>
      rw [hd2] at q
      intro u H2 e2 r2
      dsimp only at q
      cases hf : f d d2 with
      | none => rw [hf] at q; exact q.elim
      | some z =>
        rw [hf] at q
        exact hr s'.hid H2 d d2 z v u Q (dom_ex e2 S'.dom) (.inl (Mn.mono (hide_mono e2) d v m)) r2 hf fun v' H' e' r' => q v' { s' with H := H' } es (S'.ext (e2.trans e')) (w.trans (hide_mono (e2.trans e'))) r'
def DCX (F : Fam) (e : Expr) (g : GX) : Prop := ∃ te, (∀ i, PE (F.X i) e te) ∧ (∀ i, PT (F.X i) e (tTest te)) ∧ SemX F te g
theorem dcx_x {e : Expr} {g : GX} (h : DCX F e g) : DX F e g := ⟨_, h.choose_spec.1, h.choose_spec.2.2⟩
theorem dcx_t {e : Expr} {g : GX} (h : DCX F e g) : DTX F e (tVX g) := ⟨_, h.choose_spec.2.1, semTX_val h.choose_spec.2.2⟩
theorem dcx_eq {mb : Md} {a b : Expr} {ga : GX} {gb : GE} {pos : Pos} (ha : DX F a ga) (hb : DE F mb b gb) : DCX F (.Compare a [.Eq] [b] pos) (x2 dEq ga gb) := by
  obtain ⟨ta, pa, sa⟩ := ha
  obtain ⟨tb, pb, sb⟩ := de_any hb
  have ho : ∀ i, OpR (F.X i) (compareOp .Eq) (rEqP F.K fun d e => PyData.eqv d e) := fun i => by have z := op_eqP (X := F.X i) (units120 i); rw [F.hK i] at z; exact z
  exact ⟨_, fun i => pe_cmpR (ho i) (pa i) (pb i) (nomark b), fun i => pt_cmpR (ho i) (pa i) (pb i) (nomark b), semX_op sa sb ops_eqP⟩
theorem dcx_ne {mb : Md} {a b : Expr} {ga : GX} {gb : GE} {pos : Pos} (ha : DX F a ga) (hb : DE F mb b gb) : DCX F (.Compare a [.NotEq] [b] pos) (x2 dNe ga gb) := by
  obtain ⟨ta, pa, sa⟩ := ha
  obtain ⟨tb, pb, sb⟩ := de_any hb
  have ho : ∀ i, OpR (F.X i) (compareOp .NotEq) (rEqP F.K fun d e => !PyData.eqv d e) := fun i => by have z := op_neP (X := F.X i) (units120 i); rw [F.hK i] at z; exact z
  exact ⟨_, fun i => pe_cmpR (ho i) (pa i) (pb i) (nomark b), fun i => pt_cmpR (ho i) (pa i) (pb i) (nomark b), semX_op sa sb (ops_eqP (f := fun d e => !PyData.eqv d e))⟩
def xIsN (ga : GX) : GX := fun ρ => (ga ρ).bind fun p => match dIsN false p.1 with
  | some z => .ok (z, p.2)
  | none => .stuck
theorem dcx_isN {a : Expr} {ga : GX} {j pos pos'} (ha : DX F a ga) : DCX F (.Compare a [.Is] [.Constant .none j pos'] pos) (xIsN ga) := by
  obtain ⟨ta, pa, sa⟩ := ha
  refine ⟨_, fun i => pe_cmp (pc_isN (pa i)) rfl, fun i => pt_cmp (pc_isN (pa i)) rfl, fun H0 hid0 s ρ S Q q => sa H0 hid0 s ρ S _ ?_⟩
  unfold xIsN at q
  cases hd : ga ρ with
  | stuck => rw [hd] at q; exact q.elim
  | err c => rw [hd, bind_err] at q; exact q
  | ok p =>
    obtain ⟨d, ρ'⟩ := p
    rw [hd, bind_ok] at q
    intro v s' es S' w m
    show Q (.bl (decide (v = .non))) s'.H
    rw [none_iff (H := s'.H) (show Rm F.K .bo s'.hid s'.H s'.H d v from .inl m)]
    cases d <;> exact q _ s' es S' w (by simp [Mn])
/-! calls -/
def xM (iL : Nat) (f : List D → D → Out (D × D)) (go : GE) (ga : GA) : GX := fun ρ => (go ρ).bind fun o => match ρ[iL]? with
  | some (some (.list es)) => if isOb (.list es) o then (ga ρ).bind fun ds => (f (o :: ds) (.list es)).bind fun p => .ok (p.1, ρ.set iL (some p.2)) else .stuck
  | _ => .stuck
theorem sem_m {iL n k : Nat} {x : Str} {f : List D → D → Out (D × D)} {te : TE} {ta : TA} {go : GE} {ga : GA} (lf : LF F.O iL) (R : FnL F.P F.w F.K F.mg F.base F.cl x n k f) (hx : ∀ a b c : V, ([("plan", a), ("texts", b), ("rest", c)] : List (Str × V)).lookup x = none) (h : SemE F .fz te go) (ha : SemA F .fz ta ga) :
    SemX F (tMeth (iC F.K) x (spL F.K F.cl n f) [] F.E te ta) (xM iL f go ga) := fun H0 hid0 s ρ S Q q => by
  refine h H0 hid0 s ρ S _ ?_
  unfold xM at q
  cases ho : go ρ with
  | stuck => rw [ho] at q; exact q.elim
  | err c => rw [ho, bind_err] at q; exact q
  | ok o =>
    rw [ho, bind_ok] at q
    intro v H1 e1 r1
    obtain ⟨es, hl⟩ : ∃ es, ρ[iL]? = some (some (.list es)) := by
      cases hl : ρ[iL]? with
      | none => rw [hl] at q; exact q.elim
      | some l0 =>
        cases l0 with
        | none => rw [hl] at q; exact q.elim
        | some l => cases l <;> first | exact ⟨_, rfl⟩ | (rw [hl] at q; exact q.elim)
    rw [hl] at q
    dsimp only at q
    by_cases hob : isOb (.list es) o = true
    case neg => rw [if_neg hob] at q; exact q.elim
    rw [if_pos hob] at q
    obtain ⟨L, el, LD, fr⟩ := (S.ext e1).ledM lf hl rfl
    rw [el] at hob q
    obtain ⟨a, tl, p, xs, x', rfl, he, dx, pv, h1⟩ := isOb_at LD hob
    have ev := exc_ref r1
    subst ev
    refine ⟨a, dx, _, rfl, h1, hx _ _ _, ha H0 hid0 { s with H := H1 } ρ (S.ext e1) _ ?_⟩
    cases hg : ga ρ with
    | stuck => rw [hg] at q; exact q.elim
    | err c => rw [hg, bind_err] at q; exact fun H' e => q H' (e1.trans e)
    | ok ds =>
      rw [hg, bind_ok] at q
      intro vs H2 e2 r2
      rw [List.append_nil]
      have mn : MnA F.K (hide s.hid H2) (excD a :: ds) (.ref a :: vs) := by
        simp only [MnA]
        exact ⟨_, _, rfl, Mn.mono (hide_mono e2) _ _ r1, rma_mn r2⟩
      refine ⟨?_, ((S.ex0.trans e1).trans e2).tb S.tb0, s.hid, excD a :: ds, L, knd_ex (e1.trans e2) S.knd, mn, LD.li.ext e2, ?_⟩
      · rw [mn.length]
        exact Classical.byContradiction fun z => by rw [R.ln _ _ z] at q; exact q
      · cases hf : f (excD a :: ds) (ledD true L) with
        | stuck => rw [hf] at q; exact q.elim
        | err c => rw [hf] at q; exact fun H' e => q H' ((e1.trans e2).trans e)
        | ok p =>
          obtain ⟨d, l'⟩ := p
          rw [hf] at q
          intro v' hid' H' L' el' st mv
          subst el'
          have S2 := (S.ext e1).ext e2
          obtain ⟨S3, w3⟩ := S2.stepL lf (List.getElem?_eq_some_iff.mp hl).1 ⟨LD.li.ext e2, LD.od⟩ fr st
          exact q v' { s with hid := hid', H := H' } rfl S3 ((hide_mono (e1.trans e2)).trans w3) mv
theorem dx_m0 {iL n k : Nat} {x : Str} {f : List D → D → Out (D × D)} {e : Expr} {go : GE} {apos pos : Pos} {pl : PySem.Env → Sem Bool} (lf : LF F.O iL) (C : IntC F.K) (R : FnL F.P F.w F.K F.mg F.base F.cl x n k f) (hk : k ≤ F.lv) (h : DE F .fz e go) (hx : ∀ a b c : V, ([("plan", a), ("texts", b), ("rest", c)] : List (Str × V)).lookup x = none := by intro _ _ _; rfl)
    (ht : ∀ env, eval (.Call (.Attribute e x apos) [] [] pos) env = (do
      let ov ← eval e env
      standAt apos.atName
      let (f, first) ← holding [ov] (getMethod ov x (pl env))
      callWith pos f first (backTo pos (starEach [] env)) (backToKw pos (keywordEach [] env))) := by intro _; rfl) (hh : F.hot = false := by rfl) :
    DX F (.Call (.Attribute e x apos) [] [] pos) (xM iL f go aNil) := by
  obtain ⟨fa, fd, ps, hF, hM, hb⟩ := R.ex
  obtain ⟨te, pe, se⟩ := h
  refine ⟨_, fun i => pe_meth0 (C := iC F.K) (pl := pl (F.X i).env) (pe i) (by rw [F.hK]; exact C.cls) (by rw [F.hK]; exact hM) (fnok_at i hF) ((F.room i).to (F.hd hh i) hk) (by rw [F.hK]; exact hb) .nil (F.pas i) (ht _), sem_m lf R hx se sem_nil⟩
theorem dx_m {iL n k : Nat} {x : Str} {f : List D → D → Out (D × D)} {e e1 : Expr} {es : List Expr} {go : GE} {ga : GA} {apos pos : Pos} {pl : PySem.Env → Sem Bool} (lf : LF F.O iL) (C : IntC F.K) (R : FnL F.P F.w F.K F.mg F.base F.cl x n k f) (hk : k ≤ F.lv) (h : DE F .fz e go) (ha : DA F .fz (e1 :: es) ga) (hx : ∀ a b c : V, ([("plan", a), ("texts", b), ("rest", c)] : List (Str × V)).lookup x = none := by intro _ _ _; rfl)
    (hst : ∀ env, starEach (e1 :: es) env = (false, eval e1 env) :: starEach es env := by intro _; rfl) (hpl : ∀ env, (backTo pos (starEach es env)).any (·.1) = false := by intro _; rfl)
    (ht : ∀ env, eval (.Call (.Attribute e x apos) (e1 :: es) [] pos) env = (do
      let ov ← eval e env
      standAt apos.atName
      let (f, first) ← holding [ov] (getMethod ov x (pl env))
      callWith pos f first (backTo pos (starEach (e1 :: es) env)) (backToKw pos (keywordEach [] env))) := by intro _; rfl) (hh : F.hot = false := by rfl) :
    DX F (.Call (.Attribute e x apos) (e1 :: es) [] pos) (xM iL f go ga) := by
  obtain ⟨fa, fd, ps, hF, hM, hb⟩ := R.ex
  obtain ⟨te, pe, se⟩ := h
  obtain ⟨ta, pa, sa⟩ := ha
  exact ⟨_, fun i => pe_meth (C := iC F.K) (pl := pl (F.X i).env) (pe i) (by rw [F.hK]; exact C.cls) (by rw [F.hK]; exact hM) (fnok_at i hF) ((F.room i).to (F.hd hh i) hk) (by rw [F.hK]; exact hb) .nil (F.pas i) (pa i) (hst _) (hpl _) (ht _), sem_m lf R hx se sa⟩
def xC (iL : Nat) (f : List D → D → Out (D × D)) (ga : GA) : GX := fun ρ => (ga ρ).bind fun ds => match ρ[iL]? with
  | some (some (.list es)) => (f ds (.list es)).bind fun p => .ok (p.1, ρ.set iL (some p.2))
  | _ => .stuck
theorem dx_call {iL n k : Nat} {x : Str} {f : List D → D → Out (D × D)} {e : Expr} {es : List Expr} {ga : GA} {p pos : Pos} (lf : LF F.O iL) (h : FnLf F.P F.w F.K F.mg F.base F.cl x n k f) (hk : k ≤ F.lv) (ha : DA F .fz (e :: es) ga) (hg : F.sn.lookup x = some .globalImplicit := by rfl) (hdb : (x == ("__debug__" : Str)) = false := by decide)
    (he : ∀ env, starEach (e :: es) env = (false, eval e env) :: starEach es env := by intro _; rfl) (hpl : ∀ env, (backTo pos (starEach es env)).any (·.1) = false := by intro _; rfl) (hh : F.hot = false := by rfl) : DX F (.Call (.Name x p) (e :: es) [] pos) (xC iL f ga) := by
  obtain ⟨fa, fd, ps, hF, hm, hkp, hb⟩ := h.ex
  obtain ⟨ta, pa, sa⟩ := ha
  refine ⟨tCall (spL F.K F.cl n f) [] F.E ta, fun i => pe_call (fnok_at i hF) ((F.room i).to (F.hd hh i) hk) (gl_of hg i) (by rw [F.hmg]; exact hm) (by rw [F.hK]; exact hkp) (by rw [F.hK]; exact hb) .nil (F.pas i) (pa i) hdb (he _) (hpl _), fun H0 hid0 s ρ S Q q => sa H0 hid0 s ρ S _ ?_⟩
  unfold xC at q
  cases hd : ga ρ with
  | stuck => rw [hd] at q; exact q.elim
  | err c => rw [hd, bind_err] at q; exact q
  | ok ds =>
    rw [hd, bind_ok] at q
    intro vs H1 e1 r1
    obtain ⟨es, hl⟩ : ∃ es, ρ[iL]? = some (some (.list es)) := by
      cases hl : ρ[iL]? with
      | none => rw [hl] at q; exact q.elim
      | some l0 =>
        cases l0 with
        | none => rw [hl] at q; exact q.elim
        | some l => cases l <;> first | exact ⟨_, rfl⟩ | (rw [hl] at q; exact q.elim)
    rw [hl] at q
    dsimp only at q
    obtain ⟨L, el, LD, fr⟩ := (S.ext e1).ledM lf hl rfl
    rw [el] at q
    have mn := rma_mn r1
    show spL F.K F.cl n f (vs ++ []) H1 Q F.E
    rw [List.append_nil]
    refine ⟨?_, (S.ex0.trans e1).tb S.tb0, s.hid, ds, L, knd_ex e1 S.knd, mn, LD.li, ?_⟩
    · rw [mn.length]
      exact Classical.byContradiction fun z => by rw [h.ln _ _ z] at q; exact q
    · cases hf : f ds (ledD true L) with
      | stuck => rw [hf] at q; exact q.elim
      | err c => rw [hf] at q; exact fun H' e => q H' (e1.trans e)
      | ok p =>
        obtain ⟨d, l'⟩ := p
        rw [hf] at q
        intro v' hid' H' L' el' st mv
        subst el'
        obtain ⟨S3, w3⟩ := (S.ext e1).stepL lf (List.getElem?_eq_some_iff.mp hl).1 LD fr st
        exact q v' { s with hid := hid', H := H' } rfl S3 ((hide_mono e1).trans w3) mv
end
end DL
set_option Elab.async false
set_option linter.all false
set_option maxRecDepth 100000
set_option maxHeartbeats 4000000
namespace DL
open PySem PySem.Spec PyProof.Rows L2
variable [TabsC]
/-! ### an intake is made -/
def spI (K : PySem.W.Frag) : Sp := fun vs H Q E => ∃ (x dx : Addr) (pv : V), vs = [.ref x, pv] ∧ H x = some (.ins (iC K) dx []) ∧ ∀ tl : Addr, tl ≠ x → H tl = none → Q .non (upd (upd H tl (.lst [])) x (.ins (iC K) dx [("plan", pv), ("texts", .ref tl), ("rest", .str "")]))
structure FnI (P : Program) (w : World) (K : PySem.W.Frag) (mg : Str → Option Value) (base : Heap) (k : Nat) : Prop where
  ex : ∃ (fa : Addr) (fd : FuncData) (ps : List Str), FnOk P w K mg base (L2N.CX P w) k fa fd ps (spI K) ∧ Mk K (iC K) fa ∧ L2.Binds K fd ps []
  mg : mg "Intake" = some (.ref (iC K))
theorem init_ok {P : Program} {w : World} {K : PySem.W.Frag} {mg : Str → Option Value} {base : Heap} {x qual : Str} {st : Stmt} {f : Addr} {fd : FuncData} {k c0 : Nat} {a1 a2 a3 a4 b1 b2 b3 b4 c1 c2 c3 c4 : Pos} (F : L2.Fun K x qual st f fd) (S : FnScope ["self", "plan"] ["self", "plan"] (defScope st)) (C : IntC K) (h0 : visB (defScope st).names "self" = true) (h1 : visB (defScope st).names "plan" = true)
    (hbody : defBody st = [.Assign [.Attribute (.Name "self" a1) "plan" a2] (.Name "plan" a3) a4, .Assign [.Attribute (.Name "self" b1) "texts" b2] (.List [] b3) b4, .Assign [.Attribute (.Name "self" c1) "rest" c2] (.Constant (.str "") c0 c3) c4]) : FnOk P w K mg base (L2N.CX P w) (k + 1) f fd ["self", "plan"] (spI K) := by
  refine okXN F S (fun vs H Q E h => by obtain ⟨x, dx, pv, rfl, _⟩ := h; rfl) fun cdv A outer s H vs Q E hr h => ?_
  rw [hbody]
  obtain ⟨y, dx, pv, rfl, hx, q⟩ := h
  have v0 : ∀ p, PE (cxOf (L2N.CX P w) P w K mg base ["self", "plan"] qual (defScope st) f cdv A outer s H E) (.Name "self" p) (tVar 0) := fun p => pe_var (i := 0) rfl (vis_of h0) (by decide) (by decide)
  have v1 : ∀ p, PE (cxOf (L2N.CX P w) P w K mg base ["self", "plan"] qual (defScope st) f cdv A outer s H E) (.Name "plan" p) (tVar 1) := fun p => pe_var (i := 1) rfl (vis_of h1) (by decide) (by decide)
  refine ⟨_, pss_cons (ps_fld (v0 _) (v1 _) rfl) (pss_cons (ps_fld (v0 _) (pe_lst pa_nil) rfl) (pss_one (ps_fld (v0 _) pe_str rfl))), ?_⟩
  refine ⟨pv, rfl, .ref y, rfl, y, iC K, dx, [], rfl, hx, C.cls, C.na _ (by simp), by show 0 < 1000; omega, Nat.zero_le _, fun tl htl => ?_⟩
  have n1 : tl ≠ y := fun z => by rw [z, upd_same] at htl; cases htl
  rw [upd_ne n1] at htl
  refine ⟨.ref y, rfl, y, iC K, dx, [("plan", pv)], rfl, by rw [upd_ne (Ne.symm n1), upd_same]; rfl, C.cls, C.na _ (by simp), by show 1 < 1000; omega, .ref y, rfl, y, iC K, dx, [("plan", pv), ("texts", .ref tl)], rfl, by rw [upd_same]; rfl, C.cls, C.na _ (by simp), by show 2 < 1000; omega, ?_⟩
  have e : upd (upd (upd (upd H y (.ins (iC K) dx (putF "plan" pv []))) tl (.lst [])) y (.ins (iC K) dx (putF "texts" (.ref tl) [("plan", pv)]))) y (.ins (iC K) dx (putF "rest" (.str "") [("plan", pv), ("texts", .ref tl)])) = upd (upd H tl (.lst [])) y (.ins (iC K) dx [("plan", pv), ("texts", .ref tl), ("rest", .str "")]) := by
    funext b
    by_cases z : b = y
    · rw [z, upd_same, upd_same]; rfl
    · rw [upd_ne z, upd_ne z, upd_ne z]
      by_cases z2 : b = tl
      · rw [z2, upd_same, upd_same]
      · rw [upd_ne z2, upd_ne z2, upd_ne z]
  rw [e]
  exact q tl n1 htl
open Classical in
noncomputable def uni (P : Addr → Prop) (k : Addr → Out Fl) : Out Fl := if h : ∃ o, ∀ a, P a → k a = o then h.choose else .stuck
theorem uni_at {P : Addr → Prop} {k : Addr → Out Fl} {a : Addr} (h : P a) : uni P k = .stuck ∨ uni P k = k a := by
  unfold uni
  split
  · rename_i z
    exact .inr (z.choose_spec a h).symm
  · exact .inl rfl
theorem uni_eq {P : Addr → Prop} {k : Addr → Out Fl} {o : Out Fl} (h : ∀ a, P a → k a = o) (a : Addr) (ha : P a) : uni P k = o := by
  unfold uni
  rw [dif_pos ⟨o, h⟩]
  exact ((Exists.choose_spec (⟨o, h⟩ : ∃ o, ∀ a, P a → k a = o)) a ha).symm.trans (h a ha)
noncomputable def sMk (iL i : Nat) (ge : GE) (g : GS) : GS := fun ρ => (ge ρ).bind fun p => match ρ[iL]? with
  | some (some (.list es)) => uni (fun a => lookE (.list es) (excD a) = none) fun a => g ((ρ.set iL (some (.list (es ++ [.tuple [.int (a : Nat), p, .list [], .str ""]])))).set i (some (excD a)))
  | _ => .stuck
section
variable {F : Fam} {rm : Md}
theorem mn_excD {K : PySem.W.Frag} {H : Hp} {a : Addr} : Mn K H (excD a) (.ref a) := by
  unfold excD
  simp only [Mn]
  exact .inr (.inr (.inl ⟨a, rfl, rfl⟩))
theorem made_step {K : PySem.W.Frag} {H0 : Hp} {s : Sx} {L : List Ent} {x dx tl : Addr} {p : D} {pv : V} (LD : Led K H0 s L) (knd : ∀ a ∈ s.hid, IsC (s.H a)) (h1 : s.H x = none) (h2 : s.H dx = none) (h3 : dx ≠ x) (h4 : tl ≠ x) (h5 : upd (upd s.H dx (.own x)) x (.ins (iC K) dx []) tl = none) (mp : Mn K (hide s.hid s.H) p pv) :
    StepL K s.hid s.H L (x :: tl :: s.hid) (upd (upd (upd (upd s.H dx (.own x)) x (.ins (iC K) dx [])) tl (.lst [])) x (.ins (iC K) dx [("plan", pv), ("texts", .ref tl), ("rest", .str "")])) (L ++ [.ob x tl p [] ""]) := by
  have h6 : tl ≠ dx := fun z => by rw [z, upd_ne h3, upd_same] at h5; cases h5
  have h7 : s.H tl = none := by rw [upd_ne h4, upd_ne h6] at h5; exact h5
  let HF : Hp := upd (upd (upd (upd s.H dx (.own x)) x (.ins (iC K) dx [])) tl (.lst [])) x (.ins (iC K) dx [("plan", pv), ("texts", .ref tl), ("rest", .str "")])
  have fx : HF x = some (.ins (iC K) dx [("plan", pv), ("texts", .ref tl), ("rest", .str "")]) := upd_same
  have ft : HF tl = some (.lst []) := by show upd _ x _ tl = _; rw [upd_ne h4, upd_same]
  have out : ∀ b o, s.H b = some o → HF b = some o := fun b o e => by
    have n1 : b ≠ x := fun z => by rw [z, h1] at e; cases e
    have n2 : b ≠ tl := fun z => by rw [z, h7] at e; cases e
    have n3 : b ≠ dx := fun z => by rw [z, h2] at e; cases e
    show upd _ x _ b = _
    rw [upd_ne n1, upd_ne n2, upd_ne n1, upd_ne n3]
    exact e
  have ex : Ex s.H HF := .of out
  have w1 : Wx (hide s.hid s.H) (hide (x :: tl :: s.hid) HF) := by
    have := hide_new (hid := tl :: s.hid) (p := x) (new_of h1) ex
    rw [hide_cons h7] at this
    exact this
  have nx : x ∉ addrs L := fun z => by have := LD.li.isC x z; rw [h1] at this; exact this
  have nt : tl ∉ addrs L := fun z => by have := LD.li.isC tl z; rw [h7] at this; exact this
  have ea : addrs (L ++ [.ob x tl p [] ""]) = addrs L ++ [x, tl] := by unfold addrs; rw [List.flatMap_append]; rfl
  show StepL K s.hid s.H L (x :: tl :: s.hid) HF _
  refine ⟨ex.exL, fun a ha _ => List.mem_cons_of_mem _ (List.mem_cons_of_mem _ ha), fun a ha => ?_, fun a ha => ?_, ⟨fun e he => ?_, ?_, fun a ha => ?_⟩, fun a ha => ?_⟩
  · rcases List.mem_cons.mp ha with rfl | ha
    · exact .inr (new_of h1)
    · rcases List.mem_cons.mp ha with rfl | ha
      · exact .inr (new_of h7)
      · exact .inl ha
  · rcases List.mem_cons.mp ha with rfl | ha
    · rw [fx]; trivial
    · rcases List.mem_cons.mp ha with rfl | ha
      · rw [ft]; trivial
      · exact knd_ex ex knd a ha
  · rcases List.mem_append.mp he with he | he
    · exact (LD.li.ok e he).step (fun a ha => isC_ex ex (LD.li.isC a (List.mem_flatMap.mpr ⟨e, he, ha⟩))) w1
    · rw [List.mem_singleton] at he
      subst he
      exact ⟨dx, pv, fx, ft, Mn.mono w1 p pv mp⟩
  · rw [ea, List.nodup_append]
    refine ⟨LD.li.nd, by simp [Ne.symm h4], fun a ha b hb z => ?_⟩
    subst z
    simp only [List.mem_cons, List.not_mem_nil, or_false] at hb
    rcases hb with rfl | rfl
    · exact nx ha
    · exact nt ha
  · rw [ea] at ha
    rcases List.mem_append.mp ha with ha | ha
    · exact List.mem_cons_of_mem _ (List.mem_cons_of_mem _ (LD.li.hd a ha))
    · simp only [List.mem_cons, List.not_mem_nil, or_false] at ha
      rcases ha with rfl | rfl
      · exact List.mem_cons_self
      · exact List.mem_cons_of_mem _ List.mem_cons_self
  · rw [ea] at ha
    rcases List.mem_append.mp ha with ha | ha
    · exact .inl ha
    · simp only [List.mem_cons, List.not_mem_nil, or_false] at ha
      rcases ha with rfl | rfl
      · exact .inr (new_of h1)
      · exact .inr (new_of h7)
theorem fresh_look {K : PySem.W.Frag} {H0 : Hp} {s : Sx} {L : List Ent} {x : Addr} (LD : Led K H0 s L) (h : s.H x = none) : lookE (ledD true L) (excD x) = none := by
  cases q : lookE (ledD true L) (excD x) with
  | none => rfl
  | some r =>
    obtain ⟨a, ea, e, he, hd⟩ := lookE_led q
    have : x = a := by
      unfold excD at ea
      simp only [PyData.dict.injEq, List.cons.injEq, Prod.mk.injEq, and_true, true_and] at ea
      exact Int.ofNat.inj (PyData.int.inj ea)
    subst this
    have hx : x ∈ addrs L := by
      cases e with
      | ob b tl p ts r' =>
        simp only [Ent.d, PyData.tuple.injEq, List.cons.injEq, PyData.int.injEq] at hd
        have : b = x := Int.ofNat.inj hd.1
        exact List.mem_flatMap.mpr ⟨_, he, by rw [this]; simp [Ent.as]⟩
      | di b ps => simp [Ent.d] at hd
    have := LD.li.isC x hx
    rw [h] at this
    exact this.elim
theorem dss_make {iL : Nat} (i : Nat) {k : Nat} {x : Str} {e : Expr} {rest : List Stmt} {ge : GE} {g : GS} {p cpos pos' pos : Pos} (lf : LF F.O iL) (I : FnI F.P F.w F.K F.mg F.base k) (hk : k + 1 ≤ F.lv) (he : DE F .fz e ge) (hr : DSs F rm rest g) (hN : F.N[i]? = some x := by rfl) (hst : F.sto x = true := by rfl) (hO : F.O i = some false := by rfl)
    (hg : F.sn.lookup ("Intake" : Str) = some .globalImplicit := by rfl) (hs : ∀ env, swapsWith (.Call (.Name "Intake" p) [e] [] cpos) (some (.Name x pos')) pos.line env = pure false := by intro _; rfl)
    (hst2 : ∀ env, starEach [e] env = (false, eval e env) :: starEach [] env := by intro _; rfl) (hpl : ∀ env, (backTo cpos (starEach [] env)).any (·.1) = false := by intro _; rfl) (hh : F.hot = false := by rfl) : DSs F rm (.Assign [.Name x pos'] (.Call (.Name "Intake" p) [e] [] cpos) pos :: rest) (sMk iL i ge g) := by
  obtain ⟨fa, fd, ps, hF, hM, hb⟩ := I.ex
  obtain ⟨te, pe, se⟩ := he
  obtain ⟨tr, pr, sr⟩ := hr
  have hF' : ∀ j, FnOk (F.X j).prog (F.X j).w (F.X j).K (F.X j).mg (F.X j).base (L2N.CX F.P F.w) k fa fd ps (spI F.K) := fun j => fnok_at j hF
  refine ⟨tSeq (tAsg (tMake (iC F.K) (spI F.K) [] F.E (tCons te tNil)) (gName i)) tr, fun j => pss_cons (ps_set (by rw [F.hN]; exact F.nd) (by rw [F.hN]; exact hN) (F.hsto j x hst).1 (pe_make (C := iC F.K) (by rw [F.hK]; exact hM) (hF' j) ((F.room j).to (F.hd hh j) hk) (gl_of hg j) (by rw [F.hmg]; exact I.mg) (by rw [F.hK]; exact hb) .nil (F.pas j) (pa_cons (pe j) pa_nil (hst2 _)) (by decide) (hst2 _) (hpl _)) (hs _) (F.hsto j x hst).2) (pr j), fun H0 hid0 s ρ S Dn q => ?_⟩
  refine se H0 hid0 s ρ S _ ?_
  unfold sMk at q
  cases hd : ge ρ with
  | stuck => rw [hd] at q; exact q.elim
  | err c => rw [hd, bind_err] at q; exact fun H' e => q H' (S.ex0.trans e)
  | ok pd =>
    rw [hd, bind_ok] at q
    intro pv H1 e1 r1 y dx h1 h2 h3
    split at q
    case h_2 => exact q.elim
    rename_i es hl
    have S1 := S.ext e1
    obtain ⟨L, el, LD, fr⟩ := S1.ledM lf hl rfl
    refine ⟨y, dx, pv, rfl, upd_same, fun tl h4 h5 => ⟨rfl, ?_⟩⟩
    have st := made_step (p := pd) (pv := pv) LD S1.knd h1 h2 h3 h4 h5 r1
    obtain ⟨S3, w3⟩ := S1.stepL lf (List.getElem?_eq_some_iff.mp hl).1 LD fr st
    have S4 := S3.set (i := i) (d := excD y) (x := .ref y) hO mn_excD
    have fl := fresh_look LD h1
    have key := uni_at (P := fun a => lookE (.list es) (excD a) = none) (k := fun a => g ((ρ.set iL (some (.list (es ++ [.tuple [.int (a : Nat), pd, .list [], .str ""]])))).set i (some (excD a)))) (a := y) (by rw [el]; exact fl)
    rcases key with z | z
    · rw [z] at q
      exact q.elim
    · rw [z] at q
      have ee : PyData.list (es ++ [.tuple [.int (y : Nat), pd, .list [], .str ""]]) = ledD true (L ++ [.ob y tl pd [] ""]) := by
        have : es = L.map Ent.d := PyData.list.inj el
        show _ = PyData.list _
        rw [this, List.map_append]
        rfl
      rw [ee] at q
      exact sr H0 hid0 _ _ S4 Dn (WS.mono ((hide_mono e1).trans w3) q)
end
end DL
set_option Elab.async false
set_option linter.all false
set_option maxRecDepth 100000
set_option maxHeartbeats 4000000
namespace DL
open PySem PySem.Spec PyProof.Rows L2
variable [TabsC]
/-! ### x, y, z = Intake(..), Intake(..), Intake(..) -/
def tPar3 (i j k : Nat) (ta : TA) : TS := fun D σ H => ta σ H fun vs H1 => ∃ u v w, vs = [u, v, w] ∧ D.nx (((σ.set i (some u)).set j (some v)).set k (some w)) H1
theorem ps_par3 {X : Cx} {i j k : Nat} {x y z : Str} {a b c : Expr} {ta : TA} {px py pz pt pos : Pos} {kt k2 pt2} (hc : X.calm = true) (hN : X.N.Nodup) (hi : X.N[i]? = some x) (hj : X.N[j]? = some y) (hk : X.N[k]? = some z) (hij : i ≠ j) (hik : i ≠ k) (hjk : j ≠ k)
    (hx : X.env.scope.names.lookup x = some .local) (hy : X.env.scope.names.lookup y = some .local) (hz : X.env.scope.names.lookup z = some .local) (ha : PA X [a, b, c] ta)
    (hw : swappedStores [.Tuple [.Name x px, .Name y py, .Name z pz] kt pt] (.Tuple [a, b, c] k2 pt2) X.env = pure (some [x, y, z]))
    (hs : swapsWithSole [.Tuple [.Name x px, .Name y py, .Name z pz] kt pt] (.Tuple [a, b, c] k2 pt2) pos.line X.env = pure false := by rfl) :
    PS X (.Assign [.Tuple [.Name x px, .Name y py, .Name z pz] kt pt] (.Tuple [a, b, c] k2 pt2) pos) (tPar3 i j k ta) := by
  refine ⟨fun pins s σ H D I h => ?_⟩
  rw [exec_Assign_arm]
  refine wpAny_bind (wpAny_standAt ?_)
  rw [hs]
  refine wpAny_bind (wpAny_pure ?_)
  rw [if_neg (by decide)]
  refine wpAny_bind (Tuple_ (thn (ha.run _ pins s σ H _ I h) fun us s1 ⟨vs, H1, I1, r1, q1⟩ => ?_))
  obtain ⟨v, w, t, e1, q1⟩ := q1
  subst e1
  obtain ⟨u1, u2, u3, rfl, rv, rw', rt⟩ : ∃ u1 u2 u3, us = [u1, u2, u3] ∧ RelV v u1 ∧ RelV w u2 ∧ RelV t u3 := by
    cases r1 with
    | cons p q =>
      cases q with
      | cons p' q' =>
        cases q' with
        | cons p'' q'' =>
          cases q''
          exact ⟨_, _, _, rfl, p, p', p''⟩
  refine wpAny_newObj_type ?_ (by show 3 ≤ sizeLine; decide)
  have I2 : Inv X pins σ H1 { s1 with heap := s1.heap.push { cls := .type "tuple", data := .seq [u1, u2, u3].toArray } } := I1.kept (t' := s1.toks) fun b o e => Heap.get?_push_of_some _ e
  rw [hw]
  refine wpAny_bind (wpAny_pure ?_)
  show wpAny (model X.prog X.w) X.A (do rule "assign.swapped-stores"; let items ← unpackItems (.ref s1.heap.objs.size) 3 none; assignInOrder [fun v => bindName X.env z v, fun v => bindName X.env y v, fun v => bindName X.env x v] items.reverse; pure Flow.next) _ _ _
  refine wpAny_bind (wpAny_rule (wpAny_bind (unpackItems_tuple (items := #[u1, u2, u3]) (I.ok.hd hc) (IsTup.new s1.heap _) fun h' hx' => ?_)))
  have I3 := I2.kept (h' := h') (t' := s1.toks) fun b o e => hx' b o (Nat.ne_of_lt (Heap.lt_size e)) e
  show wpAny _ _ (assignInOrder [fun v => bindName X.env z v, fun v => bindName X.env y v, fun v => bindName X.env x v] [u3, u2, u1] >>= fun _ => pure Flow.next) _ _ _
  refine wpAny_bind (assignInOrder_cons (wpAny_bindName (store_ok I3 hN hk (.inl hz) rt (fun s2 I4 => ?_) (.inr hz))))
  refine assignInOrder_cons (wpAny_bindName (store_ok I4 hN hj (.inl hy) rw' (fun s3 I5 => ?_) (.inr hy)))
  refine assignInOrder_cons (wpAny_bindName (store_ok I5 hN hi (.inl hx) rv (fun s4 I6 => assignInOrder_nil (wpAny_pure ?_)) (.inr hx)))
  rw [List.set_comm _ _ (Ne.symm hij), List.set_comm _ _ (Ne.symm hik)] at I6
  rw [List.set_comm _ _ (Ne.symm hjk)] at I6
  exact ⟨_, H1, I6, q1⟩
def Em (a : Addr) (p : D) : D := .tuple [.int (a : Nat), p, .list [], .str ""]
section
variable {F : Fam} {rm : Md}
theorem sem_mk {iL : Nat} {te : TE} {ge : GE} {H0 : Hp} {hid0 : List Addr} {s : Sx} {ρ : Env} {Q : VK} {es : List D} {pd : D} (lf : LF F.O iL) (se : SemE F .fz te ge) (S : Sees F.K H0 hid0 F.O s ρ) (hd : ge ρ = .ok pd) (hl : ρ[iL]? = some (some (.list es)))
    (k : ∀ (a : Addr) (s' : Sx), s'.σ = s.σ → Sees F.K H0 hid0 F.O s' (ρ.set iL (some (.list (es ++ [Em a pd])))) → Wx (hide s.hid s.H) (hide s'.hid s'.H) → lookE (.list es) (excD a) = none → Q (.ref a) s'.H) : tMake (iC F.K) (spI F.K) [] F.E (tCons te tNil) s.σ s.H Q := by
  refine se H0 hid0 s ρ S _ ?_
  rw [hd]
  intro pv H1 e1 r1 y dx h1 h2 h3
  have S1 := S.ext e1
  obtain ⟨L, el, LD, fr⟩ := S1.ledM lf hl rfl
  refine ⟨y, dx, pv, rfl, upd_same, fun tl h4 h5 => ⟨rfl, ?_⟩⟩
  have st := made_step (p := pd) (pv := pv) LD S1.knd h1 h2 h3 h4 h5 r1
  obtain ⟨S3, w3⟩ := S1.stepL lf (List.getElem?_eq_some_iff.mp hl).1 LD fr st
  have fl := fresh_look LD h1
  have ee : PyData.list (es ++ [Em y pd]) = ledD true (L ++ [.ob y tl pd [] ""]) := by
    have : es = L.map Ent.d := PyData.list.inj el
    show _ = PyData.list _
    rw [this, List.map_append]
    rfl
  rw [← ee] at S3
  exact k y { s with hid := y :: tl :: s.hid, H := _ } rfl S3 ((hide_mono e1).trans w3) (by rw [el]; exact fl)
noncomputable def sMk3 (iL i j k : Nat) (g1 g2 g3 : GE) (g : GS) : GS := fun ρ => (g1 ρ).bind fun p1 => match ρ[iL]? with
  | some (some (.list es)) => uni (fun a => lookE (.list es) (excD a) = none) fun a => (g2 (ρ.set iL (some (.list (es ++ [Em a p1]))))).bind fun p2 =>
    uni (fun b => lookE (.list (es ++ [Em a p1])) (excD b) = none) fun b => (g3 ((ρ.set iL (some (.list (es ++ [Em a p1])))).set iL (some (.list (es ++ [Em a p1] ++ [Em b p2]))))).bind fun p3 =>
      uni (fun c => lookE (.list (es ++ [Em a p1] ++ [Em b p2])) (excD c) = none) fun c =>
        g ((((((ρ.set iL (some (.list (es ++ [Em a p1])))).set iL (some (.list (es ++ [Em a p1] ++ [Em b p2])))).set iL (some (.list (es ++ [Em a p1] ++ [Em b p2] ++ [Em c p3])))).set i (some (excD a))).set j (some (excD b))).set k (some (excD c)))
  | _ => .stuck
theorem dss_make3 {iL : Nat} (i j k : Nat) {n : Nat} {x y z : Str} {e1 e2 e3 : Expr} {rest : List Stmt} {g1 g2 g3 : GE} {g : GS} {q1 q2 q3 c1 c2 c3 px py pz pt pt2 pos : Pos} {kt k2 : Nat} (lf : LF F.O iL) (I : FnI F.P F.w F.K F.mg F.base n) (hn : n + 1 ≤ F.lv) (h1 : DE F .fz e1 g1) (h2 : DE F .fz e2 g2) (h3 : DE F .fz e3 g3) (hr : DSs F rm rest g)
    (hi : F.N[i]? = some x := by rfl) (hj : F.N[j]? = some y := by rfl) (hk : F.N[k]? = some z := by rfl) (hij : i ≠ j := by decide) (hik : i ≠ k := by decide) (hjk : j ≠ k := by decide)
    (hx : F.sn.lookup x = some .local := by rfl) (hy : F.sn.lookup y = some .local := by rfl) (hz : F.sn.lookup z = some .local := by rfl) (hOi : F.O i = some false := by rfl) (hOj : F.O j = some false := by rfl) (hOk : F.O k = some false := by rfl)
    (hg : F.sn.lookup ("Intake" : Str) = some .globalImplicit := by rfl)
    (hw : ∀ env : PySem.Env, env.scope.names = F.sn → env.scope.kind = .function → swappedStores [.Tuple [.Name x px, .Name y py, .Name z pz] kt pt] (.Tuple [.Call (.Name "Intake" q1) [e1] [] c1, .Call (.Name "Intake" q2) [e2] [] c2, .Call (.Name "Intake" q3) [e3] [] c3] k2 pt2) env = pure (some [x, y, z]) := by intro env h1 h2; unfold swappedStores PySem.Env.blockKind PySem.Env.kindOf; simp only [h1, h2]; rfl)
    (hs : ∀ env, swapsWithSole [.Tuple [.Name x px, .Name y py, .Name z pz] kt pt] (.Tuple [.Call (.Name "Intake" q1) [e1] [] c1, .Call (.Name "Intake" q2) [e2] [] c2, .Call (.Name "Intake" q3) [e3] [] c3] k2 pt2) pos.line env = pure false := by intro _; rfl)
    (s1 : ∀ env, starEach [e1] env = (false, eval e1 env) :: starEach [] env := by intro _; rfl) (s2 : ∀ env, starEach [e2] env = (false, eval e2 env) :: starEach [] env := by intro _; rfl) (s3 : ∀ env, starEach [e3] env = (false, eval e3 env) :: starEach [] env := by intro _; rfl)
    (l1 : ∀ env, (backTo c1 (starEach [] env)).any (·.1) = false := by intro _; rfl) (l2 : ∀ env, (backTo c2 (starEach [] env)).any (·.1) = false := by intro _; rfl) (l3 : ∀ env, (backTo c3 (starEach [] env)).any (·.1) = false := by intro _; rfl)
    (m1 : ∀ env (es : List Expr), starEach (.Call (.Name "Intake" q1) [e1] [] c1 :: es) env = (false, eval (.Call (.Name "Intake" q1) [e1] [] c1) env) :: starEach es env := by intro _ _; rfl) (m2 : ∀ env (es : List Expr), starEach (.Call (.Name "Intake" q2) [e2] [] c2 :: es) env = (false, eval (.Call (.Name "Intake" q2) [e2] [] c2) env) :: starEach es env := by intro _ _; rfl) (m3 : ∀ env (es : List Expr), starEach (.Call (.Name "Intake" q3) [e3] [] c3 :: es) env = (false, eval (.Call (.Name "Intake" q3) [e3] [] c3) env) :: starEach es env := by intro _ _; rfl) (hh : F.hot = false := by rfl) :
    DSs F rm (.Assign [.Tuple [.Name x px, .Name y py, .Name z pz] kt pt] (.Tuple [.Call (.Name "Intake" q1) [e1] [] c1, .Call (.Name "Intake" q2) [e2] [] c2, .Call (.Name "Intake" q3) [e3] [] c3] k2 pt2) pos :: rest) (sMk3 iL i j k g1 g2 g3 g) := by
  obtain ⟨fa, fd, ps, hF, hM, hb⟩ := I.ex
  obtain ⟨t1, p1, r1⟩ := h1
  obtain ⟨t2, p2, r2⟩ := h2
  obtain ⟨t3, p3, r3⟩ := h3
  obtain ⟨tr, pr, sr⟩ := hr
  have mk : ∀ (l : F.ι) {q c : Pos} {e : Expr} {te : TE}, PE (F.X l) e te → starEach [e] (F.X l).env = (false, eval e (F.X l).env) :: starEach [] (F.X l).env → (backTo c (starEach [] (F.X l).env)).any (·.1) = false → PE (F.X l) (.Call (.Name "Intake" q) [e] [] c) (tMake (iC F.K) (spI F.K) [] F.E (tCons te tNil)) := fun l q c e te pe st pl =>
    pe_make (C := iC F.K) (by rw [F.hK]; exact hM) (fnok_at l hF) ((F.room l).to (F.hd hh l) hn) (gl_of hg l) (by rw [F.hmg]; exact I.mg) (by rw [F.hK]; exact hb) .nil (F.pas l) (pa_cons pe pa_nil st) (by decide) st pl
  refine ⟨tSeq (tPar3 i j k (tCons (tMake (iC F.K) (spI F.K) [] F.E (tCons t1 tNil)) (tCons (tMake (iC F.K) (spI F.K) [] F.E (tCons t2 tNil)) (tCons (tMake (iC F.K) (spI F.K) [] F.E (tCons t3 tNil)) tNil)))) tr,
    fun l => pss_cons (ps_par3 (F.calm hh l) (by rw [F.hN]; exact F.nd) (by rw [F.hN]; exact hi) (by rw [F.hN]; exact hj) (by rw [F.hN]; exact hk) hij hik hjk (by rw [F.hsn]; exact hx) (by rw [F.hsn]; exact hy) (by rw [F.hsn]; exact hz)
      (pa_cons (mk l (p1 l) (s1 _) (l1 _)) (pa_cons (mk l (p2 l) (s2 _) (l2 _)) (pa_cons (mk l (p3 l) (s3 _) (l3 _)) pa_nil (m3 _ _)) (m2 _ _)) (m1 _ _)) (hw _ (F.hsn l) (F.hki l)) (hs _)) (pr l), fun H0 hid0 s ρ S Dn q => ?_⟩
  unfold sMk3 at q
  have stuckE : ∀ {o : Out D} {f : D → Out Fl}, (∀ p, o ≠ .ok p) → (∀ c, o ≠ .err c) → o.bind f = .stuck := fun {o f} h h' => by
    cases o with
    | ok p => exact absurd rfl (h p)
    | err c => exact absurd rfl (h' c)
    | stuck => rfl
  cases e1' : g1 ρ with
  | stuck => rw [e1'] at q; exact q.elim
  | err c =>
    rw [e1', bind_err] at q
    show t1 s.σ s.H _
    refine r1 H0 hid0 s ρ S _ ?_
    rw [e1']
    exact fun H' e => q H' (S.ex0.trans e)
  | ok d1 =>
    rw [e1', bind_ok] at q
    obtain ⟨es, hl⟩ : ∃ es, ρ[iL]? = some (some (.list es)) := by
      cases hl : ρ[iL]? with
      | none => rw [hl] at q; exact q.elim
      | some l0 =>
        cases l0 with
        | none => rw [hl] at q; exact q.elim
        | some l => cases l <;> first | exact ⟨_, rfl⟩ | (rw [hl] at q; exact q.elim)
    rw [hl] at q
    dsimp only at q
    have hlt := (List.getElem?_eq_some_iff.mp hl).1
    show tMake (iC F.K) (spI F.K) [] F.E (tCons t1 tNil) s.σ s.H (fun v1 H1 => tMake (iC F.K) (spI F.K) [] F.E (tCons t2 tNil) s.σ H1 (fun v2 H2 => tMake (iC F.K) (spI F.K) [] F.E (tCons t3 tNil) s.σ H2 (fun v3 H3 => ∃ u v w, [v1, v2, v3] = [u, v, w] ∧ tr Dn (((s.σ.set i (some u)).set j (some v)).set k (some w)) H3)))
    refine sem_mk lf r1 S e1' hl fun a sa ea Sa wa fa' => ?_
    rcases uni_at (k := fun a => (g2 (ρ.set iL (some (.list (es ++ [Em a d1]))))).bind fun p2 =>
      uni (fun b => lookE (.list (es ++ [Em a d1])) (excD b) = none) fun b => (g3 ((ρ.set iL (some (.list (es ++ [Em a d1])))).set iL (some (.list (es ++ [Em a d1] ++ [Em b p2]))))).bind fun p3 =>
        uni (fun c => lookE (.list (es ++ [Em a d1] ++ [Em b p2])) (excD c) = none) fun c =>
          g ((((((ρ.set iL (some (.list (es ++ [Em a d1])))).set iL (some (.list (es ++ [Em a d1] ++ [Em b p2])))).set iL (some (.list (es ++ [Em a d1] ++ [Em b p2] ++ [Em c p3])))).set i (some (excD a))).set j (some (excD b))).set k (some (excD c)))) (P := fun a => lookE (.list es) (excD a) = none) fa' with u | u
    · rw [u] at q; exact q.elim
    rw [u] at q
    try dsimp only at q
    cases e2' : g2 (ρ.set iL (some (.list (es ++ [Em a d1])))) with
    | stuck => rw [e2'] at q; exact q.elim
    | err c =>
      rw [e2', bind_err] at q
      rw [← ea]
      refine r2 H0 hid0 sa _ Sa _ ?_
      rw [e2']
      exact fun H' e => q H' (Sa.ex0.trans e)
    | ok d2 =>
      rw [e2', bind_ok] at q
      have hl2 : (ρ.set iL (some (.list (es ++ [Em a d1]))))[iL]? = some (some (.list (es ++ [Em a d1]))) := List.getElem?_set_self hlt
      rw [← ea]
      refine sem_mk lf r2 Sa e2' hl2 fun b sb eb Sb wb fb' => ?_
      rcases uni_at (k := fun b => (g3 ((ρ.set iL (some (.list (es ++ [Em a d1])))).set iL (some (.list (es ++ [Em a d1] ++ [Em b d2]))))).bind fun p3 =>
        uni (fun c => lookE (.list (es ++ [Em a d1] ++ [Em b d2])) (excD c) = none) fun c =>
          g ((((((ρ.set iL (some (.list (es ++ [Em a d1])))).set iL (some (.list (es ++ [Em a d1] ++ [Em b d2])))).set iL (some (.list (es ++ [Em a d1] ++ [Em b d2] ++ [Em c p3])))).set i (some (excD a))).set j (some (excD b))).set k (some (excD c)))) (P := fun b => lookE (.list (es ++ [Em a d1])) (excD b) = none) fb' with u | u
      · rw [u] at q; exact q.elim
      rw [u] at q
      try dsimp only at q
      cases e3' : g3 ((ρ.set iL (some (.list (es ++ [Em a d1])))).set iL (some (.list (es ++ [Em a d1] ++ [Em b d2])))) with
      | stuck => rw [e3'] at q; exact q.elim
      | err c =>
        rw [e3', bind_err] at q
        rw [← eb]
        refine r3 H0 hid0 sb _ Sb _ ?_
        rw [e3']
        exact fun H' e => q H' (Sb.ex0.trans e)
      | ok d3 =>
        rw [e3', bind_ok] at q
        have hl3 : ((ρ.set iL (some (.list (es ++ [Em a d1])))).set iL (some (.list (es ++ [Em a d1] ++ [Em b d2]))))[iL]? = some (some (.list (es ++ [Em a d1] ++ [Em b d2]))) := List.getElem?_set_self (by rw [List.length_set]; exact hlt)
        rw [← eb]
        refine sem_mk lf r3 Sb e3' hl3 fun c sc ec Sc wc fc' => ?_
        rcases uni_at (k := fun c => g ((((((ρ.set iL (some (.list (es ++ [Em a d1])))).set iL (some (.list (es ++ [Em a d1] ++ [Em b d2])))).set iL (some (.list (es ++ [Em a d1] ++ [Em b d2] ++ [Em c d3])))).set i (some (excD a))).set j (some (excD b))).set k (some (excD c)))) (P := fun c => lookE (.list (es ++ [Em a d1] ++ [Em b d2])) (excD c) = none) fc' with u | u
        · rw [u] at q; exact q.elim
        rw [u] at q
        try dsimp only at q
        have S4 := ((Sc.set (i := i) (d := excD a) (x := .ref a) hOi mn_excD).set (i := j) (d := excD b) (x := .ref b) hOj mn_excD).set (i := k) (d := excD c) (x := .ref c) hOk mn_excD
        refine ⟨.ref a, .ref b, .ref c, rfl, ?_⟩
        have z := sr H0 hid0 _ _ S4 Dn (WS.mono ((wa.trans wb).trans wc) q)
        rw [← ec]
        exact z
end
end DL
set_option Elab.async false
set_option linter.all false
set_option maxRecDepth 100000
set_option maxHeartbeats 4000000
namespace DL
open PySem PySem.Spec PyProof.Rows L2
variable [TabsC]
/-! ### a text, some times -/
def repX (n : Nat) (a : Str) : Str := ⟨(List.replicate n a.cps).foldl (· ++ ·) #[]⟩
def mulX (a : Str) (n : Int) : Str := if n < 1 then Str.empty else if (n == 1 || a.length == 0) = true then a else repX n.toNat a
theorem fold_cps : ∀ (L : List (Array Nat)) (acc : Array Nat), (L.foldl (· ++ ·) acc).toList = acc.toList ++ L.flatMap (·.toList)
  | [], acc => by simp
  | x :: L, acc => by
    rw [List.foldl_cons, fold_cps L, List.flatMap_cons]
    simp
theorem repX_tl (n : Nat) (a : Str) : (repX n a).cps.toList = (List.replicate n a.cps.toList).flatten := by
  show ((List.replicate n a.cps).foldl (· ++ ·) #[]).toList = _
  rw [fold_cps]
  show [] ++ _ = _
  rw [List.nil_append, List.flatMap_def, List.map_replicate]
theorem repX_len (n : Nat) (a : Str) : (repX n a).length = n * a.length := by
  rw [TL.len_tl, TL.len_tl]
  show (repX n a).cps.toList.length = n * a.cps.toList.length
  rw [repX_tl]
  induction n with
  | zero => simp
  | succ n ih => rw [List.replicate_succ, List.flatten_cons, List.length_append, ih, Nat.succ_mul]; omega
def rMulS : R2 := fun x y H Q => ∃ (a : Str) (n : Int), x = .str a ∧ y = .int n ∧ 0 ≤ n ∧ n ≤ 64 ∧ a.length ≤ 10000 ∧ Q (.str (mulX a n)) H
theorem op_mulS {X : Cx} : OpR X (binaryOp .Mult) rMulS := by
  intro pins s σ H x y v u Q I rx ry h
  obtain ⟨a, n, rfl, rfl, h0, h1, hl, q⟩ := h
  obtain ⟨t, rfl⟩ := rx
  obtain ⟨t2, rfl⟩ := ry
  have hm : a.length * n.toNat ≤ 10000 * 64 := Nat.mul_le_mul hl (by omega)
  refine P.mul_str ?_ (fun hn _ => ?_) (fun _ _ => ?_) ?_
  · have a1 : ¬ n < -(2 ^ 63 : Int) := by omega
    have a2 : ¬ n ≥ 2 ^ 63 := by omega
    rw [decide_eq_false a1, decide_eq_false a2]
    rfl
  · have : (10000 : Int) ≤ ((2 : Int) ^ 63 - 1) / n := (Int.le_ediv_iff_mul_le (by omega)).mpr (by omega)
    omega
  · unfold Builtin.Str.tooLong
    exact decide_eq_false (by rw [sizeLine_eq]; omega)
  · unfold mulX at q
    by_cases c : n < 1
    · rw [if_pos c] at q ⊢
      exact ⟨by decide, .str Str.empty, H, I.tok _, ⟨_, rfl⟩, q⟩
    · rw [if_neg c] at q ⊢
      by_cases z : (n == 1 || a.length == 0) = true
      · rw [if_pos z] at q ⊢
        exact ⟨.str a, H, I, ⟨t, rfl⟩, q⟩
      · rw [if_neg z] at q ⊢
        refine ⟨?_, .str (repX n.toNat a), H, I.tok _, ⟨_, rfl⟩, q⟩
        have := repX_len n.toNat a
        show (repX n.toNat a).length ≤ _
        rw [this, sizeLine_eq, Nat.mul_comm]
        omega
def dMulS : D → D → Option D
  | .str a, .int n => if 0 ≤ n ∧ n ≤ 64 ∧ a.length ≤ 10000 then some (.str (mulX a n)) else none
  | _, _ => none
section
variable {F : Fam} {K : PySem.W.Frag}
theorem ops_mulS {m : Md} : OpS K m rMulS dMulS := fun hid H d e z x y Q dom rx ry hf q => by
  unfold dMulS at hf
  split at hf
  · split at hf
    · rename_i hc
      cases hf
      have := bo_str rx
      subst this
      have := bo_int ry
      subst this
      exact ⟨_, _, rfl, rfl, hc.1, hc.2.1, hc.2.2, q _ _ (Ex.refl _) rm_str⟩
    · cases hf
  · cases hf
theorem de_mulS {m ma mb : Md} {a b : Expr} {ga gb : GE} {pos : Pos} (ha : DE F ma a ga) (hb : DE F mb b gb) : DE F m (.BinOp a .Mult b pos) (e2 dMulS ga gb) :=
  de_op (fun _ => op_mulS) ops_mulS ha hb
end
end DL
set_option Elab.async false
set_option linter.all false
set_option maxRecDepth 100000
set_option maxHeartbeats 4000000
namespace DL
open PySem PySem.Spec PyProof.Rows L2
variable [TabsC]
def topS (i : Nat) : Stmt := PySem.Challenge.pw_heapintake_k36_whole_what_waits.main.body.getD i (.Pass ⟨0, 0, 0, 0⟩)
def mthS (i j : Nat) : Stmt := match topS i with
  | .ClassDef _ _ _ b _ _ _ _ _ _ _ => b.getD j (.Pass ⟨0, 0, 0, 0⟩)
  | s => s
structure Wd (K : PySem.W.Frag) (mg : Str → Option Value) (cl : Nat → Value) : Prop where
  c_FIGURES : ∃ t, mg "FIGURES" = some (.str "0123456789" t)
  c_LETTERS : ∃ t, mg "LETTERS" = some (.str "abcdefghijklmnopqrstuvwxyz" t)
  c_LONGEST : ∃ t, mg "LONGEST" = some (.int 5 t)
  c_MOST_TEXTS : ∃ t, mg "MOST_TEXTS" = some (.int 40 t)
  c_NONE : ∃ t, mg "NONE" = some (.str "-" t)
  c_ROW_END : ∃ t, mg "ROW_END" = some (.str "\n" t)
  b_all : mg "all" = none
  b_dict : mg "dict" = none
  b_enumerate : mg "enumerate" = none
  b_int : mg "int" = none
  b_isinstance : mg "isinstance" = none
  b_len : mg "len" = none
  b_max : mg "max" = none
  b_range : mg "range" = none
  b_set : mg "set" = none
  b_sorted : mg "sorted" = none
  b_str : mg "str" = none
  b_tuple : mg "tuple" = none
  x_NoRow : ExD K mg cl "NoRow" 1
section
variable {P : Program} {w : World} {K : PySem.W.Frag} {mg : Str → Option Value} {base : Heap} {cl : Nat → Value}
def N_is_name : List Str := ["thing", "sign"]
def O_is_name : Nat → Option Bool := fun i => some (false)
def g_is_name : GS := (sRet (eAnd (e1 (dIsi "str") (eVar 0)) (eAnd (eCh dLe dLe (eC (.int 1)) (eCl (f1 dLen) (aCons (eVar 0) aNil)) (eC (.int 5))) (eCl (f1 dAll) (aCons (eLc (iSeq (eVar 0)) (tgN 1) gYes (e2 (dIn false) (eVar 1) (eC (.str "abcdefghijklmnopqrstuvwxyz"))) [1]) aNil)))))
def f_is_name : List D → Out D := runD 2 1 g_is_name
theorem sc_is_name : FnScope N_is_name ["thing"] (defScope (topS 9)) := ⟨rfl, rfl, rfl, by decide +kernel, rfl, by decide +kernel, by decide +kernel⟩
theorem fn_is_name (W : Wd K mg cl) {f : Addr} {fd : FuncData} (F : Fun K "is_name" "is_name" (topS 9) f fd) (hm : mg "is_name" = some (.ref f)) (hb : L2.Binds K fd ["thing"] []) : FnD P w K mg base cl "is_name" 1 .fz 1 f_is_name :=
  fnD (N := N_is_name) (ps := ["thing"]) (O := O_is_name) (k := 0) (g := g_is_name) F sc_is_name hm hb rfl (by decide) (by decide) fun cdv E =>
    (dss_one (ds_ret (de_and (de_isi (m := .fz) (T := "str") W.b_isinstance W.b_str (by decide +kernel) (de_var 0)) (de_and (dc_e (de_chain (m := .fz) o_le o_le (de_int (m := .fz)) (de_len (m := .fz) W.b_len (de_var 0)) (de_gint (m := .fz) W.c_LONGEST))) (de_one (de_all (m := .fz) W.b_all (de_lc [("sign", 1)] rfl (by show blkC N_is_name (scOf (defScope (topS 9)).names) _ _ = true; decide +kernel) (di_seq (m := .fz) (de_var 0)) (dg_name 1) dts_nil (dc_e (de_in (m := .fz) (de_var 1) (de_gstr (m := .fz) W.c_LETTERS))) (by decide))))))))
def N_amount_in : List Str := ["word", "sign"]
def O_amount_in : Nat → Option Bool := fun i => some (false)
def k_amount_in_2 : GS := (sRet (eCl (f1 dInt) (aCons (eVar 0) aNil)))
def g_amount_in : GS := (sSeq (sIf (gOr (gNot (tV (eCh dLe dLe (eC (.int 1)) (eCl (f1 dLen) (aCons (eVar 0) aNil)) (eC (.int 3))))) (gOr (gNot (tV (eCl (f1 dAll) (aCons (eLc (iSeq (eVar 0)) (tgN 1) gYes (e2 (dIn false) (eVar 1) (eC (.str "0123456789"))) [1]) aNil)))) (tV (e2 dNe (eCl (f1 dStr) (aCons (eCl (f1 dInt) (aCons (eVar 0) aNil)) aNil)) (eVar 0))))) (sRet (eC .none)) sNil) k_amount_in_2)
def f_amount_in : List D → Out D := runD 2 1 g_amount_in
theorem sc_amount_in : FnScope N_amount_in ["word"] (defScope (topS 10)) := ⟨rfl, rfl, rfl, by decide +kernel, rfl, by decide +kernel, by decide +kernel⟩
theorem fn_amount_in (W : Wd K mg cl) {f : Addr} {fd : FuncData} (F : Fun K "amount_in" "amount_in" (topS 10) f fd) (hm : mg "amount_in" = some (.ref f)) (hb : L2.Binds K fd ["word"] []) : FnD P w K mg base cl "amount_in" 1 .fz 1 f_amount_in :=
  fnD (N := N_amount_in) (ps := ["word"]) (O := O_amount_in) (k := 0) (g := g_amount_in) F sc_amount_in hm hb rfl (by decide) (by decide) fun cdv E =>
    (dss_cons (ds_if (dw_t (dw_or (dt_not (dc_t (de_chain (m := .fz) o_le o_le (de_int (m := .fz)) (de_len (m := .fz) W.b_len (de_var 0)) (de_int (m := .fz))))) (dw_or (dt_not (dt_val (de_all (m := .fz) W.b_all (de_lc [("sign", 1)] rfl (by show blkC N_amount_in (scOf (defScope (topS 10)).names) _ _ = true; decide +kernel) (di_seq (m := .fz) (de_var 0)) (dg_name 1) dts_nil (dc_e (de_in (m := .fz) (de_var 1) (de_gstr (m := .fz) W.c_FIGURES))) (by decide))))) (dw_or1 (dc_t (de_ne (m := .fz) (de_strc (m := .fz) W.b_str (de_intc (m := .fz) W.b_int (de_var 0))) (de_var 0))))))) (dss_one (ds_ret (de_non (m := .fz)))) dss_nil) (dss_one (ds_ret (de_intc (m := .fz) W.b_int (de_var 0)))))
def N_faults : List Str := ["plan", "text", "words", "found", "amount"]
def O_faults : Nat → Option Bool := fun i => some (i == 3)
def k_faults_9 : GS := (sRet (eCl (f1 dTuple) (aCons (eVar 3) aNil)))
def k_faults_8 : GS := (sSeq (sIf (tV (e2 (dIn true) (e2 dIx (eVar 2) (eC (.int 3))) (e2 dIx (eVar 0) (eC (.int 2))))) (sApp 3 (eC (.str "tag"))) sNil) k_faults_9)
def k_faults_7 : GS := (sSeq (sIf (gOr (tV (e1 (dIsN false) (eVar 4))) (gNot (tV (eCh dLe dLe (e2 dIx (eVar 0) (eC (.int 0))) (eVar 4) (e2 dIx (eVar 0) (eC (.int 1))))))) (sApp 3 (eC (.str "amount"))) sNil) k_faults_8)
def k_faults_6 : GS := (sSeq (sIf (gAnd (tV (e2 dNe (e2 dIx (eVar 2) (eC (.int 1))) (eC (.str "-")))) (gNot (tV (eCall f_is_name (aCons (e2 dIx (eVar 2) (eC (.int 1))) aNil))))) (sApp 3 (eC (.str "parent"))) sNil) k_faults_7)
def k_faults_5 : GS := (sSeq (sIf (gNot (tV (eCall f_is_name (aCons (e2 dIx (eVar 2) (eC (.int 0))) aNil)))) (sApp 3 (eC (.str "key"))) sNil) k_faults_6)
def k_faults_4 : GS := (sSeq (sSet 4 (eCall f_amount_in (aCons (e2 dIx (eVar 2) (eC (.int 2))) aNil))) k_faults_5)
def k_faults_3 : GS := (sSeq (sOwn 3 (eLst aNil)) k_faults_4)
def k_faults_2 : GS := (sSeq (sIf (gOr (tV (e2 dNe (eCl (f1 dLen) (aCons (eVar 2) aNil)) (eC (.int 4)))) (tV (e2 (dIn false) (eC (.str "")) (eVar 2)))) (sRet (eTup (aCons (eC (.str "count")) aNil))) sNil) k_faults_3)
def g_faults : GS := (sSeq (sSet 2 (eM1 dSplit (eVar 1) (eC (.str " ")))) k_faults_2)
def f_faults : List D → Out D := runD 5 2 g_faults
theorem sc_faults : FnScope N_faults ["plan", "text"] (defScope (topS 12)) := ⟨rfl, rfl, rfl, by decide +kernel, rfl, by decide +kernel, by decide +kernel⟩
theorem fn_faults (W : Wd K mg cl) (h_amount_in : FnD P w K mg base cl "amount_in" 1 .fz 1 f_amount_in) (h_is_name : FnD P w K mg base cl "is_name" 1 .fz 1 f_is_name) {f : Addr} {fd : FuncData} (F : Fun K "faults" "faults" (topS 12) f fd) (hm : mg "faults" = some (.ref f)) (hb : L2.Binds K fd ["plan", "text"] []) : FnD P w K mg base cl "faults" 2 .fz 2 f_faults :=
  fnD (N := N_faults) (ps := ["plan", "text"]) (O := O_faults) (k := 1) (g := g_faults) F sc_faults hm hb rfl (by decide) (by decide) fun cdv E =>
    (dss_cons (ds_set 2 (de_fz (de_split (de_var 1) (de_str (m := .fz))))) (dss_cons (ds_if (dw_t (dw_or (dc_t (de_ne (m := .fz) (de_len (m := .fz) W.b_len (de_var 2)) (de_int (m := .fz)))) (dw_or1 (dc_t (de_in (m := .fz) (de_str (m := .fz)) (de_var 2)))))) (dss_one (ds_ret (de_tup (m := .fz) (da_cons (de_str (m := .fz)) da_nil)))) dss_nil) (dss_cons (ds_setO 3 (de_lst da_nil)) (dss_cons (ds_set 4 (de_call h_amount_in (Nat.le_of_ble_eq_true rfl) (da_cons (de_ix (fun _ _ => rfl) (de_var 2) (de_int (m := .fz))) da_nil))) (dss_cons (ds_if (dt_not (dt_val (de_call h_is_name (Nat.le_of_ble_eq_true rfl) (da_cons (de_ix (fun _ _ => rfl) (de_var 2) (de_int (m := .fz))) da_nil)))) (dss_one (ds_append 3 (de_str (m := .fz)))) dss_nil) (dss_cons (ds_if (dw_t (dw_and (dc_t (de_ne (m := .fz) (de_ix (fun _ _ => rfl) (de_var 2) (de_int (m := .fz))) (de_gstr (m := .fz) W.c_NONE))) (dw_and1 (dt_not (dt_val (de_call h_is_name (Nat.le_of_ble_eq_true rfl) (da_cons (de_ix (fun _ _ => rfl) (de_var 2) (de_int (m := .fz))) da_nil))))))) (dss_one (ds_append 3 (de_str (m := .fz)))) dss_nil) (dss_cons (ds_if (dw_t (dw_or (dc_t (de_isN (m := .fz) (de_var 4))) (dw_or1 (dt_not (dc_t (de_chain (m := .fz) o_le o_le (de_ix (fun _ _ => rfl) (de_var 0) (de_int (m := .fz))) (de_var 4) (de_ix (fun _ _ => rfl) (de_var 0) (de_int (m := .fz))))))))) (dss_one (ds_append 3 (de_str (m := .fz)))) dss_nil) (dss_cons (ds_if (dc_t (de_notIn (m := .fz) (de_ix (fun _ _ => rfl) (de_var 2) (de_int (m := .fz))) (de_ix (fun _ _ => rfl) (de_var 0) (de_int (m := .fz))))) (dss_one (ds_append 3 (de_str (m := .fz)))) dss_nil) (dss_one (ds_ret (de_tuple (m := .fz) W.b_tuple (de_own 3))))))))))))
def N_row_of : List Str := ["plan", "text", "key", "parent", "amount", "tag"]
def O_row_of : Nat → Option Bool := fun i => some (false)
def k_row_of_4 : GS := (sRet (eTup (aCons (eVar 2) (aCons (eVar 3) (aCons (eCl (f1 dInt) (aCons (eVar 4) aNil)) (aCons (eVar 5) aNil))))))
def k_row_of_3 : GS := (sSeq (sIf (tV (e2 dEq (eVar 3) (eC (.str "-")))) (sRet (eTup (aCons (eVar 2) (aCons (eC .none) (aCons (eCl (f1 dInt) (aCons (eVar 4) aNil)) (aCons (eVar 5) aNil)))))) sNil) k_row_of_4)
def k_row_of_2 : GS := (sSeq (sTg (eM1 dSplit (eVar 1) (eC (.str " "))) (tgL (tgCons (tgN 2) (tgCons (tgN 3) (tgCons (tgN 4) (tgCons (tgN 5) tgNil)))))) k_row_of_3)
def g_row_of : GS := (sSeq (sIf (tV (e2 dGt (eCl (f1 dLen) (aCons (eCall f_faults (aCons (eVar 0) (aCons (eVar 1) aNil))) aNil)) (eC (.int 0)))) (sRai 1) sNil) k_row_of_2)
def f_row_of : List D → Out D := runD 6 2 g_row_of
theorem sc_row_of : FnScope N_row_of ["plan", "text"] (defScope (topS 13)) := ⟨rfl, rfl, rfl, by decide +kernel, rfl, by decide +kernel, by decide +kernel⟩
theorem fn_row_of (W : Wd K mg cl) (h_faults : FnD P w K mg base cl "faults" 2 .fz 2 f_faults) {f : Addr} {fd : FuncData} (F : Fun K "row_of" "row_of" (topS 13) f fd) (hm : mg "row_of" = some (.ref f)) (hb : L2.Binds K fd ["plan", "text"] []) : FnD P w K mg base cl "row_of" 2 .fz 3 f_row_of :=
  fnD (N := N_row_of) (ps := ["plan", "text"]) (O := O_row_of) (k := 2) (g := g_row_of) F sc_row_of hm hb rfl (by decide) (by decide) fun cdv E =>
    (dss_cons (ds_if (dc_t (de_ord (m := .fz) o_gt (de_len (m := .fz) W.b_len (de_call h_faults (Nat.le_of_ble_eq_true rfl) (da_cons (de_var 0) (da_cons (de_var 1) da_nil)))) (de_int (m := .fz)))) (dss_one (ds_raise 1 W.x_NoRow famD_R)) dss_nil) (dss_cons (ds_tg (de_fz (de_split (de_var 1) (de_str (m := .fz)))) (dg_lst (dgs_cons (dg_name 2) (dgs_cons (dg_name 3) (dgs_cons (dg_name 4) (dgs_cons (dg_name 5) dgs_nil)))))) (dss_cons (ds_if (dc_t (de_eq (m := .fz) (de_var 3) (de_gstr (m := .fz) W.c_NONE))) (dss_one (ds_ret (de_tup (m := .fz) (da_cons (de_var 2) (da_cons (de_non (m := .fz)) (da_cons (de_intc (m := .fz) W.b_int (de_var 4)) (da_cons (de_var 5) da_nil))))))) dss_nil) (dss_one (ds_ret (de_tup (m := .fz) (da_cons (de_var 2) (da_cons (de_var 3) (da_cons (de_intc (m := .fz) W.b_int (de_var 4)) (da_cons (de_var 5) da_nil))))))))))
def N_written_key : List Str := ["row", "key", "parent", "amount", "tag"]
def O_written_key : Nat → Option Bool := fun i => some (false)
def k_written_key_3 : GS := (sRet (eVar 0))
def k_written_key_2 : GS := (sSeq (sIf (tV (e1 (dIsN false) (eVar 2))) (sRet (eTup (aCons (eVar 1) (aCons (eC (.str "")) (aCons (eVar 3) (aCons (eVar 4) aNil)))))) sNil) k_written_key_3)
def g_written_key : GS := (sSeq (sTg (eVar 0) (tgT (tgCons (tgN 1) (tgCons (tgN 2) (tgCons (tgN 3) (tgCons (tgN 4) tgNil)))))) k_written_key_2)
def f_written_key : List D → Out D := runD 5 1 g_written_key
theorem sc_written_key : FnScope N_written_key ["row"] (defScope (topS 15)) := ⟨rfl, rfl, rfl, by decide +kernel, rfl, by decide +kernel, by decide +kernel⟩
theorem fn_written_key (W : Wd K mg cl) {f : Addr} {fd : FuncData} (F : Fun K "written_key" "written_key" (topS 15) f fd) (hm : mg "written_key" = some (.ref f)) (hb : L2.Binds K fd ["row"] []) : FnD P w K mg base cl "written_key" 1 .fz 1 f_written_key :=
  fnD (N := N_written_key) (ps := ["row"]) (O := O_written_key) (k := 0) (g := g_written_key) F sc_written_key hm hb rfl (by decide) (by decide) fun cdv E =>
    (dss_cons (ds_tg (de_var 0) (dg_tup (dgs_cons (dg_name 1) (dgs_cons (dg_name 2) (dgs_cons (dg_name 3) (dgs_cons (dg_name 4) dgs_nil)))))) (dss_cons (ds_if (dc_t (de_isN (m := .fz) (de_var 2))) (dss_one (ds_ret (de_tup (m := .fz) (da_cons (de_var 1) (da_cons (de_str (m := .fz)) (da_cons (de_var 3) (da_cons (de_var 4) da_nil))))))) dss_nil) (dss_one (ds_ret (de_var 0)))))
def N_good_rows : List Str := ["plan", "heap", "text"]
def O_good_rows : Nat → Option Bool := fun i => some (false)
def g_good_rows : GS := (sRet (eCl (f1 dSortSetK) (aCons (eLc (iSeq (eVar 1)) (tgN 2) (tV (e2 dEq (eCl (f1 dLen) (aCons (eCall f_faults (aCons (eVar 0) (aCons (eVar 2) aNil))) aNil)) (eC (.int 0)))) (eCall f_written_key (aCons (eCall f_row_of (aCons (eVar 0) (aCons (eVar 2) aNil))) aNil)) [2]) aNil)))
def f_good_rows : List D → Out D := runD 3 2 g_good_rows
theorem sc_good_rows : FnScope N_good_rows ["plan", "heap"] (defScope (topS 14)) := ⟨rfl, rfl, rfl, by decide +kernel, rfl, by decide +kernel, by decide +kernel⟩
theorem fn_good_rows (W : Wd K mg cl) (h_faults : FnD P w K mg base cl "faults" 2 .fz 2 f_faults) (h_written_key : FnD P w K mg base cl "written_key" 1 .fz 1 f_written_key) (h_row_of : FnD P w K mg base cl "row_of" 2 .fz 3 f_row_of) {f : Addr} {fd : FuncData} (F : Fun K "good_rows" "good_rows" (topS 14) f fd) (hm : mg "good_rows" = some (.ref f)) (hb : L2.Binds K fd ["plan", "heap"] []) : FnD P w K mg base cl "good_rows" 2 .au 4 f_good_rows :=
  fnD (N := N_good_rows) (ps := ["plan", "heap"]) (O := O_good_rows) (k := 3) (g := g_good_rows) F sc_good_rows hm hb rfl (by decide) (by decide) fun cdv E =>
    (dss_one (ds_ret (de_sortSetK W.b_sorted W.b_set (de_lc [("text", 2)] rfl (by show blkC N_good_rows (scOf (defScope (topS 14)).names) _ _ = true; decide +kernel) (di_seq (m := .fz) (de_var 1)) (dg_name 2) (dts_one (dc_t (de_eq (m := .fz) (de_len (m := .fz) W.b_len (de_call h_faults (Nat.le_of_ble_eq_true rfl) (da_cons (de_var 0) (da_cons (de_var 2) da_nil)))) (de_int (m := .fz))))) (de_call h_written_key (Nat.le_of_ble_eq_true rfl) (da_cons (de_call h_row_of (Nat.le_of_ble_eq_true rfl) (da_cons (de_var 0) (da_cons (de_var 2) da_nil))) da_nil)) (by decide)))))
def N_way_up : List Str := ["parents", "key", "found"]
def O_way_up : Nat → Option Bool := fun i => some (i == 2)
def b_way_up_1 : GS := (sApp 2 (e2 dIx (eVar 0) (e2 dIx (eVar 2) (e1 dNeg (eC (.int 1))))))
def k_way_up_3 : GS := (sRet (eVar 2))
def k_way_up_2 : GS := (sSeq (sWhile 64 (gAnd (tV (e2 dNe (eGet (eVar 0) (e2 dIx (eVar 2) (e1 dNeg (eC (.int 1)))) (eC (.str ""))) (eC (.str "")))) (tV (e2 dEq (eLM dCnt (eVar 2) (e2 dIx (eVar 2) (e1 dNeg (eC (.int 1))))) (eC (.int 1))))) b_way_up_1) k_way_up_3)
def g_way_up : GS := (sSeq (sOwn 2 (eLst (aCons (eVar 1) aNil))) k_way_up_2)
def f_way_up : List D → Out D := runD 3 2 g_way_up
theorem sc_way_up : FnScope N_way_up ["parents", "key"] (defScope (topS 16)) := ⟨rfl, rfl, rfl, by decide +kernel, rfl, by decide +kernel, by decide +kernel⟩
theorem fn_way_up (W : Wd K mg cl) {f : Addr} {fd : FuncData} (F : Fun K "way_up" "way_up" (topS 16) f fd) (hm : mg "way_up" = some (.ref f)) (hb : L2.Binds K fd ["parents", "key"] []) : FnD P w K mg base cl "way_up" 2 .au 1 f_way_up :=
  fnD (N := N_way_up) (ps := ["parents", "key"]) (O := O_way_up) (k := 0) (g := g_way_up) F sc_way_up hm hb rfl (by decide) (by decide) fun cdv E =>
    (dss_cons (ds_setO 2 (de_lst (da_cons (de_var 1) da_nil))) (dss_cons (ds_while 64 (dw_t (dw_and (dc_t (de_ne (m := .fz) (de_get (de_var 0) (de_ix (fun _ _ => rfl) (de_own 2) (de_neg (m := .fz) (de_int (m := .fz)))) (de_str (m := .fz))) (de_str (m := .fz)))) (dw_and1 (dc_t (de_eq (m := .fz) (de_count (m := .fz) (de_own 2) (de_ix (fun _ _ => rfl) (de_own 2) (de_neg (m := .fz) (de_int (m := .fz))))) (de_int (m := .fz))))))) (dss_one (ds_append 2 (de_ix (fun _ _ => rfl) (de_var 0) (de_ix (fun _ _ => rfl) (de_own 2) (de_neg (m := .fz) (de_int (m := .fz)))))))) (dss_one (ds_retO 2))))
def N_together : List Str := ["parents", "key", "way"]
def O_together : Nat → Option Bool := fun i => some (false)
def b_together_1_2 : GS := (sRet (eTup (aCons (eC (.str "lost")) aNil)))
def b_together_1 : GS := (sSeq (sIf (tV (e2 dEq (e2 dIx (eVar 2) (e1 dNeg (eC (.int 1)))) (eVar 1))) (sRet (eTup (aCons (eC (.str "ring")) aNil))) sNil) b_together_1_2)
def k_together_4 : GS := (sRet (eTup aNil))
def k_together_3 : GS := (sSeq (sIf (tV (e2 (dIn true) (e2 dIx (eVar 2) (e1 dNeg (eC (.int 1)))) (eVar 0))) (sRet (eTup (aCons (eC (.str "lost")) aNil))) sNil) k_together_4)
def k_together_2 : GS := (sSeq (sIf (tV (e2 dGt (eLM dCnt (eVar 2) (e2 dIx (eVar 2) (e1 dNeg (eC (.int 1))))) (eC (.int 1)))) b_together_1 sNil) k_together_3)
def g_together : GS := (sSeq (sSet 2 (eCall f_way_up (aCons (eVar 0) (aCons (eVar 1) aNil)))) k_together_2)
def f_together : List D → Out D := runD 3 2 g_together
theorem sc_together : FnScope N_together ["parents", "key"] (defScope (topS 17)) := ⟨rfl, rfl, rfl, by decide +kernel, rfl, by decide +kernel, by decide +kernel⟩
theorem fn_together (W : Wd K mg cl) (h_way_up : FnD P w K mg base cl "way_up" 2 .au 1 f_way_up) {f : Addr} {fd : FuncData} (F : Fun K "together" "together" (topS 17) f fd) (hm : mg "together" = some (.ref f)) (hb : L2.Binds K fd ["parents", "key"] []) : FnD P w K mg base cl "together" 2 .fz 2 f_together :=
  fnD (N := N_together) (ps := ["parents", "key"]) (O := O_together) (k := 1) (g := g_together) F sc_together hm hb rfl (by decide) (by decide) fun cdv E =>
    (dss_cons (ds_set 2 (de_fz (de_call h_way_up (Nat.le_of_ble_eq_true rfl) (da_cons (de_var 0) (da_cons (de_var 1) da_nil))))) (dss_cons (ds_if (dc_t (de_ord (m := .fz) o_gt (de_count (m := .fz) (de_var 2) (de_ix (fun _ _ => rfl) (de_var 2) (de_neg (m := .fz) (de_int (m := .fz))))) (de_int (m := .fz)))) (dss_cons (ds_if (dc_t (de_eq (m := .fz) (de_ix (fun _ _ => rfl) (de_var 2) (de_neg (m := .fz) (de_int (m := .fz)))) (de_var 1))) (dss_one (ds_ret (de_tup (m := .fz) (da_cons (de_str (m := .fz)) da_nil)))) dss_nil) (dss_one (ds_ret (de_tup (m := .fz) (da_cons (de_str (m := .fz)) da_nil))))) dss_nil) (dss_cons (ds_if (dc_t (de_notIn (m := .fz) (de_ix (fun _ _ => rfl) (de_var 2) (de_neg (m := .fz) (de_int (m := .fz)))) (de_var 0))) (dss_one (ds_ret (de_tup (m := .fz) (da_cons (de_str (m := .fz)) da_nil)))) dss_nil) (dss_one (ds_ret (de_tup (m := .fz) da_nil))))))
def N_judged : List Str := ["plan", "heap", "rows", "keys", "parents", "found", "text", "some", "key", "row"]
def O_judged : Nat → Option Bool := fun i => some (i == 5)
def b_judged_2_2 : GS := (sIf (tV (e2 (dIn true) (eVar 8) (eVar 4))) (sSet 7 (eTup (aCons (eC (.str "twice")) aNil))) (sSet 7 (eCall f_together (aCons (eVar 4) (aCons (eVar 8) aNil)))))
def b_judged_2 : GS := (sSeq (sSet 8 (e2 dIx (eCall f_row_of (aCons (eVar 0) (aCons (eVar 6) aNil))) (eC (.int 0)))) b_judged_2_2)
def b_judged_1_3 : GS := (sApp 5 (eVar 7))
def b_judged_1_2 : GS := (sSeq (sIf (tV (e2 dEq (eCl (f1 dLen) (aCons (eVar 7) aNil)) (eC (.int 0)))) b_judged_2 sNil) b_judged_1_3)
def b_judged_1 : GS := (sSeq (sSet 7 (eCall f_faults (aCons (eVar 0) (aCons (eVar 6) aNil)))) b_judged_1_2)
def k_judged_6 : GS := (sRet (eCl (f1 dTuple) (aCons (eVar 5) aNil)))
def k_judged_5 : GS := (sSeq (sFor (iSeq (eVar 1)) (tgN 6) b_judged_1) k_judged_6)
def k_judged_4 : GS := (sSeq (sOwn 5 (eLst aNil)) k_judged_5)
def k_judged_3 : GS := (sSeq (sSet 4 (eCl (f1 dDict) (aCons (eLc (iSeq (eVar 2)) (tgN 9) (tV (e2 dEq (eLM dCnt (eVar 3) (e2 dIx (eVar 9) (eC (.int 0)))) (eC (.int 1)))) (eTup (aCons (e2 dIx (eVar 9) (eC (.int 0))) (aCons (e2 dIx (eVar 9) (eC (.int 1))) aNil))) [9]) aNil))) k_judged_4)
def k_judged_2 : GS := (sSeq (sSet 3 (eLc (iSeq (eVar 2)) (tgN 9) gYes (e2 dIx (eVar 9) (eC (.int 0))) [9])) k_judged_3)
def g_judged : GS := (sSeq (sSet 2 (eCall f_good_rows (aCons (eVar 0) (aCons (eVar 1) aNil)))) k_judged_2)
def f_judged : List D → Out D := runD 10 2 g_judged
theorem sc_judged : FnScope N_judged ["plan", "heap"] (defScope (topS 18)) := ⟨rfl, rfl, rfl, by decide +kernel, rfl, by decide +kernel, by decide +kernel⟩
theorem fn_judged (W : Wd K mg cl) (h_good_rows : FnD P w K mg base cl "good_rows" 2 .au 4 f_good_rows) (h_faults : FnD P w K mg base cl "faults" 2 .fz 2 f_faults) (h_row_of : FnD P w K mg base cl "row_of" 2 .fz 3 f_row_of) (h_together : FnD P w K mg base cl "together" 2 .fz 2 f_together) {f : Addr} {fd : FuncData} (F : Fun K "judged" "judged" (topS 18) f fd) (hm : mg "judged" = some (.ref f)) (hb : L2.Binds K fd ["plan", "heap"] []) : FnD P w K mg base cl "judged" 2 .fz 5 f_judged :=
  fnD (N := N_judged) (ps := ["plan", "heap"]) (O := O_judged) (k := 4) (g := g_judged) F sc_judged hm hb rfl (by decide) (by decide) fun cdv E =>
    (dss_cons (ds_set 2 (de_fz (de_call h_good_rows (Nat.le_of_ble_eq_true rfl) (da_cons (de_var 0) (da_cons (de_var 1) da_nil))))) (dss_cons (ds_setK 3 (de_fz (de_lc [("row", 9)] rfl (by show blkC N_judged (scOf (defScope (topS 18)).names) _ _ = true; decide +kernel) (di_seq (m := .fz) (de_var 2)) (dg_name 9) dts_nil (de_ix (fun _ _ => rfl) (de_var 9) (de_int (m := .fz))) (by decide)))) (dss_cons (ds_set 4 (de_fz (de_dictP W.b_dict (de_lc [("row", 9)] rfl (by show blkC N_judged (scOf (defScope (topS 18)).names) _ _ = true; decide +kernel) (di_seq (m := .fz) (de_var 2)) (dg_name 9) (dts_one (dc_t (de_eq (m := .fz) (de_count (m := .fz) (de_var 3) (de_ix (fun _ _ => rfl) (de_var 9) (de_int (m := .fz)))) (de_int (m := .fz))))) (de_tup (m := .fz) (da_cons (de_ix (fun _ _ => rfl) (de_var 9) (de_int (m := .fz))) (da_cons (de_ix (fun _ _ => rfl) (de_var 9) (de_int (m := .fz))) da_nil))) (by decide))))) (dss_cons (ds_setO 5 (de_lst da_nil)) (dss_cons (ds_for (di_seq (m := .fz) (de_var 1)) (dg_name 6) (dss_cons (ds_set 7 (de_call h_faults (Nat.le_of_ble_eq_true rfl) (da_cons (de_var 0) (da_cons (de_var 6) da_nil)))) (dss_cons (ds_if (dc_t (de_eq (m := .fz) (de_len (m := .fz) W.b_len (de_var 7)) (de_int (m := .fz)))) (dss_cons (ds_set 8 (de_ix (fun _ _ => rfl) (de_call h_row_of (Nat.le_of_ble_eq_true rfl) (da_cons (de_var 0) (da_cons (de_var 6) da_nil))) (de_int (m := .fz)))) (dss_one (ds_if (dc_t (de_notIn (m := .fz) (de_var 8) (de_var 4))) (dss_one (ds_set 7 (de_tup (m := .fz) (da_cons (de_str (m := .fz)) da_nil)))) (dss_one (ds_set 7 (de_call h_together (Nat.le_of_ble_eq_true rfl) (da_cons (de_var 4) (da_cons (de_var 8) da_nil)))))))) dss_nil) (dss_one (ds_append 5 (de_var 7)))))) (dss_one (ds_ret (de_tuple (m := .fz) W.b_tuple (de_own 5)))))))))
theorem sc_Intake___init__ : FnScope ["self", "plan"] ["self", "plan"] (defScope (mthS 22 0)) := ⟨rfl, rfl, rfl, by decide +kernel, rfl, by decide +kernel, by decide +kernel⟩
theorem fn_Intake___init__ (W : Wd K mg cl) (IC : IntC K) {f : Addr} {fd : FuncData} (F : Fun K "__init__" "Intake.__init__" (mthS 22 0) f fd) (hm : Mk K (iC K) f) (hb : L2.Binds K fd ["self", "plan"] []) (hmg : mg "Intake" = some (.ref (iC K))) : FnI P w K mg base 1 :=
  ⟨⟨f, fd, ["self", "plan"], init_ok (k := 0) F sc_Intake___init__ IC rfl rfl rfl, hm, hb⟩, hmg⟩
def N_Intake_add : List Str := ["self", "text", "%"]
def O_Intake_add : Nat → Option Bool := ledO 2 fun i => (false)
theorem lf_Intake_add : LF O_Intake_add 2 := lf_ledO
def g_Intake_add : GS := (sIf (tV (e2 dLt (eCl (f1 dLen) (aCons (eFld 2 1 (eVar 0)) aNil)) (eC (.int 40)))) (sTxA 2 (eVar 0) (eVar 1)) sNil)
def f_Intake_add : List D → D → Out (D × D) := runL 3 2 g_Intake_add
theorem sc_Intake_add : FnScope N_Intake_add ["self", "text"] (defScope (mthS 22 1)) := ⟨rfl, rfl, rfl, by decide +kernel, rfl, by decide +kernel, by decide +kernel⟩
theorem fn_Intake_add (W : Wd K mg cl) (IC : IntC K) {f : Addr} {fd : FuncData} (F : Fun K "add" "Intake.add" (mthS 22 1) f fd) (hm : Meth K (iC K) "add" f) (hb : L2.Binds K fd ["self", "text"] []) : FnL P w K mg base cl "add" 2 1 f_Intake_add :=
  ⟨⟨f, fd, ["self", "text"], fn_okL (N := N_Intake_add) (ps := ["self", "text"]) (O := O_Intake_add) (k := 0) (g := g_Intake_add) F sc_Intake_add rfl (by decide) lf_Intake_add (by decide) fun cdv E =>
    (dss_one (ds_if (dc_t (de_ord (m := .fz) o_lt (de_len (m := .fz) W.b_len (de_fld (k := 1) lf_Intake_add IC (.inr (.inl ⟨rfl, rfl⟩)) (de_var 0))) (de_gint (m := .fz) W.c_MOST_TEXTS))) (dss_one (ds_txA lf_Intake_add IC (de_var 0) (de_var 1))) dss_nil)), hm, hb⟩, fun ds l h => runL_ln ds l h⟩
def N_Intake_take : List Str := ["self", "piece", "parts", "text", "%"]
def O_Intake_take : Nat → Option Bool := ledO 4 fun i => (false)
def b_Intake_take_1 : GS := (sExprX (xM 4 f_Intake_add (eVar 0) (aCons (eVar 3) aNil)))
def k_Intake_take_3 : GS := (sRest 4 (eVar 0) (e2 dIx (eVar 2) (e1 dNeg (eC (.int 1)))))
def k_Intake_take_2 : GS := (sSeq (sFor (iSeq (eSl (eVar 2) oNo (oI (e1 dNeg (eC (.int 1)))))) (tgN 3) b_Intake_take_1) k_Intake_take_3)
theorem lf_Intake_take : LF O_Intake_take 4 := lf_ledO
def g_Intake_take : GS := (sSeq (sSet 2 (eM1 dSplit (e2 dAdd (eFld 4 2 (eVar 0)) (eVar 1)) (eC (.str "\n")))) k_Intake_take_2)
def f_Intake_take : List D → D → Out (D × D) := runL 5 2 g_Intake_take
theorem sc_Intake_take : FnScope N_Intake_take ["self", "piece"] (defScope (mthS 22 2)) := ⟨rfl, rfl, rfl, by decide +kernel, rfl, by decide +kernel, by decide +kernel⟩
theorem fn_Intake_take (W : Wd K mg cl) (IC : IntC K) (h_Intake_add : FnL P w K mg base cl "add" 2 1 f_Intake_add) {f : Addr} {fd : FuncData} (F : Fun K "take" "Intake.take" (mthS 22 2) f fd) (hm : Meth K (iC K) "take" f) (hb : L2.Binds K fd ["self", "piece"] []) : FnL P w K mg base cl "take" 2 2 f_Intake_take :=
  ⟨⟨f, fd, ["self", "piece"], fn_okL (N := N_Intake_take) (ps := ["self", "piece"]) (O := O_Intake_take) (k := 1) (g := g_Intake_take) F sc_Intake_take rfl (by decide) lf_Intake_take (by decide) fun cdv E =>
    (dss_cons (ds_set 2 (de_fz (de_split (de_add (de_fldF (k := 2) lf_Intake_take IC (.inr ⟨rfl, rfl⟩) (de_var 0)) (de_var 1)) (de_gstr (m := .fz) W.c_ROW_END)))) (dss_cons (ds_for (di_seq (m := .fz) (de_fz (de_sl (de_var 2) do_no (do_i (de_neg (m := .fz) (de_int (m := .fz))))))) (dg_name 3) (dss_one (ds_exprX (dx_m lf_Intake_take IC h_Intake_add (Nat.le_of_ble_eq_true rfl) (de_var 0) (da_cons (de_var 3) da_nil))))) (dss_one (ds_rest lf_Intake_take IC (de_var 0) (de_ix (fun _ _ => rfl) (de_var 2) (de_neg (m := .fz) (de_int (m := .fz)))))))), hm, hb⟩, fun ds l h => runL_ln ds l h⟩
def N_Intake_end : List Str := ["self", "%"]
def O_Intake_end : Nat → Option Bool := ledO 1 fun i => (false)
def k_Intake_end_2 : GS := (sRest 1 (eVar 0) (eC (.str "")))
theorem lf_Intake_end : LF O_Intake_end 1 := lf_ledO
def g_Intake_end : GS := (sSeq (sIf (tV (e2 dNe (eFld 1 2 (eVar 0)) (eC (.str "")))) (sExprX (xM 1 f_Intake_add (eVar 0) (aCons (eFld 1 2 (eVar 0)) aNil))) sNil) k_Intake_end_2)
def f_Intake_end : List D → D → Out (D × D) := runL 2 1 g_Intake_end
theorem sc_Intake_end : FnScope N_Intake_end ["self"] (defScope (mthS 22 3)) := ⟨rfl, rfl, rfl, by decide +kernel, rfl, by decide +kernel, by decide +kernel⟩
theorem fn_Intake_end (W : Wd K mg cl) (IC : IntC K) (h_Intake_add : FnL P w K mg base cl "add" 2 1 f_Intake_add) {f : Addr} {fd : FuncData} (F : Fun K "end" "Intake.end" (mthS 22 3) f fd) (hm : Meth K (iC K) "end" f) (hb : L2.Binds K fd ["self"] []) : FnL P w K mg base cl "end" 1 2 f_Intake_end :=
  ⟨⟨f, fd, ["self"], fn_okL (N := N_Intake_end) (ps := ["self"]) (O := O_Intake_end) (k := 1) (g := g_Intake_end) F sc_Intake_end rfl (by decide) lf_Intake_end (by decide) fun cdv E =>
    (dss_cons (ds_if (dc_t (de_ne (m := .fz) (de_fldF (k := 2) lf_Intake_end IC (.inr ⟨rfl, rfl⟩) (de_var 0)) (de_str (m := .fz)))) (dss_one (ds_exprX (dx_m lf_Intake_end IC h_Intake_add (Nat.le_of_ble_eq_true rfl) (de_var 0) (da_cons (de_fldF (k := 2) lf_Intake_end IC (.inr ⟨rfl, rfl⟩) (de_var 0)) da_nil)))) dss_nil) (dss_one (ds_rest lf_Intake_end IC (de_var 0) (de_str (m := .fz))))), hm, hb⟩, fun ds l h => runL_ln ds l h⟩
def N_Intake_heap : List Str := ["self", "%"]
def O_Intake_heap : Nat → Option Bool := ledO 1 fun i => (false)
theorem lf_Intake_heap : LF O_Intake_heap 1 := lf_ledO
def g_Intake_heap : GS := (sRet (eCl (f1 dTuple) (aCons (eFld 1 1 (eVar 0)) aNil)))
def f_Intake_heap : List D → D → Out D := runR 2 1 g_Intake_heap
theorem sc_Intake_heap : FnScope N_Intake_heap ["self"] (defScope (mthS 22 4)) := ⟨rfl, rfl, rfl, by decide +kernel, rfl, by decide +kernel, by decide +kernel⟩
theorem fn_Intake_heap (W : Wd K mg cl) (IC : IntC K) {f : Addr} {fd : FuncData} (F : Fun K "heap" "Intake.heap" (mthS 22 4) f fd) (hm : Meth K (iC K) "heap" f) (hb : L2.Binds K fd ["self"] []) : FnR P w K mg base cl "heap" 1 .fz 1 f_Intake_heap :=
  ⟨⟨f, fd, ["self"], fn_okR (N := N_Intake_heap) (ps := ["self"]) (O := O_Intake_heap) (k := 0) (g := g_Intake_heap) F sc_Intake_heap rfl (by decide) lf_Intake_heap (by decide) (by decide) fun cdv E =>
    (dss_one (ds_ret (de_tuple (m := .fz) W.b_tuple (de_fld (k := 1) lf_Intake_heap IC (.inr (.inl ⟨rfl, rfl⟩)) (de_var 0))))), hm, hb⟩, fun ds l h => runR_ln ds l h⟩
def N_Intake_waiting : List Str := ["self", "%"]
def O_Intake_waiting : Nat → Option Bool := ledO 1 fun i => (false)
theorem lf_Intake_waiting : LF O_Intake_waiting 1 := lf_ledO
def g_Intake_waiting : GS := (sRet (eFld 1 2 (eVar 0)))
def f_Intake_waiting : List D → D → Out D := runR 2 1 g_Intake_waiting
theorem sc_Intake_waiting : FnScope N_Intake_waiting ["self"] (defScope (mthS 22 5)) := ⟨rfl, rfl, rfl, by decide +kernel, rfl, by decide +kernel, by decide +kernel⟩
theorem fn_Intake_waiting (W : Wd K mg cl) (IC : IntC K) {f : Addr} {fd : FuncData} (F : Fun K "waiting" "Intake.waiting" (mthS 22 5) f fd) (hm : Meth K (iC K) "waiting" f) (hb : L2.Binds K fd ["self"] []) : FnR P w K mg base cl "waiting" 1 .fz 1 f_Intake_waiting :=
  ⟨⟨f, fd, ["self"], fn_okR (N := N_Intake_waiting) (ps := ["self"]) (O := O_Intake_waiting) (k := 0) (g := g_Intake_waiting) F sc_Intake_waiting rfl (by decide) lf_Intake_waiting (by decide) (by decide) fun cdv E =>
    (dss_one (ds_ret (de_fldF (k := 2) lf_Intake_waiting IC (.inr ⟨rfl, rfl⟩) (de_var 0)))), hm, hb⟩, fun ds l h => runR_ln ds l h⟩
def N_Intake_report : List Str := ["self", "%"]
def O_Intake_report : Nat → Option Bool := ledO 1 fun i => (false)
theorem lf_Intake_report : LF O_Intake_report 1 := lf_ledO
def g_Intake_report : GS := (sRet (eCall f_judged (aCons (eFld 1 0 (eVar 0)) (aCons (eMR 1 f_Intake_heap (eVar 0) aNil) aNil))))
def f_Intake_report : List D → D → Out D := runR 2 1 g_Intake_report
theorem sc_Intake_report : FnScope N_Intake_report ["self"] (defScope (mthS 22 6)) := ⟨rfl, rfl, rfl, by decide +kernel, rfl, by decide +kernel, by decide +kernel⟩
theorem fn_Intake_report (W : Wd K mg cl) (IC : IntC K) (h_judged : FnD P w K mg base cl "judged" 2 .fz 5 f_judged) (h_Intake_heap : FnR P w K mg base cl "heap" 1 .fz 1 f_Intake_heap) {f : Addr} {fd : FuncData} (F : Fun K "report" "Intake.report" (mthS 22 6) f fd) (hm : Meth K (iC K) "report" f) (hb : L2.Binds K fd ["self"] []) : FnR P w K mg base cl "report" 1 .fz 6 f_Intake_report :=
  ⟨⟨f, fd, ["self"], fn_okR (N := N_Intake_report) (ps := ["self"]) (O := O_Intake_report) (k := 5) (g := g_Intake_report) F sc_Intake_report rfl (by decide) lf_Intake_report (by decide) (by decide) fun cdv E =>
    (dss_one (ds_ret (de_call h_judged (Nat.le_of_ble_eq_true rfl) (da_cons (de_fldF (k := 0) lf_Intake_report IC (.inl ⟨rfl, rfl⟩) (de_var 0)) (da_cons (de_mr0 lf_Intake_report IC h_Intake_heap (Nat.le_of_ble_eq_true rfl) (de_var 0)) da_nil))))), hm, hb⟩, fun ds l h => runR_ln ds l h⟩
def N__law_cell_at : List Str := ["_law_script", "_law_k"]
def O__law_cell_at : Nat → Option Bool := fun i => some (false)
def g__law_cell_at : GS := (sSeq (sIf (tV (e2 dLt (eVar 1) (eCl (f1 dLen) (aCons (eVar 0) aNil)))) (sRet (e2 dIx (eVar 0) (eVar 1))) sNil) (sRet (eC (.int 0))))
def f__law_cell_at : List D → Out D := runD 2 2 g__law_cell_at
theorem sc__law_cell_at : FnScope N__law_cell_at ["_law_script", "_law_k"] (defScope (topS 24)) := ⟨rfl, rfl, rfl, by decide +kernel, rfl, by decide +kernel, by decide +kernel⟩
theorem fn__law_cell_at (W : Wd K mg cl) {f : Addr} {fd : FuncData} (F : Fun K "_law_cell_at" "_law_cell_at" (topS 24) f fd) (hm : mg "_law_cell_at" = some (.ref f)) (hb : L2.Binds K fd ["_law_script", "_law_k"] []) : FnD P w K mg base cl "_law_cell_at" 2 .fz 1 f__law_cell_at :=
  fnD (N := N__law_cell_at) (ps := ["_law_script", "_law_k"]) (O := O__law_cell_at) (k := 0) (g := g__law_cell_at) F sc__law_cell_at hm hb rfl (by decide) (by decide) fun cdv E =>
    (dss_cons (ds_if (dc_t (de_ord (m := .fz) o_lt (de_var 1) (de_len (m := .fz) W.b_len (de_var 0)))) (dss_one (ds_ret (de_ix (fun _ _ => rfl) (de_var 0) (de_var 1)))) dss_nil) (dss_one (ds_ret (de_int (m := .fz)))))
def N__law_mixed : List Str := ["_law_script", "_law_k", "_law_drawn_here"]
def O__law_mixed : Nat → Option Bool := fun i => some (false)
def g__law_mixed : GS := (sSeq (sSet 2 (e2 dMod (e2 dMul (e2 dAdd (e2 dAdd (eCall f__law_cell_at (aCons (eVar 0) (aCons (eVar 1) aNil))) (e2 dMul (eC (.int 7919)) (eVar 1))) (eC (.int 1))) (eC (.int 48271))) (eC (.int 2147483647)))) (sRet (e2 dMod (e2 dAdd (e2 dAdd (e2 dMul (eVar 2) (eVar 2)) (e2 dMul (eC (.int 7)) (eVar 2))) (eVar 1)) (eC (.int 2147483629)))))
def f__law_mixed : List D → Out D := runD 3 2 g__law_mixed
theorem sc__law_mixed : FnScope N__law_mixed ["_law_script", "_law_k"] (defScope (topS 25)) := ⟨rfl, rfl, rfl, by decide +kernel, rfl, by decide +kernel, by decide +kernel⟩
theorem fn__law_mixed (W : Wd K mg cl) (h__law_cell_at : FnD P w K mg base cl "_law_cell_at" 2 .fz 1 f__law_cell_at) {f : Addr} {fd : FuncData} (F : Fun K "_law_mixed" "_law_mixed" (topS 25) f fd) (hm : mg "_law_mixed" = some (.ref f)) (hb : L2.Binds K fd ["_law_script", "_law_k"] []) : FnD P w K mg base cl "_law_mixed" 2 .fz 2 f__law_mixed :=
  fnD (N := N__law_mixed) (ps := ["_law_script", "_law_k"]) (O := O__law_mixed) (k := 1) (g := g__law_mixed) F sc__law_mixed hm hb rfl (by decide) (by decide) fun cdv E =>
    (dss_cons (ds_set 2 (de_mod (m := .fz) (de_mul (de_add (de_add (de_call h__law_cell_at (Nat.le_of_ble_eq_true rfl) (da_cons (de_var 0) (da_cons (de_var 1) da_nil))) (de_mul (de_int (m := .fz)) (de_var 1))) (de_int (m := .fz))) (de_int (m := .fz))) (de_int (m := .fz)))) (dss_one (ds_ret (de_mod (m := .fz) (de_add (de_add (de_mul (de_var 2) (de_var 2)) (de_mul (de_int (m := .fz)) (de_var 2))) (de_var 1)) (de_int (m := .fz))))))
def N__law_drawn : List Str := ["_law_number", "_law_k", "_law_drawn_here"]
def O__law_drawn : Nat → Option Bool := fun i => some (false)
def g__law_drawn : GS := (sSeq (sSet 2 (e2 dMod (e2 dMul (e2 dAdd (e2 dAdd (eVar 0) (e2 dMul (eC (.int 104729)) (eVar 1))) (eC (.int 17))) (eC (.int 69621))) (eC (.int 2147483647)))) (sRet (e2 dMod (e2 dAdd (e2 dAdd (e2 dMul (eVar 2) (eVar 2)) (e2 dMul (eC (.int 3)) (eVar 2))) (eVar 1)) (eC (.int 2147483629)))))
def f__law_drawn : List D → Out D := runD 3 2 g__law_drawn
theorem sc__law_drawn : FnScope N__law_drawn ["_law_number", "_law_k"] (defScope (topS 26)) := ⟨rfl, rfl, rfl, by decide +kernel, rfl, by decide +kernel, by decide +kernel⟩
theorem fn__law_drawn (W : Wd K mg cl) {f : Addr} {fd : FuncData} (F : Fun K "_law_drawn" "_law_drawn" (topS 26) f fd) (hm : mg "_law_drawn" = some (.ref f)) (hb : L2.Binds K fd ["_law_number", "_law_k"] []) : FnD P w K mg base cl "_law_drawn" 2 .fz 1 f__law_drawn :=
  fnD (N := N__law_drawn) (ps := ["_law_number", "_law_k"]) (O := O__law_drawn) (k := 0) (g := g__law_drawn) F sc__law_drawn hm hb rfl (by decide) (by decide) fun cdv E =>
    (dss_cons (ds_set 2 (de_mod (m := .fz) (de_mul (de_add (de_add (de_var 0) (de_mul (de_int (m := .fz)) (de_var 1))) (de_int (m := .fz))) (de_int (m := .fz))) (de_int (m := .fz)))) (dss_one (ds_ret (de_mod (m := .fz) (de_add (de_add (de_mul (de_var 2) (de_var 2)) (de_mul (de_int (m := .fz)) (de_var 2))) (de_var 1)) (de_int (m := .fz))))))
def N__law_name : List Str := ["_law_number", "_law_signs", "_law_k"]
def O__law_name : Nat → Option Bool := fun i => some (false)
def g__law_name : GS := (sSeq (sIf (tV (e2 dGt (e2 dMod (eVar 0) (eC (.int 5))) (eC (.int 0)))) (sRet (e2 dIx (eTup (aCons (eC (.str "a")) (aCons (eC (.str "b")) (aCons (eC (.str "cc")) (aCons (eC (.str "root")) (aCons (eC (.str "dd")) (aCons (eC (.str "e")) (aCons (eC (.str "f")) aNil)))))))) (e2 dMod (e2 dDiv (eVar 0) (eC (.int 5))) (eC (.int 7))))) sNil) (sSeq (sSet 1 (eC (.str "abcdefghijklmnopqrstuvwxyz"))) (sRet (eM1 dJoin (eC (.str "")) (eLc (iR1 (e2 dAdd (eC (.int 1)) (e2 dMod (e2 dDiv (eVar 0) (eC (.int 5))) (eC (.int 5))))) (tgN 2) gYes (e2 dIx (eVar 1) (e2 dMod (e2 dDiv (eCall f__law_drawn (aCons (eVar 0) (aCons (e2 dAdd (eC (.int 70)) (eVar 2)) aNil))) (eC (.int 4))) (eC (.int 26)))) [2])))))
def f__law_name : List D → Out D := runD 3 1 g__law_name
theorem sc__law_name : FnScope N__law_name ["_law_number"] (defScope (topS 27)) := ⟨rfl, rfl, rfl, by decide +kernel, rfl, by decide +kernel, by decide +kernel⟩
theorem fn__law_name (W : Wd K mg cl) (h__law_drawn : FnD P w K mg base cl "_law_drawn" 2 .fz 1 f__law_drawn) {f : Addr} {fd : FuncData} (F : Fun K "_law_name" "_law_name" (topS 27) f fd) (hm : mg "_law_name" = some (.ref f)) (hb : L2.Binds K fd ["_law_number"] []) : FnD P w K mg base cl "_law_name" 1 .fz 2 f__law_name :=
  fnD (N := N__law_name) (ps := ["_law_number"]) (O := O__law_name) (k := 1) (g := g__law_name) F sc__law_name hm hb rfl (by decide) (by decide) fun cdv E =>
    (dss_cons (ds_if (dc_t (de_ord (m := .fz) o_gt (de_mod (m := .fz) (de_var 0) (de_int (m := .fz))) (de_int (m := .fz)))) (dss_one (ds_ret (de_ix (fun _ _ => rfl) (de_tup (m := .fz) (da_cons (de_str (m := .fz)) (da_cons (de_str (m := .fz)) (da_cons (de_str (m := .fz)) (da_cons (de_str (m := .fz)) (da_cons (de_str (m := .fz)) (da_cons (de_str (m := .fz)) (da_cons (de_str (m := .fz)) da_nil)))))))) (de_mod (m := .fz) (de_fdiv (m := .fz) (de_var 0) (de_int (m := .fz))) (de_int (m := .fz)))))) dss_nil) (dss_cons (ds_set 1 (de_str (m := .fz))) (dss_one (ds_ret (de_join (m := .fz) (de_str (m := .fz)) (de_lc [("_law_k", 2)] rfl (by show blkC N__law_name (scOf (defScope (topS 27)).names) _ _ = true; decide +kernel) (di_range1 (m := .fz) W.b_range (de_add (de_int (m := .fz)) (de_mod (m := .fz) (de_fdiv (m := .fz) (de_var 0) (de_int (m := .fz))) (de_int (m := .fz))))) (dg_name 2) dts_nil (de_ix (fun _ _ => rfl) (de_var 1) (de_mod (m := .fz) (de_fdiv (m := .fz) (de_call h__law_drawn (Nat.le_of_ble_eq_true rfl) (da_cons (de_var 0) (da_cons (de_fz (de_add (de_int (m := .fz)) (de_var 2))) da_nil))) (de_int (m := .fz))) (de_int (m := .fz)))) (by decide)))))))
def N__law_plan : List Str := ["_law_number", "_law_low", "_law_high", "_law_tags", "_law_k"]
def O__law_plan : Nat → Option Bool := fun i => some (false)
def g__law_plan : GS := (sSeq (sSet 1 (e2 dMod (e2 dDiv (eVar 0) (eC (.int 8))) (e2 dIx (eTup (aCons (eC (.int 1000)) (aCons (eC (.int 5)) aNil))) (e2 dMod (eVar 0) (eC (.int 2)))))) (sSeq (sSet 2 (e2 dAdd (eVar 1) (e2 dMod (e2 dDiv (eVar 0) (eC (.int 4096))) (e2 dSub (eC (.int 1000)) (eVar 1))))) (sSeq (sSet 3 (eLc (iR1 (e2 dAdd (eC (.int 1)) (e2 dMod (e2 dDiv (eVar 0) (eC (.int 2))) (eC (.int 3))))) (tgN 4) gYes (eCall f__law_name (aCons (e2 dDiv (eCall f__law_drawn (aCons (eVar 0) (aCons (e2 dAdd (eC (.int 60)) (eVar 4)) aNil))) (eC (.int 4))) aNil)) [4])) (sRet (eTup (aCons (eVar 1) (aCons (eVar 2) (aCons (eCl (f1 dTuple) (aCons (eCl (f1 dSortSet) (aCons (eVar 3) aNil)) aNil)) aNil))))))))
def f__law_plan : List D → Out D := runD 5 1 g__law_plan
theorem sc__law_plan : FnScope N__law_plan ["_law_number"] (defScope (topS 28)) := ⟨rfl, rfl, rfl, by decide +kernel, rfl, by decide +kernel, by decide +kernel⟩
theorem fn__law_plan (W : Wd K mg cl) (h__law_name : FnD P w K mg base cl "_law_name" 1 .fz 2 f__law_name) (h__law_drawn : FnD P w K mg base cl "_law_drawn" 2 .fz 1 f__law_drawn) {f : Addr} {fd : FuncData} (F : Fun K "_law_plan" "_law_plan" (topS 28) f fd) (hm : mg "_law_plan" = some (.ref f)) (hb : L2.Binds K fd ["_law_number"] []) : FnD P w K mg base cl "_law_plan" 1 .fz 3 f__law_plan :=
  fnD (N := N__law_plan) (ps := ["_law_number"]) (O := O__law_plan) (k := 2) (g := g__law_plan) F sc__law_plan hm hb rfl (by decide) (by decide) fun cdv E =>
    (dss_cons (ds_set 1 (de_mod (m := .fz) (de_fdiv (m := .fz) (de_var 0) (de_int (m := .fz))) (de_ix (fun _ _ => rfl) (de_tup (m := .fz) (da_cons (de_int (m := .fz)) (da_cons (de_int (m := .fz)) da_nil))) (de_mod (m := .fz) (de_var 0) (de_int (m := .fz)))))) (dss_cons (ds_set 2 (de_fz (de_add (de_var 1) (de_mod (m := .fz) (de_fdiv (m := .fz) (de_var 0) (de_int (m := .fz))) (de_sub (m := .fz) (de_int (m := .fz)) (de_var 1)))))) (dss_cons (ds_setC 3 (dec_lc [("_law_k", 4)] rfl (by show blkC N__law_plan (scOf (defScope (topS 28)).names) _ _ = true; decide +kernel) (di_range1 (m := .fz) W.b_range (de_add (de_int (m := .fz)) (de_mod (m := .fz) (de_fdiv (m := .fz) (de_var 0) (de_int (m := .fz))) (de_int (m := .fz))))) (dg_name 4) dts_nil (de_call h__law_name (Nat.le_of_ble_eq_true rfl) (da_cons (de_fdiv (m := .fz) (de_call h__law_drawn (Nat.le_of_ble_eq_true rfl) (da_cons (de_var 0) (da_cons (de_fz (de_add (de_int (m := .fz)) (de_var 4))) da_nil))) (de_int (m := .fz))) da_nil)) (by decide))) (dss_one (ds_ret (de_tup (m := .fz) (da_cons (de_var 1) (da_cons (de_var 2) (da_cons (de_tuple (m := .fz) W.b_tuple (de_sortSet W.b_sorted W.b_set (de_var 3))) da_nil)))))))))
def N__law_row : List Str := ["_law_plan_here", "_law_number", "_law_low", "_law_high", "_law_tags", "_law_parent", "_law_key", "_law_amount"]
def O__law_row : Nat → Option Bool := fun i => some (false)
def g__law_row : GS := (sSeq (sTg (eVar 0) (tgT (tgCons (tgN 2) (tgCons (tgN 3) (tgCons (tgN 4) tgNil))))) (sSeq (sSet 5 (eCall f__law_name (aCons (e2 dDiv (eVar 1) (eC (.int 3))) aNil))) (sSeq (sIf (tV (e2 dEq (e2 dMod (eVar 1) (eC (.int 3))) (eC (.int 0)))) (sSet 5 (eC .none)) sNil) (sSeq (sSet 6 (eCall f__law_name (aCons (e2 dDiv (eCall f__law_drawn (aCons (eVar 1) (aCons (eC (.int 1)) aNil))) (eC (.int 4))) aNil))) (sSeq (sSet 7 (e2 dAdd (eVar 2) (e2 dMod (e2 dDiv (eVar 1) (eC (.int 64))) (e2 dAdd (e2 dSub (eVar 3) (eVar 2)) (eC (.int 1)))))) (sRet (eTup (aCons (eVar 6) (aCons (eVar 5) (aCons (eVar 7) (aCons (e2 dIx (eVar 4) (e2 dMod (e2 dDiv (eVar 1) (eC (.int 8))) (eCl (f1 dLen) (aCons (eVar 4) aNil)))) aNil)))))))))))
def f__law_row : List D → Out D := runD 8 2 g__law_row
theorem sc__law_row : FnScope N__law_row ["_law_plan_here", "_law_number"] (defScope (topS 29)) := ⟨rfl, rfl, rfl, by decide +kernel, rfl, by decide +kernel, by decide +kernel⟩
theorem fn__law_row (W : Wd K mg cl) (h__law_name : FnD P w K mg base cl "_law_name" 1 .fz 2 f__law_name) (h__law_drawn : FnD P w K mg base cl "_law_drawn" 2 .fz 1 f__law_drawn) {f : Addr} {fd : FuncData} (F : Fun K "_law_row" "_law_row" (topS 29) f fd) (hm : mg "_law_row" = some (.ref f)) (hb : L2.Binds K fd ["_law_plan_here", "_law_number"] []) : FnD P w K mg base cl "_law_row" 2 .fz 3 f__law_row :=
  fnD (N := N__law_row) (ps := ["_law_plan_here", "_law_number"]) (O := O__law_row) (k := 2) (g := g__law_row) F sc__law_row hm hb rfl (by decide) (by decide) fun cdv E =>
    (dss_cons (ds_tg (de_var 0) (dg_tup (dgs_cons (dg_name 2) (dgs_cons (dg_name 3) (dgs_cons (dg_name 4) dgs_nil))))) (dss_cons (ds_set 5 (de_call h__law_name (Nat.le_of_ble_eq_true rfl) (da_cons (de_fdiv (m := .fz) (de_var 1) (de_int (m := .fz))) da_nil))) (dss_cons (ds_if (dc_t (de_eq (m := .fz) (de_mod (m := .fz) (de_var 1) (de_int (m := .fz))) (de_int (m := .fz)))) (dss_one (ds_set 5 (de_non (m := .fz)))) dss_nil) (dss_cons (ds_set 6 (de_call h__law_name (Nat.le_of_ble_eq_true rfl) (da_cons (de_fdiv (m := .fz) (de_call h__law_drawn (Nat.le_of_ble_eq_true rfl) (da_cons (de_var 1) (da_cons (de_int (m := .fz)) da_nil))) (de_int (m := .fz))) da_nil))) (dss_cons (ds_set 7 (de_fz (de_add (de_var 2) (de_mod (m := .fz) (de_fdiv (m := .fz) (de_var 1) (de_int (m := .fz))) (de_add (de_sub (m := .fz) (de_var 3) (de_var 2)) (de_int (m := .fz))))))) (dss_one (ds_ret (de_tup (m := .fz) (da_cons (de_var 6) (da_cons (de_var 5) (da_cons (de_var 7) (da_cons (de_ix (fun _ _ => rfl) (de_var 4) (de_mod (m := .fz) (de_fdiv (m := .fz) (de_var 1) (de_int (m := .fz))) (de_len (m := .fz) W.b_len (de_var 4)))) da_nil))))))))))))
def N__law_text : List Str := ["_law_row_here", "_law_parent"]
def O__law_text : Nat → Option Bool := fun i => some (false)
def k__law_text_3 : GS := (sRet (e2 dAdd (e2 dAdd (e2 dAdd (e2 dAdd (e2 dAdd (e2 dAdd (e2 dIx (eVar 0) (eC (.int 0))) (eC (.str " "))) (eVar 1)) (eC (.str " "))) (eCl (f1 dStr) (aCons (e2 dIx (eVar 0) (eC (.int 2))) aNil))) (eC (.str " "))) (e2 dIx (eVar 0) (eC (.int 3)))))
def k__law_text_2 : GS := (sSeq (sIf (tV (e1 (dIsN false) (eVar 1))) (sSet 1 (eC (.str "-"))) sNil) k__law_text_3)
def g__law_text : GS := (sSeq (sSet 1 (e2 dIx (eVar 0) (eC (.int 1)))) k__law_text_2)
def f__law_text : List D → Out D := runD 2 1 g__law_text
theorem sc__law_text : FnScope N__law_text ["_law_row_here"] (defScope (topS 30)) := ⟨rfl, rfl, rfl, by decide +kernel, rfl, by decide +kernel, by decide +kernel⟩
theorem fn__law_text (W : Wd K mg cl) {f : Addr} {fd : FuncData} (F : Fun K "_law_text" "_law_text" (topS 30) f fd) (hm : mg "_law_text" = some (.ref f)) (hb : L2.Binds K fd ["_law_row_here"] []) : FnD P w K mg base cl "_law_text" 1 .fz 1 f__law_text :=
  fnD (N := N__law_text) (ps := ["_law_row_here"]) (O := O__law_text) (k := 0) (g := g__law_text) F sc__law_text hm hb rfl (by decide) (by decide) fun cdv E =>
    (dss_cons (ds_set 1 (de_ix (fun _ _ => rfl) (de_var 0) (de_int (m := .fz)))) (dss_cons (ds_if (dc_t (de_isN (m := .fz) (de_var 1))) (dss_one (ds_set 1 (de_str (m := .fz)))) dss_nil) (dss_one (ds_ret (de_fz (de_add (de_add (de_add (de_add (de_add (de_add (de_ix (fun _ _ => rfl) (de_var 0) (de_int (m := .fz))) (de_str (m := .fz))) (de_var 1)) (de_str (m := .fz))) (de_strc (m := .fz) W.b_str (de_ix (fun _ _ => rfl) (de_var 0) (de_int (m := .fz))))) (de_str (m := .fz))) (de_ix (fun _ _ => rfl) (de_var 0) (de_int (m := .fz)))))))))
def N__law_spoilt_text : List Str := ["_law_text_here", "_law_number", "_law_words", "_law_at", "_law_some", "_law_found"]
def O__law_spoilt_text : Nat → Option Bool := fun i => some (i == 5)
def k__law_spoilt_text_9 : GS := (sRet (eM1 dJoin (eC (.str " ")) (e2 dIx (eVar 5) (e2 dMod (eVar 1) (eC (.int 6))))))
def k__law_spoilt_text_8 : GS := (sSeq (sApp 5 (e1 dRev (eVar 2))) k__law_spoilt_text_9)
def k__law_spoilt_text_7 : GS := (sSeq (sApp 5 (e2 dAdd (e2 dAdd (eSl (eVar 2) oNo (oI (eVar 3))) (eLst (aCons (e2 dAdd (e2 dIx (eVar 2) (eVar 3)) (eC (.str "0"))) aNil))) (eSl (eVar 2) (oI (e2 dAdd (eVar 3) (eC (.int 1)))) oNo))) k__law_spoilt_text_8)
def k__law_spoilt_text_6 : GS := (sSeq (sApp 5 (e2 dAdd (e2 dAdd (eSl (eVar 2) oNo (oI (eVar 3))) (eLst (aCons (eSl (e2 dIx (eVar 2) (eVar 3)) oNo (oI (e1 dNeg (eC (.int 1))))) aNil))) (eSl (eVar 2) (oI (e2 dAdd (eVar 3) (eC (.int 1)))) oNo))) k__law_spoilt_text_7)
def k__law_spoilt_text_5 : GS := (sSeq (sApp 5 (e2 dAdd (e2 dAdd (eSl (eVar 2) oNo (oI (eVar 3))) (eLst (aCons (e2 dIx (eVar 4) (e2 dMod (e2 dDiv (eVar 1) (eC (.int 256))) (eC (.int 12)))) aNil))) (eSl (eVar 2) (oI (e2 dAdd (eVar 3) (eC (.int 1)))) oNo))) k__law_spoilt_text_6)
def k__law_spoilt_text_4 : GS := (sSeq (sOwn 5 (eLst (aCons (e2 dAdd (eSl (eVar 2) oNo (oI (eVar 3))) (eSl (eVar 2) (oI (e2 dAdd (eVar 3) (eC (.int 1)))) oNo)) (aCons (e2 dAdd (e2 dAdd (eSl (eVar 2) oNo (oI (eVar 3))) (eSl (eVar 2) (oI (eVar 3)) (oI (e2 dAdd (eVar 3) (eC (.int 1)))))) (eSl (eVar 2) (oI (eVar 3)) oNo)) aNil)))) k__law_spoilt_text_5)
def k__law_spoilt_text_3 : GS := (sSeq (sSet 4 (eLst (aCons (eC (.str "-")) (aCons (eC (.str "a")) (aCons (eC (.str "0")) (aCons (eC (.str "07")) (aCons (eC (.str "1000")) (aCons (eC (.str "999")) (aCons (eC (.str "sixsix")) (aCons (eC (.str "A")) (aCons (eC (.str "")) (aCons (eC (.str "-1")) (aCons (eC (.str "a b")) (aCons (eC (.str "ok")) aNil)))))))))))))) k__law_spoilt_text_4)
def k__law_spoilt_text_2 : GS := (sSeq (sSet 3 (e2 dMod (e2 dDiv (eVar 1) (eC (.int 8))) (eCl (f1 dLen) (aCons (eVar 2) aNil)))) k__law_spoilt_text_3)
def g__law_spoilt_text : GS := (sSeq (sSet 2 (eM1 dSplit (eVar 0) (eC (.str " ")))) k__law_spoilt_text_2)
def f__law_spoilt_text : List D → Out D := runD 6 2 g__law_spoilt_text
theorem sc__law_spoilt_text : FnScope N__law_spoilt_text ["_law_text_here", "_law_number"] (defScope (topS 31)) := ⟨rfl, rfl, rfl, by decide +kernel, rfl, by decide +kernel, by decide +kernel⟩
theorem fn__law_spoilt_text (W : Wd K mg cl) {f : Addr} {fd : FuncData} (F : Fun K "_law_spoilt_text" "_law_spoilt_text" (topS 31) f fd) (hm : mg "_law_spoilt_text" = some (.ref f)) (hb : L2.Binds K fd ["_law_text_here", "_law_number"] []) : FnD P w K mg base cl "_law_spoilt_text" 2 .fz 1 f__law_spoilt_text :=
  fnD (N := N__law_spoilt_text) (ps := ["_law_text_here", "_law_number"]) (O := O__law_spoilt_text) (k := 0) (g := g__law_spoilt_text) F sc__law_spoilt_text hm hb rfl (by decide) (by decide) fun cdv E =>
    (dss_cons (ds_set 2 (de_fz (de_split (de_var 0) (de_str (m := .fz))))) (dss_cons (ds_set 3 (de_mod (m := .fz) (de_fdiv (m := .fz) (de_var 1) (de_int (m := .fz))) (de_len (m := .fz) W.b_len (de_var 2)))) (dss_cons (ds_set 4 (de_fz (de_lst (da_cons (de_str (m := .fz)) (da_cons (de_str (m := .fz)) (da_cons (de_str (m := .fz)) (da_cons (de_str (m := .fz)) (da_cons (de_str (m := .fz)) (da_cons (de_str (m := .fz)) (da_cons (de_str (m := .fz)) (da_cons (de_str (m := .fz)) (da_cons (de_str (m := .fz)) (da_cons (de_str (m := .fz)) (da_cons (de_str (m := .fz)) (da_cons (de_str (m := .fz)) da_nil))))))))))))))) (dss_cons (ds_setO 5 (de_lst (da_cons (de_fz (de_add (de_sl (de_var 2) do_no (do_i (de_var 3))) (de_sl (de_var 2) (do_i (de_add (de_var 3) (de_int (m := .fz)))) do_no))) (da_cons (de_fz (de_add (de_add (de_sl (de_var 2) do_no (do_i (de_var 3))) (de_sl (de_var 2) (do_i (de_var 3)) (do_i (de_add (de_var 3) (de_int (m := .fz)))))) (de_sl (de_var 2) (do_i (de_var 3)) do_no))) da_nil)))) (dss_cons (ds_append 5 (de_fz (de_add (de_add (de_sl (de_var 2) do_no (do_i (de_var 3))) (de_lst (da_cons (de_ix (fun _ _ => rfl) (de_var 4) (de_mod (m := .fz) (de_fdiv (m := .fz) (de_var 1) (de_int (m := .fz))) (de_int (m := .fz)))) da_nil))) (de_sl (de_var 2) (do_i (de_add (de_var 3) (de_int (m := .fz)))) do_no)))) (dss_cons (ds_append 5 (de_fz (de_add (de_add (de_sl (de_var 2) do_no (do_i (de_var 3))) (de_lst (da_cons (de_fz (de_sl (de_ix (fun _ _ => rfl) (de_var 2) (de_var 3)) do_no (do_i (de_neg (m := .fz) (de_int (m := .fz)))))) da_nil))) (de_sl (de_var 2) (do_i (de_add (de_var 3) (de_int (m := .fz)))) do_no)))) (dss_cons (ds_append 5 (de_fz (de_add (de_add (de_sl (de_var 2) do_no (do_i (de_var 3))) (de_lst (da_cons (de_fz (de_add (de_ix (fun _ _ => rfl) (de_var 2) (de_var 3)) (de_str (m := .fz)))) da_nil))) (de_sl (de_var 2) (do_i (de_add (de_var 3) (de_int (m := .fz)))) do_no)))) (dss_cons (ds_append 5 (de_fz (de_rev (de_var 2)))) (dss_one (ds_ret (de_join (m := .fz) (de_str (m := .fz)) (de_ix (fun _ _ => rfl) (de_own 5) (de_mod (m := .fz) (de_var 1) (de_int (m := .fz)))))))))))))))
def N__law_heap : List Str := ["_law_plan_here", "_law_number", "_law_most", "_law_found", "_law_k", "_law_drawn_here", "_law_text_here"]
def O__law_heap : Nat → Option Bool := fun i => some (false)
def b__law_heap_1_5 : GS := (sSet 3 (e2 dAdd (eVar 3) (eTup (aCons (eVar 6) aNil))))
def b__law_heap_1_4 : GS := (sSeq (sIf (gAnd (tV (e2 dEq (e2 dMod (eVar 5) (eC (.int 8))) (eC (.int 1)))) (tV (e2 dNe (eVar 3) (eTup aNil)))) (sSet 6 (e2 dIx (eVar 3) (e2 dMod (e2 dDiv (eVar 5) (eC (.int 8))) (eCl (f1 dLen) (aCons (eVar 3) aNil))))) sNil) b__law_heap_1_5)
def b__law_heap_1_3 : GS := (sSeq (sIf (tV (e2 dEq (e2 dMod (eVar 5) (eC (.int 8))) (eC (.int 0)))) (sSet 6 (eCall f__law_spoilt_text (aCons (eVar 6) (aCons (e2 dDiv (eVar 5) (eC (.int 8))) aNil)))) sNil) b__law_heap_1_4)
def b__law_heap_1_2 : GS := (sSeq (sSet 6 (eCall f__law_text (aCons (eCall f__law_row (aCons (eVar 0) (aCons (e2 dDiv (eVar 5) (eC (.int 8))) aNil))) aNil))) b__law_heap_1_3)
def b__law_heap_1 : GS := (sSeq (sSet 5 (e2 dDiv (eCall f__law_drawn (aCons (eVar 1) (aCons (e2 dAdd (eC (.int 10)) (eVar 4)) aNil))) (eC (.int 4)))) b__law_heap_1_2)
def k__law_heap_3 : GS := (sRet (eVar 3))
def k__law_heap_2 : GS := (sSeq (sFor (iR1 (e2 dMod (eVar 1) (e2 dAdd (eVar 2) (eC (.int 1))))) (tgN 4) b__law_heap_1) k__law_heap_3)
def g__law_heap : GS := (sSeq (sSet 3 (eTup aNil)) k__law_heap_2)
def f__law_heap : List D → Out D := runD 7 3 g__law_heap
theorem sc__law_heap : FnScope N__law_heap ["_law_plan_here", "_law_number", "_law_most"] (defScope (topS 32)) := ⟨rfl, rfl, rfl, by decide +kernel, rfl, by decide +kernel, by decide +kernel⟩
theorem fn__law_heap (W : Wd K mg cl) (h__law_drawn : FnD P w K mg base cl "_law_drawn" 2 .fz 1 f__law_drawn) (h__law_text : FnD P w K mg base cl "_law_text" 1 .fz 1 f__law_text) (h__law_row : FnD P w K mg base cl "_law_row" 2 .fz 3 f__law_row) (h__law_spoilt_text : FnD P w K mg base cl "_law_spoilt_text" 2 .fz 1 f__law_spoilt_text) {f : Addr} {fd : FuncData} (F : Fun K "_law_heap" "_law_heap" (topS 32) f fd) (hm : mg "_law_heap" = some (.ref f)) (hb : L2.Binds K fd ["_law_plan_here", "_law_number", "_law_most"] []) : FnD P w K mg base cl "_law_heap" 3 .fz 4 f__law_heap :=
  fnD (N := N__law_heap) (ps := ["_law_plan_here", "_law_number", "_law_most"]) (O := O__law_heap) (k := 3) (g := g__law_heap) F sc__law_heap hm hb rfl (by decide) (by decide) fun cdv E =>
    (dss_cons (ds_set 3 (de_tup (m := .fz) da_nil)) (dss_cons (ds_for (di_range1 (m := .fz) W.b_range (de_mod (m := .fz) (de_var 1) (de_add (de_var 2) (de_int (m := .fz))))) (dg_name 4) (dss_cons (ds_set 5 (de_fdiv (m := .fz) (de_call h__law_drawn (Nat.le_of_ble_eq_true rfl) (da_cons (de_var 1) (da_cons (de_fz (de_add (de_int (m := .fz)) (de_var 4))) da_nil))) (de_int (m := .fz)))) (dss_cons (ds_set 6 (de_call h__law_text (Nat.le_of_ble_eq_true rfl) (da_cons (de_call h__law_row (Nat.le_of_ble_eq_true rfl) (da_cons (de_var 0) (da_cons (de_fdiv (m := .fz) (de_var 5) (de_int (m := .fz))) da_nil))) da_nil))) (dss_cons (ds_if (dc_t (de_eq (m := .fz) (de_mod (m := .fz) (de_var 5) (de_int (m := .fz))) (de_int (m := .fz)))) (dss_one (ds_set 6 (de_call h__law_spoilt_text (Nat.le_of_ble_eq_true rfl) (da_cons (de_var 6) (da_cons (de_fdiv (m := .fz) (de_var 5) (de_int (m := .fz))) da_nil))))) dss_nil) (dss_cons (ds_if (dw_t (dw_and (dc_t (de_eq (m := .fz) (de_mod (m := .fz) (de_var 5) (de_int (m := .fz))) (de_int (m := .fz)))) (dw_and1 (dc_t (de_ne (m := .fz) (de_var 3) (de_tup (m := .fz) da_nil)))))) (dss_one (ds_set 6 (de_ix (fun _ _ => rfl) (de_var 3) (de_mod (m := .fz) (de_fdiv (m := .fz) (de_var 5) (de_int (m := .fz))) (de_len (m := .fz) W.b_len (de_var 3)))))) dss_nil) (dss_one (ds_set 3 (de_fz (de_add (de_var 3) (de_tup (m := .fz) (da_cons (de_var 6) da_nil))))))))))) (dss_one (ds_ret (de_var 3)))))
def N_law : List Str := ["_law_script", "_law_plan_here", "_law_heap_here", "_law_text_here", "_law_one", "_law_two", "_law_three", "_law_sign", "_law_k", "_law_row_here", "_law_last", "_law_hand", "_law_due", "_law_before", "%"]
def O_law : Nat → Option Bool := ledO 14 fun i => (false)
noncomputable def b_law_1_2 : GS := (sExprX (xM 14 f_Intake_take (eVar 5) (aCons (eC (.str "")) aNil)))
noncomputable def b_law_1 : GS := (sSeq (sExprX (xM 14 f_Intake_take (eVar 5) (aCons (eVar 7) aNil))) b_law_1_2)
noncomputable def b_law_2_3 : GS := (sIf (gOr (tV (e2 dNe (eMR 14 f_Intake_waiting (eVar 6) aNil) (eVar 9))) (tV (e2 dNe (eMR 14 f_Intake_heap (eVar 6) aNil) (eSl (eVar 2) oNo (oI (eVar 8)))))) (sRet (eC (.bool false))) sNil)
noncomputable def b_law_2_2 : GS := (sSeq (sExprX (xM 14 f_Intake_take (eVar 6) (aCons (eVar 9) aNil))) b_law_2_3)
noncomputable def b_law_2 : GS := (sSeq (sExprX (xM 14 f_Intake_take (eVar 6) (aCons (e2 dMulS (eC (.str "\n")) (eCl (f1 dInt) (aCons (e2 dGt (eVar 8) (eC (.int 0))) aNil))) aNil))) b_law_2_2)
noncomputable def b_law_3_11 : GS := (sIf (gOr (tV (e2 dNe (eMR 14 f_Intake_heap (eVar 11) aNil) (e2 dAdd (eVar 13) (eTup (aCons (eC (.str "")) aNil))))) (tV (e2 dNe (e2 dIx (eMR 14 f_Intake_report (eVar 11) aNil) (e1 dNeg (eC (.int 1)))) (eTup (aCons (eC (.str "count")) aNil))))) (sRet (eC (.bool false))) sNil)
noncomputable def b_law_3_10 : GS := (sSeq (sExprX (xM 14 f_Intake_take (eVar 11) (aCons (eC (.str "\n")) aNil))) b_law_3_11)
noncomputable def b_law_3_9 : GS := (sSeq (sIf (gOr (tV (e2 dNe (eMR 14 f_Intake_heap (eVar 11) aNil) (eVar 13))) (tV (e2 dNe (eMR 14 f_Intake_waiting (eVar 11) aNil) (eC (.str ""))))) (sRet (eC (.bool false))) sNil) b_law_3_10)
noncomputable def b_law_3_8 : GS := (sSeq (sExprX (xM 14 f_Intake_take (eVar 11) (aCons (eC (.str "")) aNil))) b_law_3_9)
noncomputable def b_law_3_7 : GS := (sSeq (sExprX (xM 14 f_Intake_end (eVar 11) aNil)) b_law_3_8)
noncomputable def b_law_3_6 : GS := (sSeq (sSet 13 (eMR 14 f_Intake_heap (eVar 11) aNil)) b_law_3_7)
noncomputable def b_law_3_5 : GS := (sSeq (sIf (gOr (tV (e2 dNe (eMR 14 f_Intake_waiting (eVar 11) aNil) (eC (.str "")))) (tV (e2 dNe (eMR 14 f_Intake_heap (eVar 11) aNil) (eVar 12)))) (sRet (eC (.bool false))) sNil) b_law_3_6)
noncomputable def b_law_3_4 : GS := (sSeq (sExprX (xM 14 f_Intake_end (eVar 11) aNil)) b_law_3_5)
noncomputable def b_law_3_3 : GS := (sSeq (sIf (tV (e2 dNe (eVar 10) (eC (.str "")))) (sSet 12 (eVar 2)) sNil) b_law_3_4)
noncomputable def b_law_3_2 : GS := (sSeq (sSet 12 (eMR 14 f_Intake_heap (eVar 11) aNil)) b_law_3_3)
noncomputable def b_law_3 : GS := (sSeq (sIf (gOr (tV (e2 dNe (eMR 14 f_Intake_heap (eVar 11) aNil) (eSl (eVar 2) oNo (oI (eCl dMax (aCons (eC (.int 0)) (aCons (e2 dSub (eCl (f1 dLen) (aCons (eVar 2) aNil)) (eC (.int 1))) aNil))))))) (tV (e2 dNe (eMR 14 f_Intake_waiting (eVar 11) aNil) (eVar 10)))) (sRet (eC (.bool false))) sNil) b_law_3_2)
noncomputable def k_law_10 : GS := (sRet (eC (.bool true)))
noncomputable def k_law_9 : GS := (sSeq (sFor (iSeq (eTup (aCons (eVar 4) (aCons (eVar 5) (aCons (eVar 6) aNil))))) (tgN 11) b_law_3) k_law_10)
noncomputable def k_law_8 : GS := (sSeq (sSet 10 (e2 dIx (e2 dAdd (eVar 2) (eTup (aCons (eC (.str "")) aNil))) (eCl dMax (aCons (eC (.int 0)) (aCons (e2 dSub (eCl (f1 dLen) (aCons (eVar 2) aNil)) (eC (.int 1))) aNil))))) k_law_9)
noncomputable def k_law_7 : GS := (sSeq (sFor (iEnum1 (eVar 2)) (tgT (tgCons (tgN 8) (tgCons (tgN 9) tgNil))) b_law_2) k_law_8)
noncomputable def k_law_6 : GS := (sSeq (sFor (iSeq (eVar 3)) (tgN 7) b_law_1) k_law_7)
noncomputable def k_law_5 : GS := (sSeq (sExprX (xM 14 f_Intake_take (eVar 4) (aCons (eVar 3) aNil))) k_law_6)
noncomputable def k_law_4 : GS := (sMk3 14 4 5 6 (eVar 1) (eVar 1) (eVar 1) k_law_5)
noncomputable def k_law_3 : GS := (sSeq (sSet 3 (eM1 dJoin (eC (.str "\n")) (eVar 2))) k_law_4)
noncomputable def k_law_2 : GS := (sSeq (sSet 2 (eCall f__law_heap (aCons (eVar 1) (aCons (eCall f__law_mixed (aCons (eVar 0) (aCons (eC (.int 1)) aNil))) (aCons (eC (.int 9)) aNil))))) k_law_3)
theorem lf_law : LF O_law 14 := lf_ledO
noncomputable def g_law : GS := (sSeq (sSet 1 (eCall f__law_plan (aCons (eCall f__law_mixed (aCons (eVar 0) (aCons (eC (.int 0)) aNil))) aNil))) k_law_2)
noncomputable def f_law : List D → Out D := runW 15 1 g_law
theorem sc_law : FnScope N_law ["_law_script"] (defScope (topS 33)) := ⟨rfl, rfl, rfl, by decide +kernel, rfl, by decide +kernel, by decide +kernel⟩
theorem ok_law (W : Wd K mg cl) (IC : IntC K) (h__law_plan : FnD P w K mg base cl "_law_plan" 1 .fz 3 f__law_plan) (h__law_mixed : FnD P w K mg base cl "_law_mixed" 2 .fz 2 f__law_mixed) (h__law_heap : FnD P w K mg base cl "_law_heap" 3 .fz 4 f__law_heap) (h_Intake___init__ : FnI P w K mg base 1) (h_Intake_take : FnL P w K mg base cl "take" 2 2 f_Intake_take) (h_Intake_heap : FnR P w K mg base cl "heap" 1 .fz 1 f_Intake_heap) (h_Intake_waiting : FnR P w K mg base cl "waiting" 1 .fz 1 f_Intake_waiting) (h_Intake_end : FnL P w K mg base cl "end" 1 2 f_Intake_end) (h_Intake_report : FnR P w K mg base cl "report" 1 .fz 6 f_Intake_report) {f : Addr} {fd : FuncData} (F : Fun K "law" "law" (topS 33) f fd) : FnOk P w K mg base (L2N.CX P w) 7 f fd ["_law_script"] (spD K cl 1 .fz f_law) :=
  fn_okW0 (N := N_law) (ps := ["_law_script"]) (O := O_law) (k := 6) (g := g_law) F sc_law rfl (by decide) lf_law (by decide) (by decide) fun cdv E =>
    (dss_cons (ds_set 1 (de_call h__law_plan (Nat.le_of_ble_eq_true rfl) (da_cons (de_call h__law_mixed (Nat.le_of_ble_eq_true rfl) (da_cons (de_var 0) (da_cons (de_int (m := .fz)) da_nil))) da_nil))) (dss_cons (ds_set 2 (de_call h__law_heap (Nat.le_of_ble_eq_true rfl) (da_cons (de_var 1) (da_cons (de_call h__law_mixed (Nat.le_of_ble_eq_true rfl) (da_cons (de_var 0) (da_cons (de_int (m := .fz)) da_nil))) (da_cons (de_int (m := .fz)) da_nil))))) (dss_cons (ds_set 3 (de_join (m := .fz) (de_str (m := .fz)) (de_var 2))) (dss_make3 4 5 6 lf_law h_Intake___init__ (Nat.le_of_ble_eq_true rfl) (de_var 1) (de_var 1) (de_var 1) (dss_cons (ds_exprX (dx_m lf_law IC h_Intake_take (Nat.le_of_ble_eq_true rfl) (de_var 4) (da_cons (de_var 3) da_nil))) (dss_cons (ds_for (di_seq (m := .fz) (de_var 3)) (dg_name 7) (dss_cons (ds_exprX (dx_m lf_law IC h_Intake_take (Nat.le_of_ble_eq_true rfl) (de_var 5) (da_cons (de_var 7) da_nil))) (dss_one (ds_exprX (dx_m lf_law IC h_Intake_take (Nat.le_of_ble_eq_true rfl) (de_var 5) (da_cons (de_str (m := .fz)) da_nil)))))) (dss_cons (ds_for (di_enum (m := .fz) W.b_enumerate (de_var 2)) (dg_tup (dgs_cons (dg_name 8) (dgs_cons (dg_name 9) dgs_nil))) (dss_cons (ds_exprX (dx_m lf_law IC h_Intake_take (Nat.le_of_ble_eq_true rfl) (de_var 6) (da_cons (de_mulS (m := .fz) (de_str (m := .fz)) (de_intc (m := .fz) W.b_int (dc_e (de_ord (m := .fz) o_gt (de_var 8) (de_int (m := .fz)))))) da_nil))) (dss_cons (ds_exprX (dx_m lf_law IC h_Intake_take (Nat.le_of_ble_eq_true rfl) (de_var 6) (da_cons (de_var 9) da_nil))) (dss_one (ds_if (dw_t (dw_or (dc_t (de_ne (m := .fz) (de_mr0 lf_law IC h_Intake_waiting (Nat.le_of_ble_eq_true rfl) (de_var 6)) (de_var 9))) (dw_or1 (dc_t (de_ne (m := .fz) (de_mr0 lf_law IC h_Intake_heap (Nat.le_of_ble_eq_true rfl) (de_var 6)) (de_sl (de_var 2) do_no (do_i (de_var 8)))))))) (dss_one (ds_ret (de_bl (m := .fz)))) dss_nil))))) (dss_cons (ds_set 10 (de_ix (fun _ _ => rfl) (de_add (de_var 2) (de_tup (m := .fz) (da_cons (de_str (m := .fz)) da_nil))) (de_max (m := .fz) W.b_max (da_cons (de_int (m := .bo)) (da_cons (de_sub (m := .bo) (de_len (m := .fz) W.b_len (de_var 2)) (de_int (m := .fz))) da_nil))))) (dss_cons (ds_for (di_seq (m := .fz) (de_tup (m := .fz) (da_cons (de_var 4) (da_cons (de_var 5) (da_cons (de_var 6) da_nil))))) (dg_name 11) (dss_cons (ds_if (dw_t (dw_or (dc_t (de_ne (m := .fz) (de_mr0 lf_law IC h_Intake_heap (Nat.le_of_ble_eq_true rfl) (de_var 11)) (de_sl (de_var 2) do_no (do_i (de_max (m := .fz) W.b_max (da_cons (de_int (m := .bo)) (da_cons (de_sub (m := .bo) (de_len (m := .fz) W.b_len (de_var 2)) (de_int (m := .fz))) da_nil))))))) (dw_or1 (dc_t (de_ne (m := .fz) (de_mr0 lf_law IC h_Intake_waiting (Nat.le_of_ble_eq_true rfl) (de_var 11)) (de_var 10)))))) (dss_one (ds_ret (de_bl (m := .fz)))) dss_nil) (dss_cons (ds_set 12 (de_mr0 lf_law IC h_Intake_heap (Nat.le_of_ble_eq_true rfl) (de_var 11))) (dss_cons (ds_if (dc_t (de_ne (m := .fz) (de_var 10) (de_str (m := .fz)))) (dss_one (ds_set 12 (de_var 2))) dss_nil) (dss_cons (ds_exprX (dx_m0 lf_law IC h_Intake_end (Nat.le_of_ble_eq_true rfl) (de_var 11))) (dss_cons (ds_if (dw_t (dw_or (dc_t (de_ne (m := .fz) (de_mr0 lf_law IC h_Intake_waiting (Nat.le_of_ble_eq_true rfl) (de_var 11)) (de_str (m := .fz)))) (dw_or1 (dc_t (de_ne (m := .fz) (de_mr0 lf_law IC h_Intake_heap (Nat.le_of_ble_eq_true rfl) (de_var 11)) (de_var 12)))))) (dss_one (ds_ret (de_bl (m := .fz)))) dss_nil) (dss_cons (ds_set 13 (de_mr0 lf_law IC h_Intake_heap (Nat.le_of_ble_eq_true rfl) (de_var 11))) (dss_cons (ds_exprX (dx_m0 lf_law IC h_Intake_end (Nat.le_of_ble_eq_true rfl) (de_var 11))) (dss_cons (ds_exprX (dx_m lf_law IC h_Intake_take (Nat.le_of_ble_eq_true rfl) (de_var 11) (da_cons (de_str (m := .fz)) da_nil))) (dss_cons (ds_if (dw_t (dw_or (dc_t (de_ne (m := .fz) (de_mr0 lf_law IC h_Intake_heap (Nat.le_of_ble_eq_true rfl) (de_var 11)) (de_var 13))) (dw_or1 (dc_t (de_ne (m := .fz) (de_mr0 lf_law IC h_Intake_waiting (Nat.le_of_ble_eq_true rfl) (de_var 11)) (de_str (m := .fz))))))) (dss_one (ds_ret (de_bl (m := .fz)))) dss_nil) (dss_cons (ds_exprX (dx_m lf_law IC h_Intake_take (Nat.le_of_ble_eq_true rfl) (de_var 11) (da_cons (de_str (m := .fz)) da_nil))) (dss_one (ds_if (dw_t (dw_or (dc_t (de_ne (m := .fz) (de_mr0 lf_law IC h_Intake_heap (Nat.le_of_ble_eq_true rfl) (de_var 11)) (de_add (de_var 13) (de_tup (m := .fz) (da_cons (de_str (m := .fz)) da_nil))))) (dw_or1 (dc_t (de_ne (m := .fz) (de_ix (fun _ _ => rfl) (de_mr0 lf_law IC h_Intake_report (Nat.le_of_ble_eq_true rfl) (de_var 11)) (de_neg (m := .fz) (de_int (m := .fz)))) (de_tup (m := .fz) (da_cons (de_str (m := .fz)) da_nil))))))) (dss_one (ds_ret (de_bl (m := .fz)))) dss_nil))))))))))))) (dss_one (ds_ret (de_bl (m := .fz)))))))))))))
end
end DL
set_option Elab.async false
set_option linter.all false
set_option maxRecDepth 100000
set_option maxHeartbeats 4000000
namespace DL
open PySem PySem.Spec PyProof.Rows L2
/-! ### the numbers drawn -/
def cellN (ns : List Int) (k : Int) : Int := if k < ns.length then ns.getD k.toNat 0 else 0
theorem cell_is (ns : List Int) (k : Int) (h0 : 0 ≤ k) : f__law_cell_at [scrD ns, .int k] = .ok (.int (cellN ns k)) := by
  unfold f__law_cell_at
  rw [run_at (by rfl)]
  unfold g__law_cell_at cellN
  by_cases h : k < ns.length
  · simp [env0, h, d_ixScr h0 h]
  · simp [env0, h]
def mixN (ns : List Int) (k : Int) : Int :=
  let d := (cellN ns k + 7919 * k + 1) * 48271 % 2147483647
  (d * d + 7 * d + k) % 2147483629
theorem mixed_is (ns : List Int) (k : Int) (h0 : 0 ≤ k) (h1 : k ≤ 1000000) : f__law_mixed [scrD ns, .int k] = .ok (.int (mixN ns k)) := by
  unfold f__law_mixed
  rw [run_at (by rfl)]
  unfold g__law_mixed mixN
  have hd0 : 0 ≤ (cellN ns k + 7919 * k + 1) * 48271 % 2147483647 := Int.emod_nonneg _ (by decide)
  have hd1 : (cellN ns k + 7919 * k + 1) * 48271 % 2147483647 < 2147483647 := Int.emod_lt_of_pos _ (by decide)
  have m1 : dMul (.int 7919) (.int k) = some (.int (7919 * k)) := d_mull (by decide)
  have m2 : dMul (.int (cellN ns k + 7919 * k + 1)) (.int 48271) = some (.int ((cellN ns k + 7919 * k + 1) * 48271)) := d_mulr (by decide)
  have m3 : ∀ x : Int, dMod (.int x) (.int 2147483647) = some (.int (x % 2147483647)) := fun x => d_mod (by decide)
  have m4 : ∀ x : Int, dMod (.int x) (.int 2147483629) = some (.int (x % 2147483629)) := fun x => d_mod (by decide)
  generalize hd : (cellN ns k + 7919 * k + 1) * 48271 % 2147483647 = d at hd0 hd1
  have m5 : dMul (.int d) (.int d) = some (.int (d * d)) := d_mull (by omega)
  have m6 : dMul (.int 7) (.int d) = some (.int (7 * d)) := d_mull (by decide)
  simp [env0, cell_is ns k h0, m1, m2, m3, hd, m4, m5, m6]
theorem mixN_pos (ns : List Int) (k : Int) : 0 ≤ mixN ns k := Int.emod_nonneg _ (by decide)
theorem mixN_lt (ns : List Int) (k : Int) : mixN ns k < 2147483629 := Int.emod_lt_of_pos _ (by decide)

/-! ### reckoning, step by step -/
theorem okb {α β : Type} {a : α} {f : α → Out β} : (Out.ok a).bind f = f a := rfl
section
variable {ρ ρ2 : Env} {d x y z : D} {g h : GE} {t u : GT} {k : GS} {a : GA} {r : Out D}
theorem q_set {i : Nat} (e : g ρ = .ok d) (n : outD (k (ρ.set i (some d))) = r) : outD (sSeq (sSet i g) k ρ) = r := by
  rw [p_seq, p_set, e]
  exact n
theorem q_own {i : Nat} (e : g ρ = .ok d) (c : isCon d = true) (n : outD (k (ρ.set i (some d))) = r) : outD (sSeq (sOwn i g) k ρ) = r := by
  rw [p_seq, p_own, e, okb, c]
  exact n
theorem q_chk (e : t ρ = .ok false) (n : outD (k ρ) = r) : outD (sSeq (sIf t (sRet g) sNil) k ρ) = r := by
  rw [p_seq, p_if, e]
  exact n
theorem q_hit (e : t ρ = .ok true) (n : g ρ = .ok d) : outD (sSeq (sIf t (sRet g) sNil) k ρ) = .ok d := by
  rw [p_seq, p_if, e, okb]
  show outD (sThen ((g ρ).bind fun d => .ok (.rt d)) k) = _
  rw [n]
  rfl
theorem q_no {s : GS} (e : t ρ = .ok false) (n : outD (k ρ) = r) : outD (sSeq (sIf t s sNil) k ρ) = r := by
  rw [p_seq, p_if, e]
  exact n
theorem q_yes {s s2 : GS} (e : t ρ = .ok true) (h : s ρ = .ok (.nx ρ2)) (n : outD (k ρ2) = r) : outD (sSeq (sIf t s s2) k ρ) = r := by
  rw [p_seq, p_if, e, okb]
  show outD (sThen (s ρ) k) = _
  rw [h]
  exact n
theorem q_els {s s2 : GS} (e : t ρ = .ok false) (h : s2 ρ = .ok (.nx ρ2)) (n : outD (k ρ2) = r) : outD (sSeq (sIf t s s2) k ρ) = r := by
  rw [p_seq, p_if, e, okb]
  show outD (sThen (s2 ρ) k) = _
  rw [h]
  exact n
theorem q_nx {s : GS} (h : s ρ = .ok (.nx ρ2)) (n : outD (k ρ2) = r) : outD (sSeq s k ρ) = r := by
  rw [p_seqN h]
  exact n
theorem q_ret (e : g ρ = .ok d) : outD (sRet g ρ) = .ok d := by
  rw [p_ret, e]
  rfl
theorem q_err {c : Nat} : outD (sRai c ρ) = .err c := rfl
theorem q_rai {c : Nat} {s2 : GS} (e : t ρ = .ok true) : outD (sSeq (sIf t (sRai c) s2) k ρ) = .err c := by
  rw [p_seq, p_if, e]
  rfl
theorem st_set {i : Nat} (e : g ρ = .ok d) : sSet i g ρ = .ok (.nx (ρ.set i (some d))) := by
  rw [p_set, e]
  rfl
theorem st_seq {s : GS} {f : Fl} (h : s ρ = .ok (.nx ρ2)) (n : k ρ2 = .ok f) : sSeq s k ρ = .ok f := by
  rw [p_seqN h]
  exact n
theorem st_yes {s s2 : GS} {f : Fl} (e : t ρ = .ok true) (h : s ρ = .ok f) : sIf t s s2 ρ = .ok f := by
  rw [p_if, e]
  exact h
theorem st_no {s s2 : GS} {f : Fl} (e : t ρ = .ok false) (h : s2 ρ = .ok f) : sIf t s s2 ρ = .ok f := by
  rw [p_if, e]
  exact h
/-! calls -/
theorem c1 {f : List D → Out D} (e : g ρ = .ok x) (n : f [x] = r) : eCall f (aCons g aNil) ρ = r := by
  rw [p_call, p_acons, e]
  exact n
theorem c2 {f : List D → Out D} {g2 : GE} (e : g ρ = .ok x) (e2 : g2 ρ = .ok y) (n : f [x, y] = r) : eCall f (aCons g (aCons g2 aNil)) ρ = r := by
  rw [p_call, p_acons, e, okb, p_acons, e2]
  exact n
theorem c3 {f : List D → Out D} {g2 g3 : GE} (e : g ρ = .ok x) (e2 : g2 ρ = .ok y) (e3 : g3 ρ = .ok z) (n : f [x, y, z] = r) : eCall f (aCons g (aCons g2 (aCons g3 aNil))) ρ = r := by
  rw [p_call, p_acons, e, okb, p_acons, e2, okb, p_acons, e3]
  exact n
theorem b1 {f : D → Option D} (e : g ρ = .ok x) (n : f x = some y) : eCl (f1 f) (aCons g aNil) ρ = .ok y := by
  rw [p_cl, p_acons, e]
  show lift (f x) = _
  rw [n]
  rfl
theorem b2 {f : List D → Option D} {g2 : GE} (e : g ρ = .ok x) (e2 : g2 ρ = .ok y) (n : f [x, y] = some z) : eCl f (aCons g (aCons g2 aNil)) ρ = .ok z := by
  rw [p_cl, p_acons, e, okb, p_acons, e2]
  show lift (f [x, y]) = _
  rw [n]
  rfl
theorem e1_ok {f : D → Option D} (e : g ρ = .ok x) (n : f x = some y) : e1 f g ρ = .ok y := by
  rw [p_e1, e, okb, n]
  rfl
theorem e2_ok {f : D → D → Option D} (e : g ρ = .ok x) (e' : h ρ = .ok y) (n : f x y = some z) : e2 f g h ρ = .ok z := by
  rw [p_e2, e, okb, e', okb, n]
  rfl
theorem m1_ok {f : Str → D → Option D} {s : Str} (e : g ρ = .ok (.str s)) (e' : h ρ = .ok y) (n : f s y = some z) : eM1 f g h ρ = .ok z := by
  unfold eM1
  rw [e, okb]
  dsimp only
  rw [e', okb, n]
  rfl
theorem tv_ok {b : Bool} (e : g ρ = .ok (.bool b)) : tV g ρ = .ok b := by
  rw [p_tV, e]
  rfl
theorem nt_ok {b : Bool} (e : t ρ = .ok b) : gNot t ρ = .ok (!b) := by
  rw [p_not, e]
  rfl
theorem nt_no (e : t ρ = .ok true) : gNot t ρ = .ok false := nt_ok e
theorem nt_yes (e : t ρ = .ok false) : gNot t ρ = .ok true := nt_ok e
theorem or_no (e : t ρ = .ok false) (e' : u ρ = .ok false) : gOr t u ρ = .ok false := by
  rw [p_or, e]
  exact e'
theorem or_l (e : t ρ = .ok true) : gOr t u ρ = .ok true := by
  rw [p_or, e]
  rfl
theorem or_r {b : Bool} (e : t ρ = .ok false) (e' : u ρ = .ok b) : gOr t u ρ = .ok b := by
  rw [p_or, e]
  exact e'
theorem or_b {b c : Bool} (e : t ρ = .ok b) (e' : b = false → u ρ = .ok c) : gOr t u ρ = .ok (b || c) := by
  rw [p_or, e]
  cases b with
  | true => rfl
  | false => exact e' rfl
theorem and_no (e : t ρ = .ok false) : gAnd t u ρ = .ok false := by
  rw [p_and, e]
  rfl
theorem and_yes {b : Bool} (e : t ρ = .ok true) (e' : u ρ = .ok b) : gAnd t u ρ = .ok b := by
  rw [p_and, e]
  exact e'
theorem and_b {b c : Bool} (e : t ρ = .ok b) (e' : b = true → u ρ = .ok c) : gAnd t u ρ = .ok (b && c) := by
  rw [p_and, e]
  cases b with
  | false => rfl
  | true => exact e' rfl
theorem ea_b {b c : Bool} (e : g ρ = .ok (.bool b)) (e' : b = true → h ρ = .ok (.bool c)) : eAnd g h ρ = .ok (.bool (b && c)) := by
  rw [p_eand, e, okb]
  cases b with
  | false => rfl
  | true => exact e' rfl
theorem ea_no (e : g ρ = .ok (.bool false)) : eAnd g h ρ = .ok (.bool false) := by
  rw [p_eand, e]
  rfl
theorem ea_yes (e : g ρ = .ok (.bool true)) (e' : h ρ = r) : eAnd g h ρ = r := by
  rw [p_eand, e]
  exact e'
theorem eo_b {b c : Bool} (e : g ρ = .ok (.bool b)) (e' : b = false → h ρ = .ok (.bool c)) : eOr g h ρ = .ok (.bool (b || c)) := by
  rw [p_eor, e, okb]
  cases b with
  | true => rfl
  | false => exact e' rfl
theorem ei_yes (e : t ρ = .ok true) (e' : g ρ = r) : eIf t g h ρ = r := by
  rw [p_ite, e]
  exact e'
theorem ei_no (e : t ρ = .ok false) (e' : h ρ = r) : eIf t g h ρ = r := by
  rw [p_ite, e]
  exact e'
theorem ch_b {f f' : D → D → Option D} {g3 : GE} {b c : Bool} (e : g ρ = .ok x) (e' : h ρ = .ok y) (n : f x y = some (.bool b)) (e3 : b = true → g3 ρ = .ok z ∧ f' y z = some (.bool c)) : eCh f f' g h g3 ρ = .ok (.bool (b && c)) := by
  rw [p_ch, e, okb, e', okb, n]
  cases b with
  | false => rfl
  | true =>
    obtain ⟨q, q'⟩ := e3 rfl
    show (g3 ρ).bind (fun z => lift (f' y z)) = _
    rw [q, okb, q']
    rfl
theorem t1 (e : g ρ = .ok x) : eTup (aCons g aNil) ρ = .ok (.tuple [x]) := by
  rw [p_tup, p_acons, e]
  rfl
theorem t2 {g2 : GE} (e : g ρ = .ok x) (e2 : g2 ρ = .ok y) : eTup (aCons g (aCons g2 aNil)) ρ = .ok (.tuple [x, y]) := by
  rw [p_tup, p_acons, e, okb, p_acons, e2]
  rfl
theorem t3 {g2 g3 : GE} (e : g ρ = .ok x) (e2 : g2 ρ = .ok y) (e3 : g3 ρ = .ok z) : eTup (aCons g (aCons g2 (aCons g3 aNil))) ρ = .ok (.tuple [x, y, z]) := by
  rw [p_tup, p_acons, e, okb, p_acons, e2, okb, p_acons, e3]
  rfl
theorem t4 {g2 g3 g4 : GE} {v : D} (e : g ρ = .ok x) (e2 : g2 ρ = .ok y) (e3 : g3 ρ = .ok z) (e4 : g4 ρ = .ok v) : eTup (aCons g (aCons g2 (aCons g3 (aCons g4 aNil)))) ρ = .ok (.tuple [x, y, z, v]) := by
  rw [p_tup, p_acons, e, okb, p_acons, e2, okb, p_acons, e3, okb, p_acons, e4]
  rfl
end
/-! list comprehensions -/
theorem lc_all {f : D → Out (List D)} {o : D → List D} : ∀ {ds : List D}, (∀ d ∈ ds, f d = .ok (o d)) → lcAll f ds = .ok (ds.flatMap o)
  | [], _ => rfl
  | d :: ds, h => by
    unfold lcAll
    rw [h d List.mem_cons_self, okb, lc_all fun e he => h e (List.mem_cons_of_mem _ he), okb, List.flatMap_cons]
theorem p_lc {gi : GA} {tg : Tg} {tt : GT} {te : GE} {vs : List Nat} {ρ : Env} {ds : List D} {o : D → List D} (h1 : gi ρ = .ok ds) (h2 : ds.length ≤ 1000000) (h3 : ∀ d ∈ ds, lcStep tg tt te (wipeE ρ vs) d = .ok (o d)) : eLc gi tg tt te vs ρ = .ok (.list (ds.flatMap o)) := by
  unfold eLc
  rw [h1, okb, if_pos h2, lc_all h3, okb]
theorem flat_map {f : D → D} : ∀ (ds : List D), ds.flatMap (fun d => [f d]) = ds.map f
  | [] => rfl
  | d :: ds => by rw [List.flatMap_cons, flat_map ds, List.map_cons]; rfl
theorem step_yes {tg : Tg} {tt : GT} {te : GE} {ρ ρ2 : Env} {d y : D} (h : tg d ρ = some ρ2) (ht : tt ρ2 = .ok true) (he : te ρ2 = .ok y) : lcStep tg tt te ρ d = .ok [y] := by
  unfold lcStep
  rw [h]
  dsimp only
  rw [ht]
  dsimp only
  rw [he]
theorem step_no {tg : Tg} {tt : GT} {te : GE} {ρ ρ2 : Env} {d : D} (h : tg d ρ = some ρ2) (ht : tt ρ2 = .ok false) : lcStep tg tt te ρ d = .ok [] := by
  unfold lcStep
  rw [h]
  dsimp only
  rw [ht]
theorem lc_map {gi : GA} {tg : Tg} {te : GE} {vs : List Nat} {ρ : Env} {ds : List D} (o : D → D) (h1 : gi ρ = .ok ds) (h2 : ds.length ≤ 1000000) (h3 : ∀ d ∈ ds, ∃ ρ2, tg d (wipeE ρ vs) = some ρ2 ∧ te ρ2 = .ok (o d)) : eLc gi tg gYes te vs ρ = .ok (.list (ds.map o)) := by
  rw [p_lc (o := fun d => [o d]) h1 h2 fun d hd => ?_, flat_map]
  obtain ⟨ρ2, e1, e2⟩ := h3 d hd
  exact step_yes e1 rfl e2
theorem lc_nil {gi : GA} {tg : Tg} {tt : GT} {te : GE} {vs : List Nat} {ρ : Env} {ds : List D} (h1 : gi ρ = .ok ds) (h2 : ds.length ≤ 1000000) (h3 : ∀ d ∈ ds, ∃ ρ2, tg d (wipeE ρ vs) = some ρ2 ∧ tt ρ2 = .ok false) : eLc gi tg tt te vs ρ = .ok (.list []) := by
  rw [p_lc (o := fun _ => []) h1 h2 fun d hd => ?_]
  · congr 2
    induction ds with
    | nil => rfl
    | cons d ds ih => rw [List.flatMap_cons]; exact List.flatMap_eq_nil_iff.mpr fun _ _ => rfl
  · obtain ⟨ρ2, e1, e2⟩ := h3 d hd
    exact step_no e1 e2
theorem lc_fil {gi : GA} {tg : Tg} {tt : GT} {te : GE} {vs : List Nat} {ρ : Env} {ds : List D} (p : D → Bool) (o : D → D) (h1 : gi ρ = .ok ds) (h2 : ds.length ≤ 1000000) (h3 : ∀ d ∈ ds, ∃ ρ2, tg d (wipeE ρ vs) = some ρ2 ∧ tt ρ2 = .ok (p d) ∧ (p d = true → te ρ2 = .ok (o d))) :
    eLc gi tg tt te vs ρ = .ok (.list ((ds.filter p).map o)) := by
  rw [p_lc (o := fun d => if p d then [o d] else []) h1 h2 fun d hd => ?_]
  · congr 2
    clear h1 h2 h3
    induction ds with
    | nil => rfl
    | cons d ds ih =>
      rw [List.flatMap_cons, ih, List.filter_cons]
      cases p d <;> rfl
  · obtain ⟨ρ2, e1, e2, e3⟩ := h3 d hd
    cases hp : p d with
    | true =>
      rw [hp] at e2 e3
      exact step_yes e1 e2 (e3 rfl)
    | false =>
      rw [hp] at e2
      exact step_no e1 e2
theorem strs_map : ∀ bs : List Str, strsOf (bs.map .str) = some bs
  | [] => rfl
  | b :: bs => by
    show (strsOf (bs.map .str)).map (b :: ·) = _
    rw [strs_map bs]
    rfl
theorem bools_map : ∀ bs : List Bool, boolsOf (bs.map .bool) = some bs
  | [] => rfl
  | b :: bs => by
    show (boolsOf (bs.map .bool)).map (b :: ·) = _
    rw [bools_map bs]
    rfl
theorem ints_map : ∀ bs : List Int, intsOf (bs.map .int) = some bs
  | [] => rfl
  | b :: bs => by
    show (intsOf (bs.map .int)).map (b :: ·) = _
    rw [ints_map bs]
    rfl
theorem d_tuple {ds : List D} (h : ds.length ≤ 1000000) : dTuple (.list ds) = some (.tuple ds) := if_pos h
theorem d_all {bs : List Bool} : dAll (.list (bs.map .bool)) = some (.bool (bs.all id)) := by
  show (boolsOf (bs.map .bool)).map (fun bs => PyData.bool (bs.all id)) = _
  rw [bools_map]
  rfl
/-! the numbers from 0 on -/
def ups (n : Nat) : List D := (List.range n).map fun i => .int (i : Nat)
theorem ups_len (n : Nat) : (ups n).length = n := by
  unfold ups
  rw [List.length_map, List.length_range]
theorem ups_mem {n : Nat} {d : D} (h : d ∈ ups n) : ∃ k : Nat, d = .int k ∧ k < n := by
  obtain ⟨k, hk, rfl⟩ := List.mem_map.mp h
  exact ⟨k, rfl, List.mem_range.mp hk⟩
theorem ups_at {n j : Nat} {d : D} (h : (ups n)[j]? = some d) : d = .int (j : Nat) ∧ j < n := by
  unfold ups at h
  rw [List.getElem?_map] at h
  by_cases hj : j < n
  · rw [List.getElem?_range hj] at h
    cases h
    exact ⟨rfl, hj⟩
  · rw [List.getElem?_eq_none (by rw [List.length_range]; omega)] at h
    cases h
theorem r1_ok {g : GE} {ρ : Env} {i : Int} (h : g ρ = .ok (.int i)) (h0 : 0 ≤ i) (h1 : i ≤ 1000) : iR1 g ρ = .ok (ups i.toNat) := by
  unfold iR1
  rw [h, okb]
  dsimp only
  split
  · rfl
  · rename_i q
    exact absurd ⟨by omega, by omega⟩ q
/-! loops -/
theorem q_loop {gi : GA} {tg : Tg} {b k : GS} {ρ : Env} {ds : List D} {r : Out D} (I : Env → Prop) (h1 : gi ρ = .ok ds) (h0 : I ρ) (st : ∀ d ∈ ds, ∀ ρ', I ρ' → ∃ ρ1, tg d ρ' = some ρ1 ∧ ∃ ρ2, b ρ1 = .ok (.nx ρ2) ∧ I ρ2) (n : ∀ ρ', I ρ' → outD (k ρ') = r) :
    outD (sSeq (sFor gi tg b) k ρ) = r := by
  obtain ⟨ρ', e, hI⟩ := forGo_inv (tg := tg) (b := b) (fun _ => I) ds 0 (fun j d ρ hd hI => by
    obtain ⟨ρ1, a, ρ2, b, c⟩ := st d (List.mem_of_getElem? hd) ρ hI
    exact ⟨ρ1, a, ρ2, .inl b, c⟩) ρ h0
  exact q_nx ((p_for h1).trans e) (n ρ' hI)
theorem q_loopI {gi : GA} {tg : Tg} {b k : GS} {ρ : Env} {ds : List D} {r : Out D} (I : Nat → Env → Prop) (h1 : gi ρ = .ok ds) (h0 : I 0 ρ) (st : ∀ (j : Nat) (d : D), ds[j]? = some d → ∀ ρ', I j ρ' → ∃ ρ1, tg d ρ' = some ρ1 ∧ ∃ ρ2, b ρ1 = .ok (.nx ρ2) ∧ I (j + 1) ρ2) (n : ∀ ρ', I ds.length ρ' → outD (k ρ') = r) :
    outD (sSeq (sFor gi tg b) k ρ) = r := by
  obtain ⟨ρ', e, hI⟩ := forGo_inv (tg := tg) (b := b) I ds 0 (fun j d ρ hd hI => by
    rw [Nat.zero_add] at hI ⊢
    obtain ⟨ρ1, a, ρ2, b, c⟩ := st j d hd ρ hI
    exact ⟨ρ1, a, ρ2, .inl b, c⟩) ρ h0
  rw [Nat.zero_add] at hI
  exact q_nx ((p_for h1).trans e) (n ρ' hI)
theorem q_tg {g : GE} {tg : Tg} {k : GS} {ρ ρ2 : Env} {d : D} {r : Out D} (e : g ρ = .ok d) (h : tg d ρ = some ρ2) (n : outD (k ρ2) = r) : outD (sSeq (sTg g tg) k ρ) = r := by
  refine q_nx ?_ n
  rw [p_tg, e, okb, h]
theorem ne_bool (b : Bool) : dNe (.bool b) (.bool b) = some (.bool false) := by cases b <;> rfl
theorem tv_neb {g h : GE} {ρ : Env} {b : Bool} (e : g ρ = .ok (.bool b)) (e' : h ρ = .ok (.bool b)) : tV (e2 dNe g h) ρ = .ok false := tv_ok (e2_ok e e' (ne_bool b))

/-! ### plain data: no truths, no dicts -/
def NB : Nat → D → Prop
  | _, .none => True
  | _, .int _ => True
  | _, .str _ => True
  | k + 1, .list ds => ∀ d ∈ ds, NB k d
  | k + 1, .tuple ds => ∀ d ∈ ds, NB k d
  | _, _ => False
theorem nb_all {k : Nat} (ih : ∀ d, NB k d → d.plain = true ∧ d.depth ≤ k) : ∀ ds : List D, (∀ d ∈ ds, NB k d) → PyData.plainAll ds = true ∧ PyData.depthAll ds ≤ k
  | [], _ => ⟨rfl, Nat.zero_le _⟩
  | d :: ds, h => by
    obtain ⟨h1, h2⟩ := ih d (h d List.mem_cons_self)
    obtain ⟨h3, h4⟩ := nb_all ih ds fun e he => h e (List.mem_cons_of_mem _ he)
    simp only [PyData.plainAll, PyData.depthAll, h1, h3, Bool.and_self, true_and]
    omega
theorem NB.pd : ∀ {k : Nat} {d : D}, NB k d → d.plain = true ∧ d.depth ≤ k
  | _, .none, _ => ⟨rfl, Nat.zero_le _⟩
  | _, .int _, _ => ⟨rfl, Nat.zero_le _⟩
  | _, .str _, _ => ⟨rfl, Nat.zero_le _⟩
  | k + 1, .list ds, h => by
    obtain ⟨h1, h2⟩ := nb_all (fun d => NB.pd) ds (fun d hd => by simp only [NB] at h; exact h d hd)
    simp only [PyData.plain, PyData.depth]
    exact ⟨h1, by omega⟩
  | k + 1, .tuple ds, h => by
    obtain ⟨h1, h2⟩ := nb_all (fun d => NB.pd) ds (fun d hd => by simp only [NB] at h; exact h d hd)
    simp only [PyData.plain, PyData.depth]
    exact ⟨h1, by omega⟩
  | _, .bool _, h => by simp [NB] at h
  | _, .dict _, h => by simp [NB] at h
  | 0, .list _, h => by simp [NB] at h
  | 0, .tuple _, h => by simp [NB] at h
theorem eqvAll_iff {k j : Nat} (ih : ∀ x y, NB k x → NB j y → (PyData.eqv x y = true ↔ x = y)) : ∀ xs ys : List D, (∀ d ∈ xs, NB k d) → (∀ d ∈ ys, NB j d) → (PyData.eqvAll xs ys = true ↔ xs = ys)
  | [], [], _, _ => by simp [PyData.eqvAll]
  | [], _ :: _, _, _ => by simp [PyData.eqvAll]
  | _ :: _, [], _, _ => by simp [PyData.eqvAll]
  | x :: xs, y :: ys, h1, h2 => by
    have a := ih x y (h1 x List.mem_cons_self) (h2 y List.mem_cons_self)
    have b := eqvAll_iff ih xs ys (fun e he => h1 e (List.mem_cons_of_mem _ he)) (fun e he => h2 e (List.mem_cons_of_mem _ he))
    simp only [PyData.eqvAll, Bool.and_eq_true, a, b, List.cons.injEq]
theorem NB.eqv : ∀ {k j : Nat} {x y : D}, NB k x → NB j y → (PyData.eqv x y = true ↔ x = y)
  | k + 1, j + 1, .list xs, .list ys, h1, h2 => by
    simp only [NB] at h1 h2
    simp only [PyData.eqv, eqvAll_iff (fun x y => NB.eqv) xs ys h1 h2, PyData.list.injEq]
  | k + 1, j + 1, .tuple xs, .tuple ys, h1, h2 => by
    simp only [NB] at h1 h2
    simp only [PyData.eqv, eqvAll_iff (fun x y => NB.eqv) xs ys h1 h2, PyData.tuple.injEq]
  | 0, _, .list xs, _, h1, _ => by simp [NB] at h1
  | 0, _, .tuple xs, _, h1, _ => by simp [NB] at h1
  | _, 0, _, .list xs, _, h1 => by simp [NB] at h1
  | _, 0, _, .tuple xs, _, h1 => by simp [NB] at h1
  | _, _, .bool _, _, h1, _ => by simp [NB] at h1
  | _, _, .dict _, _, h1, _ => by simp [NB] at h1
  | _, _, _, .bool _, _, h1 => by simp [NB] at h1
  | _, _, _, .dict _, _, h1 => by simp [NB] at h1
  | _, _, .none, .none, _, _ => by simp [PyData.eqv]
  | _, _, .none, .int _, _, _ => by simp [PyData.eqv]
  | _, _, .none, .str _, _, _ => by simp [PyData.eqv]
  | _, _, .none, .list _, _, _ => by simp [PyData.eqv]
  | _, _, .none, .tuple _, _, _ => by simp [PyData.eqv]
  | _, _, .int _, .none, _, _ => by simp [PyData.eqv]
  | _, _, .int _, .int _, _, _ => by simp [PyData.eqv]
  | _, _, .int _, .str _, _, _ => by simp [PyData.eqv]
  | _, _, .int _, .list _, _, _ => by simp [PyData.eqv]
  | _, _, .int _, .tuple _, _, _ => by simp [PyData.eqv]
  | _, _, .str _, .none, _, _ => by simp [PyData.eqv]
  | _, _, .str _, .int _, _, _ => by simp [PyData.eqv]
  | _, _, .str _, .str _, _, _ => by simp [PyData.eqv]
  | _, _, .str _, .list _, _, _ => by simp [PyData.eqv]
  | _, _, .str _, .tuple _, _, _ => by simp [PyData.eqv]
  | _, _, .list _, .none, _, _ => by simp [PyData.eqv]
  | _, _, .list _, .int _, _, _ => by simp [PyData.eqv]
  | _, _, .list _, .str _, _, _ => by simp [PyData.eqv]
  | _, _, .list _, .tuple _, _, _ => by simp [PyData.eqv]
  | _, _, .tuple _, .none, _, _ => by simp [PyData.eqv]
  | _, _, .tuple _, .int _, _, _ => by simp [PyData.eqv]
  | _, _, .tuple _, .str _, _, _ => by simp [PyData.eqv]
  | _, _, .tuple _, .list _, _, _ => by simp [PyData.eqv]
open Classical in
theorem NB.eqvD {k j : Nat} {x y : D} (h1 : NB k x) (h2 : NB j y) : PyData.eqv x y = decide (x = y) := by
  by_cases h : x = y
  · rw [decide_eq_true h]
    exact (NB.eqv h1 h2).mpr h
  · rw [decide_eq_false h]
    cases e : PyData.eqv x y with
    | false => rfl
    | true => exact absurd ((NB.eqv h1 h2).mp e) h
open Classical in
theorem d_eqN {k j : Nat} {x y : D} (h1 : NB k x) (h2 : NB j y) (hk : k ≤ 100) : dEq x y = some (.bool (decide (x = y))) := by
  unfold dEq
  have : okEq x y = true := by
    unfold okEq
    rw [h1.pd.1, h2.pd.1]
    have := h1.pd.2
    simp only [Bool.true_and, decide_eq_true_eq]
    omega
  rw [this, if_pos rfl, NB.eqvD h1 h2]
open Classical in
theorem d_neN {k j : Nat} {x y : D} (h1 : NB k x) (h2 : NB j y) (hk : k ≤ 100) : dNe x y = some (.bool (!decide (x = y))) := by
  unfold dNe
  have : okEq x y = true := by
    unfold okEq
    rw [h1.pd.1, h2.pd.1]
    have := h1.pd.2
    simp only [Bool.true_and, decide_eq_true_eq]
    omega
  rw [this, if_pos rfl, NB.eqvD h1 h2]
open Classical in
theorem d_inN {k j : Nat} {neg : Bool} {x : D} {ds : List D} (h1 : NB k x) (h2 : ∀ d ∈ ds, NB j d) (hk : k ≤ 100) : dIn neg x (.tuple ds) = some (.bool (neg ^^ decide (x ∈ ds))) ∧ dIn neg x (.list ds) = some (.bool (neg ^^ decide (x ∈ ds))) := by
  have e1 : okIn x ds = true := by
    unfold okIn
    rw [h1.pd.1, (nb_all (fun d => NB.pd) ds h2).1]
    have := h1.pd.2
    simp only [Bool.true_and, decide_eq_true_eq]
    omega
  have e2 : (ds.any fun z => PyData.eqv z x) = decide (x ∈ ds) := by
    clear e1
    induction ds with
    | nil => simp
    | cons d ds ih =>
      rw [List.any_cons, ih (fun e he => h2 e (List.mem_cons_of_mem _ he)), NB.eqvD (h2 d List.mem_cons_self) h1]
      by_cases a : d = x
      · subst a
        simp
      · have : x ≠ d := fun z => a z.symm
        simp [a, this]
  constructor
  · show ((if okIn x ds then some (PyData.bool (neg ^^ ds.any fun z => PyData.eqv z x)) else none).or _).or _ = _
    rw [e1, e2, if_pos rfl]
    rfl
  · show ((if okIn x ds then some (PyData.bool (neg ^^ ds.any fun z => PyData.eqv z x)) else none).or _).or _ = _
    rw [e1, e2, if_pos rfl]
    rfl

/-! ### books: texts told values, each once -/
abbrev Bk := List (Str × D)
def getB (B : Bk) (k : Str) : Option D := (B.find? fun p => decide (p.1 = k)).map (·.2)
def putB (B : Bk) (k : Str) (d : D) : Bk := if (B.any fun p => decide (p.1 = k)) = true then B.map (fun p => if p.1 = k then (p.1, d) else p) else B ++ [(k, d)]
def dropB (B : Bk) (k : Str) : Bk := B.filter fun p => decide (p.1 ≠ k)
def dB (B : Bk) : List (D × D) := B.map fun p => (.str p.1, p.2)
theorem key_iff (s k : Str) : (keyOf (.str s) = some (.inr k)) ↔ s = k := by simp [keyOf]
theorem dB_get (B : Bk) (k : Str) : getK (dB B) (.inr k) = getB B k := by
  unfold getK getB dB
  induction B with
  | nil => rfl
  | cons p B ih =>
    rw [List.map_cons, List.find?_cons, List.find?_cons]
    simp only [key_iff]
    by_cases h : p.1 = k
    · simp [h]
    · simp only [h, decide_false]
      simpa only [key_iff] using ih
theorem dB_any (B : Bk) (k : Str) : ((dB B).any fun p => decide (keyOf p.1 = some (.inr k))) = B.any fun p => decide (p.1 = k) := by
  unfold dB
  rw [List.any_map]
  congr 1
  funext p
  simp only [Function.comp, key_iff]
theorem dB_put (B : Bk) (k : Str) (d : D) : putD (dB B) (.inr k) d = dB (putB B k d) := by
  unfold putD putB
  rw [dB_any]
  split
  · unfold dB
    rw [List.map_map, List.map_map]
    refine List.map_congr_left fun p _ => ?_
    simp only [Function.comp, key_iff]
    by_cases h : p.1 = k
    · simp [h]
    · simp [h]
  · unfold dB
    rw [List.map_append]
    rfl
theorem dB_drop (B : Bk) (k : Str) : dropD (dB B) (.inr k) = dB (dropB B k) := by
  unfold dropD dropB dB
  rw [List.filter_map]
  congr 1
  refine List.filter_congr fun p _ => ?_
  simp only [Function.comp, ne_eq, key_iff]
theorem dB_keys (B : Bk) : keysD (dB B) = some (B.map fun p => (.inr p.1, p.2)) := by
  induction B with
  | nil => rfl
  | cons p B ih =>
    show (keyOf (.str p.1)).bind (fun k => (keysD (dB B)).map ((k, p.2) :: ·)) = _
    rw [ih]
    rfl
theorem dB_dct (B : Bk) : isDct (dB B) = true := by
  unfold isDct
  rw [dB_keys]
  rfl
theorem dB_len (B : Bk) : (dB B).length = B.length := by
  unfold dB
  rw [List.length_map]
def mergeB (B : Bk) (C : Bk) : Bk := C.foldl (fun acc p => putB acc p.1 p.2) B
theorem dB_merge : ∀ (C B : Bk), mergeD (dB B) (C.map fun p => (.inr p.1, p.2)) = dB (mergeB B C)
  | [], B => rfl
  | p :: C, B => by
    show mergeD (putD (dB B) (.inr p.1) p.2) (C.map fun p => (.inr p.1, p.2)) = dB (mergeB (putB B p.1 p.2) C)
    rw [dB_put]
    exact dB_merge C _
theorem getB_cons (p : Str × D) (B : Bk) (k : Str) : getB (p :: B) k = if p.1 = k then some p.2 else getB B k := by
  unfold getB
  rw [List.find?_cons]
  by_cases h : p.1 = k <;> simp [h]
theorem getB_none (B : Bk) (k : Str) : getB B k = none ↔ ¬ k ∈ B.map (·.1) := by
  induction B with
  | nil => simp [getB]
  | cons p B ih =>
    rw [getB_cons, List.map_cons, List.mem_cons]
    by_cases h : p.1 = k
    · simp [h]
    · have h' : ¬ k = p.1 := fun z => h z.symm
      simp [h, h', ih]
theorem any_mem (B : Bk) (k : Str) : (B.any fun p => decide (p.1 = k)) = true ↔ k ∈ B.map (·.1) := by
  simp [List.any_eq_true, List.mem_map]
theorem getB_put (B : Bk) (k j : Str) (d : D) : getB (putB B k d) j = if k = j then some d else getB B j := by
  unfold putB
  split
  · rename_i h
    rw [any_mem] at h
    induction B with
    | nil => cases h
    | cons p B ih =>
      rw [List.map_cons, getB_cons, getB_cons]
      by_cases hp : p.1 = k
      · rw [if_pos hp]
        dsimp only
        by_cases hj : k = j
        · rw [if_pos (hp.trans hj), if_pos hj]
        · rw [if_neg (fun z => hj (hp.symm.trans z)), if_neg hj, if_neg (fun z => hj (hp.symm.trans z))]
          by_cases hm : k ∈ B.map (·.1)
          · rw [ih hm, if_neg hj]
          · have : B.map (fun p => if p.1 = k then (p.1, d) else p) = B := by
              rw [List.map_congr_left (g := id)]
              · simp
              · intro q hq
                rw [if_neg]
                · rfl
                · exact fun z => hm (List.mem_map.mpr ⟨q, hq, z⟩)
            rw [this]
      · rw [if_neg hp]
        have hm : k ∈ B.map (·.1) := by
          rw [List.map_cons, List.mem_cons] at h
          rcases h with h | h
          · exact absurd h.symm hp
          · exact h
        rw [ih hm]
        by_cases h1 : p.1 = j
        · rw [if_pos h1, if_pos h1, if_neg (fun z => hp (h1.trans z.symm))]
        · rw [if_neg h1, if_neg h1]
  · rename_i h
    rw [any_mem] at h
    induction B with
    | nil =>
      rw [List.nil_append, getB_cons]
    | cons p B ih =>
      rw [List.map_cons, List.mem_cons, not_or] at h
      rw [List.cons_append, getB_cons, getB_cons, ih h.2]
      by_cases h1 : p.1 = j
      · rw [if_pos h1, if_pos h1, if_neg (fun z => h.1 (z.trans h1.symm))]
      · rw [if_neg h1, if_neg h1]
theorem keys_put (B : Bk) (k : Str) (d : D) : (putB B k d).map (·.1) = if k ∈ B.map (·.1) then B.map (·.1) else B.map (·.1) ++ [k] := by
  unfold putB
  by_cases h : k ∈ B.map (·.1)
  · rw [if_pos ((any_mem B k).mpr h), if_pos h, List.map_map]
    refine List.map_congr_left fun p _ => ?_
    simp only [Function.comp]
    split <;> rfl
  · rw [if_neg (fun z => h ((any_mem B k).mp z)), if_neg h, List.map_append]
    rfl
/-- keys once each -/
def Once (B : Bk) : Prop := (B.map (·.1)).Nodup
theorem Once.put {B : Bk} (h : Once B) (k : Str) (d : D) : Once (putB B k d) := by
  unfold Once at *
  rw [keys_put]
  split
  · exact h
  · rename_i hk
    rw [List.nodup_append]
    refine ⟨h, by simp, fun a ha b hb => ?_⟩
    rw [List.mem_singleton] at hb
    subst hb
    exact fun z => hk (z ▸ ha)
theorem Once.drop {B : Bk} (h : Once B) (k : Str) : Once (dropB B k) := by
  unfold Once dropB at *
  exact h.sublist (List.Sublist.map _ List.filter_sublist)
theorem Once.merge {C : Bk} : ∀ {B : Bk}, Once B → Once (mergeB B C) := by
  induction C with
  | nil => exact fun h => h
  | cons p C ih => exact fun h => ih (h.put p.1 p.2)
theorem getB_drop (B : Bk) (k j : Str) : getB (dropB B k) j = if k = j then none else getB B j := by
  unfold dropB
  induction B with
  | nil => simp [getB]
  | cons p B ih =>
    by_cases hp : p.1 = k
    · rw [List.filter_cons_of_neg (by simp [hp]), ih, getB_cons]
      by_cases hj : k = j
      · rw [if_pos hj, if_pos hj]
      · rw [if_neg hj, if_neg hj, if_neg (fun z => hj (hp.symm.trans z))]
    · rw [List.filter_cons_of_pos (by simp [hp]), getB_cons, getB_cons, ih]
      by_cases hj : k = j
      · rw [if_pos hj, if_pos hj, if_neg (fun z => hp (z.trans hj.symm))]
      · rw [if_neg hj, if_neg hj]
theorem getB_merge : ∀ (C B : Bk) (j : Str), Once C → getB (mergeB B C) j = (getB C j).or (getB B j)
  | [], B, j, _ => by
    show getB B j = (none : Option D).or (getB B j)
    rfl
  | p :: C, B, j, h => by
    unfold Once at h
    rw [List.map_cons, List.nodup_cons] at h
    show getB (mergeB (putB B p.1 p.2) C) j = _
    rw [getB_merge C _ j h.2, getB_put, getB_cons]
    by_cases hj : p.1 = j
    · rw [if_pos hj, if_pos hj, (getB_none C j).mpr (by rw [← hj]; exact h.1)]
      rfl
    · rw [if_neg hj, if_neg hj]
theorem put_len (B : Bk) (k : Str) (d : D) : (putB B k d).length ≤ B.length + 1 := by
  unfold putB
  split <;> simp
theorem merge_len : ∀ (C B : Bk), (mergeB B C).length ≤ B.length + C.length
  | [], B => Nat.le_refl _
  | p :: C, B => by
    have h1 := merge_len C (putB B p.1 p.2)
    have h2 := put_len B p.1 p.2
    show (mergeB (putB B p.1 p.2) C).length ≤ B.length + (C.length + 1)
    omega
theorem mem_get {B : Bk} (h : Once B) {p : Str × D} (hp : p ∈ B) : getB B p.1 = some p.2 := by
  unfold Once at h
  induction B with
  | nil => cases hp
  | cons q B ih =>
    rw [List.map_cons, List.nodup_cons] at h
    rw [getB_cons]
    rcases List.mem_cons.mp hp with rfl | hm
    · rw [if_pos rfl]
    · rw [if_neg (fun z => h.1 (by rw [z]; exact List.mem_map.mpr ⟨p, hm, rfl⟩)), ih h.2 hm]
/-! ### rows, stores -/
def IsRow (d : D) : Prop := ∃ k p a t, d = .tuple [.str k, p, .int a, .str t] ∧ (p = .none ∨ ∃ s, p = .str s)
def rk : D → Str
  | .tuple (.str k :: _) => k
  | _ => ⟨#[]⟩
theorem IsRow.nb {d : D} (h : IsRow d) : NB 1 d := by
  obtain ⟨k, p, a, t, rfl, hp⟩ := h
  simp only [NB]
  intro e he
  simp only [List.mem_cons, List.not_mem_nil, or_false] at he
  rcases he with rfl | rfl | rfl | rfl
  · simp [NB]
  · rcases hp with rfl | ⟨s, rfl⟩ <;> simp [NB]
  · simp [NB]
  · simp [NB]
theorem IsRow.ne {d : D} (h : IsRow d) : d ≠ .none := by
  obtain ⟨k, p, a, t, rfl, hp⟩ := h
  exact fun z => nomatch z
theorem IsRow.key {d : D} (h : IsRow d) : dIx d (.int 0) = some (.str (rk d)) := by
  obtain ⟨k, p, a, t, rfl, hp⟩ := h
  rfl
def ltP (a b : Str) : Prop := ltS a b = true
theorem ltP_lt {a b : Str} : ltP a b ↔ a.cps.toList < b.cps.toList := by
  unfold ltP ltS
  simp
theorem ltP_irr {a : Str} : ¬ ltP a a := by
  rw [ltP_lt]
  exact List.lt_irrefl _
theorem ltP_trans {a b c : Str} (h : ltP a b) (h' : ltP b c) : ltP a c := by
  rw [ltP_lt] at *
  exact List.lt_trans h h'
theorem leS_ltP {a b : Str} (h : leS a b) (n : a ≠ b) : ltP a b := by
  rw [ltP_lt]
  by_cases q : a.cps.toList < b.cps.toList
  · exact q
  · refine absurd (leS_anti h ?_) n
    unfold leS ltS
    simpa using q
theorem ltP_leS {a b : Str} (h : ltP a b) : leS a b := by
  rw [ltP_lt] at h
  unfold leS ltS
  simp only [decide_eq_false_iff_not]
  exact fun z => List.lt_irrefl _ (List.lt_trans h z)
/-- texts that rise -/
def Rises (ks : List Str) : Prop := ks.Pairwise ltP
theorem Rises.nodup {ks : List Str} (h : Rises ks) : ks.Nodup := by
  unfold List.Nodup
  refine List.Pairwise.imp (fun {a b} q z => ?_) h
  rw [z] at q
  exact ltP_irr q
theorem pw_nodup {S : List D} (h : S.Pairwise fun a b => ltP (rk a) (rk b)) : S.Nodup := by
  unfold List.Nodup
  refine List.Pairwise.imp (fun {a b} q z => ?_) h
  rw [z] at q
  exact ltP_irr q
theorem rises_of : ∀ {ks : List Str}, ks.Pairwise leS → ks.Nodup → Rises ks
  | [], _, _ => List.Pairwise.nil
  | k :: ks, h, n => by
    obtain ⟨h1, h2⟩ := List.pairwise_cons.mp h
    obtain ⟨n1, n2⟩ := List.nodup_cons.mp n
    exact List.pairwise_cons.mpr ⟨fun z hz => leS_ltP (h1 z hz) fun e => n1 (e ▸ hz), rises_of h2 n2⟩
theorem rises_uniq {ks js : List Str} (h : Rises ks) (h' : Rises js) (e : ∀ k, k ∈ ks ↔ k ∈ js) : ks = js :=
  List.Perm.eq_of_pairwise (le := ltP) (fun a b _ _ x y => absurd (ltP_trans x y) ltP_irr) h h' ((List.perm_ext_iff_of_nodup h.nodup h'.nodup).mpr e)
theorem sortS_set {ks : List Str} (h : Rises ks) : setS ks = ks :=
  rises_uniq (rises_of (sortS_rises _) (setS_nodup ks)) h fun k => setS_mem
/-- a store: rows, rising by their keys -/
structure St (S : List D) : Prop where
  row : ∀ r ∈ S, IsRow r
  ris : Rises (S.map rk)
def look (S : List D) (k : Str) : Option D := S.find? fun r => decide (rk r = k)
theorem look_cons (r : D) (S : List D) (k : Str) : look (r :: S) k = if rk r = k then some r else look S k := by
  unfold look
  rw [List.find?_cons]
  by_cases h : rk r = k <;> simp [h]
theorem look_key {S : List D} {k : Str} {r : D} (h : look S k = some r) : r ∈ S ∧ rk r = k := by
  unfold look at h
  exact ⟨List.mem_of_find?_eq_some h, by simpa using List.find?_some h⟩
theorem look_mem {S : List D} (h : (S.map rk).Nodup) {r : D} (hr : r ∈ S) : look S (rk r) = some r := by
  induction S with
  | nil => cases hr
  | cons q S ih =>
    rw [List.map_cons, List.nodup_cons] at h
    rw [look_cons]
    rcases List.mem_cons.mp hr with rfl | hm
    · rw [if_pos rfl]
    · rw [if_neg (fun z => h.1 (by rw [z]; exact List.mem_map.mpr ⟨r, hm, rfl⟩)), ih h.2 hm]
theorem look_none {S : List D} {k : Str} : look S k = none ↔ ¬ k ∈ S.map rk := by
  unfold look
  rw [List.find?_eq_none]
  constructor
  · intro h z
    obtain ⟨r, hr, e⟩ := List.mem_map.mp z
    exact absurd (decide_eq_true e) (h r hr)
  · intro h r hr z
    exact h (List.mem_map.mpr ⟨r, hr, of_decide_eq_true z⟩)
theorem St.mem {S : List D} (h : St S) {r : D} : r ∈ S ↔ look S (rk r) = some r := ⟨fun m => look_mem h.ris.nodup m, fun e => (look_key e).1⟩
theorem pw_map {S : List D} (h : Rises (S.map rk)) : S.Pairwise fun a b => ltP (rk a) (rk b) := List.pairwise_map.mp h
theorem st_ext {S R : List D} (h : St S) (h' : St R) (e : ∀ k, look S k = look R k) : S = R := by
  have p1 := pw_map h.ris
  have p2 := pw_map h'.ris
  have n1 : S.Nodup := pw_nodup p1
  have n2 : R.Nodup := pw_nodup p2
  exact List.Perm.eq_of_pairwise (le := fun a b => ltP (rk a) (rk b)) (fun a b _ _ x y => absurd (ltP_trans x y) ltP_irr) p1 p2
    ((List.perm_ext_iff_of_nodup n1 n2).mpr fun r => by rw [h.mem, h'.mem, e])
/-- a book of rows by their keys -/
structure BR (B : Bk) : Prop where
  once : Once B
  row : ∀ p ∈ B, IsRow p.2 ∧ rk p.2 = p.1
theorem BR.put {B : Bk} (h : BR B) {r : D} (hr : IsRow r) : BR (putB B (rk r) r) := by
  refine ⟨h.once.put _ _, fun p hp => ?_⟩
  unfold putB at hp
  split at hp
  · obtain ⟨q, hq, e⟩ := List.mem_map.mp hp
    split at e
    · rename_i z
      subst e
      exact ⟨hr, z.symm⟩
    · subst e
      exact h.row _ hq
  · rcases List.mem_append.mp hp with q | q
    · exact h.row p q
    · rw [List.mem_singleton] at q
      subst q
      exact ⟨hr, rfl⟩
theorem BR.drop {B : Bk} (h : BR B) (k : Str) : BR (dropB B k) := ⟨h.once.drop k, fun p hp => h.row p (List.mem_filter.mp hp).1⟩
theorem BR.merge {C : Bk} : ∀ {B : Bk}, BR B → BR C → BR (mergeB B C) := by
  induction C with
  | nil => exact fun h _ => h
  | cons p C ih =>
    intro B h hC
    have h1 := hC.row p List.mem_cons_self
    have hC' : BR C := ⟨by have := hC.once; unfold Once at this ⊢; rw [List.map_cons, List.nodup_cons] at this; exact this.2, fun q hq => hC.row q (List.mem_cons_of_mem _ hq)⟩
    have := h.put h1.1
    rw [h1.2] at this
    exact ih this hC'
theorem BR.nil : BR [] := ⟨List.nodup_nil, fun p hp => nomatch hp⟩
theorem BR.get {B : Bk} (h : BR B) {k : Str} {d : D} (e : getB B k = some d) : IsRow d ∧ rk d = k := by
  unfold getB at e
  cases hf : B.find? (fun p => decide (p.1 = k)) with
  | none => rw [hf] at e; cases e
  | some p =>
    rw [hf] at e
    cases e
    have h1 := h.row p (List.mem_of_find?_eq_some hf)
    have h2 : p.1 = k := by simpa using List.find?_some hf
    exact ⟨h1.1, h1.2.trans h2⟩
/-- the book's rows by rising keys -/
def asR (B : Bk) : List D := (sortS (B.map (·.1))).map fun k => (getB B k).getD .none
theorem asR_keys {B : Bk} (h : BR B) : (asR B).map rk = sortS (B.map (·.1)) := by
  unfold asR
  rw [List.map_map]
  have : ∀ k ∈ sortS (B.map (·.1)), (rk ∘ fun k => (getB B k).getD .none) k = id k := fun k hk => by
    have hk := (sortS_perm _).mem_iff.mp hk
    obtain ⟨p, hp, rfl⟩ := List.mem_map.mp hk
    show rk ((getB B p.1).getD .none) = p.1
    rw [mem_get h.once hp]
    exact (h.row p hp).2
  rw [List.map_congr_left this, List.map_id]
theorem asR_st {B : Bk} (h : BR B) : St (asR B) := by
  refine ⟨fun r hr => ?_, ?_⟩
  · unfold asR at hr
    obtain ⟨k, hk, rfl⟩ := List.mem_map.mp hr
    obtain ⟨p, hp, rfl⟩ := List.mem_map.mp ((sortS_perm _).mem_iff.mp hk)
    rw [mem_get h.once hp]
    exact (h.row p hp).1
  · rw [asR_keys h]
    exact rises_of (sortS_rises _) ((sortS_perm _).nodup_iff.mpr h.once)
theorem asR_look {B : Bk} (h : BR B) (k : Str) : look (asR B) k = getB B k := by
  cases e : getB B k with
  | none =>
    rw [look_none, asR_keys h]
    exact fun z => (getB_none B k).mp e ((sortS_perm _).mem_iff.mp z)
  | some d =>
    obtain ⟨h1, h2⟩ := h.get e
    have hm : d ∈ asR B := by
      unfold asR
      refine List.mem_map.mpr ⟨k, (sortS_perm _).mem_iff.mpr ?_, by rw [e]; rfl⟩
      exact Classical.byContradiction fun z => by rw [(getB_none B k).mpr z] at e; cases e
    have := look_mem (asR_st h).ris.nodup hm
    rw [h2] at this
    exact this
theorem asR_len (B : Bk) : (asR B).length = B.length := by
  unfold asR
  rw [List.length_map, (sortS_perm _).length_eq, List.length_map]
/-- the book of rows -/
def bookB (S : List D) : Bk := S.foldl (fun B r => putB B (rk r) r) []
theorem book_go : ∀ (S : List D) (B : Bk), BR B → (∀ r ∈ S, IsRow r) → BR (S.foldl (fun B r => putB B (rk r) r) B)
  | [], B, h, _ => h
  | r :: S, B, h, hr => book_go S _ (h.put (hr r List.mem_cons_self)) fun q hq => hr q (List.mem_cons_of_mem _ hq)
theorem book_br {S : List D} (h : ∀ r ∈ S, IsRow r) : BR (bookB S) := book_go S [] BR.nil h
theorem book_getGo : ∀ (S : List D) (B : Bk) (k : Str), (S.map rk).Nodup → getB (S.foldl (fun B r => putB B (rk r) r) B) k = (look S k).or (getB B k)
  | [], B, k, _ => rfl
  | r :: S, B, k, h => by
    rw [List.map_cons, List.nodup_cons] at h
    rw [List.foldl_cons, book_getGo S _ k h.2, getB_put, look_cons]
    by_cases e : rk r = k
    · rw [if_pos e, if_pos e, look_none.mpr (by rw [← e]; exact h.1)]
      rfl
    · rw [if_neg e, if_neg e]
theorem book_get {S : List D} (h : St S) (k : Str) : getB (bookB S) k = look S k := by
  unfold bookB
  rw [book_getGo S [] k h.ris.nodup]
  show (look S k).or none = _
  cases look S k <;> rfl
theorem book_len : ∀ (S : List D) (B : Bk), (S.foldl (fun B r => putB B (rk r) r) B).length ≤ B.length + S.length
  | [], B => Nat.le_refl _
  | r :: S, B => by
    have h1 := book_len S (putB B (rk r) r)
    have h2 := put_len B (rk r) r
    rw [List.foldl_cons, List.length_cons]
    omega

/-! ### what the program's functions of stores come to -/
theorem imO_ok {d : D} (h : imm d = true) : imO (.ok d) = .ok d := by
  show (if imm d = true then Out.ok d else Out.stuck) = _
  rw [if_pos h]
theorem strsOf_keys (B : Bk) : strsOf ((dB B).map (·.1)) = some (B.map (·.1)) := by
  have : (dB B).map (·.1) = (B.map (·.1)).map PyData.str := by
    unfold dB
    rw [List.map_map, List.map_map]
    rfl
  rw [this, strs_map]
theorem d_ixB (B : Bk) (k : Str) : dIx (.dict (dB B)) (.str k) = getB B k := by
  have h1 : dIxS (.dict (dB B)) (.str k) = none := by
    unfold dIxS
    split <;> simp_all
  show (dIxS (.dict (dB B)) (.str k)).or (dIxD (.dict (dB B)) (.str k)) = _
  rw [h1]
  show (keyOf (.str k)).bind (getK (dB B)) = _
  show getK (dB B) (.inr k) = _
  exact dB_get B k
theorem IsRow.imm {d : D} (h : IsRow d) : DL.imm d = true := by
  obtain ⟨k, p, a, t, rfl, hp⟩ := h
  rcases hp with rfl | ⟨s, rfl⟩ <;> rfl
theorem imm_all : ∀ {ds : List D}, (∀ d ∈ ds, imm d = true) → immA ds = true
  | [], _ => rfl
  | d :: ds, h => by
    unfold immA
    rw [h d List.mem_cons_self, imm_all fun e he => h e (List.mem_cons_of_mem _ he)]
    rfl
theorem rows_imm {S : List D} (h : ∀ r ∈ S, IsRow r) : imm (.tuple S) = true := by
  unfold imm
  exact imm_all fun d hd => (h d hd).imm
theorem pairs_rows : ∀ (S : List D), pairsD (S.map fun r => .tuple [.str (rk r), r]) = some (S.map fun r => (.inr (rk r), r))
  | [] => rfl
  | r :: S => by
    rw [List.map_cons, List.map_cons]
    show (keyOf (.str (rk r))).bind (fun k => (pairsD (S.map fun r => .tuple [.str (rk r), r])).map ((k, r) :: ·)) = _
    rw [pairs_rows S]
    rfl
theorem merge_rows (S : List D) : mergeD [] (S.map fun r => ((.inr (rk r) : Key), r)) = dB (bookB S) := by
  have h := dB_merge (S.map fun r => (rk r, r)) []
  rw [List.map_map] at h
  have e : mergeB [] (S.map fun r => (rk r, r)) = bookB S := by
    unfold mergeB bookB
    rw [List.foldl_map]
  rw [← e]
  exact h
theorem get_is (B : Bk) (k : Str) (z : D) {ga gb gc : GE} {ρ : Env} (h1 : ga ρ = .ok (.dict (dB B))) (h2 : gb ρ = .ok (.str k)) (h3 : gc ρ = .ok z) : eGet ga gb gc ρ = .ok ((getB B k).getD z) := by
  unfold eGet
  rw [h1, okb]
  dsimp only
  rw [dB_dct]
  simp only [cond_true]
  rw [h2, okb, h3, okb]
  show Out.ok ((getK (dB B) (.inr k)).getD z) = _
  rw [dB_get]
theorem get_nb {B : Bk} (h : BR B) (k : Str) : NB 1 ((getB B k).getD .none) := by
  cases e : getB B k with
  | none => simp [NB]
  | some d => exact (h.get e).1.nb

/-! ### what is drawn -/
def drawN (n k : Int) : Int :=
  let d := (n + 104729 * k + 17) * 69621 % 2147483647
  (d * d + 3 * d + k) % 2147483629
theorem drawn_is (n k : Int) : f__law_drawn [.int n, .int k] = .ok (.int (drawN n k)) := by
  unfold f__law_drawn
  rw [run_at (by rfl)]
  unfold g__law_drawn drawN
  have hd0 : 0 ≤ (n + 104729 * k + 17) * 69621 % 2147483647 := Int.emod_nonneg _ (by decide)
  have hd1 : (n + 104729 * k + 17) * 69621 % 2147483647 < 2147483647 := Int.emod_lt_of_pos _ (by decide)
  have m1 : dMul (.int 104729) (.int k) = some (.int (104729 * k)) := d_mull (by decide)
  have m2 : dMul (.int (n + 104729 * k + 17)) (.int 69621) = some (.int ((n + 104729 * k + 17) * 69621)) := d_mulr (by decide)
  have m3 : ∀ x : Int, dMod (.int x) (.int 2147483647) = some (.int (x % 2147483647)) := fun x => d_mod (by decide)
  have m4 : ∀ x : Int, dMod (.int x) (.int 2147483629) = some (.int (x % 2147483629)) := fun x => d_mod (by decide)
  generalize hd : (n + 104729 * k + 17) * 69621 % 2147483647 = d at hd0 hd1
  have m5 : dMul (.int d) (.int d) = some (.int (d * d)) := d_mull (by omega)
  have m6 : dMul (.int 3) (.int d) = some (.int (3 * d)) := d_mull (by decide)
  simp [env0, m1, m2, m3, hd, m4, m5, m6]
theorem drawN_pos (n k : Int) : 0 ≤ drawN n k := Int.emod_nonneg _ (by decide)
theorem drawN_lt (n k : Int) : drawN n k < 2147483629 := Int.emod_lt_of_pos _ (by decide)
/-- a name: one to five small letters -/
def NameOk (s : Str) : Prop := 1 ≤ s.length ∧ s.length ≤ 5 ∧ ∀ c ∈ s.cps.toList, 97 ≤ c ∧ c ≤ 122
def nameB (s : Str) : Bool := decide (1 ≤ s.length) && decide (s.length ≤ 5) && s.cps.toList.all fun c => decide (97 ≤ c) && decide (c ≤ 122)
theorem nameB_ok {s : Str} (h : nameB s = true) : NameOk s := by
  unfold nameB at h
  simp only [Bool.and_eq_true, decide_eq_true_eq, List.all_eq_true] at h
  exact ⟨h.1.1, h.1.2, fun c hc => h.2 c hc⟩
def abc : Str := "abcdefghijklmnopqrstuvwxyz"
theorem abc_at (i : Int) (h0 : 0 ≤ i) (h1 : i < 26) : ∃ c : Nat, 97 ≤ c ∧ c ≤ 122 ∧ dIx (.str abc) (.int i) = some (.str ⟨#[c]⟩) := by
  have hall : ∀ j : Nat, j < 26 → ∃ c, 97 ≤ c ∧ c ≤ 122 ∧ abc.cps.toList[j]? = some c := by
    have e : abc.cps.toList = (List.range 26).map (· + 97) := by decide +kernel
    intro j hj
    rw [e, List.getElem?_map, List.getElem?_range hj]
    exact ⟨j + 97, by omega, by omega, rfl⟩
  obtain ⟨c, c1, c2, c3⟩ := hall i.toNat (by omega)
  refine ⟨c, c1, c2, ?_⟩
  have hl : abc.cps.toList.length = 26 := by decide +kernel
  have e : atI abc.cps.toList i = some c := by rw [atI_pos h0 (by rw [hl]; exact h1), c3]
  show (if abc.length ≤ 1000000 then (atI abc.cps.toList i).map fun c => PyData.str ⟨#[c]⟩ else none).or _ = _
  rw [if_pos (by decide +kernel), e]
  rfl
theorem join_nil (cs : List Nat) : (Txt.join ("" : Str) (cs.map fun c => ⟨#[c]⟩)).cps.toList = cs := by
  rw [TL.join_eq]
  induction cs with
  | nil => rfl
  | cons c cs ih =>
    cases cs with
    | nil => rfl
    | cons d cs =>
      have ih : (Str.join ("" : Str) ((d :: cs).map fun c => (⟨#[c]⟩ : Str))).cps.toList = d :: cs := ih
      show (((⟨#[c]⟩ : Str) ++ ("" : Str) ++ Str.join ("" : Str) ((d :: cs).map fun c => (⟨#[c]⟩ : Str))) : Str).cps.toList = _
      show ((#[c] ++ #[] ++ (Str.join ("" : Str) ((d :: cs).map fun c => (⟨#[c]⟩ : Str))).cps) : Array Nat).toList = _
      rw [Array.toList_append, ih]
      rfl
theorem letters_of {f : D → D} : ∀ {ds : List D}, (∀ d ∈ ds, ∃ c : Nat, 97 ≤ c ∧ c ≤ 122 ∧ f d = .str ⟨#[c]⟩) → ∃ cs : List Nat, ds.map f = (cs.map fun c => (⟨#[c]⟩ : Str)).map .str ∧ cs.length = ds.length ∧ ∀ c ∈ cs, 97 ≤ c ∧ c ≤ 122
  | [], _ => ⟨[], rfl, rfl, fun c hc => nomatch hc⟩
  | d :: ds, h => by
    obtain ⟨c, c1, c2, c3⟩ := h d List.mem_cons_self
    obtain ⟨cs, e1, e2, e3⟩ := letters_of fun e he => h e (List.mem_cons_of_mem _ he)
    refine ⟨c :: cs, by rw [List.map_cons, c3, e1]; rfl, by rw [List.length_cons, List.length_cons, e2], fun x hx => ?_⟩
    rcases List.mem_cons.mp hx with rfl | hx
    · exact ⟨c1, c2⟩
    · exact e3 x hx
def namesL : List Str := ["a", "b", "cc", "root", "dd", "e", "f"]
theorem names_ok : ∀ i, i < 7 → NameOk (namesL.getD i "")
  | 0, _ => nameB_ok (by decide +kernel)
  | 1, _ => nameB_ok (by decide +kernel)
  | 2, _ => nameB_ok (by decide +kernel)
  | 3, _ => nameB_ok (by decide +kernel)
  | 4, _ => nameB_ok (by decide +kernel)
  | 5, _ => nameB_ok (by decide +kernel)
  | 6, _ => nameB_ok (by decide +kernel)
  | n + 7, h => absurd h (by omega)
theorem name_is (n : Int) : ∃ s, f__law_name [.int n] = .ok (.str s) ∧ NameOk s := by
  unfold f__law_name
  rw [run_at (by rfl)]
  unfold g__law_name
  have m1 : dMod (.int n) (.int 5) = some (.int (n % 5)) := d_mod (by decide)
  have m2 : dDiv (.int n) (.int 5) = some (.int (n / 5)) := d_div (by decide)
  have m3 : dMod (.int (n / 5)) (.int 7) = some (.int (n / 5 % 7)) := d_mod (by decide)
  have m4 : dMod (.int (n / 5)) (.int 5) = some (.int (n / 5 % 5)) := d_mod (by decide)
  by_cases h : 0 < n % 5
  · have hi0 : 0 ≤ n / 5 % 7 := Int.emod_nonneg _ (by decide)
    have hi1 : n / 5 % 7 < 7 := Int.emod_lt_of_pos _ (by decide)
    refine ⟨namesL.getD (n / 5 % 7).toNat "", ?_, names_ok _ (by omega)⟩
    have e4 : atI (namesL.map PyData.str) (n / 5 % 7) = some (.str (namesL.getD (n / 5 % 7).toNat "")) := by
      rw [atI_pos hi0 (by rw [List.length_map]; exact hi1), List.getElem?_map, List.getD_eq_getElem?_getD, List.getElem?_eq_getElem (show (n / 5 % 7).toNat < namesL.length by show _ < 7; omega)]
      rfl
    have e5 : dIx (.tuple (namesL.map PyData.str)) (.int (n / 5 % 7)) = some (.str (namesL.getD (n / 5 % 7).toNat "")) := by
      rw [d_ixT]
      exact e4
    rw [p_seq, p_if, p_tV, p_e2, p_e2]
    simp only [p_var, env0, p_c, okb, List.map_cons, List.map_nil, List.cons_append, List.nil_append, List.getElem?_cons_zero, m1, lift, d_gt, decide_eq_true h, cond_true, p_ret, p_e2, p_tup, p_acons, p_anil, m2, m3]
    show outD (sThen ((Out.bind (lift (dIx (.tuple (namesL.map PyData.str)) (.int (n / 5 % 7)))) _)) _) = _
    rw [e5]
    rfl
  · have hi0 : 0 ≤ n / 5 % 5 := Int.emod_nonneg _ (by decide)
    have hi1 : n / 5 % 5 < 5 := Int.emod_lt_of_pos _ (by decide)
    rw [p_seqN (ρ1 := [some (.int n), none, none]) (by
      rw [p_if, p_tV, p_e2, p_e2]
      simp only [p_var, env0, p_c, okb, List.map_cons, List.map_nil, List.cons_append, List.nil_append, List.getElem?_cons_zero, m1, lift, d_gt, decide_eq_false h, cond_false, p_nil]
      rfl), p_seqN (ρ1 := [some (.int n), some (.str abc), none]) (by rfl)]
    have q1 : iR1 (e2 dAdd (eC (.int 1)) (e2 dMod (e2 dDiv (eVar 0) (eC (.int 5))) (eC (.int 5)))) [some (.int n), some (.str abc), none] = .ok ((List.range (1 + n / 5 % 5).toNat).map fun i => .int (i : Nat)) := by
      unfold iR1
      have : e2 dAdd (eC (.int 1)) (e2 dMod (e2 dDiv (eVar 0) (eC (.int 5))) (eC (.int 5))) [some (.int n), some (.str abc), none] = .ok (.int (1 + n / 5 % 5)) := by
        simp [m2, m4, lift, okb]
      rw [this, okb]
      dsimp only
      rw [if_pos ⟨by omega, by omega⟩]
    have turn : ∀ d ∈ (List.range (1 + n / 5 % 5).toNat).map (fun i => PyData.int (i : Nat)), ∃ c : Nat, 97 ≤ c ∧ c ≤ 122 ∧ lcStep (tgN 2) gYes (e2 dIx (eVar 1) (e2 dMod (e2 dDiv (eCall f__law_drawn (aCons (eVar 0) (aCons (e2 dAdd (eC (.int 70)) (eVar 2)) aNil))) (eC (.int 4))) (eC (.int 26)))) (wipeE [some (.int n), some (.str abc), none] [2]) d = .ok [.str ⟨#[c]⟩] := fun d hd => by
      obtain ⟨k, hk, rfl⟩ := List.mem_map.mp hd
      have h0 : 0 ≤ drawN n (70 + (k : Nat)) / 4 % 26 := Int.emod_nonneg _ (by decide)
      have h1 : drawN n (70 + (k : Nat)) / 4 % 26 < 26 := Int.emod_lt_of_pos _ (by decide)
      obtain ⟨c, c1, c2, c3⟩ := abc_at _ h0 h1
      refine ⟨c, c1, c2, ?_⟩
      have m5 : dDiv (.int (drawN n (70 + (k : Nat)))) (.int 4) = some (.int (drawN n (70 + (k : Nat)) / 4)) := d_div (by decide)
      have m6 : dMod (.int (drawN n (70 + (k : Nat)) / 4)) (.int 26) = some (.int (drawN n (70 + (k : Nat)) / 4 % 26)) := d_mod (by decide)
      unfold lcStep
      simp [wipeE, gYes, drawn_is, m5, m6, c3, lift, okb]
    have pick : ∃ f : D → D, ∀ d ∈ (List.range (1 + n / 5 % 5).toNat).map (fun i => PyData.int (i : Nat)), (∃ c : Nat, 97 ≤ c ∧ c ≤ 122 ∧ f d = .str ⟨#[c]⟩) ∧ lcStep (tgN 2) gYes (e2 dIx (eVar 1) (e2 dMod (e2 dDiv (eCall f__law_drawn (aCons (eVar 0) (aCons (e2 dAdd (eC (.int 70)) (eVar 2)) aNil))) (eC (.int 4))) (eC (.int 26)))) (wipeE [some (.int n), some (.str abc), none] [2]) d = .ok [f d] := by
      refine ⟨fun d => match lcStep (tgN 2) gYes (e2 dIx (eVar 1) (e2 dMod (e2 dDiv (eCall f__law_drawn (aCons (eVar 0) (aCons (e2 dAdd (eC (.int 70)) (eVar 2)) aNil))) (eC (.int 4))) (eC (.int 26)))) (wipeE [some (.int n), some (.str abc), none] [2]) d with
        | .ok [x] => x
        | _ => .none, fun d hd => ?_⟩
      obtain ⟨c, c1, c2, c3⟩ := turn d hd
      refine ⟨⟨c, c1, c2, ?_⟩, ?_⟩ <;> simp only [c3]
    obtain ⟨f, hf⟩ := pick
    obtain ⟨cs, e1, e2', e3⟩ := letters_of fun d hd => (hf d hd).1
    have hlen : cs.length = (1 + n / 5 % 5).toNat := by rw [e2', List.length_map, List.length_range]
    have q2 := p_lc (tt := gYes) (vs := [2]) (o := fun d => [f d]) q1 (by rw [List.length_map, List.length_range]; omega) fun d hd => (hf d hd).2
    rw [flat_map, e1] at q2
    refine ⟨Txt.join ("" : Str) (cs.map fun c => ⟨#[c]⟩), ?_, ?_⟩
    · rw [p_ret]
      unfold eM1
      rw [q2]
      have hs : sumL (cs.map fun c => (⟨#[c]⟩ : Str)) = cs.length := by
        unfold sumL
        rw [List.map_map]
        clear q2 e3 e2' e1 hlen
        induction cs with
        | nil => rfl
        | cons c cs ih =>
          rw [List.map_cons, List.sum_cons, ih, List.length_cons]
          show 1 + cs.length = _
          omega
      have e6 : dJoin ("" : Str) (.list ((cs.map fun c => (⟨#[c]⟩ : Str)).map .str)) = some (.str (Txt.join ("" : Str) (cs.map fun c => ⟨#[c]⟩))) := by
        show (strsOf ((cs.map fun c => (⟨#[c]⟩ : Str)).map .str)).bind _ = _
        rw [strs_map]
        show (if sumL (cs.map fun c => (⟨#[c]⟩ : Str)) + (cs.map fun c => (⟨#[c]⟩ : Str)).length * 0 ≤ 1000000 then _ else none) = _
        rw [if_pos (by rw [hs]; omega)]
      show outD ((lift (dJoin ("" : Str) _)).bind _) = _
      rw [e6]
      rfl
    · have e5 := join_nil cs
      refine ⟨?_, ?_, fun c hc => e3 c (by rw [e5] at hc; exact hc)⟩
      · show 1 ≤ (Txt.join ("" : Str) (cs.map fun c => ⟨#[c]⟩)).cps.size
        rw [← Array.length_toList, e5]
        omega
      · show (Txt.join ("" : Str) (cs.map fun c => ⟨#[c]⟩)).cps.size ≤ 5
        rw [← Array.length_toList, e5]
        omega

/-! ### plans, rows -/
structure Pl where
  lo : Int
  hi : Int
  tags : List Str
def Pl.d (p : Pl) : D := .tuple [.int p.lo, .int p.hi, .tuple (p.tags.map .str)]
structure PlOk (p : Pl) : Prop where
  lo0 : 0 ≤ p.lo
  le : p.lo ≤ p.hi
  hi9 : p.hi ≤ 999
  one : 1 ≤ p.tags.length
  few : p.tags.length ≤ 3
  nam : ∀ t ∈ p.tags, NameOk t
  ris : Rises p.tags
theorem dedS_len : ∀ r : List Str, (dedS r).length ≤ r.length ∧ (r ≠ [] → 1 ≤ (dedS r).length)
  | [] => ⟨Nat.le_refl _, fun h => absurd rfl h⟩
  | x :: r => by
    obtain ⟨h1, h2⟩ := dedS_len r
    unfold dedS
    split
    · rename_i c
      refine ⟨by rw [List.length_cons]; omega, fun _ => h2 fun z => ?_⟩
      subst z
      simp at c
    · rw [List.length_cons, List.length_cons]
      exact ⟨by omega, fun _ => by omega⟩
theorem setS_len (ss : List Str) : (setS ss).length ≤ ss.length ∧ (ss ≠ [] → 1 ≤ (setS ss).length) := by
  unfold setS
  rw [(sortS_perm _).length_eq]
  exact dedS_len ss
theorem setS_rises (ss : List Str) : Rises (setS ss) := rises_of (sortS_rises _) (setS_nodup ss)
theorem names_of {f : D → Out (List D)} : ∀ {ds : List D}, (∀ d ∈ ds, ∃ s, NameOk s ∧ f d = .ok [.str s]) → ∃ ss : List Str, lcAll f ds = .ok (ss.map .str) ∧ ss.length = ds.length ∧ ∀ s ∈ ss, NameOk s
  | [], _ => ⟨[], rfl, rfl, fun c hc => nomatch hc⟩
  | d :: ds, h => by
    obtain ⟨s, c1, c2⟩ := h d List.mem_cons_self
    obtain ⟨ss, e1, e2, e3⟩ := names_of fun e he => h e (List.mem_cons_of_mem _ he)
    refine ⟨s :: ss, ?_, by rw [List.length_cons, List.length_cons, e2], fun x hx => ?_⟩
    · unfold lcAll
      rw [c2, okb, e1]
      rfl
    · rcases List.mem_cons.mp hx with rfl | hx
      · exact c1
      · exact e3 x hx
theorem plan_is (n : Int) (hn : 0 ≤ n) : ∃ p, f__law_plan [.int n] = .ok (Pl.d p) ∧ PlOk p := by
  unfold f__law_plan
  rw [run_at (by rfl)]
  unfold g__law_plan
  have h2 : n % 2 = 0 ∨ n % 2 = 1 := by omega
  have m0 : dDiv (.int n) (.int 8) = some (.int (n / 8)) := d_div (by decide)
  have m1 : dMod (.int n) (.int 2) = some (.int (n % 2)) := d_mod (by decide)
  obtain ⟨b, hb, hb5⟩ : ∃ b : Int, atI [PyData.int 1000, .int 5] (n % 2) = some (.int b) ∧ (0 < b ∧ b ≤ 1000) := by
    rcases h2 with h | h <;> rw [h]
    · exact ⟨1000, rfl, by decide⟩
    · exact ⟨5, rfl, by decide⟩
  have m2 : dMod (.int (n / 8)) (.int b) = some (.int (n / 8 % b)) := d_mod hb5.1
  have lo0 : 0 ≤ n / 8 % b := Int.emod_nonneg _ (by omega)
  have lo1 : n / 8 % b < b := Int.emod_lt_of_pos _ hb5.1
  rw [p_seqN (ρ1 := [some (.int n), some (.int (n / 8 % b)), none, none, none]) (by simp [env0, m0, m1, hb, m2, lift, okb])]
  generalize n / 8 % b = lo at lo0 lo1
  have m3 : dDiv (.int n) (.int 4096) = some (.int (n / 4096)) := d_div (by decide)
  have m4 : dMod (.int (n / 4096)) (.int (1000 - lo)) = some (.int (n / 4096 % (1000 - lo))) := d_mod (by omega)
  have x0 : 0 ≤ n / 4096 % (1000 - lo) := Int.emod_nonneg _ (by omega)
  have x1 : n / 4096 % (1000 - lo) < 1000 - lo := Int.emod_lt_of_pos _ (by omega)
  rw [p_seqN (ρ1 := [some (.int n), some (.int lo), some (.int (lo + n / 4096 % (1000 - lo))), none, none]) (by simp [m3, m4, lift, okb])]
  generalize n / 4096 % (1000 - lo) = x at x0 x1
  have m5 : dDiv (.int n) (.int 2) = some (.int (n / 2)) := d_div (by decide)
  have m6 : dMod (.int (n / 2)) (.int 3) = some (.int (n / 2 % 3)) := d_mod (by decide)
  have y0 : 0 ≤ n / 2 % 3 := Int.emod_nonneg _ (by decide)
  have y1 : n / 2 % 3 < 3 := Int.emod_lt_of_pos _ (by decide)
  obtain ⟨ss, s1, s2, s3⟩ := names_of (f := lcStep (tgN 4) gYes (eCall f__law_name (aCons (e2 dDiv (eCall f__law_drawn (aCons (eVar 0) (aCons (e2 dAdd (eC (.int 60)) (eVar 4)) aNil))) (eC (.int 4))) aNil)) (wipeE [some (.int n), some (.int lo), some (.int (lo + x)), none, none] [4]))
    (ds := (List.range (1 + n / 2 % 3).toNat).map fun i => .int (i : Nat)) fun d hd => by
      obtain ⟨k, hk, rfl⟩ := List.mem_map.mp hd
      have m7 : dDiv (.int (drawN n (60 + (k : Nat)))) (.int 4) = some (.int (drawN n (60 + (k : Nat)) / 4)) := d_div (by decide)
      obtain ⟨s, e1, e2'⟩ := name_is (drawN n (60 + (k : Nat)) / 4)
      refine ⟨s, e2', ?_⟩
      unfold lcStep
      simp [wipeE, gYes, drawn_is, m7, e1, lift, okb]
  rw [List.length_map, List.length_range] at s2
  have q1 : eLc (iR1 (e2 dAdd (eC (.int 1)) (e2 dMod (e2 dDiv (eVar 0) (eC (.int 2))) (eC (.int 3))))) (tgN 4) gYes (eCall f__law_name (aCons (e2 dDiv (eCall f__law_drawn (aCons (eVar 0) (aCons (e2 dAdd (eC (.int 60)) (eVar 4)) aNil))) (eC (.int 4))) aNil)) [4] [some (.int n), some (.int lo), some (.int (lo + x)), none, none] = .ok (.list (ss.map .str)) := by
    unfold eLc iR1
    have : e2 dAdd (eC (.int 1)) (e2 dMod (e2 dDiv (eVar 0) (eC (.int 2))) (eC (.int 3))) [some (.int n), some (.int lo), some (.int (lo + x)), none, none] = .ok (.int (1 + n / 2 % 3)) := by
      simp [m5, m6, lift, okb]
    rw [this, okb]
    dsimp only
    rw [if_pos ⟨by omega, by omega⟩, okb, if_pos (by rw [List.length_map, List.length_range]; omega), s1, okb]
  rw [p_seqN (ρ1 := [some (.int n), some (.int lo), some (.int (lo + x)), some (.list (ss.map .str)), none]) (by rw [p_set, q1]; rfl)]
  have e8 : dSortSet (.list (ss.map .str)) = some (.list ((setS ss).map .str)) := by
    show (strsOf (ss.map .str)).bind _ = _
    rw [strs_map]
    show (if ss.length < 64 then _ else none) = _
    rw [if_pos (by omega)]
  obtain ⟨l1, l2⟩ := setS_len ss
  have e9 : dTuple (.list ((setS ss).map .str)) = some (.tuple ((setS ss).map .str)) := by
    show (if ((setS ss).map PyData.str).length ≤ 1000000 then _ else none) = _
    rw [if_pos (by rw [List.length_map]; omega)]
  refine ⟨⟨lo, lo + x, setS ss⟩, by simp [e8, e9, lift, okb, Pl.d], ⟨lo0, by show lo ≤ lo + x; omega, by show lo + x ≤ 999; omega, l2 (fun z => ?_), by show (setS ss).length ≤ 3; omega, fun t ht => s3 t (setS_mem.mp ht), setS_rises ss⟩⟩
  rw [z] at s2
  have : (1 + n / 2 % 3).toNat = 0 := s2.symm
  omega
/-- a row of a plan -/
def RowOk (p : Pl) (d : D) : Prop := ∃ (k : Str) (q : D) (a : Int) (t : Str), d = .tuple [.str k, q, .int a, .str t] ∧ NameOk k ∧ (q = .none ∨ ∃ s, q = .str s ∧ NameOk s) ∧ p.lo ≤ a ∧ a ≤ p.hi ∧ t ∈ p.tags
theorem RowOk.row {p : Pl} {d : D} (h : RowOk p d) : IsRow d := by
  obtain ⟨k, q, a, t, rfl, _, hq, _⟩ := h
  exact ⟨k, q, a, t, rfl, hq.imp id fun ⟨s, e, _⟩ => ⟨s, e⟩⟩
theorem row_is {p : Pl} (hp : PlOk p) (n : Int) (hn : 0 ≤ n) : ∃ r, f__law_row [Pl.d p, .int n] = .ok r ∧ RowOk p r := by
  unfold f__law_row
  rw [run_at (by rfl)]
  unfold g__law_row
  obtain ⟨s1, n1, o1⟩ := name_is (n / 3)
  obtain ⟨s2, n2, o2⟩ := name_is (drawN n 1 / 4)
  have m1 : dDiv (.int n) (.int 3) = some (.int (n / 3)) := d_div (by decide)
  have m2 : dMod (.int n) (.int 3) = some (.int (n % 3)) := d_mod (by decide)
  have m3 : dDiv (.int (drawN n 1)) (.int 4) = some (.int (drawN n 1 / 4)) := d_div (by decide)
  have m4 : dDiv (.int n) (.int 64) = some (.int (n / 64)) := d_div (by decide)
  have m5 : dMod (.int (n / 64)) (.int (p.hi - p.lo + 1)) = some (.int (n / 64 % (p.hi - p.lo + 1))) := d_mod (by have := hp.le; omega)
  have m6 : dDiv (.int n) (.int 8) = some (.int (n / 8)) := d_div (by decide)
  have ln : 0 < (p.tags.length : Int) := by have := hp.one; omega
  have m7 : dMod (.int (n / 8)) (.int (p.tags.length : Int)) = some (.int (n / 8 % p.tags.length)) := d_mod ln
  have a0 : 0 ≤ n / 64 % (p.hi - p.lo + 1) := Int.emod_nonneg _ (by have := hp.le; omega)
  have a1 : n / 64 % (p.hi - p.lo + 1) < p.hi - p.lo + 1 := Int.emod_lt_of_pos _ (by have := hp.le; omega)
  have t0 : 0 ≤ n / 8 % (p.tags.length : Int) := Int.emod_nonneg _ (by omega)
  have t1 : n / 8 % (p.tags.length : Int) < p.tags.length := Int.emod_lt_of_pos _ ln
  obtain ⟨t, ht, et⟩ : ∃ t, t ∈ p.tags ∧ atI (p.tags.map PyData.str) (n / 8 % (p.tags.length : Int)) = some (.str t) := by
    have hi : (n / 8 % (p.tags.length : Int)).toNat < p.tags.length := by omega
    refine ⟨p.tags[(n / 8 % (p.tags.length : Int)).toNat], List.getElem_mem hi, ?_⟩
    rw [atI_pos t0 (by rw [List.length_map]; exact t1), List.getElem?_map, List.getElem?_eq_getElem hi]
    rfl
  have w1 : ∀ q : D, (q = .str s1 ∨ q = .none) → ∃ r, outD ((sSeq (sSet 6 (eCall f__law_name (aCons (e2 dDiv (eCall f__law_drawn (aCons (eVar 1) (aCons (eC (.int 1)) aNil))) (eC (.int 4))) aNil))) (sSeq (sSet 7 (e2 dAdd (eVar 2) (e2 dMod (e2 dDiv (eVar 1) (eC (.int 64))) (e2 dAdd (e2 dSub (eVar 3) (eVar 2)) (eC (.int 1)))))) (sRet (eTup (aCons (eVar 6) (aCons (eVar 5) (aCons (eVar 7) (aCons (e2 dIx (eVar 4) (e2 dMod (e2 dDiv (eVar 1) (eC (.int 8))) (eCl (f1 dLen) (aCons (eVar 4) aNil)))) aNil)))))))) [some (Pl.d p), some (.int n), some (.int p.lo), some (.int p.hi), some (.tuple (p.tags.map .str)), some q, none, none]) = .ok r ∧ RowOk p r := fun q hq => by
    rw [p_seqN (ρ1 := [some (Pl.d p), some (.int n), some (.int p.lo), some (.int p.hi), some (.tuple (p.tags.map .str)), some q, some (.str s2), none]) (by simp [drawn_is, m3, n2, lift, okb])]
    rw [p_seqN (ρ1 := [some (Pl.d p), some (.int n), some (.int p.lo), some (.int p.hi), some (.tuple (p.tags.map .str)), some q, some (.str s2), some (.int (p.lo + n / 64 % (p.hi - p.lo + 1)))]) (by simp [m4, m5, lift, okb])]
    refine ⟨.tuple [.str s2, q, .int (p.lo + n / 64 % (p.hi - p.lo + 1)), .str t], by simp [m6, m7, et, lift, okb], s2, q, _, t, rfl, o2, ?_, by omega, by omega, ht⟩
    rcases hq with rfl | rfl
    · exact .inr ⟨s1, rfl, o1⟩
    · exact .inl rfl
  rw [p_seqN (ρ1 := [some (Pl.d p), some (.int n), some (.int p.lo), some (.int p.hi), some (.tuple (p.tags.map .str)), none, none, none]) (by simp [env0, Pl.d])]
  rw [p_seqN (ρ1 := [some (Pl.d p), some (.int n), some (.int p.lo), some (.int p.hi), some (.tuple (p.tags.map .str)), some (.str s1), none, none]) (by simp [m1, n1, lift, okb])]
  by_cases h : n % 3 = 0
  · rw [p_seqN (ρ1 := [some (Pl.d p), some (.int n), some (.int p.lo), some (.int p.hi), some (.tuple (p.tags.map .str)), some .none, none, none]) (by simp [m2, h, lift, okb])]
    exact w1 .none (.inr rfl)
  · rw [p_seqN (ρ1 := [some (Pl.d p), some (.int n), some (.int p.lo), some (.int p.hi), some (.tuple (p.tags.map .str)), some (.str s1), none, none]) (by simp [m2, h, lift, okb])]
    exact w1 (.str s1) (.inl rfl)

/-! ### small steps -/
theorem nbS {S : List D} (h : ∀ r ∈ S, IsRow r) : NB 2 (.tuple S) := by
  simp only [NB]
  exact fun r hr => (h r hr).nb
theorem nbStr (ks : List Str) : NB 1 (.list (ks.map .str)) := by
  simp only [NB]
  intro d hd
  obtain ⟨k, _, rfl⟩ := List.mem_map.mp hd
  simp [NB]
theorem ne_same {k : Nat} {x : D} (h : NB k x) (hk : k ≤ 100) : dNe x x = some (.bool false) := by
  rw [d_neN h h hk, @decide_eq_true _ (Classical.propDecidable _) rfl]
  rfl
theorem eq_same {k : Nat} {x : D} (h : NB k x) (hk : k ≤ 100) : dEq x x = some (.bool true) := by
  rw [d_eqN h h hk, @decide_eq_true _ (Classical.propDecidable _) rfl]
theorem eq_not {k j : Nat} {x y : D} (h : NB k x) (h' : NB j y) (hk : k ≤ 100) (n : x ≠ y) : dEq x y = some (.bool false) := by
  rw [d_eqN h h' hk, @decide_eq_false _ (Classical.propDecidable _) n]
theorem if_no {t : GT} {s : GS} {ρ : Env} (h : t ρ = .ok false) : sIf t s sNil ρ = .ok (.nx ρ) := by
  rw [p_if, h]
  rfl
theorem tv_ne {g g' : GE} {ρ : Env} {k : Nat} {x : D} (h : g ρ = .ok x) (h' : g' ρ = .ok x) (n : NB k x) (hk : k ≤ 100) : tV (e2 dNe g g') ρ = .ok false := tv_ok (e2_ok h h' (ne_same n hk))
theorem lc_none {f : D → Out (List D)} : ∀ {ds : List D}, (∀ d ∈ ds, f d = .ok []) → lcAll f ds = .ok []
  | [], _ => rfl
  | d :: ds, h => by
    unfold lcAll
    rw [h d List.mem_cons_self, okb, lc_none fun e he => h e (List.mem_cons_of_mem _ he)]
    rfl
theorem sort_keys {ks : List Str} (h : Rises ks) (hl : ks.length < 64) : dSortSet (.list (ks.map .str)) = some (.list (ks.map .str)) := by
  show (strsOf (ks.map .str)).bind _ = _
  rw [strs_map]
  show (if ks.length < 64 then _ else none) = _
  rw [if_pos hl, sortS_set h]
theorem cut_to {α : Type} {xs : List α} {b : Nat} (h : b ≤ xs.length) : cutD xs none (some (b : Int)) = xs.take b := by
  unfold cutD
  rw [HT.sIx_nat, HT.sIx_none, Nat.min_eq_left h]
  simp
theorem cut_from {α : Type} {xs : List α} {b : Nat} (h : b ≤ xs.length) : cutD xs (some (b : Int)) none = xs.drop b := by
  unfold cutD
  rw [HT.sIx_nat, HT.sIx_none, Nat.min_eq_left h, List.take_of_length_le (by rw [List.length_drop]; omega)]

/-! ### comprehensions over stores -/
section
variable {S R : List D} {ρ ρ2 : Env} {gi : GA} {tg : Tg} {vs : List Nat}
theorem lc_keys {te : GE} (h1 : gi ρ = .ok S) (hS : ∀ r ∈ S, IsRow r) (hl : S.length ≤ 1000) (h3 : ∀ r ∈ S, ∃ ρ2 g, te = e2 dIx g (eC (.int 0)) ∧ tg r (wipeE ρ vs) = some ρ2 ∧ g ρ2 = .ok r) : eLc gi tg gYes te vs ρ = .ok (.list ((S.map rk).map .str)) := by
  rw [lc_map (ds := S) (fun r => .str (rk r)) h1 (by omega) fun r hr => ?_, List.map_map]
  · rfl
  · obtain ⟨ρ2, g, rfl, e1, e2⟩ := h3 r hr
    exact ⟨ρ2, e1, e2_ok e2 rfl (hS r hr).key⟩
end
theorem row_in {r : D} {S : List D} (hr : IsRow r) (hS : ∀ q ∈ S, IsRow q) (neg : Bool) (h : r ∈ S) : dIn neg r (.tuple S) = some (.bool (!neg)) := by
  rw [(d_inN hr.nb (fun q hq => (hS q hq).nb) (by decide)).1] <;> simp only [h, decide_true]
  cases neg <;> rfl
theorem row_out {r : D} {S : List D} (hr : IsRow r) (hS : ∀ q ∈ S, IsRow q) (neg : Bool) (h : ¬ r ∈ S) : dIn neg r (.tuple S) = some (.bool neg) := by
  rw [(d_inN hr.nb (fun q hq => (hS q hq).nb) (by decide)).1] <;> simp only [h, decide_false]
  cases neg <;> rfl
theorem key_in {k : Str} {ks : List Str} (neg : Bool) (h : k ∈ ks) : dIn neg (.str k) (.list (ks.map .str)) = some (.bool (!neg)) := by
  have := (d_inN (neg := neg) (k := 0) (x := .str k) (by simp [NB]) (ds := ks.map .str) (j := 0) (fun q hq => by
    obtain ⟨k, _, rfl⟩ := List.mem_map.mp hq
    simp [NB]) (by decide)).2
  have h2 : PyData.str k ∈ ks.map .str := List.mem_map.mpr ⟨k, h, rfl⟩
  rw [this]
  simp only [h2, decide_true]
  cases neg <;> rfl
theorem key_out {k : Str} {ks : List Str} (neg : Bool) (h : ¬ k ∈ ks) : dIn neg (.str k) (.list (ks.map .str)) = some (.bool neg) := by
  have := (d_inN (neg := neg) (k := 0) (x := .str k) (by simp [NB]) (ds := ks.map .str) (j := 0) (fun q hq => by
    obtain ⟨k, _, rfl⟩ := List.mem_map.mp hq
    simp [NB]) (by decide)).2
  have h2 : ¬ PyData.str k ∈ ks.map PyData.str := fun z => by
    obtain ⟨j, hj, e⟩ := List.mem_map.mp z
    exact h (PyData.str.inj e ▸ hj)
  rw [this]
  simp only [h2, decide_false]
  cases neg <;> rfl
theorem nbNil : NB 1 (.tuple []) := by simp [NB]
theorem nbNilL : NB 1 (.list []) := by simp [NB]


theorem d_eqS {a b : Str} : dEq (.str a) (.str b) = some (.bool (decide (a = b))) := by
  unfold dEq
  rw [show okEq (.str a) (.str b) = true from by simp [okEq, PyData.plain, PyData.depth], if_pos rfl]
  simp only [PyData.eqv]
  congr 2
theorem d_neS {a b : Str} : dNe (.str a) (.str b) = some (.bool (!decide (a = b))) := by
  unfold dNe
  rw [show okEq (.str a) (.str b) = true from by simp [okEq, PyData.plain, PyData.depth], if_pos rfl]
  simp only [PyData.eqv]
  congr 3
theorem add_tup {a b : List D} (h : a.length + b.length ≤ 1000) : dAdd (.tuple a) (.tuple b) = some (.tuple (a ++ b)) := by
  show (none : Option D).or ((none : Option D).or ((none : Option D).or (dAddT (.tuple a) (.tuple b)))) = _
  have : dAddT (.tuple a) (.tuple b) = some (.tuple (a ++ b)) := by
    unfold dAddT
    simp
    try omega
  rw [this]
  rfl

/-! ### books in slots -/
theorem st_put {i : Nat} {gk ge : GE} {ρ : Env} {B : Bk} {k : Str} {d : D} (h : ρ[i]? = some (some (.dict (dB B)))) (hk : gk ρ = .ok (.str k)) (he : ge ρ = .ok d) (hl : B.length < 1000000) : sPutD i gk ge ρ = .ok (.nx (ρ.set i (some (.dict (dB (putB B k d)))))) := by
  unfold sPutD
  rw [h]
  dsimp only
  rw [he, okb, hk, okb]
  show (bif decide ((dB B).length < 1000000) then Out.ok (Fl.nx (ρ.set i (some (.dict (putD (dB B) (.inr k) d))))) else Out.stuck) = _
  rw [dB_len, dB_put, decide_eq_true hl]
  rfl
theorem st_pop {i : Nat} {gk : GE} {ρ : Env} {B : Bk} {k : Str} {d : D} (h : ρ[i]? = some (some (.dict (dB B)))) (hk : gk ρ = .ok (.str k)) (hg : getB B k = some d) : sDPop i gk ρ = .ok (.nx (ρ.set i (some (.dict (dB (dropB B k)))))) := by
  unfold sDPop
  rw [h]
  dsimp only
  rw [hk, okb]
  show (bif (getK (dB B) (.inr k)).isSome then Out.ok (Fl.nx (ρ.set i (some (.dict (dropD (dB B) (.inr k)))))) else Out.stuck) = _
  rw [dB_get, hg, dB_drop]
  rfl
theorem forGo_cons {tg : Tg} {b : GS} {d : D} {ds : List D} {ρ ρ1 ρ2 : Env} {r : Out Fl} (h : tg d ρ = some ρ1) (h2 : b ρ1 = .ok (.nx ρ2)) (h3 : forGo tg b ds ρ2 = r) : forGo tg b (d :: ds) ρ = r := by
  unfold forGo
  rw [h]
  dsimp only
  rw [h2]
  exact h3
theorem cB1 {f : List D → Out D} {g : GE} {ρ : Env} {x z : D} (e : g ρ = .ok x) (n : f [x] = .ok z) (hi : imm z = true) : eCallB f (aCons g aNil) ρ = .ok z := by
  rw [p_callB, p_acons, e]
  show imO (f [x]) = _
  rw [n, imO_ok hi]
theorem cB2 {f : List D → Out D} {g g2 : GE} {ρ : Env} {x y z : D} (e : g ρ = .ok x) (e2 : g2 ρ = .ok y) (n : f [x, y] = .ok z) (hi : imm z = true) : eCallB f (aCons g (aCons g2 aNil)) ρ = .ok z := by
  rw [p_callB, p_acons, e, okb, p_acons, e2]
  show imO (f [x, y]) = _
  rw [n, imO_ok hi]
theorem asR_imm {B : Bk} (h : BR B) : imm (.tuple (asR B)) = true := rows_imm (asR_st h).row

/-! ### names, amounts, rows: what the program tells of them -/
theorem sign_is {c : Nat} {t : Str} : dIn false (.str ⟨#[c]⟩) (.str t) = some (.bool (decide (c ∈ t.cps.toList))) := by
  show ((dInL false (.str ⟨#[c]⟩) (.str t)).or (dInS false (.str ⟨#[c]⟩) (.str t))).or _ = _
  have h : dInS false (.str ⟨#[c]⟩) (.str t) = some (.bool (decide (c ∈ t.cps.toList))) := by
    unfold dInS
    simp
  rw [h]
  rfl
def signs (s : Str) : List D := s.cps.toList.map fun c => .str ⟨#[c]⟩
theorem abc_mem (c : Nat) : c ∈ abc.cps.toList ↔ 97 ≤ c ∧ c ≤ 122 := by
  have e : abc.cps.toList = (List.range 26).map (· + 97) := by decide +kernel
  rw [e, List.mem_map]
  constructor
  · rintro ⟨i, hi, rfl⟩
    have := List.mem_range.mp hi
    omega
  · rintro ⟨h1, h2⟩
    exact ⟨c - 97, List.mem_range.mpr (by omega), by omega⟩
theorem len_str {s : Str} (h : s.length ≤ 1000000) : dLen (.str s) = some (.int s.length) := if_pos h
theorem is_name_str (s : Str) (hs : s.length ≤ 1000000) : f_is_name [.str s] = .ok (.bool (nameB s)) := by
  unfold f_is_name
  rw [run_at (by rfl)]
  unfold g_is_name
  show outD (sRet _ [some (.str s), none]) = _
  have e : nameB s = (true && ((decide ((1 : Int) ≤ s.length) && decide ((s.length : Int) ≤ 5)) && ((s.cps.toList.map fun c => decide (c ∈ abc.cps.toList)).all id))) := by
    unfold nameB
    rw [Bool.true_and, List.all_map]
    have h1 : decide ((1 : Int) ≤ s.length) = decide (1 ≤ s.length) := by congr 1; exact propext (by omega)
    have h2 : decide ((s.length : Int) ≤ 5) = decide (s.length ≤ 5) := by congr 1; exact propext (by omega)
    rw [h1, h2]
    congr 2
    funext c
    show (decide (97 ≤ c) && decide (c ≤ 122)) = decide (c ∈ abc.cps.toList)
    rw [← Bool.decide_and]
    congr 1
    exact propext (abc_mem c).symm
  rw [e]
  refine q_ret (ea_b rfl fun _ => ea_b (ch_b rfl (b1 rfl (len_str hs)) rfl fun h => ⟨rfl, rfl⟩) fun hb => ?_)
  refine b1 (x := .list ((s.cps.toList.map fun c => decide (c ∈ abc.cps.toList)).map .bool)) ?_ d_all
  have hl : s.length ≤ 5 := by
    simp only [Bool.and_eq_true, decide_eq_true_eq] at hb
    omega
  rw [lc_map (ds := signs s) (fun d => match d with | .str t => .bool (decide (t.cps.toList.getD 0 0 ∈ abc.cps.toList)) | _ => .none) rfl (by unfold signs; rw [List.length_map]; show s.cps.toList.length ≤ _; rw [Array.length_toList]; exact Nat.le_trans hl (by decide)) fun d hd => ?_]
  · unfold signs
    rw [List.map_map, List.map_map]
    rfl
  · obtain ⟨c, hc, rfl⟩ := List.mem_map.mp hd
    exact ⟨_, rfl, e2_ok rfl rfl sign_is⟩
def nameD : D → Bool
  | .str s => nameB s
  | _ => false
def amtD : D → Bool
  | .int a => decide (0 ≤ a) && decide (a ≤ 999)
  | _ => false
theorem nameB_iff {s : Str} : nameB s = true ↔ NameOk s := by
  refine ⟨nameB_ok, fun h => ?_⟩
  unfold nameB
  simp only [Bool.and_eq_true, decide_eq_true_eq, List.all_eq_true]
  exact ⟨⟨h.1, h.2.1⟩, fun c hc => h.2.2 c hc⟩
theorem is_name_yes {s : Str} (h : NameOk s) : f_is_name [.str s] = .ok (.bool true) := by
  rw [is_name_str s (Nat.le_trans h.2.1 (by decide)), nameB_iff.mpr h]

/-! ### words of a text -/
def sp : Str := " "
def wordsT (t : Str) : List Str := Txt.split t sp
def joinT (ws : List Str) : Str := Txt.join sp ws
theorem words_free {t w : Str} (h : w ∈ wordsT t) : ¬ 32 ∈ w.cps.toList := StrLaws.split_free t 32 w h
theorem words_join (t : Str) : joinT (wordsT t) = t := (TL.join_eq sp _).trans (StrLaws.join_split t sp)
theorem join_words {ws : List Str} (hne : ws ≠ []) (h : ∀ w ∈ ws, ¬ 32 ∈ w.cps.toList) : wordsT (joinT ws) = ws := TL.split_join (y := sp) (s := 32) (S := []) rfl (by decide +kernel) hne h
theorem words_pos (t : Str) : 1 ≤ (wordsT t).length := PyProof.Rows.split_pos t sp
theorem words_ne (t : Str) : wordsT t ≠ [] := fun z => by
  have := words_pos t
  rw [z] at this
  cases this
theorem join_len {w : Str} {ws : List Str} : (joinT (w :: ws)).length = sumL (w :: ws) + ws.length := by
  unfold joinT sumL
  rw [TL.join_eq, PyProof.Rows.len_join_cons]
  show _ + ws.length * 1 = _
  omega
theorem join_len1 {ws : List Str} (h : ws ≠ []) : (joinT ws).length + 1 = sumL ws + ws.length := by
  cases ws with
  | nil => exact absurd rfl h
  | cons w ws => rw [join_len, List.length_cons]; omega
theorem words_len (t : Str) : t.length + 1 = sumL (wordsT t) + (wordsT t).length := by
  have := join_len1 (words_ne t)
  rwa [words_join] at this
theorem join_mem {c : Nat} : ∀ {ws : List Str}, c ∈ (joinT ws).cps.toList → c = 32 ∨ ∃ w ∈ ws, c ∈ w.cps.toList
  | [], h => by
    have : (joinT []).cps.toList = [] := rfl
    rw [this] at h
    cases h
  | [w], h => .inr ⟨w, List.mem_cons_self, h⟩
  | w :: v :: ws, h => by
    have e : (joinT (w :: v :: ws)).cps.toList = w.cps.toList ++ ([32] ++ (joinT (v :: ws)).cps.toList) := by
      unfold joinT
      rw [TL.join_eq, TL.join_eq]
      show TL.tl (w ++ sp ++ Str.join sp (v :: ws)) = _
      rw [TL.tl_append, TL.tl_append, List.append_assoc]
      rfl
    rw [e, List.mem_append, List.mem_append] at h
    rcases h with h | h | h
    · exact .inr ⟨w, List.mem_cons_self, h⟩
    · exact .inl (List.mem_singleton.mp h)
    · rcases join_mem h with h | ⟨x, hx, h⟩
      · exact .inl h
      · exact .inr ⟨x, List.mem_cons_of_mem _ hx, h⟩
theorem mem_join {c : Nat} : ∀ {ws : List Str} {w : Str}, w ∈ ws → c ∈ w.cps.toList → c ∈ (joinT ws).cps.toList
  | [], w, h, _ => nomatch h
  | [v], w, h, hc => by
    have : w = v := List.mem_singleton.mp h
    subst this
    exact hc
  | u :: v :: ws, w, h, hc => by
    have e : (joinT (u :: v :: ws)).cps.toList = u.cps.toList ++ ([32] ++ (joinT (v :: ws)).cps.toList) := by
      unfold joinT
      rw [TL.join_eq, TL.join_eq]
      show TL.tl (u ++ sp ++ Str.join sp (v :: ws)) = _
      rw [TL.tl_append, TL.tl_append, List.append_assoc]
      rfl
    rw [e, List.mem_append, List.mem_append]
    rcases List.mem_cons.mp h with rfl | h
    · exact .inl hc
    · exact .inr (.inr (mem_join h hc))
theorem word_mem {t w : Str} {c : Nat} (h : w ∈ wordsT t) (hc : c ∈ w.cps.toList) : c ∈ t.cps.toList := by
  have := mem_join h hc
  rwa [words_join] at this
theorem sum_mem : ∀ {ws : List Str} {w : Str}, w ∈ ws → w.length ≤ sumL ws
  | [], w, h => nomatch h
  | v :: ws, w, h => by
    show _ ≤ ((v :: ws).map (·.length)).sum
    rw [List.map_cons, List.sum_cons]
    rcases List.mem_cons.mp h with rfl | h
    · omega
    · have := sum_mem h
      unfold sumL at this
      omega
theorem word_len {t w : Str} (h : w ∈ wordsT t) : w.length ≤ t.length := by
  have h1 := sum_mem h
  have h2 := words_len t
  have h3 := words_pos t
  omega
theorem sum_append (a b : List Str) : sumL (a ++ b) = sumL a + sumL b := by
  unfold sumL
  rw [List.map_append, List.sum_append]
theorem sum_cons (a : Str) (b : List Str) : sumL (a :: b) = a.length + sumL b := by
  unfold sumL
  rw [List.map_cons, List.sum_cons]
theorem sum_sub {a b : List Str} (h : a.Sublist b) : sumL a ≤ sumL b := by
  induction h with
  | slnil => exact Nat.le_refl _
  | cons x _ ih => rw [sum_cons]; omega
  | cons_cons x _ ih => rw [sum_cons, sum_cons]; omega
theorem sum_rev (a : List Str) : sumL a.reverse = sumL a := by
  unfold sumL
  rw [List.map_reverse, List.sum_reverse]
theorem d_split {t : Str} (h : t.length ≤ 1000000) : dSplit t (.str " ") = some (.list ((wordsT t).map .str)) := if_pos ⟨by decide +kernel, h⟩
theorem d_join {ws : List Str} (h : sumL ws + ws.length ≤ 1000000) : dJoin (" " : Str) (.list (ws.map .str)) = some (.str (joinT ws)) := by
  show (strsOf (ws.map .str)).bind _ = _
  rw [strs_map]
  show (if sumL ws + ws.length * 1 ≤ 1000000 then some (PyData.str (joinT ws)) else none) = _
  rw [Nat.mul_one, if_pos h]
theorem str_in {x : Str} {ss : List Str} (neg : Bool) : dIn neg (.str x) (.list (ss.map .str)) = some (.bool (neg ^^ decide (x ∈ ss))) ∧ dIn neg (.str x) (.tuple (ss.map .str)) = some (.bool (neg ^^ decide (x ∈ ss))) := by
  have z := d_inN (neg := neg) (k := 0) (x := .str x) (by simp [NB]) (ds := ss.map .str) (j := 0) (fun q hq => by
    obtain ⟨k, _, rfl⟩ := List.mem_map.mp hq
    simp [NB]) (by decide)
  by_cases h : x ∈ ss
  · have h2 : PyData.str x ∈ ss.map .str := List.mem_map.mpr ⟨x, h, rfl⟩
    simp only [h2, decide_true] at z
    rw [decide_eq_true h]
    exact ⟨z.2, z.1⟩
  · have h2 : ¬ PyData.str x ∈ ss.map .str := fun q => by
      obtain ⟨y, hy, e⟩ := List.mem_map.mp q
      exact h (PyData.str.inj e ▸ hy)
    simp only [h2, decide_false] at z
    rw [decide_eq_false h]
    exact ⟨z.2, z.1⟩
theorem eq_nilS (ss : List Str) : dEq (.list (ss.map .str)) (.list []) = some (.bool ss.isEmpty) := by
  cases ss with
  | nil => rfl
  | cons s ss =>
    refine eq_not (k := 1) (nbStr _) nbNilL (by decide) fun z => ?_
    have z := PyData.list.inj z
    cases z
theorem ne_nilS (ss : List Str) : dNe (.list (ss.map .str)) (.list []) = some (.bool (!ss.isEmpty)) := by
  cases ss with
  | nil => rfl
  | cons s ss =>
    rw [d_neN (k := 1) (nbStr _) nbNilL (by decide), @decide_eq_false _ (Classical.propDecidable _) fun z => ?_]
    · rfl
    have z := PyData.list.inj z
    cases z
/-! one sign beside another -/
theorem sign_le (a b : Nat) : dLe (.str ⟨#[a]⟩) (.str ⟨#[b]⟩) = some (.bool (decide (a ≤ b))) := by
  show some (PyData.bool (!decide (([b] : List Nat) < [a]))) = _
  congr 2
  by_cases h : a ≤ b
  · rw [decide_eq_true h, decide_eq_false]
    · rfl
    · intro z
      rcases List.cons_lt_cons_iff.mp z with z | ⟨_, z⟩
      · omega
      · exact absurd z (List.lt_irrefl _)
  · rw [decide_eq_false h, decide_eq_true]
    · rfl
    · exact List.cons_lt_cons_iff.mpr (.inl (by omega))
def ofSigns (cs : List Nat) : List Str := cs.map fun c => ⟨#[c]⟩
theorem signs_of (s : Str) : signs s = (ofSigns s.cps.toList).map .str := by
  unfold signs ofSigns
  rw [List.map_map]
  rfl
/-! ### faults -/
def dig (c : Nat) : Bool := decide (48 ≤ c) && decide (c ≤ 57)
def amtL : List Nat → Option Int
  | [a] => if dig a then some ((a : Int) - 48) else none
  | [a, b] => if dig a && dig b && !decide (a = 48) then some (((a : Int) - 48) * 10 + ((b : Int) - 48)) else none
  | [a, b, c] => if dig a && dig b && dig c && !decide (a = 48) then some (((a : Int) - 48) * 100 + ((b : Int) - 48) * 10 + ((c : Int) - 48)) else none
  | _ => none
def amtF (w : Str) : Option Int := amtL w.cps.toList
def amtO : Option Int → D
  | some n => .int n
  | none => .none
theorem tab1 : ∀ a : Fin 10, PySem.intText? ⟨#[48 + a.val]⟩ = some (a.val : Int) ∧ (toString (a.val : Int) : Str) = ⟨#[48 + a.val]⟩ := by decide +kernel
theorem tab2 : ∀ a b : Fin 10, PySem.intText? ⟨#[48 + a.val, 48 + b.val]⟩ = some ((a.val * 10 + b.val : Nat) : Int) ∧ ((toString ((a.val * 10 + b.val : Nat) : Int) : Str) = ⟨#[48 + a.val, 48 + b.val]⟩ ↔ a.val ≠ 0) := by decide +kernel
theorem tab3 : ∀ a b c : Fin 10, PySem.intText? ⟨#[48 + a.val, 48 + b.val, 48 + c.val]⟩ = some ((a.val * 100 + b.val * 10 + c.val : Nat) : Int) ∧ ((toString ((a.val * 100 + b.val * 10 + c.val : Nat) : Int) : Str) = ⟨#[48 + a.val, 48 + b.val, 48 + c.val]⟩ ↔ a.val ≠ 0) := by decide +kernel
theorem tabA : ∀ a : Fin 1000, amtF (toString (a.val : Int)) = some (a.val : Int) ∧ (toString (a.val : Int) : Str).length ≤ 3 ∧ ((toString (a.val : Int) : Str).cps.toList.all dig) = true ∧ 1 ≤ (toString (a.val : Int) : Str).length := by decide +kernel

theorem str3 {w : Str} {cs : List Nat} (h : w.cps.toList = cs) : w = ⟨cs.toArray⟩ := by
  rw [← h]
theorem dig_fin {a : Nat} (h : dig a = true) : ∃ f : Fin 10, a = 48 + f.val := by
  unfold dig at h
  simp only [Bool.and_eq_true, decide_eq_true_eq] at h
  exact ⟨⟨a - 48, by omega⟩, by show a = 48 + (a - 48); omega⟩
/-- words of figures: what they tell, and whether without noughts ahead -/
theorem amt_num {w : Str} (h : w.cps.toList.all dig = true) (h1 : 1 ≤ w.length) (h3 : w.length ≤ 3) : ∃ n : Int, PySem.intText? w = some n ∧ 0 ≤ n ∧ n ≤ 999 ∧ (amtF w = if (toString n : Str) = w then some n else none) ∧ ((toString n : Str) = w ↔ w.length = 1 ∨ w.cps.toList.head? ≠ some 48) := by
  have hl : w.length = w.cps.toList.length := TL.len_tl w
  unfold amtF
  rcases hcs : w.cps.toList with _ | ⟨a, _ | ⟨b, _ | ⟨c, _ | ⟨d, r⟩⟩⟩⟩
  · rw [hcs] at hl
    simp at hl
    omega
  · rw [hcs] at h hl
    simp only [List.all_cons, List.all_nil, Bool.and_true] at h
    obtain ⟨f, rfl⟩ := dig_fin h
    obtain ⟨t1, t2⟩ := tab1 f
    have e := str3 hcs
    refine ⟨f.val, by rw [e]; exact t1, by omega, by omega, ?_, ?_⟩
    · rw [if_pos (by rw [e]; exact t2)]
      show (if dig (48 + f.val) = true then some _ else none) = _
      rw [if_pos h]
      congr 1
      omega
    · exact ⟨fun _ => .inl hl, fun _ => by rw [e]; exact t2⟩
  · rw [hcs] at h hl
    simp only [List.all_cons, List.all_nil, Bool.and_true, Bool.and_eq_true] at h
    obtain ⟨f, rfl⟩ := dig_fin h.1
    obtain ⟨g, rfl⟩ := dig_fin h.2
    obtain ⟨t1, t2⟩ := tab2 f g
    have e := str3 hcs
    have two : (toString ((f.val * 10 + g.val : Nat) : Int) : Str) = w ↔ f.val ≠ 0 := by rw [e]; exact t2
    refine ⟨((f.val * 10 + g.val : Nat) : Int), by rw [e]; exact t1, by omega, by omega, ?_, ?_⟩
    · show (if (dig (48 + f.val) && dig (48 + g.val) && !decide (48 + f.val = 48)) = true then _ else none) = _
      by_cases z : f.val = 0
      · rw [if_neg (by simp [z]), if_neg (by rw [two]; omega)]
      · rw [if_pos (by rw [h.1, h.2]; simp; omega), if_pos (by rw [two]; omega)]
        congr 1
        omega
    · rw [two]
      have hl : w.length = 2 := hl
      simp only [List.head?_cons, ne_eq, Option.some.injEq]
      omega
  · rw [hcs] at h hl
    simp only [List.all_cons, List.all_nil, Bool.and_true, Bool.and_eq_true] at h
    obtain ⟨f, rfl⟩ := dig_fin h.1
    obtain ⟨g, rfl⟩ := dig_fin h.2.1
    obtain ⟨j, rfl⟩ := dig_fin h.2.2
    obtain ⟨t1, t2⟩ := tab3 f g j
    have e := str3 hcs
    have two : (toString ((f.val * 100 + g.val * 10 + j.val : Nat) : Int) : Str) = w ↔ f.val ≠ 0 := by rw [e]; exact t2
    refine ⟨((f.val * 100 + g.val * 10 + j.val : Nat) : Int), by rw [e]; exact t1, by omega, by omega, ?_, ?_⟩
    · show (if (dig (48 + f.val) && dig (48 + g.val) && dig (48 + j.val) && !decide (48 + f.val = 48)) = true then _ else none) = _
      by_cases z : f.val = 0
      · rw [if_neg (by simp [z]), if_neg (by rw [two]; omega)]
      · rw [if_pos (by rw [h.1, h.2.1, h.2.2]; simp; omega), if_pos (by rw [two]; omega)]
        congr 1
        omega
    · rw [two]
      have hl : w.length = 3 := hl
      simp only [List.head?_cons, ne_eq, Option.some.injEq]
      omega
  · rw [hcs] at hl
    simp only [List.length_cons] at hl
    omega
theorem amt_none {w : Str} (h : ¬ (w.cps.toList.all dig = true ∧ 1 ≤ w.length ∧ w.length ≤ 3)) : amtF w = none := by
  have hl : w.length = w.cps.toList.length := TL.len_tl w
  unfold amtF
  rcases hcs : w.cps.toList with _ | ⟨a, _ | ⟨b, _ | ⟨c, _ | ⟨d, r⟩⟩⟩⟩
  · rfl
  · rw [hcs] at h hl
    show (if dig a = true then _ else none) = _
    rw [if_neg fun z => h ⟨by simp [z], by rw [hl]; simp, by rw [hl]; simp⟩]
  · rw [hcs] at h hl
    show (if (dig a && dig b && !decide (a = 48)) = true then _ else none) = _
    rw [if_neg fun z => h ⟨by simp only [Bool.and_eq_true] at z; simp [z], by rw [hl]; simp, by rw [hl]; simp⟩]
  · rw [hcs] at h hl
    show (if (dig a && dig b && dig c && !decide (a = 48)) = true then _ else none) = _
    rw [if_neg fun z => h ⟨by simp only [Bool.and_eq_true] at z; simp [z], by rw [hl]; simp, by rw [hl]; simp⟩]
  · rfl
theorem amt_range {w : Str} {n : Int} (h : amtF w = some n) : 0 ≤ n ∧ n ≤ 999 ∧ PySem.intText? w = some n ∧ w.length ≤ 3 ∧ (toString n : Str) = w := by
  by_cases q : w.cps.toList.all dig = true ∧ 1 ≤ w.length ∧ w.length ≤ 3
  · obtain ⟨m, e1, e2, e3, e4, e5⟩ := amt_num q.1 q.2.1 q.2.2
    rw [h] at e4
    split at e4
    · rename_i e6
      cases e4
      exact ⟨e2, e3, e1, q.2.2, e6⟩
    · cases e4
  · rw [amt_none q] at h
    cases h
def figs : Str := "0123456789"
theorem figs_mem (c : Nat) : decide (c ∈ figs.cps.toList) = dig c := by
  have e : figs.cps.toList = (List.range 10).map (· + 48) := by decide +kernel
  unfold dig
  rw [← Bool.decide_and]
  congr 1
  rw [e, List.mem_map]
  refine propext ⟨?_, ?_⟩
  · rintro ⟨i, hi, rfl⟩
    have := List.mem_range.mp hi
    omega
  · rintro ⟨h1, h2⟩
    exact ⟨c - 48, List.mem_range.mpr (by omega), by omega⟩
theorem d_intS {w : Str} {n : Int} (h : PySem.intText? w = some n) (hl : w.length ≤ 640) : dInt (.str w) = some (.int n) := by
  show (if w.length ≤ 640 then (PySem.intText? w).map PyData.int else none) = _
  rw [if_pos hl, h]
  rfl
theorem d_strI {n : Int} (h : n.natAbs ≤ 1000000000000) : dStr (.int n) = some (.str (toString n)) := if_pos h
theorem comp_figs {w : Str} {ρ : Env} (h0 : ρ[0]? = some (some (.str w))) (hl : w.length ≤ 1000) (h2 : 1 < ρ.length) : eLc (iSeq (eVar 0)) (tgN 1) gYes (e2 (dIn false) (eVar 1) (eC (.str "0123456789"))) [1] ρ = .ok (.list ((w.cps.toList.map dig).map .bool)) := by
  have v0 : iSeq (eVar 0) ρ = .ok (signs w) := by
    unfold iSeq
    rw [p_var, h0]
    rfl
  rw [lc_map (ds := signs w) (fun d => match d with | .str t => .bool (dig (t.cps.toList.getD 0 0)) | _ => .none) v0 (by unfold signs; rw [List.length_map, ← TL.len_tl]; omega) fun d hd => ?_]
  · unfold signs
    rw [List.map_map, List.map_map]
    rfl
  · obtain ⟨c, hc, rfl⟩ := List.mem_map.mp hd
    refine ⟨_, rfl, e2_ok (x := .str ⟨#[c]⟩) ?_ rfl (sign_is.trans ?_)⟩
    · show (match ((ρ.set 1 none).set 1 (some (.str ⟨#[c]⟩)))[1]? with | some (some d) => Out.ok d | _ => .stuck) = _
      rw [List.getElem?_set_self (by rw [List.length_set]; exact h2)]
    · show some (PyData.bool (decide (c ∈ figs.cps.toList))) = some (PyData.bool (dig c))
      rw [figs_mem]

theorem amount_in_is (w : Str) (hw : w.length ≤ 1000000) : f_amount_in [.str w] = .ok (amtO (amtF w)) := by
  unfold f_amount_in
  rw [run_at (by rfl)]
  unfold g_amount_in
  show outD (sSeq _ _ [some (.str w), none]) = _
  have len : ∀ {b c : Bool}, decide ((1 : Int) ≤ w.length) = b → (b = true → decide ((w.length : Int) ≤ 3) = c) → eCh dLe dLe (eC (.int 1)) (eCl (f1 dLen) (aCons (eVar 0) aNil)) (eC (.int 3)) [some (.str w), none] = .ok (.bool (b && c)) := fun hb hc =>
    ch_b rfl (b1 rfl (len_str hw)) (d_le.trans (by rw [hb])) fun q => ⟨rfl, d_le.trans (by rw [hc q])⟩
  by_cases h1 : 1 ≤ w.length
  · by_cases h3 : w.length ≤ 3
    · have l := len (b := true) (c := true) (decide_eq_true (by omega)) fun _ => decide_eq_true (by omega)
      by_cases hd : w.cps.toList.all dig = true
      · obtain ⟨n, i1, i2, i3, i4, i5⟩ := amt_num hd h1 h3
        have di := d_intS i1 (by omega)
        have ds := d_strI (n := n) (by omega)
        have cmp : e2 dNe (eCl (f1 dStr) (aCons (eCl (f1 dInt) (aCons (eVar 0) aNil)) aNil)) (eVar 0) [some (.str w), none] = .ok (.bool (!decide ((toString n : Str) = w))) := e2_ok (b1 (b1 rfl di) ds) rfl d_neS
        have cp := b1 (comp_figs (w := w) (ρ := [some (.str w), none]) rfl (by omega) (by simp)) d_all
        rw [List.all_map, show ((id : Bool → Bool) ∘ dig) = dig from rfl, hd] at cp
        rw [i4]
        by_cases q : (toString n : Str) = w
        · rw [if_pos q]
          exact q_chk (or_no (nt_no (tv_ok l)) (or_no (nt_no (tv_ok cp)) (tv_ok (cmp.trans (by rw [decide_eq_true q]; rfl))))) (q_ret (b1 rfl di))
        · rw [if_neg q]
          exact q_hit (or_r (nt_no (tv_ok l)) (or_r (nt_no (tv_ok cp)) (tv_ok (cmp.trans (by rw [decide_eq_false q]; rfl))))) rfl
      · rw [amt_none fun z => hd z.1]
        have cp := b1 (comp_figs (w := w) (ρ := [some (.str w), none]) rfl (by omega) (by simp)) d_all
        have hd2 : w.cps.toList.all dig = false := by simpa using hd
        rw [List.all_map, show ((id : Bool → Bool) ∘ dig) = dig from rfl, hd2] at cp
        exact q_hit (or_r (nt_no (tv_ok l)) (or_l (nt_yes (tv_ok cp)))) rfl
    · rw [amt_none fun z => h3 z.2.2]
      exact q_hit (or_l (nt_yes (tv_ok (len (b := true) (c := false) (decide_eq_true (by omega)) fun _ => decide_eq_false (by omega))))) rfl
  · rw [amt_none fun z => h1 z.2.1]
    exact q_hit (or_l (nt_yes (tv_ok (len (b := false) (c := false) (decide_eq_false (by omega)) fun q => nomatch q)))) rfl


theorem cut_mid {α : Type} {xs : List α} {a b : Nat} (ha : a ≤ b) : cutD xs (some (a : Int)) (some (b : Int)) = (xs.take b).drop a := by
  unfold cutD
  rw [HT.sIx_nat, HT.sIx_nat, List.drop_take]
  by_cases h1 : a ≤ xs.length
  · rw [Nat.min_eq_left h1]
    by_cases h2 : b ≤ xs.length
    · rw [Nat.min_eq_left h2]
    · rw [Nat.min_eq_right (by omega), List.take_of_length_le (by rw [List.length_drop]; omega), List.take_of_length_le (by rw [List.length_drop]; omega)]
  · rw [Nat.min_eq_right (show xs.length ≤ a by omega), List.drop_of_length_le (Nat.le_refl _), List.drop_of_length_le (show xs.length ≤ a by omega)]
    simp
theorem cut_head {α : Type} (xs : List α) (b : Nat) : cutD xs none (some (b : Int)) = xs.take b := by
  unfold cutD
  rw [HT.sIx_nat, HT.sIx_none, List.drop_zero, Nat.sub_zero, List.take_eq_take_iff]
  omega
theorem cut_tail {α : Type} (xs : List α) (b : Nat) : cutD xs (some (b : Int)) none = xs.drop b := by
  by_cases h : b ≤ xs.length
  · exact cut_from h
  · unfold cutD
    rw [HT.sIx_nat, HT.sIx_none, Nat.min_eq_right (by omega), List.drop_length, List.drop_of_length_le (by omega)]
    exact List.take_nil

def inR (p : Pl) : Option Int → Bool
  | some n => decide (p.lo ≤ n) && decide (n ≤ p.hi)
  | none => false
def ap (L : List Str) (b : Bool) (s : Str) : List Str := L ++ if b = true then [s] else []
theorem ap_len (L : List Str) (b : Bool) (s : Str) : (ap L b s).length ≤ L.length + 1 := by
  unfold ap
  rw [List.length_append]
  split <;> simp
theorem ap_nil {L : List Str} {b : Bool} {s : Str} (h : ap L b s = []) : L = [] ∧ b = false := by
  unfold ap at h
  rw [List.append_eq_nil_iff] at h
  refine ⟨h.1, ?_⟩
  cases b with
  | false => rfl
  | true =>
    have h := h.2
    rw [if_pos rfl] at h
    cases h
def fltL (p : Pl) (k q a g : Str) : List Str := ap (ap (ap (ap [] (!nameB k) "key") (!decide (q = ("-" : Str)) && !nameB q) "parent") (!inR p (amtF a)) "amount") (!decide (g ∈ p.tags)) "tag"
def fltW (p : Pl) : List Str → List Str
  | [k, q, a, g] => if decide (("" : Str) ∈ [k, q, a, g]) = true then ["count"] else fltL p k q a g
  | _ => ["count"]
theorem fltW4 (p : Pl) (k q a g : Str) : fltW p [k, q, a, g] = if decide (("" : Str) ∈ [k, q, a, g]) = true then [("count" : Str)] else fltL p k q a g := rfl
def faultsF (p : Pl) (t : Str) : List Str := fltW p (wordsT t)
theorem q_app {i : Nat} {t : GT} {s : Str} {k : GS} {ρ : Env} {b : Bool} {L : List Str} {r : Out D} (e : t ρ = .ok b) (hi : ρ[i]? = some (some (.list (L.map .str)))) (hl : L.length < 1000000) (n : outD (k (ρ.set i (some (.list ((ap L b s).map .str))))) = r) :
    outD (sSeq (sIf t (sApp i (eC (.str s))) sNil) k ρ) = r := by
  unfold ap at n
  cases b with
  | true =>
    refine q_yes e ?_ n
    unfold sApp
    rw [hi]
    show (if (L.map PyData.str).length < 1000000 then _ else _) = _
    rw [if_pos (by rw [List.length_map]; exact hl), if_pos rfl, List.map_append]
    rfl
  | false =>
    rw [if_neg Bool.false_ne_true, List.append_nil] at n
    have : ρ.set i (some (.list (L.map .str))) = ρ := by
      obtain ⟨h, e⟩ := List.getElem?_eq_some_iff.mp hi
      rw [← e, List.set_getElem_self]
    rw [this] at n
    exact q_no e n
theorem pl_ix (p : Pl) : dIx p.d (.int 0) = some (.int p.lo) ∧ dIx p.d (.int 1) = some (.int p.hi) ∧ dIx p.d (.int 2) = some (.tuple (p.tags.map .str)) := ⟨rfl, rfl, rfl⟩
theorem ix4 {a b c d : D} : dIx (.list [a, b, c, d]) (.int 0) = some a ∧ dIx (.list [a, b, c, d]) (.int 1) = some b ∧ dIx (.list [a, b, c, d]) (.int 2) = some c ∧ dIx (.list [a, b, c, d]) (.int 3) = some d := ⟨rfl, rfl, rfl, rfl⟩
def parD (q : Str) : D := if q = ("-" : Str) then .none else .str q
def rowW : List Str → D
  | [k, q, a, g] => .tuple [.str k, parD q, .int ((amtF a).getD 0), .str g]
  | _ => .none
def rowD (t : Str) : D := rowW (wordsT t)
theorem flt_nil {p : Pl} {ws : List Str} (h : fltW p ws = []) : ∃ k q a g n, ws = [k, q, a, g] ∧ nameB k = true ∧ (q = ("-" : Str) ∨ nameB q = true) ∧ amtF a = some n ∧ p.lo ≤ n ∧ n ≤ p.hi ∧ g ∈ p.tags := by
  rcases ws with _ | ⟨k, _ | ⟨q, _ | ⟨a, _ | ⟨g, _ | ⟨x, r⟩⟩⟩⟩⟩
  · cases h
  · cases h
  · cases h
  · cases h
  · rw [fltW4] at h
    by_cases he : decide (("" : Str) ∈ [k, q, a, g]) = true
    · rw [if_pos he] at h
      cases h
    · rw [if_neg he] at h
      unfold fltL at h
      obtain ⟨h, h4⟩ := ap_nil h
      obtain ⟨h, h3⟩ := ap_nil h
      obtain ⟨h, h2⟩ := ap_nil h
      obtain ⟨_, h1⟩ := ap_nil h
      have h1 : nameB k = true := by simpa using h1
      have h2 : q = ("-" : Str) ∨ nameB q = true := by
        simp only [Bool.and_eq_false_iff, Bool.not_eq_false', decide_eq_true_eq] at h2
        exact h2
      have h3 : inR p (amtF a) = true := by simpa using h3
      have h4 : g ∈ p.tags := by simpa using h4
      cases hA : amtF a with
      | none => rw [hA] at h3; cases h3
      | some n =>
        rw [hA] at h3
        unfold inR at h3
        simp only [Bool.and_eq_true, decide_eq_true_eq] at h3
        exact ⟨k, q, a, g, n, rfl, h1, h2, hA, h3.1, h3.2, h4⟩
  · cases h
theorem rowD_ok {p : Pl} {t : Str} (h : faultsF p t = []) : RowOk p (rowD t) := by
  obtain ⟨k, q, a, g, n, e, h1, h2, h3, h4, h5, h6⟩ := flt_nil h
  unfold rowD
  rw [e]
  refine ⟨k, parD q, n, g, ?_, nameB_ok h1, ?_, h4, h5, h6⟩
  · show PyData.tuple [.str k, parD q, .int ((amtF a).getD 0), .str g] = _
    rw [h3]
    rfl
  · unfold parD
    rcases h2 with h2 | h2
    · rw [if_pos h2]
      exact .inl rfl
    · split
      · exact .inl rfl
      · exact .inr ⟨q, rfl, nameB_ok h2⟩

theorem faults_is {p : Pl} (t : Str) (ht : t.length ≤ 100000) : f_faults [p.d, .str t] = .ok (.tuple ((faultsF p t).map .str)) := by
  unfold f_faults
  rw [run_at (by rfl)]
  unfold g_faults
  show outD (sSeq _ _ [some p.d, some (.str t), none, none, none]) = _
  refine q_set (m1_ok rfl rfl (d_split (by omega))) ?_
  unfold faultsF
  have wl := fun w (h : w ∈ wordsT t) => word_len h
  have nl := words_len t
  generalize wordsT t = ws at wl nl
  have ln : ∀ {b : Bool}, (!decide (ws.length = 4)) = b → tV (e2 dNe (eCl (f1 dLen) (aCons (eVar 2) aNil)) (eC (.int 4))) [some p.d, some (.str t), some (.list (ws.map .str)), none, none] = .ok b := fun hb => tv_ok (e2_ok (b1 rfl rfl) rfl (d_neI.trans (by
    rw [← hb, List.length_map]
    have : decide ((ws.length : Int) = 4) = decide (ws.length = 4) := by
      congr 1
      exact propext (by omega)
    rw [this])))
  have bad : ws.length ≠ 4 → fltW p ws = [("count" : Str)] := fun h => by
    rcases ws with _ | ⟨k, _ | ⟨q, _ | ⟨a, _ | ⟨g, _ | ⟨x, r⟩⟩⟩⟩⟩ <;> first | rfl | exact absurd rfl h
  by_cases h4 : ws.length = 4
  · obtain ⟨k, q, a, g, rfl⟩ : ∃ k q a g, ws = [k, q, a, g] := by
      rcases ws with _ | ⟨k, _ | ⟨q, _ | ⟨a, _ | ⟨g, _ | ⟨x, r⟩⟩⟩⟩⟩
      · cases h4
      · cases h4
      · cases h4
      · cases h4
      · exact ⟨k, q, a, g, rfl⟩
      · simp at h4
    have em := (str_in (x := ("" : Str)) (ss := [k, q, a, g]) false).1
    rw [Bool.false_xor] at em
    by_cases he : ("" : Str) ∈ [k, q, a, g]
    · rw [fltW4, if_pos (decide_eq_true he)]
      exact q_hit (or_r (ln (by rw [decide_eq_true h4]; rfl)) (tv_ok (e2_ok rfl rfl (em.trans (by rw [decide_eq_true he]))))) rfl
    · rw [fltW4, if_neg (by rw [decide_eq_false he]; exact Bool.false_ne_true)]
      have fl2 : (ap (ap ([] : List Str) (!nameB k) "key") (!decide (q = ("-" : Str)) && !nameB q) "parent").length ≤ 2 := Nat.le_trans (ap_len _ _ _) (Nat.succ_le_succ (ap_len _ _ _))
      have fl3 : (ap (ap (ap ([] : List Str) (!nameB k) "key") (!decide (q = ("-" : Str)) && !nameB q) "parent") (!inR p (amtF a)) "amount").length ≤ 3 := Nat.le_trans (ap_len _ _ _) (Nat.succ_le_succ fl2)
      have fl4 : (fltL p k q a g).length ≤ 4 := Nat.le_trans (ap_len _ _ _) (Nat.succ_le_succ fl3)
      have lk := wl k (by simp)
      have lq := wl q (by simp)
      have la := wl a (by simp)
      refine q_chk (or_no (ln (by rw [decide_eq_true h4]; rfl)) (tv_ok (e2_ok rfl rfl (em.trans (by rw [decide_eq_false he]))))) (q_own (d := .list (([] : List Str).map .str)) rfl rfl (q_set (c1 (e2_ok rfl rfl ix4.2.2.1) (amount_in_is a (by omega))) ?_))
      refine q_app (L := []) (nt_ok (tv_ok (c1 (e2_ok rfl rfl ix4.1) (is_name_str k (by omega))))) rfl (by decide) ?_
      refine q_app (L := _) (b := !decide (q = ("-" : Str)) && !nameB q) (and_b (tv_ok (e2_ok (e2_ok rfl rfl ix4.2.1) rfl d_neS)) fun _ => nt_ok (tv_ok (c1 (e2_ok rfl rfl ix4.2.1) (is_name_str q (by omega))))) rfl (Nat.lt_of_le_of_lt (ap_len _ _ _) (by decide)) ?_
      refine q_app (L := _) (b := !inR p (amtF a)) ?_ rfl (by have l := fl2; omega) ?_
      · cases hA : amtF a with
        | none => exact or_l (tv_ok rfl)
        | some n => exact or_r (tv_ok rfl) (nt_ok (tv_ok (ch_b (e2_ok rfl rfl (pl_ix p).1) rfl d_le fun _ => ⟨e2_ok rfl rfl (pl_ix p).2.1, d_le⟩)))
      refine q_app (L := _) (b := !decide (g ∈ p.tags)) ?_ rfl (by have l := fl3; omega) ?_
      · refine tv_ok (e2_ok (e2_ok rfl rfl ix4.2.2.2) (e2_ok rfl rfl (pl_ix p).2.2) ((str_in true).2.trans ?_))
        rw [Bool.true_xor]
      exact q_ret (b1 rfl (d_tuple (by rw [List.length_map]; exact Nat.le_trans fl4 (by decide))))
  · rw [bad h4]
    exact q_hit (or_l (ln (by rw [decide_eq_false h4]; rfl))) rfl
theorem row_of_is {p : Pl} (t : Str) (ht : t.length ≤ 100000) : f_row_of [p.d, .str t] = if (faultsF p t).isEmpty = true then .ok (rowD t) else .err 1 := by
  unfold f_row_of
  rw [run_at (by rfl)]
  unfold g_row_of
  show outD (sSeq _ _ [some p.d, some (.str t), none, none, none, none]) = _
  have ev : tV (e2 dGt (eCl (f1 dLen) (aCons (eCall f_faults (aCons (eVar 0) (aCons (eVar 1) aNil))) aNil)) (eC (.int 0))) [some p.d, some (.str t), none, none, none, none] = .ok (decide ((0 : Int) < ((faultsF p t).map PyData.str).length)) := tv_ok (e2_ok (b1 (c2 rfl rfl (faults_is t ht)) rfl) rfl d_gt)
  cases hF : faultsF p t with
  | cons f fs =>
    rw [hF] at ev
    rw [decide_eq_true (by simp)] at ev
    exact q_rai ev
  | nil =>
    rw [hF] at ev
    rw [decide_eq_false (by simp)] at ev
    obtain ⟨k, q, a, g, n, e, h1, h2, h3, h4, h5, h6⟩ := flt_nil hF
    obtain ⟨r1, r2, r3, r4, r5⟩ := amt_range h3
    have di := d_intS r3 (by omega)
    refine q_no ev (q_tg (m1_ok rfl rfl (d_split (by omega))) (ρ2 := [some p.d, some (.str t), some (.str k), some (.str q), some (.str a), some (.str g)]) (by rw [e]; rfl) ?_)
    unfold rowD
    rw [e]
    show _ = Out.ok (PyData.tuple [.str k, parD q, .int ((amtF a).getD 0), .str g])
    rw [h3]
    unfold parD
    by_cases z : q = ("-" : Str)
    · rw [if_pos z]
      exact q_hit (tv_ok (e2_ok rfl rfl (d_eqS.trans (by rw [decide_eq_true z])))) (t4 rfl rfl (b1 rfl di) rfl)
    · rw [if_neg z]
      exact q_no (tv_ok (e2_ok rfl rfl (d_eqS.trans (by rw [decide_eq_false z])))) (q_ret (t4 rfl rfl (b1 rfl di) rfl))


theorem s_add {a b : Str} : dAdd (.str a) (.str b) = if a.length + b.length ≤ 1000000 then some (.str (a ++ b)) else none := by
  show (none : Option D).or ((dAddS (.str a) (.str b)).or _) = _
  unfold dAddS
  dsimp only
  split <;> rfl
theorem s_add' {a b : Str} (h : a.length + b.length ≤ 1000000) : dAdd (.str a) (.str b) = some (.str (a ++ b)) := s_add.trans (if_pos h)
theorem l_add {a b : List D} (h : a.length + b.length ≤ 1000) : dAdd (.list a) (.list b) = some (.list (a ++ b)) := by
  show (none : Option D).or ((none : Option D).or ((dAddL (.list a) (.list b)).or _)) = _
  have : dAddL (.list a) (.list b) = some (.list (a ++ b)) := by
    unfold dAddL
    simp
    try omega
  rw [this]
  rfl
/-- the text of a row's parts -/
def parS (q : D) : Str := match q with
  | .str s => s
  | _ => "-"
def textW (k : Str) (q : D) (a : Int) (g : Str) : List Str := [k, parS q, (toString a : Str), g]
def textD : D → Str
  | .tuple [.str k, q, .int a, .str g] => joinT (textW k q a g)
  | _ => ""
theorem join4 (k q a g : Str) : joinT [k, q, a, g] = k ++ sp ++ q ++ sp ++ a ++ sp ++ g := by
  unfold joinT
  rw [TL.join_eq]
  refine TL.ext_tl ?_
  simp only [Str.join, TL.tl_append, List.append_assoc]
theorem len_app (a b : Str) : (a ++ b).length = a.length + b.length := by
  rw [TL.len_tl, TL.tl_append, List.length_append, ← TL.len_tl, ← TL.len_tl]
theorem amt_str {a : Int} (h : 0 ≤ a) (h9 : a ≤ 999) : amtF (toString a : Str) = some a ∧ (toString a : Str).length ≤ 3 ∧ (toString a : Str).cps.toList.all dig = true ∧ 1 ≤ (toString a : Str).length := by
  have z := tabA ⟨a.toNat, by omega⟩
  have e : ((⟨a.toNat, by omega⟩ : Fin 1000).val : Int) = a := by show ((a.toNat : Nat) : Int) = a; omega
  rw [e] at z
  exact z
theorem name_free {s : Str} (h : NameOk s) : ¬ 32 ∈ s.cps.toList := fun z => by have := h.2.2 32 z; omega
theorem name_ne {s : Str} (h : NameOk s) : s ≠ "" := fun z => by
  have := h.1
  rw [z] at this
  exact absurd this (by decide)
theorem dig_free {s : Str} (h : s.cps.toList.all dig = true) : ¬ 32 ∈ s.cps.toList := fun z => by
  have := List.all_eq_true.mp h 32 z
  exact absurd this (by decide)
theorem row_words {p : Pl} (hp : PlOk p) {k : Str} {q : D} {a : Int} {g : Str} (h1 : NameOk k) (h2 : q = .none ∨ ∃ s, q = .str s ∧ NameOk s) (h3 : p.lo ≤ a) (h4 : a ≤ p.hi) (h5 : g ∈ p.tags) :
    (∀ w ∈ textW k q a g, ¬ 32 ∈ w.cps.toList ∧ w ≠ "") ∧ wordsT (joinT (textW k q a g)) = textW k q a g ∧ (joinT (textW k q a g)).length ≤ 21 ∧ fltW p (textW k q a g) = [] := by
  obtain ⟨a1, a2, a3, a4⟩ := amt_str (a := a) (by have := hp.lo0; omega) (by have := hp.hi9; omega)
  have hg := hp.nam g h5
  have hq : ¬ 32 ∈ (parS q).cps.toList ∧ parS q ≠ "" ∧ (parS q).length ≤ 5 ∧ (parS q = ("-" : Str) ∨ nameB (parS q) = true) := by
    rcases h2 with rfl | ⟨s, rfl, hs⟩
    · exact ⟨by decide +kernel, by decide +kernel, by decide +kernel, .inl rfl⟩
    · exact ⟨name_free hs, name_ne hs, hs.2.1, .inr (nameB_iff.mpr hs)⟩
  have fr : ∀ w ∈ textW k q a g, ¬ 32 ∈ w.cps.toList ∧ w ≠ "" := fun w hw => by
    unfold textW at hw
    simp only [List.mem_cons, List.not_mem_nil, or_false] at hw
    rcases hw with rfl | rfl | rfl | rfl
    · exact ⟨name_free h1, name_ne h1⟩
    · exact ⟨hq.1, hq.2.1⟩
    · exact ⟨dig_free a3, fun z => by rw [z] at a4; exact absurd a4 (by decide)⟩
    · exact ⟨name_free hg, name_ne hg⟩
  refine ⟨fr, join_words (by unfold textW; simp) fun w hw => (fr w hw).1, ?_, ?_⟩
  · unfold textW
    rw [join_len]
    simp only [sum_cons, List.length_cons, List.length_nil]
    have := h1.2.1
    have := hg.2.1
    have := hq.2.2.1
    have : sumL [] = 0 := rfl
    omega
  · unfold textW
    have ne : ¬ ("" : Str) ∈ [k, parS q, (toString a : Str), g] := fun z => (fr "" z).2 rfl
    rw [fltW4, if_neg (by rw [decide_eq_false ne]; exact Bool.false_ne_true)]
    unfold fltL
    rw [nameB_iff.mpr h1, a1, decide_eq_true h5]
    have e1 : (!decide (parS q = ("-" : Str)) && !nameB (parS q)) = false := by
      rcases hq.2.2.2 with z | z
      · rw [decide_eq_true z]; rfl
      · rw [z]; simp
    have e2 : inR p (some a) = true := by
      show (decide (p.lo ≤ a) && decide (a ≤ p.hi)) = true
      rw [decide_eq_true h3, decide_eq_true h4]
      rfl
    rw [e1, e2]
    rfl
theorem RowOk.text {p : Pl} (hp : PlOk p) {r : D} (h : RowOk p r) : faultsF p (textD r) = [] ∧ rowD (textD r) = r ∧ (textD r).length ≤ 21 ∧ ∀ c ∈ (textD r).cps.toList, c ≠ 10 := by
  obtain ⟨k, q, a, g, rfl, h1, h2, h3, h4, h5⟩ := h
  obtain ⟨w1, w2, w3, w4⟩ := row_words hp h1 h2 h3 h4 h5
  obtain ⟨a1, a2, a3, a4⟩ := amt_str (a := a) (by have := hp.lo0; omega) (by have := hp.hi9; omega)
  refine ⟨?_, ?_, w3, fun c hc z => ?_⟩
  · show fltW p (wordsT (joinT (textW k q a g))) = []
    rw [w2]
    exact w4
  · show rowW (wordsT (joinT (textW k q a g))) = _
    rw [w2]
    show PyData.tuple [.str k, parD (parS q), .int ((amtF (toString a : Str)).getD 0), .str g] = _
    rw [a1]
    rcases h2 with rfl | ⟨s, rfl, hs⟩
    · rfl
    · have : s ≠ ("-" : Str) := fun z => by
        have := hs.2.2 45 (by rw [z]; decide +kernel)
        omega
      show PyData.tuple [.str k, parD s, .int a, .str g] = _
      unfold parD
      rw [if_neg this]
  · rcases join_mem hc with e | ⟨w, hw, e⟩
    · omega
    · subst z
      unfold textW at hw
      simp only [List.mem_cons, List.not_mem_nil, or_false] at hw
      rcases hw with q1 | q1 | q1 | q1 <;> rw [q1] at e
      · have := h1.2.2 10 e; omega
      · rcases h2 with rfl | ⟨s, rfl, hs⟩
        · exact absurd e (by decide +kernel)
        · have := hs.2.2 10 e; omega
      · exact absurd (List.all_eq_true.mp a3 10 e) (by decide)
      · have := (hp.nam g h5).2.2 10 e; omega

theorem law_text_is {p : Pl} (hp : PlOk p) {r : D} (h : RowOk p r) : f__law_text [r] = .ok (.str (textD r)) := by
  have hl := (h.text hp).2.2.1
  obtain ⟨k, q, a, g, rfl, h1, h2, h3, h4, h5⟩ := h
  unfold f__law_text
  rw [run_at (by rfl)]
  unfold g__law_text
  show outD (sSeq _ _ [some (.tuple [.str k, q, .int a, .str g]), none]) = _
  have ds : dStr (.int a) = some (.str (toString a)) := d_strI (by have := hp.lo0; have := hp.hi9; omega)
  have hl : (joinT (textW k q a g)).length ≤ 21 := hl
  unfold textW at hl
  rw [join4] at hl
  simp only [len_app] at hl
  have key : outD (k__law_text_3 [some (.tuple [.str k, q, .int a, .str g]), some (.str (parS q))]) = .ok (.str (joinT (textW k q a g))) := by
    unfold textW
    rw [join4]
    refine q_ret (e2_ok (e2_ok (e2_ok (e2_ok (e2_ok (e2_ok rfl rfl (s_add' ?_)) rfl (s_add' ?_)) rfl (s_add' ?_)) (b1 rfl ds) (s_add' ?_)) rfl (s_add' ?_)) rfl (s_add' ?_))
    all_goals
      try simp only [len_app]
      have e : sp.length = (" " : Str).length := rfl
      omega
  refine q_set (d := q) rfl ?_
  rcases h2 with rfl | ⟨s, rfl, hs⟩
  · exact q_yes (tv_ok rfl) rfl key
  · exact q_no (tv_ok rfl) key

def someW : List Str := ["-", "a", "0", "07", "1000", "999", "sixsix", "A", "", "-1", "a b", "ok"]
theorem some_ok : ∀ i, i < 12 → (someW.getD i "").length ≤ 6 ∧ (someW.getD i "").cps.toList.all (fun c => decide (c ≠ 10)) = true := by decide +kernel
/-- texts of at most so many signs, no row end among them -/
def TxOk (n : Nat) (t : Str) : Prop := t.length ≤ n ∧ ∀ c ∈ t.cps.toList, c ≠ 10
theorem cutS_len (t : Str) (lo hi : Option Int) : (cutS t lo hi).length ≤ t.length := by
  unfold cutS
  show (Array.size _) ≤ _
  rw [List.size_toArray, List.length_take, List.length_drop, TL.len_tl]
  show _ ≤ t.cps.toList.length
  omega
theorem cutS_mem {t : Str} {lo hi : Option Int} {c : Nat} (h : c ∈ (cutS t lo hi).cps.toList) : c ∈ t.cps.toList := by
  unfold cutS at h
  exact List.mem_of_mem_drop (List.mem_of_mem_take h)
theorem q_push {i : Nat} {g : GE} {k : GS} {ρ : Env} {d : D} {L : List D} {r : Out D} (hi : ρ[i]? = some (some (.list L))) (e : g ρ = .ok d) (hl : L.length < 1000000) (n : outD (k (ρ.set i (some (.list (L ++ [d]))))) = r) : outD (sSeq (sApp i g) k ρ) = r := by
  refine q_nx ?_ n
  unfold sApp
  rw [hi]
  dsimp only
  rw [e, okb, if_pos hl]
theorem slL {g : GE} {lo hi : GO} {ρ : Env} {L : List D} {a b : Option Int} (e : g ρ = .ok (.list L)) (h1 : lo ρ = .ok a) (h2 : hi ρ = .ok b) : eSl g lo hi ρ = .ok (.list (cutD L a b)) := by
  unfold eSl
  rw [e, okb, h1, okb, h2]
  rfl
theorem slT {g : GE} {lo hi : GO} {ρ : Env} {L : List D} {a b : Option Int} (e : g ρ = .ok (.tuple L)) (h1 : lo ρ = .ok a) (h2 : hi ρ = .ok b) : eSl g lo hi ρ = .ok (.tuple (cutD L a b)) := by
  unfold eSl
  rw [e, okb, h1, okb, h2]
  rfl
theorem slS {g : GE} {lo hi : GO} {ρ : Env} {s : Str} {a b : Option Int} (e : g ρ = .ok (.str s)) (h1 : lo ρ = .ok a) (h2 : hi ρ = .ok b) (hs : s.length ≤ 1000000) : eSl g lo hi ρ = .ok (.str (cutS s a b)) := by
  unfold eSl
  rw [e, okb, h1, okb, h2]
  show lift (if s.length ≤ 1000000 then some (PyData.str (cutS s a b)) else none) = _
  rw [if_pos hs]
  rfl
theorem oi_ok {g : GE} {ρ : Env} {i : Int} (e : g ρ = .ok (.int i)) : oI g ρ = .ok (some i) := by
  unfold oI
  rw [e]
  rfl
theorem slA {ga gb : GE} {ρ : Env} {A B : List Str} (e : ga ρ = .ok (.list (A.map .str))) (e' : gb ρ = .ok (.list (B.map .str))) (h : A.length + B.length ≤ 1000) : e2 dAdd ga gb ρ = .ok (.list ((A ++ B).map .str)) := by
  rw [List.map_append]
  exact e2_ok e e' (l_add (by rw [List.length_map, List.length_map]; exact h))
theorem lst1 {g : GE} {ρ : Env} {x : Str} (h : g ρ = .ok (.str x)) : eLst (aCons g aNil) ρ = .ok (.list (([x] : List Str).map .str)) := by
  rw [p_lst, p_acons, h]
  rfl

theorem spoilt_is {n : Nat} {t : Str} (ht : TxOk n t) (hn : n ≤ 400) (m : Int) : ∃ t', f__law_spoilt_text [.str t, .int m] = .ok (.str t') ∧ TxOk (2 * n + 10) t' := by
  unfold f__law_spoilt_text
  rw [run_at (by rfl)]
  unfold g__law_spoilt_text
  show ∃ t', outD (sSeq _ _ [some (.str t), some (.int m), none, none, none, none]) = _ ∧ _
  have hw : ∀ w ∈ wordsT t, w.length ≤ n ∧ ∀ c ∈ w.cps.toList, c ≠ 10 := fun w hw => ⟨Nat.le_trans (word_len hw) ht.1, fun c hc => ht.2 c (word_mem hw hc)⟩
  have hlen := words_len t
  have hpos := words_pos t
  have htl := ht.1
  have d8 : dDiv (.int m) (.int 8) = some (.int (m / 8)) := d_div (by decide)
  have split := d_split (t := t) (by omega)
  generalize wordsT t = ws at *
  have lm : (((ws.map PyData.str).length : Nat) : Int) = (ws.length : Nat) := by rw [List.length_map]
  have dm : dMod (.int (m / 8)) (.int ((ws.map PyData.str).length : Nat)) = some (.int (m / 8 % ((ws.map PyData.str).length : Nat))) := d_mod (by omega)
  have x0 : 0 ≤ m / 8 % (((ws.map PyData.str).length : Nat) : Int) := Int.emod_nonneg _ (by omega)
  have x1 : m / 8 % (((ws.map PyData.str).length : Nat) : Int) < ((ws.map PyData.str).length : Nat) := Int.emod_lt_of_pos _ (by omega)
  generalize hM : m / 8 % (((ws.map PyData.str).length : Nat) : Int) = M at dm x0 x1
  obtain ⟨b, rfl⟩ : ∃ b : Nat, M = b := ⟨M.toNat, by omega⟩
  have hb : b < ws.length := by omega
  have ix : dIx (.list (ws.map .str)) (.int (b : Int)) = some (.str ws[b]) := by
    rw [d_ixL, atI_pos (by omega) (by rw [List.length_map]; omega), List.getElem?_map]
    show (ws[b]?).map _ = _
    rw [List.getElem?_eq_getElem hb]
    rfl
  obtain ⟨hwb1, hwb2⟩ := hw ws[b] (List.getElem_mem hb)
  have d256 : dDiv (.int m) (.int 256) = some (.int (m / 256)) := d_div (by decide)
  have m12 : dMod (.int (m / 256)) (.int 12) = some (.int (m / 256 % 12)) := d_mod (by decide)
  have y0 : 0 ≤ m / 256 % 12 := Int.emod_nonneg _ (by decide)
  have y1 : m / 256 % 12 < 12 := Int.emod_lt_of_pos _ (by decide)
  generalize m / 256 % 12 = J at m12 y0 y1
  have iy : dIx (.list (someW.map .str)) (.int J) = some (.str (someW.getD J.toNat "")) := by
    have hj : J.toNat < someW.length := by show _ < 12; omega
    rw [d_ixL, atI_pos y0 (by rw [List.length_map]; show J < 12; omega), List.getElem?_map, List.getElem?_eq_getElem hj, List.getD_eq_getElem?_getD, List.getElem?_eq_getElem hj]
    rfl
  obtain ⟨s1, s2⟩ := some_ok J.toNat (by omega)
  generalize someW.getD J.toNat "" = sw at iy s1 s2
  have m6 : dMod (.int m) (.int 6) = some (.int (m % 6)) := d_mod (by decide)
  have z0 : 0 ≤ m % 6 := Int.emod_nonneg _ (by decide)
  have z1 : m % 6 < 6 := Int.emod_lt_of_pos _ (by decide)
  -- the pieces
  have c1 : cutD (ws.map PyData.str) none (some (b : Int)) = (ws.take b).map .str := by rw [cut_to (by rw [List.length_map]; omega), List.map_take]
  have c2 : cutD (ws.map PyData.str) (some ((b : Int) + 1)) none = (ws.drop (b + 1)).map .str := by
    have := cut_from (xs := ws.map PyData.str) (b := b + 1) (by rw [List.length_map]; omega)
    rw [← List.map_drop] at this
    exact this
  have c3 : cutD (ws.map PyData.str) (some (b : Int)) none = (ws.drop b).map .str := by rw [cut_from (by rw [List.length_map]; omega), List.map_drop]
  have c4 : ∃ l : List Str, cutD (ws.map PyData.str) (some (b : Int)) (some ((b : Int) + 1)) = l.map .str ∧ l.Sublist ws ∧ l.length ≤ 1 ∧ sumL l ≤ n := by
    refine ⟨(ws.take (b + 1)).drop b, ?_, (List.drop_sublist _ _).trans (List.take_sublist _ _), by rw [List.length_drop, List.length_take]; omega, ?_⟩
    · have := cut_mid (xs := ws.map PyData.str) (a := b) (b := b + 1) (by omega)
      rw [← List.map_take, ← List.map_drop] at this
      exact this
    · have := sum_sub ((List.drop_sublist b (ws.take (b + 1))).trans (List.take_sublist (b + 1) ws))
      omega
  obtain ⟨l, c4, l1, l2, l3⟩ := c4
  have tk := sum_sub (List.take_sublist b ws)
  have dk := sum_sub (List.drop_sublist (b + 1) ws)
  have dk2 := sum_sub (List.drop_sublist b ws)
  have tk_dk : sumL (ws.take b) + sumL (ws.drop b) = sumL ws := by rw [← sum_append, List.take_append_drop]
  -- all six
  let cand : List (List Str) := [ws.take b ++ ws.drop (b + 1), ws.take b ++ l ++ ws.drop b, ws.take b ++ [sw] ++ ws.drop (b + 1), ws.take b ++ [cutS ws[b] none (some (-1))] ++ ws.drop (b + 1), ws.take b ++ [ws[b] ++ ("0" : Str)] ++ ws.drop (b + 1), ws.reverse]
  have nlw : ws.length ≤ n + 1 := by omega
  have good : ∀ L ∈ cand, sumL L + L.length ≤ 2 * n + 10 ∧ ∀ w ∈ L, ∀ c ∈ w.cps.toList, c ≠ 10 := fun L hL => by
    have sb : ∀ w ∈ ws.take b, ∀ c ∈ w.cps.toList, c ≠ 10 := fun w h => (hw w (List.mem_of_mem_take h)).2
    have sd : ∀ w ∈ ws.drop (b + 1), ∀ c ∈ w.cps.toList, c ≠ 10 := fun w h => (hw w (List.mem_of_mem_drop h)).2
    have sd2 : ∀ w ∈ ws.drop b, ∀ c ∈ w.cps.toList, c ≠ 10 := fun w h => (hw w (List.mem_of_mem_drop h)).2
    have mid : ∀ x : Str, x.length ≤ n + 6 → (∀ c ∈ x.cps.toList, c ≠ 10) → sumL (ws.take b ++ [x] ++ ws.drop (b + 1)) + (ws.take b ++ [x] ++ ws.drop (b + 1)).length ≤ 2 * n + 10 ∧ ∀ w ∈ ws.take b ++ [x] ++ ws.drop (b + 1), ∀ c ∈ w.cps.toList, c ≠ 10 := fun x hx hc => by
      refine ⟨?_, fun w h => ?_⟩
      · rw [sum_append, sum_append, sum_cons, List.length_append, List.length_append, List.length_take, List.length_drop, List.length_singleton]
        have : sumL [] = 0 := rfl
        have h1 : sumL (ws.drop (b + 1)) ≤ sumL (ws.drop b) := by
          have := sum_sub (List.drop_sublist_drop_left ws (show b ≤ b + 1 by omega))
          exact this
        omega
      · rcases List.mem_append.mp h with h | h
        · rcases List.mem_append.mp h with h | h
          · exact sb w h
          · rw [List.mem_singleton] at h
            subst h
            exact hc
        · exact sd w h
    simp only [cand, List.mem_cons, List.not_mem_nil, or_false] at hL
    rcases hL with rfl | rfl | rfl | rfl | rfl | rfl
    · refine ⟨?_, fun w h => (List.mem_append.mp h).elim (sb w) (sd w)⟩
      rw [sum_append, List.length_append, List.length_take, List.length_drop]
      have h1 : sumL (ws.drop (b + 1)) ≤ sumL (ws.drop b) := sum_sub (List.drop_sublist_drop_left ws (show b ≤ b + 1 by omega))
      omega
    · refine ⟨?_, fun w h => ?_⟩
      · rw [sum_append, sum_append, List.length_append, List.length_append, List.length_take, List.length_drop]
        omega
      · rcases List.mem_append.mp h with h | h
        · rcases List.mem_append.mp h with h | h
          · exact sb w h
          · exact (hw w (l1.subset h)).2
        · exact sd2 w h
    · exact mid sw (by omega) fun c hc => by simpa using List.all_eq_true.mp s2 c hc
    · exact mid _ (Nat.le_trans (cutS_len _ _ _) (by omega)) fun c hc => hwb2 c (cutS_mem hc)
    · refine mid _ (by rw [len_app]; have : ("0" : Str).length = 1 := rfl; omega) fun c hc => ?_
      have hc : c ∈ TL.tl (ws[b] ++ ("0" : Str)) := hc
      rw [TL.tl_append, List.mem_append] at hc
      rcases hc with hc | hc
      · exact hwb2 c hc
      · have : TL.tl ("0" : Str) = [48] := rfl
        rw [this, List.mem_singleton] at hc
        omega
    · refine ⟨?_, fun w h => (hw w (List.mem_reverse.mp h)).2⟩
      rw [sum_rev, List.length_reverse]
      omega
  obtain ⟨L, hL, eL⟩ : ∃ L ∈ cand, atI (cand.map fun L => PyData.list (L.map .str)) (m % 6) = some (.list (L.map .str)) := by
    have hi : (m % 6).toNat < cand.length := by show _ < 6; omega
    refine ⟨cand[(m % 6).toNat], List.getElem_mem hi, ?_⟩
    rw [atI_pos z0 (by rw [List.length_map]; show m % 6 < 6; omega), List.getElem?_map, List.getElem?_eq_getElem hi]
    rfl
  obtain ⟨g1, g2⟩ := good L hL
  have up1 : ∀ {ρ : Env} , eVar 3 ρ = .ok (.int (b : Int)) → oI (e2 dAdd (eVar 3) (eC (.int 1))) ρ = .ok (some ((b : Int) + 1)) := fun h => oi_ok (e2_ok h rfl rfl)
  have hne : sumL L + L.length ≤ 1000000 := by omega
  refine ⟨joinT L, q_set (m1_ok rfl rfl split) (q_set (e2_ok (e2_ok rfl rfl d8) (b1 rfl rfl) dm) (q_set (d := .list (someW.map .str)) rfl (q_own (d := .list [.list ((ws.take b ++ ws.drop (b + 1)).map .str), .list ((ws.take b ++ l ++ ws.drop b).map .str)]) ?_ rfl ?_))), ?_, fun c hc => ?_⟩
  · show (eLst _ [some (.str t), some (.int m), some (.list (ws.map .str)), some (.int (b : Int)), some (.list (someW.map .str)), none]) = _
    rw [p_lst, p_acons, slA (A := ws.take b) (B := ws.drop (b + 1)) ((slL rfl rfl (oi_ok rfl)).trans (by rw [c1])) ((slL rfl (up1 rfl) rfl).trans (by rw [c2])) (by rw [List.length_take, List.length_drop]; omega), okb, p_acons,
      slA (A := ws.take b ++ l) (B := ws.drop b) (slA (A := ws.take b) (B := l) ((slL rfl rfl (oi_ok rfl)).trans (by rw [c1])) ((slL rfl (oi_ok rfl) (up1 rfl)).trans (by rw [c4])) (by rw [List.length_take]; omega)) ((slL rfl (oi_ok rfl) rfl).trans (by rw [c3])) (by rw [List.length_append, List.length_take, List.length_drop]; omega)]
    rfl
  · have mids : ∀ {g : GE} {ρ : Env} {x : Str}, g ρ = .ok (.str x) → eVar 2 ρ = .ok (.list (ws.map .str)) → eVar 3 ρ = .ok (.int (b : Int)) → e2 dAdd (e2 dAdd (eSl (eVar 2) oNo (oI (eVar 3))) (eLst (aCons g aNil))) (eSl (eVar 2) (oI (e2 dAdd (eVar 3) (eC (.int 1)))) oNo) ρ = .ok (.list ((ws.take b ++ [x] ++ ws.drop (b + 1)).map .str)) := fun {g ρ x} hg h2 h3 =>
      slA (slA ((slL h2 rfl (oi_ok h3)).trans (by rw [c1])) (lst1 hg) (by rw [List.length_take, List.length_singleton]; omega)) ((slL h2 (up1 h3) rfl).trans (by rw [c2])) (by rw [List.length_append, List.length_take, List.length_drop, List.length_singleton]; omega)
    refine q_push (L := _) rfl (mids (x := sw) (e2_ok rfl (e2_ok (e2_ok rfl rfl d256) rfl m12) iy) rfl rfl) (by simp) ?_
    refine q_push (L := _) rfl (mids (x := cutS ws[b] none (some (-1))) (slS (e2_ok rfl rfl ix) rfl (oi_ok (e1_ok rfl rfl)) (by omega)) rfl rfl) (by simp) ?_
    refine q_push (L := _) rfl (mids (x := ws[b] ++ ("0" : Str)) (e2_ok (e2_ok rfl rfl ix) rfl (s_add' (by have : ("0" : Str).length = 1 := rfl; omega))) rfl rfl) (by simp) ?_
    refine q_push (L := _) rfl (e1_ok (y := .list (ws.reverse.map .str)) rfl (by rw [List.map_reverse]; rfl)) (by simp) ?_
    refine q_ret (m1_ok rfl (e2_ok rfl (e2_ok rfl rfl m6) (d_ixL.trans eL)) (d_join hne))
  · by_cases h : L = []
    · subst h
      exact Nat.zero_le _
    · have := join_len1 h
      omega
  · rcases join_mem hc with e | ⟨w, hw, e⟩
    · omega
    · exact g2 w hw c e


theorem nbStrT (ks : List Str) : NB 1 (.tuple (ks.map .str)) := by
  simp only [NB]
  intro d hd
  obtain ⟨k, _, rfl⟩ := List.mem_map.mp hd
  simp [NB]
theorem TxOk.mono {n m : Nat} {t : Str} (h : TxOk n t) (l : n ≤ m) : TxOk m t := ⟨Nat.le_trans h.1 l, h.2⟩
theorem fl_nilS (L : List Str) : dEq (.tuple (L.map .str)) (.tuple []) = some (.bool L.isEmpty) := by
  cases L with
  | nil => exact eq_same nbNil (by decide)
  | cons x L => exact eq_not (nbStrT (x :: L)) nbNil (by decide) fun z => by cases PyData.tuple.inj z

/-! ### where parents lead -/
section
variable (par : Str → Option (Option Str))
def nx (x : Str) : Option Str := (par x).join
def lawGo (k : Str) : Nat → Option Str → List Str
  | 0, _ => ["lost"]
  | _ + 1, none => []
  | n + 1, some x => if x = k then ["ring"] else match par x with
    | none => ["lost"]
    | some q => lawGo k n q
/-- the way up to x: what stands ahead of it, none of them twice -/
structure Way (k : Str) (pre : List Str) (x : Str) : Prop where
  nd : pre.Nodup
  hd : (pre ++ [x])[0]? = some k
  ch : ∀ (i : Nat) (z : Str), pre[i]? = some z → nx par z = (pre ++ [x])[i + 1]?
/-- where the code stops -/
def Stop (pre : List Str) (x : Str) : Prop := x ∈ pre ∨ (x ∉ pre ∧ nx par x = none)
def togF (k : Str) (pre : List Str) (x : Str) : List Str := if x ∈ pre then (if x = k then ["ring"] else ["lost"]) else if (par x).isSome = true then [] else ["lost"]
end
section
variable {par : Str → Option (Option Str)} {k x : Str} {pre dom : List Str}
theorem nx_some {z y : Str} (h : nx par z = some y) : par z = some (some y) := by
  unfold nx at h
  cases q : par z with
  | none => rw [q] at h; cases h
  | some o =>
    rw [q] at h
    cases o with
    | none => cases h
    | some y' => cases h; rfl
theorem Way.nil (k : Str) : Way par k [] k := ⟨List.nodup_nil, rfl, fun i z h => by simp at h⟩
theorem Way.mem (W : Way par k pre x) {z : Str} (h : z ∈ pre) : ∃ y, nx par z = some y := by
  obtain ⟨i, hi, e⟩ := List.getElem_of_mem h
  have hz : pre[i]? = some z := by rw [List.getElem?_eq_getElem hi, e]
  have := W.ch i z hz
  have hl : i + 1 < (pre ++ [x]).length := by rw [List.length_append, List.length_singleton]; omega
  exact ⟨(pre ++ [x])[i + 1], by rw [this, List.getElem?_eq_getElem hl]⟩
theorem Way.next (W : Way par k pre x) {y : Str} (hx : x ∉ pre) (hy : nx par x = some y) : Way par k (pre ++ [x]) y := by
  refine ⟨List.nodup_append.mpr ⟨W.nd, by simp, fun a ha b hb e => hx (by rw [List.mem_singleton.mp hb] at e; rw [← e]; exact ha)⟩, ?_, fun i z hz => ?_⟩
  · rw [List.getElem?_append_left (by simp)]
    exact W.hd
  · by_cases hi : i < pre.length
    · rw [List.getElem?_append_left hi] at hz
      rw [W.ch i z hz]
      exact (List.getElem?_append_left (by rw [List.length_append, List.length_singleton]; omega)).symm
    · have hl := (List.getElem?_eq_some_iff.mp hz).1
      rw [List.length_append, List.length_singleton] at hl
      have : i = pre.length := by omega
      subst this
      rw [List.getElem?_append_right (Nat.le_refl _), Nat.sub_self] at hz
      have hz : x = z := Option.some.inj hz
      rw [← hz, hy, List.getElem?_append_right (by rw [List.length_append, List.length_singleton]; omega)]
      simp
/-- none of the keys twice: as many as there are, at most -/
theorem nodup_le {l D : List Str} (nd : l.Nodup) (h : ∀ x ∈ l, x ∈ D) : l.length ≤ D.length := by
  induction l generalizing D with
  | nil => exact Nat.zero_le _
  | cons x l ih =>
    obtain ⟨h1, h2⟩ := List.nodup_cons.mp nd
    have hx := h x List.mem_cons_self
    have := ih (D := D.erase x) h2 fun y hy => (List.mem_erase_of_ne (fun e => h1 (by rw [← e]; exact hy))).mpr (h y (List.mem_cons_of_mem _ hy))
    rw [List.length_erase_of_mem hx] at this
    have pos : 0 < D.length := List.length_pos_of_mem hx
    rw [List.length_cons]
    omega
theorem Way.len (W : Way par k pre x) (hd : ∀ z, par z ≠ none → z ∈ dom) : pre.length ≤ dom.length := nodup_le W.nd fun z hz => hd z (by
  obtain ⟨y, e⟩ := W.mem hz
  rw [nx_some e]
  exact fun h => nomatch h)
theorem nd_ne {l : List Str} (h : l.Nodup) {i j : Nat} {a b : Str} (ha : l[i]? = some a) (hb : l[j]? = some b) (n : i ≠ j) : a ≠ b := fun e => by
  subst e
  obtain ⟨hi, e1⟩ := List.getElem?_eq_some_iff.mp ha
  obtain ⟨hj, e2⟩ := List.getElem?_eq_some_iff.mp hb
  exact n ((List.getElem_inj h).mp (e1.trans e2.symm))
/-- the law's turns along the way -/
theorem Way.law (W : Way par k pre x) (hd : ∀ z, par z ≠ none → z ∈ dom) {q : Option Str} (hk : par k = some q) : ∀ i, i + 1 ≤ pre.length → lawGo par k (dom.length + 1) q = lawGo par k (dom.length + 1 - i) (pre ++ [x])[i + 1]? := by
  have hl := W.len hd
  intro i
  induction i with
  | zero =>
    intro h
    have h0 : pre[0]? = some k := by
      have := W.hd
      rwa [List.getElem?_append_left (by omega)] at this
    have := W.ch 0 k h0
    rw [← this]
    unfold nx
    rw [hk]
    rfl
  | succ i ih =>
    intro h
    rw [ih (by omega)]
    obtain ⟨z, hz⟩ : ∃ z, pre[i + 1]? = some z := ⟨pre[i + 1]'(by omega), List.getElem?_eq_getElem _⟩
    have h0 : pre[0]? = some k := by
      have := W.hd
      rwa [List.getElem?_append_left (by omega)] at this
    have ne : z ≠ k := nd_ne W.nd hz h0 (by omega)
    obtain ⟨y, hy⟩ := W.mem (List.mem_of_getElem? hz)
    rw [List.getElem?_append_left (by omega), hz, ← W.ch (i + 1) z hz, hy, show dom.length + 1 - i = (dom.length + 1 - (i + 1)) + 1 by omega]
    show (if z = k then _ else _) = _
    rw [if_neg ne, nx_some hy]
/-- round and round, never to k -/
theorem Way.round (W : Way par k pre x) (hx : x ∈ pre) (ne : x ≠ k) : ∀ m i, i + 1 ≤ pre.length → lawGo par k m (pre ++ [x])[i + 1]? = [("lost" : Str)] := by
  obtain ⟨j, hj, ej⟩ := List.getElem_of_mem hx
  have hxj : pre[j]? = some x := by rw [List.getElem?_eq_getElem hj, ej]
  intro m
  induction m with
  | zero => exact fun i _ => rfl
  | succ m ih =>
    intro i h
    by_cases hi : i + 1 < pre.length
    · obtain ⟨z, hz⟩ : ∃ z, pre[i + 1]? = some z := ⟨pre[i + 1]'(by omega), List.getElem?_eq_getElem _⟩
      have h0 : pre[0]? = some k := by
        have := W.hd
        rwa [List.getElem?_append_left (by omega)] at this
      have ne : z ≠ k := nd_ne W.nd hz h0 (by omega)
      obtain ⟨y, hy⟩ := W.mem (List.mem_of_getElem? hz)
      have nxt := W.ch (i + 1) z hz
      rw [List.getElem?_append_left (by omega), hz]
      show (if z = k then _ else _) = _
      rw [if_neg ne, nx_some hy]
      have := ih (i + 1) (by omega)
      rw [← nxt, hy] at this
      exact this
    · have e : i + 1 = pre.length := by omega
      rw [e, List.getElem?_append_right (Nat.le_refl _), Nat.sub_self]
      show (if x = k then _ else _) = _
      obtain ⟨y, hy⟩ := W.mem hx
      have nxt := W.ch j x hxj
      rw [if_neg ne, nx_some hy]
      have := ih j (by omega)
      rw [← nxt, hy] at this
      exact this
/-- the code and the law tell the same -/
theorem Way.same (W : Way par k pre x) (S : Stop par pre x) (hd : ∀ z, par z ≠ none → z ∈ dom) {q : Option Str} (hk : par k = some q) : togF par k pre x = lawGo par k (dom.length + 1) q := by
  have hl := W.len hd
  unfold togF
  rcases Nat.eq_zero_or_pos pre.length with h0 | h0
  · have : pre = [] := List.eq_nil_of_length_eq_zero h0
    subst this
    have : x = k := Option.some.inj W.hd
    subst this
    rw [if_neg (by simp), hk, if_pos (show (some q).isSome = true from rfl)]
    rcases S with S | ⟨_, S⟩
    · cases S
    · unfold nx at S
      rw [hk] at S
      have S : q = none := S
      rw [S]
      rfl
  · have lw := W.law hd hk (pre.length - 1) (by omega)
    rw [show pre.length - 1 + 1 = pre.length by omega, List.getElem?_append_right (Nat.le_refl _), Nat.sub_self] at lw
    rw [lw]
    obtain ⟨m, hm⟩ : ∃ m, dom.length + 1 - (pre.length - 1) = m + 2 := ⟨dom.length + 1 - (pre.length - 1) - 2, by omega⟩
    rw [hm]
    show _ = lawGo par k (m + 2) (some x)
    by_cases hx : x ∈ pre
    · rw [if_pos hx]
      by_cases e : x = k
      · rw [if_pos e]
        show _ = if x = k then _ else _
        rw [if_pos e]
      · rw [if_neg e]
        have := W.round hx e (m + 2) (pre.length - 1) (by omega)
        rw [show pre.length - 1 + 1 = pre.length by omega, List.getElem?_append_right (Nat.le_refl _), Nat.sub_self] at this
        exact this.symm
    · rw [if_neg hx]
      have hk0 : k ∈ pre := by
        have := W.hd
        rw [List.getElem?_append_left (by omega)] at this
        exact List.mem_of_getElem? this
      have e : x ≠ k := fun e => hx (e ▸ hk0)
      rcases S with S | ⟨_, S⟩
      · exact absurd S hx
      · show _ = if x = k then _ else _
        rw [if_neg e]
        unfold nx at S
        cases hp : par x with
        | none => rfl
        | some o =>
          rw [hp] at S
          have S : o = none := S
          rw [S]
          rfl
end

/-! ### together, by the code and by the law -/
section
variable {par : Str → Option (Option Str)} {B : Bk} {k : Str}
def qS (q : Option Str) : D := .str (q.getD "")
def qD : Option Str → D
  | none => .none
  | some s => .str s
/-- the book of parents, as the code holds it, as the law does -/
structure BkP (par : Str → Option (Option Str)) (B : Bk) : Prop where
  get : ∀ x, getB B x = (par x).map qS
  ne : ∀ x y, par x = some (some y) → y ≠ ""
  few : B.length ≤ 60
structure BkL (par : Str → Option (Option Str)) (B : Bk) : Prop where
  get : ∀ x, getB B x = (par x).map qD
  few : B.length ≤ 60
theorem in_book (B : Bk) (k : Str) (neg : Bool) : dIn neg (.str k) (.dict (dB B)) = some (.bool (neg ^^ (getB B k).isSome)) := by
  have h1 : isScr (dB B) = false := by
    cases B with
    | nil => rfl
    | cons p r => cases r <;> rfl
  show ((none : Option D).or (dInS neg (.str k) (.dict (dB B)))).or (if isScr (dB B) = true then none else (keyOf (.str k)).map fun q => .bool (neg ^^ (getK (dB B) q).isSome)) = _
  rw [h1, show dInS neg (.str k) (.dict (dB B)) = none from rfl, if_neg Bool.false_ne_true]
  show some (PyData.bool (neg ^^ (getK (dB B) (.inr k)).isSome)) = _
  rw [dB_get]
theorem len_book (B : Bk) : dLen (.dict (dB B)) = some (.int B.length) := by
  cases B with
  | nil => rfl
  | cons p r =>
    have : dLen (.dict (dB (p :: r))) = some (.int (dB (p :: r)).length) := by cases r <;> rfl
    rw [this]
    unfold dB
    rw [List.length_map]
theorem atI_last {α : Type} (xs : List α) (x : α) : atI (xs ++ [x]) (-1) = some x := by
  unfold atI ixN
  have h : (xs ++ [x]).length = xs.length + 1 := by simp
  rw [h]
  have : (if (-1 : Int) < 0 then (-1 : Int) + ((xs.length + 1 : Nat) : Int) else -1) = (xs.length : Nat) := by
    rw [if_pos (by decide)]
    omega
  simp [this]
  rw [if_pos (by omega)]
  show (xs ++ [x])[(-1 + ((xs.length : Int) + 1)).toNat]? = some x
  rw [show (-1 + ((xs.length : Int) + 1)).toNat = xs.length by omega]
  simp
theorem last_is {pre : List Str} {x : Str} {i : Nat} {ρ : Env} (h : ρ[i]? = some (some (.list ((pre ++ [x]).map .str)))) : e2 dIx (eVar i) (e1 dNeg (eC (.int 1))) ρ = .ok (.str x) := by
  refine e2_ok (x := .list ((pre ++ [x]).map .str)) (y := .int (-1)) (by rw [p_var, h]) rfl ?_
  rw [d_ixL, List.map_append]
  exact atI_last _ _
theorem cnt_is {ss : List Str} {x : Str} {i : Nat} {ρ : Env} {g : GE} (h : ρ[i]? = some (some (.list (ss.map .str)))) (hg : g ρ = .ok (.str x)) : eLM dCnt (eVar i) g ρ = .ok (.int (ss.countP (fun z => decide (z = x)) : Nat)) := by
  have e : (ss.map PyData.str).countP (fun z => PyData.eqv z (.str x)) = ss.countP fun z => decide (z = x) := by
    rw [List.countP_map]
    congr 1
    try (funext z; simp [PyData.eqv])
  have f : ((ss.map PyData.str).all flD && flD (.str x)) = true := by
    rw [Bool.and_eq_true, List.all_eq_true]
    refine ⟨fun d hd => ?_, rfl⟩
    obtain ⟨s, _, rfl⟩ := List.mem_map.mp hd
    rfl
  unfold eLM
  rw [p_var, h]
  show (g ρ).bind _ = _
  rw [hg]
  show lift (dCnt (ss.map .str) (.str x)) = _
  unfold dCnt
  rw [if_pos f, e]
  rfl
theorem cnt_app (pre : List Str) (x : Str) : (pre ++ [x]).countP (fun z => decide (z = x)) = 1 ↔ x ∉ pre := by
  rw [List.countP_append]
  have : [x].countP (fun z => decide (z = x)) = 1 := by simp
  rw [this]
  constructor
  · intro h m
    have : 0 < pre.countP fun z => decide (z = x) := List.countP_pos_iff.mpr ⟨x, m, by simp⟩
    omega
  · intro m
    have : pre.countP (fun z => decide (z = x)) = 0 := List.countP_eq_zero.mpr fun z hz => by
      simp only [decide_eq_true_eq]
      exact fun e => m (e ▸ hz)
    omega
theorem s_blk {t : GT} {s s2 k : GS} {ρ : Env} {d : D} (e : t ρ = .ok true) (h : s ρ = .ok (.rt d)) : sSeq (sIf t s s2) k ρ = .ok (.rt d) := by
  rw [p_seq, st_yes e h]
  rfl
theorem o_blk {t : GT} {s s2 k : GS} {ρ : Env} {d : D} (e : t ρ = .ok true) (h : s ρ = .ok (.rt d)) : outD (sSeq (sIf t s s2) k ρ) = .ok d := by
  rw [s_blk e h]
  rfl
theorem wh_yes {c : GT} {b : GS} {n : Nat} {ρ ρ' : Env} (h : c ρ = .ok true) (h2 : b ρ = .ok (.nx ρ')) : whGo c b (n + 1) ρ = whGo c b n ρ' := by
  show Out.bind (c ρ) _ = _
  rw [h, okb]
  simp only [cond_true, h2]
theorem wh_no {c : GT} {b : GS} {n : Nat} {ρ : Env} (h : c ρ = .ok false) : whGo c b (n + 1) ρ = .ok (.nx ρ) := by
  unfold whGo
  rw [h, okb]
  rfl
theorem BkP.nx (H : BkP par B) (x : Str) : (getB B x).getD (.str "") = .str ((nx par x).getD "") := by
  rw [H.get]
  unfold DL.nx
  cases par x with
  | none => rfl
  | some q => cases q <;> rfl
theorem BkP.dom (H : BkP par B) (z : Str) (h : par z ≠ none) : z ∈ B.map (·.1) := by
  have : getB B z ≠ none := by
    rw [H.get]
    cases q : par z with
    | none => exact absurd q h
    | some o => exact fun e => nomatch e
  exact Classical.byContradiction fun n => this ((getB_none B z).mpr n)
theorem way_loop (H : BkP par B) : ∀ (f : Nat) (pre : List Str) (x : Str), Way par k pre x → B.length < f + pre.length →
    ∃ pre' x', Way par k pre' x' ∧ Stop par pre' x' ∧ whGo (gAnd (tV (e2 dNe (eGet (eVar 0) (e2 dIx (eVar 2) (e1 dNeg (eC (.int 1)))) (eC (.str ""))) (eC (.str "")))) (tV (e2 dEq (eLM dCnt (eVar 2) (e2 dIx (eVar 2) (e1 dNeg (eC (.int 1))))) (eC (.int 1))))) b_way_up_1 f
      [some (.dict (dB B)), some (.str k), some (.list ((pre ++ [x]).map .str))] = .ok (.nx [some (.dict (dB B)), some (.str k), some (.list ((pre' ++ [x']).map .str))]) := by
  intro f
  induction f with
  | zero =>
    intro pre x W h
    have := W.len (dom := B.map (·.1)) H.dom
    rw [List.length_map] at this
    omega
  | succ f ih =>
    intro pre x W h
    have hle := W.len (dom := B.map (·.1)) H.dom
    rw [List.length_map] at hle
    have few := H.few
    have last := last_is (pre := pre) (x := x) (i := 2) (ρ := [some (.dict (dB B)), some (.str k), some (.list ((pre ++ [x]).map .str))]) rfl
    have get := get_is B x (.str "") (ga := eVar 0) (gb := e2 dIx (eVar 2) (e1 dNeg (eC (.int 1)))) (gc := eC (.str "")) (ρ := [some (.dict (dB B)), some (.str k), some (.list ((pre ++ [x]).map .str))]) rfl last rfl
    rw [H.nx] at get
    have cnt := cnt_is (ss := pre ++ [x]) (x := x) (i := 2) (ρ := [some (.dict (dB B)), some (.str k), some (.list ((pre ++ [x]).map .str))]) rfl last
    have t1 : tV (e2 dNe (eGet (eVar 0) (e2 dIx (eVar 2) (e1 dNeg (eC (.int 1)))) (eC (.str ""))) (eC (.str ""))) [some (.dict (dB B)), some (.str k), some (.list ((pre ++ [x]).map .str))] = .ok (!decide ((nx par x).getD "" = "")) := tv_ok (e2_ok get rfl d_neS)
    have t2 : tV (e2 dEq (eLM dCnt (eVar 2) (e2 dIx (eVar 2) (e1 dNeg (eC (.int 1))))) (eC (.int 1))) [some (.dict (dB B)), some (.str k), some (.list ((pre ++ [x]).map .str))] = .ok (decide (((pre ++ [x]).countP (fun z => decide (z = x)) : Int) = 1)) := tv_ok (e2_ok cnt rfl d_eqI)
    cases hn : nx par x with
    | none =>
      rw [hn] at t1
      have t1 : _ = Out.ok false := t1.trans (by rw [decide_eq_true (show (none : Option Str).getD "" = "" from rfl)]; rfl)
      refine ⟨pre, x, W, ?_, wh_no (and_no t1)⟩
      by_cases m : x ∈ pre
      · exact .inl m
      · exact .inr ⟨m, hn⟩
    | some y =>
      rw [hn] at t1
      have yne : y ≠ "" := H.ne x y (nx_some hn)
      have t1 : _ = Out.ok true := t1.trans (by rw [show (some y).getD "" = y from rfl, decide_eq_false yne]; rfl)
      by_cases m : x ∈ pre
      · have : ¬ ((pre ++ [x]).countP (fun z => decide (z = x)) : Int) = 1 := fun e => (cnt_app pre x).mp (by omega) m
        rw [decide_eq_false this] at t2
        exact ⟨pre, x, W, .inl m, wh_no (and_yes t1 t2)⟩
      · have : ((pre ++ [x]).countP (fun z => decide (z = x)) : Int) = 1 := by have := (cnt_app pre x).mpr m; omega
        rw [decide_eq_true this] at t2
        have ix : dIx (.dict (dB B)) (.str x) = some (.str y) := by
          rw [d_ixB, H.get, nx_some hn]
          rfl
        obtain ⟨pre', x', W', S', e⟩ := ih (pre ++ [x]) y (W.next m hn) (by rw [List.length_append, List.length_singleton]; omega)
        refine ⟨pre', x', W', S', (wh_yes (and_yes t1 t2) ?_).trans e⟩
        unfold b_way_up_1 sApp
        show (e2 dIx (eVar 0) (e2 dIx (eVar 2) (e1 dNeg (eC (.int 1)))) _).bind _ = _
        rw [e2_ok (x := .dict (dB B)) rfl last ix, okb, if_pos (by rw [List.length_map, List.length_append, List.length_singleton]; omega), List.map_append (l₁ := pre ++ [x])]
        rfl
theorem together_is (H : BkP par B) {q : Option Str} (hk : par k = some q) : f_together [.dict (dB B), .str k] = .ok (.tuple ((lawGo par k (B.length + 1) q).map .str)) := by
  unfold f_together
  rw [run_at (by rfl)]
  unfold g_together
  show outD (sSeq _ _ [some (.dict (dB B)), some (.str k), none]) = _
  have few := H.few
  obtain ⟨pre, x, W, S, e⟩ := way_loop H 64 [] k (Way.nil k) (by rw [List.length_nil]; omega)
  have wy : f_way_up [.dict (dB B), .str k] = .ok (.list ((pre ++ [x]).map .str)) := by
    unfold f_way_up
    rw [run_at (by rfl)]
    unfold g_way_up
    show outD (sSeq _ _ [some (.dict (dB B)), some (.str k), none]) = _
    exact q_own (d := .list [.str k]) rfl rfl (q_nx e rfl)
  have same := W.same S (dom := B.map (·.1)) H.dom hk
  rw [List.length_map] at same
  rw [← same]
  refine q_set (c2 rfl rfl wy) ?_
  have last := last_is (pre := pre) (x := x) (i := 2) (ρ := [some (.dict (dB B)), some (.str k), some (.list ((pre ++ [x]).map .str))]) rfl
  have cnt := cnt_is (ss := pre ++ [x]) (x := x) (i := 2) (ρ := [some (.dict (dB B)), some (.str k), some (.list ((pre ++ [x]).map .str))]) rfl last
  have t1 : tV (e2 dGt (eLM dCnt (eVar 2) (e2 dIx (eVar 2) (e1 dNeg (eC (.int 1))))) (eC (.int 1))) [some (.dict (dB B)), some (.str k), some (.list ((pre ++ [x]).map .str))] = .ok (decide ((1 : Int) < ((pre ++ [x]).countP (fun z => decide (z = x)) : Nat))) := tv_ok (e2_ok cnt rfl d_gt)
  unfold togF
  by_cases m : x ∈ pre
  · have n1 : ¬ (pre ++ [x]).countP (fun z => decide (z = x)) = 1 := fun e => (cnt_app pre x).mp e m
    have n0 : 0 < (pre ++ [x]).countP fun z => decide (z = x) := List.countP_pos_iff.mpr ⟨x, by simp, by simp⟩
    rw [decide_eq_true (by omega)] at t1
    rw [if_pos m]
    have t2 : tV (e2 dEq (e2 dIx (eVar 2) (e1 dNeg (eC (.int 1)))) (eVar 1)) [some (.dict (dB B)), some (.str k), some (.list ((pre ++ [x]).map .str))] = .ok (decide (x = k)) := tv_ok (e2_ok last rfl d_eqS)
    by_cases xk : x = k
    · rw [decide_eq_true xk] at t2
      rw [if_pos xk]
      exact o_blk t1 (s_blk t2 rfl)
    · rw [decide_eq_false xk] at t2
      rw [if_neg xk]
      exact o_blk t1 (st_seq (st_no t2 rfl) rfl)
  · have c1 := (cnt_app pre x).mpr m
    rw [decide_eq_false (by omega)] at t1
    rw [if_neg m]
    have t2 : tV (e2 (dIn true) (e2 dIx (eVar 2) (e1 dNeg (eC (.int 1)))) (eVar 0)) [some (.dict (dB B)), some (.str k), some (.list ((pre ++ [x]).map .str))] = .ok (!(par x).isSome) := by
      refine tv_ok (e2_ok last rfl ((in_book B x true).trans ?_))
      rw [H.get, Bool.true_xor]
      cases par x <;> rfl
    cases hp : (par x).isSome with
    | true =>
      rw [hp] at t2
      exact q_no t1 (q_chk t2 rfl)
    | false =>
      rw [hp] at t2
      exact q_no t1 (q_hit t2 rfl)
end

/-! ### rows of texts -/
structure Rw where
  k : Str
  q : Option Str
  a : Int
  g : Str
deriving DecidableEq
def Rw.d (r : Rw) : D := .tuple [.str r.k, qD r.q, .int r.a, .str r.g]
def Rw.w (r : Rw) : D := .tuple [.str r.k, qS r.q, .int r.a, .str r.g]
def Rw.key (r : Rw) : List Key := [.inr r.k, .inr (r.q.getD ""), .inl r.a, .inr r.g]
def unk : List Key → Rw
  | [.inr k, .inr q, .inl a, .inr g] => ⟨k, if q = "" then none else some q, a, g⟩
  | _ => ⟨"", none, 0, ""⟩
def rwW : List Str → Rw
  | [k, q, a, g] => ⟨k, if q = ("-" : Str) then none else some q, (amtF a).getD 0, g⟩
  | _ => ⟨"", none, 0, ""⟩
def rwOf (t : Str) : Rw := rwW (wordsT t)
theorem Rw.unk (r : Rw) (h : r.q ≠ some ("" : Str)) : DL.unk r.key = r := by
  obtain ⟨k, q, a, g⟩ := r
  cases q with
  | none => rfl
  | some s =>
    have : s ≠ "" := fun e => h (by rw [e])
    show (⟨k, if s = "" then none else some s, a, g⟩ : Rw) = _
    rw [if_neg this]
theorem Rw.unk_w (r : Rw) : (DL.unk r.key).w = r.w := by
  obtain ⟨k, q, a, g⟩ := r
  cases q with
  | none => rfl
  | some s =>
    show (⟨k, if s = "" then none else some s, a, g⟩ : Rw).w = _
    by_cases e : s = ""
    · rw [if_pos e, e]; rfl
    · rw [if_neg e]
theorem Rw.isRow (r : Rw) : IsRow r.d := by
  refine ⟨r.k, qD r.q, r.a, r.g, rfl, ?_⟩
  cases r.q with
  | none => exact .inl rfl
  | some s => exact .inr ⟨s, rfl⟩
theorem Rw.inj {r s : Rw} (h : r.d = s.d) : r = s := by
  obtain ⟨k, q, a, g⟩ := r
  obtain ⟨k', q', a', g'⟩ := s
  unfold Rw.d at h
  simp only [PyData.tuple.injEq, List.cons.injEq, PyData.str.injEq, PyData.int.injEq, and_true] at h
  obtain ⟨h1, h2, h3, h4⟩ := h
  have : q = q' := by
    cases q <;> cases q' <;> simp [qD] at h2 <;> simp [h2]
  rw [h1, this, h3, h4]
def good (p : Pl) (t : Str) : Bool := (faultsF p t).isEmpty
theorem good_rw {p : Pl} {t : Str} (h : good p t = true) : rowD t = (rwOf t).d ∧ (rwOf t).q ≠ some ("" : Str) := by
  obtain ⟨k, q, a, g, n, e, h1, h2, h3, h4, h5, h6⟩ := flt_nil (List.isEmpty_iff.mp h)
  unfold rowD rwOf
  rw [e]
  show PyData.tuple [.str k, parD q, .int ((amtF a).getD 0), .str g] = Rw.d ⟨k, if q = ("-" : Str) then none else some q, (amtF a).getD 0, g⟩ ∧ (if q = ("-" : Str) then none else some q) ≠ some ("" : Str)
  unfold Rw.d parD
  by_cases c : q = ("-" : Str)
  · rw [if_pos c, if_pos c]
    exact ⟨rfl, fun e => nomatch e⟩
  · rw [if_neg c, if_neg c]
    refine ⟨rfl, fun e => ?_⟩
    rcases h2 with h2 | h2
    · exact c h2
    · have := (nameB_ok h2).1
      rw [Option.some.inj e] at this
      exact absurd this (by decide)
/-! ### rows with a key of their own -/
def cntK (R : List Rw) (k : Str) : Nat := (R.map (·.k)).countP fun j => decide (j = k)
def al (R : List Rw) : List Rw := R.filter fun r => decide (cntK R r.k = 1)
def parM (R : List Rw) (k : Str) : Option (Option Str) := ((al R).find? fun r => decide (r.k = k)).map (·.q)
theorem once_of : ∀ {ks : List Str}, (∀ k ∈ ks, ks.countP (fun j => decide (j = k)) ≤ 1) → ks.Nodup
  | [], _ => List.nodup_nil
  | k :: ks, h => by
    refine List.nodup_cons.mpr ⟨fun m => ?_, once_of fun j hj => ?_⟩
    · have := h k List.mem_cons_self
      rw [List.countP_cons] at this
      have z : 0 < ks.countP fun j => decide (j = k) := List.countP_pos_iff.mpr ⟨k, m, by simp⟩
      rw [if_pos (by simp)] at this
      omega
    · have := h j (List.mem_cons_of_mem _ hj)
      rw [List.countP_cons] at this
      split at this <;> omega
theorem al_nodup (R : List Rw) : ((al R).map (·.k)).Nodup := by
  refine once_of fun k hk => ?_
  obtain ⟨r, hr, rfl⟩ := List.mem_map.mp hk
  have h1 : cntK R r.k = 1 := of_decide_eq_true (List.mem_filter.mp hr).2
  have h2 : ((al R).map (·.k)).Sublist (R.map (·.k)) := (List.filter_sublist).map _
  have := h2.countP_le (p := fun j => decide (j = r.k))
  unfold cntK at h1
  omega
theorem cnt_perm {R R' : List Rw} (h : R.Perm R') (k : Str) : cntK R k = cntK R' k := by
  unfold cntK
  exact (h.map fun r : Rw => r.k).countP_eq _
theorem al_perm {R R' : List Rw} (h : R.Perm R') : (al R).Perm (al R') := by
  have : al R' = R'.filter fun r => decide (cntK R r.k = 1) := List.filter_congr fun r _ => by rw [cnt_perm h]
  rw [this]
  exact h.filter _
theorem find_iff {L : List Rw} (nd : (L.map (·.k)).Nodup) {k : Str} {r : Rw} : L.find? (fun r => decide (r.k = k)) = some r ↔ r ∈ L ∧ r.k = k := by
  constructor
  · intro h
    exact ⟨List.mem_of_find?_eq_some h, of_decide_eq_true (List.find?_some (p := fun r : Rw => decide (r.k = k)) h)⟩
  · rintro ⟨m, e⟩
    induction L with
    | nil => cases m
    | cons s L ih =>
      obtain ⟨h1, h2⟩ := List.nodup_cons.mp nd
      rw [List.find?_cons]
      rcases List.mem_cons.mp m with rfl | m
      · rw [decide_eq_true e]
      · have : s.k ≠ k := fun z => h1 (by show s.k ∈ L.map (·.k); rw [z, ← e]; exact List.mem_map.mpr ⟨r, m, rfl⟩)
        rw [decide_eq_false this]
        exact ih h2 m
theorem find_perm {L L' : List Rw} (h : L.Perm L') (nd : (L.map (·.k)).Nodup) (k : Str) : L.find? (fun r => decide (r.k = k)) = L'.find? (fun r => decide (r.k = k)) := by
  have nd' : (L'.map (·.k)).Nodup := (h.map _).nodup_iff.mp nd
  cases q : L'.find? (fun r => decide (r.k = k)) with
  | some r =>
    have := (find_iff nd').mp q
    exact (find_iff nd).mpr ⟨h.mem_iff.mpr this.1, this.2⟩
  | none =>
    cases q2 : L.find? (fun r => decide (r.k = k)) with
    | none => rfl
    | some r =>
      have := (find_iff nd).mp q2
      rw [(find_iff nd').mpr ⟨h.mem_iff.mp this.1, this.2⟩] at q
      cases q
theorem parM_perm {R R' : List Rw} (h : R.Perm R') : parM R = parM R' := by
  funext k
  unfold parM
  rw [find_perm (al_perm h) (al_nodup R)]
/-- the book of them -/
def alB (v : Rw → D) (R : List Rw) : Bk := (al R).map fun r => (r.k, v r)
theorem alB_once (v : Rw → D) (R : List Rw) : Once (alB v R) := by
  unfold Once alB
  rw [List.map_map]
  exact al_nodup R
theorem merge_new : ∀ (C B : Bk), Once (B ++ C) → mergeB B C = B ++ C
  | [], B, _ => by rw [List.append_nil]; rfl
  | p :: C, B, h => by
    have n : ¬ (B.any fun z => decide (z.1 = p.1)) = true := by
      rw [any_mem]
      intro m
      unfold Once at h
      rw [List.map_append, List.map_cons] at h
      exact (List.nodup_append.mp h).2.2 _ m _ List.mem_cons_self rfl
    show mergeB (putB B p.1 p.2) C = _
    have : putB B p.1 p.2 = B ++ [p] := by
      unfold putB
      rw [if_neg n]
    rw [this, merge_new C (B ++ [p]) (by rw [List.append_assoc]; exact h), List.append_assoc]
    rfl
theorem pairs_of (v : Rw → D) : ∀ L : List Rw, pairsD (L.map fun r => .tuple [.str r.k, v r]) = some (L.map fun r => ((.inr r.k : Key), v r))
  | [] => rfl
  | r :: L => by
    rw [List.map_cons, List.map_cons]
    show (keyOf (.str r.k)).bind (fun k => (pairsD (L.map fun r => .tuple [.str r.k, v r])).map ((k, v r) :: ·)) = _
    rw [pairs_of v L]
    rfl
theorem dict_al (v : Rw → D) (R : List Rw) (h : R.length ≤ 1000) : dDict (.list ((al R).map fun r => .tuple [.str r.k, v r])) = some (.dict (dB (alB v R))) := by
  have hl : (al R).length ≤ R.length := List.length_filter_le _ _
  show (if ((al R).map fun r => PyData.tuple [.str r.k, v r]).length ≤ 1000000 then (pairsD ((al R).map fun r => .tuple [.str r.k, v r])).map _ else _) = _
  rw [if_pos (by rw [List.length_map]; omega), pairs_of]
  show some (PyData.dict (mergeD [] ((al R).map fun r => ((.inr r.k : Key), v r)))) = _
  have h2 := dB_merge (alB v R) []
  unfold alB at h2
  rw [List.map_map] at h2
  have h3 := merge_new (alB v R) [] (alB_once v R)
  unfold alB at h3
  rw [h3] at h2
  exact congrArg (fun z => some (PyData.dict z)) h2
theorem alB_get (v : Rw → D) (R : List Rw) (k : Str) : getB (alB v R) k = ((al R).find? fun r => decide (r.k = k)).map v := by
  unfold getB alB
  rw [List.find?_map, Option.map_map]
  rfl
theorem alB_len (v : Rw → D) (R : List Rw) : (alB v R).length = (al R).length := by
  unfold alB
  rw [List.length_map]
theorem bkP_al {R : List Rw} (h : ∀ r ∈ R, r.q ≠ some ("" : Str)) (hl : R.length ≤ 60) : BkP (parM R) (alB (fun r => qS r.q) R) := by
  have hl2 : (al R).length ≤ R.length := List.length_filter_le _ _
  refine ⟨fun x => ?_, fun x y e => ?_, by rw [alB_len]; omega⟩
  · rw [alB_get]
    unfold parM
    rw [Option.map_map]
    rfl
  · unfold parM at e
    obtain ⟨r, hr, e⟩ := Option.map_eq_some_iff.mp e
    have := h r (List.mem_filter.mp (List.mem_of_find?_eq_some hr)).1
    rw [e] at this
    exact fun z => this (by rw [z])
theorem bkL_al {R : List Rw} (hl : R.length ≤ 60) : BkL (parM R) (alB (fun r => qD r.q) R) := by
  have hl2 : (al R).length ≤ R.length := List.length_filter_le _ _
  refine ⟨fun x => ?_, by rw [alB_len]; omega⟩
  rw [alB_get]
  unfold parM
  rw [Option.map_map]
  rfl
/-! ### the code's good rows, the law's -/
def gl (p : Pl) (ts : List Str) : List Rw := (ts.filter (good p)).map rwOf
def PR (p : Pl) (ts : List Str) : List Rw := (setK ((gl p ts).map Rw.key)).map unk
theorem gl_q {p : Pl} {ts : List Str} {r : Rw} (h : r ∈ gl p ts) : r.q ≠ some ("" : Str) := by
  obtain ⟨t, ht, rfl⟩ := List.mem_map.mp h
  exact (good_rw (List.mem_filter.mp ht).2).2
theorem gl_len (p : Pl) (ts : List Str) : (gl p ts).length ≤ ts.length := by
  unfold gl
  rw [List.length_map]
  exact List.length_filter_le _ _
theorem PR_mem {p : Pl} {ts : List Str} {r : Rw} : r ∈ PR p ts ↔ r ∈ gl p ts := by
  unfold PR
  rw [List.mem_map]
  constructor
  · rintro ⟨k, hk, rfl⟩
    obtain ⟨s, hs, rfl⟩ := List.mem_map.mp (setK_mem.mp hk)
    rw [s.unk (gl_q hs)]
    exact hs
  · intro h
    exact ⟨r.key, setK_mem.mpr (List.mem_map.mpr ⟨r, h, rfl⟩), r.unk (gl_q h)⟩
theorem PR_nodup (p : Pl) (ts : List Str) : (PR p ts).Nodup := by
  unfold PR
  rw [List.nodup_iff_pairwise_ne, List.pairwise_map]
  refine List.Pairwise.imp_of_mem (fun {a b} ha hb ne e => ne ?_) (List.nodup_iff_pairwise_ne.mp (setK_nodup ((gl p ts).map Rw.key)))
  obtain ⟨s, hs, rfl⟩ := List.mem_map.mp (setK_mem.mp ha)
  obtain ⟨t, ht, rfl⟩ := List.mem_map.mp (setK_mem.mp hb)
  rw [s.unk (gl_q hs), t.unk (gl_q ht)] at e
  rw [e]
theorem PR_len (p : Pl) (ts : List Str) : (PR p ts).length ≤ ts.length := by
  unfold PR
  rw [List.length_map]
  have := setK_len ((gl p ts).map Rw.key)
  rw [List.length_map] at this
  exact Nat.le_trans this (gl_len p ts)
def LR (p : Pl) (ts : List Str) : List Rw := ts.foldl (fun R t => if (good p t && !decide (rwOf t ∈ R)) = true then R ++ [rwOf t] else R) []
theorem LR_go (p : Pl) : ∀ (ts : List Str) (R : List Rw), R.Nodup → (ts.foldl (fun R t => if (good p t && !decide (rwOf t ∈ R)) = true then R ++ [rwOf t] else R) R).Nodup ∧
    ∀ r, r ∈ ts.foldl (fun R t => if (good p t && !decide (rwOf t ∈ R)) = true then R ++ [rwOf t] else R) R ↔ r ∈ R ∨ r ∈ gl p ts
  | [], R, h => ⟨h, fun r => by
    show r ∈ R ↔ r ∈ R ∨ r ∈ []
    simp⟩
  | t :: ts, R, h => by
    have hg : gl p (t :: ts) = (if good p t = true then [rwOf t] else []) ++ gl p ts := by
      unfold gl
      rw [List.filter_cons]
      split <;> rfl
    rw [List.foldl_cons, hg]
    by_cases c : (good p t && !decide (rwOf t ∈ R)) = true
    · rw [if_pos c]
      simp only [Bool.and_eq_true, Bool.not_eq_true', decide_eq_false_iff_not] at c
      obtain ⟨h1, h2⟩ := LR_go p ts (R ++ [rwOf t]) (List.nodup_append.mpr ⟨h, by simp, fun a ha b hb e => c.2 (by rw [List.mem_singleton.mp hb] at e; rw [← e]; exact ha)⟩)
      refine ⟨h1, fun r => ?_⟩
      rw [h2, if_pos c.1, List.mem_append, List.mem_append, List.mem_singleton, or_assoc]
    · rw [if_neg c]
      obtain ⟨h1, h2⟩ := LR_go p ts R h
      refine ⟨h1, fun r => ?_⟩
      rw [h2]
      by_cases g : good p t = true
      · have m : rwOf t ∈ R := by
          rw [g, Bool.true_and] at c
          simpa using c
        rw [if_pos g, List.mem_append, List.mem_singleton]
        exact ⟨fun z => z.elim .inl fun z => .inr (.inr z), fun z => z.elim .inl fun z => z.elim (fun e => .inl (e ▸ m)) .inr⟩
      · rw [if_neg g, List.nil_append]
theorem PL_perm (p : Pl) (ts : List Str) : (PR p ts).Perm (LR p ts) := by
  obtain ⟨h1, h2⟩ := LR_go p ts [] List.nodup_nil
  refine (List.perm_ext_iff_of_nodup (PR_nodup p ts) h1).mpr fun r => ?_
  rw [PR_mem, h2]
  simp
theorem LR_len (p : Pl) (ts : List Str) : (LR p ts).length ≤ ts.length := by
  rw [← (PL_perm p ts).length_eq]
  exact PR_len p ts
/-- the faults as judged -/
def judF (p : Pl) (ts : List Str) (t : Str) : List Str := if good p t = true then (match parM (PR p ts) (rwOf t).k with
  | none => ["twice"]
  | some q => lawGo (parM (PR p ts)) (rwOf t).k ((al (PR p ts)).length + 1) q) else faultsF p t

/-! ### judged, by the code and by the law -/
theorem written_key_is (r : Rw) : f_written_key [r.d] = .ok r.w := by
  unfold f_written_key
  rw [run_at (by rfl)]
  unfold g_written_key
  show outD (sSeq _ _ [some r.d, none, none, none, none]) = _
  obtain ⟨k, q, a, g⟩ := r
  refine q_tg (d := Rw.d ⟨k, q, a, g⟩) rfl rfl ?_
  cases q with
  | none => exact q_hit (tv_ok rfl) rfl
  | some s => exact q_chk (tv_ok rfl) rfl
def txD : D → Str
  | .str t => t
  | _ => ""
def fK : D → Str
  | .tuple (.str k :: _) => k
  | _ => ""
def f2 : D → D
  | .tuple (_ :: q :: _) => q
  | _ => .none
theorem rowsK_of : ∀ R : List Rw, rowsK (R.map Rw.w) = some (R.map Rw.key)
  | [] => rfl
  | r :: R => by
    rw [List.map_cons, List.map_cons]
    show (rowKey r.w).bind (fun k => (rowsK (R.map Rw.w)).map (k :: ·)) = _
    rw [rowsK_of R]
    rfl
theorem oneShape_of : ∀ R : List Rw, oneShape (R.map Rw.key) = true
  | [] => rfl
  | r :: R => by
    rw [List.map_cons]
    unfold oneShape
    rw [Bool.and_eq_true, List.all_eq_true]
    refine ⟨rfl, fun k hk => ?_⟩
    obtain ⟨s, _, rfl⟩ := List.mem_map.mp hk
    exact decide_eq_true rfl
/-- texts in a heap: few, not too long -/
structure Hp20 (ts : List Str) : Prop where
  few : ts.length ≤ 60
  le : ∀ t ∈ ts, t.length ≤ 100000
section
variable {p : Pl} {ts : List Str}
theorem good_test {t : Str} (ht : t.length ≤ 100000) {g1 g2 : GE} {ρ : Env} (h1 : g1 ρ = .ok p.d) (h2 : g2 ρ = .ok (.str t)) : tV (e2 dEq (eCl (f1 dLen) (aCons (eCall f_faults (aCons g1 (aCons g2 aNil))) aNil)) (eC (.int 0))) ρ = .ok (good p t) := by
  refine tv_ok (e2_ok (b1 (c2 h1 h2 (faults_is t ht)) d_lenT) rfl (d_eqI.trans ?_))
  rw [List.length_map]
  unfold good
  cases faultsF p t <;> simp
  try omega
theorem good_rows_is (H : Hp20 ts) : f_good_rows [p.d, .tuple (ts.map .str)] = .ok (.list ((PR p ts).map Rw.w)) := by
  unfold f_good_rows
  rw [run_at (by rfl)]
  unfold g_good_rows
  show outD (sRet _ [some p.d, some (.tuple (ts.map .str)), none]) = _
  refine q_ret (b1 (x := .list ((gl p ts).map Rw.w)) ?_ ?_)
  · have few := H.few
    rw [lc_fil (ds := ts.map .str) (fun d => good p (txD d)) (fun d => (rwOf (txD d)).w) rfl (by rw [List.length_map]; omega) fun d hd => ?_]
    · unfold gl
      rw [List.filter_map, List.map_map, List.map_map]
      rfl
    · obtain ⟨t, ht, rfl⟩ := List.mem_map.mp hd
      have tl := H.le t ht
      refine ⟨_, rfl, good_test tl rfl rfl, fun g => ?_⟩
      have g : good p t = true := g
      have ro := row_of_is (p := p) t tl
      have g' : (faultsF p t).isEmpty = true := g
      rw [if_pos g', (good_rw g).1] at ro
      exact c1 (c2 rfl rfl ro) (written_key_is _)
  · show (rowsK _).bind _ = _
    rw [rowsK_of]
    show (if ((gl p ts).map Rw.key).length < 64 ∧ oneShape ((gl p ts).map Rw.key) = true then _ else _) = _
    have := gl_len p ts
    have few := H.few
    rw [if_pos ⟨by rw [List.length_map]; omega, oneShape_of _⟩]
    unfold PR
    rw [List.map_map]
    congr 2
    refine List.map_congr_left fun k hk => ?_
    obtain ⟨s, hs, rfl⟩ := List.mem_map.mp (setK_mem.mp hk)
    exact s.unk_w.symm
theorem take_map {α β : Type} (f : α → β) {l : List α} {j : Nat} {x : α} (h : l[j]? = some x) : (l.take (j + 1)).map f = (l.take j).map f ++ [f x] := by
  rw [List.take_add_one, h, List.map_append]
  rfl
def judD (p : Pl) (ts : List Str) (t : Str) : D := .tuple ((judF p ts t).map .str)
theorem judged_is (H : Hp20 ts) : f_judged [p.d, .tuple (ts.map .str)] = .ok (.tuple (ts.map (judD p ts))) := by
  unfold f_judged
  rw [run_at (by rfl)]
  unfold g_judged
  show outD (sSeq _ _ [some p.d, some (.tuple (ts.map .str)), none, none, none, none, none, none, none, none]) = _
  have few := H.few
  have pl := PR_len p ts
  have all : ∀ r ∈ PR p ts, r.q ≠ some ("" : Str) := fun r hr => gl_q (PR_mem.mp hr)
  have B := bkP_al all (by omega)
  refine q_set (c2 rfl rfl (good_rows_is H)) (q_set (d := .list (((PR p ts).map (·.k)).map .str)) ?_ (q_set (d := .dict (dB (alB (fun r => qS r.q) (PR p ts)))) ?_ (q_own (d := .list []) rfl rfl ?_)))
  · rw [lc_map (ds := (PR p ts).map Rw.w) (fun d => .str (fK d)) rfl (by rw [List.length_map]; omega) fun d hd => ?_]
    · rw [List.map_map, List.map_map]
      rfl
    · obtain ⟨r, _, rfl⟩ := List.mem_map.mp hd
      exact ⟨_, rfl, e2_ok rfl rfl rfl⟩
  · refine b1 (x := .list ((al (PR p ts)).map fun r => .tuple [.str r.k, qS r.q])) ?_ (dict_al (fun r => qS r.q) (PR p ts) (by omega))
    rw [lc_fil (ds := (PR p ts).map Rw.w) (fun d => decide (cntK (PR p ts) (fK d) = 1)) (fun d => .tuple [.str (fK d), f2 d]) rfl (by rw [List.length_map]; omega) fun d hd => ?_]
    · unfold al
      rw [List.filter_map, List.map_map]
      rfl
    · obtain ⟨r, _, rfl⟩ := List.mem_map.mp hd
      refine ⟨_, rfl, ?_, fun _ => t2 (e2_ok rfl rfl rfl) (e2_ok rfl rfl rfl)⟩
      refine tv_ok (e2_ok (cnt_is (ss := (PR p ts).map (·.k)) (x := r.k) rfl (e2_ok rfl rfl rfl)) rfl (d_eqI.trans ?_))
      have e : ∀ c : Nat, some (PyData.bool (decide ((c : Int) = 1))) = some (PyData.bool (decide (c = 1))) := fun c => by
        congr 2
        exact decide_eq_decide.mpr (by omega)
      exact e _
  -- the texts
  let base : Option D → Option D → Option D → Option D → Env := fun x5 x6 x7 x8 => [some p.d, some (.tuple (ts.map .str)), some (.list ((PR p ts).map Rw.w)), some (.list (((PR p ts).map (·.k)).map .str)), some (.dict (dB (alB (fun r => qS r.q) (PR p ts)))), x5, x6, x7, x8, none]
  refine q_loopI (ds := ts.map .str) (fun j ρ' => ∃ x6 x7 x8, ρ' = base (some (.list ((ts.take j).map (judD p ts)))) x6 x7 x8) rfl ⟨none, none, none, rfl⟩ (fun j d hd ρ' hI => ?_) (fun ρ' hI => ?_)
  · obtain ⟨x6, x7, x8, rfl⟩ := hI
    rw [List.getElem?_map] at hd
    obtain ⟨t, ht, rfl⟩ := Option.map_eq_some_iff.mp hd
    have jl := (List.getElem?_eq_some_iff.mp ht).1
    have tl := H.le t (List.mem_of_getElem? ht)
    have F := faults_is (p := p) t tl
    refine ⟨_, rfl, ?_⟩
    -- what is appended
    have app : ∀ (z : List Str) (x8 : Option D), z = judF p ts t → b_judged_1_3 (base (some (.list ((ts.take j).map (judD p ts)))) (some (.str t)) (some (.tuple (z.map .str))) x8) = .ok (.nx (base (some (.list ((ts.take (j + 1)).map (judD p ts)))) (some (.str t)) (some (.tuple (z.map .str))) x8)) := fun z x8 hz => by
      subst hz
      unfold b_judged_1_3 sApp
      show (eVar 7 _).bind _ = _
      rw [show (eVar 7 (base (some (.list ((ts.take j).map (judD p ts)))) (some (.str t)) (some (.tuple ((judF p ts t).map .str))) x8)) = .ok (judD p ts t) from rfl, okb, if_pos (by rw [List.length_map, List.length_take]; omega), take_map (judD p ts) ht]
      rfl
    have gt : tV (e2 dEq (eCl (f1 dLen) (aCons (eVar 7) aNil)) (eC (.int 0))) (base (some (.list ((ts.take j).map (judD p ts)))) (some (.str t)) (some (.tuple ((faultsF p t).map .str))) x8) = .ok (good p t) := by
      refine tv_ok (e2_ok (b1 (x := .tuple ((faultsF p t).map .str)) rfl d_lenT) rfl (d_eqI.trans ?_))
      rw [List.length_map]
      unfold good
      cases faultsF p t <;> simp
      try omega
    cases g : good p t with
    | false =>
      rw [g] at gt
      refine ⟨_, st_seq (st_set (c2 rfl rfl F)) (st_seq (st_no gt rfl) (app (faultsF p t) x8 ?_)), _, _, _, rfl⟩
      unfold judF
      rw [g, if_neg Bool.false_ne_true]
    | true =>
      rw [g] at gt
      have ro := row_of_is (p := p) t tl
      have g' : (faultsF p t).isEmpty = true := g
      rw [if_pos g', (good_rw g).1] at ro
      have key : e2 dIx (eCall f_row_of (aCons (eVar 0) (aCons (eVar 6) aNil))) (eC (.int 0)) (base (some (.list ((ts.take j).map (judD p ts)))) (some (.str t)) (some (.tuple ((faultsF p t).map .str))) x8) = .ok (.str (rwOf t).k) := e2_ok (c2 rfl rfl ro) rfl rfl
      have ti : tV (e2 (dIn true) (eVar 8) (eVar 4)) (base (some (.list ((ts.take j).map (judD p ts)))) (some (.str t)) (some (.tuple ((faultsF p t).map .str))) (some (.str (rwOf t).k))) = .ok (!(parM (PR p ts) (rwOf t).k).isSome) := by
        refine tv_ok (e2_ok rfl rfl ((in_book _ (rwOf t).k true).trans ?_))
        rw [B.get, Bool.true_xor]
        cases parM (PR p ts) (rwOf t).k <;> rfl
      cases hp : parM (PR p ts) (rwOf t).k with
      | none =>
        rw [hp] at ti
        refine ⟨_, st_seq (st_set (c2 rfl rfl F)) (st_seq (st_yes gt (st_seq (st_set key) (st_yes ti (st_set (d := .tuple ([("twice" : Str)].map .str)) rfl)))) (app ["twice"] _ ?_)), _, _, _, rfl⟩
        unfold judF
        rw [g, if_pos rfl, hp]
      | some q =>
        rw [hp] at ti
        have tg := together_is B hp
        rw [alB_len] at tg
        refine ⟨_, st_seq (st_set (c2 rfl rfl F)) (st_seq (st_yes gt (st_seq (st_set key) (st_no ti (st_set (c2 rfl rfl tg))))) (app _ _ ?_)), _, _, _, rfl⟩
        unfold judF
        rw [g, if_pos rfl, hp]
  · obtain ⟨x6, x7, x8, rfl⟩ := hI
    rw [List.length_map, List.take_length]
    exact q_ret (b1 rfl (d_tuple (by rw [List.length_map]; omega)))
end

/-! ### kept, by the code and by the law -/
section
variable {p : Pl} {ts : List Str}
def keptB (p : Pl) (ts : List Str) : List Str → Bk → Bk
  | [], B => B
  | t :: us, B => keptB p ts us (if (judF p ts t).isEmpty = true then putB B (rwOf t).k (rwOf t).d else B)
theorem keptB_br : ∀ (us : List Str) (B : Bk), BR B → BR (keptB p ts us B)
  | [], B, h => h
  | t :: us, B, h => by
    unfold keptB
    refine keptB_br us _ ?_
    split
    · exact h.put (rwOf t).isRow
    · exact h
theorem keptB_len : ∀ (us : List Str) (B : Bk), (keptB p ts us B).length ≤ B.length + us.length
  | [], B => Nat.le_refl _
  | t :: us, B => by
    unfold keptB
    have h := keptB_len us (if (judF p ts t).isEmpty = true then putB B (rwOf t).k (rwOf t).d else B)
    have h2 : (if (judF p ts t).isEmpty = true then putB B (rwOf t).k (rwOf t).d else B).length ≤ B.length + 1 := by
      split
      · exact put_len _ _ _
      · omega
    rw [List.length_cons]
    omega
theorem keptB_app : ∀ (us vs : List Str) (B : Bk), keptB p ts (us ++ vs) B = keptB p ts vs (keptB p ts us B)
  | [], vs, B => rfl
  | t :: us, vs, B => by
    exact keptB_app us vs (if (judF p ts t).isEmpty = true then putB B (rwOf t).k (rwOf t).d else B)
theorem jud_good {t : Str} (h : (judF p ts t).isEmpty = true) : good p t = true := by
  cases g : good p t with
  | true => rfl
  | false =>
    unfold judF at h
    rw [g, if_neg Bool.false_ne_true] at h
    unfold good at g
    rw [h] at g
    cases g
/-- all rows without faults -/
def keptF (p : Pl) (ts : List Str) : List D := asR (keptB p ts ts [])
theorem sort_book {B : Bk} (h : B.length < 64) : dSorted (.dict (dB B)) = some (.list ((sortS (B.map (·.1))).map .str)) := by
  show (strsOf ((dB B).map (·.1))).bind _ = _
  rw [strsOf_keys]
  exact if_pos (by rw [List.length_map]; exact h)
theorem book_out {B : Bk} (hb : BR B) (hl : B.length < 64) {i j : Nat} {ρ : Env} (hi : ρ[i]? = some (some (.dict (dB B)))) (hj : j < ρ.length) (hij : i ≠ j) :
    eCl (f1 dTuple) (aCons (eLc (iSeq (eCl (f1 dSorted) (aCons (eVar i) aNil))) (tgN j) gYes (e2 dIx (eVar i) (eVar j)) [j]) aNil) ρ = .ok (.tuple (asR B)) := by
  have sl : (sortS (B.map (·.1))).length = B.length := by rw [(sortS_perm _).length_eq, List.length_map]
  refine b1 (x := .list (asR B)) ?_ (d_tuple (by rw [asR_len]; omega))
  have is : iSeq (eCl (f1 dSorted) (aCons (eVar i) aNil)) ρ = .ok ((sortS (B.map (·.1))).map .str) := by
    unfold iSeq
    rw [b1 (by rw [p_var, hi]) (sort_book hl)]
    rfl
  rw [lc_map (ds := (sortS (B.map (·.1))).map .str) (fun d => (getB B (txD d)).getD .none) is (by rw [List.length_map]; omega) fun d hd => ?_]
  · rw [List.map_map]
    rfl
  · obtain ⟨k, hk, rfl⟩ := List.mem_map.mp hd
    have hk' : k ∈ B.map (·.1) := (sortS_perm _).mem_iff.mp hk
    obtain ⟨d, e⟩ : ∃ d, getB B k = some d := by
      cases q : getB B k with
      | none => exact absurd hk' ((getB_none B k).mp q)
      | some d => exact ⟨d, rfl⟩
    refine ⟨_, rfl, ?_⟩
    refine e2_ok (x := .dict (dB B)) (y := .str k) ?_ ?_ ?_
    · show (match ((ρ.set j none).set j (some (.str k)))[i]? with | some (some d) => Out.ok d | _ => .stuck) = _
      rw [List.getElem?_set_ne (Ne.symm hij), List.getElem?_set_ne (Ne.symm hij), hi]
    · show (match ((ρ.set j none).set j (some (.str k)))[j]? with | some (some d) => Out.ok d | _ => .stuck) = _
      rw [List.getElem?_set_self (by rw [List.length_set]; exact hj)]
    · rw [d_ixB]
      show getB B k = some ((getB B k).getD .none)
      rw [e]
      rfl
theorem zip_pairs : ∀ (us : List Str) (f : Str → D), pairs (us.map .str) (us.map f) = us.map fun t => .tuple [.str t, f t]
  | [], _ => rfl
  | t :: us, f => by
    rw [List.map_cons, List.map_cons, List.map_cons, ← zip_pairs us f]
    rfl
end

/-! ### a heap of texts -/
theorem heap_is {p : Pl} (hp : PlOk p) (n : Int) (most : Nat) (hm : most ≤ 50) : ∃ ts : List Str, f__law_heap [p.d, .int n, .int (most : Nat)] = .ok (.tuple (ts.map .str)) ∧ ts.length ≤ most ∧ ∀ t ∈ ts, TxOk 52 t := by
  unfold f__law_heap
  rw [run_at (by rfl)]
  unfold g__law_heap
  show ∃ ts : List Str, outD (sSeq _ _ [some p.d, some (.int n), some (.int (most : Nat)), none, none, none, none]) = _ ∧ _
  have m1 : dMod (.int n) (.int ((most : Nat) + 1)) = some (.int (n % ((most : Nat) + 1))) := d_mod (by omega)
  have c0 : 0 ≤ n % ((most : Int) + 1) := Int.emod_nonneg _ (by omega)
  have c1' : n % ((most : Int) + 1) < (most : Int) + 1 := Int.emod_lt_of_pos _ (by omega)
  obtain ⟨c, hc⟩ : ∃ c : Nat, n % ((most : Int) + 1) = (c : Nat) := ⟨(n % ((most : Int) + 1)).toNat, by omega⟩
  rw [hc] at m1 c0 c1'
  have rg : iR1 (e2 dMod (eVar 1) (e2 dAdd (eVar 2) (eC (.int 1)))) [some p.d, some (.int n), some (.int (most : Nat)), some (.tuple (([] : List Str).map .str)), none, none, none] = .ok (ups c) := by
    have := r1_ok (g := e2 dMod (eVar 1) (e2 dAdd (eVar 2) (eC (.int 1)))) (ρ := [some p.d, some (.int n), some (.int (most : Nat)), some (.tuple (([] : List Str).map .str)), none, none, none]) (i := (c : Nat)) (e2_ok rfl (e2_ok rfl rfl d_add) m1) (by omega) (by omega)
    rw [this, Int.toNat_natCast]
  -- the loop, with its result at hand
  obtain ⟨ρ', e, hI⟩ := forGo_inv (tg := tgN 4) (b := b__law_heap_1) (fun j ρ' => ∃ (ts : List Str) (x4 x5 x6 : Option D), ts.length = j ∧ (∀ t ∈ ts, TxOk 52 t) ∧ ρ' = [some p.d, some (.int n), some (.int (most : Nat)), some (.tuple (ts.map .str)), x4, x5, x6]) (ups c) 0 (fun j d ρ hd hI => by
    rw [Nat.zero_add] at hI ⊢
    obtain ⟨ts, x4, x5, x6, hl, ok, rfl⟩ := hI
    obtain ⟨rfl, hj⟩ := ups_at hd
    have d4 : dDiv (.int (drawN n (10 + (j : Nat)))) (.int 4) = some (.int (drawN n (10 + (j : Nat)) / 4)) := d_div (by decide)
    have dp : 0 ≤ drawN n (10 + (j : Nat)) / 4 := Int.ediv_nonneg (drawN_pos _ _) (by decide)
    generalize drawN n (10 + (j : Nat)) / 4 = N at d4 dp
    have d8 : dDiv (.int N) (.int 8) = some (.int (N / 8)) := d_div (by decide)
    have dm8 : dMod (.int N) (.int 8) = some (.int (N % 8)) := d_mod (by decide)
    obtain ⟨r, r1, r2⟩ := row_is hp (N / 8) (Int.ediv_nonneg dp (by decide))
    obtain ⟨u1, u2, u3, u4⟩ := r2.text hp
    have tx : TxOk 21 (textD r) := ⟨u3, u4⟩
    obtain ⟨t', e1, h1⟩ := spoilt_is tx (by decide) (N / 8)
    have h1 : TxOk 52 t' := h1
    have ten : dAdd (.int 10) (.int (j : Nat)) = some (.int (10 + (j : Nat))) := d_add
    let base : List Str → D → Env := fun ts x6 => [some p.d, some (.int n), some (.int (most : Nat)), some (.tuple (ts.map .str)), some (.int (j : Nat)), some (.int N), some x6]
    -- appended
    have app : ∀ t : Str, TxOk 52 t → ∃ ρ2, b__law_heap_1_5 (base ts (.str t)) = .ok (.nx ρ2) ∧ ∃ (ts : List Str) (x4 x5 x6 : Option D), ts.length = j + 1 ∧ (∀ t ∈ ts, TxOk 52 t) ∧ ρ2 = [some p.d, some (.int n), some (.int (most : Nat)), some (.tuple (ts.map .str)), x4, x5, x6] := fun t ht => by
      refine ⟨_, st_set (e2_ok (x := .tuple (ts.map .str)) (y := .tuple [.str t]) rfl rfl (add_tup (by rw [List.length_map, List.length_singleton]; omega))), ts ++ [t], some (.int (j : Nat)), some (.int N), some (.str t), by rw [List.length_append, List.length_singleton, hl], fun z hz => ?_, ?_⟩
      · rcases List.mem_append.mp hz with hz | hz
        · exact ok z hz
        · rw [List.mem_singleton.mp hz]
          exact ht
      · rw [List.map_append]
        rfl
    -- one told before, perhaps
    have four : ∀ t : Str, TxOk 52 t → ∃ ρ2, b__law_heap_1_4 (base ts (.str t)) = .ok (.nx ρ2) ∧ ∃ (ts : List Str) (x4 x5 x6 : Option D), ts.length = j + 1 ∧ (∀ t ∈ ts, TxOk 52 t) ∧ ρ2 = [some p.d, some (.int n), some (.int (most : Nat)), some (.tuple (ts.map .str)), x4, x5, x6] := fun t ht => by
      have t1 : tV (e2 dEq (e2 dMod (eVar 5) (eC (.int 8))) (eC (.int 1))) (base ts (.str t)) = .ok (decide (N % 8 = 1)) := tv_ok (e2_ok (e2_ok rfl rfl dm8) rfl d_eqI)
      have t2 : tV (e2 dNe (eVar 3) (eTup aNil)) (base ts (.str t)) = .ok (!ts.isEmpty) := by
        refine tv_ok (e2_ok rfl rfl ?_)
        cases ts with
        | nil => exact ne_same nbNil (by decide)
        | cons x xs => exact (d_neN (nbStrT (x :: xs)) nbNil (by decide)).trans (by rw [@decide_eq_false _ (Classical.propDecidable _) fun z => by cases PyData.tuple.inj z]; rfl)
      have tt := and_b t1 fun _ => t2
      cases c : (decide (N % 8 = 1) && !ts.isEmpty) with
      | false =>
        rw [c] at tt
        obtain ⟨ρ2, a1, a2⟩ := app t ht
        exact ⟨ρ2, st_seq (st_no tt rfl) a1, a2⟩
      | true =>
        rw [c] at tt
        simp only [Bool.and_eq_true, Bool.not_eq_true', decide_eq_true_eq] at c
        have pos : 0 < (ts.length : Int) := by
          cases ts with
          | nil => exact absurd c.2 (by decide)
          | cons a b => simp only [List.length_cons]; omega
        have dl : dMod (.int (N / 8)) (.int (ts.length : Nat)) = some (.int (N / 8 % (ts.length : Nat))) := d_mod pos
        have i0 : 0 ≤ N / 8 % (ts.length : Int) := Int.emod_nonneg _ (by omega)
        have i1 : N / 8 % (ts.length : Int) < ts.length := Int.emod_lt_of_pos _ pos
        have hi : (N / 8 % (ts.length : Int)).toNat < ts.length := by omega
        have ln : dLen (.tuple (ts.map .str)) = some (.int ts.length) := by rw [d_lenT, List.length_map]
        have ix : dIx (.tuple (ts.map .str)) (.int (N / 8 % (ts.length : Nat))) = some (.str ts[(N / 8 % (ts.length : Int)).toNat]) := by
          rw [d_ixT, atI_pos i0 (by rw [List.length_map]; exact i1), List.getElem?_map, List.getElem?_eq_getElem hi]
          rfl
        obtain ⟨ρ2, a1, a2⟩ := app _ (ok _ (List.getElem_mem hi))
        exact ⟨ρ2, st_seq (st_yes tt (st_set (e2_ok rfl (e2_ok (e2_ok rfl rfl d8) (b1 rfl ln) dl) ix))) a1, a2⟩
    have t0 : tV (e2 dEq (e2 dMod (eVar 5) (eC (.int 8))) (eC (.int 0))) (base ts (.str (textD r))) = .ok (decide (N % 8 = 0)) := tv_ok (e2_ok (e2_ok rfl rfl dm8) rfl d_eqI)
    refine ⟨_, rfl, ?_⟩
    have s5 : ∀ x6 : Option D, sSet 5 (e2 dDiv (eCall f__law_drawn (aCons (eVar 1) (aCons (e2 dAdd (eC (.int 10)) (eVar 4)) aNil))) (eC (.int 4))) [some p.d, some (.int n), some (.int (most : Nat)), some (.tuple (ts.map .str)), some (.int (j : Nat)), x5, x6] = .ok (.nx [some p.d, some (.int n), some (.int (most : Nat)), some (.tuple (ts.map .str)), some (.int (j : Nat)), some (.int N), x6]) := fun x6 => st_set (e2_ok (c2 rfl (e2_ok rfl rfl ten) (drawn_is n (10 + (j : Nat)))) rfl d4)
    have s6 : sSet 6 (eCall f__law_text (aCons (eCall f__law_row (aCons (eVar 0) (aCons (e2 dDiv (eVar 5) (eC (.int 8))) aNil))) aNil)) [some p.d, some (.int n), some (.int (most : Nat)), some (.tuple (ts.map .str)), some (.int (j : Nat)), some (.int N), x6] = .ok (.nx (base ts (.str (textD r)))) := st_set (c1 (c2 rfl (e2_ok rfl rfl d8) r1) (law_text_is hp r2))
    by_cases h0 : N % 8 = 0
    · rw [decide_eq_true h0] at t0
      obtain ⟨ρ2, a1, a2⟩ := four t' h1
      exact ⟨ρ2, .inl (st_seq (s5 x6) (st_seq s6 (st_seq (st_yes t0 (st_set (c2 rfl (e2_ok rfl rfl d8) e1))) a1))), a2⟩
    · rw [decide_eq_false h0] at t0
      obtain ⟨ρ2, a1, a2⟩ := four (textD r) (tx.mono (by decide))
      exact ⟨ρ2, .inl (st_seq (s5 x6) (st_seq s6 (st_seq (st_no t0 rfl) a1))), a2⟩) _ ⟨[], none, none, none, rfl, fun t ht => (nomatch ht), rfl⟩
  rw [Nat.zero_add] at hI
  obtain ⟨ts, x4, x5, x6, hl, ok, rfl⟩ := hI
  rw [ups_len] at hl
  refine ⟨ts, q_set (d := .tuple (([] : List Str).map .str)) rfl (q_nx ((p_for rg).trans e) rfl), by omega, ok⟩

theorem hp20 {ts : List Str} (h : ts.length ≤ 50) (ok : ∀ t ∈ ts, TxOk 52 t) : Hp20 ts := ⟨by omega, fun t ht => Nat.le_trans (ok t ht).1 (by decide)⟩
theorem judD_nb (p : Pl) (ts us : List Str) : NB 2 (.tuple (us.map (judD p ts))) := by
  simp only [NB]
  intro d hd
  obtain ⟨t, _, rfl⟩ := List.mem_map.mp hd
  exact nbStrT _
theorem asR_rows {B : Bk} (h : BR B) : ∀ r ∈ asR B, IsRow r := (asR_st h).row

/-! ### rows with keys of their own, told by any list of them -/
def parN (R : List Rw) (k : Str) : Option (Option Str) := (R.find? fun r => decide (r.k = k)).map (·.q)
theorem nodup_cnt : ∀ {ks : List Str}, ks.Nodup → ∀ {k : Str}, k ∈ ks → ks.countP (fun j => decide (j = k)) = 1
  | [], _, _, m => nomatch m
  | j :: ks, h, k, m => by
    obtain ⟨h1, h2⟩ := List.nodup_cons.mp h
    rw [List.countP_cons]
    rcases List.mem_cons.mp m with e | m
    · have : ks.countP (fun i => decide (i = k)) = 0 := List.countP_eq_zero.mpr fun z hz => by
        simp only [decide_eq_true_eq]
        exact fun q => h1 (by rw [← e, ← q]; exact hz)
      rw [this, if_pos (by rw [e]; simp)]
    · have : j ≠ k := fun e => h1 (e ▸ m)
      rw [nodup_cnt h2 m, if_neg (by simpa using this)]
theorem al_self {R : List Rw} (nd : (R.map (·.k)).Nodup) : al R = R := by
  unfold al
  refine List.filter_eq_self.mpr fun r hr => decide_eq_true ?_
  unfold cntK
  exact nodup_cnt nd (List.mem_map.mpr ⟨r, hr, rfl⟩)
theorem nd_of_keys {R : List Rw} (nd : (R.map (·.k)).Nodup) : R.Nodup := by
  rw [List.nodup_iff_pairwise_ne, List.pairwise_map] at nd
  rw [List.nodup_iff_pairwise_ne]
  exact nd.imp fun h e => h (by rw [e])
theorem PR_as {p : Pl} {ts : List Str} {R : List Rw} (nd : R.Nodup) (h : ∀ r, r ∈ gl p ts ↔ r ∈ R) : (PR p ts).Perm R :=
  (List.perm_ext_iff_of_nodup (PR_nodup p ts) nd).mpr fun r => PR_mem.trans (h r)
theorem PR_eq {p : Pl} {ts us : List Str} (h : ∀ r, r ∈ gl p ts ↔ r ∈ gl p us) : PR p ts = PR p us := by
  unfold PR
  congr 1
  refine setK_uniq (setK_nodup _) (fun k => ?_) ?_
  · rw [setK_mem, List.mem_map, List.mem_map]
    constructor
    · rintro ⟨r, hr, e⟩
      exact ⟨r, (h r).mp hr, e⟩
    · rintro ⟨r, hr, e⟩
      exact ⟨r, (h r).mpr hr, e⟩
  · exact sortK_rises _
theorem jud_eq {p : Pl} {ts us : List Str} (h : ∀ r, r ∈ gl p ts ↔ r ∈ gl p us) (t : Str) : judF p ts t = judF p us t := by
  unfold judF
  rw [PR_eq h]
theorem jud_dist {p : Pl} {ts : List Str} {R : List Rw} (nd : (R.map (·.k)).Nodup) (h : ∀ r, r ∈ gl p ts ↔ r ∈ R) {t : Str} (g : good p t = true) (m : rwOf t ∈ R) : judF p ts t = lawGo (parN R) (rwOf t).k (R.length + 1) (rwOf t).q := by
  have pm := PR_as (p := p) (ts := ts) (nd_of_keys nd) h
  have e1 : parM (PR p ts) = parN R := by
    rw [parM_perm pm]
    funext k
    unfold parM parN
    rw [al_self nd]
  have e2 : (al (PR p ts)).length = R.length := by rw [(al_perm pm).length_eq, al_self nd]
  unfold judF
  rw [if_pos g, e1, e2]
  have : parN R (rwOf t).k = some (rwOf t).q := by
    unfold parN
    rw [(find_iff nd).mpr ⟨m, rfl⟩]
    rfl
  rw [this]
theorem gl_cons {p : Pl} {t : Str} {ts : List Str} : gl p (t :: ts) = (if good p t = true then [rwOf t] else []) ++ gl p ts := by
  unfold gl
  rw [List.filter_cons]
  split <;> rfl
theorem gl_nil {p : Pl} : gl p [] = [] := rfl
theorem gl_one {p : Pl} {t : Str} (g : good p t = true) : gl p [t] = [rwOf t] := by
  rw [gl_cons, if_pos g, gl_nil]
  rfl
theorem gl_two {p : Pl} {t : Str} (r : Rw) : r ∈ gl p [t, t] ↔ r ∈ gl p [t] := by
  rw [gl_cons, gl_cons, gl_nil]
  split <;> simp
/-- a text alone -/
theorem jud_one {p : Pl} {t : Str} (g : good p t = true) : judF p [t] t = match (rwOf t).q with
  | none => []
  | some x => if x = (rwOf t).k then ["ring"] else ["lost"] := by
  rw [jud_dist (R := [rwOf t]) (by simp) (fun r => by rw [gl_one g]) g (by simp)]
  cases (rwOf t).q with
  | none => rfl
  | some x =>
    show (if x = (rwOf t).k then _ else match parN [rwOf t] x with | none => _ | some q => _) = if x = (rwOf t).k then _ else _
    by_cases e : x = (rwOf t).k
    · rw [if_pos e, if_pos e]
    · rw [if_neg e, if_neg e]
      have : parN [rwOf t] x = none := by
        unfold parN
        rw [List.find?_cons, decide_eq_false (fun z => e z.symm)]
        rfl
      rw [this]
theorem jud_bad {p : Pl} {ts : List Str} {t : Str} (g : good p t = false) : judF p ts t = faultsF p t := by
  unfold judF
  rw [g, if_neg Bool.false_ne_true]
theorem kept_one {p : Pl} {t : Str} : keptF p [t] = if (judF p [t] t).isEmpty = true then [(rwOf t).d] else [] := by
  unfold keptF
  show asR (if (judF p [t] t).isEmpty = true then putB [] (rwOf t).k (rwOf t).d else []) = _
  split
  · show asR [((rwOf t).k, (rwOf t).d)] = _
    unfold asR
    show [(getB [((rwOf t).k, (rwOf t).d)] (rwOf t).k).getD .none] = _
    rw [getB_cons, if_pos rfl]
    rfl
  · rfl
theorem kept_two {p : Pl} {t : Str} : keptF p [t, t] = keptF p [t] := by
  have e : judF p [t, t] t = judF p [t] t := jud_eq gl_two t
  unfold keptF
  show asR (let B := (if (judF p [t, t] t).isEmpty = true then putB [] (rwOf t).k (rwOf t).d else []); if (judF p [t, t] t).isEmpty = true then putB B (rwOf t).k (rwOf t).d else B) = asR (if (judF p [t] t).isEmpty = true then putB [] (rwOf t).k (rwOf t).d else [])
  rw [e]
  cases (judF p [t] t).isEmpty with
  | false => rfl
  | true =>
    show asR (putB [((rwOf t).k, (rwOf t).d)] (rwOf t).k (rwOf t).d) = asR [((rwOf t).k, (rwOf t).d)]
    unfold putB
    rw [if_pos (by simp)]
    simp

/-! ### where the ways end: at a root, in a ring, or nowhere -/
inductive Kp (par : Str → Option (Option Str)) : Str → Prop
  | root {k : Str} : par k = some none → Kp par k
  | up {k y : Str} : par k = some (some y) → Kp par y → Kp par k
inductive Goes (par : Str → Option (Option Str)) : Str → Str → Prop
  | one {k y : Str} : par k = some (some y) → Goes par k y
  | more {k y z : Str} : par k = some (some y) → Goes par y z → Goes par k z
def Rg (par : Str → Option (Option Str)) (k : Str) : Prop := Goes par k k
section
variable {par : Str → Option (Option Str)} {k x : Str} {pre dom : List Str}
theorem Kp.next {z y : Str} (h : Kp par z) (e : par z = some (some y)) : Kp par y := by
  cases h with
  | root h => rw [e] at h; cases h
  | up h r => rw [e] at h; cases h; exact r
theorem Goes.snoc {a b c : Str} (h : Goes par a b) (e : par b = some (some c)) : Goes par a c := by
  induction h with
  | one h => exact .more h (.one e)
  | more h _ ih => exact .more h (ih e)
theorem Goes.next {a b y : Str} (h : Goes par a b) (e : par a = some (some y)) : y = b ∨ Goes par y b := by
  cases h with
  | one h => rw [e] at h; cases h; exact .inl rfl
  | more h r => rw [e] at h; cases h; exact .inr r
theorem Goes.step {a b : Str} (h : Goes par a b) : ∃ y, par a = some (some y) := by
  cases h with
  | one h => exact ⟨_, h⟩
  | more h _ => exact ⟨_, h⟩
theorem Rg.next {z y : Str} (h : Rg par z) (e : par z = some (some y)) : Rg par y := by
  rcases Goes.next h e with rfl | r
  · exact h
  · exact r.snoc e
theorem Kp.no_ring (h : Kp par k) : ¬ Rg par k := by
  induction h with
  | root h =>
    intro r
    obtain ⟨y, e⟩ := Goes.step r
    rw [h] at e
    cases e
  | up h _ ih => exact fun r => ih (Rg.next r h)
theorem Goes.closed {S : Str → Prop} (hS : ∀ z, S z → ∀ y, par z = some (some y) → S y) {a b : Str} (h : Goes par a b) (ha : S a) : S b := by
  induction h with
  | one h => exact hS _ ha _ h
  | more h _ ih => exact ih (hS _ ha _ h)
theorem nx_of {z y : Str} (h : par z = some (some y)) : nx par z = some y := by
  unfold nx
  rw [h]
  rfl
/-- along the way -/
theorem Way.along (W : Way par k pre x) {S : Str → Prop} (h0 : S k) (hS : ∀ z, S z → ∀ y, par z = some (some y) → S y) : ∀ (i : Nat) (z : Str), (pre ++ [x])[i]? = some z → S z := by
  intro i
  induction i with
  | zero =>
    intro z h
    rw [W.hd] at h
    cases h
    exact h0
  | succ i ih =>
    intro z h
    have hi : i + 1 < (pre ++ [x]).length := (List.getElem?_eq_some_iff.mp h).1
    rw [List.length_append, List.length_singleton] at hi
    obtain ⟨u, hu⟩ : ∃ u, pre[i]? = some u := ⟨pre[i]'(by omega), List.getElem?_eq_getElem _⟩
    have e := W.ch i u hu
    rw [h] at e
    refine hS u (ih u ?_) z (nx_some e)
    rw [List.getElem?_append_left (by omega)]
    exact hu
theorem Way.last (W : Way par k pre x) {S : Str → Prop} (h0 : S k) (hS : ∀ z, S z → ∀ y, par z = some (some y) → S y) : S x :=
  W.along h0 hS pre.length x (by rw [List.getElem?_append_right (Nat.le_refl _), Nat.sub_self]; rfl)
/-- back along it -/
theorem Way.back (W : Way par k pre x) {S : Str → Prop} (hx : S x) (hS : ∀ z y, par z = some (some y) → S y → S z) : S k := by
  have key : ∀ (n i : Nat) (z : Str), i + n = pre.length → (pre ++ [x])[i]? = some z → S z := by
    intro n
    induction n with
    | zero =>
      intro i z hi h
      have : i = pre.length := by omega
      subst this
      rw [List.getElem?_append_right (Nat.le_refl _), Nat.sub_self] at h
      have : x = z := Option.some.inj h
      exact this ▸ hx
    | succ n ih =>
      intro i z hi h
      rw [List.getElem?_append_left (by omega)] at h
      have e := W.ch i z h
      have hl : i + 1 < (pre ++ [x]).length := by rw [List.length_append, List.length_singleton]; omega
      rw [List.getElem?_eq_getElem hl] at e
      exact hS z _ (nx_some e) (ih (i + 1) _ (by omega) (List.getElem?_eq_getElem hl))
  exact key pre.length 0 k (by omega) W.hd
theorem Way.kept (W : Way par k pre x) (S : Stop par pre x) : togF par k pre x = [] ↔ Kp par k := by
  constructor
  · intro h
    unfold togF at h
    by_cases m : x ∈ pre
    · rw [if_pos m] at h
      split at h <;> cases h
    · rw [if_neg m] at h
      rcases S with S | ⟨_, S⟩
      · exact absurd S m
      · have hx : par x = some none := by
          cases hp : par x with
          | none => rw [hp] at h; cases h
          | some o =>
            unfold nx at S
            rw [hp] at S
            have S : o = none := S
            rw [S]
        exact W.back (S := Kp par) (.root hx) fun z y e h => .up e h
  · intro h
    have hx : Kp par x := W.last (S := Kp par) h fun z hz y e => hz.next e
    unfold togF
    by_cases m : x ∈ pre
    · exfalso
      -- x would go round
      obtain ⟨y, hy⟩ := W.mem m
      have all : ∀ z ∈ pre, Kp par z := fun z hz => by
        obtain ⟨i, hi, e⟩ := List.getElem_of_mem hz
        exact W.along (S := Kp par) h (fun z hz y e => hz.next e) i z (by rw [List.getElem?_append_left hi, List.getElem?_eq_getElem hi, e])
      obtain ⟨j, hj, ej⟩ := List.getElem_of_mem m
      -- all behind j go to x
      have go : ∀ (n i : Nat) (z : Str), i + n + 1 = pre.length → pre[i]? = some z → Goes par z x := by
        intro n
        induction n with
        | zero =>
          intro i z hi hz
          have e := W.ch i z hz
          rw [show i + 1 = pre.length by omega, List.getElem?_append_right (Nat.le_refl _), Nat.sub_self] at e
          exact .one (nx_some e)
        | succ n ih =>
          intro i z hi hz
          have e := W.ch i z hz
          have hl : i + 1 < pre.length := by omega
          rw [List.getElem?_append_left hl, List.getElem?_eq_getElem hl] at e
          exact .more (nx_some e) (ih (i + 1) _ (by omega) (List.getElem?_eq_getElem hl))
      exact hx.no_ring (go (pre.length - 1 - j) j x (by omega) (by rw [List.getElem?_eq_getElem hj, ej]))
    · rw [if_neg m]
      cases hx with
      | root e => rw [e]; rfl
      | up e _ =>
        rcases S with S | ⟨_, S⟩
        · exact absurd S m
        · rw [nx_of e] at S
          cases S
theorem Way.ring (W : Way par k pre x) (S : Stop par pre x) : togF par k pre x = [("ring" : Str)] ↔ Rg par k := by
  have go : ∀ (n i : Nat) (z : Str), i + n + 1 = pre.length → pre[i]? = some z → Goes par z x := by
    intro n
    induction n with
    | zero =>
      intro i z hi hz
      have e := W.ch i z hz
      rw [show i + 1 = pre.length by omega, List.getElem?_append_right (Nat.le_refl _), Nat.sub_self] at e
      exact .one (nx_some e)
    | succ n ih =>
      intro i z hi hz
      have e := W.ch i z hz
      have hl : i + 1 < pre.length := by omega
      rw [List.getElem?_append_left hl, List.getElem?_eq_getElem hl] at e
      exact .more (nx_some e) (ih (i + 1) _ (by omega) (List.getElem?_eq_getElem hl))
  constructor
  · intro h
    unfold togF at h
    by_cases m : x ∈ pre
    · rw [if_pos m] at h
      by_cases e : x = k
      · subst e
        have pos : 0 < pre.length := List.length_pos_of_mem m
        have h0 := W.hd
        rw [List.getElem?_append_left pos] at h0
        exact go (pre.length - 1) 0 x (by omega) h0
      · rw [if_neg e] at h
        exact absurd (List.cons.inj h).1 (by decide +kernel)
    · rw [if_neg m] at h
      split at h
      · cases h
      · exact absurd (List.cons.inj h).1 (by decide +kernel)
  · intro h
    -- all go to k
    have tok : Goes par x k := W.last (S := fun z => Goes par z k) h fun z hz y e => by
      rcases Goes.next hz e with rfl | r
      · exact h
      · exact r
    obtain ⟨y, hy⟩ := tok.step
    unfold togF
    rcases S with m | ⟨_, S⟩
    · rw [if_pos m]
      by_cases e : x = k
      · rw [if_pos e]
      · exfalso
        obtain ⟨j, hj, ej⟩ := List.getElem_of_mem m
        have pos : 0 < pre.length := List.length_pos_of_mem m
        have h0 := W.hd
        rw [List.getElem?_append_left pos] at h0
        have hxj : pre[j]? = some x := by rw [List.getElem?_eq_getElem hj, ej]
        have j0 : j ≠ 0 := fun z => e (by rw [z, h0] at hxj; exact (Option.some.inj hxj).symm)
        have cl := Goes.closed (S := fun z => ∃ i, j ≤ i ∧ pre[i]? = some z) (fun z ⟨i, hi, hz⟩ y e => by
          have c := W.ch i z hz
          rw [nx_of e] at c
          have il := (List.getElem?_eq_some_iff.mp hz).1
          by_cases hl : i + 1 < pre.length
          · rw [List.getElem?_append_left hl] at c
            exact ⟨i + 1, by omega, c.symm⟩
          · rw [show i + 1 = pre.length by omega, List.getElem?_append_right (Nat.le_refl _), Nat.sub_self] at c
            have : y = x := Option.some.inj c
            exact ⟨j, Nat.le_refl _, by rw [this]; exact hxj⟩) tok ⟨j, Nat.le_refl _, hxj⟩
        obtain ⟨i, hi, hz⟩ := cl
        exact nd_ne W.nd hz h0 (by omega) rfl
    · rw [nx_of hy] at S
      cases S
theorem Way.lost (W : Way par k pre x) (S : Stop par pre x) (h1 : ¬ Kp par k) (h2 : ¬ Rg par k) : togF par k pre x = [("lost" : Str)] := by
  have a := mt (W.kept S).mp h1
  have b := mt (W.ring S).mp h2
  unfold togF at *
  split
  · rename_i m
    rw [if_pos m] at b
    split
    · rename_i e
      rw [if_pos e] at b
      exact absurd rfl b
    · rfl
  · rename_i m
    rw [if_neg m] at a
    split
    · rename_i e
      rw [if_pos e] at a
      exact absurd rfl a
    · rfl
/-- there is such a way -/
theorem way_ends (hd : ∀ z, par z ≠ none → z ∈ dom) : ∀ (f : Nat) (pre : List Str) (x : Str), Way par k pre x → dom.length < f + pre.length → ∃ pre' x', Way par k pre' x' ∧ Stop par pre' x' := by
  intro f
  induction f with
  | zero =>
    intro pre x W h
    have := W.len hd
    omega
  | succ f ih =>
    intro pre x W h
    by_cases m : x ∈ pre
    · exact ⟨pre, x, W, .inl m⟩
    · cases hn : nx par x with
      | none => exact ⟨pre, x, W, .inr ⟨m, hn⟩⟩
      | some y => exact ih (pre ++ [x]) y (W.next m hn) (by rw [List.length_append, List.length_singleton]; omega)
open Classical in
/-- the fate of a key that stands alone -/
noncomputable def fateC (par : Str → Option (Option Str)) (k : Str) : List Str := if Kp par k then [] else if Rg par k then ["ring"] else ["lost"]
theorem law_fate (hd : ∀ z, par z ≠ none → z ∈ dom) {q : Option Str} (hk : par k = some q) : lawGo par k (dom.length + 1) q = fateC par k := by
  obtain ⟨pre, x, W, S⟩ := way_ends hd (dom.length + 1) [] k (Way.nil k) (by rw [List.length_nil]; omega)
  rw [← W.same S hd hk]
  unfold fateC
  by_cases h1 : Kp par k
  · rw [if_pos h1]
    exact (W.kept S).mpr h1
  · rw [if_neg h1]
    by_cases h2 : Rg par k
    · rw [if_pos h2]
      exact (W.ring S).mpr h2
    · rw [if_neg h2]
      exact W.lost S h1 h2
/-! ### fewer rows -/
variable {par' : Str → Option (Option Str)}
theorem Kp.sub (hs : ∀ x o, par' x = some o → par x = some o) (h : Kp par' k) : Kp par k := by
  induction h with
  | root h => exact .root (hs _ _ h)
  | up h _ ih => exact .up (hs _ _ h) ih
theorem Kp.keep (hk : ∀ x, Kp par x → par' x = par x) (h : Kp par k) : Kp par' k := by
  induction h with
  | root h => exact .root (by rw [hk _ (.root h)]; exact h)
  | up h r ih => exact .up (by rw [hk _ (.up h r)]; exact h) ih
theorem Goes.sub (hs : ∀ x o, par' x = some o → par x = some o) {a b : Str} (h : Goes par' a b) : Goes par a b := by
  induction h with
  | one h => exact .one (hs _ _ h)
  | more h _ ih => exact .more (hs _ _ h) ih
theorem Goes.keep (hk : ∀ x, Rg par x → par' x = par x) {a b : Str} (h : Goes par a b) (r : Rg par a) : Goes par' a b := by
  induction h with
  | one h => exact .one (by rw [hk _ r]; exact h)
  | more h _ ih => exact .more (by rw [hk _ r]; exact h) (ih (r.next h))
theorem fate_sub (hs : ∀ x o, par' x = some o → par x = some o) (hk : ∀ x, Kp par x → par' x = par x) (hr : ∀ x, Rg par x → par' x = par x) : fateC par' k = fateC par k := by
  have a : Kp par' k ↔ Kp par k := ⟨Kp.sub hs, Kp.keep hk⟩
  have b : Rg par' k ↔ Rg par k := ⟨Goes.sub hs, fun r => Goes.keep hr r r⟩
  unfold fateC
  by_cases h1 : Kp par k
  · rw [if_pos h1, if_pos (a.mpr h1)]
  · rw [if_neg h1, if_neg (mt a.mp h1)]
    by_cases h2 : Rg par k
    · rw [if_pos h2, if_pos (b.mpr h2)]
    · rw [if_neg h2, if_neg (mt b.mp h2)]
end

/-! ### what is kept, told by its members -/
noncomputable def Jk (par : Str → Option (Option Str)) (k : Str) : List Str := match par k with
  | none => ["twice"]
  | some _ => fateC par k
section
variable {p : Pl} {ts : List Str}
theorem al_dom (R : List Rw) (z : Str) (h : parM R z ≠ none) : z ∈ (al R).map (·.k) := by
  unfold parM at h
  cases q : (al R).find? (fun r => decide (r.k = z)) with
  | none => rw [q] at h; exact absurd rfl h
  | some r =>
    obtain ⟨m, e⟩ := (find_iff (al_nodup R)).mp q
    exact List.mem_map.mpr ⟨r, m, e⟩
theorem jud_J {t : Str} (g : good p t = true) : judF p ts t = Jk (parM (PR p ts)) (rwOf t).k := by
  unfold judF Jk
  rw [if_pos g]
  cases h : parM (PR p ts) (rwOf t).k with
  | none => rfl
  | some q =>
    have := law_fate (par := parM (PR p ts)) (k := (rwOf t).k) (dom := (al (PR p ts)).map (·.k)) (al_dom _) h
    rw [List.length_map] at this
    exact this
theorem fate_nil {par : Str → Option (Option Str)} {k : Str} : fateC par k = [] ↔ Kp par k := by
  unfold fateC
  by_cases h : Kp par k
  · rw [if_pos h]
    exact ⟨fun _ => h, fun _ => rfl⟩
  · rw [if_neg h]
    refine ⟨fun e => ?_, fun z => absurd z h⟩
    split at e <;> cases e
theorem jud_nil {t : Str} : judF p ts t = [] ↔ good p t = true ∧ Kp (parM (PR p ts)) (rwOf t).k := by
  constructor
  · intro h
    have g := jud_good (p := p) (ts := ts) (t := t) (by rw [h]; rfl)
    rw [jud_J g] at h
    unfold Jk at h
    cases q : parM (PR p ts) (rwOf t).k with
    | none => rw [q] at h; cases h
    | some o =>
      rw [q] at h
      exact ⟨g, fate_nil.mp h⟩
  · rintro ⟨g, h⟩
    rw [jud_J g]
    unfold Jk
    have : parM (PR p ts) (rwOf t).k ≠ none := by
      cases h with
      | root e => rw [e]; exact fun z => nomatch z
      | up e _ => rw [e]; exact fun z => nomatch z
    cases q : parM (PR p ts) (rwOf t).k with
    | none => exact absurd q this
    | some o => exact fate_nil.mpr h
/-- a key that stands alone has one row -/
theorem par_one {R : List Rw} (nd : R.Nodup) {k : Str} (h : parM R k ≠ none) {r s : Rw} (hr : r ∈ R) (hs : s ∈ R) (er : r.k = k) (es : s.k = k) : r = s := by
  obtain ⟨u, hu, eu⟩ := List.mem_map.mp (al_dom R k h)
  have c1 : cntK R u.k = 1 := of_decide_eq_true (List.mem_filter.mp hu).2
  rw [eu] at c1
  clear hu eu h
  induction R with
  | nil => cases hr
  | cons v R ih =>
    obtain ⟨n1, n2⟩ := List.nodup_cons.mp nd
    unfold cntK at c1
    rw [List.map_cons, List.countP_cons] at c1
    have none_of : v.k = k → ∀ z ∈ R, z.k ≠ k := fun hv z hz e => by
      rw [if_pos (by rw [hv]; simp)] at c1
      have : 0 < (R.map (·.k)).countP fun j => decide (j = k) := List.countP_pos_iff.mpr ⟨z.k, List.mem_map.mpr ⟨z, hz, rfl⟩, by rw [e]; simp⟩
      omega
    rcases List.mem_cons.mp hr with e1 | hr'
    · rcases List.mem_cons.mp hs with e2 | hs'
      · rw [e1, e2]
      · exact absurd es (none_of (e1 ▸ er) s hs')
    · rcases List.mem_cons.mp hs with e2 | hs'
      · exact absurd er (none_of (e2 ▸ es) r hr')
      · have hv : v.k ≠ k := fun e => none_of e r hr' er
        refine ih n2 hr' hs' ?_
        rw [if_neg (by simpa using hv)] at c1
        exact c1
theorem mem_PR {t : Str} (ht : t ∈ ts) (g : good p t = true) : rwOf t ∈ PR p ts :=
  PR_mem.mpr (List.mem_map.mpr ⟨t, List.mem_filter.mpr ⟨ht, g⟩, rfl⟩)
theorem keptB_get : ∀ (us : List Str) (B : Bk) (k : Str) (d : D), getB (keptB p ts us B) k = some d → (∃ t ∈ us, judF p ts t = [] ∧ (rwOf t).k = k ∧ d = (rwOf t).d) ∨ getB B k = some d
  | [], B, k, d, h => .inr h
  | t :: us, B, k, d, h => by
    rcases keptB_get us _ k d h with ⟨u, hu, r⟩ | h
    · exact .inl ⟨u, List.mem_cons_of_mem _ hu, r⟩
    · by_cases c : (judF p ts t).isEmpty = true
      · rw [if_pos c, getB_put] at h
        split at h
        · rename_i e
          cases h
          exact .inl ⟨t, List.mem_cons_self, List.isEmpty_iff.mp c, e, rfl⟩
        · exact .inr h
      · rw [if_neg c] at h
        exact .inr h
theorem keptB_old : ∀ (us : List Str) (B : Bk) (k : Str), getB B k ≠ none → getB (keptB p ts us B) k ≠ none
  | [], B, k, h => h
  | t :: us, B, k, h => by
    refine keptB_old us _ k ?_
    split
    · rw [getB_put]
      split
      · exact fun z => nomatch z
      · exact h
    · exact h
theorem keptB_has : ∀ (us : List Str) (B : Bk) (t : Str), t ∈ us → judF p ts t = [] → getB (keptB p ts us B) (rwOf t).k ≠ none
  | u :: us, B, t, m, h => by
    rcases List.mem_cons.mp m with rfl | m
    · refine keptB_old us _ _ ?_
      rw [h]
      show getB (putB B (rwOf t).k (rwOf t).d) (rwOf t).k ≠ none
      rw [getB_put, if_pos rfl]
      exact fun z => nomatch z
    · exact keptB_has us _ t m h
theorem kept_mem {r : D} : r ∈ keptF p ts ↔ ∃ t ∈ ts, judF p ts t = [] ∧ r = (rwOf t).d := by
  have br := keptB_br (p := p) (ts := ts) ts [] BR.nil
  have st := asR_st br
  constructor
  · intro h
    have e := st.mem.mp h
    rw [asR_look br] at e
    rcases keptB_get ts [] _ _ e with ⟨t, h1, h2, _, h4⟩ | z
    · exact ⟨t, h1, h2, h4⟩
    · cases z
  · rintro ⟨t, ht, hj, rfl⟩
    refine st.mem.mpr ?_
    rw [asR_look br]
    show getB (keptB p ts ts []) (rwOf t).k = _
    cases q : getB (keptB p ts ts []) (rwOf t).k with
    | none => exact absurd q (keptB_has ts [] t ht hj)
    | some d =>
      rcases keptB_get ts [] _ _ q with ⟨u, h1, h2, h3, h4⟩ | z
      · obtain ⟨g1, k1⟩ := jud_nil.mp hj
        obtain ⟨g2, _⟩ := jud_nil.mp h2
        have hp : parM (PR p ts) (rwOf t).k ≠ none := by
          cases k1 with
          | root e => rw [e]; exact fun z => nomatch z
          | up e _ => rw [e]; exact fun z => nomatch z
        rw [h4, par_one (PR_nodup p ts) hp (mem_PR h1 g2) (mem_PR ht g1) h3 rfl]
      · cases z
theorem kept_st : St (keptF p ts) := asR_st (keptB_br ts [] BR.nil)
theorem st_mem {S R : List D} (h : St S) (h' : St R) (e : ∀ r, r ∈ S ↔ r ∈ R) : S = R := by
  refine st_ext h h' fun k => ?_
  cases q : look S k with
  | some r =>
    obtain ⟨m, er⟩ := look_key q
    have := h'.mem.mp ((e r).mp m)
    rw [er] at this
    exact this.symm
  | none =>
    cases q2 : look R k with
    | none => rfl
    | some r =>
      obtain ⟨m, er⟩ := look_key q2
      have := h.mem.mp ((e r).mpr m)
      rw [er, q] at this
      cases this
theorem kept_eq {us : List Str} (h : ∀ r : Rw, (∃ t ∈ ts, judF p ts t = [] ∧ rwOf t = r) ↔ ∃ t ∈ us, judF p us t = [] ∧ rwOf t = r) : keptF p ts = keptF p us := by
  refine st_mem kept_st kept_st fun r => ?_
  rw [kept_mem, kept_mem]
  constructor
  · rintro ⟨t, h1, h2, rfl⟩
    obtain ⟨u, a, b, c⟩ := (h (rwOf t)).mp ⟨t, h1, h2, rfl⟩
    exact ⟨u, a, b, by rw [c]⟩
  · rintro ⟨t, h1, h2, rfl⟩
    obtain ⟨u, a, b, c⟩ := (h (rwOf t)).mpr ⟨t, h1, h2, rfl⟩
    exact ⟨u, a, b, by rw [c]⟩
end

/-! ### reports -/
def nl : Str := "\n"
def linesT (t : Str) : List Str := Txt.split t nl
def joinE (ws : List Str) : Str := Txt.join "" ws
def repS (rows : List Str) : Str := joinE (rows.map (· ++ nl))
theorem joinE_tl : ∀ ws : List Str, (joinE ws).cps.toList = ws.flatMap fun w => w.cps.toList
  | [] => rfl
  | [w] => by
    rw [List.flatMap_cons]
    show w.cps.toList = w.cps.toList ++ []
    rw [List.append_nil]
  | w :: v :: ws => by
    have ih := joinE_tl (v :: ws)
    have e : (joinE (w :: v :: ws)).cps.toList = w.cps.toList ++ ([] ++ (joinE (v :: ws)).cps.toList) := by
      unfold joinE
      rw [TL.join_eq, TL.join_eq]
      show TL.tl (w ++ ("" : Str) ++ Str.join "" (v :: ws)) = _
      rw [TL.tl_append, TL.tl_append, List.append_assoc]
      rfl
    rw [e, ih, List.nil_append]
    rfl
theorem repS_tl (rows : List Str) : (repS rows).cps.toList = rows.flatMap fun r => r.cps.toList ++ [10] := by
  unfold repS
  rw [joinE_tl]
  induction rows with
  | nil => rfl
  | cons r rows ih =>
    rw [List.map_cons, List.flatMap_cons, List.flatMap_cons, ih]
    congr 1
    show TL.tl (r ++ nl) = _
    rw [TL.tl_append]
    rfl
theorem repS_app (a b : List Str) : repS (a ++ b) = repS a ++ repS b := by
  refine str_ext ?_
  show _ = TL.tl (repS a ++ repS b)
  rw [TL.tl_append]
  show _ = (repS a).cps.toList ++ (repS b).cps.toList
  rw [repS_tl, repS_tl, repS_tl, List.flatMap_append]
theorem repS_len (rows : List Str) : (repS rows).length = sumL rows + rows.length := by
  rw [TL.len_tl]
  show (repS rows).cps.toList.length = _
  rw [repS_tl]
  induction rows with
  | nil => rfl
  | cons r rows ih =>
    rw [List.flatMap_cons, List.length_append, ih, sum_cons, List.length_cons, List.length_append, List.length_singleton]
    have : r.cps.toList.length = r.length := (TL.len_tl r).symm
    omega
theorem joinN_tl : ∀ (rows : List Str) (z : Str), (Txt.join nl (rows ++ [z])).cps.toList = (rows.flatMap fun r => r.cps.toList ++ [10]) ++ z.cps.toList
  | [], z => rfl
  | r :: rows, z => by
    have ih := joinN_tl rows z
    obtain ⟨v, ws, e⟩ : ∃ v ws, rows ++ [z] = v :: ws := by
      cases h : rows ++ [z] with
      | nil => simp at h
      | cons v ws => exact ⟨v, ws, rfl⟩
    rw [List.cons_append, e, List.flatMap_cons, List.append_assoc, ← ih, e]
    rw [TL.join_eq, TL.join_eq]
    show TL.tl (r ++ nl ++ Str.join nl (v :: ws)) = _
    rw [TL.tl_append, TL.tl_append]
    rfl
theorem repS_nl (rows : List Str) : repS rows = Txt.join nl (rows ++ [("" : Str)]) := str_ext (by
  rw [repS_tl, joinN_tl]
  show _ = _ ++ []
  rw [List.append_nil])
theorem lines_free {t w : Str} (h : w ∈ linesT t) : ¬ 10 ∈ w.cps.toList := StrLaws.split_free t 10 w h
theorem lines_join (t : Str) : Txt.join nl (linesT t) = t := (TL.join_eq nl _).trans (StrLaws.join_split t nl)
theorem lines_pos (t : Str) : 1 ≤ (linesT t).length := PyProof.Rows.split_pos t nl
theorem lines_rep {rows : List Str} (h : ∀ w ∈ rows, ¬ 10 ∈ w.cps.toList) : linesT (repS rows) = rows ++ [("" : Str)] := by
  unfold linesT
  rw [repS_nl]
  refine TL.split_join (y := nl) (s := 10) (S := []) rfl (by decide +kernel) (by simp) fun w hw => ?_
  rcases List.mem_append.mp hw with hw | hw
  · exact h w hw
  · rw [List.mem_singleton.mp hw]
    decide +kernel
def rowsT (t : Str) : List Str := (linesT t).dropLast
def lastT (t : Str) : Str := (linesT t).getLastD ""
theorem lines_eq (t : Str) : linesT t = rowsT t ++ [lastT t] := by
  have h := lines_pos t
  unfold rowsT lastT
  have hne : linesT t ≠ [] := fun z => by rw [z] at h; cases h
  rw [List.getLastD_eq_getLast?, List.getLast?_eq_some_getLast hne]
  exact (List.dropLast_concat_getLast hne).symm
theorem text_eq (t : Str) : t = repS (rowsT t) ++ lastT t := by
  have h := lines_join t
  rw [lines_eq] at h
  refine str_ext ?_
  rw [← h]
  show _ = TL.tl (repS (rowsT (Txt.join nl (rowsT t ++ [lastT t]))) ++ lastT (Txt.join nl (rowsT t ++ [lastT t])))
  rw [h, TL.tl_append, ← h, joinN_tl, h]
  show _ = (repS (rowsT t)).cps.toList ++ (lastT t).cps.toList
  rw [repS_tl]
theorem rowsT_free {t w : Str} (h : w ∈ rowsT t) : ¬ 10 ∈ w.cps.toList := lines_free (List.dropLast_subset _ h)
theorem rowsT_rep {rows : List Str} (h : ∀ w ∈ rows, ¬ 10 ∈ w.cps.toList) : rowsT (repS rows) = rows ∧ lastT (repS rows) = "" := by
  unfold rowsT lastT
  rw [lines_rep h]
  exact ⟨List.dropLast_concat, by rw [List.getLastD_eq_getLast?, List.getLast?_concat]; rfl⟩
theorem rowsT_sum (t : Str) : sumL (rowsT t) + (rowsT t).length ≤ t.length := by
  rw [← repS_len]
  have := congrArg Str.length (text_eq t)
  rw [len_app] at this
  omega
theorem sub_len {t w : Str} (h : w ∈ rowsT t) : w.length ≤ t.length := by
  have h1 := sum_mem h
  have h2 := rowsT_sum t
  omega
/-! the faults in a report -/
def FIELDSL : List Str := ["key", "parent", "amount", "tag"]
def ALONEL : List Str := ["count", "twice", "ring", "lost"]
def fltIn (ws : List Str) : Option (List Str) :=
  if ws = [("ok" : Str)] then some [] else if ws.length = 1 ∧ ws.headD "" ∈ ALONEL then some ws
  else if ws ≠ [] ∧ ws = FIELDSL.filter (fun w => decide (w ∈ ws)) then some ws else none
def okF (f : List Str) : Prop := f = [] ∨ (∃ x ∈ ALONEL, f = [x]) ∨ (f ≠ [] ∧ f = FIELDSL.filter fun w => decide (w ∈ f))
def okW (f : List Str) : List Str := if f = [] then [("ok" : Str)] else []
def rpW (i : Nat) (f : List Str) : List Str := (toString (i : Int) : Str) :: (f ++ okW f)
def rpR (i : Nat) (f : List Str) : Str := joinT (rpW i f)
def rowsF (i : Nat) : List (List Str) → List Str
  | [] => []
  | f :: fss => rpR i f :: rowsF (i + 1) fss
def readRows (i : Nat) : List Str → Option (List (List Str))
  | [] => some []
  | r :: rs => if (wordsT r).headD "" = (toString (i : Int) : Str) then (fltIn (wordsT r).tail).bind fun f => (readRows (i + 1) rs).map (f :: ·) else none
def readT (t : Str) : Option (List (List Str)) := if lastT t = "" then readRows 0 (rowsT t) else none
theorem rowsF_len : ∀ (fss : List (List Str)) (i : Nat), (rowsF i fss).length = fss.length
  | [], _ => rfl
  | f :: fss, i => by
    show (rowsF (i + 1) fss).length + 1 = _
    rw [rowsF_len fss, List.length_cons]
theorem rowsF_app : ∀ (a b : List (List Str)) (i : Nat), rowsF i (a ++ b) = rowsF i a ++ rowsF (i + a.length) b
  | [], b, i => rfl
  | f :: a, b, i => by
    show rpR i f :: rowsF (i + 1) (a ++ b) = rpR i f :: (rowsF (i + 1) a ++ rowsF (i + (a.length + 1)) b)
    rw [rowsF_app a b, show i + 1 + a.length = i + (a.length + 1) by omega]
theorem rowsF_get : ∀ (fss : List (List Str)) (i j : Nat) (f : List Str), fss[j]? = some f → (rowsF i fss)[j]? = some (rpR (i + j) f)
  | g :: fss, i, 0, f, h => by cases h; rfl
  | g :: fss, i, j + 1, f, h => by
    show (rowsF (i + 1) fss)[j]? = _
    rw [rowsF_get fss (i + 1) j f h, show i + 1 + j = i + (j + 1) by omega]
theorem flt_words {ws f : List Str} (h : fltIn ws = some f) : f ++ okW f = ws := by
  unfold fltIn at h
  split at h
  · rename_i e
    cases h
    rw [e]
    rfl
  · split at h
    · rename_i e
      cases h
      unfold okW
      rw [if_neg fun z => by rw [z] at e; exact absurd e.1 (by decide), List.append_nil]
    · split at h
      · rename_i e
        cases h
        unfold okW
        rw [if_neg e.1, List.append_nil]
      · cases h
theorem flt_okF {ws f : List Str} (h : fltIn ws = some f) : okF f := by
  unfold fltIn at h
  split at h
  · cases h
    exact .inl rfl
  · split at h
    · rename_i e
      cases h
      match ws, e with
      | [x], e => exact .inr (.inl ⟨x, e.2, rfl⟩)
    · split at h
      · rename_i e
        cases h
        exact .inr (.inr e)
      · cases h
theorem okF_flt {f : List Str} (h : okF f) : fltIn (f ++ okW f) = some f := by
  rcases h with rfl | ⟨x, hx, rfl⟩ | ⟨h1, h2⟩
  · rfl
  · have : ([x] : List Str) ++ okW [x] = [x] := rfl
    rw [this]
    unfold fltIn
    rw [if_neg fun z => by
      have := (List.cons.inj z).1
      subst this
      exact absurd hx (by decide +kernel), if_pos ⟨rfl, hx⟩]
  · unfold okW
    rw [if_neg h1, List.append_nil]
    unfold fltIn
    rw [if_neg fun z => by
      have : ("ok" : Str) ∈ f := by rw [z]; exact List.mem_cons_self
      rw [h2] at this
      exact absurd (List.mem_filter.mp this).1 (by decide +kernel)]
    split
    · rfl
    · rw [if_pos ⟨h1, h2⟩]
def ALLWL : List Str := ["ok", "key", "parent", "amount", "tag", "count", "twice", "ring", "lost"]
theorem okF_mem {f : List Str} (h : okF f) : ∀ w ∈ f ++ okW f, w ∈ ALLWL := fun w hw => by
  rcases h with rfl | ⟨x, hx, rfl⟩ | ⟨h1, h2⟩
  · have : w = "ok" := List.mem_singleton.mp hw
    rw [this]
    decide +kernel
  · have : w = x := List.mem_singleton.mp hw
    rw [this]
    exact (show ∀ x ∈ ALONEL, x ∈ ALLWL by decide +kernel) x hx
  · unfold okW at hw
    rw [if_neg h1, List.append_nil, h2] at hw
    exact (show ∀ x ∈ FIELDSL, x ∈ ALLWL by decide +kernel) w (List.mem_filter.mp hw).1
theorem allw : ∀ w ∈ ALLWL, ¬ 32 ∈ w.cps.toList ∧ ¬ 10 ∈ w.cps.toList ∧ w.length ≤ 6 := by decide +kernel
theorem okF_len {f : List Str} (h : okF f) : (f ++ okW f).length ≤ 4 := by
  rcases h with rfl | ⟨x, hx, rfl⟩ | ⟨h1, h2⟩
  · decide
  · exact Nat.le_of_ble_eq_true rfl
  · unfold okW
    rw [if_neg h1, List.append_nil, h2]
    exact List.length_filter_le _ _
theorem sum_le {k : Nat} : ∀ {ws : List Str}, (∀ w ∈ ws, w.length ≤ k) → sumL ws ≤ ws.length * k
  | [], _ => Nat.zero_le _
  | w :: ws, h => by
    rw [sum_cons, List.length_cons, Nat.succ_mul]
    have := sum_le fun v hv => h v (List.mem_cons_of_mem _ hv)
    have := h w List.mem_cons_self
    omega
theorem num_txt {i : Nat} (h : i < 1000) : amtF (toString (i : Int) : Str) = some (i : Int) ∧ (toString (i : Int) : Str).length ≤ 3 ∧ ¬ 32 ∈ (toString (i : Int) : Str).cps.toList ∧ ¬ 10 ∈ (toString (i : Int) : Str).cps.toList := by
  obtain ⟨h1, h2, h3, h4⟩ := amt_str (a := (i : Int)) (by omega) (by omega)
  refine ⟨h1, h2, dig_free h3, fun z => ?_⟩
  have := List.all_eq_true.mp h3 10 z
  exact absurd this (by decide)
theorem rpR_words {i : Nat} {f : List Str} (hi : i < 1000) (h : okF f) : wordsT (rpR i f) = rpW i f ∧ (rpR i f).length ≤ 31 ∧ ¬ 10 ∈ (rpR i f).cps.toList := by
  obtain ⟨_, n2, n3, n4⟩ := num_txt hi
  have m := okF_mem h
  have l := okF_len h
  refine ⟨join_words (by unfold rpW; simp) fun w hw => ?_, ?_, fun z => ?_⟩
  · rcases List.mem_cons.mp hw with rfl | hw
    · exact n3
    · exact (allw w (m w hw)).1
  · unfold rpR rpW
    rw [join_len, sum_cons]
    have := sum_le (k := 6) fun w hw => (allw w (m w hw)).2.2
    omega
  · rcases join_mem z with q | ⟨w, hw, q⟩
    · exact absurd q (by decide)
    · rcases List.mem_cons.mp hw with rfl | hw
      · exact n4 q
      · exact (allw w (m w hw)).2.1 q
theorem rowsF_free : ∀ {fss : List (List Str)} {i : Nat}, i + fss.length ≤ 1000 → (∀ f ∈ fss, okF f) → ∀ r ∈ rowsF i fss, r.length ≤ 31 ∧ ¬ 10 ∈ r.cps.toList
  | [], _, _, _, r, hr => nomatch hr
  | f :: fss, i, hi, h, r, hr => by
    rw [List.length_cons] at hi
    rcases List.mem_cons.mp hr with rfl | hr
    · exact (rpR_words (by omega) (h f List.mem_cons_self)).2
    · exact rowsF_free (i := i + 1) (by omega) (fun g hg => h g (List.mem_cons_of_mem _ hg)) r hr
theorem readRows_app : ∀ {fss : List (List Str)} {i : Nat} (rest : List Str), i + fss.length ≤ 1000 → (∀ f ∈ fss, okF f) → readRows i (rowsF i fss ++ rest) = (readRows (i + fss.length) rest).map (fss ++ ·)
  | [], i, rest, _, _ => by
    show readRows i rest = (readRows i rest).map _
    cases readRows i rest <;> rfl
  | f :: fss, i, rest, hi, h => by
    rw [List.length_cons] at hi
    show (if (wordsT (rpR i f)).headD "" = (toString (i : Int) : Str) then (fltIn (wordsT (rpR i f)).tail).bind fun g => (readRows (i + 1) (rowsF (i + 1) fss ++ rest)).map (g :: ·) else none) = _
    rw [(rpR_words (by omega) (h f List.mem_cons_self)).1, if_pos (show (rpW i f).headD "" = (toString (i : Int) : Str) from rfl)]
    show (fltIn (f ++ okW f)).bind _ = _
    rw [okF_flt (h f List.mem_cons_self), readRows_app (i := i + 1) rest (by omega) fun g hg => h g (List.mem_cons_of_mem _ hg), List.length_cons, show i + 1 + fss.length = i + (fss.length + 1) by omega]
    show ((readRows (i + (fss.length + 1)) rest).map _).map _ = _
    cases readRows (i + (fss.length + 1)) rest <;> rfl
theorem readRows_no {i k : Nat} {f : List Str} {rest : List Str} (hi : i < 1000) (hk : k < 1000) (h : okF f) (n : k ≠ i) : readRows i (rpR k f :: rest) = none := by
  show (if (wordsT (rpR k f)).headD "" = (toString (i : Int) : Str) then _ else none) = _
  rw [(rpR_words hk h).1, if_neg fun z => ?_]
  have z : (toString (k : Int) : Str) = (toString (i : Int) : Str) := z
  have a := (num_txt hk).1
  rw [z, (num_txt hi).1] at a
  have := Option.some.inj a
  omega
theorem readRows_rows : ∀ {rs : List Str} {i : Nat} {fss : List (List Str)}, readRows i rs = some fss → rowsF i fss = rs ∧ ∀ f ∈ fss, okF f
  | [], i, fss, h => by
    cases h
    exact ⟨rfl, fun f hf => nomatch hf⟩
  | r :: rs, i, fss, h => by
    unfold readRows at h
    split at h
    · rename_i c
      cases q : fltIn (wordsT r).tail with
      | none => rw [q] at h; cases h
      | some f =>
        rw [q] at h
        cases q2 : readRows (i + 1) rs with
        | none => rw [q2] at h; cases h
        | some gss =>
          rw [q2] at h
          cases h
          obtain ⟨e1, e2⟩ := readRows_rows q2
          refine ⟨?_, fun g hg => ?_⟩
          · show rpR i f :: rowsF (i + 1) gss = _
            rw [e1]
            congr 1
            unfold rpR rpW
            rw [flt_words q, ← c]
            have : (wordsT r).headD "" :: (wordsT r).tail = wordsT r := by
              cases z : wordsT r with
              | nil => exact absurd z (words_ne r)
              | cons a b => rfl
            rw [this, words_join]
          · rcases List.mem_cons.mp hg with rfl | hg
            · exact flt_okF q
            · exact e2 g hg
    · cases h
def tD (f : List Str) : D := .tuple (f.map .str)
theorem nbTs (fss : List (List Str)) : NB 2 (.tuple (fss.map tD)) := by
  simp only [NB]
  intro d hd
  obtain ⟨f, _, rfl⟩ := List.mem_map.mp hd
  simp only [tD, NB]
  intro d hd
  obtain ⟨k, _, rfl⟩ := List.mem_map.mp hd
  simp [NB]
theorem strs_inj {a b : List Str} (h : a.map PyData.str = b.map PyData.str) : a = b := by
  have := strs_map a
  rw [h, strs_map b] at this
  exact (Option.some.inj this).symm
theorem tD_inj {a b : List Str} (h : tD a = tD b) : a = b := strs_inj (PyData.tuple.inj h)
theorem tDs_inj : ∀ {a b : List (List Str)}, a.map tD = b.map tD → a = b
  | [], [], _ => rfl
  | [], _ :: _, h => by cases h
  | _ :: _, [], h => by cases h
  | x :: a, y :: b, h => by
    rw [List.map_cons, List.map_cons] at h
    injection h with h1 h2
    rw [tD_inj h1, tDs_inj h2]
theorem eq_strsL (a b : List Str) : dEq (.list (a.map .str)) (.list (b.map .str)) = some (.bool (decide (a = b))) := by
  rw [d_eqN (nbStr a) (nbStr b) (by decide)]
  congr 2
  by_cases h : a = b
  · rw [decide_eq_true h, h, @decide_eq_true _ (Classical.propDecidable _) rfl]
  · rw [decide_eq_false h, @decide_eq_false _ (Classical.propDecidable _) fun z => h (strs_inj (PyData.list.inj z))]
theorem nbTup (a : List Str) : NB 1 (.tuple (a.map .str)) := by
  simp only [NB]
  intro d hd
  obtain ⟨k, _, rfl⟩ := List.mem_map.mp hd
  simp [NB]
theorem eq_strsT (a b : List Str) : dEq (.tuple (a.map .str)) (.tuple (b.map .str)) = some (.bool (decide (a = b))) := by
  rw [d_eqN (nbTup a) (nbTup b) (by decide)]
  congr 2
  by_cases h : a = b
  · rw [decide_eq_true h, h, @decide_eq_true _ (Classical.propDecidable _) rfl]
  · rw [decide_eq_false h, @decide_eq_false _ (Classical.propDecidable _) fun z => h (strs_inj (PyData.tuple.inj z))]
/-! ### the program's functions of reports -/
/-! report_text -/
theorem l_addM {a b : List D} (h : a.length + b.length ≤ 1000000) : dAdd (.list a) (.list b) = some (.list (a ++ b)) := by
  show (none : Option D).or ((none : Option D).or ((dAddL (.list a) (.list b)).or _)) = _
  have : dAddL (.list a) (.list b) = some (.list (a ++ b)) := if_pos h
  rw [this]
  rfl
def numF (i : Nat) : List D → List D
  | [] => []
  | d :: ds => .tuple [.int (i : Nat), d] :: numF (i + 1) ds
theorem numF_range : ∀ (ds : List D) (i : Nat), pairs ((List.range' i ds.length).map fun i => .int (i : Nat)) ds = numF i ds
  | [], i => rfl
  | d :: ds, i => by
    rw [List.length_cons, List.range'_succ, List.map_cons]
    show PyData.tuple [.int (i : Nat), d] :: pairs ((List.range' (i + 1) ds.length).map fun i => .int (i : Nat)) ds = _
    rw [numF_range ds (i + 1)]
    rfl
theorem num_is (ds : List D) : numbered ds = numF 0 ds := by
  unfold numbered
  rw [List.range_eq_range', numF_range]
theorem numF_get : ∀ {ds : List D} {i j : Nat} {d : D}, (numF i ds)[j]? = some d → ∃ y, ds[j]? = some y ∧ d = .tuple [.int ((i + j : Nat) : Int), y]
  | y :: ds, i, 0, d, h => by cases h; exact ⟨y, rfl, rfl⟩
  | y :: ds, i, j + 1, d, h => by
    obtain ⟨z, h1, h2⟩ := numF_get (ds := ds) (i := i + 1) (j := j) h
    exact ⟨z, h1, by rw [h2, show i + 1 + j = i + (j + 1) by omega]⟩
theorem numF_len : ∀ (ds : List D) (i : Nat), (numF i ds).length = ds.length
  | [], _ => rfl
  | d :: ds, i => by
    show (numF (i + 1) ds).length + 1 = _
    rw [numF_len ds, List.length_cons]
theorem rep_row {i : Nat} {f : List Str} {x0 x1 x4 : Option D} (hi : i ≤ 1000000) (hl : (rpR i f).length ≤ 400000) : eM1 dJoin (eC (.str " ")) (e2 dAdd (eLst (aCons (eCl (f1 dStr) (aCons (eVar 2) aNil)) aNil)) (e2 dAdd (eCl (f1 dList) (aCons (eVar 3) aNil)) (e2 dMul (eLst (aCons (eC (.str "ok")) aNil)) (eCl (f1 dInt) (aCons (e2 dEq (eCl (f1 dLen) (aCons (eVar 3) aNil)) (eC (.int 0))) aNil))))) [x0, x1, some (.int (i : Nat)), some (tD f), x4] = .ok (.str (rpR i f)) := by
  have jl : (rpR i f).length = sumL (rpW i f) + (f ++ okW f).length := join_len
  have fl : f.length ≤ 400000 := by
    rw [List.length_append] at jl
    omega
  have ol : (okW f).length ≤ 1 := by unfold okW; split <;> decide
  have z1 : e2 dMul (eLst (aCons (eC (.str "ok")) aNil)) (eCl (f1 dInt) (aCons (e2 dEq (eCl (f1 dLen) (aCons (eVar 3) aNil)) (eC (.int 0))) aNil)) [x0, x1, some (.int (i : Nat)), some (tD f), x4] = .ok (.list ((okW f).map .str)) := by
    refine e2_ok rfl (b1 (e2_ok (b1 rfl d_lenT) rfl d_eqI) rfl) ?_
    rw [List.length_map]
    cases f with
    | nil => rfl
    | cons a b =>
      rw [decide_eq_false (by simp only [List.length_cons]; omega)]
      rfl
  have z2 : e2 dAdd (eCl (f1 dList) (aCons (eVar 3) aNil)) (e2 dMul (eLst (aCons (eC (.str "ok")) aNil)) (eCl (f1 dInt) (aCons (e2 dEq (eCl (f1 dLen) (aCons (eVar 3) aNil)) (eC (.int 0))) aNil))) [x0, x1, some (.int (i : Nat)), some (tD f), x4] = .ok (.list ((f ++ okW f).map .str)) := by
    refine e2_ok (b1 rfl rfl) z1 ?_
    rw [List.map_append]
    exact l_addM (by rw [List.length_map, List.length_map]; omega)
  refine m1_ok rfl (e2_ok (x := .list [.str (toString (i : Int))]) (y := .list ((f ++ okW f).map .str)) ?_ z2 (z := .list ((rpW i f).map .str)) ?_) (d_join ?_)
  · rw [p_lst, p_acons, b1 (x := .int (i : Nat)) (y := .str (toString (i : Int))) rfl (d_strI (by omega))]
    rfl
  · exact l_addM (a := [.str (toString (i : Int))]) (by rw [List.length_map, List.length_append, List.length_singleton]; omega)
  · have : (rpW i f).length = (f ++ okW f).length + 1 := rfl
    rw [this]
    omega
theorem rows_joinG {gi : GA} {v : Nat} {ρ : Env} {rows : List Str} (h1 : gi ρ = .ok (rows.map .str)) (hv : v < ρ.length) (hl : (repS rows).length ≤ 400000) : eM1 dJoin (eC (.str "")) (eLc gi (tgN v) gYes (e2 dAdd (eVar v) (eC (.str "\n"))) [v]) ρ = .ok (.str (repS rows)) := by
  have rl := repS_len rows
  refine m1_ok rfl (y := .list ((rows.map (· ++ nl)).map .str)) ?_ ?_
  · rw [lc_map (ds := rows.map .str) (fun d => match d with | .str s => .str (s ++ nl) | _ => .none) h1 (by rw [List.length_map]; omega) fun d hd => ?_]
    · rw [List.map_map, List.map_map]
      rfl
    · obtain ⟨r, hr, rfl⟩ := List.mem_map.mp hd
      have := sum_mem hr
      refine ⟨(wipeE ρ [v]).set v (some (.str r)), rfl, e2_ok (x := .str r) ?_ rfl (s_add' (by show r.length + 1 ≤ _; omega))⟩
      have e : wipeE ρ [v] = ρ.set v none := rfl
      rw [e, List.set_set, p_var, List.getElem?_set_self hv]
  · show (strsOf ((rows.map (· ++ nl)).map .str)).bind _ = _
    rw [strs_map]
    have e : sumL (rows.map (· ++ nl)) = sumL rows + rows.length := by
      clear hl rl h1
      induction rows with
      | nil => rfl
      | cons r rows ih =>
        rw [List.map_cons, sum_cons, sum_cons, ih, len_app, List.length_cons]
        show r.length + 1 + _ = _
        omega
    show (if sumL (rows.map (· ++ nl)) + (rows.map (· ++ nl)).length * 0 ≤ 1000000 then _ else none) = _
    rw [if_pos (by rw [e]; omega)]
    rfl
theorem rows_join {rows : List Str} {x0 x2 x3 x4 : Option D} (hl : (repS rows).length ≤ 400000) : eM1 dJoin (eC (.str "")) (eLc (iSeq (eVar 1)) (tgN 4) gYes (e2 dAdd (eVar 4) (eC (.str "\n"))) [4]) [x0, some (.list (rows.map .str)), x2, x3, x4] = .ok (.str (repS rows)) := rows_joinG rfl (by show 4 < 5; decide) hl
/-! read_report -/
theorem cut_last {α : Type} {xs : List α} : cutD xs none (some (-1)) = xs.dropLast := by
  unfold cutD
  rw [HT.sIx_none, List.drop_zero, Nat.sub_zero, List.dropLast_eq_take]
  congr 1
  unfold HT.sIx
  simp
  try omega
/-! ### intakes: a ledger, its entries -/
/-- the entry of a in the ledger l -/
def At (l : D) (a : Addr) (p : D) (ts : List Str) (r : Str) : Prop := lookE l (excD a) = some [p, .list (ts.map .str), .str r]
/-- the ledger goes on: a's entry is another one -/
structure Go (l l' : D) (a : Addr) (p : D) (ts : List Str) (r : Str) : Prop where
  li : ∃ es, l' = .list es
  at_ : At l' a p ts r
  ot : ∀ b, b ≠ a → lookE l' (excD b) = lookE l (excD b)
theorem look_frz {l o : D} : lookE (frzL l) o = lookE l o := by cases l <;> rfl
theorem look_frz2 {l : D} : frzL (frzL l) = frzL l := by cases l <;> rfl
theorem At.frz {l : D} {a : Addr} {p : D} {ts : List Str} {r : Str} (h : At l a p ts r) : At (frzL l) a p ts r := by
  unfold At
  rw [look_frz]
  exact h
theorem At.ob {l : D} {a : Addr} {p : D} {ts : List Str} {r : Str} (h : At l a p ts r) : isOb l (excD a) = true := by
  unfold isOb
  rw [show lookE l (excD a) = _ from h]
def lkF (i : Int) : D → Option (List D) := fun e => match e with
  | .tuple (.int j :: r) => if j = i then some r else none
  | _ => none
theorem look_list {es : List D} {b : Addr} : lookE (.list es) (excD b) = es.findSome? (lkF (b : Nat)) := rfl
def stF (a : Addr) (ts r : D) : D → D := fun e => match e with
  | .tuple [.int j, p, t0, r0] => if j = (a : Nat) then .tuple [.int j, p, ts, r] else .tuple [.int j, p, t0, r0]
  | e => e
theorem setE_list {es : List D} {a : Addr} {ts r : D} : setE (excD a) ts r (.list es) = .list (es.map (stF a ts r)) := rfl
theorem st_lk {a b : Addr} {ts r : D} (h : b ≠ a) : ∀ e : D, lkF (b : Nat) (stF a ts r e) = lkF (b : Nat) e := fun e => by
  unfold stF
  split
  · rename_i j p t0 r0
    split
    · rename_i hj
      have n : ¬ j = (b : Nat) := fun z => h (Int.ofNat.inj (z.symm.trans hj))
      show (if j = (b : Nat) then _ else _) = (if j = (b : Nat) then _ else _)
      rw [if_neg n, if_neg n]
    · rfl
  · rfl
theorem go_ot {a b : Addr} {ts r : D} (h : b ≠ a) : ∀ es : List D, lookE (setE (excD a) ts r (.list es)) (excD b) = lookE (.list es) (excD b) := fun es => by
  rw [setE_list, look_list, look_list]
  induction es with
  | nil => rfl
  | cons e es ih =>
    rw [List.map_cons, List.findSome?_cons, List.findSome?_cons, st_lk h e, ih]
theorem go_at {a : Addr} {p : D} {ts ts' : List Str} {r r' : Str} : ∀ {es : List D}, At (.list es) a p ts r → At (setE (excD a) (.list (ts'.map .str)) (.str r') (.list es)) a p ts' r' := fun {es} h => by
  unfold At at h ⊢
  rw [setE_list, look_list]
  rw [look_list] at h
  induction es with
  | nil => cases h
  | cons e es ih =>
    rw [List.findSome?_cons] at h
    rw [List.map_cons, List.findSome?_cons]
    cases q : lkF (a : Nat) e with
    | some x =>
      rw [q] at h
      cases h
      unfold lkF at q
      split at q
      · rename_i j rr
        split at q
        · rename_i hj
          cases q
          have : lkF (a : Nat) (stF a (.list (ts'.map .str)) (.str r') (.tuple [.int j, p, .list (ts.map .str), .str r])) = some [p, .list (ts'.map .str), .str r'] := by
            show lkF (a : Nat) (if j = (a : Nat) then _ else _) = _
            rw [if_pos hj]
            show (if j = (a : Nat) then _ else _) = _
            rw [if_pos hj]
          rw [this]
        · cases q
      · cases q
    | none =>
      rw [q] at h
      have : lkF (a : Nat) (stF a (.list (ts'.map .str)) (.str r') e) = none := by
        unfold stF
        split
        · rename_i j p' t0 r0
          split
          · rename_i hj
            have q : (if j = (a : Nat) then some [p', t0, r0] else none) = none := q
            rw [if_pos hj] at q
            cases q
          · exact q
        · exact q
      rw [this]
      exact ih h
theorem go_set {l : D} {a : Addr} {p : D} {ts ts' : List Str} {r r' : Str} (hl : ∃ es, l = .list es) (h : At l a p ts r) : Go l (setE (excD a) (.list (ts'.map .str)) (.str r') l) a p ts' r' := by
  obtain ⟨es, rfl⟩ := hl
  exact ⟨⟨_, setE_list⟩, go_at h, fun b hb => go_ot hb es⟩
theorem Go.refl {l : D} {a : Addr} {p : D} {ts : List Str} {r : Str} (hl : ∃ es, l = .list es) (h : At l a p ts r) : Go l l a p ts r := ⟨hl, h, fun _ _ => rfl⟩
theorem Go.trans {l l1 l2 : D} {a : Addr} {p p' : D} {ts ts' : List Str} {r r' : Str} (h : Go l l1 a p ts r) (h' : Go l1 l2 a p' ts' r') : Go l l2 a p' ts' r' := ⟨h'.li, h'.at_, fun b hb => (h'.ot b hb).trans (h.ot b hb)⟩
/-! how a body with a ledger ends -/
theorem runL_at {N n : Nat} {g : GS} {ds : List D} {l l' : D} {ρ' : Env} (hn : ds.length = n) (hf : ∀ c, outD (g (env0L N ds (frzL l))) ≠ .err c) (hm : g (env0L N ds l) = .ok (.nx ρ')) (h2 : ρ'[N - 1]? = some (some l')) (h3 : ∃ es, l' = .list es) : runL N n g ds l = .ok (.none, l') := by
  unfold runL
  rw [show (ds.length == n) = true by simpa using hn]
  obtain ⟨es, rfl⟩ := h3
  have key : endL N (g (env0L N ds l)) = .ok (.none, .list es) := by
    rw [hm]
    unfold endL
    dsimp only
    rw [h2]
  show (match outD (g (env0L N ds (frzL l))) with
    | .err c => Out.err c
    | _ => endL N (g (env0L N ds l))) = _
  cases q : outD (g (env0L N ds (frzL l))) with
  | err c => exact absurd q (hf c)
  | ok d => exact key
  | stuck => exact key
theorem runL_err {N n : Nat} {g : GS} {ds : List D} {l : D} {c : Nat} (hn : ds.length = n) (hf : outD (g (env0L N ds (frzL l))) = .err c) : runL N n g ds l = .err c := by
  unfold runL
  rw [show (ds.length == n) = true by simpa using hn]
  show (match outD (g (env0L N ds (frzL l))) with
    | .err c => Out.err c
    | _ => endL N (g (env0L N ds l))) = _
  rw [hf]
theorem runR_at {N n : Nat} {g : GS} {ds : List D} {l : D} (hn : ds.length = n) : runR N n g ds l = outD (g (env0L N ds l)) := by
  unfold runR
  rw [show (ds.length == n) = true by simpa using hn]
  rfl
theorem fld_at {iL k : Nat} {go : GE} {ρ : Env} {l : D} {a : Addr} {p : D} {ts : List Str} {r : Str} (h : At l a p ts r) (e : go ρ = .ok (excD a)) (hl : ρ[iL]? = some (some l)) : eFld iL k go ρ = .ok (if k = 0 then p else if k = 1 then .list (ts.map .str) else .str r) := by
  unfold eFld
  rw [e, okb, hl]
  dsimp only
  rw [show lookE l (excD a) = _ from h]
theorem mr_at {iL : Nat} {f : List D → D → Out D} {go : GE} {ga : GA} {ρ : Env} {l : D} {a : Addr} {p : D} {ts : List Str} {r : Str} {ds : List D} (h : At l a p ts r) (e : go ρ = .ok (excD a)) (hl : ρ[iL]? = some (some l)) (ha : ga ρ = .ok ds) : eMR iL f go ga ρ = f (excD a :: ds) (frzL l) := by
  unfold eMR
  rw [e, okb, hl]
  dsimp only
  rw [if_pos h.ob, ha, okb]
theorem xm_at {iL : Nat} {f : List D → D → Out (D × D)} {go : GE} {ga : GA} {ρ : Env} {es : List D} {a : Addr} {p : D} {ts : List Str} {r : Str} {ds : List D} (h : At (.list es) a p ts r) (e : go ρ = .ok (excD a)) (hl : ρ[iL]? = some (some (.list es))) (ha : ga ρ = .ok ds) : xM iL f go ga ρ = (f (excD a :: ds) (.list es)).bind fun p => .ok (p.1, ρ.set iL (some p.2)) := by
  unfold xM
  rw [e, okb, hl]
  dsimp only
  rw [if_pos h.ob, ha, okb]
theorem ent_at {es : List D} {a : Addr} {p : D} {ts : List Str} {r : Str} (h : At (.list es) a p ts r) : entE (some (some (.list es))) (excD a) = some (ts.map .str, .str r) := by
  unfold entE
  dsimp only
  rw [show lookE (.list es) (excD a) = _ from h]
theorem ent_frz {l o : D} : entE (some (some (frzL l))) o = none ∨ ∃ es, l = .list es ∧ False ∨ ¬ ∃ es, l = .list es := by
  by_cases h : ∃ es, l = .list es
  · obtain ⟨es, rfl⟩ := h
    exact .inl rfl
  · exact .inr ⟨[], .inr h⟩
theorem setL_at {iL : Nat} {o : D} {ts : List D} {r l : D} {ρ : Env} (h : ρ[iL]? = some (some l)) : setL iL o ts r ρ = ρ.set iL (some (setE o (.list ts) r l)) := by
  unfold setL
  rw [h]
/-! ### the methods that read -/
section
variable {l : D} {a : Addr} {p : Pl} {ts : List Str} {r : Str}
theorem heap_at {pd : D} (h : At l a pd ts r) (hl : ts.length ≤ 1000000) : f_Intake_heap [excD a] l = .ok (.tuple (ts.map .str)) := by
  unfold f_Intake_heap
  rw [runR_at (by rfl)]
  unfold g_Intake_heap
  show outD (sRet _ [some (excD a), some l]) = _
  exact q_ret (b1 (fld_at (k := 1) h rfl rfl) (d_tuple (by rw [List.length_map]; exact hl)))
theorem waiting_at {pd : D} (h : At l a pd ts r) : f_Intake_waiting [excD a] l = .ok (.str r) := by
  unfold f_Intake_waiting
  rw [runR_at (by rfl)]
  unfold g_Intake_waiting
  show outD (sRet _ [some (excD a), some l]) = _
  exact q_ret (fld_at (k := 2) h rfl rfl)
theorem report_at (h : At l a p.d ts r) (H : Hp20 ts) : f_Intake_report [excD a] l = .ok (.tuple (ts.map (judD p ts))) := by
  unfold f_Intake_report
  rw [runR_at (by rfl)]
  unfold g_Intake_report
  show outD (sRet _ [some (excD a), some l]) = _
  exact q_ret (c2 (fld_at (k := 0) h rfl rfl) ((mr_at h rfl rfl rfl).trans (heap_at h.frz (by have := H.few; omega))) (judged_is H))
/-- the numbers of those that have faults -/
def fty : Nat → List (List Str) → List D
  | _, [] => []
  | i, f :: fs => if f = [] then fty (i + 1) fs else .int (i : Nat) :: fty (i + 1) fs
def ftyF (p : Pl) (ts : List Str) : List D := fty 0 (ts.map (judF p ts))
theorem fty_mem : ∀ {fs : List (List Str)} {i : Nat} {d : D}, d ∈ fty i fs ↔ ∃ j f, fs[j]? = some f ∧ f ≠ [] ∧ d = .int ((i + j : Nat) : Int)
  | [], i, d => ⟨fun h => (nomatch h), fun ⟨j, f, h, _⟩ => by simp at h⟩
  | f :: fs, i, d => by
    unfold fty
    have ih := fty_mem (fs := fs) (i := i + 1) (d := d)
    constructor
    · intro h
      split at h
      · obtain ⟨j, g, h1, h2, h3⟩ := ih.mp h
        exact ⟨j + 1, g, h1, h2, by rw [h3]; congr 1; omega⟩
      · rename_i hf
        rcases List.mem_cons.mp h with rfl | h
        · exact ⟨0, f, rfl, hf, rfl⟩
        · obtain ⟨j, g, h1, h2, h3⟩ := ih.mp h
          exact ⟨j + 1, g, h1, h2, by rw [h3]; congr 1; omega⟩
    · rintro ⟨j, g, h1, h2, h3⟩
      cases j with
      | zero =>
        cases h1
        rw [if_neg h2]
        exact List.mem_cons.mpr (.inl h3)
      | succ j =>
        have m : d ∈ fty (i + 1) fs := ih.mpr ⟨j, g, h1, h2, by rw [h3]; congr 1; omega⟩
        split
        · exact m
        · exact List.mem_cons_of_mem _ m
theorem fty_lc : ∀ (fs : List (List Str)) (i : Nat), (((numF i (fs.map fun f => .tuple (f.map .str))).filter fun d => match d with
      | .tuple [_, .tuple ds] => decide (0 < ds.length)
      | _ => false).map fun d => match d with
      | .tuple [n, _] => n
      | d => d) = fty i fs
  | [], _ => rfl
  | f :: fs, i => by
    have ih := fty_lc fs (i + 1)
    unfold fty
    show ((List.filter _ (PyData.tuple [.int (i : Nat), .tuple (f.map .str)] :: numF (i + 1) (fs.map fun f => .tuple (f.map .str)))).map _) = _
    rw [List.filter_cons]
    by_cases h : f = []
    · subst h
      rw [if_pos rfl]
      exact ih
    · rw [if_neg h]
      have : 0 < (f.map PyData.str).length := by rw [List.length_map]; exact List.length_pos_iff.mpr h
      simp only [this, decide_true, if_true, List.map_cons]
      rw [ih]
theorem fty_len : ∀ (fs : List (List Str)) (i : Nat), (fty i fs).length ≤ fs.length
  | [], _ => Nat.le_refl _
  | f :: fs, i => by
    have := fty_len fs (i + 1)
    unfold fty
    split <;> simp only [List.length_cons] <;> omega
/-! ### the methods that change -/
def addT (ts : List Str) (t : Str) : List Str := if ts.length < 40 then ts ++ [t] else ts
def addA : List Str → List Str → List Str
  | ts, [] => ts
  | ts, w :: ws => addA (addT ts w) ws
theorem addA_all : ∀ (ws ts : List Str), ts.length + ws.length ≤ 40 → addA ts ws = ts ++ ws
  | [], ts, _ => by rw [List.append_nil]; rfl
  | w :: ws, ts, h => by
    rw [List.length_cons] at h
    show addA (addT ts w) ws = _
    unfold addT
    rw [if_pos (by omega), addA_all ws _ (by rw [List.length_append, List.length_singleton]; omega), List.append_assoc]
    rfl
theorem addT_len {ts : List Str} {t : Str} (h : ts.length ≤ 40) : (addT ts t).length ≤ 40 := by
  unfold addT
  split
  · rw [List.length_append, List.length_singleton]; omega
  · exact h
theorem addA_len : ∀ (ws ts : List Str), ts.length ≤ 40 → (addA ts ws).length ≤ 40
  | [], ts, h => h
  | w :: ws, ts, h => addA_len ws _ (addT_len h)
theorem add_at {pd : D} {t : Str} (hl : ∃ es, l = .list es) (h : At l a pd ts r) (hs : ts.length ≤ 100000) : ∃ l', f_Intake_add [excD a, .str t] l = .ok (.none, l') ∧ Go l l' a pd (addT ts t) r := by
  obtain ⟨es, rfl⟩ := hl
  have tst : ∀ l0, At l0 a pd ts r → tV (e2 dLt (eCl (f1 dLen) (aCons (eFld 2 1 (eVar 0)) aNil)) (eC (.int 40))) [some (excD a), some (.str t), some l0] = .ok (decide (ts.length < 40)) := fun l0 h0 => by
    refine tv_ok (e2_ok (b1 (fld_at (k := 1) h0 rfl rfl) d_lenL) rfl (d_lt.trans ?_))
    rw [List.length_map]
    congr 2
    exact decide_eq_decide.mpr (by omega)
  have t1 := tst _ h
  have t2 := tst _ h.frz
  unfold addT
  by_cases c : ts.length < 40
  · rw [if_pos c]
    rw [decide_eq_true c] at t1 t2
    refine ⟨setE (excD a) (.list ((ts ++ [t]).map .str)) (.str r) (.list es), ?_, go_set ⟨es, rfl⟩ h⟩
    refine runL_at (ρ' := [some (excD a), some (.str t), some (setE (excD a) (.list ((ts ++ [t]).map .str)) (.str r) (.list es))]) rfl (fun c' z => ?_) ?_ rfl ⟨_, setE_list⟩
    · have : g_Intake_add [some (excD a), some (.str t), some (.tuple es)] = .stuck := by
        unfold g_Intake_add
        rw [p_if, show tV (e2 dLt (eCl (f1 dLen) (aCons (eFld 2 1 (eVar 0)) aNil)) (eC (.int 40))) [some (excD a), some (.str t), some (.tuple es)] = .ok true from t2]
        rfl
      have z : outD (g_Intake_add [some (excD a), some (.str t), some (.tuple es)]) = .err c' := z
      rw [this] at z
      cases z
    · show g_Intake_add [some (excD a), some (.str t), some (.list es)] = _
      unfold g_Intake_add
      refine st_yes t1 ?_
      unfold sTxA
      show (match entE (some (some (.list es))) (excD a) with
        | some (ts, r) => _
        | none => _) = _
      rw [ent_at h]
      show (if (ts.map PyData.str).length < 1000000 then _ else _) = _
      rw [if_pos (by rw [List.length_map]; omega), setL_at rfl, List.map_append]
      rfl
  · rw [if_neg c]
    rw [decide_eq_false c] at t1 t2
    refine ⟨.list es, ?_, Go.refl ⟨es, rfl⟩ h⟩
    refine runL_at (ρ' := [some (excD a), some (.str t), some (.list es)]) rfl (fun c' z => ?_) ?_ rfl ⟨_, rfl⟩
    · have : g_Intake_add [some (excD a), some (.str t), some (.tuple es)] = .ok (.nx [some (excD a), some (.str t), some (.tuple es)]) := by
        unfold g_Intake_add
        exact st_no t2 rfl
      have z : outD (g_Intake_add [some (excD a), some (.str t), some (.tuple es)]) = .err c' := z
      rw [this] at z
      cases z
    · show g_Intake_add [some (excD a), some (.str t), some (.list es)] = _
      unfold g_Intake_add
      exact st_no t1 rfl
theorem adds_at {pd : D} {r : Str} : ∀ (ws : List Str) {l : D} {ts : List Str} {x1 x2 x3 : Option D}, (∃ es, l = .list es) → At l a pd ts r → ts.length ≤ 40 →
    ∃ l' x3', forGo (tgN 3) b_Intake_take_1 (ws.map .str) [some (excD a), x1, x2, x3, some l] = .ok (.nx [some (excD a), x1, x2, x3', some l']) ∧ Go l l' a pd (addA ts ws) r
  | [], l, ts, x1, x2, x3, hl, h, _ => ⟨l, x3, rfl, Go.refl hl h⟩
  | w :: ws, l, ts, x1, x2, x3, hl, h, hs => by
    obtain ⟨es, rfl⟩ := hl
    obtain ⟨l1, e1, g1⟩ := add_at (t := w) ⟨es, rfl⟩ h (by omega)
    obtain ⟨l2, x3', e2', g2⟩ := adds_at ws (x1 := x1) (x2 := x2) (x3 := some (.str w)) g1.li g1.at_ (addT_len hs)
    refine ⟨l2, x3', forGo_cons (ρ1 := [some (excD a), x1, x2, some (.str w), some (.list es)]) (ρ2 := [some (excD a), x1, x2, some (.str w), some l1]) rfl ?_ e2', g1.trans g2⟩
    unfold b_Intake_take_1 sExprX
    rw [xm_at (ds := [.str w]) h rfl rfl rfl, e1]
    rfl
theorem take_at {pd : D} {q : Str} (hl : ∃ es, l = .list es) (h : At l a pd ts r) (hs : ts.length ≤ 40) (hq : r.length + q.length ≤ 900000) : ∃ l', f_Intake_take [excD a, .str q] l = .ok (.none, l') ∧ Go l l' a pd (addA ts (rowsT (r ++ q))) (lastT (r ++ q)) := by
  obtain ⟨es, rfl⟩ := hl
  have le := lines_eq (r ++ q)
  have s1 : ∀ l0, At l0 a pd ts r → eM1 dSplit (e2 dAdd (eFld 4 2 (eVar 0)) (eVar 1)) (eC (.str "\n")) [some (excD a), some (.str q), none, none, some l0] = .ok (.list ((linesT (r ++ q)).map .str)) := fun l0 h0 =>
    m1_ok (e2_ok (x := .str r) (y := .str q) (z := .str (r ++ q)) (fld_at (k := 2) h0 rfl rfl) rfl (s_add' (by omega))) rfl (if_pos ⟨by decide +kernel, by rw [len_app]; omega⟩)
  have it : ∀ x3 l0, iSeq (eSl (eVar 2) oNo (oI (e1 dNeg (eC (.int 1))))) [some (excD a), some (.str q), some (.list ((linesT (r ++ q)).map .str)), x3, some l0] = .ok ((rowsT (r ++ q)).map .str) := fun x3 l0 => by
    show (Out.bind (lift (some (PyData.list (cutD ((linesT (r ++ q)).map PyData.str) none (some (-1)))))) _) = _
    rw [cut_last, ← List.map_dropLast]
    rfl
  obtain ⟨l1, x3', e1', g1⟩ := adds_at (a := a) (rowsT (r ++ q)) (x1 := some (.str q)) (x2 := some (.list ((linesT (r ++ q)).map .str))) (x3 := none) ⟨es, rfl⟩ h hs
  obtain ⟨es1, rfl⟩ := g1.li
  have ix : ∀ x3 l0, e2 dIx (eVar 2) (e1 dNeg (eC (.int 1))) [some (excD a), some (.str q), some (.list ((linesT (r ++ q)).map .str)), x3, some l0] = .ok (.str (lastT (r ++ q))) := fun x3 l0 => by
    refine e2_ok (x := .list ((linesT (r ++ q)).map .str)) (y := .int (-1)) rfl rfl ?_
    rw [d_ixL, le, List.map_append]
    exact atI_last _ _
  refine ⟨setE (excD a) (.list ((addA ts (rowsT (r ++ q))).map .str)) (.str (lastT (r ++ q))) (.list es1), ?_, g1.trans (go_set ⟨es1, rfl⟩ g1.at_)⟩
  refine runL_at (ρ' := [some (excD a), some (.str q), some (.list ((linesT (r ++ q)).map .str)), x3', some (setE (excD a) (.list ((addA ts (rowsT (r ++ q))).map .str)) (.str (lastT (r ++ q))) (.list es1))]) rfl (fun c z => ?_) ?_ rfl ⟨_, setE_list⟩
  · have z : outD (g_Intake_take [some (excD a), some (.str q), none, none, some (.tuple es)]) = .err c := z
    unfold g_Intake_take at z
    rw [p_seqN (st_set (s1 (.tuple es) h.frz))] at z
    have z : outD (k_Intake_take_2 [some (excD a), some (.str q), some (.list ((linesT (r ++ q)).map .str)), none, some (.tuple es)]) = .err c := z
    unfold k_Intake_take_2 at z
    rw [p_seq, p_for (it none (.tuple es))] at z
    cases hw : rowsT (r ++ q) with
    | nil =>
      rw [hw] at z
      have z : outD (k_Intake_take_3 [some (excD a), some (.str q), some (.list ((linesT (r ++ q)).map .str)), none, some (.tuple es)]) = .err c := z
      unfold k_Intake_take_3 sRest at z
      rw [ix none (.tuple es), okb] at z
      cases z
    | cons w ws =>
      rw [hw] at z
      cases z
  · show g_Intake_take [some (excD a), some (.str q), none, none, some (.list es)] = _
    unfold g_Intake_take
    rw [p_seqN (st_set (s1 (.list es) h))]
    show k_Intake_take_2 [some (excD a), some (.str q), some (.list ((linesT (r ++ q)).map .str)), none, some (.list es)] = _
    unfold k_Intake_take_2
    rw [p_seqN ((p_for (it none (.list es))).trans e1')]
    unfold k_Intake_take_3 sRest
    rw [ix x3' (.list es1), okb]
    show (Out.bind (.ok (excD a)) _) = _
    rw [okb]
    show (match entE (some (some (.list es1))) (excD a) with
        | some (ts, _) => _
        | none => _) = _
    rw [ent_at g1.at_]
    show Out.ok (Fl.nx (setL 4 (excD a) ((addA ts (rowsT (r ++ q))).map .str) (.str (lastT (r ++ q))) _)) = _
    rw [setL_at rfl]
    rfl
theorem erase_mapP {α β : Type} (f : α → β) : ∀ (xs : List α) (k : Nat), (xs.map f).eraseIdx k = (xs.eraseIdx k).map f
  | [], _ => rfl
  | x :: xs, 0 => rfl
  | x :: xs, k + 1 => by
    show f x :: (xs.map f).eraseIdx k = f x :: (xs.eraseIdx k).map f
    rw [erase_mapP f xs k]
end
theorem rowsW {rows : List Str} {w : Str} (h : ∀ x ∈ rows, ¬ 10 ∈ x.cps.toList) (hw : ¬ 10 ∈ w.cps.toList) : rowsT (repS rows ++ w) = rows ∧ lastT (repS rows ++ w) = w := by
  have e : repS rows ++ w = Txt.join nl (rows ++ [w]) := str_ext (by
    rw [joinN_tl]
    show TL.tl (repS rows ++ w) = _
    rw [TL.tl_append]
    show (repS rows).cps.toList ++ _ = _
    rw [repS_tl])
  have l : linesT (repS rows ++ w) = rows ++ [w] := by
    unfold linesT
    rw [e]
    refine TL.split_join (y := nl) (s := 10) (S := []) rfl (by decide +kernel) (by simp) fun x hx => ?_
    rcases List.mem_append.mp hx with hx | hx
    · exact h x hx
    · rw [List.mem_singleton.mp hx]
      exact hw
  unfold rowsT lastT
  rw [l]
  exact ⟨List.dropLast_concat, by rw [List.getLastD_eq_getLast?, List.getLast?_concat]; rfl⟩
theorem outD_true {x : Out Fl} (h : outD x = .ok (.bool true)) : x = .ok (.rt (.bool true)) := by
  cases x with
  | stuck => cases h
  | err c => cases h
  | ok f =>
    cases f with
    | rt d => cases h; rfl
    | nx ρ => cases h
    | bk ρ => cases h
    | ct ρ => cases h
theorem uni_eqP {P : Addr → Prop} {k : Addr → Out Fl} {o : Out Fl} (h : ∀ a, P a → k a = o) (a : Addr) (ha : P a) : uni P k = o := by
  unfold uni
  rw [dif_pos ⟨o, h⟩]
  exact ((Exists.choose_spec (⟨o, h⟩ : ∃ o, ∀ a, P a → k a = o)) a ha).symm.trans (h a ha)
theorem q_mk {iL i : Nat} {ge : GE} {g : GS} {ρ : Env} {p : D} (e : ge ρ = .ok p) (hl : ρ[iL]? = some (some (.list []))) (n : ∀ a : Addr, outD (g ((ρ.set iL (some (.list [.tuple [.int (a : Nat), p, .list [], .str ""]]))).set i (some (excD a)))) = .ok (.bool true)) : outD (sMk iL i ge g ρ) = .ok (.bool true) := by
  unfold sMk
  rw [e, okb, hl]
  dsimp only
  show outD (uni (fun a => lookE (.list []) (excD a) = none) (fun a => g ((ρ.set iL (some (.list [.tuple [.int (a : Nat), p, .list [], .str ""]]))).set i (some (excD a))))) = _
  rw [uni_eqP (P := fun a => lookE (.list []) (excD a) = none) (k := fun a => g ((ρ.set iL (some (.list [.tuple [.int (a : Nat), p, .list [], .str ""]]))).set i (some (excD a)))) (o := .ok (.rt (.bool true))) (fun a _ => outD_true (n a)) (0 : Addr) rfl]
  rfl
theorem at_one {a : Addr} {p : D} {ts : List Str} {r : Str} : At (.list [.tuple [.int (a : Nat), p, .list (ts.map .str), .str r]]) a p ts r := by
  unfold At
  rw [look_list]
  rw [List.findSome?_cons]
  have : lkF (a : Nat) (.tuple [.int (a : Nat), p, .list (ts.map .str), .str r]) = some [p, .list (ts.map .str), .str r] := if_pos rfl
  rw [this]
theorem cr_at {iL : Nat} {f : List D → D → Out D} {ga : GA} {ρ : Env} {l : D} {ds : List D} (hl : ρ[iL]? = some (some l)) (ha : ga ρ = .ok ds) : eCR iL f ga ρ = f ds (frzL l) := by
  unfold eCR
  rw [ha, okb, hl]
theorem st_xm {iL : Nat} {f : List D → D → Out (D × D)} {go : GE} {ga : GA} {ρ : Env} {l l' d : D} {a : Addr} {p : D} {ts : List Str} {r : Str} {ds : List D} (hl' : ∃ es, l = .list es) (h : At l a p ts r) (e : go ρ = .ok (excD a)) (hl : ρ[iL]? = some (some l)) (ha : ga ρ = .ok ds) (hf : f (excD a :: ds) l = .ok (d, l')) : sExprX (xM iL f go ga) ρ = .ok (.nx (ρ.set iL (some l'))) := by
  obtain ⟨es, rfl⟩ := hl'
  unfold sExprX
  rw [xm_at h e hl ha, hf]
  rfl
theorem NB.succ : ∀ {k : Nat} {d : D}, NB k d → NB (k + 1) d
  | _, .none, _ => by simp [NB]
  | _, .int _, _ => by simp [NB]
  | _, .str _, _ => by simp [NB]
  | k + 1, .list ds, h => by
    simp only [NB] at h ⊢
    exact fun d hd => NB.succ (h d hd)
  | k + 1, .tuple ds, h => by
    simp only [NB] at h ⊢
    exact fun d hd => NB.succ (h d hd)
  | _, .bool _, h => by simp [NB] at h
  | _, .dict _, h => by simp [NB] at h
  | 0, .list _, h => by simp [NB] at h
  | 0, .tuple _, h => by simp [NB] at h
/-! all that is asked -/
section
variable {l : D} {a : Addr} {p : Pl} {ts : List Str} {r : Str}
def askD (p : Pl) (ts : List Str) (r : Str) : D := .tuple [.tuple (ts.map .str), .str r, .tuple (ts.map (judD p ts)), .tuple (keptF p ts), .tuple (ftyF p ts)]
theorem nbFty : ∀ (fs : List (List Str)) (i : Nat), ∀ d ∈ fty i fs, NB 0 d := fun fs i d h => by
  obtain ⟨j, f, _, _, rfl⟩ := fty_mem.mp h
  simp [NB]
theorem nbFtyT : NB 1 (.tuple (ftyF p ts)) := by
  simp only [NB]
  exact nbFty _ _
theorem nbAsk : NB 3 (askD p ts r) := by
  unfold askD
  simp only [NB]
  intro d hd
  simp only [List.mem_cons, List.not_mem_nil, or_false] at hd
  rcases hd with rfl | rfl | rfl | rfl | rfl
  · exact NB.succ (nbStrT ts)
  · simp [NB]
  · exact judD_nb p ts ts
  · exact nbS kept_st.row
  · exact NB.succ nbFtyT
end

/-! ### intakes: an end; pieces one behind the other -/
theorem Go.keep {l l' : D} {a b : Addr} {p p' : D} {ts ts' : List Str} {r r' : Str} (g : Go l l' a p ts r) (h : At l b p' ts' r') (n : b ≠ a) : At l' b p' ts' r' := (g.ot b n).trans h
theorem rowsCat (P q : Str) : rowsT (P ++ q) = rowsT P ++ rowsT (lastT P ++ q) ∧ lastT (P ++ q) = lastT (lastT P ++ q) := by
  have e : P ++ q = repS (rowsT P ++ rowsT (lastT P ++ q)) ++ lastT (lastT P ++ q) := by
    refine TL.ext_tl ?_
    have h1 := congrArg TL.tl (text_eq P)
    have h2 := congrArg TL.tl (text_eq (lastT P ++ q))
    rw [TL.tl_append] at h1 h2
    rw [TL.tl_append] at h2
    rw [TL.tl_append, h1, List.append_assoc, h2, TL.tl_append, ← List.append_assoc]
    congr 1
    show (repS (rowsT P)).cps.toList ++ (repS (rowsT (lastT P ++ q))).cps.toList = (repS (rowsT P ++ rowsT (lastT P ++ q))).cps.toList
    rw [repS_tl, repS_tl, repS_tl, List.flatMap_append]
  have lf : ∀ t : Str, ¬ 10 ∈ (lastT t).cps.toList := fun t => lines_free (by rw [lines_eq]; exact List.mem_append.mpr (.inr List.mem_cons_self))
  have := rowsW (rows := rowsT P ++ rowsT (lastT P ++ q)) (w := lastT (lastT P ++ q)) (fun x hx => by
    rcases List.mem_append.mp hx with hx | hx
    · exact rowsT_free hx
    · exact rowsT_free hx) (lf _)
  rw [← e] at this
  exact this
theorem rowsNone {w : Str} (h : ¬ 10 ∈ w.cps.toList) : rowsT w = [] ∧ lastT w = w := by
  have := rowsW (rows := []) (w := w) (fun x hx => (nomatch hx)) h
  have e : repS [] ++ w = w := by
    refine TL.ext_tl ?_
    rw [TL.tl_append]
    rfl
  rw [e] at this
  exact this
theorem last_free (t : Str) : ¬ 10 ∈ (lastT t).cps.toList := lines_free (by rw [lines_eq]; exact List.mem_append.mpr (.inr List.mem_cons_self))
theorem app_nil (t : Str) : t ++ ("" : Str) = t := by
  refine TL.ext_tl ?_
  rw [TL.tl_append]
  have : TL.tl ("" : Str) = [] := rfl
  rw [this, List.append_nil]
theorem nil_app' (t : Str) : ("" : Str) ++ t = t := by
  refine TL.ext_tl ?_
  rw [TL.tl_append]
  rfl
theorem rowsEnd {w : Str} (h : ¬ 10 ∈ w.cps.toList) : rowsT (w ++ "\n") = [w] ∧ lastT (w ++ "\n") = "" := by
  have := rowsW (rows := [w]) (w := "") (fun x hx => by rw [List.mem_singleton.mp hx]; exact h) (by decide +kernel)
  have e : repS [w] ++ ("" : Str) = w ++ "\n" := app_nil _
  rw [e] at this
  exact this
section
variable {l : D} {a : Addr} {p : Pl} {ts : List Str} {r : Str}
def endT (ts : List Str) (r : Str) : List Str := if r = "" then ts else addT ts r
theorem end_at {pd : D} (hl : ∃ es, l = .list es) (h : At l a pd ts r) (hs : ts.length ≤ 100000) : ∃ l', f_Intake_end [excD a] l = .ok (.none, l') ∧ Go l l' a pd (endT ts r) "" := by
  obtain ⟨es, rfl⟩ := hl
  have tst : ∀ l0, At l0 a pd ts r → tV (e2 dNe (eFld 1 2 (eVar 0)) (eC (.str ""))) [some (excD a), some l0] = .ok (!decide (r = "")) := fun l0 h0 => tv_ok (e2_ok (fld_at (k := 2) h0 rfl rfl) rfl d_neS)
  have rest : ∀ l1 r1 ts1, (∃ es, l1 = .list es) → At l1 a pd ts1 r1 → k_Intake_end_2 [some (excD a), some l1] = .ok (.nx [some (excD a), some (setE (excD a) (.list (ts1.map .str)) (.str "") l1)]) := fun l1 r1 ts1 ⟨es1, e⟩ h1 => by
    subst e
    unfold k_Intake_end_2 sRest
    show (match entE (some (some (.list es1))) (excD a) with
        | some (ts, _) => _
        | none => _) = _
    rw [ent_at h1]
    show Out.ok (Fl.nx (setL 1 (excD a) (ts1.map .str) (.str "") _)) = _
    rw [setL_at rfl]
    rfl
  have frz : ∀ c, outD (g_Intake_end [some (excD a), some (.tuple es)]) ≠ .err c := fun c z => by
    unfold g_Intake_end at z
    have t := tst (.tuple es) h.frz
    rw [p_seq, p_if, t] at z
    by_cases hr : r = ""
    · rw [decide_eq_true hr] at z
      cases z
    · rw [decide_eq_false hr] at z
      have fl : eFld 1 2 (eVar 0) [some (excD a), some (.tuple es)] = .ok (.str r) := fld_at (k := 2) h.frz rfl rfl
      have : sExprX (xM 1 f_Intake_add (eVar 0) (aCons (eFld 1 2 (eVar 0)) aNil)) [some (excD a), some (.tuple es)] = .stuck := rfl
      have z : outD (sThen (sExprX (xM 1 f_Intake_add (eVar 0) (aCons (eFld 1 2 (eVar 0)) aNil)) [some (excD a), some (.tuple es)]) k_Intake_end_2) = .err c := z
      rw [this] at z
      cases z
  have t := tst (.list es) h
  unfold endT
  by_cases hr : r = ""
  · rw [if_pos hr]
    rw [decide_eq_true hr] at t
    refine ⟨setE (excD a) (.list (ts.map .str)) (.str "") (.list es), ?_, go_set ⟨es, rfl⟩ h⟩
    refine runL_at (ρ' := [some (excD a), some (setE (excD a) (.list (ts.map .str)) (.str "") (.list es))]) rfl frz ?_ rfl ⟨_, setE_list⟩
    show g_Intake_end [some (excD a), some (.list es)] = _
    unfold g_Intake_end
    rw [p_seqN (st_no t rfl)]
    exact rest _ _ _ ⟨es, rfl⟩ h
  · rw [if_neg hr]
    rw [decide_eq_false hr] at t
    obtain ⟨l1, e1, g1⟩ := add_at (t := r) ⟨es, rfl⟩ h hs
    obtain ⟨es1, rfl⟩ := g1.li
    refine ⟨setE (excD a) (.list ((addT ts r).map .str)) (.str "") (.list es1), ?_, g1.trans (go_set ⟨es1, rfl⟩ g1.at_)⟩
    refine runL_at (ρ' := [some (excD a), some (setE (excD a) (.list ((addT ts r).map .str)) (.str "") (.list es1))]) rfl frz ?_ rfl ⟨_, setE_list⟩
    show g_Intake_end [some (excD a), some (.list es)] = _
    unfold g_Intake_end
    have sx : sExprX (xM 1 f_Intake_add (eVar 0) (aCons (eFld 1 2 (eVar 0)) aNil)) [some (excD a), some (.list es)] = .ok (.nx [some (excD a), some (.list es1)]) := st_xm (ds := [.str r]) ⟨es, rfl⟩ h rfl rfl (by rw [p_acons, show eFld 1 2 (eVar 0) [some (excD a), some (.list es)] = .ok (.str r) from fld_at (k := 2) h rfl rfl]; rfl) e1
    rw [p_seqN (st_yes t sx)]
    exact rest _ _ _ ⟨es1, rfl⟩ g1.at_
end
/-! three intakes made -/
theorem look_new {es : List D} {a : Addr} {p : D} (h : lookE (.list es) (excD a) = none) : At (.list (es ++ [Em a p])) a p [] "" := by
  unfold At
  rw [look_list] at h ⊢
  rw [List.findSome?_append, h]
  show (none : Option (List D)).or ([Em a p].findSome? (lkF (a : Nat))) = _
  have : lkF (a : Nat) (Em a p) = some [p, .list [], .str ""] := if_pos rfl
  rw [List.findSome?_cons, this]
  rfl
theorem look_old {es : List D} {a b : Addr} {p p' : D} {ts : List Str} {r : Str} (h : At (.list es) b p' ts r) : At (.list (es ++ [Em a p])) b p' ts r := by
  unfold At at h ⊢
  rw [look_list] at h ⊢
  rw [List.findSome?_append, h]
  rfl
theorem look_ne {es : List D} {a b : Addr} {p : D} {ts : List Str} {r : Str} (h : At (.list es) a p ts r) (f : lookE (.list es) (excD b) = none) : b ≠ a := fun z => by
  rw [z, show lookE (.list es) (excD a) = _ from h] at f
  cases f
theorem look_free : ∀ es : List D, ∃ m : Nat, ∀ b : Nat, m ≤ b → lookE (.list es) (excD b) = none
  | [] => ⟨0, fun _ _ => rfl⟩
  | e :: es => by
    obtain ⟨m, hm⟩ := look_free es
    have key : ∀ m2 : Nat, (∀ b : Nat, m2 ≤ b → lkF (b : Nat) e = none) → ∃ m : Nat, ∀ b : Nat, m ≤ b → lookE (.list (e :: es)) (excD b) = none := fun m2 h2 => ⟨m + m2, fun b hb => by
      have := hm b (by omega)
      rw [look_list] at this ⊢
      rw [List.findSome?_cons, h2 b (by omega)]
      exact this⟩
    by_cases h : ∃ j r, e = .tuple (.int j :: r)
    · obtain ⟨j, r, rfl⟩ := h
      exact key (j.toNat + 1) fun b hb => if_neg (by omega)
    · refine key 0 fun b _ => ?_
      unfold lkF
      split
      · rename_i j r
        exact absurd ⟨j, r, rfl⟩ h
      · rfl
theorem q_mk3 {iL i j k : Nat} {g1 g2 g3 : GE} {g : GS} {ρ : Env} {p : D} (e1 : g1 ρ = .ok p) (hl : ρ[iL]? = some (some (.list []))) (e2' : ∀ l, g2 (ρ.set iL (some l)) = .ok p) (e3' : ∀ l l', g3 ((ρ.set iL (some l)).set iL (some l')) = .ok p)
    (n : ∀ (a b c : Addr) (l1 l2 l : D), b ≠ a → c ≠ a → c ≠ b → (∃ es, l = .list es) → At l a p [] "" → At l b p [] "" → At l c p [] "" → outD (g ((((((ρ.set iL (some l1)).set iL (some l2)).set iL (some l)).set i (some (excD a))).set j (some (excD b))).set k (some (excD c)))) = .ok (.bool true)) : outD (sMk3 iL i j k g1 g2 g3 g ρ) = .ok (.bool true) := by
  have main : sMk3 iL i j k g1 g2 g3 g ρ = .ok (.rt (.bool true)) := by
    unfold sMk3
    rw [e1, okb, hl]
    dsimp only
    refine uni_eqP (fun a fa => ?_) (0 : Addr) rfl
    rw [e2', okb]
    have A1 := look_new (p := p) fa
    obtain ⟨m, hm⟩ := look_free ([] ++ [Em a p])
    refine uni_eqP (fun b fb => ?_) (m : Addr) (hm m (Nat.le_refl _))
    rw [e3', okb]
    have B1 := look_new (p := p) fb
    have A2 := look_old (a := b) (p := p) A1
    obtain ⟨m2, hm2⟩ := look_free ([] ++ [Em a p] ++ [Em b p])
    refine uni_eqP (fun c fc => ?_) (m2 : Addr) (hm2 m2 (Nat.le_refl _))
    exact outD_true (n a b c _ _ _ (look_ne A1 fb) (look_ne A2 fc) (look_ne B1 fc) ⟨_, rfl⟩ (look_old A2) (look_old B1) (look_new fc))
  rw [main]
  rfl

/-! ### what waits -/
theorem tup_addK {a b : List Str} (h : a.length + b.length ≤ 1000000) : dAdd (.tuple (a.map .str)) (.tuple (b.map .str)) = some (.tuple ((a ++ b).map .str)) := by
  rw [List.map_append]
  show (none : Option D).or ((none : Option D).or ((none : Option D).or (dAddT (.tuple (a.map .str)) (.tuple (b.map .str))))) = _
  have : dAddT (.tuple (a.map .str)) (.tuple (b.map .str)) = some (.tuple (a.map .str ++ b.map .str)) := if_pos (by rw [List.length_map, List.length_map]; exact h)
  rw [this]
  rfl
theorem rowsT_len (P q : Str) : (rowsT P).length ≤ (rowsT (P ++ q)).length := by
  rw [(rowsCat P q).1, List.length_append]
  omega
theorem jud_empty (p : Pl) (ts : List Str) : judF p ts "" = (["count"] : List Str) := by
  have w : wordsT "" = ([("" : Str)] : List Str) := by decide +kernel
  have f : faultsF p "" = (["count"] : List Str) := by
    unfold faultsF
    rw [w]
    rfl
  have g : good p "" = false := by
    unfold good
    rw [f]
    rfl
  rw [jud_bad g, f]
theorem joinL_rows : ∀ ts : List Str, (∀ x ∈ ts, ¬ 10 ∈ x.cps.toList) → rowsT (Txt.join nl ts) = ts.dropLast ∧ lastT (Txt.join nl ts) = ts.getLastD "" := fun ts h => by
  by_cases z : ts = []
  · subst z
    exact ⟨by decide +kernel, by decide +kernel⟩
  · have l : linesT (Txt.join nl ts) = ts := TL.split_join (y := nl) (s := 10) (S := []) rfl (by decide +kernel) z h
    unfold rowsT lastT
    rw [l]
    exact ⟨rfl, rfl⟩
/-- one hand asked: the turn of the last loop -/
theorem hand_turn {p : Pl} {ts : List Str} {a : Addr} {l : D} {x0 x3 x4 x5 x6 x7 x8 x9 x12 x13 : Option D} (hs : ts.length ≤ 9) (hm : ∀ t ∈ ts, TxOk 52 t) (hl : ∃ es, l = .list es) (h : At l a p.d ts.dropLast (ts.getLastD "")) :
    ∃ x12' x13' l' us r, b_law_3 [x0, some p.d, some (.tuple (ts.map .str)), x3, x4, x5, x6, x7, x8, x9, some (.str (ts.getLastD "")), some (excD a), x12, x13, some l] = .ok (.nx [x0, some p.d, some (.tuple (ts.map .str)), x3, x4, x5, x6, x7, x8, x9, some (.str (ts.getLastD "")), some (excD a), x12', x13', some l']) ∧ Go l l' a p.d us r := by
  let L : Str := ts.getLastD ""
  let W : List Str := ts.dropLast
  have wl : W.length = ts.length - 1 := List.length_dropLast
  let B : Option D → Option D → D → Env := fun x12 x13 l => [x0, some p.d, some (.tuple (ts.map .str)), x3, x4, x5, x6, x7, x8, x9, some (.str L), some (excD a), x12, x13, some l]
  let E : List Str := if L = "" then W else ts
  have ee : endT W L = E := by
    show (if L = "" then W else addT W L) = if L = "" then W else ts
    by_cases c : L = ""
    · rw [if_pos c, if_pos c]
    · rw [if_neg c, if_neg c]
      unfold addT
      rw [if_pos (by omega)]
      have ne : ts ≠ [] := fun z => c (by show ts.getLastD "" = ""; rw [z]; rfl)
      show ts.dropLast ++ [ts.getLastD ""] = ts
      rw [List.getLastD_eq_getLast?, List.getLast?_eq_some_getLast ne]
      exact List.dropLast_concat_getLast ne
  have el : E.length ≤ 9 := by
    show (if L = "" then W else ts).length ≤ 9
    split <;> omega
  have em : ∀ t ∈ E, t ∈ ts := fun t ht => by
    have ht : t ∈ (if L = "" then W else ts) := ht
    split at ht
    · exact List.dropLast_subset _ ht
    · exact ht
  obtain ⟨l1, f1', g1⟩ := end_at hl h (by show W.length ≤ _; omega)
  rw [ee] at g1
  obtain ⟨l2, f2', g2⟩ := end_at g1.li g1.at_ (by omega)
  have e2e : endT E "" = E := if_pos rfl
  rw [e2e] at g2
  have r0 := rowsNone (w := "") (by decide +kernel)
  obtain ⟨l3, f3', g3⟩ := take_at (q := "") g2.li g2.at_ (by omega) (by decide)
  have z1 : ("" : Str) ++ ("" : Str) = "" := app_nil _
  rw [z1, r0.1, r0.2] at g3
  have g3 : Go l2 l3 a p.d E "" := g3
  have r1 := rowsEnd (w := "") (by decide +kernel)
  obtain ⟨l4, f4', g4⟩ := take_at (q := "\n") g3.li g3.at_ (by omega) (by decide)
  rw [r1.1, r1.2, addA_all _ _ (by show E.length + 1 ≤ 40; omega)] at g4
  have hd0 : ∀ (l0 : D) (us : List Str) (r : Str) (x12 x13 : Option D), At l0 a p.d us r → us.length ≤ 100 → eMR 14 f_Intake_heap (eVar 11) aNil (B x12 x13 l0) = .ok (.tuple (us.map .str)) := fun l0 us r x12 x13 h0 hu => (mr_at h0 rfl rfl rfl).trans (heap_at h0.frz (by omega))
  have wd0 : ∀ (l0 : D) (us : List Str) (r : Str) (x12 x13 : Option D), At l0 a p.d us r → eMR 14 f_Intake_waiting (eVar 11) aNil (B x12 x13 l0) = .ok (.str r) := fun l0 us r x12 x13 h0 => (mr_at h0 rfl rfl rfl).trans (waiting_at h0.frz)
  have mx : eCl dMax (aCons (eC (.int 0)) (aCons (e2 dSub (eCl (f1 dLen) (aCons (eVar 2) aNil)) (eC (.int 1))) aNil)) (B x12 x13 l) = .ok (.int ((ts.length - 1 : Nat) : Int)) := by
    have s : e2 dSub (eCl (f1 dLen) (aCons (eVar 2) aNil)) (eC (.int 1)) (B x12 x13 l) = .ok (.int ((ts.length : Int) - 1)) := e2_ok (x := .int (ts.length : Nat)) (y := .int 1) (b1 rfl (d_lenT.trans (by rw [List.length_map]))) rfl rfl
    rw [p_cl, p_acons, show eC (.int 0) (B x12 x13 l) = .ok (.int 0) from rfl, okb, p_acons, s]
    show lift (some (PyData.int (if (ts.length : Int) - 1 > 0 then (ts.length : Int) - 1 else 0))) = _
    have : (if (ts.length : Int) - 1 > 0 then (ts.length : Int) - 1 else 0) = ((ts.length - 1 : Nat) : Int) := by split <;> omega
    rw [this]
    rfl
  have sl : eSl (eVar 2) oNo (oI (eCl dMax (aCons (eC (.int 0)) (aCons (e2 dSub (eCl (f1 dLen) (aCons (eVar 2) aNil)) (eC (.int 1))) aNil)))) (B x12 x13 l) = .ok (.tuple (W.map .str)) := by
    unfold eSl
    rw [show eVar 2 (B x12 x13 l) = .ok (.tuple (ts.map .str)) from rfl, okb, show oNo (B x12 x13 l) = .ok none from rfl, okb, oi_ok mx, okb]
    show lift (some (PyData.tuple (cutD (ts.map PyData.str) none (some ((ts.length - 1 : Nat) : Int))))) = _
    rw [cut_to (by rw [List.length_map]; omega), ← List.map_take, ← List.dropLast_eq_take]
    rfl
  refine ⟨some (.tuple (E.map .str)), some (.tuple (E.map .str)), l4, E ++ [("" : Str)], "", ?_, g1.trans (g2.trans (g3.trans g4))⟩
  show b_law_3 (B x12 x13 l) = .ok (.nx (B (some (.tuple (E.map .str))) (some (.tuple (E.map .str))) l4))
  unfold b_law_3
  refine st_seq (if_no (or_no (tv_ok (e2_ok (hd0 l W L x12 x13 h (by omega)) sl (ne_same (nbStrT W) (by decide)))) (tv_ok (e2_ok (wd0 l W L x12 x13 h) rfl (d_neS.trans (by rw [decide_eq_true rfl]; rfl)))))) ?_
  unfold b_law_3_2
  refine st_seq (ρ2 := B (some (.tuple (W.map .str))) x13 l) (st_set (hd0 l W L x12 x13 h (by omega))) ?_
  unfold b_law_3_3
  have t : tV (e2 dNe (eVar 10) (eC (.str ""))) (B (some (.tuple (W.map .str))) x13 l) = .ok (!decide (L = "")) := tv_ok (e2_ok rfl rfl d_neS)
  refine st_seq (ρ2 := B (some (.tuple (E.map .str))) x13 l) ?_ ?_
  · by_cases c : L = ""
    · rw [decide_eq_true c] at t
      have : E = W := if_pos c
      rw [this]
      exact st_no t rfl
    · rw [decide_eq_false c] at t
      have : E = ts := if_neg c
      rw [this]
      exact st_yes t (st_set rfl)
  unfold b_law_3_4
  refine st_seq (ρ2 := B (some (.tuple (E.map .str))) x13 l1) (st_xm hl h rfl rfl rfl f1') ?_
  unfold b_law_3_5
  refine st_seq (if_no (or_no (tv_ok (e2_ok (wd0 l1 E "" _ x13 g1.at_) rfl (d_neS.trans (by rw [decide_eq_true rfl]; rfl)))) (tv_ok (e2_ok (hd0 l1 E "" _ x13 g1.at_ (by omega)) rfl (ne_same (nbStrT E) (by decide)))))) ?_
  unfold b_law_3_6
  refine st_seq (ρ2 := B (some (.tuple (E.map .str))) (some (.tuple (E.map .str))) l1) (st_set (hd0 l1 E "" _ x13 g1.at_ (by omega))) ?_
  unfold b_law_3_7
  refine st_seq (ρ2 := B (some (.tuple (E.map .str))) (some (.tuple (E.map .str))) l2) (st_xm g1.li g1.at_ rfl rfl rfl f2') ?_
  unfold b_law_3_8
  refine st_seq (ρ2 := B (some (.tuple (E.map .str))) (some (.tuple (E.map .str))) l3) (st_xm g2.li g2.at_ rfl rfl rfl f3') ?_
  unfold b_law_3_9
  refine st_seq (if_no (or_no (tv_ok (e2_ok (hd0 l3 E "" _ _ g3.at_ (by omega)) rfl (ne_same (nbStrT E) (by decide)))) (tv_ok (e2_ok (wd0 l3 E "" _ _ g3.at_) rfl (d_neS.trans (by rw [decide_eq_true rfl]; rfl)))))) ?_
  unfold b_law_3_10
  refine st_seq (ρ2 := B (some (.tuple (E.map .str))) (some (.tuple (E.map .str))) l4) (st_xm g3.li g3.at_ rfl rfl rfl f4') ?_
  unfold b_law_3_11
  have H : Hp20 (E ++ [("" : Str)]) := ⟨by rw [List.length_append, List.length_singleton]; omega, fun t ht => by
    rcases List.mem_append.mp ht with ht | ht
    · exact Nat.le_trans (hm t (em t ht)).1 (by decide)
    · rw [List.mem_singleton.mp ht]; decide⟩
  have rp := (mr_at (iL := 14) (f := f_Intake_report) (go := eVar 11) (ga := aNil) (ρ := B (some (.tuple (E.map .str))) (some (.tuple (E.map .str))) l4) g4.at_ rfl rfl rfl).trans (report_at g4.at_.frz H)
  have ix : e2 dIx (eMR 14 f_Intake_report (eVar 11) aNil) (e1 dNeg (eC (.int 1))) (B (some (.tuple (E.map .str))) (some (.tuple (E.map .str))) l4) = .ok (.tuple ((["count"] : List Str).map .str)) := by
    refine e2_ok rp (y := .int (-1)) rfl ?_
    rw [d_ixT, List.map_append]
    refine (atI_last _ _).trans ?_
    show some (judD p (E ++ [("" : Str)]) "") = _
    unfold judD
    rw [jud_empty]
  have dd : e2 dAdd (eVar 13) (eTup (aCons (eC (.str "")) aNil)) (B (some (.tuple (E.map .str))) (some (.tuple (E.map .str))) l4) = .ok (.tuple ((E ++ [("" : Str)]).map .str)) := e2_ok (x := .tuple (E.map .str)) (y := .tuple (([("" : Str)] : List Str).map .str)) rfl rfl (tup_addK (by rw [List.length_singleton]; omega))
  exact if_no (or_no (tv_ok (e2_ok (hd0 l4 (E ++ [("" : Str)]) "" _ _ g4.at_ (by rw [List.length_append, List.length_singleton]; omega)) dd (ne_same (nbStrT _) (by decide)))) (tv_ok (e2_ok ix rfl (ne_same (nbStrT (["count"] : List Str)) (by decide)))))
theorem last_len (t : Str) : (lastT t).length ≤ t.length := by
  have := congrArg Str.length (text_eq t)
  rw [len_app] at this
  omega
def pre (U : Str) (j : Nat) : Str := ⟨(U.cps.toList.take j).toArray⟩
theorem pre_tl (U : Str) (j : Nat) : TL.tl (pre U j) = U.cps.toList.take j := by
  show ((U.cps.toList.take j).toArray).toList = _
  simp
theorem pre_rest (U : Str) (j : Nat) : ∃ q, U = pre U j ++ q := ⟨⟨(U.cps.toList.drop j).toArray⟩, by
  refine TL.ext_tl ?_
  rw [TL.tl_append, pre_tl]
  show U.cps.toList = _ ++ ((U.cps.toList.drop j).toArray).toList
  simp⟩
theorem pre_step {U : Str} {j c : Nat} (h : U.cps.toList[j]? = some c) : pre U (j + 1) = pre U j ++ (⟨#[c]⟩ : Str) := by
  refine TL.ext_tl ?_
  rw [TL.tl_append, pre_tl, pre_tl, List.take_add_one, h]
  rfl
theorem pre_all (U : Str) : pre U U.cps.toList.length = U := by
  refine TL.ext_tl ?_
  rw [pre_tl, List.take_length]
theorem pre_len (U : Str) (j : Nat) : (pre U j).length ≤ U.length := by
  rw [TL.len_tl, TL.len_tl, pre_tl, List.length_take]
  exact Nat.min_le_right _ _
theorem law_true (ns : List Int) (hl : ns.length ≤ 63) (hb : ∀ z ∈ ns, Builtin.Int.intBits z ≤ 1048576) : f_law [scrD ns] = .ok (.bool true) := by
  unfold f_law runW
  rw [runR_at (by rfl)]
  unfold g_law
  show outD (sSeq _ _ [some (scrD ns), none, none, none, none, none, none, none, none, none, none, none, none, none, some (.list [])]) = _
  have m0 := mixed_is ns 0 (by decide) (by decide)
  have m1 := mixed_is ns 1 (by decide) (by decide)
  obtain ⟨p, p1, p2⟩ := plan_is (mixN ns 0) (mixN_pos ns 0)
  obtain ⟨ts, h1, h2, h3⟩ := heap_is p2 (mixN ns 1) 9 (by decide)
  have free : ∀ x ∈ ts, ¬ 10 ∈ x.cps.toList := fun x hx z => (h3 x hx).2 10 z rfl
  let U : Str := Txt.join nl ts
  have sm : sumL ts ≤ 9 * 52 := by
    have := sum_le (k := 52) fun t ht => (h3 t ht).1
    omega
  have ul : U.length ≤ 600 := by
    have h := text_eq U
    have h := congrArg Str.length h
    rw [len_app, repS_len, (joinL_rows ts free).1, (joinL_rows ts free).2] at h
    have a1 := sum_sub (List.dropLast_sublist ts)
    have a2 : (ts.getLastD "").length ≤ 52 := by
      by_cases z : ts = []
      · rw [z]; decide
      · rw [List.getLastD_eq_getLast?, List.getLast?_eq_some_getLast z]
        exact (h3 _ (List.getLast_mem z)).1
    rw [List.length_dropLast] at h
    omega
  have jn : eM1 dJoin (eC (.str "\n")) (eVar 2) [some (scrD ns), some p.d, some (.tuple (ts.map .str)), none, none, none, none, none, none, none, none, none, none, none, some (.list [])] = .ok (.str U) := by
    refine m1_ok rfl rfl ?_
    show (strsOf (ts.map .str)).bind _ = _
    rw [strs_map]
    show (if sumL ts + ts.length * 1 ≤ 1000000 then some (PyData.str (Txt.join "\n" ts)) else none) = _
    rw [if_pos (by omega)]
    rfl
  refine q_set (c1 (c2 rfl rfl m0) p1) (q_set (c3 rfl (c2 rfl rfl m1) rfl h1) (q_set jn (q_mk3 rfl rfl (fun _ => rfl) (fun _ _ => rfl) fun a b c l1 l2 l hba hca hcb li Aa Ab Ac => ?_)))
  let B : Option D → Option D → Option D → Option D → Option D → Option D → Option D → D → Env := fun x7 x8 x9 x10 x11 x12 x13 l => [some (scrD ns), some p.d, some (.tuple (ts.map .str)), some (.str U), some (excD a), some (excD b), some (excD c), x7, x8, x9, x10, x11, x12, x13, some l]
  show outD (k_law_5 (B none none none none none none none l)) = _
  have n0 : ("" : Str).length = 0 := rfl
  -- at once
  obtain ⟨la, fa, ga⟩ := take_at (q := U) li Aa (by decide) (by rw [n0]; omega)
  have jr := joinL_rows ts free
  rw [nil_app', jr.1, jr.2, addA_all _ _ (by show 0 + _ ≤ _; rw [List.length_dropLast]; omega), List.nil_append] at ga
  unfold k_law_5
  refine q_nx (st_xm li Aa rfl rfl rfl fa) ?_
  show outD (k_law_6 (B none none none none none none none la)) = _
  unfold k_law_6
  -- sign by sign
  have rl : ∀ j, (rowsT (pre U j)).length ≤ 9 := fun j => by
    obtain ⟨q, e⟩ := pre_rest U j
    have := rowsT_len (pre U j) q
    rw [← e, show rowsT U = ts.dropLast from jr.1, List.length_dropLast] at this
    omega
  refine q_loopI (ds := U.cps.toList.map fun c => .str ⟨#[c]⟩) (fun j ρ' => ∃ x7 l, (∃ es, l = .list es) ∧ At l a p.d ts.dropLast (ts.getLastD "") ∧ At l b p.d (rowsT (pre U j)) (lastT (pre U j)) ∧ At l c p.d [] "" ∧ ρ' = B x7 none none none none none none l) rfl ⟨none, la, ga.li, ga.at_, ?_, ga.keep Ac hca, rfl⟩ (fun j d hd ρ' hI => ?_) fun ρ' hI => ?_
  · have e0 : pre U 0 = "" := by
      refine TL.ext_tl ?_
      rw [pre_tl]
      rfl
    rw [e0, (rowsNone (w := "") (by decide +kernel)).1, (rowsNone (w := "") (by decide +kernel)).2]
    exact ga.keep Ab hba
  · obtain ⟨x7, l, li, A1, A2, A3, rfl⟩ := hI
    rw [List.getElem?_map] at hd
    obtain ⟨ch, hch, rfl⟩ := Option.map_eq_some_iff.mp hd
    have l0 := last_len (pre U j)
    have l1' := pre_len U j
    have c1l : (⟨#[ch]⟩ : Str).length = 1 := rfl
    obtain ⟨l', f1', g1⟩ := take_at (q := (⟨#[ch]⟩ : Str)) li A2 (by have := rl j; omega) (by rw [c1l]; omega)
    have cat := rowsCat (pre U j) (⟨#[ch]⟩ : Str)
    rw [← pre_step hch] at cat
    have rj := rl (j + 1)
    have aa : addA (rowsT (pre U j)) (rowsT (lastT (pre U j) ++ (⟨#[ch]⟩ : Str))) = rowsT (pre U (j + 1)) := by
      rw [cat.1]
      refine addA_all _ _ ?_
      rw [cat.1, List.length_append] at rj
      omega
    rw [aa, ← cat.2] at g1
    obtain ⟨l'', f2', g2⟩ := take_at (q := "") g1.li g1.at_ (by omega) (by have := last_len (pre U (j + 1)); have := pre_len U (j + 1); rw [n0]; omega)
    have rn := rowsNone (last_free (pre U (j + 1)))
    rw [app_nil, rn.1, rn.2] at g2
    have g2 : Go l' l'' b p.d (rowsT (pre U (j + 1))) (lastT (pre U (j + 1))) := g2
    refine ⟨B (some (.str ⟨#[ch]⟩)) none none none none none none l, rfl, B (some (.str ⟨#[ch]⟩)) none none none none none none l'', ?_, _, l'', g2.li, g2.keep (g1.keep A1 (Ne.symm hba)) (Ne.symm hba), g2.at_, g2.keep (g1.keep A3 hcb) hcb, rfl⟩
    unfold b_law_1
    refine st_seq (ρ2 := B (some (.str ⟨#[ch]⟩)) none none none none none none l') (st_xm li A2 rfl rfl rfl f1') ?_
    unfold b_law_1_2
    exact st_xm g1.li g1.at_ rfl rfl rfl f2'
  obtain ⟨x7, l, li, A1, A2, A3, rfl⟩ := hI
  rw [List.length_map, pre_all, show rowsT U = ts.dropLast from jr.1, show lastT U = ts.getLastD "" from jr.2] at A2
  unfold k_law_7
  -- row by row
  have en : iEnum1 (eVar 2) (B x7 none none none none none none l) = .ok (numF 0 (ts.map .str)) := congrArg Out.ok (num_is _)
  refine q_loopI (ds := numF 0 (ts.map .str)) (fun j ρ' => ∃ x8 x9 l, (∃ es, l = .list es) ∧ At l a p.d ts.dropLast (ts.getLastD "") ∧ At l b p.d ts.dropLast (ts.getLastD "") ∧ At l c p.d (ts.take j).dropLast ((ts.take j).getLastD "") ∧ ρ' = B x7 x8 x9 none none none none l) en ⟨none, none, l, li, A1, A2, A3, rfl⟩ (fun j d hd ρ' hI => ?_) fun ρ' hI => ?_
  · obtain ⟨x8, x9, l, li, A1, A2, A3, rfl⟩ := hI
    obtain ⟨y, e1, rfl⟩ := numF_get hd
    rw [List.getElem?_map] at e1
    obtain ⟨t, q, rfl⟩ := Option.map_eq_some_iff.mp e1
    rw [Nat.zero_add]
    have hj : j < ts.length := (List.getElem?_eq_some_iff.mp q).1
    have tm : t ∈ ts := List.mem_of_getElem? q
    have tl := (h3 t tm).1
    have tk : ts.take (j + 1) = ts.take j ++ [t] := by rw [List.take_add_one, q]; rfl
    have tkl : (ts.take j).length ≤ 9 := by rw [List.length_take]; omega
    have dm : e2 dMulS (eC (.str "\n")) (eCl (f1 dInt) (aCons (e2 dGt (eVar 8) (eC (.int 0))) aNil)) (B x7 (some (.int (j : Nat))) (some (.str t)) none none none none l) = .ok (.str (if j = 0 then "" else "\n")) := by
      have g0 : e2 dGt (eVar 8) (eC (.int 0)) (B x7 (some (.int (j : Nat))) (some (.str t)) none none none none l) = .ok (.bool (decide (0 < j))) := e2_ok rfl rfl (d_gt.trans (by congr 2; exact decide_eq_decide.mpr (by omega)))
      by_cases z : j = 0
      · rw [if_pos z]
        rw [decide_eq_false (by omega)] at g0
        refine e2_ok rfl (b1 g0 (y := .int 0) rfl) ?_
        have e : mulX "\n" 0 = "" := by decide +kernel
        show (if (0 : Int) ≤ 0 ∧ (0 : Int) ≤ 64 ∧ ("\n" : Str).length ≤ 10000 then some (PyData.str (mulX "\n" 0)) else none) = _
        rw [if_pos (by decide), e]
      · rw [if_neg z]
        rw [decide_eq_true (by omega)] at g0
        refine e2_ok rfl (b1 g0 (y := .int 1) rfl) ?_
        have e : mulX "\n" 1 = "\n" := by decide +kernel
        show (if (0 : Int) ≤ 1 ∧ (1 : Int) ≤ 64 ∧ ("\n" : Str).length ≤ 10000 then some (PyData.str (mulX "\n" 1)) else none) = _
        rw [if_pos (by decide), e]
    -- the end of the row ahead
    obtain ⟨l', f1', g1⟩ : ∃ l', f_Intake_take [excD c, .str (if j = 0 then "" else "\n")] l = .ok (.none, l') ∧ Go l l' c p.d (ts.take j) "" := by
      by_cases z : j = 0
      · subst z
        rw [if_pos rfl]
        obtain ⟨l', f1', g1⟩ := take_at (q := "") li A3 (by show 0 ≤ 40; decide) (by show 0 + 0 ≤ 900000; decide)
        have rn := rowsNone (w := "") (by decide +kernel)
        have e0 : ((ts.take 0).getLastD "" : Str) ++ ("" : Str) = "" := app_nil _
        rw [e0, rn.1, rn.2] at g1
        exact ⟨l', f1', g1⟩
      · rw [if_neg z]
        have ne : ts.take j ≠ [] := fun e => by
          have := congrArg List.length e
          rw [List.length_take] at this
          simp only [List.length_nil] at this
          omega
        have gl : (ts.take j).getLastD "" = (ts.take j).getLast ne := by rw [List.getLastD_eq_getLast?, List.getLast?_eq_some_getLast ne]; rfl
        have mem : (ts.take j).getLast ne ∈ ts := List.mem_of_mem_take (List.getLast_mem ne)
        have dl : (ts.take j).dropLast.length ≤ 9 := by rw [List.length_dropLast]; omega
        have nl1 : ("\n" : Str).length = 1 := rfl
        obtain ⟨l', f1', g1⟩ := take_at (q := "\n") li A3 (by omega) (by rw [gl, nl1]; have := (h3 _ mem).1; omega)
        rw [gl] at g1
        have rn := rowsEnd (free _ mem)
        rw [rn.1, rn.2, addA_all _ _ (by rw [List.length_singleton]; omega), List.dropLast_concat_getLast] at g1
        exact ⟨l', f1', g1⟩
    obtain ⟨l'', f2', g2⟩ := take_at (q := t) g1.li g1.at_ (by omega) (by rw [n0]; omega)
    have rn := rowsNone (free t tm)
    rw [nil_app', rn.1, rn.2] at g2
    have g2 : Go l' l'' c p.d (ts.take j) t := g2
    have A3' : At l'' c p.d (ts.take (j + 1)).dropLast ((ts.take (j + 1)).getLastD "") := by
      rw [tk, List.dropLast_concat, List.getLastD_eq_getLast?, List.getLast?_concat]
      exact g2.at_
    refine ⟨B x7 (some (.int (j : Nat))) (some (.str t)) none none none none l, rfl, B x7 (some (.int (j : Nat))) (some (.str t)) none none none none l'', ?_, _, _, l'', g2.li, g2.keep (g1.keep A1 (Ne.symm hca)) (Ne.symm hca), g2.keep (g1.keep A2 (Ne.symm hcb)) (Ne.symm hcb), A3', rfl⟩
    unfold b_law_2
    refine st_seq (ρ2 := B x7 (some (.int (j : Nat))) (some (.str t)) none none none none l') (st_xm li A3 rfl rfl (by rw [p_acons, dm]; rfl) f1') ?_
    unfold b_law_2_2
    refine st_seq (ρ2 := B x7 (some (.int (j : Nat))) (some (.str t)) none none none none l'') (st_xm g1.li g1.at_ rfl rfl rfl f2') ?_
    unfold b_law_2_3
    have w := (mr_at (iL := 14) (f := f_Intake_waiting) (go := eVar 6) (ga := aNil) (ρ := B x7 (some (.int (j : Nat))) (some (.str t)) none none none none l'') g2.at_ rfl rfl rfl).trans (waiting_at g2.at_.frz)
    have hp := (mr_at (iL := 14) (f := f_Intake_heap) (go := eVar 6) (ga := aNil) (ρ := B x7 (some (.int (j : Nat))) (some (.str t)) none none none none l'') g2.at_ rfl rfl rfl).trans (heap_at g2.at_.frz (by omega))
    have s1 : eSl (eVar 2) oNo (oI (eVar 8)) (B x7 (some (.int (j : Nat))) (some (.str t)) none none none none l'') = .ok (.tuple ((ts.take j).map .str)) := by
      show lift (some (PyData.tuple (cutD (ts.map PyData.str) none (some (j : Int))))) = _
      rw [cut_to (by rw [List.length_map]; omega), ← List.map_take]
      rfl
    exact if_no (or_no (tv_ok (e2_ok w rfl (d_neS.trans (by rw [decide_eq_true rfl]; rfl)))) (tv_ok (e2_ok hp s1 (ne_same (nbStrT _) (by decide)))))
  obtain ⟨x8, x9, l, li, A1, A2, A3, rfl⟩ := hI
  rw [numF_len, List.length_map, List.take_length] at A3
  unfold k_law_8
  have ix : e2 dIx (e2 dAdd (eVar 2) (eTup (aCons (eC (.str "")) aNil))) (eCl dMax (aCons (eC (.int 0)) (aCons (e2 dSub (eCl (f1 dLen) (aCons (eVar 2) aNil)) (eC (.int 1))) aNil))) (B x7 x8 x9 none none none none l) = .ok (.str (ts.getLastD "")) := by
    have s : e2 dSub (eCl (f1 dLen) (aCons (eVar 2) aNil)) (eC (.int 1)) (B x7 x8 x9 none none none none l) = .ok (.int ((ts.length : Int) - 1)) := e2_ok (x := .int (ts.length : Nat)) (y := .int 1) (b1 rfl (d_lenT.trans (by rw [List.length_map]))) rfl rfl
    have mx : eCl dMax (aCons (eC (.int 0)) (aCons (e2 dSub (eCl (f1 dLen) (aCons (eVar 2) aNil)) (eC (.int 1))) aNil)) (B x7 x8 x9 none none none none l) = .ok (.int ((ts.length - 1 : Nat) : Int)) := by
      rw [p_cl, p_acons, show eC (.int 0) (B x7 x8 x9 none none none none l) = .ok (.int 0) from rfl, okb, p_acons, s]
      show lift (some (PyData.int (if (ts.length : Int) - 1 > 0 then (ts.length : Int) - 1 else 0))) = _
      have : (if (ts.length : Int) - 1 > 0 then (ts.length : Int) - 1 else 0) = ((ts.length - 1 : Nat) : Int) := by split <;> omega
      rw [this]
      rfl
    refine e2_ok (e2_ok (x := .tuple (ts.map .str)) (y := .tuple (([("" : Str)] : List Str).map .str)) rfl rfl (tup_addK (by rw [List.length_singleton]; omega))) mx ?_
    rw [d_ixT, atI_pos (by omega) (by rw [List.length_map, List.length_append, List.length_singleton]; omega), Int.toNat_natCast, List.getElem?_map]
    by_cases z : ts = []
    · subst z; rfl
    · have pos : 0 < ts.length := List.length_pos_iff.mpr z
      rw [List.getElem?_append_left (by omega), List.getLastD_eq_getLast?, List.getLast?_eq_getElem?]
      rw [List.getElem?_eq_getElem (by omega)]
      rfl
  refine q_set ix ?_
  show outD (k_law_9 (B x7 x8 x9 (some (.str (ts.getLastD ""))) none none none l)) = _
  unfold k_law_9
  obtain ⟨y12, y13, l1', u1, r1, t1', g1⟩ := hand_turn (x0 := some (scrD ns)) (x3 := some (.str U)) (x4 := some (excD a)) (x5 := some (excD b)) (x6 := some (excD c)) (x7 := x7) (x8 := x8) (x9 := x9) (x12 := none) (x13 := none) h2 h3 li A1
  obtain ⟨z12, z13, l2', u2, r2, t2', g2⟩ := hand_turn (x0 := some (scrD ns)) (x3 := some (.str U)) (x4 := some (excD a)) (x5 := some (excD b)) (x6 := some (excD c)) (x7 := x7) (x8 := x8) (x9 := x9) (x12 := y12) (x13 := y13) h2 h3 g1.li (g1.keep A2 hba)
  obtain ⟨w12, w13, l3', u3, r3, t3', g3⟩ := hand_turn (x0 := some (scrD ns)) (x3 := some (.str U)) (x4 := some (excD a)) (x5 := some (excD b)) (x6 := some (excD c)) (x7 := x7) (x8 := x8) (x9 := x9) (x12 := z12) (x13 := z13) h2 h3 g2.li (g2.keep (g1.keep A3 hca) hcb)
  refine q_nx (ρ2 := B x7 x8 x9 (some (.str (ts.getLastD ""))) (some (excD c)) w12 w13 l3') ?_ (q_ret rfl)
  refine (p_for (ds := [excD a, excD b, excD c]) rfl).trans ?_
  exact forGo_cons rfl t1' (forGo_cons rfl t2' (forGo_cons rfl t3' rfl))

end DL
set_option Elab.async false
set_option linter.all false
set_option maxRecDepth 100000
set_option maxHeartbeats 4000000
namespace DL
open PySem PySem.Spec PyProof.Rows L2
/-! ### the head -/
namespace Hd
def d_is_name : He.DefD := ⟨("is_name", none), "is_name", "is_name", defArgs (topS 9), defBody (topS 9), defScope (topS 9), [], []⟩
def d_amount_in : He.DefD := ⟨("amount_in", none), "amount_in", "amount_in", defArgs (topS 10), defBody (topS 10), defScope (topS 10), [], []⟩
def d_faults : He.DefD := ⟨("faults", none), "faults", "faults", defArgs (topS 12), defBody (topS 12), defScope (topS 12), [], []⟩
def d_row_of : He.DefD := ⟨("row_of", none), "row_of", "row_of", defArgs (topS 13), defBody (topS 13), defScope (topS 13), [], []⟩
def d_good_rows : He.DefD := ⟨("good_rows", none), "good_rows", "good_rows", defArgs (topS 14), defBody (topS 14), defScope (topS 14), [], []⟩
def d_written_key : He.DefD := ⟨("written_key", none), "written_key", "written_key", defArgs (topS 15), defBody (topS 15), defScope (topS 15), [], []⟩
def d_way_up : He.DefD := ⟨("way_up", none), "way_up", "way_up", defArgs (topS 16), defBody (topS 16), defScope (topS 16), [], []⟩
def d_together : He.DefD := ⟨("together", none), "together", "together", defArgs (topS 17), defBody (topS 17), defScope (topS 17), [], []⟩
def d_judged : He.DefD := ⟨("judged", none), "judged", "judged", defArgs (topS 18), defBody (topS 18), defScope (topS 18), [], []⟩
def d_Intake___init__ : He.DefD := ⟨("Intake", some "__init__"), "__init__", "Intake.__init__", defArgs (mthS 22 0), defBody (mthS 22 0), defScope (mthS 22 0), [], []⟩
def d_Intake_add : He.DefD := ⟨("Intake", some "add"), "add", "Intake.add", defArgs (mthS 22 1), defBody (mthS 22 1), defScope (mthS 22 1), [], []⟩
def d_Intake_take : He.DefD := ⟨("Intake", some "take"), "take", "Intake.take", defArgs (mthS 22 2), defBody (mthS 22 2), defScope (mthS 22 2), [], []⟩
def d_Intake_end : He.DefD := ⟨("Intake", some "end"), "end", "Intake.end", defArgs (mthS 22 3), defBody (mthS 22 3), defScope (mthS 22 3), [], []⟩
def d_Intake_heap : He.DefD := ⟨("Intake", some "heap"), "heap", "Intake.heap", defArgs (mthS 22 4), defBody (mthS 22 4), defScope (mthS 22 4), [], []⟩
def d_Intake_waiting : He.DefD := ⟨("Intake", some "waiting"), "waiting", "Intake.waiting", defArgs (mthS 22 5), defBody (mthS 22 5), defScope (mthS 22 5), [], []⟩
def d_Intake_report : He.DefD := ⟨("Intake", some "report"), "report", "Intake.report", defArgs (mthS 22 6), defBody (mthS 22 6), defScope (mthS 22 6), [], []⟩
def d__law_cell_at : He.DefD := ⟨("_law_cell_at", none), "_law_cell_at", "_law_cell_at", defArgs (topS 24), defBody (topS 24), defScope (topS 24), [], []⟩
def d__law_mixed : He.DefD := ⟨("_law_mixed", none), "_law_mixed", "_law_mixed", defArgs (topS 25), defBody (topS 25), defScope (topS 25), [], []⟩
def d__law_drawn : He.DefD := ⟨("_law_drawn", none), "_law_drawn", "_law_drawn", defArgs (topS 26), defBody (topS 26), defScope (topS 26), [], []⟩
def d__law_name : He.DefD := ⟨("_law_name", none), "_law_name", "_law_name", defArgs (topS 27), defBody (topS 27), defScope (topS 27), [], []⟩
def d__law_plan : He.DefD := ⟨("_law_plan", none), "_law_plan", "_law_plan", defArgs (topS 28), defBody (topS 28), defScope (topS 28), [], []⟩
def d__law_row : He.DefD := ⟨("_law_row", none), "_law_row", "_law_row", defArgs (topS 29), defBody (topS 29), defScope (topS 29), [], []⟩
def d__law_text : He.DefD := ⟨("_law_text", none), "_law_text", "_law_text", defArgs (topS 30), defBody (topS 30), defScope (topS 30), [], []⟩
def d__law_spoilt_text : He.DefD := ⟨("_law_spoilt_text", none), "_law_spoilt_text", "_law_spoilt_text", defArgs (topS 31), defBody (topS 31), defScope (topS 31), [], []⟩
def d__law_heap : He.DefD := ⟨("_law_heap", none), "_law_heap", "_law_heap", defArgs (topS 32), defBody (topS 32), defScope (topS 32), [], []⟩
def d_law : He.DefD := ⟨("law", none), "law", "law", defArgs (topS 33), defBody (topS 33), defScope (topS 33), [], []⟩
def fn : List He.DefD := [d_is_name, d_amount_in, d_faults, d_row_of, d_good_rows, d_written_key, d_way_up, d_together, d_judged, d_Intake___init__, d_Intake_add, d_Intake_take, d_Intake_end, d_Intake_heap, d_Intake_waiting, d_Intake_report, d__law_cell_at, d__law_mixed, d__law_drawn, d__law_name, d__law_plan, d__law_row, d__law_text, d__law_spoilt_text, d__law_heap, d_law]
def fa : List He.Fa := [.glo "is_name", .glo "amount_in", .glo "faults", .glo "row_of", .glo "good_rows", .glo "written_key", .glo "way_up", .glo "together", .glo "judged", .meth "Intake" "__init__", .meth "Intake" "add", .meth "Intake" "take", .meth "Intake" "end", .meth "Intake" "heap", .meth "Intake" "waiting", .meth "Intake" "report", .glo "_law_cell_at", .glo "_law_mixed", .glo "_law_drawn", .glo "_law_name", .glo "_law_plan", .glo "_law_row", .glo "_law_text", .glo "_law_spoilt_text", .glo "_law_heap", .glo "law", .cls "Intake", .glo "Intake", .mkr "Intake", .noat "Intake" "plan"] ++ [.noat "Intake" "texts", .noat "Intake" "rest", .str "FIGURES" "0123456789", .str "LETTERS" "abcdefghijklmnopqrstuvwxyz", .int "LONGEST" 5, .int "MOST_TEXTS" 40, .str "NONE" "-", .str "ROW_END" "\n", .free "all", .free "dict", .free "enumerate", .free "int", .free "isinstance", .free "len", .free "max", .free "range", .free "set", .free "sorted", .free "str", .free "tuple", .exc "NoRow", .glo "NoRow"]
def ex (K : PySem.W.Frag) : Bool := true
def tf : List He.Defn := []
abbrev R : PySem.W.OpenRow := PySem.W.OpenLaw.row PySem.Challenge.rw_heapintake_k36_whole_what_waits
abbrev hk : PySem.W.Hook := He.hookX 5 fa fn [] tf ex
def ob (s : PySem.W.SharedT) : He.AlX := He.obsX 5 fa fn [] tf ex (HandSHeadRun.getT s)
theorem ob_eq (s : PySem.W.SharedT) : ob s = hk.obs s.abs := He.obsX_eq (HandSHeadRun.getT_eq s)
def loose : List PySem.Str := (["_wall", "HeapError", "NoRow", "LETTERS", "FIGURES", "LONGEST", "NONE", "is_name", "amount_in", "faults", "row_of", "good_rows", "written_key", "way_up", "together", "judged", "ROW_END", "MOST_TEXTS", "Intake", "_law_cell_at", "_law_mixed", "_law_drawn", "_law_name", "_law_plan", "_law_row", "_law_text", "_law_spoilt_text", "_law_heap"] : List PySem.Str)
theorem run (w : World) : HandSHeadRun.RunEq R (PySem.W.view R.prog [33]) hk ob 4000 loose w := by
  intro os
  kernel_rfl
theorem at_ {l : PySem.W.OpenLaw} {w : World} {K : PySem.W.Frag} {h : Heap} {mg : Str → Option Value} {fa0 : Addr} (X : K.In h) (G : h.Ns mainGlobals mg) (hfa : mg ("law" : Str) = some (.ref fa0)) (c : He.SaysX fa fn [] tf ex w h K) : LamX.LawAtS l w K (L2N.CX l.prog w) 7 63 "_law_script" mg fa0 h := by
  have fc : ∀ (i : Nat) {f : He.Fa}, fa[i]? = some f → f.ok K = true := fun i {f} e => c.t.d.fact i e
  have W : Wd K mg (clE K) := ⟨He.str_ok X G (fc 32 (f := .str "FIGURES" "0123456789") rfl), He.str_ok X G (fc 33 (f := .str "LETTERS" "abcdefghijklmnopqrstuvwxyz") rfl), He.int_ok X G (fc 34 (f := .int "LONGEST" 5) rfl), He.int_ok X G (fc 35 (f := .int "MOST_TEXTS" 40) rfl), He.str_ok X G (fc 36 (f := .str "NONE" "-") rfl), He.str_ok X G (fc 37 (f := .str "ROW_END" "\n") rfl), He.free_ok X G (fc 38 (f := .free "all") rfl), He.free_ok X G (fc 39 (f := .free "dict") rfl), He.free_ok X G (fc 40 (f := .free "enumerate") rfl), He.free_ok X G (fc 41 (f := .free "int") rfl), He.free_ok X G (fc 42 (f := .free "isinstance") rfl), He.free_ok X G (fc 43 (f := .free "len") rfl), He.free_ok X G (fc 44 (f := .free "max") rfl), He.free_ok X G (fc 45 (f := .free "range") rfl), He.free_ok X G (fc 46 (f := .free "set") rfl), He.free_ok X G (fc 47 (f := .free "sorted") rfl), He.free_ok X G (fc 48 (f := .free "str") rfl), He.free_ok X G (fc 49 (f := .free "tuple") rfl), exd_ok X G 1 (He.eqO_ok (fc 51 (f := .glo "NoRow") rfl)) (fc 50 (f := .exc "NoRow") rfl)⟩
  obtain ⟨fd_is_name, F_is_name⟩ := c.t.d.def_ 0 (d := d_is_name) rfl
  have m_is_name : mg "is_name" = some (.ref (He.fAd K d_is_name.at_)) := He.glo_ok X G (fc 0 (f := .glo "is_name") rfl)
  have b_is_name : L2.Binds K fd_is_name ["thing"] [] := FunD.bindsN F_is_name fun _ _ _ _ _ _ us hl => match us, hl with | [_], _ => rfl
  obtain ⟨fd_amount_in, F_amount_in⟩ := c.t.d.def_ 1 (d := d_amount_in) rfl
  have m_amount_in : mg "amount_in" = some (.ref (He.fAd K d_amount_in.at_)) := He.glo_ok X G (fc 1 (f := .glo "amount_in") rfl)
  have b_amount_in : L2.Binds K fd_amount_in ["word"] [] := FunD.bindsN F_amount_in fun _ _ _ _ _ _ us hl => match us, hl with | [_], _ => rfl
  obtain ⟨fd_faults, F_faults⟩ := c.t.d.def_ 2 (d := d_faults) rfl
  have m_faults : mg "faults" = some (.ref (He.fAd K d_faults.at_)) := He.glo_ok X G (fc 2 (f := .glo "faults") rfl)
  have b_faults : L2.Binds K fd_faults ["plan", "text"] [] := FunD.bindsN F_faults fun _ _ _ _ _ _ us hl => match us, hl with | [_, _], _ => rfl
  obtain ⟨fd_row_of, F_row_of⟩ := c.t.d.def_ 3 (d := d_row_of) rfl
  have m_row_of : mg "row_of" = some (.ref (He.fAd K d_row_of.at_)) := He.glo_ok X G (fc 3 (f := .glo "row_of") rfl)
  have b_row_of : L2.Binds K fd_row_of ["plan", "text"] [] := FunD.bindsN F_row_of fun _ _ _ _ _ _ us hl => match us, hl with | [_, _], _ => rfl
  obtain ⟨fd_good_rows, F_good_rows⟩ := c.t.d.def_ 4 (d := d_good_rows) rfl
  have m_good_rows : mg "good_rows" = some (.ref (He.fAd K d_good_rows.at_)) := He.glo_ok X G (fc 4 (f := .glo "good_rows") rfl)
  have b_good_rows : L2.Binds K fd_good_rows ["plan", "heap"] [] := FunD.bindsN F_good_rows fun _ _ _ _ _ _ us hl => match us, hl with | [_, _], _ => rfl
  obtain ⟨fd_written_key, F_written_key⟩ := c.t.d.def_ 5 (d := d_written_key) rfl
  have m_written_key : mg "written_key" = some (.ref (He.fAd K d_written_key.at_)) := He.glo_ok X G (fc 5 (f := .glo "written_key") rfl)
  have b_written_key : L2.Binds K fd_written_key ["row"] [] := FunD.bindsN F_written_key fun _ _ _ _ _ _ us hl => match us, hl with | [_], _ => rfl
  obtain ⟨fd_way_up, F_way_up⟩ := c.t.d.def_ 6 (d := d_way_up) rfl
  have m_way_up : mg "way_up" = some (.ref (He.fAd K d_way_up.at_)) := He.glo_ok X G (fc 6 (f := .glo "way_up") rfl)
  have b_way_up : L2.Binds K fd_way_up ["parents", "key"] [] := FunD.bindsN F_way_up fun _ _ _ _ _ _ us hl => match us, hl with | [_, _], _ => rfl
  obtain ⟨fd_together, F_together⟩ := c.t.d.def_ 7 (d := d_together) rfl
  have m_together : mg "together" = some (.ref (He.fAd K d_together.at_)) := He.glo_ok X G (fc 7 (f := .glo "together") rfl)
  have b_together : L2.Binds K fd_together ["parents", "key"] [] := FunD.bindsN F_together fun _ _ _ _ _ _ us hl => match us, hl with | [_, _], _ => rfl
  obtain ⟨fd_judged, F_judged⟩ := c.t.d.def_ 8 (d := d_judged) rfl
  have m_judged : mg "judged" = some (.ref (He.fAd K d_judged.at_)) := He.glo_ok X G (fc 8 (f := .glo "judged") rfl)
  have b_judged : L2.Binds K fd_judged ["plan", "heap"] [] := FunD.bindsN F_judged fun _ _ _ _ _ _ us hl => match us, hl with | [_, _], _ => rfl
  obtain ⟨fd_Intake___init__, F_Intake___init__⟩ := c.t.d.def_ 9 (d := d_Intake___init__) rfl
  have m_Intake___init__ : Mk K (iC K) (He.fAd K d_Intake___init__.at_) := He.mkr_ok (fc 28 (f := .mkr "Intake") rfl)
  have b_Intake___init__ : L2.Binds K fd_Intake___init__ ["self", "plan"] [] := FunD.bindsN F_Intake___init__ fun _ _ _ _ _ _ us hl => match us, hl with | [_, _], _ => rfl
  obtain ⟨fd_Intake_add, F_Intake_add⟩ := c.t.d.def_ 10 (d := d_Intake_add) rfl
  have m_Intake_add : Meth K (iC K) "add" (He.fAd K d_Intake_add.at_) := He.meth_ok (fc 10 (f := .meth "Intake" "add") rfl)
  have b_Intake_add : L2.Binds K fd_Intake_add ["self", "text"] [] := FunD.bindsN F_Intake_add fun _ _ _ _ _ _ us hl => match us, hl with | [_, _], _ => rfl
  obtain ⟨fd_Intake_take, F_Intake_take⟩ := c.t.d.def_ 11 (d := d_Intake_take) rfl
  have m_Intake_take : Meth K (iC K) "take" (He.fAd K d_Intake_take.at_) := He.meth_ok (fc 11 (f := .meth "Intake" "take") rfl)
  have b_Intake_take : L2.Binds K fd_Intake_take ["self", "piece"] [] := FunD.bindsN F_Intake_take fun _ _ _ _ _ _ us hl => match us, hl with | [_, _], _ => rfl
  obtain ⟨fd_Intake_end, F_Intake_end⟩ := c.t.d.def_ 12 (d := d_Intake_end) rfl
  have m_Intake_end : Meth K (iC K) "end" (He.fAd K d_Intake_end.at_) := He.meth_ok (fc 12 (f := .meth "Intake" "end") rfl)
  have b_Intake_end : L2.Binds K fd_Intake_end ["self"] [] := FunD.bindsN F_Intake_end fun _ _ _ _ _ _ us hl => match us, hl with | [_], _ => rfl
  obtain ⟨fd_Intake_heap, F_Intake_heap⟩ := c.t.d.def_ 13 (d := d_Intake_heap) rfl
  have m_Intake_heap : Meth K (iC K) "heap" (He.fAd K d_Intake_heap.at_) := He.meth_ok (fc 13 (f := .meth "Intake" "heap") rfl)
  have b_Intake_heap : L2.Binds K fd_Intake_heap ["self"] [] := FunD.bindsN F_Intake_heap fun _ _ _ _ _ _ us hl => match us, hl with | [_], _ => rfl
  obtain ⟨fd_Intake_waiting, F_Intake_waiting⟩ := c.t.d.def_ 14 (d := d_Intake_waiting) rfl
  have m_Intake_waiting : Meth K (iC K) "waiting" (He.fAd K d_Intake_waiting.at_) := He.meth_ok (fc 14 (f := .meth "Intake" "waiting") rfl)
  have b_Intake_waiting : L2.Binds K fd_Intake_waiting ["self"] [] := FunD.bindsN F_Intake_waiting fun _ _ _ _ _ _ us hl => match us, hl with | [_], _ => rfl
  obtain ⟨fd_Intake_report, F_Intake_report⟩ := c.t.d.def_ 15 (d := d_Intake_report) rfl
  have m_Intake_report : Meth K (iC K) "report" (He.fAd K d_Intake_report.at_) := He.meth_ok (fc 15 (f := .meth "Intake" "report") rfl)
  have b_Intake_report : L2.Binds K fd_Intake_report ["self"] [] := FunD.bindsN F_Intake_report fun _ _ _ _ _ _ us hl => match us, hl with | [_], _ => rfl
  obtain ⟨fd__law_cell_at, F__law_cell_at⟩ := c.t.d.def_ 16 (d := d__law_cell_at) rfl
  have m__law_cell_at : mg "_law_cell_at" = some (.ref (He.fAd K d__law_cell_at.at_)) := He.glo_ok X G (fc 16 (f := .glo "_law_cell_at") rfl)
  have b__law_cell_at : L2.Binds K fd__law_cell_at ["_law_script", "_law_k"] [] := FunD.bindsN F__law_cell_at fun _ _ _ _ _ _ us hl => match us, hl with | [_, _], _ => rfl
  obtain ⟨fd__law_mixed, F__law_mixed⟩ := c.t.d.def_ 17 (d := d__law_mixed) rfl
  have m__law_mixed : mg "_law_mixed" = some (.ref (He.fAd K d__law_mixed.at_)) := He.glo_ok X G (fc 17 (f := .glo "_law_mixed") rfl)
  have b__law_mixed : L2.Binds K fd__law_mixed ["_law_script", "_law_k"] [] := FunD.bindsN F__law_mixed fun _ _ _ _ _ _ us hl => match us, hl with | [_, _], _ => rfl
  obtain ⟨fd__law_drawn, F__law_drawn⟩ := c.t.d.def_ 18 (d := d__law_drawn) rfl
  have m__law_drawn : mg "_law_drawn" = some (.ref (He.fAd K d__law_drawn.at_)) := He.glo_ok X G (fc 18 (f := .glo "_law_drawn") rfl)
  have b__law_drawn : L2.Binds K fd__law_drawn ["_law_number", "_law_k"] [] := FunD.bindsN F__law_drawn fun _ _ _ _ _ _ us hl => match us, hl with | [_, _], _ => rfl
  obtain ⟨fd__law_name, F__law_name⟩ := c.t.d.def_ 19 (d := d__law_name) rfl
  have m__law_name : mg "_law_name" = some (.ref (He.fAd K d__law_name.at_)) := He.glo_ok X G (fc 19 (f := .glo "_law_name") rfl)
  have b__law_name : L2.Binds K fd__law_name ["_law_number"] [] := FunD.bindsN F__law_name fun _ _ _ _ _ _ us hl => match us, hl with | [_], _ => rfl
  obtain ⟨fd__law_plan, F__law_plan⟩ := c.t.d.def_ 20 (d := d__law_plan) rfl
  have m__law_plan : mg "_law_plan" = some (.ref (He.fAd K d__law_plan.at_)) := He.glo_ok X G (fc 20 (f := .glo "_law_plan") rfl)
  have b__law_plan : L2.Binds K fd__law_plan ["_law_number"] [] := FunD.bindsN F__law_plan fun _ _ _ _ _ _ us hl => match us, hl with | [_], _ => rfl
  obtain ⟨fd__law_row, F__law_row⟩ := c.t.d.def_ 21 (d := d__law_row) rfl
  have m__law_row : mg "_law_row" = some (.ref (He.fAd K d__law_row.at_)) := He.glo_ok X G (fc 21 (f := .glo "_law_row") rfl)
  have b__law_row : L2.Binds K fd__law_row ["_law_plan_here", "_law_number"] [] := FunD.bindsN F__law_row fun _ _ _ _ _ _ us hl => match us, hl with | [_, _], _ => rfl
  obtain ⟨fd__law_text, F__law_text⟩ := c.t.d.def_ 22 (d := d__law_text) rfl
  have m__law_text : mg "_law_text" = some (.ref (He.fAd K d__law_text.at_)) := He.glo_ok X G (fc 22 (f := .glo "_law_text") rfl)
  have b__law_text : L2.Binds K fd__law_text ["_law_row_here"] [] := FunD.bindsN F__law_text fun _ _ _ _ _ _ us hl => match us, hl with | [_], _ => rfl
  obtain ⟨fd__law_spoilt_text, F__law_spoilt_text⟩ := c.t.d.def_ 23 (d := d__law_spoilt_text) rfl
  have m__law_spoilt_text : mg "_law_spoilt_text" = some (.ref (He.fAd K d__law_spoilt_text.at_)) := He.glo_ok X G (fc 23 (f := .glo "_law_spoilt_text") rfl)
  have b__law_spoilt_text : L2.Binds K fd__law_spoilt_text ["_law_text_here", "_law_number"] [] := FunD.bindsN F__law_spoilt_text fun _ _ _ _ _ _ us hl => match us, hl with | [_, _], _ => rfl
  obtain ⟨fd__law_heap, F__law_heap⟩ := c.t.d.def_ 24 (d := d__law_heap) rfl
  have m__law_heap : mg "_law_heap" = some (.ref (He.fAd K d__law_heap.at_)) := He.glo_ok X G (fc 24 (f := .glo "_law_heap") rfl)
  have b__law_heap : L2.Binds K fd__law_heap ["_law_plan_here", "_law_number", "_law_most"] [] := FunD.bindsN F__law_heap fun _ _ _ _ _ _ us hl => match us, hl with | [_, _, _], _ => rfl
  obtain ⟨fd_law, F_law⟩ := c.t.d.def_ 25 (d := d_law) rfl
  have m_law : mg "law" = some (.ref (He.fAd K d_law.at_)) := He.glo_ok X G (fc 25 (f := .glo "law") rfl)
  have IC : IntC K := ⟨He.cls_ok (fc 26 (f := .cls "Intake") rfl), fun f hf => by
    simp only [List.mem_cons, List.not_mem_nil, or_false] at hf
    rcases hf with rfl | rfl | rfl
    · exact He.noat_ok (fc 29 (f := .noat "Intake" "plan") rfl)
    · exact He.noat_ok (fc 30 (f := .noat "Intake" "texts") rfl)
    · exact He.noat_ok (fc 31 (f := .noat "Intake" "rest") rfl)⟩
  have m_Intake : mg "Intake" = some (.ref (iC K)) := He.glo_ok X G (fc 27 (f := .glo "Intake") rfl)
  cases hfa.symm.trans m_law
  have bl := FunD.bindsA (ps := ["_law_script"]) F_law fun _ _ _ _ _ _ us hl => match us, hl with | [_], _ => rfl
  letI : TabsC := ⟨[]⟩
  refine ⟨fd_law, [], spD K (clE K) 1 .fz f_law, fun p hp => (by cases hp), fun p hp => (by cases hp), fun p hp => (by cases hp), fun s u => bl s [u] rfl, fun H a ns hl hb hT hS => law_sp tabs0 hS (law_true ns hl hb), fun base _ _ hTB => ?_⟩
  have h_is_name := fn_is_name (P := l.prog) (w := w) (base := base) W (fun_of F_is_name) m_is_name b_is_name
  have h_amount_in := fn_amount_in (P := l.prog) (w := w) (base := base) W (fun_of F_amount_in) m_amount_in b_amount_in
  have h_faults := fn_faults (P := l.prog) (w := w) (base := base) W h_amount_in h_is_name (fun_of F_faults) m_faults b_faults
  have h_row_of := fn_row_of (P := l.prog) (w := w) (base := base) W h_faults (fun_of F_row_of) m_row_of b_row_of
  have h_written_key := fn_written_key (P := l.prog) (w := w) (base := base) W (fun_of F_written_key) m_written_key b_written_key
  have h_good_rows := fn_good_rows (P := l.prog) (w := w) (base := base) W h_faults h_written_key h_row_of (fun_of F_good_rows) m_good_rows b_good_rows
  have h_way_up := fn_way_up (P := l.prog) (w := w) (base := base) W (fun_of F_way_up) m_way_up b_way_up
  have h_together := fn_together (P := l.prog) (w := w) (base := base) W h_way_up (fun_of F_together) m_together b_together
  have h_judged := fn_judged (P := l.prog) (w := w) (base := base) W h_good_rows h_faults h_row_of h_together (fun_of F_judged) m_judged b_judged
  have h_Intake___init__ := fn_Intake___init__ (P := l.prog) (w := w) (base := base) (cl := clE K) W IC (fun_of F_Intake___init__) m_Intake___init__ b_Intake___init__ m_Intake
  have h_Intake_add := fn_Intake_add (P := l.prog) (w := w) (base := base) (cl := clE K) W IC (fun_of F_Intake_add) m_Intake_add b_Intake_add
  have h_Intake_take := fn_Intake_take (P := l.prog) (w := w) (base := base) (cl := clE K) W IC h_Intake_add (fun_of F_Intake_take) m_Intake_take b_Intake_take
  have h_Intake_end := fn_Intake_end (P := l.prog) (w := w) (base := base) (cl := clE K) W IC h_Intake_add (fun_of F_Intake_end) m_Intake_end b_Intake_end
  have h_Intake_heap := fn_Intake_heap (P := l.prog) (w := w) (base := base) (cl := clE K) W IC (fun_of F_Intake_heap) m_Intake_heap b_Intake_heap
  have h_Intake_waiting := fn_Intake_waiting (P := l.prog) (w := w) (base := base) (cl := clE K) W IC (fun_of F_Intake_waiting) m_Intake_waiting b_Intake_waiting
  have h_Intake_report := fn_Intake_report (P := l.prog) (w := w) (base := base) (cl := clE K) W IC h_judged h_Intake_heap (fun_of F_Intake_report) m_Intake_report b_Intake_report
  have h__law_cell_at := fn__law_cell_at (P := l.prog) (w := w) (base := base) W (fun_of F__law_cell_at) m__law_cell_at b__law_cell_at
  have h__law_mixed := fn__law_mixed (P := l.prog) (w := w) (base := base) W h__law_cell_at (fun_of F__law_mixed) m__law_mixed b__law_mixed
  have h__law_drawn := fn__law_drawn (P := l.prog) (w := w) (base := base) W (fun_of F__law_drawn) m__law_drawn b__law_drawn
  have h__law_name := fn__law_name (P := l.prog) (w := w) (base := base) W h__law_drawn (fun_of F__law_name) m__law_name b__law_name
  have h__law_plan := fn__law_plan (P := l.prog) (w := w) (base := base) W h__law_name h__law_drawn (fun_of F__law_plan) m__law_plan b__law_plan
  have h__law_row := fn__law_row (P := l.prog) (w := w) (base := base) W h__law_name h__law_drawn (fun_of F__law_row) m__law_row b__law_row
  have h__law_text := fn__law_text (P := l.prog) (w := w) (base := base) W (fun_of F__law_text) m__law_text b__law_text
  have h__law_spoilt_text := fn__law_spoilt_text (P := l.prog) (w := w) (base := base) W (fun_of F__law_spoilt_text) m__law_spoilt_text b__law_spoilt_text
  have h__law_heap := fn__law_heap (P := l.prog) (w := w) (base := base) W h__law_drawn h__law_text h__law_row h__law_spoilt_text (fun_of F__law_heap) m__law_heap b__law_heap
  exact ok_law W IC h__law_plan h__law_mixed h__law_heap h_Intake___init__ h_Intake_take h_Intake_heap h_Intake_waiting h_Intake_end h_Intake_report (fun_of F_law)
end Hd
end DL
open PySem PySem.W PySem.Calls PyProof.Rows
theorem PySem.Challenge.cw_heapintake_k36_whole_what_waits_holds : PySem.Challenge.rw_heapintake_k36_whole_what_waits.Holds := by
  w_on; o_law
  refine HandSHeadRun.head_any (r := DL.Hd.R) (q := view DL.Hd.R.prog [33]) (H := DL.Hd.hk) (ob := DL.Hd.ob) (M := 4000) (loose := DL.Hd.loose) (d := HandSHeadRun.topDef DL.Hd.R.prog 33) (kwd := []) DL.Hd.ob_eq
    (by kernel_rfl) (fun s => by kernel_rfl) DL.Hd.run (by kernel_rfl) (by kernel_rfl) (by kernel_rfl) (by rfl) (by first | assumption | decide +kernel) (by decide +kernel) ⟨rfl, rfl, rfl, rfl, rfl, by decide +kernel⟩ ?hw ?hc
  case hw => w_witness2
  case hc =>
    refine LamX.walk_ofTsE (l := PySem.Challenge.rw_heapintake_k36_whole_what_waits) (n := 63) (k := 7) (x := "_law_script") (CX := fun w => L2N.CX PySem.Challenge.pw_heapintake_k36_whole_what_waits w) rfl (by decide) (by kernel_rfl) ⟨rfl, by decide, by decide⟩ ?F (fun _ _ _ _ _ z => DL.noCX z)
    intro w mg fa h Y G hmg0
    obtain ⟨K, KX, c⟩ := Y
    have hmg : mg ("law" : PySem.Str) = some (.ref fa) := by
      have e : (HandSHeadRun.topDef DL.Hd.R.prog 33).name = ("law" : PySem.Str) := by kernel_rfl
      rw [← e]
      exact hmg0
    exact ⟨K, KX, DL.Hd.at_ KX G hmg c⟩
