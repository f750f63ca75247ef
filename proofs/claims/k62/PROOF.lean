import PyProof.Rows.All
import Wide.All
import OpenK.AllK
import Wide.FinOn
import HandS.ForMost
import HandS.ForExc
import HandS.Evl
import HandS.TupAny
import HandS.TupMul
import HandS.IsInst
import KE.DataEq
import HandS.Lambda
import HandS.ExcIs
import HandS.Zip
import KE.GoesMore
import KE.KNestM
import HandS.Defaults
import HandS.Head0
import HandS.Head1
import HandS.Head2
import HandS.HeadHook1
import HandS.HeadHook2
import HandS.HeadHook3
import HandS.HeadHook4
import HandS.EndTab
import HandS.HeadWalk
import PySem.Challenge.RW_heapintake_k62_whole_no_other_reports
set_option Elab.async false
set_option linter.all false
set_option maxRecDepth 100000
set_option maxHeartbeats 4000000
namespace DL
open PySem PySem.Spec PyProof.Rows L2

/-! ### how heaps grow -/
abbrev Wx := Evl.Ex
/-- the tables of code objects that this proof knows -/
class TabsC where
  T : List (Addr × Str)
variable [TabsC]
/-- all but tables stays; the tables that are known stay known -/
structure Ex (H H' : Hp) : Prop where
  nt : ∀ b o, H b = some o → (∀ ps, o ≠ .tbl ps) → H' b = some o
  tb : LamX.Tabs TabsC.T H → LamX.Tabs TabsC.T H'
theorem Ex.refl (H : Hp) : Ex H H := ⟨fun _ _ h _ => h, fun h => h⟩
theorem Ex.trans {H H1 H2 : Hp} (a : Ex H H1) (b : Ex H1 H2) : Ex H H2 := ⟨fun x o h n => b.nt x o (a.nt x o h n) n, fun h => b.tb (a.tb h)⟩
theorem Ex.of {H H' : Hp} (e : Wx H H') : Ex H H' where
  nt := fun x o h _ => e x o h
  tb := fun h => h.ext e
theorem Ex.new {H : Hp} {p : Addr} {o : HO} (h : H p = none) : Ex H (upd H p o) := .of (Evl.Ex.new h)
theorem Ex.l {H H' : Hp} (e : Ex H H') {a : Addr} {xs : List V} (h : H a = some (.lst xs)) : H' a = some (.lst xs) := e.nt a _ h (fun ps z => nomatch z)
theorem Ex.d {H H' : Hp} (e : Ex H H') {a : Addr} {xs : List (Key × V)} (h : H a = some (.dK xs)) : H' a = some (.dK xs) := e.nt a _ h (fun ps z => nomatch z)
/-! ### the domain -/
abbrev D := PyData
inductive Out (α : Type) where
  | stuck | err (c : Nat) | ok (a : α)
def Out.bind {α β : Type} : Out α → (α → Out β) → Out β
  | .stuck, _ => .stuck
  | .err c, _ => .err c
  | .ok a, f => f a
@[simp] theorem bind_ok {α β : Type} (a : α) (f : α → Out β) : (Out.ok a).bind f = f a := rfl
@[simp] theorem bind_err {α β : Type} (c : Nat) (f : α → Out β) : (Out.err c : Out α).bind f = .err c := rfl
@[simp] theorem bind_stuck {α β : Type} (f : α → Out β) : (Out.stuck : Out α).bind f = .stuck := rfl
def lift {α : Type} : Option α → Out α
  | some a => .ok a
  | none => .stuck
@[simp] theorem lift_some {α : Type} (a : α) : lift (some a) = .ok a := rfl
@[simp] theorem lift_none {α : Type} : lift (none : Option α) = .stuck := rfl
abbrev Env := List (Option D)
abbrev GE := Env → Out D
abbrev GT := Env → Out Bool
abbrev GA := Env → Out (List D)
inductive Fl where
  | nx (ρ : Env) | rt (d : D) | bk (ρ : Env) | ct (ρ : Env)
abbrev GS := Env → Out Fl

def isCon : D → Bool
  | .list _ => true
  | .dict _ => true
  | _ => false

/-! ### what a value is, in a heap -/
def kD : Key → D
  | .inl i => .int i
  | .inr x => .str x
theorem kD_inj {a b : Key} (h : kD a = kD b) : a = b := by
  cases a <;> cases b <;> simp [kD] at h <;> simp [h]
/-- what is held by its address alone: an exception; a lambda, its code object beside it -/
def Opq (H : Hp) (ps : List (D × D)) (v : V) : Prop := (∃ a : Addr, v = .ref a ∧ ps = [(.bool true, .int (a : Nat))]) ∨ ∃ (f c : Addr) (q : Str), v = .ref f ∧ H c = some (LamX.CodeO c q) ∧ ps = [(.bool false, .tuple [.int (f : Nat), .int (c : Nat), .str q])]
theorem Opq.mono {H H' : Hp} {ps : List (D × D)} {v : V} (e : Wx H H') (h : Opq H ps v) : Opq H' ps v := by
  rcases h with h | ⟨f, c, q, h1, h2, h3⟩
  · exact .inl h
  · exact .inr ⟨f, c, q, h1, e _ _ h2, h3⟩
theorem Opq.one {H : Hp} {ps : List (D × D)} {v : V} (h : Opq H ps v) : ∃ b d, ps = [(.bool b, d)] := by
  rcases h with ⟨a, _, h⟩ | ⟨f, c, q, _, _, h⟩
  · exact ⟨_, _, h⟩
  · exact ⟨_, _, h⟩
mutual
def Mn (K : PySem.W.Frag) (H : Hp) : D → V → Prop
  | .none, v => v = .non
  | .bool b, v => v = .bl b
  | .int i, v => v = .int i
  | .str x, v => v = .str x
  | .list ds, v => ∃ a xs, v = .ref a ∧ H a = some (.lst xs) ∧ MnA K H ds xs
  | .tuple ds, v => ∃ a xs, v = .ref a ∧ SqT K H a xs ∧ MnA K H ds xs
  | .dict ps, v => (∃ a kvs, v = .ref a ∧ H a = some (.dK kvs) ∧ MnK K H ps kvs) ∨ (∃ (a : Addr) (ns : List Int), v = .ref a ∧ (SqL K H a (ns.map V.int) ∧ ps = [(.none, .list (ns.map .int))])) ∨ Opq H ps v
def MnA (K : PySem.W.Frag) (H : Hp) : List D → List V → Prop
  | [], vs => vs = []
  | d :: ds, vs => ∃ v r, vs = v :: r ∧ Mn K H d v ∧ MnA K H ds r
def MnK (K : PySem.W.Frag) (H : Hp) : List (D × D) → List (Key × V) → Prop
  | [], kvs => kvs = []
  | (k, d) :: ps, kvs => ∃ q v r, kvs = (q, v) :: r ∧ k = kD q ∧ Mn K H d v ∧ MnK K H ps r
end
section
variable {K : PySem.W.Frag} {H H' : Hp}
mutual
theorem Mn.mono (e : Wx H H') : ∀ (d : D) (v : V), Mn K H d v → Mn K H' d v
  | .none, _, h => by simpa only [Mn] using h
  | .bool _, _, h => by simpa only [Mn] using h
  | .int _, _, h => by simpa only [Mn] using h
  | .str _, _, h => by simpa only [Mn] using h
  | .list ds, v, h => by
    simp only [Mn] at h ⊢
    obtain ⟨a, xs, h1, h2, h3⟩ := h
    exact ⟨a, xs, h1, e a _ h2, MnA.mono e ds xs h3⟩
  | .tuple ds, v, h => by
    simp only [Mn] at h ⊢
    obtain ⟨a, xs, h1, h2, h3⟩ := h
    exact ⟨a, xs, h1, Evl.ex_t e h2, MnA.mono e ds xs h3⟩
  | .dict ps, v, h => by
    simp only [Mn] at h ⊢
    rcases h with ⟨a, kvs, h1, h2, h3⟩ | ⟨a, ns, h1, h2, h3⟩ | h
    · exact .inl ⟨a, kvs, h1, e a _ h2, MnK.mono e ps kvs h3⟩
    · exact .inr (.inl ⟨a, ns, h1, Evl.ex_l e h2, h3⟩)
    · exact .inr (.inr (h.mono e))
theorem MnA.mono (e : Wx H H') : ∀ (ds : List D) (vs : List V), MnA K H ds vs → MnA K H' ds vs
  | [], _, h => by simpa only [MnA] using h
  | d :: ds, vs, h => by
    simp only [MnA] at h ⊢
    obtain ⟨v, r, h1, h2, h3⟩ := h
    exact ⟨v, r, h1, Mn.mono e d v h2, MnA.mono e ds r h3⟩
theorem MnK.mono (e : Wx H H') : ∀ (ps : List (D × D)) (kvs : List (Key × V)), MnK K H ps kvs → MnK K H' ps kvs
  | [], _, h => by simpa only [MnK] using h
  | (k, d) :: ps, kvs, h => by
    simp only [MnK] at h ⊢
    obtain ⟨q, v, r, h1, h2, h3, h4⟩ := h
    exact ⟨q, v, r, h1, h2, Mn.mono e d v h3, MnK.mono e ps r h4⟩
end
theorem MnA.length : ∀ {ds : List D} {vs : List V}, MnA K H ds vs → vs.length = ds.length
  | [], vs, h => by
    simp only [MnA] at h
    subst h
    rfl
  | d :: ds, vs, h => by
    simp only [MnA] at h
    obtain ⟨v, r, rfl, _, h3⟩ := h
    simp [MnA.length h3]
theorem MnA.get : ∀ {ds : List D} {vs : List V} {i : Nat} {d : D}, MnA K H ds vs → ds[i]? = some d → ∃ v, vs[i]? = some v ∧ Mn K H d v
  | [], _, _, _, _, e => by simp at e
  | x :: ds, vs, 0, d, h, e => by
    simp only [MnA] at h
    obtain ⟨v, r, rfl, h2, _⟩ := h
    have : x = d := by simpa using e
    subst this
    exact ⟨v, rfl, h2⟩
  | x :: ds, vs, i + 1, d, h, e => by
    simp only [MnA] at h
    obtain ⟨v, r, rfl, _, h3⟩ := h
    have q := MnA.get (i := i) (d := d) h3 (by simpa using e)
    simpa using q
theorem MnA.append : ∀ {ds es : List D} {vs us : List V}, MnA K H ds vs → MnA K H es us → MnA K H (ds ++ es) (vs ++ us)
  | [], _, _, _, h, g => by
    simp only [MnA] at h
    subst h
    exact g
  | d :: ds, es, vs, us, h, g => by
    simp only [MnA] at h
    obtain ⟨v, r, rfl, h2, h3⟩ := h
    simp only [List.cons_append, MnA]
    exact ⟨v, r ++ us, rfl, h2, MnA.append h3 g⟩
theorem MnA.take : ∀ {ds : List D} {vs : List V} (n : Nat), MnA K H ds vs → MnA K H (ds.take n) (vs.take n)
  | _, _, 0, _ => by simp [MnA]
  | [], vs, n + 1, h => by
    simp only [MnA] at h
    subst h
    simp [MnA]
  | d :: ds, vs, n + 1, h => by
    simp only [MnA] at h
    obtain ⟨v, r, rfl, h2, h3⟩ := h
    simp only [List.take_succ_cons, MnA]
    exact ⟨v, _, rfl, h2, MnA.take n h3⟩
theorem MnA.drop : ∀ {ds : List D} {vs : List V} (n : Nat), MnA K H ds vs → MnA K H (ds.drop n) (vs.drop n)
  | _, _, 0, h => by simpa using h
  | [], vs, n + 1, h => by
    simp only [MnA] at h
    subst h
    simp [MnA]
  | d :: ds, vs, n + 1, h => by
    simp only [MnA] at h
    obtain ⟨v, r, rfl, h2, h3⟩ := h
    simp only [List.drop_succ_cons]
    exact MnA.drop n h3
theorem MnA.set : ∀ {ds : List D} {vs : List V} (n : Nat) {d : D} {v : V}, MnA K H ds vs → Mn K H d v → MnA K H (ds.set n d) (vs.set n v)
  | [], vs, n, _, _, h, _ => by
    simp only [MnA] at h
    subst h
    simp [MnA]
  | e :: ds, vs, 0, d, v, h, g => by
    simp only [MnA] at h
    obtain ⟨w, r, rfl, h2, h3⟩ := h
    simp only [List.set_cons_zero, MnA]
    exact ⟨v, r, rfl, g, h3⟩
  | e :: ds, vs, n + 1, d, v, h, g => by
    simp only [MnA] at h
    obtain ⟨w, r, rfl, h2, h3⟩ := h
    simp only [List.set_cons_succ, MnA]
    exact ⟨w, _, rfl, h2, MnA.set n h3 g⟩
theorem MnA.reverse : ∀ {ds : List D} {vs : List V}, MnA K H ds vs → MnA K H ds.reverse vs.reverse
  | [], vs, h => by
    simp only [MnA] at h
    subst h
    simp [MnA]
  | d :: ds, vs, h => by
    simp only [MnA] at h
    obtain ⟨v, r, rfl, h2, h3⟩ := h
    simp only [List.reverse_cons]
    refine (MnA.reverse h3).append ?_
    simp only [MnA]
    exact ⟨v, [], rfl, h2, rfl⟩
theorem MnA.ints : ∀ {ns : List Int} {vs : List V}, MnA K H (ns.map .int) vs → vs = ns.map V.int
  | [], vs, h => by simpa only [List.map_nil, MnA] using h
  | n :: ns, vs, h => by
    simp only [List.map_cons, MnA, Mn] at h
    obtain ⟨v, r, rfl, rfl, h3⟩ := h
    rw [MnA.ints h3, List.map_cons]
theorem MnA.strs : ∀ {ns : List Str} {vs : List V}, MnA K H (ns.map .str) vs → vs = ns.map V.str
  | [], vs, h => by simpa only [List.map_nil, MnA] using h
  | n :: ns, vs, h => by
    simp only [List.map_cons, MnA, Mn] at h
    obtain ⟨v, r, rfl, rfl, h3⟩ := h
    rw [MnA.strs h3, List.map_cons]
theorem MnA.of_strs : ∀ {ns : List Str}, MnA K H (ns.map .str) (ns.map V.str)
  | [] => by simp [MnA]
  | n :: ns => by
    simp only [List.map_cons, MnA, Mn]
    exact ⟨_, _, rfl, rfl, MnA.of_strs⟩
theorem MnA.of_ints : ∀ {ns : List Int}, MnA K H (ns.map .int) (ns.map V.int)
  | [] => by simp [MnA]
  | n :: ns => by
    simp only [List.map_cons, MnA, Mn]
    exact ⟨_, _, rfl, rfl, MnA.of_ints⟩
theorem MnA.bools : ∀ {ns : List Bool} {vs : List V}, MnA K H (ns.map .bool) vs → vs = ns.map V.bl
  | [], vs, h => by simpa only [List.map_nil, MnA] using h
  | n :: ns, vs, h => by
    simp only [List.map_cons, MnA, Mn] at h
    obtain ⟨v, r, rfl, rfl, h3⟩ := h
    rw [MnA.bools h3, List.map_cons]
end

/-! ### what is hidden -/
def noT : Option HO → Option HO
  | some (.tbl _) => none
  | o => o
theorem noT_some {o : Option HO} {u : HO} (h : noT o = some u) : o = some u ∧ ∀ ps, u ≠ .tbl ps := by
  unfold noT at h
  split at h
  · cases h
  · rename_i n
    exact ⟨h, fun ps z => n ps (by rw [h, z])⟩
theorem noT_of {u : HO} (h : ∀ ps, u ≠ .tbl ps) : noT (some u) = some u := by
  unfold noT
  split
  · rename_i ps z
    cases z
    exact (h ps rfl).elim
  · rfl
theorem new_of {o : Option HO} (h : o = none) : noT o = none := by
  rw [h]
  rfl
theorem noT_ne {o : Option HO} (h : noT o ≠ none) : ∃ u, o = some u ∧ ∀ ps, u ≠ .tbl ps := by
  cases q : noT o with
  | none => exact (h q).elim
  | some u => exact ⟨u, noT_some q⟩
theorem noT_no {o : Option HO} {u : HO} (h : noT o = none) (e : o = some u) : ∃ ps, u = .tbl ps := by
  subst e
  unfold noT at h
  split at h
  · rename_i ps z
    cases z
    exact ⟨ps, rfl⟩
  · cases h
/-- .. none but a table stands there -/
theorem fresh_back {H H' : Hp} {p : Addr} (e : Ex H H') (h : noT (H' p) = none) : noT (H p) = none := Classical.byContradiction fun z => by
  obtain ⟨u, h1, h2⟩ := noT_ne z
  rw [e.nt p u h1 h2] at h
  obtain ⟨ps, h3⟩ := noT_no h rfl
  exact h2 ps h3
def hide (hid : List Addr) (H : Hp) : Hp := fun a => if a ∈ hid then none else noT (H a)
theorem hide_out {hid : List Addr} {H : Hp} {a : Addr} {o : HO} (h : hide hid H a = some o) : a ∉ hid ∧ H a = some o ∧ ∀ ps, o ≠ .tbl ps := by
  unfold hide at h
  split at h
  · cases h
  · rename_i n
    exact ⟨n, noT_some h⟩
theorem hide_at {hid : List Addr} {H : Hp} {a : Addr} {o : HO} (n : a ∉ hid) (h : H a = some o) (t : ∀ ps, o ≠ .tbl ps) : hide hid H a = some o := by
  unfold hide
  rw [if_neg n, h]
  exact noT_of t
theorem hide_ex {hid : List Addr} {H : Hp} : Wx (hide hid H) H := fun a o h => (hide_out h).2.1
theorem hide_mono {hid : List Addr} {H H' : Hp} (e : Ex H H') : Wx (hide hid H) (hide hid H') := fun a o h => by
  obtain ⟨n, h1, t⟩ := hide_out h
  exact hide_at n (e.nt a o h1 t) t
theorem hide_sub {hid hid' : List Addr} {H : Hp} (s : ∀ a ∈ hid, a ∈ hid') : Wx (hide hid' H) (hide hid H) := fun a o h => by
  obtain ⟨n, h1, t⟩ := hide_out h
  exact hide_at (fun z => n (s a z)) h1 t
theorem hide_upd {hid : List Addr} {H : Hp} {a : Addr} {o : HO} (h : a ∈ hid) : hide hid (upd H a o) = hide hid H := by
  funext b
  unfold hide
  split
  · rfl
  · rename_i hn
    rw [upd_ne (fun z => hn (by rw [z]; exact h))]

structure Sx where
  hid : List Addr
  own : Nat → Option Addr
  σ : L2.St
  H : Hp

/-- a container that its slot owns -/
def OwnAt (K : PySem.W.Frag) (hid : List Addr) (H : Hp) (a : Addr) : D → Prop
  | .list ds => ∃ xs, H a = some (.lst xs) ∧ MnA K (hide (a :: hid) H) ds xs
  | .dict ps => ∃ kvs, H a = some (.dK kvs) ∧ MnK K (hide (a :: hid) H) ps kvs
  | _ => False
theorem hide_up {hid : List Addr} {a : Addr} {H : Hp} : Wx (hide (a :: hid) H) (hide hid H) := hide_sub fun _ h => List.mem_cons_of_mem _ h
theorem hide_new {hid : List Addr} {H H' : Hp} {p : Addr} (hp : noT (H p) = none) (e : Ex H H') : Wx (hide hid H) (hide (p :: hid) H') := fun b o' hb => by
  obtain ⟨hn, h1, t⟩ := hide_out hb
  have hbp : b ≠ p := fun z => by
    rw [z] at h1
    obtain ⟨ps, h3⟩ := noT_no hp h1
    exact t ps h3
  exact hide_at (by simp only [List.mem_cons, not_or]; exact ⟨hbp, hn⟩) (e.nt _ _ h1 t) t
theorem hide_swap {hid : List Addr} {a b : Addr} {H : Hp} : Wx (hide (a :: b :: hid) H) (hide (b :: a :: hid) H) := hide_sub fun c h => by
  simp only [List.mem_cons] at h ⊢
  rcases h with h | h | h
  · exact .inr (.inl h)
  · exact .inl h
  · exact .inr (.inr h)
theorem OwnAt.mono {K : PySem.W.Frag} {hid : List Addr} {H H' : Hp} {a : Addr} (e : Ex H H') : ∀ {d : D}, OwnAt K hid H a d → OwnAt K hid H' a d
  | .list ds, ⟨xs, h1, h2⟩ => ⟨xs, e.l h1, MnA.mono (hide_mono e) ds xs h2⟩
  | .dict ps, ⟨kvs, h1, h2⟩ => ⟨kvs, e.d h1, MnK.mono (hide_mono e) ps kvs h2⟩
/-- .. when hidden or not, what it holds is what it is -/
theorem OwnAt.full {K : PySem.W.Frag} {hid : List Addr} {H : Hp} {a : Addr} : ∀ {d : D}, OwnAt K hid H a d → Mn K H d (.ref a)
  | .list ds, ⟨xs, h1, h2⟩ => by
    simp only [Mn]
    exact ⟨a, xs, rfl, h1, MnA.mono hide_ex ds xs h2⟩
  | .dict ps, ⟨kvs, h1, h2⟩ => by
    simp only [Mn]
    exact .inl ⟨a, kvs, rfl, h1, MnK.mono hide_ex ps kvs h2⟩
theorem OwnAt.froz {K : PySem.W.Frag} {hid : List Addr} {H : Hp} {a : Addr} (n : a ∉ hid) : ∀ {d : D}, OwnAt K hid H a d → Mn K (hide hid H) d (.ref a)
  | .list ds, ⟨xs, h1, h2⟩ => by
    simp only [Mn]
    exact ⟨a, xs, rfl, hide_at n h1 (fun ps z => nomatch z), MnA.mono hide_up ds xs h2⟩
  | .dict ps, ⟨kvs, h1, h2⟩ => by
    simp only [Mn]
    exact .inl ⟨a, kvs, rfl, hide_at n h1 (fun ps z => nomatch z), MnK.mono hide_up ps kvs h2⟩

/-- a list or a dict stands there -/
def IsC : Option HO → Prop
  | some (.lst _) => True
  | some (.dK _) => True
  | _ => False
theorem Ex.mut {H H' : Hp} {p : Addr} {o : HO} (e : Ex H H') (h : noT (H p) = none) (c : IsC (H' p)) : Ex H (upd H' p o) where
  nt := fun b u hb n => by
    rw [upd_ne (fun z => by
      rw [z] at hb
      obtain ⟨ps, h3⟩ := noT_no h hb
      exact n ps h3)]
    exact e.nt b u hb n
  tb := fun t q hq => by
    obtain ⟨ps, h1, h2, h3⟩ := e.tb t q hq
    refine ⟨ps, by rw [upd_ne (fun z => by rw [← z, h1] at c; exact c)]; exact h1, h2, fun pos cv hc => ?_⟩
    obtain ⟨c', e1, e2⟩ := h3 pos cv hc
    exact ⟨c', e1, by rw [upd_ne (fun z => by rw [← z, e2] at c; exact c)]; exact e2⟩
theorem IsC.some {o : Option HO} (h : IsC o) : ∃ u, o = some u ∧ ∀ ps, u ≠ .tbl ps := by
  cases o with
  | none => exact h.elim
  | some u => exact ⟨u, rfl, fun ps z => by subst z; exact h⟩
theorem IsC.ne {o : Option HO} (h : IsC o) : noT o ≠ none := fun z => by
  obtain ⟨u, rfl, n⟩ := h.some
  obtain ⟨ps, h3⟩ := noT_no z rfl
  exact n ps h3
mutual
/-- no list, no dict within -/
def imm : D → Bool
  | .none => true
  | .bool _ => true
  | .int _ => true
  | .str _ => true
  | .list _ => false
  | .tuple ds => immA ds
  | .dict _ => false
def immA : List D → Bool
  | [] => true
  | d :: ds => imm d && immA ds
end
theorem imm_con {d : D} (h : imm d = true) : isCon d = false := by
  cases d <;> simp_all [imm, isCon]
section
variable {K : PySem.W.Frag} {hid : List Addr} {H : Hp}
mutual
theorem Mn.imm (k : ∀ a ∈ hid, IsC (H a)) : ∀ (d : D) (v : V), DL.imm d = true → Mn K H d v → Mn K (hide hid H) d v
  | .none, _, _, h => by simpa only [Mn] using h
  | .bool _, _, _, h => by simpa only [Mn] using h
  | .int _, _, _, h => by simpa only [Mn] using h
  | .str _, _, _, h => by simpa only [Mn] using h
  | .list ds, v, p, h => by simp [DL.imm] at p
  | .tuple ds, v, p, h => by
    simp only [Mn] at h ⊢
    obtain ⟨a, xs, h1, h2, h3⟩ := h
    refine ⟨a, xs, h1, ?_, MnA.imm k ds xs (by simpa only [DL.imm] using p) h3⟩
    rcases h2 with (h2 | ⟨o, h2⟩) | h2
    · exact .inl (.inl (hide_at (fun z => by have := k a z; rw [h2] at this; exact this) h2 (fun ps z => nomatch z)))
    · exact .inl (.inr ⟨o, hide_at (fun z => by have := k a z; rw [h2] at this; exact this) h2 (fun ps z => nomatch z)⟩)
    · exact .inr h2
  | .dict ps, v, p, h => by simp [DL.imm] at p
theorem MnA.imm (k : ∀ a ∈ hid, IsC (H a)) : ∀ (ds : List D) (vs : List V), DL.immA ds = true → MnA K H ds vs → MnA K (hide hid H) ds vs
  | [], _, _, h => by simpa only [MnA] using h
  | d :: ds, vs, p, h => by
    simp only [MnA] at h ⊢
    obtain ⟨v, r, h1, h2, h3⟩ := h
    have p' : DL.imm d = true ∧ DL.immA ds = true := by simpa [DL.immA] using p
    exact ⟨v, r, h1, Mn.imm k d v p'.1 h2, MnA.imm k ds r p'.2 h3⟩
end
end

structure Sees (K : PySem.W.Frag) (H0 : Hp) (hid0 : List Addr) (O : Nat → Bool) (s : Sx) (ρ : Env) : Prop where
  len : s.σ.length = ρ.length
  ex0 : Ex H0 s.H
  sub : ∀ a ∈ hid0, a ∈ s.hid
  knd : ∀ a ∈ s.hid, IsC (s.H a)
  dom0 : ∀ a ∈ hid0, noT (H0 a) ≠ none
  tb0 : LamX.Tabs TabsC.T H0
  fz : ∀ (i : Nat) (d : D), O i = false → ρ[i]? = some (some d) → ∃ v, s.σ[i]? = some (some v) ∧ Mn K (hide s.hid s.H) d v
  ow : ∀ (i : Nat) (d : D), O i = true → ρ[i]? = some (some d) → ∃ a, s.σ[i]? = some (some (.ref a)) ∧ s.own i = some a ∧ OwnAt K s.hid s.H a d
  oh : ∀ (i : Nat) (a : Addr), s.own i = some a → a ∈ s.hid ∧ noT (H0 a) = none
  inj : ∀ (i j : Nat) (a : Addr), s.own i = some a → s.own j = some a → i = j

section
variable {K : PySem.W.Frag} {H0 : Hp} {hid0 : List Addr} {O : Nat → Bool} {s : Sx} {ρ : Env} {H' : Hp}
theorem dom_ex {hid : List Addr} {H H' : Hp} (e : Ex H H') (h : ∀ a ∈ hid, noT (H a) ≠ none) : ∀ a ∈ hid, noT (H' a) ≠ none := fun a ha z => by
  obtain ⟨u, h1, h2⟩ := noT_ne (h a ha)
  rw [e.nt a u h1 h2] at z
  obtain ⟨ps, h3⟩ := noT_no z rfl
  exact h2 ps h3
theorem Sees.dom (S : Sees K H0 hid0 O s ρ) : ∀ a ∈ s.hid, noT (s.H a) ≠ none := fun a h => (S.knd a h).ne
theorem knd_ex {hid : List Addr} {H H' : Hp} (e : Ex H H') (h : ∀ a ∈ hid, IsC (H a)) : ∀ a ∈ hid, IsC (H' a) := fun a ha => by
  have k := h a ha
  cases q : H a with
  | none => rw [q] at k; exact k.elim
  | some o =>
    rw [q] at k
    rw [e.nt a o q (fun ps z => by rw [z] at k; exact k)]
    exact k
theorem Sees.ext (S : Sees K H0 hid0 O s ρ) (e : Ex s.H H') : Sees K H0 hid0 O { s with H := H' } ρ where
  len := S.len
  ex0 := S.ex0.trans e
  sub := S.sub
  knd := knd_ex e S.knd
  dom0 := S.dom0
  tb0 := S.tb0
  fz := fun i d h1 h2 => by
    obtain ⟨v, a, b⟩ := S.fz i d h1 h2
    exact ⟨v, a, Mn.mono (hide_mono e) d v b⟩
  ow := fun i d h1 h2 => by
    obtain ⟨a, e1, e2, e3⟩ := S.ow i d h1 h2
    exact ⟨a, e1, e2, e3.mono e⟩
  oh := S.oh
  inj := S.inj
/-- an address that is hidden more -/
theorem Sees.hides (S : Sees K H0 hid0 O s ρ) {p : Addr} {o : HO} (hp : s.H p = none) (ho : IsC (some o)) : Sees K H0 hid0 O { s with hid := p :: s.hid, H := upd s.H p o } ρ where
  len := S.len
  ex0 := S.ex0.trans (Ex.new hp)
  sub := fun a h => List.mem_cons_of_mem _ (S.sub a h)
  knd := fun a h => by
    show IsC (upd s.H p o a)
    by_cases q : a = p
    · rw [q, upd_same]; exact ho
    · rw [upd_ne q]
      rcases List.mem_cons.mp h with h | h
      · exact (q h).elim
      · exact S.knd a h
  dom0 := S.dom0
  tb0 := S.tb0
  fz := fun i d h1 h2 => by
    obtain ⟨v, a, b⟩ := S.fz i d h1 h2
    exact ⟨v, a, Mn.mono (hide_new (new_of hp) (Ex.new hp)) d v b⟩
  ow := fun i d h1 h2 => by
    obtain ⟨a, e1, e2, e3⟩ := S.ow i d h1 h2
    refine ⟨a, e1, e2, ?_⟩
    have ex : Wx (hide (a :: s.hid) s.H) (hide (a :: p :: s.hid) (upd s.H p o)) := by
      have hs : (p ∈ a :: s.hid) → (upd s.H p o) p = some o := fun _ => upd_same
      exact (hide_new (hid := a :: s.hid) (new_of hp) (Ex.new hp)).trans hide_swap
    show OwnAt K (p :: s.hid) (upd s.H p o) a d
    cases d with
    | list ds =>
      obtain ⟨xs, q1, q2⟩ := e3
      exact ⟨xs, (Ex.new hp).l q1, MnA.mono ex ds xs q2⟩
    | dict ps =>
      obtain ⟨xs, q1, q2⟩ := e3
      exact ⟨xs, (Ex.new hp).d q1, MnK.mono ex ps xs q2⟩
    | none => exact e3.elim
    | bool _ => exact e3.elim
    | int _ => exact e3.elim
    | str _ => exact e3.elim
    | tuple _ => exact e3.elim
  oh := fun i a h => ⟨List.mem_cons_of_mem _ (S.oh i a h).1, (S.oh i a h).2⟩
  inj := S.inj
end

/-! ### how a result is held -/
inductive Md where
  | fz | bo | au
deriving DecidableEq
def Rm (K : PySem.W.Frag) (m : Md) (hid : List Addr) (H H' : Hp) (d : D) (v : V) : Prop :=
  match m with
  | .fz => Mn K (hide hid H') d v
  | .bo => Mn K (hide hid H') d v ∨ ∃ a, v = .ref a ∧ OwnAt K hid H' a d
  | .au => if isCon d then ∃ a, v = .ref a ∧ noT (H a) = none ∧ OwnAt K hid H' a d else Mn K (hide hid H') d v
section
variable {K : PySem.W.Frag} {hid : List Addr} {H H1 H' : Hp} {d : D} {v : V}
theorem rm_fz (dom : ∀ a ∈ hid, noT (H a) ≠ none) (h : Rm K .au hid H H' d v) : Rm K .fz hid H H' d v := by
  unfold Rm at h ⊢
  dsimp only at h ⊢
  split at h
  · obtain ⟨a, rfl, h1, h2⟩ := h
    exact h2.froz fun z => dom a z h1
  · exact h
theorem rm_bo (h : Rm K .fz hid H H' d v) : Rm K .bo hid H H' d v := .inl h
theorem bo_ext (e : Ex H1 H') (h : Rm K .bo hid H H1 d v) : Rm K .bo hid H H' d v := by
  rcases h with h | ⟨a, h1, h2⟩
  · exact .inl (Mn.mono (hide_mono e) d v h)
  · exact .inr ⟨a, h1, h2.mono e⟩
theorem fz_ext (e : Ex H1 H') (h : Rm K .fz hid H H1 d v) : Rm K .fz hid H H' d v := Mn.mono (hide_mono e) d v h
theorem bo_full (h : Rm K .bo hid H H' d v) : Mn K H' d v := by
  rcases h with h | ⟨a, rfl, h2⟩
  · exact Mn.mono hide_ex d v h
  · exact h2.full
theorem bo_full0 (h : Rm K .bo hid H H' d v) : Mn K (hide [] H') d v := by
  rcases h with h | ⟨a, rfl, h2⟩
  · exact Mn.mono (hide_sub (by simp)) d v h
  · cases d with
    | list ds =>
      obtain ⟨xs, q1, q2⟩ := h2
      simp only [Mn]
      exact ⟨a, xs, rfl, hide_at (by simp) q1 (fun ps z => nomatch z), MnA.mono (hide_sub (by simp)) ds xs q2⟩
    | dict ps =>
      obtain ⟨xs, q1, q2⟩ := h2
      simp only [Mn]
      exact .inl ⟨a, xs, rfl, hide_at (by simp) q1 (fun ps z => nomatch z), MnK.mono (hide_sub (by simp)) ps xs q2⟩
    | none => exact h2.elim
    | bool _ => exact h2.elim
    | int _ => exact h2.elim
    | str _ => exact h2.elim
    | tuple _ => exact h2.elim
/-- fresh with respect to an earlier heap -/
theorem rm_back {m : Md} (e : Ex H H1) (h : Rm K m hid H1 H' d v) : Rm K m hid H H' d v := by
  cases m with
  | fz => exact h
  | bo => exact h
  | au =>
    unfold Rm at h ⊢
    dsimp only at h ⊢
    split at h
    · rename_i hc
      rw [if_pos hc]
      obtain ⟨a, h1, h2, h3⟩ := h
      exact ⟨a, h1, fresh_back e h2, h3⟩
    · rename_i hc
      rw [if_neg hc]
      exact h
theorem rm_of {m : Md} (dom : ∀ a ∈ hid, noT (H a) ≠ none) (h : Rm K .au hid H H' d v) : Rm K m hid H H' d v := by
  cases m with
  | fz => exact rm_fz dom h
  | bo => exact rm_bo (rm_fz dom h)
  | au => exact h
/-- of no container -/
theorem rm_plain {m : Md} (hc : isCon d = false) (h : Mn K (hide hid H') d v) : Rm K m hid H H' d v := by
  cases m with
  | fz => exact h
  | bo => exact .inl h
  | au =>
    unfold Rm
    dsimp only
    rw [if_neg (by rw [hc]; decide)]
    exact h
end
end DL
set_option Elab.async false
set_option linter.all false
set_option maxRecDepth 100000
set_option maxHeartbeats 4000000
namespace DL
open PySem PySem.Spec PyProof.Rows L2
variable [TabsC]

/-! ### families of contexts -/
structure RoomW (k : Nat) (A : Around) : Prop where
  dp : A.depth + 3 * k + 5 < recursionLimit
  un : A.units + 16 * k + 200 < cLine
theorem RoomW.of {k : Nat} {A : Around} (r : Room k A) : RoomW k A := ⟨r.dp, r.un⟩
theorem RoomW.to {k j : Nat} {A : Around} (r : RoomW k A) (h : A.handled = none) (l : j ≤ k) : Room j A := (Room.mk h r.dp r.un : Room k A).mono l
structure Fam where
  ι : Type
  X : ι → Cx
  P : Program
  w : World
  K : PySem.W.Frag
  mg : Str → Option Value
  base : Heap
  N : List Str
  sn : List (Str × NameKind)
  E : XK
  cl : Nat → Value
  O : Nat → Bool
  lv : Nat
  hP : ∀ i, (X i).prog = P
  hw : ∀ i, (X i).w = w
  hK : ∀ i, (X i).K = K
  hmg : ∀ i, (X i).mg = mg
  hbase : ∀ i, (X i).base = base
  hN : ∀ i, (X i).N = N
  hsn : ∀ i, (X i).env.scope.names = sn
  hot : Bool
  calm : hot = false → ∀ i, (X i).calm = true
  nd : N.Nodup
  room : ∀ i, RoomW lv (X i).A
  hd : hot = false → ∀ i, (X i).A.handled = none
  own : ∀ i, PassesOwn (model (X i).prog (X i).w) (X i).A (X i).env (X i).xe
  pas : ∀ i, Passes (L2.CX P w) (X i) E
  hki : ∀ i, (X i).env.scope.kind = .function
  sto : Str → Bool
  hsto : ∀ i x, sto x = true → Loc (X i).env.scope x ∧ ((X i).fn x = true ∨ (X i).env.scope.names.lookup x = some .local)

def SemE (F : Fam) (m : Md) (te : TE) (g : GE) : Prop :=
  ∀ (H0 : Hp) (hid0 : List Addr) (s : Sx) (ρ : Env), Sees F.K H0 hid0 F.O s ρ → ∀ Q : VK,
    (match g ρ with
      | .ok d => ∀ v H', Ex s.H H' → Rm F.K m s.hid s.H H' d v → Q v H'
      | .err c => ∀ H', Ex s.H H' → F.E (F.cl c) none H'
      | .stuck => False) → te s.σ s.H Q
def SemT (F : Fam) (tt : TT) (g : GT) : Prop :=
  ∀ (H0 : Hp) (hid0 : List Addr) (s : Sx) (ρ : Env), Sees F.K H0 hid0 F.O s ρ → ∀ Q : Bool → Hp → Prop,
    (match g ρ with
      | .ok b => ∀ H', Ex s.H H' → Q b H'
      | .err c => ∀ H', Ex s.H H' → F.E (F.cl c) none H'
      | .stuck => False) → tt s.σ s.H Q
/-- a list of arguments, each held as m -/
inductive RmA (K : PySem.W.Frag) (m : Md) (hid : List Addr) (H H' : Hp) : List D → List V → Prop
  | nil : RmA K m hid H H' [] []
  | cons {d : D} {v : V} {ds : List D} {vs : List V} : Rm K m hid H H' d v → RmA K m hid H H' ds vs → RmA K m hid H H' (d :: ds) (v :: vs)
def SemA (F : Fam) (m : Md) (ta : TA) (g : GA) : Prop :=
  ∀ (H0 : Hp) (hid0 : List Addr) (s : Sx) (ρ : Env), Sees F.K H0 hid0 F.O s ρ → ∀ Q : List V → Hp → Prop,
    (match g ρ with
      | .ok ds => ∀ vs H', Ex s.H H' → RmA F.K m s.hid s.H H' ds vs → Q vs H'
      | .err c => ∀ H', Ex s.H H' → F.E (F.cl c) none H'
      | .stuck => False) → ta s.σ s.H Q

def DE (F : Fam) (m : Md) (e : Expr) (g : GE) : Prop := ∃ te, (∀ i, PE (F.X i) e te) ∧ SemE F m te g
def DT (F : Fam) (e : Expr) (g : GT) : Prop := ∃ tt, (∀ i, PT (F.X i) e tt) ∧ SemT F tt g
def DA (F : Fam) (m : Md) (es : List Expr) (g : GA) : Prop := ∃ ta, (∀ i, PA (F.X i) es ta) ∧ SemA F m ta g

section
variable {F : Fam}
theorem semE_fz {te : TE} {g : GE} (h : SemE F .au te g) : SemE F .fz te g := fun H0 hid0 s ρ S Q q => h H0 hid0 s ρ S Q (by
  split at q
  · exact fun v H' e r => q v H' e (rm_fz S.dom r)
  · exact q
  · exact q)
theorem semE_bo {te : TE} {g : GE} (h : SemE F .fz te g) : SemE F .bo te g := fun H0 hid0 s ρ S Q q => h H0 hid0 s ρ S Q (by
  split at q
  · exact fun v H' e r => q v H' e (rm_bo r)
  · exact q
  · exact q)
theorem de_fz {e : Expr} {g : GE} (h : DE F .au e g) : DE F .fz e g := ⟨h.choose, h.choose_spec.1, semE_fz h.choose_spec.2⟩
theorem de_bo {e : Expr} {g : GE} (h : DE F .fz e g) : DE F .bo e g := ⟨h.choose, h.choose_spec.1, semE_bo h.choose_spec.2⟩
theorem de_ab {e : Expr} {g : GE} (h : DE F .au e g) : DE F .bo e g := de_bo (de_fz h)

/-! ### names and constants -/
def visB (sn : List (Str × NameKind)) (x : Str) : Bool :=
  match sn.lookup x with
  | some .local => true
  | some .cell => true
  | some .free => true
  | _ => false
theorem vis_of {X : Cx} {x : Str} (h : visB X.env.scope.names x = true) : Vis X.env.scope x := by
  unfold visB at h
  unfold Vis
  split at h <;> rename_i q <;> first | exact .inl q | exact .inr (.inl q) | exact .inr (.inr q) | cases h
def eVar (i : Nat) : GE := fun ρ => match ρ[i]? with
  | some (some d) => .ok d
  | _ => .stuck
def eC (d : D) : GE := fun _ => .ok d
theorem sem_var {i : Nat} (hO : F.O i = false) : SemE F .fz (tVar i) (eVar i) := fun H0 hid0 s ρ S Q q => by
  unfold eVar at q
  split at q
  · rename_i z
    split at z
    · rename_i d h
      cases z
      obtain ⟨v, h1, h2⟩ := S.fz i _ hO h
      exact ⟨v, h1, q v s.H (Ex.refl _) h2⟩
    · cases z
  · rename_i z
    split at z <;> cases z
  · exact q.elim
theorem sem_own {i : Nat} (hO : F.O i = true) : SemE F .bo (tVar i) (eVar i) := fun H0 hid0 s ρ S Q q => by
  unfold eVar at q
  split at q
  · rename_i z
    split at z
    · rename_i d h
      cases z
      obtain ⟨a, h1, h2, h3⟩ := S.ow i _ hO h
      exact ⟨_, h1, q _ s.H (Ex.refl _) (.inr ⟨a, rfl, h3⟩)⟩
    · cases z
  · rename_i z
    split at z <;> cases z
  · exact q.elim
theorem de_var (i : Nat) {x : Str} {pos : Pos} (hN : F.N[i]? = some x := by rfl) (hv : visB F.sn x = true := by rfl) (hO : F.O i = false := by rfl)
    (hd : (x == ("__debug__" : Str)) = false := by decide) (hcd : (x == ("__classdict__" : Str)) = false := by decide) : DE F .fz (.Name x pos) (eVar i) :=
  ⟨tVar i, fun j => pe_var (by rw [F.hN]; exact hN) (vis_of (by rw [F.hsn]; exact hv)) hd hcd, sem_var hO⟩
theorem de_own (i : Nat) {x : Str} {pos : Pos} (hN : F.N[i]? = some x := by rfl) (hv : visB F.sn x = true := by rfl) (hO : F.O i = true := by rfl)
    (hd : (x == ("__debug__" : Str)) = false := by decide) (hcd : (x == ("__classdict__" : Str)) = false := by decide) : DE F .bo (.Name x pos) (eVar i) :=
  ⟨tVar i, fun j => pe_var (by rw [F.hN]; exact hN) (vis_of (by rw [F.hsn]; exact hv)) hd hcd, sem_own hO⟩
/-- a constant value -/
theorem sem_c {m : Md} {d : D} {v : V} (hc : isCon d = false) (h : ∀ H, Mn F.K H d v) : SemE F m (tC v) (eC d) := fun H0 hid0 s ρ S Q q => q v s.H (Ex.refl _) (rm_plain hc (h _))
theorem de_int {m : Md} {i : Int} {j pos} : DE F m (.Constant (.int i) j pos) (eC (.int i)) := ⟨_, fun _ => pe_int, sem_c rfl fun _ => by simp [Mn]⟩
theorem de_bl {m : Md} {b : Bool} {j pos} : DE F m (.Constant (.bool b) j pos) (eC (.bool b)) := ⟨_, fun _ => pe_bl, sem_c rfl fun _ => by simp [Mn]⟩
theorem de_non {m : Md} {j pos} : DE F m (.Constant .none j pos) (eC .none) := ⟨_, fun _ => pe_non, sem_c rfl fun _ => by simp [Mn]⟩
theorem de_str {m : Md} {x : Str} {j pos} : DE F m (.Constant (.str x) j pos) (eC (.str x)) := ⟨_, fun _ => pe_str, sem_c rfl fun _ => by simp [Mn]⟩
/-- a global name of the def -/
theorem gl_of {x : Str} (h : F.sn.lookup x = some .globalImplicit) (i : F.ι) : Gl (F.X i) x := by
  show (F.X i).env.scope.names.lookup x = some .globalImplicit
  rw [F.hsn]
  exact h
/-- a module's constant -/
theorem de_glob {m : Md} {x : Str} {d : D} {v : V} {u : Value} {pos : Pos} (hm : F.mg x = some u) (r : RelV v u) (hc : isCon d = false) (h : ∀ H, Mn F.K H d v) (hg : F.sn.lookup x = some .globalImplicit := by rfl) (hd : (x == ("__debug__" : Str)) = false := by decide) : DE F m (.Name x pos) (eC d) :=
  ⟨_, fun i => pe_glob (gl_of hg i) (by rw [F.hmg]; exact hm) r hd, sem_c hc h⟩

/-! ### two operands, one operand, by values -/
def e2 (f : D → D → Option D) (a b : GE) : GE := fun ρ => (a ρ).bind fun x => (b ρ).bind fun y => lift (f x y)
def e1 (f : D → Option D) (a : GE) : GE := fun ρ => (a ρ).bind fun x => lift (f x)
/-- an operation on two values does what f tells, the result held as m -/
def OpS (K : PySem.W.Frag) (m : Md) (r : R2) (f : D → D → Option D) : Prop := ∀ (hid : List Addr) (H : Hp) (d e z : D) (x y : V) (Q : VK), (∀ a ∈ hid, noT (H a) ≠ none) → Rm K .bo hid H H d x → Rm K .bo hid H H e y → f d e = some z →
  (∀ v H', Ex H H' → Rm K m hid H H' z v → Q v H') → r x y H Q
def UnS (K : PySem.W.Frag) (m : Md) (r : V → Hp → VK → Prop) (f : D → Option D) : Prop := ∀ (hid : List Addr) (H : Hp) (d z : D) (x : V) (Q : VK), (∀ a ∈ hid, noT (H a) ≠ none) → Rm K .bo hid H H d x → f d = some z →
  (∀ v H', Ex H H' → Rm K m hid H H' z v → Q v H') → r x H Q
theorem bo_at {K : PySem.W.Frag} {hid : List Addr} {H H' : Hp} {d : D} {v : V} (h : Rm K .bo hid H H' d v) : Rm K .bo hid H' H' d v := h
theorem sem_op {m : Md} {r : R2} {f : D → D → Option D} {ta tb : TE} {ga gb : GE} (ha : SemE F .bo ta ga) (hb : SemE F .bo tb gb) (hr : OpS F.K m r f) : SemE F m (tOp r ta tb) (e2 f ga gb) := fun H0 hid0 s ρ S Q q => by
  refine ha H0 hid0 s ρ S _ ?_
  unfold e2 at q
  split
  · rename_i d hd
    intro v H1 e1 r1
    rw [hd, bind_ok] at q
    refine hb H0 hid0 { s with H := H1 } ρ (S.ext e1) _ ?_
    split
    · rename_i d2 hd2
      intro u H2 e2 r2
      rw [hd2, bind_ok] at q
      cases hf : f d d2 with
      | none => rw [hf] at q; exact q.elim
      | some z =>
        rw [hf] at q
        exact hr s.hid H2 d d2 z v u Q (dom_ex (e1.trans e2) S.dom) (bo_ext e2 r1) r2 hf fun v' H' e' r' => q v' H' ((e1.trans e2).trans e') (rm_back (e1.trans e2) r')
    · rename_i c hd2
      rw [hd2, bind_err] at q
      exact fun H2 e2 => q H2 (e1.trans e2)
    · rename_i hd2
      rw [hd2, bind_stuck] at q
      exact q
  · rename_i c hd
    rw [hd, bind_err] at q
    exact q
  · rename_i hd
    rw [hd, bind_stuck] at q
    exact q
theorem sem_un {m : Md} {r : V → Hp → VK → Prop} {f : D → Option D} {ta : TE} {ga : GE} (ha : SemE F .bo ta ga) (hr : UnS F.K m r f) : SemE F m (tUn r ta) (e1 f ga) := fun H0 hid0 s ρ S Q q => by
  refine ha H0 hid0 s ρ S _ ?_
  unfold e1 at q
  split
  · rename_i d hd
    intro v H1 e1 r1
    rw [hd, bind_ok] at q
    cases hf : f d with
    | none => rw [hf] at q; exact q.elim
    | some z =>
      rw [hf] at q
      exact hr s.hid H1 d z v Q (dom_ex e1 S.dom) r1 hf fun v' H' e' r' => q v' H' (e1.trans e') (rm_back e1 r')
  · rename_i c hd
    rw [hd, bind_err] at q
    exact q
  · rename_i hd
    rw [hd, bind_stuck] at q
    exact q
theorem OpS.or1 {K : PySem.W.Frag} {m : Md} {r r' : R2} {f f' : D → D → Option D} (h : OpS K m r f) (h' : OpS K m r' f') : OpS K m (fun x y H Q => r x y H Q ∨ r' x y H Q) fun x y => (f x y).or (f' x y) := fun hid H d e z x y Q dom rx ry hf q => by
  have hf : (f d e).or (f' d e) = some z := hf
  cases hq : f d e with
  | some z' =>
    rw [hq] at hf
    exact .inl (h hid H d e z x y Q dom rx ry (by rw [hq]; exact hf) q)
  | none =>
    rw [hq] at hf
    exact .inr (h' hid H d e z x y Q dom rx ry hf q)
theorem OpS.imp {K : PySem.W.Frag} {m : Md} {r : R2} {f f' : D → D → Option D} (h : OpS K m r f) (hf : ∀ d e z, f' d e = some z → f d e = some z) : OpS K m r f' := fun hid H d e z x y Q dom rx ry h1 q => h hid H d e z x y Q dom rx ry (hf d e z h1) q
theorem bo_int {K : PySem.W.Frag} {hid : List Addr} {H H' : Hp} {i : Int} {v : V} (h : Rm K .bo hid H H' (.int i) v) : v = .int i := by
  rcases h with h | ⟨a, _, h⟩
  · simpa only [Mn] using h
  · exact h.elim
theorem bo_str {K : PySem.W.Frag} {hid : List Addr} {H H' : Hp} {i : Str} {v : V} (h : Rm K .bo hid H H' (.str i) v) : v = .str i := by
  rcases h with h | ⟨a, _, h⟩
  · simpa only [Mn] using h
  · exact h.elim
theorem bo_bool {K : PySem.W.Frag} {hid : List Addr} {H H' : Hp} {i : Bool} {v : V} (h : Rm K .bo hid H H' (.bool i) v) : v = .bl i := by
  rcases h with h | ⟨a, _, h⟩
  · simpa only [Mn] using h
  · exact h.elim
theorem bo_none {K : PySem.W.Frag} {hid : List Addr} {H H' : Hp} {v : V} (h : Rm K .bo hid H H' .none v) : v = .non := by
  rcases h with h | ⟨a, _, h⟩
  · simpa only [Mn] using h
  · exact h.elim
theorem bo_tup {K : PySem.W.Frag} {hid : List Addr} {H H' : Hp} {ds : List D} {v : V} (h : Rm K .bo hid H H' (.tuple ds) v) : ∃ a xs, v = .ref a ∧ SqT K (hide hid H') a xs ∧ MnA K (hide hid H') ds xs := by
  rcases h with h | ⟨a, _, h⟩
  · simpa only [Mn] using h
  · exact h.elim
theorem bo_list {K : PySem.W.Frag} {hid : List Addr} {H H' : Hp} {ds : List D} {v : V} (h : Rm K .bo hid H H' (.list ds) v) : ∃ a xs, v = .ref a ∧ H' a = some (.lst xs) ∧ MnA K (hide hid H') ds xs := by
  rcases h with h | ⟨a, e, h⟩
  · simp only [Mn] at h
    obtain ⟨a, xs, h1, h2, h3⟩ := h
    exact ⟨a, xs, h1, hide_ex _ _ h2, h3⟩
  · obtain ⟨xs, h1, h2⟩ := h
    exact ⟨a, xs, e, h1, MnA.mono hide_up ds xs h2⟩
theorem bo_dict {K : PySem.W.Frag} {hid : List Addr} {H H' : Hp} {ps : List (D × D)} {v : V} (h : Rm K .bo hid H H' (.dict ps) v) : (∃ a kvs, v = .ref a ∧ H' a = some (.dK kvs) ∧ MnK K (hide hid H') ps kvs) ∨ (∃ (a : Addr) (ns : List Int), v = .ref a ∧ SqL K H' a (ns.map V.int) ∧ ps = [(.none, .list (ns.map .int))]) ∨ ∃ b d, ps = [(.bool b, d)] := by
  rcases h with h | ⟨a, e, h⟩
  · simp only [Mn] at h
    rcases h with ⟨a, xs, h1, h2, h3⟩ | ⟨a, ns, h1, h2, h3⟩ | h
    · exact .inl ⟨a, xs, h1, hide_ex _ _ h2, h3⟩
    · exact .inr (.inl ⟨a, ns, h1, Evl.ex_l hide_ex h2, h3⟩)
    · exact .inr (.inr h.one)
  · obtain ⟨xs, h1, h2⟩ := h
    exact .inl ⟨a, xs, e, h1, MnK.mono hide_up ps xs h2⟩
/-- a fresh list, tuple -/
theorem au_list {K : PySem.W.Frag} {hid : List Addr} {H : Hp} {p : Addr} {ds : List D} {xs : List V} (hp : H p = none) (h : MnA K (hide hid H) ds xs) : Rm K .au hid H (upd H p (.lst xs)) (.list ds) (.ref p) := by
  unfold Rm
  dsimp only
  refine (if_pos (show isCon (PyData.list ds) = true from rfl)).mpr ?_
  exact ⟨p, rfl, new_of hp, xs, upd_same, MnA.mono (hide_new (new_of hp) (Ex.new hp)) ds xs h⟩
theorem au_tup {K : PySem.W.Frag} {m : Md} {hid : List Addr} {H : Hp} {p : Addr} {ds : List D} {xs : List V} (dom : ∀ a ∈ hid, noT (H a) ≠ none) (hp : H p = none) (h : MnA K (hide hid H) ds xs) : Rm K m hid H (upd H p (.tup xs)) (.tuple ds) (.ref p) := by
  refine rm_plain rfl ?_
  simp only [Mn]
  refine ⟨p, xs, rfl, .inl (.inl ?_), MnA.mono (hide_mono (Ex.new hp)) ds xs h⟩
  exact hide_at (fun z => dom p z (new_of hp)) upd_same (fun ps z => nomatch z)
theorem small_line {n : Nat} (h : n ≤ 1000000) : n ≤ sizeLine := Nat.le_trans h (by decide)
theorem rm_int {K : PySem.W.Frag} {m : Md} {hid : List Addr} {H H' : Hp} {i : Int} : Rm K m hid H H' (.int i) (.int i) := rm_plain rfl (by simp [Mn])
theorem rm_str {K : PySem.W.Frag} {m : Md} {hid : List Addr} {H H' : Hp} {i : Str} : Rm K m hid H H' (.str i) (.str i) := rm_plain rfl (by simp [Mn])
theorem rm_bool {K : PySem.W.Frag} {m : Md} {hid : List Addr} {H H' : Hp} {i : Bool} : Rm K m hid H H' (.bool i) (.bl i) := rm_plain rfl (by simp [Mn])
theorem rm_none {K : PySem.W.Frag} {m : Md} {hid : List Addr} {H H' : Hp} : Rm K m hid H H' .none .non := rm_plain rfl (by simp [Mn])
end
end DL
set_option Elab.async false
set_option linter.all false
set_option maxRecDepth 100000
set_option maxHeartbeats 4000000
namespace DL
open PySem PySem.Spec PyProof.Rows L2
variable [TabsC]
section
variable {F : Fam} {K : PySem.W.Frag}

theorem de_any {m : Md} {e : Expr} {g : GE} (h : DE F m e g) : DE F .bo e g := by
  cases m with
  | fz => exact de_bo h
  | bo => exact h
  | au => exact de_ab h
theorem opR {f : Value → Value → Sem Value} {r : PySem.W.Frag → R2} (h : ∀ X : Cx, OpR X f (r X.K)) (i : F.ι) : OpR (F.X i) f (r F.K) := by
  have z := h (F.X i)
  rw [F.hK i] at z
  exact z
theorem de_op {m ma mb : Md} {op : Operator} {r : R2} {f : D → D → Option D} {a b : Expr} {ga gb : GE} {pos : Pos} (ho : ∀ i, OpR (F.X i) (binaryOp op) r) (hr : OpS F.K m r f) (ha : DE F ma a ga) (hb : DE F mb b gb) : DE F m (.BinOp a op b pos) (e2 f ga gb) := by
  obtain ⟨ta, pa, sa⟩ := de_any ha
  obtain ⟨tb, pb, sb⟩ := de_any hb
  exact ⟨tOp r ta tb, fun i => pe_op (ho i) (pa i) (pb i), sem_op sa sb hr⟩
/-- a comparison: as a value, as a test -/
def DC (F : Fam) (m : Md) (e : Expr) (g : GE) : Prop := ∃ te, (∀ i, PE (F.X i) e te) ∧ (∀ i, PT (F.X i) e (tTest te)) ∧ SemE F m te g
theorem dc_e {m : Md} {e : Expr} {g : GE} (h : DC F m e g) : DE F m e g := ⟨h.choose, h.choose_spec.1, h.choose_spec.2.2⟩
theorem de_cmp {m ma mb : Md} {op : CmpOp} {r : R2} {f : D → D → Option D} {a b : Expr} {ga gb : GE} {pos : Pos} (ho : ∀ i, OpR (F.X i) (compareOp op) r) (hr : OpS F.K m r f) (hm : behindInMarks op b = false) (ha : DE F ma a ga) (hb : DE F mb b gb) : DC F m (.Compare a [op] [b] pos) (e2 f ga gb) := by
  obtain ⟨ta, pa, sa⟩ := de_any ha
  obtain ⟨tb, pb, sb⟩ := de_any hb
  exact ⟨tOp r ta tb, fun i => pe_cmpR (ho i) (pa i) (pb i) hm, fun i => pt_cmpR (ho i) (pa i) (pb i) hm, sem_op sa sb hr⟩

/-! ### ints -/
def dI (g : Int → Int → D) : D → D → Option D
  | .int i, .int j => some (g i j)
  | _, _ => none
def dIc (C : Int → Int → Bool) (g : Int → Int → D) : D → D → Option D
  | .int i, .int j => if C i j then some (g i j) else none
  | _, _ => none
theorem ops_rI0 {m : Md} {gv : Int → Int → V} {g : Int → Int → D} (h : ∀ hid H H' i j, Rm K m hid H H' (g i j) (gv i j)) : OpS K m (rI0 gv) (dI g) := fun hid H d e z x y Q dom rx ry hf q => by
  cases d <;> simp only [dI] at hf <;> try cases hf
  cases e <;> simp only [dI] at hf <;> try cases hf
  exact ⟨_, _, bo_int rx, bo_int ry, q _ _ (Ex.refl _) (h _ _ _ _ _)⟩
theorem ops_rI {m : Md} {C : Int → Int → Prop} {Cb : Int → Int → Bool} {gv : Int → Int → V} {g : Int → Int → D} (hC : ∀ i j, Cb i j = true → C i j) (h : ∀ hid H H' i j, Rm K m hid H H' (g i j) (gv i j)) : OpS K m (rI C gv) (dIc Cb g) := fun hid H d e z x y Q dom rx ry hf q => by
  cases d <;> simp only [dIc] at hf <;> try cases hf
  cases e <;> simp only [dIc] at hf <;> try cases hf
  split at hf
  · rename_i hc
    cases hf
    exact ⟨_, _, bo_int rx, bo_int ry, hC _ _ hc, q _ _ (Ex.refl _) (h _ _ _ _ _)⟩
  · cases hf

/-! ### + -/
def dAddS : D → D → Option D
  | .str x, .str y => if x.length + y.length ≤ 1000000 then some (.str (x ++ y)) else none
  | _, _ => none
def dAddT : D → D → Option D
  | .tuple xs, .tuple ys => if xs.length + ys.length ≤ 1000000 then some (.tuple (xs ++ ys)) else none
  | _, _ => none
def dAddL : D → D → Option D
  | .list xs, .list ys => if xs.length + ys.length ≤ 1000000 then some (.list (xs ++ ys)) else none
  | _, _ => none
theorem ops_addS {m : Md} : OpS K m (fun x y H Q => ∃ i j, x = .str i ∧ y = .str j ∧ i.length + j.length ≤ sizeLine ∧ Q (.str (i ++ j)) H) dAddS := fun hid H d e z x y Q dom rx ry hf q => by
  cases d <;> simp only [dAddS] at hf <;> try cases hf
  cases e <;> simp only [dAddS] at hf <;> try cases hf
  split at hf
  · rename_i hc
    cases hf
    exact ⟨_, _, bo_str rx, bo_str ry, small_line hc, q _ _ (Ex.refl _) rm_str⟩
  · cases hf
theorem ops_addT {m : Md} : OpS K m (rCatA K) dAddT := fun hid H d e z x y Q dom rx ry hf q => by
  cases d <;> simp only [dAddT] at hf <;> try cases hf
  cases e <;> simp only [dAddT] at hf <;> try cases hf
  split at hf
  · rename_i hc
    cases hf
    obtain ⟨a, xs, rfl, h1, h2⟩ := bo_tup rx
    obtain ⟨b, ys, rfl, h3, h4⟩ := bo_tup ry
    have ap := h2.append h4
    refine ⟨a, b, xs, ys, rfl, rfl, Evl.ex_t hide_ex h1, Evl.ex_t hide_ex h3, by rw [h2.length, h4.length]; exact small_line hc, fun e => ?_, fun e1 e2 => ?_, fun e1 e2 p hp => q _ _ (Ex.new hp) (au_tup dom hp ap)⟩
    · subst e
      refine q _ _ (Ex.refl _) (rm_plain rfl ?_)
      simp only [Mn]
      exact ⟨b, ys, rfl, h3, ap⟩
    · subst e2
      rw [List.append_nil] at ap
      refine q _ _ (Ex.refl _) (rm_plain rfl ?_)
      simp only [Mn]
      exact ⟨a, xs, rfl, h1, ap⟩
  · cases hf
theorem ops_addL : OpS K .au rCat dAddL := fun hid H d e z x y Q dom rx ry hf q => by
  cases d <;> simp only [dAddL] at hf <;> try cases hf
  cases e <;> simp only [dAddL] at hf <;> try cases hf
  split at hf
  · rename_i hc
    cases hf
    obtain ⟨a, xs, rfl, h1, h2⟩ := bo_list rx
    obtain ⟨b, ys, rfl, h3, h4⟩ := bo_list ry
    exact ⟨a, b, xs, ys, rfl, rfl, h1, h3, by rw [h2.length, h4.length]; exact small_line hc, fun p hp => q _ _ (Ex.new hp) (au_list hp (h2.append h4))⟩
  · cases hf
def dAdd : D → D → Option D := fun x y => (dI (fun i j => .int (i + j)) x y).or ((dAddS x y).or ((dAddL x y).or (dAddT x y)))
theorem de_add {ma mb : Md} {a b : Expr} {ga gb : GE} {pos : Pos} (ha : DE F ma a ga) (hb : DE F mb b gb) : DE F .au (.BinOp a .Add b pos) (e2 dAdd ga gb) :=
  de_op (r := fun x y H Q => (rI0 (fun i j => .int (i + j))) x y H Q ∨ ((fun x y H Q => ∃ i j, x = .str i ∧ y = .str j ∧ i.length + j.length ≤ sizeLine ∧ Q (.str (i ++ j)) H) x y H Q ∨ (rCat x y H Q ∨ rCatA F.K x y H Q)))
    (fun i => op_add.or (op_add_str.or (op_cat.or (opR (F := F) (r := rCatA) (fun X => op_catA) i)))) ((ops_rI0 fun _ _ _ _ _ => rm_int).or1 (ops_addS.or1 (ops_addL.or1 ops_addT))) ha hb
theorem de_sub {m ma mb : Md} {a b : Expr} {ga gb : GE} {pos : Pos} (ha : DE F ma a ga) (hb : DE F mb b gb) : DE F m (.BinOp a .Sub b pos) (e2 (dI fun i j => .int (i - j)) ga gb) := de_op (fun _ => op_sub) (ops_rI0 fun _ _ _ _ _ => rm_int) ha hb
def cMul (i j : Int) : Bool := (decide (-(2 ^ 64) < i) && decide (i < 2 ^ 64)) || (decide (-(2 ^ 64) < j) && decide (j < 2 ^ 64))
theorem cMul_ok (i j : Int) (h : cMul i j = true) : CMul i j := by
  unfold cMul at h
  simp only [Bool.or_eq_true, Bool.and_eq_true, decide_eq_true_eq] at h
  exact h
def cDiv (_ j : Int) : Bool := decide (0 < j) && decide (j < 1073741824)
theorem cDiv_ok (i j : Int) (h : cDiv i j = true) : CDiv i j := by
  unfold cDiv at h
  simp only [Bool.and_eq_true, decide_eq_true_eq] at h
  exact h
def cPos (_ j : Int) : Bool := decide (0 < j)
theorem cPos_ok (i j : Int) (h : cPos i j = true) : 0 < j := of_decide_eq_true h
theorem de_fdiv {m ma mb : Md} {a b : Expr} {ga gb : GE} {pos : Pos} (ha : DE F ma a ga) (hb : DE F mb b gb) : DE F m (.BinOp a .FloorDiv b pos) (e2 (dIc cDiv fun i j => .int (i / j)) ga gb) := de_op (fun _ => op_fdiv) (ops_rI cDiv_ok fun _ _ _ _ _ => rm_int) ha hb
theorem de_mod {m ma mb : Md} {a b : Expr} {ga gb : GE} {pos : Pos} (ha : DE F ma a ga) (hb : DE F mb b gb) : DE F m (.BinOp a .Mod b pos) (e2 (dIc cPos fun i j => .int (i % j)) ga gb) := de_op (fun _ => op_mod) (ops_rI cPos_ok fun _ _ _ _ _ => rm_int) ha hb
theorem un_negS {m : Md} : UnS K m (rU fun i => .int (-i)) (fun d => match d with | .int i => some (.int (-i)) | _ => none) := fun hid H d z x Q dom rx hf q => by
  cases d <;> simp only at hf <;> try cases hf
  exact ⟨_, bo_int rx, q _ _ (Ex.refl _) rm_int⟩
def dNeg : D → Option D := fun d => match d with | .int i => some (.int (-i)) | _ => none
theorem de_neg {m ma : Md} {a : Expr} {ga : GE} {pos : Pos} (ha : DE F ma a ga) : DE F m (.UnaryOp .USub a pos) (e1 dNeg ga) := by
  obtain ⟨ta, pa, sa⟩ := de_any ha
  exact ⟨_, fun i => pe_un un_neg (pa i), sem_un sa un_negS⟩

/-! ### comparisons -/
def dLtS (f : List Nat → List Nat → Bool) : D → D → Option D
  | .str x, .str y => some (.bool (f x.cps.toList y.cps.toList))
  | _, _ => none
theorem ops_cmpS {m : Md} {f : List Nat → List Nat → Bool} : OpS K m (fun x y H Q => ∃ i j : Str, x = .str i ∧ y = .str j ∧ Q (.bl (f i.cps.toList j.cps.toList)) H) (dLtS f) := fun hid H d e z x y Q dom rx ry hf q => by
  cases d <;> simp only [dLtS] at hf <;> try cases hf
  cases e <;> simp only [dLtS] at hf <;> try cases hf
  exact ⟨_, _, bo_str rx, bo_str ry, q _ _ (Ex.refl _) rm_bool⟩
def dLt : D → D → Option D := fun x y => (dI (fun i j => .bool (decide (i < j))) x y).or (dLtS (fun p q => decide (p < q)) x y)
def dLe : D → D → Option D := fun x y => (dI (fun i j => .bool (decide (i ≤ j))) x y).or (dLtS (fun p q => !decide (q < p)) x y)
def dGt : D → D → Option D := fun x y => (dI (fun i j => .bool (decide (j < i))) x y).or (dLtS (fun p q => decide (q < p)) x y)
def dGe : D → D → Option D := fun x y => (dI (fun i j => .bool (decide (j ≤ i))) x y).or (dLtS (fun p q => !decide (p < q)) x y)
abbrev rLtV : R2 := fun x y H Q => (rI0 fun i j => .bl (decide (i < j))) x y H Q ∨ (fun x y H Q => ∃ i j : Str, x = .str i ∧ y = .str j ∧ Q (.bl (decide (i.cps.toList < j.cps.toList))) H) x y H Q
abbrev rLeV : R2 := fun x y H Q => (rI0 fun i j => .bl (decide (i ≤ j))) x y H Q ∨ (fun x y H Q => ∃ i j : Str, x = .str i ∧ y = .str j ∧ Q (.bl (!decide (j.cps.toList < i.cps.toList))) H) x y H Q
abbrev rGtV : R2 := fun x y H Q => (rI0 fun i j => .bl (decide (j < i))) x y H Q ∨ (fun x y H Q => ∃ i j : Str, x = .str i ∧ y = .str j ∧ Q (.bl (decide (j.cps.toList < i.cps.toList))) H) x y H Q
abbrev rGeV : R2 := fun x y H Q => (rI0 fun i j => .bl (decide (j ≤ i))) x y H Q ∨ (fun x y H Q => ∃ i j : Str, x = .str i ∧ y = .str j ∧ Q (.bl (!decide (i.cps.toList < j.cps.toList))) H) x y H Q
/-- an order, its operator, its rule -/
structure Ord (F : Fam) (op : CmpOp) (r : R2) (f : D → D → Option D) : Prop where
  ho : ∀ i, OpR (F.X i) (compareOp op) r
  hr : ∀ m, OpS F.K m r f
  nm : ∀ b, behindInMarks op b = false
theorem o_lt : Ord F .Lt rLtV dLt := ⟨fun _ => op_lt.or op_lt_str, fun _ => (ops_rI0 fun _ _ _ _ _ => rm_bool).or1 (ops_cmpS (f := fun p q => decide (p < q))), fun b => nomark b⟩
theorem o_le : Ord F .LtE rLeV dLe := ⟨fun _ => op_le.or op_le_str, fun _ => (ops_rI0 fun _ _ _ _ _ => rm_bool).or1 (ops_cmpS (f := fun p q => !decide (q < p))), fun b => nomark b⟩
theorem o_gt : Ord F .Gt rGtV dGt := ⟨fun _ => op_gt.or op_gt_str, fun _ => (ops_rI0 fun _ _ _ _ _ => rm_bool).or1 (ops_cmpS (f := fun p q => decide (q < p))), fun b => nomark b⟩
theorem o_ge : Ord F .GtE rGeV dGe := ⟨fun _ => op_ge.or op_ge_str, fun _ => (ops_rI0 fun _ _ _ _ _ => rm_bool).or1 (ops_cmpS (f := fun p q => !decide (p < q))), fun b => nomark b⟩
theorem de_ord {m ma mb : Md} {op : CmpOp} {r : R2} {f : D → D → Option D} {a b : Expr} {ga gb : GE} {pos : Pos} (o : Ord F op r f) (ha : DE F ma a ga) (hb : DE F mb b gb) : DC F m (.Compare a [op] [b] pos) (e2 f ga gb) := de_cmp o.ho (o.hr m) (o.nm b) ha hb
/-- a < b < c -/
def eCh (f f' : D → D → Option D) (a b c : GE) : GE := fun ρ => (a ρ).bind fun x => (b ρ).bind fun y => (lift (f x y)).bind fun k => match k with
  | .bool true => (c ρ).bind fun z => lift (f' y z)
  | .bool false => .ok (.bool false)
  | _ => .stuck
theorem bo_nf {hid : List Addr} {H H' : Hp} {d : D} {v : V} (h : Rm K .fz hid H H' d v) : Mn K (hide hid H') d v := h
theorem sem_chain {m : Md} {r r' : R2} {f f' : D → D → Option D} {ta tb tc : TE} {ga gb gc : GE} (ha : SemE F .bo ta ga) (hb : SemE F .bo tb gb) (hc : SemE F .bo tc gc) (hr : OpS F.K .fz r f) (hr' : OpS F.K m r' f') : SemE F m (tChain r r' ta tb tc) (eCh f f' ga gb gc) := fun H0 hid0 s ρ S Q q => by
  refine ha H0 hid0 s ρ S _ ?_
  unfold eCh at q
  split
  · rename_i d hd
    intro v H1 e1 r1
    rw [hd, bind_ok] at q
    refine hb H0 hid0 { s with H := H1 } ρ (S.ext e1) _ ?_
    split
    · rename_i d2 hd2
      intro u H2 e2 r2
      rw [hd2, bind_ok] at q
      cases hf : f d d2 with
      | none => rw [hf] at q; exact q.elim
      | some z =>
        rw [hf, lift_some, bind_ok] at q
        refine hr s.hid H2 d d2 z v u _ (dom_ex (e1.trans e2) S.dom) (bo_ext e2 r1) r2 hf fun k H3 e3 r3 => ?_
        have r3 : Mn F.K (hide s.hid H3) z k := r3
        cases z with
        | bool t =>
          simp only [Mn] at r3
          subst r3
          refine ⟨t, rfl, ?_⟩
          cases t with
          | false => exact q _ _ ((e1.trans e2).trans e3) rm_bool
          | true =>
            show tc s.σ H3 fun w' H4 => r' u w' H4 Q
            refine hc H0 hid0 { s with H := H3 } ρ (S.ext ((e1.trans e2).trans e3)) _ ?_
            dsimp only at q
            split
            · rename_i d3 hd3
              intro w H4 e4 r4
              rw [hd3, bind_ok] at q
              cases hf' : f' d2 d3 with
              | none => rw [hf'] at q; exact q.elim
              | some z' =>
                rw [hf'] at q
                exact hr' s.hid H4 d2 d3 z' u w Q (dom_ex (((e1.trans e2).trans e3).trans e4) S.dom) (bo_ext (e3.trans e4) r2) r4 hf' fun v' H' e' r' => q v' H' ((((e1.trans e2).trans e3).trans e4).trans e') (rm_back (((e1.trans e2).trans e3).trans e4) r')
            · rename_i c hd3
              rw [hd3, bind_err] at q
              exact fun H4 e4 => q H4 (((e1.trans e2).trans e3).trans e4)
            · rename_i hd3
              rw [hd3, bind_stuck] at q
              exact q
        | none => exact q.elim
        | int _ => exact q.elim
        | str _ => exact q.elim
        | list _ => exact q.elim
        | tuple _ => exact q.elim
        | dict _ => exact q.elim
    · rename_i c hd2
      rw [hd2, bind_err] at q
      exact fun H2 e2 => q H2 (e1.trans e2)
    · rename_i hd2
      rw [hd2, bind_stuck] at q
      exact q
  · rename_i c hd
    rw [hd, bind_err] at q
    exact q
  · rename_i hd
    rw [hd, bind_stuck] at q
    exact q
theorem de_chain {m ma mb mc : Md} {op op' : CmpOp} {r r' : R2} {f f' : D → D → Option D} {a b c : Expr} {ga gb gc : GE} {pos : Pos} (o : Ord F op r f) (o' : Ord F op' r' f') (ha : DE F ma a ga) (hb : DE F mb b gb) (hc : DE F mc c gc) : DC F m (.Compare a [op, op'] [b, c] pos) (eCh f f' ga gb gc) := by
  obtain ⟨ta, pa, sa⟩ := de_any ha
  obtain ⟨tb, pb, sb⟩ := de_any hb
  obtain ⟨tc, pc, sc⟩ := de_any hc
  exact ⟨_, fun i => pe_chain (o.ho i) (o'.ho i) (pa i) (pb i) (pc i) (by unfold lastMarks; exact o'.nm c), fun i => pt_chain (o.ho i) (o'.ho i) (pa i) (pb i) (pc i) (by unfold lastMarks; exact o'.nm c), sem_chain sa sb sc (o.hr .fz) (o'.hr m)⟩

/-! ### == -/
mutual
theorem Mn.dp {H : Hp} : ∀ (d : D) (v : V), d.plain = true → Mn K H d v → Dp K H v d
  | .none, v, _, h => by simp only [Mn] at h; subst h; exact .non
  | .bool b, v, _, h => by simp only [Mn] at h; subst h; exact .bl b
  | .int i, v, _, h => by simp only [Mn] at h; subst h; exact .int i
  | .str x, v, _, h => by simp only [Mn] at h; subst h; exact .str x
  | .list ds, v, p, h => by
    simp only [Mn] at h
    obtain ⟨a, xs, rfl, h2, h3⟩ := h
    exact .lst (SqL.of h2) (MnA.dp ds xs (by simpa only [PyData.plain] using p) h3)
  | .tuple ds, v, p, h => by
    simp only [Mn] at h
    obtain ⟨a, xs, rfl, h2, h3⟩ := h
    exact .tup h2 (MnA.dp ds xs (by simpa only [PyData.plain] using p) h3)
  | .dict _, _, p, _ => by simp [PyData.plain] at p
theorem MnA.dp {H : Hp} : ∀ (ds : List D) (vs : List V), PyData.plainAll ds = true → MnA K H ds vs → DpAll K H vs ds
  | [], vs, _, h => by simp only [MnA] at h; subst h; exact .nil
  | d :: ds, vs, p, h => by
    simp only [MnA] at h
    obtain ⟨v, r, rfl, h2, h3⟩ := h
    have p' : d.plain = true ∧ PyData.plainAll ds = true := by simpa [PyData.plainAll] using p
    exact .cons (Mn.dp d v p'.1 h2) (MnA.dp ds r p'.2 h3)
end
def rEqP (K : PySem.W.Frag) (f : D → D → Bool) : R2 := fun x y H Q => ∃ d e, Dp K H x d ∧ Dp K H y e ∧ d.plain = true ∧ e.plain = true ∧ min d.depth e.depth ≤ 100 ∧ Q (.bl (f d e)) H
theorem op_eqP {X : Cx} (hu : X.A.units + 120 < cLine) : OpR X (compareOp .Eq) (rEqP X.K fun d e => PyData.eqv d e) := by
  intro pins s σ H x y v u Q I rx ry h
  obtain ⟨d, e, hd, he, sd, se, hm, q⟩ := h
  obtain ⟨as, r1⟩ := Dp.reads I d x v hd rx
  obtain ⟨bs, r2⟩ := Dp.reads I e y u he ry
  exact SeqAt.eq_plain r1 r2 sd se (by omega) ⟨.bl _, H, I, rfl, q⟩
theorem op_neP {X : Cx} (hu : X.A.units + 120 < cLine) : OpR X (compareOp .NotEq) (rEqP X.K fun d e => !PyData.eqv d e) := by
  intro pins s σ H x y v u Q I rx ry h
  obtain ⟨d, e, hd, he, sd, se, hm, q⟩ := h
  obtain ⟨as, r1⟩ := Dp.reads I d x v hd rx
  obtain ⟨bs, r2⟩ := Dp.reads I e y u he ry
  exact SeqAt.ne_plain r1 r2 sd se (by omega) ⟨.bl _, H, I, rfl, q⟩
def okEq (x y : D) : Bool := x.plain && y.plain && decide (min x.depth y.depth ≤ 100)
def dEq : D → D → Option D := fun x y => if okEq x y then some (.bool (PyData.eqv x y)) else none
def dNe : D → D → Option D := fun x y => if okEq x y then some (.bool (!PyData.eqv x y)) else none
theorem ops_eqP {m : Md} {f : D → D → Bool} : OpS K m (rEqP K f) (fun x y => if okEq x y then some (.bool (f x y)) else none) := fun hid H d e z x y Q dom rx ry hf q => by
  dsimp only at hf
  split at hf
  · rename_i hc
    cases hf
    unfold okEq at hc
    simp only [Bool.and_eq_true, decide_eq_true_eq] at hc
    exact ⟨d, e, Mn.dp d x hc.1.1 (bo_full rx), Mn.dp e y hc.1.2 (bo_full ry), hc.1.1, hc.1.2, hc.2, q _ _ (Ex.refl _) rm_bool⟩
  · cases hf
theorem units120 (i : F.ι) : (F.X i).A.units + 120 < cLine := by
  have := (F.room i).un
  omega
theorem de_eq {m ma mb : Md} {a b : Expr} {ga gb : GE} {pos : Pos} (ha : DE F ma a ga) (hb : DE F mb b gb) : DC F m (.Compare a [.Eq] [b] pos) (e2 dEq ga gb) :=
  de_cmp (r := rEqP F.K fun d e => PyData.eqv d e) (fun i => by have z := op_eqP (X := F.X i) (units120 i); rw [F.hK i] at z; exact z) ops_eqP (nomark b) ha hb
theorem de_ne {m ma mb : Md} {a b : Expr} {ga gb : GE} {pos : Pos} (ha : DE F ma a ga) (hb : DE F mb b gb) : DC F m (.Compare a [.NotEq] [b] pos) (e2 dNe ga gb) :=
  de_cmp (r := rEqP F.K fun d e => !PyData.eqv d e) (fun i => by have z := op_neP (X := F.X i) (units120 i); rw [F.hK i] at z; exact z) (ops_eqP (f := fun d e => !PyData.eqv d e)) (nomark b) ha hb
/-! ### is None -/
def dIsN (neg : Bool) : D → Option D := fun x => match x with
  | .none => some (.bool (!neg))
  | _ => some (.bool neg)
theorem none_iff {hid : List Addr} {H H' : Hp} {d : D} {v : V} (h : Rm K .bo hid H H' d v) : decide (v = V.non) = match d with | .none => true | _ => false := by
  have h := bo_full h
  cases d <;> simp only [Mn] at h <;> try (subst h; rfl)
  · obtain ⟨a, _, rfl, _⟩ := h; rfl
  · obtain ⟨a, _, rfl, _⟩ := h; rfl
  · rcases h with ⟨a, _, rfl, _⟩ | ⟨a, _, rfl, _⟩ | ⟨a, rfl, _⟩ | ⟨a, _, _, rfl, _⟩ <;> rfl
theorem sem_isN {m : Md} {ta : TE} {ga : GE} (ha : SemE F .bo ta ga) : SemE F m (tIsN ta) (e1 (dIsN false) ga) := fun H0 hid0 s ρ S Q q => by
  refine ha H0 hid0 s ρ S _ ?_
  unfold e1 at q
  split
  · rename_i d hd
    intro v H1 e1 r1
    rw [hd, bind_ok] at q
    show Q (.bl (decide (v = .non))) H1
    rw [none_iff r1]
    cases d <;> exact q _ _ e1 rm_bool
  · rename_i c hd
    rw [hd, bind_err] at q
    exact q
  · rename_i hd
    rw [hd, bind_stuck] at q
    exact q
theorem sem_notN {m : Md} {ta : TE} {ga : GE} (ha : SemE F .bo ta ga) : SemE F m (tNotN ta) (e1 (dIsN true) ga) := fun H0 hid0 s ρ S Q q => by
  refine ha H0 hid0 s ρ S _ ?_
  unfold e1 at q
  split
  · rename_i d hd
    intro v H1 e1 r1
    rw [hd, bind_ok] at q
    show Q (.bl (!decide (v = .non))) H1
    rw [none_iff r1]
    cases d <;> exact q _ _ e1 rm_bool
  · rename_i c hd
    rw [hd, bind_err] at q
    exact q
  · rename_i hd
    rw [hd, bind_stuck] at q
    exact q
theorem de_isN {m ma : Md} {a : Expr} {ga : GE} {j pos pos'} (ha : DE F ma a ga) : DC F m (.Compare a [.Is] [.Constant .none j pos'] pos) (e1 (dIsN false) ga) := by
  obtain ⟨ta, pa, sa⟩ := de_any ha
  exact ⟨_, fun i => pe_cmp (pc_isN (pa i)) rfl, fun i => pt_cmp (pc_isN (pa i)) rfl, sem_isN sa⟩
theorem de_notN {m ma : Md} {a : Expr} {ga : GE} {j pos pos'} (ha : DE F ma a ga) : DC F m (.Compare a [.IsNot] [.Constant .none j pos'] pos) (e1 (dIsN true) ga) := by
  obtain ⟨ta, pa, sa⟩ := de_any ha
  exact ⟨_, fun i => pe_cmp (pc_notN (pa i)) rfl, fun i => pt_cmp (pc_notN (pa i)) rfl, sem_notN sa⟩
end
end DL
set_option Elab.async false
set_option linter.all false
set_option maxRecDepth 100000
set_option maxHeartbeats 4000000
namespace DL
open PySem PySem.Spec PyProof.Rows L2
variable [TabsC]
section
variable {F : Fam} {K : PySem.W.Frag}
/-! ### tests -/
def tV (g : GE) : GT := fun ρ => (g ρ).bind fun d => match d with
  | .bool b => .ok b
  | _ => .stuck
theorem sem_tV {m : Md} {te : TE} {g : GE} (h : SemE F m te g) : SemT F (tTest te) (tV g) := fun H0 hid0 s ρ S Q q => by
  refine h H0 hid0 s ρ S _ ?_
  unfold tV at q
  split
  · rename_i d hd
    intro v H1 e1 r1
    rw [hd, bind_ok] at q
    cases d with
    | bool b =>
      have : v = .bl b := by
        cases m with
        | fz => exact bo_bool (rm_bo r1)
        | bo => exact bo_bool r1
        | au => exact bo_bool (rm_bo (rm_fz S.dom r1))
      exact ⟨b, this, q _ e1⟩
    | none => exact q.elim
    | int _ => exact q.elim
    | str _ => exact q.elim
    | list _ => exact q.elim
    | tuple _ => exact q.elim
    | dict _ => exact q.elim
  · rename_i c hd
    rw [hd, bind_err] at q
    exact q
  · rename_i hd
    rw [hd, bind_stuck] at q
    exact q
theorem dc_t {m : Md} {e : Expr} {g : GE} (h : DC F m e g) : DT F e (tV g) := ⟨_, h.choose_spec.2.1, sem_tV h.choose_spec.2.2⟩
theorem dt_val {m : Md} {e : Expr} {g : GE} (h : DE F m e g) (he : ∀ env whole, isTrue e env whole = (do let v ← whole; standAt e.pos; holding [v] (truthy v)) := by intro _ _; rfl) : DT F e (tV g) :=
  ⟨_, fun i => pt_val (h.choose_spec.1 i) (he _), sem_tV h.choose_spec.2⟩
def gNot (a : GT) : GT := fun ρ => (a ρ).bind fun x => .ok (!x)
def gAnd (a b : GT) : GT := fun ρ => (a ρ).bind fun x => if x then b ρ else .ok false
def gOr (a b : GT) : GT := fun ρ => (a ρ).bind fun x => if x then .ok true else b ρ
theorem sem_not {t : TT} {g : GT} (h : SemT F t g) : SemT F (tNot t) (gNot g) := fun H0 hid0 s ρ S Q q => by
  refine h H0 hid0 s ρ S _ ?_
  unfold gNot at q
  split
  · rename_i d hd
    rw [hd, bind_ok] at q
    exact fun H1 e1 => q H1 e1
  · rename_i c hd
    rw [hd, bind_err] at q
    exact q
  · rename_i hd
    rw [hd, bind_stuck] at q
    exact q
theorem sem_and {t u : TT} {g k : GT} (h : SemT F t g) (h2 : SemT F u k) : SemT F (tAnd t u) (gAnd g k) := fun H0 hid0 s ρ S Q q => by
  refine h H0 hid0 s ρ S _ ?_
  unfold gAnd at q
  split
  · rename_i d hd
    rw [hd, bind_ok] at q
    intro H1 e1
    cases d with
    | false => exact q H1 e1
    | true =>
      show u s.σ H1 Q
      refine h2 H0 hid0 { s with H := H1 } ρ (S.ext e1) _ ?_
      have q : match k ρ with | .ok b => ∀ H', Ex s.H H' → Q b H' | .err c => ∀ H', Ex s.H H' → F.E (F.cl c) none H' | .stuck => False := q
      split at q
      · rename_i z; first | exact fun H' e' => q H' (e1.trans e') | (rw [z]; exact fun H' e' => q H' (e1.trans e'))
      · rename_i z; first | exact fun H' e' => q H' (e1.trans e') | (rw [z]; exact fun H' e' => q H' (e1.trans e'))
      · exact q.elim
  · rename_i c hd
    rw [hd, bind_err] at q
    exact q
  · rename_i hd
    rw [hd, bind_stuck] at q
    exact q
theorem sem_or {t u : TT} {g k : GT} (h : SemT F t g) (h2 : SemT F u k) : SemT F (tOr t u) (gOr g k) := fun H0 hid0 s ρ S Q q => by
  refine h H0 hid0 s ρ S _ ?_
  unfold gOr at q
  split
  · rename_i d hd
    rw [hd, bind_ok] at q
    intro H1 e1
    cases d with
    | true => exact q H1 e1
    | false =>
      show u s.σ H1 Q
      refine h2 H0 hid0 { s with H := H1 } ρ (S.ext e1) _ ?_
      have q : match k ρ with | .ok b => ∀ H', Ex s.H H' → Q b H' | .err c => ∀ H', Ex s.H H' → F.E (F.cl c) none H' | .stuck => False := q
      split at q
      · rename_i z; first | exact fun H' e' => q H' (e1.trans e') | (rw [z]; exact fun H' e' => q H' (e1.trans e'))
      · rename_i z; first | exact fun H' e' => q H' (e1.trans e') | (rw [z]; exact fun H' e' => q H' (e1.trans e'))
      · exact q.elim
  · rename_i c hd
    rw [hd, bind_err] at q
    exact q
  · rename_i hd
    rw [hd, bind_stuck] at q
    exact q
/-- and, or chains as tests -/
def DW (F : Fam) (e : Expr) (g : GT) : Prop := ∃ tt, (∀ i, PW (F.X i) e tt) ∧ SemT F tt g
theorem dw_t {e : Expr} {g : GT} (h : DW F e g) : DT F e g := ⟨_, fun i => (h.choose_spec.1 i).pt, h.choose_spec.2⟩
theorem dw_and1 {a : Expr} {g : GT} {pos : Pos} (h : DT F a g) : DW F (.BoolOp .And [a] pos) g := ⟨_, fun i => pw_and1 (h.choose_spec.1 i), h.choose_spec.2⟩
theorem dw_or1 {a : Expr} {g : GT} {pos : Pos} (h : DT F a g) : DW F (.BoolOp .Or [a] pos) g := ⟨_, fun i => pw_or1 (h.choose_spec.1 i), h.choose_spec.2⟩
theorem dw_and {a b : Expr} {rest : List Expr} {g k : GT} {pos : Pos} (h : DT F a g) (h2 : DW F (.BoolOp .And (b :: rest) pos) k) : DW F (.BoolOp .And (a :: b :: rest) pos) (gAnd g k) :=
  ⟨_, fun i => pw_and (h.choose_spec.1 i) (h2.choose_spec.1 i), sem_and h.choose_spec.2 h2.choose_spec.2⟩
theorem dw_or {a b : Expr} {rest : List Expr} {g k : GT} {pos : Pos} (h : DT F a g) (h2 : DW F (.BoolOp .Or (b :: rest) pos) k) : DW F (.BoolOp .Or (a :: b :: rest) pos) (gOr g k) :=
  ⟨_, fun i => pw_or (h.choose_spec.1 i) (h2.choose_spec.1 i), sem_or h.choose_spec.2 h2.choose_spec.2⟩
theorem dt_not {a : Expr} {g : GT} {pos : Pos} (h : DT F a g) : DT F (.UnaryOp .Not a pos) (gNot g) := ⟨_, fun i => pt_not (h.choose_spec.1 i), sem_not h.choose_spec.2⟩
/-! ### and, or, not as values -/
def eAnd (a b : GE) : GE := fun ρ => (a ρ).bind fun x => match x with
  | .bool true => b ρ
  | .bool false => .ok (.bool false)
  | _ => .stuck
def eOr (a b : GE) : GE := fun ρ => (a ρ).bind fun x => match x with
  | .bool false => b ρ
  | .bool true => .ok (.bool true)
  | _ => .stuck
def dNot : D → Option D
  | .bool b => some (.bool (!b))
  | _ => none
def WE (F : Fam) (m : Md) (hid : List Addr) (H : Hp) (Q : VK) : Out D → Prop
  | .ok d => ∀ v H', Ex H H' → Rm F.K m hid H H' d v → Q v H'
  | .err c => ∀ H', Ex H H' → F.E (F.cl c) none H'
  | .stuck => False
theorem q_ext {m : Md} {hid : List Addr} {H H1 : Hp} {Q : VK} (e1 : Ex H H1) : ∀ {o : Out D}, WE F m hid H Q o → WE F m hid H1 Q o
  | .ok d, q => fun v H' e r => q v H' (e1.trans e) (rm_back e1 r)
  | .err n, q => fun H' e => q H' (e1.trans e)
  | .stuck, q => q
theorem sem_andV {m ma : Md} {ta tb : TE} {ga gb : GE} (ha : SemE F ma ta ga) (hb : SemE F m tb gb) : SemE F m (tAndV ta tb) (eAnd ga gb) := fun H0 hid0 s ρ S Q q => by
  refine ha H0 hid0 s ρ S _ ?_
  unfold eAnd at q
  split
  · rename_i d hd
    intro v H1 e1 r1
    rw [hd, bind_ok] at q
    cases d with
    | bool b =>
      have : v = .bl b := by
        cases ma with
        | fz => exact bo_bool (rm_bo r1)
        | bo => exact bo_bool r1
        | au => exact bo_bool (rm_bo (rm_fz S.dom r1))
      refine ⟨b, this, ?_⟩
      cases b with
      | false => exact q _ _ e1 rm_bool
      | true => exact hb H0 hid0 { s with H := H1 } ρ (S.ext e1) Q (q_ext (o := gb ρ) e1 q)
    | none => exact q.elim
    | int _ => exact q.elim
    | str _ => exact q.elim
    | list _ => exact q.elim
    | tuple _ => exact q.elim
    | dict _ => exact q.elim
  · rename_i c hd
    rw [hd, bind_err] at q
    exact q
  · rename_i hd
    rw [hd, bind_stuck] at q
    exact q
theorem sem_orV {m ma : Md} {ta tb : TE} {ga gb : GE} (ha : SemE F ma ta ga) (hb : SemE F m tb gb) : SemE F m (tOrV ta tb) (eOr ga gb) := fun H0 hid0 s ρ S Q q => by
  refine ha H0 hid0 s ρ S _ ?_
  unfold eOr at q
  split
  · rename_i d hd
    intro v H1 e1 r1
    rw [hd, bind_ok] at q
    cases d with
    | bool b =>
      have : v = .bl b := by
        cases ma with
        | fz => exact bo_bool (rm_bo r1)
        | bo => exact bo_bool r1
        | au => exact bo_bool (rm_bo (rm_fz S.dom r1))
      refine ⟨b, this, ?_⟩
      cases b with
      | true => exact q _ _ e1 rm_bool
      | false => exact hb H0 hid0 { s with H := H1 } ρ (S.ext e1) Q (q_ext (o := gb ρ) e1 q)
    | none => exact q.elim
    | int _ => exact q.elim
    | str _ => exact q.elim
    | list _ => exact q.elim
    | tuple _ => exact q.elim
    | dict _ => exact q.elim
  · rename_i c hd
    rw [hd, bind_err] at q
    exact q
  · rename_i hd
    rw [hd, bind_stuck] at q
    exact q
theorem sem_notV {m ma : Md} {ta : TE} {ga : GE} (ha : SemE F ma ta ga) : SemE F m (tNotV ta) (e1 dNot ga) := fun H0 hid0 s ρ S Q q => by
  refine ha H0 hid0 s ρ S _ ?_
  unfold e1 at q
  split
  · rename_i d hd
    intro v H1 e1 r1
    rw [hd, bind_ok] at q
    cases d with
    | bool b =>
      have : v = .bl b := by
        cases ma with
        | fz => exact bo_bool (rm_bo r1)
        | bo => exact bo_bool r1
        | au => exact bo_bool (rm_bo (rm_fz S.dom r1))
      exact ⟨b, this, q _ _ e1 rm_bool⟩
    | none => exact q.elim
    | int _ => exact q.elim
    | str _ => exact q.elim
    | list _ => exact q.elim
    | tuple _ => exact q.elim
    | dict _ => exact q.elim
  · rename_i c hd
    rw [hd, bind_err] at q
    exact q
  · rename_i hd
    rw [hd, bind_stuck] at q
    exact q
theorem de_one {m : Md} {op : BoolOp} {a : Expr} {ga : GE} {pos : Pos} (ha : DE F m a ga) : DE F m (.BoolOp op [a] pos) ga := ⟨_, fun i => pe_one (ha.choose_spec.1 i), ha.choose_spec.2⟩
theorem de_and {m ma : Md} {a b : Expr} {rest : List Expr} {ga gb : GE} {pos : Pos} (ha : DE F ma a ga) (hb : DE F m (.BoolOp .And (b :: rest) pos) gb) : DE F m (.BoolOp .And (a :: b :: rest) pos) (eAnd ga gb) :=
  ⟨_, fun i => pe_and (ha.choose_spec.1 i) (hb.choose_spec.1 i), sem_andV ha.choose_spec.2 hb.choose_spec.2⟩
theorem de_or {m ma : Md} {a b : Expr} {rest : List Expr} {ga gb : GE} {pos : Pos} (ha : DE F ma a ga) (hb : DE F m (.BoolOp .Or (b :: rest) pos) gb) : DE F m (.BoolOp .Or (a :: b :: rest) pos) (eOr ga gb) :=
  ⟨_, fun i => pe_or (ha.choose_spec.1 i) (hb.choose_spec.1 i), sem_orV ha.choose_spec.2 hb.choose_spec.2⟩
theorem de_not {m ma : Md} {a : Expr} {ga : GE} {pos : Pos} (ha : DE F ma a ga) : DE F m (.UnaryOp .Not a pos) (e1 dNot ga) := ⟨_, fun i => pe_not (ha.choose_spec.1 i), sem_notV ha.choose_spec.2⟩
def eIf (t : GT) (a b : GE) : GE := fun ρ => (t ρ).bind fun k => if k then a ρ else b ρ
theorem sem_if {m : Md} {t : TT} {ta tb : TE} {gt : GT} {ga gb : GE} (ht : SemT F t gt) (ha : SemE F m ta ga) (hb : SemE F m tb gb) : SemE F m (tIf t ta tb) (eIf gt ga gb) := fun H0 hid0 s ρ S Q q => by
  refine ht H0 hid0 s ρ S _ ?_
  unfold eIf at q
  split
  · rename_i d hd
    rw [hd, bind_ok] at q
    intro H1 e1
    cases d with
    | false => exact hb H0 hid0 { s with H := H1 } ρ (S.ext e1) Q (q_ext (o := gb ρ) e1 q)
    | true => exact ha H0 hid0 { s with H := H1 } ρ (S.ext e1) Q (q_ext (o := ga ρ) e1 q)
  · rename_i c hd
    rw [hd, bind_err] at q
    exact q
  · rename_i hd
    rw [hd, bind_stuck] at q
    exact q
theorem de_if {m : Md} {c a b : Expr} {gt : GT} {ga gb : GE} {pos : Pos} (hc : DT F c gt) (ha : DE F m a ga) (hb : DE F m b gb) : DE F m (.IfExp c a b pos) (eIf gt ga gb) :=
  ⟨_, fun i => pe_ifExp (hc.choose_spec.1 i) (ha.choose_spec.1 i) (hb.choose_spec.1 i), sem_if hc.choose_spec.2 ha.choose_spec.2 hb.choose_spec.2⟩

/-! ### arguments, displays -/
def aNil : GA := fun _ => .ok []
def aCons (g : GE) (a : GA) : GA := fun ρ => (g ρ).bind fun d => (a ρ).bind fun ds => .ok (d :: ds)
theorem rm_ext {m : Md} {hid : List Addr} {H H1 H' : Hp} {d : D} {v : V} (e : Ex H1 H') (h : Rm K m hid H H1 d v) : Rm K m hid H H' d v := by
  cases m with
  | fz => exact fz_ext e h
  | bo => exact bo_ext e h
  | au =>
    unfold Rm at h ⊢
    dsimp only at h ⊢
    split at h
    · rename_i hc
      rw [if_pos hc]
      obtain ⟨a, h1, h2, h3⟩ := h
      exact ⟨a, h1, h2, h3.mono e⟩
    · rename_i hc
      rw [if_neg hc]
      exact Mn.mono (hide_mono e) d v h
theorem sem_nil {m : Md} : SemA F m tNil aNil := fun H0 hid0 s ρ S Q q => q [] s.H (Ex.refl _) .nil
theorem rma_back {m : Md} {hid : List Addr} {H H1 H' : Hp} (e : Ex H H1) : ∀ {ds : List D} {vs : List V}, RmA K m hid H1 H' ds vs → RmA K m hid H H' ds vs
  | _, _, .nil => .nil
  | _, _, .cons h t => .cons (rm_back e h) (rma_back e t)
theorem sem_cons {m : Md} {te : TE} {ta : TA} {g : GE} {ga : GA} (h : SemE F m te g) (ht : SemA F m ta ga) : SemA F m (tCons te ta) (aCons g ga) := fun H0 hid0 s ρ S Q q => by
  refine h H0 hid0 s ρ S _ ?_
  unfold aCons at q
  split
  · rename_i d hd
    intro v H1 e1 r1
    rw [hd, bind_ok] at q
    refine ht H0 hid0 { s with H := H1 } ρ (S.ext e1) _ ?_
    split
    · rename_i ds hds
      rw [hds, bind_ok] at q
      exact fun vs H2 e2 r2 => q (v :: vs) H2 (e1.trans e2) (.cons (rm_ext e2 r1) (rma_back e1 r2))
    · rename_i c hds
      rw [hds, bind_err] at q
      exact fun H2 e2 => q H2 (e1.trans e2)
    · rename_i hds
      rw [hds, bind_stuck] at q
      exact q
  · rename_i c hd
    rw [hd, bind_err] at q
    exact q
  · rename_i hd
    rw [hd, bind_stuck] at q
    exact q
theorem da_nil {m : Md} : DA F m [] aNil := ⟨_, fun _ => pa_nil, sem_nil⟩
theorem pa_consX {X : Cx} {e : Expr} {es : List Expr} {te : TE} {t : TA} (h : PE X e te) (ht : PA X es t) (hs : ∀ env, starEach (e :: es) env = (false, eval e env) :: starEach es env) : PA X (e :: es) (tCons te t) := pa_cons h ht (hs _)
theorem da_cons {m : Md} {e : Expr} {es : List Expr} {g : GE} {ga : GA} (h : DE F m e g) (ht : DA F m es ga) (hs : ∀ env, starEach (e :: es) env = (false, eval e env) :: starEach es env := by intro _; rfl) : DA F m (e :: es) (aCons g ga) :=
  ⟨_, fun i => pa_consX (h.choose_spec.1 i) (ht.choose_spec.1 i) hs, sem_cons h.choose_spec.2 ht.choose_spec.2⟩
theorem rma_mn {hid : List Addr} {H H' : Hp} : ∀ {ds : List D} {vs : List V}, RmA K .fz hid H H' ds vs → MnA K (hide hid H') ds vs
  | _, _, .nil => by simp [MnA]
  | _, _, .cons (d := d) (v := v) (ds := ds) (vs := vs) h t => by
    simp only [MnA]
    exact ⟨v, vs, rfl, h, rma_mn t⟩
theorem rma_full {hid : List Addr} {H H' : Hp} : ∀ {ds : List D} {vs : List V}, RmA K .bo hid H H' ds vs → MnA K (hide [] H') ds vs
  | _, _, .nil => by simp [MnA]
  | _, _, .cons (d := d) (v := v) (ds := ds) (vs := vs) h t => by
    simp only [MnA]
    exact ⟨v, vs, rfl, bo_full0 h, rma_full t⟩
theorem rma_fzbo {hid : List Addr} {H H' : Hp} : ∀ {ds : List D} {vs : List V}, RmA K .fz hid H H' ds vs → RmA K .bo hid H H' ds vs
  | _, _, .nil => .nil
  | _, _, .cons h t => .cons (rm_bo h) (rma_fzbo t)
def eTup (a : GA) : GE := fun ρ => (a ρ).bind fun ds => if ds.length ≤ 1000000 then .ok (.tuple ds) else .stuck
def eLst (a : GA) : GE := fun ρ => (a ρ).bind fun ds => if ds.length ≤ 1000000 then .ok (.list ds) else .stuck
theorem sem_tup {m : Md} {ta : TA} {g : GA} (h : SemA F .fz ta g) : SemE F m (tTup ta) (eTup g) := fun H0 hid0 s ρ S Q q => by
  refine h H0 hid0 s ρ S _ ?_
  unfold eTup at q
  split
  · rename_i ds hd
    rw [hd, bind_ok] at q
    intro vs H1 e1 r1
    split at q
    · rename_i o d hz hk
      split at hk
      · rename_i hl
        cases hk
        have ra := rma_mn r1
        exact ⟨by rw [ra.length]; exact small_line hl, fun p hp => q _ _ (e1.trans (Ex.new hp)) (rm_back e1 (au_tup (dom_ex e1 S.dom) hp ra))⟩
      · cases hk
    · rename_i hk
      split at hk <;> cases hk
    · exact q.elim
  · rename_i c hd
    rw [hd, bind_err] at q
    exact q
  · rename_i hd
    rw [hd, bind_stuck] at q
    exact q
theorem sem_lst {ta : TA} {g : GA} (h : SemA F .fz ta g) : SemE F .au (tLst ta) (eLst g) := fun H0 hid0 s ρ S Q q => by
  refine h H0 hid0 s ρ S _ ?_
  unfold eLst at q
  split
  · rename_i ds hd
    rw [hd, bind_ok] at q
    intro vs H1 e1 r1
    by_cases hl : ds.length ≤ 1000000
    · rw [if_pos hl] at q
      have ra := rma_mn r1
      exact ⟨by rw [ra.length]; exact small_line hl, fun p hp => q _ _ (e1.trans (Ex.new hp)) (rm_back e1 (au_list hp ra))⟩
    · rw [if_neg hl] at q
      exact q.elim
  · rename_i c hd
    rw [hd, bind_err] at q
    exact q
  · rename_i hd
    rw [hd, bind_stuck] at q
    exact q
theorem de_tup {m : Md} {es : List Expr} {g : GA} {x1 : Nat} {pos : Pos} (h : DA F .fz es g) : DE F m (.Tuple es x1 pos) (eTup g) := ⟨_, fun i => pe_tup (h.choose_spec.1 i), sem_tup h.choose_spec.2⟩
theorem de_lst {es : List Expr} {g : GA} {pos : Pos} (h : DA F .fz es g) : DE F .au (.List es pos) (eLst g) := ⟨_, fun i => pe_lst (h.choose_spec.1 i), sem_lst h.choose_spec.2⟩
end
end DL
set_option Elab.async false
set_option linter.all false
set_option maxRecDepth 100000
set_option maxHeartbeats 4000000
namespace DL
open PySem PySem.Spec PyProof.Rows L2
variable [TabsC]
/-! ### targets -/
abbrev Tg := D → Env → Option Env
/-- slots that a target sets -/
def SemG (F : Fam) (g : TG) (tg : Tg) (js : List Nat) : Prop :=
  ∀ (H0 : Hp) (hid0 : List Addr) (s : Sx) (ρ ρ' : Env) (d : D) (x : V), Sees F.K H0 hid0 F.O s ρ → Mn F.K (hide s.hid s.H) d x → tg d ρ = some ρ' → ∀ Q : L2.St → Hp → Prop,
    (∀ σ', Sees F.K H0 hid0 F.O { s with σ := σ' } ρ' → σ'.length = s.σ.length → (∀ j, j ∉ js → σ'[j]? = s.σ[j]?) → Q σ' s.H) → g x s.σ s.H Q
def DG (F : Fam) (target : Expr) (tg : Tg) (js : List Nat) : Prop := ∃ g, (∀ i, PG (F.X i) target g) ∧ SemG F g tg js
section
variable {F : Fam} {K : PySem.W.Frag} {H0 : Hp} {hid0 : List Addr} {O : Nat → Bool} {s : Sx} {ρ : Env}
/-- a slot that owns nothing is set -/
theorem Sees.set (S : Sees K H0 hid0 O s ρ) {i : Nat} {d : D} {x : V} (hO : O i = false) (h : Mn K (hide s.hid s.H) d x) : Sees K H0 hid0 O { s with σ := s.σ.set i (some x) } (ρ.set i (some d)) where
  len := by
    show (s.σ.set i (some x)).length = _
    rw [List.length_set, List.length_set]
    exact S.len
  ex0 := S.ex0
  sub := S.sub
  knd := S.knd
  dom0 := S.dom0
  tb0 := S.tb0
  fz := fun j e h1 h2 => by
    show ∃ v, (s.σ.set i (some x))[j]? = some (some v) ∧ _
    by_cases hj : i = j
    · subst hj
      by_cases hl : i < ρ.length
      · rw [List.getElem?_set_self hl] at h2
        cases h2
        exact ⟨x, List.getElem?_set_self (by rw [S.len]; exact hl), h⟩
      · rw [List.getElem?_eq_none (by rw [List.length_set]; omega)] at h2
        cases h2
    · rw [List.getElem?_set_ne hj] at h2 ⊢
      exact S.fz j e h1 h2
  ow := fun j e h1 h2 => by
    show ∃ a, (s.σ.set i (some x))[j]? = some (some (V.ref a)) ∧ _
    have hj : i ≠ j := fun z => by rw [z, h1] at hO; cases hO
    rw [List.getElem?_set_ne hj] at h2 ⊢
    exact S.ow j e h1 h2
  oh := S.oh
  inj := S.inj
def tgN (i : Nat) : Tg := fun d ρ => some (ρ.set i (some d))
theorem semg_name {i : Nat} (hO : F.O i = false) : SemG F (gName i) (tgN i) [i] := fun H0 hid0 s ρ ρ' d x S h e Q q => by
  cases e
  exact q _ (S.set hO h) (by rw [List.length_set]) fun j hj => List.getElem?_set_ne (fun z => hj (by simp [z]))
theorem dg_name (i : Nat) {x : Str} {pos : Pos} (hN : F.N[i]? = some x := by rfl) (hs : F.sto x = true := by rfl) (hO : F.O i = false := by rfl) : DG F (.Name x pos) (tgN i) [i] :=
  ⟨gName i, fun j => pg_name (by rw [F.hN]; exact F.nd) (by rw [F.hN]; exact hN) (F.hsto j x hs).1 (F.hsto j x hs).2, semg_name hO⟩
/-- a, b, .. : a tuple -/
abbrev Tgs := List D → Env → Option Env
def SemGs (F : Fam) (g : TGs) (tg : Tgs) (js : List Nat) : Prop :=
  ∀ (H0 : Hp) (hid0 : List Addr) (s : Sx) (ρ ρ' : Env) (ds : List D) (xs : List V), Sees F.K H0 hid0 F.O s ρ → MnA F.K (hide s.hid s.H) ds xs → tg ds ρ = some ρ' → ∀ Q : L2.St → Hp → Prop,
    (∀ σ', Sees F.K H0 hid0 F.O { s with σ := σ' } ρ' → σ'.length = s.σ.length → (∀ j, j ∉ js → σ'[j]? = s.σ[j]?) → Q σ' s.H) → g xs s.σ s.H Q
def DGs (F : Fam) (targets : List Expr) (tg : Tgs) (js : List Nat) (n : Nat) : Prop := ∃ g, (∀ i, PGs (F.X i) targets g) ∧ SemGs F g tg js ∧ (∀ env, (assignEach targets env).length = n ∧ (assignEach targets env).findIdx? (·.1) = none) ∧ (∀ ds ρ ρ', tg ds ρ = some ρ' → ds.length = n)
def tgNil : Tgs := fun ds ρ => match ds with
  | [] => some ρ
  | _ :: _ => none
def tgCons (t : Tg) (u : Tgs) : Tgs := fun ds ρ => match ds with
  | [] => none
  | d :: ds => (t d ρ).bind (u ds)
theorem dgs_nil : DGs F [] tgNil [] 0 := ⟨gNil, fun i => pgs_nil, fun H0 hid0 s ρ ρ' ds xs S h e Q q => (by
  cases ds with
  | nil =>
    cases e
    simp only [MnA] at h
    subst h
    exact ⟨rfl, q s.σ S rfl fun _ _ => rfl⟩
  | cons _ _ => cases e), fun env => ⟨rfl, rfl⟩, fun ds ρ ρ' e => by
    cases ds with
    | nil => rfl
    | cons _ _ => cases e⟩
theorem dgs_cons {e : Expr} {es : List Expr} {t : Tg} {u : Tgs} {js ks : List Nat} {n : Nat} (h1 : DG F e t js) (h2 : DGs F es u ks n) (hs : ∀ env, assignEach (e :: es) env = (false, assign e env) :: assignEach es env := by intro _; rfl) : DGs F (e :: es) (tgCons t u) (js ++ ks) (n + 1) := by
  obtain ⟨g1, p1, s1⟩ := h1
  obtain ⟨g2, p2, s2, l2, m2⟩ := h2
  refine ⟨gCons g1 g2, fun i => pgs_cons (p1 i) (p2 i) (by rw [hs]; rfl), fun H0 hid0 s ρ ρ' ds xs S h e Q q => ?_, fun env => ?_, fun ds ρ ρ' e => ?_⟩
  · cases ds with
    | nil => cases e
    | cons d ds =>
      simp only [MnA] at h
      obtain ⟨v, r, rfl, hv, hr⟩ := h
      refine ⟨v, r, rfl, ?_⟩
      cases ht : t d ρ with
      | none =>
        have e : (t d ρ).bind (u ds) = some ρ' := e
        rw [ht] at e
        cases e
      | some ρ1 =>
        have e : (t d ρ).bind (u ds) = some ρ' := e
        rw [ht] at e
        refine s1 H0 hid0 s ρ ρ1 d v S hv ht _ fun σ1 S1 L1 K1 => ?_
        refine s2 H0 hid0 { s with σ := σ1 } ρ1 ρ' ds r S1 hr e _ fun σ2 S2 L2 K2 => ?_
        exact q σ2 S2 (L2.trans L1) fun j hj => by
          simp only [List.mem_append, not_or] at hj
          exact (K2 j hj.2).trans (K1 j hj.1)
  · obtain ⟨a, b⟩ := l2 env
    rw [hs]
    refine ⟨by rw [List.length_cons, a], ?_⟩
    rw [List.findIdx?_cons, b]
    rfl
  · cases ds with
    | nil => cases e
    | cons d ds =>
      have e : (t d ρ).bind (u ds) = some ρ' := e
      cases ht : t d ρ with
      | none => rw [ht] at e; cases e
      | some ρ1 =>
        rw [ht] at e
        rw [List.length_cons, m2 ds ρ1 ρ' e]
def tgT (u : Tgs) : Tg := fun d ρ => match d with
  | .tuple ds => u ds ρ
  | _ => none
theorem dg_tup {es : List Expr} {u : Tgs} {ks : List Nat} {n k : Nat} {pos : Pos} (h : DGs F es u ks n) (hc : F.hot = false := by rfl) : DG F (.Tuple es k pos) (tgT u) ks := by
  obtain ⟨g, p, sg, l, m⟩ := h
  refine ⟨gTup F.K n g, fun i => by have z := pg_tup (pos := pos) (k := k) (F.calm hc i) (p i) (n := n) (l _).1 (l _).2; rw [F.hK i] at z; exact z, fun H0 hid0 s ρ ρ' d x S h e Q q => ?_⟩
  cases d with
  | tuple ds =>
    simp only [Mn] at h
    obtain ⟨a, xs, rfl, h2, h3⟩ := h
    exact ⟨a, xs, rfl, Evl.ex_t hide_ex h2, by rw [h3.length]; exact m ds ρ ρ' e, sg H0 hid0 s ρ ρ' ds xs S h3 e Q q⟩
  | none => cases e
  | bool _ => cases e
  | int _ => cases e
  | str _ => cases e
  | list _ => cases e
  | dict _ => cases e

/-! ### what is walked -/
structure Walks (K : PySem.W.Frag) (J : It) (B C : Hp) (ds : List D) : Prop where
  at_ : ∀ (hid : List Addr) (H : Hp), Wx B H → Wx C (hide hid H) → (∀ a ∈ hid, noT (H a) ≠ none) → ∀ (i : Nat) (d : D), ds[i]? = some d → J.go i H ∧ ∀ x H', J.yld i H x H' → Ex H H' ∧ Mn K (hide hid H') d x
  end_ : ∀ (hid : List Addr) (H : Hp), Wx B H → Wx C (hide hid H) → (∀ a ∈ hid, noT (H a) ≠ none) → J.stop ds.length H
/-- borrowed: while all stands; frozen: while what is not hidden stands -/
def Rb (m : Md) (hid : List Addr) (H : Hp) : Hp := match m with
  | .bo => hide [] H
  | _ => hide hid H
def SemI (F : Fam) (m : Md) (wi : TI) (gi : GA) : Prop :=
  ∀ (H0 : Hp) (hid0 : List Addr) (s : Sx) (ρ : Env), Sees F.K H0 hid0 F.O s ρ → ∀ R : It → Hp → Prop,
    (match gi ρ with
      | .ok ds => ∀ J H', Ex s.H H' → Walks F.K J (Rb m s.hid H') (hide s.hid H') ds → R J H'
      | .err c => ∀ H', Ex s.H H' → F.E (F.cl c) none H'
      | .stuck => False) → wi s.σ s.H R
def DI (F : Fam) (m : Md) (tg iter : Expr) (gi : GA) : Prop := ∃ wi, (∀ i, PI (F.X i) tg iter wi) ∧ SemI F m wi gi
theorem walk_list {B C : Hp} {a : Addr} {xs : List V} {ds : List D} (hB : B a = some (.lst xs)) (h : MnA K C ds xs) : Walks K (Itl K a) B C ds where
  at_ := fun hid H eB eC _ i d hd => by
    obtain ⟨v, hv, mv⟩ := h.get hd
    have hs : SqL K H a xs := SqL.of (eB _ _ hB)
    exact ⟨⟨xs, v, hs, hv⟩, fun x H' ⟨e, hx⟩ => by
      subst e
      have := hx xs hs
      rw [hv] at this
      cases this
      exact ⟨Ex.refl _, Mn.mono eC d v mv⟩⟩
  end_ := fun hid H eB eC _ => ⟨xs, SqL.of (eB _ _ hB), by rw [h.length]; exact Nat.le_refl _⟩
theorem walk_tup {B C : Hp} {a : Addr} {xs : List V} {ds : List D} (hC : SqT K C a xs) (h : MnA K C ds xs) : Walks K (Itt K a) B C ds where
  at_ := fun hid H eB eC _ i d hd => by
    obtain ⟨v, hv, mv⟩ := h.get hd
    have hs : SqT K H a xs := Evl.ex_t (eC.trans hide_ex) hC
    exact ⟨⟨xs, v, hs, hv⟩, fun x H' ⟨e, hx⟩ => by
      subst e
      have := hx xs hs
      rw [hv] at this
      cases this
      exact ⟨Ex.refl _, Mn.mono eC d v mv⟩⟩
  end_ := fun hid H eB eC _ => ⟨xs, Evl.ex_t (eC.trans hide_ex) hC, by rw [h.length]; exact Nat.le_refl _⟩
theorem walk_str {B C : Hp} {z : Str} : Walks K (Its z) B C (z.cps.toList.map fun c => .str ⟨#[c]⟩) where
  at_ := fun hid H eB eC _ i d hd => by
    rw [List.getElem?_map] at hd
    cases q : z.cps.toList[i]? with
    | none => rw [q] at hd; cases hd
    | some c =>
      rw [q] at hd
      cases hd
      have hi : i < z.cps.size := by
        have := (List.getElem?_eq_some_iff.mp q).1
        simpa using this
      refine ⟨hi, fun x H' ⟨e, c', hc, hx⟩ => ?_⟩
      subst e
      subst hx
      have : z.cps[i]? = some c := by simpa using q
      rw [this] at hc
      cases hc
      exact ⟨Ex.refl _, by simp [Mn]⟩
  end_ := fun hid H eB eC _ => by
    show z.cps.size ≤ _
    rw [List.length_map]
    simp
theorem walk_rng {B C : Hp} {lo : Int} {n : Nat} : Walks K (Itr lo n) B C ((List.range n).map fun i => .int (lo + (i : Nat))) where
  at_ := fun hid H eB eC _ i d hd => by
    rw [List.getElem?_map] at hd
    cases q : (List.range n)[i]? with
    | none => rw [q] at hd; cases hd
    | some c =>
      rw [q] at hd
      cases hd
      obtain ⟨h1, h2⟩ := List.getElem?_eq_some_iff.mp q
      rw [List.getElem_range] at h2
      subst h2
      have h1 : i < n := by simpa using h1
      refine ⟨h1, fun x H' ⟨e, hx⟩ => ?_⟩
      subst e
      subst hx
      exact ⟨Ex.refl _, by simp [Mn]⟩
  end_ := fun hid H eB eC _ => by
    show n ≤ _
    rw [List.length_map, List.length_range]
    exact Nat.le_refl _
theorem pi_alt {X : Cx} {tg l : Expr} {w w' : TI} (h : PI X tg l w) (h' : PI X tg l w') : PI X tg l (fun σ H R => w σ H R ∨ w' σ H R) := ⟨fun pins s σ H R I q => by
  rcases q with q | q
  · exact h.run pins s σ H R I q
  · exact h'.run pins s σ H R I q⟩
/-- a list, a tuple, a text -/
def iSeq (g : GE) : GA := fun ρ => (g ρ).bind fun d => match d with
  | .list ds => .ok ds
  | .tuple ds => .ok ds
  | .str z => .ok (z.cps.toList.map fun c => .str ⟨#[c]⟩)
  | _ => .stuck
theorem semi_seq {m : Md} {te : TE} {g : GE} (h : SemE F m te g) (hm : m ≠ .au) : SemI F m (fun σ H R => iList F.K te σ H R ∨ iTup F.K te σ H R ∨ iStr te σ H R) (iSeq g) := fun H0 hid0 s ρ S R q => by
  unfold iSeq at q
  cases hg : g ρ with
  | stuck => rw [hg] at q; exact q.elim
  | err c =>
    rw [hg, bind_err] at q
    refine .inl (h H0 hid0 s ρ S _ ?_)
    rw [hg]
    exact q
  | ok d =>
    rw [hg, bind_ok] at q
    cases d with
    | list ds =>
      refine .inl (h H0 hid0 s ρ S _ ?_)
      rw [hg]
      intro v H' e r
      have hb : ∃ a xs, v = .ref a ∧ Rb m s.hid H' a = some (.lst xs) ∧ MnA F.K (hide s.hid H') ds xs := by
        cases m with
        | au => exact (hm rfl).elim
        | bo =>
          obtain ⟨a, xs, e1, e2, e3⟩ := bo_list r
          exact ⟨a, xs, e1, hide_at (by simp) e2 (fun ps z => nomatch z), e3⟩
        | fz =>
          have r : Mn F.K (hide s.hid H') (.list ds) v := r
          simp only [Mn] at r
          exact r
      obtain ⟨a, xs, rfl, h1, h2⟩ := hb
      have hx : H' a = some (.lst xs) := by
        cases m with
        | au => exact hide_ex _ _ h1
        | bo => exact hide_ex _ _ h1
        | fz => exact hide_ex _ _ h1
      exact ⟨a, rfl, ⟨xs, SqL.of hx⟩, q _ _ e (walk_list h1 h2)⟩
    | tuple ds =>
      refine .inr (.inl (h H0 hid0 s ρ S _ ?_))
      rw [hg]
      intro v H' e r
      have hb : ∃ a xs, v = .ref a ∧ SqT F.K (hide s.hid H') a xs ∧ MnA F.K (hide s.hid H') ds xs := by
        cases m with
        | au => exact (hm rfl).elim
        | bo => exact bo_tup r
        | fz =>
          have r : Mn F.K (hide s.hid H') (.tuple ds) v := r
          simpa only [Mn] using r
      obtain ⟨a, xs, rfl, h1, h2⟩ := hb
      exact ⟨a, rfl, ⟨xs, Evl.ex_t hide_ex h1⟩, q _ _ e (walk_tup h1 h2)⟩
    | str z =>
      refine .inr (.inr (h H0 hid0 s ρ S _ ?_))
      rw [hg]
      intro v H' e r
      have hb : v = .str z := by
        cases m with
        | au => exact (hm rfl).elim
        | bo => exact bo_str r
        | fz => exact bo_str (rm_bo r)
      exact ⟨z, hb, q _ _ e walk_str⟩
    | dict ps => exact q.elim
    | none => exact q.elim
    | bool _ => exact q.elim
    | int _ => exact q.elim
theorem di_seq {m : Md} {tg iter : Expr} {g : GE} (h : DE F m iter g) (hm : m ≠ .au := by decide) : DI F m tg iter (iSeq g) := by
  obtain ⟨te, p, se⟩ := h
  refine ⟨_, fun i => ?_, semi_seq se hm⟩
  have h1 := pi_list (tg := tg) (p i)
  have h2 := pi_tup (tg := tg) (p i)
  rw [F.hK i] at h1 h2
  exact pi_alt h1 (pi_alt h2 (pi_str (p i)))
end
end DL
set_option Elab.async false
set_option linter.all false
set_option maxRecDepth 100000
set_option maxHeartbeats 4000000
namespace DL
open PySem PySem.Spec PyProof.Rows L2
variable [TabsC]
/-! ### comprehensions -/
def relN (sn names : List (Str × NameKind)) : List (Str × NameKind) := names.map fun (n, k) => if (k == .free && NameKind.beqF sn n) then (n, .cell) else (n, k)
where NameKind.beqF (sn : List (Str × NameKind)) (n : Str) : Bool := sn.lookup n == some .cell
def stoB (names : List (Str × NameKind)) (x : Str) : Bool := match names.lookup x with
  | some .local => true
  | some .cell => true
  | _ => false
def scOf (sn : List (Str × NameKind)) : Scope := { kind := .function, names := sn, isGenerator := false, isCoroutine := false, more := [] }
theorem blk_ok {X : Cx} {N : List Str} {sn : List (Str × NameKind)} {scope : Scope} {own : List (Str × Nat)} (hN : X.N = N) (hs : X.env.scope.names = sn) (h : blkC N (scOf sn) scope own = true) : BlkOk X.N X.env.scope scope own := by
  have b := blkOk_by h
  subst hN
  exact ⟨b.kind, b.uniq, b.ix, fun y hy e => by rw [hs]; exact b.free y hy e, b.own⟩
def blkFam (F : Fam) (scope : Scope) (hk : scope.kind = .function) : Fam where
  ι := F.ι × Shared × Hp × Addr × List (Str × Addr) × List Addr
  X := fun p => (F.X p.1).blk p.2.1 p.2.2.1 scope (compEnvC scope p.2.2.2.2.1 p.2.2.2.1 (F.X p.1).env) p.2.2.2.2.2
  P := F.P
  w := F.w
  K := F.K
  mg := F.mg
  base := F.base
  N := F.N
  sn := relN F.sn scope.names
  E := L2.E0
  cl := F.cl
  O := F.O
  lv := F.lv
  hP := fun p => F.hP p.1
  hw := fun p => F.hw p.1
  hK := fun p => F.hK p.1
  hmg := fun p => F.hmg p.1
  hbase := fun p => F.hbase p.1
  hN := fun p => F.hN p.1
  hsn := fun p => by
    show (relS scope (F.X p.1).env.scope).names = _
    unfold relS relN relN.NameKind.beqF
    rw [F.hki, F.hsn]
    simp
  hot := F.hot
  calm := fun h p => F.calm h p.1
  nd := F.nd
  room := fun p => F.room p.1
  hd := fun h p => F.hd h p.1
  own := fun p => PassesOwn.never
  pas := fun p => by
    have z := passL (X := (F.X p.1).blk p.2.1 p.2.2.1 scope (compEnvC scope p.2.2.2.2.1 p.2.2.2.1 (F.X p.1).env) p.2.2.2.2.2)
    rw [show ((F.X p.1).blk p.2.1 p.2.2.1 scope (compEnvC scope p.2.2.2.2.1 p.2.2.2.1 (F.X p.1).env) p.2.2.2.2.2).prog = F.P from F.hP p.1, show ((F.X p.1).blk p.2.1 p.2.2.1 scope (compEnvC scope p.2.2.2.2.1 p.2.2.2.1 (F.X p.1).env) p.2.2.2.2.2).w = F.w from F.hw p.1] at z
    exact z
  hki := fun p => hk
  sto := stoB scope.names
  hsto := fun p x h => by
    unfold stoB at h
    have key : ∀ k, scope.names.lookup x = some k → k ≠ .free → (relS scope (F.X p.1).env.scope).names.lookup x = some k := fun k e n => lookup_relS_keep n e
    split at h
    · rename_i e
      have z := key _ e (by decide)
      exact ⟨.inl z, .inr z⟩
    · rename_i e
      have z := key _ e (by decide)
      refine ⟨.inr z, .inl ?_⟩
      show (scope.names.lookup x == some NameKind.cell) = true
      rw [e]
      rfl
    · cases h
/-- one turn: what it adds -/
def lcStep (tg : Tg) (tt : GT) (te : GE) (ρw : Env) (d : D) : Out (List D) :=
  match tg d ρw with
  | none => .stuck
  | some ρ2 => match tt ρ2 with
    | .ok true => match te ρ2 with
      | .ok y => .ok [y]
      | _ => .stuck
    | .ok false => .ok []
    | _ => .stuck
def lcAll (f : D → Out (List D)) : List D → Out (List D)
  | [] => .ok []
  | d :: ds => (f d).bind fun a => (lcAll f ds).bind fun r => .ok (a ++ r)
def wipeE (ρ : Env) (vs : List Nat) : Env := match vs with
  | [] => ρ
  | v :: vs => (wipeE ρ vs).set v none
def eLc (gi : GA) (tg : Tg) (tt : GT) (te : GE) (vs : List Nat) : GE := fun ρ => (gi ρ).bind fun ds => if ds.length ≤ 1000000 then (lcAll (lcStep tg tt te (wipeE ρ vs)) ds).bind fun r => .ok (.list r) else .stuck
def gYes : GT := fun _ => .ok true
section
variable {F : Fam} {K : PySem.W.Frag} {H0 : Hp} {hid0 : List Addr} {O : Nat → Bool} {s : Sx} {ρ : Env}
theorem wipe_get : ∀ (σ : L2.St) (vs : List Nat) (j : Nat), (wipe σ vs)[j]? = if j ∈ vs ∧ j < σ.length then some none else σ[j]?
  | σ, [], j => by simp [wipe]
  | σ, v :: vs, j => by
    unfold wipe
    by_cases h : v = j
    · subst h
      by_cases hl : v < σ.length
      · rw [List.getElem?_set_self (by rw [wipe_length]; exact hl), if_pos ⟨List.mem_cons_self, hl⟩]
      · rw [if_neg (fun z => hl z.2), List.getElem?_eq_none (by rw [List.length_set, wipe_length]; omega), List.getElem?_eq_none (by omega)]
    · rw [List.getElem?_set_ne h, wipe_get σ vs j]
      have : (j ∈ v :: vs) ↔ j ∈ vs := by simp [Ne.symm h]
      simp only [this]
theorem wipe_same {σ σ' : L2.St} {vs js : List Nat} (hl : σ'.length = σ.length) (h : ∀ j, j ∉ js → σ'[j]? = σ[j]?) (hs : ∀ j ∈ js, j ∈ vs) : wipe σ' vs = wipe σ vs := by
  apply List.ext_getElem?
  intro j
  rw [wipe_get, wipe_get, hl]
  by_cases c : j ∈ vs ∧ j < σ.length
  · rw [if_pos c, if_pos c]
  · rw [if_neg c, if_neg c]
    by_cases hj : j ∈ js
    · have : ¬ j < σ.length := fun z => c ⟨hs j hj, z⟩
      rw [List.getElem?_eq_none (by omega), List.getElem?_eq_none (by omega)]
    · exact h j hj
theorem wipeE_length : ∀ (ρ : Env) (vs : List Nat), (wipeE ρ vs).length = ρ.length
  | ρ, [] => rfl
  | ρ, v :: vs => by unfold wipeE; rw [List.length_set, wipeE_length ρ vs]
theorem wipeE_some : ∀ {ρ : Env} {vs : List Nat} {j : Nat} {d : D}, (wipeE ρ vs)[j]? = some (some d) → ρ[j]? = some (some d) ∧ j ∉ vs
  | ρ, [], j, d, h => ⟨h, by simp⟩
  | ρ, v :: vs, j, d, h => by
    unfold wipeE at h
    by_cases hj : v = j
    · subst hj
      by_cases hl : v < (wipeE ρ vs).length
      · rw [List.getElem?_set_self hl] at h; cases h
      · rw [List.getElem?_eq_none (by rw [List.length_set]; omega)] at h; cases h
    · rw [List.getElem?_set_ne hj] at h
      obtain ⟨h1, h2⟩ := wipeE_some h
      exact ⟨h1, by simp only [List.mem_cons, not_or]; exact ⟨Ne.symm hj, h2⟩⟩
theorem Sees.wiped (S : Sees K H0 hid0 O s ρ) (vs : List Nat) : Sees K H0 hid0 O { s with σ := wipe s.σ vs } (wipeE ρ vs) where
  len := by
    show (wipe s.σ vs).length = _
    rw [wipe_length, wipeE_length]
    exact S.len
  ex0 := S.ex0
  sub := S.sub
  knd := S.knd
  dom0 := S.dom0
  tb0 := S.tb0
  fz := fun j d h1 h2 => by
    obtain ⟨h2, h3⟩ := wipeE_some h2
    obtain ⟨v, a, b⟩ := S.fz j d h1 h2
    refine ⟨v, ?_, b⟩
    show (wipe s.σ vs)[j]? = _
    rw [wipe_get, if_neg (fun z => h3 z.1)]
    exact a
  ow := fun j d h1 h2 => by
    obtain ⟨h2, h3⟩ := wipeE_some h2
    obtain ⟨v, a, b⟩ := S.ow j d h1 h2
    refine ⟨v, ?_, b⟩
    show (wipe s.σ vs)[j]? = _
    rw [wipe_get, if_neg (fun z => h3 z.1)]
    exact a
  oh := S.oh
  inj := S.inj
theorem lcAll_at {f : D → Out (List D)} : ∀ {ds : List D} {r : List D}, lcAll f ds = .ok r → ∀ {i : Nat} {d : D}, ds[i]? = some d → ∃ acc a, lcAll f (ds.take i) = .ok acc ∧ f d = .ok a ∧ lcAll f (ds.take (i + 1)) = .ok (acc ++ a)
  | [], _, _, _, _, h => by simp at h
  | x :: ds, r, hr, 0, d, h => by
    have e : x = d := by simpa using h
    subst e
    unfold lcAll at hr
    cases hf : f x with
    | stuck => rw [hf] at hr; cases hr
    | err c => rw [hf] at hr; cases hr
    | ok a => exact ⟨[], a, rfl, rfl, by simp [lcAll, hf]⟩
  | x :: ds, r, hr, i + 1, d, h => by
    unfold lcAll at hr
    cases hf : f x with
    | stuck => rw [hf] at hr; cases hr
    | err c => rw [hf] at hr; cases hr
    | ok a =>
      rw [hf, bind_ok] at hr
      cases hq : lcAll f ds with
      | stuck => rw [hq] at hr; cases hr
      | err c => rw [hq] at hr; cases hr
      | ok r' =>
        obtain ⟨acc, b, h1, h2, h3⟩ := lcAll_at hq (i := i) (d := d) (by simpa using h)
        exact ⟨a ++ acc, b, by simp [lcAll, hf, h1], h2, by rw [List.take_succ_cons]; simp [lcAll, hf, h3, List.append_assoc]⟩
theorem lcStep_le {tg : Tg} {tt : GT} {te : GE} {ρw : Env} {d : D} {a : List D} (h : lcStep tg tt te ρw d = .ok a) : a.length ≤ 1 := by
  unfold lcStep at h
  split at h
  · cases h
  · split at h
    · split at h
      · cases h; simp
      · cases h
    · cases h; simp
    · cases h
theorem lcAll_le {f : D → Out (List D)} (hf : ∀ d a, f d = .ok a → a.length ≤ 1) : ∀ {ds : List D} {r : List D}, lcAll f ds = .ok r → r.length ≤ ds.length
  | [], r, h => by cases h; simp
  | x :: ds, r, h => by
    unfold lcAll at h
    cases q : f x with
    | stuck => rw [q] at h; cases h
    | err c => rw [q] at h; cases h
    | ok a =>
      rw [q, bind_ok] at h
      cases q2 : lcAll f ds with
      | stuck => rw [q2] at h; cases h
      | err c => rw [q2] at h; cases h
      | ok r' =>
        rw [q2, bind_ok] at h
        cases h
        have h1 := hf x a q
        have h2 := lcAll_le hf q2
        rw [List.length_append, List.length_cons]
        omega
theorem hide_cons {D : Addr} {hid : List Addr} {H : Hp} (h : H D = none) : hide (D :: hid) H = hide hid H := by
  funext b
  unfold hide
  by_cases hb : b = D
  · subst hb
    rw [if_pos List.mem_cons_self, h]
    split <;> rfl
  · simp [hb]
theorem sem_lc {m : Md} {wi : TI} {g : TG} {t : TT} {te : TE} {gi : GA} {tg : Tg} {tt : GT} {ge : GE} {js : List Nat} {vs : List Nat} {scope : Scope} {hk : scope.kind = .function}
    (hi : SemI F m wi gi) (hg : SemG (blkFam F scope hk) g tg js) (ht : SemT (blkFam F scope hk) t tt) (he : SemE (blkFam F scope hk) .fz te ge) (hjs : ∀ j ∈ js, j ∈ vs) : SemE F .au (tLc wi g t te vs) (eLc gi tg tt ge vs) := fun H0 hid0 s ρ S Q q => by
  refine hi H0 hid0 s ρ S _ ?_
  unfold eLc at q
  cases hds : gi ρ with
  | stuck => rw [hds] at q; exact q.elim
  | err c => rw [hds, bind_err] at q; exact q
  | ok ds =>
    rw [hds, bind_ok] at q
    by_cases hlen : ds.length ≤ 1000000
    case neg => rw [if_neg hlen] at q; exact q.elim
    rw [if_pos hlen] at q
    cases hr : lcAll (lcStep tg tt ge (wipeE ρ vs)) ds with
    | stuck => rw [hr] at q; exact q.elim
    | err c =>
      -- no error comes of a comprehension
      exfalso
      have : ∀ ds c, lcAll (lcStep tg tt ge (wipeE ρ vs)) ds ≠ .err c := by
        intro ds
        induction ds with
        | nil => intro c h; cases h
        | cons d ds ih =>
          intro c h
          unfold lcAll at h
          cases q1 : lcStep tg tt ge (wipeE ρ vs) d with
          | stuck => rw [q1] at h; cases h
          | err c' =>
            unfold lcStep at q1
            split at q1
            · cases q1
            · split at q1
              · split at q1 <;> cases q1
              · cases q1
              · cases q1
          | ok a =>
            rw [q1, bind_ok] at h
            cases q2 : lcAll (lcStep tg tt ge (wipeE ρ vs)) ds with
            | stuck => rw [q2] at h; cases h
            | err c' => exact ih c' q2
            | ok r' => rw [q2] at h; cases h
      exact this ds c hr
    | ok r =>
      rw [hr, bind_ok] at q
      intro J H1 e1 W Dl hD
      have S1 := S.ext e1
      refine ⟨fun i n H => n = ds.length - i ∧ i ≤ ds.length ∧ Ex H1 H ∧ ∃ acc ys, lcAll (lcStep tg tt ge (wipeE ρ vs)) (ds.take i) = .ok acc ∧ H Dl = some (.lst ys) ∧ MnA F.K (hide (Dl :: s.hid) H) acc ys,
        ⟨ds.length, by simp, Nat.zero_le _, Ex.new hD, [], [], rfl, upd_same, by simp [MnA]⟩, ?_⟩
      rintro i n H ⟨hn, hi2, eH, acc, ys, hacc, hDl, hmn⟩
      have hB : Wx (Rb m s.hid H1) H := by
        cases m with
        | bo => exact (hide_mono eH).trans hide_ex
        | fz => exact (hide_mono eH).trans hide_ex
        | au => exact (hide_mono eH).trans hide_ex
      have hC : Wx (hide s.hid H1) (hide (Dl :: s.hid) H) := by
        rw [← hide_cons hD]
        exact hide_mono eH
      have hknd : ∀ a ∈ Dl :: s.hid, IsC (H a) := fun a ha => by
        rcases List.mem_cons.mp ha with rfl | ha
        · rw [hDl]; trivial
        · exact knd_ex eH S1.knd a ha
      by_cases hlt : i < ds.length
      · have hd : ds[i]? = some ds[i] := List.getElem?_eq_getElem hlt
        obtain ⟨acc', a, h1, h2, h3⟩ := lcAll_at hr hd
        rw [hacc] at h1
        cases h1
        obtain ⟨go, yl⟩ := W.at_ (Dl :: s.hid) H hB hC (fun a ha => (hknd a ha).ne) i _ hd
        refine .inr ⟨go, fun H' => Ex H1 H' ∧ ∃ ys', H' Dl = some (.lst ys') ∧ MnA F.K (hide (Dl :: s.hid) H') (acc ++ a) ys', fun H' ⟨a1, ys', a2, a3⟩ => ⟨n - 1, by omega, by omega, by omega, a1, _, ys', h3, a2, a3⟩, fun x H2 hy => ?_⟩
        obtain ⟨e2, mx⟩ := yl x H2 hy
        have hDl2 := e2.l hDl
        -- the block's state
        have SB : Sees F.K H0 hid0 F.O { hid := Dl :: s.hid, own := s.own, σ := wipe s.σ vs, H := H2 } (wipeE ρ vs) := by
          have a1 := (S1.hides (o := .lst []) hD trivial).wiped vs
          refine ⟨a1.len, S.ex0.trans ((e1.trans eH).trans e2), a1.sub, knd_ex e2 hknd, a1.dom0, a1.tb0, fun j d b1 b2 => ?_, fun j d b1 b2 => ?_, a1.oh, a1.inj⟩
          · obtain ⟨v, c1, c2⟩ := (S1.wiped vs).fz j d b1 b2
            exact ⟨v, c1, Mn.mono (hC.trans (hide_mono e2)) d v c2⟩
          · obtain ⟨b, c1, c2, c3⟩ := (S1.wiped vs).ow j d b1 b2
            refine ⟨b, c1, c2, ?_⟩
            cases d with
            | list ds =>
              obtain ⟨xs, q1, q2⟩ := c3
              exact ⟨xs, e2.l (eH.l q1), MnA.mono ((hide_new (hid := b :: s.hid) (new_of hD) (eH.trans e2)).trans hide_swap) ds xs q2⟩
            | dict ps =>
              obtain ⟨xs, q1, q2⟩ := c3
              exact ⟨xs, e2.d (eH.d q1), MnK.mono ((hide_new (hid := b :: s.hid) (new_of hD) (eH.trans e2)).trans hide_swap) ps xs q2⟩
            | none => exact c3.elim
            | bool _ => exact c3.elim
            | int _ => exact c3.elim
            | str _ => exact c3.elim
            | tuple _ => exact c3.elim
        unfold lcStep at h2
        cases htg : tg ds[i] (wipeE ρ vs) with
        | none => rw [htg] at h2; cases h2
        | some ρ2 =>
          rw [htg] at h2
          refine hg H0 hid0 _ _ ρ2 _ x SB mx htg _ fun σ2 S2 L2 K2 => ?_
          refine ⟨?_, ht H0 hid0 { hid := Dl :: s.hid, own := s.own, σ := σ2, H := H2 } ρ2 S2 _ ?_⟩
          · have z := wipe_same (vs := vs) L2 K2 hjs
            rw [z]
            exact wipe_same (js := vs) (by rw [wipe_length]) (fun j hj => by rw [wipe_get, if_neg (fun z => hj z.1)]) (fun _ h => h)
          · dsimp only at h2
            cases htt : tt ρ2 with
            | stuck => rw [htt] at h2; cases h2
            | err c => rw [htt] at h2; cases h2
            | ok b =>
              rw [htt] at h2
              intro H3 e3
              cases b with
              | false =>
                cases h2
                show Ex H1 H3 ∧ _
                exact ⟨(eH.trans e2).trans e3, ys, e3.l hDl2, by rw [List.append_nil]; exact MnA.mono (hide_mono (e2.trans e3)) _ _ hmn⟩
              | true =>
                dsimp only at h2
                show te σ2 H3 _
                refine he H0 hid0 { hid := Dl :: s.hid, own := s.own, σ := σ2, H := H3 } ρ2 (S2.ext e3) _ ?_
                cases hge : ge ρ2 with
                | stuck => rw [hge] at h2; cases h2
                | err c => rw [hge] at h2; cases h2
                | ok y =>
                  rw [hge] at h2
                  cases h2
                  intro v H4 e4 r4
                  have r4 : Mn F.K (hide (Dl :: s.hid) H4) y v := r4
                  have hDl4 := e4.l (e3.l hDl2)
                  have hle := lcAll_le (fun d a => lcStep_le) hacc
                  refine ⟨ys, hDl4, ?_, ?_, _, upd_same, ?_⟩
                  · rw [hmn.length]
                    refine Nat.lt_of_le_of_lt hle ?_
                    rw [List.length_take]
                    exact Nat.lt_of_lt_of_le (Nat.lt_of_le_of_lt (Nat.min_le_left _ _) hlt) (small_line hlen)
                  · exact Ex.mut (((eH.trans e2).trans e3).trans e4) (new_of hD) (by rw [hDl4]; trivial)
                  · rw [hide_upd List.mem_cons_self]
                    refine (MnA.mono (hide_mono ((e2.trans e3).trans e4)) _ _ hmn).append ?_
                    simp only [MnA]
                    exact ⟨v, [], rfl, r4, rfl⟩
      · have hi3 : i = ds.length := by omega
        subst hi3
        refine .inl ⟨W.end_ (Dl :: s.hid) H hB hC fun a ha => (hknd a ha).ne, ?_⟩
        rw [List.take_length, hr] at hacc
        cases hacc
        refine q (.ref Dl) H (e1.trans eH) (rm_back e1 ?_)
        unfold Rm
        dsimp only
        refine (if_pos (show isCon (PyData.list r) = true from rfl)).mpr ⟨Dl, rfl, new_of hD, ys, hDl, hmn⟩
/-- a clause's tests -/
def DTs (F : Fam) (ifs : List Expr) (g : GT) : Prop := ∃ tt, (∀ i, PTs (F.X i) ifs tt) ∧ SemT F tt g
theorem dts_nil : DTs F [] gYes := ⟨_, fun _ => pts_nil, fun H0 hid0 s ρ S Q q => q s.H (Ex.refl _)⟩
theorem dts_one {e : Expr} {g : GT} (h : DT F e g) : DTs F [e] g := ⟨_, fun i => pts_one (h.choose_spec.1 i), h.choose_spec.2⟩
theorem de_lc {m : Md} {elt tg iter : Expr} {ifs : List Expr} {scope : Scope} {pos : Pos} {gi : GA} {tgd : Tg} {tt : GT} {ge : GE} {js : List Nat} (own : List (Str × Nat)) (hk : scope.kind = .function)
    (ok : blkC F.N (scOf F.sn) scope own = true) (hi : DI F m tg iter gi) (hg : DG (blkFam F scope hk) tg tgd js) (ht : DTs (blkFam F scope hk) ifs tt) (he : DE (blkFam F scope hk) .fz elt ge)
    (hjs : (js.all fun j => (own.map (·.2)).contains j) = true) (hs : ∀ env x, foldedSetIterable iter env x = pure x := by intro _ _; rfl) (hc : F.hot = false := by rfl) : DE F .au (.ListComp elt [⟨tg, iter, ifs, 0⟩] scope pos) (eLc gi tgd tt ge (own.map (·.2))) := by
  obtain ⟨wi, pi, si⟩ := hi
  obtain ⟨g, pg, sg⟩ := hg
  obtain ⟨t, pt, st⟩ := ht
  obtain ⟨te, pe, se⟩ := he
  refine ⟨tLc wi g t te (own.map (·.2)), fun i => pe_lc (F.calm hc i) (by rw [F.hN]; exact F.nd) (pi i) (blk_ok (F.hN i) (F.hsn i) ok) (fun s H C cl fp => pg (i, s, H, C, cl, fp)) (fun s H C cl fp => pt (i, s, H, C, cl, fp)) (fun s H C cl fp => pe (i, s, H, C, cl, fp)) (hs _), sem_lc si sg st se fun j hj => ?_⟩
  rw [List.all_eq_true] at hjs
  have := hjs j hj
  simpa using this
end
end DL
set_option Elab.async false
set_option linter.all false
set_option maxRecDepth 100000
set_option maxHeartbeats 4000000
namespace DL
open PySem PySem.Spec PyProof.Rows L2
variable [TabsC]
section
variable {F : Fam} {K : PySem.W.Frag}
/-! ### calls by values -/
def eCl (f : List D → Option D) (a : GA) : GE := fun ρ => (a ρ).bind fun ds => lift (f ds)
def CallS (K : PySem.W.Frag) (m : Md) (r : List V → Hp → VK → Prop) (f : List D → Option D) : Prop := ∀ (hid : List Addr) (H : Hp) (ds : List D) (z : D) (vs : List V) (Q : VK), (∀ a ∈ hid, IsC (H a)) → RmA K .bo hid H H ds vs → f ds = some z →
  (∀ v H', Ex H H' → Rm K m hid H H' z v → Q v H') → r vs H Q
theorem rma_at {hid : List Addr} {H1 H H' : Hp} : ∀ {ds : List D} {vs : List V}, RmA K .bo hid H1 H' ds vs → RmA K .bo hid H H' ds vs
  | _, _, .nil => .nil
  | _, _, .cons h t => .cons h (rma_at t)
theorem sem_cl {m : Md} {r : List V → Hp → VK → Prop} {f : List D → Option D} {ta : TA} {ga : GA} (h : SemA F .bo ta ga) (hr : CallS F.K m r f) : SemE F m (tCB r ta) (eCl f ga) := fun H0 hid0 s ρ S Q q => by
  refine h H0 hid0 s ρ S _ ?_
  unfold eCl at q
  split
  · rename_i ds hd
    intro vs H1 e1 r1
    rw [hd, bind_ok] at q
    cases hf : f ds with
    | none => rw [hf] at q; exact q.elim
    | some z =>
      rw [hf] at q
      exact hr s.hid H1 ds z vs Q (knd_ex e1 S.knd) (rma_at r1) hf fun v' H' e' r' => q v' H' (e1.trans e') (rm_back e1 r')
  · rename_i c hd
    rw [hd, bind_err] at q
    exact q
  · rename_i hd
    rw [hd, bind_stuck] at q
    exact q
theorem CallS.or1 {m : Md} {r r' : List V → Hp → VK → Prop} {f f' : List D → Option D} (h : CallS K m r f) (h' : CallS K m r' f') : CallS K m (fun xs H Q => r xs H Q ∨ r' xs H Q) fun ds => (f ds).or (f' ds) := fun hid H ds z vs Q k rs hf q => by
  have hf : (f ds).or (f' ds) = some z := hf
  cases hq : f ds with
  | some z' =>
    rw [hq] at hf
    exact .inl (h hid H ds z vs Q k rs (by rw [hq]; exact hf) q)
  | none =>
    rw [hq] at hf
    exact .inr (h' hid H ds z vs Q k rs hf q)
theorem callR0 {f : Value} {r : PySem.W.Frag → List V → Hp → VK → Prop} (h : ∀ X : Cx, CallR X f (r X.K)) (i : F.ι) : CallR (F.X i) f (r F.K) := by
  have z := h (F.X i)
  rw [F.hK i] at z
  exact z
theorem callR {f : Value} {r : PySem.W.Frag → List V → Hp → VK → Prop} (h : ∀ X : Cx, X.calm = true → CallR X f (r X.K)) (hc : F.hot = false) (i : F.ι) : CallR (F.X i) f (r F.K) := by
  have z := h (F.X i) (F.calm hc i)
  rw [F.hK i] at z
  exact z
theorem de_callB {m : Md} {id : String} {x : Str} {r : List V → Hp → VK → Prop} {f : List D → Option D} {e : Expr} {es : List Expr} {ga : GA} {p pos : Pos} (hc : ∀ i, CallR (F.X i) (.builtin id) r) (hs : CallS F.K m r f) (hm : F.mg x = none) (hv : bootBuiltins x = some (.builtin id)) (ha : DA F .bo (e :: es) ga)
    (hg : F.sn.lookup x = some .globalImplicit := by rfl) (hn : x ≠ "__name__" := by decide) (hdb : (x == ("__debug__" : Str)) = false := by decide)
    (he : ∀ env, starEach (e :: es) env = (false, eval e env) :: starEach es env := by intro _; rfl) (hpl : ∀ env, (backTo pos (starEach es env)).any (·.1) = false := by intro _; rfl) : DE F m (.Call (.Name x p) (e :: es) [] pos) (eCl f ga) :=
  ⟨_, fun i => pe_callB (hc i) (gl_of hg i) (by rw [F.hmg]; exact hm) hv (ha.choose_spec.1 i) hn hdb (he _) (hpl _), sem_cl ha.choose_spec.2 hs⟩
theorem de_callT {m : Md} {T : String} {x : Str} {r : List V → Hp → VK → Prop} {f : List D → Option D} {e : Expr} {es : List Expr} {ga : GA} {p pos : Pos} (hc : ∀ i, CallR (F.X i) (.type T) r) (hs : CallS F.K m r f) (hm : F.mg x = none) (hv : bootBuiltins x = some (.type T)) (ha : DA F .bo (e :: es) ga)
    (hg : F.sn.lookup x = some .globalImplicit := by rfl) (hn : x ≠ "__name__" := by decide) (hdb : (x == ("__debug__" : Str)) = false := by decide)
    (he : ∀ env, starEach (e :: es) env = (false, eval e env) :: starEach es env := by intro _; rfl) (hpl : ∀ env, (backTo pos (starEach es env)).any (·.1) = false := by intro _; rfl) : DE F m (.Call (.Name x p) (e :: es) [] pos) (eCl f ga) :=
  ⟨_, fun i => pe_callTy (hc i) (gl_of hg i) (by rw [F.hmg]; exact hm) hv (ha.choose_spec.1 i) hn hdb (he _) (hpl _), sem_cl ha.choose_spec.2 hs⟩
theorem rma1 {m : Md} {hid : List Addr} {H H' : Hp} {d : D} {vs : List V} (h : RmA K m hid H H' [d] vs) : ∃ v, vs = [v] ∧ Rm K m hid H H' d v := by
  cases h with
  | cons h t => cases t; exact ⟨_, rfl, h⟩
theorem rma2 {m : Md} {hid : List Addr} {H H' : Hp} {d e : D} {vs : List V} (h : RmA K m hid H H' [d, e] vs) : ∃ v u, vs = [v, u] ∧ Rm K m hid H H' d v ∧ Rm K m hid H H' e u := by
  cases h with
  | cons h t => cases t with
    | cons h' t => cases t; exact ⟨_, _, rfl, h, h'⟩
/-- one argument -/
def f1 (f : D → Option D) : List D → Option D
  | [d] => f d
  | _ => none
/-- len -/
def dLen : D → Option D
  | .list ds => some (.int ds.length)
  | .tuple ds => some (.int ds.length)
  | .str x => if x.length ≤ 1000000 then some (.int x.length) else none
  | .dict [(.none, .list ds)] => some (.int ds.length)
  | .dict [(.bool _, _)] => none
  | .dict ps => some (.int ps.length)
  | _ => none
theorem MnK.length {H : Hp} : ∀ {ps : List (D × D)} {kvs : List (Key × V)}, MnK K H ps kvs → kvs.length = ps.length
  | [], kvs, h => by
    simp only [MnK] at h
    subst h
    rfl
  | (k, d) :: ps, kvs, h => by
    simp only [MnK] at h
    obtain ⟨q, v, r, rfl, _, _, h3⟩ := h
    simp [MnK.length h3]
theorem calls_len {m : Md} : CallS K m (fun xs H Q => (∃ x n, xs = [x] ∧ LenV K x H n ∧ Q (.int n) H) ∨ ∃ a kvs, xs = [V.ref a] ∧ H a = some (.dK kvs) ∧ Q (.int kvs.length) H) (f1 dLen) := fun hid H ds z vs Q k rs hf q => by
  match ds, hf with
  | [d], hf =>
    obtain ⟨v, rfl, r⟩ := rma1 rs
    have hf : dLen d = some z := hf
    cases d with
    | list ds =>
      cases hf
      obtain ⟨a, xs, rfl, h1, h2⟩ := bo_list r
      rw [← h2.length] at q
      exact .inl ⟨_, _, rfl, .inl ⟨xs, SqL.of h1, rfl⟩, q _ _ (Ex.refl _) rm_int⟩
    | tuple ds =>
      cases hf
      obtain ⟨a, xs, rfl, h1, h2⟩ := bo_tup r
      rw [← h2.length] at q
      exact .inl ⟨_, _, rfl, .inr ⟨xs, Evl.ex_t hide_ex h1, rfl⟩, q _ _ (Ex.refl _) rm_int⟩
    | str x =>
      unfold dLen at hf
      dsimp only at hf
      split at hf
      · rename_i hl
        cases hf
        have := bo_str r
        subst this
        exact .inl ⟨_, _, rfl, ⟨small_line hl, rfl⟩, q _ _ (Ex.refl _) rm_int⟩
      · cases hf
    | dict ps =>
      rcases bo_dict r with ⟨a, kvs, rfl, h1, h2⟩ | ⟨a, ns, rfl, h1, rfl⟩ | ⟨b, d, rfl⟩
      · have hz : z = .int ps.length := by
          unfold dLen at hf
          split at hf
          · rename_i e; cases e
          · rename_i e; cases e
          · rename_i e; cases e
          · rename_i e
            cases e
            simp only [MnK] at h2
            obtain ⟨q', _, _, _, hk, _⟩ := h2
            cases q' <;> simp [kD] at hk
          · cases hf
          · rename_i e; cases e; cases hf; rfl
          · cases hf
        subst hz
        rw [← h2.length] at q
        exact .inr ⟨a, kvs, rfl, h1, q _ _ (Ex.refl _) rm_int⟩
      · cases hf
        refine .inl ⟨_, _, rfl, .inl ⟨_, h1, rfl⟩, ?_⟩
        have e : ((ns.map V.int).length : Int) = ((ns.map PyData.int).length : Int) := by simp
        rw [e]
        exact q _ _ (Ex.refl _) rm_int
      · cases hf
    | none => cases hf
    | bool _ => cases hf
    | int _ => cases hf
theorem de_len {m ma : Md} {e : Expr} {g : GE} {p pos : Pos} (hm : F.mg "len" = none) (h : DE F ma e g) (hg : F.sn.lookup ("len" : Str) = some .globalImplicit := by rfl)
    (he : ∀ env, starEach [e] env = [(false, eval e env)] := by intro _; rfl) : DE F m (.Call (.Name "len" p) [e] [] pos) (eCl (f1 dLen) (aCons g aNil)) :=
  de_callB (fun i => (callR0 (r := fun K xs H Q => ∃ x n, xs = [x] ∧ LenV K x H n ∧ Q (.int n) H) (fun X => call_len) i).or call_lenD) calls_len hm PySem.boot_len (da_cons (de_any h) da_nil he) hg (by decide) (by decide) he (by intro _; rfl)
/-- a sum, all, any -/
def boolsOf : List D → Option (List Bool)
  | [] => some []
  | .bool b :: ds => (boolsOf ds).map (b :: ·)
  | _ => none
theorem boolsOf_eq : ∀ {ds : List D} {bs : List Bool}, boolsOf ds = some bs → ds = bs.map .bool
  | [], bs, h => by cases h; rfl
  | .bool b :: ds, bs, h => by
    unfold boolsOf at h
    cases q : boolsOf ds with
    | none => rw [q] at h; cases h
    | some r =>
      rw [q] at h
      cases h
      rw [boolsOf_eq q]
      rfl
  | .none :: ds, bs, h => by cases h
  | .int _ :: ds, bs, h => by cases h
  | .str _ :: ds, bs, h => by cases h
  | .list _ :: ds, bs, h => by cases h
  | .tuple _ :: ds, bs, h => by cases h
  | .dict _ :: ds, bs, h => by cases h
@[simp] theorem boolsOf_map : ∀ bs : List Bool, boolsOf (bs.map .bool) = some bs
  | [] => rfl
  | b :: bs => by simp [boolsOf, boolsOf_map bs]
def intsOf : List D → Option (List Int)
  | [] => some []
  | .int b :: ds => (intsOf ds).map (b :: ·)
  | _ => none
theorem intsOf_eq : ∀ {ds : List D} {bs : List Int}, intsOf ds = some bs → ds = bs.map .int
  | [], bs, h => by cases h; rfl
  | .int b :: ds, bs, h => by
    unfold intsOf at h
    cases q : intsOf ds with
    | none => rw [q] at h; cases h
    | some r =>
      rw [q] at h
      cases h
      rw [intsOf_eq q]
      rfl
  | .none :: ds, bs, h => by cases h
  | .bool _ :: ds, bs, h => by cases h
  | .str _ :: ds, bs, h => by cases h
  | .list _ :: ds, bs, h => by cases h
  | .tuple _ :: ds, bs, h => by cases h
  | .dict _ :: ds, bs, h => by cases h
@[simp] theorem intsOf_map : ∀ bs : List Int, intsOf (bs.map .int) = some bs
  | [] => rfl
  | b :: bs => by simp [intsOf, intsOf_map bs]
def strsOf : List D → Option (List Str)
  | [] => some []
  | .str b :: ds => (strsOf ds).map (b :: ·)
  | _ => none
theorem strsOf_eq : ∀ {ds : List D} {bs : List Str}, strsOf ds = some bs → ds = bs.map .str
  | [], bs, h => by cases h; rfl
  | .str b :: ds, bs, h => by
    unfold strsOf at h
    cases q : strsOf ds with
    | none => rw [q] at h; cases h
    | some r =>
      rw [q] at h
      cases h
      rw [strsOf_eq q]
      rfl
  | .none :: ds, bs, h => by cases h
  | .bool _ :: ds, bs, h => by cases h
  | .int _ :: ds, bs, h => by cases h
  | .list _ :: ds, bs, h => by cases h
  | .tuple _ :: ds, bs, h => by cases h
  | .dict _ :: ds, bs, h => by cases h
@[simp] theorem strsOf_map : ∀ bs : List Str, strsOf (bs.map .str) = some bs
  | [] => rfl
  | b :: bs => by simp [strsOf, strsOf_map bs]
def dAll : D → Option D
  | .list ds => (boolsOf ds).map fun bs => .bool (bs.all id)
  | _ => none
theorem calls_all {m : Md} : CallS K m (rAll K) (f1 dAll) := fun hid H ds z vs Q k rs hf q => by
  match ds, hf with
  | [d], hf =>
    obtain ⟨v, rfl, r⟩ := rma1 rs
    have hf : dAll d = some z := hf
    cases d with
    | list ds =>
      obtain ⟨a, xs, rfl, h1, h2⟩ := bo_list r
      have hf : (boolsOf ds).map (fun bs => PyData.bool (bs.all id)) = some z := hf
      cases hb : boolsOf ds with
      | none => rw [hb] at hf; cases hf
      | some bs =>
        rw [hb] at hf
        cases hf
        have := boolsOf_eq hb
        subst this
        have := h2.bools
        subst this
        exact ⟨a, bs, rfl, SqL.of h1, q _ _ (Ex.refl _) rm_bool⟩
    | tuple ds => cases hf
    | str x => cases hf
    | dict ps => cases hf
    | none => cases hf
    | bool _ => cases hf
    | int _ => cases hf
theorem de_all {m ma : Md} {e : Expr} {g : GE} {p pos : Pos} (hm : F.mg "all" = none) (h : DE F ma e g) (hg : F.sn.lookup ("all" : Str) = some .globalImplicit := by rfl)
    (he : ∀ env, starEach [e] env = [(false, eval e env)] := by intro _; rfl) (hc : F.hot = false := by rfl) : DE F m (.Call (.Name "all" p) [e] [] pos) (eCl (f1 dAll) (aCons g aNil)) :=
  de_callB (callR (r := rAll) (fun X h => cr_all h) hc) calls_all hm (by decide +kernel) (da_cons (de_any h) da_nil he) hg (by decide) (by decide) he (by intro _; rfl)
def dSum : D → Option D
  | .list ds => (intsOf ds).map fun bs => .int bs.sum
  | _ => none
theorem calls_sum {m : Md} : CallS K m (rSum K) (f1 dSum) := fun hid H ds z vs Q k rs hf q => by
  match ds, hf with
  | [d], hf =>
    obtain ⟨v, rfl, r⟩ := rma1 rs
    have hf : dSum d = some z := hf
    cases d with
    | list ds =>
      obtain ⟨a, xs, rfl, h1, h2⟩ := bo_list r
      have hf : (intsOf ds).map (fun bs => PyData.int bs.sum) = some z := hf
      cases hb : intsOf ds with
      | none => rw [hb] at hf; cases hf
      | some bs =>
        rw [hb] at hf
        cases hf
        have := intsOf_eq hb
        subst this
        have := h2.ints
        subst this
        exact ⟨a, bs, rfl, SqL.of h1, q _ _ (Ex.refl _) rm_int⟩
    | tuple ds => cases hf
    | str x => cases hf
    | dict ps => cases hf
    | none => cases hf
    | bool _ => cases hf
    | int _ => cases hf
theorem de_sum {m ma : Md} {e : Expr} {g : GE} {p pos : Pos} (hm : F.mg "sum" = none) (h : DE F ma e g) (hg : F.sn.lookup ("sum" : Str) = some .globalImplicit := by rfl)
    (he : ∀ env, starEach [e] env = [(false, eval e env)] := by intro _; rfl) (hc : F.hot = false := by rfl) : DE F m (.Call (.Name "sum" p) [e] [] pos) (eCl (f1 dSum) (aCons g aNil)) :=
  de_callB (callR (r := rSum) (fun X h => cr_sum h) hc) calls_sum hm (by decide +kernel) (da_cons (de_any h) da_nil he) hg (by decide) (by decide) he (by intro _; rfl)
/-- tuple(xs), list(xs) -/
def dTuple : D → Option D
  | .list ds => if ds.length ≤ 1000000 then some (.tuple ds) else none
  | .tuple ds => some (.tuple ds)
  | _ => none
theorem calls_tuple {m : Md} : CallS K m (fun xs H Q => ∃ p ys, xs = [.ref p] ∧ ((SqL K H p ys ∧ ∀ l, H l = none → Q (.ref l) (upd H l (.tup ys))) ∨ (SqT K H p ys ∧ Q (.ref p) H))) (f1 dTuple) := fun hid H ds z vs Q k rs hf q => by
  match ds, hf with
  | [d], hf =>
    obtain ⟨v, rfl, r⟩ := rma1 rs
    have hf : dTuple d = some z := hf
    have dom : ∀ a ∈ hid, noT (H a) ≠ none := fun a ha => (k a ha).ne
    cases d with
    | list ds =>
      obtain ⟨a, xs, rfl, h1, h2⟩ := bo_list r
      unfold dTuple at hf
      dsimp only at hf
      split at hf
      · cases hf
        exact ⟨a, xs, rfl, .inl ⟨SqL.of h1, fun l hl => q _ _ (Ex.new hl) (au_tup dom hl h2)⟩⟩
      · cases hf
    | tuple ds =>
      cases hf
      obtain ⟨a, xs, rfl, h1, h2⟩ := bo_tup r
      refine ⟨a, xs, rfl, .inr ⟨Evl.ex_t hide_ex h1, q _ _ (Ex.refl _) (rm_plain rfl ?_)⟩⟩
      simp only [Mn]
      exact ⟨a, xs, rfl, h1, h2⟩
    | str x => cases hf
    | dict ps => cases hf
    | none => cases hf
    | bool _ => cases hf
    | int _ => cases hf
theorem de_tuple {m ma : Md} {e : Expr} {g : GE} {p pos : Pos} (hm : F.mg "tuple" = none) (h : DE F ma e g) (hg : F.sn.lookup ("tuple" : Str) = some .globalImplicit := by rfl)
    (he : ∀ env, starEach [e] env = [(false, eval e env)] := by intro _; rfl) : DE F m (.Call (.Name "tuple" p) [e] [] pos) (eCl (f1 dTuple) (aCons g aNil)) :=
  de_callT (callR0 (r := fun K xs H Q => ∃ p ys, xs = [.ref p] ∧ ((SqL K H p ys ∧ ∀ l, H l = none → Q (.ref l) (upd H l (.tup ys))) ∨ (SqT K H p ys ∧ Q (.ref p) H))) fun X => call_tuple_of) calls_tuple hm (by decide +kernel) (da_cons (de_any h) da_nil he) hg (by decide) (by decide) he (by intro _; rfl)
def dList : D → Option D
  | .list ds => some (.list ds)
  | .tuple ds => some (.list ds)
  | _ => none
theorem calls_list : CallS K .au (fun xs H Q => ∃ p ys, xs = [.ref p] ∧ (SqL K H p ys ∨ SqT K H p ys) ∧ ∀ l, H l = none → Q (.ref l) (upd H l (.lst ys))) (f1 dList) := fun hid H ds z vs Q k rs hf q => by
  match ds, hf with
  | [d], hf =>
    obtain ⟨v, rfl, r⟩ := rma1 rs
    have hf : dList d = some z := hf
    cases d with
    | list ds =>
      cases hf
      obtain ⟨a, xs, rfl, h1, h2⟩ := bo_list r
      exact ⟨a, xs, rfl, .inl (SqL.of h1), fun l hl => q _ _ (Ex.new hl) (au_list hl h2)⟩
    | tuple ds =>
      cases hf
      obtain ⟨a, xs, rfl, h1, h2⟩ := bo_tup r
      exact ⟨a, xs, rfl, .inr (Evl.ex_t hide_ex h1), fun l hl => q _ _ (Ex.new hl) (au_list hl h2)⟩
    | str x => cases hf
    | dict ps => cases hf
    | none => cases hf
    | bool _ => cases hf
    | int _ => cases hf
theorem de_list {ma : Md} {e : Expr} {g : GE} {p pos : Pos} (hm : F.mg "list" = none) (h : DE F ma e g) (hg : F.sn.lookup ("list" : Str) = some .globalImplicit := by rfl)
    (he : ∀ env, starEach [e] env = [(false, eval e env)] := by intro _; rfl) : DE F .au (.Call (.Name "list" p) [e] [] pos) (eCl (f1 dList) (aCons g aNil)) :=
  de_callT (callR0 (r := fun K xs H Q => ∃ p ys, xs = [.ref p] ∧ (SqL K H p ys ∨ SqT K H p ys) ∧ ∀ l, H l = none → Q (.ref l) (upd H l (.lst ys))) fun X => call_list_of) calls_list hm (by decide +kernel) (da_cons (de_any h) da_nil he) hg (by decide) (by decide) he (by intro _; rfl)
/-- int(x): of an int, a bool, a text -/
def dInt : D → Option D
  | .int i => some (.int i)
  | .bool b => some (.int (if b then 1 else 0))
  | .str x => if x.length ≤ 640 then (PySem.intText? x).map .int else none
  | _ => none
theorem calls_int {m : Md} : CallS K m (fun xs H Q => ((∃ i, xs = [.int i] ∧ Q (.int i) H) ∨ ∃ k : Bool, xs = [.bl k] ∧ Q (.int (if k then 1 else 0)) H) ∨ ∃ a n, xs = [.str a] ∧ PySem.intText? a = some n ∧ a.length ≤ 640 ∧ Q (.int n) H) (f1 dInt) := fun hid H ds z vs Q k rs hf q => by
  match ds, hf with
  | [d], hf =>
    obtain ⟨v, rfl, r⟩ := rma1 rs
    have hf : dInt d = some z := hf
    cases d with
    | int i =>
      cases hf
      have := bo_int r
      subst this
      exact .inl (.inl ⟨i, rfl, q _ _ (Ex.refl _) rm_int⟩)
    | bool i =>
      cases hf
      have := bo_bool r
      subst this
      exact .inl (.inr ⟨i, rfl, q _ _ (Ex.refl _) rm_int⟩)
    | str x =>
      have := bo_str r
      subst this
      unfold dInt at hf
      dsimp only at hf
      split at hf
      · rename_i hl
        cases hn : PySem.intText? x with
        | none => rw [hn] at hf; cases hf
        | some n =>
          rw [hn] at hf
          cases hf
          exact .inr ⟨x, n, rfl, hn, hl, q _ _ (Ex.refl _) rm_int⟩
      · cases hf
    | tuple ds => cases hf
    | list x => cases hf
    | dict ps => cases hf
    | none => cases hf
theorem de_intc {m ma : Md} {e : Expr} {g : GE} {p pos : Pos} (hm : F.mg "int" = none) (h : DE F ma e g) (hg : F.sn.lookup ("int" : Str) = some .globalImplicit := by rfl)
    (he : ∀ env, starEach [e] env = [(false, eval e env)] := by intro _; rfl) : DE F m (.Call (.Name "int" p) [e] [] pos) (eCl (f1 dInt) (aCons g aNil)) :=
  de_callT (fun i => call_int1.or call_int_str) calls_int hm (by decide +kernel) (da_cons (de_any h) da_nil he) hg (by decide) (by decide) he (by intro _; rfl)
/-- str(n) -/
def dStr : D → Option D
  | .int i => if i.natAbs ≤ 1000000000000 then some (.str (toString i)) else none
  | _ => none
theorem calls_str {m : Md} : CallS K m (fun xs H Q => ∃ i, xs = [.int i] ∧ i.natAbs.log2 < 1920 ∧ Q (.str (toString i)) H) (f1 dStr) := fun hid H ds z vs Q k rs hf q => by
  match ds, hf with
  | [d], hf =>
    obtain ⟨v, rfl, r⟩ := rma1 rs
    have hf : dStr d = some z := hf
    cases d with
    | int i =>
      have := bo_int r
      subst this
      unfold dStr at hf
      dsimp only at hf
      split at hf
      · rename_i hl
        cases hf
        refine ⟨i, rfl, ?_, q _ _ (Ex.refl _) rm_str⟩
        by_cases h0 : i.natAbs = 0
        · rw [h0]; decide
        · rw [Nat.log2_lt h0]
          exact Nat.lt_of_le_of_lt hl (Nat.lt_of_lt_of_le (show 1000000000000 < 2 ^ 40 by decide) (Nat.pow_le_pow_right (by decide) (by decide)))
      · cases hf
    | bool i => cases hf
    | str x => cases hf
    | tuple ds => cases hf
    | list x => cases hf
    | dict ps => cases hf
    | none => cases hf
theorem de_strc {m ma : Md} {e : Expr} {g : GE} {p pos : Pos} (hm : F.mg "str" = none) (h : DE F ma e g) (hg : F.sn.lookup ("str" : Str) = some .globalImplicit := by rfl)
    (he : ∀ env, starEach [e] env = [(false, eval e env)] := by intro _; rfl) : DE F m (.Call (.Name "str" p) [e] [] pos) (eCl (f1 dStr) (aCons g aNil)) :=
  de_callT (fun i => call_str_int) calls_str hm (by decide +kernel) (da_cons (de_any h) da_nil he) hg (by decide) (by decide) he (by intro _; rfl)
/-- max(a, b), min(a, b) of ints -/
def dMax : List D → Option D
  | [.int i, .int j] => some (.int (if j > i then j else i))
  | _ => none
def dMin : List D → Option D
  | [.int i, .int j] => some (.int (if j < i then j else i))
  | _ => none
theorem calls_max {m : Md} : CallS K m (fun xs H Q => ∃ i j, xs = [.int i, .int j] ∧ Q (.int (if j > i then j else i)) H) dMax := fun hid H ds z vs Q k rs hf q => by
  unfold dMax at hf
  split at hf
  · cases hf
    obtain ⟨v, u, rfl, r1, r2⟩ := rma2 rs
    rw [bo_int r1, bo_int r2]
    exact ⟨_, _, rfl, q _ _ (Ex.refl _) rm_int⟩
  · cases hf
theorem calls_min {m : Md} : CallS K m (fun xs H Q => ∃ i j, xs = [.int i, .int j] ∧ Q (.int (if j < i then j else i)) H) dMin := fun hid H ds z vs Q k rs hf q => by
  unfold dMin at hf
  split at hf
  · cases hf
    obtain ⟨v, u, rfl, r1, r2⟩ := rma2 rs
    rw [bo_int r1, bo_int r2]
    exact ⟨_, _, rfl, q _ _ (Ex.refl _) rm_int⟩
  · cases hf
theorem de_max {m : Md} {e : Expr} {es : List Expr} {ga : GA} {p pos : Pos} (hm : F.mg "max" = none) (h : DA F .bo (e :: es) ga) (hg : F.sn.lookup ("max" : Str) = some .globalImplicit := by rfl)
    (he : ∀ env, starEach (e :: es) env = (false, eval e env) :: starEach es env := by intro _; rfl) (hpl : ∀ env, (backTo pos (starEach es env)).any (·.1) = false := by intro _; rfl) (hc : F.hot = false := by rfl) : DE F m (.Call (.Name "max" p) (e :: es) [] pos) (eCl dMax ga) :=
  de_callB (fun i => call_max2 (F.calm hc i)) calls_max hm (by decide +kernel) h hg (by decide) (by decide) he hpl
theorem de_min {m : Md} {e : Expr} {es : List Expr} {ga : GA} {p pos : Pos} (hm : F.mg "min" = none) (h : DA F .bo (e :: es) ga) (hg : F.sn.lookup ("min" : Str) = some .globalImplicit := by rfl)
    (he : ∀ env, starEach (e :: es) env = (false, eval e env) :: starEach es env := by intro _; rfl) (hpl : ∀ env, (backTo pos (starEach es env)).any (·.1) = false := by intro _; rfl) (hc : F.hot = false := by rfl) : DE F m (.Call (.Name "min" p) (e :: es) [] pos) (eCl dMin ga) :=
  de_callB (fun i => call_min2 (F.calm hc i)) calls_min hm (by decide +kernel) h hg (by decide) (by decide) he hpl

/-! ### isinstance of a built-in class -/
def tyD : D → String
  | .none => "NoneType"
  | .bool _ => "bool"
  | .int _ => "int"
  | .str _ => "str"
  | .list _ => "list"
  | .tuple _ => "tuple"
  | .dict _ => "dict"
def dIsi (T : String) : D → Option D := fun d => match d with
  | .dict _ => none
  | d => (kitB (tyD d) T).map .bool
theorem ty_of {hid : List Addr} {H H' : Hp} {d : D} {v : V} (hn : isCon d = true → ∃ ds, d = .list ds) (r : Rm K .bo hid H H' d v) : TyX K H' v (.type (tyD d)) := by
  cases d with
  | none => have := bo_none r; subst this; exact .base .non
  | bool b => have := bo_bool r; subst this; exact .base (.bl b)
  | int i => have := bo_int r; subst this; exact .base (.int i)
  | str x => have := bo_str r; subst this; exact .base (.str x)
  | list ds =>
    obtain ⟨a, xs, rfl, h1, h2⟩ := bo_list r
    exact .base (.lst h1)
  | tuple ds =>
    obtain ⟨a, xs, rfl, h1, h2⟩ := bo_tup r
    rcases Evl.ex_t hide_ex h1 with (h1 | ⟨o, h1⟩) | ⟨o, its, n, h1, h2, _⟩
    · exact .base (.tup h1)
    · exact .fTuple h1
    · exact .kTuple h1 h2
  | dict ps =>
    obtain ⟨ds, e⟩ := hn rfl
    cases e
theorem sem_isi {m ma : Md} {te : TE} {g : GE} {T : String} (h : SemE F ma te g) (hb : ma = .bo) : SemE F m (tCB (rIsi F.K) (tCons te (tCons (tC (.ty T)) tNil))) (e1 (dIsi T) g) := fun H0 hid0 s ρ S Q q => by
  subst hb
  refine h H0 hid0 s ρ S _ ?_
  unfold e1 at q
  split
  · rename_i d hd
    intro v H1 e1 r1
    rw [hd, bind_ok] at q
    cases hf : dIsi T d with
    | none => rw [hf] at q; exact q.elim
    | some z =>
      rw [hf] at q
      have hn : isCon d = true → ∃ ds, d = .list ds := fun hc => by
        cases d <;> simp [isCon] at hc
        · exact ⟨_, rfl⟩
        · cases hf
      have hk : ∃ b, kitB (tyD d) T = some b ∧ z = .bool b := by
        unfold dIsi at hf
        split at hf
        · cases hf
        · cases hk : kitB (tyD d) T with
          | none => rw [hk] at hf; cases hf
          | some b => rw [hk] at hf; cases hf; exact ⟨b, rfl, rfl⟩
      obtain ⟨b, hb, rfl⟩ := hk
      exact ⟨v, .ty T, _, _, b, rfl, .ty T, ty_of hn r1, kit_ty hb, q _ _ e1 rm_bool⟩
  · rename_i c hd
    rw [hd, bind_err] at q
    exact q
  · rename_i hd
    rw [hd, bind_stuck] at q
    exact q
theorem de_isi {m ma : Md} {T : String} {x : Str} {e : Expr} {g : GE} {p p2 pos : Pos} (hm : F.mg "isinstance" = none) (hmT : F.mg x = none) (hvT : bootBuiltins x = some (.type T)) (h : DE F ma e g) (hg : F.sn.lookup ("isinstance" : Str) = some .globalImplicit := by rfl) (hgT : F.sn.lookup x = some .globalImplicit := by rfl)
    (hnT : x ≠ "__name__" := by decide) (hdT : (x == ("__debug__" : Str)) = false := by decide) (he : ∀ env, starEach (e :: [.Name x p2]) env = (false, eval e env) :: starEach [.Name x p2] env := by intro _; rfl) : DE F m (.Call (.Name "isinstance" p) [e, .Name x p2] [] pos) (e1 (dIsi T) g) := by
  obtain ⟨te, pe, se⟩ := de_any h
  refine ⟨_, fun i => ?_, sem_isi (T := T) se rfl⟩
  have hc := callR0 (F := F) (r := rIsi) (fun X => call_isi) i
  exact pe_callB hc (gl_of hg i) (by rw [F.hmg]; exact hm) (by decide +kernel) (pa_cons (pe i) (pa_cons (pe_bltn (v := .ty T) (gl_of hgT i) (by rw [F.hmg]; exact hmT) hvT rfl hnT hdT) pa_nil) (he _)) (by decide) (by decide) (he _) (by rfl)
end
end DL
set_option Elab.async false
set_option linter.all false
set_option maxRecDepth 100000
set_option maxHeartbeats 4000000
namespace DL
open PySem PySem.Spec PyProof.Rows L2
variable [TabsC]
theorem pe_alt {X : Cx} {e : Expr} {t t' : TE} (h : PE X e t) (h' : PE X e t') : PE X e (fun σ H Q => t σ H Q ∨ t' σ H Q) := ⟨fun pins s σ H Q I q => by
  rcases q with q | q
  · exact h.run pins s σ H Q I q
  · exact h'.run pins s σ H Q I q⟩
theorem pt_alt {X : Cx} {e : Expr} {t t' : TE} (h : PT X e (tTest t)) (h' : PT X e (tTest t')) : PT X e (tTest fun σ H Q => t σ H Q ∨ t' σ H Q) := ⟨fun pins s σ H Q I q => by
  rcases q with q | q
  · exact h.run pins s σ H Q I q
  · exact h'.run pins s σ H Q I q⟩
section
variable {F : Fam} {K : PySem.W.Frag}
theorem sem_alt {m : Md} {t t' : TE} {g g1 g2 : GE} (h : SemE F m t g1) (h' : SemE F m t' g2) (hg : ∀ ρ, g ρ = .stuck ∨ g1 ρ = g ρ ∨ g2 ρ = g ρ) : SemE F m (fun σ H Q => t σ H Q ∨ t' σ H Q) g := fun H0 hid0 s ρ S Q q => by
  rcases hg ρ with e | e | e
  · rw [e] at q; exact q.elim
  · exact .inl (h H0 hid0 s ρ S Q (by rw [e]; exact q))
  · exact .inr (h' H0 hid0 s ρ S Q (by rw [e]; exact q))
theorem e2_or {f f' : D → D → Option D} {a b : GE} (ρ : Env) : e2 (fun x y => (f x y).or (f' x y)) a b ρ = .stuck ∨ e2 f a b ρ = e2 (fun x y => (f x y).or (f' x y)) a b ρ ∨ e2 f' a b ρ = e2 (fun x y => (f x y).or (f' x y)) a b ρ := by
  unfold e2
  cases a ρ with
  | stuck => exact .inl rfl
  | err c => exact .inr (.inl rfl)
  | ok x =>
    rw [bind_ok, bind_ok, bind_ok]
    cases b ρ with
    | stuck => exact .inl rfl
    | err c => exact .inr (.inl rfl)
    | ok y =>
      rw [bind_ok, bind_ok, bind_ok]
      cases hf : f x y with
      | some z => exact .inr (.inl (by simp [hf]))
      | none => exact .inr (.inr (by simp [hf]))
/-! ### subscripts -/
def keyOf : D → Option Key
  | .int i => some (.inl i)
  | .str x => some (.inr x)
  | _ => none
theorem keyOf_eq {d : D} {k : Key} (h : keyOf d = some k) : d = kD k := by
  cases d <;> simp [keyOf] at h <;> subst h <;> rfl
theorem keyOf_kD (k : Key) : keyOf (kD k) = some k := by cases k <;> rfl
def getK (ps : List (D × D)) (k : Key) : Option D := (ps.find? fun p => decide (keyOf p.1 = some k)).map (·.2)
theorem MnK.get {H : Hp} {k : Key} : ∀ {ps : List (D × D)} {kvs : List (Key × V)}, MnK K H ps kvs → (∀ d, getK ps k = some d → ∃ v, valV kvs k = some v ∧ Mn K H d v) ∧ (getK ps k = none → valV kvs k = none)
  | [], kvs, h => by
    simp only [MnK] at h
    subst h
    exact ⟨fun d hd => (by cases hd), fun _ => rfl⟩
  | (q, d) :: ps, kvs, h => by
    simp only [MnK] at h
    obtain ⟨k', v, r, rfl, rfl, h2, h3⟩ := h
    have ih := MnK.get (k := k) h3
    unfold getK valV at *
    rw [List.find?_cons, List.find?_cons]
    simp only [keyOf_kD, Option.some.injEq]
    by_cases e : k' = k
    · subst e
      simp only [decide_true]
      exact ⟨fun d' hd => by cases hd; exact ⟨v, rfl, h2⟩, fun hd => by cases hd⟩
    · simp only [e, decide_false]
      exact ih
def dIxS : D → D → Option D
  | .list ds, .int i => atI ds i
  | .tuple ds, .int i => atI ds i
  | .str x, .int i => if x.length ≤ 1000000 then (atI x.cps.toList i).map fun c => .str ⟨#[c]⟩ else none
  | .dict [(.none, .list ns)], .int i => atI ns i
  | _, _ => none
def dIxD : D → D → Option D
  | .dict ps, k => (keyOf k).bind (getK ps)
  | _, _ => none
def dIx : D → D → Option D := fun x y => (dIxS x y).or (dIxD x y)
theorem atI_mna {H : Hp} {ds : List D} {vs : List V} {i : Int} {d : D} (h : MnA K H ds vs) (e : atI ds i = some d) : ∃ v, atI vs i = some v ∧ Mn K H d v := by
  unfold atI at e ⊢
  rw [h.length]
  cases q : ixN ds.length i with
  | none => rw [q] at e; cases e
  | some j =>
    rw [q] at e
    exact h.get e
theorem ops_ixS : OpS K .fz (rIx K) dIxS := fun hid H d e z x y Q dom rx ry hf q => by
  unfold dIxS at hf
  split at hf
  · rename_i ds i
    obtain ⟨a, xs, rfl, h1, h2⟩ := bo_list rx
    obtain ⟨v, hv, mv⟩ := atI_mna h2 hf
    exact .inl ⟨a, xs, i, v, rfl, bo_int ry, SqL.of h1, hv, q _ _ (Ex.refl _) mv⟩
  · rename_i ds i
    obtain ⟨a, xs, rfl, h1, h2⟩ := bo_tup rx
    obtain ⟨v, hv, mv⟩ := atI_mna h2 hf
    exact .inr (.inl ⟨a, xs, i, v, rfl, bo_int ry, Evl.ex_t hide_ex h1, hv, q _ _ (Ex.refl _) mv⟩)
  · rename_i x' i
    split at hf
    · rename_i hl
      cases hc : atI x'.cps.toList i with
      | none => rw [hc] at hf; cases hf
      | some c =>
        rw [hc] at hf
        cases hf
        exact .inr (.inr ⟨x', i, c, bo_str rx, bo_int ry, small_line hl, hc, q _ _ (Ex.refl _) (rm_str (m := .fz))⟩)
    · cases hf
  · rename_i ns i
    rcases bo_dict rx with ⟨a, kvs, _, _, hk⟩ | ⟨a, is, rfl, hs, hk⟩ | ⟨b, d, hk⟩
    · simp only [MnK] at hk
      obtain ⟨q', _, _, _, hk1, _⟩ := hk
      cases q' <;> simp [kD] at hk1
    · have hk : ns = is.map .int := by simpa using hk
      subst hk
      have hm : MnA K (hide hid H) (is.map .int) (is.map V.int) := MnA.of_ints
      obtain ⟨v, hv, mv⟩ := atI_mna hm hf
      exact .inl ⟨a, _, i, v, rfl, bo_int ry, hs, hv, q _ _ (Ex.refl _) mv⟩
    · cases hk
  · cases hf
theorem ops_ixD : OpS K .fz (fun x y H Q => ∃ a v, x = .ref a ∧ DGet H a y (some v) ∧ Q v H) dIxD := fun hid H d k' z x y Q dom rx ry hf q => by
  cases d with
  | dict ps =>
    have hf2 : (keyOf k').bind (getK ps) = some z := hf
    clear hf
    cases hk : keyOf k' with
    | none => rw [hk] at hf2; cases hf2
    | some k =>
      rw [hk] at hf2
      have ek := keyOf_eq hk
      subst ek
      have ey : y = kV k := by
        cases k
        · exact bo_int ry
        · exact bo_str ry
      subst ey
      rcases bo_dict rx with ⟨a, kvs, rfl, h1, h2⟩ | ⟨a, is, rfl, hs, hk2⟩ | ⟨b, d, hk2⟩
      · obtain ⟨v, hv, mv⟩ := (MnK.get (k := k) h2).1 z hf2
        exact ⟨a, v, rfl, by rw [← hv]; exact DGet.k h1, q _ _ (Ex.refl _) mv⟩
      · subst hk2
        have hf3 : getK [(.none, .list (is.map .int))] k = some z := hf2
        unfold getK at hf3
        simp [keyOf] at hf3
      · subst hk2
        have hf3 : getK [(.bool b, d)] k = some z := hf2
        unfold getK at hf3
        simp [keyOf] at hf3
  | none => cases hf
  | bool _ => cases hf
  | int _ => cases hf
  | str _ => cases hf
  | list _ => cases hf
  | tuple _ => cases hf
theorem hu1 (i : F.ι) : (F.X i).A.units + 1 < cLine := by
  have := (F.room i).un
  omega
theorem de_ix {ma mb : Md} {a b : Expr} {ga gb : GE} {pos : Pos} (hs : PlainIx b) (ha : DE F ma a ga) (hb : DE F mb b gb) : DE F .fz (.Subscript a b pos) (e2 dIx ga gb) := by
  obtain ⟨ta, pa, sa⟩ := de_any ha
  obtain ⟨tb, pb, sb⟩ := de_any hb
  refine ⟨_, fun i => pe_alt (t := tOp (rIx F.K) ta tb) (t' := tDGet ta tb) ?_ (pe_dget (hu1 i) (pa i) (pb i) hs), sem_alt (sem_op sa sb ops_ixS) (sem_op (r := fun x y H Q => ∃ a v, x = .ref a ∧ DGet H a y (some v) ∧ Q v H) sa sb ops_ixD) fun ρ => e2_or ρ⟩
  have z := pe_ix (pos := pos) (ix_seq (X := F.X i)) (pa i) (pb i) hs
  rw [F.hK i] at z
  exact z
/-! ### slices -/
abbrev GO := Env → Out (Option Int)
def SemO (F : Fam) (to : TO) (g : GO) : Prop :=
  ∀ (H0 : Hp) (hid0 : List Addr) (s : Sx) (ρ : Env), Sees F.K H0 hid0 F.O s ρ → ∀ Q : Option Int → Hp → Prop,
    (match g ρ with
      | .ok b => ∀ H', Ex s.H H' → Q b H'
      | .err c => ∀ H', Ex s.H H' → F.E (F.cl c) none H'
      | .stuck => False) → to s.σ s.H Q
def DO (F : Fam) (e : Option Expr) (g : GO) : Prop := ∃ to, (∀ i, PO (F.X i) e to) ∧ SemO F to g
def oNo : GO := fun _ => .ok none
def oI (g : GE) : GO := fun ρ => (g ρ).bind fun d => match d with
  | .int i => .ok (some i)
  | _ => .stuck
theorem do_no : DO F none oNo := ⟨_, fun _ => po_none, fun H0 hid0 s ρ S Q q => q s.H (Ex.refl _)⟩
theorem do_i {m : Md} {e : Expr} {g : GE} (h : DE F m e g) : DO F (some e) (oI g) := by
  obtain ⟨te, pe, se⟩ := de_any h
  refine ⟨_, fun i => po_some (pe i), fun H0 hid0 s ρ S Q q => se H0 hid0 s ρ S _ ?_⟩
  unfold oI at q
  split
  · rename_i d hd
    rw [hd, bind_ok] at q
    intro v H1 e1 r1
    cases d with
    | int i => exact ⟨i, bo_int r1, q _ e1⟩
    | none => exact q.elim
    | bool _ => exact q.elim
    | str _ => exact q.elim
    | list _ => exact q.elim
    | tuple _ => exact q.elim
    | dict _ => exact q.elim
  · rename_i c hd
    rw [hd, bind_err] at q
    exact q
  · rename_i hd
    rw [hd, bind_stuck] at q
    exact q
def cutD {α : Type} (xs : List α) (lo hi : Option Int) : List α := (xs.drop (HT.sIx xs.length 0 lo)).take (HT.sIx xs.length xs.length hi - HT.sIx xs.length 0 lo)
theorem MnA.cut {H : Hp} {ds : List D} {vs : List V} (lo hi : Option Int) (h : MnA K H ds vs) : MnA K H (cutD ds lo hi) (cutV vs lo hi) := by
  unfold cutD cutV
  rw [h.length]
  exact (h.drop _).take _
def dSl : D → Option Int → Option Int → Option D
  | .list ds, lo, hi => some (.list (cutD ds lo hi))
  | .tuple ds, lo, hi => some (.tuple (cutD ds lo hi))
  | .str x, lo, hi => if x.length ≤ 1000000 then some (.str (cutS x lo hi)) else none
  | _, _, _ => none
abbrev rSlV (K : PySem.W.Frag) : V → Option Int → Option Int → Hp → VK → Prop := fun x lo hi H Q => rSlL K x lo hi H Q ∨ (rSlA K x lo hi H Q ∨ rSlS x lo hi H Q)
theorem sls {hid : List Addr} {H : Hp} {d z : D} {x : V} {lo hi : Option Int} {Q : VK} (dom : ∀ a ∈ hid, noT (H a) ≠ none) (rx : Rm K .bo hid H H d x) (hf : dSl d lo hi = some z) (q : ∀ v H', Ex H H' → Rm K .au hid H H' z v → Q v H') : rSlV K x lo hi H Q := by
  cases d with
  | list ds =>
    cases hf
    obtain ⟨a, xs, rfl, h1, h2⟩ := bo_list rx
    exact .inl ⟨a, xs, rfl, SqL.of h1, fun p hp => q _ _ (Ex.new hp) (au_list hp (h2.cut lo hi))⟩
  | tuple ds =>
    cases hf
    obtain ⟨a, xs, rfl, h1, h2⟩ := bo_tup rx
    refine .inr (.inl ⟨a, xs, rfl, Evl.ex_t hide_ex h1, fun ⟨e1, e2⟩ => q _ _ (Ex.refl _) (rm_plain rfl ?_), fun _ p hp => q _ _ (Ex.new hp) (au_tup dom hp (h2.cut lo hi))⟩)
    have ec : cutD ds lo hi = ds := by
      unfold cutD
      rw [← h2.length, e1, e2, List.drop_zero, Nat.sub_zero, h2.length, List.take_length]
    rw [ec]
    simp only [Mn]
    exact ⟨a, xs, rfl, h1, h2⟩
  | str x' =>
    unfold dSl at hf
    dsimp only at hf
    split at hf
    · rename_i hl
      cases hf
      have := bo_str rx
      subst this
      exact .inr (.inr ⟨x', rfl, small_line hl, q _ _ (Ex.refl _) rm_str⟩)
    · cases hf
  | none => cases hf
  | bool _ => cases hf
  | int _ => cases hf
  | dict _ => cases hf
def eSl (a : GE) (lo hi : GO) : GE := fun ρ => (a ρ).bind fun x => (lo ρ).bind fun l => (hi ρ).bind fun h => lift (dSl x l h)
theorem sem_sl {ta : TE} {tl th : TO} {ga : GE} {gl gh : GO} (ha : SemE F .bo ta ga) (hl : SemO F tl gl) (hh : SemO F th gh) : SemE F .au (tSl (rSlV F.K) ta tl th) (eSl ga gl gh) := fun H0 hid0 s ρ S Q q => by
  refine ha H0 hid0 s ρ S _ ?_
  unfold eSl at q
  cases hd : ga ρ with
  | stuck => rw [hd] at q; exact q.elim
  | err c => rw [hd, bind_err] at q; exact q
  | ok d =>
    rw [hd, bind_ok] at q
    intro v H1 e1 r1
    refine hl H0 hid0 { s with H := H1 } ρ (S.ext e1) _ ?_
    cases hdl : gl ρ with
    | stuck => rw [hdl] at q; exact q.elim
    | err c => rw [hdl, bind_err] at q; exact fun H2 e2 => q H2 (e1.trans e2)
    | ok l =>
      rw [hdl, bind_ok] at q
      intro H2 e2
      refine hh H0 hid0 { s with H := H2 } ρ (S.ext (e1.trans e2)) _ ?_
      cases hdh : gh ρ with
      | stuck => rw [hdh] at q; exact q.elim
      | err c => rw [hdh, bind_err] at q; exact fun H3 e3 => q H3 ((e1.trans e2).trans e3)
      | ok h =>
        rw [hdh, bind_ok] at q
        intro H3 e3
        cases hf : dSl d l h with
        | none => rw [hf] at q; exact q.elim
        | some z =>
          rw [hf] at q
          have e13 := (e1.trans e2).trans e3
          exact sls (dom_ex e13 S.dom) (bo_ext (e2.trans e3) r1) hf fun v' H' e' r' => q v' H' (e13.trans e') (rm_back e13 r')
theorem de_sl {ma : Md} {a : Expr} {lo hi : Option Expr} {ga : GE} {gl gh : GO} {p2 pos : Pos} (ha : DE F ma a ga) (hl : DO F lo gl) (hh : DO F hi gh) : DE F .au (.Subscript a (.Slice lo hi none p2) pos) (eSl ga gl gh) := by
  obtain ⟨ta, pa, sa⟩ := de_any ha
  obtain ⟨tl, pl, sl⟩ := hl
  obtain ⟨th, ph, sh⟩ := hh
  refine ⟨_, fun i => ?_, sem_sl sa sl sh⟩
  have z := pe_slice (pos := pos) (p2 := p2) (sl_list.or (sl_tupA.or sl_str) : SlR (F.X i) _) (pa i) (pl i) (ph i)
  rw [F.hK i] at z
  exact z
/-! ### in, not in -/
def rInP (K : PySem.W.Frag) (neg : Bool) : R2 := fun x y H Q => ∃ d ds, Dp K H x d ∧ (Dp K H y (.list ds) ∨ Dp K H y (.tuple ds)) ∧ d.plain = true ∧ PyData.plainAll ds = true ∧ min (PyData.depthAll ds) d.depth ≤ 100 ∧ Q (.bl (if neg then !ds.any fun z => PyData.eqv z d else ds.any fun z => PyData.eqv z d)) H
theorem op_inP {X : Cx} (hu : X.A.units + 120 < cLine) : OpR X (compareOp .In) (rInP X.K false) := by
  intro pins s σ H x y v u Q I rx ry h
  obtain ⟨d, ds, hd, he, sd, se, hm, q⟩ := h
  obtain ⟨as, r1⟩ := Dp.reads I d x v hd rx
  rcases he with he | he
  · obtain ⟨bs, r2⟩ := Dp.reads I _ y u he ry
    exact SeqAt.in_list_data r2 r1 se sd (by omega) ⟨.bl _, H, I, rfl, q⟩
  · obtain ⟨bs, r2⟩ := Dp.reads I _ y u he ry
    exact SeqAt.in_tuple_data r2 r1 se sd (by omega) ⟨.bl _, H, I, rfl, q⟩
theorem op_notInP {X : Cx} (hu : X.A.units + 120 < cLine) : OpR X (compareOp .NotIn) (rInP X.K true) := by
  intro pins s σ H x y v u Q I rx ry h
  obtain ⟨d, ds, hd, he, sd, se, hm, q⟩ := h
  obtain ⟨as, r1⟩ := Dp.reads I d x v hd rx
  rcases he with he | he
  · obtain ⟨bs, r2⟩ := Dp.reads I _ y u he ry
    exact SeqAt.notIn_list_data r2 r1 se sd (by omega) ⟨.bl _, H, I, rfl, q⟩
  · obtain ⟨bs, r2⟩ := Dp.reads I _ y u he ry
    exact SeqAt.notIn_tuple_data r2 r1 se sd (by omega) ⟨.bl _, H, I, rfl, q⟩
def okIn (d : D) (ds : List D) : Bool := d.plain && PyData.plainAll ds && decide (min (PyData.depthAll ds) d.depth ≤ 100)
def dInL (neg : Bool) : D → D → Option D
  | d, .list ds => if okIn d ds then some (.bool (neg ^^ ds.any fun z => PyData.eqv z d)) else none
  | d, .tuple ds => if okIn d ds then some (.bool (neg ^^ ds.any fun z => PyData.eqv z d)) else none
  | _, _ => none
def dInS (neg : Bool) : D → D → Option D
  | .str x, .str z => match x.cps.toList with
    | [c] => some (.bool (neg ^^ decide (c ∈ z.cps.toList)))
    | _ => none
  | _, _ => none
def isScr : List (D × D) → Bool
  | [(.none, _)] => true
  | [(.bool _, _)] => true
  | _ => false
theorem one_sign {x : Str} {c : Nat} (h : x.cps.toList = [c]) : x = ⟨#[c]⟩ := by
  obtain ⟨a⟩ := x
  have : a = #[c] := by
    apply Array.ext'
    simpa using h
  rw [this]
def dInD (neg : Bool) : D → D → Option D
  | k, .dict ps => if isScr ps then none else (keyOf k).map fun k => .bool (neg ^^ (getK ps k).isSome)
  | _, _ => none
theorem ops_inL {m : Md} {neg : Bool} : OpS K m (rInP K neg) (dInL neg) := fun hid H d e z x y Q dom rx ry hf q => by
  have key : ∀ ds, (Dp K H y (.list ds) ∨ Dp K H y (.tuple ds)) → (if okIn d ds then some (PyData.bool (neg ^^ ds.any fun z => PyData.eqv z d)) else none) = some z → rInP K neg x y H Q := fun ds hd hf => by
    split at hf
    · rename_i hc
      cases hf
      unfold okIn at hc
      simp only [Bool.and_eq_true, decide_eq_true_eq] at hc
      refine ⟨d, ds, Mn.dp d x hc.1.1 (bo_full rx), hd, hc.1.1, hc.1.2, hc.2, ?_⟩
      cases neg
      · have := q (.bl (ds.any fun z => PyData.eqv z d)) H (Ex.refl _) (by simpa using rm_bool)
        simpa using this
      · have := q (.bl (!ds.any fun z => PyData.eqv z d)) H (Ex.refl _) (by simpa using rm_bool)
        simpa using this
    · cases hf
  cases e with
  | list ds =>
    have hf : (if okIn d ds then some (PyData.bool (neg ^^ ds.any fun z => PyData.eqv z d)) else none) = some z := hf
    refine key ds (.inl ?_) hf
    have hp : PyData.plainAll ds = true := by
      split at hf
      · rename_i hc; unfold okIn at hc; simp only [Bool.and_eq_true] at hc; exact hc.1.2
      · cases hf
    exact Mn.dp (.list ds) y (by simpa only [PyData.plain] using hp) (bo_full ry)
  | tuple ds =>
    have hf : (if okIn d ds then some (PyData.bool (neg ^^ ds.any fun z => PyData.eqv z d)) else none) = some z := hf
    refine key ds (.inr ?_) hf
    have hp : PyData.plainAll ds = true := by
      split at hf
      · rename_i hc; unfold okIn at hc; simp only [Bool.and_eq_true] at hc; exact hc.1.2
      · cases hf
    exact Mn.dp (.tuple ds) y (by simpa only [PyData.plain] using hp) (bo_full ry)
  | str x => simp [dInL] at hf
  | dict ps => simp [dInL] at hf
  | none => simp [dInL] at hf
  | bool _ => simp [dInL] at hf
  | int _ => simp [dInL] at hf
theorem sign_in {neg : Bool} {d e z : D} (hf : dInS neg d e = some z) : ∃ (c : Nat) (t : Str), d = .str ⟨#[c]⟩ ∧ e = .str t ∧ z = .bool (neg ^^ decide (c ∈ t.cps.toList)) := by
  cases d <;> simp only [dInS] at hf <;> try cases hf
  cases e <;> simp only [dInS] at hf <;> try cases hf
  split at hf
  · rename_i c hc
    cases hf
    exact ⟨c, _, by rw [one_sign hc], rfl, rfl⟩
  · cases hf
theorem ops_inS {m : Md} : OpS K m (fun x y H Q => ∃ (c : Nat) (z : Str), x = .str ⟨#[c]⟩ ∧ y = .str z ∧ Q (.bl (decide (c ∈ z.cps.toList))) H) (dInS false) := fun hid H d e z x y Q dom rx ry hf q => by
  obtain ⟨c, t, rfl, rfl, rfl⟩ := sign_in hf
  exact ⟨_, _, bo_str rx, bo_str ry, q _ _ (Ex.refl _) (by simpa using rm_bool)⟩
theorem ops_notInS {m : Md} : OpS K m (fun x y H Q => ∃ (c : Nat) (z : Str), x = .str ⟨#[c]⟩ ∧ y = .str z ∧ Q (.bl (!decide (c ∈ z.cps.toList))) H) (dInS true) := fun hid H d e z x y Q dom rx ry hf q => by
  obtain ⟨c, t, rfl, rfl, rfl⟩ := sign_in hf
  exact ⟨_, _, bo_str rx, bo_str ry, q _ _ (Ex.refl _) (by simpa using rm_bool)⟩
theorem ops_inD {m : Md} {neg : Bool} : OpS K m (fun y x H Q => ∃ a o, x = .ref a ∧ DGet H a y o ∧ Q (.bl (neg ^^ o.isSome)) H) (dInD neg) := fun hid H k' e z x y Q dom rx ry hf q => by
  cases e with
  | dict ps =>
    have hf : (if isScr ps then none else (keyOf k').map fun k => PyData.bool (neg ^^ (getK ps k).isSome)) = some z := hf
    split at hf
    · cases hf
    · rename_i hns
      cases hk : keyOf k' with
      | none => rw [hk] at hf; cases hf
      | some k =>
        rw [hk] at hf
        cases hf
        have ek := keyOf_eq hk
        subst ek
        have ex : x = kV k := by
          cases k
          · exact bo_int rx
          · exact bo_str rx
        subst ex
        rcases bo_dict ry with ⟨a, kvs, rfl, h1, h2⟩ | ⟨a, is, rfl, hs, hk2⟩ | ⟨b, d, hk2⟩
        · refine ⟨a, _, rfl, DGet.k h1, ?_⟩
          have e : (valV kvs k).isSome = (getK ps k).isSome := by
            obtain ⟨g1, g2⟩ := MnK.get (k := k) h2
            cases q : getK ps k with
            | none => rw [g2 q]; rfl
            | some d =>
              obtain ⟨v, hv, _⟩ := g1 d q
              rw [hv]; rfl
          rw [e]
          exact q _ _ (Ex.refl _) rm_bool
        · subst hk2
          exact absurd rfl hns
        · subst hk2
          exact absurd rfl hns
  | none => cases hf
  | bool _ => cases hf
  | int _ => cases hf
  | str _ => cases hf
  | list _ => cases hf
  | tuple _ => cases hf
def dIn (neg : Bool) : D → D → Option D := fun x y => ((dInL neg x y).or (dInS neg x y)).or (dInD neg x y)
theorem de_in {m ma mb : Md} {a b : Expr} {ga gb : GE} {pos : Pos} (ha : DE F ma a ga) (hb : DE F mb b gb) (hm : behindInMarks .In b = false := by rfl) : DC F m (.Compare a [.In] [b] pos) (e2 (dIn false) ga gb) := by
  obtain ⟨ta, pa, sa⟩ := de_any ha
  obtain ⟨tb, pb, sb⟩ := de_any hb
  have ho : ∀ i, OpR (F.X i) (compareOp .In) (fun x y H Q => rInP F.K false x y H Q ∨ (fun x y H Q => ∃ (c : Nat) (z : Str), x = .str ⟨#[c]⟩ ∧ y = .str z ∧ Q (.bl (decide (c ∈ z.cps.toList))) H) x y H Q) := fun i => by
    have z := (op_inP (X := F.X i) (units120 i)).or op_in_sign
    rw [F.hK i] at z
    exact z
  refine ⟨_, fun i => pe_alt (t' := tDIn ta tb) (pe_cmpR (ho i) (pa i) (pb i) hm) (pe_cmp (pc_din (hu1 i) (pa i) (pb i)) hm), fun i => pt_alt (pt_cmpR (ho i) (pa i) (pb i) hm) (pt_cmp (pc_din (hu1 i) (pa i) (pb i)) hm), ?_⟩
  exact sem_alt (sem_op sa sb (ops_inL.or1 ops_inS)) (sem_op (r := fun y x H Q => ∃ a o, x = .ref a ∧ DGet H a y o ∧ Q (.bl o.isSome) H) (f := dInD false) sa sb (by have z := ops_inD (K := F.K) (m := m) (neg := false); simpa only [Bool.false_xor] using z)) fun ρ => e2_or ρ
theorem de_notIn {m ma mb : Md} {a b : Expr} {ga gb : GE} {pos : Pos} (ha : DE F ma a ga) (hb : DE F mb b gb) (hm : behindInMarks .NotIn b = false := by rfl) : DC F m (.Compare a [.NotIn] [b] pos) (e2 (dIn true) ga gb) := by
  obtain ⟨ta, pa, sa⟩ := de_any ha
  obtain ⟨tb, pb, sb⟩ := de_any hb
  have ho : ∀ i, OpR (F.X i) (compareOp .NotIn) (fun x y H Q => rInP F.K true x y H Q ∨ (fun x y H Q => ∃ (c : Nat) (z : Str), x = .str ⟨#[c]⟩ ∧ y = .str z ∧ Q (.bl (!decide (c ∈ z.cps.toList))) H) x y H Q) := fun i => by
    have z := (op_notInP (X := F.X i) (units120 i)).or op_notIn_sign
    rw [F.hK i] at z
    exact z
  refine ⟨_, fun i => pe_alt (t' := tDNotIn ta tb) (pe_cmpR (ho i) (pa i) (pb i) hm) (pe_cmp (pc_dnotin (hu1 i) (pa i) (pb i)) hm), fun i => pt_alt (pt_cmpR (ho i) (pa i) (pb i) hm) (pt_cmp (pc_dnotin (hu1 i) (pa i) (pb i)) hm), ?_⟩
  exact sem_alt (sem_op sa sb (ops_inL.or1 ops_notInS)) (sem_op (r := fun y x H Q => ∃ a o, x = .ref a ∧ DGet H a y o ∧ Q (.bl (!o.isSome)) H) (f := dInD true) sa sb (by have z := ops_inD (K := F.K) (m := m) (neg := true); simpa only [Bool.true_xor] using z)) fun ρ => e2_or ρ

/-! ### methods of texts -/
def eM0 (f : D → Option D) (a : GE) : GE := e1 f a
theorem sem_m0 {m : Md} {r : V → List V → Hp → VK → Prop} {f : D → Option D} {ta : TE} {ga : GE} (ha : SemE F .bo ta ga) (hr : UnS F.K m (fun x H Q => (∃ a, x = .str a) ∧ r x [] H Q) f) : SemE F m (tM0 r ta) (e1 f ga) := sem_un (r := fun x H Q => (∃ a, x = .str a) ∧ r x [] H Q) ha hr
theorem sem_m1 {m : Md} {r : V → List V → Hp → VK → Prop} {f : D → D → Option D} {ta tb : TE} {ga gb : GE} (ha : SemE F .bo ta ga) (hb : SemE F .bo tb gb) (hs : ∀ ρ d, ga ρ = .ok d → e2 f ga gb ρ ≠ .stuck → ∃ x, d = .str x) (hr : OpS F.K m (fun x y H Q => r x [y] H Q) f) : SemE F m (tM1 r ta tb) (e2 f ga gb) := fun H0 hid0 s ρ S Q q => by
  refine ha H0 hid0 s ρ S _ ?_
  have hq : e2 f ga gb ρ ≠ .stuck := fun z => by rw [z] at q; exact q
  have hs := hs ρ
  unfold e2 at q
  split
  · rename_i d hd
    intro v H1 e1 r1
    rw [hd, bind_ok] at q
    obtain ⟨x, rfl⟩ := hs d hd hq
    refine ⟨⟨x, bo_str r1⟩, hb H0 hid0 { s with H := H1 } ρ (S.ext e1) _ ?_⟩
    split
    · rename_i d2 hd2
      intro u H2 e2 r2
      rw [hd2, bind_ok] at q
      cases hf : f (.str x) d2 with
      | none => rw [hf] at q; exact q.elim
      | some z =>
        rw [hf] at q
        exact hr s.hid H2 _ d2 z v u Q (dom_ex (e1.trans e2) S.dom) (bo_ext e2 r1) r2 hf fun v' H' e' r' => q v' H' ((e1.trans e2).trans e') (rm_back (e1.trans e2) r')
    · rename_i c hd2
      rw [hd2, bind_err] at q
      exact fun H2 e2 => q H2 (e1.trans e2)
    · rename_i hd2
      rw [hd2, bind_stuck] at q
      exact q
  · rename_i c hd
    rw [hd, bind_err] at q
    exact q
  · rename_i hd
    rw [hd, bind_stuck] at q
    exact q
/-- a text first, whatever the second part is -/
def dS (f : Str → D → Option D) : D → D → Option D
  | .str x, d => f x d
  | _, _ => none
def eM1 (f : Str → D → Option D) (a b : GE) : GE := fun ρ => (a ρ).bind fun x => match x with
  | .str x => (b ρ).bind fun y => lift (f x y)
  | _ => .stuck
theorem sem_m1' {m : Md} {r : V → List V → Hp → VK → Prop} {f : Str → D → Option D} {ta tb : TE} {ga gb : GE} (ha : SemE F .bo ta ga) (hb : SemE F .bo tb gb) (hr : OpS F.K m (fun x y H Q => r x [y] H Q) (dS f)) : SemE F m (tM1 r ta tb) (eM1 f ga gb) := fun H0 hid0 s ρ S Q q => by
  refine ha H0 hid0 s ρ S _ ?_
  unfold eM1 at q
  cases hd : ga ρ with
  | stuck => rw [hd] at q; exact q.elim
  | err c => rw [hd, bind_err] at q; exact q
  | ok d =>
    rw [hd, bind_ok] at q
    intro v H1 e1 r1
    cases d with
    | str x =>
      refine ⟨⟨x, bo_str r1⟩, hb H0 hid0 { s with H := H1 } ρ (S.ext e1) _ ?_⟩
      dsimp only at q
      cases hd2 : gb ρ with
      | stuck => rw [hd2] at q; exact q.elim
      | err c => rw [hd2, bind_err] at q; exact fun H2 e2 => q H2 (e1.trans e2)
      | ok d2 =>
        rw [hd2, bind_ok] at q
        intro u H2 e2 r2
        cases hf : f x d2 with
        | none => rw [hf] at q; exact q.elim
        | some z =>
          rw [hf] at q
          exact hr s.hid H2 (.str x) d2 z v u Q (dom_ex (e1.trans e2) S.dom) (bo_ext e2 r1) r2 hf fun v' H' e' r' => q v' H' ((e1.trans e2).trans e') (rm_back (e1.trans e2) r')
    | none => exact q.elim
    | bool _ => exact q.elim
    | int _ => exact q.elim
    | list _ => exact q.elim
    | tuple _ => exact q.elim
    | dict _ => exact q.elim
/-- s.split(t) -/
def dSplit (x : Str) : D → Option D
  | .str y => if y.length ≠ 0 ∧ x.length ≤ 1000000 then some (.list ((Txt.split x y).map .str)) else none
  | _ => none
theorem ops_split : OpS K .au (fun x y H Q => ∃ a b, x = V.str a ∧ [y] = [V.str b] ∧ (b.length == 0) = false ∧ a.length + 2 ≤ sizeLine ∧ rNewStrs (Txt.split a b) H Q) (dS dSplit) := fun hid H d e z x y Q dom rx ry hf q => by
  cases d <;> simp only [dS] at hf <;> try cases hf
  cases e <;> simp only [dSplit] at hf <;> try cases hf
  split at hf
  · rename_i hc
    cases hf
    have := bo_str rx
    subst this
    have := bo_str ry
    subst this
    exact ⟨_, _, rfl, rfl, by simpa using hc.1, Nat.le_trans (Nat.add_le_add_right hc.2 2) (by decide), fun p hp => q _ _ (Ex.new hp) (au_list hp MnA.of_strs)⟩
  · cases hf
theorem de_split {ma mb : Md} {a b : Expr} {ga gb : GE} {apos pos : Pos} (ha : DE F ma a ga) (hb : DE F mb b gb) (hs : ∀ env, starEach [b] env = [(false, eval b env)] := by intro _; rfl) (hbase : ∀ env, attributeBase a "split" env (eval a env) = eval a env := by intro _; rfl) (hline : (apos.endLine == pos.line) = true := by rfl) :
    DE F .au (.Call (.Attribute a "split" apos) [b] [] pos) (eM1 dSplit ga gb) := by
  obtain ⟨ta, pa, sa⟩ := de_any ha
  obtain ⟨tb, pb, sb⟩ := de_any hb
  exact ⟨_, fun i => pe_split (pa i) (pb i) (hs _) (hbase _) hline, sem_m1' sa sb ops_split⟩
/-- s.join(xs) -/
def sumL (ys : List Str) : Nat := (ys.map (·.length)).sum
def dJoin (x : Str) : D → Option D
  | .list ds => (strsOf ds).bind fun ys => if sumL ys + ys.length * x.length ≤ 1000000 then some (.str (Txt.join x ys)) else none
  | .tuple ds => (strsOf ds).bind fun ys => if sumL ys + ys.length * x.length ≤ 1000000 then some (.str (Txt.join x ys)) else none
  | _ => none
abbrev rJoinV (K : PySem.W.Frag) : V → List V → Hp → VK → Prop := fun x xs H Q => ∃ a p, ∃ ys : List Str, x = V.str a ∧ xs = [V.ref p] ∧ (SqL K H p (ys.map V.str) ∨ SqT K H p (ys.map V.str)) ∧ (ys.map (·.length)).sum + ys.length * a.length ≤ 16777216 ∧ Q (.str (Txt.join a ys)) H
theorem ops_join {m : Md} : OpS K m (fun x y H Q => rJoinV K x [y] H Q) (dS dJoin) := fun hid H d e z x y Q dom rx ry hf q => by
  cases d <;> simp only [dS] at hf <;> try cases hf
  have := bo_str rx
  subst this
  cases e <;> simp only [dJoin] at hf <;> try cases hf
  · rename_i x' ds
    obtain ⟨p, xs, rfl, h1, h2⟩ := bo_list ry
    cases hs : strsOf ds with
    | none => rw [hs] at hf; cases hf
    | some ys =>
      rw [hs] at hf
      have hf : (if sumL ys + ys.length * x'.length ≤ 1000000 then some (PyData.str (Txt.join x' ys)) else none) = some z := hf
      split at hf
      · rename_i hl
        cases hf
        have := strsOf_eq hs
        subst this
        have := h2.strs
        subst this
        exact ⟨_, p, ys, rfl, rfl, .inl (SqL.of h1), Nat.le_trans hl (by decide), q _ _ (Ex.refl _) rm_str⟩
      · cases hf
  · rename_i x' ds
    obtain ⟨p, xs, rfl, h1, h2⟩ := bo_tup ry
    cases hs : strsOf ds with
    | none => rw [hs] at hf; cases hf
    | some ys =>
      rw [hs] at hf
      have hf : (if sumL ys + ys.length * x'.length ≤ 1000000 then some (PyData.str (Txt.join x' ys)) else none) = some z := hf
      split at hf
      · rename_i hl
        cases hf
        have := strsOf_eq hs
        subst this
        have := h2.strs
        subst this
        exact ⟨_, p, ys, rfl, rfl, .inr (Evl.ex_t hide_ex h1), Nat.le_trans hl (by decide), q _ _ (Ex.refl _) rm_str⟩
      · cases hf
theorem de_join {m ma mb : Md} {a b : Expr} {ga gb : GE} {apos pos : Pos} (ha : DE F ma a ga) (hb : DE F mb b gb) (hs : ∀ env, starEach [b] env = [(false, eval b env)] := by intro _; rfl) (hbase : ∀ env, attributeBase a "join" env (eval a env) = eval a env := by intro _; rfl) (hline : (apos.endLine == pos.line) = true := by rfl) :
    DE F m (.Call (.Attribute a "join" apos) [b] [] pos) (eM1 dJoin ga gb) := by
  obtain ⟨ta, pa, sa⟩ := de_any ha
  obtain ⟨tb, pb, sb⟩ := de_any hb
  refine ⟨tM1 (rJoinV F.K) ta tb, fun i => ?_, sem_m1' sa sb ops_join⟩
  have z := pe_join (pa i) (pb i) (hs _) (hbase _) hline
  rw [F.hK i] at z
  exact z
/-- s.upper() -/
def dUpper : D → Option D
  | .str x => if x.length ≤ 1000000 then some (.str (Txt.upper x)) else none
  | _ => none
theorem uns_upper {m : Md} : UnS K m (fun x H Q => (∃ a, x = .str a) ∧ ∃ a, x = .str a ∧ ([] : List V) = [] ∧ a.length ≤ 5592405 ∧ Q (.str (Txt.upper a)) H) dUpper := fun hid H d z x Q dom rx hf q => by
  cases d <;> simp only [dUpper] at hf <;> try cases hf
  split at hf
  · rename_i hc
    cases hf
    have := bo_str rx
    subst this
    exact ⟨⟨_, rfl⟩, _, rfl, rfl, Nat.le_trans hc (by decide), q _ _ (Ex.refl _) rm_str⟩
  · cases hf
theorem de_upper {m ma : Md} {a : Expr} {ga : GE} {apos pos : Pos} (ha : DE F ma a ga) (hbase : ∀ env, attributeBase a "upper" env (eval a env) = eval a env := by intro _; rfl) (hline : (apos.endLine == pos.line) = true := by rfl) :
    DE F m (.Call (.Attribute a "upper" apos) [] [] pos) (e1 dUpper ga) := by
  obtain ⟨ta, pa, sa⟩ := de_any ha
  exact ⟨_, fun i => pe_upper (pa i) (hbase _) hline, sem_m0 sa uns_upper⟩
end
end DL
set_option Elab.async false
set_option linter.all false
set_option maxRecDepth 100000
set_option maxHeartbeats 4000000
namespace DL
open PySem PySem.Spec PyProof.Rows L2
variable [TabsC]
/-! ### defs, their calls -/
def WF (K : PySem.W.Frag) (cl : Nat → Value) (m : Md) (hid : List Addr) (H : Hp) (Q : VK) (E : XK) : Out D → Prop
  | .ok d => ∀ v H', Ex H H' → Rm K m hid H H' d v → Q v H'
  | .err c => ∀ H', Ex H H' → E (cl c) none H'
  | .stuck => False
def spD (K : PySem.W.Frag) (cl : Nat → Value) (n : Nat) (m : Md) (f : List D → Out D) : Sp := fun vs H Q E => vs.length = n ∧ LamX.Tabs TabsC.T H ∧ ∃ (hid : List Addr) (ds : List D), (∀ a ∈ hid, IsC (H a)) ∧ MnA K (hide hid H) ds vs ∧ WF K cl m hid H Q E (f ds)
structure FnD (P : Program) (w : World) (K : PySem.W.Frag) (mg : Str → Option Value) (base : Heap) (cl : Nat → Value) (x : Str) (n : Nat) (m : Md) (k : Nat) (f : List D → Out D) : Prop where
  ex : ∃ (fa : Addr) (fd : FuncData) (ps : List Str), FnOk P w K mg base (L2.CX P w) k fa fd ps (spD K cl n m f) ∧ mg x = some (.ref fa) ∧ PySem.W.keepIn K (.ref fa) = true ∧ L2.Binds K fd ps []
  ln : ∀ ds, ds.length ≠ n → f ds = .stuck
def eCall (f : List D → Out D) (a : GA) : GE := fun ρ => (a ρ).bind f
def imO : Out D → Out D
  | .ok d => if imm d then .ok d else .stuck
  | o => o
def eCallB (f : List D → Out D) (a : GA) : GE := fun ρ => (a ρ).bind fun ds => imO (f ds)
section
variable {F : Fam} {K : PySem.W.Frag}
theorem fnok_at {k : Nat} {fa : Addr} {fd : FuncData} {ps : List Str} {sp : Sp} (i : F.ι) (h : FnOk F.P F.w F.K F.mg F.base (L2.CX F.P F.w) k fa fd ps sp) : FnOk (F.X i).prog (F.X i).w (F.X i).K (F.X i).mg (F.X i).base (L2.CX F.P F.w) k fa fd ps sp := by
  rw [F.hP, F.hw, F.hK, F.hmg, F.hbase]
  exact h
theorem de_call {x : Str} {n k : Nat} {m : Md} {f : List D → Out D} {e : Expr} {es : List Expr} {ga : GA} {p pos : Pos} (h : FnD F.P F.w F.K F.mg F.base F.cl x n m k f) (hk : k ≤ F.lv) (ha : DA F .fz (e :: es) ga) (hg : F.sn.lookup x = some .globalImplicit := by rfl) (hdb : (x == ("__debug__" : Str)) = false := by decide)
    (he : ∀ env, starEach (e :: es) env = (false, eval e env) :: starEach es env := by intro _; rfl) (hpl : ∀ env, (backTo pos (starEach es env)).any (·.1) = false := by intro _; rfl) (hh : F.hot = false := by rfl) : DE F m (.Call (.Name x p) (e :: es) [] pos) (eCall f ga) := by
  obtain ⟨fa, fd, ps, hF, hm, hkp, hb⟩ := h.ex
  obtain ⟨ta, pa, sa⟩ := ha
  refine ⟨tCall (spD F.K F.cl n m f) [] F.E ta, fun i => pe_call (fnok_at i hF) ((F.room i).to (F.hd hh i) hk) (gl_of hg i) (by rw [F.hmg]; exact hm) (by rw [F.hK]; exact hkp) (by rw [F.hK]; exact hb) .nil (F.pas i) (pa i) hdb (he _) (hpl _), fun H0 hid0 s ρ S Q q => sa H0 hid0 s ρ S _ ?_⟩
  unfold eCall at q
  split
  · rename_i ds hd
    rw [hd, bind_ok] at q
    intro vs H1 e1 r1
    have mn := rma_mn r1
    show spD F.K F.cl n m f (vs ++ []) H1 Q F.E
    rw [List.append_nil]
    refine ⟨?_, (S.ex0.trans e1).tb S.tb0, s.hid, ds, knd_ex e1 S.knd, mn, ?_⟩
    · rw [mn.length]
      exact Classical.byContradiction fun z => by rw [h.ln ds z] at q; exact q
    · split at q
      · rename_i d hf
        rw [hf]
        exact fun v H' e r => q v H' (e1.trans e) (rm_back e1 r)
      · rename_i c hf
        rw [hf]
        exact fun H' e => q H' (e1.trans e)
      · exact q.elim
  · rename_i c hd
    rw [hd, bind_err] at q
    exact q
  · rename_i hd
    rw [hd, bind_stuck] at q
    exact q
/-- what is handed in may be a name's own list; what comes back has none within -/
theorem de_callO {m' : Md} {x : Str} {n k : Nat} {m : Md} {f : List D → Out D} {e : Expr} {es : List Expr} {ga : GA} {p pos : Pos} (h : FnD F.P F.w F.K F.mg F.base F.cl x n m k f) (hk : k ≤ F.lv) (ha : DA F .bo (e :: es) ga) (hg : F.sn.lookup x = some .globalImplicit := by rfl) (hdb : (x == ("__debug__" : Str)) = false := by decide)
    (he : ∀ env, starEach (e :: es) env = (false, eval e env) :: starEach es env := by intro _; rfl) (hpl : ∀ env, (backTo pos (starEach es env)).any (·.1) = false := by intro _; rfl) (hh : F.hot = false := by rfl) : DE F m' (.Call (.Name x p) (e :: es) [] pos) (eCallB f ga) := by
  obtain ⟨fa, fd, ps, hF, hm, hkp, hb⟩ := h.ex
  obtain ⟨ta, pa, sa⟩ := ha
  refine ⟨tCall (spD F.K F.cl n m f) [] F.E ta, fun i => pe_call (fnok_at i hF) ((F.room i).to (F.hd hh i) hk) (gl_of hg i) (by rw [F.hmg]; exact hm) (by rw [F.hK]; exact hkp) (by rw [F.hK]; exact hb) .nil (F.pas i) (pa i) hdb (he _) (hpl _), fun H0 hid0 s ρ S Q q => sa H0 hid0 s ρ S _ ?_⟩
  unfold eCallB at q
  split
  · rename_i ds hd
    rw [hd, bind_ok] at q
    intro vs H1 e1 r1
    have mn := rma_full r1
    show spD F.K F.cl n m f (vs ++ []) H1 Q F.E
    rw [List.append_nil]
    refine ⟨?_, (S.ex0.trans e1).tb S.tb0, [], ds, fun a h => (by cases h), mn, ?_⟩
    · rw [mn.length]
      exact Classical.byContradiction fun z => by rw [h.ln ds z] at q; exact q
    · cases hf : f ds with
      | stuck => rw [hf] at q; exact q
      | err c =>
        rw [hf] at q
        exact fun H' e => q H' (e1.trans e)
      | ok d =>
        rw [hf] at q
        have q : match (if imm d then Out.ok d else .stuck) with | .ok d => ∀ v H', Ex s.H H' → Rm F.K m' s.hid s.H H' d v → Q v H' | .err c => ∀ H', Ex s.H H' → F.E (F.cl c) none H' | .stuck => False := q
        by_cases hi : imm d = true
        · rw [if_pos hi] at q
          intro v H' e r
          refine q v H' (e1.trans e) (rm_plain (imm_con hi) (Mn.imm (knd_ex (e1.trans e) S.knd) d v hi ?_))
          have r' : Rm F.K .fz [] H1 H' d v := by
            cases m with
            | fz => exact r
            | bo =>
              rcases r with r | ⟨a, rfl, r⟩
              · exact r
              · have := imm_con hi
                cases d <;> simp [isCon] at this <;> exact r.elim
            | au => exact rm_fz (fun a h => by cases h) r
          have r' : Mn F.K (hide [] H') d v := r'
          exact Mn.mono hide_ex d v r'
        · rw [if_neg hi] at q
          exact q.elim
  · rename_i c hd
    rw [hd, bind_err] at q
    exact q
  · rename_i hd
    rw [hd, bind_stuck] at q
    exact q
end
/-! ### statements -/
def WS (F : Fam) (rm : Md) (H0 : Hp) (hid0 : List Addr) (Hf : Hp) (Dn : Ends) : Out Fl → Prop
  | .ok (.nx ρ') => ∀ s', Wx Hf (hide s'.hid s'.H) → Sees F.K H0 hid0 F.O s' ρ' → Dn.nx s'.σ s'.H
  | .ok (.rt d) => ∀ v H', Ex H0 H' → Rm F.K rm hid0 H0 H' d v → Dn.rt v H'
  | .ok (.bk ρ') => ∀ s', Wx Hf (hide s'.hid s'.H) → Sees F.K H0 hid0 F.O s' ρ' → Dn.bk s'.σ s'.H
  | .ok (.ct ρ') => ∀ s', Wx Hf (hide s'.hid s'.H) → Sees F.K H0 hid0 F.O s' ρ' → Dn.ct s'.σ s'.H
  | .err c => ∀ H', Ex H0 H' → F.E (F.cl c) none H'
  | .stuck => False
def SemS (F : Fam) (rm : Md) (t : TS) (g : GS) : Prop :=
  ∀ (H0 : Hp) (hid0 : List Addr) (s : Sx) (ρ : Env), Sees F.K H0 hid0 F.O s ρ → ∀ Dn : Ends, WS F rm H0 hid0 (hide s.hid s.H) Dn (g ρ) → t Dn s.σ s.H
def DS (F : Fam) (rm : Md) (st : Stmt) (g : GS) : Prop := ∃ t, (∀ i, PS (F.X i) st t) ∧ SemS F rm t g
def DSs (F : Fam) (rm : Md) (sts : List Stmt) (g : GS) : Prop := ∃ t, (∀ i, PSs (F.X i) sts t) ∧ SemS F rm t g
def sNil : GS := fun ρ => .ok (.nx ρ)
def sThen (o : Out Fl) (k : GS) : Out Fl := match o with
  | .ok (.nx ρ') => k ρ'
  | o => o
def sSeq (g k : GS) : GS := fun ρ => sThen (g ρ) k
section
variable {F : Fam} {rm : Md} {K : PySem.W.Frag} {H0 : Hp} {hid0 : List Addr} {s : Sx} {ρ : Env}
theorem WS.mono {Hf Hf' : Hp} {Dn : Ends} (e : Wx Hf Hf') : ∀ {o : Out Fl}, WS F rm H0 hid0 Hf Dn o → WS F rm H0 hid0 Hf' Dn o
  | .ok (.nx ρ'), q => fun s' e' => q s' (e.trans e')
  | .ok (.rt d), q => q
  | .ok (.bk ρ'), q => fun s' e' => q s' (e.trans e')
  | .ok (.ct ρ'), q => fun s' e' => q s' (e.trans e')
  | .err c, q => q
  | .stuck, q => q
theorem dss_nil : DSs F rm [] sNil := ⟨_, fun _ => pss_nil, fun H0 hid0 s ρ S Dn q => q s (Evl.Ex.refl _) S⟩
theorem sem_seq {t u : TS} {g k : GS} (h : SemS F rm t g) (h2 : SemS F rm u k) : SemS F rm (tSeq t u) (sSeq g k) := fun H0 hid0 s ρ S Dn q => by
  refine h H0 hid0 s ρ S { Dn with nx := u Dn } ?_
  unfold sSeq at q
  cases hg : g ρ with
  | stuck => rw [hg] at q; exact q
  | err c => rw [hg] at q; exact q
  | ok f =>
    rw [hg] at q
    cases f with
    | nx ρ' => exact fun s' e S' => h2 H0 hid0 s' ρ' S' Dn (WS.mono e q)
    | rt d => exact q
    | bk ρ' => exact q
    | ct ρ' => exact q
theorem dss_cons {st : Stmt} {rest : List Stmt} {g k : GS} (h : DS F rm st g) (h2 : DSs F rm rest k) : DSs F rm (st :: rest) (sSeq g k) :=
  ⟨_, fun i => pss_cons (h.choose_spec.1 i) (h2.choose_spec.1 i), sem_seq h.choose_spec.2 h2.choose_spec.2⟩
theorem dss_one {st : Stmt} {g : GS} (h : DS F rm st g) : DSs F rm [st] g := ⟨_, fun i => pss_one (h.choose_spec.1 i), h.choose_spec.2⟩
theorem fro (S : Sees F.K H0 hid0 F.O s ρ) {H' : Hp} (e : Ex s.H H') : Wx (hide s.hid s.H) (hide s.hid H') := hide_mono e
def sExpr (g : GE) : GS := fun ρ => (g ρ).bind fun _ => .ok (.nx ρ)
theorem ds_expr {m : Md} {e : Expr} {g : GE} {pos : Pos} (h : DE F m e g) (hs : ∀ env, swapsWith e none pos.line env = pure false := by intro _; rfl) : DS F rm (.Expr e pos) (sExpr g) := by
  obtain ⟨te, pe, se⟩ := h
  refine ⟨_, fun i => ps_expr (pe i) (hs _), fun H0 hid0 s ρ S Dn q => se H0 hid0 s ρ S _ ?_⟩
  unfold sExpr at q
  split
  · rename_i d hd
    rw [hd, bind_ok] at q
    exact fun v H' e r => q { s with H := H' } (hide_mono e) (S.ext e)
  · rename_i c hd
    rw [hd, bind_err] at q
    exact fun H' e => q H' (S.ex0.trans e)
  · rename_i hd
    rw [hd, bind_stuck] at q
    exact q
theorem ds_doc {x : Str} {j pos pos'} : DS F rm (.Expr (.Constant (.str x) j pos) pos') sNil := ⟨_, fun i => ps_doc, fun H0 hid0 s ρ S Dn q => q s (Evl.Ex.refl _) S⟩
theorem ds_pass {pos : Pos} : DS F rm (.Pass pos) sNil := ⟨_, fun i => ps_pass, fun H0 hid0 s ρ S Dn q => q s (Evl.Ex.refl _) S⟩
def sBrk : GS := fun ρ => .ok (.bk ρ)
def sCnt : GS := fun ρ => .ok (.ct ρ)
theorem ds_break {pos : Pos} : DS F rm (.Break pos) sBrk := ⟨_, fun i => ps_break, fun H0 hid0 s ρ S Dn q => q s (Evl.Ex.refl _) S⟩
theorem ds_continue {pos : Pos} : DS F rm (.Continue pos) sCnt := ⟨_, fun i => ps_continue, fun H0 hid0 s ρ S Dn q => q s (Evl.Ex.refl _) S⟩
/-! x = e -/
def sSet (i : Nat) (g : GE) : GS := fun ρ => (g ρ).bind fun d => .ok (.nx (ρ.set i (some d)))
theorem sem_set {i : Nat} {te : TE} {g : GE} (hO : F.O i = false) (h : SemE F .fz te g) : SemS F rm (tAsg te (gName i)) (sSet i g) := fun H0 hid0 s ρ S Dn q => by
  refine h H0 hid0 s ρ S _ ?_
  unfold sSet at q
  split
  · rename_i d hd
    rw [hd, bind_ok] at q
    exact fun v H' e r => q { s with σ := s.σ.set i (some v), H := H' } (hide_mono e) ((S.ext e).set hO r)
  · rename_i c hd
    rw [hd, bind_err] at q
    exact fun H' e => q H' (S.ex0.trans e)
  · rename_i hd
    rw [hd, bind_stuck] at q
    exact q
theorem ds_set (i : Nat) {x : Str} {e : Expr} {g : GE} {pos' pos : Pos} (h : DE F .fz e g) (hN : F.N[i]? = some x := by rfl) (hst : F.sto x = true := by rfl) (hO : F.O i = false := by rfl) (hs : ∀ env, swapsWith e (some (.Name x pos')) pos.line env = pure false := by intro _; rfl) : DS F rm (.Assign [.Name x pos'] e pos) (sSet i g) :=
  ⟨_, fun j => ps_set (by rw [F.hN]; exact F.nd) (by rw [F.hN]; exact hN) (F.hsto j x hst).1 (h.choose_spec.1 j) (hs _) (F.hsto j x hst).2, sem_set hO h.choose_spec.2⟩
/-- a slot takes a new list or dict as its own -/
theorem Sees.take (S : Sees F.K H0 hid0 F.O s ρ) {i : Nat} {d : D} {H' : Hp} {a : Addr} (hO : F.O i = true) (e : Ex s.H H') (hn : noT (s.H a) = none) (h : OwnAt F.K s.hid H' a d) :
    Sees F.K H0 hid0 F.O { hid := a :: s.hid, own := fun j => if j = i then some a else s.own j, σ := s.σ.set i (some (.ref a)), H := H' } (ρ.set i (some d)) ∧ Wx (hide s.hid s.H) (hide (a :: s.hid) H') := by
  have fx : Wx (hide s.hid s.H) (hide (a :: s.hid) H') := by
    exact hide_new hn e
  have hc : isCon d = true ∧ IsC (H' a) := by
    cases d with
    | list ds => obtain ⟨xs, h1, _⟩ := h; exact ⟨rfl, by rw [h1]; trivial⟩
    | dict ds => obtain ⟨xs, h1, _⟩ := h; exact ⟨rfl, by rw [h1]; trivial⟩
    | none => exact h.elim
    | bool _ => exact h.elim
    | int _ => exact h.elim
    | str _ => exact h.elim
    | tuple _ => exact h.elim
  have na : ∀ j b, s.own j = some b → b ≠ a := fun j b hj z => by
    have := S.dom b (S.oh j b hj).1
    rw [z] at this
    exact this hn
  have n0 : noT (H0 a) = none := fresh_back S.ex0 hn
  -- what is owned, under one address hidden more
  have ow' : ∀ {b : Addr} {d : D}, b ≠ a → OwnAt F.K s.hid s.H b d → OwnAt F.K (a :: s.hid) H' b d := fun {b d} hb o => by
    cases d with
    | list ds =>
      obtain ⟨xs, q1, q2⟩ := o
      exact ⟨xs, e.l q1, MnA.mono ((hide_new (hid := b :: s.hid) hn e).trans hide_swap) ds xs q2⟩
    | dict ps =>
      obtain ⟨xs, q1, q2⟩ := o
      exact ⟨xs, e.d q1, MnK.mono ((hide_new (hid := b :: s.hid) hn e).trans hide_swap) ps xs q2⟩
    | none => exact o.elim
    | bool _ => exact o.elim
    | int _ => exact o.elim
    | str _ => exact o.elim
    | tuple _ => exact o.elim
  have new : OwnAt F.K (a :: s.hid) H' a d := by
    have hh : Wx (hide (a :: s.hid) H') (hide (a :: a :: s.hid) H') := hide_sub fun b hb => by
      simp only [List.mem_cons] at hb ⊢
      rcases hb with hb | hb | hb
      · exact .inl hb
      · exact .inl hb
      · exact .inr hb
    cases d with
    | list ds =>
      obtain ⟨xs, q1, q2⟩ := h
      exact ⟨xs, q1, MnA.mono hh ds xs q2⟩
    | dict ps =>
      obtain ⟨xs, q1, q2⟩ := h
      exact ⟨xs, q1, MnK.mono hh ps xs q2⟩
    | none => exact h.elim
    | bool _ => exact h.elim
    | int _ => exact h.elim
    | str _ => exact h.elim
    | tuple _ => exact h.elim
  refine ⟨⟨?_, S.ex0.trans e, fun b hb => List.mem_cons_of_mem _ (S.sub b hb), fun b hb => ?_, S.dom0, S.tb0, fun j d' h1 h2 => ?_, fun j d' h1 h2 => ?_, fun j b hj => ?_, fun j k b hj hk => ?_⟩, fx⟩
  · show (s.σ.set i (some (.ref a))).length = _
    rw [List.length_set, List.length_set]
    exact S.len
  · rcases List.mem_cons.mp hb with rfl | hb
    · exact hc.2
    · exact knd_ex e S.knd b hb
  · show ∃ v, (s.σ.set i (some (.ref a)))[j]? = some (some v) ∧ _
    have hj : i ≠ j := fun z => by rw [← z, hO] at h1; cases h1
    rw [List.getElem?_set_ne hj] at h2 ⊢
    obtain ⟨v, q1, q2⟩ := S.fz j d' h1 h2
    exact ⟨v, q1, Mn.mono fx d' v q2⟩
  · show ∃ b, (s.σ.set i (some (.ref a)))[j]? = some (some (V.ref b)) ∧ (if j = i then some a else s.own j) = some b ∧ _
    by_cases hj : i = j
    · subst hj
      by_cases hl : i < ρ.length
      · rw [List.getElem?_set_self hl] at h2
        cases h2
        refine ⟨a, List.getElem?_set_self (by rw [S.len]; exact hl), if_pos rfl, ?_⟩
        exact new
      · rw [List.getElem?_eq_none (by rw [List.length_set]; omega)] at h2
        cases h2
    · rw [List.getElem?_set_ne hj] at h2 ⊢
      obtain ⟨b, q1, q2, q3⟩ := S.ow j d' h1 h2
      exact ⟨b, q1, by rw [if_neg (Ne.symm hj)]; exact q2, ow' (na j b q2) q3⟩
  · have hj : (if j = i then some a else s.own j) = some b := hj
    split at hj
    · cases hj
      exact ⟨List.mem_cons_self, n0⟩
    · exact ⟨List.mem_cons_of_mem _ (S.oh j b hj).1, (S.oh j b hj).2⟩
  · have hj : (if j = i then some a else s.own j) = some b := hj
    have hk : (if k = i then some a else s.own k) = some b := hk
    split at hj
    · split at hk
      · rename_i e1 e2; rw [e1, e2]
      · cases hj
        exact absurd rfl (na k a hk)
    · split at hk
      · cases hk
        exact absurd rfl (na j a hj)
      · exact S.inj j k b hj hk
end
end DL
set_option Elab.async false
set_option linter.all false
set_option maxRecDepth 100000
set_option maxHeartbeats 4000000
namespace DL
open PySem PySem.Spec PyProof.Rows L2
variable [TabsC]
section
variable {F : Fam} {rm : Md} {K : PySem.W.Frag} {H0 : Hp} {hid0 : List Addr} {s : Sx} {ρ : Env}
/-! ### if -/
def sIf (c : GT) (a b : GS) : GS := fun ρ => (c ρ).bind fun k => bif k then a ρ else b ρ
theorem sem_ifS {tc : TT} {t u : TS} {c : GT} {a b : GS} (hc : SemT F tc c) (ha : SemS F rm t a) (hb : SemS F rm u b) : SemS F rm (tIfS tc t u) (sIf c a b) := fun H0 hid0 s ρ S Dn q => by
  refine hc H0 hid0 s ρ S _ ?_
  unfold sIf at q
  split
  · rename_i k hk
    rw [hk, bind_ok] at q
    intro H' e
    cases k with
    | true =>
      rw [if_pos rfl]
      exact ha H0 hid0 { s with H := H' } ρ (S.ext e) Dn (WS.mono (hide_mono e) q)
    | false =>
      rw [if_neg Bool.false_ne_true]
      exact hb H0 hid0 { s with H := H' } ρ (S.ext e) Dn (WS.mono (hide_mono e) q)
  · rename_i k hk
    rw [hk, bind_err] at q
    exact fun H' e => q H' (S.ex0.trans e)
  · rename_i hk
    rw [hk, bind_stuck] at q
    exact q
theorem ds_if {c : Expr} {a b : List Stmt} {pos : Pos} {gc : GT} {ga gb : GS} (hc : DT F c gc) (ha : DSs F rm a ga) (hb : DSs F rm b gb) : DS F rm (.If c a b pos) (sIf gc ga gb) :=
  ⟨_, fun i => ps_if (hc.choose_spec.1 i) (ha.choose_spec.1 i) (hb.choose_spec.1 i), sem_ifS hc.choose_spec.2 ha.choose_spec.2 hb.choose_spec.2⟩
/-! ### return -/
def sRet (g : GE) : GS := fun ρ => (g ρ).bind fun d => .ok (.rt d)
theorem rm_out {m : Md} {H' : Hp} {d : D} {v : V} (S : Sees F.K H0 hid0 F.O s ρ) (e : Ex s.H H') (r : Rm F.K m s.hid s.H H' d v) (hm : m ≠ .bo) : Rm F.K m hid0 H0 H' d v := by
  cases m with
  | fz => exact Mn.mono (hide_sub S.sub) d v r
  | bo => exact (hm rfl).elim
  | au =>
    unfold Rm at r ⊢
    dsimp only at r ⊢
    split at r
    · rename_i hc
      rw [if_pos hc]
      obtain ⟨a, h1, h2, h3⟩ := r
      refine ⟨a, h1, fresh_back S.ex0 h2, ?_⟩
      have hs : ∀ b ∈ a :: hid0, b ∈ a :: s.hid := fun b hb => by
        rcases List.mem_cons.mp hb with rfl | hb
        · exact List.mem_cons_self
        · exact List.mem_cons_of_mem _ (S.sub b hb)
      cases d with
      | list ds => obtain ⟨xs, q1, q2⟩ := h3; exact ⟨xs, q1, MnA.mono (hide_sub hs) ds xs q2⟩
      | dict ds => obtain ⟨xs, q1, q2⟩ := h3; exact ⟨xs, q1, MnK.mono (hide_sub hs) ds xs q2⟩
      | none => exact h3.elim
      | bool _ => exact h3.elim
      | int _ => exact h3.elim
      | str _ => exact h3.elim
      | tuple _ => exact h3.elim
    · rename_i hc
      rw [if_neg hc]
      exact Mn.mono (hide_sub S.sub) d v r
theorem ds_ret {e : Expr} {g : GE} {pos : Pos} (h : DE F rm e g) (hm : rm ≠ .bo := by decide) : DS F rm (.Return (some e) pos) (sRet g) := by
  obtain ⟨te, pe, se⟩ := h
  refine ⟨_, fun i => ps_ret (pe i), fun H0 hid0 s ρ S Dn q => se H0 hid0 s ρ S _ ?_⟩
  unfold sRet at q
  split
  · rename_i d hd
    rw [hd, bind_ok] at q
    exact fun v H' e r => q v H' (S.ex0.trans e) (rm_out S e r hm)
  · rename_i c hd
    rw [hd, bind_err] at q
    exact fun H' e => q H' (S.ex0.trans e)
  · rename_i hd
    rw [hd, bind_stuck] at q
    exact q
/-- what a slot owns is given back -/
theorem ds_retO (i : Nat) {x : Str} {p pos : Pos} (hN : F.N[i]? = some x := by rfl) (hv : visB F.sn x = true := by rfl) (hO : F.O i = true := by rfl) (hm : rm ≠ .bo := by decide)
    (hd : (x == ("__debug__" : Str)) = false := by decide) (hcd : (x == ("__classdict__" : Str)) = false := by decide) : DS F rm (.Return (some (.Name x p)) pos) (sRet (eVar i)) := by
  refine ⟨_, fun j => ps_ret (pe_var (i := i) (by rw [F.hN]; exact hN) (vis_of (by rw [F.hsn]; exact hv)) hd hcd), fun H0 hid0 s ρ S Dn q => ?_⟩
  unfold sRet eVar at q
  split at q
  · rename_i d h
    rw [bind_ok] at q
    obtain ⟨a, h1, h2, h3⟩ := S.ow i d hO h
    obtain ⟨ha, hn⟩ := S.oh i a h2
    refine ⟨.ref a, h1, q _ s.H S.ex0 ?_⟩
    have hs : ∀ b ∈ a :: hid0, b ∈ a :: s.hid := fun b hb => by
      rcases List.mem_cons.mp hb with rfl | hb
      · exact List.mem_cons_self
      · exact List.mem_cons_of_mem _ (S.sub b hb)
    have key : OwnAt F.K hid0 s.H a d ∧ isCon d = true := by
      cases d with
      | list ds => obtain ⟨xs, q1, q2⟩ := h3; exact ⟨⟨xs, q1, MnA.mono (hide_sub hs) ds xs q2⟩, rfl⟩
      | dict ds => obtain ⟨xs, q1, q2⟩ := h3; exact ⟨⟨xs, q1, MnK.mono (hide_sub hs) ds xs q2⟩, rfl⟩
      | none => exact h3.elim
      | bool _ => exact h3.elim
      | int _ => exact h3.elim
      | str _ => exact h3.elim
      | tuple _ => exact h3.elim
    have hau : Rm F.K .au hid0 H0 s.H d (.ref a) := by
      unfold Rm
      dsimp only
      rw [if_pos key.2]
      exact ⟨a, rfl, hn, key.1⟩
    cases rm with
    | fz => exact rm_fz S.dom0 hau
    | bo => exact (hm rfl).elim
    | au => exact hau
  · exact q.elim
/-! ### an owned slot is set -/
def sOwn (i : Nat) (g : GE) : GS := fun ρ => (g ρ).bind fun d => bif isCon d then .ok (.nx (ρ.set i (some d))) else .stuck
theorem sem_own_set {i : Nat} {te : TE} {g : GE} (hO : F.O i = true) (h : SemE F .au te g) : SemS F rm (tAsg te (gName i)) (sOwn i g) := fun H0 hid0 s ρ S Dn q => by
  refine h H0 hid0 s ρ S _ ?_
  unfold sOwn at q
  split
  · rename_i d hd
    rw [hd, bind_ok] at q
    intro v H' e r
    unfold Rm at r
    dsimp only at r
    by_cases hc : isCon d = true
    · rw [hc] at q
      rw [if_pos hc] at r
      obtain ⟨a, rfl, hn, ho⟩ := r
      obtain ⟨S', x⟩ := S.take (i := i) hO e hn ho
      exact q _ x S'
    · rw [Bool.not_eq_true] at hc
      rw [hc] at q
      exact q.elim
  · rename_i c hd
    rw [hd, bind_err] at q
    exact fun H' e => q H' (S.ex0.trans e)
  · rename_i hd
    rw [hd, bind_stuck] at q
    exact q
theorem ds_setO (i : Nat) {x : Str} {e : Expr} {g : GE} {pos' pos : Pos} (h : DE F .au e g) (hN : F.N[i]? = some x := by rfl) (hst : F.sto x = true := by rfl) (hO : F.O i = true := by rfl) (hs : ∀ env, swapsWith e (some (.Name x pos')) pos.line env = pure false := by intro _; rfl) : DS F rm (.Assign [.Name x pos'] e pos) (sOwn i g) :=
  ⟨_, fun j => ps_set (by rw [F.hN]; exact F.nd) (by rw [F.hN]; exact hN) (F.hsto j x hst).1 (h.choose_spec.1 j) (hs _) (F.hsto j x hst).2, sem_own_set hO h.choose_spec.2⟩
/-! ### target = e -/
def sTg (g : GE) (tg : Tg) : GS := fun ρ => (g ρ).bind fun d => match tg d ρ with
  | some ρ' => .ok (.nx ρ')
  | none => .stuck
theorem ds_tg {tgx e : Expr} {g : GE} {tg : Tg} {js : List Nat} {pos : Pos} (h : DE F .fz e g) (hg : DG F tgx tg js) (hs : ∀ env, swapsWithSole [tgx] e pos.line env = pure false := by intro _; rfl) (hw : ∀ env, swappedStores [tgx] e env = pure none := by intro _; rfl)
    (h1 : ∀ env, (assignEach [tgx] env).map (·.2) = [assign tgx env] := by intro _; rfl) : DS F rm (.Assign [tgx] e pos) (sTg g tg) := by
  obtain ⟨te, pe, se⟩ := h
  obtain ⟨gg, pg, sg⟩ := hg
  refine ⟨_, fun i => ps_asg (pe i) (pg i) (hs _) (hw _) (h1 _), fun H0 hid0 s ρ S Dn q => se H0 hid0 s ρ S _ ?_⟩
  unfold sTg at q
  split
  · rename_i d hd
    rw [hd, bind_ok] at q
    intro v H' e r
    cases ht : tg d ρ with
    | none => rw [ht] at q; exact q.elim
    | some ρ' =>
      rw [ht] at q
      exact sg H0 hid0 { s with H := H' } ρ ρ' d v (S.ext e) r ht _ fun σ' S' _ _ => q { s with σ := σ', H := H' } (hide_mono e) S'
  · rename_i c hd
    rw [hd, bind_err] at q
    exact fun H' e => q H' (S.ex0.trans e)
  · rename_i hd
    rw [hd, bind_stuck] at q
    exact q
/-! ### while, with fuel -/
def whGo (c : GT) (b : GS) : Nat → Env → Out Fl
  | 0, _ => .stuck
  | n + 1, ρ => (c ρ).bind fun k => bif k then (match b ρ with
      | .ok (.nx ρ') => whGo c b n ρ'
      | .ok (.ct ρ') => whGo c b n ρ'
      | .ok (.bk ρ') => .ok (.nx ρ')
      | o => o) else .ok (.nx ρ)
def sWhile (n : Nat) (c : GT) (b : GS) : GS := whGo c b n
theorem ds_while (n : Nat) {c : Expr} {body : List Stmt} {pos : Pos} {gc : GT} {gb : GS} (hc : DT F c gc) (hb : DSs F rm body gb) : DS F rm (.While c body [] pos) (sWhile n gc gb) := by
  obtain ⟨tc, pc, sc⟩ := hc
  obtain ⟨tb, pb, sb⟩ := hb
  refine ⟨_, fun i => ps_while (F.own i) (pc i) (pb i), fun H0 hid0 s ρ S Dn q => ?_⟩
  refine ⟨fun m σ H => ∃ s' ρ', s'.σ = σ ∧ s'.H = H ∧ Sees F.K H0 hid0 F.O s' ρ' ∧ WS F rm H0 hid0 (hide s'.hid s'.H) Dn (whGo gc gb m ρ'), ⟨n, s, ρ, rfl, rfl, S, q⟩, ?_⟩
  rintro m σ H ⟨s', ρ', rfl, rfl, S', q'⟩
  refine sc H0 hid0 s' ρ' S' _ ?_
  cases m with
  | zero => exact q'.elim
  | succ m =>
    unfold whGo at q'
    split
    · rename_i k hk
      rw [hk, bind_ok] at q'
      intro H' e
      cases k with
      | false =>
        rw [if_neg Bool.false_ne_true]
        exact q' { s' with H := H' } (hide_mono e) (S'.ext e)
      | true =>
        rw [if_pos rfl]
        refine ⟨fun σ2 H2 => ∃ s2 ρ2, s2.σ = σ2 ∧ s2.H = H2 ∧ Sees F.K H0 hid0 F.O s2 ρ2 ∧ WS F rm H0 hid0 (hide s2.hid s2.H) Dn (whGo gc gb m ρ2), fun σ2 H2 ⟨s2, ρ2, a, b, c, d⟩ => ⟨m, Nat.lt_succ_self m, s2, ρ2, a, b, c, d⟩, ?_⟩
        refine sb H0 hid0 { s' with H := H' } ρ' (S'.ext e) _ ?_
        have q2 : WS F rm H0 hid0 (hide s'.hid H') Dn (match gb ρ' with
          | .ok (.nx ρ') => whGo gc gb m ρ'
          | .ok (.ct ρ') => whGo gc gb m ρ'
          | .ok (.bk ρ') => .ok (.nx ρ')
          | o => o) := WS.mono (hide_mono e) q'
        cases hb : gb ρ' with
        | stuck => rw [hb] at q2; exact q2
        | err c => rw [hb] at q2; exact q2
        | ok f =>
          rw [hb] at q2
          cases f with
          | nx ρ2 => exact fun s2 e2 S2 => ⟨s2, ρ2, rfl, rfl, S2, WS.mono e2 q2⟩
          | ct ρ2 => exact fun s2 e2 S2 => ⟨s2, ρ2, rfl, rfl, S2, WS.mono e2 q2⟩
          | bk ρ2 => exact q2
          | rt d => exact q2
    · rename_i c hk
      rw [hk, bind_err] at q'
      exact fun H' e => q' H' (S'.ex0.trans e)
    · rename_i hk
      rw [hk, bind_stuck] at q'
      exact q'
/-! ### for -/
def forGo (tg : Tg) (b : GS) : List D → Env → Out Fl
  | [], ρ => .ok (.nx ρ)
  | d :: ds, ρ => match tg d ρ with
    | none => .stuck
    | some ρ1 => match b ρ1 with
      | .ok (.nx ρ') => forGo tg b ds ρ'
      | .ok (.ct ρ') => forGo tg b ds ρ'
      | .ok (.bk ρ') => .ok (.nx ρ')
      | o => o
def sFor (gi : GA) (tg : Tg) (b : GS) : GS := fun ρ => (gi ρ).bind fun ds => forGo tg b ds ρ
theorem ds_for {tgx iter : Expr} {body : List Stmt} {pos : Pos} {gi : GA} {tg : Tg} {js : List Nat} {gb : GS} (hi : DI F .fz tgx iter gi) (hg : DG F tgx tg js) (hb : DSs F rm body gb) (hs : ∀ env x, foldedSetIterable iter env x = pure x := by intro _ _; rfl) (hc : F.hot = false := by rfl) :
    DS F rm (.For tgx iter body [] pos) (sFor gi tg gb) := by
  obtain ⟨wi, pi, si⟩ := hi
  obtain ⟨g, pg, sg⟩ := hg
  obtain ⟨tb, pb, sb⟩ := hb
  refine ⟨_, fun i => ps_for (F.own i) (F.calm hc i) (pi i) (pg i) (pb i) (hs _), fun H0 hid0 s ρ S Dn q => si H0 hid0 s ρ S _ ?_⟩
  unfold sFor at q
  cases hds : gi ρ with
  | stuck => rw [hds] at q; exact q.elim
  | err c => rw [hds, bind_err] at q; exact fun H' e => q H' (S.ex0.trans e)
  | ok ds =>
    rw [hds, bind_ok] at q
    intro J H1 e1 W
    have W : Walks F.K J (hide s.hid H1) (hide s.hid H1) ds := W
    refine ⟨fun i n σ H => n = ds.length - i ∧ i ≤ ds.length ∧ ∃ s' ρ', s'.σ = σ ∧ s'.H = H ∧ Sees F.K H0 hid0 F.O s' ρ' ∧ Wx (hide s.hid H1) (hide s'.hid s'.H) ∧ WS F rm H0 hid0 (hide s'.hid s'.H) Dn (forGo tg gb (ds.drop i) ρ'),
      ⟨ds.length, by simp, Nat.zero_le _, { s with H := H1 }, ρ, rfl, rfl, S.ext e1, Evl.Ex.refl _, WS.mono (hide_mono e1) (by rw [List.drop_zero]; exact q)⟩, ?_⟩
    rintro i n σ H ⟨hn, hi2, s', ρ', rfl, rfl, S', x', q'⟩
    by_cases hlt : i < ds.length
    · have hd : ds[i]? = some ds[i] := List.getElem?_eq_getElem hlt
      obtain ⟨go, yl⟩ := W.at_ s'.hid s'.H (x'.trans hide_ex) x' S'.dom i _ hd
      rw [List.drop_eq_getElem_cons hlt] at q'
      refine .inr ⟨go, fun σ2 H2 => ∃ s2 ρ2, s2.σ = σ2 ∧ s2.H = H2 ∧ Sees F.K H0 hid0 F.O s2 ρ2 ∧ Wx (hide s.hid H1) (hide s2.hid s2.H) ∧ WS F rm H0 hid0 (hide s2.hid s2.H) Dn (forGo tg gb (ds.drop (i + 1)) ρ2),
        fun σ2 H2 z => ⟨n - 1, by omega, by omega, by omega, z⟩, fun x H2 hy => ?_⟩
      obtain ⟨e2, mx⟩ := yl x H2 hy
      unfold forGo at q'
      cases htg : tg ds[i] ρ' with
      | none => rw [htg] at q'; exact q'.elim
      | some ρ1 =>
        rw [htg] at q'
        refine sg H0 hid0 { s' with H := H2 } ρ' ρ1 _ x (S'.ext e2) mx htg _ fun σ2 S2 _ _ => ?_
        refine sb H0 hid0 { s' with σ := σ2, H := H2 } ρ1 S2 _ ?_
        have q2 := WS.mono (rm := rm) (H0 := H0) (hid0 := hid0) (Dn := Dn) (hide_mono (hid := s'.hid) e2) q'
        dsimp only at q2
        have xx : Wx (hide s.hid H1) (hide s'.hid H2) := x'.trans (hide_mono e2)
        cases hb : gb ρ1 with
        | stuck => rw [hb] at q2; exact q2
        | err c => rw [hb] at q2; exact q2
        | ok f =>
          rw [hb] at q2
          cases f with
          | nx ρ3 => exact fun s3 e3 S3 => ⟨s3, ρ3, rfl, rfl, S3, xx.trans e3, WS.mono e3 q2⟩
          | ct ρ3 => exact fun s3 e3 S3 => ⟨s3, ρ3, rfl, rfl, S3, xx.trans e3, WS.mono e3 q2⟩
          | bk ρ3 => exact q2
          | rt d => exact q2
    · have hi3 : i = ds.length := by omega
      subst hi3
      rw [List.drop_length] at q'
      exact .inl ⟨W.end_ s'.hid s'.H (x'.trans hide_ex) x' S'.dom, q' s' (Evl.Ex.refl _) S'⟩
end
end DL
set_option Elab.async false
set_option linter.all false
set_option maxRecDepth 100000
set_option maxHeartbeats 4000000
namespace DL
open PySem PySem.Spec PyProof.Rows L2
variable [TabsC]
section
variable {F : Fam} {rm : Md} {K : PySem.W.Frag} {H0 : Hp} {hid0 : List Addr} {O : Nat → Bool} {s : Sx} {ρ : Env}
theorem hide_dup {hid : List Addr} {a : Addr} {H : Hp} (h : a ∈ hid) : hide (a :: hid) H = hide hid H := by
  funext b
  unfold hide
  by_cases hb : b ∈ hid
  · rw [if_pos hb, if_pos (List.mem_cons_of_mem _ hb)]
  · rw [if_neg hb, if_neg (fun z => by
      rcases List.mem_cons.mp z with z | z
      · exact hb (by rw [z]; exact h)
      · exact hb z)]
theorem OwnAt.isC {hid : List Addr} {H : Hp} {a : Addr} {d : D} (h : OwnAt K hid H a d) : IsC (H a) ∧ isCon d = true := by
  cases d with
  | list ds => obtain ⟨xs, h1, _⟩ := h; exact ⟨by rw [h1]; trivial, rfl⟩
  | dict ds => obtain ⟨xs, h1, _⟩ := h; exact ⟨by rw [h1]; trivial, rfl⟩
  | none => exact h.elim
  | bool _ => exact h.elim
  | int _ => exact h.elim
  | str _ => exact h.elim
  | tuple _ => exact h.elim
/-- what a slot owns is changed in place -/
theorem Sees.put (S : Sees K H0 hid0 O s ρ) {i : Nat} {d : D} {a : Addr} {o : HO} (hO : O i = true) (hσ : s.σ[i]? = some (some (.ref a))) (hw : s.own i = some a) (h : OwnAt K s.hid (upd s.H a o) a d) :
    Sees K H0 hid0 O { s with H := upd s.H a o } (ρ.set i (some d)) ∧ Wx (hide s.hid s.H) (hide s.hid (upd s.H a o)) := by
  obtain ⟨ha, hn⟩ := S.oh i a hw
  have e : hide s.hid (upd s.H a o) = hide s.hid s.H := hide_upd ha
  refine ⟨⟨?_, Ex.mut S.ex0 hn (S.knd a ha), S.sub, fun b hb => ?_, S.dom0, S.tb0, fun j d' h1 h2 => ?_, fun j d' h1 h2 => ?_, S.oh, S.inj⟩, by rw [e]; exact Evl.Ex.refl _⟩
  · show s.σ.length = _
    rw [List.length_set]
    exact S.len
  · show IsC (upd s.H a o b)
    by_cases q : b = a
    · rw [q]; exact h.isC.1
    · rw [upd_ne q]; exact S.knd b hb
  · have hj : i ≠ j := fun z => by rw [← z, hO] at h1; cases h1
    rw [List.getElem?_set_ne hj] at h2
    obtain ⟨v, q1, q2⟩ := S.fz j d' h1 h2
    refine ⟨v, q1, ?_⟩
    show Mn K (hide s.hid (upd s.H a o)) d' v
    rw [e]
    exact q2
  · by_cases hj : i = j
    · subst hj
      by_cases hl : i < ρ.length
      · rw [List.getElem?_set_self hl] at h2
        cases h2
        exact ⟨a, hσ, hw, h⟩
      · rw [List.getElem?_eq_none (by rw [List.length_set]; omega)] at h2
        cases h2
    · rw [List.getElem?_set_ne hj] at h2
      obtain ⟨b, q1, q2, q3⟩ := S.ow j d' h1 h2
      refine ⟨b, q1, q2, ?_⟩
      have hb : b ≠ a := fun z => hj (S.inj i j a hw (by rw [← z]; exact q2))
      have e2 : hide (b :: s.hid) (upd s.H a o) = hide (b :: s.hid) s.H := hide_upd (List.mem_cons_of_mem _ ha)
      show OwnAt K s.hid (upd s.H a o) b d'
      cases d' with
      | list ds =>
        obtain ⟨xs, z1, z2⟩ := q3
        exact ⟨xs, by rw [upd_ne hb]; exact z1, by rw [e2]; exact z2⟩
      | dict ps =>
        obtain ⟨xs, z1, z2⟩ := q3
        exact ⟨xs, by rw [upd_ne hb]; exact z1, by rw [e2]; exact z2⟩
      | none => exact q3.elim
      | bool _ => exact q3.elim
      | int _ => exact q3.elim
      | str _ => exact q3.elim
      | tuple _ => exact q3.elim
theorem ownL {a : Addr} {xs : List V} (h : a ∈ s.hid) {ds : List D} (m : MnA K (hide s.hid s.H) ds xs) : OwnAt K s.hid (upd s.H a (.lst xs)) a (.list ds) :=
  ⟨xs, upd_same, by rw [hide_upd List.mem_cons_self, hide_dup h]; exact m⟩
theorem ownD {a : Addr} {xs : List (Key × V)} (h : a ∈ s.hid) {ps : List (D × D)} (m : MnK K (hide s.hid s.H) ps xs) : OwnAt K s.hid (upd s.H a (.dK xs)) a (.dict ps) :=
  ⟨xs, upd_same, by rw [hide_upd List.mem_cons_self, hide_dup h]; exact m⟩
/-! ### x.append(e) -/
def sApp (i : Nat) (g : GE) : GS := fun ρ => match ρ[i]? with
  | some (some (.list ds)) => (g ρ).bind fun d => if ds.length < 1000000 then .ok (.nx (ρ.set i (some (.list (ds ++ [d]))))) else .stuck
  | _ => .stuck
theorem ds_append (i : Nat) {x : Str} {e : Expr} {g : GE} {p apos cpos pos : Pos} (h : DE F .fz e g) (hN : F.N[i]? = some x := by rfl) (hv : visB F.sn x = true := by rfl) (hO : F.O i = true := by rfl)
    (hfew : ∀ env, ((backTo cpos (starEach [e] env)).all (fun x => !x.1) && (backToKw cpos (keywordEach [] env)).all (fun x => x.1.isSome) && decide ([e].length + ([] : List Keyword).length + (if ([] : List Keyword).isEmpty then 0 else 1) < 30)) = true := by intro _; rfl)
    (hline : (apos.endLine == cpos.line) = true := by rfl) (hs : ∀ env, starEach [e] env = (false, eval e env) :: starEach [] env := by intro _; rfl) (hsw : ∀ env, swapsWith (.Call (.Attribute (.Name x p) "append" apos) [e] [] cpos) none pos.line env = pure false := by intro _; rfl)
    (hd : (x == ("__debug__" : Str)) = false := by decide) (hcd : (x == ("__classdict__" : Str)) = false := by decide) : DS F rm (.Expr (.Call (.Attribute (.Name x p) "append" apos) [e] [] cpos) pos) (sApp i g) := by
  obtain ⟨te, pe, se⟩ := h
  refine ⟨tDrop (tBM F.K "list" rAppend (tVar i) (tCons te tNil)), fun j => ps_expr ?_ (hsw _), fun H0 hid0 s ρ S Dn q => ?_⟩
  · have z := pe_bm PySem.F.plainAttrs_list PySem.F.slot_list_append PySem.F.type_list_append mt_append (pe_var (pos := p) (i := i) (by rw [F.hN]; exact hN) (vis_of (by rw [F.hsn]; exact hv)) hd hcd) (pa_cons (pe j) pa_nil (hs _)) rfl (hfew _) hline (hs _) rfl
    rw [F.hK j] at z
    exact z
  unfold sApp at q
  split at q
  · rename_i ds hi
    obtain ⟨a, h1, h2, xs, h3, h4⟩ := S.ow i _ hO hi
    obtain ⟨ha, hn⟩ := S.oh i a h2
    refine ⟨.ref a, h1, .inl ⟨rfl, xs, SqL.of h3⟩, se H0 hid0 s ρ S _ ?_⟩
    split
    · rename_i d hd'
      rw [hd', bind_ok] at q
      intro v H' e r
      split at q
      · rename_i hl
        have h4' : MnA F.K (hide s.hid s.H) ds xs := by rw [hide_dup ha] at h4; exact h4
        refine ⟨a, xs, v, rfl, rfl, e.l h3, ?_, ?_⟩
        · rw [h4'.length]
          exact Nat.lt_of_lt_of_le hl (small_line (Nat.le_refl _))
        · have S' := S.ext e
          have mn : MnA F.K (hide s.hid H') (ds ++ [d]) (xs ++ [v]) := (MnA.mono (hide_mono e) _ _ h4').append (by simp only [MnA]; exact ⟨v, [], rfl, r, rfl⟩)
          obtain ⟨S2, w2⟩ := S'.put (o := .lst (xs ++ [v])) hO h1 h2 (ownL (s := { s with H := H' }) ha mn)
          exact q _ ((hide_mono e).trans w2) S2
      · exact q.elim
    · rename_i c hd'
      rw [hd', bind_err] at q
      exact fun H' e => q H' (S.ex0.trans e)
    · rename_i hd'
      rw [hd', bind_stuck] at q
      exact q
  · exact q.elim
/-! ### x[i] = e, x a list -/
def sStL (i : Nat) (gi ge : GE) : GS := fun ρ => match ρ[i]? with
  | some (some (.list ds)) => (ge ρ).bind fun d => (gi ρ).bind fun k => match k with
    | .int k => (match ixN ds.length k with
      | some j => .ok (.nx (ρ.set i (some (.list (ds.set j d)))))
      | none => .stuck)
    | _ => .stuck
  | _ => .stuck
theorem ds_setL (i : Nat) {x : Str} {e ei : Expr} {g gi : GE} {p p1 pos : Pos} (h : DE F .fz e g) (hi : DE F .fz ei gi) (hN : F.N[i]? = some x := by rfl) (hv : visB F.sn x = true := by rfl) (hO : F.O i = true := by rfl)
    (hs : ∀ env, swapsWithSole [.Subscript (.Name x p) ei p1] e pos.line env = pure false := by intro _; rfl) (hw : ∀ env, swappedStores [.Subscript (.Name x p) ei p1] e env = pure none := by intro _; rfl) (h1 : ∀ env, (assignEach [.Subscript (.Name x p) ei p1] env).map (·.2) = [assign (.Subscript (.Name x p) ei p1) env] := by intro _; rfl)
    (ha : ∀ env v, assign (.Subscript (.Name x p) ei p1) env v = (do
      let ov ← holding [v] (eval (.Name x p) env)
      let iv ← holding [v, ov] (eval ei env)
      standAt p1
      holding [v, ov, iv] (setItem ov iv v)
      release [v, ov, iv] []) := by intro _ _; rfl)
    (hd : (x == ("__debug__" : Str)) = false := by decide) (hcd : (x == ("__classdict__" : Str)) = false := by decide) : DS F rm (.Assign [.Subscript (.Name x p) ei p1] e pos) (sStL i gi g) := by
  obtain ⟨te, pe, se⟩ := h
  obtain ⟨ti, pi, si⟩ := hi
  refine ⟨tAsg te (gSub (tVar i) ti rSetL), fun j => ps_asg (pe j) (pg_sub (pe_var (pos := p) (i := i) (by rw [F.hN]; exact hN) (vis_of (by rw [F.hsn]; exact hv)) hd hcd) (pi j) set_list (ha _)) (hs _) (hw _) (h1 _), fun H0 hid0 s ρ S Dn q => ?_⟩
  unfold sStL at q
  split at q
  · rename_i ds hi
    obtain ⟨a, h1, h2, xs, h3, h4⟩ := S.ow i _ hO hi
    obtain ⟨ha, hn⟩ := S.oh i a h2
    refine se H0 hid0 s ρ S _ ?_
    split
    · rename_i d hd'
      rw [hd', bind_ok] at q
      intro v H1 e1 r1
      refine ⟨.ref a, h1, si H0 hid0 { s with H := H1 } ρ (S.ext e1) _ ?_⟩
      split
      · rename_i k hk
        rw [hk, bind_ok] at q
        intro u H2 e2 r2
        cases k with
        | int k =>
          dsimp only at q
          cases hj : ixN ds.length k with
          | none => rw [hj] at q; exact q.elim
          | some j =>
            rw [hj] at q
            have h4' : MnA F.K (hide s.hid s.H) ds xs := by rw [hide_dup ha] at h4; exact h4
            have hu : u = .int k := by
              have r2 : Mn F.K (hide s.hid H2) (.int k) u := r2
              simpa only [Mn] using r2
            refine ⟨a, xs, k, j, rfl, hu, e2.l (e1.l h3), by rw [h4'.length]; exact hj, ?_⟩
            have S' := (S.ext e1).ext e2
            have mn : MnA F.K (hide s.hid H2) (ds.set j d) (xs.set j v) := (MnA.mono (hide_mono (e1.trans e2)) _ _ h4').set j (Mn.mono (hide_mono e2) d v r1)
            obtain ⟨S2, w2⟩ := S'.put (o := .lst (xs.set j v)) hO h1 h2 (ownL (s := { s with H := H2 }) ha mn)
            exact q _ ((hide_mono (e1.trans e2)).trans w2) S2
        | none => exact q.elim
        | bool _ => exact q.elim
        | str _ => exact q.elim
        | list _ => exact q.elim
        | tuple _ => exact q.elim
        | dict _ => exact q.elim
      · rename_i c hk
        rw [hk, bind_err] at q
        exact fun H' e => q H' (S.ex0.trans (e1.trans e))
      · rename_i hk
        rw [hk, bind_stuck] at q
        exact q
    · rename_i c hd'
      rw [hd', bind_err] at q
      exact fun H' e => q H' (S.ex0.trans e)
    · rename_i hd'
      rw [hd', bind_stuck] at q
      exact q
  · exact q.elim
/-! ### raise C("..") -/
def FamR (F : Fam) : Prop := ∀ i, Takes (F.X i) fun cls d _ H => F.E cls d H
structure ExD (K : PySem.W.Frag) (mg : Str → Option Value) (cl : Nat → Value) (x : Str) (c : Nat) : Prop where
  ex : ∃ C : Addr, cl c = .ref C ∧ mg x = some (.ref C) ∧ PySem.W.keepIn K (.ref C) = true ∧ PySem.W.subIn K (.ref C) (.type "BaseException") = some true ∧ PySem.W.typeIn K (.ref C) = some (.type "type") ∧
    PySem.W.excIn K C [.type "ValueError", .type "Exception", .type "BaseException", .type "object"] "ValueError.__new__" = true
def sRai (c : Nat) : GS := fun _ => .err c
theorem ds_raise (c : Nat) {x t : Str} {j : Nat} {p p2 pos pos2 : Pos} (h : ExD F.K F.mg F.cl x c) (tk : FamR F) (hg : F.sn.lookup x = some .globalImplicit := by rfl) (hdb : (x == ("__debug__" : Str)) = false := by decide) (hh : F.hot = false := by rfl) :
    DS F rm (.Raise (some (.Call (.Name x p) [.Constant (.str t) j p2] [] pos)) none pos2) (sRai c) := by
  obtain ⟨C, h0, h1, h2, h3, h4, h5⟩ := h.ex
  refine ⟨fun D σ H => F.E (.ref C) none H, fun i => ps_raise (F.calm hh i) (tk i) (pmk_own PySem.F.excBase_ValueError (by rw [F.hK]; exact h5) (by rw [F.hmg]; exact h1) (by rw [F.hK]; exact h2) (raises_own (by rw [F.hK]; exact h3) (by rw [F.hK]; exact h4)) (gl_of hg i) hdb), fun H0 hid0 s ρ S Dn q => ?_⟩
  have q := q s.H S.ex0
  rw [h0] at q
  exact q
end
end DL
set_option Elab.async false
set_option linter.all false
set_option maxRecDepth 100000
set_option maxHeartbeats 4000000
namespace DL
open PySem PySem.Spec PyProof.Rows L2
variable [TabsC]
/-! ### a def's body -/
def famD (P : Program) (w : World) (K : PySem.W.Frag) (mg : Str → Option Value) (base : Heap) (N : List Str) (qual : Str) (scope : Scope) (f : Addr) (cdv : Value) (E : XK) (cl : Nat → Value) (O : Nat → Bool) (k : Nat) (hk : scope.kind = .function) (nd : N.Nodup) : Fam where
  ι := {p : Around × List PySem.Env × Shared × Hp // Room k (p.1.deeper (envOfC qual scope p.2.2.1.heap.objs.size f cdv))}
  X := fun i => cxOf (L2.CX P w) P w K mg base N qual scope f cdv i.1.1 i.1.2.1 i.1.2.2.1 i.1.2.2.2 E
  P := P
  w := w
  K := K
  mg := mg
  base := base
  N := N
  sn := scope.names
  E := E
  cl := cl
  O := O
  lv := k
  hP := fun _ => rfl
  hw := fun _ => rfl
  hK := fun _ => rfl
  hmg := fun _ => rfl
  hbase := fun _ => rfl
  hN := fun _ => rfl
  hsn := fun _ => rfl
  hot := false
  calm := fun _ _ => rfl
  nd := nd
  room := fun i => .of i.2
  hd := fun _ i => i.2.hd
  own := fun _ => passes_of rfl
  pas := fun i => passes_call (takes_of rfl rfl rfl rfl) fun _ _ _ _ h => h
  hki := fun _ => hk
  sto := stoB scope.names
  hsto := fun i x h => by
    unfold stoB at h
    refine ⟨?_, .inl rfl⟩
    split at h
    · rename_i e; exact .inl e
    · rename_i e; exact .inr e
    · cases h
theorem famD_R {P : Program} {w : World} {K : PySem.W.Frag} {mg : Str → Option Value} {base : Heap} {N : List Str} {qual : Str} {scope : Scope} {f : Addr} {cdv : Value} {E : XK} {cl : Nat → Value} {O : Nat → Bool} {k : Nat} {hk : scope.kind = .function} {nd : N.Nodup} :
    FamR (famD P w K mg base N qual scope f cdv E cl O k hk nd) := fun _ => takes_of rfl rfl rfl rfl
def env0 (N : Nat) (ds : List D) : Env := ds.map some ++ List.replicate (N - ds.length) none
def outD : Out Fl → Out D
  | .ok (.rt d) => .ok d
  | .ok (.nx _) => .ok .none
  | .err c => .err c
  | _ => .stuck
def runD (N n : Nat) (g : GS) (ds : List D) : Out D := bif ds.length == n then outD (g (env0 N ds)) else .stuck
theorem runD_ln {N n : Nat} {g : GS} (ds : List D) (h : ds.length ≠ n) : runD N n g ds = .stuck := by
  unfold runD
  have : (ds.length == n) = false := by simpa using h
  rw [this]
  rfl
theorem MnA.get2 {K : PySem.W.Frag} {H : Hp} {ds : List D} {vs : List V} (h : MnA K H ds vs) {i : Nat} {d : D} (e : ds[i]? = some d) : ∃ v, vs[i]? = some v ∧ Mn K H d v := h.get e
theorem sees0 {K : PySem.W.Frag} {H : Hp} {hid : List Addr} {O : Nat → Bool} {N : List Str} {vs : List V} {ds : List D} (hl : vs.length ≤ N.length) (knd : ∀ a ∈ hid, IsC (H a)) (tb : LamX.Tabs TabsC.T H) (m : MnA K (hide hid H) ds vs) (hO : ∀ i, i < vs.length → O i = false) :
    Sees K H hid O { hid := hid, own := fun _ => none, σ := L2.start N vs, H := H } (env0 N.length ds) := by
  have e := m.length
  have key : ∀ (i : Nat) (d : D), (env0 N.length ds)[i]? = some (some d) → ds[i]? = some d := fun i d h => by
    unfold env0 at h
    by_cases hi : i < ds.length
    · rw [List.getElem?_append_left (by simpa using hi), List.getElem?_map] at h
      cases q : ds[i]? with
      | none => rw [q] at h; cases h
      | some x => rw [q] at h; cases h; rfl
    · rw [List.getElem?_append_right (by simpa using hi), List.getElem?_replicate] at h
      split at h <;> cases h
  refine ⟨?_, Ex.refl _, fun a h => h, knd, fun a h => (knd a h).ne, tb, fun i d _ h => ?_, fun i d hO' h => ?_, fun i a h => (by cases h), fun i j a h => (by cases h)⟩
  · show (L2.start N vs).length = (env0 N.length ds).length
    unfold L2.start env0
    rw [List.length_append, List.length_append, List.length_map, List.length_map, List.length_replicate, List.length_replicate, e]
  · obtain ⟨v, hv, mv⟩ := m.get2 (key i d h)
    refine ⟨v, ?_, mv⟩
    have hi := (List.getElem?_eq_some_iff.mp hv).1
    show (L2.start N vs)[i]? = _
    unfold L2.start
    rw [List.getElem?_append_left (by simpa using hi), List.getElem?_map, hv]
    rfl
  · have hi := (List.getElem?_eq_some_iff.mp (key i d h)).1
    rw [hO i (by omega)] at hO'
    cases hO'
section
variable {P : Program} {w : World} {K : PySem.W.Frag} {mg : Str → Option Value} {base : Heap} {cl : Nat → Value}
theorem fn_ok {x qual : Str} {st : Stmt} {f : Addr} {fd : FuncData} {N ps : List Str} {k n : Nat} {rm : Md} {O : Nat → Bool} {g : GS} (F : Fun K x qual st f fd) (S : FnScope N ps (defScope st)) (hn : ps.length = n := by rfl) (hnN : n ≤ N.length := by decide)
    (hO : (List.range n).all (fun i => !O i) = true := by decide)
    (hb : ∀ (cdv : Value) (E : XK), DSs (famD P w K mg base N qual (defScope st) f cdv E cl O k S.kind S.nd) rm (defBody st) g) : FnOk P w K mg base (L2.CX P w) (k + 1) f fd ps (spD K cl n rm (runD N.length n g)) := by
  refine F.okX S (fun vs H Q E h => by rw [hn]; exact h.1) fun cdv A outer s H vs Q E hr h => ?_
  obtain ⟨t, pt, st⟩ := hb cdv E
  refine ⟨t, pt ⟨(A, outer, s, H), hr⟩, ?_⟩
  obtain ⟨hl, tb, hid, ds, knd, m, q⟩ := h
  have hO' : ∀ i, i < vs.length → O i = false := fun i hi => by
    rw [List.all_eq_true] at hO
    have := hO i (List.mem_range.mpr (by omega))
    simpa using this
  have S0 := sees0 (O := O) (N := N) (by omega) knd tb m hO'
  refine st H hid _ _ S0 _ ?_
  have hdl : (ds.length == n) = true := by
    have := m.length
    simp; omega
  unfold runD at q
  rw [hdl] at q
  dsimp only [cond] at q
  cases hg : g (env0 N.length ds) with
  | stuck => rw [hg] at q; exact q.elim
  | err c => rw [hg] at q; exact fun H' e => q H' e
  | ok fl =>
    rw [hg] at q
    cases fl with
    | nx ρ' => exact fun s' e S' => q .non s'.H S'.ex0 (rm_plain rfl (by simp [Mn]))
    | rt d => exact q
    | bk ρ' => exact q.elim
    | ct ρ' => exact q.elim
theorem fnD {x qual : Str} {st : Stmt} {f : Addr} {fd : FuncData} {N ps : List Str} {k n : Nat} {rm : Md} {O : Nat → Bool} {g : GS} (F : Fun K x qual st f fd) (S : FnScope N ps (defScope st)) (hm : mg x = some (.ref f)) (hbi : L2.Binds K fd ps []) (hn : ps.length = n := by rfl) (hnN : n ≤ N.length := by decide)
    (hO : (List.range n).all (fun i => !O i) = true := by decide)
    (hb : ∀ (cdv : Value) (E : XK), DSs (famD P w K mg base N qual (defScope st) f cdv E cl O k S.kind S.nd) rm (defBody st) g) : FnD P w K mg base cl x n rm (k + 1) (runD N.length n g) :=
  ⟨⟨f, fd, ps, fn_ok F S hn hnN hO hb, hm, F.kp, hbi⟩, fun ds h => runD_ln ds h⟩
end
end DL
set_option Elab.async false
set_option linter.all false
set_option maxRecDepth 100000
set_option maxHeartbeats 4000000
namespace DL
open PySem PySem.Spec PyProof.Rows L2
variable [TabsC]
/-! ### list.count, list.index of flat items -/
def flD : D → Bool
  | .none => true
  | .bool _ => true
  | .int _ => true
  | .str _ => true
  | _ => false
theorem fl_eq {H : Hp} {K : PySem.W.Frag} {d e : D} {x y : V} (fd : flD d = true) (fe : flD e = true) (hx : Mn K H d x) (hy : Mn K H e y) : eqV x y = PyData.eqv d e := by
  cases d <;> simp [flD] at fd <;> simp only [Mn] at hx <;> subst hx <;> cases e <;> simp [flD] at fe <;> simp only [Mn] at hy <;> subst hy <;> simp [eqV, PyData.eqv]
theorem fl_flat {H : Hp} {K : PySem.W.Frag} {d : D} {x : V} (fd : flD d = true) (hx : Mn K H d x) : flatV x = true := by
  cases d <;> simp [flD] at fd <;> simp only [Mn] at hx <;> subst hx <;> rfl
theorem fl_all {H : Hp} {K : PySem.W.Frag} : ∀ {ds : List D} {xs : List V}, ds.all flD = true → MnA K H ds xs → xs.all flatV = true
  | [], xs, _, h => by
    simp only [MnA] at h
    subst h
    rfl
  | d :: ds, xs, f, h => by
    simp only [MnA] at h
    obtain ⟨v, r, rfl, h1, h2⟩ := h
    rw [List.all_cons, Bool.and_eq_true] at f
    rw [List.all_cons, fl_flat f.1 h1, fl_all f.2 h2]
    rfl
theorem fl_count {H : Hp} {K : PySem.W.Frag} {e : D} {y : V} (fe : flD e = true) (hy : Mn K H e y) : ∀ {ds : List D} {xs : List V}, ds.all flD = true → MnA K H ds xs → xs.countP (fun z => eqV z y) = ds.countP fun z => PyData.eqv z e
  | [], xs, _, h => by
    simp only [MnA] at h
    subst h
    rfl
  | d :: ds, xs, f, h => by
    simp only [MnA] at h
    obtain ⟨v, r, rfl, h1, h2⟩ := h
    rw [List.all_cons, Bool.and_eq_true] at f
    rw [List.countP_cons, List.countP_cons, fl_count fe hy f.2 h2, fl_eq f.1 fe h1 hy]
def rCntV (K : PySem.W.Frag) : V → List V → Hp → VK → Prop := fun x xs H Q => ∃ (p : Addr) (ys : List V) (y : V), x = .ref p ∧ xs = [y] ∧ SqL K H p ys ∧ flatV y = true ∧ ys.all flatV = true ∧ Q (.int (ys.countP fun z => eqV z y : Nat)) H
theorem cnt_eq {y : V} : ∀ {ys : List V} {its : List Value}, Vals ys its → ys.all flatV = true → its.countP (eqU y) = ys.countP fun z => eqV z y
  | _, _, .nil, _ => rfl
  | z :: ys, u :: its, .cons r t, f => by
    rw [List.all_cons, Bool.and_eq_true] at f
    rw [List.countP_cons, List.countP_cons, cnt_eq t f.2, eqU_of r f.1]
theorem mt_lcntV {X : Cx} : MtR X "list.count" (rCntV X.K) := by
  intro pins s σ H x xs v us Q I rx rxs h
  obtain ⟨p, ys, y, rfl, rfl, hs, fy, fys, q⟩ := h
  cases rx
  obtain ⟨u, rfl, ru⟩ := rxs.one
  obtain ⟨its, rv, ⟨⟨cls, dd, data, sl⟩, n, ho, hc, hdn, hd⟩, hlen⟩ := I.list hs
  simp only at hc hd
  subst hc hd
  refine call_meets PySem.F.slot_list_count ⟨_, ho, rfl⟩ PySem.F.entry_list_count (PySem.F.args_list_count_2 _ _)
    (SeqAt.list_countAt p its.toArray n dd sl u (eqU y)) ⟨ho, fun z hz => mem_eqAt ru fy rv fys z (by simpa using hz), ?_⟩
  have ec : its.toArray.toList.countP (eqU y) = ys.countP fun z => eqV z y := cnt_eq rv fys
  refine ⟨.int (ys.countP fun z => eqV z y : Nat), H, I.tok _, ⟨s.toks, ?_⟩, q⟩
  show Value.int ((its.toArray.toList.countP (eqU y) : Nat) : Int) s.toks = _
  rw [ec]
section
variable {F : Fam} {K : PySem.W.Frag}
/-- a method of lists, one argument -/
def eLM (f : List D → D → Option D) (a b : GE) : GE := fun ρ => (a ρ).bind fun x => match x with
  | .list ds => (b ρ).bind fun y => lift (f ds y)
  | _ => .stuck
def LmS (K : PySem.W.Frag) (m : Md) (r : V → List V → Hp → VK → Prop) (f : List D → D → Option D) : Prop := ∀ (hid : List Addr) (H : Hp) (ds : List D) (e z : D) (a : Addr) (xs : List V) (y : V) (Q : VK), H a = some (.lst xs) → MnA K (hide hid H) ds xs → Rm K .bo hid H H e y → f ds e = some z →
  (∀ v H', Ex H H' → Rm K m hid H H' z v → Q v H') → r (.ref a) [y] H Q
theorem sem_lm {m : Md} {r : V → List V → Hp → VK → Prop} {f : List D → D → Option D} {ta tb : TE} {ga gb : GE} (ha : SemE F .bo ta ga) (hb : SemE F .bo tb gb) (hr : LmS F.K m r f) : SemE F m (tBM F.K "list" r ta (tCons tb tNil)) (eLM f ga gb) := fun H0 hid0 s ρ S Q q => by
  refine ha H0 hid0 s ρ S _ ?_
  unfold eLM at q
  cases hd : ga ρ with
  | stuck => rw [hd] at q; exact q.elim
  | err c => rw [hd, bind_err] at q; exact q
  | ok d =>
    rw [hd, bind_ok] at q
    intro v H1 e1 r1
    cases d with
    | list ds =>
      obtain ⟨a, xs, rfl, h1, h2⟩ := bo_list r1
      refine ⟨.inl ⟨rfl, xs, SqL.of h1⟩, hb H0 hid0 { s with H := H1 } ρ (S.ext e1) _ ?_⟩
      dsimp only at q
      cases hd2 : gb ρ with
      | stuck => rw [hd2] at q; exact q.elim
      | err c => rw [hd2, bind_err] at q; exact fun H2 e2 => q H2 (e1.trans e2)
      | ok d2 =>
        rw [hd2, bind_ok] at q
        intro u H2 e2 r2
        cases hf : f ds d2 with
        | none => rw [hf] at q; exact q.elim
        | some z =>
          rw [hf] at q
          exact hr s.hid H2 ds d2 z a xs u Q (e2.l h1) (MnA.mono (hide_mono e2) _ _ h2) r2 hf fun v' H' e' r' => q v' H' ((e1.trans e2).trans e') (rm_back (e1.trans e2) r')
    | none => exact q.elim
    | bool _ => exact q.elim
    | int _ => exact q.elim
    | str _ => exact q.elim
    | tuple _ => exact q.elim
    | dict _ => exact q.elim
theorem de_lm {m ma mb : Md} {a b : Expr} {name : Str} {id : String} {r : PySem.W.Frag → V → List V → Hp → VK → Prop} {f : List D → D → Option D} {ga gb : GE} {apos cpos : Pos} (slot : Slot "list" name id) (hty : typeOf (.builtin id) = pure (.type "method_descriptor")) (hm : ∀ i, MtR (F.X i) id (r (F.X i).K)) (hr : LmS F.K m (r F.K) f) (ha : DE F ma a ga) (hb : DE F mb b gb)
    (hfew : ∀ env, ((backTo cpos (starEach [b] env)).all (fun x => !x.1) && (backToKw cpos (keywordEach [] env)).all (fun x => x.1.isSome) && decide ([b].length + ([] : List Keyword).length + (if ([] : List Keyword).isEmpty then 0 else 1) < 30)) = true := by intro _; rfl)
    (hline : (apos.endLine == cpos.line) = true := by rfl) (hs : ∀ env, starEach [b] env = (false, eval b env) :: starEach [] env := by intro _; rfl) (hbase : ∀ env, attributeBase a name env (eval a env) = eval a env := by intro _; rfl) :
    DE F m (.Call (.Attribute a name apos) [b] [] cpos) (eLM f ga gb) := by
  obtain ⟨ta, pa, sa⟩ := de_any ha
  obtain ⟨tb, pb, sb⟩ := de_any hb
  refine ⟨_, fun i => ?_, sem_lm sa sb hr⟩
  have z := pe_bm PySem.F.plainAttrs_list slot hty (hm i) (pa i) (pa_cons (pb i) pa_nil (hs _)) (hbase _) (hfew _) hline (hs _) rfl
  rw [F.hK i] at z
  exact z
def dCnt (ds : List D) (e : D) : Option D := if ds.all flD && flD e then some (.int (ds.countP fun z => PyData.eqv z e : Nat)) else none
theorem lms_cnt {m : Md} : LmS K m (rCntV K) dCnt := fun hid H ds e z a xs y Q h1 h2 ry hf q => by
  unfold dCnt at hf
  split at hf
  · rename_i hc
    cases hf
    rw [Bool.and_eq_true] at hc
    have m1 : MnA K H ds xs := MnA.mono hide_ex _ _ h2
    have m2 := bo_full ry
    refine ⟨a, xs, y, rfl, rfl, SqL.of h1, fl_flat hc.2 m2, fl_all hc.1 m1, ?_⟩
    rw [fl_count hc.2 m2 hc.1 m1]
    exact q _ _ (Ex.refl _) rm_int
  · cases hf
theorem de_count {m ma mb : Md} {a b : Expr} {ga gb : GE} {apos cpos : Pos} (ha : DE F ma a ga) (hb : DE F mb b gb)
    (hfew : ∀ env, ((backTo cpos (starEach [b] env)).all (fun x => !x.1) && (backToKw cpos (keywordEach [] env)).all (fun x => x.1.isSome) && decide ([b].length + ([] : List Keyword).length + (if ([] : List Keyword).isEmpty then 0 else 1) < 30)) = true := by intro _; rfl)
    (hline : (apos.endLine == cpos.line) = true := by rfl) (hs : ∀ env, starEach [b] env = (false, eval b env) :: starEach [] env := by intro _; rfl) (hbase : ∀ env, attributeBase a "count" env (eval a env) = eval a env := by intro _; rfl) :
    DE F m (.Call (.Attribute a "count" apos) [b] [] cpos) (eLM dCnt ga gb) :=
  de_lm (r := rCntV) PySem.F.slot_list_count PySem.F.type_list_count (fun i => mt_lcntV) lms_cnt ha hb hfew hline hs hbase
def dIdx (ds : List D) (e : D) : Option D := if ds.all flD && flD e then (ds.findIdx? fun z => PyData.eqv z e).map fun j => .int (j : Nat) else none
theorem lms_idx {m : Md} : LmS K m (rIndex K) dIdx := fun hid H ds e z a xs y Q h1 h2 ry hf q => by
  unfold dIdx at hf
  split at hf
  · rename_i hc
    rw [Bool.and_eq_true] at hc
    cases hj : ds.findIdx? (fun z => PyData.eqv z e) with
    | none => rw [hj] at hf; cases hf
    | some j =>
      rw [hj] at hf
      cases hf
      have m1 : MnA K H ds xs := MnA.mono hide_ex _ _ h2
      have m2 := bo_full ry
      rw [List.findIdx?_eq_some_iff_getElem] at hj
      obtain ⟨hl, hp, hn⟩ := hj
      obtain ⟨w, hw, mw⟩ := m1.get (List.getElem?_eq_getElem hl)
      have fa : ∀ (k : Nat) (hk : k < ds.length), flD ds[k] = true := fun k hk => List.all_eq_true.mp hc.1 _ (List.getElem_mem hk)
      refine ⟨a, xs, y, j, w, rfl, rfl, SqL.of h1, fl_flat hc.2 m2, fl_all hc.1 m1, hw, by rw [fl_eq (fa j hl) hc.2 mw m2]; exact hp, fun k z' hk hz' => ?_, q _ _ (Ex.refl _) rm_int⟩
      have hkl : k < ds.length := by omega
      obtain ⟨w2, hw2, mw2⟩ := m1.get (List.getElem?_eq_getElem hkl)
      rw [hw2] at hz'
      cases hz'
      rw [fl_eq (fa k hkl) hc.2 mw2 m2]
      have := hn k hk
      simpa using this
  · cases hf
theorem de_index {m ma mb : Md} {a b : Expr} {ga gb : GE} {apos cpos : Pos} (ha : DE F ma a ga) (hb : DE F mb b gb)
    (hfew : ∀ env, ((backTo cpos (starEach [b] env)).all (fun x => !x.1) && (backToKw cpos (keywordEach [] env)).all (fun x => x.1.isSome) && decide ([b].length + ([] : List Keyword).length + (if ([] : List Keyword).isEmpty then 0 else 1) < 30)) = true := by intro _; rfl)
    (hline : (apos.endLine == cpos.line) = true := by rfl) (hs : ∀ env, starEach [b] env = (false, eval b env) :: starEach [] env := by intro _; rfl) (hbase : ∀ env, attributeBase a "index" env (eval a env) = eval a env := by intro _; rfl) :
    DE F m (.Call (.Attribute a "index" apos) [b] [] cpos) (eLM dIdx ga gb) :=
  de_lm (r := rIndex) PySem.F.slot_list_index PySem.F.type_list_index (fun i => mt_index) lms_idx ha hb hfew hline hs hbase
end
end DL
set_option Elab.async false
set_option linter.all false
set_option maxRecDepth 100000
set_option maxHeartbeats 4000000
namespace DL
open PySem PySem.Spec PyProof.Rows L2
variable [TabsC]
/-! ### a lambda's body -/
theorem pass_of {X : Cx} {E : XK} (tk : Takes X fun cls d _ H => E cls d H) : Passes (L2.CX X.prog X.w) X E := passes_call tk fun _ _ _ _ h => h
def lamFam (F : Fam) (scope : Scope) (hk : scope.kind = .function) (E : XK) (k : Nat) : Fam where
  ι := {p : F.ι × Around × List PySem.Env × Shared × Hp × Addr × Addr // Room k (p.2.1.deeper (LamX.lamEnv (F.X p.1) scope p.2.2.2.1.heap.objs.size p.2.2.2.2.2.1 p.2.2.2.2.2.2))}
  X := fun i => LamX.lamCx (F.X i.1.1) i.1.2.1 i.1.2.2.1 i.1.2.2.2.1 i.1.2.2.2.2.1 E scope i.1.2.2.2.2.2.1 i.1.2.2.2.2.2.2
  P := F.P
  w := F.w
  K := F.K
  mg := F.mg
  base := F.base
  N := F.N
  sn := scope.names
  E := E
  cl := F.cl
  O := F.O
  lv := k
  hP := fun i => F.hP i.1.1
  hw := fun i => F.hw i.1.1
  hK := fun i => F.hK i.1.1
  hmg := fun i => F.hmg i.1.1
  hbase := fun i => F.hbase i.1.1
  hN := fun i => F.hN i.1.1
  hsn := fun i => rfl
  hot := false
  calm := fun _ _ => rfl
  nd := F.nd
  room := fun i => .of i.2
  hd := fun _ i => i.2.hd
  own := fun i => passes_of rfl
  pas := fun i => by
    have z := pass_of (X := LamX.lamCx (F.X i.1.1) i.1.2.1 i.1.2.2.1 i.1.2.2.2.1 i.1.2.2.2.2.1 E scope i.1.2.2.2.2.2.1 i.1.2.2.2.2.2.2) (E := E) (takes_of rfl rfl rfl rfl)
    rw [show (LamX.lamCx (F.X i.1.1) i.1.2.1 i.1.2.2.1 i.1.2.2.2.1 i.1.2.2.2.2.1 E scope i.1.2.2.2.2.2.1 i.1.2.2.2.2.2.2).prog = F.P from F.hP i.1.1, show (LamX.lamCx (F.X i.1.1) i.1.2.1 i.1.2.2.1 i.1.2.2.2.1 i.1.2.2.2.2.1 E scope i.1.2.2.2.2.2.1 i.1.2.2.2.2.2.2).w = F.w from F.hw i.1.1] at z
    exact z
  hki := fun _ => hk
  sto := fun _ => false
  hsto := fun i x h => by cases h
/-- what the def that got the lambda makes of its reading -/
def TTd (K : PySem.W.Frag) (cl : Nat → Value) (tf : Out D → Out D) : (XK → Hp → VK → Prop) → Hp → VK → Prop := fun tl H Q => ∃ (hid : List Addr) (o : Out D), LamX.Tabs TabsC.T H ∧ (∀ a ∈ hid, IsC (H a)) ∧
  (∀ (H1 : Hp), Ex H H1 → ∀ (E : XK) (Q' : VK), (match o with
    | .ok d => ∀ v H', Ex H1 H' → Rm K .fz hid H1 H' d v → Q' v H'
    | .err c => ∀ H', Ex H1 H' → E (cl c) none H'
    | .stuck => False) → tl E H1 Q') ∧ WF K cl .fz hid H Q E0 (tf o)
structure ToldD (P : Program) (w : World) (K : PySem.W.Frag) (mg : Str → Option Value) (base : Heap) (cl : Nat → Value) (x a q : Str) (tf : Out D → Out D) : Prop where
  ex : ∃ (g : Addr) (pg : Arguments) (bg : List Stmt) (sg : Scope) (dV kV doc pm cdv ct oc : Value) (an od : Option Addr) (osl : Array (Option Value)) (Ng : List Str), mg x = some (.ref g) ∧ PySem.W.keepIn K (.ref g) = true ∧
    K.lookup g = some ⟨oc, od, .func (PySem.W.fnOf x x pg bg sg dV kV doc pm an cdv ct), osl⟩ ∧ PySem.W.codeIn K cdv x = true ∧ L2.Binds K (PySem.W.fnOf x x pg bg sg dV kV doc pm an cdv ct) [a] [] ∧ FnScope Ng [a] sg ∧ Ng[0]? = some a ∧ Vis sg a ∧
    ∀ X : Cx, X.prog = P → X.w = w → X.K = K → X.mg = mg → X.base = base → RoomW 2 X.A → LamX.GivesTo X Ng x sg g cdv bg a q (TTd K cl tf)
  ne : ∀ o c, tf o ≠ .err c
def eTold (tf : Out D → Out D) (g : GE) : GE := fun ρ => tf (g ρ)
section
variable {F : Fam} {K : PySem.W.Frag}
theorem de_lamcall {x a ql : Str} {tf : Out D → Out D} {c P' : Addr} {k : Nat} {params : Arguments} {body : Expr} {scope : Scope} {gb : GE} {p lpos pos : Pos} (T : ToldD F.P F.w F.K F.mg F.base F.cl x a (ql ++ "<lambda>") tf) (hq : ∀ i, (F.X i).env.qual = ql) (TB : LamX.TabB F.base F.mg c P') (hcode : ∀ i, (F.X i).env.code = .ref c)
    (hmT : (P', ql ++ "<lambda>") ∈ TabsC.T) (hu : ∀ p ∈ TabsC.T, p.1 = P' → p.2 = ql ++ "<lambda>") (L : ∀ i, LamX.LamS (F.X i).env.scope scope) (hk : scope.kind = .function) (hlv : k + 2 ≤ F.lv) (hb : ∀ E, DE (lamFam F scope hk E k) .fz body gb)
    (hg : F.sn.lookup x = some .globalImplicit := by rfl) (hdef : ∀ env, defaultsOf params env = ([], []) := by intro _; rfl)
    (hbind : ∀ (q : Str) (cl : List (Str × Addr)) (pm cv ctv : Value), bindArgs (PySem.W.kla_fn "<lambda>" q params body scope cl pm cv ctv) ⟨[], []⟩ = pure [] := by intros; rfl)
    (hdb : (x == ("__debug__" : Str)) = false := by decide) (hd : (a == ("__debug__" : Str)) = false := by decide) (hcd : (a == ("__classdict__" : Str)) = false := by decide) (hh : F.hot = false := by rfl) :
    DE F .fz (.Call (.Name x p) [.Lambda params body scope lpos] [] pos) (eTold tf gb) := by
  obtain ⟨g, pg, bg, sg, dV, kV, doc, pm, cdv, ct, oc, an, od, osl, Ng, h1, h2, h3, h4, h5, h6, h7, h8, h9⟩ := T.ex
  refine ⟨LamX.tLam TabsC.T (TTd F.K F.cl tf) fun E => (hb E).choose, fun i => ?_, fun H0 hid0 s ρ S Q q => ?_⟩
  · have hr : Room (k + 2) (F.X i).A := (F.room i).to (F.hd hh i) hlv
    have hG := h9 (F.X i) (F.hP i) (F.hw i) (F.hK i) (F.hmg i) (F.hbase i) ⟨by have := hr.dp; omega, by have := hr.un; omega⟩
    refine LamX.pe_lamcall (c := c) (P := P') (gl_of hg i) (by rw [F.hmg]; exact h1) (by rw [F.hK]; exact h2) (by rw [F.hK]; exact h3) (by rw [F.hK]; exact h4) (by rw [F.hK]; exact h5) h6 h7 h8 (by rw [hq i]; exact hG) (by rw [F.hbase, F.hmg]; exact TB) (hcode i) (by rw [hq i]; exact hmT)
      (fun p hp e => by rw [hq i]; exact hu p hp e) hr (L i) (hdef _) hbind (fun A outer s H E f c' hr' => (hb E).choose_spec.1 ⟨(i, A, outer, s, H, f, c'), hr'⟩) hdb hd hcd
  · refine ⟨S.ex0.tb S.tb0, fun H1 eN T1 => ?_⟩
    have e : Ex s.H H1 := ⟨fun b o h n => eN b o h n, fun _ => T1⟩
    refine ⟨s.hid, gb ρ, T1, knd_ex e S.knd, fun H2 e2 E Q' h => ?_, ?_⟩
    · exact (hb E).choose_spec.2 H0 hid0 { s with H := H2 } ρ ((S.ext e).ext e2) Q' h
    · unfold eTold at q
      cases ho : tf (gb ρ) with
      | stuck => rw [ho] at q; exact q.elim
      | err c => exact (T.ne _ _ ho).elim
      | ok d =>
        rw [ho] at q
        exact fun v H' e' r => q v H' (e.trans e') r
/-! ### an except suite -/
theorem takes_len {X : Cx} {W : WX} (tk : Takes X W) : Takes X fun cls d σ H => σ.length = X.N.length → W cls d σ H := fun u s' ⟨a, B, sI, pins, σ, H, cls, d, e, I, nb, up, sky, na, os, ag, w⟩ =>
  tk u s' ⟨a, B, sI, pins, σ, H, cls, d, e, I, nb, up, sky, na, os, ag, w I.len⟩
def suiteFam (X : Cx) (a : Addr) (cls : Value) (cl : Nat → Value) (lv : Nat) (nd : X.N.Nodup) (hr : RoomW lv X.A) (hk : X.env.scope.kind = .function) (hf : X.fn = fun _ => true) : Fam where
  ι := {p : Obj × List (Addr × Obj) // Zc cls none p.1 ∧ ∃ vs, p.1.data = .fields vs}
  X := fun p => X.suite a ((a, p.1.1) :: p.1.2)
  P := X.prog
  w := X.w
  K := X.K
  mg := X.mg
  base := X.base
  N := X.N
  sn := X.env.scope.names
  E := E0
  cl := cl
  O := fun _ => false
  lv := lv
  hP := fun _ => rfl
  hw := fun _ => rfl
  hK := fun _ => rfl
  hmg := fun _ => rfl
  hbase := fun _ => rfl
  hN := fun _ => rfl
  hsn := fun _ => rfl
  hot := true
  calm := fun h => by cases h
  nd := nd
  room := fun _ => ⟨hr.dp, hr.un⟩
  hd := fun h => by cases h
  own := fun _ => PassesOwn.never
  pas := fun _ => passL
  hki := fun _ => hk
  sto := stoB X.env.scope.names
  hsto := fun i x h => by
    unfold stoB at h
    refine ⟨?_, .inl (by show X.fn x = true; rw [hf])⟩
    split at h
    · rename_i e; exact .inl e
    · rename_i e; exact .inr e
    · cases h
/-- the value of the caught exception's name -/
def excD (a : Addr) : D := .dict [(.bool true, .int (a : Nat))]
def isExc (a : Addr) : D → Bool
  | .dict [(.bool true, .int i)] => decide (i = (a : Nat))
  | _ => false
theorem isExc_eq {a : Addr} {d : D} (h : isExc a d = true) : d = excD a := by
  unfold isExc at h
  split at h
  · rw [decide_eq_true_eq] at h
    rw [h]
    rfl
  · cases h
theorem isExc_self (a : Addr) : isExc a (excD a) = true := by simp [isExc, excD]
def eIsE (i : Nat) (a : Addr) (b : Bool) : GE := fun ρ => match ρ[i]? with
  | some (some d) => bif isExc a d then .ok (.bool b) else .stuck
  | _ => .stuck
/-- isinstance(e, C), e the caught exception, its class D's -/
theorem de_isE {X : Cx} {a D : Addr} {b : Bool} {cl : Nat → Value} {lv : Nat} {nd : X.N.Nodup} {hr : RoomW lv X.A} {hk : X.env.scope.kind = .function} {hf : X.fn = fun _ => true} {m : Md} {x e : Str} {v : V} {cv : Value} {p p1 p2 pos : Pos} (i : Nat)
    (EC : ExcC X.K D) (ht : ∀ Y : Cx, Y.mg = X.mg → Y.env = X.env → PE Y (.Name x p2) (tC v)) (hcv : ∀ u, RelV v u → u = cv) (hkit : PySem.W.kitOne X.K (.ref D) cv = some b) (hm : X.mg "isinstance" = none) (hN : X.N[i]? = some e) (hv : visB X.env.scope.names e = true)
    (hg : X.env.scope.names.lookup ("isinstance" : Str) = some .globalImplicit) (hd : (e == ("__debug__" : Str)) = false := by decide) (hcd : (e == ("__classdict__" : Str)) = false := by decide) :
    DE (suiteFam X a (.ref D) cl lv nd hr hk hf) m (.Call (.Name "isinstance" p) [.Name e p1, .Name x p2] [] pos) (eIsE i a b) := by
  refine ⟨_, fun j => pe_callB (call_isE EC j.2.1 j.2.2) hg hm (by decide +kernel) (pa_cons (pe_var (i := i) hN (vis_of hv) hd hcd) (pa_cons (ht _ rfl rfl) pa_nil)) (by decide) (by decide) (by rfl) (by rfl), fun H0 hid0 s ρ S Q q => ?_⟩
  unfold eIsE at q
  cases hρ : ρ[i]? with
  | none => rw [hρ] at q; exact q.elim
  | some o =>
    cases o with
    | none => rw [hρ] at q; exact q.elim
    | some d =>
      rw [hρ] at q
      dsimp only at q
      cases hi : isExc a d with
      | false => rw [hi] at q; exact q.elim
      | true =>
        rw [hi] at q
        have := isExc_eq hi
        subst this
        obtain ⟨v', h1, h2⟩ := S.fz i _ rfl hρ
        have ev : v' = .ref a := by
          unfold excD at h2
          simp only [Mn] at h2
          rcases h2 with ⟨a', kvs, _, _, h3⟩ | ⟨a', ns, _, _, h3⟩ | ⟨a', e1, h3⟩ | ⟨f, c, q, _, _, h3⟩
          · simp only [MnK] at h3
            obtain ⟨q', _, _, _, hk, _⟩ := h3
            cases q' <;> simp [kD] at hk
          · simp at h3
          · have : (a : Nat) = (a' : Nat) := by
              have h3 : ((a : Nat) : Int) = ((a' : Nat) : Int) := by simpa using h3
              exact Int.ofNat.inj h3
            rw [e1]
            exact congrArg V.ref this.symm
          · simp at h3
        subst ev
        exact ⟨_, h1, ⟨v, cv, b, rfl, hcv, hkit, q _ _ (Ex.refl _) rm_bool⟩⟩
end
end DL
set_option Elab.async false
set_option linter.all false
set_option maxRecDepth 100000
set_option maxHeartbeats 4000000
namespace DL
open PySem PySem.Spec PyProof.Rows L2
variable [TabsC]
def tfOf (told : Str) (rf : Nat → Option D) : Out D → Out D
  | .ok d => .ok (.tuple [.str told, d])
  | .err c => lift (rf c)
  | .stuck => .stuck
theorem tfOf_ne {told : Str} {rf : Nat → Option D} (o : Out D) (c : Nat) : tfOf told rf o ≠ .err c := by
  cases o with
  | ok d => intro h; cases h
  | err c' =>
    intro h
    have h : lift (rf c') = .err c := h
    cases q : rf c' with
    | none => rw [q] at h; cases h
    | some d => rw [q] at h; cases h
  | stuck => intro h; cases h
abbrev toldX (X : Cx) (Ng : List Str) (x : Str) (sg : Scope) (g : Addr) (cdg : Value) (s : Shared) (H : Hp) : Cx := (cxOf C8.CX0 X.prog X.w X.K X.mg X.base Ng x sg g cdg X.A X.stack s H C8.E0).nox
theorem toldX_room {X : Cx} {Ng : List Str} {x : Str} {sg : Scope} {g : Addr} {cdg : Value} {s : Shared} {H : Hp} (hr : RoomW 2 X.A) : RoomW 1 (toldX X Ng x sg g cdg s H).A :=
  ⟨by have := hr.dp; show X.A.depth + 1 + 3 * 1 + 5 < _; omega, by have := hr.un; show X.A.units + 3 + 16 * 1 + 200 < _; omega⟩
theorem told_g {X : Cx} {cl : Nat → Value} {rf : Nat → Option D} {gs : Addr → Nat → GS} {Ng : List Str} {x a e en found told q : Str} {sg : Scope} {g CS : Addr} {cdg : Value} {j0 kt : Nat} {b₀ : Stmt} {suite : List Stmt} {p0 p1 p2 p4 p7 p8 p9 p10 pf pt pa : Pos} (ie jf : Nat)
    (nd : Ng.Nodup) (hk : sg.kind = .function) (hr : RoomW 2 X.A) (hpos : 0 < Ng.length)
    (hge : sg.names.lookup e = some .globalImplicit) (hme : X.mg e = some (.ref CS)) (hexm : ∀ c r, rf c = some r → PySem.W.exmOne X.K (cl c) (.ref CS) = some true)
    (hie : Ng[ie]? = some en) (hle : sg.names.lookup en = some .local) (hjf : Ng[jf]? = some found) (hlf : sg.names.lookup found = some .local) (hne : ie ≠ jf)
    (hsu : ∀ (s : Shared) (H : Hp) (a' : Addr) (c : Nat) (r : D), rf c = some r → DSs (suiteFam (toldX X Ng x sg g cdg s H) a' (cl c) cl 1 nd (toldX_room hr) hk rfl) .fz (b₀ :: suite) (gs a' c))
    (hgs : ∀ (a' : Addr) (c : Nat) (r : D), rf c = some r → ∃ ρ', gs a' c ((List.replicate Ng.length none).set ie (some (excD a'))) = .ok (.nx ρ') ∧ ρ'[jf]? = some (some r))
    (hde : (e == ("__debug__" : Str)) = false := by decide) (hdf : (found == ("__debug__" : Str)) = false := by decide) (hcf : (found == ("__classdict__" : Str)) = false := by decide)
    (hstar : ∀ env, starEach [.Constant (.str told) j0 p0, .Call (.Name a p1) [] [] p2] env = (false, eval (.Constant (.str told) j0 p0) env) :: starEach [.Call (.Name a p1) [] [] p2] env := by intro _; rfl) :
    LamX.GivesTo X Ng x sg g cdg [.Try [.Assign [.Name found pf] (.Tuple [.Constant (.str told) j0 p0, .Call (.Name a p1) [] [] p2] kt pt) pa] [.ExceptHandler (some (.Name e p4)) (some en) (b₀ :: suite) p7] [] [] p8, .Return (some (.Name found p9)) p10] a q (TTd X.K cl (tfOf told rf)) := by
  intro f c' s H Q tl act hc h
  obtain ⟨hid, o, hT, knd, htl, hw⟩ := h
  have hgl : Gl (toldX X Ng x sg g cdg s H) e := hge
  refine ⟨_, pss_cons (ps_try_as (X := toldX X Ng x sg g cdg s H) (i := ie) (n := en) (c := .ref CS) (Wout := fun _ _ _ _ => False)
      (tb := fun W Dn σ H1 => ∃ Ech : XK, (∀ cls d σ' H', Ech cls d H' → σ'.length = Ng.length → W cls d σ' H') ∧ tAsg (tTup (tCons (tC (.str told)) (tCons (fun σZ HZ Q => σZ[0]? = some (some (.ref f)) ∧ HZ c' = some (LamX.CodeO c' q) ∧ tl Ech HZ Q) tNil))) (gName jf) Dn σ H1)
      (ts := fun a' cls d Dn σ H1 => d = none ∧ ∃ (c : Nat) (r : PyData) (hc : rf c = some r), cls = cl c ∧ (hsu s H a' c r hc).choose Dn σ H1)
      rfl rfl nd hie hle ⟨hgl, hde, .inl hme⟩ L2.takes0 (fun W pn xe tk _ => ?_) (fun a' oe cls d pn hz hv => ?_)) (pss_one (ps_ret (pe_var (i := jf) hjf (.inl hlf) hdf hcf))), ?_⟩
  · refine ⟨fun pins s' σ H1 Dn I h' => ?_⟩
    obtain ⟨Ech, hW, h1⟩ := h'
    have hp := act (fun cls d σ H => σ.length = Ng.length → W cls d σ H) pn xe Ech p1 p2 (takes_len tk) (fun cls d σ' H' z => hW cls d σ' H' z)
    have hq := pss_one (ps_set (pos := pa) (pos' := pf) (i := jf) (X := (toldX X Ng x sg g cdg s H).tr pn xe) nd hjf (.inl hlf) (show PE _ (.Tuple [.Constant (.str told) j0 p0, .Call (.Name a p1) [] [] p2] kt pt) _ from pe_tup (pa_cons pe_str (pa_cons hp pa_nil) (hstar _))) (by rfl) (.inl rfl))
    exact hq.run pins s' σ H1 Dn I h1
  · refine ⟨fun pins s' σ H1 Dn I h' => ?_⟩
    obtain ⟨hd, c, r, hc, ecl, h1⟩ := h'
    subst hd
    have hz' : Zc (cl c) none oe := by rw [← ecl]; exact hz
    exact ((hsu s H a' c r hc).choose_spec.1 ⟨(oe, pn), hz', hv⟩).run pins s' σ H1 Dn I h1
  · -- what is told
    have hst : (L2.start Ng [V.ref f])[0]? = some (some (V.ref f)) := by unfold L2.start; rfl
    have hln : (L2.start Ng [V.ref f]).length = Ng.length := by
      unfold L2.start
      rw [List.length_append, List.length_map, List.length_replicate, List.length_singleton]
      omega
    have hjl : jf < Ng.length := (List.getElem?_eq_some_iff.mp hjf).1
    have hil : ie < Ng.length := (List.getElem?_eq_some_iff.mp hie).1
    refine ⟨fun cls d H' => d = none ∧ Ex H H' ∧ ∃ c, cls = cl c ∧ o = .err c, fun cls d σ' H' hE hσ => ?_, ?_⟩
    · obtain ⟨hd, eH, c, ecl, eo⟩ := hE
      rw [eo] at hw
      cases hc : rf c with
      | none =>
        have hw : WF X.K cl .fz hid H Q E0 (lift (rf c)) := hw
        rw [hc] at hw
        exact hw.elim
      | some r =>
        have hw : WF X.K cl .fz hid H Q E0 (lift (rf c)) := hw
        rw [hc] at hw
        refine ⟨true, by rw [ecl]; exact hexm c r hc, fun _ a' na => ⟨hd, c, r, hc, ecl, ?_⟩, fun z => by cases z⟩
        obtain ⟨ρ', g1, g2⟩ := hgs a' c r hc
        -- the suite
        have S0 : Sees X.K H' hid (fun _ => false) { hid := hid, own := fun _ => none, σ := σ'.set ie (some (.ref a')), H := H' } ((List.replicate Ng.length none).set ie (some (excD a'))) := by
          refine ⟨?_, Ex.refl _, fun _ h => h, knd_ex eH knd, fun b hb => (knd_ex eH knd b hb).ne, eH.tb hT, fun i d _ hd' => ?_, fun i d hO => (by cases hO), fun i b hb => (by cases hb), fun i j b hb => (by cases hb)⟩
          · show (σ'.set ie _).length = _
            rw [List.length_set, List.length_set, List.length_replicate]
            exact hσ
          · by_cases hi : ie = i
            · subst hi
              rw [List.getElem?_set_self (by rw [List.length_replicate]; exact hil)] at hd'
              cases hd'
              refine ⟨.ref a', List.getElem?_set_self (by rw [hσ]; exact hil), ?_⟩
              unfold excD
              simp only [Mn]
              exact .inr (.inr (.inl ⟨a', rfl, rfl⟩))
            · rw [List.getElem?_set_ne hi, List.getElem?_replicate] at hd'
              split at hd' <;> cases hd'
        refine (hsu s H a' c r hc).choose_spec.2 H' hid _ _ S0 _ ?_
        rw [g1]
        intro s' w' S'
        obtain ⟨v, hv1, hv2⟩ := S'.fz jf r rfl g2
        refine ⟨v, ?_, ?_⟩
        · rw [List.getElem?_set_ne hne]
          exact hv1
        · exact hw v s'.H (eH.trans S'.ex0) (Mn.mono (hide_sub S'.sub) r v hv2)
    · -- the body
      refine ⟨hst, hc, htl H (Ex.refl _) _ _ ?_⟩
      cases ho : o with
      | stuck =>
        rw [ho] at hw
        exact hw.elim
      | err c =>
        exact fun H' e => ⟨rfl, e, c, rfl, rfl⟩
      | ok d =>
        rw [ho] at hw
        intro v H1 e1 r1
        refine ⟨small_line (show (2 : Nat) ≤ 1000000 from by decide), fun p hp => ?_⟩
        refine ⟨.ref p, List.getElem?_set_self (by rw [hln]; exact hjl), ?_⟩
        refine hw (.ref p) _ (e1.trans (Ex.new hp)) ?_
        have m : MnA X.K (hide hid H1) [.str told, d] [.str told, v] := by
          simp only [MnA, Mn]
          exact ⟨_, _, rfl, rfl, v, [], rfl, r1, rfl⟩
        exact rm_back e1 (au_tup (dom_ex e1 fun b hb => (knd b hb).ne) hp m)
end DL
set_option Elab.async false
set_option linter.all false
set_option maxRecDepth 100000
set_option maxHeartbeats 4000000
namespace DL
open PySem PySem.Spec PyProof.Rows L2
variable [TabsC]
section
variable {F : Fam} {K : PySem.W.Frag}
/-! ### range -/
def iR1 (g : GE) : GA := fun ρ => (g ρ).bind fun d => match d with
  | .int j => if j ≤ 1000000 ∧ -1000000 ≤ j then .ok ((List.range j.toNat).map fun i => .int (i : Nat)) else .stuck
  | _ => .stuck
theorem di_range1 {m ma : Md} {tg a : Expr} {g : GE} {p pos : Pos} (hm : F.mg "range" = none) (h : DE F ma a g) (hg : F.sn.lookup ("range" : Str) = some .globalImplicit := by rfl) (hs : ∀ env, starEach [a] env = [(false, eval a env)] := by intro _; rfl) : DI F m tg (.Call (.Name "range" p) [a] [] pos) (iR1 g) := by
  obtain ⟨te, pe, se⟩ := de_any h
  refine ⟨_, fun i => pi_range1 (gl_of hg i) (by rw [F.hmg]; exact hm) (pa_cons (pe i) pa_nil (hs _)) (hs _), fun H0 hid0 s ρ S R q => se H0 hid0 s ρ S _ ?_⟩
  unfold iR1 at q
  split
  · rename_i d hd
    rw [hd, bind_ok] at q
    intro v H' e r
    cases d with
    | int j =>
      dsimp only at q
      by_cases hj : j ≤ 1000000 ∧ -1000000 ≤ j
      · rw [if_pos hj] at q
        have := bo_int r
        subst this
        refine ⟨j, rfl, by omega, by omega, q _ _ e ?_⟩
        have w : Walks F.K (Itr 0 j.toNat) (Rb m s.hid H') (hide s.hid H') ((List.range j.toNat).map fun i => .int (0 + (i : Nat))) := walk_rng
        simpa using w
      · rw [if_neg hj] at q
        exact q.elim
    | none => exact q.elim
    | bool _ => exact q.elim
    | str _ => exact q.elim
    | list _ => exact q.elim
    | tuple _ => exact q.elim
    | dict _ => exact q.elim
  · rename_i c hd
    rw [hd, bind_err] at q
    exact q
  · rename_i hd
    rw [hd, bind_stuck] at q
    exact q
/-! ### pairs: zip, enumerate -/
theorem rb_list {m : Md} {hid : List Addr} {H H' : Hp} {ds : List D} {v : V} (hm : m ≠ .au) (r : Rm K m hid H H' (.list ds) v) : ∃ a xs, v = .ref a ∧ Rb m hid H' a = some (.lst xs) ∧ MnA K (hide hid H') ds xs := by
  cases m with
  | au => exact (hm rfl).elim
  | bo =>
    obtain ⟨a, xs, e1, e2, e3⟩ := bo_list r
    exact ⟨a, xs, e1, hide_at (by simp) e2 (fun ps z => nomatch z), e3⟩
  | fz =>
    have r : Mn K (hide hid H') (.list ds) v := r
    simp only [Mn] at r
    exact r
theorem rb_tup {m : Md} {hid : List Addr} {H H' : Hp} {ds : List D} {v : V} (hm : m ≠ .au) (r : Rm K m hid H H' (.tuple ds) v) : ∃ a xs, v = .ref a ∧ SqT K (hide hid H') a xs ∧ MnA K (hide hid H') ds xs := by
  cases m with
  | au => exact (hm rfl).elim
  | bo => exact bo_tup r
  | fz =>
    have r : Mn K (hide hid H') (.tuple ds) v := r
    simpa only [Mn] using r
theorem rb_ex {m : Md} {hid : List Addr} {H : Hp} (hm : m ≠ .au) : Wx (Rb m hid H) H := by
  cases m with
  | au => exact (hm rfl).elim
  | bo => exact hide_ex
  | fz => exact hide_ex
/-- a new pair -/
theorem pair_new {hid : List Addr} {H : Hp} {T : Addr} {d e : D} {x y : V} (dom : ∀ a ∈ hid, noT (H a) ≠ none) (hT : H T = none) (hx : Mn K (hide hid H) d x) (hy : Mn K (hide hid H) e y) : Ex H (upd H T (.tup [x, y])) ∧ Mn K (hide hid (upd H T (.tup [x, y]))) (.tuple [d, e]) (.ref T) := by
  refine ⟨Ex.new hT, ?_⟩
  have m : MnA K (hide hid H) [d, e] [x, y] := by
    simp only [MnA]
    exact ⟨x, _, rfl, hx, y, [], rfl, hy, rfl⟩
  exact au_tup (m := .fz) dom hT m
def pairs (ds es : List D) : List D := (ds.zip es).map fun p => .tuple [p.1, p.2]
theorem pairs_get {ds es : List D} {i : Nat} {d : D} (h : (pairs ds es)[i]? = some d) : ∃ x y, ds[i]? = some x ∧ es[i]? = some y ∧ d = .tuple [x, y] := by
  unfold pairs at h
  rw [List.getElem?_map] at h
  cases q : (ds.zip es)[i]? with
  | none => rw [q] at h; cases h
  | some p =>
    rw [q] at h
    cases h
    rw [List.getElem?_zip_eq_some] at q
    exact ⟨p.1, p.2, q.1, q.2, rfl⟩
theorem walk_zipL {B C : Hp} {a b : Addr} {xs ys : List V} {ds es : List D} (h1 : B a = some (.lst xs)) (h2 : B b = some (.lst ys)) (m1 : MnA K C ds xs) (m2 : MnA K C es ys) : Walks K (Itz K a b) B C (pairs ds es) where
  at_ := fun hid H eB eC dom i d hd => by
    obtain ⟨d1, d2, g1, g2, rfl⟩ := pairs_get hd
    obtain ⟨x, hx, mx⟩ := m1.get g1
    obtain ⟨y, hy, my⟩ := m2.get g2
    have s1 : SqL K H a xs := SqL.of (eB _ _ h1)
    have s2 : SqL K H b ys := SqL.of (eB _ _ h2)
    refine ⟨⟨xs, ys, x, y, s1, s2, hx, hy⟩, fun v H' ⟨T, x', y', ev, hT, eH, f1, f2⟩ => ?_⟩
    subst ev
    subst eH
    have e1 := f1 xs s1
    rw [hx] at e1
    cases e1
    have e2 := f2 ys s2
    rw [hy] at e2
    cases e2
    exact pair_new dom hT (Mn.mono eC _ _ mx) (Mn.mono eC _ _ my)
  end_ := fun hid H eB eC _ => ⟨xs, ys, SqL.of (eB _ _ h1), SqL.of (eB _ _ h2), by
    unfold pairs
    rw [List.length_map, List.length_zip, m1.length, m2.length]
    omega⟩
theorem walk_zipT {B C : Hp} {a b : Addr} {xs ys : List V} {ds es : List D} (h1 : SqT K C a xs) (h2 : SqT K C b ys) (m1 : MnA K C ds xs) (m2 : MnA K C es ys) : Walks K (RZ.ItzT K a b) B C (pairs ds es) where
  at_ := fun hid H eB eC dom i d hd => by
    obtain ⟨d1, d2, g1, g2, rfl⟩ := pairs_get hd
    obtain ⟨x, hx, mx⟩ := m1.get g1
    obtain ⟨y, hy, my⟩ := m2.get g2
    have s1 : SqT K H a xs := Evl.ex_t (eC.trans hide_ex) h1
    have s2 : SqT K H b ys := Evl.ex_t (eC.trans hide_ex) h2
    refine ⟨⟨xs, ys, x, y, s1, s2, hx, hy⟩, fun v H' ⟨T, x', y', ev, hT, eH, f1, f2⟩ => ?_⟩
    subst ev
    subst eH
    have e1 := f1 xs s1
    rw [hx] at e1
    cases e1
    have e2 := f2 ys s2
    rw [hy] at e2
    cases e2
    exact pair_new dom hT (Mn.mono eC _ _ mx) (Mn.mono eC _ _ my)
  end_ := fun hid H eB eC _ => ⟨xs, ys, Evl.ex_t (eC.trans hide_ex) h1, Evl.ex_t (eC.trans hide_ex) h2, by
    unfold pairs
    rw [List.length_map, List.length_zip, m1.length, m2.length]
    omega⟩
def iZip (g : GA) : GA := fun ρ => (g ρ).bind fun vs => match vs with
  | [.list ds, .list es] => .ok (pairs ds es)
  | [.tuple ds, .tuple es] => .ok (pairs ds es)
  | _ => .stuck
theorem rma_two {m : Md} {hid : List Addr} {H H' : Hp} {d e : D} {vs : List V} (h : RmA K m hid H H' [d, e] vs) : ∃ v u, vs = [v, u] ∧ Rm K m hid H H' d v ∧ Rm K m hid H H' e u := rma2 h
theorem di_zip {m : Md} {a b : Expr} {elts : List Expr} {kk : Nat} {tpos : Pos} {g : GA} {p pos : Pos} (hmg : F.mg "zip" = none) (h : DA F m [a, b] g) (hm : m ≠ .au := by decide) (hg : F.sn.lookup ("zip" : Str) = some .globalImplicit := by rfl)
    (hs : ∀ env, starEach [a, b] env = (false, eval a env) :: starEach [b] env := by intro _; rfl) (hpl : ∀ env, (backTo pos (starEach [b] env)).any (·.1) = false := by intro _; rfl) : DI F m (.Tuple elts kk tpos) (.Call (.Name "zip" p) [a, b] [] pos) (iZip g) := by
  obtain ⟨ta, pa, sa⟩ := h
  refine ⟨RZ.iZipA F.K ta, fun i => ?_, fun H0 hid0 s ρ S R q => sa H0 hid0 s ρ S _ ?_⟩
  · have z := RZ.pi_zipA (tpos := tpos) (elts := elts) (kk := kk) (p := p) (gl_of hg i) (by rw [F.hmg]; exact hmg) (pa i) (hs _) (hpl _)
    rw [F.hK i] at z
    exact z
  · unfold iZip at q
    cases hd : g ρ with
    | stuck => rw [hd] at q; exact q.elim
    | err c => rw [hd, bind_err] at q; exact q
    | ok vs =>
      rw [hd, bind_ok] at q
      dsimp only
      intro ws H' e r
      split at q
      · rename_i z
        split at z
        · cases z
          obtain ⟨v, u, rfl, r1, r2⟩ := rma_two r
          obtain ⟨a1, xs, rfl, b1, c1⟩ := rb_list hm r1
          obtain ⟨a2, ys, rfl, b2, c2⟩ := rb_list hm r2
          exact ⟨a1, a2, xs, ys, rfl, .inl ⟨SqL.of (rb_ex hm _ _ b1), SqL.of (rb_ex hm _ _ b2), q _ _ e (walk_zipL b1 b2 c1 c2)⟩⟩
        · cases z
          obtain ⟨v, u, rfl, r1, r2⟩ := rma_two r
          obtain ⟨a1, xs, rfl, b1, c1⟩ := rb_tup hm r1
          obtain ⟨a2, ys, rfl, b2, c2⟩ := rb_tup hm r2
          exact ⟨a1, a2, xs, ys, rfl, .inr ⟨Evl.ex_t hide_ex b1, Evl.ex_t hide_ex b2, q _ _ e (walk_zipT b1 b2 c1 c2)⟩⟩
        · cases z
      · rename_i z
        split at z <;> cases z
      · exact q.elim
def numbered (ds : List D) : List D := pairs ((List.range ds.length).map fun i => .int (i : Nat)) ds
theorem num_get {ds : List D} {i : Nat} {d : D} (h : (numbered ds)[i]? = some d) : ∃ y, ds[i]? = some y ∧ d = .tuple [.int (i : Nat), y] := by
  obtain ⟨x, y, h1, h2, rfl⟩ := pairs_get h
  rw [List.getElem?_map] at h1
  have hi := (List.getElem?_eq_some_iff.mp h2).1
  rw [List.getElem?_range hi] at h1
  cases h1
  exact ⟨y, h2, rfl⟩
theorem walk_enumL {B C : Hp} {a : Addr} {xs : List V} {ds : List D} (h1 : B a = some (.lst xs)) (m1 : MnA K C ds xs) : Walks K (Ite K a) B C (numbered ds) where
  at_ := fun hid H eB eC dom i d hd => by
    obtain ⟨d1, g1, rfl⟩ := num_get hd
    obtain ⟨x, hx, mx⟩ := m1.get g1
    have s1 : SqL K H a xs := SqL.of (eB _ _ h1)
    refine ⟨⟨xs, x, s1, hx⟩, fun v H' ⟨T, x', ev, hT, eH, f1⟩ => ?_⟩
    subst ev
    subst eH
    have e1 := f1 xs s1
    rw [hx] at e1
    cases e1
    exact pair_new dom hT (by simp [Mn]) (Mn.mono eC _ _ mx)
  end_ := fun hid H eB eC _ => ⟨xs, SqL.of (eB _ _ h1), by
    unfold numbered pairs
    rw [List.length_map, List.length_zip, List.length_map, List.length_range, m1.length]
    omega⟩
end
end DL
set_option Elab.async false
set_option linter.all false
set_option maxRecDepth 100000
set_option maxHeartbeats 4000000
namespace DL
open PySem PySem.Spec PyProof.Rows L2
/-! ### enumerate of a tuple -/
theorem meets_enumT (l : Addr) (items : Array Value) (n : Nat) (dct : Option Addr) (sl : Array (Option Value)) :
    Meets (Builtin.«enumerate.__new__» ⟨[.type "enumerate", .ref l], []⟩) (fun _ R s => s.heap.get? l = some { cls := .type "tuple", dict := dct, data := .seq items n, slots := sl } ∧
      R (.ok (.ret (.ref (s.heap.push { cls := .type "tuple_iterator", data := .fields #[.ref l, .int 0 0] }).objs.size)))
        { s with heap := (s.heap.push { cls := .type "tuple_iterator", data := .fields #[.ref l, .int 0 0] }).push { cls := .type "enumerate", data := .fields #[.none, .bool false, .ref s.heap.objs.size, rawInt 0, .none, .none] } }) :=
  .of_wp fun prog w A R s h => by
    obtain ⟨hp, g, d, tk, os⟩ := s
    obtain ⟨hl, h⟩ := h
    have hsub := sub_enumerate
    have hL : Heap.IsTuple (Shared.heap ⟨hp, g, d, tk, os⟩) l items := ⟨_, hl, rfl, n, rfl⟩
    wp_walk using AutoSeq1.wpAny_loadPart' hl
    refine wpAny_stack_any fun st => wpAny_pure ?_
    split
    · rename_i c _ _ _ _ _
      cases (c == Value.type "enumerate")
      · wp_walk using AutoSeq1.wpAny_loadPart' hl, wpAny_pyIter_tuple hL
        exact ⟨_, rfl, h⟩
      · wp_walk using AutoSeq1.wpAny_loadPart' hl, wpAny_pyIter_tuple hL
        exact ⟨_, rfl, h⟩
    · wp_walk using AutoSeq1.wpAny_loadPart' hl, wpAny_pyIter_tuple hL
      exact ⟨_, rfl, h⟩
section
variable {prog : Program} {w : World} {A : Around} {E : Value → Shared → Prop} {s : Shared}
theorem call_enumT {l : Addr} {items : Array Value} {Q : Value → Shared → Prop} (hL : s.heap.IsTuple l items)
    (h : ∀ h', IsEnum h' (s.heap.objs.size + 1) s.heap.objs.size 0 .none → h'.IsTupleIter s.heap.objs.size l 0 → h'.objs.size = s.heap.objs.size + 2 →
      (∀ b o, s.heap.get? b = some o → h'.get? b = some o) → Q (.ref (s.heap.objs.size + 1)) { s with heap := h' }) :
    wpAny (model prog w) A (call (.type "enumerate") [.ref l]) Q E s := by
  obtain ⟨⟨c, dct, dt, sl⟩, hl, hc, n, hd⟩ := hL
  replace hc : c = .type "tuple" := hc
  replace hd : dt = .seq items n := hd
  subst hc hd
  refine callType_new PySem.F.called_enumerate (by decide) (PySem.F.typeCall_enumerate_1 _) (PySem.F.newCall_enumerate_1 _) (fun obj => PySem.F.args_object_init_2 obj _) PySem.F.entry_enumerate_new (meets_enumT l items n dct sl) ⟨hl, ?_⟩
  have hz : (s.heap.push { cls := .type "tuple_iterator", data := .fields #[.ref l, .int 0 0] }).objs.size = s.heap.objs.size + 1 := Heap.size_push ..
  show _ ∧ _
  rw [hz]
  have he : IsEnum ((s.heap.push { cls := .type "tuple_iterator", data := .fields #[.ref l, .int 0 0] }).push { cls := .type "enumerate", data := .fields #[.none, .bool false, .ref s.heap.objs.size, rawInt 0, .none, .none] }) (s.heap.objs.size + 1) s.heap.objs.size 0 .none := by
    have := Heap.get?_push_size (s.heap.push { cls := .type "tuple_iterator", data := .fields #[.ref l, .int 0 0] }) (o := { cls := .type "enumerate", data := .fields #[.none, .bool false, .ref s.heap.objs.size, rawInt 0, .none, .none] }) rfl
    rw [hz] at this
    exact this
  exact ⟨⟨_, he, rfl⟩, h _ he ⟨_, Heap.get?_push_of_some _ (Heap.get?_push_size _ rfl), rfl, rfl⟩ (by rw [Heap.size_push, hz]) fun b o x => Heap.get?_push_of_some _ (Heap.get?_push_of_some _ x)⟩
end
def IteT (K : PySem.W.Frag) (a : Addr) : It :=
  ⟨fun i H => ∃ (xs : List V) (x : V), SqT K H a xs ∧ xs[i]? = some x, fun i H v H' => ∃ T x, v = .ref T ∧ H T = none ∧ H' = upd H T (.tup [.int (i : Nat), x]) ∧ ∀ xs, SqT K H a xs → xs[i]? = some x, fun i H => ∃ xs : List V, SqT K H a xs ∧ xs.length ≤ i⟩
theorem turn_enumT {P : Program} {w : World} {K : PySem.W.Frag} {elts : List Expr} {kk : Nat} {tpos : Pos} (a e it : Addr) :
    Turn P w K (.Tuple elts kk tpos) (IteT K a) [e, it] e (fun i h => (∃ old, IsEnum h e it ((i : Nat) : Int) old) ∧ h.IsTupleIter it a i ∧ e ≠ it) where
  mem := by simp
  obj := fun i h st b hb => by
    obtain ⟨⟨old, he⟩, ⟨o, ho, hc, hd⟩, _⟩ := st
    have e' : b = e ∨ b = it := by simpa using hb
    rcases e' with z | z
    · rw [z]; exact ⟨_, he, fun v q => nomatch q⟩
    · rw [z]; exact ⟨o, ho, fun v q => by rw [hd] at q; cases q⟩
  keep := fun i h h' st k => let ⟨⟨old, he⟩, hi, hne⟩ := st; ⟨⟨old, k e (by simp) _ he⟩, hi.at fun o q => k it (by simp) o q, hne⟩
  item := by
    intro X hP hw hK hc i pins s σ H E I hf st hg
    subst hP hw hK
    obtain ⟨⟨old, he⟩, hit, hne⟩ := st
    obtain ⟨xs, x, hq, hx⟩ := hg
    obtain ⟨its, rv, p, hz⟩ := I.tuple hq
    obtain ⟨u, hu, ru⟩ := rv.get hx
    have hel : e < s.heap.objs.size := Heap.lt_size he
    have hil : it < s.heap.objs.size := by obtain ⟨_, q, _⟩ := hit; exact Heap.lt_size q
    have pT : s.heap.IsTuple a its.toArray := p
    obtain ⟨oa, hoa, hca, na, hda⟩ := id pT
    have hat : a ≠ it := fun z => by
      obtain ⟨o, ho, hc', _⟩ := hit
      rw [← z, hoa] at ho
      cases ho
      rw [hca] at hc'
      exact absurd hc' (by decide)
    have hea : e ∉ [it, a] := fun z => by
      rcases List.mem_cons.mp z with z | z
      · exact hne z
      · have z : e = a := by simpa using z
        have he2 : s.heap.get? e = some { cls := .type "enumerate", dict := none, data := .fields #[.none, .bool false, .ref it, rawInt ((i : Nat) : Int), .none, old], slots := #[] } := he
        rw [z, hoa] at he2
        have he' := Option.some.inj he2
        rw [he'] at hca
        exact absurd (show Value.type "enumerate" = Value.type "tuple" from hca) (by decide)
    have hlt : i < its.toArray.size := by
      have := (List.getElem?_eq_some_iff.mp hu).1
      simpa using this
    refine wpAny_pyNext_enum_itemD (Draws.tuple (A := X.A.in1) (I.ok.hd hc) it a hat its.toArray) he ⟨hit, pT⟩ hlt hne hea fun u' h' tk hP ho st' hT hsz hk => ?_
    have hu' : its.toArray[i]? = some u := by simpa using hu
    have eu : u' = u := by
      have hP' : its.toArray[i]? = some u' := hP
      rw [hu'] at hP'
      exact (Option.some.inj hP').symm
    subst eu
    refine ⟨_, rfl, wpAny_letOwnedTupleGo_enum (s := { s with heap := h', toks := tk + 1 }) ho fun h'' he' sb => ?_⟩
    have hT2 : h''.get? s.heap.objs.size = some { cls := .type "tuple", data := .seq #[.int i tk, u'] } := (sb.2 _ (Nat.ne_of_gt hel)).trans hT
    have new : ObjOk X.prog X.w (upd H s.heap.objs.size (.tup [.int (i : Nat), x])) h'' s.heap.objs.size (.tup [.int (i : Nat), x]) :=
      ⟨by show 2 ≤ sizeLine; decide, [.int i tk, u'], .cons ⟨_, rfl⟩ (.cons ru .nil), ⟨_, hT2, rfl, _, rfl⟩⟩
    have I1 : Inv X pins σ (upd H s.heap.objs.size (.tup [.int (i : Nat), x])) { s with heap := h'', toks := tk + 1 } :=
      I.turnedNew (ch := [e, it]) (fun b ob hb q => (sb.2 b (fun z => hb (by simp [z]))).trans (hk b ob (fun z => hb (by simp [z])) (fun z => hb (by simp [z])) q)) hf (Nat.le_refl _) new
    refine ⟨.ref s.heap.objs.size, _, I1, rfl, ⟨_, x, rfl, I.hok.fresh (Nat.le_refl _), rfl, fun ys hy => by rw [I.tuple_inj hy hq]; exact hx⟩, ⟨⟨u', ?_⟩, st'.1.at fun o q => (sb.2 it (Ne.symm hne)).trans q, hne⟩, fun b hb => ?_⟩
    · have e1 : ((i + 1 : Nat) : Int) = (i : Int) + 1 := by omega
      rw [e1]; exact he'
    · have hb' : b < s.heap.objs.size := by
        have e' : b = e ∨ b = it := by simpa using hb
        rcases e' with z | z
        · rw [z]; exact hel
        · rw [z]; exact hil
      rw [upd_ne (Nat.ne_of_lt hb')]
      exact (hf b hb).1
  done := by
    intro X hP hw hK hc i pins s σ H E I hf st hg
    subst hP hw hK
    obtain ⟨⟨old, he⟩, hit, hne⟩ := st
    obtain ⟨xs, hq, hx⟩ := hg
    obtain ⟨its, rv, p, hz⟩ := I.tuple hq
    have pT : s.heap.IsTuple a its.toArray := p
    obtain ⟨f0, f1, f2, f3, f4, f5⟩ := hf it (by simp)
    have hl := rv.length
    have hT : s.TypeIs (.ref e) "enumerate" := ⟨_, he, rfl⟩
    unfold pyNext
    refine wpAny_bind (wpAny_attempt (wpAny_callSpecial?_slot (name := Str.ofString "__next__") hT PySem.F.slot_enumerate_next
      (wpAny_call_entry PySem.F.slot_enumerate_next hT PySem.F.entry_enumerate_next ?_ (PySem.F.args_enumerate_next_1 _))))
    show wpAny _ _ (field (.ref e) 2 >>= _) _ _ _
    refine wpAny_bind (wpAny_field he rfl (x := .ref it) rfl ?_)
    refine wpAny_bind (wpAny_nextOf_tuple_end (I.ok.hd hc) hit pT (by simp; omega) fun h' x he' hx' => ?_)
    obtain ⟨o, ho, hc'⟩ := hx'
    refine wpAny_bind (wpAny_isInstance (T := "StopIteration") (b := true) ⟨o, ho, hc'⟩ isSubtype_stop ?_)
    exact wpAny_pure ⟨rfl, I.turned (t' := s.toks) (fun b o hb q => he' b o hb q) f0 f1 f3 f4 f5⟩
  self := fun A i s Q E st h => let ⟨⟨_, he⟩, _⟩ := st; wpAny_pyIter_enum he h
def iEnumT (K : PySem.W.Frag) (ta : TA) : TI := fun σ H R => ta σ H fun vs H1 => ∃ a xs, vs = [.ref a] ∧ SqT K H1 a xs ∧ R (IteT K a) H1
theorem pi_enumT {X : Cx} {e : Expr} {ta : TA} {p pos tpos : Pos} {elts : List Expr} {kk : Nat} (hg : Gl X "enumerate") (hm : X.mg "enumerate" = none) (ha : PA X [e] ta) (hs : starEach [e] X.env = [(false, eval e X.env)] := by rfl) :
    PI X (.Tuple elts kk tpos) (.Call (.Name "enumerate" p) [e] [] pos) (iEnumT X.K ta) := by
  refine ⟨fun pins s σ H R I h => ?_⟩
  refine Call_ (ld_blt I hg hm PyProof.Rows.boot_enumerate (PyProof.Rows.callWith_type1 (thn (ha.run pos pins s σ H _ I h) fun us s1 ⟨vs, H1, I1, r1, q1⟩ => ?_) hs rfl))
  obtain ⟨a, xs, ex, hq, q⟩ := q1
  subst ex
  cases r1 with
  | cons r rr =>
    cases rr
    cases r
    obtain ⟨its, rv, p', hz⟩ := I1.tuple hq
    refine call_enumT (show s1.heap.IsTuple a its.toArray from p') fun h' he hit hsz hk => wpAny_pyIter_enum he ?_
    have I2 : Inv X pins σ H1 { s1 with heap := h' } := I1.kept (t' := s1.toks) hk
    refine ⟨s1.heap.objs.size + 1, [s1.heap.objs.size + 1, s1.heap.objs.size], _, _, H1, rfl, I2, turn_enumT a (s1.heap.objs.size + 1) s1.heap.objs.size, ⟨⟨.none, he⟩, hit, Nat.succ_ne_self _⟩, fun b hb => ?_, q⟩
    have e' : b = s1.heap.objs.size + 1 ∨ b = s1.heap.objs.size := by simpa using hb
    have hle : s1.heap.objs.size ≤ b := by
      rcases e' with z | z
      · rw [z]; exact Nat.le_add_right _ _
      · rw [z]; exact Nat.le_refl _
    exact I1.fpOk hle (I1.hok.fresh hle)
variable [TabsC]
section
variable {F : Fam} {K : PySem.W.Frag}
theorem walk_enumT {B C : Hp} {a : Addr} {xs : List V} {ds : List D} (h1 : SqT K C a xs) (m1 : MnA K C ds xs) : Walks K (IteT K a) B C (numbered ds) where
  at_ := fun hid H eB eC dom i d hd => by
    obtain ⟨d1, g1, rfl⟩ := num_get hd
    obtain ⟨x, hx, mx⟩ := m1.get g1
    have s1 : SqT K H a xs := Evl.ex_t (eC.trans hide_ex) h1
    refine ⟨⟨xs, x, s1, hx⟩, fun v H' ⟨T, x', ev, hT, eH, f1⟩ => ?_⟩
    subst ev
    subst eH
    have e1 := f1 xs s1
    rw [hx] at e1
    cases e1
    exact pair_new dom hT (by simp [Mn]) (Mn.mono eC _ _ mx)
  end_ := fun hid H eB eC _ => ⟨xs, Evl.ex_t (eC.trans hide_ex) h1, by
    unfold numbered pairs
    rw [List.length_map, List.length_zip, List.length_map, List.length_range, m1.length]
    omega⟩
def iEnum1 (g : GE) : GA := fun ρ => (g ρ).bind fun d => match d with
  | .list ds => .ok (numbered ds)
  | .tuple ds => .ok (numbered ds)
  | _ => .stuck
theorem di_enum {m : Md} {e : Expr} {elts : List Expr} {kk : Nat} {tpos : Pos} {g : GE} {p pos : Pos} (hmg : F.mg "enumerate" = none) (h : DE F m e g) (hm : m ≠ .au := by decide) (hg : F.sn.lookup ("enumerate" : Str) = some .globalImplicit := by rfl) (hs : ∀ env, starEach [e] env = [(false, eval e env)] := by intro _; rfl) :
    DI F m (.Tuple elts kk tpos) (.Call (.Name "enumerate" p) [e] [] pos) (iEnum1 g) := by
  obtain ⟨te, pe, se⟩ := h
  refine ⟨fun σ H R => iEnum F.K (tCons te tNil) σ H R ∨ iEnumT F.K (tCons te tNil) σ H R, fun i => ?_, fun H0 hid0 s ρ S R q => ?_⟩
  · have z := L2.pi_enum (tpos := tpos) (elts := elts) (kk := kk) (p := p) (pos := pos) (gl_of hg i) (by rw [F.hmg]; exact hmg) (pa_cons (pe i) pa_nil (hs _)) (hs _)
    have z2 := pi_enumT (tpos := tpos) (elts := elts) (kk := kk) (p := p) (pos := pos) (gl_of hg i) (by rw [F.hmg]; exact hmg) (pa_cons (pe i) pa_nil (hs _)) (hs _)
    rw [F.hK i] at z z2
    exact pi_alt z z2
  · unfold iEnum1 at q
    cases hd : g ρ with
    | stuck => rw [hd] at q; exact q.elim
    | err c =>
      rw [hd, bind_err] at q
      refine .inl (se H0 hid0 s ρ S _ ?_)
      rw [hd]
      exact q
    | ok d =>
      rw [hd, bind_ok] at q
      cases d with
      | list ds =>
        refine .inl (se H0 hid0 s ρ S _ ?_)
        rw [hd]
        intro v H' e r
        obtain ⟨a, xs, rfl, b1, c1⟩ := rb_list hm r
        exact ⟨a, xs, rfl, SqL.of (rb_ex hm _ _ b1), q _ _ e (walk_enumL b1 c1)⟩
      | tuple ds =>
        refine .inr (se H0 hid0 s ρ S _ ?_)
        rw [hd]
        intro v H' e r
        obtain ⟨a, xs, rfl, b1, c1⟩ := rb_tup hm r
        exact ⟨a, xs, rfl, Evl.ex_t hide_ex b1, q _ _ e (walk_enumT b1 c1)⟩
      | none => exact q.elim
      | bool _ => exact q.elim
      | int _ => exact q.elim
      | str _ => exact q.elim
      | dict _ => exact q.elim
end
end DL
set_option Elab.async false
set_option linter.all false
set_option maxRecDepth 100000
set_option maxHeartbeats 4000000
namespace DL
open PySem PySem.Spec PyProof.Rows L2
variable [TabsC]
section
variable {F : Fam} {K : PySem.W.Frag}
abbrev dSub : D → D → Option D := dI fun i j => .int (i - j)
abbrev dDiv : D → D → Option D := dIc cDiv fun i j => .int (i / j)
abbrev dMod : D → D → Option D := dIc cPos fun i j => .int (i % j)
/-! ### constants of the module -/
theorem de_gstr {m : Md} {x s : Str} {pos : Pos} (h : ∃ t, F.mg x = some (.str s t)) (hg : F.sn.lookup x = some .globalImplicit := by rfl) (hd : (x == ("__debug__" : Str)) = false := by decide) : DE F m (.Name x pos) (eC (.str s)) := by
  obtain ⟨t, h⟩ := h
  exact de_glob (v := .str s) h ⟨t, rfl⟩ rfl (fun _ => by simp [Mn]) hg hd
theorem de_gint {m : Md} {x : Str} {i : Int} {pos : Pos} (h : ∃ t, F.mg x = some (.int i t)) (hg : F.sn.lookup x = some .globalImplicit := by rfl) (hd : (x == ("__debug__" : Str)) = false := by decide) : DE F m (.Name x pos) (eC (.int i)) := by
  obtain ⟨t, h⟩ := h
  exact de_glob (v := .int i) h ⟨t, rfl⟩ rfl (fun _ => by simp [Mn]) hg hd
def GTup (K : PySem.W.Frag) (mg : Str → Option Value) (x : Str) (ss : List Str) : Prop := ∃ (a : Addr) (o : Obj) (its : Array Value) (n : Nat), mg x = some (.ref a) ∧ K.lookup a = some o ∧ o.cls = .type "tuple" ∧ o.data = .seq its n ∧ its.size ≤ sizeLine ∧ Vals (ss.map V.str) its.toList
theorem de_gtup {m : Md} {x : Str} {ss : List Str} {pos : Pos} (h : GTup F.K F.mg x ss) (hg : F.sn.lookup x = some .globalImplicit := by rfl) (hd : (x == ("__debug__" : Str)) = false := by decide) : DE F m (.Name x pos) (eC (.tuple (ss.map .str))) := by
  obtain ⟨a, o, its, n, h1, h2, h3, h4, h5, h6⟩ := h
  refine de_glob (v := .ref a) h1 rfl rfl (fun H => ?_) hg hd
  simp only [Mn]
  exact ⟨a, ss.map V.str, rfl, .inr ⟨o, its, n, h2, h3, h4, h5, h6⟩, MnA.of_strs⟩
/-! ### * -/
theorem MnA.rep {H : Hp} {ds : List D} {xs : List V} (h : MnA K H ds xs) : ∀ n : Nat, MnA K H (List.replicate n ds).flatten (List.replicate n xs).flatten
  | 0 => by simp [MnA]
  | n + 1 => by
    rw [List.replicate_succ, List.replicate_succ, List.flatten_cons, List.flatten_cons]
    exact h.append (MnA.rep h n)
def dRep : D → D → Option D
  | .list xs, .int k => if xs.length * k.toNat ≤ 1000000 ∧ -1000000 ≤ k ∧ k ≤ 1000000 then some (.list (List.replicate k.toNat xs).flatten) else none
  | _, _ => none
theorem ops_rep : OpS K .au rRep dRep := fun hid H d e z x y Q dom rx ry hf q => by
  cases d <;> simp only [dRep] at hf <;> try cases hf
  cases e <;> simp only [dRep] at hf <;> try cases hf
  split at hf
  · rename_i hc
    cases hf
    obtain ⟨a, xs, rfl, h1, h2⟩ := bo_list rx
    refine ⟨a, _, xs, rfl, bo_int ry, h1, by omega, by omega, by rw [h2.length]; exact small_line hc.1, fun p hp => q _ _ (Ex.new hp) (au_list hp (h2.rep _))⟩
  · cases hf
def dMul : D → D → Option D := fun x y => (dIc cMul (fun i j => .int (i * j)) x y).or (dRep x y)
theorem de_mul {ma mb : Md} {a b : Expr} {ga gb : GE} {pos : Pos} (ha : DE F ma a ga) (hb : DE F mb b gb) : DE F .au (.BinOp a .Mult b pos) (e2 dMul ga gb) :=
  de_op (r := fun x y H Q => (rI CMul fun i j => .int (i * j)) x y H Q ∨ rRep x y H Q) (fun i => op_mul.or op_rep) ((ops_rI cMul_ok fun _ _ _ _ _ => rm_int).or1 ops_rep) ha hb
end
end DL
set_option Elab.async false
set_option linter.all false
set_option maxRecDepth 100000
set_option maxHeartbeats 4000000
namespace DL
open PySem PySem.Spec PyProof.Rows L2
/-! ### defs that the head tells of -/
section
variable {K : PySem.W.Frag} {x q : Str} {st : Stmt} {f : Addr} {fd : FuncData}
theorem fun_of (F : FunD K x q (defArgs st) (defBody st) (defScope st) [] [] f fd) : L2.Fun K x q st f fd := by
  obtain ⟨oc, od, dV, kV, doc, pm, an, cdv, ct, osl, e, lk, hcd, hD, hK⟩ := F.ex
  rcases hD with ⟨_, z⟩ | ⟨e', _⟩
  · subst z
    exact ⟨⟨oc, od, kV, doc, pm, an, cdv, ct, osl, e, lk, hcd⟩, F.kp⟩
  · exact absurd rfl e'
/-- .. with its code object -/
theorem okXC {P : Program} {w : World} {mg : Str → Option Value} {base : Heap} {N ps : List Str} {k : Nat} {sp : Sp} (F : L2.Fun K x q st f fd) (S : FnScope N ps (defScope st)) (len : ∀ vs H Q E, sp vs H Q E → vs.length = ps.length)
    (hbody : ∀ (cdv : Value), fd.code = cdv → ∀ (A : Around) (outer : List PySem.Env) (s : Shared) (H : Hp) (vs : List V) (Q : VK) (E : XK), Room k (A.deeper (envOfC q (defScope st) s.heap.objs.size f cdv)) → sp vs H Q E →
      ∃ t, PSs (cxOf (L2.CX P w) P w K mg base N q (defScope st) f cdv A outer s H E) (defBody st) t ∧ t { nx := fun _ H' => Q .non H', rt := Q } (L2.start N vs) H) : FnOk P w K mg base (L2.CX P w) (k + 1) f fd ps sp := by
  obtain ⟨oc, od, kV, doc, pm, an, cdv, ct, osl, rfl, lk, hcd⟩ := F.ex
  exact fn_of lk hcd S len fun A outer s H vs Q E hr hsp => hbody cdv rfl A outer s H vs Q E hr hsp
end
/-! ### the module's constant tuples; the errors -/
def strsB : List Value → List Str → Bool
  | [], [] => true
  | .str x _ :: vs, y :: ys => decide (x = y) && strsB vs ys
  | _, _ => false
theorem strsB_ok : ∀ {vs : List Value} {ss : List Str}, strsB vs ss = true → Vals (ss.map V.str) vs
  | [], [], _ => .nil
  | [], _ :: _, h => by cases h
  | v :: vs, [], h => by cases v <;> cases h
  | v :: vs, y :: ys, h => by
    cases v with
    | str x t =>
      obtain ⟨h1, h2⟩ := Bool.and_eq_true_iff.mp (show (decide (x = y) && strsB vs ys) = true from h)
      have e := of_decide_eq_true h1
      subst e
      exact .cons ⟨t, rfl⟩ (strsB_ok h2)
    | _ => cases h
def gtupB (K : PySem.W.Frag) (x : Str) (ss : List Str) : Bool := match PySem.W.nsIn K mainGlobals x with
  | some (some (.ref a)) => (match K.lookup a with
    | some ⟨.type c, _, .seq its _, _⟩ => decide (c = "tuple") && (decide (its.size ≤ 1000000) && strsB its.toList ss)
    | _ => false)
  | _ => false
theorem gtup_ok {K : PySem.W.Frag} {h : Heap} {mg : Str → Option Value} {x : Str} {ss : List Str} (X : K.In h) (G : h.Ns mainGlobals mg) (c : gtupB K x ss = true) : GTup K mg x ss := by
  unfold gtupB at c
  split at c
  · rename_i a e
    split at c
    · rename_i cl od its n sl lk
      obtain ⟨h1, h2⟩ := Bool.and_eq_true_iff.mp c
      obtain ⟨h3, h4⟩ := Bool.and_eq_true_iff.mp h2
      have e1 := of_decide_eq_true h1
      subst e1
      exact ⟨a, _, its, n, PySem.W.mg_of X G e, lk, rfl, rfl, Nat.le_trans (of_decide_eq_true h3) (by decide), strsB_ok h4⟩
    · cases c
  · cases c
/-- the errors by number -/
def enm : Nat → Str
  | 0 => "NoText"
  | 1 => "NoRow"
  | 2 => "Unlike"
  | _ => "HeapError"
def eAd (K : PySem.W.Frag) (c : Nat) : Addr := He.ga K (enm c)
structure Ecls (K : PySem.W.Frag) (mg : Str → Option Value) : Prop where
  g : ∀ c, c < 4 → mg (enm c) = some (.ref (eAd K c))
  ec : ∀ c, c < 3 → ExcC K (eAd K c)
  kit : ∀ c j, c < 3 → j < 3 → PySem.W.kitOne K (.ref (eAd K c)) (.ref (eAd K j)) = some (decide (c = j))
  kitV : ∀ c, c < 3 → PySem.W.kitOne K (.ref (eAd K c)) (.type "ValueError") = some true
  exm : ∀ c, c < 3 → PySem.W.exmOne K (.ref (eAd K c)) (.ref (eAd K 3)) = some true
def ecB (K : PySem.W.Frag) (D : Addr) : Bool :=
  decide (PySem.W.findIn K (.ref D) "__getattribute__" = some (some (.builtin "BaseException.__getattribute__"))) && (decide (PySem.W.findIn K (.ref D) "__getattr__" = some none) && (decide (PySem.W.subIn K (.ref D) (.type "BaseException") = some true) && (PySem.W.hasDictIn K D &&
    (decide (PySem.W.findIn K (.ref D) "__class__" = some (some (.builtin "object.__class__"))) && (decide (PySem.W.specialIn K (.builtin "object.__class__") "__get__" = some (some (.builtin "getset_descriptor.__get__"))) && (decide (PySem.W.takesIn K (.builtin "object.__class__") = some true) && decide (PySem.W.mroIn K D (.type "object") = some true)))))))
theorem ecB_ok {K : PySem.W.Frag} {D : Addr} (h : ecB K D = true) : ExcC K D := by
  unfold ecB at h
  simp only [Bool.and_eq_true, decide_eq_true_eq] at h
  obtain ⟨h1, h2, h3, h4, h5, h6, h7, h8⟩ := h
  exact ⟨h1, h2, h3, h4, h5, h6, h7, h8⟩
def eclsB (K : PySem.W.Frag) : Bool := ((List.range 4).all fun c => decide (PySem.W.nsIn K mainGlobals (enm c) = some (some (.ref (eAd K c))))) && ((List.range 3).all fun c => ecB K (eAd K c) && (((List.range 3).all fun j => decide (PySem.W.kitOne K (.ref (eAd K c)) (.ref (eAd K j)) = some (decide (c = j)))) &&
  (decide (PySem.W.kitOne K (.ref (eAd K c)) (.type "ValueError") = some true) && decide (PySem.W.exmOne K (.ref (eAd K c)) (.ref (eAd K 3)) = some true))))
theorem ecls_ok {K : PySem.W.Frag} {h : Heap} {mg : Str → Option Value} (X : K.In h) (G : h.Ns mainGlobals mg) (c : eclsB K = true) : Ecls K mg := by
  unfold eclsB at c
  simp only [Bool.and_eq_true, List.all_eq_true, List.mem_range, decide_eq_true_eq] at c
  obtain ⟨c1, c2⟩ := c
  exact ⟨fun c h => PySem.W.mg_of X G (c1 c h), fun c h => ecB_ok (c2 c h).1, fun c j h h' => (c2 c h).2.1 j h', fun c h => (c2 c h).2.2.1, fun c h => (c2 c h).2.2.2⟩
abbrev clE (K : PySem.W.Frag) : Nat → Value := fun c => .ref (eAd K c)
theorem exd_ok {K : PySem.W.Frag} {h : Heap} {mg : Str → Option Value} (X : K.In h) (G : h.Ns mainGlobals mg) (c : Nat) (h1 : PySem.W.nsIn K mainGlobals (enm c) = some (some (.ref (eAd K c)))) (h2 : (He.Fa.exc (enm c)).ok K = true) : ExD K mg (clE K) (enm c) c := by
  obtain ⟨a, b, d, e⟩ := He.exc_ok h2
  exact ⟨eAd K c, rfl, PySem.W.mg_of X G h1, b, d, e, a⟩
theorem noCX {P : Program} {w : World} {outer : List PySem.Env} {H : Hp} {s : Shared} {e : Value} {s' : Shared} (h : L2.CX P w outer H s (fun _ _ _ => False) e s') : False := by
  obtain ⟨_, _, _, _, _, _, _, _, _, _, _, _, z⟩ := h
  exact z
theorem tabs1 {H : Hp} {P : Addr} {q : Str} (h : H P = some (.tbl #[])) : LamX.Tabs [(P, q)] H := fun p hp => by
  have e : p = (P, q) := by simpa using hp
  subst e
  exact LamX.TabS.nil h
theorem tabs0 {H : Hp} : LamX.Tabs [] H := fun p hp => by cases hp
variable [TabsC]
section
variable {P : Program} {w : World} {K : PySem.W.Frag} {mg : Str → Option Value} {base : Heap} {cl : Nat → Value}
/-- a def whose code object is known: one that makes lambdas -/
theorem fn_okC {x qual : Str} {st : Stmt} {f : Addr} {fd : FuncData} {N ps : List Str} {k n : Nat} {rm : Md} {O : Nat → Bool} {g : GS} {c : Addr} (F : Fun K x qual st f fd) (hc : fd.code = .ref c) (S : FnScope N ps (defScope st)) (hn : ps.length = n := by rfl) (hnN : n ≤ N.length := by decide)
    (hO : (List.range n).all (fun i => !O i) = true := by decide)
    (hb : ∀ (E : XK), DSs (famD P w K mg base N qual (defScope st) f (.ref c) E cl O k S.kind S.nd) rm (defBody st) g) : FnOk P w K mg base (L2.CX P w) (k + 1) f fd ps (spD K cl n rm (runD N.length n g)) := by
  refine okXC F S (fun vs H Q E h => by rw [hn]; exact h.1) fun cdv ec A outer s H vs Q E hr h => ?_
  rw [hc] at ec
  subst ec
  obtain ⟨t, pt, st⟩ := hb E
  refine ⟨t, pt ⟨(A, outer, s, H), hr⟩, ?_⟩
  obtain ⟨hl, tb, hid, ds, knd, m, q⟩ := h
  have hO' : ∀ i, i < vs.length → O i = false := fun i hi => by
    rw [List.all_eq_true] at hO
    have := hO i (List.mem_range.mpr (by omega))
    simpa using this
  have S0 := sees0 (O := O) (N := N) (by omega) knd tb m hO'
  refine st H hid _ _ S0 _ ?_
  have hdl : (ds.length == n) = true := by
    have := m.length
    simp; omega
  unfold runD at q
  rw [hdl] at q
  dsimp only [cond] at q
  cases hg : g (env0 N.length ds) with
  | stuck => rw [hg] at q; exact q.elim
  | err c => rw [hg] at q; exact fun H' e => q H' e
  | ok fl =>
    rw [hg] at q
    cases fl with
    | nx ρ' => exact fun s' e S' => q .non s'.H S'.ex0 (rm_plain rfl (by simp [Mn]))
    | rt d => exact q
    | bk ρ' => exact q.elim
    | ct ρ' => exact q.elim
/-- what the law is asked at a script -/
def scrD (ns : List Int) : D := .dict [(.none, .list (ns.map .int))]
theorem law_sp {f : List D → Out D} {H : Hp} {a : Addr} {ns : List Int} (hT : LamX.Tabs TabsC.T H) (hS : SqL K H a (ns.map V.int)) (hf : f [scrD ns] = .ok (.bool true)) : spD K cl 1 .fz f [.ref a] H (fun v _ => v = .bl true) fun _ _ _ => False := by
  refine ⟨rfl, hT, [], [scrD ns], fun b hb => (by cases hb), ?_, ?_⟩
  · simp only [MnA]
    refine ⟨_, [], rfl, ?_, rfl⟩
    unfold scrD
    simp only [Mn]
    refine .inr (.inl ⟨a, ns, rfl, ?_, rfl⟩)
    rcases hS with (h | ⟨o, h⟩) | h
    · exact .inl (.inl (hide_at (by simp) h (fun ps z => nomatch z)))
    · exact .inl (.inr ⟨o, hide_at (by simp) h (fun ps z => nomatch z)⟩)
    · exact .inr h
  · rw [hf]
    intro v H' e r
    have r : Mn K (hide [] H') (.bool true) v := r
    simpa only [Mn] using r
end
end DL
set_option Elab.async false
set_option linter.all false
set_option maxRecDepth 100000
set_option maxHeartbeats 4000000
namespace DL
open PySem PySem.Spec PyProof.Rows L2
/-! ### the plain reckoning: what the combinators come to -/
section
variable {ρ ρ1 : Env} {d : D} {c : Nat} {g g2 : GE} {t u : GT} {s k : GS} {a : GA}
@[simp] theorem p_thenN {k : GS} : sThen (.ok (.nx ρ)) k = k ρ := rfl
@[simp] theorem p_thenR {k : GS} : sThen (.ok (.rt d)) k = .ok (.rt d) := rfl
@[simp] theorem p_thenE {k : GS} : sThen (.err c) k = .err c := rfl
@[simp] theorem p_thenS {k : GS} : sThen .stuck k = .stuck := rfl
@[simp] theorem p_seq : sSeq s k ρ = sThen (s ρ) k := rfl
@[simp] theorem p_nil : sNil ρ = .ok (.nx ρ) := rfl
@[simp] theorem p_set {i : Nat} : sSet i g ρ = (g ρ).bind fun d => .ok (.nx (ρ.set i (some d))) := rfl
@[simp] theorem p_own {i : Nat} : sOwn i g ρ = (g ρ).bind fun d => bif isCon d then .ok (.nx (ρ.set i (some d))) else .stuck := rfl
@[simp] theorem p_ret : sRet g ρ = (g ρ).bind fun d => .ok (.rt d) := rfl
@[simp] theorem p_rai : sRai c ρ = .err c := rfl
@[simp] theorem p_expr : sExpr g ρ = (g ρ).bind fun _ => .ok (.nx ρ) := rfl
@[simp] theorem p_if : sIf t s k ρ = (t ρ).bind fun x => bif x then s ρ else k ρ := rfl
@[simp] theorem p_c : eC d ρ = .ok d := rfl
@[simp] theorem p_var {i : Nat} : eVar i ρ = match ρ[i]? with
  | some (some d) => .ok d
  | _ => .stuck := rfl
@[simp] theorem p_e2 {f : D → D → Option D} : e2 f g g2 ρ = (g ρ).bind fun x => (g2 ρ).bind fun y => lift (f x y) := rfl
@[simp] theorem p_e1 {f : D → Option D} : e1 f g ρ = (g ρ).bind fun x => lift (f x) := rfl
@[simp] theorem p_call {f : List D → Out D} : eCall f a ρ = (a ρ).bind f := rfl
@[simp] theorem p_callB {f : List D → Out D} : eCallB f a ρ = (a ρ).bind fun ds => imO (f ds) := rfl
@[simp] theorem p_cl {f : List D → Option D} : eCl f a ρ = (a ρ).bind fun ds => lift (f ds) := rfl
@[simp] theorem p_f1 {f : D → Option D} : f1 f [d] = f d := rfl
@[simp] theorem p_told {tf : Out D → Out D} : eTold tf g ρ = tf (g ρ) := rfl
@[simp] theorem p_anil : aNil ρ = .ok [] := rfl
@[simp] theorem p_acons : aCons g a ρ = (g ρ).bind fun d => (a ρ).bind fun ds => .ok (d :: ds) := rfl
@[simp] theorem p_tup : eTup a ρ = (a ρ).bind fun ds => if ds.length ≤ 1000000 then .ok (.tuple ds) else .stuck := rfl
@[simp] theorem p_lst : eLst a ρ = (a ρ).bind fun ds => if ds.length ≤ 1000000 then .ok (.list ds) else .stuck := rfl
@[simp] theorem p_tV : tV g ρ = (g ρ).bind fun d => match d with
  | .bool b => .ok b
  | _ => .stuck := rfl
@[simp] theorem p_not : gNot t ρ = (t ρ).bind fun x => .ok (!x) := rfl
@[simp] theorem p_and : gAnd t u ρ = (t ρ).bind fun x => if x then u ρ else .ok false := rfl
@[simp] theorem p_or : gOr t u ρ = (t ρ).bind fun x => if x then .ok true else u ρ := rfl
@[simp] theorem p_ite {g3 : GE} : eIf t g2 g3 ρ = (t ρ).bind fun k => if k then g2 ρ else g3 ρ := rfl
@[simp] theorem p_eand : eAnd g g2 ρ = (g ρ).bind fun x => match x with
  | .bool true => g2 ρ
  | .bool false => .ok (.bool false)
  | _ => .stuck := rfl
@[simp] theorem p_eor : eOr g g2 ρ = (g ρ).bind fun x => match x with
  | .bool false => g2 ρ
  | .bool true => .ok (.bool true)
  | _ => .stuck := rfl
@[simp] theorem p_ch {f f' : D → D → Option D} {g3 : GE} : eCh f f' g g2 g3 ρ = (g ρ).bind fun x => (g2 ρ).bind fun y => (lift (f x y)).bind fun k => match k with
  | .bool true => (g3 ρ).bind fun z => lift (f' y z)
  | .bool false => .ok (.bool false)
  | _ => .stuck := rfl
@[simp] theorem p_tg {tg : Tg} : sTg g tg ρ = (g ρ).bind fun d => match tg d ρ with
  | some ρ' => .ok (.nx ρ')
  | none => .stuck := rfl
@[simp] theorem p_tgN {i : Nat} : tgN i d ρ = some (ρ.set i (some d)) := rfl
@[simp] theorem p_tgT {u : Tgs} {ds : List D} : tgT u (.tuple ds) ρ = u ds ρ := rfl
@[simp] theorem p_tgNil : tgNil [] ρ = some ρ := rfl
@[simp] theorem p_tgCons {t : Tg} {u : Tgs} {ds : List D} : tgCons t u (d :: ds) ρ = (t d ρ).bind (u ds) := rfl
@[simp] theorem p_outR : outD (.ok (.rt d)) = .ok d := rfl
@[simp] theorem p_outN : outD (.ok (.nx ρ)) = .ok .none := rfl
@[simp] theorem p_outE : outD (.err c) = .err c := rfl
end
theorem run_at {N n : Nat} {g : GS} {ds : List D} (h : ds.length = n) : runD N n g ds = outD (g (env0 N ds)) := by
  unfold runD
  have : (ds.length == n) = true := by simpa using h
  rw [this]
  rfl
/-! ### ints -/
@[simp] theorem d_add {i j : Int} : dAdd (.int i) (.int j) = some (.int (i + j)) := rfl
@[simp] theorem d_sub {i j : Int} : dSub (.int i) (.int j) = some (.int (i - j)) := rfl
theorem d_mul {i j : Int} (h : cMul i j = true) : dMul (.int i) (.int j) = some (.int (i * j)) := by
  show (if cMul i j then some (PyData.int (i * j)) else none).or (dRep (.int i) (.int j)) = _
  rw [if_pos h]
  rfl
theorem d_mulr {i j : Int} (h : -18446744073709551616 < j ∧ j < 18446744073709551616) : dMul (.int i) (.int j) = some (.int (i * j)) := d_mul (by
  unfold cMul
  simp only [Bool.or_eq_true, Bool.and_eq_true, decide_eq_true_eq]
  exact .inr ⟨by omega, by omega⟩)
theorem d_mull {i j : Int} (h : -18446744073709551616 < i ∧ i < 18446744073709551616) : dMul (.int i) (.int j) = some (.int (i * j)) := d_mul (by
  unfold cMul
  simp only [Bool.or_eq_true, Bool.and_eq_true, decide_eq_true_eq]
  exact .inl ⟨by omega, by omega⟩)
theorem d_div {i j : Int} (h : 0 < j ∧ j < 1073741824) : dDiv (.int i) (.int j) = some (.int (i / j)) := by
  show (if cDiv i j then some (PyData.int (i / j)) else none) = _
  rw [if_pos]
  unfold cDiv
  simp [h]
theorem d_mod {i j : Int} (h : 0 < j) : dMod (.int i) (.int j) = some (.int (i % j)) := by
  show (if cPos i j then some (PyData.int (i % j)) else none) = _
  rw [if_pos]
  unfold cPos
  simp [h]
@[simp] theorem d_lt {i j : Int} : dLt (.int i) (.int j) = some (.bool (decide (i < j))) := rfl
@[simp] theorem d_le {i j : Int} : dLe (.int i) (.int j) = some (.bool (decide (i ≤ j))) := rfl
@[simp] theorem d_gt {i j : Int} : dGt (.int i) (.int j) = some (.bool (decide (j < i))) := rfl
@[simp] theorem d_ge {i j : Int} : dGe (.int i) (.int j) = some (.bool (decide (j ≤ i))) := rfl
theorem okEq_ii {i j : Int} : okEq (.int i) (.int j) = true := by simp [okEq, PyData.plain, PyData.depth]
@[simp] theorem d_eqI {i j : Int} : dEq (.int i) (.int j) = some (.bool (decide (i = j))) := by
  unfold dEq
  rw [okEq_ii, if_pos rfl]
  simp only [PyData.eqv]
  congr 2
@[simp] theorem d_neI {i j : Int} : dNe (.int i) (.int j) = some (.bool (!decide (i = j))) := by
  unfold dNe
  rw [okEq_ii, if_pos rfl]
  simp only [PyData.eqv]
  congr 3
@[simp] theorem d_lenL {ds : List D} : dLen (.list ds) = some (.int ds.length) := rfl
@[simp] theorem d_lenT {ds : List D} : dLen (.tuple ds) = some (.int ds.length) := rfl
@[simp] theorem d_lenS {ns : List Int} : dLen (scrD ns) = some (.int ns.length) := by
  show some (PyData.int ((ns.map PyData.int).length : Nat)) = _
  rw [List.length_map]
theorem ixN_pos {n : Nat} {i : Int} (h0 : 0 ≤ i) (h1 : i < n) : ixN n i = some i.toNat := by
  unfold ixN
  simp [h0, h1]
theorem atI_pos {α : Type} {xs : List α} {i : Int} (h0 : 0 ≤ i) (h1 : i < xs.length) : atI xs i = xs[i.toNat]? := by
  unfold atI
  rw [ixN_pos h0 h1]
  rfl
@[simp] theorem d_ixL {ds : List D} {i : Int} : dIx (.list ds) (.int i) = atI ds i := by
  show (atI ds i).or none = _
  cases atI ds i <;> rfl
@[simp] theorem d_ixT {ds : List D} {i : Int} : dIx (.tuple ds) (.int i) = atI ds i := by
  show (atI ds i).or none = _
  cases atI ds i <;> rfl
theorem d_ixScr {ns : List Int} {i : Int} (h0 : 0 ≤ i) (h1 : i < ns.length) : dIx (scrD ns) (.int i) = some (.int (ns.getD i.toNat 0)) := by
  have e : atI (ns.map PyData.int) i = some (.int (ns.getD i.toNat 0)) := by
    rw [atI_pos h0 (by rw [List.length_map]; exact h1), List.getElem?_map]
    have hl : i.toNat < ns.length := by omega
    rw [List.getElem?_eq_getElem hl, List.getD_eq_getElem?_getD, List.getElem?_eq_getElem hl]
    rfl
  show (atI (ns.map PyData.int) i).or (dIxD (scrD ns) (.int i)) = _
  rw [e]
  rfl
/-! ### loops -/
theorem forGo_inv {tg : Tg} {b : GS} (I : Nat → Env → Prop) : ∀ (ds : List D) (i : Nat), (∀ (j : Nat) (d : D) (ρ : Env), ds[j]? = some d → I (i + j) ρ → ∃ ρ1, tg d ρ = some ρ1 ∧ ∃ ρ2, (b ρ1 = .ok (.nx ρ2) ∨ b ρ1 = .ok (.ct ρ2)) ∧ I (i + j + 1) ρ2) →
    ∀ ρ, I i ρ → ∃ ρ', forGo tg b ds ρ = .ok (.nx ρ') ∧ I (i + ds.length) ρ'
  | [], i, _, ρ, h => ⟨ρ, rfl, h⟩
  | d :: ds, i, st, ρ, h => by
    obtain ⟨ρ1, h1, ρ2, h2, h3⟩ := st 0 d ρ rfl h
    obtain ⟨ρ', h4, h5⟩ := forGo_inv I ds (i + 1) (fun j e ρ' he hI => by
      have := st (j + 1) e ρ' (by simpa using he) (by rw [show i + (j + 1) = i + 1 + j by omega]; exact hI)
      rw [show i + (j + 1) = i + 1 + j by omega] at this
      exact this) ρ2 h3
    refine ⟨ρ', ?_, by rw [List.length_cons, show i + (ds.length + 1) = i + 1 + ds.length by omega]; exact h5⟩
    unfold forGo
    rw [h1]
    rcases h2 with h2 | h2
    · dsimp only
      rw [h2]
      exact h4
    · dsimp only
      rw [h2]
      exact h4
theorem p_for {gi : GA} {tg : Tg} {b : GS} {ρ : Env} {ds : List D} (h : gi ρ = .ok ds) : sFor gi tg b ρ = forGo tg b ds ρ := by
  unfold sFor
  rw [h]
  rfl
theorem p_seqN {s k : GS} {ρ ρ1 : Env} (h : s ρ = .ok (.nx ρ1)) : sSeq s k ρ = k ρ1 := by
  rw [p_seq, h]
  rfl
end DL
set_option Elab.async false
set_option linter.all false
set_option maxRecDepth 100000
set_option maxHeartbeats 4000000
namespace DL
open PySem PySem.Spec PyProof.Rows L2
variable [TabsC]
def topS (i : Nat) : Stmt := PySem.Challenge.pw_heapintake_k62_whole_no_other_reports.main.body.getD i (.Pass ⟨0, 0, 0, 0⟩)
structure Wd (K : PySem.W.Frag) (mg : Str → Option Value) (cl : Nat → Value) : Prop where
  c_ALONE : GTup K mg "ALONE" ["count", "twice", "ring", "lost"]
  c_FIELDS : GTup K mg "FIELDS" ["key", "parent", "amount", "tag"]
  c_GOOD : ∃ t, mg "GOOD" = some (.str "ok" t)
  c_ROW_END : ∃ t, mg "ROW_END" = some (.str "\n" t)
  b_ValueError : mg "ValueError" = none
  b_enumerate : mg "enumerate" = none
  b_int : mg "int" = none
  b_isinstance : mg "isinstance" = none
  b_len : mg "len" = none
  b_list : mg "list" = none
  b_range : mg "range" = none
  b_str : mg "str" = none
  b_tuple : mg "tuple" = none
  x_NoText : ExD K mg cl "NoText" 0
section
variable {P : Program} {w : World} {K : PySem.W.Frag} {mg : Str → Option Value} {base : Heap} {cl : Nat → Value}
def N_report_text : List Str := ["some", "rows", "number", "faults_here", "row"]
def O_report_text : Nat → Bool := fun i => i == 1
def g_report_text : GS := (sSeq (sOwn 1 (eLst aNil)) (sSeq (sFor (iEnum1 (eVar 0)) (tgT (tgCons (tgN 2) (tgCons (tgN 3) tgNil))) (sApp 1 (eM1 dJoin (eC (.str " ")) (e2 dAdd (eLst (aCons (eCl (f1 dStr) (aCons (eVar 2) aNil)) aNil)) (e2 dAdd (eCl (f1 dList) (aCons (eVar 3) aNil)) (e2 dMul (eLst (aCons (eC (.str "ok")) aNil)) (eCl (f1 dInt) (aCons (e2 dEq (eCl (f1 dLen) (aCons (eVar 3) aNil)) (eC (.int 0))) aNil)))))))) (sRet (eM1 dJoin (eC (.str "")) (eLc (iSeq (eVar 1)) (tgN 4) gYes (e2 dAdd (eVar 4) (eC (.str "\n"))) [4])))))
def f_report_text : List D → Out D := runD 5 1 g_report_text
theorem sc_report_text : FnScope N_report_text ["some"] (defScope (topS 10)) := ⟨rfl, rfl, rfl, by decide +kernel, rfl, by decide +kernel, by decide +kernel⟩
theorem fn_report_text (W : Wd K mg cl) {f : Addr} {fd : FuncData} (F : Fun K "report_text" "report_text" (topS 10) f fd) (hm : mg "report_text" = some (.ref f)) (hb : L2.Binds K fd ["some"] []) : FnD P w K mg base cl "report_text" 1 .fz 1 f_report_text :=
  fnD (N := N_report_text) (ps := ["some"]) (O := O_report_text) (k := 0) (g := g_report_text) F sc_report_text hm hb rfl (by decide) (by decide) fun cdv E =>
    (dss_cons (ds_setO 1 (de_lst da_nil)) (dss_cons (ds_for (di_enum (m := .fz) W.b_enumerate (de_var 0)) (dg_tup (dgs_cons (dg_name 2) (dgs_cons (dg_name 3) dgs_nil))) (dss_one (ds_append 1 (de_join (m := .fz) (de_str (m := .fz)) (de_add (de_lst (da_cons (de_strc (m := .fz) W.b_str (de_var 2)) da_nil)) (de_add (de_list W.b_list (de_var 3)) (de_mul (de_lst (da_cons (de_gstr (m := .fz) W.c_GOOD) da_nil)) (de_intc (m := .fz) W.b_int (dc_e (de_eq (m := .fz) (de_len (m := .fz) W.b_len (de_var 3)) (de_int (m := .fz)))))))))))) (dss_one (ds_ret (de_join (m := .fz) (de_str (m := .fz)) (de_lc [("row", 4)] rfl (by show blkC N_report_text (scOf (defScope (topS 10)).names) _ _ = true; decide +kernel) (di_seq (m := .bo) (de_own 1)) (dg_name 4) dts_nil (de_fz (de_add (de_var 4) (de_gstr (m := .fz) W.c_ROW_END))) (by decide)))))))
def N_need : List Str := ["good"]
def O_need : Nat → Bool := fun i => false
def g_need : GS := (sIf (gNot (tV (eVar 0))) (sRai 0) sNil)
def f_need : List D → Out D := runD 1 1 g_need
theorem sc_need : FnScope N_need ["good"] (defScope (topS 11)) := ⟨rfl, rfl, rfl, by decide +kernel, rfl, by decide +kernel, by decide +kernel⟩
theorem fn_need (W : Wd K mg cl) {f : Addr} {fd : FuncData} (F : Fun K "need" "need" (topS 11) f fd) (hm : mg "need" = some (.ref f)) (hb : L2.Binds K fd ["good"] []) : FnD P w K mg base cl "need" 1 .fz 1 f_need :=
  fnD (N := N_need) (ps := ["good"]) (O := O_need) (k := 0) (g := g_need) F sc_need hm hb rfl (by decide) (by decide) fun cdv E =>
    (dss_one (ds_if (dt_not (dt_val (de_var 0))) (dss_one (ds_raise 0 W.x_NoText famD_R)) dss_nil))
def N_faults_in : List Str := ["words", "found", "word"]
def O_faults_in : Nat → Bool := fun i => false
def g_faults_in : GS := (sSeq (sIf (tV (e2 dEq (eVar 0) (eLst (aCons (eC (.str "ok")) aNil)))) (sRet (eTup aNil)) sNil) (sSeq (sSet 1 (eCl (f1 dTuple) (aCons (eVar 0) aNil))) (sSeq (sIf (gAnd (tV (e2 dEq (eCl (f1 dLen) (aCons (eVar 1) aNil)) (eC (.int 1)))) (tV (e2 (dIn false) (e2 dIx (eVar 1) (eC (.int 0))) (eC (.tuple ((["count", "twice", "ring", "lost"] : List Str).map .str)))))) (sRet (eVar 1)) sNil) (sSeq (sExpr (eCall f_need (aCons (eAnd (e2 dGt (eCl (f1 dLen) (aCons (eVar 1) aNil)) (eC (.int 0))) (e2 dEq (eVar 1) (eCl (f1 dTuple) (aCons (eLc (iSeq (eC (.tuple ((["key", "parent", "amount", "tag"] : List Str).map .str)))) (tgN 2) (tV (e2 (dIn false) (eVar 2) (eVar 1))) (eVar 2) [2]) aNil)))) aNil))) (sRet (eVar 1))))))
def f_faults_in : List D → Out D := runD 3 1 g_faults_in
theorem sc_faults_in : FnScope N_faults_in ["words"] (defScope (topS 12)) := ⟨rfl, rfl, rfl, by decide +kernel, rfl, by decide +kernel, by decide +kernel⟩
theorem fn_faults_in (W : Wd K mg cl) (h_need : FnD P w K mg base cl "need" 1 .fz 1 f_need) {f : Addr} {fd : FuncData} (F : Fun K "faults_in" "faults_in" (topS 12) f fd) (hm : mg "faults_in" = some (.ref f)) (hb : L2.Binds K fd ["words"] []) : FnD P w K mg base cl "faults_in" 1 .fz 2 f_faults_in :=
  fnD (N := N_faults_in) (ps := ["words"]) (O := O_faults_in) (k := 1) (g := g_faults_in) F sc_faults_in hm hb rfl (by decide) (by decide) fun cdv E =>
    (dss_cons (ds_if (dc_t (de_eq (m := .fz) (de_var 0) (de_lst (da_cons (de_gstr (m := .fz) W.c_GOOD) da_nil)))) (dss_one (ds_ret (de_tup (m := .fz) da_nil))) dss_nil) (dss_cons (ds_set 1 (de_tuple (m := .fz) W.b_tuple (de_var 0))) (dss_cons (ds_if (dw_t (dw_and (dc_t (de_eq (m := .fz) (de_len (m := .fz) W.b_len (de_var 1)) (de_int (m := .fz)))) (dw_and1 (dc_t (de_in (m := .fz) (de_ix (fun _ _ => rfl) (de_var 1) (de_int (m := .fz))) (de_gtup (m := .fz) W.c_ALONE)))))) (dss_one (ds_ret (de_var 1))) dss_nil) (dss_cons (ds_expr (de_call h_need (Nat.le_of_ble_eq_true rfl) (da_cons (de_and (dc_e (de_ord (m := .fz) o_gt (de_len (m := .fz) W.b_len (de_var 1)) (de_int (m := .fz)))) (de_one (dc_e (de_eq (m := .fz) (de_var 1) (de_tuple (m := .fz) W.b_tuple (de_lc [("word", 2)] rfl (by show blkC N_faults_in (scOf (defScope (topS 12)).names) _ _ = true; decide +kernel) (di_seq (m := .fz) (de_gtup (m := .fz) W.c_FIELDS)) (dg_name 2) (dts_one (dc_t (de_in (m := .fz) (de_var 2) (de_var 1)))) (de_var 2) (by decide))))))) da_nil))) (dss_one (ds_ret (de_var 1)))))))
def N_read_report : List Str := ["text", "found", "number", "row", "words"]
def O_read_report : Nat → Bool := fun i => i == 1
def g_read_report : GS := (sSeq (sExpr (eCall f_need (aCons (e1 (dIsi "str") (eVar 0)) aNil))) (sSeq (sOwn 1 (eLst aNil)) (sSeq (sFor (iEnum1 (eSl (eM1 dSplit (eVar 0) (eC (.str "\n"))) oNo (oI (e1 dNeg (eC (.int 1)))))) (tgT (tgCons (tgN 2) (tgCons (tgN 3) tgNil))) (sSeq (sSet 4 (eM1 dSplit (eVar 3) (eC (.str " ")))) (sSeq (sExpr (eCall f_need (aCons (e2 dEq (e2 dIx (eVar 4) (eC (.int 0))) (eCl (f1 dStr) (aCons (eVar 2) aNil))) aNil))) (sApp 1 (eCall f_faults_in (aCons (eSl (eVar 4) (oI (eC (.int 1))) oNo) aNil)))))) (sSeq (sExpr (eCall f_need (aCons (e2 dEq (eCallB f_report_text (aCons (eVar 1) aNil)) (eVar 0)) aNil))) (sRet (eCl (f1 dTuple) (aCons (eVar 1) aNil)))))))
def f_read_report : List D → Out D := runD 5 1 g_read_report
theorem sc_read_report : FnScope N_read_report ["text"] (defScope (topS 13)) := ⟨rfl, rfl, rfl, by decide +kernel, rfl, by decide +kernel, by decide +kernel⟩
theorem fn_read_report (W : Wd K mg cl) (h_need : FnD P w K mg base cl "need" 1 .fz 1 f_need) (h_faults_in : FnD P w K mg base cl "faults_in" 1 .fz 2 f_faults_in) (h_report_text : FnD P w K mg base cl "report_text" 1 .fz 1 f_report_text) {f : Addr} {fd : FuncData} (F : Fun K "read_report" "read_report" (topS 13) f fd) (hm : mg "read_report" = some (.ref f)) (hb : L2.Binds K fd ["text"] []) : FnD P w K mg base cl "read_report" 1 .fz 3 f_read_report :=
  fnD (N := N_read_report) (ps := ["text"]) (O := O_read_report) (k := 2) (g := g_read_report) F sc_read_report hm hb rfl (by decide) (by decide) fun cdv E =>
    (dss_cons (ds_expr (de_call h_need (Nat.le_of_ble_eq_true rfl) (da_cons (de_isi (m := .fz) (T := "str") W.b_isinstance W.b_str (by decide +kernel) (de_var 0)) da_nil))) (dss_cons (ds_setO 1 (de_lst da_nil)) (dss_cons (ds_for (di_enum (m := .fz) W.b_enumerate (de_fz (de_sl (de_split (de_var 0) (de_gstr (m := .fz) W.c_ROW_END)) do_no (do_i (de_neg (m := .fz) (de_int (m := .fz))))))) (dg_tup (dgs_cons (dg_name 2) (dgs_cons (dg_name 3) dgs_nil))) (dss_cons (ds_set 4 (de_fz (de_split (de_var 3) (de_str (m := .fz))))) (dss_cons (ds_expr (de_call h_need (Nat.le_of_ble_eq_true rfl) (da_cons (dc_e (de_eq (m := .fz) (de_ix (fun _ _ => rfl) (de_var 4) (de_int (m := .fz))) (de_strc (m := .fz) W.b_str (de_var 2)))) da_nil))) (dss_one (ds_append 1 (de_call h_faults_in (Nat.le_of_ble_eq_true rfl) (da_cons (de_fz (de_sl (de_var 4) (do_i (de_int (m := .fz))) do_no)) da_nil))))))) (dss_cons (ds_expr (de_call h_need (Nat.le_of_ble_eq_true rfl) (da_cons (dc_e (de_eq (m := .fz) (de_callO (m' := .fz) h_report_text (Nat.le_of_ble_eq_true rfl) (da_cons (de_own 1) da_nil)) (de_var 0))) da_nil))) (dss_one (ds_ret (de_tuple (m := .fz) W.b_tuple (de_own 1))))))))
def N__law_cell_at : List Str := ["_law_script", "_law_k"]
def O__law_cell_at : Nat → Bool := fun i => false
def g__law_cell_at : GS := (sSeq (sIf (tV (e2 dLt (eVar 1) (eCl (f1 dLen) (aCons (eVar 0) aNil)))) (sRet (e2 dIx (eVar 0) (eVar 1))) sNil) (sRet (eC (.int 0))))
def f__law_cell_at : List D → Out D := runD 2 2 g__law_cell_at
theorem sc__law_cell_at : FnScope N__law_cell_at ["_law_script", "_law_k"] (defScope (topS 15)) := ⟨rfl, rfl, rfl, by decide +kernel, rfl, by decide +kernel, by decide +kernel⟩
theorem fn__law_cell_at (W : Wd K mg cl) {f : Addr} {fd : FuncData} (F : Fun K "_law_cell_at" "_law_cell_at" (topS 15) f fd) (hm : mg "_law_cell_at" = some (.ref f)) (hb : L2.Binds K fd ["_law_script", "_law_k"] []) : FnD P w K mg base cl "_law_cell_at" 2 .fz 1 f__law_cell_at :=
  fnD (N := N__law_cell_at) (ps := ["_law_script", "_law_k"]) (O := O__law_cell_at) (k := 0) (g := g__law_cell_at) F sc__law_cell_at hm hb rfl (by decide) (by decide) fun cdv E =>
    (dss_cons (ds_if (dc_t (de_ord (m := .fz) o_lt (de_var 1) (de_len (m := .fz) W.b_len (de_var 0)))) (dss_one (ds_ret (de_ix (fun _ _ => rfl) (de_var 0) (de_var 1)))) dss_nil) (dss_one (ds_ret (de_int (m := .fz)))))
def N__law_mixed : List Str := ["_law_script", "_law_k", "_law_drawn"]
def O__law_mixed : Nat → Bool := fun i => false
def g__law_mixed : GS := (sSeq (sSet 2 (e2 dMod (e2 dMul (e2 dAdd (e2 dAdd (eCall f__law_cell_at (aCons (eVar 0) (aCons (eVar 1) aNil))) (e2 dMul (eC (.int 7919)) (eVar 1))) (eC (.int 1))) (eC (.int 48271))) (eC (.int 2147483647)))) (sRet (e2 dMod (e2 dAdd (e2 dAdd (e2 dMul (eVar 2) (eVar 2)) (e2 dMul (eC (.int 7)) (eVar 2))) (eVar 1)) (eC (.int 2147483629)))))
def f__law_mixed : List D → Out D := runD 3 2 g__law_mixed
theorem sc__law_mixed : FnScope N__law_mixed ["_law_script", "_law_k"] (defScope (topS 16)) := ⟨rfl, rfl, rfl, by decide +kernel, rfl, by decide +kernel, by decide +kernel⟩
theorem fn__law_mixed (W : Wd K mg cl) (h__law_cell_at : FnD P w K mg base cl "_law_cell_at" 2 .fz 1 f__law_cell_at) {f : Addr} {fd : FuncData} (F : Fun K "_law_mixed" "_law_mixed" (topS 16) f fd) (hm : mg "_law_mixed" = some (.ref f)) (hb : L2.Binds K fd ["_law_script", "_law_k"] []) : FnD P w K mg base cl "_law_mixed" 2 .fz 2 f__law_mixed :=
  fnD (N := N__law_mixed) (ps := ["_law_script", "_law_k"]) (O := O__law_mixed) (k := 1) (g := g__law_mixed) F sc__law_mixed hm hb rfl (by decide) (by decide) fun cdv E =>
    (dss_cons (ds_set 2 (de_mod (m := .fz) (de_mul (de_add (de_add (de_call h__law_cell_at (Nat.le_of_ble_eq_true rfl) (da_cons (de_var 0) (da_cons (de_var 1) da_nil))) (de_mul (de_int (m := .fz)) (de_var 1))) (de_int (m := .fz))) (de_int (m := .fz))) (de_int (m := .fz)))) (dss_one (ds_ret (de_mod (m := .fz) (de_add (de_add (de_mul (de_var 2) (de_var 2)) (de_mul (de_int (m := .fz)) (de_var 2))) (de_var 1)) (de_int (m := .fz))))))
def N__law_word : List Str := ["_law_deed", "e", "_law_found", "_law_kinds"]
def gs__law_word (a : Addr) (c : Nat) : GS := (sSeq (sSet 3 (eLst (aCons (eIsE 1 a (decide (c = 0))) (aCons (eIsE 1 a (decide (c = 1))) (aCons (eIsE 1 a (decide (c = 2))) aNil))))) (sSeq (sSet 2 (eTup (aCons (eC (.str "refused")) (aCons (e1 dNeg (eC (.int 1))) aNil)))) (sIf (gAnd (tV (eIsE 1 a true)) (tV (e2 dEq (eLM dCnt (eVar 3) (eC (.bool true))) (eC (.int 1))))) (sSet 2 (eTup (aCons (eC (.str "refused")) (aCons (eLM dIdx (eVar 3) (eC (.bool true))) aNil)))) sNil)))
def rf__law_word : Nat → Option D := fun c => if c < 3 then some (.tuple [.str "refused", .int (c : Nat)]) else none
def t__law_word : Out D → Out D := tfOf "told" rf__law_word
theorem sc__law_word : FnScope N__law_word ["_law_deed"] (defScope (topS 17)) := ⟨rfl, rfl, rfl, by decide +kernel, rfl, by decide +kernel, by decide +kernel⟩
theorem rl__law_word {c : Nat} {r : D} (h : rf__law_word c = some r) : c < 3 := by
  unfold rf__law_word at h
  split at h
  · assumption
  · cases h
theorem hgs__law_word (a : Addr) (c : Nat) (r : D) (h : rf__law_word c = some r) : ∃ ρ', gs__law_word a c ((List.replicate N__law_word.length none).set 1 (some (excD a))) = .ok (.nx ρ') ∧ ρ'[2]? = some (some r) := by
  have hc := rl__law_word h
  have e := isExc_self a
  match c, hc, h with
  | 0, _, h =>
    cases h
    refine ⟨_, by simp [gs__law_word, N__law_word, sSeq, sThen, sSet, sIf, tV, gAnd, e2, e1, eLst, eTup, eLM, eCl, eAnd, aCons, aNil, eC, eIsE, e, eVar, List.replicate, lift, dNeg, dCnt, dIdx, dEq, okEq, flD, PyData.eqv, PyData.eqvAll, PyData.plain, PyData.plainAll, PyData.depth, PyData.depthAll, dAll, boolsOf, f1, dNot, List.findIdx?, List.findIdx?.go]; rfl, rfl⟩
  | 1, _, h =>
    cases h
    refine ⟨_, by simp [gs__law_word, N__law_word, sSeq, sThen, sSet, sIf, tV, gAnd, e2, e1, eLst, eTup, eLM, eCl, eAnd, aCons, aNil, eC, eIsE, e, eVar, List.replicate, lift, dNeg, dCnt, dIdx, dEq, okEq, flD, PyData.eqv, PyData.eqvAll, PyData.plain, PyData.plainAll, PyData.depth, PyData.depthAll, dAll, boolsOf, f1, dNot, List.findIdx?, List.findIdx?.go]; rfl, rfl⟩
  | 2, _, h =>
    cases h
    refine ⟨_, by simp [gs__law_word, N__law_word, sSeq, sThen, sSet, sIf, tV, gAnd, e2, e1, eLst, eTup, eLM, eCl, eAnd, aCons, aNil, eC, eIsE, e, eVar, List.replicate, lift, dNeg, dCnt, dIdx, dEq, okEq, flD, PyData.eqv, PyData.eqvAll, PyData.plain, PyData.plainAll, PyData.depth, PyData.depthAll, dAll, boolsOf, f1, dNot, List.findIdx?, List.findIdx?.go]; rfl, rfl⟩
theorem told__law_word (W : Wd K mg (clE K)) (EC : Ecls K mg) {q : Str} {f : Addr} {fd : FuncData} (F : Fun K "_law_word" "_law_word" (topS 17) f fd) (hm : mg "_law_word" = some (.ref f)) (hb : L2.Binds K fd ["_law_deed"] []) : ToldD P w K mg base (clE K) "_law_word" "_law_deed" q t__law_word := by
  obtain ⟨oc, od, kV, doc, pm, an, cdv, ct, osl, rfl, lk, hcd⟩ := F.ex
  refine ⟨⟨f, _, _, _, _, _, _, _, _, _, _, _, _, _, N__law_word, hm, F.kp, lk, hcd, hb, sc__law_word, rfl, .inl rfl, fun X e1 e2 e3 e4 e5 hr => ?_⟩, tfOf_ne⟩
  subst e1 e2 e3 e4 e5
  exact told_g (gs := gs__law_word) 1 2 sc__law_word.nd sc__law_word.kind hr (by decide) rfl (EC.g 3 (by decide)) (fun c r h => EC.exm c (rl__law_word h)) rfl rfl rfl rfl (by decide) (fun s H a c r h => have hc := rl__law_word h; (dss_cons (ds_set 3 (de_fz (de_lst (da_cons (de_isE (m := .fz) 1 (EC.ec c hc) (fun Y h1 h2 => pe_glob (v := .ref (eAd _ 0)) (by show Y.env.scope.names.lookup _ = _; rw [h2]; rfl) (by rw [h1]; exact EC.g 0 (by decide)) rfl) (fun u hu => hu) (EC.kit c 0 hc (by decide)) W.b_isinstance rfl rfl rfl) (da_cons (de_isE (m := .fz) 1 (EC.ec c hc) (fun Y h1 h2 => pe_glob (v := .ref (eAd _ 1)) (by show Y.env.scope.names.lookup _ = _; rw [h2]; rfl) (by rw [h1]; exact EC.g 1 (by decide)) rfl) (fun u hu => hu) (EC.kit c 1 hc (by decide)) W.b_isinstance rfl rfl rfl) (da_cons (de_isE (m := .fz) 1 (EC.ec c hc) (fun Y h1 h2 => pe_glob (v := .ref (eAd _ 2)) (by show Y.env.scope.names.lookup _ = _; rw [h2]; rfl) (by rw [h1]; exact EC.g 2 (by decide)) rfl) (fun u hu => hu) (EC.kit c 2 hc (by decide)) W.b_isinstance rfl rfl rfl) da_nil)))))) (dss_cons (ds_set 2 (de_tup (m := .fz) (da_cons (de_str (m := .fz)) (da_cons (de_neg (m := .fz) (de_int (m := .fz))) da_nil)))) (dss_one (ds_if (dw_t (dw_and (dt_val (de_isE (m := .fz) 1 (EC.ec c hc) (fun Y h1 h2 => pe_bltn (v := .ty "ValueError") (by show Y.env.scope.names.lookup _ = _; rw [h2]; rfl) (by rw [h1]; exact W.b_ValueError) (by decide +kernel) rfl) (fun u hu => hu) (EC.kitV c hc) W.b_isinstance rfl rfl rfl)) (dw_and1 (dc_t (de_eq (m := .fz) (de_count (m := .fz) (de_var 3) (de_bl (m := .fz))) (de_int (m := .fz))))))) (dss_one (ds_set 2 (de_tup (m := .fz) (da_cons (de_str (m := .fz)) (da_cons (de_index (m := .fz) (de_var 3) (de_bl (m := .fz))) da_nil))))) dss_nil))))) hgs__law_word
def N_law : List Str := ["_law_script", "_law_number", "_law_bad", "_law_good", "_law_k", "_law_wrong", "_law_text"]
def O_law : Nat → Bool := fun i => i == 3
def g_law : GS := (sSeq (sSet 1 (eCall f__law_mixed (aCons (eVar 0) (aCons (eC (.int 0)) aNil)))) (sSeq (sSet 2 (eLst (aCons (eC (.str "0 ok")) (aCons (eC (.str "1 ok\n")) (aCons (eC (.str "0 OK\n")) (aCons (eC (.str "0 ok\n2 ok\n")) (aCons (eC (.str "00 ok\n")) (aCons (eC (.str "0 ok ok\n")) (aCons (eC (.str "0\n")) (aCons (eC (.str "0 \n")) (aCons (eC (.str "0 key key\n")) aNil))))))))))) (sSeq (sSet 2 (e2 dAdd (eVar 2) (eLst (aCons (eC (.str "0 parent key\n")) (aCons (eC (.str "0 count key\n")) (aCons (eC (.str "0 twice ring\n")) (aCons (eC (.str "0 key twice\n")) (aCons (eC (.str "0 ok\n\n")) (aCons (eC (.str "\n")) (aCons (eC (.str "0 ok \n")) aNil)))))))))) (sSeq (sSet 2 (e2 dAdd (eVar 2) (eLst (aCons (eC (.str "0  ok\n")) (aCons (eC (.str "0 bad\n")) (aCons (eC (.str "0 tag amount\n")) (aCons (eC (.str "0 ok key\n")) (aCons (eC (.str " 0 ok\n")) (aCons (eC (.str "0 ok\n1 ok")) aNil))))))))) (sSeq (sSet 2 (e2 dAdd (eVar 2) (eLst (aCons (eC (.str "0 lost lost\n")) (aCons (eC (.str "-0 ok\n")) aNil))))) (sSeq (sOwn 3 (eLst (aCons (eC (.str "")) (aCons (eC (.str "0 ok\n")) (aCons (eC (.str "0 key parent amount tag\n")) (aCons (eC (.str "0 count\n1 twice\n2 ring\n3 lost\n")) (aCons (eC (.str "0 key tag\n1 ok\n")) aNil))))))) (sSeq (sApp 3 (eM1 dJoin (eC (.str "")) (eLc (iR1 (eC (.int 12))) (tgN 4) gYes (e2 dAdd (eCl (f1 dStr) (aCons (eVar 4) aNil)) (eC (.str " ok\n"))) [4]))) (sSeq (sFor (iR1 (eC (.int 6))) (tgN 4) (sSeq (sSet 5 (e2 dIx (eVar 2) (e2 dMod (e2 dAdd (e2 dDiv (eVar 1) (eC (.int 7))) (e2 dMul (eC (.int 11)) (eVar 4))) (eCl (f1 dLen) (aCons (eVar 2) aNil))))) (sIf (tV (e2 dNe (eTold t__law_word (eCall f_read_report (aCons (eVar 5) aNil))) (eTup (aCons (eC (.str "refused")) (aCons (eC (.int 0)) aNil))))) (sRet (eC (.bool false))) sNil))) (sRet (e2 dEq (eLc (iSeq (eVar 3)) (tgN 6) (tV (e2 dNe (eCall f_report_text (aCons (eCall f_read_report (aCons (eVar 6) aNil)) aNil)) (eVar 6))) (eVar 6) [6]) (eLst aNil)))))))))))
def f_law : List D → Out D := runD 7 1 g_law
theorem sc_law : FnScope N_law ["_law_script"] (defScope (topS 18)) := ⟨rfl, rfl, rfl, by decide +kernel, rfl, by decide +kernel, by decide +kernel⟩
theorem ok_law {c P' : Addr} (W : Wd K mg cl) (h__law_mixed : FnD P w K mg base cl "_law_mixed" 2 .fz 2 f__law_mixed) (h_read_report : FnD P w K mg base cl "read_report" 1 .fz 3 f_read_report) (h_report_text : FnD P w K mg base cl "report_text" 1 .fz 1 f_report_text) (T__law_word : ToldD P w K mg base cl "_law_word" "_law_deed" ((("law" : Str) ++ ".<locals>.") ++ "<lambda>") t__law_word) (TB : LamX.TabB base mg c P') (hmT : (P', (("law" : Str) ++ ".<locals>.") ++ "<lambda>") ∈ TabsC.T) (hu : ∀ p ∈ TabsC.T, p.1 = P' → p.2 = (("law" : Str) ++ ".<locals>.") ++ "<lambda>") {f : Addr} {fd : FuncData} (F : Fun K "law" "law" (topS 18) f fd) (hc : fd.code = .ref c) : FnOk P w K mg base (L2.CX P w) 6 f fd ["_law_script"] (spD K cl 1 .fz f_law) :=
  fn_okC (N := N_law) (ps := ["_law_script"]) (O := O_law) (k := 5) (g := g_law) F hc sc_law rfl (by decide) (by decide) fun E =>
    (dss_cons (ds_set 1 (de_call h__law_mixed (Nat.le_of_ble_eq_true rfl) (da_cons (de_var 0) (da_cons (de_int (m := .fz)) da_nil)))) (dss_cons (ds_set 2 (de_fz (de_lst (da_cons (de_str (m := .fz)) (da_cons (de_str (m := .fz)) (da_cons (de_str (m := .fz)) (da_cons (de_str (m := .fz)) (da_cons (de_str (m := .fz)) (da_cons (de_str (m := .fz)) (da_cons (de_str (m := .fz)) (da_cons (de_str (m := .fz)) (da_cons (de_str (m := .fz)) da_nil)))))))))))) (dss_cons (ds_set 2 (de_fz (de_add (de_var 2) (de_lst (da_cons (de_str (m := .fz)) (da_cons (de_str (m := .fz)) (da_cons (de_str (m := .fz)) (da_cons (de_str (m := .fz)) (da_cons (de_str (m := .fz)) (da_cons (de_str (m := .fz)) (da_cons (de_str (m := .fz)) da_nil))))))))))) (dss_cons (ds_set 2 (de_fz (de_add (de_var 2) (de_lst (da_cons (de_str (m := .fz)) (da_cons (de_str (m := .fz)) (da_cons (de_str (m := .fz)) (da_cons (de_str (m := .fz)) (da_cons (de_str (m := .fz)) (da_cons (de_str (m := .fz)) da_nil)))))))))) (dss_cons (ds_set 2 (de_fz (de_add (de_var 2) (de_lst (da_cons (de_str (m := .fz)) (da_cons (de_str (m := .fz)) da_nil)))))) (dss_cons (ds_setO 3 (de_lst (da_cons (de_str (m := .fz)) (da_cons (de_str (m := .fz)) (da_cons (de_str (m := .fz)) (da_cons (de_str (m := .fz)) (da_cons (de_str (m := .fz)) da_nil))))))) (dss_cons (ds_append 3 (de_join (m := .fz) (de_str (m := .fz)) (de_lc [("_law_k", 4)] rfl (by show blkC N_law (scOf (defScope (topS 18)).names) _ _ = true; decide +kernel) (di_range1 (m := .fz) W.b_range (de_int (m := .fz))) (dg_name 4) dts_nil (de_fz (de_add (de_strc (m := .fz) W.b_str (de_var 4)) (de_str (m := .fz)))) (by decide)))) (dss_cons (ds_for (di_range1 (m := .fz) W.b_range (de_int (m := .fz))) (dg_name 4) (dss_cons (ds_set 5 (de_ix (fun _ _ => rfl) (de_var 2) (de_mod (m := .fz) (de_add (de_fdiv (m := .fz) (de_var 1) (de_int (m := .fz))) (de_mul (de_int (m := .fz)) (de_var 4))) (de_len (m := .fz) W.b_len (de_var 2))))) (dss_one (ds_if (dc_t (de_ne (m := .fz) (de_lamcall (k := 3) T__law_word (fun _ => rfl) TB (fun _ => rfl) hmT hu (fun _ => LamX.lamS_by (by show LamX.lamSB (defScope (topS 18)) _ = true; decide +kernel)) rfl (Nat.le_of_ble_eq_true rfl) (fun E2 => (de_call h_read_report (Nat.le_of_ble_eq_true rfl) (da_cons (de_var 5) da_nil)))) (de_tup (m := .fz) (da_cons (de_str (m := .fz)) (da_cons (de_int (m := .fz)) da_nil))))) (dss_one (ds_ret (de_bl (m := .fz)))) dss_nil)))) (dss_one (ds_ret (dc_e (de_eq (m := .fz) (de_lc [("_law_text", 6)] rfl (by show blkC N_law (scOf (defScope (topS 18)).names) _ _ = true; decide +kernel) (di_seq (m := .bo) (de_own 3)) (dg_name 6) (dts_one (dc_t (de_ne (m := .fz) (de_call h_report_text (Nat.le_of_ble_eq_true rfl) (da_cons (de_call h_read_report (Nat.le_of_ble_eq_true rfl) (da_cons (de_var 6) da_nil)) da_nil)) (de_var 6)))) (de_var 6) (by decide)) (de_lst da_nil)))))))))))))
end
end DL
set_option Elab.async false
set_option linter.all false
set_option maxRecDepth 100000
set_option maxHeartbeats 4000000
namespace DL
open PySem PySem.Spec PyProof.Rows L2
/-! ### the numbers drawn -/
def cellN (ns : List Int) (k : Int) : Int := if k < ns.length then ns.getD k.toNat 0 else 0
theorem cell_is (ns : List Int) (k : Int) (h0 : 0 ≤ k) : f__law_cell_at [scrD ns, .int k] = .ok (.int (cellN ns k)) := by
  unfold f__law_cell_at
  rw [run_at (by rfl)]
  unfold g__law_cell_at cellN
  by_cases h : k < ns.length
  · simp [env0, h, d_ixScr h0 h]
  · simp [env0, h]
def mixN (ns : List Int) (k : Int) : Int :=
  let d := (cellN ns k + 7919 * k + 1) * 48271 % 2147483647
  (d * d + 7 * d + k) % 2147483629
theorem mixed_is (ns : List Int) (k : Int) (h0 : 0 ≤ k) (h1 : k ≤ 1000000) : f__law_mixed [scrD ns, .int k] = .ok (.int (mixN ns k)) := by
  unfold f__law_mixed
  rw [run_at (by rfl)]
  unfold g__law_mixed mixN
  have hd0 : 0 ≤ (cellN ns k + 7919 * k + 1) * 48271 % 2147483647 := Int.emod_nonneg _ (by decide)
  have hd1 : (cellN ns k + 7919 * k + 1) * 48271 % 2147483647 < 2147483647 := Int.emod_lt_of_pos _ (by decide)
  have m1 : dMul (.int 7919) (.int k) = some (.int (7919 * k)) := d_mull (by decide)
  have m2 : dMul (.int (cellN ns k + 7919 * k + 1)) (.int 48271) = some (.int ((cellN ns k + 7919 * k + 1) * 48271)) := d_mulr (by decide)
  have m3 : ∀ x : Int, dMod (.int x) (.int 2147483647) = some (.int (x % 2147483647)) := fun x => d_mod (by decide)
  have m4 : ∀ x : Int, dMod (.int x) (.int 2147483629) = some (.int (x % 2147483629)) := fun x => d_mod (by decide)
  generalize hd : (cellN ns k + 7919 * k + 1) * 48271 % 2147483647 = d at hd0 hd1
  have m5 : dMul (.int d) (.int d) = some (.int (d * d)) := d_mull (by omega)
  have m6 : dMul (.int 7) (.int d) = some (.int (7 * d)) := d_mull (by decide)
  simp [env0, cell_is ns k h0, m1, m2, m3, hd, m4, m5, m6]
theorem mixN_pos (ns : List Int) (k : Int) : 0 ≤ mixN ns k := Int.emod_nonneg _ (by decide)
theorem mixN_lt (ns : List Int) (k : Int) : mixN ns k < 2147483629 := Int.emod_lt_of_pos _ (by decide)
def badL : List Str := ["0 ok", "1 ok\n", "0 OK\n", "0 ok\n2 ok\n", "00 ok\n", "0 ok ok\n", "0\n", "0 \n", "0 key key\n", "0 parent key\n", "0 count key\n", "0 twice ring\n", "0 key twice\n", "0 ok\n\n", "\n", "0 ok \n", "0  ok\n", "0 bad\n", "0 tag amount\n", "0 ok key\n", " 0 ok\n", "0 ok\n1 ok", "0 lost lost\n", "-0 ok\n"]
theorem bad_all : ∀ i, i < 24 → f_read_report [.str (badL.getD i "")] = .err 0
  | 0, _ => by kernel_rfl
  | 1, _ => by kernel_rfl
  | 2, _ => by kernel_rfl
  | 3, _ => by kernel_rfl
  | 4, _ => by kernel_rfl
  | 5, _ => by kernel_rfl
  | 6, _ => by kernel_rfl
  | 7, _ => by kernel_rfl
  | 8, _ => by kernel_rfl
  | 9, _ => by kernel_rfl
  | 10, _ => by kernel_rfl
  | 11, _ => by kernel_rfl
  | 12, _ => by kernel_rfl
  | 13, _ => by kernel_rfl
  | 14, _ => by kernel_rfl
  | 15, _ => by kernel_rfl
  | 16, _ => by kernel_rfl
  | 17, _ => by kernel_rfl
  | 18, _ => by kernel_rfl
  | 19, _ => by kernel_rfl
  | 20, _ => by kernel_rfl
  | 21, _ => by kernel_rfl
  | 22, _ => by kernel_rfl
  | 23, _ => by kernel_rfl
  | n + 24, h => absurd h (by omega)
def goodL : List Str := ["", "0 ok\n", "0 key parent amount tag\n", "0 count\n1 twice\n2 ring\n3 lost\n", "0 key tag\n1 ok\n"]
def goodD : List D := goodL.map .str ++ [.str "0 ok\n1 ok\n2 ok\n3 ok\n4 ok\n5 ok\n6 ok\n7 ok\n8 ok\n9 ok\n10 ok\n11 ok\n"]
/-- the state ahead of the loop -/
def stL (S : D) (N : Int) (x y z : Option D) : Env := [some S, some (.int N), some (.list (badL.map .str)), some (.list goodD), x, y, z]
theorem law_true (ns : List Int) (hl : ns.length ≤ 63) (hb : ∀ z ∈ ns, Builtin.Int.intBits z ≤ 1048576) : f_law [scrD ns] = .ok (.bool true) := by
  unfold f_law
  rw [run_at (by rfl)]
  unfold g_law
  have hN0 := mixN_pos ns 0
  rw [p_seqN (ρ1 := [some (scrD ns), some (.int (mixN ns 0)), none, none, none, none, none]) (by simp [env0, mixed_is ns 0 (by decide) (by decide)])]
  generalize mixN ns 0 = N at hN0
  generalize scrD ns = S
  rw [p_seqN (ρ1 := [some S, some (.int N), some (.list ((badL.take 9).map .str)), none, none, none, none]) (by rfl), p_seqN (ρ1 := [some S, some (.int N), some (.list ((badL.take 16).map .str)), none, none, none, none]) (by rfl), p_seqN (ρ1 := [some S, some (.int N), some (.list ((badL.take 22).map .str)), none, none, none, none]) (by rfl), p_seqN (ρ1 := [some S, some (.int N), some (.list (badL.map .str)), none, none, none, none]) (by rfl), p_seqN (ρ1 := [some S, some (.int N), some (.list (badL.map .str)), some (.list (goodL.map .str)), none, none, none]) (by rfl), p_seqN (ρ1 := stL S N none none none) (by kernel_rfl)]
  obtain ⟨ρ', h1, x, y, z, rfl⟩ := forGo_inv (tg := tgN 4) (b := sSeq (sSet 5 (e2 dIx (eVar 2) (e2 dMod (e2 dAdd (e2 dDiv (eVar 1) (eC (.int 7))) (e2 dMul (eC (.int 11)) (eVar 4))) (eCl (f1 dLen) (aCons (eVar 2) aNil))))) (sIf (tV (e2 dNe (eTold t__law_word (eCall f_read_report (aCons (eVar 5) aNil))) (eTup (aCons (eC (.str "refused")) (aCons (eC (.int 0)) aNil))))) (sRet (eC (.bool false))) sNil))
    (fun _ ρ => ∃ x y z, ρ = stL S N x y z) ((List.range 6).map fun i => .int (i : Nat)) 0 (fun j d ρ hd ⟨x, y, z, hρ⟩ => by
      subst hρ
      obtain ⟨k, rfl, hk⟩ : ∃ k : Nat, d = .int k ∧ k < 6 := by
        rw [List.getElem?_map] at hd
        cases hq : (List.range 6)[j]? with
        | none => rw [hq] at hd; cases hd
        | some k =>
          rw [hq] at hd
          have := List.mem_of_getElem? hq
          exact ⟨k, by cases hd; rfl, List.mem_range.mp this⟩
      refine ⟨stL S N (some (.int k)) y z, rfl, ?_⟩
      have hi0 : 0 ≤ (N / 7 + 11 * (k : Int)) % 24 := Int.emod_nonneg _ (by decide)
      have hi1 : (N / 7 + 11 * (k : Int)) % 24 < 24 := Int.emod_lt_of_pos _ (by decide)
      have e1 : dDiv (.int N) (.int 7) = some (.int (N / 7)) := d_div (by decide)
      have e2 : dMul (.int 11) (.int (k : Int)) = some (.int (11 * k)) := d_mull (by decide)
      have e3 : dMod (.int (N / 7 + 11 * (k : Int))) (.int 24) = some (.int ((N / 7 + 11 * (k : Int)) % 24)) := d_mod (by decide)
      generalize (N / 7 + 11 * (k : Int)) % 24 = i at hi0 hi1 e3
      have hi : i.toNat < 24 := by omega
      have e4 : atI (badL.map PyData.str) i = some (.str (badL.getD i.toNat "")) := by
        rw [atI_pos hi0 (by rw [List.length_map]; exact hi1), List.getElem?_map, List.getD_eq_getElem?_getD, List.getElem?_eq_getElem hi]
        rfl
      have e5 := bad_all i.toNat hi
      generalize badL.getD i.toNat "" = wr at e4 e5
      refine ⟨stL S N (some (.int k)) (some (.str wr)) z, .inl ?_, _, _, _, rfl⟩
      rw [p_seqN (ρ1 := stL S N (some (.int k)) (some (.str wr)) z) (by
        have e6 : (badL.map PyData.str).length = 24 := rfl
        simp [stL, e1, e2, e6, e3, e4])]
      have e7 : eTold t__law_word (eCall f_read_report (aCons (eVar 5) aNil)) (stL S N (some (.int k)) (some (.str wr)) z) = .ok (.tuple [.str "refused", .int 0]) := by
        show t__law_word (f_read_report [.str wr]) = _
        rw [e5]
        rfl
      rw [p_if, p_tV, p_e2, e7]
      rfl) _ ⟨none, none, none, rfl⟩
  rw [p_seqN (ρ1 := stL S N x y z) (by rw [p_for (ds := (List.range 6).map fun i => .int (i : Nat)) (by rfl)]; exact h1)]
  kernel_rfl
end DL
set_option Elab.async false
set_option linter.all false
set_option maxRecDepth 100000
set_option maxHeartbeats 4000000
namespace DL
open PySem PySem.Spec PyProof.Rows L2
/-! ### the head -/
namespace Hd
def d_report_text : He.DefD := ⟨("report_text", none), "report_text", "report_text", defArgs (topS 10), defBody (topS 10), defScope (topS 10), [], []⟩
def d_need : He.DefD := ⟨("need", none), "need", "need", defArgs (topS 11), defBody (topS 11), defScope (topS 11), [], []⟩
def d_faults_in : He.DefD := ⟨("faults_in", none), "faults_in", "faults_in", defArgs (topS 12), defBody (topS 12), defScope (topS 12), [], []⟩
def d_read_report : He.DefD := ⟨("read_report", none), "read_report", "read_report", defArgs (topS 13), defBody (topS 13), defScope (topS 13), [], []⟩
def d__law_cell_at : He.DefD := ⟨("_law_cell_at", none), "_law_cell_at", "_law_cell_at", defArgs (topS 15), defBody (topS 15), defScope (topS 15), [], []⟩
def d__law_mixed : He.DefD := ⟨("_law_mixed", none), "_law_mixed", "_law_mixed", defArgs (topS 16), defBody (topS 16), defScope (topS 16), [], []⟩
def d__law_word : He.DefD := ⟨("_law_word", none), "_law_word", "_law_word", defArgs (topS 17), defBody (topS 17), defScope (topS 17), [], []⟩
def d_law : He.DefD := ⟨("law", none), "law", "law", defArgs (topS 18), defBody (topS 18), defScope (topS 18), [], []⟩
def fn : List He.DefD := [d_report_text, d_need, d_faults_in, d_read_report, d__law_cell_at, d__law_mixed, d__law_word, d_law]
def fa : List He.Fa := [.glo "report_text", .glo "need", .glo "faults_in", .glo "read_report", .glo "_law_cell_at", .glo "_law_mixed", .glo "_law_word", .glo "law", .str "GOOD" "ok", .str "ROW_END" "\n", .free "ValueError", .free "enumerate", .free "int", .free "isinstance", .free "len", .free "list", .free "range", .free "str", .free "tuple", .exc "NoText", .glo "NoText"]
def ex (K : PySem.W.Frag) : Bool := (gtupB K "ALONE" ["count", "twice", "ring", "lost"] && (gtupB K "FIELDS" ["key", "parent", "amount", "tag"] && (eclsB K && true)))
def tf : List He.Defn := [("law", none)]
abbrev R : PySem.W.OpenRow := PySem.W.OpenLaw.row PySem.Challenge.rw_heapintake_k62_whole_no_other_reports
abbrev hk : PySem.W.Hook := He.hookX 5 fa fn [] tf ex
def ob (s : PySem.W.SharedT) : He.AlX := He.obsX 5 fa fn [] tf ex (HandSHeadRun.getT s)
theorem ob_eq (s : PySem.W.SharedT) : ob s = hk.obs s.abs := He.obsX_eq (HandSHeadRun.getT_eq s)
def loose : List PySem.Str := ["HeapError", "NoText", "NoRow", "Unlike", "ROW_END", "GOOD", "FIELDS", "ALONE", "report_text", "need", "faults_in", "read_report", "_law_cell_at", "_law_mixed", "_law_word"]
theorem run (w : World) : HandSHeadRun.RunEq R (PySem.W.view R.prog [18]) hk ob 4000 loose w := by
  intro os
  kernel_rfl
theorem at_ {l : PySem.W.OpenLaw} {w : World} {K : PySem.W.Frag} {h : Heap} {mg : Str → Option Value} {fa0 : Addr} (X : K.In h) (G : h.Ns mainGlobals mg) (hfa : mg ("law" : Str) = some (.ref fa0)) (c : He.SaysX fa fn [] tf ex w h K) : LamX.LawAtS l w K (L2.CX l.prog w) 6 63 "_law_script" mg fa0 h := by
  have fc : ∀ (i : Nat) {f : He.Fa}, fa[i]? = some f → f.ok K = true := fun i {f} e => c.t.d.fact i e
  have hx : (gtupB K "ALONE" ["count", "twice", "ring", "lost"] && (gtupB K "FIELDS" ["key", "parent", "amount", "tag"] && (eclsB K && true))) = true := c.more
  simp only [Bool.and_eq_true, Bool.and_true] at hx
  obtain ⟨x_0, x_1, x_2⟩ := hx
  have W : Wd K mg (clE K) := ⟨gtup_ok X G x_0, gtup_ok X G x_1, He.str_ok X G (fc 8 (f := .str "GOOD" "ok") rfl), He.str_ok X G (fc 9 (f := .str "ROW_END" "\n") rfl), He.free_ok X G (fc 10 (f := .free "ValueError") rfl), He.free_ok X G (fc 11 (f := .free "enumerate") rfl), He.free_ok X G (fc 12 (f := .free "int") rfl), He.free_ok X G (fc 13 (f := .free "isinstance") rfl), He.free_ok X G (fc 14 (f := .free "len") rfl), He.free_ok X G (fc 15 (f := .free "list") rfl), He.free_ok X G (fc 16 (f := .free "range") rfl), He.free_ok X G (fc 17 (f := .free "str") rfl), He.free_ok X G (fc 18 (f := .free "tuple") rfl), exd_ok X G 0 (He.eqO_ok (fc 20 (f := .glo "NoText") rfl)) (fc 19 (f := .exc "NoText") rfl)⟩
  have EC : Ecls K mg := ecls_ok X G x_2
  obtain ⟨fd_report_text, F_report_text⟩ := c.t.d.def_ 0 (d := d_report_text) rfl
  have m_report_text : mg "report_text" = some (.ref (He.fAd K d_report_text.at_)) := He.glo_ok X G (fc 0 (f := .glo "report_text") rfl)
  have b_report_text : L2.Binds K fd_report_text ["some"] [] := FunD.bindsN F_report_text fun _ _ _ _ _ _ us hl => match us, hl with | [_], _ => rfl
  obtain ⟨fd_need, F_need⟩ := c.t.d.def_ 1 (d := d_need) rfl
  have m_need : mg "need" = some (.ref (He.fAd K d_need.at_)) := He.glo_ok X G (fc 1 (f := .glo "need") rfl)
  have b_need : L2.Binds K fd_need ["good"] [] := FunD.bindsN F_need fun _ _ _ _ _ _ us hl => match us, hl with | [_], _ => rfl
  obtain ⟨fd_faults_in, F_faults_in⟩ := c.t.d.def_ 2 (d := d_faults_in) rfl
  have m_faults_in : mg "faults_in" = some (.ref (He.fAd K d_faults_in.at_)) := He.glo_ok X G (fc 2 (f := .glo "faults_in") rfl)
  have b_faults_in : L2.Binds K fd_faults_in ["words"] [] := FunD.bindsN F_faults_in fun _ _ _ _ _ _ us hl => match us, hl with | [_], _ => rfl
  obtain ⟨fd_read_report, F_read_report⟩ := c.t.d.def_ 3 (d := d_read_report) rfl
  have m_read_report : mg "read_report" = some (.ref (He.fAd K d_read_report.at_)) := He.glo_ok X G (fc 3 (f := .glo "read_report") rfl)
  have b_read_report : L2.Binds K fd_read_report ["text"] [] := FunD.bindsN F_read_report fun _ _ _ _ _ _ us hl => match us, hl with | [_], _ => rfl
  obtain ⟨fd__law_cell_at, F__law_cell_at⟩ := c.t.d.def_ 4 (d := d__law_cell_at) rfl
  have m__law_cell_at : mg "_law_cell_at" = some (.ref (He.fAd K d__law_cell_at.at_)) := He.glo_ok X G (fc 4 (f := .glo "_law_cell_at") rfl)
  have b__law_cell_at : L2.Binds K fd__law_cell_at ["_law_script", "_law_k"] [] := FunD.bindsN F__law_cell_at fun _ _ _ _ _ _ us hl => match us, hl with | [_, _], _ => rfl
  obtain ⟨fd__law_mixed, F__law_mixed⟩ := c.t.d.def_ 5 (d := d__law_mixed) rfl
  have m__law_mixed : mg "_law_mixed" = some (.ref (He.fAd K d__law_mixed.at_)) := He.glo_ok X G (fc 5 (f := .glo "_law_mixed") rfl)
  have b__law_mixed : L2.Binds K fd__law_mixed ["_law_script", "_law_k"] [] := FunD.bindsN F__law_mixed fun _ _ _ _ _ _ us hl => match us, hl with | [_, _], _ => rfl
  obtain ⟨fd__law_word, F__law_word⟩ := c.t.d.def_ 6 (d := d__law_word) rfl
  have m__law_word : mg "_law_word" = some (.ref (He.fAd K d__law_word.at_)) := He.glo_ok X G (fc 6 (f := .glo "_law_word") rfl)
  have b__law_word : L2.Binds K fd__law_word ["_law_deed"] [] := FunD.bindsN F__law_word fun _ _ _ _ _ _ us hl => match us, hl with | [_], _ => rfl
  obtain ⟨fd_law, F_law⟩ := c.t.d.def_ 7 (d := d_law) rfl
  have m_law : mg "law" = some (.ref (He.fAd K d_law.at_)) := He.glo_ok X G (fc 7 (f := .glo "law") rfl)
  cases hfa.symm.trans m_law
  have bl := FunD.bindsA (ps := ["_law_script"]) F_law fun _ _ _ _ _ _ us hl => match us, hl with | [_], _ => rfl
  obtain ⟨oc, od, dV, kV, doc, pm, an, cdv, ct, osl, efd, lk, hcd, _, _⟩ := F_law.ex
  obtain ⟨cc, rfl⟩ := He.codeIn_ref hcd
  have ecd : fd_law.code = .ref cc := by rw [efd]
  have eco : He.codeOf K ("law", none) = cc := He.codeOf_eq lk ecd
  have t1 := c.hd ("law", none) List.mem_cons_self
  have t2 := c.out ("law", none) List.mem_cons_self
  have t3 := c.empty ("law", none) List.mem_cons_self
  unfold He.cT at t1 t2 t3
  rw [eco] at t1 t2 t3
  generalize He.tabOf K cc = P' at t1 t2 t3
  letI : TabsC := ⟨[(P', ((("law" : Str) ++ ".<locals>.") ++ "<lambda>"))]⟩
  refine ⟨fd_law, [(cc, P')], spD K (clE K) 1 .fz f_law, fun p hp => by
    have e : p = (cc, P') := by simpa using hp
    subst e
    exact t3, fun p hp => by
    have e : p = (cc, P') := by simpa using hp
    subst e
    exact t2, fun p hp => by
    have e : p = (cc, P') := by simpa using hp
    subst e
    exact PySem.W.codeHd_of_K X t1, fun s u => bl s [u] rfl, fun H a ns hl hb hT hS => law_sp (tabs1 (hT (cc, P') List.mem_cons_self)) hS (law_true ns hl hb), fun base _ _ hTB => ?_⟩
  have TB : LamX.TabB base mg cc P' := hTB (cc, P') List.mem_cons_self
  have h_report_text := fn_report_text (P := l.prog) (w := w) (base := base) W (fun_of F_report_text) m_report_text b_report_text
  have h_need := fn_need (P := l.prog) (w := w) (base := base) W (fun_of F_need) m_need b_need
  have h_faults_in := fn_faults_in (P := l.prog) (w := w) (base := base) W h_need (fun_of F_faults_in) m_faults_in b_faults_in
  have h_read_report := fn_read_report (P := l.prog) (w := w) (base := base) W h_need h_faults_in h_report_text (fun_of F_read_report) m_read_report b_read_report
  have h__law_cell_at := fn__law_cell_at (P := l.prog) (w := w) (base := base) W (fun_of F__law_cell_at) m__law_cell_at b__law_cell_at
  have h__law_mixed := fn__law_mixed (P := l.prog) (w := w) (base := base) W h__law_cell_at (fun_of F__law_mixed) m__law_mixed b__law_mixed
  have T__law_word := told__law_word (P := l.prog) (w := w) (base := base) (q := ((("law" : Str) ++ ".<locals>.") ++ "<lambda>")) W EC (fun_of F__law_word) m__law_word b__law_word
  exact ok_law W h__law_mixed h_read_report h_report_text T__law_word TB List.mem_cons_self (fun p hp e => by
    have e2 : p = (P', ((("law" : Str) ++ ".<locals>.") ++ "<lambda>")) := by
      have hp2 : p ∈ [(P', ((("law" : Str) ++ ".<locals>.") ++ "<lambda>"))] := hp
      simpa using hp2
    rw [e2]) (fun_of F_law) ecd
end Hd
end DL
open PySem PySem.W PySem.Calls PyProof.Rows
theorem PySem.Challenge.cw_heapintake_k62_whole_no_other_reports_holds : PySem.Challenge.rw_heapintake_k62_whole_no_other_reports.Holds := by
  w_on; o_law
  refine HandSHeadRun.head_any (r := DL.Hd.R) (q := view DL.Hd.R.prog [18]) (H := DL.Hd.hk) (ob := DL.Hd.ob) (M := 4000) (loose := DL.Hd.loose) (d := HandSHeadRun.topDef DL.Hd.R.prog 18) (kwd := []) DL.Hd.ob_eq
    (by kernel_rfl) (fun s => by kernel_rfl) DL.Hd.run (by kernel_rfl) (by kernel_rfl) (by kernel_rfl) (by rfl) (by first | assumption | decide +kernel) (by decide +kernel) ⟨rfl, rfl, rfl, rfl, rfl, by decide +kernel⟩ ?hw ?hc
  case hw => w_witness2
  case hc =>
    refine LamX.walk_ofTsE (l := PySem.Challenge.rw_heapintake_k62_whole_no_other_reports) (n := 63) (k := 6) (x := "_law_script") (CX := fun w => L2.CX PySem.Challenge.pw_heapintake_k62_whole_no_other_reports w) rfl (by decide) (by kernel_rfl) ⟨rfl, by decide, by decide⟩ ?F (fun _ _ _ _ _ z => DL.noCX z)
    intro w mg fa h Y G hmg0
    obtain ⟨K, KX, c⟩ := Y
    have hmg : mg ("law" : PySem.Str) = some (.ref fa) := by
      have e : (HandSHeadRun.topDef DL.Hd.R.prog 18).name = ("law" : PySem.Str) := by kernel_rfl
      rw [← e]
      exact hmg0
    exact ⟨K, KX, DL.Hd.at_ KX G hmg c⟩
