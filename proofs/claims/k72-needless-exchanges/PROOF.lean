import PyProof.Rows.All
import Wide.All
import OpenK.AllK
import Wide.FinOn
import HandS.ForMost
import HandS.Walk
import HandS.Star
import HandS.DictComp
import HandS.Conv
import HandS.Style
import HandS.NoneIn
import HandS.Deep
import HandS.TupAny
import HandS.TupMul
import HandS.IsInst
import HandS.SortInts
import KE.GoesMore
import KE.SortKeyHeap
import KE.KSortKey
import HandS.EndBits
import PyProof.ReprBulk
import PySem.Challenge.RW_orderalone_k72_whole_main_needless_excha
set_option Elab.async false
set_option linter.all false
set_option maxRecDepth 100000
set_option maxHeartbeats 8000000
/-! A denotation for pure Python defs: values are PyData, a stream of draws is carried along. -/
namespace PD
open PySem L2

abbrev D := PySem.PyData
/-- the stream of draws: cells left, the great one that is drawn from, how many draws, the seed -/
structure SS where
  cells : List Int
  cur : Int
  cnt : Int
  seed : Int
abbrev Rho := List (Option D)
inductive Res (α : Type) where
  | ok (a : α) (ρ : Rho) (S : SS)
  | exc (c : String) (p : D) (S : SS)
  | stk
def Res.bind {α β : Type} (r : Res α) (k : α → Rho → SS → Res β) : Res β :=
  match r with
  | .ok a ρ S => k a ρ S
  | .exc c p S => .exc c p S
  | .stk => .stk
@[simp] theorem Res.bind_ok {α β : Type} (a : α) (ρ : Rho) (S : SS) (k : α → Rho → SS → Res β) : (Res.ok a ρ S).bind k = k a ρ S := rfl
@[simp] theorem Res.bind_exc {α β : Type} (c : String) (p : D) (S : SS) (k : α → Rho → SS → Res β) : (Res.exc c p S : Res α).bind k = .exc c p S := rfl
@[simp] theorem Res.bind_stk {α β : Type} (k : α → Rho → SS → Res β) : (Res.stk : Res α).bind k = .stk := rfl
abbrev Den (α : Type) := Rho → SS → Res α
def keyD : Key → D
  | .inl i => .int i
  | .inr s => .str s
theorem keyD_inj : ∀ {k l : Key}, keyD k = keyD l → k = l
  | .inl i, .inl j, h => by unfold keyD at h; injection h with h; rw [h]
  | .inr i, .inr j, h => by unfold keyD at h; injection h with h; rw [h]
  | .inl i, .inr j, h => nomatch h
  | .inr i, .inl j, h => nomatch h

/-! ### data in a heap -/
mutual
inductive At (K : PySem.W.Frag) (G : Hp) (P : Addr → Prop) : V → D → Prop
  | non : At K G P .non .none
  | bl (b : Bool) : At K G P (.bl b) (.bool b)
  | int (i : Int) : At K G P (.int i) (.int i)
  | str (x : Str) : At K G P (.str x) (.str x)
  | lst {a : Addr} {vs : List V} {ds : List D} : G a = some (.lst vs) → P a → AtL K G P vs ds → At K G P (.ref a) (.list ds)
  | tup {a : Addr} {vs : List V} {ds : List D} : SqT K G a vs → AtL K G P vs ds → At K G P (.ref a) (.tuple ds)
  | dic {a : Addr} {kvs : List (Key × V)} {kds : List (D × D)} : Rd G a (.dK kvs) → P a → AtK K G P kvs kds → At K G P (.ref a) (.dict kds)
inductive AtL (K : PySem.W.Frag) (G : Hp) (P : Addr → Prop) : List V → List D → Prop
  | nil : AtL K G P [] []
  | cons {v : V} {vs : List V} {d : D} {ds : List D} : At K G P v d → AtL K G P vs ds → AtL K G P (v :: vs) (d :: ds)
inductive AtK (K : PySem.W.Frag) (G : Hp) (P : Addr → Prop) : List (Key × V) → List (D × D) → Prop
  | nil : AtK K G P [] []
  | cons {k : Key} {v : V} {r : List (Key × V)} {d : D} {s : List (D × D)} : At K G P v d → AtK K G P r s → AtK K G P ((k, v) :: r) ((keyD k, d) :: s)
end
def isTupO : HO → Bool
  | .tup _ => true
  | .frz _ u => isTupO u
  | _ => false
section
variable {K : PySem.W.Frag} {G G' : Hp} {P P' : Addr → Prop}
mutual
theorem At.mono' (e : ∀ a u, (P a ∨ isTupO u = true) → Rd G a u → Rd G' a u) (el : ∀ a vs, P a → G a = some (.lst vs) → G' a = some (.lst vs)) (f : ∀ a, P a → P' a) : ∀ (d : D) (v : V), At K G P v d → At K G' P' v d
  | .none, _, h => by cases h; exact .non
  | .bool b, _, h => by cases h; exact .bl b
  | .int i, _, h => by cases h; exact .int i
  | .str x, _, h => by cases h; exact .str x
  | .list ds, _, h => by
    cases h with
    | lst r p l => exact .lst (el _ _ p r) (f _ p) (AtL.mono' e el f ds _ l)
  | .tuple ds, _, h => by
    cases h with
    | tup r l => exact .tup (r.imp (fun z => e _ _ (.inr rfl) z) id) (AtL.mono' e el f ds _ l)
  | .dict kds, _, h => by
    cases h with
    | dic r p l => exact .dic (e _ _ (.inl p) r) (f _ p) (AtK.mono' e el f kds _ l)
theorem AtL.mono' (e : ∀ a u, (P a ∨ isTupO u = true) → Rd G a u → Rd G' a u) (el : ∀ a vs, P a → G a = some (.lst vs) → G' a = some (.lst vs)) (f : ∀ a, P a → P' a) : ∀ (ds : List D) (vs : List V), AtL K G P vs ds → AtL K G' P' vs ds
  | [], _, h => by cases h; exact .nil
  | d :: ds, _, h => by
    cases h with
    | cons h1 h2 => exact .cons (At.mono' e el f d _ h1) (AtL.mono' e el f ds _ h2)
theorem AtK.mono' (e : ∀ a u, (P a ∨ isTupO u = true) → Rd G a u → Rd G' a u) (el : ∀ a vs, P a → G a = some (.lst vs) → G' a = some (.lst vs)) (f : ∀ a, P a → P' a) : ∀ (kds : List (D × D)) (kvs : List (Key × V)), AtK K G P kvs kds → AtK K G' P' kvs kds
  | [], _, h => by cases h; exact .nil
  | (k, d) :: r, _, h => by
    cases h with
    | cons h1 h2 => exact .cons (At.mono' e el f d _ h1) (AtK.mono' e el f r _ h2)
end
end
/-- what is read stays -/
structure ExR (G G' : Hp) : Prop where
  rd : ∀ a u, Rd G a u → Rd G' a u
  ls : ∀ a vs, G a = some (.lst vs) → G' a = some (.lst vs)
  fz : ∀ a o u, G a = some (.frz o u) → G' a = some (.frz o u)
theorem ExR.refl (G : Hp) : ExR G G := ⟨fun _ _ h => h, fun _ _ h => h, fun _ _ _ h => h⟩
theorem ExR.trans {G H I : Hp} (a : ExR G H) (b : ExR H I) : ExR G I := ⟨fun x u h => b.rd x u (a.rd x u h), fun x u h => b.ls x u (a.ls x u h), fun x o u h => b.fz x o u (a.fz x o u h)⟩
theorem ExR.of {G H : Hp} (h : ∀ a o, G a = some o → H a = some o) : ExR G H := ⟨fun a u r => r.imp (h a _) fun ⟨o, z⟩ => ⟨o, h a _ z⟩, fun a vs e => h a _ e, fun a o u e => h a _ e⟩
section
variable {K : PySem.W.Frag} {G G' H : Hp} {P P' : Addr → Prop} {v : V} {vs : List V} {d : D} {ds : List D} {kvs : List (Key × V)} {kds : List (D × D)}
theorem At.ext (e : ExR G G') (h : At K G P v d) : At K G' P v d := At.mono' (fun a u _ => e.rd a u) (fun a u _ => e.ls a u) (fun _ z => z) d v h
theorem AtL.ext (e : ExR G G') (h : AtL K G P vs ds) : AtL K G' P vs ds := AtL.mono' (fun a u _ => e.rd a u) (fun a u _ => e.ls a u) (fun _ z => z) ds vs h
theorem AtK.ext (e : ExR G G') (h : AtK K G P kvs kds) : AtK K G' P kvs kds := AtK.mono' (fun a u _ => e.rd a u) (fun a u _ => e.ls a u) (fun _ z => z) kds kvs h
theorem At.weak (f : ∀ a, P a → P' a) (h : At K G P v d) : At K G P' v d := At.mono' (fun _ _ _ r => r) (fun _ _ _ r => r) f d v h
theorem AtL.weak (f : ∀ a, P a → P' a) (h : AtL K G P vs ds) : AtL K G P' vs ds := AtL.mono' (fun _ _ _ r => r) (fun _ _ _ r => r) f ds vs h
theorem AtK.weak (f : ∀ a, P a → P' a) (h : AtK K G P kvs kds) : AtK K G P' kvs kds := AtK.mono' (fun _ _ _ r => r) (fun _ _ _ r => r) f kds kvs h
theorem AtL.length : ∀ {vs : List V} {ds : List D}, AtL K G P vs ds → vs.length = ds.length
  | [], [], _ => rfl
  | v :: vs, d :: ds, h => by cases h with | cons _ t => exact congrArg (· + 1) (AtL.length t)
  | [], _ :: _, h => by cases h
  | _ :: _, [], h => by cases h
theorem AtL.get : ∀ {vs : List V} {ds : List D} {i : Nat} {d : D}, AtL K G P vs ds → ds[i]? = some d → ∃ v, vs[i]? = some v ∧ At K G P v d
  | [], [], _, _, _, e => by simp at e
  | v :: vs, d :: ds, 0, _, h, e => by cases h with | cons a _ => simp at e; subst e; exact ⟨v, rfl, a⟩
  | v :: vs, d :: ds, i + 1, _, h, e => by cases h with | cons _ t => exact AtL.get (i := i) t (by simpa using e)
  | [], _ :: _, _, _, h, _ => by cases h
  | _ :: _, [], _, _, h, _ => by cases h
theorem AtL.getV : ∀ {vs : List V} {ds : List D} {i : Nat} {v : V}, AtL K G P vs ds → vs[i]? = some v → ∃ d, ds[i]? = some d ∧ At K G P v d := fun {vs ds i v} h e => by
  obtain ⟨hi, _⟩ := List.getElem?_eq_some_iff.mp e
  have hd : i < ds.length := by rw [← h.length]; exact hi
  obtain ⟨v', e', a⟩ := h.get (i := i) (d := ds[i]) (by simp [hd])
  rw [e] at e'; cases e'
  exact ⟨_, by simp [hd], a⟩
theorem AtL.append : ∀ {vs ws : List V} {ds es : List D}, AtL K G P vs ds → AtL K G P ws es → AtL K G P (vs ++ ws) (ds ++ es)
  | [], _, [], _, _, t => t
  | _ :: _, _, _ :: _, _, h, t => by cases h with | cons a b => exact .cons a (AtL.append b t)
  | [], _, _ :: _, _, h, _ => by cases h
  | _ :: _, _, [], _, h, _ => by cases h
theorem AtL.take : ∀ {vs : List V} {ds : List D} (n : Nat), AtL K G P vs ds → AtL K G P (vs.take n) (ds.take n)
  | _, _, 0, _ => .nil
  | [], [], _ + 1, _ => .nil
  | _ :: _, _ :: _, n + 1, h => by cases h with | cons a b => exact .cons a (AtL.take n b)
  | [], _ :: _, _ + 1, h => by cases h
  | _ :: _, [], _ + 1, h => by cases h
theorem AtL.drop : ∀ {vs : List V} {ds : List D} (n : Nat), AtL K G P vs ds → AtL K G P (vs.drop n) (ds.drop n)
  | _, _, 0, h => h
  | [], [], _ + 1, _ => .nil
  | _ :: _, _ :: _, n + 1, h => by cases h with | cons a b => exact AtL.drop n b
  | [], _ :: _, _ + 1, h => by cases h
  | _ :: _, [], _ + 1, h => by cases h
theorem AtL.set : ∀ {vs : List V} {ds : List D} {v : V} {d : D} (i : Nat), At K G P v d → AtL K G P vs ds → AtL K G P (vs.set i v) (ds.set i d)
  | [], [], _, _, _, _, _ => .nil
  | _ :: _, _ :: _, _, _, 0, a, h => by cases h with | cons _ b => exact .cons a b
  | _ :: _, _ :: _, _, _, i + 1, a, h => by cases h with | cons x b => exact .cons x (AtL.set i a b)
  | [], _ :: _, _, _, _, _, h => by cases h
  | _ :: _, [], _, _, _, _, h => by cases h
theorem AtL.erase : ∀ {vs : List V} {ds : List D} (i : Nat), AtL K G P vs ds → AtL K G P (vs.eraseIdx i) (ds.eraseIdx i)
  | [], [], _, _ => .nil
  | _ :: _, _ :: _, 0, h => by cases h with | cons _ b => exact b
  | _ :: _, _ :: _, i + 1, h => by cases h with | cons x b => exact .cons x (AtL.erase i b)
  | [], _ :: _, _, h => by cases h
  | _ :: _, [], _, h => by cases h
theorem AtL.reverse : ∀ {vs : List V} {ds : List D}, AtL K G P vs ds → AtL K G P vs.reverse ds.reverse
  | [], [], _ => .nil
  | v :: vs, d :: ds, h => by
    cases h with
    | cons a b =>
      rw [List.reverse_cons, List.reverse_cons]
      exact AtL.append (AtL.reverse b) (.cons a .nil)
  | [], _ :: _, h => by cases h
  | _ :: _, [], h => by cases h
theorem AtL.ints : ∀ {vs : List V} {ns : List Int}, AtL K G P vs (ns.map PyData.int) → vs = ns.map V.int
  | [], [], _ => rfl
  | v :: vs, n :: ns, h => by
    cases h with
    | cons a b => cases a; rw [AtL.ints b]; rfl
  | [], _ :: _, h => by cases h
  | _ :: _, [], h => by cases h
theorem AtL.of_ints : ∀ {ns : List Int}, AtL K G P (ns.map V.int) (ns.map PyData.int)
  | [] => .nil
  | _ :: _ => .cons (.int _) AtL.of_ints
theorem AtL.strs : ∀ {vs : List V} {ns : List Str}, AtL K G P vs (ns.map PyData.str) → vs = ns.map V.str
  | [], [], _ => rfl
  | v :: vs, n :: ns, h => by
    cases h with
    | cons a b => cases a; rw [AtL.strs b]; rfl
  | [], _ :: _, h => by cases h
  | _ :: _, [], h => by cases h
theorem AtL.of_strs : ∀ {ns : List Str}, AtL K G P (ns.map V.str) (ns.map PyData.str)
  | [] => .nil
  | _ :: _ => .cons (.str _) AtL.of_strs
theorem AtL.bools : ∀ {vs : List V} {ns : List Bool}, AtL K G P vs (ns.map PyData.bool) → vs = ns.map V.bl
  | [], [], _ => rfl
  | v :: vs, n :: ns, h => by
    cases h with
    | cons a b => cases a; rw [AtL.bools b]; rfl
  | [], _ :: _, h => by cases h
  | _ :: _, [], h => by cases h
end

/-! ### the frame's state -/
inductive Tag where
  | dead | val (fr : Bool) | own (fr : Bool) | vol | stm
  deriving DecidableEq
/-- fixed from the def's entry on: the stream's addresses, the heap and the frozen heap there -/
structure Ct where
  q : Addr
  c : Addr
  H0 : Hp
  G0 : Hp
def Pf (C : Ct) : Bool → Addr → Prop
  | true => fun a => C.H0 a = none
  | false => fun _ => True
def StAt (H : Hp) (q c : Addr) (S : SS) : Prop := q ≠ c ∧ H q = some (.lst [.ref c, .int S.cur, .int S.cnt, .int S.seed]) ∧ H c = some (.lst (S.cells.map V.int))
def OwnAt (K : PySem.W.Frag) (H G : Hp) (P : Addr → Prop) (p : Addr) : D → Prop
  | .list ds => ∃ vs, H p = some (.lst vs) ∧ AtL K G P vs ds
  | .dict kds => ∃ kvs, H p = some (.dK kvs) ∧ AtK K G P kvs kds
  | _ => False
def SlotOk (K : PySem.W.Frag) (C : Ct) (H G : Hp) (N : Addr → Prop) : Tag → D → V → Prop
  | .dead, _, _ => True
  | .val fr, d, v => At K G (Pf C fr) v d
  | .own fr, d, v => ∃ p, v = .ref p ∧ N p ∧ OwnAt K H G (Pf C fr) p d
  | .vol, d, v => At K H N v d
  | .stm, _, v => v = .ref C.q
structure Rel (K : PySem.W.Frag) (C : Ct) (Γ : List Tag) (ρ : Rho) (S : SS) (σ : L2.St) (H G : Hp) (N : Nat → Addr → Prop) : Prop where
  st : StAt H C.q C.c S
  st0 : C.H0 C.q ≠ none ∧ C.H0 C.c ≠ none
  keep : ∀ a o, C.H0 a = some o → a ≠ C.q → a ≠ C.c → H a = some o
  gh : ∀ a o, G a = some o → H a = some o
  gs : G C.q = none ∧ G C.c = none
  gt : ∀ a o, H a = some o → isTupO o = true → G a = some o
  g0 : ∀ a o, C.G0 a = some o → G a = some o
  gn : ∀ a, G a ≠ none → C.H0 a ≠ none → C.G0 a ≠ none
  nn : ∀ i a, N i a → G a = none ∧ C.H0 a = none ∧ (∃ o, H a = some o ∧ isTupO o = false)
  dj : ∀ i j a, N i a → N j a → i = j
  one : ∀ i fr a b, Γ[i]? = some (.own fr) → N i a → N i b → a = b
  lr : ρ.length = Γ.length
  ls : σ.length = Γ.length
  sl : ∀ i t d, Γ[i]? = some t → t ≠ .dead → ρ[i]? = some (some d) → ∃ v, σ[i]? = some (some v) ∧ SlotOk K C H G (N i) t d v
/-- how the state goes on within an expression -/
structure Ext (C : Ct) (H G : Hp) (N : Nat → Addr → Prop) (H' G' : Hp) (N' : Nat → Addr → Prop) (pu : Bool) : Prop where
  ge : ExR G G'
  gx : ∀ a, G' a ≠ none → G a ≠ none ∨ H a = none
  nx : ∀ i a, N' i a → N i a ∨ H a = none
  dom : ∀ a, H a ≠ none → H' a ≠ none
  same : ∀ a o, H a = some o → a ≠ C.q → a ≠ C.c → (pu = true ∨ ∀ i, ¬ N i a) → H' a = some o
theorem Ext.refl {C : Ct} {H G : Hp} {N : Nat → Addr → Prop} {pu : Bool} : Ext C H G N H G N pu := ⟨ExR.refl _, fun _ h => .inl h, fun _ _ h => .inl h, fun _ h => h, fun _ _ h _ _ _ => h⟩
theorem Ext.trans {C : Ct} {H G H1 G1 H2 G2 : Hp} {N N1 N2 : Nat → Addr → Prop} {p1 p2 : Bool} (a : Ext C H G N H1 G1 N1 p1) (b : Ext C H1 G1 N1 H2 G2 N2 p2) : Ext C H G N H2 G2 N2 (p1 && p2) where
  ge := a.ge.trans b.ge
  gx := fun x h => (b.gx x h).elim (a.gx x) fun z => .inr (by
    cases e : H x with
    | none => rfl
    | some o => exact absurd z (a.dom x (by rw [e]; simp)))
  nx := fun i x h => (b.nx i x h).elim (a.nx i x) fun z => .inr (by
    cases e : H x with
    | none => rfl
    | some o => exact absurd z (a.dom x (by rw [e]; simp)))
  dom := fun x h => b.dom x (a.dom x h)
  same := fun x o e h1 h2 h => by
    have hh : (p1 = true ∨ ∀ i, ¬ N i x) ∧ (p2 = true ∨ ∀ i, ¬ N1 i x) := by
      rcases h with h | h
      · simp only [Bool.and_eq_true] at h
        exact ⟨.inl h.1, .inl h.2⟩
      · exact ⟨.inr h, .inr fun i z => (a.nx i x z).elim (h i) fun z => by rw [e] at z; cases z⟩
    exact b.same x o (a.same x o e h1 h2 hh.1) h1 h2 hh.2
theorem Ext.weak {C : Ct} {H G H1 G1 : Hp} {N N1 : Nat → Addr → Prop} {p1 p2 : Bool} (a : Ext C H G N H1 G1 N1 p1) (h : p2 = true → p1 = true) : Ext C H G N H1 G1 N1 p2 := ⟨a.ge, a.gx, a.nx, a.dom, fun x o e h1 h2 z => a.same x o e h1 h2 (z.imp h id)⟩

/-- how a value stands: at rest (frozen) | a list or dict of the frame's own, its items at rest | anywhere in the heap | new, nobody's yet | the stream -/
inductive Mode where
  | val (fr : Bool) | top (fr : Bool) | deep | new (fr : Bool) | stm
  deriving DecidableEq
def AtTop (K : PySem.W.Frag) (C : Ct) (H G : Hp) (P : Addr → Prop) (v : V) (d : D) : Prop := At K G P v d ∨ ∃ p, v = .ref p ∧ p ≠ C.q ∧ p ≠ C.c ∧ OwnAt K H G P p d
/-- the heap without the stream -/
def noQ (C : Ct) (H : Hp) : Hp := fun a => if a = C.q then none else if a = C.c then none else H a
theorem noQ_some {C : Ct} {H : Hp} {a : Addr} {o : HO} (h : H a = some o) (h1 : a ≠ C.q) (h2 : a ≠ C.c) : noQ C H a = some o := by
  unfold noQ; rw [if_neg h1, if_neg h2]; exact h
theorem of_noQ {C : Ct} {H : Hp} {a : Addr} {o : HO} (h : noQ C H a = some o) : H a = some o ∧ a ≠ C.q ∧ a ≠ C.c := by
  unfold noQ at h
  by_cases h1 : a = C.q
  · rw [if_pos h1] at h; cases h
  · by_cases h2 : a = C.c
    · rw [if_neg h1, if_pos h2] at h; cases h
    · rw [if_neg h1, if_neg h2] at h; exact ⟨h, h1, h2⟩
def ValOk (K : PySem.W.Frag) (C : Ct) (H H' G' : Hp) (N' : Nat → Addr → Prop) : Mode → V → D → Prop
  | .val fr, v, d => At K G' (Pf C fr) v d
  | .top fr, v, d => AtTop K C H' G' (Pf C fr) v d
  | .deep, v, d => At K (noQ C H') (fun _ => True) v d
  | .new fr, v, d => ∃ p, v = .ref p ∧ H p = none ∧ G' p = none ∧ (∀ i, ¬ N' i p) ∧ OwnAt K H' G' (Pf C fr) p d
  | .stm, v, _ => v = .ref C.q

/-- what an exception that leaves is wanted to meet -/
abbrev EC := String → Option (Addr × Str)
def extG (G H H' : Hp) : Hp := fun a => match H a with
  | none => H' a
  | some _ => G a
def XW (K : PySem.W.Frag) (ec : EC) (E : XK) (C : Ct) (c : String) (p : D) (S : SS) : Prop :=
  ∃ ca fld, ec c = some (ca, fld) ∧ ∀ d v H', StAt H' C.q C.c S → (∀ a o, C.H0 a = some o → a ≠ C.q → a ≠ C.c → H' a = some o) → C.H0 d = none → H' d = some (.xd [(fld, v)]) →
    At K (extG C.G0 C.H0 H') (fun _ => True) v p → E (.ref ca) (some d) H'
def Post {α : Type} (K : PySem.W.Frag) (ec : EC) (E : XK) (C : Ct) (r : Res α) (k : α → Rho → SS → Prop) : Prop :=
  match r with
  | .ok a ρ S => k a ρ S
  | .exc c p S => XW K ec E C c p S
  | .stk => False
theorem Post.bind {α β : Type} {K : PySem.W.Frag} {ec : EC} {E : XK} {C : Ct} {r : Res α} {f : α → Rho → SS → Res β} {k : β → Rho → SS → Prop} (h : Post K ec E C (r.bind f) k) : Post K ec E C r fun a ρ S => Post K ec E C (f a ρ S) k := by
  cases r with
  | ok a ρ S => exact h
  | exc c p S => exact h
  | stk => exact h
theorem Post.mono {α : Type} {K : PySem.W.Frag} {ec : EC} {E : XK} {C : Ct} {r : Res α} {k k' : α → Rho → SS → Prop} (h : Post K ec E C r k) (f : ∀ a ρ S, k a ρ S → k' a ρ S) : Post K ec E C r k' := by
  cases r with
  | ok a ρ S => exact f _ _ _ h
  | exc c p S => exact h
  | stk => exact h

/-- AN EXPRESSION and its denotation -/
def EJ (X : Cx) (ec : EC) (E : XK) (Γ : List Tag) (e : Expr) (f : Den D) (m : Mode) (pu : Bool) : Prop :=
  ∃ te, PE X e te ∧ ∀ C ρ S σ H G N Q, Rel X.K C Γ ρ S σ H G N →
    Post X.K ec E C (f ρ S) (fun d ρ' S' => ∀ v H' G' N', Rel X.K C Γ ρ' S' σ H' G' N' → Ext C H G N H' G' N' pu → ValOk X.K C H H' G' N' m v d → Q v H') → te σ H Q
/-- A TEST and its denotation -/
def TJ (X : Cx) (ec : EC) (E : XK) (Γ : List Tag) (e : Expr) (f : Den Bool) (pu : Bool) : Prop :=
  ∃ tt, PT X e tt ∧ ∀ C ρ S σ H G N Q, Rel X.K C Γ ρ S σ H G N →
    Post X.K ec E C (f ρ S) (fun b ρ' S' => ∀ H' G' N', Rel X.K C Γ ρ' S' σ H' G' N' → Ext C H G N H' G' N' pu → Q b H') → tt σ H Q
def Mode.isNew : Mode → Bool
  | .new _ => true
  | _ => false
/-- the new ones among some values -/
def newsOf : List Mode → List V → List V
  | m :: ms, v :: vs => if m.isNew then v :: newsOf ms vs else newsOf ms vs
  | _, _ => []
def ValsOk (K : PySem.W.Frag) (C : Ct) (H H' G' : Hp) (N' : Nat → Addr → Prop) : List Mode → List V → List D → Prop
  | [], [], [] => True
  | m :: ms, v :: vs, d :: ds => ValOk K C H H' G' N' m v d ∧ (m.isNew = true → ∀ w ∈ newsOf ms vs, w ≠ v) ∧ ValsOk K C H H' G' N' ms vs ds
  | _, _, _ => False
/-- AN ARGUMENT LIST -/
def AJ (X : Cx) (ec : EC) (E : XK) (Γ : List Tag) (es : List Expr) (f : Den (List D)) (ms : List Mode) (pu : Bool) : Prop :=
  ∃ ta, PA X es ta ∧ ∀ C ρ S σ H G N Q, Rel X.K C Γ ρ S σ H G N →
    Post X.K ec E C (f ρ S) (fun ds ρ' S' => ∀ vs H' G' N', Rel X.K C Γ ρ' S' σ H' G' N' → Ext C H G N H' G' N' pu → ValsOk X.K C H H' G' N' ms vs ds → Q vs H') → ta σ H Q
end PD

namespace PD
open PySem L2

section
variable {K : PySem.W.Frag} {C : Ct} {Γ : List Tag} {ρ : Rho} {S S' : SS} {σ : L2.St} {H H' G G' : Hp} {N : Nat → Addr → Prop}
theorem rd_of {G H : Hp} (h : ∀ a o, G a = some o → H a = some o) {a : Addr} {u : HO} (r : Rd G a u) : Rd H a u := (ExR.of h).rd a u r
theorem Rel.nq (R : Rel K C Γ ρ S σ H G N) {i : Nat} {a : Addr} (h : N i a) : a ≠ C.q ∧ a ≠ C.c :=
  ⟨fun e => R.st0.1 (e ▸ (R.nn i a h).2.1), fun e => R.st0.2 (e ▸ (R.nn i a h).2.1)⟩
theorem Rel.gq (R : Rel K C Γ ρ S σ H G N) {a : Addr} (h : G a ≠ none) : a ≠ C.q ∧ a ≠ C.c :=
  ⟨fun e => h (e ▸ R.gs.1), fun e => h (e ▸ R.gs.2)⟩
theorem Rel.h0 (R : Rel K C Γ ρ S σ H G N) {a : Addr} (h : H a = none) : C.H0 a = none := by
  cases e : C.H0 a with
  | none => rfl
  | some o =>
    by_cases h1 : a = C.q
    · subst h1; rw [R.st.2.1] at h; cases h
    · by_cases h2 : a = C.c
      · subst h2; rw [R.st.2.2] at h; cases h
      · rw [R.keep a o e h1 h2] at h; cases h
theorem Rel.g0n (R : Rel K C Γ ρ S σ H G N) {a : Addr} (h : H a = none) : G a = none := by
  cases e : G a with
  | none => rfl
  | some o => rw [R.gh a o e] at h; cases h
theorem Rel.n0 (R : Rel K C Γ ρ S σ H G N) {a : Addr} (h : H a = none) (i : Nat) : ¬ N i a := fun z => by
  obtain ⟨_, _, o, e, _⟩ := R.nn i a z
  rw [h] at e; cases e
theorem Rel.qn (R : Rel K C Γ ρ S σ H G N) {a : Addr} (h : H a = none) : a ≠ C.q ∧ a ≠ C.c :=
  ⟨fun e => by (subst e; rw [R.st.2.1] at h; cases h), fun e => by (subst e; rw [R.st.2.2] at h; cases h)⟩
/-- a slot's value where the heap goes on (all but the stream) -/
theorem SlotOk.heap {M : Addr → Prop} {t : Tag} {d : D} {v : V} (hm : ∀ a, M a → a ≠ C.q ∧ a ≠ C.c) (st : StAt H C.q C.c S) (hx : ∀ a o, H a = some o → a ≠ C.q → a ≠ C.c → H' a = some o) (h : SlotOk K C H G M t d v) : SlotOk K C H' G M t d v := by
  cases t with
  | dead => trivial
  | val fr => exact h
  | own fr =>
    obtain ⟨p, e, np, ow⟩ := h
    refine ⟨p, e, np, ?_⟩
    have z := hm p np
    cases d with
    | list ds => obtain ⟨vs, e, l⟩ := ow; exact ⟨vs, hx _ _ e z.1 z.2, l⟩
    | dict ds => obtain ⟨vs, e, l⟩ := ow; exact ⟨vs, hx _ _ e z.1 z.2, l⟩
    | _ => exact ow
  | vol =>
    refine At.mono' (G := H) (G' := H') (fun a u z r => ?_) (fun a vs z r => hx _ _ r (hm a z).1 (hm a z).2) (fun _ z => z) d v h
    have nq : a ≠ C.q ∧ a ≠ C.c := by
      rcases z with z | z
      · exact hm a z
      · refine ⟨fun e => ?_, fun e => ?_⟩
        · subst e
          rcases r with r | ⟨o, r⟩
          · rw [st.2.1] at r; cases r; cases z
          · rw [st.2.1] at r; cases r
        · subst e
          rcases r with r | ⟨o, r⟩
          · rw [st.2.2] at r; cases r; cases z
          · rw [st.2.2] at r; cases r
    exact r.imp (fun r => hx _ _ r nq.1 nq.2) fun ⟨o, r⟩ => ⟨o, hx _ _ r nq.1 nq.2⟩
  | stm => exact h
theorem SlotOk.frz {M : Addr → Prop} {t : Tag} {d : D} {v : V} (e : ExR G G') (h : SlotOk K C H G M t d v) : SlotOk K C H G' M t d v := by
  cases t with
  | dead => trivial
  | val fr => exact h.ext e
  | own fr =>
    obtain ⟨p, ep, np, ow⟩ := h
    refine ⟨p, ep, np, ?_⟩
    cases d with
    | list ds => obtain ⟨vs, z, l⟩ := ow; exact ⟨vs, z, l.ext e⟩
    | dict ds => obtain ⟨vs, z, l⟩ := ow; exact ⟨vs, z, l.ext e⟩
    | _ => exact ow
  | vol => exact h
  | stm => exact h
/-- the heap goes on, the stream may turn -/
theorem Rel.heap (R : Rel K C Γ ρ S σ H G N) (st : StAt H' C.q C.c S') (hx : ∀ a o, H a = some o → a ≠ C.q → a ≠ C.c → H' a = some o) (ht : ∀ a o, H' a = some o → isTupO o = true → H a = some o) : Rel K C Γ ρ S' σ H' G N where
  st := st
  st0 := R.st0
  keep := fun a o e h1 h2 => hx a o (R.keep a o e h1 h2) h1 h2
  gh := fun a o e => hx a o (R.gh a o e) (R.gq (by rw [e]; simp)).1 (R.gq (by rw [e]; simp)).2
  gs := R.gs
  gt := fun a o e t => R.gt a o (ht a o e t) t
  g0 := R.g0
  gn := R.gn
  nn := fun i a h => by
    obtain ⟨h1, h2, o, e, t⟩ := R.nn i a h
    exact ⟨h1, h2, o, hx a o e (R.nq h).1 (R.nq h).2, t⟩
  dj := R.dj
  one := R.one
  lr := R.lr
  ls := R.ls
  sl := fun i t d h1 h2 h3 => by
    obtain ⟨v, e, s⟩ := R.sl i t d h1 h2 h3
    exact ⟨v, e, s.heap (fun a z => R.nq z) R.st hx⟩
/-- a new object -/
theorem Rel.alloc (R : Rel K C Γ ρ S σ H G N) {p : Addr} {o : HO} (hp : H p = none) (to : isTupO o = false) : Rel K C Γ ρ S σ (upd H p o) G N :=
  R.heap ⟨R.st.1, by rw [upd_ne (R.qn hp).1.symm]; exact R.st.2.1, by rw [upd_ne (R.qn hp).2.symm]; exact R.st.2.2⟩ (fun a u e _ _ => by
    rw [upd_ne (ne_of_none e hp)]; exact e) fun a u e t => by
    by_cases h : a = p
    · subst h; rw [upd_same] at e; cases e; rw [to] at t; cases t
    · rw [upd_ne h] at e; exact e
theorem ext_alloc {pu : Bool} {p : Addr} {o : HO} (hp : H p = none) : Ext C H G N (upd H p o) G N pu :=
  ⟨ExR.refl _, fun _ h => .inl h, fun _ _ h => .inl h, fun a h => by
    by_cases e : a = p
    · subst e; rw [upd_same]; simp
    · rw [upd_ne e]; exact h, fun a u e _ _ _ => by rw [upd_ne (ne_of_none e hp)]; exact e⟩
theorem gstay (R : Rel K C Γ ρ S σ H G N) {p : Addr} {o : HO} (hp : H p = some o) : ∀ a u, G a = some u → (upd G p o) a = some u := fun a u r => by
  by_cases h : a = p
  · subst h
    have z := R.gh _ _ r
    rw [hp] at z; cases z
    exact upd_same
  · rw [upd_ne h]; exact r
/-- an object that is nobody's comes to rest -/
theorem Rel.rest (R : Rel K C Γ ρ S σ H G N) {p : Addr} {o : HO} (hp : H p = some o) (h0 : C.H0 p = none) (hn : ∀ i, ¬ N i p) : Rel K C Γ ρ S σ H (upd G p o) N where
  st := R.st
  st0 := R.st0
  keep := R.keep
  gh := fun a u e => by
    by_cases h : a = p
    · subst h; rw [upd_same] at e; cases e; exact hp
    · rw [upd_ne h] at e; exact R.gh a u e
  gs := ⟨by rw [upd_ne (show C.q ≠ p from fun e => R.st0.1 (by rw [e]; exact h0))]; exact R.gs.1, by rw [upd_ne (show C.c ≠ p from fun e => R.st0.2 (by rw [e]; exact h0))]; exact R.gs.2⟩
  gt := fun a u e t => gstay R hp a u (R.gt a u e t)
  g0 := fun a u e => by
    by_cases h : a = p
    · subst h
      have z := R.g0 _ _ e
      have z2 := R.gh _ _ z
      rw [hp] at z2; cases z2
      exact upd_same
    · rw [upd_ne h]; exact R.g0 a u e
  gn := fun a h1 h2 => by
    by_cases h : a = p
    · subst h; exact absurd h0 h2
    · rw [upd_ne h] at h1; exact R.gn a h1 h2
  nn := fun i a h => by
    have ne : a ≠ p := fun e => hn i (e ▸ h)
    rw [upd_ne ne]
    exact R.nn i a h
  dj := R.dj
  one := R.one
  lr := R.lr
  ls := R.ls
  sl := fun i t d h1 h2 h3 => by
    obtain ⟨v, e, s⟩ := R.sl i t d h1 h2 h3
    exact ⟨v, e, s.frz (ExR.of (gstay R hp))⟩
theorem exr_rest (R : Rel K C Γ ρ S σ H G N) {p : Addr} {o : HO} (hp : H p = some o) : ExR G (upd G p o) := ExR.of (gstay R hp)
/-- .. one that came behind H0' -/
theorem ext_rest (R : Rel K C Γ ρ S σ H G N) {pu : Bool} {p : Addr} {o : HO} {H1 G1 : Hp} {N1 : Nat → Addr → Prop} (x : Ext C H1 G1 N1 H G N pu) (hp : H p = some o) (h1 : H1 p = none) : Ext C H1 G1 N1 H (upd G p o) N pu :=
  ⟨x.ge.trans (exr_rest R hp), fun a h => by
    by_cases e : a = p
    · subst e; exact .inr h1
    · rw [upd_ne e] at h; exact x.gx a h, x.nx, x.dom, x.same⟩
end
end PD

namespace PD
open PySem L2

/-! ### two derivations of one text -/
theorem PE.or {X : Cx} {e : Expr} {t u : TE} (h : PE X e t) (h' : PE X e u) : PE X e (fun σ H Q => t σ H Q ∨ u σ H Q) :=
  ⟨fun pins s σ H Q I z => z.elim (fun z => h.run pins s σ H Q I z) fun z => h'.run pins s σ H Q I z⟩
theorem PI.or {X : Cx} {tg e : Expr} {t u : TI} (h : PI X tg e t) (h' : PI X tg e u) : PI X tg e (fun σ H Q => t σ H Q ∨ u σ H Q) :=
  ⟨fun pins s σ H Q I z => z.elim (fun z => h.run pins s σ H Q I z) fun z => h'.run pins s σ H Q I z⟩
theorem PG.or {X : Cx} {tg : Expr} {t u : TG} (h : PG X tg t) (h' : PG X tg u) : PG X tg (fun v σ H Q => t v σ H Q ∨ u v σ H Q) :=
  ⟨fun pins s σ H v w Q I r z => z.elim (fun z => h.run pins s σ H v w Q I r z) fun z => h'.run pins s σ H v w Q I r z⟩
theorem PS.or {X : Cx} {st : Stmt} {t u : TS} (h : PS X st t) (h' : PS X st u) : PS X st (fun D σ H => t D σ H ∨ u D σ H) :=
  ⟨fun pins s σ H D I z => z.elim (fun z => h.run pins s σ H D I z) fun z => h'.run pins s σ H D I z⟩

section
variable {K : PySem.W.Frag} {C : Ct} {Γ Γ' : List Tag} {ρ : Rho} {S S' : SS} {σ : L2.St} {H H' G G' : Hp} {N : Nat → Addr → Prop}
theorem set_ge {α : Type} {l : List α} {i : Nat} {x : α} (h : l.length ≤ i) : l.set i x = l := List.set_eq_of_length_le h
/-- a slot is stored, its value at rest -/
theorem Rel.setVal (R : Rel K C Γ ρ S σ H G N) {i : Nat} {v : V} {d : D} {fr : Bool} (a : At K G (Pf C fr) v d) : Rel K C (Γ.set i (.val fr)) (ρ.set i (some d)) S (σ.set i (some v)) H G N := by
  by_cases hi : i < Γ.length
  · refine ⟨R.st, R.st0, R.keep, R.gh, R.gs, R.gt, R.g0, R.gn, R.nn, R.dj, fun j fr' a b h1 h2 h3 => ?_, by simp [R.lr], by simp [R.ls], fun j t e h1 h2 h3 => ?_⟩
    · by_cases hj : i = j
      · subst hj; rw [List.getElem?_set_self hi] at h1; cases h1
      · rw [List.getElem?_set_ne hj] at h1
        exact R.one j fr' a b h1 h2 h3
    · by_cases hj : i = j
      · subst hj
        rw [List.getElem?_set_self hi] at h1; cases h1
        rw [List.getElem?_set_self (by rw [R.lr]; exact hi)] at h3; cases h3
        exact ⟨v, List.getElem?_set_self (by rw [R.ls]; exact hi), a⟩
      · rw [List.getElem?_set_ne hj] at h1 h3
        obtain ⟨w, e1, s⟩ := R.sl j t e h1 h2 h3
        exact ⟨w, by rw [List.getElem?_set_ne hj]; exact e1, s⟩
  · have hi := Nat.le_of_not_lt hi
    rw [set_ge hi, set_ge (by rw [R.lr]; exact hi), set_ge (by rw [R.ls]; exact hi)]
    exact R
/-- a slot becomes the owner of an object that is nobody's -/
theorem Rel.setOwn (R : Rel K C Γ ρ S σ H G N) {i : Nat} {p : Addr} {d : D} {fr : Bool} (hi : i < Γ.length) (hg : G p = none) (h0 : C.H0 p = none) (hn : ∀ j, ¬ N j p) (ow : OwnAt K H G (Pf C fr) p d) :
    Rel K C (Γ.set i (.own fr)) (ρ.set i (some d)) S (σ.set i (some (.ref p))) H G (fun j a => if j = i then a = p else N j a) := by
  have nt : ∃ o, H p = some o ∧ isTupO o = false := by
    cases d with
    | list ds => obtain ⟨vs, e, _⟩ := ow; exact ⟨_, e, rfl⟩
    | dict ds => obtain ⟨vs, e, _⟩ := ow; exact ⟨_, e, rfl⟩
    | _ => exact ow.elim
  refine ⟨R.st, R.st0, R.keep, R.gh, R.gs, R.gt, R.g0, R.gn, fun j a h => ?_, fun j k a h1 h2 => ?_, fun j fr' a b h1 h2 h3 => ?_, by simp [R.lr], by simp [R.ls], fun j t e h1 h2 h3 => ?_⟩
  · by_cases hj : j = i
    · simp only [hj, if_true] at h
      subst h
      exact ⟨hg, h0, nt⟩
    · simp only [hj, if_false] at h
      exact R.nn j a h
  · by_cases hj : j = i <;> by_cases hk : k = i
    · rw [hj, hk]
    · simp only [hj, hk, if_true, if_false] at h1 h2
      subst h1; exact absurd h2 (hn k)
    · simp only [hj, hk, if_true, if_false] at h1 h2
      subst h2; exact absurd h1 (hn j)
    · simp only [hj, hk, if_false] at h1 h2
      exact R.dj j k a h1 h2
  · by_cases hj : j = i
    · simp only [hj, if_true] at h2 h3
      rw [h2, h3]
    · simp only [hj, if_false] at h2 h3
      rw [List.getElem?_set_ne (Ne.symm hj)] at h1
      exact R.one j fr' a b h1 h2 h3
  · by_cases hj : j = i
    · subst hj
      rw [List.getElem?_set_self hi] at h1; cases h1
      rw [List.getElem?_set_self (by rw [R.lr]; exact hi)] at h3; cases h3
      exact ⟨.ref p, List.getElem?_set_self (by rw [R.ls]; exact hi), p, rfl, by simp, ow⟩
    · rw [List.getElem?_set_ne (Ne.symm hj)] at h1 h3
      obtain ⟨w, e1, s⟩ := R.sl j t e h1 h2 h3
      refine ⟨w, by rw [List.getElem?_set_ne (Ne.symm hj)]; exact e1, ?_⟩
      simp only [hj, if_false]
      exact s

/-! ### tags -/
def Tag.le : Tag → Tag → Bool
  | _, .dead => true
  | .val a, .val b => a || !b
  | .own a, .own b => a || !b
  | .vol, .vol => true
  | .stm, .stm => true
  | _, _ => false
def tagsLe : List Tag → List Tag → Bool
  | [], [] => true
  | a :: r, b :: s => a.le b && tagsLe r s
  | _, _ => false
theorem tagsLe_length : ∀ {r s : List Tag}, tagsLe r s = true → r.length = s.length
  | [], [], _ => rfl
  | a :: r, b :: s, h => by
    simp only [tagsLe, Bool.and_eq_true] at h
    simp [tagsLe_length h.2]
  | [], _ :: _, h => by simp [tagsLe] at h
  | _ :: _, [], h => by simp [tagsLe] at h
theorem tagsLe_get : ∀ {r s : List Tag} {i : Nat} {b : Tag}, tagsLe r s = true → s[i]? = some b → ∃ a, r[i]? = some a ∧ a.le b = true
  | a :: r, b :: s, 0, _, h, e => by
    simp only [tagsLe, Bool.and_eq_true] at h
    simp at e; subst e
    exact ⟨a, rfl, h.1⟩
  | a :: r, b :: s, i + 1, _, h, e => by
    simp only [tagsLe, Bool.and_eq_true] at h
    exact tagsLe_get (i := i) h.2 (by simpa using e)
  | [], [], _, _, _, e => by simp at e
  | [], _ :: _, _, _, h, _ => by simp [tagsLe] at h
  | _ :: _, [], _, _, h, _ => by simp [tagsLe] at h
theorem Pf.weak {C : Ct} {a b : Bool} (h : (a || !b) = true) : ∀ x, Pf C a x → Pf C b x := fun x z => by
  cases a <;> cases b <;> first | exact z | exact trivial | (cases h)
theorem SlotOk.weak {M : Addr → Prop} {t u : Tag} {d : D} {v : V} (h : t.le u = true) (s : SlotOk K C H G M t d v) : SlotOk K C H G M u d v := by
  cases u with
  | dead => trivial
  | val b =>
    cases t with
    | val a => exact At.weak (Pf.weak h) s
    | _ => cases h
  | own b =>
    cases t with
    | own a =>
      obtain ⟨p, e, np, ow⟩ := s
      refine ⟨p, e, np, ?_⟩
      cases d with
      | list ds => obtain ⟨vs, e, l⟩ := ow; exact ⟨vs, e, l.weak (Pf.weak h)⟩
      | dict ds => obtain ⟨vs, e, l⟩ := ow; exact ⟨vs, e, l.weak (Pf.weak h)⟩
      | _ => exact ow
    | _ => cases h
  | vol =>
    cases t with
    | vol => exact s
    | _ => cases h
  | stm =>
    cases t with
    | stm => exact s
    | _ => cases h
theorem Rel.tags (R : Rel K C Γ ρ S σ H G N) (h : tagsLe Γ Γ' = true) : Rel K C Γ' ρ S σ H G N := by
  have hl := tagsLe_length h
  refine ⟨R.st, R.st0, R.keep, R.gh, R.gs, R.gt, R.g0, R.gn, R.nn, R.dj, fun j fr a b h1 h2 h3 => ?_, by rw [R.lr, hl], by rw [R.ls, hl], fun j t d h1 h2 h3 => ?_⟩
  · obtain ⟨t, e, l⟩ := tagsLe_get h h1
    cases t with
    | own fr' => exact R.one j fr' a b e h2 h3
    | _ => cases l
  · obtain ⟨t', e, l⟩ := tagsLe_get h h1
    have nd : t' ≠ .dead := by
      intro z; subst z
      cases t <;> first | exact h2 rfl | cases l
    obtain ⟨v, e2, s⟩ := R.sl j t' d e nd h3
    exact ⟨v, e2, s.weak l⟩
/-- what a slot owns comes to rest -/
theorem Rel.freeze (R : Rel K C Γ ρ S σ H G N) {i : Nat} {fr : Bool} (h : Γ[i]? = some (.own fr)) : ∃ G' N', ExR G G' ∧ Rel K C (Γ.set i (.val fr)) ρ S σ H G' N' := by
  have hi : i < Γ.length := (List.getElem?_eq_some_iff.mp h).1
  -- the slot forgotten
  have R1 : Rel K C (Γ.set i .dead) ρ S σ H G (fun j a => if j = i then False else N j a) := by
    refine ⟨R.st, R.st0, R.keep, R.gh, R.gs, R.gt, R.g0, R.gn, fun j a z => ?_, fun j k a z1 z2 => ?_, fun j fr' a b z1 z2 z3 => ?_, by simp [R.lr], by simp [R.ls], fun j t d z1 z2 z3 => ?_⟩
    · by_cases hj : j = i
      · simp [hj] at z
      · simp only [hj, if_false] at z; exact R.nn j a z
    · by_cases hj : j = i <;> by_cases hk : k = i
      · rw [hj, hk]
      · simp [hj] at z1
      · simp [hk] at z2
      · simp only [hj, hk, if_false] at z1 z2; exact R.dj j k a z1 z2
    · by_cases hj : j = i
      · simp [hj] at z2
      · simp only [hj, if_false] at z2 z3
        rw [List.getElem?_set_ne (Ne.symm hj)] at z1
        exact R.one j fr' a b z1 z2 z3
    · by_cases hj : j = i
      · subst hj; rw [List.getElem?_set_self hi] at z1; cases z1; exact absurd rfl z2
      · rw [List.getElem?_set_ne (Ne.symm hj)] at z1
        obtain ⟨v, e, s⟩ := R.sl j t d z1 z2 z3
        refine ⟨v, e, ?_⟩
        simp only [hj, if_false]; exact s
  have fin : ∀ {G' : Hp}, Rel K C (Γ.set i .dead) ρ S σ H G' (fun j a => if j = i then False else N j a) → (∀ d, ρ[i]? = some (some d) → ∃ v, σ[i]? = some (some v) ∧ At K G' (Pf C fr) v d) → Rel K C (Γ.set i (.val fr)) ρ S σ H G' (fun j a => if j = i then False else N j a) := by
    intro G' R2 hv
    refine ⟨R2.st, R2.st0, R2.keep, R2.gh, R2.gs, R2.gt, R2.g0, R2.gn, R2.nn, R2.dj, fun j fr' a b z1 z2 z3 => ?_, by simp [R.lr], by simp [R.ls], fun j t d z1 z2 z3 => ?_⟩
    · by_cases hj : j = i
      · simp [hj] at z2
      · exact R2.one j fr' a b (by rw [List.getElem?_set_ne (Ne.symm hj)]; rw [List.getElem?_set_ne (Ne.symm hj)] at z1; exact z1) z2 z3
    · by_cases hj : j = i
      · subst hj
        rw [List.getElem?_set_self hi] at z1; cases z1
        exact hv d z3
      · rw [List.getElem?_set_ne (Ne.symm hj)] at z1
        exact R2.sl j t d (by rw [List.getElem?_set_ne (Ne.symm hj)]; exact z1) z2 z3
  cases e : ρ[i]? with
  | none => exact ⟨G, _, ExR.refl _, fin R1 fun d z => by rw [e] at z; cases z⟩
  | some o =>
    cases o with
    | none => exact ⟨G, _, ExR.refl _, fin R1 fun d z => by rw [e] at z; cases z⟩
    | some d =>
      obtain ⟨v, ev, p, rfl, np, ow⟩ := R.sl i _ d h (by simp) e
      obtain ⟨hg, h0, ob, hob, _⟩ := R.nn i p np
      have hn : ∀ j, ¬ (if j = i then False else N j p) := fun j z => by
        by_cases hj : j = i
        · simp [hj] at z
        · simp only [hj, if_false] at z; exact hj (R.dj j i p z np)
      refine ⟨upd G p ob, _, exr_rest R1 hob, fin (R1.rest hob h0 hn) fun d' z => ?_⟩
      rw [e] at z; cases z
      refine ⟨_, ev, ?_⟩
      have px : Pf C fr p := by cases fr; exact trivial; exact h0
      have ex := exr_rest R1 hob
      cases d with
      | list ds =>
        obtain ⟨vs, e1, l⟩ := ow
        rw [hob] at e1; cases e1
        exact .lst upd_same px (l.ext ex)
      | dict ds =>
        obtain ⟨vs, e1, l⟩ := ow
        rw [hob] at e1; cases e1
        exact .dic (.inl upd_same) px (l.ext ex)
      | _ => exact ow.elim
end

/-! ### targets -/
inductive Tgt where
  | nm (i : Nat)
  | tup (l : List Tgt)
mutual
def bindT : Tgt → D → Rho → Option Rho
  | .nm i, d, ρ => some (ρ.set i (some d))
  | .tup l, .tuple ds, ρ => bindTs l ds ρ
  | .tup l, .list ds, ρ => bindTs l ds ρ
  | .tup _, _, _ => none
def bindTs : List Tgt → List D → Rho → Option Rho
  | [], [], ρ => some ρ
  | t :: r, d :: s, ρ => match bindT t d ρ with
    | some ρ' => bindTs r s ρ'
    | none => none
  | _, _, _ => none
end
mutual
def tagT : Tgt → Bool → List Tag → List Tag
  | .nm i, fr, Γ => Γ.set i (.val fr)
  | .tup l, fr, Γ => tagTs l fr Γ
def tagTs : List Tgt → Bool → List Tag → List Tag
  | [], _, Γ => Γ
  | t :: r, fr, Γ => tagTs r fr (tagT t fr Γ)
end
mutual
def slotsT : Tgt → List Nat
  | .nm i => [i]
  | .tup l => slotsTs l
def slotsTs : List Tgt → List Nat
  | [] => []
  | t :: r => slotsT t ++ slotsTs r
end
/-- σ' is σ but for the slots of ks -/
def SlotsEq (ks : List Nat) (σ σ' : L2.St) : Prop := σ'.length = σ.length ∧ ∀ i, i ∉ ks → σ'[i]? = σ[i]?
theorem wipe_none {σ : L2.St} : ∀ {vs : List Nat} {i : Nat}, i ∈ vs → i < σ.length → (wipe σ vs)[i]? = some none
  | v :: vs, i, h, hl => by
    unfold wipe
    by_cases e : v = i
    · subst e; exact List.getElem?_set_self (by rw [wipe_length]; exact hl)
    · rw [List.getElem?_set_ne e]
      exact wipe_none ((List.mem_cons.mp h).resolve_left (Ne.symm e)) hl
theorem wipe_get {σ : L2.St} : ∀ {vs : List Nat} {i : Nat}, i ∉ vs → (wipe σ vs)[i]? = σ[i]?
  | [], _, _ => rfl
  | v :: vs, i, h => by
    unfold wipe
    rw [List.getElem?_set_ne (fun e => h (by rw [e]; exact List.mem_cons_self))]
    exact wipe_get fun z => h (List.mem_cons_of_mem _ z)
theorem wipe_eq {ks vs : List Nat} {σ σ' : L2.St} (h : SlotsEq ks σ σ') (hk : ∀ k ∈ ks, k ∈ vs) : wipe σ' vs = wipe σ vs := by
  refine List.ext_getElem? fun i => ?_
  by_cases hi : i ∈ vs
  · by_cases hl : i < σ.length
    · rw [wipe_none hi hl, wipe_none hi (by rw [h.1]; exact hl)]
    · rw [List.getElem?_eq_none (by rw [wipe_length, h.1]; omega), List.getElem?_eq_none (by rw [wipe_length]; omega)]
  · rw [wipe_get hi, wipe_get hi]
    exact h.2 i fun z => hi (hk i z)
theorem wipe_wipe {σ : L2.St} {vs : List Nat} : wipe (wipe σ vs) vs = wipe σ vs := by
  refine List.ext_getElem? fun i => ?_
  by_cases hi : i ∈ vs
  · by_cases hl : i < σ.length
    · rw [wipe_none hi (by rw [wipe_length]; exact hl), wipe_none hi hl]
    · rw [List.getElem?_eq_none (by rw [wipe_length, wipe_length]; omega), List.getElem?_eq_none (by rw [wipe_length]; omega)]
  · rw [wipe_get hi]
/-- A TARGET -/
def GJ (X : Cx) (tg : Expr) (T : Tgt) : Prop :=
  ∃ g, PG X tg g ∧ ∀ C Γ ρ S σ H G N fr v d ρ' Q, Rel X.K C Γ ρ S σ H G N → At X.K G (Pf C fr) v d → bindT T d ρ = some ρ' →
    (∀ σ', Rel X.K C (tagT T fr Γ) ρ' S σ' H G N → SlotsEq (slotsT T) σ σ' → Q σ' H) → g v σ H Q
def GsJ (X : Cx) (tgs : List Expr) (Ts : List Tgt) : Prop :=
  ∃ g, PGs X tgs g ∧ ∀ C Γ ρ S σ H G N fr vs ds ρ' Q, Rel X.K C Γ ρ S σ H G N → AtL X.K G (Pf C fr) vs ds → bindTs Ts ds ρ = some ρ' →
    (∀ σ', Rel X.K C (tagTs Ts fr Γ) ρ' S σ' H G N → SlotsEq (slotsTs Ts) σ σ' → Q σ' H) → g vs σ H Q
section
variable {X : Cx}
theorem gj_nm {i : Nat} {x : Str} {pos : Pos} (hN : X.N.Nodup) (hi : X.N[i]? = some x) (hx : Loc X.env.scope x) (hf : X.fn x = true ∨ X.env.scope.names.lookup x = some .local) : GJ X (.Name x pos) (.nm i) :=
  ⟨_, pg_name hN hi hx hf, fun C Γ ρ S σ H G N fr v d ρ' Q R a b k => by
    simp only [bindT, Option.some.injEq] at b
    subst b
    exact k _ (R.setVal a) ⟨by simp, fun j h => List.getElem?_set_ne fun e => h (by rw [slotsT, e]; exact List.mem_singleton.mpr rfl)⟩⟩
theorem gsj_nil : GsJ X [] [] :=
  ⟨_, pgs_nil, fun C Γ ρ S σ H G N fr vs ds ρ' Q R a b k => by
    cases a with
    | nil =>
      simp only [bindTs, Option.some.injEq] at b
      subst b
      exact ⟨rfl, k σ R ⟨rfl, fun _ _ => rfl⟩⟩
    | cons _ _ => simp [bindTs] at b⟩
theorem gsj_cons {e : Expr} {es : List Expr} {T : Tgt} {Ts : List Tgt} (h1 : GJ X e T) (h2 : GsJ X es Ts) (hs : (assignEach (e :: es) X.env).map (·.2) = assign e X.env :: (assignEach es X.env).map (·.2) := by rfl) : GsJ X (e :: es) (T :: Ts) := by
  obtain ⟨g, pg, r⟩ := h1
  obtain ⟨gs, pgs, rs⟩ := h2
  refine ⟨_, pgs_cons pg pgs hs, fun C Γ ρ S σ H G N fr vs ds ρ' Q R a b k => ?_⟩
  cases a with
  | nil => simp [bindTs] at b
  | @cons v vs d ds a1 a2 =>
    simp only [bindTs] at b
    cases e1 : bindT T d ρ with
    | none => rw [e1] at b; cases b
    | some ρ1 =>
      rw [e1] at b
      refine ⟨v, vs, rfl, r C Γ ρ S σ H G N fr v d ρ1 _ R a1 e1 fun σ1 R1 q1 => ?_⟩
      refine rs C _ ρ1 S σ1 H G N fr vs ds ρ' Q R1 a2 b fun σ2 R2 q2 => ?_
      refine k σ2 R2 ⟨q2.1.trans q1.1, fun i h => ?_⟩
      rw [slotsTs, List.mem_append] at h
      rw [q2.2 i fun z => h (.inr z), q1.2 i fun z => h (.inl z)]
theorem gj_tup {es : List Expr} {k : Nat} {pos : Pos} {Ts : List Tgt} (hc : X.calm = true) (h : GsJ X es Ts) (hn : (assignEach es X.env).length = Ts.length := by rfl) (hst : (assignEach es X.env).findIdx? (·.1) = none := by rfl) :
    GJ X (.Tuple es k pos) (.tup Ts) := by
  obtain ⟨gs, pgs, rs⟩ := h
  refine ⟨_, PG.or (pg_tup hc pgs hn hst) (pg_unl hc pgs hn hst), fun C Γ ρ S σ H G N fr v d ρ' Q R a b k => ?_⟩
  have len : ∀ {ds : List D} {Ts : List Tgt} {ρ ρ' : Rho}, bindTs Ts ds ρ = some ρ' → ds.length = Ts.length := by
    intro ds
    induction ds with
    | nil => intro Ts ρ ρ' h; cases Ts with
      | nil => rfl
      | cons _ _ => simp [bindTs] at h
    | cons d ds ih => intro Ts ρ ρ' h; cases Ts with
      | nil => simp [bindTs] at h
      | cons T Ts =>
        simp only [bindTs] at h
        cases e1 : bindT T d ρ with
        | none => rw [e1] at h; cases h
        | some ρ1 => rw [e1] at h; simp [ih h]
  cases a with
  | tup r l =>
    simp only [bindT] at b
    refine .inl ⟨_, _, rfl, r.imp (rd_of R.gh) id, by rw [l.length, len b], rs C Γ ρ S σ H G N fr _ _ ρ' Q R l b k⟩
  | lst r p l =>
    simp only [bindT] at b
    refine .inr ⟨_, _, rfl, .inl (.inl (R.gh _ _ r)), by rw [l.length, len b], rs C Γ ρ S σ H G N fr _ _ ρ' Q R l b k⟩
  | _ => simp [bindT] at b
end
end PD

namespace PD
open PySem L2
variable {X : Cx} {ec : EC} {E : XK} {Γ : List Tag} {e a b : Expr} {pos : Pos} {fr : Bool}

section
variable {K : PySem.W.Frag} {C : Ct} {Γ : List Tag} {ρ : Rho} {S S' : SS} {σ : L2.St} {H H' H1 H2 G G' G1 G2 : Hp} {N N1 N2 : Nat → Addr → Prop}
theorem Rel.grow (R : Rel K C Γ ρ S σ H G N) (hx : ∀ a o, H a = some o → H' a = some o) (gg : ∀ a o, G a = some o → G' a = some o) (gh : ∀ a o, G' a = some o → H' a = some o) (gx : ∀ a, G' a ≠ none → G a ≠ none ∨ H a = none)
    (gt : ∀ a o, H' a = some o → isTupO o = true → H a = none → G' a = some o) : Rel K C Γ ρ S σ H' G' N ∧ Ext C H G N H' G' N true := by
  have qn : ∀ a, H a ≠ none → G a = none → G' a = none := fun a h1 h2 => by
    cases q : G' a with
    | none => rfl
    | some o => exact ((gx a (by rw [q]; simp)).elim (fun z => absurd h2 z) fun z => absurd z h1)
  refine ⟨⟨⟨R.st.1, hx _ _ R.st.2.1, hx _ _ R.st.2.2⟩, R.st0, fun a o e h1 h2 => hx a o (R.keep a o e h1 h2), gh, ⟨qn _ (by rw [R.st.2.1]; simp) R.gs.1, qn _ (by rw [R.st.2.2]; simp) R.gs.2⟩, fun a o e t => ?_, fun a o e => gg a o (R.g0 a o e), fun a h1 h2 => ?_, fun i a h => ?_, R.dj, R.one, R.lr, R.ls, fun i t d h1 h2 h3 => ?_⟩,
    ⟨ExR.of gg, gx, fun _ _ h => .inl h, fun a h => ?_, fun a o e _ _ _ => hx a o e⟩⟩
  · cases q : H a with
    | none => exact gt a o e t q
    | some o' =>
      have z := hx a o' q
      rw [e] at z; cases z
      exact gg a o (R.gt a o q t)
  · rcases gx a h1 with z | z
    · exact R.gn a z h2
    · exact absurd (R.h0 z) h2
  · obtain ⟨z1, z2, o, z3, z4⟩ := R.nn i a h
    exact ⟨qn a (by rw [z3]; simp) z1, z2, o, hx a o z3, z4⟩
  · obtain ⟨v, e, s⟩ := R.sl i t d h1 h2 h3
    exact ⟨v, e, (s.heap (fun a z => R.nq z) R.st fun a o e _ _ => hx a o e).frz (ExR.of gg)⟩
  · cases q : H a with
    | none => exact absurd q h
    | some o => rw [hx a o q]; simp
theorem Rel.pf {fr : Bool} (R : Rel K C Γ ρ S σ H G N) {a : Addr} (h : H a = none) : Pf C fr a := by
  cases fr
  · exact trivial
  · exact R.h0 h
/-- whatever value of d: at rest, the heap grown -/
def Any (K : PySem.W.Frag) (H G : Hp) (P : Addr → Prop) (d : D) (Q : VK) : Prop := ∀ v H' G', (∀ a o, H a = some o → H' a = some o) → (∀ a o, G a = some o → G' a = some o) → (∀ a o, G' a = some o → H' a = some o) →
  (∀ a, G' a ≠ none → G a ≠ none ∨ H a = none) → (∀ a o, H' a = some o → isTupO o = true → H a = none → G' a = some o) → At K G' P v d → Q v H'
variable {P : Addr → Prop} {d : D} {Q : VK}
theorem Any.val (q : Any K H G P d Q) (gh : ∀ a o, G a = some o → H a = some o) {v : V} (h : At K G P v d) : Q v H := q v H G (fun _ _ z => z) (fun _ _ z => z) gh (fun _ z => .inl z) (fun a o e _ z => by rw [e] at z; cases z) h
theorem gupd (gh : ∀ a o, G a = some o → H a = some o) {p : Addr} {o : HO} (hp : H p = none) : (∀ a u, H a = some u → (upd H p o) a = some u) ∧ (∀ a u, G a = some u → (upd G p o) a = some u) ∧ (∀ a u, (upd G p o) a = some u → (upd H p o) a = some u) ∧ (∀ a, (upd G p o) a ≠ none → G a ≠ none ∨ H a = none) ∧ ∀ a u, (upd H p o) a = some u → isTupO u = true → H a = none → (upd G p o) a = some u := by
  have gp : G p = none := by
    cases q : G p with
    | none => rfl
    | some z => rw [gh p z q] at hp; cases hp
  refine ⟨fun a u e => by rw [upd_ne (ne_of_none e hp)]; exact e, fun a u e => by rw [upd_ne (ne_of_none e gp)]; exact e, fun a u e => ?_, fun a e => ?_, fun a u e _ z => ?_⟩
  · by_cases h : a = p
    · subst h; rw [upd_same] at e ⊢; exact e
    · rw [upd_ne h] at e ⊢; exact gh a u e
  · by_cases h : a = p
    · subst h; exact .inr hp
    · rw [upd_ne h] at e; exact .inl e
  · by_cases h : a = p
    · subst h; rw [upd_same] at e ⊢; exact e
    · rw [upd_ne h, z] at e; cases e
theorem Any.newL {ds : List D} (q : Any K H G P (.list ds) Q) (gh : ∀ a o, G a = some o → H a = some o) (hP : ∀ a, H a = none → P a) {vs : List V} (h : AtL K G P vs ds) {p : Addr} (hp : H p = none) : Q (.ref p) (upd H p (.lst vs)) :=
  let ⟨h1, h2, h3, h4, h5⟩ := gupd gh (o := .lst vs) hp
  q (.ref p) _ (upd G p (.lst vs)) h1 h2 h3 h4 h5 (.lst upd_same (hP p hp) (h.ext (ExR.of h2)))
theorem Any.newT {ds : List D} (q : Any K H G P (.tuple ds) Q) (gh : ∀ a o, G a = some o → H a = some o) {vs : List V} (h : AtL K G P vs ds) {p : Addr} (hp : H p = none) : Q (.ref p) (upd H p (.tup vs)) :=
  let ⟨h1, h2, h3, h4, h5⟩ := gupd gh (o := .tup vs) hp
  q (.ref p) _ (upd G p (.tup vs)) h1 h2 h3 h4 h5 (.tup (.inl (.inl upd_same)) (h.ext (ExR.of h2)))
theorem Any.newD {ds : List (D × D)} (q : Any K H G P (.dict ds) Q) (gh : ∀ a o, G a = some o → H a = some o) (hP : ∀ a, H a = none → P a) {vs : List (Key × V)} (h : AtK K G P vs ds) {p : Addr} (hp : H p = none) : Q (.ref p) (upd H p (.dK vs)) :=
  let ⟨h1, h2, h3, h4, h5⟩ := gupd gh (o := .dK vs) hp
  q (.ref p) _ (upd G p (.dK vs)) h1 h2 h3 h4 h5 (.dic (.inl upd_same) (hP p hp) (h.ext (ExR.of h2)))
theorem AtTop.list {ds : List D} (gh : ∀ a o, G a = some o → H a = some o) {v : V} (h : AtTop K C H G P v (.list ds)) : ∃ p vs, v = .ref p ∧ H p = some (.lst vs) ∧ AtL K G P vs ds := by
  rcases h with h | ⟨p, e, _, _, vs, h, l⟩
  · cases h with
    | lst r _ l => exact ⟨_, _, rfl, gh _ _ r, l⟩
  · exact ⟨p, vs, e, h, l⟩
theorem AtTop.tuple {ds : List D} (gh : ∀ a o, G a = some o → H a = some o) {v : V} (h : AtTop K C H G P v (.tuple ds)) : ∃ p vs, v = .ref p ∧ SqT K H p vs ∧ AtL K G P vs ds ∧ At K G P v (.tuple ds) := by
  rcases h with h | ⟨p, e, _, _, h⟩
  · have h' := h
    cases h with
    | tup r l => exact ⟨_, _, rfl, r.imp (rd_of gh) id, l, h'⟩
  · exact h.elim
theorem AtTop.dict {ds : List (D × D)} (gh : ∀ a o, G a = some o → H a = some o) {v : V} (h : AtTop K C H G P v (.dict ds)) : ∃ p vs, v = .ref p ∧ Rd H p (.dK vs) ∧ AtK K G P vs ds := by
  rcases h with h | ⟨p, e, _, _, vs, h, l⟩
  · cases h with
    | dic r _ l => exact ⟨_, _, rfl, rd_of gh r, l⟩
  · exact ⟨p, vs, e, .inl h, l⟩
theorem AtTop.int {i : Int} {v : V} (h : AtTop K C H G P v (.int i)) : v = .int i := by
  rcases h with h | ⟨p, e, _, _, h⟩
  · cases h; rfl
  · exact h.elim
theorem AtTop.bool {i : Bool} {v : V} (h : AtTop K C H G P v (.bool i)) : v = .bl i := by
  rcases h with h | ⟨p, e, _, _, h⟩
  · cases h; rfl
  · exact h.elim
theorem AtTop.str {i : Str} {v : V} (h : AtTop K C H G P v (.str i)) : v = .str i := by
  rcases h with h | ⟨p, e, _, _, h⟩
  · cases h; rfl
  · exact h.elim
theorem AtTop.none {v : V} (h : AtTop K C H G P v .none) : v = .non := by
  rcases h with h | ⟨p, e, _, _, h⟩
  · cases h; rfl
  · exact h.elim
theorem AtTop.step {v : V} (h : AtTop K C H1 G1 P v d) {pu : Bool} (x : Ext C H1 G1 N1 H2 G2 N2 pu) (hp : pu = true) : AtTop K C H2 G2 P v d := by
  rcases h with h | ⟨p, e, h1, h2, ow⟩
  · exact .inl (h.ext x.ge)
  · refine .inr ⟨p, e, h1, h2, ?_⟩
    cases d with
    | list ds => obtain ⟨vs, z, l⟩ := ow; exact ⟨vs, x.same _ _ z h1 h2 (.inl hp), l.ext x.ge⟩
    | dict ds => obtain ⟨vs, z, l⟩ := ow; exact ⟨vs, x.same _ _ z h1 h2 (.inl hp), l.ext x.ge⟩
    | _ => exact ow.elim
end

/-! ### how a value may be taken -/
theorem ej_pu {f : Den D} {m : Mode} {pu : Bool} (h : EJ X ec E Γ e f m true) : EJ X ec E Γ e f m pu := by
  obtain ⟨te, pe, r⟩ := h
  exact ⟨te, pe, fun C ρ S σ H G N Q R p => r C ρ S σ H G N Q R (p.mono fun d ρ' S' k v H' G' N' R' x o => k v H' G' N' R' (x.weak fun _ => rfl) o)⟩
theorem ej_fr {f : Den D} {pu : Bool} (h : EJ X ec E Γ e f (.val true) pu) : EJ X ec E Γ e f (.val fr) pu := by
  obtain ⟨te, pe, r⟩ := h
  exact ⟨te, pe, fun C ρ S σ H G N Q R p => r C ρ S σ H G N Q R (p.mono fun d ρ' S' k v H' G' N' R' x o => k v H' G' N' R' x (At.weak (fun a z => by cases fr; exact trivial; exact z) o))⟩
theorem ej_top {f : Den D} {pu : Bool} (h : EJ X ec E Γ e f (.val fr) pu) : EJ X ec E Γ e f (.top fr) pu := by
  obtain ⟨te, pe, r⟩ := h
  exact ⟨te, pe, fun C ρ S σ H G N Q R p => r C ρ S σ H G N Q R (p.mono fun d ρ' S' k v H' G' N' R' x o => k v H' G' N' R' x (.inl o))⟩
theorem ej_deep {f : Den D} {pu : Bool} (h : EJ X ec E Γ e f (.val fr) pu) : EJ X ec E Γ e f .deep pu := by
  obtain ⟨te, pe, r⟩ := h
  refine ⟨te, pe, fun C ρ S σ H G N Q R p => r C ρ S σ H G N Q R (p.mono fun d ρ' S' k v H' G' N' R' x o => k v H' G' N' R' x ?_)⟩
  exact (At.weak (fun _ _ => trivial) o).ext (ExR.of fun a o e => noQ_some (R'.gh a o e) (R'.gq (by rw [e]; simp)).1 (R'.gq (by rw [e]; simp)).2)
/-- a new list or dict comes to rest -/
theorem ej_new {f : Den D} {pu : Bool} (h : EJ X ec E Γ e f (.new fr) pu) : EJ X ec E Γ e f (.val fr) pu := by
  obtain ⟨te, pe, r⟩ := h
  refine ⟨te, pe, fun C ρ S σ H G N Q R p => r C ρ S σ H G N Q R (p.mono fun d ρ' S' k v H' G' N' R' x o => ?_)⟩
  obtain ⟨p, rfl, h1, h2, h3, ow⟩ := o
  have h0 := R.h0 h1
  have px : Pf C fr p := by cases fr; exact trivial; exact h0
  cases d with
  | list ds =>
    obtain ⟨vs, z, l⟩ := ow
    exact k _ _ _ _ (R'.rest z h0 h3) (ext_rest R' x z h1) (.lst upd_same px (l.ext (exr_rest R' z)))
  | dict ds =>
    obtain ⟨vs, z, l⟩ := ow
    exact k _ _ _ _ (R'.rest z h0 h3) (ext_rest R' x z h1) (.dic (.inl upd_same) px (l.ext (exr_rest R' z)))
  | _ => exact ow.elim

/-! ### constants, names -/
def dC (d : D) : Den D := fun ρ S => .ok d ρ S
theorem ej_int {i : Int} {j : Nat} : EJ X ec E Γ (.Constant (.int i) j pos) (dC (.int i)) (.val fr) true :=
  ⟨_, pe_int, fun C ρ S σ H G N Q R p => p _ H G N R Ext.refl (.int i)⟩
theorem ej_bl {i : Bool} {j : Nat} : EJ X ec E Γ (.Constant (.bool i) j pos) (dC (.bool i)) (.val fr) true :=
  ⟨_, pe_bl, fun C ρ S σ H G N Q R p => p _ H G N R Ext.refl (.bl i)⟩
theorem ej_non {j : Nat} : EJ X ec E Γ (.Constant .none j pos) (dC .none) (.val fr) true :=
  ⟨_, pe_non, fun C ρ S σ H G N Q R p => p _ H G N R Ext.refl .non⟩
theorem ej_str {i : Str} {j : Nat} : EJ X ec E Γ (.Constant (.str i) j pos) (dC (.str i)) (.val fr) true :=
  ⟨_, pe_str, fun C ρ S σ H G N Q R p => p _ H G N R Ext.refl (.str i)⟩
def dVar (i : Nat) : Den D := fun ρ S => match ρ[i]? with
  | some (some d) => .ok d ρ S
  | _ => .stk
theorem ej_var_core {x : Str} {i : Nat} {t : Tag} {m : Mode} (hN : X.N[i]? = some x) (hv : Vis X.env.scope x) (hd : (x == ("__debug__" : Str)) = false) (hcd : (x == ("__classdict__" : Str)) = false) (ht : Γ[i]? = some t) (hnd : t ≠ .dead)
    (hm : ∀ C ρ S σ H G N v d, Rel X.K C Γ ρ S σ H G N → SlotOk X.K C H G (N i) t d v → ValOk X.K C H H G N m v d) : EJ X ec E Γ (.Name x pos) (dVar i) m true := by
  refine ⟨_, pe_var hN hv hd hcd, fun C ρ S σ H G N Q R p => ?_⟩
  unfold dVar at p
  cases e : ρ[i]? with
  | none => rw [e] at p; exact p.elim
  | some o =>
    cases o with
    | none => rw [e] at p; exact p.elim
    | some d =>
      rw [e] at p
      obtain ⟨v, ev, s⟩ := R.sl i t d ht hnd e
      exact ⟨v, ev, p v H G N R Ext.refl (hm C ρ S σ H G N v d R s)⟩
theorem ej_var {x : Str} {i : Nat} (hN : X.N[i]? = some x) (hv : Vis X.env.scope x) (hd : (x == ("__debug__" : Str)) = false) (hcd : (x == ("__classdict__" : Str)) = false) (ht : Γ[i]? = some (.val fr)) : EJ X ec E Γ (.Name x pos) (dVar i) (.val fr) true :=
  ej_var_core hN hv hd hcd ht (by simp) fun _ _ _ _ _ _ _ _ _ _ s => s
theorem ej_own {x : Str} {i : Nat} (hN : X.N[i]? = some x) (hv : Vis X.env.scope x) (hd : (x == ("__debug__" : Str)) = false) (hcd : (x == ("__classdict__" : Str)) = false) (ht : Γ[i]? = some (.own fr)) : EJ X ec E Γ (.Name x pos) (dVar i) (.top fr) true :=
  ej_var_core hN hv hd hcd ht (by simp) fun _ _ _ _ _ _ _ _ _ R s => by
    obtain ⟨p, e, np, ow⟩ := s
    exact .inr ⟨p, e, (R.nq np).1, (R.nq np).2, ow⟩
theorem ej_stm {x : Str} {i : Nat} (hN : X.N[i]? = some x) (hv : Vis X.env.scope x) (hd : (x == ("__debug__" : Str)) = false) (hcd : (x == ("__classdict__" : Str)) = false) (ht : Γ[i]? = some .stm) : EJ X ec E Γ (.Name x pos) (dVar i) .stm true :=
  ej_var_core hN hv hd hcd ht (by simp) fun _ _ _ _ _ _ _ _ _ _ s => s

theorem ej_vol {x : Str} {i : Nat} (hN : X.N[i]? = some x) (hv : Vis X.env.scope x) (hd : (x == ("__debug__" : Str)) = false) (hcd : (x == ("__classdict__" : Str)) = false) (ht : Γ[i]? = some .vol) : EJ X ec E Γ (.Name x pos) (dVar i) .deep true :=
  ej_var_core hN hv hd hcd ht (by simp) fun C _ _ _ H _ N v d R s => by
    refine At.mono' (G := H) (G' := noQ C H) (fun a u z r => ?_) (fun a vs z r => noQ_some r (R.nq z).1 (R.nq z).2) (fun _ _ => trivial) d v s
    have nq : a ≠ C.q ∧ a ≠ C.c := by
      rcases z with z | z
      · exact R.nq z
      · refine ⟨fun e => ?_, fun e => ?_⟩
        · subst e
          rcases r with r | ⟨o, r⟩
          · rw [R.st.2.1] at r; cases r; cases z
          · rw [R.st.2.1] at r; cases r
        · subst e
          rcases r with r | ⟨o, r⟩
          · rw [R.st.2.2] at r; cases r; cases z
          · rw [R.st.2.2] at r; cases r
    exact r.imp (fun r => noQ_some r nq.1 nq.2) fun ⟨o, r⟩ => ⟨o, noQ_some r nq.1 nq.2⟩

/-! ### operators -/
def optR {α : Type} (o : Option α) : Den α := fun ρ S => match o with
  | some d => .ok d ρ S
  | none => .stk
def PrimA2 (K : PySem.W.Frag) (r : R2) (g : D → D → Option D) : Prop := ∀ C H G P x y d1 d2 e Q, (∀ a o, G a = some o → H a = some o) → (∀ a, H a = none → P a) → AtTop K C H G P x d1 → AtTop K C H G P y d2 → g d1 d2 = some e → Any K H G P e Q → r x y H Q
def PrimB2 (K : PySem.W.Frag) (r : R2) (g : D → D → Option Bool) : Prop := ∀ C H G P x y d1 d2 e Q, (∀ a o, G a = some o → H a = some o) → AtTop K C H G P x d1 → AtTop K C H G P y d2 → g d1 d2 = some e → Q (.bl e) H → r x y H Q
theorem PrimB2.toA {K : PySem.W.Frag} {r : R2} {g : D → D → Option Bool} (h : PrimB2 K r g) : PrimA2 K r (fun a b => (g a b).map PyData.bool) := fun C H G P x y d1 d2 e Q gh hP h1 h2 he q => by
  have he : (g d1 d2).map PyData.bool = some e := he
  cases z : g d1 d2 with
  | none => rw [z] at he; cases he
  | some k =>
    rw [z] at he; cases he
    exact h C H G P x y d1 d2 k Q gh h1 h2 z (q.val gh (.bl k))
def dBin (g : D → D → Option D) (fa fb : Den D) : Den D := fun ρ S => (fa ρ S).bind fun x ρ1 S1 => (fb ρ1 S1).bind fun y ρ2 S2 => optR (g x y) ρ2 S2
def dCmp (g : D → D → Option Bool) (fa fb : Den D) : Den Bool := fun ρ S => (fa ρ S).bind fun x ρ1 S1 => (fb ρ1 S1).bind fun y ρ2 S2 => optR (g x y) ρ2 S2
def dB (f : Den Bool) : Den D := fun ρ S => (f ρ S).bind fun b ρ1 S1 => .ok (.bool b) ρ1 S1
/-- two operands in a row -/
theorem ej_two {fa fb : Den D} {p1 : Bool} (ha : EJ X ec E Γ a fa (.top fr) p1) (hb : EJ X ec E Γ b fb (.top fr) true) :
    ∃ ta tb, PE X a ta ∧ PE X b tb ∧ ∀ C ρ S σ H G N (r : V → V → Hp → Prop) (α : Type) (k : D → D → Den α) (kk : α → Rho → SS → Prop), Rel X.K C Γ ρ S σ H G N →
      Post X.K ec E C ((fa ρ S).bind fun x ρ1 S1 => (fb ρ1 S1).bind fun y ρ2 S2 => k x y ρ2 S2) kk →
      (∀ x y d1 d2 ρ2 S2 H2 G2 N2, Rel X.K C Γ ρ2 S2 σ H2 G2 N2 → Ext C H G N H2 G2 N2 p1 → AtTop X.K C H2 G2 (Pf C fr) x d1 → AtTop X.K C H2 G2 (Pf C fr) y d2 → Post X.K ec E C (k d1 d2 ρ2 S2) kk → r x y H2) →
      ta σ H fun x H1 => tb σ H1 fun y H2 => r x y H2 := by
  obtain ⟨ta, pa, ra⟩ := ha
  obtain ⟨tb, pb, rb⟩ := hb
  refine ⟨ta, tb, pa, pb, fun C ρ S σ H G N r α k kk R p fin => ?_⟩
  refine ra C ρ S σ H G N _ R (p.bind.mono fun d1 ρ1 S1 p1 x H1 G1 N1 R1 x1 o1 => ?_)
  refine rb C ρ1 S1 σ H1 G1 N1 _ R1 (p1.bind.mono fun d2 ρ2 S2 p2 y H2 G2 N2 R2 x2 o2 => ?_)
  exact fin x y d1 d2 ρ2 S2 H2 G2 N2 R2 ((x1.trans x2).weak fun z => by simp [z]) (o1.step x2 rfl) o2 p2
theorem optR_post {α : Type} {K : PySem.W.Frag} {C : Ct} {o : Option α} {ρ : Rho} {S : SS} {kk : α → Rho → SS → Prop} (h : Post K ec E C (optR o ρ S) kk) : ∃ d, o = some d ∧ kk d ρ S := by
  cases o with
  | none => exact h.elim
  | some d => exact ⟨d, rfl, h⟩
theorem ej_bin {op : Operator} {r : R2} {g : D → D → Option D} {fa fb : Den D} {p1 : Bool} (ho : OpR X (binaryOp op) r) (pr : PrimA2 X.K r g) (ha : EJ X ec E Γ a fa (.top fr) p1) (hb : EJ X ec E Γ b fb (.top fr) true) :
    EJ X ec E Γ (.BinOp a op b pos) (dBin g fa fb) (.val fr) p1 := by
  obtain ⟨ta, tb, pa, pb, rr⟩ := ej_two ha hb
  refine ⟨_, pe_op ho pa pb, fun C ρ S σ H G N Q R p => ?_⟩
  refine rr C ρ S σ H G N _ D (fun x y => optR (g x y)) _ R p fun x y d1 d2 ρ2 S2 H2 G2 N2 R2 x2 o1 o2 p2 => ?_
  obtain ⟨d, hd, k⟩ := optR_post p2
  refine pr C H2 G2 (Pf C fr) x y d1 d2 d Q R2.gh (fun a z => by cases fr; exact trivial; exact R2.h0 z) o1 o2 hd fun v H' G' h1 h2 h3 h4 h5 at' => ?_
  obtain ⟨R3, x3⟩ := R2.grow h1 h2 h3 h4 h5
  exact k v H' G' N2 R3 ((x2.trans x3).weak fun z => by simp [z]) at'
theorem ej_cmp {op : CmpOp} {r : R2} {g : D → D → Option Bool} {fa fb : Den D} {p1 : Bool} (ho : OpR X (compareOp op) r) (hm : behindInMarks op b = false) (pr : PrimB2 X.K r g) (ha : EJ X ec E Γ a fa (.top fr) p1) (hb : EJ X ec E Γ b fb (.top fr) true) :
    EJ X ec E Γ (.Compare a [op] [b] pos) (dB (dCmp g fa fb)) (.val fr) p1 := by
  obtain ⟨ta, tb, pa, pb, rr⟩ := ej_two ha hb
  refine ⟨_, pe_cmpR ho pa pb hm, fun C ρ S σ H G N Q R p => ?_⟩
  refine rr C ρ S σ H G N _ Bool (fun x y => optR (g x y)) _ R p.bind fun x y d1 d2 ρ2 S2 H2 G2 N2 R2 x2 o1 o2 p2 => ?_
  obtain ⟨d, hd, k⟩ := optR_post p2
  exact pr C H2 G2 (Pf C fr) x y d1 d2 d Q R2.gh o1 o2 hd (k _ H2 G2 N2 R2 x2 (.bl d))
theorem tj_cmp {op : CmpOp} {r : R2} {g : D → D → Option Bool} {fa fb : Den D} {p1 : Bool} (ho : OpR X (compareOp op) r) (hm : behindInMarks op b = false) (pr : PrimB2 X.K r g) (ha : EJ X ec E Γ a fa (.top fr) p1) (hb : EJ X ec E Γ b fb (.top fr) true) :
    TJ X ec E Γ (.Compare a [op] [b] pos) (dCmp g fa fb) p1 := by
  obtain ⟨ta, tb, pa, pb, rr⟩ := ej_two ha hb
  refine ⟨_, pt_cmpR ho pa pb hm, fun C ρ S σ H G N Q R p => ?_⟩
  refine rr C ρ S σ H G N _ Bool (fun x y => optR (g x y)) _ R p fun x y d1 d2 ρ2 S2 H2 G2 N2 R2 x2 o1 o2 p2 => ?_
  obtain ⟨d, hd, k⟩ := optR_post p2
  exact pr C H2 G2 (Pf C fr) x y d1 d2 d _ R2.gh o1 o2 hd ⟨d, rfl, k H2 G2 N2 R2 x2⟩

/-! ### tests -/
def boolD : D → Option Bool
  | .bool b => some b
  | _ => none
def dT (f : Den D) : Den Bool := fun ρ S => (f ρ S).bind fun d ρ1 S1 => optR (boolD d) ρ1 S1
theorem tj_val {f : Den D} {pu : Bool} (h : EJ X ec E Γ e f (.val fr) pu) (he : ∀ whole, isTrue e X.env whole = (do let v ← whole; standAt e.pos; holding [v] (truthy v))) : TJ X ec E Γ e (dT f) pu := by
  obtain ⟨te, pe, r⟩ := h
  refine ⟨_, pt_val pe he, fun C ρ S σ H G N Q R p => ?_⟩
  refine r C ρ S σ H G N _ R (p.bind.mono fun d ρ1 S1 p1 v H1 G1 N1 R1 x1 o1 => ?_)
  obtain ⟨k, hk, q⟩ := optR_post p1
  cases d <;> simp [boolD] at hk
  subst hk
  cases o1
  exact ⟨_, rfl, q H1 G1 N1 R1 x1⟩
def dAnd (f g : Den Bool) : Den Bool := fun ρ S => (f ρ S).bind fun b ρ1 S1 => if b then g ρ1 S1 else .ok false ρ1 S1
def dOr (f g : Den Bool) : Den Bool := fun ρ S => (f ρ S).bind fun b ρ1 S1 => if b then .ok true ρ1 S1 else g ρ1 S1
def dNot (f : Den Bool) : Den Bool := fun ρ S => (f ρ S).bind fun b ρ1 S1 => .ok (!b) ρ1 S1
/-- a test whatever its whole -/
def WJ (X : Cx) (ec : EC) (E : XK) (Γ : List Tag) (e : Expr) (f : Den Bool) (pu : Bool) : Prop :=
  ∃ tt, PW X e tt ∧ ∀ C ρ S σ H G N Q, Rel X.K C Γ ρ S σ H G N →
    Post X.K ec E C (f ρ S) (fun b ρ' S' => ∀ H' G' N', Rel X.K C Γ ρ' S' σ H' G' N' → Ext C H G N H' G' N' pu → Q b H') → tt σ H Q
theorem tj_w {f : Den Bool} {pu : Bool} (h : WJ X ec E Γ e f pu) : TJ X ec E Γ e f pu := by
  obtain ⟨tt, pw, r⟩ := h
  exact ⟨tt, pw.pt, r⟩
theorem wj_and1 {f : Den Bool} {pu : Bool} (h : TJ X ec E Γ a f pu) : WJ X ec E Γ (.BoolOp .And [a] pos) f pu := by
  obtain ⟨tt, pt, r⟩ := h
  exact ⟨tt, pw_and1 pt, r⟩
theorem wj_or1 {f : Den Bool} {pu : Bool} (h : TJ X ec E Γ a f pu) : WJ X ec E Γ (.BoolOp .Or [a] pos) f pu := by
  obtain ⟨tt, pt, r⟩ := h
  exact ⟨tt, pw_or1 pt, r⟩
theorem wj_and {rest : List Expr} {f g : Den Bool} {p1 p2 : Bool} (h : TJ X ec E Γ a f p1) (h' : WJ X ec E Γ (.BoolOp .And (b :: rest) pos) g p2) : WJ X ec E Γ (.BoolOp .And (a :: b :: rest) pos) (dAnd f g) (p1 && p2) := by
  obtain ⟨tt, pt, r⟩ := h
  obtain ⟨tu, pw, r'⟩ := h'
  refine ⟨_, pw_and pt pw, fun C ρ S σ H G N Q R p => ?_⟩
  refine r C ρ S σ H G N _ R (p.bind.mono fun c ρ1 S1 p1 H1 G1 N1 R1 x1 => ?_)
  cases c with
  | true =>
    show tu σ H1 Q
    exact r' C ρ1 S1 σ H1 G1 N1 Q R1 (p1.mono fun c ρ2 S2 k H2 G2 N2 R2 x2 => k H2 G2 N2 R2 (x1.trans x2))
  | false =>
    show Q false H1
    exact p1 H1 G1 N1 R1 (x1.weak fun z => by simp only [Bool.and_eq_true] at z; exact z.1)
theorem wj_or {rest : List Expr} {f g : Den Bool} {p1 p2 : Bool} (h : TJ X ec E Γ a f p1) (h' : WJ X ec E Γ (.BoolOp .Or (b :: rest) pos) g p2) : WJ X ec E Γ (.BoolOp .Or (a :: b :: rest) pos) (dOr f g) (p1 && p2) := by
  obtain ⟨tt, pt, r⟩ := h
  obtain ⟨tu, pw, r'⟩ := h'
  refine ⟨_, pw_or pt pw, fun C ρ S σ H G N Q R p => ?_⟩
  refine r C ρ S σ H G N _ R (p.bind.mono fun c ρ1 S1 p1 H1 G1 N1 R1 x1 => ?_)
  cases c with
  | false =>
    show tu σ H1 Q
    exact r' C ρ1 S1 σ H1 G1 N1 Q R1 (p1.mono fun c ρ2 S2 k H2 G2 N2 R2 x2 => k H2 G2 N2 R2 (x1.trans x2))
  | true =>
    show Q true H1
    exact p1 H1 G1 N1 R1 (x1.weak fun z => by simp only [Bool.and_eq_true] at z; exact z.1)
theorem tj_not {f : Den Bool} {pu : Bool} (h : TJ X ec E Γ a f pu) : TJ X ec E Γ (.UnaryOp .Not a pos) (dNot f) pu := by
  obtain ⟨tt, pt, r⟩ := h
  refine ⟨_, pt_not pt, fun C ρ S σ H G N Q R p => ?_⟩
  exact r C ρ S σ H G N _ R (p.bind.mono fun c ρ1 S1 p1 H1 G1 N1 R1 x1 => p1 H1 G1 N1 R1 x1)
/-! and, or, not as values -/
theorem ej_one {f : Den D} {op : BoolOp} {pu : Bool} {m : Mode} (h : EJ X ec E Γ a f m pu) : EJ X ec E Γ (.BoolOp op [a] pos) f m pu := by
  obtain ⟨te, pe, r⟩ := h
  exact ⟨te, pe_one pe, r⟩
def dAndV (f g : Den D) : Den D := fun ρ S => (f ρ S).bind fun d ρ1 S1 => match d with
  | .bool true => g ρ1 S1
  | .bool false => .ok (.bool false) ρ1 S1
  | _ => .stk
def dOrV (f g : Den D) : Den D := fun ρ S => (f ρ S).bind fun d ρ1 S1 => match d with
  | .bool true => .ok (.bool true) ρ1 S1
  | .bool false => g ρ1 S1
  | _ => .stk
def dNotV (f : Den D) : Den D := fun ρ S => (f ρ S).bind fun d ρ1 S1 => match d with
  | .bool b => .ok (.bool !b) ρ1 S1
  | _ => .stk
theorem ej_and {rest : List Expr} {f g : Den D} {p1 p2 : Bool} (h : EJ X ec E Γ a f (.val fr) p1) (h' : EJ X ec E Γ (.BoolOp .And (b :: rest) pos) g (.val fr) p2) : EJ X ec E Γ (.BoolOp .And (a :: b :: rest) pos) (dAndV f g) (.val fr) (p1 && p2) := by
  obtain ⟨ta, pa, r⟩ := h
  obtain ⟨tb, pb, r'⟩ := h'
  refine ⟨_, pe_and pa pb, fun C ρ S σ H G N Q R p => ?_⟩
  refine r C ρ S σ H G N _ R (p.bind.mono fun d ρ1 S1 p1 v H1 G1 N1 R1 x1 o1 => ?_)
  cases d with
  | bool c =>
    cases o1
    refine ⟨c, rfl, ?_⟩
    cases c with
    | true =>
      show tb σ H1 Q
      exact r' C ρ1 S1 σ H1 G1 N1 Q R1 (Post.mono p1 fun c ρ2 S2 k v H2 G2 N2 R2 x2 o2 => k v H2 G2 N2 R2 (x1.trans x2) o2)
    | false =>
      show Q (.bl false) H1
      exact p1 _ H1 G1 N1 R1 (x1.weak fun z => by simp only [Bool.and_eq_true] at z; exact z.1) (.bl false)
  | _ => exact p1.elim
theorem ej_or {rest : List Expr} {f g : Den D} {p1 p2 : Bool} (h : EJ X ec E Γ a f (.val fr) p1) (h' : EJ X ec E Γ (.BoolOp .Or (b :: rest) pos) g (.val fr) p2) : EJ X ec E Γ (.BoolOp .Or (a :: b :: rest) pos) (dOrV f g) (.val fr) (p1 && p2) := by
  obtain ⟨ta, pa, r⟩ := h
  obtain ⟨tb, pb, r'⟩ := h'
  refine ⟨_, pe_or pa pb, fun C ρ S σ H G N Q R p => ?_⟩
  refine r C ρ S σ H G N _ R (p.bind.mono fun d ρ1 S1 p1 v H1 G1 N1 R1 x1 o1 => ?_)
  cases d with
  | bool c =>
    cases o1
    refine ⟨c, rfl, ?_⟩
    cases c with
    | false =>
      show tb σ H1 Q
      exact r' C ρ1 S1 σ H1 G1 N1 Q R1 (Post.mono p1 fun c ρ2 S2 k v H2 G2 N2 R2 x2 o2 => k v H2 G2 N2 R2 (x1.trans x2) o2)
    | true =>
      show Q (.bl true) H1
      exact p1 _ H1 G1 N1 R1 (x1.weak fun z => by simp only [Bool.and_eq_true] at z; exact z.1) (.bl true)
  | _ => exact p1.elim
theorem ej_not {f : Den D} {pu : Bool} (h : EJ X ec E Γ a f (.val fr) pu) : EJ X ec E Γ (.UnaryOp .Not a pos) (dNotV f) (.val fr) pu := by
  obtain ⟨ta, pa, r⟩ := h
  refine ⟨_, pe_not pa, fun C ρ S σ H G N Q R p => ?_⟩
  refine r C ρ S σ H G N _ R (p.bind.mono fun d ρ1 S1 p1 v H1 G1 N1 R1 x1 o1 => ?_)
  cases d with
  | bool c =>
    cases o1
    exact ⟨c, rfl, p1 _ H1 G1 N1 R1 x1 (.bl _)⟩
  | _ => exact p1.elim
def dIf (t : Den Bool) (f g : Den D) : Den D := fun ρ S => (t ρ S).bind fun b ρ1 S1 => if b then f ρ1 S1 else g ρ1 S1
theorem ej_if {c : Expr} {t : Den Bool} {f g : Den D} {p1 p2 p3 : Bool} {m : Mode} (hm : ∃ fr, m = .val fr ∨ m = .top fr) (h : TJ X ec E Γ c t p1) (h1 : EJ X ec E Γ a f m p2) (h2 : EJ X ec E Γ b g m p3) : EJ X ec E Γ (.IfExp c a b pos) (dIf t f g) m (p1 && (p2 && p3)) := by
  obtain ⟨tt, pt, r⟩ := h
  obtain ⟨ta, pa, ra⟩ := h1
  obtain ⟨tb, pb, rb⟩ := h2
  obtain ⟨fr, hm⟩ := hm
  have up : ∀ {C H1 H2 H' G' N' v d}, ValOk X.K C H1 H' G' N' m v d → ValOk X.K C H2 H' G' N' m v d := by
    intro C H1 H2 H' G' N' v d h
    rcases hm with rfl | rfl <;> exact h
  refine ⟨_, pe_ifExp pt pa pb, fun C ρ S σ H G N Q R p => ?_⟩
  refine r C ρ S σ H G N _ R (p.bind.mono fun c ρ1 S1 p1 H1 G1 N1 R1 x1 => ?_)
  cases c with
  | true =>
    show ta σ H1 Q
    exact ra C ρ1 S1 σ H1 G1 N1 Q R1 (Post.mono p1 fun c ρ2 S2 k v H2 G2 N2 R2 x2 o2 => k v H2 G2 N2 R2 ((x1.trans x2).weak fun z => by simp only [Bool.and_eq_true] at z ⊢; exact ⟨z.1, z.2.1⟩) (up o2))
  | false =>
    show tb σ H1 Q
    exact rb C ρ1 S1 σ H1 G1 N1 Q R1 (Post.mono p1 fun c ρ2 S2 k v H2 G2 N2 R2 x2 o2 => k v H2 G2 N2 R2 ((x1.trans x2).weak fun z => by simp only [Bool.and_eq_true] at z ⊢; exact ⟨z.1, z.2.2⟩) (up o2))
end PD

namespace PD
open PySem L2

/-! ### what the operators give -/
def addD : D → D → Option D
  | .int i, .int j => some (.int (i + j))
  | .str x, .str y => if x.length + y.length ≤ sizeLine then some (.str (x ++ y)) else none
  | .list xs, .list ys => if xs.length + ys.length ≤ sizeLine then some (.list (xs ++ ys)) else none
  | .tuple xs, .tuple ys => if xs.length + ys.length ≤ sizeLine then some (.tuple (xs ++ ys)) else none
  | _, _ => none
def subD : D → D → Option D
  | .int i, .int j => some (.int (i - j))
  | _, _ => none
def mulD : D → D → Option D
  | .int i, .int j => if (-(2 ^ 64) < i ∧ i < 2 ^ 64) ∨ (-(2 ^ 64) < j ∧ j < 2 ^ 64) then some (.int (i * j)) else none
  | .list xs, .int k => if -(2 ^ 63) ≤ k ∧ k < 2 ^ 63 ∧ xs.length * k.toNat ≤ sizeLine then some (.list (List.replicate k.toNat xs).flatten) else none
  | _, _ => none
def divD : D → D → Option D
  | .int i, .int j => if 0 < j ∧ j < 1073741824 then some (.int (i / j)) else none
  | _, _ => none
def modD : D → D → Option D
  | .int i, .int j => if 0 < j then some (.int (i % j)) else none
  | _, _ => none
def powD : D → D → Option D
  | .int i, .int j => if 0 ≤ j ∧ j ≤ 1000000 ∧ i.natAbs < 2 ^ 64 then some (.int (i ^ j.toNat)) else none
  | _, _ => none
/-- == where both are of one kind, or data without dicts -/
def eqD : D → D → Option Bool
  | .none, .none => some true
  | .bool a, .bool b => some (a == b)
  | .int i, .int j => some (i == j)
  | .str x, .str y => some (x == y)
  | d, e => if SeqAt.shaped d && SeqAt.shaped e then some (PyData.eqv d e) else none
def neD (d e : D) : Option Bool := (eqD d e).map (!·)
def ltD : D → D → Option Bool
  | .int i, .int j => some (decide (i < j))
  | .str x, .str y => some (decide (x.cps.toList < y.cps.toList))
  | _, _ => none
def leD : D → D → Option Bool
  | .int i, .int j => some (decide (i ≤ j))
  | .str x, .str y => some (!decide (y.cps.toList < x.cps.toList))
  | _, _ => none
def gtD : D → D → Option Bool
  | .int i, .int j => some (decide (j < i))
  | .str x, .str y => some (decide (y.cps.toList < x.cps.toList))
  | _, _ => none
def geD : D → D → Option Bool
  | .int i, .int j => some (decide (j ≤ i))
  | .str x, .str y => some (!decide (x.cps.toList < y.cps.toList))
  | _, _ => none
def keyOf : D → Option Key
  | .int i => some (.inl i)
  | .str s => some (.inr s)
  | _ => none
def hasK (kds : List (D × D)) (k : Key) : Bool := kds.any fun p => decide (keyOf p.1 = some k)
def getK (kds : List (D × D)) (k : Key) : Option D := (kds.find? fun p => decide (keyOf p.1 = some k)).map (·.2)
def flatD : D → Bool
  | .none => true
  | .bool _ => true
  | .int _ => true
  | .str _ => true
  | _ => false
def inItems (d : D) (ds : List D) : Option Bool :=
  if flatD d && ds.all flatD then some (ds.any fun z => PyData.eqv z d) else none
def inD : D → D → Option Bool
  | .str x, .str y => match x.cps.toList with
    | [c] => some (decide (c ∈ y.cps.toList))
    | _ => none
  | d, .tuple ds => inItems d ds
  | d, .list ds => if flatD d && ds.all flatD then some (ds.any fun z => PyData.eqv z d) else if SeqAt.shaped d && SeqAt.shaped (.list ds) then some (ds.any fun z => PyData.eqv z d) else none
  | d, .dict kds => (keyOf d).map (hasK kds)
  | _, _ => none
def notInD (d e : D) : Option Bool := (inD d e).map (!·)
def isD : D → D → Option Bool
  | .none, .none => some true
  | _, .none => some false
  | _, _ => none
def isNotD (d e : D) : Option Bool := (isD d e).map (!·)
def ixD : D → D → Option D
  | .list ds, .int i => atI ds i
  | .tuple ds, .int i => atI ds i
  | .str s, .int i => if s.length ≤ sizeLine then (atI s.cps.toList i).map fun c => .str ⟨#[c]⟩ else none
  | .dict kds, k => (keyOf k).bind (getK kds)
  | _, _ => none

section
variable {K : PySem.W.Frag}
theorem prim_add : PrimA2 K (fun x y H Q => rI0 (fun i j => .int (i + j)) x y H Q ∨ (∃ i j, x = .str i ∧ y = .str j ∧ i.length + j.length ≤ sizeLine ∧ Q (.str (i ++ j)) H) ∨ rCat x y H Q ∨ rCatA K x y H Q) addD := by
  intro C H G P x y d1 d2 e Q gh hP h1 h2 he q
  unfold addD at he
  split at he
  · cases he
    exact .inl ⟨_, _, h1.int, h2.int, q.val gh (.int _)⟩
  · split at he
    · rename_i hl
      cases he
      exact .inr (.inl ⟨_, _, h1.str, h2.str, hl, q.val gh (.str _)⟩)
    · cases he
  · split at he
    · rename_i hl
      cases he
      obtain ⟨p, vs, rfl, e1, l1⟩ := h1.list gh
      obtain ⟨p2, vs2, rfl, e2, l2⟩ := h2.list gh
      exact .inr (.inr (.inl ⟨p, p2, vs, vs2, rfl, rfl, e1, e2, by rw [l1.length, l2.length]; exact hl, fun p' hp => q.newL gh hP (l1.append l2) hp⟩))
    · cases he
  · split at he
    · rename_i hl
      cases he
      obtain ⟨p, vs, rfl, e1, l1, a1⟩ := h1.tuple gh
      obtain ⟨p2, vs2, rfl, e2, l2, a2⟩ := h2.tuple gh
      refine .inr (.inr (.inr ⟨p, p2, vs, vs2, rfl, rfl, e1, e2, by rw [l1.length, l2.length]; exact hl, fun z => ?_, fun _ z => ?_, fun _ _ p' hp => q.newT gh (l1.append l2) hp⟩))
      · subst z
        cases l1
        exact q.val gh (by simpa using a2)
      · subst z
        cases l2
        exact q.val gh (by simpa using a1)
    · cases he
  · cases he
theorem prim_sub : PrimA2 K (rI0 fun i j => .int (i - j)) subD := by
  intro C H G P x y d1 d2 e Q gh hP h1 h2 he q
  unfold subD at he
  split at he
  · cases he
    exact ⟨_, _, h1.int, h2.int, q.val gh (.int _)⟩
  · cases he
theorem prim_mul : PrimA2 K (fun x y H Q => rI CMul (fun i j => .int (i * j)) x y H Q ∨ rRep x y H Q) mulD := by
  intro C H G P x y d1 d2 e Q gh hP h1 h2 he q
  unfold mulD at he
  split at he
  · split at he
    · rename_i hl
      cases he
      exact .inl ⟨_, _, h1.int, h2.int, hl, q.val gh (.int _)⟩
    · cases he
  · split at he
    · rename_i hl
      cases he
      obtain ⟨p, vs, rfl, e1, l1⟩ := h1.list gh
      refine .inr ⟨p, _, vs, rfl, h2.int, e1, hl.1, hl.2.1, by rw [l1.length]; exact hl.2.2, fun p' hp => q.newL gh hP ?_ hp⟩
      have rep : ∀ n : Nat, AtL K G P (List.replicate n vs).flatten (List.replicate n _).flatten := fun n => by
        induction n with
        | zero => exact .nil
        | succ n ih => rw [List.replicate_succ, List.replicate_succ, List.flatten_cons, List.flatten_cons]; exact l1.append ih
      exact rep _
    · cases he
  · cases he
theorem prim_div : PrimA2 K (rI CDiv fun i j => .int (i / j)) divD := by
  intro C H G P x y d1 d2 e Q gh hP h1 h2 he q
  unfold divD at he
  split at he
  · split at he
    · rename_i hl
      cases he
      exact ⟨_, _, h1.int, h2.int, hl, q.val gh (.int _)⟩
    · cases he
  · cases he
theorem prim_mod : PrimA2 K (rI (fun _ j => 0 < j) fun i j => .int (i % j)) modD := by
  intro C H G P x y d1 d2 e Q gh hP h1 h2 he q
  unfold modD at he
  split at he
  · split at he
    · rename_i hl
      cases he
      exact ⟨_, _, h1.int, h2.int, hl, q.val gh (.int _)⟩
    · cases he
  · cases he
theorem prim_pow : PrimA2 K (rI CPow fun i j => .int (i ^ j.toNat)) powD := by
  intro C H G P x y d1 d2 e Q gh hP h1 h2 he q
  unfold powD at he
  split at he
  · split at he
    · rename_i hl
      cases he
      exact ⟨_, _, h1.int, h2.int, hl, q.val gh (.int _)⟩
    · cases he
  · cases he
/-! data without dicts, as the library's rules take it -/
mutual
theorem At.dp {H G : Hp} {P : Addr → Prop} (gh : ∀ a o, G a = some o → H a = some o) : ∀ (d : D) (v : V), d.canLay0 = true → At K G P v d → Dp K H v d
  | .none, _, _, h => by cases h; exact .non
  | .bool b, _, _, h => by cases h; exact .bl b
  | .int i, _, _, h => by cases h; exact .int i
  | .str x, _, _, h => by cases h; exact .str x
  | .list ds, _, c, h => by
    cases h with
    | lst r p l => exact .lst (.inl (.inl (gh _ _ r))) (AtL.dp gh ds _ (by simpa [PyData.canLay0] using c) l)
  | .tuple ds, _, c, h => by
    cases h with
    | tup r l => exact .tup (r.imp (rd_of gh) id) (AtL.dp gh ds _ (by simpa [PyData.canLay0] using c) l)
  | .dict kds, _, c, h => by simp [PyData.canLay0] at c
theorem AtL.dp {H G : Hp} {P : Addr → Prop} (gh : ∀ a o, G a = some o → H a = some o) : ∀ (ds : List D) (vs : List V), PyData.canLayAll0 ds = true → AtL K G P vs ds → DpAll K H vs ds
  | [], _, _, h => by cases h; exact .nil
  | d :: ds, _, c, h => by
    simp only [PyData.canLayAll0, Bool.and_eq_true] at c
    cases h with
    | cons h1 h2 => exact .cons (At.dp gh d _ c.1 h1) (AtL.dp gh ds _ c.2 h2)
end
theorem AtTop.dp {C : Ct} {H G : Hp} {P : Addr → Prop} {v : V} {d : D} (gh : ∀ a o, G a = some o → H a = some o) (c : d.canLay0 = true) (h : AtTop K C H G P v d) : Dp K H v d := by
  rcases h with h | ⟨p, rfl, _, _, ow⟩
  · exact h.dp gh d v c
  · cases d with
    | list ds =>
      obtain ⟨vs, e, l⟩ := ow
      exact .lst (.inl (.inl e)) (AtL.dp gh ds _ (by simpa [PyData.canLay0] using c) l)
    | dict ds => simp [PyData.canLay0] at c
    | _ => exact ow.elim
theorem shaped_lay {d : D} (h : SeqAt.shaped d = true) : d.canLay0 = true := by
  unfold SeqAt.shaped at h
  simp only [Bool.and_eq_true] at h
  exact h.1
theorem eqD_cases {d1 d2 : D} {k : Bool} (he : eqD d1 d2 = some k) : (d1 = .none ∧ d2 = .none ∧ k = true) ∨ (∃ a b, d1 = .bool a ∧ d2 = .bool b ∧ k = (a == b)) ∨ (∃ a b, d1 = .int a ∧ d2 = .int b ∧ k = (a == b)) ∨ (∃ a b, d1 = .str a ∧ d2 = .str b ∧ k = (a == b)) ∨
    (SeqAt.shaped d1 = true ∧ SeqAt.shaped d2 = true ∧ k = PyData.eqv d1 d2) := by
  unfold eqD at he
  split at he
  · cases he; exact .inl ⟨rfl, rfl, rfl⟩
  · cases he; exact .inr (.inl ⟨_, _, rfl, rfl, rfl⟩)
  · cases he; exact .inr (.inr (.inl ⟨_, _, rfl, rfl, rfl⟩))
  · cases he; exact .inr (.inr (.inr (.inl ⟨_, _, rfl, rfl, rfl⟩)))
  · split at he
    · rename_i hs
      simp only [Bool.and_eq_true] at hs
      cases he
      exact .inr (.inr (.inr (.inr ⟨hs.1, hs.2, rfl⟩)))
    · cases he
theorem prim_eq : PrimB2 K (fun x y H Q => rEq x y H Q ∨ rEqD K x y H Q) eqD := by
  intro C H G P x y d1 d2 k Q gh h1 h2 he q
  rcases eqD_cases he with ⟨rfl, rfl, rfl⟩ | ⟨a, b, rfl, rfl, rfl⟩ | ⟨a, b, rfl, rfl, rfl⟩ | ⟨a, b, rfl, rfl, rfl⟩ | ⟨s1, s2, rfl⟩
  · rw [h1.none, h2.none]; exact .inl ⟨rfl, by simpa using q⟩
  · rw [h1.bool, h2.bool]; exact .inl ⟨rfl, by rw [dec_bl]; exact q⟩
  · rw [h1.int, h2.int]; exact .inl ⟨rfl, by rw [dec_int]; exact q⟩
  · rw [h1.str, h2.str]; exact .inl ⟨rfl, by rw [dec_str]; exact q⟩
  · exact .inr ⟨d1, d2, h1.dp gh (shaped_lay s1), h2.dp gh (shaped_lay s2), s1, s2, q⟩
theorem prim_ne : PrimB2 K (fun x y H Q => rNe x y H Q ∨ rNeD K x y H Q) neD := by
  intro C H G P x y d1 d2 k Q gh h1 h2 he q
  unfold neD at he
  cases e : eqD d1 d2 with
  | none => rw [e] at he; cases he
  | some k' =>
    rw [e] at he; cases he
    rcases eqD_cases e with ⟨rfl, rfl, rfl⟩ | ⟨a, b, rfl, rfl, rfl⟩ | ⟨a, b, rfl, rfl, rfl⟩ | ⟨a, b, rfl, rfl, rfl⟩ | ⟨s1, s2, rfl⟩
    · rw [h1.none, h2.none]; exact .inl ⟨rfl, by simpa using q⟩
    · rw [h1.bool, h2.bool]; exact .inl ⟨rfl, by rw [dec_bl]; exact q⟩
    · rw [h1.int, h2.int]; exact .inl ⟨rfl, by rw [dec_int]; exact q⟩
    · rw [h1.str, h2.str]; exact .inl ⟨rfl, by rw [dec_str]; exact q⟩
    · exact .inr ⟨d1, d2, h1.dp gh (shaped_lay s1), h2.dp gh (shaped_lay s2), s1, s2, q⟩
theorem prim_lt : PrimB2 K (fun x y H Q => rI0 (fun i j => .bl (decide (i < j))) x y H Q ∨ ∃ i j, x = .str i ∧ y = .str j ∧ Q (.bl (decide (i.cps.toList < j.cps.toList))) H) ltD := by
  intro C H G P x y d1 d2 k Q gh h1 h2 he q
  unfold ltD at he
  split at he
  · cases he; exact .inl ⟨_, _, h1.int, h2.int, q⟩
  · cases he; exact .inr ⟨_, _, h1.str, h2.str, q⟩
  · cases he
theorem prim_le : PrimB2 K (fun x y H Q => rI0 (fun i j => .bl (decide (i ≤ j))) x y H Q ∨ ∃ i j, x = .str i ∧ y = .str j ∧ Q (.bl (!decide (j.cps.toList < i.cps.toList))) H) leD := by
  intro C H G P x y d1 d2 k Q gh h1 h2 he q
  unfold leD at he
  split at he
  · cases he; exact .inl ⟨_, _, h1.int, h2.int, q⟩
  · cases he; exact .inr ⟨_, _, h1.str, h2.str, q⟩
  · cases he
theorem prim_gt : PrimB2 K (fun x y H Q => rI0 (fun i j => .bl (decide (j < i))) x y H Q ∨ ∃ i j, x = .str i ∧ y = .str j ∧ Q (.bl (decide (j.cps.toList < i.cps.toList))) H) gtD := by
  intro C H G P x y d1 d2 k Q gh h1 h2 he q
  unfold gtD at he
  split at he
  · cases he; exact .inl ⟨_, _, h1.int, h2.int, q⟩
  · cases he; exact .inr ⟨_, _, h1.str, h2.str, q⟩
  · cases he
theorem prim_ge : PrimB2 K (fun x y H Q => rI0 (fun i j => .bl (decide (j ≤ i))) x y H Q ∨ ∃ i j, x = .str i ∧ y = .str j ∧ Q (.bl (!decide (i.cps.toList < j.cps.toList))) H) geD := by
  intro C H G P x y d1 d2 k Q gh h1 h2 he q
  unfold geD at he
  split at he
  · cases he; exact .inl ⟨_, _, h1.int, h2.int, q⟩
  · cases he; exact .inr ⟨_, _, h1.str, h2.str, q⟩
  · cases he
def isNoneD : D → Bool
  | .none => true
  | _ => false
theorem isD_cases {d1 d2 : D} {k : Bool} (he : isD d1 d2 = some k) : d2 = .none ∧ k = isNoneD d1 := by
  cases d1 <;> cases d2 <;> simp [isD] at he <;> (subst he; exact ⟨rfl, rfl⟩)
theorem AtTop.non_iff {C : Ct} {H G : Hp} {P : Addr → Prop} {v : V} {d : D} (h : AtTop K C H G P v d) : decide (v = .non) = isNoneD d := by
  rcases h with h | ⟨p, rfl, _, _, ow⟩
  · cases h <;> simp [isNoneD]
  · cases d <;> simp [OwnAt] at ow <;> simp [isNoneD]
theorem prim_is : PrimB2 K (fun x y H Q => y = .non ∧ Q (.bl (decide (x = .non))) H) isD := by
  intro C H G P x y d1 d2 k Q gh h1 h2 he q
  obtain ⟨rfl, rfl⟩ := isD_cases he
  exact ⟨h2.none, by rw [h1.non_iff]; exact q⟩
theorem prim_isNot : PrimB2 K (fun x y H Q => y = .non ∧ Q (.bl (!decide (x = .non))) H) isNotD := by
  intro C H G P x y d1 d2 k Q gh h1 h2 he q
  unfold isNotD at he
  cases e : isD d1 d2 with
  | none => rw [e] at he; cases he
  | some k' =>
    rw [e] at he; cases he
    obtain ⟨rfl, rfl⟩ := isD_cases e
    exact ⟨h2.none, by rw [h1.non_iff]; exact q⟩
/-! in -/
theorem At.flat {G : Hp} {P : Addr → Prop} {v : V} {d : D} (h : At K G P v d) : flatV v = flatD d := by cases h <;> rfl
theorem AtL.flat {G : Hp} {P : Addr → Prop} : ∀ {vs : List V} {ds : List D}, AtL K G P vs ds → vs.all flatV = ds.all flatD
  | [], [], _ => rfl
  | v :: vs, d :: ds, h => by
    cases h with
    | cons a b => rw [List.all_cons, List.all_cons, a.flat, AtL.flat b]
  | [], _ :: _, h => by cases h
  | _ :: _, [], h => by cases h
theorem eqV_eqv {G : Hp} {P : Addr → Prop} {v w : V} {d e : D} (h : At K G P v d) (h' : At K G P w e) (f : flatD d = true) (f' : flatD e = true) : eqV v w = PyData.eqv d e := by
  cases h <;> cases h' <;> first | rfl | (simp [eqV, PyData.eqv]; done) | (cases f; done) | (cases f'; done)
theorem AtL.any {G : Hp} {P : Addr → Prop} {x : V} {d : D} (hx : At K G P x d) (fx : flatD d = true) : ∀ {vs : List V} {ds : List D}, AtL K G P vs ds → ds.all flatD = true → inV x vs = ds.any fun z => PyData.eqv z d
  | [], [], _, _ => rfl
  | v :: vs, e :: ds, h, f => by
    cases h with
    | cons a b =>
      rw [List.all_cons, Bool.and_eq_true] at f
      show ((eqV v x) || inV x vs) = _
      rw [List.any_cons, eqV_eqv a hx f.1 fx, AtL.any hx fx b f.2]
  | [], _ :: _, h, _ => by cases h
  | _ :: _, [], h, _ => by cases h
theorem AtTop.flatAt {C : Ct} {H G : Hp} {P : Addr → Prop} {v : V} {d : D} (h : AtTop K C H G P v d) (f : flatD d = true) : At K G P v d := by
  rcases h with h | ⟨p, rfl, _, _, ow⟩
  · exact h
  · cases d <;> simp [flatD] at f <;> exact ow.elim
theorem keyOf_keyD : ∀ k : Key, keyOf (keyD k) = some k
  | .inl _ => rfl
  | .inr _ => rfl
theorem AtK.has {G : Hp} {P : Addr → Prop} {k : Key} : ∀ {kvs : List (Key × V)} {kds : List (D × D)}, AtK K G P kvs kds → (valV kvs k).isSome = hasK kds k
  | [], [], _ => rfl
  | (j, v) :: kvs, (e, d) :: kds, h => by
    cases h with
    | cons a b =>
      have ih := AtK.has (k := k) b
      unfold valV hasK at ih ⊢
      rw [List.find?_cons, List.any_cons]
      rw [keyOf_keyD]
      by_cases hj : j = k
      · subst hj; simp
      · have hk : ¬ some j = some k := fun z => hj (Option.some.inj z)
        simp only [hj, hk, decide_false, Bool.false_or]
        exact ih
  | [], _ :: _, h => by cases h
  | _ :: _, [], h => by cases h
theorem AtK.getK {G : Hp} {P : Addr → Prop} {k : Key} {d : D} : ∀ {kvs : List (Key × V)} {kds : List (D × D)}, AtK K G P kvs kds → PD.getK kds k = some d → ∃ v, valV kvs k = some v ∧ At K G P v d
  | [], [], _, h => by cases h
  | (j, v) :: kvs, (e, d') :: kds, h, hg => by
    cases h with
    | cons a b =>
      unfold PD.getK at hg
      unfold valV
      rw [List.find?_cons] at hg ⊢
      rw [keyOf_keyD] at hg
      by_cases hj : j = k
      · subst hj
        simp at hg ⊢
        subst hg
        exact a
      · have hk : ¬ some j = some k := fun z => hj (Option.some.inj z)
        simp only [hj, hk, decide_false] at hg ⊢
        exact AtK.getK (k := k) b hg
  | [], _ :: _, h, _ => by cases h
  | _ :: _, [], h, _ => by cases h
theorem keyOf_some {d : D} {k : Key} (h : keyOf d = some k) : d = keyD k := by
  unfold keyOf at h
  split at h
  · cases h; rfl
  · cases h; rfl
  · cases h
theorem AtTop.key {C : Ct} {H G : Hp} {P : Addr → Prop} {v : V} {d : D} {k : Key} (h : AtTop K C H G P v d) (e : keyOf d = some k) : v = kV k := by
  have z := keyOf_some e
  subst z
  cases k with
  | inl i => exact h.int
  | inr s => exact h.str
end
section
variable {X : Cx}
theorem op_in_dict (hu : X.A.units + 1 < cLine) : OpR X (compareOp .In) (fun y x H Q => ∃ a o, x = .ref a ∧ DGet H a y o ∧ Q (.bl o.isSome) H) := by
  intro pins s σ H y x u v Q I ry rx h
  obtain ⟨a, o, rfl, g, q⟩ := h
  obtain rfl : v = Value.ref a := rx
  exact d_in hu I g ry fun s' I' => ⟨.bl o.isSome, H, I', rfl, q⟩
theorem op_notIn_dict (hu : X.A.units + 1 < cLine) : OpR X (compareOp .NotIn) (fun y x H Q => ∃ a o, x = .ref a ∧ DGet H a y o ∧ Q (.bl (!o.isSome)) H) := by
  intro pins s σ H y x u v Q I ry rx h
  obtain ⟨a, o, rfl, g, q⟩ := h
  obtain rfl : v = Value.ref a := rx
  exact d_notIn hu I g ry fun s' I' => ⟨.bl (!o.isSome), H, I', rfl, q⟩
theorem ix_dict (hu : X.A.units + 1 < cLine) : IxR X (fun x y H Q => ∃ a v, x = .ref a ∧ DGet H a y (some v) ∧ Q v H) := by
  intro value slice pins s σ H x y v u Q I rx ry h hs
  obtain ⟨a, w, rfl, g, q⟩ := h
  obtain rfl : v = Value.ref a := rx
  exact PyProof.Rows.tail_any (dict_typeIs I g) PySem.F.slot_dict_getitem.lookup (d_getItem hu I g ry fun w' s3 I3 rw' => ⟨w, H, I3, rw', q⟩) hs
def rInAll (K : PySem.W.Frag) : R2 := fun x y H Q => (∃ (c : Nat) (z : Str), x = .str ⟨#[c]⟩ ∧ y = .str z ∧ Q (.bl (decide (c ∈ z.cps.toList))) H) ∨ rIn K false x y H Q ∨ rInD K x y H Q ∨ ∃ a o, y = .ref a ∧ DGet H a x o ∧ Q (.bl o.isSome) H
def rNotInAll (K : PySem.W.Frag) : R2 := fun x y H Q => (∃ (c : Nat) (z : Str), x = .str ⟨#[c]⟩ ∧ y = .str z ∧ Q (.bl (!decide (c ∈ z.cps.toList))) H) ∨ rIn K true x y H Q ∨ rNotInD K x y H Q ∨ ∃ a o, y = .ref a ∧ DGet H a x o ∧ Q (.bl (!o.isSome)) H
theorem op_inAll (hu : X.A.units + 65 < cLine) : OpR X (compareOp .In) (rInAll X.K) := op_in_sign.or (op_in_seq.or ((op_inD hu).or (op_in_dict (by omega))))
theorem op_notInAll (hu : X.A.units + 65 < cLine) : OpR X (compareOp .NotIn) (rNotInAll X.K) := op_notIn_sign.or (op_notIn_seq.or ((op_notInD hu).or (op_notIn_dict (by omega))))
end
section
variable {K : PySem.W.Frag}
theorem prim_inAll (neg : Bool) : PrimB2 K (if neg then rNotInAll K else rInAll K) (fun d e => if neg then notInD d e else inD d e) := by
  intro C H G P x y d1 d2 k Q gh h1 h2 he q
  obtain ⟨k', he', hk⟩ : ∃ k', inD d1 d2 = some k' ∧ k = if neg then !k' else k' := by
    cases neg with
    | false => exact ⟨k, he, rfl⟩
    | true =>
      have he : notInD d1 d2 = some k := he
      unfold notInD at he
      cases e : inD d1 d2 with
      | none => rw [e] at he; cases he
      | some z => rw [e] at he; cases he; exact ⟨z, rfl, rfl⟩
  subst hk
  unfold inD at he'
  split at he'
  · split at he'
    · rename_i c hc
      cases he'
      have ex : ∀ x' : Str, x'.cps.toList = [c] → x' = ⟨#[c]⟩ := by
        intro x' hc
        cases x' with
        | mk cps =>
          have : cps = #[c] := Array.toList_inj.mp (by simpa using hc)
          rw [this]
      cases neg
      · exact .inl ⟨c, _, by rw [← ex _ hc]; exact h1.str, h2.str, q⟩
      · exact .inl ⟨c, _, by rw [← ex _ hc]; exact h1.str, h2.str, q⟩
    · cases he'
  · unfold inItems at he'
    split at he'
    · rename_i hf
      simp only [Bool.and_eq_true] at hf
      cases he'
      obtain ⟨p, vs, rfl, e1, l1, _⟩ := h2.tuple gh
      have a1 := h1.flatAt hf.1
      have z := AtL.any a1 hf.1 l1 hf.2
      cases neg
      · exact .inr (.inl ⟨p, vs, rfl, .inr e1, by rw [a1.flat]; exact hf.1, by rw [l1.flat]; exact hf.2, by rw [z]; exact q⟩)
      · exact .inr (.inl ⟨p, vs, rfl, .inr e1, by rw [a1.flat]; exact hf.1, by rw [l1.flat]; exact hf.2, by rw [z]; exact q⟩)
    · cases he'
  · split at he'
    · rename_i hf
      simp only [Bool.and_eq_true] at hf
      cases he'
      obtain ⟨p, vs, rfl, e1, l1⟩ := h2.list gh
      have a1 := h1.flatAt hf.1
      have z := AtL.any a1 hf.1 l1 hf.2
      cases neg
      · exact .inr (.inl ⟨p, vs, rfl, .inl (.inl (.inl e1)), by rw [a1.flat]; exact hf.1, by rw [l1.flat]; exact hf.2, by rw [z]; exact q⟩)
      · exact .inr (.inl ⟨p, vs, rfl, .inl (.inl (.inl e1)), by rw [a1.flat]; exact hf.1, by rw [l1.flat]; exact hf.2, by rw [z]; exact q⟩)
    · split at he'
      · rename_i hs
        simp only [Bool.and_eq_true] at hs
        cases he'
        cases neg
        · exact .inr (.inr (.inl ⟨_, _, h1.dp gh (shaped_lay hs.1), h2.dp gh (shaped_lay hs.2), hs.1, hs.2, q⟩))
        · exact .inr (.inr (.inl ⟨_, _, h1.dp gh (shaped_lay hs.1), h2.dp gh (shaped_lay hs.2), hs.1, hs.2, q⟩))
      · cases he'
  · cases e : keyOf d1 with
    | none => rw [e] at he'; cases he'
    | some kk =>
      rw [e] at he'; cases he'
      obtain ⟨p, vs, rfl, e1, l1⟩ := h2.dict gh
      have z := l1.has (k := kk)
      cases neg
      · exact .inr (.inr (.inr ⟨p, _, rfl, .inl ⟨vs, kk, e1, h1.key e, rfl⟩, by rw [z]; exact q⟩))
      · exact .inr (.inr (.inr ⟨p, _, rfl, .inl ⟨vs, kk, e1, h1.key e, rfl⟩, by rw [z]; exact q⟩))
  · cases he'
theorem prim_in : PrimB2 K (rInAll K) inD := prim_inAll false
theorem prim_notIn : PrimB2 K (rNotInAll K) notInD := prim_inAll true
theorem AtL.atI {G : Hp} {P : Addr → Prop} {vs : List V} {ds : List D} {i : Int} {d : D} (h : AtL K G P vs ds) (e : L2.atI ds i = some d) : ∃ v, L2.atI vs i = some v ∧ At K G P v d := by
  unfold L2.atI at e ⊢
  rw [h.length]
  cases z : ixN ds.length i with
  | none => rw [z] at e; cases e
  | some j =>
    rw [z] at e
    exact h.get (i := j) e
def rIxAll (K : PySem.W.Frag) : R2 := fun x y H Q => rIx K x y H Q ∨ ∃ a v, x = .ref a ∧ DGet H a y (some v) ∧ Q v H
theorem prim_ix : PrimA2 K (rIxAll K) ixD := by
  intro C H G P x y d1 d2 e Q gh hP h1 h2 he q
  unfold ixD at he
  split at he
  · obtain ⟨p, vs, rfl, e1, l1⟩ := h1.list gh
    obtain ⟨v, hv, a⟩ := l1.atI he
    exact .inl (.inl ⟨p, vs, _, v, rfl, h2.int, .inl (.inl e1), hv, q.val gh a⟩)
  · obtain ⟨p, vs, rfl, e1, l1, _⟩ := h1.tuple gh
    obtain ⟨v, hv, a⟩ := l1.atI he
    exact .inl (.inr (.inl ⟨p, vs, _, v, rfl, h2.int, e1, hv, q.val gh a⟩))
  · split at he
    · rename_i hl
      cases z : L2.atI _ _ with
      | none => rw [z] at he; cases he
      | some c =>
        rw [z] at he; cases he
        exact .inl (.inr (.inr ⟨_, _, c, h1.str, h2.int, hl, z, q.val gh (.str _)⟩))
    · cases he
  · cases z : keyOf _ with
    | none => rw [z] at he; cases he
    | some k =>
      rw [z] at he
      obtain ⟨p, vs, rfl, e1, l1⟩ := h1.dict gh
      obtain ⟨v, hv, a⟩ := l1.getK he
      exact .inr ⟨p, v, rfl, .inl ⟨vs, k, e1, h2.key z, hv.symm⟩, q.val gh a⟩
  · cases he
end
section
variable {X : Cx} {ec : EC} {E : XK} {Γ : List Tag} {a b : Expr} {pos : Pos} {fr : Bool}
theorem ej_ix {fa fb : Den D} {p1 : Bool} (hu : X.A.units + 1 < cLine) (hs : PlainIx b) (ha : EJ X ec E Γ a fa (.top fr) p1) (hb : EJ X ec E Γ b fb (.top fr) true) : EJ X ec E Γ (.Subscript a b pos) (dBin ixD fa fb) (.val fr) p1 := by
  obtain ⟨ta, tb, pa, pb, rr⟩ := ej_two ha hb
  refine ⟨_, pe_ix (ix_seq.or (ix_dict hu)) pa pb hs, fun C ρ S σ H G N Q R p => ?_⟩
  refine rr C ρ S σ H G N _ D (fun x y => optR (ixD x y)) _ R p fun x y d1 d2 ρ2 S2 H2 G2 N2 R2 x2 o1 o2 p2 => ?_
  obtain ⟨d, hd, k⟩ := optR_post p2
  refine prim_ix C H2 G2 (Pf C fr) x y d1 d2 d Q R2.gh (fun a z => by cases fr; exact trivial; exact R2.h0 z) o1 o2 hd fun v H' G' h1 h2 h3 h4 h5 at' => ?_
  obtain ⟨R3, x3⟩ := R2.grow h1 h2 h3 h4 h5
  exact k v H' G' N2 R3 ((x2.trans x3).weak fun z => by simp [z]) at'
end
end PD

namespace PD
open PySem L2
section
variable {K : PySem.W.Frag} {C : Ct} {Γ Γ1 : List Tag} {ρ ρ1 : Rho} {S S1 : SS} {σ σ1 : L2.St} {Hh H H1 H2 G G1 G2 : Hp} {N N1 N2 : Nat → Addr → Prop}
/-- may what is so taken wait for what comes behind -/
def Mode.waits : Mode → Bool → Bool
  | .top _, pu => pu
  | .deep, pu => pu
  | _, _ => true
theorem ValOk.step {m : Mode} {v : V} {d : D} {pu : Bool} (R : Rel K C Γ ρ S σ Hh G N) (R1 : Rel K C Γ1 ρ1 S1 σ1 H1 G1 N1) (h : ValOk K C Hh H1 G1 N1 m v d) (x : Ext C H1 G1 N1 H2 G2 N2 pu) (w : m.waits pu = true) : ValOk K C Hh H2 G2 N2 m v d := by
  cases m with
  | val fr => exact At.ext x.ge h
  | top fr => exact AtTop.step h x w
  | stm => exact h
  | deep =>
    refine At.mono' (G := noQ C H1) (G' := noQ C H2) (fun a u _ r => ?_) (fun a vs _ r => ?_) (fun _ z => z) d v h
    · rcases r with r | ⟨o, r⟩
      · obtain ⟨e, h1, h2⟩ := of_noQ r
        exact .inl (noQ_some (x.same a _ e h1 h2 (.inl w)) h1 h2)
      · obtain ⟨e, h1, h2⟩ := of_noQ r
        exact .inr ⟨o, noQ_some (x.same a _ e h1 h2 (.inl w)) h1 h2⟩
    · obtain ⟨e, h1, h2⟩ := of_noQ r
      exact noQ_some (x.same a _ e h1 h2 (.inl w)) h1 h2
  | new fr =>
    obtain ⟨p, e, hp, hg, hn, ow⟩ := h
    have hq := R.qn hp
    have some1 : ∃ o, H1 p = some o := by
      cases d with
      | list ds => obtain ⟨vs, z, _⟩ := ow; exact ⟨_, z⟩
      | dict ds => obtain ⟨vs, z, _⟩ := ow; exact ⟨_, z⟩
      | _ => exact ow.elim
    obtain ⟨o, ho⟩ := some1
    refine ⟨p, e, hp, ?_, fun i z => ?_, ?_⟩
    · cases q : G2 p with
      | none => rfl
      | some u =>
        rcases x.gx p (by rw [q]; simp) with z | z
        · exact absurd hg z
        · rw [ho] at z; cases z
    · rcases x.nx i p z with z | z
      · exact hn i z
      · rw [ho] at z; cases z
    · cases d with
      | list ds => obtain ⟨vs, z, l⟩ := ow; exact ⟨vs, x.same _ _ z hq.1 hq.2 (.inr hn), l.ext x.ge⟩
      | dict ds => obtain ⟨vs, z, l⟩ := ow; exact ⟨vs, x.same _ _ z hq.1 hq.2 (.inr hn), l.ext x.ge⟩
      | _ => exact ow.elim
theorem ValOk.back {m : Mode} {v : V} {d : D} (h : ValOk K C H1 H2 G2 N2 m v d) (dom : ∀ a, H a ≠ none → H1 a ≠ none) : ValOk K C H H2 G2 N2 m v d := by
  cases m with
  | new fr =>
    obtain ⟨p, e, hp, r⟩ := h
    refine ⟨p, e, ?_, r⟩
    cases q : H p with
    | none => rfl
    | some o => exact absurd hp (dom p (by rw [q]; simp))
  | _ => exact h
theorem ValsOk.news : ∀ {ms : List Mode} {vs : List V} {ds : List D} {w : V}, ValsOk K C H1 H2 G2 N2 ms vs ds → w ∈ newsOf ms vs → ∃ p, w = .ref p ∧ H1 p = none
  | [], [], [], _, _, hw => by simp [newsOf] at hw
  | m :: ms, v :: vs, d :: ds, w, h, hw => by
    unfold newsOf at hw
    by_cases hm : m.isNew = true
    · rw [if_pos hm] at hw
      rcases List.mem_cons.mp hw with rfl | hw
      · cases m with
        | new fr => obtain ⟨p, e, hp, _⟩ := h.1; exact ⟨p, e, hp⟩
        | _ => cases hm
      · exact h.2.2.news hw
    · rw [if_neg hm] at hw
      exact h.2.2.news hw
  | [], _ :: _, _, _, h, _ => h.elim
  | [], [], _ :: _, _, h, _ => h.elim
  | _ :: _, [], _, _, h, _ => h.elim
  | _ :: _, _ :: _, [], _, h, _ => h.elim
theorem ValsOk.back : ∀ {ms : List Mode} {vs : List V} {ds : List D}, ValsOk K C H1 H2 G2 N2 ms vs ds → (∀ a, H a ≠ none → H1 a ≠ none) → ValsOk K C H H2 G2 N2 ms vs ds
  | [], [], [], _, _ => trivial
  | _ :: _, _ :: _, _ :: _, h, dom => ⟨h.1.back dom, h.2.1, h.2.2.back dom⟩
  | [], _ :: _, _, h, _ => h.elim
  | [], [], _ :: _, h, _ => h.elim
  | _ :: _, [], _, h, _ => h.elim
  | _ :: _, _ :: _, [], h, _ => h.elim
end
section
variable {X : Cx} {ec : EC} {E : XK} {Γ : List Tag} {e a b : Expr} {es : List Expr} {pos : Pos} {fr : Bool}
def dNil : Den (List D) := fun ρ S => .ok [] ρ S
def dCons (f : Den D) (g : Den (List D)) : Den (List D) := fun ρ S => (f ρ S).bind fun d ρ1 S1 => (g ρ1 S1).bind fun ds ρ2 S2 => .ok (d :: ds) ρ2 S2
def seqD : D → Option (List D)
  | .list ds => some ds
  | .tuple ds => some ds
  | _ => none
def dStar (f : Den D) (g : Den (List D)) : Den (List D) := fun ρ S => (f ρ S).bind fun d ρ1 S1 => (optR (seqD d) ρ1 S1).bind fun xs ρ1 S1 => (g ρ1 S1).bind fun ds ρ2 S2 => .ok (xs ++ ds) ρ2 S2
theorem aj_nil : AJ X ec E Γ [] dNil [] true := ⟨_, pa_nil, fun C ρ S σ H G N Q R p => p [] H G N R Ext.refl trivial⟩
theorem aj_cons {f : Den D} {g : Den (List D)} {m : Mode} {ms : List Mode} {p1 p2 : Bool} (h : EJ X ec E Γ e f m p1) (h' : AJ X ec E Γ es g ms p2) (w : m.waits p2 = true) (hs : starEach (e :: es) X.env = (false, eval e X.env) :: starEach es X.env := by rfl) :
    AJ X ec E Γ (e :: es) (dCons f g) (m :: ms) (p1 && p2) := by
  obtain ⟨te, pe, r⟩ := h
  obtain ⟨ta, pa, r'⟩ := h'
  refine ⟨_, pa_cons pe pa hs, fun C ρ S σ H G N Q R p => ?_⟩
  refine r C ρ S σ H G N _ R (p.bind.mono fun d ρ1 S1 q1 v H1 G1 N1 R1 x1 o1 => ?_)
  refine r' C ρ1 S1 σ H1 G1 N1 _ R1 (q1.bind.mono fun ds ρ2 S2 q2 vs H2 G2 N2 R2 x2 o2 => ?_)
  refine q2 (v :: vs) H2 G2 N2 R2 (x1.trans x2) ⟨o1.step R R1 x2 w, fun hn w hw z => ?_, o2.back x1.dom⟩
  obtain ⟨p', e', h'⟩ := o2.news hw
  cases m with
  | new fr' =>
    obtain ⟨p, ev, _, _, _, ow⟩ := o1
    rw [z, ev] at e'
    cases e'
    cases d with
    | list ds => obtain ⟨vs, z, _⟩ := ow; rw [h'] at z; cases z
    | dict ds => obtain ⟨vs, z, _⟩ := ow; rw [h'] at z; cases z
    | _ => exact ow.elim
  | _ => cases hn
/-- items of a display: all at rest -/
def LJ (X : Cx) (ec : EC) (E : XK) (Γ : List Tag) (es : List Expr) (f : Den (List D)) (fr : Bool) (pu : Bool) : Prop :=
  ∃ ta, PA X es ta ∧ ∀ C ρ S σ H G N Q, Rel X.K C Γ ρ S σ H G N →
    Post X.K ec E C (f ρ S) (fun ds ρ' S' => ∀ vs H' G' N', Rel X.K C Γ ρ' S' σ H' G' N' → Ext C H G N H' G' N' pu → AtL X.K G' (Pf C fr) vs ds → Q vs H') → ta σ H Q
theorem lj_nil : LJ X ec E Γ [] dNil fr true := ⟨_, pa_nil, fun C ρ S σ H G N Q R p => p [] H G N R Ext.refl .nil⟩
theorem lj_cons {f : Den D} {g : Den (List D)} {p1 p2 : Bool} (h : EJ X ec E Γ e f (.val fr) p1) (h' : LJ X ec E Γ es g fr p2) (hs : starEach (e :: es) X.env = (false, eval e X.env) :: starEach es X.env := by rfl) :
    LJ X ec E Γ (e :: es) (dCons f g) fr (p1 && p2) := by
  obtain ⟨te, pe, r⟩ := h
  obtain ⟨ta, pa, r'⟩ := h'
  refine ⟨_, pa_cons pe pa hs, fun C ρ S σ H G N Q R p => ?_⟩
  refine r C ρ S σ H G N _ R (p.bind.mono fun d ρ1 S1 q1 v H1 G1 N1 R1 x1 o1 => ?_)
  refine r' C ρ1 S1 σ H1 G1 N1 _ R1 (q1.bind.mono fun ds ρ2 S2 q2 vs H2 G2 N2 R2 x2 o2 => ?_)
  exact q2 (v :: vs) H2 G2 N2 R2 (x1.trans x2) (.cons (At.ext x2.ge o1) o2)
theorem seqD_list {d : D} {xs : List D} (h : seqD d = some xs) : d = .list xs ∨ d = .tuple xs := by
  cases d <;> simp [seqD] at h <;> (subst h; simp)
theorem lj_star {f : Den D} {g : Den (List D)} {sp : Pos} {p1 p2 : Bool} (h : EJ X ec E Γ e f (.top fr) p1) (h' : LJ X ec E Γ es g fr p2) (hs : starEach (.Starred e sp :: es) X.env = (true, eval e X.env) :: starEach es X.env := by rfl) :
    LJ X ec E Γ (.Starred e sp :: es) (dStar f g) fr (p1 && p2) := by
  obtain ⟨te, pe, r⟩ := h
  obtain ⟨ta, pa, r'⟩ := h'
  refine ⟨_, StX.pa_star pe pa hs, fun C ρ S σ H G N Q R p => ?_⟩
  refine r C ρ S σ H G N _ R (p.bind.mono fun d ρ1 S1 q1 v H1 G1 N1 R1 x1 o1 => ?_)
  cases hd : seqD d with
  | none => rw [hd] at q1; exact (show False from q1).elim
  | some xs =>
    rw [hd] at q1
    have q1 : Post X.K ec E C ((g ρ1 S1).bind fun ds ρ2 S2 => .ok (xs ++ ds) ρ2 S2) _ := q1
    obtain ⟨p, vs, ev, es', l⟩ : ∃ p vs, v = .ref p ∧ (SqT X.K H1 p vs ∨ SqL X.K H1 p vs) ∧ AtL X.K G1 (Pf C fr) vs xs := by
      rcases seqD_list hd with rfl | rfl
      · obtain ⟨p, vs, e, h, l⟩ := AtTop.list R1.gh o1; exact ⟨p, vs, e, .inr (.inl (.inl h)), l⟩
      · obtain ⟨p, vs, e, h, l, _⟩ := AtTop.tuple R1.gh o1; exact ⟨p, vs, e, .inl h, l⟩
    refine ⟨p, vs, ev, es', ?_⟩
    refine r' C ρ1 S1 σ H1 G1 N1 _ R1 (q1.bind.mono fun ds ρ2 S2 q2 ws H2 G2 N2 R2 x2 o2 => ?_)
    exact q2 (vs ++ ws) H2 G2 N2 R2 (x1.trans x2) ((l.ext x2.ge).append o2)
def dTup (f : Den (List D)) : Den D := fun ρ S => (f ρ S).bind fun ds ρ1 S1 => if ds.length ≤ sizeLine then .ok (.tuple ds) ρ1 S1 else .stk
def dLst (f : Den (List D)) : Den D := fun ρ S => (f ρ S).bind fun ds ρ1 S1 => if ds.length ≤ sizeLine then .ok (.list ds) ρ1 S1 else .stk
theorem ifR_post {α : Type} {K : PySem.W.Frag} {C : Ct} {c : Prop} [Decidable c] {r : Res α} {kk : α → Rho → SS → Prop} (h : Post K ec E C (if c then r else .stk) kk) : c ∧ Post K ec E C r kk := by
  by_cases hc : c
  · rw [if_pos hc] at h; exact ⟨hc, h⟩
  · rw [if_neg hc] at h; exact h.elim
theorem ej_tup {k : Nat} {f : Den (List D)} {pu : Bool} (h : LJ X ec E Γ es f fr pu) : EJ X ec E Γ (.Tuple es k pos) (dTup f) (.val fr) pu := by
  obtain ⟨ta, pa, r⟩ := h
  refine ⟨_, pe_tup pa, fun C ρ S σ H G N Q R p => ?_⟩
  refine r C ρ S σ H G N _ R (p.bind.mono fun ds ρ1 S1 q1 vs H1 G1 N1 R1 x1 o1 => ?_)
  obtain ⟨hl, q⟩ := ifR_post q1
  refine ⟨by rw [o1.length]; exact hl, fun p hp => ?_⟩
  obtain ⟨h1, h2, h3, h4, h5⟩ := gupd R1.gh (o := .tup vs) hp
  obtain ⟨R3, x3⟩ := R1.grow h1 h2 h3 h4 h5
  exact q _ _ _ N1 R3 ((x1.trans x3).weak fun z => by simp [z]) (.tup (.inl (.inl upd_same)) (o1.ext (ExR.of h2)))
theorem ej_lst {f : Den (List D)} {pu : Bool} (h : LJ X ec E Γ es f fr pu) : EJ X ec E Γ (.List es pos) (dLst f) (.new fr) pu := by
  obtain ⟨ta, pa, r⟩ := h
  refine ⟨_, pe_lst pa, fun C ρ S σ H G N Q R p => ?_⟩
  refine r C ρ S σ H G N _ R (p.bind.mono fun ds ρ1 S1 q1 vs H1 G1 N1 R1 x1 o1 => ?_)
  obtain ⟨hl, q⟩ := ifR_post q1
  refine ⟨by rw [o1.length]; exact hl, fun p hp => ?_⟩
  exact q _ _ _ N1 (R1.alloc hp rfl) ((x1.trans (ext_alloc (pu := true) hp)).weak fun z => by simp [z])
    ⟨p, rfl, (by
      cases q : H p with
      | none => rfl
      | some o => exact absurd hp (x1.dom p (by rw [q]; simp))), R1.g0n hp, R1.n0 hp, vs, upd_same, o1⟩

/-! ### calls of built-ins -/
theorem CallR.or {f : Value} {r r' : List V → Hp → VK → Prop} (h : CallR X f r) (h' : CallR X f r') : CallR X f (fun vs H Q => r vs H Q ∨ r' vs H Q) := by
  intro pins s σ H xs us Q I rv q
  rcases q with q | q
  · exact h pins s σ H xs us Q I rv q
  · exact h' pins s σ H xs us Q I rv q
def AtTops (K : PySem.W.Frag) (C : Ct) (H G : Hp) (P : Addr → Prop) : List V → List D → Prop
  | [], [] => True
  | v :: vs, d :: ds => AtTop K C H G P v d ∧ AtTops K C H G P vs ds
  | _, _ => False
def PrimCA (K : PySem.W.Frag) (r : List V → Hp → VK → Prop) (g : List D → Option D) : Prop := ∀ C H G P xs ds e Q, (∀ a o, G a = some o → H a = some o) → (∀ a, H a = none → P a) → AtTops K C H G P xs ds → g ds = some e → Any K H G P e Q → r xs H Q
def dPrim (g : List D → Option D) (fa : Den (List D)) : Den D := fun ρ S => (fa ρ S).bind fun ds ρ1 S1 => optR (g ds) ρ1 S1
theorem tops_of {K : PySem.W.Frag} {C : Ct} {H H' G' : Hp} {N' : Nat → Addr → Prop} : ∀ {n : Nat} {vs : List V} {ds : List D}, ValsOk K C H H' G' N' (List.replicate n (.top fr)) vs ds → AtTops K C H' G' (Pf C fr) vs ds
  | 0, [], [], _ => trivial
  | n + 1, v :: vs, d :: ds, h => ⟨h.1, tops_of h.2.2⟩
  | 0, _ :: _, _, h => h.elim
  | 0, [], _ :: _, h => h.elim
  | _ + 1, [], _, h => h.elim
  | _ + 1, _ :: _, [], h => h.elim
theorem callB_core {t : TA → TE} {r : List V → Hp → VK → Prop} {g : List D → Option D} {x : Expr} {fa : Den (List D)} {n : Nat} {pu : Bool} (mk : ∀ {ta}, PA X es ta → PE X x (tCB r ta)) (pr : PrimCA X.K r g) (ha : AJ X ec E Γ es fa (List.replicate n (.top fr)) pu) :
    EJ X ec E Γ x (dPrim g fa) (.val fr) pu := by
  obtain ⟨ta, pa, rr⟩ := ha
  refine ⟨_, mk pa, fun C ρ S σ H G N Q R p => ?_⟩
  refine rr C ρ S σ H G N _ R (p.bind.mono fun ds ρ2 S2 p2 vs H2 G2 N2 R2 x2 o2 => ?_)
  obtain ⟨d, hd, k⟩ := optR_post p2
  refine pr C H2 G2 (Pf C fr) vs ds d Q R2.gh (fun a z => by cases fr; exact trivial; exact R2.h0 z) (tops_of o2) hd fun v H' G' h1 h2 h3 h4 h5 at' => ?_
  obtain ⟨R3, x3⟩ := R2.grow h1 h2 h3 h4 h5
  exact k v H' G' N2 R3 ((x2.trans x3).weak fun z => by simp [z]) at'
theorem ej_callB {x : Str} {p : Pos} {id : String} {r : List V → Hp → VK → Prop} {g : List D → Option D} {fa : Den (List D)} {n : Nat} {pu : Bool} (hc : CallR X (.builtin id) r) (hg : Gl X x) (hm : X.mg x = none) (hv : bootBuiltins x = some (.builtin id)) (pr : PrimCA X.K r g)
    (ha : AJ X ec E Γ (e :: es) fa (List.replicate n (.top fr)) pu) (hn : x ≠ "__name__" := by decide) (hdb : (x == ("__debug__" : Str)) = false := by decide) (he : starEach (e :: es) X.env = (false, eval e X.env) :: starEach es X.env := by rfl) (hpl : (backTo pos (starEach es X.env)).any (·.1) = false := by rfl) :
    EJ X ec E Γ (.Call (.Name x p) (e :: es) [] pos) (dPrim g fa) (.val fr) pu := callB_core (t := tCB r) (fun pa => pe_callB hc hg hm hv pa hn hdb he hpl) pr ha
theorem ej_callTy {x : Str} {p : Pos} {id : String} {r : List V → Hp → VK → Prop} {g : List D → Option D} {fa : Den (List D)} {n : Nat} {pu : Bool} (hc : CallR X (.type id) r) (hg : Gl X x) (hm : X.mg x = none) (hv : bootBuiltins x = some (.type id)) (pr : PrimCA X.K r g)
    (ha : AJ X ec E Γ (e :: es) fa (List.replicate n (.top fr)) pu) (hn : x ≠ "__name__" := by decide) (hdb : (x == ("__debug__" : Str)) = false := by decide) (he : starEach (e :: es) X.env = (false, eval e X.env) :: starEach es X.env := by rfl) (hpl : (backTo pos (starEach es X.env)).any (·.1) = false := by rfl) :
    EJ X ec E Γ (.Call (.Name x p) (e :: es) [] pos) (dPrim g fa) (.val fr) pu := callB_core (t := tCB r) (fun pa => pe_callTy hc hg hm hv pa hn hdb he hpl) pr ha
/-- list(..), sorted(..): a new list of one's own -/
def PrimCN (K : PySem.W.Frag) (r : List V → Hp → VK → Prop) (g : List D → Option (List D)) : Prop := ∀ C H G P xs ds es Q, (∀ a o, G a = some o → H a = some o) → AtTops K C H G P xs ds → g ds = some es → (∀ p vs, H p = none → AtL K G P vs es → Q (.ref p) (upd H p (.lst vs))) → r xs H Q
def dPrimL (g : List D → Option (List D)) (fa : Den (List D)) : Den D := fun ρ S => (fa ρ S).bind fun ds ρ1 S1 => (optR (g ds) ρ1 S1).bind fun es ρ1 S1 => .ok (.list es) ρ1 S1
theorem callN_core {r : List V → Hp → VK → Prop} {g : List D → Option (List D)} {x : Expr} {fa : Den (List D)} {n : Nat} {pu : Bool} (mk : ∀ {ta}, PA X es ta → PE X x (tCB r ta)) (pr : PrimCN X.K r g) (ha : AJ X ec E Γ es fa (List.replicate n (.top fr)) pu) :
    EJ X ec E Γ x (dPrimL g fa) (.new fr) pu := by
  obtain ⟨ta, pa, rr⟩ := ha
  refine ⟨_, mk pa, fun C ρ S σ H G N Q R p => ?_⟩
  refine rr C ρ S σ H G N _ R (p.bind.mono fun ds ρ2 S2 p2 vs H2 G2 N2 R2 x2 o2 => ?_)
  obtain ⟨d, hd, k⟩ := optR_post p2.bind
  refine pr C H2 G2 (Pf C fr) vs ds d Q R2.gh (tops_of o2) hd fun p ws hp l => ?_
  exact k _ _ _ N2 (R2.alloc hp rfl) ((x2.trans (ext_alloc (pu := true) hp)).weak fun z => by simp [z])
    ⟨p, rfl, (by
      cases q : H p with
      | none => rfl
      | some o => exact absurd hp (x2.dom p (by rw [q]; simp))), R2.g0n hp, R2.n0 hp, ws, upd_same, l⟩
theorem ej_callBN {x : Str} {p : Pos} {id : String} {r : List V → Hp → VK → Prop} {g : List D → Option (List D)} {fa : Den (List D)} {n : Nat} {pu : Bool} (hc : CallR X (.builtin id) r) (hg : Gl X x) (hm : X.mg x = none) (hv : bootBuiltins x = some (.builtin id)) (pr : PrimCN X.K r g)
    (ha : AJ X ec E Γ (e :: es) fa (List.replicate n (.top fr)) pu) (hn : x ≠ "__name__" := by decide) (hdb : (x == ("__debug__" : Str)) = false := by decide) (he : starEach (e :: es) X.env = (false, eval e X.env) :: starEach es X.env := by rfl) (hpl : (backTo pos (starEach es X.env)).any (·.1) = false := by rfl) :
    EJ X ec E Γ (.Call (.Name x p) (e :: es) [] pos) (dPrimL g fa) (.new fr) pu := callN_core (fun pa => pe_callB hc hg hm hv pa hn hdb he hpl) pr ha
theorem ej_callTyN {x : Str} {p : Pos} {id : String} {r : List V → Hp → VK → Prop} {g : List D → Option (List D)} {fa : Den (List D)} {n : Nat} {pu : Bool} (hc : CallR X (.type id) r) (hg : Gl X x) (hm : X.mg x = none) (hv : bootBuiltins x = some (.type id)) (pr : PrimCN X.K r g)
    (ha : AJ X ec E Γ (e :: es) fa (List.replicate n (.top fr)) pu) (hn : x ≠ "__name__" := by decide) (hdb : (x == ("__debug__" : Str)) = false := by decide) (he : starEach (e :: es) X.env = (false, eval e X.env) :: starEach es X.env := by rfl) (hpl : (backTo pos (starEach es X.env)).any (·.1) = false := by rfl) :
    EJ X ec E Γ (.Call (.Name x p) (e :: es) [] pos) (dPrimL g fa) (.new fr) pu := callN_core (fun pa => pe_callTy hc hg hm hv pa hn hdb he hpl) pr ha

/-! ### the built-ins -/
def lenD : List D → Option D
  | [.str s] => if s.length ≤ sizeLine then some (.int s.length) else none
  | [.list ds] => some (.int ds.length)
  | [.tuple ds] => some (.int ds.length)
  | [.dict ds] => some (.int ds.length)
  | _ => none
def rLenAll (K : PySem.W.Frag) : List V → Hp → VK → Prop := fun xs H Q => (∃ x n, xs = [x] ∧ LenV K x H n ∧ Q (.int n) H) ∨ ∃ a kvs, xs = [V.ref a] ∧ Rd H a (.dK kvs) ∧ Q (.int kvs.length) H
theorem call_lenR : CallR X (.builtin "len") (fun xs H Q => ∃ a kvs, xs = [V.ref a] ∧ Rd H a (.dK kvs) ∧ Q (.int kvs.length) H) := by
  intro pins s σ H xs us Q I r h
  obtain ⟨a, kvs, rfl, ha, q⟩ := h
  obtain ⟨u, rfl, ru⟩ := vals1 r
  cases ru
  exact d_len I ha fun t s' I' => ⟨.int kvs.length, H, I', ⟨t, rfl⟩, q⟩
theorem call_lenAll : CallR X (.builtin "len") (rLenAll X.K) := call_len.or call_lenR
theorem AtK.length {K : PySem.W.Frag} {G : Hp} {P : Addr → Prop} : ∀ {vs : List (Key × V)} {ds : List (D × D)}, AtK K G P vs ds → vs.length = ds.length
  | [], [], _ => rfl
  | _ :: _, _ :: _, h => by cases h with | cons _ t => exact congrArg (· + 1) (AtK.length t)
  | [], _ :: _, h => by cases h
  | _ :: _, [], h => by cases h
theorem prim_len {K : PySem.W.Frag} : PrimCA K (rLenAll K) lenD := by
  intro C H G P xs ds e Q gh hP h he q
  match xs, ds, h with
  | [x], [d], h =>
    obtain ⟨h, _⟩ := h
    cases d with
    | str s =>
      simp only [lenD] at he
      split at he
      · rename_i hl; cases he
        exact .inl ⟨_, _, rfl, by rw [h.str]; exact ⟨hl, rfl⟩, q.val gh (.int _)⟩
      · cases he
    | list ds =>
      simp only [lenD] at he; cases he
      obtain ⟨p, vs, rfl, e1, l⟩ := h.list gh
      exact .inl ⟨_, _, rfl, .inl ⟨vs, .inl (.inl e1), rfl⟩, by rw [l.length]; exact q.val gh (.int _)⟩
    | tuple ds =>
      simp only [lenD] at he; cases he
      obtain ⟨p, vs, rfl, e1, l, _⟩ := h.tuple gh
      exact .inl ⟨_, _, rfl, .inr ⟨vs, e1, rfl⟩, by rw [l.length]; exact q.val gh (.int _)⟩
    | dict ds =>
      simp only [lenD] at he; cases he
      obtain ⟨p, vs, rfl, e1, l⟩ := h.dict gh
      exact .inr ⟨p, vs, rfl, e1, by rw [l.length]; exact q.val gh (.int _)⟩
    | _ => simp [lenD] at he
  | [], [], _ => simp [lenD] at he
  | _ :: _ :: _, _ :: _ :: _, _ => simp [lenD] at he
  | [], _ :: _, h => exact h.elim
  | _ :: _, [], h => exact h.elim
  | [_], _ :: _ :: _, h => exact h.2.elim
  | _ :: _ :: _, [_], h => exact h.2.elim
def absD : List D → Option D
  | [.int i] => some (.int (if i < 0 then -i else i))
  | _ => none
theorem tops1 {K : PySem.W.Frag} {C : Ct} {H G : Hp} {P : Addr → Prop} {xs : List V} {d : D} (h : AtTops K C H G P xs [d]) : ∃ x, xs = [x] ∧ AtTop K C H G P x d := by
  match xs, h with
  | [x], h => exact ⟨x, rfl, h.1⟩
  | [], h => exact h.elim
  | _ :: _ :: _, h => exact h.2.elim
theorem tops2 {K : PySem.W.Frag} {C : Ct} {H G : Hp} {P : Addr → Prop} {xs : List V} {d d' : D} (h : AtTops K C H G P xs [d, d']) : ∃ x y, xs = [x, y] ∧ AtTop K C H G P x d ∧ AtTop K C H G P y d' := by
  match xs, h with
  | [x, y], h => exact ⟨x, y, rfl, h.1, h.2.1⟩
  | [], h => exact h.elim
  | [_], h => exact h.2.elim
  | _ :: _ :: _ :: _, h => exact h.2.2.elim
theorem prim_abs {K : PySem.W.Frag} : PrimCA K (fun xs H Q => ∃ i, xs = [.int i] ∧ Q (.int (if i < 0 then -i else i)) H) absD := by
  intro C H G P xs ds e Q gh hP h he q
  unfold absD at he
  split at he
  · cases he
    obtain ⟨x, rfl, hh⟩ := tops1 h
    exact ⟨_, by rw [hh.int], q.val gh (.int _)⟩
  · cases he
def intD : List D → Option D
  | [.int i] => some (.int i)
  | [.bool b] => some (.int (if b then 1 else 0))
  | _ => none
theorem prim_int {K : PySem.W.Frag} : PrimCA K (fun xs H Q => (∃ i, xs = [.int i] ∧ Q (.int i) H) ∨ ∃ k, xs = [.bl k] ∧ Q (.int (if k then 1 else 0)) H) intD := by
  intro C H G P xs ds e Q gh hP h he q
  unfold intD at he
  split at he
  · cases he
    obtain ⟨x, rfl, hh⟩ := tops1 h
    exact .inl ⟨_, by rw [hh.int], q.val gh (.int _)⟩
  · cases he
    obtain ⟨x, rfl, hh⟩ := tops1 h
    exact .inr ⟨_, by rw [hh.bool], q.val gh (.int _)⟩
  · cases he
def max2D : List D → Option D
  | [.int i, .int j] => some (.int (if j > i then j else i))
  | _ => none
def min2D : List D → Option D
  | [.int i, .int j] => some (.int (if j < i then j else i))
  | _ => none
theorem prim_max2 {K : PySem.W.Frag} : PrimCA K (fun xs H Q => ∃ i j, xs = [.int i, .int j] ∧ Q (.int (if j > i then j else i)) H) max2D := by
  intro C H G P xs ds e Q gh hP h he q
  unfold max2D at he
  split at he
  · cases he
    obtain ⟨x, y, rfl, h, h'⟩ := tops2 h
    exact ⟨_, _, by rw [h.int, h'.int], q.val gh (.int _)⟩
  · cases he
theorem prim_min2 {K : PySem.W.Frag} : PrimCA K (fun xs H Q => ∃ i j, xs = [.int i, .int j] ∧ Q (.int (if j < i then j else i)) H) min2D := by
  intro C H G P xs ds e Q gh hP h he q
  unfold min2D at he
  split at he
  · cases he
    obtain ⟨x, y, rfl, h, h'⟩ := tops2 h
    exact ⟨_, _, by rw [h.int, h'.int], q.val gh (.int _)⟩
  · cases he
/-- the ints of a list -/
def intsD : List D → Option (List Int)
  | [] => some []
  | .int i :: r => (intsD r).map (i :: ·)
  | _ :: _ => none
theorem intsD_eq : ∀ {ds : List D} {ns : List Int}, intsD ds = some ns → ds = ns.map PyData.int
  | [], ns, h => by simp [intsD] at h; subst h; rfl
  | d :: r, ns, h => by
    cases d <;> simp [intsD] at h
    obtain ⟨ms, e, rfl⟩ := h
    rw [intsD_eq e]; rfl
theorem intsD_map : ∀ ns : List Int, intsD (ns.map PyData.int) = some ns
  | [] => rfl
  | n :: ns => by simp [intsD, intsD_map ns]
def maxI : List Int → Int
  | [] => 0
  | [n] => n
  | n :: m :: r => max n (maxI (m :: r))
def minI : List Int → Int
  | [] => 0
  | [n] => n
  | n :: m :: r => min n (minI (m :: r))
theorem maxI_spec : ∀ {ns : List Int}, 0 < ns.length → maxI ns ∈ ns ∧ ∀ y ∈ ns, y ≤ maxI ns
  | [], h => absurd h (by simp)
  | [n], _ => by simp [maxI]
  | n :: m :: r, _ => by
    obtain ⟨h1, h2⟩ := maxI_spec (ns := m :: r) (by simp)
    have hm : maxI (n :: m :: r) = max n (maxI (m :: r)) := rfl
    rw [hm]
    refine ⟨?_, fun y hy => ?_⟩
    · by_cases h : n ≤ maxI (m :: r)
      · rw [Int.max_eq_right h]; exact List.mem_cons_of_mem _ h1
      · rw [Int.max_eq_left (by omega)]; exact List.mem_cons_self
    · rcases List.mem_cons.mp hy with rfl | hy
      · omega
      · have := h2 y hy; omega
theorem minI_spec : ∀ {ns : List Int}, 0 < ns.length → minI ns ∈ ns ∧ ∀ y ∈ ns, minI ns ≤ y
  | [], h => absurd h (by simp)
  | [n], _ => by simp [minI]
  | n :: m :: r, _ => by
    obtain ⟨h1, h2⟩ := minI_spec (ns := m :: r) (by simp)
    have hm : minI (n :: m :: r) = min n (minI (m :: r)) := rfl
    rw [hm]
    refine ⟨?_, fun y hy => ?_⟩
    · by_cases h : n ≤ minI (m :: r)
      · rw [Int.min_eq_left h]; exact List.mem_cons_self
      · rw [Int.min_eq_right (by omega)]; exact List.mem_cons_of_mem _ h1
    · rcases List.mem_cons.mp hy with rfl | hy
      · omega
      · have := h2 y hy; omega
def maxD : List D → Option D
  | [.list ds] => (intsD ds).bind fun ns => if 0 < ns.length then some (.int (maxI ns)) else none
  | _ => none
def minD : List D → Option D
  | [.list ds] => (intsD ds).bind fun ns => if 0 < ns.length then some (.int (minI ns)) else none
  | _ => none
def sumD : List D → Option D
  | [.list ds] => (intsD ds).map fun ns => .int ns.sum
  | _ => none
theorem prim_max {K : PySem.W.Frag} : PrimCA K (rMax K) maxD := by
  intro C H G P xs ds e Q gh hP h he q
  unfold maxD at he
  split at he
  · rename_i ds
    cases hn : intsD ds with
    | none => rw [hn] at he; cases he
    | some ns =>
      rw [hn] at he
      have he : (if 0 < ns.length then some (PyData.int (maxI ns)) else none) = some e := he
      split at he
      · rename_i hl
        cases he
        obtain ⟨x, rfl, hh⟩ := tops1 h
        obtain ⟨p, vs, rfl, e1, l⟩ := hh.list gh
        rw [intsD_eq hn] at l
        have ev := l.ints
        subst ev
        refine ⟨p, ns, rfl, .inl (.inl e1), hl, fun m hm hle => ?_⟩
        obtain ⟨s1, s2⟩ := maxI_spec hl
        have : m = maxI ns := Int.le_antisymm (s2 m hm) (hle _ s1)
        rw [this]
        exact q.val gh (.int _)
      · cases he
  · cases he
theorem prim_min {K : PySem.W.Frag} : PrimCA K (rMin K) minD := by
  intro C H G P xs ds e Q gh hP h he q
  unfold minD at he
  split at he
  · rename_i ds
    cases hn : intsD ds with
    | none => rw [hn] at he; cases he
    | some ns =>
      rw [hn] at he
      have he : (if 0 < ns.length then some (PyData.int (minI ns)) else none) = some e := he
      split at he
      · rename_i hl
        cases he
        obtain ⟨x, rfl, hh⟩ := tops1 h
        obtain ⟨p, vs, rfl, e1, l⟩ := hh.list gh
        rw [intsD_eq hn] at l
        have ev := l.ints
        subst ev
        refine ⟨p, ns, rfl, .inl (.inl e1), hl, fun m hm hle => ?_⟩
        obtain ⟨s1, s2⟩ := minI_spec hl
        have : m = minI ns := Int.le_antisymm (hle _ s1) (s2 m hm)
        rw [this]
        exact q.val gh (.int _)
      · cases he
  · cases he
theorem prim_sum {K : PySem.W.Frag} : PrimCA K (rSum K) sumD := by
  intro C H G P xs ds e Q gh hP h he q
  unfold sumD at he
  split at he
  · rename_i ds
    cases hn : intsD ds with
    | none => rw [hn] at he; cases he
    | some ns =>
      rw [hn] at he; cases he
      obtain ⟨x, rfl, hh⟩ := tops1 h
      obtain ⟨p, vs, rfl, e1, l⟩ := hh.list gh
      rw [intsD_eq hn] at l
      have ev := l.ints
      subst ev
      exact ⟨p, ns, rfl, .inl (.inl e1), q.val gh (.int _)⟩
  · cases he
def boolsD : List D → Option (List Bool)
  | [] => some []
  | .bool i :: r => (boolsD r).map (i :: ·)
  | _ :: _ => none
theorem boolsD_eq : ∀ {ds : List D} {ns : List Bool}, boolsD ds = some ns → ds = ns.map PyData.bool
  | [], ns, h => by simp [boolsD] at h; subst h; rfl
  | d :: r, ns, h => by
    cases d <;> simp [boolsD] at h
    obtain ⟨ms, e, rfl⟩ := h
    rw [boolsD_eq e]; rfl
theorem boolsD_map : ∀ ns : List Bool, boolsD (ns.map PyData.bool) = some ns
  | [] => rfl
  | n :: ns => by simp [boolsD, boolsD_map ns]
def allD : List D → Option D
  | [.list ds] => (boolsD ds).map fun bs => .bool (bs.all id)
  | _ => none
def anyD : List D → Option D
  | [.list ds] => (boolsD ds).map fun bs => .bool (bs.any id)
  | _ => none
theorem prim_all {K : PySem.W.Frag} : PrimCA K (rAll K) allD := by
  intro C H G P xs ds e Q gh hP h he q
  unfold allD at he
  split at he
  · rename_i ds
    cases hn : boolsD ds with
    | none => rw [hn] at he; cases he
    | some ns =>
      rw [hn] at he; cases he
      obtain ⟨x, rfl, hh⟩ := tops1 h
      obtain ⟨p, vs, rfl, e1, l⟩ := hh.list gh
      rw [boolsD_eq hn] at l
      have ev := l.bools
      subst ev
      exact ⟨p, ns, rfl, .inl (.inl e1), q.val gh (.bl _)⟩
  · cases he
theorem prim_any {K : PySem.W.Frag} : PrimCA K (rAny K) anyD := by
  intro C H G P xs ds e Q gh hP h he q
  unfold anyD at he
  split at he
  · rename_i ds
    cases hn : boolsD ds with
    | none => rw [hn] at he; cases he
    | some ns =>
      rw [hn] at he; cases he
      obtain ⟨x, rfl, hh⟩ := tops1 h
      obtain ⟨p, vs, rfl, e1, l⟩ := hh.list gh
      rw [boolsD_eq hn] at l
      have ev := l.bools
      subst ev
      exact ⟨p, ns, rfl, .inl (.inl e1), q.val gh (.bl _)⟩
  · cases he
/-- list(x), tuple(x) -/
def itemsD : List D → Option (List D)
  | [.list ds] => some ds
  | [.tuple ds] => some ds
  | [.dict kds] => some (kds.map (·.1))
  | _ => none
def rListAll (K : PySem.W.Frag) : List V → Hp → VK → Prop := fun xs H Q => (∃ p ys, xs = [.ref p] ∧ (SqL K H p ys ∨ SqT K H p ys) ∧ ∀ l, H l = none → Q (.ref l) (upd H l (.lst ys))) ∨ rListD xs H Q
theorem call_listAll (hc : X.calm = true) : CallR X (.type "list") (rListAll X.K) := call_list_of.or (call_list_dK hc)
def tupleD : List D → Option D
  | [.list ds] => some (.tuple ds)
  | [.tuple ds] => some (.tuple ds)
  | _ => none
theorem prim_tuple {K : PySem.W.Frag} : PrimCA K (fun xs H Q => ∃ p ys, xs = [.ref p] ∧ ((SqL K H p ys ∧ ∀ l, H l = none → Q (.ref l) (upd H l (.tup ys))) ∨ (SqT K H p ys ∧ Q (.ref p) H))) tupleD := by
  intro C H G P xs ds e Q gh hP h he q
  unfold tupleD at he
  split at he
  · cases he
    obtain ⟨x, rfl, hh⟩ := tops1 h
    obtain ⟨p, vs, rfl, e1, l⟩ := hh.list gh
    exact ⟨p, vs, rfl, .inl ⟨.inl (.inl e1), fun a ha => q.newT gh l ha⟩⟩
  · cases he
    obtain ⟨x, rfl, hh⟩ := tops1 h
    obtain ⟨p, vs, rfl, e1, l, a⟩ := hh.tuple gh
    exact ⟨p, vs, rfl, .inr ⟨e1, q.val gh a⟩⟩
  · cases he
/-- sorted: ints by value, texts by their signs -/
def sortI (ns : List Int) : List Int := ns.mergeSort fun a b => decide (a ≤ b)
theorem sortI_perm (ns : List Int) : (sortI ns).Perm ns := List.mergeSort_perm _ _
theorem sortI_sorted (ns : List Int) : (sortI ns).Pairwise (· ≤ ·) := by
  have h := List.pairwise_mergeSort (le := fun a b : Int => decide (a ≤ b)) (fun a b c h1 h2 => by simp at *; omega) (fun a b => by simp; omega) ns
  exact h.imp fun z => by simpa using z
theorem sortI_of {ns ms : List Int} (h : ms.Perm ns) (s : ms.Pairwise (· ≤ ·)) : ms = sortI ns :=
  List.Perm.eq_of_pairwise (fun a b _ _ h1 h2 => Int.le_antisymm h1 h2) s (sortI_sorted ns) (h.trans (sortI_perm ns).symm)
end
end PD

namespace PD
open PySem L2
inductive SR where
  | nx (ρ : Rho) (S : SS)
  | bk (ρ : Rho) (S : SS)
  | ct (ρ : Rho) (S : SS)
  | rt (d : D) (S : SS)
  | exc (c : String) (p : D) (S : SS)
  | stk
abbrev SDen := Rho → SS → SR
def Res.sr {α : Type} (r : Res α) (k : α → Rho → SS → SR) : SR :=
  match r with
  | .ok a ρ S => k a ρ S
  | .exc c p S => .exc c p S
  | .stk => .stk
@[simp] theorem Res.sr_ok {α : Type} (a : α) (ρ : Rho) (S : SS) (k : α → Rho → SS → SR) : (Res.ok a ρ S).sr k = k a ρ S := rfl
@[simp] theorem Res.sr_exc {α : Type} (c : String) (p : D) (S : SS) (k : α → Rho → SS → SR) : (Res.exc c p S : Res α).sr k = .exc c p S := rfl
@[simp] theorem Res.sr_stk {α : Type} (k : α → Rho → SS → SR) : (Res.stk : Res α).sr k = .stk := rfl
/-- the tags behind the statement, at continue, at break -/
structure Tg where
  n : List Tag
  c : List Tag
  b : List Tag
def PostS (K : PySem.W.Frag) (ec : EC) (E : XK) (fr : Bool) (C : Ct) (T : Tg) (G : Hp) (r : SR) (Dn : Ends) : Prop :=
  match r with
  | .nx ρ S => ∀ σ H' G' N', Rel K C T.n ρ S σ H' G' N' → ExR G G' → Dn.nx σ H'
  | .ct ρ S => ∀ σ H' G' N', Rel K C T.c ρ S σ H' G' N' → ExR G G' → Dn.ct σ H'
  | .bk ρ S => ∀ σ H' G' N', Rel K C T.b ρ S σ H' G' N' → ExR G G' → Dn.bk σ H'
  | .rt d S => ∀ v H', StAt H' C.q C.c S → (∀ a o, C.H0 a = some o → a ≠ C.q → a ≠ C.c → H' a = some o) → At K (extG C.G0 C.H0 H') (Pf C fr) v d → Dn.rt v H'
  | .exc c p S => XW K ec E C c p S
  | .stk => False
theorem PostS.of {α : Type} {K : PySem.W.Frag} {ec : EC} {E : XK} {fr : Bool} {C : Ct} {T : Tg} {G : Hp} {r : Res α} {k : α → Rho → SS → SR} {Dn : Ends} (h : PostS K ec E fr C T G (r.sr k) Dn) : Post K ec E C r fun a ρ S => PostS K ec E fr C T G (k a ρ S) Dn := by
  cases r with
  | ok a ρ S => exact h
  | exc c p S => exact h
  | stk => exact h
theorem PostS.ge {K : PySem.W.Frag} {ec : EC} {E : XK} {fr : Bool} {C : Ct} {T : Tg} {G G1 : Hp} {r : SR} {Dn : Ends} (e : ExR G G1) (h : PostS K ec E fr C T G r Dn) : PostS K ec E fr C T G1 r Dn := by
  cases r with
  | nx ρ S => exact fun σ H' G' N' R z => h σ H' G' N' R (e.trans z)
  | ct ρ S => exact fun σ H' G' N' R z => h σ H' G' N' R (e.trans z)
  | bk ρ S => exact fun σ H' G' N' R z => h σ H' G' N' R (e.trans z)
  | rt d S => exact h
  | exc c p S => exact h
  | stk => exact h
/-- A STATEMENT; A BLOCK -/
def SJ (X : Cx) (ec : EC) (E : XK) (fr : Bool) (Γ : List Tag) (st : Stmt) (f : SDen) (T : Tg) : Prop :=
  ∃ t, PS X st t ∧ ∀ C ρ S σ H G N Dn, Rel X.K C Γ ρ S σ H G N → PostS X.K ec E fr C T G (f ρ S) Dn → t Dn σ H
def BJ (X : Cx) (ec : EC) (E : XK) (fr : Bool) (Γ : List Tag) (st : List Stmt) (f : SDen) (T : Tg) : Prop :=
  ∃ t, PSs X st t ∧ ∀ C ρ S σ H G N Dn, Rel X.K C Γ ρ S σ H G N → PostS X.K ec E fr C T G (f ρ S) Dn → t Dn σ H
def sNop : SDen := fun ρ S => .nx ρ S
def sNever : SDen := fun _ _ => .stk
def sSeq (f g : SDen) : SDen := fun ρ S => match f ρ S with
  | .nx ρ1 S1 => g ρ1 S1
  | r => r
section
variable {X : Cx} {ec : EC} {E : XK} {fr fr' : Bool} {Γ Γ' Γ1 : List Tag} {T : Tg} {e a b : Expr} {es : List Expr} {pos : Pos} {st : Stmt} {rest : List Stmt} {f g : SDen}
theorem bj_nil : BJ X ec E fr T.n [] sNop T := ⟨_, pss_nil, fun C ρ S σ H G N Dn R p => p σ H G N R (ExR.refl _)⟩
theorem bj_cons {Γm : List Tag} (h : SJ X ec E fr Γ st f { T with n := Γm }) (h' : BJ X ec E fr Γm rest g T) : BJ X ec E fr Γ (st :: rest) (sSeq f g) T := by
  obtain ⟨t, ps, r⟩ := h
  obtain ⟨u, pss, r'⟩ := h'
  refine ⟨_, pss_cons ps pss, fun C ρ S σ H G N Dn R p => ?_⟩
  refine r C ρ S σ H G N { Dn with nx := u Dn } R ?_
  unfold sSeq at p
  cases q : f ρ S with
  | nx ρ1 S1 =>
    rw [q] at p
    exact fun σ1 H1 G1 N1 R1 e1 => r' C ρ1 S1 σ1 H1 G1 N1 Dn R1 (p.ge e1)
  | ct ρ1 S1 => rw [q] at p; exact p
  | bk ρ1 S1 => rw [q] at p; exact p
  | rt d S1 => rw [q] at p; exact p
  | exc c p' S1 => rw [q] at p; exact p
  | stk => rw [q] at p; exact p
theorem bj_one (h : SJ X ec E fr Γ st f T) : BJ X ec E fr Γ [st] f T := by
  obtain ⟨t, ps, r⟩ := h
  exact ⟨_, pss_one ps, r⟩
/-- what is never come to -/
theorem bj_never : BJ X ec E fr Γ rest sNever T := ⟨_, pss_never, fun C ρ S σ H G N Dn R p => p.elim⟩
theorem sj_never : SJ X ec E fr Γ st sNever T := ⟨_, ps_never, fun C ρ S σ H G N Dn R p => p.elim⟩
theorem sj_pass : SJ X ec E fr T.n (.Pass pos) sNop T := ⟨_, ps_pass, fun C ρ S σ H G N Dn R p => p σ H G N R (ExR.refl _)⟩
def sBrk : SDen := fun ρ S => .bk ρ S
def sCnt : SDen := fun ρ S => .ct ρ S
theorem sj_break : SJ X ec E fr T.b (.Break pos) sBrk T := ⟨_, ps_break, fun C ρ S σ H G N Dn R p => p σ H G N R (ExR.refl _)⟩
theorem sj_continue : SJ X ec E fr T.c (.Continue pos) sCnt T := ⟨_, ps_continue, fun C ρ S σ H G N Dn R p => p σ H G N R (ExR.refl _)⟩
/-- tags forgotten ahead of a statement, of a block -/
theorem sj_tags (h : SJ X ec E fr Γ1 st f T) (l : tagsLe Γ Γ1 = true) : SJ X ec E fr Γ st f T := by
  obtain ⟨t, ps, r⟩ := h
  exact ⟨t, ps, fun C ρ S σ H G N Dn R p => r C ρ S σ H G N Dn (R.tags l) p⟩
theorem bj_tags (h : BJ X ec E fr Γ1 rest f T) (l : tagsLe Γ Γ1 = true) : BJ X ec E fr Γ rest f T := by
  obtain ⟨t, ps, r⟩ := h
  exact ⟨t, ps, fun C ρ S σ H G N Dn R p => r C ρ S σ H G N Dn (R.tags l) p⟩
/-- what a slot owns comes to rest ahead of a block, of a statement -/
theorem bj_frz {i : Nat} (hi : Γ[i]? = some (.own fr')) (h : BJ X ec E fr (Γ.set i (.val fr')) rest f T) : BJ X ec E fr Γ rest f T := by
  obtain ⟨t, ps, r⟩ := h
  refine ⟨t, ps, fun C ρ S σ H G N Dn R p => ?_⟩
  obtain ⟨G', N', e, R'⟩ := R.freeze hi
  exact r C ρ S σ H G' N' Dn R' (p.ge e)
theorem sj_frz {i : Nat} (hi : Γ[i]? = some (.own fr')) (h : SJ X ec E fr (Γ.set i (.val fr')) st f T) : SJ X ec E fr Γ st f T := by
  obtain ⟨t, ps, r⟩ := h
  refine ⟨t, ps, fun C ρ S σ H G N Dn R p => ?_⟩
  obtain ⟨G', N', e, R'⟩ := R.freeze hi
  exact r C ρ S σ H G' N' Dn R' (p.ge e)

/-! ### stores -/
def sAsg (f : Den D) (t : Tgt) : SDen := fun ρ S => (f ρ S).sr fun d ρ1 S1 => match bindT t d ρ1 with
  | some ρ2 => .nx ρ2 S1
  | none => .stk
theorem sj_asg {tg : Expr} {d : Den D} {t : Tgt} {pu : Bool} (h : EJ X ec E Γ e d (.val fr') pu) (hg : GJ X tg t) (ht : tagT t fr' Γ = T.n) (hs : swapsWithSole [tg] e pos.line X.env = pure false := by rfl) (hw : swappedStores [tg] e X.env = pure none := by rfl)
    (h1 : (assignEach [tg] X.env).map (·.2) = [assign tg X.env] := by rfl) : SJ X ec E fr Γ (.Assign [tg] e pos) (sAsg d t) T := by
  obtain ⟨te, pe, r⟩ := h
  obtain ⟨g, pg, rg⟩ := hg
  refine ⟨_, ps_asg pe pg hs hw h1, fun C ρ S σ H G N Dn R p => ?_⟩
  refine r C ρ S σ H G N _ R (p.of.mono fun d ρ1 S1 p1 v H1 G1 N1 R1 x1 o1 => ?_)
  cases q : bindT t d ρ1 with
  | none => rw [q] at p1; exact (show False from p1).elim
  | some ρ2 =>
    rw [q] at p1
    have p1 : PostS X.K ec E fr C T G (.nx ρ2 S1) Dn := p1
    exact rg C Γ ρ1 S1 σ H1 G1 N1 fr' v d ρ2 _ R1 o1 q fun σ2 R2 _ => p1 σ2 H1 G1 N1 (by rw [ht] at R2; exact R2) x1.ge
theorem Rel.own_new {K : PySem.W.Frag} {C : Ct} {ρ ρ1 : Rho} {S S1 : SS} {σ : L2.St} {H H1 G G1 : Hp} {N N1 : Nat → Addr → Prop} {i : Nat} {v : V} {d : D} (R : Rel K C Γ ρ S σ H G N) (R1 : Rel K C Γ ρ1 S1 σ H1 G1 N1) (hi : i < Γ.length) (o : ValOk K C H H1 G1 N1 (.new fr') v d) :
    ∃ N2, Rel K C (Γ.set i (.own fr')) (ρ1.set i (some d)) S1 (σ.set i (some v)) H1 G1 N2 := by
  obtain ⟨p, rfl, hp, hg, hn, ow⟩ := o
  exact ⟨_, R1.setOwn hi hg (R.h0 hp) hn ow⟩
/-- x = a new list, a new dict -/
theorem sj_own {x : Str} {xp : Pos} {d : Den D} {i : Nat} {pu : Bool} (h : EJ X ec E Γ e d (.new fr') pu) (hN : X.N.Nodup) (hi : X.N[i]? = some x) (hx : Loc X.env.scope x) (hf : X.fn x = true ∨ X.env.scope.names.lookup x = some .local) (hl : i < Γ.length) (ht : Γ.set i (.own fr') = T.n)
    (hs : swapsWithSole [.Name x xp] e pos.line X.env = pure false := by rfl) (hw : swappedStores [.Name x xp] e X.env = pure none := by rfl) (h1 : (assignEach [.Name x xp] X.env).map (·.2) = [assign (.Name x xp) X.env] := by rfl) :
    SJ X ec E fr Γ (.Assign [.Name x xp] e pos) (sAsg d (.nm i)) T := by
  obtain ⟨te, pe, r⟩ := h
  refine ⟨_, ps_asg pe (pg_name hN hi hx hf) hs hw h1, fun C ρ S σ H G N Dn R p => ?_⟩
  refine r C ρ S σ H G N _ R (p.of.mono fun d ρ1 S1 p1 v H1 G1 N1 R1 x1 o1 => ?_)
  obtain ⟨N2, R2⟩ := Rel.own_new R R1 hl o1
  have p1 : PostS X.K ec E fr C T G (.nx (ρ1.set i (some d)) S1) Dn := by simpa [bindT] using p1
  exact p1 _ H1 G1 N2 (by rw [ht] at R2; exact R2) x1.ge
/-! several at once -/
def Mode.tag : Mode → Tag
  | .val fr => .val fr
  | .new fr => .own fr
  | _ => .dead
def setTags : List Nat → List Mode → List Tag → List Tag
  | i :: is, m :: ms, Γ => setTags is ms (Γ.set i m.tag)
  | _, _, Γ => Γ
def setSlots : List Nat → List D → Rho → Rho
  | i :: is, d :: ds, ρ => setSlots is ds (ρ.set i (some d))
  | _, _, ρ => ρ
def setVals : List Nat → List V → L2.St → L2.St
  | i :: is, v :: vs, σ => setVals is vs (σ.set i (some v))
  | _, _, σ => σ
def parModes : List Mode → Bool
  | [] => true
  | .val _ :: r => parModes r
  | .new _ :: r => parModes r
  | _ => false
theorem Rel.sets {K : PySem.W.Frag} {C : Ct} {Hh : Hp} : ∀ {is : List Nat} {ms : List Mode} {vs : List V} {ds : List D} {Γ : List Tag} {ρ : Rho} {S : SS} {σ : L2.St} {H G : Hp} {N : Nat → Addr → Prop}, Rel K C Γ ρ S σ H G N → (∀ a, Hh a = none → C.H0 a = none) → parModes ms = true → is.length = ms.length → (∀ i ∈ is, i < Γ.length) →
    ValsOk K C Hh H G N ms vs ds → ∃ N', Rel K C (setTags is ms Γ) (setSlots is ds ρ) S (setVals is vs σ) H G N'
  | [], [], [], [], _, _, _, _, _, _, N, R, _, _, _, _, _ => ⟨N, R⟩
  | i :: is, m :: ms, v :: vs, d :: ds, Γ, ρ, S, σ, H, G, N, R, h0, hm, hl, hi, ok => by
    obtain ⟨o, dj, ok'⟩ := ok
    cases m with
    | val fr =>
      have R2 := R.setVal (i := i) o
      have z := Rel.sets (is := is) (ms := ms) (vs := vs) (ds := ds) R2 h0 hm (by simpa using hl) (fun j hj => by rw [List.length_set]; exact hi j (List.mem_cons_of_mem _ hj)) ok'
      exact z
    | new fr =>
      obtain ⟨p, rfl, hp, hg, hn, ow⟩ := o
      have R2 := R.setOwn (hi i List.mem_cons_self) hg (h0 p hp) hn ow
      have go := fun ok'' => Rel.sets (is := is) (ms := ms) (vs := vs) (ds := ds) R2 h0 hm (by simpa using hl) (fun j hj => by rw [List.length_set]; exact hi j (List.mem_cons_of_mem _ hj)) ok''
      refine go ?_
      -- the others are still nobody's
      have up : ∀ {ms : List Mode} {vs : List V} {ds : List D}, (∀ w ∈ newsOf ms vs, w ≠ V.ref p) → ValsOk K C Hh H G N ms vs ds → ValsOk K C Hh H G (fun j a => if j = i then a = p else N j a) ms vs ds := by
        intro ms
        induction ms with
        | nil => intro vs ds _ h; cases vs <;> cases ds <;> first | exact h | exact h.elim
        | cons m ms ih =>
          intro vs ds hw h
          cases vs with
          | nil => exact h.elim
          | cons v vs =>
            cases ds with
            | nil => exact h.elim
            | cons d ds =>
              refine ⟨?_, h.2.1, ih (fun w z => hw w (by
                unfold newsOf
                split
                · exact List.mem_cons_of_mem _ z
                · exact z)) h.2.2⟩
              cases m with
              | new fr2 =>
                obtain ⟨p2, e2, hp2, hg2, hn2, ow2⟩ := h.1
                refine ⟨p2, e2, hp2, hg2, fun j z => ?_, ow2⟩
                by_cases hj : j = i
                · simp only [hj, if_true] at z
                  exact hw v (by simp [newsOf, Mode.isNew]) (by rw [e2, z])
                · simp only [hj, if_false] at z; exact hn2 j z
              | _ => exact h.1
      exact up (dj rfl) ok'
    | _ => cases hm
  | [], _ :: _, _, _, _, _, _, _, _, _, _, _, _, _, hl, _, _ => by simp at hl
  | _ :: _, [], _, _, _, _, _, _, _, _, _, _, _, _, hl, _, _ => by simp at hl
  | [], [], _ :: _, _, _, _, _, _, _, _, _, _, _, _, _, _, ok => ok.elim
  | [], [], [], _ :: _, _, _, _, _, _, _, _, _, _, _, _, _, ok => ok.elim
  | _ :: _, _ :: _, [], _, _, _, _, _, _, _, _, _, _, _, _, _, ok => ok.elim
  | _ :: _, _ :: _, _ :: _, [], _, _, _, _, _, _, _, _, _, _, _, _, ok => ok.elim
def sPar (f : Den (List D)) (is : List Nat) : SDen := fun ρ S => (f ρ S).sr fun ds ρ1 S1 => .nx (setSlots is ds ρ1) S1
theorem ValsOk.length {K : PySem.W.Frag} {C : Ct} {H H' G' : Hp} {N' : Nat → Addr → Prop} : ∀ {ms : List Mode} {vs : List V} {ds : List D}, ValsOk K C H H' G' N' ms vs ds → vs.length = ms.length
  | [], [], [], _ => rfl
  | _ :: _, _ :: _, _ :: _, h => congrArg (· + 1) (ValsOk.length h.2.2)
  | [], _ :: _, _, h => h.elim
  | [], [], _ :: _, h => h.elim
  | _ :: _, [], _, h => h.elim
  | _ :: _, _ :: _, [], h => h.elim
theorem ValsOk.step {K : PySem.W.Frag} {C : Ct} {Γ Γ1 : List Tag} {ρ ρ1 : Rho} {S S1 : SS} {σ σ1 : L2.St} {Hh H1 H2 G G1 G2 : Hp} {N N1 N2 : Nat → Addr → Prop} (R : Rel K C Γ ρ S σ Hh G N) (R1 : Rel K C Γ1 ρ1 S1 σ1 H1 G1 N1) (x : Ext C H1 G1 N1 H2 G2 N2 true) : ∀ {ms : List Mode} {vs : List V} {ds : List D}, ValsOk K C Hh H1 G1 N1 ms vs ds → ValsOk K C Hh H2 G2 N2 ms vs ds
  | [], [], [], _ => trivial
  | m :: _, _ :: _, _ :: _, h => ⟨h.1.step R R1 x (by cases m <;> rfl), h.2.1, ValsOk.step R R1 x h.2.2⟩
  | [], _ :: _, _, h => h.elim
  | [], [], _ :: _, h => h.elim
  | _ :: _, [], _, h => h.elim
  | _ :: _, _ :: _, [], h => h.elim
/-- a, b = x, y: two plain local names -/
theorem sj_par2 {i j : Nat} {x y : Str} {a b : Expr} {px py pt : Pos} {kt k2 pt2} {d : Den (List D)} {m1 m2 : Mode} {pu : Bool} (hc : X.calm = true) (hN : X.N.Nodup) (hi : X.N[i]? = some x) (hj : X.N[j]? = some y) (hij : i ≠ j)
    (hx : X.env.scope.names.lookup x = some .local) (hy : X.env.scope.names.lookup y = some .local) (ha : AJ X ec E Γ [a, b] d [m1, m2] pu) (hm : parModes [m1, m2] = true) (hli : i < Γ.length) (hlj : j < Γ.length) (ht : setTags [i, j] [m1, m2] Γ = T.n)
    (hw : swappedStores [.Tuple [.Name x px, .Name y py] kt pt] (.Tuple [a, b] k2 pt2) X.env = pure (some [x, y]))
    (hs : swapsWithSole [.Tuple [.Name x px, .Name y py] kt pt] (.Tuple [a, b] k2 pt2) pos.line X.env = pure false := by rfl) :
    SJ X ec E fr Γ (.Assign [.Tuple [.Name x px, .Name y py] kt pt] (.Tuple [a, b] k2 pt2) pos) (sPar d [i, j]) T := by
  obtain ⟨ta, pa, r⟩ := ha
  refine ⟨_, ps_par hc hN hi hj hij hx hy pa hw hs, fun C ρ S σ H G N Dn R p => ?_⟩
  refine r C ρ S σ H G N _ R (p.of.mono fun ds ρ1 S1 p1 vs H1 G1 N1 R1 x1 o1 => ?_)
  obtain ⟨N2, R2⟩ := Rel.sets R1 (fun a z => R.h0 z) hm (is := [i, j]) rfl (by simp; exact ⟨hli, hlj⟩) o1
  have hl := o1.length
  match vs, hl with
  | [v, w], _ =>
    refine ⟨v, w, rfl, ?_⟩
    have p1 : PostS X.K ec E fr C T G (.nx (setSlots [i, j] ds ρ1) S1) Dn := p1
    exact p1 _ H1 G1 N2 (by rw [ht] at R2; exact R2) x1.ge
theorem sj_par3 {i j l : Nat} {x y z : Str} {a b c : Expr} {px py pz pt : Pos} {kt k2 pt2} {d : Den (List D)} {m1 m2 m3 : Mode} {pu : Bool} (hc : X.calm = true) (hN : X.N.Nodup) (hi : X.N[i]? = some x) (hj : X.N[j]? = some y) (hl : X.N[l]? = some z) (hij : i ≠ j) (hil : i ≠ l) (hjl : j ≠ l)
    (hx : X.env.scope.names.lookup x = some .local) (hy : X.env.scope.names.lookup y = some .local) (hz : X.env.scope.names.lookup z = some .local) (ha : AJ X ec E Γ [a, b, c] d [m1, m2, m3] pu) (hm : parModes [m1, m2, m3] = true) (hli : i < Γ.length) (hlj : j < Γ.length) (hll : l < Γ.length) (ht : setTags [i, j, l] [m1, m2, m3] Γ = T.n)
    (hw : swappedStores [.Tuple [.Name x px, .Name y py, .Name z pz] kt pt] (.Tuple [a, b, c] k2 pt2) X.env = pure (some [x, y, z]))
    (hs : swapsWithSole [.Tuple [.Name x px, .Name y py, .Name z pz] kt pt] (.Tuple [a, b, c] k2 pt2) pos.line X.env = pure false := by rfl) :
    SJ X ec E fr Γ (.Assign [.Tuple [.Name x px, .Name y py, .Name z pz] kt pt] (.Tuple [a, b, c] k2 pt2) pos) (sPar d [i, j, l]) T := by
  obtain ⟨ta, pa, r⟩ := ha
  refine ⟨_, ps_par3 hc hN hi hj hl hij hil hjl hx hy hz pa hw hs, fun C ρ S σ H G N Dn R p => ?_⟩
  refine r C ρ S σ H G N _ R (p.of.mono fun ds ρ1 S1 p1 vs H1 G1 N1 R1 x1 o1 => ?_)
  obtain ⟨N2, R2⟩ := Rel.sets R1 (fun a z => R.h0 z) hm (is := [i, j, l]) rfl (by simp; exact ⟨hli, hlj, hll⟩) o1
  have hl := o1.length
  match vs, hl with
  | [u, v, w], _ =>
    refine ⟨u, v, w, rfl, ?_⟩
    have p1 : PostS X.K ec E fr C T G (.nx (setSlots [i, j, l] ds ρ1) S1) Dn := p1
    exact p1 _ H1 G1 N2 (by rw [ht] at R2; exact R2) x1.ge
/-- names in a row as targets: each takes its value -/
inductive NmsG (X : Cx) : List Expr → List Nat → Prop where
  | nil : NmsG X [] []
  | cons {x : Str} {p : Pos} {i : Nat} {es : List Expr} {is : List Nat} (hN : X.N.Nodup) (hi : X.N[i]? = some x) (hx : Loc X.env.scope x) (hf : X.fn x = true ∨ X.env.scope.names.lookup x = some .local)
      (hs : (assignEach (.Name x p :: es) X.env).map (·.2) = assign (.Name x p) X.env :: (assignEach es X.env).map (·.2)) (r : NmsG X es is) : NmsG X (.Name x p :: es) (i :: is)
theorem nms_pg : ∀ {es : List Expr} {is : List Nat}, NmsG X es is → ∃ g, PGs X es g ∧ ∀ vs σ H Q, vs.length = is.length → Q (setVals is vs σ) H → g vs σ H Q
  | _, _, .nil => ⟨_, pgs_nil, fun vs σ H Q hl q => by
      cases vs with
      | nil => exact ⟨rfl, q⟩
      | cons _ _ => simp at hl⟩
  | _, _, .cons hN hi hx hf hs r => by
    obtain ⟨g, pg, rg⟩ := nms_pg r
    refine ⟨_, pgs_cons (pg_name hN hi hx hf) pg hs, fun vs σ H Q hl q => ?_⟩
    cases vs with
    | nil => simp at hl
    | cons v vs => exact ⟨v, vs, rfl, rg vs _ H Q (by simpa using hl) q⟩
/-- a, b, .. = x, y, ..: the tuple is made -/
theorem sj_parN {tgs : List Expr} {is : List Nat} {ms : List Mode} {kt k2 : Nat} {pt pt2 : Pos} {d : Den (List D)} {pu : Bool} (hc : X.calm = true) (hg : NmsG X tgs is) (ha : AJ X ec E Γ es d ms pu) (hm : parModes ms = true) (hlen : is.length = ms.length) (hsz : ms.length ≤ sizeLine) (hi : ∀ i ∈ is, i < Γ.length) (ht : setTags is ms Γ = T.n)
    (hn : (assignEach tgs X.env).length = is.length) (hst : (assignEach tgs X.env).findIdx? (·.1) = none)
    (hs : swapsWithSole [.Tuple tgs kt pt] (.Tuple es k2 pt2) pos.line X.env = pure false := by rfl) (hw : swappedStores [.Tuple tgs kt pt] (.Tuple es k2 pt2) X.env = pure none := by rfl)
    (h1 : (assignEach [.Tuple tgs kt pt] X.env).map (·.2) = [assign (.Tuple tgs kt pt) X.env] := by rfl) : SJ X ec E fr Γ (.Assign [.Tuple tgs kt pt] (.Tuple es k2 pt2) pos) (sPar d is) T := by
  obtain ⟨ta, pa, r⟩ := ha
  obtain ⟨g, pg, rg⟩ := nms_pg hg
  refine ⟨_, ps_asg (pe_tup pa) (pg_tup (n := is.length) hc pg hn hst) hs hw h1, fun C ρ S σ H G N Dn R p => ?_⟩
  refine r C ρ S σ H G N _ R (p.of.mono fun ds ρ1 S1 p1 vs H1 G1 N1 R1 x1 o1 => ?_)
  have hl := o1.length
  refine ⟨by rw [hl]; exact hsz, fun q hq => ?_⟩
  obtain ⟨h1, h2, h3, h4, h5⟩ := gupd R1.gh (o := .tup vs) hq
  obtain ⟨R3, x3⟩ := R1.grow h1 h2 h3 h4 h5
  obtain ⟨N2, R2⟩ := Rel.sets R3 (fun a z => R.h0 z) hm hlen hi (ValsOk.step R R1 x3 o1)
  refine ⟨q, vs, rfl, .inl (.inl upd_same), by rw [hl, hlen], rg vs σ _ _ (by rw [hl, hlen]) ?_⟩
  have p1 : PostS X.K ec E fr C T G (.nx (setSlots is ds ρ1) S1) Dn := p1
  exact p1 _ _ _ N2 (by rw [ht] at R2; exact R2) (x1.ge.trans x3.ge)

/-! ### returns, tests -/
theorem at_ext {K : PySem.W.Frag} {C : Ct} {ρ : Rho} {S : SS} {σ : L2.St} {H G : Hp} {N : Nat → Addr → Prop} {P : Addr → Prop} {v : V} {d : D} (R : Rel K C Γ ρ S σ H G N) (a : At K G P v d) : At K (extG C.G0 C.H0 H) P v d := by
  refine a.ext (ExR.of fun x o e => ?_)
  unfold extG
  cases q : C.H0 x with
  | none => exact R.gh x o e
  | some u =>
    show C.G0 x = some o
    cases z : C.G0 x with
    | none => exact absurd z (R.gn x (by rw [e]; simp) (by rw [q]; simp))
    | some o' =>
      have w := R.g0 x o' z
      rw [e] at w; cases w; rfl
def sRet (f : Den D) : SDen := fun ρ S => (f ρ S).sr fun d _ S1 => .rt d S1
theorem sj_ret {d : Den D} {pu : Bool} (h : EJ X ec E Γ e d (.val fr) pu) : SJ X ec E fr Γ (.Return (some e) pos) (sRet d) T := by
  obtain ⟨te, pe, r⟩ := h
  refine ⟨_, ps_ret pe, fun C ρ S σ H G N Dn R p => ?_⟩
  refine r C ρ S σ H G N _ R (p.of.mono fun d ρ1 S1 p1 v H1 G1 N1 R1 x1 o1 => ?_)
  have p1 : PostS X.K ec E fr C T G (.rt d S1) Dn := p1
  exact p1 v H1 R1.st R1.keep (at_ext R1 o1)
def sRetN : SDen := fun _ S => .rt .none S
theorem sj_retN : SJ X ec E fr Γ (.Return none pos) sRetN T := ⟨_, ps_retN, fun C ρ S σ H G N Dn R p => p .non H R.st R.keep .non⟩
def sExpr (f : Den D) : SDen := fun ρ S => (f ρ S).sr fun _ ρ1 S1 => .nx ρ1 S1
theorem sj_expr {d : Den D} {m : Mode} {pu : Bool} (h : EJ X ec E T.n e d m pu) (hs : swapsWith e none pos.line X.env = pure false := by rfl) : SJ X ec E fr T.n (.Expr e pos) (sExpr d) T := by
  obtain ⟨te, pe, r⟩ := h
  refine ⟨_, ps_expr pe hs, fun C ρ S σ H G N Dn R p => ?_⟩
  refine r C ρ S σ H G N _ R (p.of.mono fun d ρ1 S1 p1 v H1 G1 N1 R1 x1 o1 => ?_)
  have p1 : PostS X.K ec E fr C T G (.nx ρ1 S1) Dn := p1
  exact p1 σ H1 G1 N1 R1 x1.ge
def sIf (c : Den Bool) (f g : SDen) : SDen := fun ρ S => (c ρ S).sr fun b ρ1 S1 => if b then f ρ1 S1 else g ρ1 S1
theorem sj_if {c : Expr} {p q : List Stmt} {d : Den Bool} {pu : Bool} (hc : TJ X ec E Γ c d pu) (h1 : BJ X ec E fr Γ p f T) (h2 : BJ X ec E fr Γ q g T) : SJ X ec E fr Γ (.If c p q pos) (sIf d f g) T := by
  obtain ⟨tt, pt, r⟩ := hc
  obtain ⟨t, ps, r1⟩ := h1
  obtain ⟨u, pq, r2⟩ := h2
  refine ⟨_, ps_if pt ps pq, fun C ρ S σ H G N Dn R p => ?_⟩
  refine r C ρ S σ H G N _ R (p.of.mono fun b ρ1 S1 p1 H1 G1 N1 R1 x1 => ?_)
  cases b with
  | true =>
    show t Dn σ H1
    exact r1 C ρ1 S1 σ H1 G1 N1 Dn R1 (PostS.ge x1.ge p1)
  | false =>
    show u Dn σ H1
    exact r2 C ρ1 S1 σ H1 G1 N1 Dn R1 (PostS.ge x1.ge p1)
end
end PD

namespace PD
open PySem L2
section
variable {K : PySem.W.Frag} {C : Ct} {Γ Γ' Γ1 : List Tag} {ρ ρ' ρ1 : Rho} {S S' S1 : SS} {σ σ' σ1 : L2.St} {H H' H1 H2 G G' G1 G2 : Hp} {N N' N1 N2 : Nat → Addr → Prop}
/-- the frame as it was, where the heap has only gone on -/
theorem Rel.back (R : Rel K C Γ ρ S σ H G N) (R' : Rel K C Γ' ρ' S' σ' H' G' N') {M M' : Nat → Addr → Prop} (x : Ext C H G M H' G' M' true) : Rel K C Γ ρ S' σ H' G' N where
  st := R'.st
  st0 := R'.st0
  keep := R'.keep
  gh := R'.gh
  gs := R'.gs
  gt := R'.gt
  g0 := R'.g0
  gn := R'.gn
  nn := fun i a h => by
    obtain ⟨h1, h2, o, e, t⟩ := R.nn i a h
    refine ⟨?_, h2, o, x.same a o e (R.nq h).1 (R.nq h).2 (.inl rfl), t⟩
    cases q : G' a with
    | none => rfl
    | some u =>
      rcases x.gx a (by rw [q]; simp) with z | z
      · exact absurd h1 z
      · rw [e] at z; cases z
  dj := R.dj
  one := R.one
  lr := R.lr
  ls := R.ls
  sl := fun i t d h1 h2 h3 => by
    obtain ⟨v, e, s⟩ := R.sl i t d h1 h2 h3
    exact ⟨v, e, (s.heap (fun a z => R.nq z) R.st fun a o e h1 h2 => x.same a o e h1 h2 (.inl rfl)).frz x.ge⟩
/-- an object that is nobody's changes -/
theorem Rel.float (R : Rel K C Γ ρ S σ H G N) {p : Addr} {o : HO} (hg : G p = none) (h0 : C.H0 p = none) (hn : ∀ i, ¬ N i p) (to : isTupO o = false) : Rel K C Γ ρ S σ (upd H p o) G N := by
  have hq : C.q ≠ p := fun e => R.st0.1 (by rw [e]; exact h0)
  have hc : C.c ≠ p := fun e => R.st0.2 (by rw [e]; exact h0)
  have up : ∀ a, a ≠ p → (upd H p o) a = H a := fun a h => upd_ne h
  refine ⟨⟨R.st.1, by rw [up _ hq]; exact R.st.2.1, by rw [up _ hc]; exact R.st.2.2⟩, R.st0, fun a u e h1 h2 => by rw [up a (ne_of_none e h0)]; exact R.keep a u e h1 h2, fun a u e => by rw [up a (ne_of_none e hg)]; exact R.gh a u e, R.gs,
    fun a u e t => ?_, R.g0, R.gn, fun i a h => ?_, R.dj, R.one, R.lr, R.ls, fun i t d h1 h2 h3 => ?_⟩
  · by_cases h : a = p
    · subst h; rw [upd_same] at e; cases e; rw [to] at t; cases t
    · rw [up a h] at e; exact R.gt a u e t
  · have ne : a ≠ p := fun e => hn i (e ▸ h)
    rw [up a ne]; exact R.nn i a h
  · obtain ⟨v, e, s⟩ := R.sl i t d h1 h2 h3
    refine ⟨v, e, ?_⟩
    cases t with
    | dead => trivial
    | val fr => exact s
    | stm => exact s
    | own fr =>
      obtain ⟨p', ev, np, ow⟩ := s
      have ne : p' ≠ p := fun e => hn i (e ▸ np)
      refine ⟨p', ev, np, ?_⟩
      cases d with
      | list ds => obtain ⟨vs, z, l⟩ := ow; exact ⟨vs, by rw [up _ ne]; exact z, l⟩
      | dict ds => obtain ⟨vs, z, l⟩ := ow; exact ⟨vs, by rw [up _ ne]; exact z, l⟩
      | _ => exact ow
    | vol =>
      refine At.mono' (G := H) (G' := upd H p o) (fun a u z r => ?_) (fun a vs z r => by rw [up a (fun e => hn i (e ▸ z))]; exact r) (fun _ z => z) d v s
      have ne : a ≠ p := by
        rintro rfl
        rcases z with z | z
        · exact hn i z
        · rcases r with r | ⟨w, r⟩
          · rw [R.gt _ _ r z] at hg; cases hg
          · rw [R.gt _ _ r (show isTupO (.frz w u) = true from z)] at hg; cases hg
      exact r.imp (fun r => by rw [up a ne]; exact r) fun ⟨w, r⟩ => ⟨w, by rw [up a ne]; exact r⟩
def wipeR (ρ : Rho) : List Nat → Rho
  | [] => ρ
  | v :: vs => (wipeR ρ vs).set v none
theorem wipeR_length : ∀ (vs : List Nat), (wipeR ρ vs).length = ρ.length
  | [] => rfl
  | v :: vs => by unfold wipeR; rw [List.length_set, wipeR_length vs]
theorem wipeR_some {i : Nat} {d : D} : ∀ {vs : List Nat}, (wipeR ρ vs)[i]? = some (some d) → ρ[i]? = some (some d) ∧ i ∉ vs
  | [], h => ⟨h, by simp⟩
  | v :: vs, h => by
    unfold wipeR at h
    by_cases hi : v = i
    · subst hi
      by_cases hv : v < (wipeR ρ vs).length
      · rw [List.getElem?_set_self hv] at h; cases h
      · rw [List.getElem?_eq_none (by simpa using hv)] at h; cases h
    · rw [List.getElem?_set_ne hi] at h
      obtain ⟨h1, h2⟩ := wipeR_some h
      exact ⟨h1, by simp only [List.mem_cons, not_or]; exact ⟨fun e => hi e.symm, h2⟩⟩
theorem Rel.wipe (R : Rel K C Γ ρ S σ H G N) (vs : List Nat) : Rel K C Γ (wipeR ρ vs) S (L2.wipe σ vs) H G N := by
  refine ⟨R.st, R.st0, R.keep, R.gh, R.gs, R.gt, R.g0, R.gn, R.nn, R.dj, R.one, by rw [wipeR_length]; exact R.lr, by rw [wipe_length]; exact R.ls, fun i t d h1 h2 h3 => ?_⟩
  obtain ⟨e, hi⟩ := wipeR_some h3
  obtain ⟨v, ev, s⟩ := R.sl i t d h1 h2 e
  exact ⟨v, by rw [wipe_get hi]; exact ev, s⟩
end

/-! ### what is walked -/
structure IterOk (K : PySem.W.Frag) (G : Hp) (P : Addr → Prop) (J : It) (ds : List D) : Prop where
  ex : ∃ (Gd : Hp → Prop) (Y : Nat → Hp → V → Hp → Prop), Walk J ds.length Gd Y ∧ (∀ H2 G2, (∀ a o, G2 a = some o → H2 a = some o) → ExR G G2 → Gd H2) ∧
    ∀ i x H2 H2' G2 d Q, (∀ a o, G2 a = some o → H2 a = some o) → ExR G G2 → (∀ a, H2 a = none → P a) → Y i H2 x H2' → ds[i]? = some d → Any K H2 G2 P d Q → Q x H2'
def IJ (X : Cx) (ec : EC) (E : XK) (Γ : List Tag) (tg iter : Expr) (f : Den (List D)) (fr pu : Bool) : Prop :=
  ∃ wi, PI X tg iter wi ∧ ∀ C ρ S σ H G N R, Rel X.K C Γ ρ S σ H G N →
    Post X.K ec E C (f ρ S) (fun ds ρ' S' => ∀ J H' G' N', Rel X.K C Γ ρ' S' σ H' G' N' → Ext C H G N H' G' N' pu → IterOk X.K G' (Pf C fr) J ds → R J H') → wi σ H R
def dSeq (f : Den D) : Den (List D) := fun ρ S => (f ρ S).bind fun d ρ1 S1 => optR (seqD d) ρ1 S1
section
variable {X : Cx} {ec : EC} {E : XK} {fr fr' : Bool} {Γ Γ' Γ1 : List Tag} {T : Tg} {e a b tg iter : Expr} {es : List Expr} {pos : Pos} {st : Stmt} {rest body : List Stmt} {f g : SDen}
theorem iter_list {K : PySem.W.Frag} {G : Hp} {P : Addr → Prop} {a : Addr} {vs : List V} {ds : List D} (h : G a = some (.lst vs)) (l : AtL K G P vs ds) : IterOk K G P (Itl K a) ds :=
  ⟨fun H => SqL K H a vs, YAt vs, by rw [← l.length]; exact walk_list, fun H2 G2 gh e => .inl (.inl (gh _ _ (e.ls _ _ h))), fun i x H2 H2' G2 d Q gh e _ y hd q => by
    obtain ⟨rfl, hx⟩ := y
    obtain ⟨v, hv, a⟩ := l.get hd
    rw [hx] at hv; cases hv
    exact q.val gh (a.ext e)⟩
theorem iter_tup {K : PySem.W.Frag} {G : Hp} {P : Addr → Prop} {a : Addr} {vs : List V} {ds : List D} (h : SqT K G a vs) (l : AtL K G P vs ds) : IterOk K G P (Itt K a) ds :=
  ⟨fun H => SqT K H a vs, YAt vs, by rw [← l.length]; exact walk_tup, fun H2 G2 gh e => h.imp (fun h => rd_of gh (e.rd _ _ h)) id, fun i x H2 H2' G2 d Q gh e _ y hd q => by
    obtain ⟨rfl, hx⟩ := y
    obtain ⟨v, hv, a⟩ := l.get hd
    rw [hx] at hv; cases hv
    exact q.val gh (a.ext e)⟩
/-- over a list or a tuple -/
theorem ij_seq {d : Den D} {pu : Bool} (h : EJ X ec E Γ e d (.val fr) pu) : IJ X ec E Γ tg e (dSeq d) fr pu := by
  obtain ⟨te, pe, r⟩ := h
  refine ⟨_, PI.or (pi_list pe) (pi_tup pe), fun C ρ S σ H G N Rr R p => ?_⟩
  have key : ∀ (Q : VK), (∀ v H1 G1 N1 ds ρ1 S1, Rel X.K C Γ ρ1 S1 σ H1 G1 N1 → Ext C H G N H1 G1 N1 pu → (∀ J, IterOk X.K G1 (Pf C fr) J ds → Rr J H1) → ∀ dd, seqD dd = some ds → At X.K G1 (Pf C fr) v dd → Q v H1) → te σ H Q := fun Q k => by
    refine r C ρ S σ H G N Q R (p.bind.mono fun dd ρ1 S1 q1 v H1 G1 N1 R1 x1 o1 => ?_)
    obtain ⟨ds, hd, q⟩ := optR_post q1
    exact k v H1 G1 N1 ds ρ1 S1 R1 x1 (fun J ok => q J H1 G1 N1 R1 x1 ok) dd hd o1
  -- which of both it is hangs on the value: said by what the denotation gives
  cases hf : d ρ S with
  | stk => unfold dSeq at p; rw [hf] at p; exact p.elim
  | exc c pp S1 =>
    unfold dSeq at p; rw [hf] at p
    refine .inl (r C ρ S σ H G N _ R ?_)
    rw [hf]; exact p
  | ok dd ρ1 S1 =>
    unfold dSeq at p; rw [hf] at p
    obtain ⟨ds, hd, q⟩ := optR_post p
    rcases seqD_list hd with rfl | rfl
    · refine .inl (r C ρ S σ H G N _ R ?_)
      rw [hf]
      intro v H1 G1 N1 R1 x1 o1
      cases o1 with
      | @lst a vs _ h pa l => exact ⟨a, rfl, ⟨vs, .inl (.inl (R1.gh _ _ h))⟩, q _ H1 G1 N1 R1 x1 (iter_list h l)⟩
    · refine .inr (r C ρ S σ H G N _ R ?_)
      rw [hf]
      intro v H1 G1 N1 R1 x1 o1
      cases o1 with
      | @tup a vs _ h l => exact ⟨a, rfl, ⟨vs, h.imp (rd_of R1.gh) id⟩, q _ H1 G1 N1 R1 x1 (iter_tup h l)⟩
def rangeD (lo hi : Int) : List D := (List.range (hi - lo).toNat).map fun (i : Nat) => .int (lo + i)
def rng1D : List D → Option (List D)
  | [.int n] => if -(2 ^ 62) ≤ n ∧ n < 2 ^ 62 then some (rangeD 0 n) else none
  | _ => none
def rng2D : List D → Option (List D)
  | [.int m, .int n] => if -(2 ^ 62) ≤ m ∧ m < 2 ^ 62 ∧ -(2 ^ 62) ≤ n ∧ n < 2 ^ 62 then some (rangeD m n) else none
  | _ => none
theorem rangeD_length (lo hi : Int) : (rangeD lo hi).length = (hi - lo).toNat := by unfold rangeD; simp
theorem iter_range {K : PySem.W.Frag} {G : Hp} {P : Addr → Prop} {lo hi : Int} {n : Nat} (hn : n = (hi - lo).toNat) : IterOk K G P (Itr lo n) (rangeD lo hi) :=
  ⟨fun _ => True, YFn fun i => .int (lo + i), by rw [rangeD_length, ← hn]; exact walk_range, fun _ _ _ _ => trivial, fun i x H2 H2' G2 d Q gh e _ y hd q => by
    obtain ⟨rfl, rfl⟩ := y
    have hi := (List.getElem?_eq_some_iff.mp hd).1
    rw [rangeD_length] at hi
    have : d = .int (lo + i) := by
      unfold rangeD at hd
      rw [List.getElem?_map, List.getElem?_range hi] at hd
      exact (Option.some.inj hd).symm
    subst this
    exact q.val gh (.int _)⟩
def dIt (g : List D → Option (List D)) (fa : Den (List D)) : Den (List D) := fun ρ S => (fa ρ S).bind fun ds ρ1 S1 => optR (g ds) ρ1 S1
theorem ij_range1 {p : Pos} {fa : Den (List D)} {pu : Bool} (hg : Gl X "range") (hm : X.mg "range" = none) (ha : AJ X ec E Γ [a] fa [.top fr] pu) (hs : starEach [a] X.env = [(false, eval a X.env)] := by rfl) : IJ X ec E Γ tg (.Call (.Name "range" p) [a] [] pos) (dIt rng1D fa) fr' pu := by
  obtain ⟨ta, pa, r⟩ := ha
  refine ⟨_, pi_range1 hg hm pa hs, fun C ρ S σ H G N Rr R p => ?_⟩
  refine r C ρ S σ H G N _ R (p.bind.mono fun ds ρ1 S1 q1 vs H1 G1 N1 R1 x1 o1 => ?_)
  obtain ⟨es, he, q⟩ := optR_post q1
  unfold rng1D at he
  split at he
  · rename_i n
    split at he
    · rename_i hb
      cases he
      obtain ⟨x, rfl, h⟩ := tops1 (tops_of (n := 1) o1)
      exact ⟨n, by rw [h.int], hb.1, hb.2, q _ H1 G1 N1 R1 x1 (iter_range (by simp))⟩
    · cases he
  · cases he
theorem ij_range2 {p : Pos} {fa : Den (List D)} {pu : Bool} (hg : Gl X "range") (hm : X.mg "range" = none) (ha : AJ X ec E Γ [a, b] fa [.top fr, .top fr] pu) (hs : starEach [a, b] X.env = [(false, eval a X.env), (false, eval b X.env)] := by rfl) (hs2 : starEach [b] X.env = [(false, eval b X.env)] := by rfl) :
    IJ X ec E Γ tg (.Call (.Name "range" p) [a, b] [] pos) (dIt rng2D fa) fr' pu := by
  obtain ⟨ta, pa, r⟩ := ha
  refine ⟨_, pi_range2 hg hm pa hs hs2, fun C ρ S σ H G N Rr R p => ?_⟩
  refine r C ρ S σ H G N _ R (p.bind.mono fun ds ρ1 S1 q1 vs H1 G1 N1 R1 x1 o1 => ?_)
  obtain ⟨es, he, q⟩ := optR_post q1
  unfold rng2D at he
  split at he
  · rename_i m n
    split at he
    · rename_i hb
      cases he
      obtain ⟨x, y, rfl, h, h'⟩ := tops2 (tops_of (n := 2) o1)
      exact ⟨m, n, by rw [h.int, h'.int], hb, q _ H1 G1 N1 R1 x1 (iter_range rfl)⟩
    · cases he
  · cases he
def enumD : List D → Nat → List D
  | [], _ => []
  | d :: r, i => .tuple [.int (i : Nat), d] :: enumD r (i + 1)
theorem enumD_length : ∀ (ds : List D) (i : Nat), (enumD ds i).length = ds.length
  | [], _ => rfl
  | _ :: r, i => by simp [enumD, enumD_length r]
theorem enumD_get : ∀ (ds : List D) (k i : Nat) (d : D), (enumD ds k)[i]? = some d → ∃ x, ds[i]? = some x ∧ d = .tuple [.int ((k + i : Nat) : Int), x]
  | [], _, _, _, h => by simp [enumD] at h
  | e :: r, k, 0, d, h => by simp [enumD] at h; subst h; exact ⟨e, rfl, by simp⟩
  | e :: r, k, i + 1, d, h => by
    obtain ⟨x, h1, h2⟩ := enumD_get r (k + 1) i d (by simpa [enumD] using h)
    exact ⟨x, by simpa using h1, by rw [h2]; congr 3; omega⟩
def zipD : List D → List D → List D
  | a :: r, b :: s => .tuple [a, b] :: zipD r s
  | _, _ => []
theorem zipD_length : ∀ (r s : List D), (zipD r s).length = min r.length s.length
  | [], s => by simp [zipD]
  | _ :: r, [] => by simp [zipD]
  | _ :: r, _ :: s => by simp [zipD, zipD_length r s]
theorem zipD_get : ∀ (r s : List D) (i : Nat) (d : D), (zipD r s)[i]? = some d → ∃ x y, r[i]? = some x ∧ s[i]? = some y ∧ d = .tuple [x, y]
  | [], s, _, _, h => by simp [zipD] at h
  | _ :: r, [], _, _, h => by simp [zipD] at h
  | a :: r, b :: s, 0, d, h => by simp [zipD] at h; subst h; exact ⟨a, b, rfl, rfl, rfl⟩
  | a :: r, b :: s, i + 1, d, h => zipD_get r s i d (by simpa [zipD] using h)
theorem any_pair {K : PySem.W.Frag} {H G : Hp} {P : Addr → Prop} {Q : VK} {d1 d2 : D} {v1 v2 : V} (gh : ∀ a o, G a = some o → H a = some o) (a1 : At K G P v1 d1) (a2 : At K G P v2 d2) (q : Any K H G P (.tuple [d1, d2]) Q) {T : Addr} (hT : H T = none) : Q (.ref T) (upd H T (.tup [v1, v2])) :=
  q.newT gh (.cons a1 (.cons a2 .nil)) hT
theorem iter_enum {K : PySem.W.Frag} {G : Hp} {P : Addr → Prop} {a : Addr} {vs : List V} {ds : List D} (h : G a = some (.lst vs)) (l : AtL K G P vs ds) : IterOk K G P (Ite K a) (enumD ds 0) :=
  ⟨fun H => SqL K H a vs, YPair (fun i => some (.int (i : Nat))) (fun i => vs[i]?), by rw [enumD_length, ← l.length]; exact walk_enum, fun H2 G2 gh e => .inl (.inl (gh _ _ (e.ls _ _ h))), fun i x H2 H2' G2 d Q gh e _ y hd q => by
    obtain ⟨TT, v1, v2, rfl, hT, rfl, e1, e2⟩ := y
    obtain ⟨z, hz, rfl⟩ := enumD_get _ _ _ _ hd
    obtain ⟨v, hv, a⟩ := l.get hz
    have e2 : vs[i]? = some v2 := e2
    rw [e2] at hv; cases hv
    cases e1
    exact any_pair gh (.int _) (a.ext e) (by simpa using q) hT⟩
theorem iter_zip {K : PySem.W.Frag} {G : Hp} {P : Addr → Prop} {a b : Addr} {vs ws : List V} {ds es : List D} (h : G a = some (.lst vs)) (h' : G b = some (.lst ws)) (l : AtL K G P vs ds) (l' : AtL K G P ws es) : IterOk K G P (Itz K a b) (zipD ds es) :=
  ⟨fun H => SqL K H a vs ∧ SqL K H b ws, YPair (fun i => vs[i]?) (fun i => ws[i]?), by rw [zipD_length, ← l.length, ← l'.length]; exact walk_zip rfl, fun H2 G2 gh e => ⟨.inl (.inl (gh _ _ (e.ls _ _ h))), .inl (.inl (gh _ _ (e.ls _ _ h')))⟩, fun i x H2 H2' G2 d Q gh e _ y hd q => by
    obtain ⟨TT, v1, v2, rfl, hT, rfl, e1, e2⟩ := y
    obtain ⟨z, w, hz, hw, rfl⟩ := zipD_get _ _ _ _ hd
    obtain ⟨v, hv, a⟩ := l.get hz
    obtain ⟨u, hu, a'⟩ := l'.get hw
    have e1 : vs[i]? = some v1 := e1
    have e2 : ws[i]? = some v2 := e2
    rw [e1] at hv; cases hv
    rw [e2] at hu; cases hu
    exact any_pair gh (a.ext e) (a'.ext e) q hT⟩
def enumL : List D → Option (List D)
  | [.list ds] => some (enumD ds 0)
  | _ => none
def zipL : List D → Option (List D)
  | [.list ds, .list es] => some (zipD ds es)
  | _ => none
theorem ij_enum {elts : List Expr} {kk : Nat} {p tpos : Pos} {fa : Den (List D)} {pu : Bool} (hg : Gl X "enumerate") (hm : X.mg "enumerate" = none) (ha : AJ X ec E Γ [a] fa [.val fr] pu) (hs : starEach [a] X.env = [(false, eval a X.env)] := by rfl) : IJ X ec E Γ (.Tuple elts kk tpos) (.Call (.Name "enumerate" p) [a] [] pos) (dIt enumL fa) fr pu := by
  obtain ⟨ta, pa, r⟩ := ha
  refine ⟨_, pi_enum hg hm pa hs, fun C ρ S σ H G N Rr R p => ?_⟩
  refine r C ρ S σ H G N _ R (p.bind.mono fun ds ρ1 S1 q1 vs H1 G1 N1 R1 x1 o1 => ?_)
  obtain ⟨es, he, q⟩ := optR_post q1
  unfold enumL at he
  split at he
  · cases he
    match vs, o1 with
    | [v], o1 =>
      obtain ⟨o1, _⟩ := o1
      cases o1 with
      | @lst a vs _ h pa l => exact ⟨a, vs, rfl, .inl (.inl (R1.gh _ _ h)), q _ H1 G1 N1 R1 x1 (iter_enum h l)⟩
    | [], o1 => exact o1.elim
    | _ :: _ :: _, o1 => exact o1.2.2.elim
  · cases he
theorem ij_zip {elts : List Expr} {kk : Nat} {p tpos : Pos} {fa : Den (List D)} {pu : Bool} (hg : Gl X "zip") (hm : X.mg "zip" = none) (ha : AJ X ec E Γ [a, b] fa [.val fr, .val fr] pu) (hs : starEach [a, b] X.env = (false, eval a X.env) :: starEach [b] X.env := by rfl) (hpl : (backTo pos (starEach [b] X.env)).any (·.1) = false := by rfl) :
    IJ X ec E Γ (.Tuple elts kk tpos) (.Call (.Name "zip" p) [a, b] [] pos) (dIt zipL fa) fr pu := by
  obtain ⟨ta, pa, r⟩ := ha
  refine ⟨_, pi_zip hg hm pa hs hpl, fun C ρ S σ H G N Rr R p => ?_⟩
  refine r C ρ S σ H G N _ R (p.bind.mono fun ds ρ1 S1 q1 vs H1 G1 N1 R1 x1 o1 => ?_)
  obtain ⟨es, he, q⟩ := optR_post q1
  unfold zipL at he
  split at he
  · cases he
    match vs, o1 with
    | [v, w], o1 =>
      obtain ⟨o1, _, o2, _⟩ := o1
      cases o1 with
      | @lst a vs _ h pa l =>
        cases o2 with
        | @lst b ws _ h' pb l' => exact ⟨a, b, vs, ws, rfl, .inl (.inl (R1.gh _ _ h)), .inl (.inl (R1.gh _ _ h')), q _ H1 G1 N1 R1 x1 (iter_zip h h' l l')⟩
    | [], o1 => exact o1.elim
    | [_], o1 => exact o1.2.2.elim
    | _ :: _ :: _ :: _, o1 => exact o1.2.2.2.2.elim
  · cases he

/-! ### for -/
def forL (t : Tgt) (body : SDen) : List D → SDen
  | [], ρ, S => .nx ρ S
  | d :: ds, ρ, S => match bindT t d ρ with
    | none => .stk
    | some ρ1 => match body ρ1 S with
      | .nx ρ2 S2 => forL t body ds ρ2 S2
      | .ct ρ2 S2 => forL t body ds ρ2 S2
      | .bk ρ2 S2 => .nx ρ2 S2
      | .rt d S2 => .rt d S2
      | .exc c p S2 => .exc c p S2
      | .stk => .stk
def sFor (f : Den (List D)) (t : Tgt) (body : SDen) : SDen := fun ρ S => (f ρ S).sr fun ds ρ1 S1 => forL t body ds ρ1 S1
theorem sj_for {it : Den (List D)} {t : Tgt} {pu : Bool} (hc : X.calm = true) (hp : PassesOwn (model X.prog X.w) X.A X.env X.xe) (hi : IJ X ec E T.n tg iter it fr' pu) (hg : GJ X tg t) (hb : BJ X ec E fr (tagT t fr' T.n) body g ⟨T.n, T.n, T.n⟩)
    (hs : ∀ x, foldedSetIterable iter X.env x = pure x := by intro _; rfl) : SJ X ec E fr T.n (.For tg iter body [] pos) (sFor it t g) T := by
  obtain ⟨wi, pi, r⟩ := hi
  obtain ⟨gg, pg, rg⟩ := hg
  obtain ⟨tb, pb, rb⟩ := hb
  refine ⟨_, ps_for hp hc pi pg pb hs, fun C ρ S σ H G N Dn R p => ?_⟩
  refine r C ρ S σ H G N _ R (p.of.mono fun ds ρ1 S1 q1 J H1 G1 N1 R1 x1 ok => ?_)
  obtain ⟨Gd, Y, w, hGd, hY⟩ := ok.ex
  refine for_it w (fun i σ2 H2 => ∃ ρ2 S2 G2 N2, Rel X.K C T.n ρ2 S2 σ2 H2 G2 N2 ∧ ExR G1 G2 ∧ PostS X.K ec E fr C T G1 (forL t g (ds.drop i) ρ2 S2) Dn) ⟨ρ1, S1, G1, N1, R1, ExR.refl _, q1.ge x1.ge⟩ (fun i σ2 H2 _ ⟨ρ2, S2, G2, N2, R2, e2, _⟩ => hGd H2 G2 R2.gh e2) ?_ ?_
  · rintro i x σ2 H2 H2' hi ⟨ρ2, S2, G2, N2, R2, e2, q2⟩ y
    have hd : ds[i]? = some ds[i] := by simp [hi]
    rw [List.drop_eq_getElem_cons hi] at q2
    refine hY i x H2 H2' G2 ds[i] (fun v H' => gg v σ2 H' _) R2.gh e2 (fun a z => R2.pf z) y hd fun v H3 G3 h1 h2 h3 h4 h5 at' => ?_
    obtain ⟨R3, x3⟩ := R2.grow h1 h2 h3 h4 h5
    unfold forL at q2
    cases q : bindT t ds[i] ρ2 with
    | none => rw [q] at q2; exact (show False from q2).elim
    | some ρ3 =>
      rw [q] at q2
      refine rg C T.n ρ2 S2 σ2 H3 G3 N2 fr' v ds[i] ρ3 _ R3 at' q fun σ4 R4 _ => ?_
      refine rb C ρ3 S2 σ4 H3 G3 N2 _ R4 ?_
      have e3 : ExR G1 G3 := e2.trans x3.ge
      cases qb : g ρ3 S2 with
      | nx ρ5 S5 =>
        simp only [qb] at q2
        exact fun σ5 H5 G5 N5 R5 e5 => ⟨ρ5, S5, G5, N5, R5, e3.trans e5, q2⟩
      | ct ρ5 S5 =>
        simp only [qb] at q2
        exact fun σ5 H5 G5 N5 R5 e5 => ⟨ρ5, S5, G5, N5, R5, e3.trans e5, q2⟩
      | bk ρ5 S5 =>
        simp only [qb] at q2
        exact fun σ5 H5 G5 N5 R5 e5 => (show PostS X.K ec E fr C T G1 (.nx ρ5 S5) Dn from q2) σ5 H5 G5 N5 R5 (e3.trans e5)
      | rt d S5 => simp only [qb] at q2; exact q2
      | exc c p S5 => simp only [qb] at q2; exact q2
      | stk => simp only [qb] at q2; exact q2
  · rintro σ2 H2 ⟨ρ2, S2, G2, N2, R2, e2, q2⟩
    rw [List.drop_length] at q2
    exact (show PostS X.K ec E fr C T G1 (.nx ρ2 S2) Dn from q2) σ2 H2 G2 N2 R2 e2
/-! ### while -/
def whileL (c : Den Bool) (body : SDen) : Nat → SDen
  | 0, _, _ => .stk
  | n + 1, ρ, S => (c ρ S).sr fun b ρ1 S1 => if b then match body ρ1 S1 with
      | .nx ρ2 S2 => whileL c body n ρ2 S2
      | .ct ρ2 S2 => whileL c body n ρ2 S2
      | .bk ρ2 S2 => .nx ρ2 S2
      | .rt d S2 => .rt d S2
      | .exc c p S2 => .exc c p S2
      | .stk => .stk
    else .nx ρ1 S1
def sWhile (n : Rho → SS → Nat) (c : Den Bool) (body : SDen) : SDen := fun ρ S => whileL c body (n ρ S) ρ S
theorem sj_while {c : Expr} {d : Den Bool} {n : Rho → SS → Nat} {pu : Bool} (hp : PassesOwn (model X.prog X.w) X.A X.env X.xe) (hc : TJ X ec E T.n c d pu) (hb : BJ X ec E fr T.n body g ⟨T.n, T.n, T.n⟩) : SJ X ec E fr T.n (.While c body [] pos) (sWhile n d g) T := by
  obtain ⟨tt, pt, r⟩ := hc
  obtain ⟨tb, pb, rb⟩ := hb
  refine ⟨_, ps_while hp pt pb, fun C ρ S σ H G N Dn R p => ?_⟩
  refine ⟨fun m σ2 H2 => ∃ ρ2 S2 G2 N2, Rel X.K C T.n ρ2 S2 σ2 H2 G2 N2 ∧ ExR G G2 ∧ PostS X.K ec E fr C T G (whileL d g m ρ2 S2) Dn, ⟨n ρ S, ρ, S, G, N, R, ExR.refl _, p⟩, ?_⟩
  rintro m σ2 H2 ⟨ρ2, S2, G2, N2, R2, e2, q2⟩
  cases m with
  | zero => exact (show False from q2).elim
  | succ m =>
    unfold whileL at q2
    refine r C ρ2 S2 σ2 H2 G2 N2 _ R2 (q2.of.mono fun b ρ3 S3 q3 H3 G3 N3 R3 x3 => ?_)
    have e3 : ExR G G3 := e2.trans x3.ge
    cases b with
    | false => exact (show PostS X.K ec E fr C T G (.nx ρ3 S3) Dn from q3) σ2 H3 G3 N3 R3 e3
    | true =>
      refine ⟨fun σ4 H4 => ∃ ρ4 S4 G4 N4, Rel X.K C T.n ρ4 S4 σ4 H4 G4 N4 ∧ ExR G G4 ∧ PostS X.K ec E fr C T G (whileL d g m ρ4 S4) Dn, fun σ' H' z => ⟨m, Nat.lt_succ_self m, z⟩, ?_⟩
      refine rb C ρ3 S3 σ2 H3 G3 N3 _ R3 ?_
      simp only [if_true] at q3
      cases qb : g ρ3 S3 with
      | nx ρ5 S5 =>
        simp only [qb] at q3
        exact fun σ5 H5 G5 N5 R5 e5 => ⟨ρ5, S5, G5, N5, R5, e3.trans e5, q3⟩
      | ct ρ5 S5 =>
        simp only [qb] at q3
        exact fun σ5 H5 G5 N5 R5 e5 => ⟨ρ5, S5, G5, N5, R5, e3.trans e5, q3⟩
      | bk ρ5 S5 =>
        simp only [qb] at q3
        exact fun σ5 H5 G5 N5 R5 e5 => (show PostS X.K ec E fr C T G (.nx ρ5 S5) Dn from q3) σ5 H5 G5 N5 R5 (e3.trans e5)
      | rt d S5 => simp only [qb] at q3; exact q3
      | exc c p S5 => simp only [qb] at q3; exact q3
      | stk => simp only [qb] at q3; exact q3
end
end PD

namespace PD
open PySem L2
/-! ### readings that hang on nothing of the context but K -/
def teD (K : PySem.W.Frag) (ec : EC) (E : XK) (Γ : List Tag) (f : Den D) (m : Mode) (pu : Bool) : TE := fun σ H Q => ∃ C ρ S G N, Rel K C Γ ρ S σ H G N ∧
  Post K ec E C (f ρ S) (fun d ρ' S' => ∀ v H' G' N', Rel K C Γ ρ' S' σ H' G' N' → Ext C H G N H' G' N' pu → ValOk K C H H' G' N' m v d → Q v H')
def ttD (K : PySem.W.Frag) (ec : EC) (E : XK) (Γ : List Tag) (f : Den Bool) (pu : Bool) : TT := fun σ H Q => ∃ C ρ S G N, Rel K C Γ ρ S σ H G N ∧
  Post K ec E C (f ρ S) (fun b ρ' S' => ∀ H' G' N', Rel K C Γ ρ' S' σ H' G' N' → Ext C H G N H' G' N' pu → Q b H')
def tgD (K : PySem.W.Frag) (T : Tgt) : TG := fun v σ H Q => ∃ C Γ ρ S G N fr d ρ', Rel K C Γ ρ S σ H G N ∧ At K G (Pf C fr) v d ∧ bindT T d ρ = some ρ' ∧
  (∀ σ', Rel K C (tagT T fr Γ) ρ' S σ' H G N → SlotsEq (slotsT T) σ σ' → Q σ' H)
def tiD (K : PySem.W.Frag) (ec : EC) (E : XK) (Γ : List Tag) (f : Den (List D)) (fr pu : Bool) : TI := fun σ H R => ∃ C ρ S G N, Rel K C Γ ρ S σ H G N ∧
  Post K ec E C (f ρ S) (fun ds ρ' S' => ∀ J H' G' N', Rel K C Γ ρ' S' σ H' G' N' → Ext C H G N H' G' N' pu → IterOk K G' (Pf C fr) J ds → R J H')
section
variable {X : Cx} {ec : EC} {E : XK} {fr fr' : Bool} {Γ Γ' Γ1 : List Tag} {T : Tg} {e a b tg iter elt : Expr} {es ifs : List Expr} {pos : Pos} {pu : Bool} {scope : Scope}
theorem EJ.pe {f : Den D} {m : Mode} (h : EJ X ec E Γ e f m pu) : PE X e (teD X.K ec E Γ f m pu) := by
  obtain ⟨te, pe, r⟩ := h
  exact ⟨fun pins s σ H Q I ⟨C, ρ, S, G, N, R, p⟩ => pe.run pins s σ H Q I (r C ρ S σ H G N Q R p)⟩
theorem TJ.pt {f : Den Bool} (h : TJ X ec E Γ e f pu) : PT X e (ttD X.K ec E Γ f pu) := by
  obtain ⟨te, pe, r⟩ := h
  exact ⟨fun pins s σ H Q I ⟨C, ρ, S, G, N, R, p⟩ => pe.run pins s σ H Q I (r C ρ S σ H G N Q R p)⟩
theorem GJ.pg {t : Tgt} (h : GJ X tg t) : PG X tg (tgD X.K t) := by
  obtain ⟨g, pg, r⟩ := h
  exact ⟨fun pins s σ H v u Q I rv ⟨C, Γ, ρ, S, G, N, fr, d, ρ', R, a, b, k⟩ => pg.run pins s σ H v u Q I rv (r C Γ ρ S σ H G N fr v d ρ' Q R a b k)⟩
theorem IJ.pi {f : Den (List D)} (h : IJ X ec E Γ tg iter f fr pu) : PI X tg iter (tiD X.K ec E Γ f fr pu) := by
  obtain ⟨te, pe, r⟩ := h
  exact ⟨fun pins s σ H Q I ⟨C, ρ, S, G, N, R, p⟩ => pe.run pins s σ H Q I (r C ρ S σ H G N Q R p)⟩
/-- a clause's tests -/
def TsJ (X : Cx) (ec : EC) (E : XK) (Γ : List Tag) (ifs : List Expr) (f : Den Bool) (pu : Bool) : Prop := PTs X ifs (ttD X.K ec E Γ f pu)
def dYes : Den Bool := fun ρ S => .ok true ρ S
theorem tsj_nil : TsJ X ec E Γ [] dYes true := ⟨fun pins s σ H Q I ⟨C, ρ, S, G, N, R, p⟩ => pts_nil.run pins s σ H Q I (p H G N R Ext.refl)⟩
theorem tsj_one {f : Den Bool} (h : TJ X ec E Γ e f pu) : TsJ X ec E Γ [e] f pu := pts_one h.pt
def lcL (t : Tgt) (c : Den Bool) (f : Den D) (ρ : Rho) : List D → SS → Res (List D)
  | [], S => .ok [] ρ S
  | d :: ds, S => match bindT t d ρ with
    | none => .stk
    | some ρ1 => (c ρ1 S).bind fun b _ S1 => if b then (f ρ1 S1).bind fun y _ S2 => (lcL t c f ρ ds S2).bind fun ys _ S3 => .ok (y :: ys) ρ S3 else lcL t c f ρ ds S1
def dLc (it : Den (List D)) (t : Tgt) (c : Den Bool) (f : Den D) (vs : List Nat) : Den D := fun ρ S => (it ρ S).bind fun ds ρ1 S1 =>
  if ds.length ≤ sizeLine then (lcL t c f (wipeR ρ1 vs) ds S1).bind fun ys _ S2 => .ok (.list ys) ρ1 S2 else .stk
theorem Ext.reN {C : Ct} {H G H' G' : Hp} {N N' : Nat → Addr → Prop} (x : Ext C H G N H' G' N' pu) : Ext C H G N H' G' N pu := ⟨x.ge, x.gx, fun _ _ z => .inl z, x.dom, x.same⟩
theorem Ext.upd {C : Ct} {H G H' G' : Hp} {N N' : Nat → Addr → Prop} {p : Addr} {o : HO} (x : Ext C H G N H' G' N' pu) (hp : H p = none) : Ext C H G N (L2.upd H' p o) G' N' pu :=
  ⟨x.ge, x.gx, x.nx, fun a h => by
    by_cases e : a = p
    · subst e; exact absurd hp h
    · rw [upd_ne e]; exact x.dom a h, fun a u e h1 h2 z => by rw [upd_ne (ne_of_none e hp)]; exact x.same a u e h1 h2 z⟩
theorem Ext.gnone {C : Ct} {H G H' G' : Hp} {N N' : Nat → Addr → Prop} {p : Addr} (x : Ext C H G N H' G' N' pu) (h : H p ≠ none) (g : G p = none) : G' p = none := by
  cases q : G' p with
  | none => rfl
  | some o =>
    rcases x.gx p (by rw [q]; simp) with z | z
    · exact absurd g z
    · exact absurd z h
/-- the reading of a comprehension -/
theorem lc_read {it : Den (List D)} {t : Tgt} {c : Den Bool} {f : Den D} {vs : List Nat} {wi : TI} (hsl : ∀ i ∈ slotsT t, i ∈ vs)
    (r : ∀ C ρ S σ H G N R, Rel X.K C Γ ρ S σ H G N → Post X.K ec E C (it ρ S) (fun ds ρ' S' => ∀ J H' G' N', Rel X.K C Γ ρ' S' σ H' G' N' → Ext C H G N H' G' N' pu → IterOk X.K G' (Pf C fr) J ds → R J H') → wi σ H R)
    {C : Ct} {ρ : Rho} {S : SS} {σ : L2.St} {H G : Hp} {N : Nat → Addr → Prop} {Q : VK} (R : Rel X.K C Γ ρ S σ H G N)
    (p : Post X.K ec E C (dLc it t c f vs ρ S) (fun d ρ' S' => ∀ v H' G' N', Rel X.K C Γ ρ' S' σ H' G' N' → Ext C H G N H' G' N' pu → ValOk X.K C H H' G' N' (.new fr') v d → Q v H')) :
    tLc wi (tgD X.K t) (ttD X.K ec E (tagT t fr Γ) c true) (teD X.K ec E (tagT t fr Γ) f (.val fr') true) vs σ H Q := by
  refine r C ρ S σ H G N _ R (p.bind.mono fun ds ρ1 S1 q1 J H1 G1 N1 R1 x1 ok => ?_)
  obtain ⟨hlen, q1⟩ := ifR_post q1
  have q1 := q1.bind
  obtain ⟨Gd, Y, w, hGd, hY⟩ := ok.ex
  intro Da hD
  have hDq := R1.qn hD
  have hD0 := R1.h0 hD
  have Rw := R1.wipe vs
  refine lc_it w (fun i H2 => ∃ S2 G2 acc dacc, Rel X.K C Γ (wipeR ρ1 vs) S2 (wipe σ vs) H2 G2 N1 ∧ Ext C H1 G1 N1 H2 G2 N1 true ∧ H2 Da = some (.lst acc) ∧ G2 Da = none ∧ AtL X.K G2 (Pf C fr') acc dacc ∧ acc.length ≤ i ∧
    Post X.K ec E C (lcL t c f (wipeR ρ1 vs) (ds.drop i) S2) (fun ys _ S3 => ∀ v H' G' N', Rel X.K C Γ ρ1 S3 σ H' G' N' → Ext C H G N H' G' N' pu → ValOk X.K C H H' G' N' (.new fr') v (.list (dacc ++ ys)) → Q v H'))
    ⟨S1, G1, [], [], Rw.alloc hD rfl, ext_alloc hD, upd_same, R1.g0n hD, .nil, Nat.le_refl _, q1⟩ (fun i H2 _ ⟨S2, G2, acc, dacc, R2, x2, _⟩ => hGd H2 G2 R2.gh x2.ge) ?_ ?_
  · rintro i x H2 H2' hi ⟨S2, G2, acc, dacc, R2, x2, hacc, hg2, l2, hl2, q2⟩ y
    have hd : ds[i]? = some ds[i] := by simp [hi]
    rw [List.drop_eq_getElem_cons hi] at q2
    unfold lcL at q2
    refine hY i x H2 H2' G2 ds[i] (fun v H' => tgD X.K t v (wipe σ vs) H' _) R2.gh x2.ge (fun a z => R2.pf z) y hd fun v H3 G3 h1 h2 h3 h4 h5 at' => ?_
    obtain ⟨R3, x3⟩ := R2.grow h1 h2 h3 h4 h5
    have hacc3 : H3 Da = some (.lst acc) := h1 _ _ hacc
    have hg3 : G3 Da = none := x3.gnone (by rw [hacc]; simp) hg2
    cases q : bindT t ds[i] (wipeR ρ1 vs) with
    | none => simp only [q] at q2; exact (show False from q2).elim
    | some ρ3 =>
      simp only [q] at q2
      have q2 := q2.bind
      refine ⟨C, Γ, wipeR ρ1 vs, S2, G3, N1, fr, ds[i], ρ3, R3, at', q, fun σ4 R4 se => ⟨(wipe_eq se hsl).trans wipe_wipe, ?_⟩⟩
      refine ⟨C, ρ3, S2, G3, N1, R4, q2.mono fun bb ρ5 S5 q5 H5 G5 N5 R5 x5 => ?_⟩
      have hacc5 : H5 Da = some (.lst acc) := x5.same _ _ hacc3 hDq.1 hDq.2 (.inl rfl)
      have hg5 : G5 Da = none := x5.gnone (by rw [hacc3]; simp) hg3
      have x15 : Ext C H1 G1 N1 H5 G5 N1 true := ((x2.trans x3).trans x5).reN
      cases bb with
      | false =>
        simp only [Bool.false_eq_true, if_false] at q5 ⊢
        exact ⟨S5, G5, acc, dacc, R3.back R5 x5, x15, hacc5, hg5, (l2.ext x3.ge).ext x5.ge, Nat.le_succ_of_le hl2, q5⟩
      | true =>
        simp only [if_true] at q5 ⊢
        have q5 := q5.bind
        have R5' := R4.back R5 x5
        refine ⟨C, ρ3, S5, G5, N1, R5', q5.mono fun yd ρ6 S6 q6 vy H6 G6 N6 R6 x6 o6 => ?_⟩
        have hacc6 : H6 Da = some (.lst acc) := x6.same _ _ hacc5 hDq.1 hDq.2 (.inl rfl)
        have hg6 : G6 Da = none := x6.gnone (by rw [hacc5]; simp) hg5
        have x56 : Ext C H3 G3 N1 H6 G6 N6 true := x5.reN.trans x6
        have R7 : Rel X.K C Γ (wipeR ρ1 vs) S6 (wipe σ vs) H6 G6 N1 := R3.back R6 x56
        refine ⟨acc, hacc6, by omega, S6, G6, acc ++ [vy], dacc ++ [yd], R7.float hg6 hD0 (R1.n0 hD) rfl, ((x15.trans x6).reN).upd hD, upd_same, hg6, AtL.append (((l2.ext x3.ge).ext x5.ge).ext x6.ge) (.cons o6 .nil), by simp; omega, ?_⟩
        refine q6.bind.mono fun ys _ S7 q7 => ?_
        have q7 : ∀ v H' G' N', Rel X.K C Γ ρ1 S7 σ H' G' N' → Ext C H G N H' G' N' pu → ValOk X.K C H H' G' N' (.new fr') v (.list (dacc ++ (yd :: ys))) → Q v H' := q7
        intro v H' G' N' h8 h9 h10
        refine q7 v H' G' N' h8 h9 ?_
        have el : dacc ++ yd :: ys = dacc ++ [yd] ++ ys := by simp
        rw [el]; exact h10
  · rintro H2 ⟨S2, G2, acc, dacc, R2, x2, hacc, hg2, l2, hl2, q2⟩
    rw [List.drop_length] at q2
    have q2 : ∀ v H' G' N', Rel X.K C Γ ρ1 S2 σ H' G' N' → Ext C H G N H' G' N' pu → ValOk X.K C H H' G' N' (.new fr') v (.list (dacc ++ [])) → Q v H' := q2
    refine q2 _ H2 G2 N1 (R1.back R2 x2) ((x1.trans x2).weak fun z => by simp [z]) ⟨Da, rfl, ?_, hg2, R1.n0 hD, acc, hacc, by simpa using l2⟩
    cases qq : H Da with
    | none => rfl
    | some o => exact absurd hD (x1.dom Da (by rw [qq]; simp))
theorem ej_lc {own : List (Str × Nat)} {it : Den (List D)} {t : Tgt} {c : Den Bool} {f : Den D} (hc : X.calm = true) (hN : X.N.Nodup) (hi : IJ X ec E Γ tg iter it fr pu) (ok : BlkOk X.N X.env.scope scope own)
    (hg : ∀ (s : Shared) (H : Hp) (C : Addr) (cl : List (Str × Addr)) (fp : List Addr), GJ (X.blk s H scope (compEnvC scope cl C X.env) fp) tg t)
    (ht : ∀ (s : Shared) (H : Hp) (C : Addr) (cl : List (Str × Addr)) (fp : List Addr), TsJ (X.blk s H scope (compEnvC scope cl C X.env) fp) ec E (tagT t fr Γ) ifs c true)
    (he : ∀ (s : Shared) (H : Hp) (C : Addr) (cl : List (Str × Addr)) (fp : List Addr), EJ (X.blk s H scope (compEnvC scope cl C X.env) fp) ec E (tagT t fr Γ) elt f (.val fr') true)
    (hsl : ∀ i ∈ slotsT t, i ∈ own.map (·.2)) (hs : ∀ x, foldedSetIterable iter X.env x = pure x := by intro _; rfl) : EJ X ec E Γ (.ListComp elt [⟨tg, iter, ifs, 0⟩] scope pos) (dLc it t c f (own.map (·.2))) (.new fr') pu := by
  obtain ⟨wi, pi, r⟩ := hi
  exact ⟨_, pe_lc (g := tgD X.K t) (tt := ttD X.K ec E (tagT t fr Γ) c true) (te := teD X.K ec E (tagT t fr Γ) f (.val fr') true) hc hN pi ok (fun s H C cl fp => (hg s H C cl fp).pg) (fun s H C cl fp => ht s H C cl fp) (fun s H C cl fp => (he s H C cl fp).pe) hs, fun C ρ S σ H G N Q R p => lc_read hsl r R p⟩
/-- x = [..], x a plain local -/
theorem sj_lc {own : List (Str × Nat)} {it : Den (List D)} {t : Tgt} {c : Den Bool} {f : Den D} {i : Nat} {y : Str} {py spos : Pos} (hc : X.calm = true) (hN : X.N.Nodup) (hy : X.N[i]? = some y) (hyl : X.env.scope.names.lookup y = some .local) (hl : i < Γ.length) (htn : Γ.set i (.own fr') = T.n)
    (hsw : swapsWith (.ListComp elt [⟨tg, iter, ifs, 0⟩] scope pos) (some (.Name y py)) spos.line X.env = pure true) (hi : IJ X ec E Γ tg iter it fr pu) (ok : BlkOk X.N X.env.scope scope own)
    (hg : ∀ (s : Shared) (H : Hp) (C : Addr) (cl : List (Str × Addr)) (fp : List Addr), GJ (X.blk s H scope (compEnvC scope cl C X.env) fp) tg t)
    (ht : ∀ (s : Shared) (H : Hp) (C : Addr) (cl : List (Str × Addr)) (fp : List Addr), TsJ (X.blk s H scope (compEnvC scope cl C X.env) fp) ec E (tagT t fr Γ) ifs c true)
    (he : ∀ (s : Shared) (H : Hp) (C : Addr) (cl : List (Str × Addr)) (fp : List Addr), EJ (X.blk s H scope (compEnvC scope cl C X.env) fp) ec E (tagT t fr Γ) elt f (.val fr') true)
    (hsl : ∀ i ∈ slotsT t, i ∈ own.map (·.2)) {fr2 : Bool} (hs : ∀ x, foldedSetIterable iter X.env x = pure x := by intro _; rfl) : SJ X ec E fr2 Γ (.Assign [.Name y py] (.ListComp elt [⟨tg, iter, ifs, 0⟩] scope pos) spos) (sAsg (dLc it t c f (own.map (·.2))) (.nm i)) T := by
  obtain ⟨wi, pi, r⟩ := hi
  refine ⟨_, ps_setLc (g := tgD X.K t) (tt := ttD X.K ec E (tagT t fr Γ) c true) (te := teD X.K ec E (tagT t fr Γ) f (.val fr') true) hc hN hy hyl hsw pi ok (fun s H C cl fp => (hg s H C cl fp).pg) (fun s H C cl fp => ht s H C cl fp) (fun s H C cl fp => (he s H C cl fp).pe) hs, fun C ρ S σ H G N Dn R p => ?_⟩
  refine lc_read (fr' := fr') (Q := fun x H1 => gName i x σ H1 Dn.nx) hsl r R (p.of.mono fun d ρ1 S1 p1 v H1 G1 N1 R1 x1 o1 => ?_)
  obtain ⟨N2, R2⟩ := Rel.own_new R R1 hl o1
  have p1 : PostS X.K ec E fr2 C T G (.nx (ρ1.set i (some d)) S1) Dn := by simpa [bindT] using p1
  exact p1 _ H1 G1 N2 (by rw [htn] at R2; exact R2) x1.ge

/-! ### defs -/
def ArgsAt (K : PySem.W.Frag) (G : Hp) (q : Addr) : List Bool → List V → List D → Prop
  | [], [], [] => True
  | true :: ts, v :: vs, _ :: ds => v = .ref q ∧ ArgsAt K G q ts vs ds
  | false :: ts, v :: vs, d :: ds => At K G (fun _ => True) v d ∧ ArgsAt K G q ts vs ds
  | _, _, _ => False
/-- a def's promise: what its denotation says -/
def spD (K : PySem.W.Frag) (ec : EC) (ts : List Bool) (F : List D → SS → Res D) (fr : Bool) : Sp := fun vs H Q E => ∃ q c S G0 ds, StAt H q c S ∧ (∀ a o, G0 a = some o → H a = some o) ∧ G0 q = none ∧ G0 c = none ∧ (∀ a o, H a = some o → isTupO o = true → G0 a = some o) ∧ ArgsAt K G0 q ts vs ds ∧
  Post K ec E ⟨q, c, H, G0⟩ (F ds S) (fun d _ S' => ∀ v H', StAt H' q c S' → (∀ a o, H a = some o → a ≠ q → a ≠ c → H' a = some o) → At K (extG G0 H H') (Pf ⟨q, c, H, G0⟩ fr) v d → Q v H')
theorem ArgsAt.length {K : PySem.W.Frag} {G : Hp} {q : Addr} : ∀ {ts : List Bool} {vs : List V} {ds : List D}, ArgsAt K G q ts vs ds → vs.length = ts.length
  | [], [], [], _ => rfl
  | true :: _, _ :: _, _ :: _, h => congrArg (· + 1) (ArgsAt.length h.2)
  | false :: _, _ :: _, _ :: _, h => congrArg (· + 1) (ArgsAt.length h.2)
  | [], _ :: _, _, h => h.elim
  | [], [], _ :: _, h => h.elim
  | true :: _, [], _, h => h.elim
  | false :: _, [], _, h => h.elim
  | true :: _, _ :: _, [], h => h.elim
  | false :: _, _ :: _, [], h => h.elim
theorem ArgsAt.lengthD {K : PySem.W.Frag} {G : Hp} {q : Addr} : ∀ {ts : List Bool} {vs : List V} {ds : List D}, ArgsAt K G q ts vs ds → ds.length = ts.length
  | [], [], [], _ => rfl
  | true :: _, _ :: _, _ :: _, h => congrArg (· + 1) (ArgsAt.lengthD h.2)
  | false :: _, _ :: _, _ :: _, h => congrArg (· + 1) (ArgsAt.lengthD h.2)
  | [], _ :: _, _, h => h.elim
  | [], [], _ :: _, h => h.elim
  | true :: _, [], _, h => h.elim
  | false :: _, [], _, h => h.elim
  | true :: _, _ :: _, [], h => h.elim
  | false :: _, _ :: _, [], h => h.elim
def dCall (F : List D → SS → Res D) (fa : Den (List D)) : Den D := fun ρ S => (fa ρ S).bind fun ds ρ1 S1 => (F ds S1).bind fun d _ S2 => .ok d ρ1 S2
/-- may arguments so taken be handed in -/
def argModes (fr : Bool) : List Mode → List Bool → Bool
  | [], [] => true
  | .stm :: ms, true :: ts => argModes fr ms ts
  | .val _ :: ms, false :: ts => argModes fr ms ts
  | .deep :: ms, false :: ts => fr && argModes fr ms ts
  | .top _ :: ms, false :: ts => fr && argModes fr ms ts
  | _, _ => false
theorem arg_val {K : PySem.W.Frag} {C : Ct} {H1 G1 : Hp} {N1 : Nat → Addr → Prop} {ρ : Rho} {S : SS} {σ : L2.St} {P : Addr → Prop} {v : V} {d : D} (R1 : Rel K C Γ ρ S σ H1 G1 N1) (o : At K G1 P v d) : At K (if fr then noQ C H1 else G1) (fun _ => True) v d := by
  have a : At K G1 (fun _ => True) v d := At.weak (fun _ _ => trivial) o
  cases fr with
  | false => exact a
  | true => exact a.ext (ExR.of fun a o e => noQ_some (R1.gh a o e) (R1.gq (by rw [e]; simp)).1 (R1.gq (by rw [e]; simp)).2)
theorem arg_deep {K : PySem.W.Frag} {C : Ct} {H1 G1 : Hp} {v : V} {d : D} (h : fr = true) (o : At K (noQ C H1) (fun _ => True) v d) : At K (if fr then noQ C H1 else G1) (fun _ => True) v d := by
  subst h; exact o
theorem arg_top {f : Bool} {K : PySem.W.Frag} {C : Ct} {H1 G1 : Hp} {N1 : Nat → Addr → Prop} {ρ : Rho} {S : SS} {σ : L2.St} {v : V} {d : D} (R1 : Rel K C Γ ρ S σ H1 G1 N1) (o : AtTop K C H1 G1 (Pf C f) v d) : At K (noQ C H1) (fun _ => True) v d := by
  have up : ExR G1 (noQ C H1) := ExR.of fun a o e => noQ_some (R1.gh a o e) (R1.gq (by rw [e]; simp)).1 (R1.gq (by rw [e]; simp)).2
  rcases o with o | ⟨p, rfl, h1, h2, ow⟩
  · exact (At.weak (fun _ _ => trivial) o).ext up
  · cases d with
    | list ds => obtain ⟨vs, e, l⟩ := ow; exact .lst (noQ_some e h1 h2) trivial ((AtL.weak (fun _ _ => trivial) l).ext up)
    | dict ds => obtain ⟨vs, e, l⟩ := ow; exact .dic (.inl (noQ_some e h1 h2)) trivial ((AtK.weak (fun _ _ => trivial) l).ext up)
    | _ => exact ow.elim
theorem args_of {K : PySem.W.Frag} {C : Ct} {Hh H1 G1 : Hp} {N1 : Nat → Addr → Prop} {ρ : Rho} {S : SS} {σ : L2.St} (R1 : Rel K C Γ ρ S σ H1 G1 N1) : ∀ {ms : List Mode} {ts : List Bool} {vs : List V} {ds : List D}, argModes fr ms ts = true → ValsOk K C Hh H1 G1 N1 ms vs ds → ArgsAt K (if fr then noQ C H1 else G1) C.q ts vs ds
  | [], [], [], [], _, _ => trivial
  | .stm :: ms, true :: ts, v :: vs, d :: ds, h, o => ⟨o.1, args_of R1 (ms := ms) h o.2.2⟩
  | .val f :: ms, false :: ts, v :: vs, d :: ds, h, o => ⟨arg_val R1 o.1, args_of R1 (ms := ms) h o.2.2⟩
  | .deep :: ms, false :: ts, v :: vs, d :: ds, h, o => by
    have h : (fr && argModes fr ms ts) = true := h
    rw [Bool.and_eq_true] at h
    exact ⟨arg_deep h.1 o.1, args_of R1 (ms := ms) h.2 o.2.2⟩
  | .top f :: ms, false :: ts, v :: vs, d :: ds, h, o => by
    have h : (fr && argModes fr ms ts) = true := h
    rw [Bool.and_eq_true] at h
    exact ⟨arg_deep h.1 (arg_top R1 o.1), args_of R1 (ms := ms) h.2 o.2.2⟩
  | .top _ :: _, [], _, _, h, _ => by simp [argModes] at h
  | .top _ :: _, true :: _, _, _, h, _ => by simp [argModes] at h
  | .top _ :: _, false :: _, [], _, _, o => o.elim
  | .top _ :: _, false :: _, _ :: _, [], _, o => o.elim
  | .new _ :: _, ts, _, _, h, _ => by cases ts <;> (try rename_i b _; cases b) <;> simp [argModes] at h
  | [], _ :: _, _, _, h, _ => by simp [argModes] at h
  | .stm :: _, [], _, _, h, _ => by simp [argModes] at h
  | .val _ :: _, [], _, _, h, _ => by simp [argModes] at h
  | .deep :: _, [], _, _, h, _ => by simp [argModes] at h
  | .stm :: _, false :: _, _, _, h, _ => by simp [argModes] at h
  | .val _ :: _, true :: _, _, _, h, _ => by simp [argModes] at h
  | .deep :: _, true :: _, _, _, h, _ => by simp [argModes] at h
  | [], [], _ :: _, _, _, o => o.elim
  | [], [], [], _ :: _, _, o => o.elim
  | .stm :: _, true :: _, [], _, _, o => o.elim
  | .stm :: _, true :: _, _ :: _, [], _, o => o.elim
  | .val _ :: _, false :: _, [], _, _, o => o.elim
  | .val _ :: _, false :: _, _ :: _, [], _, o => o.elim
  | .deep :: _, false :: _, [], _, _, o => o.elim
  | .deep :: _, false :: _, _ :: _, [], _, o => o.elim
/-- behind a call: all new things are at rest -/
theorem Rel.called {K : PySem.W.Frag} {C : Ct} {ρ : Rho} {S S' : SS} {σ : L2.St} {H G H' : Hp} {N : Nat → Addr → Prop} (R : Rel K C Γ ρ S σ H G N) (st : StAt H' C.q C.c S') (hx : ∀ a o, H a = some o → a ≠ C.q → a ≠ C.c → H' a = some o) :
    Rel K C Γ ρ S' σ H' (extG G H H') N ∧ Ext C H G N H' (extG G H H') N true := by
  have gn : ∀ a, H a = none → extG G H H' a = H' a := fun a h => by unfold extG; rw [h]
  have gs : ∀ a o, H a = some o → extG G H H' a = G a := fun a o h => by unfold extG; rw [h]
  have gg : ∀ a o, G a = some o → extG G H H' a = some o := fun a o h => by rw [gs a o (R.gh a o h)]; exact h
  have gx : ∀ a, extG G H H' a ≠ none → G a ≠ none ∨ H a = none := fun a h => by
    cases q : H a with
    | none => exact .inr rfl
    | some o => rw [gs a o q] at h; exact .inl h
  refine ⟨⟨st, R.st0, fun a o e h1 h2 => hx a o (R.keep a o e h1 h2) h1 h2, fun a o e => ?_, ⟨by rw [gs _ _ R.st.2.1]; exact R.gs.1, by rw [gs _ _ R.st.2.2]; exact R.gs.2⟩, fun a o e t => ?_, fun a o e => gg a o (R.g0 a o e), fun a h1 h2 => ?_, fun i a h => ?_, R.dj, R.one, R.lr, R.ls, fun i t d h1 h2 h3 => ?_⟩,
    ⟨ExR.of gg, gx, fun _ _ z => .inl z, fun a h => ?_, fun a o e h1 h2 _ => hx a o e h1 h2⟩⟩
  · cases q : H a with
    | none => rw [gn a q] at e; exact e
    | some u =>
      rw [gs a u q] at e
      exact hx a o (R.gh a o e) (R.gq (by rw [e]; simp)).1 (R.gq (by rw [e]; simp)).2
  · cases q : H a with
    | none => rw [gn a q]; exact e
    | some u =>
      by_cases h1 : a = C.q
      · subst h1; rw [st.2.1] at e; cases e; cases t
      · by_cases h2 : a = C.c
        · subst h2; rw [st.2.2] at e; cases e; cases t
        · have z := hx a u q h1 h2
          rw [e] at z; cases z
          exact gg a o (R.gt a o q t)
  · rcases gx a h1 with z | z
    · exact R.gn a z h2
    · exact absurd (R.h0 z) h2
  · obtain ⟨z1, z2, o, z3, z4⟩ := R.nn i a h
    exact ⟨by rw [gs a o z3]; exact z1, z2, o, hx a o z3 (R.nq h).1 (R.nq h).2, z4⟩
  · obtain ⟨v, e, s⟩ := R.sl i t d h1 h2 h3
    exact ⟨v, e, (s.heap (fun a z => R.nq z) R.st hx).frz (ExR.of gg)⟩
  · cases q : H a with
    | none => exact absurd q h
    | some o =>
      by_cases h1 : a = C.q
      · subst h1; rw [st.2.1]; simp
      · by_cases h2 : a = C.c
        · subst h2; rw [st.2.2]; simp
        · rw [hx a o q h1 h2]; simp
theorem XW.up {K : PySem.W.Frag} {C : Ct} {ρ : Rho} {S S' : SS} {σ : L2.St} {H G : Hp} {N : Nat → Addr → Prop} {cn : String} {p : D} (R : Rel K C Γ ρ S σ H G N) (hG : ∀ a o, G a = some o → H a = some o) (h : XW K ec E C cn p S') : XW K ec E ⟨C.q, C.c, H, G⟩ cn p S' := by
  obtain ⟨ca, fld, he, k⟩ := h
  refine ⟨ca, fld, he, fun d v H' st hx hd hf a => ?_⟩
  refine k d v H' st (fun a o e h1 h2 => hx a o (R.keep a o e h1 h2) h1 h2) (R.h0 hd) hf ?_
  refine a.ext (ExR.of fun a o e => ?_)
  have e : extG G H H' a = some o := e
  unfold extG at e ⊢
  cases q : H a with
  | none =>
    rw [q] at e
    rw [R.h0 q]; exact e
  | some u =>
    rw [q] at e
    have e : G a = some o := e
    have g := R.gq (a := a) (by rw [e]; simp)
    cases q0 : C.H0 a with
    | none => exact hx a o (R.gh a o e) g.1 g.2
    | some u0 =>
      show C.G0 a = some o
      cases z : C.G0 a with
      | none => exact absurd z (R.gn a (by rw [e]; simp) (by rw [q0]; simp))
      | some o' => have w := R.g0 a o' z; rw [e] at w; cases w; rfl
theorem call_core {x : Expr} {F : List D → SS → Res D} {ts : List Bool} {ms : List Mode} {fa : Den (List D)} (mk : ∀ {ta}, PA X es ta → PE X x (tCall (spD X.K ec ts F fr) [] E ta)) (ha : AJ X ec E Γ es fa ms pu) (hm : argModes false ms ts = true) : EJ X ec E Γ x (dCall F fa) (.val fr) pu := by
  obtain ⟨ta, pa, r⟩ := ha
  refine ⟨_, mk pa, fun C ρ S σ H G N Q R p => ?_⟩
  refine r C ρ S σ H G N _ R (p.bind.mono fun ds ρ1 S1 q1 vs H1 G1 N1 R1 x1 o1 => ?_)
  have q1 := q1.bind
  show spD X.K ec ts F fr (vs ++ []) H1 Q E
  rw [List.append_nil]
  refine ⟨C.q, C.c, S1, G1, ds, R1.st, R1.gh, R1.gs.1, R1.gs.2, R1.gt, args_of (fr := false) R1 hm o1, ?_⟩
  cases hF : F ds S1 with
  | stk => rw [hF] at q1; exact q1
  | exc cn p S2 => rw [hF] at q1; exact XW.up R1 R1.gh q1
  | ok d ρ2 S2 =>
    rw [hF] at q1
    intro v H' st hx at'
    have q1 : ∀ v H' G' N', Rel X.K C Γ ρ1 S2 σ H' G' N' → Ext C H G N H' G' N' pu → ValOk X.K C H H' G' N' (.val fr) v d → Q v H' := q1
    obtain ⟨R3, x3⟩ := R1.called st hx
    refine q1 v H' _ N1 R3 ((x1.trans x3).weak fun z => by simp [z]) ?_
    refine At.weak (fun a z => ?_) at'
    cases fr with
    | false => exact trivial
    | true => exact R1.h0 z
/-- .. of a def that gives new things alone: what is handed in may be anything -/
theorem call_coreF {x : Expr} {F : List D → SS → Res D} {ts : List Bool} {ms : List Mode} {fa : Den (List D)} (mk : ∀ {ta}, PA X es ta → PE X x (tCall (spD X.K ec ts F true) [] E ta)) (ha : AJ X ec E Γ es fa ms pu) (hm : argModes true ms ts = true)
    (hE : ∀ c p S C, ¬ XW X.K ec E C c p S) : EJ X ec E Γ x (dCall F fa) (.val true) pu := by
  obtain ⟨ta, pa, r⟩ := ha
  refine ⟨_, mk pa, fun C ρ S σ H G N Q R p => ?_⟩
  refine r C ρ S σ H G N _ R (p.bind.mono fun ds ρ1 S1 q1 vs H1 G1 N1 R1 x1 o1 => ?_)
  have q1 := q1.bind
  show spD X.K ec ts F true (vs ++ []) H1 Q E
  rw [List.append_nil]
  refine ⟨C.q, C.c, S1, noQ C H1, ds, R1.st, fun a o e => (of_noQ e).1, by simp [noQ], by simp [noQ], fun a o e t => ?_, args_of (fr := true) R1 hm o1, ?_⟩
  · have g := R1.gt a o e t
    exact noQ_some e (R1.gq (by rw [g]; simp)).1 (R1.gq (by rw [g]; simp)).2
  cases hF : F ds S1 with
  | stk => rw [hF] at q1; exact q1
  | exc cn p S2 => rw [hF] at q1; exact absurd q1 (hE _ _ _ _)
  | ok d ρ2 S2 =>
    rw [hF] at q1
    intro v H' st hx at'
    have q1 : ∀ v H' G' N', Rel X.K C Γ ρ1 S2 σ H' G' N' → Ext C H G N H' G' N' pu → ValOk X.K C H H' G' N' (.val true) v d → Q v H' := q1
    obtain ⟨R3, x3⟩ := R1.called st hx
    refine q1 v H' _ N1 R3 ((x1.trans x3).weak fun z => by simp [z]) ?_
    have tupG : ∀ a o, isTupO o = true → extG (noQ C H1) H1 H' a = some o → extG G1 H1 H' a = some o := fun a o t e => by
      unfold extG at e ⊢
      cases q : H1 a with
      | none => rw [q] at e; exact e
      | some u =>
        rw [q] at e
        exact R1.gt a o (of_noQ e).1 t
    refine At.mono' (G := extG (noQ C H1) H1 H') (fun a u z rr => ?_) (fun a vs z rr => ?_) (fun a z => R1.h0 z) d v at'
    · rcases z with z | z
      · have e1 : extG (noQ C H1) H1 H' a = extG G1 H1 H' a := by unfold extG; rw [show H1 a = none from z]
        exact rr.imp (fun rr => by rw [← e1]; exact rr) fun ⟨o, rr⟩ => ⟨o, by rw [← e1]; exact rr⟩
      · exact rr.imp (fun rr => tupG a u z rr) fun ⟨o, rr⟩ => ⟨o, tupG a _ (show isTupO (.frz o u) = true from z) rr⟩
    · have e1 : extG (noQ C H1) H1 H' a = extG G1 H1 H' a := by unfold extG; rw [show H1 a = none from z]
      rw [← e1]; exact rr
end
end PD

namespace PD
open PySem L2 PyProof.Rows
/-- no exception is let out -/
def ec0 : EC := fun _ => none
theorem xw0 {K : PySem.W.Frag} {E : XK} {C : Ct} {c : String} {p : D} {S : SS} : ¬ XW K ec0 E C c p S := fun ⟨_, _, h, _⟩ => nomatch h
theorem Post.e0 {α : Type} {K : PySem.W.Frag} {E E' : XK} {C : Ct} {r : Res α} {k : α → Rho → SS → Prop} (h : Post K ec0 E C r k) : Post K ec0 E' C r k := by
  cases r with
  | ok a ρ S => exact h
  | exc c p S => exact absurd h xw0
  | stk => exact h
/-- a def's denotation, from its body's: n names -/
def defD (n : Nat) (body : SDen) : List D → SS → Res D := fun ds S => match body (ds.map some ++ List.replicate (n - ds.length) none) S with
  | .rt d S' => .ok d [] S'
  | .nx _ S' => .ok .none [] S'
  | .exc c p S' => .exc c p S'
  | _ => .stk
def pTag : Bool → Tag
  | true => .stm
  | false => .val false
theorem args_slot {K : PySem.W.Frag} {C : Ct} {H G : Hp} {N : Nat → Addr → Prop} : ∀ {ts : List Bool} {vs : List V} {ds : List D} {i : Nat} {t : Bool} {d : D}, ArgsAt K G C.q ts vs ds → ts[i]? = some t → ds[i]? = some d → ∃ v, vs[i]? = some v ∧ SlotOk K C H G (N i) (pTag t) d v
  | [], [], [], i, t, d, _, h, _ => by simp at h
  | true :: ts, v :: vs, d :: ds, 0, t, d', h, h1, h2 => by
    simp at h1 h2; subst h1; subst h2
    exact ⟨v, rfl, h.1⟩
  | false :: ts, v :: vs, d :: ds, 0, t, d', h, h1, h2 => by
    simp at h1 h2; subst h1; subst h2
    exact ⟨v, rfl, h.1⟩
  | true :: ts, v :: vs, d :: ds, i + 1, t, d', h, h1, h2 => by
    obtain ⟨w, e, s⟩ := args_slot (i := i) (N := fun j => N (j + 1)) h.2 (by simpa using h1) (by simpa using h2)
    exact ⟨w, by simpa using e, s⟩
  | false :: ts, v :: vs, d :: ds, i + 1, t, d', h, h1, h2 => by
    obtain ⟨w, e, s⟩ := args_slot (i := i) (N := fun j => N (j + 1)) h.2 (by simpa using h1) (by simpa using h2)
    exact ⟨w, by simpa using e, s⟩
  | [], _ :: _, _, _, _, _, h, _, _ => h.elim
  | [], [], _ :: _, _, _, _, h, _, _ => h.elim
  | true :: _, [], _, _, _, _, h, _, _ => h.elim
  | false :: _, [], _, _, _, _, h, _, _ => h.elim
  | true :: _, _ :: _, [], _, _, _, h, _, _ => h.elim
  | false :: _, _ :: _, [], _, _, _, h, _, _ => h.elim
theorem rel_start {K : PySem.W.Frag} {q c : Addr} {S : SS} {H G0 : Hp} {ts : List Bool} {vs : List V} {ds : List D} {rest : List Tag} {n : Nat} (st : StAt H q c S) (hG : ∀ a o, G0 a = some o → H a = some o) (hq : G0 q = none) (hc : G0 c = none) (ht : ∀ a o, H a = some o → isTupO o = true → G0 a = some o)
    (ha : ArgsAt K G0 q ts vs ds) (hn : n = rest.length) : Rel K ⟨q, c, H, G0⟩ (ts.map pTag ++ rest) (ds.map some ++ List.replicate n none) S (vs.map some ++ List.replicate n none) H G0 (fun _ _ => False) where
  st := st
  st0 := ⟨by show H q ≠ none; rw [st.2.1]; simp, by show H c ≠ none; rw [st.2.2]; simp⟩
  keep := fun _ _ e _ _ => e
  gh := hG
  gs := ⟨hq, hc⟩
  gt := ht
  g0 := fun _ _ e => e
  gn := fun _ h _ => h
  nn := fun _ _ h => h.elim
  dj := fun _ _ _ h _ => h.elim
  one := fun _ _ _ _ _ h _ => h.elim
  lr := by simp [ha.lengthD, hn]
  ls := by simp [ha.length, hn]
  sl := fun i t d h1 h2 h3 => by
    have hld := ha.lengthD
    have hlv := ha.length
    by_cases hi : i < ds.length
    · rw [List.getElem?_append_left (by simpa using hi)] at h3
      rw [List.getElem?_append_left (by simp; omega)] at h1
      rw [List.getElem?_map] at h1 h3
      cases e1 : ts[i]? with
      | none => rw [e1] at h1; cases h1
      | some b =>
        cases e3 : ds[i]? with
        | none => rw [e3] at h3; cases h3
        | some d' =>
          rw [e1] at h1; rw [e3] at h3; cases h1; cases h3
          obtain ⟨v, ev, s⟩ := args_slot (C := ⟨q, c, H, G0⟩) (H := H) (N := fun _ _ => False) ha e1 e3
          exact ⟨v, by rw [List.getElem?_append_left (by simp; omega), List.getElem?_map, ev]; rfl, s⟩
    · rw [List.getElem?_append_right (by simpa using hi), List.getElem?_replicate] at h3
      split at h3 <;> cases h3
section
variable {P : Program} {w : World} {K : PySem.W.Frag} {mg : Str → Option Value} {base : Heap}
/-- THE RULE of a def -/
theorem fn_pd {x qual : Str} {st : Stmt} {f : Addr} {fd : FuncData} {N ps : List Str} {k : Nat} {ts : List Bool} {rest : List Tag} {body : SDen} {fr : Bool} {T : Tg} (F : Fun K x qual st f fd) (S : FnScope N ps (defScope st)) (hl : ts.length = ps.length) (hr : N.length - ps.length = rest.length)
    (hb : ∀ (cdv : Value) (A : Around) (outer : List Env) (s : Shared) (H : Hp) (E : XK), Room k (A.deeper (envOfC qual (defScope st) s.heap.objs.size f cdv)) →
      BJ (cxOf CX0 P w K mg base N qual (defScope st) f cdv A outer s H E).nox ec0 E0 fr (ts.map pTag ++ rest) (defBody st) body T) : FnOk P w K mg base CX0 (k + 1) f fd ps (spD K ec0 ts (defD N.length body) fr) := by
  refine F.ok S (fun vs H Q E ⟨q, c, S, G0, ds, _, _, _, _, _, ha, _⟩ => by rw [ha.length, hl]) fun cdv A outer s H vs Q E hk h => ?_
  obtain ⟨q, c, S, G0, ds, hst, hG, hq, hc, ht, ha, hp⟩ := h
  obtain ⟨t, ps', r⟩ := hb cdv A outer s H E hk
  refine ⟨t, ps', ?_⟩
  have hv : vs.length = ps.length := by rw [ha.length, hl]
  have hd : ds.length = ps.length := by rw [ha.lengthD, hl]
  have R := rel_start (n := N.length - ps.length) hst hG hq hc ht ha hr
  have hs : L2.start N vs = vs.map some ++ List.replicate (N.length - ps.length) none := by unfold L2.start; rw [hv]
  rw [hs]
  refine r _ _ _ _ _ _ _ _ R ?_
  unfold defD at hp
  rw [hd] at hp
  show PostS K ec0 E0 fr _ T G0 _ _
  cases e : body (ds.map some ++ List.replicate (N.length - ps.length) none) S with
  | nx ρ S' =>
    rw [e] at hp
    exact fun σ' H' G' N' R' _ => hp .non H' R'.st R'.keep .non
  | ct ρ S' => rw [e] at hp; exact hp.elim
  | bk ρ S' => rw [e] at hp; exact hp.elim
  | rt d S' => rw [e] at hp; exact fun v H' h1 h2 h3 => hp v H' h1 h2 h3
  | exc c p S' => rw [e] at hp; exact absurd hp xw0
  | stk => rw [e] at hp; exact hp.elim
end
theorem passE {X : Cx} {E : XK} : Passes CX0 X E := fun _ _ _ _ _ _ _ h => h.elim
section
variable {X : Cx} {Γ : List Tag} {k : Nat} {f : Addr} {fd : FuncData} {ps : List Str} {F : List D → SS → Res D} {ts : List Bool} {ms : List Mode} {fa : Den (List D)} {fr pu : Bool} {x : Str} {p pos : Pos} {e : Expr} {es : List Expr}
theorem ej_call (Fn : FnOk X.prog X.w X.K X.mg X.base CX0 k f fd ps (spD X.K ec0 ts F fr)) (hr : Room k X.A) (hg : Gl X x) (hm : X.mg x = some (.ref f)) (hk : PySem.W.keepIn X.K (.ref f) = true) (hb : Binds X.K fd ps []) (ha : AJ X ec0 E0 Γ (e :: es) fa ms pu) (hms : argModes false ms ts = true := by rfl)
    (hdb : (x == ("__debug__" : Str)) = false := by decide) (he : starEach (e :: es) X.env = (false, eval e X.env) :: starEach es X.env := by rfl) (hpl : (backTo pos (starEach es X.env)).any (·.1) = false := by rfl) : EJ X ec0 E0 Γ (.Call (.Name x p) (e :: es) [] pos) (dCall F fa) (.val fr) pu :=
  call_core (fun pa => pe_call Fn hr hg hm hk hb .nil pass0 pa hdb he hpl) ha hms
theorem ej_callF (Fn : FnOk X.prog X.w X.K X.mg X.base CX0 k f fd ps (spD X.K ec0 ts F true)) (hr : Room k X.A) (hg : Gl X x) (hm : X.mg x = some (.ref f)) (hk : PySem.W.keepIn X.K (.ref f) = true) (hb : Binds X.K fd ps []) (ha : AJ X ec0 E0 Γ (e :: es) fa ms pu) (hms : argModes true ms ts = true := by rfl)
    (hdb : (x == ("__debug__" : Str)) = false := by decide) (he : starEach (e :: es) X.env = (false, eval e X.env) :: starEach es X.env := by rfl) (hpl : (backTo pos (starEach es X.env)).any (·.1) = false := by rfl) : EJ X ec0 E0 Γ (.Call (.Name x p) (e :: es) [] pos) (dCall F fa) (.val true) pu :=
  call_coreF (fun pa => pe_call Fn hr hg hm hk hb .nil pass0 pa hdb he hpl) ha hms fun _ _ _ _ => xw0
end
end PD

namespace PD
open PySem L2 PyProof.Rows
section
variable {K : PySem.W.Frag} {C : Ct} {Γ Γ' : List Tag} {ρ ρ1 : Rho} {S S' : SS} {σ : L2.St} {H H' G G' : Hp} {N : Nat → Addr → Prop}
theorem OwnAt.obj {P : Addr → Prop} {p : Addr} {d : D} (h : OwnAt K H G P p d) : ∃ o, H p = some o ∧ isTupO o = false := by
  cases d with
  | list ds => obtain ⟨vs, e, _⟩ := h; exact ⟨_, e, rfl⟩
  | dict ds => obtain ⟨vs, e, _⟩ := h; exact ⟨_, e, rfl⟩
  | _ => exact h.elim
theorem SlotOk.upd {M : Addr → Prop} {t : Tag} {d : D} {v : V} {p : Addr} {o o' : HO} (hp : H p = some o) (to : isTupO o = false) (hm : ¬ M p) (h : SlotOk K C H G M t d v) : SlotOk K C (L2.upd H p o') G M t d v := by
  have hx : ∀ a u, (a ≠ p) → H a = some u → (L2.upd H p o') a = some u := fun a u h e => by rw [upd_ne h]; exact e
  cases t with
  | dead => trivial
  | val fr => exact h
  | own fr =>
    obtain ⟨q, e, np, ow⟩ := h
    have hq : q ≠ p := fun z => hm (z ▸ np)
    refine ⟨q, e, np, ?_⟩
    cases d with
    | list ds => obtain ⟨vs, e, l⟩ := ow; exact ⟨vs, hx _ _ hq e, l⟩
    | dict ds => obtain ⟨vs, e, l⟩ := ow; exact ⟨vs, hx _ _ hq e, l⟩
    | _ => exact ow
  | vol =>
    refine At.mono' (G := H) (G' := L2.upd H p o') (fun a u z r => ?_) (fun a vs z r => hx _ _ (fun e => hm (e ▸ z)) r) (fun _ z => z) d v h
    have na : a ≠ p := fun e => by
      rcases z with z | z
      · exact hm (e ▸ z)
      · subst e
        rcases r with r | ⟨ob, r⟩
        · rw [hp] at r; cases r; rw [to] at z; cases z
        · rw [hp] at r; cases r
          have w : isTupO u = false := to
          rw [z] at w; cases w
    exact r.imp (fun r => hx _ _ na r) fun ⟨ob, r⟩ => ⟨ob, hx _ _ na r⟩
  | stm => exact h
/-- what a slot owns is written -/
theorem Rel.mut (R : Rel K C Γ ρ S σ H G N) {i : Nat} {fr : Bool} {p : Addr} {o : HO} {d : D} (ht : Γ[i]? = some (.own fr)) (np : N i p) (hv : σ[i]? = some (some (.ref p))) (ow : OwnAt K (L2.upd H p o) G (Pf C fr) p d) :
    Rel K C Γ (ρ.set i (some d)) S σ (L2.upd H p o) G N ∧ Ext C H G N (L2.upd H p o) G N false := by
  have hi : i < Γ.length := (List.getElem?_eq_some_iff.mp ht).1
  obtain ⟨hg, h0, o0, e0, t0⟩ := R.nn i p np
  have nq := R.nq np
  have to : isTupO o = false := by
    obtain ⟨u, e, t⟩ := ow.obj
    rw [upd_same] at e; cases e; exact t
  refine ⟨⟨⟨R.st.1, by rw [upd_ne nq.1.symm]; exact R.st.2.1, by rw [upd_ne nq.2.symm]; exact R.st.2.2⟩, R.st0, fun a u e h1 h2 => ?_, fun a u e => ?_, R.gs, fun a u e t => ?_, R.g0, R.gn, fun j a h => ?_, R.dj, R.one, by simp [R.lr], R.ls, fun j t d' h1 h2 h3 => ?_⟩, ⟨ExR.refl _, fun _ h => .inl h, fun _ _ h => .inl h, fun a h => ?_, fun a u e h1 h2 h3 => ?_⟩⟩
  · have ne : a ≠ p := fun z => by subst z; rw [h0] at e; cases e
    rw [upd_ne ne]; exact R.keep a u e h1 h2
  · have ne : a ≠ p := fun z => by subst z; rw [hg] at e; cases e
    rw [upd_ne ne]; exact R.gh a u e
  · by_cases ne : a = p
    · subst ne; rw [upd_same] at e; cases e; rw [to] at t; cases t
    · rw [upd_ne ne] at e; exact R.gt a u e t
  · obtain ⟨z1, z2, u, z3, z4⟩ := R.nn j a h
    by_cases ne : a = p
    · subst ne; exact ⟨z1, z2, o, upd_same, to⟩
    · exact ⟨z1, z2, u, by rw [upd_ne ne]; exact z3, z4⟩
  · by_cases hj : i = j
    · subst hj
      rw [ht] at h1; cases h1
      rw [List.getElem?_set_self (by rw [R.lr]; exact hi)] at h3; cases h3
      exact ⟨.ref p, hv, p, rfl, np, ow⟩
    · rw [List.getElem?_set_ne hj] at h3
      obtain ⟨v, e, s⟩ := R.sl j t d' h1 h2 h3
      exact ⟨v, e, s.upd e0 t0 fun z => hj (R.dj i j p np z)⟩
  · by_cases e : a = p
    · subst e; rw [upd_same]; simp
    · rw [upd_ne e]; exact h
  · have ne : a ≠ p := fun z => by
      subst z
      rcases h3 with h3 | h3
      · cases h3
      · exact h3 i np
    rw [upd_ne ne]; exact e
end
/-! ### methods of an own list -/
def ownL (i : Nat) (ρ : Rho) : Option (List D) := match ρ[i]? with
  | some (some (.list ds)) => some ds
  | _ => none
theorem ownL_some {i : Nat} {ρ : Rho} {ds : List D} (h : ownL i ρ = some ds) : ρ[i]? = some (some (.list ds)) := by
  unfold ownL at h
  split at h
  · rename_i e; cases h; exact e
  · cases h
def dMut (i : Nat) (g : List D → List D → Option (List D × D)) (f : Den (List D)) : Den D := fun ρ S => (optR (ownL i ρ) ρ S).bind fun _ ρ S => (f ρ S).bind fun ds ρ1 S1 => (optR (ownL i ρ1) ρ1 S1).bind fun xs ρ1 S1 => (optR (g xs ds) ρ1 S1).bind fun yr ρ1 S1 =>
  .ok yr.2 (ρ1.set i (some (.list yr.1))) S1
section
variable {X : Cx} {ec : EC} {E : XK} {Γ : List Tag} {e a b : Expr} {es : List Expr} {pos : Pos} {fr fr' : Bool} {pu : Bool} {N0 : List Str}
theorem own_list {K : PySem.W.Frag} {C : Ct} {ρ : Rho} {S : SS} {σ : L2.St} {H G : Hp} {N : Nat → Addr → Prop} {i : Nat} {xs : List D} (R : Rel K C Γ ρ S σ H G N) (ht : Γ[i]? = some (.own fr)) (h : ownL i ρ = some xs) :
    ∃ p vs, σ[i]? = some (some (.ref p)) ∧ N i p ∧ H p = some (.lst vs) ∧ AtL K G (Pf C fr) vs xs := by
  obtain ⟨v, e, p, rfl, np, vs, h1, h2⟩ := R.sl i _ _ ht (by simp) (ownL_some h)
  exact ⟨p, vs, e, np, h1, h2⟩
theorem mut_core {x : Str} {i : Nat} {r : V → List V → Hp → VK → Prop} {ms : List Mode} {g : List D → List D → Option (List D × D)} {f : Den (List D)} {c : Expr} {xp : Pos} (hN : X.N[i]? = some x) (hv : Vis X.env.scope x) (hd : (x == ("__debug__" : Str)) = false) (hcd : (x == ("__classdict__" : Str)) = false) (ht : Γ[i]? = some (.own fr))
    (mk : ∀ {ta}, PE X (.Name x xp) (tVar i) → PA X es ta → PE X c (tBM X.K "list" r (tVar i) ta)) (ha : AJ X ec E Γ es f ms pu)
    (pr : ∀ C Hh H G N p xs vs as ds ys rd (Q : VK), (∀ a o, G a = some o → H a = some o) → H p = some (.lst vs) → AtL X.K G (Pf C fr) vs xs → ValsOk X.K C Hh H G N ms as ds → g xs ds = some (ys, rd) →
      (∀ v' vs', AtL X.K G (Pf C fr) vs' ys → At X.K G (Pf C fr) v' rd → Q v' (upd H p (.lst vs'))) → r (.ref p) as H Q) : EJ X ec E Γ c (dMut i g f) (.val fr) false := by
  obtain ⟨ta, pa, rr⟩ := ha
  refine ⟨_, mk (pe_var hN hv hd hcd) pa, fun C ρ S σ H G N Q R p => ?_⟩
  obtain ⟨xs0, h0, p⟩ := optR_post p.bind
  obtain ⟨pa', vs0, ev, np, hp, l0⟩ := own_list R ht h0
  refine ⟨_, ev, .inl ⟨rfl, vs0, .inl (.inl hp)⟩, ?_⟩
  refine rr C ρ S σ H G N _ R (p.bind.mono fun ds ρ1 S1 q vs1 H1 G1 N1 R1 x1 o1 => ?_)
  obtain ⟨xs, h1, q⟩ := optR_post q.bind
  obtain ⟨yr, h2, q⟩ := optR_post q.bind
  obtain ⟨ys, rd⟩ := yr
  obtain ⟨p1, vs2, ev1, np1, hp1, l1⟩ := own_list R1 ht h1
  rw [ev] at ev1; cases ev1
  refine pr C H H1 G1 N1 pa' xs vs2 vs1 ds ys rd _ R1.gh hp1 l1 o1 h2 fun v' vs' a1 a2 => ?_
  obtain ⟨R2, x2⟩ := R1.mut (d := .list ys) (o := .lst vs') ht np1 ev ⟨vs', upd_same, a1⟩
  exact q v' _ _ N1 R2 ((x1.trans x2).weak fun z => by cases z) a2
def appD : List D → List D → Option (List D × D)
  | xs, [d] => if xs.length < sizeLine then some (xs ++ [d], .none) else none
  | _, _ => none
theorem ej_append {x : Str} {i : Nat} {f : Den D} {xp ap : Pos} (hN : X.N[i]? = some x) (hv : Vis X.env.scope x) (hd : (x == ("__debug__" : Str)) = false) (hcd : (x == ("__classdict__" : Str)) = false) (ht : Γ[i]? = some (.own fr)) (ha : EJ X ec E Γ e f (.val fr) pu)
    (hbase : attributeBase (.Name x xp) "append" X.env (eval (.Name x xp) X.env) = eval (.Name x xp) X.env := by rfl)
    (hfew : ((backTo pos (starEach [e] X.env)).all (fun x => !x.1) && (backToKw pos (keywordEach [] X.env)).all (fun x => x.1.isSome) && decide (([e] : List Expr).length + ([] : List Keyword).length + (if ([] : List Keyword).isEmpty then 0 else 1) < 30)) = true := by rfl)
    (hline : (ap.endLine == pos.line) = true := by rfl) (hs : starEach [e] X.env = (false, eval e X.env) :: starEach [] X.env := by rfl) (hplain : (backTo pos (starEach [] X.env)).any (·.1) = false := by rfl) :
    EJ X ec E Γ (.Call (.Attribute (.Name x xp) "append" ap) [e] [] pos) (dMut i appD (dCons f dNil)) (.val fr) false := by
  refine mut_core (ms := [.val fr]) hN hv hd hcd ht (fun pv pa => pe_bm F.plainAttrs_list F.slot_list_append F.type_list_append mt_append pv pa hbase hfew hline hs hplain) (aj_cons ha aj_nil (by rfl) hs) ?_
  intro C Hh H G N p xs vs as ds ys rd Q gh hp l o hg q
  cases as with
  | nil => cases ds <;> exact o.elim
  | cons v as =>
    cases ds with
    | nil => exact o.elim
    | cons d ds =>
      cases as with
      | cons _ _ => cases ds <;> exact o.2.2.elim
      | nil =>
        cases ds with
        | cons _ _ => exact o.2.2.elim
        | nil =>
          have hg : (if xs.length < sizeLine then some (xs ++ [d], PyData.none) else none) = some (ys, rd) := hg
          split at hg
          · rename_i hlt; cases hg
            exact ⟨p, vs, v, rfl, rfl, hp, by rw [l.length]; exact hlt, q .non _ (l.append (.cons o.1 .nil)) .non⟩
          · cases hg
def extD : List D → List D → Option (List D × D)
  | xs, [.list ys] => if xs.length + ys.length ≤ sizeLine then some (xs ++ ys, .none) else none
  | _, _ => none
theorem ej_extend {x : Str} {i : Nat} {f : Den D} {xp ap : Pos} (hN : X.N[i]? = some x) (hv : Vis X.env.scope x) (hd : (x == ("__debug__" : Str)) = false) (hcd : (x == ("__classdict__" : Str)) = false) (ht : Γ[i]? = some (.own fr)) (ha : EJ X ec E Γ e f (.top fr) pu)
    (hbase : attributeBase (.Name x xp) "extend" X.env (eval (.Name x xp) X.env) = eval (.Name x xp) X.env := by rfl)
    (hfew : ((backTo pos (starEach [e] X.env)).all (fun x => !x.1) && (backToKw pos (keywordEach [] X.env)).all (fun x => x.1.isSome) && decide (([e] : List Expr).length + ([] : List Keyword).length + (if ([] : List Keyword).isEmpty then 0 else 1) < 30)) = true := by rfl)
    (hline : (ap.endLine == pos.line) = true := by rfl) (hs : starEach [e] X.env = (false, eval e X.env) :: starEach [] X.env := by rfl) (hplain : (backTo pos (starEach [] X.env)).any (·.1) = false := by rfl) :
    EJ X ec E Γ (.Call (.Attribute (.Name x xp) "extend" ap) [e] [] pos) (dMut i extD (dCons f dNil)) (.val fr) false := by
  refine mut_core (ms := [.top fr]) hN hv hd hcd ht (fun pv pa => pe_bm F.plainAttrs_list F.slot_list_extend F.type_list_extend mt_extend pv pa hbase hfew hline hs hplain) (aj_cons ha aj_nil (by rfl) hs) ?_
  intro C Hh H G N p xs vs as ds ys rd Q gh hp l o hg q
  cases as with
  | nil => cases ds <;> exact o.elim
  | cons v as =>
    cases ds with
    | nil => exact o.elim
    | cons d ds =>
      cases as with
      | cons _ _ => cases ds <;> exact o.2.2.elim
      | nil =>
        cases ds with
        | cons _ _ => exact o.2.2.elim
        | nil =>
          unfold extD at hg
          split at hg
          · rename_i xs' ys' hx; cases hx
            split at hg
            · rename_i hlt; cases hg
              obtain ⟨b, ws, rfl, hb, l2⟩ := AtTop.list gh o.1
              exact ⟨p, b, vs, ws, rfl, rfl, hp, hb, by rw [l.length, l2.length]; exact hlt, q .non _ (l.append l2) .non⟩
            · cases hg
          · cases hg
def popAtD : List D → List D → Option (List D × D)
  | xs, [.int i] => if 0 ≤ i ∧ i < 2 ^ 63 then match xs[i.toNat]? with
      | some y => some (xs.eraseIdx i.toNat, y)
      | none => none
    else none
  | _, _ => none
theorem ej_popAt {x : Str} {i : Nat} {f : Den D} {xp ap : Pos} (hN : X.N[i]? = some x) (hv : Vis X.env.scope x) (hd : (x == ("__debug__" : Str)) = false) (hcd : (x == ("__classdict__" : Str)) = false) (ht : Γ[i]? = some (.own fr)) (ha : EJ X ec E Γ e f (.val fr) pu)
    (hbase : attributeBase (.Name x xp) "pop" X.env (eval (.Name x xp) X.env) = eval (.Name x xp) X.env := by rfl)
    (hfew : ((backTo pos (starEach [e] X.env)).all (fun x => !x.1) && (backToKw pos (keywordEach [] X.env)).all (fun x => x.1.isSome) && decide (([e] : List Expr).length + ([] : List Keyword).length + (if ([] : List Keyword).isEmpty then 0 else 1) < 30)) = true := by rfl)
    (hline : (ap.endLine == pos.line) = true := by rfl) (hs : starEach [e] X.env = (false, eval e X.env) :: starEach [] X.env := by rfl) (hplain : (backTo pos (starEach [] X.env)).any (·.1) = false := by rfl) :
    EJ X ec E Γ (.Call (.Attribute (.Name x xp) "pop" ap) [e] [] pos) (dMut i popAtD (dCons f dNil)) (.val fr) false := by
  refine mut_core (ms := [.val fr]) hN hv hd hcd ht (fun pv pa => pe_bm F.plainAttrs_list F.slot_list_pop F.type_list_pop mt_popAt pv pa hbase hfew hline hs hplain) (aj_cons ha aj_nil (by rfl) hs) ?_
  intro C Hh H G N p xs vs as ds ys rd Q gh hp l o hg q
  cases as with
  | nil => cases ds <;> exact o.elim
  | cons v as =>
    cases ds with
    | nil => exact o.elim
    | cons d ds =>
      cases as with
      | cons _ _ => cases ds <;> exact o.2.2.elim
      | nil =>
        cases ds with
        | cons _ _ => exact o.2.2.elim
        | nil =>
          unfold popAtD at hg
          split at hg
          · rename_i xs' k hx; cases hx
            split at hg
            · rename_i hlt
              split at hg
              · rename_i y hy
                cases hg
                have o1 : At X.K G (Pf C fr) v (.int k) := o.1
                cases o1
                obtain ⟨w, hw, aw⟩ := l.get hy
                have hk : k.toNat < vs.length := (List.getElem?_eq_some_iff.mp hw).1
                refine ⟨p, vs, k, k.toNat, w, rfl, rfl, hp, by omega, hlt.2, seqIndex_of hlt.1 (by omega), hw, q w _ (l.erase k.toNat) aw⟩
              · cases hg
            · cases hg
          · cases hg

/-! ### assigning into own lists -/
/-- a target that may write -/
def AG (X : Cx) (ec : EC) (E : XK) (Γ : List Tag) (tg : Expr) (tf : D → Den Unit) (fr : Bool) : Prop :=
  ∃ g, PG X tg g ∧ ∀ C ρ S σ H G N v d Q, Rel X.K C Γ ρ S σ H G N → At X.K G (Pf C fr) v d →
    Post X.K ec E C (tf d ρ S) (fun _ ρ' S' => ∀ H' G' N', Rel X.K C Γ ρ' S' σ H' G' N' → ExR G G' → Q σ H') → g v σ H Q
def AGs (X : Cx) (ec : EC) (E : XK) (Γ : List Tag) (tgs : List Expr) (tf : List D → Den Unit) (fr : Bool) : Prop :=
  ∃ g, PGs X tgs g ∧ ∀ C ρ S σ H G N vs ds Q, Rel X.K C Γ ρ S σ H G N → AtL X.K G (Pf C fr) vs ds →
    Post X.K ec E C (tf ds ρ S) (fun _ ρ' S' => ∀ H' G' N', Rel X.K C Γ ρ' S' σ H' G' N' → ExR G G' → Q σ H') → g vs σ H Q
def aSub (i : Nat) (fi : Den D) : D → Den Unit := fun d ρ S => (optR (ownL i ρ) ρ S).bind fun _ ρ S => (fi ρ S).bind fun k ρ1 S1 => (optR (ownL i ρ1) ρ1 S1).bind fun xs ρ1 S1 => match k with
  | .int k => (optR (ixN xs.length k) ρ1 S1).bind fun n ρ1 S1 => .ok () (ρ1.set i (some (.list (xs.set n d)))) S1
  | _ => .stk
theorem ag_sub {x : Str} {i : Nat} {fi : Den D} {xp : Pos} (hN : X.N[i]? = some x) (hv : Vis X.env.scope x) (hd : (x == ("__debug__" : Str)) = false) (hcd : (x == ("__classdict__" : Str)) = false) (ht : Γ[i]? = some (.own fr)) (hi : EJ X ec E Γ e fi (.val fr') pu)
    (ha : ∀ v, assign (.Subscript (.Name x xp) e pos) X.env v = (do
      let ov ← holding [v] (eval (.Name x xp) X.env)
      let iv ← holding [v, ov] (eval e X.env)
      standAt pos
      holding [v, ov, iv] (setItem ov iv v)
      release [v, ov, iv] []) := by intro _; rfl) : AG X ec E Γ (.Subscript (.Name x xp) e pos) (aSub i fi) fr := by
  obtain ⟨te, pe, rr⟩ := hi
  refine ⟨_, pg_sub (pe_var hN hv hd hcd) pe set_list ha, fun C ρ S σ H G N v d Q R a p => ?_⟩
  obtain ⟨xs0, h0, p⟩ := optR_post p.bind
  obtain ⟨pa', vs0, ev, np, hp, l0⟩ := own_list R ht h0
  refine ⟨_, ev, ?_⟩
  refine rr C ρ S σ H G N _ R (p.bind.mono fun k ρ1 S1 q kv H1 G1 N1 R1 x1 o1 => ?_)
  obtain ⟨xs, h1, q⟩ := optR_post q.bind
  cases k with
  | int k =>
    obtain ⟨n, h2, q⟩ := optR_post q.bind
    obtain ⟨p1, vs2, ev1, np1, hp1, l1⟩ := own_list R1 ht h1
    rw [ev] at ev1; cases ev1
    have o1 : At X.K G1 (Pf C fr') kv (.int k) := o1
    cases o1
    have l2 := l1.set n (a.ext x1.ge)
    obtain ⟨R2, x2⟩ := R1.mut (d := .list (xs.set n d)) (o := .lst (vs2.set n v)) ht np1 ev ⟨_, upd_same, l2⟩
    exact ⟨pa', vs2, k, n, rfl, rfl, hp1, by rw [l1.length]; exact h2, q _ _ _ R2 x1.ge⟩
  | _ => exact q.elim
def aNil : List D → Den Unit := fun ds ρ S => match ds with
  | [] => .ok () ρ S
  | _ => .stk
def aCons (f : D → Den Unit) (g : List D → Den Unit) : List D → Den Unit := fun ds ρ S => match ds with
  | d :: ds => (f d ρ S).bind fun _ ρ1 S1 => g ds ρ1 S1
  | [] => .stk
theorem ags_nil : AGs X ec E Γ [] aNil fr := ⟨_, pgs_nil, fun C ρ S σ H G N vs ds Q R a p => by
  cases a with
  | nil => exact ⟨rfl, p H G N R (ExR.refl _)⟩
  | cons _ _ => exact p.elim⟩
theorem ags_cons {f : D → Den Unit} {g : List D → Den Unit} (h1 : AG X ec E Γ e f fr) (h2 : AGs X ec E Γ es g fr) (hs : (assignEach (e :: es) X.env).map (·.2) = assign e X.env :: (assignEach es X.env).map (·.2) := by rfl) : AGs X ec E Γ (e :: es) (aCons f g) fr := by
  obtain ⟨g1, pg, r⟩ := h1
  obtain ⟨gs, pgs, rs⟩ := h2
  refine ⟨_, pgs_cons pg pgs hs, fun C ρ S σ H G N vs ds Q R a p => ?_⟩
  cases a with
  | nil => exact p.elim
  | @cons v vs d ds a1 a2 =>
    refine ⟨v, vs, rfl, r C ρ S σ H G N v d _ R a1 ?_⟩
    have p : Post X.K ec E C ((f d ρ S).bind fun _ ρ1 S1 => g ds ρ1 S1) _ := p
    refine p.bind.mono fun _ ρ1 S1 q H1 G1 N1 R1 e1 => ?_
    exact rs C ρ1 S1 σ H1 G1 N1 vs ds Q R1 (a2.ext e1) (q.mono fun _ ρ2 S2 q2 H2 G2 N2 R2 e2 => q2 H2 G2 N2 R2 (e1.trans e2))
/-- as many as there are -/
def aTup (n : Nat) (f : List D → Den Unit) : D → Den Unit := fun d ρ S => match d with
  | .tuple ds => if ds.length = n then f ds ρ S else .stk
  | .list ds => if ds.length = n then f ds ρ S else .stk
  | _ => .stk
theorem ag_tup {k : Nat} {f : List D → Den Unit} {n : Nat} (hc : X.calm = true) (h : AGs X ec E Γ es f fr) (hn : (assignEach es X.env).length = n := by rfl) (hst : (assignEach es X.env).findIdx? (·.1) = none := by rfl) : AG X ec E Γ (.Tuple es k pos) (aTup n f) fr := by
  obtain ⟨gs, pgs, rs⟩ := h
  refine ⟨_, PG.or (pg_tup hc pgs hn hst) (pg_unl hc pgs hn hst), fun C ρ S σ H G N v d Q R a p => ?_⟩
  cases a with
  | tup r l =>
    obtain ⟨hl, p⟩ := ifR_post (show Post X.K ec E C (if _ then _ else .stk) _ from p)
    exact .inl ⟨_, _, rfl, r.imp (rd_of R.gh) id, by rw [l.length, hl], rs C ρ S σ H G N _ _ Q R l p⟩
  | lst r q l =>
    obtain ⟨hl, p⟩ := ifR_post (show Post X.K ec E C (if _ then _ else .stk) _ from p)
    exact .inr ⟨_, _, rfl, .inl (.inl (R.gh _ _ r)), by rw [l.length, hl], rs C ρ S σ H G N _ _ Q R l p⟩
  | _ => exact p.elim
def sAsgA (f : Den D) (tf : D → Den Unit) : SDen := fun ρ S => (f ρ S).sr fun d ρ1 S1 => (tf d ρ1 S1).sr fun _ ρ2 S2 => .nx ρ2 S2
theorem sj_asgA {T : Tg} {fr2 : Bool} {tg : Expr} {d : Den D} {tf : D → Den Unit} (h : EJ X ec E T.n e d (.val fr) pu) (hg : AG X ec E T.n tg tf fr) (hs : swapsWithSole [tg] e pos.line X.env = pure false := by rfl) (hw : swappedStores [tg] e X.env = pure none := by rfl)
    (h1 : (assignEach [tg] X.env).map (·.2) = [assign tg X.env] := by rfl) : SJ X ec E fr2 T.n (.Assign [tg] e pos) (sAsgA d tf) T := by
  obtain ⟨te, pe, r⟩ := h
  obtain ⟨g, pg, rg⟩ := hg
  refine ⟨_, ps_asg pe pg hs hw h1, fun C ρ S σ H G N Dn R p => ?_⟩
  refine r C ρ S σ H G N _ R (p.of.mono fun d ρ1 S1 p1 v H1 G1 N1 R1 x1 o1 => ?_)
  exact rg C ρ1 S1 σ H1 G1 N1 v d _ R1 o1 (p1.of.mono fun _ ρ2 S2 p2 H2 G2 N2 R2 e2 => (show PostS X.K ec E fr2 C T G (.nx ρ2 S2) Dn from p2) σ H2 G2 N2 R2 (x1.ge.trans e2))
end
end PD

/-! the stream of draws -/
namespace PD
open PySem L2 PyProof.Rows
section
variable {X : Cx} {ec : EC} {E : XK} {Γ : List Tag} {e a b : Expr} {es : List Expr} {pos : Pos} {fr fr' : Bool} {pu : Bool}
theorem stm_slot {K : PySem.W.Frag} {C : Ct} {ρ : Rho} {S : SS} {σ : L2.St} {H G : Hp} {N : Nat → Addr → Prop} {i : Nat} {d : D} (R : Rel K C Γ ρ S σ H G N) (ht : Γ[i]? = some .stm) (h : ρ[i]? = some (some d)) : σ[i]? = some (some (.ref C.q)) := by
  obtain ⟨v, e, s⟩ := R.sl i _ _ ht (by simp) h
  rw [e, s]
def stD (i : Nat) (ρ : Rho) : Option D := match ρ[i]? with
  | some (some d) => some d
  | _ => none
theorem stD_some {i : Nat} {ρ : Rho} {d : D} (h : stD i ρ = some d) : ρ[i]? = some (some d) := by
  unfold stD at h
  split at h
  · rename_i e; cases h; exact e
  · cases h
def stAt (k : Int) (S : SS) : Option Int := if k = 1 then some S.cur else if k = 2 then some S.cnt else if k = 3 then some S.seed else none
def dStIx (i : Nat) (k : Int) : Den D := fun ρ S => (optR (stD i ρ) ρ S).bind fun _ ρ S => (optR (stAt k S) ρ S).bind fun n ρ S => .ok (.int n) ρ S
theorem stAt_at {K : PySem.W.Frag} {H : Hp} {q c : Addr} {S : SS} {k n : Int} (h : stAt k S = some n) : L2.atI [V.ref c, .int S.cur, .int S.cnt, .int S.seed] k = some (.int n) := by
  unfold stAt at h
  split at h
  · rename_i e; subst e; cases h; rfl
  · split at h
    · rename_i e; subst e; cases h; rfl
    · split at h
      · rename_i e; subst e; cases h; rfl
      · cases h
theorem ej_stIx {x : Str} {i j : Nat} {k : Int} {xp cp : Pos} (hN : X.N[i]? = some x) (hv : Vis X.env.scope x) (hd : (x == ("__debug__" : Str)) = false) (hcd : (x == ("__classdict__" : Str)) = false) (ht : Γ[i]? = some .stm) (hs : PlainIx (.Constant (.int k) j cp)) :
    EJ X ec E Γ (.Subscript (.Name x xp) (.Constant (.int k) j cp) pos) (dStIx i k) (.val fr) true := by
  refine ⟨_, pe_ix ix_list (pe_var hN hv hd hcd) pe_int hs, fun C ρ S σ H G N Q R p => ?_⟩
  obtain ⟨d, h0, p⟩ := optR_post p.bind
  obtain ⟨n, h1, p⟩ := optR_post p.bind
  exact ⟨_, stm_slot R ht (stD_some h0), C.q, _, k, .int n, rfl, rfl, .inl (.inl R.st.2.1), stAt_at (K := X.K) (H := H) (q := C.q) h1, p (.int n) H G N R Ext.refl (.int n)⟩
/-- stream[0] != [] -/
def dStNe (i : Nat) : Den Bool := fun ρ S => (optR (stD i ρ) ρ S).bind fun _ ρ S => if SeqAt.shaped (.list (S.cells.map PyData.int)) = true then .ok (!PyData.eqv (.list (S.cells.map PyData.int)) (.list [])) ρ S else .stk
theorem dpAll_ints {K : PySem.W.Frag} {H : Hp} : ∀ ns : List Int, DpAll K H (ns.map V.int) (ns.map PyData.int)
  | [] => .nil
  | n :: ns => .cons (.int n) (dpAll_ints ns)
theorem tj_stNe {x : Str} {i j : Nat} {xp cp sp lp : Pos} (hN : X.N[i]? = some x) (hv : Vis X.env.scope x) (hd : (x == ("__debug__" : Str)) = false) (hcd : (x == ("__classdict__" : Str)) = false) (ht : Γ[i]? = some .stm) (hs : PlainIx (.Constant (.int 0) j cp)) (hu : X.A.units + 64 < cLine)
    (hm : behindInMarks .NotEq (.List [] lp) = false := by rfl) : TJ X ec E Γ (.Compare (.Subscript (.Name x xp) (.Constant (.int 0) j cp) sp) [.NotEq] [.List [] lp] pos) (dStNe i) true := by
  refine ⟨_, pt_cmpR (op_neD hu) (pe_ix ix_list (pe_var hN hv hd hcd) pe_int hs) (pe_lst pa_nil) hm, fun C ρ S σ H G N Q R p => ?_⟩
  obtain ⟨d, h0, p⟩ := optR_post p.bind
  obtain ⟨hz, p⟩ := ifR_post p
  refine ⟨_, stm_slot R ht (stD_some h0), C.q, _, 0, .ref C.c, rfl, rfl, .inl (.inl R.st.2.1), rfl, Nat.zero_le _, fun o no => ?_⟩
  have hc : (upd H o (.lst [])) C.c = some (.lst (S.cells.map V.int)) := by
    rw [upd_ne (R.qn no).2.symm]; exact R.st.2.2
  exact ⟨_, _, .lst (.inl (.inl hc)) (dpAll_ints _), .lst (.inl (.inl upd_same)) .nil, hz, rfl, _, rfl, p _ G N (R.alloc no rfl) (ext_alloc no)⟩
theorem Rel.turn {K : PySem.W.Frag} {C : Ct} {ρ : Rho} {S S' : SS} {σ : L2.St} {H G H' : Hp} {N : Nat → Addr → Prop} (R : Rel K C Γ ρ S σ H G N) (st : StAt H' C.q C.c S') (hx : ∀ a, a ≠ C.q → a ≠ C.c → H' a = H a) : Rel K C Γ ρ S' σ H' G N ∧ Ext C H G N H' G N true := by
  have hq : ∀ {a o}, H' a = some o → isTupO o = true → H a = some o := fun {a o} e t => by
    by_cases h1 : a = C.q
    · subst h1; rw [st.2.1] at e; cases e; cases t
    · by_cases h2 : a = C.c
      · subst h2; rw [st.2.2] at e; cases e; cases t
      · rw [hx a h1 h2] at e; exact e
  refine ⟨R.heap st (fun a o e h1 h2 => by rw [hx a h1 h2]; exact e) fun a o => hq, ExR.refl _, fun _ h => .inl h, fun _ _ h => .inl h, fun a h => ?_, fun a o e h1 h2 _ => by rw [hx a h1 h2]; exact e⟩
  by_cases h1 : a = C.q
  · subst h1; rw [st.2.1]; simp
  · by_cases h2 : a = C.c
    · subst h2; rw [st.2.2]; simp
    · rw [hx a h1 h2]; exact h
/-- stream[0].pop(0) -/
def dStPop (i : Nat) : Den D := fun ρ S => (optR (stD i ρ) ρ S).bind fun _ ρ S => match S.cells with
  | x :: r => .ok (.int x) ρ { S with cells := r }
  | [] => .stk
theorem ej_stPop {x : Str} {i j j2 : Nat} {xp cp sp ap cp2 : Pos} (hN : X.N[i]? = some x) (hv : Vis X.env.scope x) (hd : (x == ("__debug__" : Str)) = false) (hcd : (x == ("__classdict__" : Str)) = false) (ht : Γ[i]? = some .stm) (hs0 : PlainIx (.Constant (.int 0) j cp))
    (hbase : attributeBase (.Subscript (.Name x xp) (.Constant (.int 0) j cp) sp) "pop" X.env (eval (.Subscript (.Name x xp) (.Constant (.int 0) j cp) sp) X.env) = eval (.Subscript (.Name x xp) (.Constant (.int 0) j cp) sp) X.env := by rfl)
    (hfew : ((backTo pos (starEach [.Constant (.int 0) j2 cp2] X.env)).all (fun x => !x.1) && (backToKw pos (keywordEach [] X.env)).all (fun x => x.1.isSome) && decide (([.Constant (.int 0) j2 cp2] : List Expr).length + ([] : List Keyword).length + (if ([] : List Keyword).isEmpty then 0 else 1) < 30)) = true := by rfl)
    (hline : (ap.endLine == pos.line) = true := by rfl) (hs : starEach [.Constant (.int 0) j2 cp2] X.env = (false, eval (.Constant (.int 0) j2 cp2) X.env) :: starEach [] X.env := by rfl) (hplain : (backTo pos (starEach [] X.env)).any (·.1) = false := by rfl) :
    EJ X ec E Γ (.Call (.Attribute (.Subscript (.Name x xp) (.Constant (.int 0) j cp) sp) "pop" ap) [.Constant (.int 0) j2 cp2] [] pos) (dStPop i) (.val fr) true := by
  refine ⟨_, pe_bm F.plainAttrs_list F.slot_list_pop F.type_list_pop mt_popAt (pe_ix ix_list (pe_var hN hv hd hcd) pe_int hs0) (pa_cons pe_int pa_nil hs) hbase hfew hline hs hplain, fun C ρ S σ H G N Q R p => ?_⟩
  obtain ⟨d, h0, p⟩ := optR_post p.bind
  obtain ⟨cells, cur, cnt, seed⟩ := S
  cases cells with
  | nil => exact p.elim
  | cons n r =>
    have hc : H C.c = some (.lst (V.int n :: r.map V.int)) := R.st.2.2
    refine ⟨_, stm_slot R ht (stD_some h0), C.q, _, 0, .ref C.c, rfl, rfl, .inl (.inl R.st.2.1), rfl, .inl ⟨rfl, _, .inl (.inl hc)⟩, ?_⟩
    refine ⟨C.c, _, 0, 0, .int n, rfl, rfl, hc, by decide, by decide, seqIndex_of (by decide) (by simp), rfl, ?_⟩
    obtain ⟨R2, x2⟩ := R.turn (S' := ⟨r, cur, cnt, seed⟩) (H' := upd H C.c (.lst (r.map V.int))) ⟨R.st.1, by rw [upd_ne R.st.1]; exact R.st.2.1, upd_same⟩ (fun a _ h2 => upd_ne h2)
    exact p (.int n) _ G N R2 x2 (.int n)
/-- stream[k] = .. -/
def stPut (k n : Int) (S : SS) : Option SS := if k = 1 then some { S with cur := n } else if k = 2 then some { S with cnt := n } else if k = 3 then some { S with seed := n } else none
def aSt (i : Nat) (k : Int) : D → Den Unit := fun d ρ S => (optR (stD i ρ) ρ S).bind fun _ ρ S => match d with
  | .int n => (optR (stPut k n S) ρ S).bind fun S' ρ _ => .ok () ρ S'
  | _ => .stk
theorem stPut_at {S S' : SS} {k n : Int} {c : Addr} (h : stPut k n S = some S') : S'.cells = S.cells ∧ ∃ j, ixN 4 k = some j ∧ ([V.ref c, .int S.cur, .int S.cnt, .int S.seed].set j (.int n)) = [V.ref c, .int S'.cur, .int S'.cnt, .int S'.seed] := by
  unfold stPut at h
  split at h
  · rename_i e; subst e; cases h; exact ⟨rfl, 1, rfl, rfl⟩
  · split at h
    · rename_i e; subst e; cases h; exact ⟨rfl, 2, rfl, rfl⟩
    · split at h
      · rename_i e; subst e; cases h; exact ⟨rfl, 3, rfl, rfl⟩
      · cases h
theorem ag_st {x : Str} {i j : Nat} {k : Int} {xp cp : Pos} (hN : X.N[i]? = some x) (hv : Vis X.env.scope x) (hd : (x == ("__debug__" : Str)) = false) (hcd : (x == ("__classdict__" : Str)) = false) (ht : Γ[i]? = some .stm)
    (ha : ∀ v, assign (.Subscript (.Name x xp) (.Constant (.int k) j cp) pos) X.env v = (do
      let ov ← holding [v] (eval (.Name x xp) X.env)
      let iv ← holding [v, ov] (eval (.Constant (.int k) j cp) X.env)
      standAt pos
      holding [v, ov, iv] (setItem ov iv v)
      release [v, ov, iv] []) := by intro _; rfl) : AG X ec E Γ (.Subscript (.Name x xp) (.Constant (.int k) j cp) pos) (aSt i k) fr := by
  refine ⟨_, pg_sub (pe_var hN hv hd hcd) pe_int set_list ha, fun C ρ S σ H G N v d Q R a p => ?_⟩
  obtain ⟨d0, h0, p⟩ := optR_post p.bind
  cases d with
  | int n =>
    cases a
    obtain ⟨S', h1, p⟩ := optR_post p.bind
    obtain ⟨hc, jj, hj, es⟩ := stPut_at (c := C.c) h1
    refine ⟨_, stm_slot R ht (stD_some h0), C.q, _, k, jj, rfl, rfl, R.st.2.1, hj, ?_⟩
    obtain ⟨R2, x2⟩ := R.turn (S' := S') (H' := upd H C.q (.lst ([V.ref C.c, .int S.cur, .int S.cnt, .int S.seed].set jj (.int n)))) ⟨R.st.1, by rw [upd_same, es], by rw [upd_ne R.st.1.symm, hc]; exact R.st.2.2⟩ (fun a h1 _ => upd_ne h1)
    exact p _ G N R2 (ExR.refl _)
  | _ => exact p.elim
end
end PD

namespace PD
open PySem L2 PyProof.Rows
/-! ### list(x), sorted(x) -/
def listD : List D → Option (List D)
  | [.list ds] => some ds
  | [.tuple ds] => some ds
  | _ => none
theorem prim_list {K : PySem.W.Frag} : PrimCN K (fun xs H Q => ∃ p ys, xs = [.ref p] ∧ (SqL K H p ys ∨ SqT K H p ys) ∧ ∀ l, H l = none → Q (.ref l) (upd H l (.lst ys))) listD := by
  intro C H G P xs ds es Q gh h he q
  unfold listD at he
  split at he
  · cases he
    obtain ⟨x, rfl, hh⟩ := tops1 h
    obtain ⟨p, vs, rfl, e1, l⟩ := hh.list gh
    exact ⟨p, vs, rfl, .inl (.inl (.inl e1)), fun a ha => q a vs ha l⟩
  · cases he
    obtain ⟨x, rfl, hh⟩ := tops1 h
    obtain ⟨p, vs, rfl, e1, l, a⟩ := hh.tuple gh
    exact ⟨p, vs, rfl, .inr e1, fun a ha => q a vs ha l⟩
  · cases he
def keysI (kds : List (D × D)) : Option (List Int) := intsD (kds.map (·.1))
def sortedD : List D → Option (List D)
  | [.list ds] => (intsD ds).map fun ns => (sortI ns).map .int
  | [.dict kds] => match keysI kds with
    | some ks => if ks.length < 64 then some ((sortI ks).map .int) else none
    | none => none
  | _ => none
def rSortedAll (K : PySem.W.Frag) : List V → Hp → VK → Prop := fun xs H Q => rSortedI K xs H Q ∨ ∃ (a : Addr) (kvs : List (Key × V)) (ks : List Int), xs = [.ref a] ∧ Rd H a (.dK kvs) ∧ kvs.map (·.1) = ks.map Sum.inl ∧ ks.length < 64 ∧
    ∀ (ys : List Int) (p : Addr), ys.Perm ks → ys.Pairwise (· ≤ ·) → H p = none → Q (.ref p) (upd H p (.lst (ys.map V.int)))
theorem call_sortedAll {X : Cx} (hc : X.calm = true) : CallR X (.builtin "sorted") (rSortedAll X.K) := cr_sortedI.or (call_sortedDI hc)
theorem AtK.keysI {K : PySem.W.Frag} {G : Hp} {P : Addr → Prop} : ∀ {kvs : List (Key × V)} {kds : List (D × D)} {ks : List Int}, AtK K G P kvs kds → intsD (kds.map (·.1)) = some ks → kvs.map (·.1) = ks.map Sum.inl
  | [], [], ks, _, h => by cases h; rfl
  | (k, v) :: kvs, (kd, d) :: kds, ks, h, e => by
    cases h with
    | cons a r =>
      have e := intsD_eq e
      cases ks with
      | nil => simp at e
      | cons n ks =>
        simp only [List.map_cons, List.cons.injEq] at e
        have h2 := AtK.keysI r (ks := ks) (by rw [e.2]; exact intsD_map ks)
        rw [List.map_cons, List.map_cons, h2]
        have e1 : keyD k = .int n := e.1
        cases k with
        | inl i => unfold keyD at e1; injection e1 with e1; rw [e1]
        | inr s => unfold keyD at e1; cases e1
  | [], _ :: _, _, h, _ => by cases h
  | _ :: _, [], _, h, _ => by cases h
theorem prim_sorted {K : PySem.W.Frag} : PrimCN K (rSortedAll K) sortedD := by
  intro C H G P xs ds es Q gh h he q
  unfold sortedD at he
  split at he
  · rename_i dsx
    cases e : intsD dsx with
    | none => rw [e] at he; cases he
    | some ns =>
      rw [e] at he; cases he
      obtain ⟨x, rfl, hh⟩ := tops1 h
      obtain ⟨p, vs, rfl, e1, l⟩ := hh.list gh
      have e := intsD_eq e
      subst e
      have ev := l.ints
      subst ev
      refine .inl ⟨p, ns, rfl, .inl (.inl e1), fun ms a pm sm ha => ?_⟩
      rw [sortI_of pm sm]
      exact q a _ ha .of_ints
  · rename_i kds
    cases e : PD.keysI kds with
    | none => rw [e] at he; cases he
    | some ks =>
      simp only [e] at he
      split at he
      · rename_i hl
        cases he
        obtain ⟨x, rfl, hh⟩ := tops1 h
        obtain ⟨p, vs, rfl, e1, l⟩ := hh.dict gh
        refine .inr ⟨p, vs, ks, rfl, e1, AtK.keysI l e, hl, fun ms a pm sm ha => ?_⟩
        rw [sortI_of pm sm]
        exact q a _ ha .of_ints
      · cases he
  · cases he

/-! ### isinstance -/
def tyD : D → String
  | .none => "NoneType"
  | .bool _ => "bool"
  | .int _ => "int"
  | .str _ => "str"
  | .list _ => "list"
  | .tuple _ => "tuple"
  | .dict _ => "dict"
def isD1 (c : String) (d : D) : Bool := tyD d == c || (c == "int" && tyD d == "bool")
def isDs (cs : List String) (d : D) : Bool := cs.any fun c => isD1 c d
def cls6 : List String := ["int", "bool", "str", "list", "tuple", "dict"]
theorem kit6 : ∀ t ∈ ["NoneType", "bool", "int", "str", "list", "tuple", "dict"], ∀ c ∈ cls6, kitB t c = some (t == c || (c == "int" && t == "bool")) := by decide +kernel
section
variable {K : PySem.W.Frag} {C : Ct} {H G : Hp} {P : Addr → Prop}
theorem tyD_mem {v : V} {d : D} (h : AtTop K C H G P v d) : tyD d ∈ ["NoneType", "bool", "int", "str", "list", "tuple", "dict"] := by
  rcases h with h | ⟨p, rfl, _, _, h⟩
  · cases h <;> simp [tyD]
  · cases d <;> first | exact h.elim | simp [tyD]
theorem AtTop.ty {v : V} {d : D} (gh : ∀ a o, G a = some o → H a = some o) (h : AtTop K C H G P v d) : TyX K H v (.type (tyD d)) := by
  rcases h with h | ⟨p, rfl, _, _, h⟩
  · cases h with
    | non => exact .base .non
    | bl b => exact .base (.bl b)
    | int i => exact .base (.int i)
    | str x => exact .base (.str x)
    | lst e _ _ => exact .base (.lst (gh _ _ e))
    | tup r _ =>
      rcases r with r | ⟨o, its, n, e, c, _⟩
      · rcases rd_of gh r with e | ⟨o, e⟩
        · exact .base (.tup e)
        · exact .fTuple e
      · exact .kTuple e c
    | dic r _ _ =>
      rcases rd_of gh r with e | ⟨o, e⟩
      · exact .base (.dK e)
      · exact .fDict e
  · cases d with
    | list ds => obtain ⟨vs, e, _⟩ := h; exact .base (.lst e)
    | dict ds => obtain ⟨vs, e, _⟩ := h; exact .base (.dK e)
    | _ => exact h.elim
theorem kit_isD {v : V} {d : D} {c : String} (h : AtTop K C H G P v d) (hc : c ∈ cls6) : PySem.W.kitOne K (.type (tyD d)) (.type c) = some (isD1 c d) := kit_ty (kit6 _ (tyD_mem h) c hc)
theorem kit_isDs {v : V} {d : D} (h : AtTop K C H G P v d) : ∀ {cs : List String}, (∀ c ∈ cs, c ∈ cls6) → PySem.W.kitAny K (.type (tyD d)) (cs.map Value.type) = some (isDs cs d)
  | [], _ => rfl
  | c :: cs, hc => by
    refine kitAny_cons (kit_isD h (hc c (by simp))) (fun e => ?_) (fun e => ?_)
    · rw [kit_isDs h fun x hx => hc x (by simp [hx])]; unfold isDs; simp [e]
    · unfold isDs; simp [e]
end
def dIsi (cs : List String) (f : Den D) : Den D := fun ρ S => (f ρ S).bind fun d ρ1 S1 => .ok (.bool (isDs cs d)) ρ1 S1
/-- names of classes -/
inductive ClsNs (X : Cx) : List Expr → List String → Prop where
  | nil : ClsNs X [] []
  | cons {x : Str} {p : Pos} {c : String} {es : List Expr} {cs : List String} : Gl X x → X.mg x = none → bootBuiltins x = some (.type c) → x ≠ "__name__" → (x == ("__debug__" : Str)) = false → starEach (.Name x p :: es) X.env = (false, eval (.Name x p) X.env) :: starEach es X.env → ClsNs X es cs → ClsNs X (.Name x p :: es) (c :: cs)
section
variable {X : Cx} {ec : EC} {E : XK} {Γ : List Tag} {e a b : Expr} {es : List Expr} {pos : Pos} {fr fr' : Bool} {pu : Bool}
theorem clsNs_pa : ∀ {es : List Expr} {cs : List String}, ClsNs X es cs → ∃ ta, PA X es ta ∧ ∀ σ H Q, Q (cs.map V.ty) H → ta σ H Q
  | _, _, .nil => ⟨_, pa_nil, fun _ _ _ q => q⟩
  | _, _, .cons g m v n d s r => by
    obtain ⟨ta, pa, k⟩ := clsNs_pa r
    exact ⟨_, pa_cons (pe_bltn g m v (v := .ty _) rfl n d) pa s, fun σ H Q q => k σ H _ q⟩
theorem paired_cls : ∀ cs : List String, Paired ClsV (cs.map V.ty) (cs.map Value.type)
  | [] => .nil
  | c :: cs => .cons (.ty c) (paired_cls cs)
theorem ej_isi1 {x : Str} {p ip : Pos} {c : String} {f : Den D} (hc : c ∈ cls6) (hgi : Gl X "isinstance") (hmi : X.mg "isinstance" = none) (hn : ClsNs X [.Name x p] [c]) (h : EJ X ec E Γ e f (.top fr) pu)
    (he : starEach [e, .Name x p] X.env = (false, eval e X.env) :: starEach [.Name x p] X.env := by rfl) (hpl : (backTo pos (starEach [.Name x p] X.env)).any (·.1) = false := by rfl) :
    EJ X ec E Γ (.Call (.Name "isinstance" ip) [e, .Name x p] [] pos) (dIsi [c] f) (.val fr') pu := by
  obtain ⟨te, pe, r⟩ := h
  obtain ⟨ta, pa, k⟩ := clsNs_pa hn
  refine ⟨_, pe_callB call_isi hgi hmi boot_isinstance (pa_cons pe pa he) (by decide) (by decide) he hpl, fun C ρ S σ H G N Q R q => ?_⟩
  refine r C ρ S σ H G N _ R (q.bind.mono fun d ρ1 S1 q1 v H1 G1 N1 R1 x1 o1 => ?_)
  refine k σ H1 _ ?_
  have q1 : ∀ v H' G' N', Rel X.K C Γ ρ1 S1 σ H' G' N' → Ext C H G N H' G' N' pu → ValOk X.K C H H' G' N' (.val fr') v (.bool (isDs [c] d)) → Q v H' := q1
  refine ⟨v, .ty c, .type (tyD d), .type c, isD1 c d, rfl, .ty c, AtTop.ty R1.gh o1, kit_isD o1 hc, ?_⟩
  have e1 : isDs [c] d = isD1 c d := by simp [isDs]
  rw [e1] at q1
  exact q1 _ H1 G1 N1 R1 x1 (.bl _)
theorem ej_isiT {k0 : Nat} {ip tp : Pos} {cs : List String} {f : Den D} (hc : (∀ c ∈ cs, c ∈ cls6) ∧ cs.length ≤ 6) (hgi : Gl X "isinstance") (hmi : X.mg "isinstance" = none) (hn : ClsNs X es cs) (h : EJ X ec E Γ e f (.top fr) pu)
    (he : starEach [e, .Tuple es k0 tp] X.env = (false, eval e X.env) :: starEach [.Tuple es k0 tp] X.env := by rfl) (he2 : starEach [.Tuple es k0 tp] X.env = (false, eval (.Tuple es k0 tp) X.env) :: starEach [] X.env := by rfl) (hpl : (backTo pos (starEach [.Tuple es k0 tp] X.env)).any (·.1) = false := by rfl) :
    EJ X ec E Γ (.Call (.Name "isinstance" ip) [e, .Tuple es k0 tp] [] pos) (dIsi cs f) (.val fr') pu := by
  obtain ⟨te, pe, r⟩ := h
  obtain ⟨ta, pa, k⟩ := clsNs_pa hn
  refine ⟨_, pe_callB call_isiT hgi hmi boot_isinstance (pa_cons pe (pa_cons (pe_tup pa) pa_nil he2) he) (by decide) (by decide) he hpl, fun C ρ S σ H G N Q R q => ?_⟩
  refine r C ρ S σ H G N _ R (q.bind.mono fun d ρ1 S1 q1 v H1 G1 N1 R1 x1 o1 => ?_)
  refine k σ H1 _ ⟨by rw [List.length_map]; exact Nat.le_trans hc.2 (by decide), fun T hT => ?_⟩
  obtain ⟨h1, h2, h3, h4, h5⟩ := gupd R1.gh (o := .tup (cs.map V.ty)) hT
  obtain ⟨R3, x3⟩ := R1.grow h1 h2 h3 h4 h5
  have q1 : ∀ v H' G' N', Rel X.K C Γ ρ1 S1 σ H' G' N' → Ext C H G N H' G' N' pu → ValOk X.K C H H' G' N' (.val fr') v (.bool (isDs cs d)) → Q v H' := q1
  have o3 : AtTop X.K C (upd H1 T (.tup (cs.map V.ty))) (upd G1 T (.tup (cs.map V.ty))) (Pf C fr) v d := AtTop.step o1 x3 rfl
  exact ⟨v, T, cs.map V.ty, .type (tyD d), cs.map Value.type, isDs cs d, rfl, upd_same, paired_cls cs, AtTop.ty R3.gh o3, kit_isDs o3 hc.1, q1 _ _ _ N1 R3 ((x1.trans x3).weak fun z => by simp [z]) (.bl _)⟩

/-! ### slices -/
def cutG {α : Type} (xs : List α) (lo hi : Option Int) : List α := (xs.drop (HT.sIx xs.length 0 lo)).take (HT.sIx xs.length xs.length hi - HT.sIx xs.length 0 lo)
theorem AtL.cut {K : PySem.W.Frag} {G : Hp} {P : Addr → Prop} {vs : List V} {ds : List D} (h : AtL K G P vs ds) (lo hi : Option Int) : AtL K G P (cutV vs lo hi) (cutG ds lo hi) := by
  unfold cutV cutG
  rw [h.length]
  exact (h.drop _).take _
def sliceD : D → Option Int → Option Int → Option D
  | .list ds, lo, hi => some (.list (cutG ds lo hi))
  | .tuple ds, lo, hi => some (.tuple (cutG ds lo hi))
  | .str s, lo, hi => if s.length ≤ sizeLine then some (.str (cutS s lo hi)) else none
  | _, _, _ => none
def PoJ (X : Cx) (ec : EC) (E : XK) (Γ : List Tag) (e : Option Expr) (f : Den (Option Int)) : Prop :=
  ∃ to, PO X e to ∧ ∀ C ρ S σ H G N Q, Rel X.K C Γ ρ S σ H G N →
    Post X.K ec E C (f ρ S) (fun o ρ' S' => ∀ H' G' N', Rel X.K C Γ ρ' S' σ H' G' N' → Ext C H G N H' G' N' true → Q o H') → to σ H Q
def dPo0 : Den (Option Int) := fun ρ S => .ok none ρ S
def intO : D → Option Int
  | .int i => some i
  | _ => none
def dPo (f : Den D) : Den (Option Int) := fun ρ S => (f ρ S).bind fun d ρ1 S1 => (optR (intO d) ρ1 S1).bind fun i ρ1 S1 => .ok (some i) ρ1 S1
theorem poj_none : PoJ X ec E Γ none dPo0 := ⟨_, po_none, fun C ρ S σ H G N Q R p => p H G N R Ext.refl⟩
theorem poj_some {f : Den D} (h : EJ X ec E Γ e f (.val fr) true) : PoJ X ec E Γ (some e) (dPo f) := by
  obtain ⟨te, pe, r⟩ := h
  refine ⟨_, po_some pe, fun C ρ S σ H G N Q R p => ?_⟩
  refine r C ρ S σ H G N _ R (p.bind.mono fun d ρ1 S1 q v H1 G1 N1 R1 x1 o1 => ?_)
  obtain ⟨i, hi, q⟩ := optR_post q.bind
  cases d with
  | int j =>
    cases hi
    have o1 : At X.K G1 (Pf C fr) v (.int i) := o1
    cases o1
    exact ⟨i, rfl, q H1 G1 N1 R1 x1⟩
  | _ => cases hi
def dSl (g : D → Option Int → Option Int → Option D) (f : Den D) (l h : Den (Option Int)) : Den D := fun ρ S => (f ρ S).bind fun d ρ1 S1 => (l ρ1 S1).bind fun lo ρ2 S2 => (h ρ2 S2).bind fun hi ρ3 S3 => optR (g d lo hi) ρ3 S3
theorem ej_slice {lo hi : Option Expr} {p2 : Pos} {f : Den D} {l h : Den (Option Int)} (he : EJ X ec E Γ e f (.top fr) pu) (hl : PoJ X ec E Γ lo l) (hh : PoJ X ec E Γ hi h) : EJ X ec E Γ (.Subscript e (.Slice lo hi none p2) pos) (dSl sliceD f l h) (.val fr) pu := by
  obtain ⟨te, pe, r⟩ := he
  obtain ⟨tl, pl, rl⟩ := hl
  obtain ⟨th, ph, rh⟩ := hh
  refine ⟨_, pe_slice (sl_list.or (sl_tupA.or sl_str)) pe pl ph, fun C ρ S σ H G N Q R p => ?_⟩
  refine r C ρ S σ H G N _ R (p.bind.mono fun d ρ1 S1 q v H1 G1 N1 R1 x1 o1 => ?_)
  refine rl C ρ1 S1 σ H1 G1 N1 _ R1 (q.bind.mono fun lo ρ2 S2 q H2 G2 N2 R2 x2 => ?_)
  refine rh C ρ2 S2 σ H2 G2 N2 _ R2 (q.bind.mono fun hi ρ3 S3 q H3 G3 N3 R3 x3 => ?_)
  obtain ⟨d', hd, q⟩ := optR_post q
  have o3 : AtTop X.K C H3 G3 (Pf C fr) v d := AtTop.step (AtTop.step o1 x2 rfl) x3 rfl
  have x : Ext C H G N H3 G3 N3 pu := ((x1.trans x2).trans x3).weak fun z => by simp [z]
  have hA : Any X.K H3 G3 (Pf C fr) d' Q := fun v' H' G' h1 h2 h3 h4 h5 at' => by
    obtain ⟨R4, x4⟩ := R3.grow h1 h2 h3 h4 h5
    exact q v' H' G' N3 R4 ((x.trans x4).weak fun z => by simp [z]) at'
  unfold sliceD at hd
  split at hd
  · cases hd
    obtain ⟨p', vs, rfl, e1, l1⟩ := o3.list R3.gh
    exact .inl ⟨p', vs, rfl, .inl (.inl e1), fun a ha => hA.newL R3.gh (fun a z => R3.pf z) (l1.cut lo hi) ha⟩
  · cases hd
    obtain ⟨p', vs, rfl, e1, l1, a1⟩ := o3.tuple R3.gh
    refine .inr (.inl ⟨p', vs, rfl, e1, fun z => ?_, fun _ a ha => hA.newT R3.gh (l1.cut lo hi) ha⟩)
    refine hA.val R3.gh ?_
    rw [l1.length] at z
    have e2 : ∀ {xs : List D}, HT.sIx xs.length 0 lo = 0 ∧ HT.sIx xs.length xs.length hi = xs.length → cutG xs lo hi = xs := fun {xs} z => by
      unfold cutG
      rw [z.1, z.2]
      simp
    rw [e2 z]
    exact a1
  · split at hd
    · rename_i hz
      cases hd
      exact .inr (.inr ⟨_, o3.str, hz, hA.val R3.gh (.str _)⟩)
    · cases hd
  · cases hd
def cutLD : D → Option Int → Option Int → Option D
  | .list ds, lo, hi => some (.list (cutG ds lo hi))
  | _, _, _ => none
/-- of a list: a new list of one's own -/
theorem ej_sliceN {lo hi : Option Expr} {p2 : Pos} {f : Den D} {l h : Den (Option Int)} (he : EJ X ec E Γ e f (.top fr) pu) (hl : PoJ X ec E Γ lo l) (hh : PoJ X ec E Γ hi h) : EJ X ec E Γ (.Subscript e (.Slice lo hi none p2) pos) (dSl cutLD f l h) (.new fr) pu := by
  obtain ⟨te, pe, r⟩ := he
  obtain ⟨tl, pl, rl⟩ := hl
  obtain ⟨th, ph, rh⟩ := hh
  refine ⟨_, pe_slice sl_list pe pl ph, fun C ρ S σ H G N Q R p => ?_⟩
  refine r C ρ S σ H G N _ R (p.bind.mono fun d ρ1 S1 q v H1 G1 N1 R1 x1 o1 => ?_)
  refine rl C ρ1 S1 σ H1 G1 N1 _ R1 (q.bind.mono fun lo ρ2 S2 q H2 G2 N2 R2 x2 => ?_)
  refine rh C ρ2 S2 σ H2 G2 N2 _ R2 (q.bind.mono fun hi ρ3 S3 q H3 G3 N3 R3 x3 => ?_)
  obtain ⟨d', hd, q⟩ := optR_post q
  have o3 : AtTop X.K C H3 G3 (Pf C fr) v d := AtTop.step (AtTop.step o1 x2 rfl) x3 rfl
  have x : Ext C H G N H3 G3 N3 pu := ((x1.trans x2).trans x3).weak fun z => by simp [z]
  unfold cutLD at hd
  split at hd
  · cases hd
    obtain ⟨p', vs, rfl, e1, l1⟩ := o3.list R3.gh
    refine ⟨p', vs, rfl, .inl (.inl e1), fun a ha => ?_⟩
    exact q _ _ _ N3 (R3.alloc ha rfl) ((x.trans (ext_alloc (pu := true) ha)).weak fun z => by simp [z])
      ⟨a, rfl, (by
        cases z : H a with
        | none => rfl
        | some o => exact absurd ha (x.dom a (by rw [z]; simp))), R3.g0n ha, R3.n0 ha, _, upd_same, l1.cut lo hi⟩
  · cases hd
/-! ### - x -/
def negD : D → Option D
  | .int i => some (.int (-i))
  | _ => none
def dUn (g : D → Option D) (f : Den D) : Den D := fun ρ S => (f ρ S).bind fun d ρ1 S1 => optR (g d) ρ1 S1
theorem ej_neg {f : Den D} (h : EJ X ec E Γ e f (.val fr) pu) : EJ X ec E Γ (.UnaryOp .USub e pos) (dUn negD f) (.val fr') pu := by
  obtain ⟨te, pe, r⟩ := h
  refine ⟨_, pe_un un_neg pe, fun C ρ S σ H G N Q R p => ?_⟩
  refine r C ρ S σ H G N _ R (p.bind.mono fun d ρ1 S1 q v H1 G1 N1 R1 x1 o1 => ?_)
  obtain ⟨d', hd, q⟩ := optR_post q
  cases d with
  | int j =>
    cases hd
    have o1 : At X.K G1 (Pf C fr) v (.int j) := o1
    cases o1
    exact ⟨j, rfl, q _ H1 G1 N1 R1 x1 (.int _)⟩
  | _ => cases hd
/-! ### chains -/
def dChain (g g' : D → D → Option Bool) (fa fb fc : Den D) : Den Bool := fun ρ S => (fa ρ S).bind fun x ρ1 S1 => (fb ρ1 S1).bind fun y ρ2 S2 => (optR (g x y) ρ2 S2).bind fun k ρ2 S2 => if k then (fc ρ2 S2).bind fun z ρ3 S3 => optR (g' y z) ρ3 S3 else .ok false ρ2 S2
theorem chain_core {c : Expr} {r r' : R2} {g g' : D → D → Option Bool} {fa fb fc : Den D} {ta tb tc : TE} (pr : PrimB2 X.K r g) (pr' : PrimB2 X.K r' g')
    (ra : ∀ C ρ S σ H G N Q, Rel X.K C Γ ρ S σ H G N → Post X.K ec E C (fa ρ S) (fun d ρ' S' => ∀ v H' G' N', Rel X.K C Γ ρ' S' σ H' G' N' → Ext C H G N H' G' N' pu → ValOk X.K C H H' G' N' (.top fr) v d → Q v H') → ta σ H Q)
    (rb : ∀ C ρ S σ H G N Q, Rel X.K C Γ ρ S σ H G N → Post X.K ec E C (fb ρ S) (fun d ρ' S' => ∀ v H' G' N', Rel X.K C Γ ρ' S' σ H' G' N' → Ext C H G N H' G' N' true → ValOk X.K C H H' G' N' (.top fr) v d → Q v H') → tb σ H Q)
    (rc : ∀ C ρ S σ H G N Q, Rel X.K C Γ ρ S σ H G N → Post X.K ec E C (fc ρ S) (fun d ρ' S' => ∀ v H' G' N', Rel X.K C Γ ρ' S' σ H' G' N' → Ext C H G N H' G' N' true → ValOk X.K C H H' G' N' (.top fr) v d → Q v H') → tc σ H Q)
    {C : Ct} {ρ : Rho} {S : SS} {σ : L2.St} {H G : Hp} {N : Nat → Addr → Prop} {Q : VK} (R : Rel X.K C Γ ρ S σ H G N)
    (p : Post X.K ec E C (dChain g g' fa fb fc ρ S) (fun b ρ' S' => ∀ H' G' N', Rel X.K C Γ ρ' S' σ H' G' N' → Ext C H G N H' G' N' pu → Q (.bl b) H')) : tChain r r' ta tb tc σ H Q := by
  refine ra C ρ S σ H G N _ R (p.bind.mono fun d1 ρ1 S1 p1 x H1 G1 N1 R1 x1 o1 => ?_)
  refine rb C ρ1 S1 σ H1 G1 N1 _ R1 (p1.bind.mono fun d2 ρ2 S2 p2 y H2 G2 N2 R2 x2 o2 => ?_)
  obtain ⟨k, hk, p2⟩ := optR_post p2.bind
  refine pr C H2 G2 (Pf C fr) x y d1 d2 k _ R2.gh (AtTop.step o1 x2 rfl) o2 hk ⟨k, rfl, ?_⟩
  cases k with
  | false =>
    rw [if_neg Bool.false_ne_true] at p2 ⊢
    exact p2 H2 G2 N2 R2 ((x1.trans x2).weak fun z => by simp [z])
  | true =>
    rw [if_pos rfl] at p2 ⊢
    refine rc C ρ2 S2 σ H2 G2 N2 _ R2 (p2.bind.mono fun d3 ρ3 S3 p3 z H3 G3 N3 R3 x3 o3 => ?_)
    obtain ⟨k', hk', p3⟩ := optR_post p3
    exact pr' C H3 G3 (Pf C fr) y z d2 d3 k' _ R3.gh (AtTop.step o2 x3 rfl) o3 hk' (p3 H3 G3 N3 R3 (((x1.trans x2).trans x3).weak fun z => by simp [z]))
theorem tj_chain {c : Expr} {op op' : CmpOp} {r r' : R2} {g g' : D → D → Option Bool} {fa fb fc : Den D} (ho : OpR X (compareOp op) r) (ho' : OpR X (compareOp op') r') (pr : PrimB2 X.K r g) (pr' : PrimB2 X.K r' g') (ha : EJ X ec E Γ a fa (.top fr) pu) (hb : EJ X ec E Γ b fb (.top fr) true) (hc : EJ X ec E Γ c fc (.top fr) true)
    (hm : lastMarks [op, op'] [b, c] = false := by with_unfolding_all rfl) : TJ X ec E Γ (.Compare a [op, op'] [b, c] pos) (dChain g g' fa fb fc) pu := by
  obtain ⟨ta, pa, ra⟩ := ha
  obtain ⟨tb, pb, rb⟩ := hb
  obtain ⟨tc, pc, rc⟩ := hc
  exact ⟨_, pt_chain ho ho' pa pb pc hm, fun C ρ S σ H G N Q R p => chain_core (c := c) pr pr' ra rb rc R (p.mono fun k ρ1 S1 q H' G' N' h1 h2 => ⟨k, rfl, q H' G' N' h1 h2⟩)⟩
theorem ej_chain {c : Expr} {op op' : CmpOp} {r r' : R2} {g g' : D → D → Option Bool} {fa fb fc : Den D} (ho : OpR X (compareOp op) r) (ho' : OpR X (compareOp op') r') (pr : PrimB2 X.K r g) (pr' : PrimB2 X.K r' g') (ha : EJ X ec E Γ a fa (.top fr) pu) (hb : EJ X ec E Γ b fb (.top fr) true) (hc : EJ X ec E Γ c fc (.top fr) true)
    (hm : lastMarks [op, op'] [b, c] = false := by with_unfolding_all rfl) : EJ X ec E Γ (.Compare a [op, op'] [b, c] pos) (dB (dChain g g' fa fb fc)) (.val fr') pu := by
  obtain ⟨ta, pa, ra⟩ := ha
  obtain ⟨tb, pb, rb⟩ := hb
  obtain ⟨tc, pc, rc⟩ := hc
  exact ⟨_, pe_chain ho ho' pa pb pc hm, fun C ρ S σ H G N Q R p => chain_core (c := c) pr pr' ra rb rc R (p.bind.mono fun k ρ1 S1 q H' G' N' h1 h2 => q _ H' G' N' h1 h2 (.bl k))⟩
/-! ### lists, new -/
def PrimN2 (K : PySem.W.Frag) (r : R2) (g : D → D → Option (List D)) : Prop := ∀ C H G P x y d1 d2 es Q, (∀ a o, G a = some o → H a = some o) → AtTop K C H G P x d1 → AtTop K C H G P y d2 → g d1 d2 = some es → (∀ p vs, H p = none → AtL K G P vs es → Q (.ref p) (upd H p (.lst vs))) → r x y H Q
def dBinL (g : D → D → Option (List D)) (fa fb : Den D) : Den D := fun ρ S => (fa ρ S).bind fun x ρ1 S1 => (fb ρ1 S1).bind fun y ρ2 S2 => (optR (g x y) ρ2 S2).bind fun es ρ2 S2 => .ok (.list es) ρ2 S2
theorem ej_binN {op : Operator} {r : R2} {g : D → D → Option (List D)} {fa fb : Den D} (ho : OpR X (binaryOp op) r) (pr : PrimN2 X.K r g) (ha : EJ X ec E Γ a fa (.top fr) pu) (hb : EJ X ec E Γ b fb (.top fr) true) :
    EJ X ec E Γ (.BinOp a op b pos) (dBinL g fa fb) (.new fr) pu := by
  obtain ⟨ta, tb, pa, pb, rr⟩ := ej_two ha hb
  refine ⟨_, pe_op ho pa pb, fun C ρ S σ H G N Q R p => ?_⟩
  refine rr C ρ S σ H G N _ D (fun x y ρ2 S2 => (optR (g x y) ρ2 S2).bind fun es ρ2 S2 => .ok (.list es) ρ2 S2) _ R p fun x y d1 d2 ρ2 S2 H2 G2 N2 R2 x2 o1 o2 p2 => ?_
  obtain ⟨d, hd, k⟩ := optR_post p2.bind
  refine pr C H2 G2 (Pf C fr) x y d1 d2 d Q R2.gh o1 o2 hd fun p ws hp l => ?_
  exact k _ _ _ N2 (R2.alloc hp rfl) ((x2.trans (ext_alloc (pu := true) hp)).weak fun z => by simp [z])
    ⟨p, rfl, (by
      cases q : H p with
      | none => rfl
      | some o => exact absurd hp (x2.dom p (by rw [q]; simp))), R2.g0n hp, R2.n0 hp, ws, upd_same, l⟩
def catD : D → D → Option (List D)
  | .list xs, .list ys => if xs.length + ys.length ≤ sizeLine then some (xs ++ ys) else none
  | _, _ => none
def repD : D → D → Option (List D)
  | .list xs, .int k => if -(2 ^ 63) ≤ k ∧ k < 2 ^ 63 ∧ xs.length * k.toNat ≤ sizeLine then some (List.replicate k.toNat xs).flatten else none
  | _, _ => none
theorem primN_cat {K : PySem.W.Frag} : PrimN2 K rCat catD := by
  intro C H G P x y d1 d2 es Q gh h1 h2 he q
  unfold catD at he
  split at he
  · split at he
    · rename_i hl
      cases he
      obtain ⟨p, vs, rfl, e1, l1⟩ := h1.list gh
      obtain ⟨p2, vs2, rfl, e2, l2⟩ := h2.list gh
      exact ⟨p, p2, vs, vs2, rfl, rfl, e1, e2, by rw [l1.length, l2.length]; exact hl, fun p' hp => q p' _ hp (l1.append l2)⟩
    · cases he
  · cases he
theorem primN_rep {K : PySem.W.Frag} : PrimN2 K rRep repD := by
  intro C H G P x y d1 d2 es Q gh h1 h2 he q
  unfold repD at he
  split at he
  · split at he
    · rename_i hl
      cases he
      obtain ⟨p, vs, rfl, e1, l1⟩ := h1.list gh
      refine ⟨p, _, vs, rfl, h2.int, e1, hl.1, hl.2.1, by rw [l1.length]; exact hl.2.2, fun p' hp => q p' _ hp ?_⟩
      have rep : ∀ n : Nat, AtL K G P (List.replicate n vs).flatten (List.replicate n _).flatten := fun n => by
        induction n with
        | zero => exact .nil
        | succ n ih => rw [List.replicate_succ, List.replicate_succ, List.flatten_cons, List.flatten_cons]; exact l1.append ih
      exact rep _
    · cases he
  · cases he
end
end PD

/-! enumerate of a tuple -/
namespace PD
open PySem L2 PyProof.Rows
open AutoSeq1 (wpAny_loadPart')
theorem meets_enum_tup (l : Addr) (items : Array Value) (n : Nat) (dct : Option Addr) (sl : Array (Option Value)) :
    Meets (Builtin.«enumerate.__new__» ⟨[.type "enumerate", .ref l], []⟩) (fun _ R s => s.heap.get? l = some { cls := .type "tuple", dict := dct, data := .seq items n, slots := sl } ∧
      R (.ok (.ret (.ref (s.heap.push { cls := .type "tuple_iterator", data := .fields #[.ref l, .int 0 0] }).objs.size)))
        { s with heap := (s.heap.push { cls := .type "tuple_iterator", data := .fields #[.ref l, .int 0 0] }).push { cls := .type "enumerate", data := .fields #[.none, .bool false, .ref s.heap.objs.size, rawInt 0, .none, .none] } }) :=
  .of_wp fun prog w A R s h => by
    obtain ⟨hp, g, d, tk, os⟩ := s; obtain ⟨hl, h⟩ := h
    have hsub := sub_enumerate
    have hL : Heap.IsTuple (Shared.heap ⟨hp, g, d, tk, os⟩) l items := ⟨_, hl, rfl, n, rfl⟩
    wp_walk using wpAny_loadPart' hl
    refine wpAny_stack_any fun st => wpAny_pure ?_
    split
    · rename_i c _ _ _ _ _
      cases (c == Value.type "enumerate")
      · wp_walk using wpAny_loadPart' hl, wpAny_pyIter_tuple hL
        exact ⟨_, rfl, h⟩
      · wp_walk using wpAny_loadPart' hl, wpAny_pyIter_tuple hL
        exact ⟨_, rfl, h⟩
    · wp_walk using wpAny_loadPart' hl, wpAny_pyIter_tuple hL
      exact ⟨_, rfl, h⟩
theorem call_enum_tup {prog : Program} {w : World} {A : Around} {E : Value → Shared → Prop} {s : Shared} {l : Addr} {items : Array Value} {Q : Value → Shared → Prop} (hL : s.heap.IsTuple l items)
    (h : ∀ h', IsEnum h' (s.heap.objs.size + 1) s.heap.objs.size 0 .none → h'.IsTupleIter s.heap.objs.size l 0 → h'.objs.size = s.heap.objs.size + 2 →
      (∀ b o, s.heap.get? b = some o → h'.get? b = some o) → Q (.ref (s.heap.objs.size + 1)) { s with heap := h' }) :
    wpAny (model prog w) A (call (.type "enumerate") [.ref l]) Q E s := by
  obtain ⟨⟨c, dct, dt, sl⟩, hl, hc, n, hd⟩ := hL
  replace hc : c = .type "tuple" := hc
  replace hd : dt = .seq items n := hd
  subst hc hd
  refine callType_new F.called_enumerate (by decide) (F.typeCall_enumerate_1 _) (F.newCall_enumerate_1 _) (fun obj => F.args_object_init_2 obj _) F.entry_enumerate_new
    (meets_enum_tup l items n dct sl) ⟨hl, ?_⟩
  have hz : (s.heap.push { cls := .type "tuple_iterator", data := .fields #[.ref l, .int 0 0] }).objs.size = s.heap.objs.size + 1 := Heap.size_push ..
  show _ ∧ _
  rw [hz]
  have he : IsEnum ((s.heap.push { cls := .type "tuple_iterator", data := .fields #[.ref l, .int 0 0] }).push
      { cls := .type "enumerate", data := .fields #[.none, .bool false, .ref s.heap.objs.size, rawInt 0, .none, .none] }) (s.heap.objs.size + 1) s.heap.objs.size 0 .none := by
    have := Heap.get?_push_size (s.heap.push { cls := .type "tuple_iterator", data := .fields #[.ref l, .int 0 0] })
      (o := { cls := .type "enumerate", data := .fields #[.none, .bool false, .ref s.heap.objs.size, rawInt 0, .none, .none] }) rfl
    rw [hz] at this; exact this
  refine ⟨⟨_, he, rfl⟩, h _ he ⟨_, Heap.get?_push_of_some _ (Heap.get?_push_size _ rfl), rfl, rfl⟩ (by rw [Heap.size_push, hz]) fun b o x => Heap.get?_push_of_some _ (Heap.get?_push_of_some _ x)⟩
/-- the tuple at a, each item in a new pair -/
def Iet (K : PySem.W.Frag) (a : Addr) : It :=
  ⟨fun i H => ∃ (xs : List V) (x : V), SqT K H a xs ∧ xs[i]? = some x, fun i H v H' => ∃ T x, v = .ref T ∧ H T = none ∧ H' = upd H T (.tup [.int (i : Nat), x]) ∧ ∀ xs, SqT K H a xs → xs[i]? = some x, fun i H => ∃ xs : List V, SqT K H a xs ∧ xs.length ≤ i⟩
theorem turn_iet {P : Program} {w : World} {K : PySem.W.Frag} {elts : List Expr} {kk : Nat} {tpos : Pos} (a e it : Addr) :
    Turn P w K (.Tuple elts kk tpos) (Iet K a) [e, it] e (fun i h => (∃ old, IsEnum h e it ((i : Nat) : Int) old) ∧ h.IsTupleIter it a i ∧ e ≠ it) where
  mem := by simp
  obj := fun i h st b hb => by
    obtain ⟨⟨old, he⟩, ⟨o, ho, hc, hd⟩, _⟩ := st
    have e' : b = e ∨ b = it := by simpa using hb
    rcases e' with z | z
    · rw [z]; exact ⟨_, he, fun v q => nomatch q⟩
    · rw [z]; exact ⟨o, ho, fun v q => by rw [hd] at q; cases q⟩
  keep := fun i h h' st k => let ⟨⟨old, he⟩, hi, hne⟩ := st; ⟨⟨old, k e (by simp) _ he⟩, hi.at fun o q => k it (by simp) o q, hne⟩
  item := by
    intro X hP hw hK hc i pins s σ H E I hf st hg
    subst hP hw hK
    obtain ⟨⟨old, he⟩, hit, hne⟩ := st
    obtain ⟨xs, x, hq, hx⟩ := hg
    obtain ⟨its, rv, p, hz⟩ := I.tuple hq
    obtain ⟨u, hu, ru⟩ := rv.get hx
    have hel : e < s.heap.objs.size := Heap.lt_size he
    have hil : it < s.heap.objs.size := by obtain ⟨_, q, _⟩ := hit; exact Heap.lt_size q
    have pe : s.heap.IsTuple a its.toArray := p
    have hat : a ≠ it := by
      rintro rfl
      obtain ⟨o, e1, c1, _⟩ := hit
      obtain ⟨o2, e2, c2, _⟩ := pe
      rw [e1] at e2; cases e2
      rw [c1] at c2
      injection c2 with c2
      exact absurd c2 (by decide)
    have hae : e ≠ a := by
      rintro rfl
      obtain ⟨o2, e2, c2, _⟩ := pe
      have he' : s.heap.get? e = some _ := he
      rw [he'] at e2; cases e2
      injection c2 with c2
      exact absurd c2 (by decide)
    have D := PySem.Draws.tuple (prog := X.prog) (w := X.w) (A := X.A.in1) (I.ok.hd hc) it a hat its.toArray
    have hlt : i < its.toArray.size := by
      rw [List.size_toArray]
      exact (List.getElem?_eq_some_iff.mp hu).1
    refine wpAny_pyNext_enum_itemD D he ⟨hit, pe⟩ hlt hne (by simp [hne, hae]) fun y h' tk hy ho st' hT hsz hk => ?_
    have ey : y = u := by
      have hy : its.toArray[i]? = some y := hy
      rw [List.getElem?_toArray] at hy
      rw [hu] at hy; exact (Option.some.inj hy).symm
    subst ey
    refine ⟨_, rfl, wpAny_letOwnedTupleGo_enum (s := { s with heap := h', toks := tk + 1 }) ho fun h'' he' sb => ?_⟩
    have hT2 : h''.get? s.heap.objs.size = some { cls := .type "tuple", data := .seq #[.int i tk, y] } := (sb.2 _ (Nat.ne_of_gt hel)).trans hT
    have new : ObjOk X.prog X.w (upd H s.heap.objs.size (.tup [.int (i : Nat), x])) h'' s.heap.objs.size (.tup [.int (i : Nat), x]) :=
      ⟨by show 2 ≤ sizeLine; decide, [.int i tk, y], .cons ⟨_, rfl⟩ (.cons ru .nil), ⟨_, hT2, rfl, _, rfl⟩⟩
    have I1 : Inv X pins σ (upd H s.heap.objs.size (.tup [.int (i : Nat), x])) { s with heap := h'', toks := tk + 1 } :=
      I.turnedNew (ch := [e, it]) (fun b ob hb q => (sb.2 b (fun z => hb (by simp [z]))).trans (hk b ob (fun z => hb (by simp [z])) (fun z => hb (by simp [z])) q)) hf (Nat.le_refl _) new
    refine ⟨.ref s.heap.objs.size, _, I1, rfl, ⟨_, x, rfl, I.hok.fresh (Nat.le_refl _), rfl, fun ys hy => by rw [I.tuple_inj hy hq]; exact hx⟩, ⟨⟨y, ?_⟩, st'.1.at fun o q => (sb.2 it (Ne.symm hne)).trans q, hne⟩, fun b hb => ?_⟩
    · have e1 : ((i + 1 : Nat) : Int) = (i : Int) + 1 := by omega
      rw [e1]; exact he'
    · have hb' : b < s.heap.objs.size := by
        have e' : b = e ∨ b = it := by simpa using hb
        rcases e' with z | z
        · rw [z]; exact hel
        · rw [z]; exact hil
      rw [upd_ne (Nat.ne_of_lt hb')]
      exact (hf b hb).1
  done := by
    intro X hP hw hK hc i pins s σ H E I hf st hg
    subst hP hw hK
    obtain ⟨⟨old, he⟩, hit, hne⟩ := st
    obtain ⟨xs, hq, hx⟩ := hg
    obtain ⟨its, rv, p, hz⟩ := I.tuple hq
    obtain ⟨f0, f1, f2, f3, f4, f5⟩ := hf it (by simp)
    have hl := rv.length
    have pe : s.heap.IsTuple a its.toArray := p
    have hT : s.TypeIs (.ref e) "enumerate" := ⟨_, he, rfl⟩
    unfold pyNext
    refine wpAny_bind (wpAny_attempt (wpAny_callSpecial?_slot (name := Str.ofString "__next__") hT F.slot_enumerate_next
      (wpAny_call_entry F.slot_enumerate_next hT F.entry_enumerate_next ?_ (F.args_enumerate_next_1 _))))
    show wpAny _ _ (field (.ref e) 2 >>= _) _ _ _
    refine wpAny_bind (wpAny_field he rfl (x := .ref it) rfl ?_)
    refine wpAny_bind (PySem.wpAny_nextOf_tuple_end (A := X.A.in1) (I.ok.hd hc) hit pe (by simp; omega) fun h' x he' hx' => ?_)
    obtain ⟨o, ho, hc⟩ := hx'
    refine wpAny_bind (wpAny_isInstance (T := "StopIteration") (b := true) ⟨o, ho, hc⟩ isSubtype_stop ?_)
    exact wpAny_pure ⟨rfl, I.turned (t' := s.toks) (fun b o hb q => he' b o hb q) f0 f1 f3 f4 f5⟩
  self := fun A i s Q E st h => let ⟨⟨_, he⟩, _⟩ := st; wpAny_pyIter_enum he h
def iEnumT (K : PySem.W.Frag) (ta : TA) : TI := fun σ H R => ta σ H fun vs H1 => ∃ a xs, vs = [.ref a] ∧ SqT K H1 a xs ∧ R (Iet K a) H1
theorem pi_enumT {X : Cx} {e : Expr} {ta : TA} {p pos tpos : Pos} {elts : List Expr} {kk : Nat} (hg : Gl X "enumerate") (hm : X.mg "enumerate" = none) (ha : PA X [e] ta) (hs : starEach [e] X.env = [(false, eval e X.env)] := by rfl) :
    PI X (.Tuple elts kk tpos) (.Call (.Name "enumerate" p) [e] [] pos) (iEnumT X.K ta) := by
  refine ⟨fun pins s σ H R I h => ?_⟩
  refine Call_ (ld_blt I hg hm boot_enumerate (PyProof.Rows.callWith_type1 (thn (ha.run pos pins s σ H _ I h) fun us s1 ⟨vs, H1, I1, r1, q1⟩ => ?_) hs rfl))
  obtain ⟨a, xs, ex, hq, q⟩ := q1
  subst ex
  cases r1 with
  | cons r rr =>
    cases rr
    cases r
    obtain ⟨its, rv, p', hz⟩ := I1.tuple hq
    refine call_enum_tup p' fun h' he hit hsz hk => wpAny_pyIter_enum he ?_
    have I2 : Inv X pins σ H1 { s1 with heap := h' } := I1.kept (t' := s1.toks) hk
    refine ⟨s1.heap.objs.size + 1, [s1.heap.objs.size + 1, s1.heap.objs.size], _, _, H1, rfl, I2, turn_iet a (s1.heap.objs.size + 1) s1.heap.objs.size, ⟨⟨.none, he⟩, hit, Nat.succ_ne_self _⟩, fun b hb => ?_, q⟩
    have e' : b = s1.heap.objs.size + 1 ∨ b = s1.heap.objs.size := by simpa using hb
    have hle : s1.heap.objs.size ≤ b := by
      rcases e' with z | z
      · rw [z]; exact Nat.le_add_right _ _
      · rw [z]; exact Nat.le_refl _
    exact I1.fpOk hle (I1.hok.fresh hle)
theorem walk_iet {K : PySem.W.Frag} {a : Addr} {xs : List V} : Walk (Iet K a) xs.length (fun H => SqT K H a xs) (YPair (fun i => some (.int (i : Nat))) (fun i => xs[i]?)) := by
  refine ⟨fun i _ hi q => ⟨xs, xs[i], q, by simp [hi]⟩, fun _ q => ⟨xs, q, Nat.le_refl _⟩, fun i H v H' _ q y => ?_⟩
  obtain ⟨T, x, h1, h2, h3, h4⟩ := y
  exact ⟨T, .int (i : Nat), x, h1, h2, h3, rfl, h4 xs q⟩
theorem sqT_mono {K : PySem.W.Frag} {G G2 H2 : Hp} {a : Addr} {vs : List V} (r : SqT K G a vs) (gh : ∀ a o, G2 a = some o → H2 a = some o) (e : ExR G G2) : SqT K H2 a vs := r.imp (fun z => rd_of gh (e.rd _ _ z)) id
theorem iter_iet {K : PySem.W.Frag} {G : Hp} {P : Addr → Prop} {a : Addr} {vs : List V} {ds : List D} (h : SqT K G a vs) (l : AtL K G P vs ds) : IterOk K G P (Iet K a) (enumD ds 0) :=
  ⟨fun H => SqT K H a vs, YPair (fun i => some (.int (i : Nat))) (fun i => vs[i]?), by rw [enumD_length, ← l.length]; exact walk_iet, fun H2 G2 gh e => sqT_mono h gh e, fun i x H2 H2' G2 d Q gh e _ y hd q => by
    obtain ⟨TT, v1, v2, rfl, hT, rfl, e1, e2⟩ := y
    obtain ⟨z, hz, rfl⟩ := enumD_get _ _ _ _ hd
    obtain ⟨v, hv, a⟩ := l.get hz
    have e2 : vs[i]? = some v2 := e2
    rw [e2] at hv; cases hv
    cases e1
    exact any_pair gh (.int _) (a.ext e) (by simpa using q) hT⟩
def enumA : List D → Option (List D)
  | [.list ds] => some (enumD ds 0)
  | [.tuple ds] => some (enumD ds 0)
  | _ => none
section
variable {X : Cx} {ec : EC} {E : XK} {fr fr' : Bool} {Γ : List Tag} {a : Expr} {pos : Pos}
/-- enumerate of a list or a tuple -/
theorem ij_enumA {elts : List Expr} {kk : Nat} {p tpos : Pos} {fa : Den D} {pu : Bool} (hg : Gl X "enumerate") (hm : X.mg "enumerate" = none) (ha : EJ X ec E Γ a fa (.val fr) pu) (hs : starEach [a] X.env = [(false, eval a X.env)] := by rfl) :
    IJ X ec E Γ (.Tuple elts kk tpos) (.Call (.Name "enumerate" p) [a] [] pos) (dIt enumA (dCons fa dNil)) fr pu := by
  have ha : AJ X ec E Γ [a] (dCons fa dNil) [.val fr] (pu && true) := aj_cons ha aj_nil rfl hs
  rw [Bool.and_true] at ha
  obtain ⟨ta, pa, r⟩ := ha
  refine ⟨_, PI.or (pi_enum hg hm pa hs) (pi_enumT hg hm pa hs), fun C ρ S σ H G N Rr R p => ?_⟩
  by_cases hl : ∃ ds' ρ1 S1, dCons fa dNil ρ S = .ok [.list ds'] ρ1 S1
  · obtain ⟨ds', ρ1, S1, e⟩ := hl
    refine .inl (r C ρ S σ H G N _ R ?_)
    unfold dIt at p
    rw [e] at p ⊢
    intro vs H1 G1 N1 R1 x1 o1
    have q : ∀ J H' G' N', Rel X.K C Γ ρ1 S1 σ H' G' N' → Ext C H G N H' G' N' pu → IterOk X.K G' (Pf C fr) J (enumD ds' 0) → Rr J H' := p
    match vs, o1 with
    | [v], o1 =>
      obtain ⟨o1, _⟩ := o1
      cases o1 with
      | @lst a vs _ h pa l => exact ⟨a, vs, rfl, .inl (.inl (R1.gh _ _ h)), q _ H1 G1 N1 R1 x1 (iter_enum h l)⟩
    | [], o1 => exact o1.elim
    | _ :: _ :: _, o1 => exact o1.2.2.elim
  · refine .inr (r C ρ S σ H G N _ R ?_)
    unfold dIt at p
    cases e : dCons fa dNil ρ S with
    | exc c pp S1 => rw [e] at p; exact p
    | stk => rw [e] at p; exact p
    | ok ds ρ1 S1 =>
      rw [e] at p
      intro vs H1 G1 N1 R1 x1 o1
      obtain ⟨es, he, q⟩ := optR_post (show Post X.K ec E C (optR (enumA ds) ρ1 S1) _ from p)
      unfold enumA at he
      split at he
      · exact absurd ⟨_, _, _, e⟩ hl
      · cases he
        match vs, o1 with
        | [v], o1 =>
          obtain ⟨o1, _⟩ := o1
          cases o1 with
          | @tup a vs _ h l => exact ⟨a, vs, rfl, sqT_mono h R1.gh (ExR.refl _), q _ H1 G1 N1 R1 x1 (iter_iet h l)⟩
        | [], o1 => exact o1.elim
        | _ :: _ :: _, o1 => exact o1.2.2.elim
      · cases he
end
end PD

namespace PD
open PySem L2 PyProof.Rows
/-! ### dicts -/
def putD (kds : List (D × D)) (k : Key) (v : D) : List (D × D) := if hasK kds k = true then kds.map (fun p => if keyOf p.1 = some k then (p.1, v) else p) else kds ++ [(keyD k, v)]
section
variable {K : PySem.W.Frag} {G : Hp} {P : Addr → Prop}
theorem AtK.append : ∀ {a c : List (Key × V)} {b d : List (D × D)}, AtK K G P a b → AtK K G P c d → AtK K G P (a ++ c) (b ++ d)
  | [], _, [], _, _, t => t
  | _ :: _, _, _ :: _, _, h, t => by cases h with | cons a b => exact .cons a (AtK.append b t)
  | [], _, _ :: _, _, h, _ => by cases h
  | _ :: _, _, [], _, h, _ => by cases h
theorem AtK.mapPut {k : Key} {v : V} {d : D} (a : At K G P v d) : ∀ {kvs : List (Key × V)} {kds : List (D × D)}, AtK K G P kvs kds → AtK K G P (kvs.map fun kv => if kv.1 = k then (kv.1, v) else kv) (kds.map fun p => if keyOf p.1 = some k then (p.1, d) else p)
  | [], [], _ => .nil
  | (j, w) :: kvs, (e, d') :: kds, h => by
    cases h with
    | cons b r =>
      rw [List.map_cons, List.map_cons]
      have ih := AtK.mapPut (k := k) a r
      by_cases hj : j = k
      · subst hj
        simp only [keyOf_keyD, if_true]
        exact .cons a ih
      · have hk : ¬ some j = some k := fun z => hj (Option.some.inj z)
        simp only [keyOf_keyD, hj, hk, if_false]
        exact .cons b ih
  | [], _ :: _, h => by cases h
  | _ :: _, [], h => by cases h
theorem AtK.put {k : Key} {v : V} {d : D} {kvs : List (Key × V)} {kds : List (D × D)} (h : AtK K G P kvs kds) (a : At K G P v d) : AtK K G P (putK kvs k v) (putD kds k d) := by
  unfold putK putD
  rw [valV_any, h.has]
  split
  · exact AtK.mapPut a h
  · exact h.append (.cons a .nil)
/-- pairs, as a list of them -/
def pairsD : List D → Option (List (Key × D))
  | [] => some []
  | .tuple [k, v] :: r => match keyOf k, pairsD r with
    | some k, some ps => some ((k, v) :: ps)
    | _, _ => none
  | _ => none
def mergeD (kds : List (D × D)) (ps : List (Key × D)) : List (D × D) := ps.foldl (fun acc p => putD acc p.1 p.2) kds
theorem pairs_at {H : Hp} (gh : ∀ a o, G a = some o → H a = some o) : ∀ {ds : List D} {vs : List V} {ps : List (Key × D)}, AtL K G P vs ds → pairsD ds = some ps →
    ∃ (as : List Addr) (kvs : List (Key × V)), vs = as.map V.ref ∧ Paired (fun p kv => SqT K H p [kV kv.1, kv.2]) as kvs ∧ kvs.map (·.1) = ps.map (·.1) ∧ AtL K G P (kvs.map (·.2)) (ps.map (·.2))
  | [], [], ps, _, h => by cases h; exact ⟨[], [], rfl, .nil, rfl, .nil⟩
  | d :: ds, v :: vs, ps, h, e => by
    cases h with
    | cons a r =>
      unfold pairsD at e
      split at e
      · cases (by assumption : _ = ([] : List D))
      · rename_i k x r' heq
        cases heq
        split at e
        · rename_i k' ps' h1 h2
          cases e
          obtain ⟨as, kvs, rfl, h3, h4, h5⟩ := pairs_at gh r h2
          cases a with
          | @tup p ws _ sq l =>
            cases l with
            | cons l1 l2 =>
              cases l2 with
              | cons l3 l4 =>
                cases l4
                rename_i w1 w2
                have ek : w1 = kV k' := by
                  have z := keyOf_some h1
                  subst z
                  cases k' with
                  | inl i => cases l1; rfl
                  | inr s => cases l1; rfl
                subst ek
                exact ⟨p :: as, (k', w2) :: kvs, rfl, .cons (sqT_mono sq gh (ExR.refl _)) h3, by rw [List.map_cons, List.map_cons, h4], .cons l3 h5⟩
        · cases e
      · cases e
  | [], _ :: _, _, h, _ => by cases h
  | _ :: _, [], _, h, _ => by cases h
theorem AtK.merge : ∀ {kvs : List (Key × V)} {ps : List (Key × D)} {acc : List (Key × V)} {kds : List (D × D)}, kvs.map (·.1) = ps.map (·.1) → AtL K G P (kvs.map (·.2)) (ps.map (·.2)) → AtK K G P acc kds → AtK K G P (mergeK acc kvs) (mergeD kds ps)
  | [], [], _, _, _, _, h => h
  | (k, v) :: kvs, (j, d) :: ps, acc, kds, h1, h2, h => by
    simp only [List.map_cons, List.cons.injEq] at h1
    obtain ⟨rfl, h1⟩ := h1
    cases h2 with
    | cons a r => exact AtK.merge (kvs := kvs) (ps := ps) h1 r (h.put a)
  | [], _ :: _, _, _, h, _, _ => by simp at h
  | _ :: _, [], _, _, h, _, _ => by simp at h
end
section
variable {X : Cx} {ec : EC} {E : XK} {Γ : List Tag} {e a b : Expr} {es : List Expr} {pos : Pos} {fr fr' : Bool} {pu : Bool}
/-- dict(pairs): a new one -/
def dictPD : D → Option (List (D × D))
  | .list ds => (pairsD ds).map (mergeD [])
  | _ => none
def dDict (f : Den D) : Den D := fun ρ S => (f ρ S).bind fun d ρ1 S1 => (optR (dictPD d) ρ1 S1).bind fun kds ρ1 S1 => .ok (.dict kds) ρ1 S1
theorem ej_dict {x : Str} {p : Pos} {f : Den D} (hcm : X.calm = true) (hg : Gl X "dict") (hm : X.mg "dict" = none) (h : EJ X ec E Γ e f (.top fr) pu)
    (he : starEach [e] X.env = (false, eval e X.env) :: starEach [] X.env := by rfl) (hpl : (backTo pos (starEach [] X.env)).any (·.1) = false := by rfl) : EJ X ec E Γ (.Call (.Name "dict" p) [e] [] pos) (dDict f) (.new fr) pu := by
  obtain ⟨te, pe, r⟩ := h
  refine ⟨_, pe_callTy (call_dictP hcm) hg hm boot_dict (pa_cons pe pa_nil he) (by decide) (by decide) he hpl, fun C ρ S σ H G N Q R q => ?_⟩
  refine r C ρ S σ H G N _ R (q.bind.mono fun d ρ1 S1 q1 v H1 G1 N1 R1 x1 o1 => ?_)
  obtain ⟨kds, hk, q2⟩ := optR_post q1.bind
  unfold dictPD at hk
  split at hk
  · rename_i ds
    cases hp : pairsD ds with
    | none => rw [hp] at hk; cases hk
    | some ps =>
      rw [hp] at hk; cases hk
      obtain ⟨p', vs, rfl, e1, l1⟩ := AtTop.list R1.gh o1
      obtain ⟨as, kvs, rfl, h3, h4, h5⟩ := pairs_at R1.gh l1 hp
      refine ⟨p', as, kvs, rfl, .inl (.inl e1), h3, fun a ha => ?_⟩
      exact q2 _ _ _ N1 (R1.alloc ha rfl) ((x1.trans (ext_alloc (pu := true) ha)).weak fun z => by simp [z])
        ⟨a, rfl, (by
          cases q : H a with
          | none => rfl
          | some o => exact absurd ha (x1.dom a (by rw [q]; simp))), R1.g0n ha, R1.n0 ha, _, upd_same, AtK.merge h4 h5 .nil⟩
  · cases hk
/-! d[k] = v, d one's own -/
def ownK (i : Nat) (ρ : Rho) : Option (List (D × D)) := match ρ[i]? with
  | some (some (.dict ds)) => some ds
  | _ => none
theorem ownK_some {i : Nat} {ρ : Rho} {ds : List (D × D)} (h : ownK i ρ = some ds) : ρ[i]? = some (some (.dict ds)) := by
  unfold ownK at h
  split at h
  · rename_i e; cases h; exact e
  · cases h
theorem own_dict {K : PySem.W.Frag} {C : Ct} {ρ : Rho} {S : SS} {σ : L2.St} {H G : Hp} {N : Nat → Addr → Prop} {i : Nat} {xs : List (D × D)} (R : Rel K C Γ ρ S σ H G N) (ht : Γ[i]? = some (.own fr)) (h : ownK i ρ = some xs) :
    ∃ p vs, σ[i]? = some (some (.ref p)) ∧ N i p ∧ H p = some (.dK vs) ∧ AtK K G (Pf C fr) vs xs := by
  obtain ⟨v, e, p, rfl, np, vs, h1, h2⟩ := R.sl i _ _ ht (by simp) (ownK_some h)
  exact ⟨p, vs, e, np, h1, h2⟩
def sDput (i : Nat) (f fk : Den D) : SDen := fun ρ S => (f ρ S).sr fun d ρ S => (optR (ownK i ρ) ρ S).sr fun _ ρ S => (fk ρ S).sr fun k ρ1 S1 => (optR (ownK i ρ1) ρ1 S1).sr fun kds ρ1 S1 => (optR (keyOf k) ρ1 S1).sr fun k ρ1 S1 =>
  if kds.length < sizeLine then .nx (ρ1.set i (some (.dict (putD kds k d)))) S1 else .stk
theorem ifS_post {K : PySem.W.Frag} {C : Ct} {T : Tg} {G : Hp} {c : Prop} [Decidable c] {r : SR} {Dn : Ends} (h : PostS K ec E fr C T G (if c then r else .stk) Dn) : c ∧ PostS K ec E fr C T G r Dn := by
  by_cases hc : c
  · rw [if_pos hc] at h; exact ⟨hc, h⟩
  · rw [if_neg hc] at h; exact h.elim
theorem sj_dput {T : Tg} {fr2 : Bool} {x : Str} {i : Nat} {f fk : Den D} {xp pos' : Pos} {p1 p2 : Bool} (hu : X.A.units + 1 < cLine) (hN : X.N[i]? = some x) (hv : Vis X.env.scope x) (hd : (x == ("__debug__" : Str)) = false) (hcd : (x == ("__classdict__" : Str)) = false) (ht : T.n[i]? = some (.own fr))
    (h : EJ X ec E T.n e f (.val fr) p1) (hk : EJ X ec E T.n a fk (.val fr') p2) (hs : swapsWith e (some (.Subscript (.Name x xp) a pos')) pos.line X.env = pure false := by rfl) :
    SJ X ec E fr2 T.n (.Assign [.Subscript (.Name x xp) a pos'] e pos) (sDput i f fk) T := by
  obtain ⟨te, pe, r⟩ := h
  obtain ⟨tk, pk, rk⟩ := hk
  refine ⟨_, ps_dput hu (pe_var hN hv hd hcd) pk pe hs, fun C ρ S σ H G N Dn R p => ?_⟩
  refine r C ρ S σ H G N _ R (p.of.mono fun d ρ1 S1 q v H1 G1 N1 R1 x1 o1 => ?_)
  obtain ⟨kds0, h0, q⟩ := optR_post q.of
  obtain ⟨pa', vs0, ev, np, hp, l0⟩ := own_dict R1 ht h0
  refine ⟨_, ev, ?_⟩
  refine rk C ρ1 S1 σ H1 G1 N1 _ R1 (q.of.mono fun kd ρ2 S2 q y H2 G2 N2 R2 x2 o2 => ?_)
  obtain ⟨kds, h1, q⟩ := optR_post q.of
  obtain ⟨k, h2, q⟩ := optR_post q.of
  obtain ⟨hl, q⟩ := ifS_post q
  obtain ⟨p1, vs2, ev1, np1, hp1, l1⟩ := own_dict R2 ht h1
  rw [ev] at ev1; cases ev1
  have o2 : At X.K G2 (Pf C fr') y kd := o2
  have ey : y = kV k := AtTop.key (C := C) (H := H2) (.inl o2) h2
  subst ey
  have o1 : At X.K G1 (Pf C fr) v d := o1
  have l2 := l1.put (k := k) (o1.ext x2.ge)
  obtain ⟨R3, x3⟩ := R2.mut (d := .dict (putD kds k d)) (o := .dK (putK vs2 k v)) ht np1 ev ⟨_, upd_same, l2⟩
  exact ⟨pa', _, rfl, DPut.k hp1 (by rw [l1.length]; exact hl), (show PostS X.K ec E fr2 C T G (.nx _ _) Dn from q) σ _ _ _ R3 (x1.ge.trans x2.ge)⟩
end
end PD

/-! comprehensions of two clauses -/
namespace PD
open PySem L2 PyProof.Rows
theorem it_gen {J : It} {n : Nat} {Gd : Hp → Prop} {Y : Nat → Hp → V → Hp → Prop} (w : Walk J n Gd Y) {Body : (Hp → Prop) → V → Hp → Prop} {fin : Hp → Prop} {H0 : Hp} (Pv : Nat → Hp → Prop) (h0 : Pv 0 H0) (hG : ∀ i H, i ≤ n → Pv i H → Gd H)
    (hs : ∀ i x H H', i < n → Pv i H → Y i H x H' → Body (Pv (i + 1)) x H') (hd : ∀ H, Pv n H → fin H) :
    ∃ W : Nat → Nat → Hp → Prop, (∃ m, W 0 m H0) ∧ ∀ i m H, W i m H → (J.stop i H ∧ fin H) ∨ (J.go i H ∧ ∃ Nx : Hp → Prop, (∀ H', Nx H' → ∃ m', m' < m ∧ W (i + 1) m' H') ∧ ∀ x H', J.yld i H x H' → Body Nx x H') := by
  refine ⟨fun i m H => m = n - i ∧ i ≤ n ∧ Pv i H, ⟨n, by simp, Nat.zero_le _, h0⟩, ?_⟩
  rintro i m H ⟨rfl, hi, p⟩
  have q := hG i H hi p
  by_cases hlt : i < n
  · refine .inr ⟨w.goes i H hlt q, Pv (i + 1), fun H' p' => ⟨n - (i + 1), by omega, rfl, hlt, p'⟩, fun x H' y => hs i x H H' hlt p (w.yields i H x H' hlt q y)⟩
  · have e : i = n := by omega
    subst e
    exact .inl ⟨w.stops H q, hd H p⟩
def lc2I (t : Tgt) (c : Den Bool) (f : Den D) (ρ : Rho) : List D → List D → SS → Res (List D)
  | [], acc, S => .ok acc ρ S
  | d :: ds, acc, S => match bindT t d ρ with
    | none => .stk
    | some ρ1 => (c ρ1 S).bind fun b _ S1 => if b then (f ρ1 S1).bind fun y _ S2 => if acc.length < sizeLine then lc2I t c f ρ ds (acc ++ [y]) S2 else .stk else lc2I t c f ρ ds acc S1
def lc2L (t : Tgt) (c : Den Bool) (it1 : Den (List D)) (t1 : Tgt) (c1 : Den Bool) (f : Den D) (vs1 : List Nat) (ρ : Rho) : List D → List D → SS → Res (List D)
  | [], acc, S => .ok acc ρ S
  | d :: ds, acc, S => match bindT t d ρ with
    | none => .stk
    | some ρ1 => (c ρ1 S).bind fun b ρ2 S1 => if b then (it1 ρ2 S1).bind fun ds1 ρ3 S2 => (lc2I t1 c1 f (wipeR ρ3 vs1) ds1 acc S2).bind fun acc' _ S3 => lc2L t c it1 t1 c1 f vs1 ρ ds acc' S3 else lc2L t c it1 t1 c1 f vs1 ρ ds acc S1
def dLc2 (it : Den (List D)) (t : Tgt) (c : Den Bool) (it1 : Den (List D)) (t1 : Tgt) (c1 : Den Bool) (f : Den D) (vs vs1 : List Nat) : Den D := fun ρ S => (it ρ S).bind fun ds ρ1 S1 =>
  (lc2L t c it1 t1 c1 f vs1 (wipeR ρ1 vs) ds [] S1).bind fun ys _ S2 => .ok (.list ys) ρ1 S2
section
variable {X : Cx} {ec : EC} {E : XK} {fr fr' fr1 : Bool} {Γ Γ' Γ1 : List Tag} {T : Tg} {e a b tg iter tg1 iter1 elt : Expr} {es ifs ifs1 : List Expr} {pos : Pos} {pu : Bool} {scope : Scope}
theorem lc2_read {it it1 : Den (List D)} {t t1 : Tgt} {c c1 : Den Bool} {f : Den D} {vs vs1 : List Nat} {wi : TI} (hsl : ∀ i ∈ slotsT t, i ∈ vs) (hsl1 : ∀ i ∈ slotsT t1, i ∈ vs1)
    (r : ∀ C ρ S σ H G N R, Rel X.K C Γ ρ S σ H G N → Post X.K ec E C (it ρ S) (fun ds ρ' S' => ∀ J H' G' N', Rel X.K C Γ ρ' S' σ H' G' N' → Ext C H G N H' G' N' pu → IterOk X.K G' (Pf C fr) J ds → R J H') → wi σ H R)
    {C : Ct} {ρ : Rho} {S : SS} {σ : L2.St} {H G : Hp} {N : Nat → Addr → Prop} {Q : VK} (R : Rel X.K C Γ ρ S σ H G N)
    (p : Post X.K ec E C (dLc2 it t c it1 t1 c1 f vs vs1 ρ S) (fun d ρ' S' => ∀ v H' G' N', Rel X.K C Γ ρ' S' σ H' G' N' → Ext C H G N H' G' N' pu → ValOk X.K C H H' G' N' (.new fr') v d → Q v H')) :
    tLc2 wi (tgD X.K t) (ttD X.K ec E (tagT t fr Γ) c true) (tiD X.K ec E (tagT t fr Γ) it1 fr1 true) (tgD X.K t1) (ttD X.K ec E (tagT t1 fr1 (tagT t fr Γ)) c1 true) (teD X.K ec E (tagT t1 fr1 (tagT t fr Γ)) f (.val fr') true) vs vs1 σ H Q := by
  refine r C ρ S σ H G N _ R (p.bind.mono fun ds ρ1 S1 q1 J H1 G1 N1 R1 x1 ok => ?_)
  have q1 := q1.bind
  obtain ⟨Gd, Y, w, hGd, hY⟩ := ok.ex
  intro Da hD
  have hDq := R1.qn hD
  have hD0 := R1.h0 hD
  have Rw := R1.wipe vs
  refine it_gen w (fun i H2 => ∃ S2 G2 acc dacc, Rel X.K C Γ (wipeR ρ1 vs) S2 (wipe σ vs) H2 G2 N1 ∧ Ext C H1 G1 N1 H2 G2 N1 true ∧ H2 Da = some (.lst acc) ∧ G2 Da = none ∧ AtL X.K G2 (Pf C fr') acc dacc ∧
    Post X.K ec E C (lc2L t c it1 t1 c1 f vs1 (wipeR ρ1 vs) (ds.drop i) dacc S2) (fun ys _ S3 => ∀ v H' G' N', Rel X.K C Γ ρ1 S3 σ H' G' N' → Ext C H G N H' G' N' pu → ValOk X.K C H H' G' N' (.new fr') v (.list ys) → Q v H'))
    ⟨S1, G1, [], [], Rw.alloc hD rfl, ext_alloc hD, upd_same, R1.g0n hD, .nil, q1⟩ (fun i H2 _ ⟨S2, G2, acc, dacc, R2, x2, _⟩ => hGd H2 G2 R2.gh x2.ge) ?_ ?_
  · rintro i x H2 H2' hi ⟨S2, G2, acc, dacc, R2, x2, hacc, hg2, l2, q2⟩ y
    have hd : ds[i]? = some ds[i] := by simp [hi]
    rw [List.drop_eq_getElem_cons hi] at q2
    unfold lc2L at q2
    refine hY i x H2 H2' G2 ds[i] (fun v H' => tgD X.K t v (wipe σ vs) H' _) R2.gh x2.ge (fun a z => R2.pf z) y hd fun v H3 G3 h1 h2 h3 h4 h5 at' => ?_
    obtain ⟨R3, x3⟩ := R2.grow h1 h2 h3 h4 h5
    have hacc3 : H3 Da = some (.lst acc) := h1 _ _ hacc
    have hg3 : G3 Da = none := x3.gnone (by rw [hacc]; simp) hg2
    cases q : bindT t ds[i] (wipeR ρ1 vs) with
    | none => simp only [q] at q2; exact (show False from q2).elim
    | some ρ3 =>
      simp only [q] at q2
      have q2 := q2.bind
      refine ⟨C, Γ, wipeR ρ1 vs, S2, G3, N1, fr, ds[i], ρ3, R3, at', q, fun σ4 R4 se => ⟨(wipe_eq se hsl).trans wipe_wipe, ?_⟩⟩
      refine ⟨C, ρ3, S2, G3, N1, R4, q2.mono fun bb ρ5 S5 q5 H5 G5 N5 R5 x5 => ?_⟩
      have hacc5 : H5 Da = some (.lst acc) := x5.same _ _ hacc3 hDq.1 hDq.2 (.inl rfl)
      have hg5 : G5 Da = none := x5.gnone (by rw [hacc3]; simp) hg3
      have x15 : Ext C H1 G1 N1 H5 G5 N1 true := ((x2.trans x3).trans x5).reN
      cases bb with
      | false =>
        simp only [Bool.false_eq_true, if_false] at q5 ⊢
        exact ⟨S5, G5, acc, dacc, R3.back R5 x5, x15, hacc5, hg5, (l2.ext x3.ge).ext x5.ge, q5⟩
      | true =>
        simp only [if_true] at q5 ⊢
        refine ⟨C, ρ5, S5, G5, N5, R5, q5.bind.mono fun ds1 ρ6 S6 q6 J1 H6 G6 N6 R6 x6 ok6 => ?_⟩
        have hacc6 : H6 Da = some (.lst acc) := x6.same _ _ hacc5 hDq.1 hDq.2 (.inl rfl)
        have hg6 : G6 Da = none := x6.gnone (by rw [hacc5]; simp) hg5
        have x36 : Ext C H3 G3 N1 H6 G6 N6 true := x5.trans x6
        obtain ⟨Gd1, Y1, w1, hGd1, hY1⟩ := ok6.ex
        have q6 := q6.bind
        have x16 : Ext C H1 G1 N1 H6 G6 N6 true := ((x2.trans x3).trans x5).trans x6
        have nD : ∀ i, ¬ N6 i Da := fun i z => by
          rcases x16.nx i Da z with z | z
          · exact R1.n0 hD i z
          · rcases x6.nx i Da (by assumption) with z | z
            · rcases x5.nx i Da z with z | z
              · exact R1.n0 hD i z
              · rw [hacc3] at z; cases z
            · rw [hacc5] at z; cases z
        refine it_gen w1 (fun j H7 => ∃ S7 G7 acc7 dacc7, Rel X.K C (tagT t fr Γ) (wipeR ρ6 vs1) S7 (wipe σ4 vs1) H7 G7 N6 ∧ Rel X.K C Γ (wipeR ρ1 vs) S7 (wipe σ vs) H7 G7 N1 ∧ ExR G6 G7 ∧ Ext C H1 G1 N1 H7 G7 N1 true ∧ H7 Da = some (.lst acc7) ∧ G7 Da = none ∧ AtL X.K G7 (Pf C fr') acc7 dacc7 ∧
          Post X.K ec E C (lc2I t1 c1 f (wipeR ρ6 vs1) (ds1.drop j) dacc7 S7) (fun acc' _ S3 => Post X.K ec E C (lc2L t c it1 t1 c1 f vs1 (wipeR ρ1 vs) (ds.drop (i + 1)) acc' S3) _))
          ⟨S6, G6, acc, dacc, R6.wipe vs1, R3.back R6 x36, ExR.refl _, x16.reN, hacc6, hg6, ((l2.ext x3.ge).ext x5.ge).ext x6.ge, q6⟩ (fun j H7 _ ⟨S7, G7, acc7, dacc7, R7, _, e7, _⟩ => hGd1 H7 G7 R7.gh e7) ?_ ?_
        · rintro j x' H7 H7' hj ⟨S7, G7, acc7, dacc7, R7, Ro7, e7, x7, hacc7, hg7, l7, q7⟩ y'
          have hd1 : ds1[j]? = some ds1[j] := by simp [hj]
          rw [List.drop_eq_getElem_cons hj] at q7
          unfold lc2I at q7
          refine hY1 j x' H7 H7' G7 ds1[j] (fun v H' => tgD X.K t1 v (wipe σ4 vs1) H' _) R7.gh e7 (fun a z => R7.pf z) y' hd1 fun v1 H8 G8 g1 g2 g3 g4 g5 at1 => ?_
          obtain ⟨R8, x8⟩ := R7.grow g1 g2 g3 g4 g5
          obtain ⟨Ro8, xo8⟩ := Ro7.grow g1 g2 g3 g4 g5
          have hacc8 : H8 Da = some (.lst acc7) := g1 _ _ hacc7
          have hg8 : G8 Da = none := x8.gnone (by rw [hacc7]; simp) hg7
          cases qb : bindT t1 ds1[j] (wipeR ρ6 vs1) with
          | none => simp only [qb] at q7; exact (show False from q7).elim
          | some ρ9 =>
            simp only [qb] at q7
            have q7 := q7.bind
            refine ⟨C, _, wipeR ρ6 vs1, S7, G8, N6, fr1, ds1[j], ρ9, R8, at1, qb, fun σ9 R9 se1 => ⟨(wipe_eq se1 hsl1).trans wipe_wipe, ?_⟩⟩
            refine ⟨C, ρ9, S7, G8, N6, R9, q7.mono fun b2 ρ10 S10 q10 H10 G10 N10 R10 x10 => ?_⟩
            have hacc10 : H10 Da = some (.lst acc7) := x10.same _ _ hacc8 hDq.1 hDq.2 (.inl rfl)
            have hg10 : G10 Da = none := x10.gnone (by rw [hacc8]; simp) hg8
            have wk : ∀ {Ha Ga Hb Gb : Hp} {Na Nb M : Nat → Addr → Prop}, Ext C Ha Ga Na Hb Gb Nb true → Ext C Ha Ga M Hb Gb M true := fun x => ⟨x.ge, x.gx, fun _ _ z => .inl z, x.dom, fun a o e h1 h2 _ => x.same a o e h1 h2 (.inl rfl)⟩
            have x110 : Ext C H1 G1 N1 H10 G10 N1 true := (x7.trans xo8).trans (wk x10)
            cases b2 with
            | false =>
              simp only [Bool.false_eq_true, if_false] at q10 ⊢
              exact ⟨S10, G10, acc7, dacc7, R8.back R10 x10, Ro8.back R10 x10, (e7.trans x8.ge).trans x10.ge, x110, hacc10, hg10, (l7.ext x8.ge).ext x10.ge, q10⟩
            | true =>
              simp only [if_true] at q10 ⊢
              have R10' := R9.back R10 x10
              refine ⟨C, ρ9, S10, G10, N6, R10', q10.bind.mono fun yd ρ11 S11 q11 vy H11 G11 N11 R11 x11 o11 => ?_⟩
              obtain ⟨hz, q11⟩ := ifR_post q11
              have hacc11 : H11 Da = some (.lst acc7) := x11.same _ _ hacc10 hDq.1 hDq.2 (.inl rfl)
              have hg11 : G11 Da = none := x11.gnone (by rw [hacc10]; simp) hg10
              have x811 : Ext C H8 G8 N6 H11 G11 N6 true := (wk x10).trans (wk x11)
              have R12 : Rel X.K C (tagT t fr Γ) (wipeR ρ6 vs1) S11 (wipe σ4 vs1) H11 G11 N6 := R8.back R11 x811
              have Ro12 : Rel X.K C Γ (wipeR ρ1 vs) S11 (wipe σ vs) H11 G11 N1 := Ro8.back R11 x811
              exact ⟨acc7, hacc11, by rw [l7.length]; exact hz, S11, G11, acc7 ++ [vy], dacc7 ++ [yd], R12.float hg11 hD0 nD rfl, Ro12.float hg11 hD0 (R1.n0 hD) rfl, ((e7.trans x8.ge).trans x10.ge).trans x11.ge, (x110.trans (wk x11)).upd hD, upd_same, hg11, AtL.append (((l7.ext x8.ge).ext x10.ge).ext x11.ge) (.cons o11 .nil), q11⟩
        · rintro H7 ⟨S7, G7, acc7, dacc7, R7, Ro7, e7, x7, hacc7, hg7, l7, q7⟩
          rw [List.drop_length] at q7
          exact ⟨S7, G7, acc7, dacc7, Ro7, x7, hacc7, hg7, l7, q7⟩
  · rintro H2 ⟨S2, G2, acc, dacc, R2, x2, hacc, hg2, l2, q2⟩
    rw [List.drop_length] at q2
    have q2 : ∀ v H' G' N', Rel X.K C Γ ρ1 S2 σ H' G' N' → Ext C H G N H' G' N' pu → ValOk X.K C H H' G' N' (.new fr') v (.list dacc) → Q v H' := q2
    refine q2 _ H2 G2 N1 (R1.back R2 x2) ((x1.trans x2).weak fun z => by simp [z]) ⟨Da, rfl, ?_, hg2, R1.n0 hD, acc, hacc, l2⟩
    cases qq : H Da with
    | none => rfl
    | some o => exact absurd hD (x1.dom Da (by rw [qq]; simp))
theorem ej_lc2 {own : List (Str × Nat)} {it it1 : Den (List D)} {t t1 : Tgt} {c c1 : Den Bool} {f : Den D} {vs1 : List Nat} (hc : X.calm = true) (hN : X.N.Nodup) (hi : IJ X ec E Γ tg iter it fr pu) (ok : BlkOk X.N X.env.scope scope own) (hv : ∀ i ∈ vs1, i ∈ own.map (·.2))
    (hg : ∀ (s : Shared) (H : Hp) (C : Addr) (cl : List (Str × Addr)) (fp : List Addr), GJ (X.blk s H scope (compEnvC scope cl C X.env) fp) tg t)
    (ht : ∀ (s : Shared) (H : Hp) (C : Addr) (cl : List (Str × Addr)) (fp : List Addr), TsJ (X.blk s H scope (compEnvC scope cl C X.env) fp) ec E (tagT t fr Γ) ifs c true)
    (hi1 : ∀ (s : Shared) (H : Hp) (C : Addr) (cl : List (Str × Addr)) (fp : List Addr), IJ (X.blk s H scope (compEnvC scope cl C X.env) fp) ec E (tagT t fr Γ) tg1 iter1 it1 fr1 true)
    (hg1 : ∀ (s : Shared) (H : Hp) (C : Addr) (cl : List (Str × Addr)) (fp : List Addr), GJ (X.blk s H scope (compEnvC scope cl C X.env) fp) tg1 t1)
    (ht1 : ∀ (s : Shared) (H : Hp) (C : Addr) (cl : List (Str × Addr)) (fp : List Addr), TsJ (X.blk s H scope (compEnvC scope cl C X.env) fp) ec E (tagT t1 fr1 (tagT t fr Γ)) ifs1 c1 true)
    (he : ∀ (s : Shared) (H : Hp) (C : Addr) (cl : List (Str × Addr)) (fp : List Addr), EJ (X.blk s H scope (compEnvC scope cl C X.env) fp) ec E (tagT t1 fr1 (tagT t fr Γ)) elt f (.val fr') true)
    (hsl : ∀ i ∈ slotsT t, i ∈ own.map (·.2)) (hsl1 : ∀ i ∈ slotsT t1, i ∈ vs1) (hs : ∀ x, foldedSetIterable iter X.env x = pure x := by intro _; rfl) (hs1 : ∀ env x, foldedSetIterable iter1 env x = pure x := by intro _ _; rfl) :
    EJ X ec E Γ (.ListComp elt [⟨tg, iter, ifs, 0⟩, ⟨tg1, iter1, ifs1, 0⟩] scope pos) (dLc2 it t c it1 t1 c1 f (own.map (·.2)) vs1) (.new fr') pu := by
  obtain ⟨wi, pi, r⟩ := hi
  exact ⟨_, pe_lc2 (g := tgD X.K t) (tt := ttD X.K ec E (tagT t fr Γ) c true) (wi1 := tiD X.K ec E (tagT t fr Γ) it1 fr1 true) (g1 := tgD X.K t1) (tt1 := ttD X.K ec E (tagT t1 fr1 (tagT t fr Γ)) c1 true) (te := teD X.K ec E (tagT t1 fr1 (tagT t fr Γ)) f (.val fr') true) hc hN pi ok hv (fun s H C cl fp => (hg s H C cl fp).pg) (fun s H C cl fp => ht s H C cl fp)
    (fun s H C cl fp => (hi1 s H C cl fp).pi) (fun s H C cl fp => (hg1 s H C cl fp).pg) (fun s H C cl fp => ht1 s H C cl fp) (fun s H C cl fp => (he s H C cl fp).pe) hs hs1, fun C ρ S σ H G N Q R p => lc2_read hsl hsl1 r R p⟩
theorem sj_lc2 {own : List (Str × Nat)} {it it1 : Den (List D)} {t t1 : Tgt} {c c1 : Den Bool} {f : Den D} {vs1 : List Nat} {i : Nat} {y : Str} {py spos : Pos} (hc : X.calm = true) (hN : X.N.Nodup) (hy : X.N[i]? = some y) (hyl : X.env.scope.names.lookup y = some .local) (hl : i < Γ.length) (htn : Γ.set i (.own fr') = T.n)
    (hsw : swapsWith (.ListComp elt [⟨tg, iter, ifs, 0⟩, ⟨tg1, iter1, ifs1, 0⟩] scope pos) (some (.Name y py)) spos.line X.env = pure true) (hi : IJ X ec E Γ tg iter it fr pu) (ok : BlkOk X.N X.env.scope scope own) (hv : ∀ i ∈ vs1, i ∈ own.map (·.2))
    (hg : ∀ (s : Shared) (H : Hp) (C : Addr) (cl : List (Str × Addr)) (fp : List Addr), GJ (X.blk s H scope (compEnvC scope cl C X.env) fp) tg t)
    (ht : ∀ (s : Shared) (H : Hp) (C : Addr) (cl : List (Str × Addr)) (fp : List Addr), TsJ (X.blk s H scope (compEnvC scope cl C X.env) fp) ec E (tagT t fr Γ) ifs c true)
    (hi1 : ∀ (s : Shared) (H : Hp) (C : Addr) (cl : List (Str × Addr)) (fp : List Addr), IJ (X.blk s H scope (compEnvC scope cl C X.env) fp) ec E (tagT t fr Γ) tg1 iter1 it1 fr1 true)
    (hg1 : ∀ (s : Shared) (H : Hp) (C : Addr) (cl : List (Str × Addr)) (fp : List Addr), GJ (X.blk s H scope (compEnvC scope cl C X.env) fp) tg1 t1)
    (ht1 : ∀ (s : Shared) (H : Hp) (C : Addr) (cl : List (Str × Addr)) (fp : List Addr), TsJ (X.blk s H scope (compEnvC scope cl C X.env) fp) ec E (tagT t1 fr1 (tagT t fr Γ)) ifs1 c1 true)
    (he : ∀ (s : Shared) (H : Hp) (C : Addr) (cl : List (Str × Addr)) (fp : List Addr), EJ (X.blk s H scope (compEnvC scope cl C X.env) fp) ec E (tagT t1 fr1 (tagT t fr Γ)) elt f (.val fr') true)
    (hsl : ∀ i ∈ slotsT t, i ∈ own.map (·.2)) (hsl1 : ∀ i ∈ slotsT t1, i ∈ vs1) {fr2 : Bool} (hs : ∀ x, foldedSetIterable iter X.env x = pure x := by intro _; rfl) (hs1 : ∀ env x, foldedSetIterable iter1 env x = pure x := by intro _ _; rfl) :
    SJ X ec E fr2 Γ (.Assign [.Name y py] (.ListComp elt [⟨tg, iter, ifs, 0⟩, ⟨tg1, iter1, ifs1, 0⟩] scope pos) spos) (sAsg (dLc2 it t c it1 t1 c1 f (own.map (·.2)) vs1) (.nm i)) T := by
  obtain ⟨wi, pi, r⟩ := hi
  refine ⟨_, ps_setLc2 (g := tgD X.K t) (tt := ttD X.K ec E (tagT t fr Γ) c true) (wi1 := tiD X.K ec E (tagT t fr Γ) it1 fr1 true) (g1 := tgD X.K t1) (tt1 := ttD X.K ec E (tagT t1 fr1 (tagT t fr Γ)) c1 true) (te := teD X.K ec E (tagT t1 fr1 (tagT t fr Γ)) f (.val fr') true) hc hN hy hyl hsw pi ok hv (fun s H C cl fp => (hg s H C cl fp).pg) (fun s H C cl fp => ht s H C cl fp)
    (fun s H C cl fp => (hi1 s H C cl fp).pi) (fun s H C cl fp => (hg1 s H C cl fp).pg) (fun s H C cl fp => ht1 s H C cl fp) (fun s H C cl fp => (he s H C cl fp).pe) hs hs1, fun C ρ S σ H G N Dn R p => ?_⟩
  refine lc2_read (fr' := fr') (Q := fun x H1 => gName i x σ H1 Dn.nx) hsl hsl1 r R (p.of.mono fun d ρ1 S1 p1 v H1 G1 N1 R1 x1 o1 => ?_)
  obtain ⟨N2, R2⟩ := Rel.own_new R R1 hl o1
  have p1 : PostS X.K ec E fr2 C T G (.nx (ρ1.set i (some d)) S1) Dn := by simpa [bindT] using p1
  exact p1 _ H1 G1 N2 (by rw [htn] at R2; exact R2) x1.ge
end
end PD

/-! the rules in short, for a program that prints derivations -/
namespace PD
open PySem L2 PyProof.Rows
theorem hu65 {k : Nat} {A : Around} (r : Room k A) : A.units + 65 < cLine := by have := r.un; omega
theorem hu64 {k : Nat} {A : Around} (r : Room k A) : A.units + 64 < cLine := by have := r.un; omega
theorem hu1 {k : Nat} {A : Around} (r : Room k A) : A.units + 1 < cLine := by have := r.un; omega
section
variable {X : Cx} {ec : EC} {E : XK} {Γ : List Tag} {e a b c : Expr} {es : List Expr} {pos : Pos} {fr fr' : Bool} {pu p1 p2 : Bool} {f fa fb fc : Den D} {k : Nat}
theorem v (i : Nat) {x : Str} (hN : X.N[i]? = some x := by rfl) (hv : Vis X.env.scope x := by first | exact Or.inl rfl | exact Or.inr (Or.inl rfl) | exact Or.inr (Or.inr rfl)) (hd : (x == ("__debug__" : Str)) = false := by decide) (hcd : (x == ("__classdict__" : Str)) = false := by decide) (ht : Γ[i]? = some (.val fr) := by rfl) :
    EJ X ec E Γ (.Name x pos) (dVar i) (.val fr) true := ej_var hN hv hd hcd ht
theorem vo (i : Nat) {x : Str} (hN : X.N[i]? = some x := by rfl) (hv : Vis X.env.scope x := by first | exact Or.inl rfl | exact Or.inr (Or.inl rfl) | exact Or.inr (Or.inr rfl)) (hd : (x == ("__debug__" : Str)) = false := by decide) (hcd : (x == ("__classdict__" : Str)) = false := by decide) (ht : Γ[i]? = some (.own fr) := by rfl) :
    EJ X ec E Γ (.Name x pos) (dVar i) (.top fr) true := ej_own hN hv hd hcd ht
theorem vs (i : Nat) {x : Str} (hN : X.N[i]? = some x := by rfl) (hv : Vis X.env.scope x := by first | exact Or.inl rfl | exact Or.inr (Or.inl rfl) | exact Or.inr (Or.inr rfl)) (hd : (x == ("__debug__" : Str)) = false := by decide) (hcd : (x == ("__classdict__" : Str)) = false := by decide) (ht : Γ[i]? = some .stm := by rfl) :
    EJ X ec E Γ (.Name x pos) (dVar i) .stm true := ej_stm hN hv hd hcd ht
theorem vv (i : Nat) {x : Str} (hN : X.N[i]? = some x := by rfl) (hv : Vis X.env.scope x := by first | exact Or.inl rfl | exact Or.inr (Or.inl rfl) | exact Or.inr (Or.inr rfl)) (hd : (x == ("__debug__" : Str)) = false := by decide) (hcd : (x == ("__classdict__" : Str)) = false := by decide) (ht : Γ[i]? = some .vol := by rfl) :
    EJ X ec E Γ (.Name x pos) (dVar i) .deep true := ej_vol hN hv hd hcd ht
/-! operators -/
theorem e_add (ha : EJ X ec E Γ a fa (.top fr) p1) (hb : EJ X ec E Γ b fb (.top fr) true) : EJ X ec E Γ (.BinOp a .Add b pos) (dBin addD fa fb) (.val fr) p1 := ej_bin (op_add.or (op_add_str.or (op_cat.or op_catA))) prim_add ha hb
theorem e_sub (ha : EJ X ec E Γ a fa (.top fr) p1) (hb : EJ X ec E Γ b fb (.top fr) true) : EJ X ec E Γ (.BinOp a .Sub b pos) (dBin subD fa fb) (.val fr) p1 := ej_bin op_sub prim_sub ha hb
theorem e_mul (ha : EJ X ec E Γ a fa (.top fr) p1) (hb : EJ X ec E Γ b fb (.top fr) true) : EJ X ec E Γ (.BinOp a .Mult b pos) (dBin mulD fa fb) (.val fr) p1 := ej_bin (op_mul.or op_rep) prim_mul ha hb
theorem e_div (ha : EJ X ec E Γ a fa (.top fr) p1) (hb : EJ X ec E Γ b fb (.top fr) true) : EJ X ec E Γ (.BinOp a .FloorDiv b pos) (dBin divD fa fb) (.val fr) p1 := ej_bin op_fdiv prim_div ha hb
theorem e_mod (ha : EJ X ec E Γ a fa (.top fr) p1) (hb : EJ X ec E Γ b fb (.top fr) true) : EJ X ec E Γ (.BinOp a .Mod b pos) (dBin modD fa fb) (.val fr) p1 := ej_bin op_mod prim_mod ha hb
theorem e_pow (ha : EJ X ec E Γ a fa (.top fr) p1) (hb : EJ X ec E Γ b fb (.top fr) true) : EJ X ec E Γ (.BinOp a .Pow b pos) (dBin powD fa fb) (.val fr) p1 := ej_bin op_pow prim_pow ha hb
theorem e_cat (ha : EJ X ec E Γ a fa (.top fr) p1) (hb : EJ X ec E Γ b fb (.top fr) true) : EJ X ec E Γ (.BinOp a .Add b pos) (dBinL catD fa fb) (.new fr) p1 := ej_binN op_cat primN_cat ha hb
theorem e_rep (ha : EJ X ec E Γ a fa (.top fr) p1) (hb : EJ X ec E Γ b fb (.top fr) true) : EJ X ec E Γ (.BinOp a .Mult b pos) (dBinL repD fa fb) (.new fr) p1 := ej_binN op_rep primN_rep ha hb
/-! comparisons: the operator's rule, then e_c or t_c -/
def CmpR (X : Cx) (op : CmpOp) (g : D → D → Option Bool) : Prop := ∃ r, OpR X (compareOp op) r ∧ PrimB2 X.K r g
theorem c_eq (hr : Room k X.A) : CmpR X .Eq eqD := ⟨_, op_eq.or (op_eqD (hu64 hr)), prim_eq⟩
theorem c_ne (hr : Room k X.A) : CmpR X .NotEq neD := ⟨_, op_ne.or (op_neD (hu64 hr)), prim_ne⟩
theorem c_lt (hr : Room k X.A) : CmpR X .Lt ltD := ⟨_, op_lt.or op_lt_str, prim_lt⟩
theorem c_le (hr : Room k X.A) : CmpR X .LtE leD := ⟨_, op_le.or op_le_str, prim_le⟩
theorem c_gt (hr : Room k X.A) : CmpR X .Gt gtD := ⟨_, op_gt.or op_gt_str, prim_gt⟩
theorem c_ge (hr : Room k X.A) : CmpR X .GtE geD := ⟨_, op_ge.or op_ge_str, prim_ge⟩
theorem c_in (hr : Room k X.A) : CmpR X .In inD := ⟨_, op_inAll (hu65 hr), prim_in⟩
theorem c_notIn (hr : Room k X.A) : CmpR X .NotIn notInD := ⟨_, op_notInAll (hu65 hr), prim_notIn⟩
theorem c_is (hr : Room k X.A) : CmpR X .Is isD := ⟨_, op_isN, prim_is⟩
theorem c_isNot (hr : Room k X.A) : CmpR X .IsNot isNotD := ⟨_, op_notN, prim_isNot⟩
theorem e_c {op : CmpOp} {g : D → D → Option Bool} (o : CmpR X op g) (ha : EJ X ec E Γ a fa (.top fr) p1) (hb : EJ X ec E Γ b fb (.top fr) true) (hm : behindInMarks op b = false := by rfl) : EJ X ec E Γ (.Compare a [op] [b] pos) (dB (dCmp g fa fb)) (.val fr) p1 :=
  let ⟨_, h1, h2⟩ := o; ej_cmp h1 hm h2 ha hb
theorem t_c {op : CmpOp} {g : D → D → Option Bool} (o : CmpR X op g) (ha : EJ X ec E Γ a fa (.top fr) p1) (hb : EJ X ec E Γ b fb (.top fr) true) (hm : behindInMarks op b = false := by rfl) : TJ X ec E Γ (.Compare a [op] [b] pos) (dCmp g fa fb) p1 :=
  let ⟨_, h1, h2⟩ := o; tj_cmp h1 hm h2 ha hb
theorem e_ch {op op' : CmpOp} {g g' : D → D → Option Bool} (o : CmpR X op g) (o' : CmpR X op' g') (ha : EJ X ec E Γ a fa (.top fr) pu) (hb : EJ X ec E Γ b fb (.top fr) true) (hc : EJ X ec E Γ c fc (.top fr) true) (hm : lastMarks [op, op'] [b, c] = false := by rfl) :
    EJ X ec E Γ (.Compare a [op, op'] [b, c] pos) (dB (dChain g g' fa fb fc)) (.val fr') pu := let ⟨_, h1, h2⟩ := o; let ⟨_, h3, h4⟩ := o'; ej_chain h1 h3 h2 h4 ha hb hc hm
theorem t_ch {op op' : CmpOp} {g g' : D → D → Option Bool} (o : CmpR X op g) (o' : CmpR X op' g') (ha : EJ X ec E Γ a fa (.top fr) pu) (hb : EJ X ec E Γ b fb (.top fr) true) (hc : EJ X ec E Γ c fc (.top fr) true) (hm : lastMarks [op, op'] [b, c] = false := by rfl) :
    TJ X ec E Γ (.Compare a [op, op'] [b, c] pos) (dChain g g' fa fb fc) pu := let ⟨_, h1, h2⟩ := o; let ⟨_, h3, h4⟩ := o'; tj_chain h1 h3 h2 h4 ha hb hc hm
theorem e_ix (hr : Room k X.A) (ha : EJ X ec E Γ a fa (.top fr) p1) (hb : EJ X ec E Γ b fb (.top fr) true) (hs : PlainIx b := by intro _ _; rfl) : EJ X ec E Γ (.Subscript a b pos) (dBin ixD fa fb) (.val fr) p1 := ej_ix (hu1 hr) hs ha hb
theorem t_v (h : EJ X ec E Γ e f (.val fr) pu) (he : ∀ whole, isTrue e X.env whole = (do let v ← whole; standAt e.pos; holding [v] (truthy v)) := by intro _; rfl) : TJ X ec E Γ e (dT f) pu := tj_val h he
theorem e_tfr (h : EJ X ec E Γ e f (.top true) pu) : EJ X ec E Γ e f (.top fr) pu := by
  cases fr with
  | true => exact h
  | false =>
    obtain ⟨te, pe, r⟩ := h
    refine ⟨te, pe, fun C ρ S σ H G N Q R p => r C ρ S σ H G N Q R (p.mono fun d ρ' S' q v H' G' N' R' x' o => q v H' G' N' R' x' ?_)⟩
    rcases o with o | ⟨p, rfl, h1, h2, ow⟩
    · exact .inl (At.weak (fun _ _ => trivial) o)
    · refine .inr ⟨p, rfl, h1, h2, ?_⟩
      cases d with
      | list ds => obtain ⟨vs, e, l⟩ := ow; exact ⟨vs, e, AtL.weak (fun _ _ => trivial) l⟩
      | dict ds => obtain ⟨vs, e, l⟩ := ow; exact ⟨vs, e, AtK.weak (fun _ _ => trivial) l⟩
      | _ => exact ow
/-! built-ins of one argument -/
theorem one_top (h : EJ X ec E Γ e f (.top fr) pu) (hs : starEach [e] X.env = (false, eval e X.env) :: starEach [] X.env) : AJ X ec E Γ [e] (dCons f dNil) (List.replicate 1 (.top fr)) pu := by
  have z := aj_cons h aj_nil (m := .top fr) rfl hs
  rw [Bool.and_true] at z; exact z
variable {x : Str} {p : Pos}
theorem b_len (h : EJ X ec E Γ e f (.top fr) pu) (hm : X.mg "len" = none) (hg : Gl X "len" := by rfl) (he : starEach [e] X.env = (false, eval e X.env) :: starEach [] X.env := by rfl) : EJ X ec E Γ (.Call (.Name "len" p) [e] [] pos) (dPrim lenD (dCons f dNil)) (.val fr) pu := ej_callB call_lenAll hg hm PySem.boot_len prim_len (one_top h he) (by decide) (by decide) he rfl
theorem b_abs (h : EJ X ec E Γ e f (.top fr) pu) (hm : X.mg "abs" = none) (hg : Gl X "abs" := by rfl) (he : starEach [e] X.env = (false, eval e X.env) :: starEach [] X.env := by rfl) : EJ X ec E Γ (.Call (.Name "abs" p) [e] [] pos) (dPrim absD (dCons f dNil)) (.val fr) pu := ej_callB call_abs hg hm boot_abs prim_abs (one_top h he) (by decide) (by decide) he rfl
theorem b_sum (h : EJ X ec E Γ e f (.top fr) pu) (hm : X.mg "sum" = none) (hcm : X.calm = true := by rfl) (hg : Gl X "sum" := by rfl) (he : starEach [e] X.env = (false, eval e X.env) :: starEach [] X.env := by rfl) : EJ X ec E Γ (.Call (.Name "sum" p) [e] [] pos) (dPrim sumD (dCons f dNil)) (.val fr) pu := ej_callB (cr_sum hcm) hg hm boot_sum prim_sum (one_top h he) (by decide) (by decide) he rfl
theorem b_max (h : EJ X ec E Γ e f (.top fr) pu) (hm : X.mg "max" = none) (hcm : X.calm = true := by rfl) (hg : Gl X "max" := by rfl) (he : starEach [e] X.env = (false, eval e X.env) :: starEach [] X.env := by rfl) : EJ X ec E Γ (.Call (.Name "max" p) [e] [] pos) (dPrim maxD (dCons f dNil)) (.val fr) pu := ej_callB (cr_max hcm) hg hm boot_max prim_max (one_top h he) (by decide) (by decide) he rfl
theorem b_min (h : EJ X ec E Γ e f (.top fr) pu) (hm : X.mg "min" = none) (hcm : X.calm = true := by rfl) (hg : Gl X "min" := by rfl) (he : starEach [e] X.env = (false, eval e X.env) :: starEach [] X.env := by rfl) : EJ X ec E Γ (.Call (.Name "min" p) [e] [] pos) (dPrim minD (dCons f dNil)) (.val fr) pu := ej_callB (cr_min hcm) hg hm boot_min prim_min (one_top h he) (by decide) (by decide) he rfl
theorem b_all (h : EJ X ec E Γ e f (.top fr) pu) (hm : X.mg "all" = none) (hcm : X.calm = true := by rfl) (hg : Gl X "all" := by rfl) (he : starEach [e] X.env = (false, eval e X.env) :: starEach [] X.env := by rfl) : EJ X ec E Γ (.Call (.Name "all" p) [e] [] pos) (dPrim allD (dCons f dNil)) (.val fr) pu := ej_callB (cr_all hcm) hg hm boot_all prim_all (one_top h he) (by decide) (by decide) he rfl
theorem b_any (h : EJ X ec E Γ e f (.top fr) pu) (hm : X.mg "any" = none) (hcm : X.calm = true := by rfl) (hg : Gl X "any" := by rfl) (he : starEach [e] X.env = (false, eval e X.env) :: starEach [] X.env := by rfl) : EJ X ec E Γ (.Call (.Name "any" p) [e] [] pos) (dPrim anyD (dCons f dNil)) (.val fr) pu := ej_callB (cr_any hcm) hg hm boot_any prim_any (one_top h he) (by decide) (by decide) he rfl
theorem b_int (h : EJ X ec E Γ e f (.top fr) pu) (hm : X.mg "int" = none) (hg : Gl X "int" := by rfl) (he : starEach [e] X.env = (false, eval e X.env) :: starEach [] X.env := by rfl) : EJ X ec E Γ (.Call (.Name "int" p) [e] [] pos) (dPrim intD (dCons f dNil)) (.val fr) pu := ej_callTy call_int1 hg hm boot_int prim_int (one_top h he) (by decide) (by decide) he rfl
theorem b_tuple (h : EJ X ec E Γ e f (.top fr) pu) (hm : X.mg "tuple" = none) (hg : Gl X "tuple" := by rfl) (he : starEach [e] X.env = (false, eval e X.env) :: starEach [] X.env := by rfl) : EJ X ec E Γ (.Call (.Name "tuple" p) [e] [] pos) (dPrim tupleD (dCons f dNil)) (.val fr) pu := ej_callTy call_tuple_of hg hm boot_tuple prim_tuple (one_top h he) (by decide) (by decide) he rfl
theorem b_list (h : EJ X ec E Γ e f (.top fr) pu) (hm : X.mg "list" = none) (hg : Gl X "list" := by rfl) (he : starEach [e] X.env = (false, eval e X.env) :: starEach [] X.env := by rfl) : EJ X ec E Γ (.Call (.Name "list" p) [e] [] pos) (dPrimL listD (dCons f dNil)) (.new fr) pu := ej_callTyN call_list_of hg hm boot_list prim_list (one_top h he) (by decide) (by decide) he rfl
theorem b_sorted (h : EJ X ec E Γ e f (.top fr) pu) (hm : X.mg "sorted" = none) (hcm : X.calm = true := by rfl) (hg : Gl X "sorted" := by rfl) (he : starEach [e] X.env = (false, eval e X.env) :: starEach [] X.env := by rfl) : EJ X ec E Γ (.Call (.Name "sorted" p) [e] [] pos) (dPrimL sortedD (dCons f dNil)) (.new fr) pu := ej_callBN (call_sortedAll hcm) hg hm boot_sorted prim_sorted (one_top h he) (by decide) (by decide) he rfl
theorem b_dict (h : EJ X ec E Γ e f (.top fr) pu) (hm : X.mg "dict" = none) (hcm : X.calm = true := by rfl) (hg : Gl X "dict" := by rfl) (he : starEach [e] X.env = (false, eval e X.env) :: starEach [] X.env := by rfl) : EJ X ec E Γ (.Call (.Name "dict" p) [e] [] pos) (dDict f) (.new fr) pu := ej_dict (x := "dict") hcm hg hm h he rfl
theorem i_range1 {tg : Expr} (h : EJ X ec E Γ a fa (.top fr) pu) (hm : X.mg "range" = none) (hg : Gl X "range" := by rfl) (hs : starEach [a] X.env = [(false, eval a X.env)] := by rfl) : IJ X ec E Γ tg (.Call (.Name "range" p) [a] [] pos) (dIt rng1D (dCons fa dNil)) fr' pu := ij_range1 hg hm (one_top h hs) hs
theorem i_range2 {tg : Expr} (h : EJ X ec E Γ a fa (.top fr) pu) (h' : EJ X ec E Γ b fb (.top fr) true) (hm : X.mg "range" = none) (hg : Gl X "range" := by rfl) (hs : starEach [a, b] X.env = [(false, eval a X.env), (false, eval b X.env)] := by rfl) (hs2 : starEach [b] X.env = [(false, eval b X.env)] := by rfl) :
    IJ X ec E Γ tg (.Call (.Name "range" p) [a, b] [] pos) (dIt rng2D (dCons fa (dCons fb dNil))) fr' pu := by
  have z := aj_cons h (aj_cons h' aj_nil (m := .top fr) rfl hs2) (m := .top fr) rfl (by rw [hs, hs2])
  simp only [Bool.and_true] at z
  exact ij_range2 hg hm z hs hs2
theorem i_enum {elts : List Expr} {kk : Nat} {tpos : Pos} (h : EJ X ec E Γ a fa (.val fr) pu) (hm : X.mg "enumerate" = none) (hg : Gl X "enumerate" := by rfl) (hs : starEach [a] X.env = [(false, eval a X.env)] := by rfl) : IJ X ec E Γ (.Tuple elts kk tpos) (.Call (.Name "enumerate" p) [a] [] pos) (dIt enumA (dCons fa dNil)) fr pu := ij_enumA hg hm h hs
theorem i_zip {elts : List Expr} {kk : Nat} {tpos : Pos} (h : EJ X ec E Γ a fa (.val fr) pu) (h' : EJ X ec E Γ b fb (.val fr) true) (hm : X.mg "zip" = none) (hg : Gl X "zip" := by rfl) (hs : starEach [a, b] X.env = (false, eval a X.env) :: starEach [b] X.env := by rfl) (hs2 : starEach [b] X.env = [(false, eval b X.env)] := by rfl) :
    IJ X ec E Γ (.Tuple elts kk tpos) (.Call (.Name "zip" p) [a, b] [] pos) (dIt zipL (dCons fa (dCons fb dNil))) fr pu := by
  have z := aj_cons h (aj_cons h' aj_nil (m := .val fr) rfl hs2) (m := .val fr) rfl hs
  simp only [Bool.and_true] at z
  exact ij_zip hg hm z hs (by rw [hs2]; rfl)
/-! tuples, lists -/
theorem t_isi : True := trivial
/-! defs of one's own -/
structure CallOk (P : Program) (w : World) (K : PySem.W.Frag) (mg : Str → Option Value) (base : Heap) (k : Nat) (x : Str) (ps : List Str) (ts : List Bool) (F : List D → SS → Res D) (fr : Bool) : Prop where
  ex : ∃ f fd, FnOk P w K mg base CX0 k f fd ps (spD K ec0 ts F fr) ∧ mg x = some (.ref f) ∧ PySem.W.keepIn K (.ref f) = true ∧ Binds K fd ps []
end
theorem fn_stk {P : Program} {w : World} {K : PySem.W.Frag} {mg : Str → Option Value} {base : Heap} {k : Nat} {f : Addr} {fd : FuncData} {ps : List Str} {ts : List Bool} {fr : Bool} (hl : ts.length = ps.length) : FnOk P w K mg base CX0 k f fd ps (spD K ec0 ts (fun _ _ => .stk) fr) :=
  ⟨fun vs H Q E ⟨q, c, S, G0, ds, _, _, _, _, _, ha, _⟩ => by rw [ha.length, hl], fun A outer s H args us vs Q E _ _ _ _ ⟨q, c, S, G0, ds, _, _, _, _, _, _, hp⟩ => (show False from hp).elim⟩
section
variable {X : Cx} {Γ : List Tag} {e : Expr} {es : List Expr} {pos p : Pos} {fr pu : Bool} {k j : Nat} {x : Str} {ps : List Str} {ts : List Bool} {F : List D → SS → Res D} {fa : Den (List D)} {ms : List Mode}
theorem ej_c (c : CallOk X.prog X.w X.K X.mg X.base j x ps ts F fr) (hr : Room k X.A) (ha : AJ X ec0 E0 Γ (e :: es) fa ms pu) (hj : j ≤ k := by first | decide | omega) (hms : argModes false ms ts = true := by rfl) (hg : Gl X x := by rfl)
    (hdb : (x == ("__debug__" : Str)) = false := by decide) (he : starEach (e :: es) X.env = (false, eval e X.env) :: starEach es X.env := by rfl) (hpl : (backTo pos (starEach es X.env)).any (·.1) = false := by rfl) : EJ X ec0 E0 Γ (.Call (.Name x p) (e :: es) [] pos) (dCall F fa) (.val fr) pu := by
  obtain ⟨f, fd, Fn, hm, hk, hb⟩ := c.ex
  exact ej_call (Fn.mono hj) hr hg hm hk hb ha hms hdb he hpl
/-- of a def that gives new things: what is handed in may be anything -/
theorem ej_cF (c : CallOk X.prog X.w X.K X.mg X.base j x ps ts F true) (hr : Room k X.A) (ha : AJ X ec0 E0 Γ (e :: es) fa ms pu) (hj : j ≤ k := by first | decide | omega) (hms : argModes true ms ts = true := by rfl) (hg : Gl X x := by rfl)
    (hdb : (x == ("__debug__" : Str)) = false := by decide) (he : starEach (e :: es) X.env = (false, eval e X.env) :: starEach es X.env := by rfl) (hpl : (backTo pos (starEach es X.env)).any (·.1) = false := by rfl) : EJ X ec0 E0 Γ (.Call (.Name x p) (e :: es) [] pos) (dCall F fa) (.val true) pu := by
  obtain ⟨f, fd, Fn, hm, hk, hb⟩ := c.ex
  exact ej_callF (Fn.mono hj) hr hg hm hk hb ha hms hdb he hpl
end
section
variable {X : Cx} {ec : EC} {E : XK} {fr fr' : Bool} {Γ Γ' Γ1 : List Tag} {T : Tg} {e a b tg iter : Expr} {es : List Expr} {pos : Pos} {st : Stmt} {rest body : List Stmt} {f g : SDen} {pu : Bool}
theorem k_nil (h : Γ = T.n := by rfl) : BJ X ec E fr Γ [] sNop T := by subst h; exact bj_nil
theorem k_pass (h : Γ = T.n := by rfl) : SJ X ec E fr Γ (.Pass pos) sNop T := by subst h; exact sj_pass
theorem k_break (h : Γ = T.b := by rfl) : SJ X ec E fr Γ (.Break pos) sBrk T := by subst h; exact sj_break
theorem k_continue (h : Γ = T.c := by rfl) : SJ X ec E fr Γ (.Continue pos) sCnt T := by subst h; exact sj_continue
theorem k_expr {d : Den D} {m : Mode} (h : EJ X ec E Γ e d m pu) (hT : Γ = T.n := by rfl) (hs : swapsWith e none pos.line X.env = pure false := by rfl) : SJ X ec E fr Γ (.Expr e pos) (sExpr d) T := by subst hT; exact sj_expr h hs
theorem k_for {it : Den (List D)} {t : Tgt} (hc : X.calm = true) (hp : PassesOwn (model X.prog X.w) X.A X.env X.xe) (hi : IJ X ec E Γ tg iter it fr' pu) (hg : GJ X tg t) (hb : BJ X ec E fr (tagT t fr' Γ) body g ⟨Γ, Γ, Γ⟩) (hT : Γ = T.n := by rfl) (hs : ∀ x, foldedSetIterable iter X.env x = pure x := by intro _; rfl) : SJ X ec E fr Γ (.For tg iter body [] pos) (sFor it t g) T := by
  subst hT; exact sj_for hc hp hi hg hb hs
theorem k_while {c : Expr} {d : Den Bool} {n : Rho → SS → Nat} (hp : PassesOwn (model X.prog X.w) X.A X.env X.xe) (hc : TJ X ec E Γ c d pu) (hb : BJ X ec E fr Γ body g ⟨Γ, Γ, Γ⟩) (hT : Γ = T.n := by rfl) : SJ X ec E fr Γ (.While c body [] pos) (sWhile n d g) T := by subst hT; exact sj_while hp hc hb
theorem k_asgA {d : Den D} {tf : D → Den Unit} (h : EJ X ec E Γ e d (.val fr') pu) (hg : AG X ec E Γ tg tf fr') (hT : Γ = T.n := by rfl) (hs : swapsWithSole [tg] e pos.line X.env = pure false := by rfl) (hw : swappedStores [tg] e X.env = pure none := by rfl)
    (h1 : (assignEach [tg] X.env).map (·.2) = [assign tg X.env] := by rfl) : SJ X ec E fr Γ (.Assign [tg] e pos) (sAsgA d tf) T := by subst hT; exact sj_asgA h hg hs hw h1
theorem k_dput {fr2 : Bool} {x : Str} {i : Nat} {f fk : Den D} {xp pos' : Pos} {p1 p2 : Bool} (hu : X.A.units + 1 < cLine) (hN : X.N[i]? = some x) (hv : Vis X.env.scope x) (hd : (x == ("__debug__" : Str)) = false) (hcd : (x == ("__classdict__" : Str)) = false) (ht : Γ[i]? = some (.own fr))
    (h : EJ X ec E Γ e f (.val fr) p1) (hk : EJ X ec E Γ a fk (.val fr') p2) (hT : Γ = T.n := by rfl) (hs : swapsWith e (some (.Subscript (.Name x xp) a pos')) pos.line X.env = pure false := by rfl) :
    SJ X ec E fr2 Γ (.Assign [.Subscript (.Name x xp) a pos'] e pos) (sDput i f fk) T := by subst hT; exact sj_dput hu hN hv hd hcd ht h hk hs
end
end PD

/-! calls by keywords alone; a new flat list from a def; sorted by len -/
namespace PD
open PySem L2 PyProof.Rows
section
variable {X : Cx} {CX : CXT} {k : Nat} {f : Addr} {fd : FuncData} {ps ks : List Str} {sp : Sp} {E : XK} {x : Str} {p pos : Pos} {kws : List Keyword} {tk : TA} {g : List Value → List Value → List Value} {gV : List V → List V → List V}
theorem pe_callK0 (F : FnOk X.prog X.w X.K X.mg X.base CX k f fd ps sp) (hr : Room k X.A) (hg : Gl X x) (hm : X.mg x = some (.ref f)) (hk : PySem.W.keepIn X.K (.ref f) = true) (hb : KBinds X.K fd ps ks g gV) (hx : Passes CX X E)
    (hkw : PK X kws tk) (hall : (backToKw pos (keywordEach kws X.env)).all (·.1.isSome) = true) (hks : (backToKw pos (keywordEach kws X.env)).filterMap (·.1) = ks) (hdb : (x == ("__debug__" : Str)) = false)
    (hpl : ((backTo pos (starEach [] X.env)).any (·.1) || (backToKw pos (keywordEach kws X.env)).any (·.1.isNone)) = false) : PE X (.Call (.Name x p) [] kws pos) (tCallK sp gV E tNil tk) := by
  refine ⟨fun pins s σ H Q I h => ?_⟩
  refine wpAny_Call_Name_kw (ld_glob I hg hm ?_ hdb)
  refine PySem.W.callWith_KW0 (h₀ := X.base) I.ok.mod.kin hk hall (thn (hkw.run pos pins s σ H _ I h) fun ws s2 ⟨zs, H2, I2, rz, q2⟩ => ⟨I2.kIn, ?_⟩) hpl
  rw [hks]
  exact run_fnk F hr hb hx I2 .nil rz q2
end
def permL {α : Type} (z : α) (perm : List Nat) (n : Nat) (us ws : List α) : List α := if us.length = 0 ∧ ws.length = n then perm.map fun i => ws.getD i z else []
theorem perm_vals {perm : List Nat} {n : Nat} {vs zs : List V} {us ws : List Value} (h1 : Vals vs us) (h2 : Vals zs ws) : Vals (permL V.non perm n vs zs) (permL Value.none perm n us ws) := by
  unfold permL
  rw [h1.length, h2.length]
  split
  · induction perm with
    | nil => exact .nil
    | cons i r ih =>
      refine .cons ?_ ih
      show RelV (zs.getD i V.non) (ws.getD i Value.none)
      rw [List.getD_eq_getElem?_getD, List.getD_eq_getElem?_getD]
      cases e : zs[i]? with
      | none =>
        have : ws[i]? = none := by
          rw [List.getElem?_eq_none_iff] at e ⊢
          rw [← h2.length]; exact e
        rw [this]; exact rfl
      | some v =>
        obtain ⟨u, hu, r⟩ := h2.get e
        rw [hu]; exact r
  · exact .nil
/-- how keywords alone bind -/
def KB (fd : FuncData) (ps ks : List Str) (perm : List Nat) : Prop := ∀ ws : List Value, ws.length = ps.length → bindArgs fd ⟨[], ks.zip ws⟩ = pure (ps.zip (perm.map fun i => ws.getD i .none))
theorem KB.binds {K : PySem.W.Frag} {fd : FuncData} {ps ks : List Str} {perm : List Nat} (h : KB fd ps ks perm) (hp : 0 < ps.length) : KBinds K fd ps ks (permL Value.none perm ps.length) (permL V.non perm ps.length) := by
  refine ⟨fun s us ws _ hl => ?_, perm_vals⟩
  unfold permL at hl ⊢
  split at hl
  · rename_i hc
    rw [if_pos hc]
    obtain ⟨h1, h2⟩ := hc
    have hu : us = [] := List.eq_nil_of_length_eq_zero h1
    subst hu
    exact .of_eq (h ws h2)
  · exact absurd hl (by simp; omega)
structure CallOkK (P : Program) (w : World) (K : PySem.W.Frag) (mg : Str → Option Value) (base : Heap) (k : Nat) (x : Str) (ps ks : List Str) (perm : List Nat) (F : List D → SS → Res D) (fr : Bool) : Prop where
  ex : ∃ f fd, FnOk P w K mg base CX0 k f fd ps (spD K ec0 (List.replicate ps.length false) F fr) ∧ mg x = some (.ref f) ∧ PySem.W.keepIn K (.ref f) = true ∧ KB fd ps ks perm
def KJ (X : Cx) (ec : EC) (E : XK) (Γ : List Tag) (kws : List Keyword) (f : Den (List D)) (pu : Bool) : Prop :=
  ∃ tk, PK X kws tk ∧ ∀ C ρ S σ H G N Q, Rel X.K C Γ ρ S σ H G N →
    Post X.K ec E C (f ρ S) (fun ds ρ' S' => ∀ vs H' G' N', Rel X.K C Γ ρ' S' σ H' G' N' → Ext C H G N H' G' N' pu → AtL X.K G' (Pf C false) vs ds → Q vs H') → tk σ H Q
section
variable {X : Cx} {ec : EC} {E : XK} {Γ : List Tag} {e a b : Expr} {es : List Expr} {pos p kpos : Pos} {fr pu p1 p2 : Bool} {f fa : Den D} {g : Den (List D)} {kws : List Keyword} {nm : Option Str} {x : Str} {ps ks : List Str} {perm : List Nat} {F : List D → SS → Res D} {j k : Nat} {fk : Den (List D)}
theorem kj_nil : KJ X ec E Γ [] dNil true := ⟨_, pk_nil, fun C ρ S σ H G N Q R p => p [] H G N R Ext.refl .nil⟩
theorem kj_cons (h : EJ X ec E Γ e f (.val false) p1) (h' : KJ X ec E Γ kws g p2) : KJ X ec E Γ (⟨nm, e, kpos⟩ :: kws) (dCons f g) (p1 && p2) := by
  obtain ⟨te, pe, r⟩ := h
  obtain ⟨ta, pa, r'⟩ := h'
  refine ⟨_, pk_cons pe pa, fun C ρ S σ H G N Q R p => ?_⟩
  refine r C ρ S σ H G N _ R (p.bind.mono fun d ρ1 S1 q v H1 G1 N1 R1 x1 o1 => ?_)
  refine r' C ρ1 S1 σ H1 G1 N1 _ R1 (q.bind.mono fun ds ρ2 S2 q vs H2 G2 N2 R2 x2 o2 => ?_)
  have o1 : At X.K G1 (Pf C false) v d := o1
  exact q (v :: vs) H2 G2 N2 R2 (x1.trans x2) (.cons (o1.ext x2.ge) o2)
theorem args_all {K : PySem.W.Frag} {G : Hp} {P : Addr → Prop} {q : Addr} : ∀ {vs : List V} {ds : List D}, AtL K G P vs ds → ArgsAt K G q (List.replicate ds.length false) vs ds
  | [], [], _ => trivial
  | v :: vs, d :: ds, h => by
    cases h with
    | cons a r => exact ⟨At.weak (fun _ _ => trivial) a, args_all r⟩
  | [], _ :: _, h => by cases h
  | _ :: _, [], h => by cases h
theorem AtL.permD {K : PySem.W.Frag} {G : Hp} {P : Addr → Prop} {vs : List V} {ds : List D} (h : AtL K G P vs ds) : ∀ perm : List Nat, AtL K G P (perm.map fun i => vs.getD i .non) (perm.map fun i => ds.getD i .none)
  | [] => .nil
  | i :: r => by
    refine .cons ?_ (AtL.permD h r)
    show At K G P (vs.getD i .non) (ds.getD i .none)
    rw [List.getD_eq_getElem?_getD, List.getD_eq_getElem?_getD]
    cases e : ds[i]? with
    | none =>
      have : vs[i]? = none := by
        rw [List.getElem?_eq_none_iff] at e ⊢
        rw [h.length]; exact e
      rw [this]; exact .non
    | some d =>
      obtain ⟨v, hv, a⟩ := h.get e
      rw [hv]; exact a
def dPerm (perm : List Nat) (f : Den (List D)) : Den (List D) := fun ρ S => (f ρ S).bind fun ds ρ1 S1 => .ok (perm.map fun i => ds.getD i .none) ρ1 S1
/-- f(k = v, ..), nothing by position -/
theorem ej_k (c : CallOkK X.prog X.w X.K X.mg X.base j x ps ks perm F fr) (hr : Room k X.A) (ha : KJ X ec0 E0 Γ kws fk pu) (hn : (kws.length = ps.length ∧ perm.length = ps.length) ∧ 0 < ps.length) (hlen : ∀ ρ S, ∀ ds ρ' S', fk ρ S = .ok ds ρ' S' → ds.length = kws.length) (hj : j ≤ k := by first | decide | omega) (hg : Gl X x := by rfl)
    (hall : (backToKw pos (keywordEach kws X.env)).all (·.1.isSome) = true := by rfl) (hks : (backToKw pos (keywordEach kws X.env)).filterMap (·.1) = ks := by rfl) (hdb : (x == ("__debug__" : Str)) = false := by decide)
    (hpl : ((backTo pos (starEach [] X.env)).any (·.1) || (backToKw pos (keywordEach kws X.env)).any (·.1.isNone)) = false := by rfl) : EJ X ec0 E0 Γ (.Call (.Name x p) [] kws pos) (dCall F (dPerm perm fk)) (.val fr) pu := by
  obtain ⟨f, fd, Fn, hm, hk, hb⟩ := c.ex
  obtain ⟨tk, pk, r⟩ := ha
  refine ⟨_, pe_callK0 (Fn.mono hj) hr hg hm hk (hb.binds hn.2) (pass0 (X := X)) pk hall hks hdb hpl, fun C ρ S σ H G N Q R q => ?_⟩
  show tk σ H fun zs H2 => _
  cases ef : fk ρ S with
  | stk => simp only [dCall, dPerm, ef] at q; exact q.elim
  | exc cn pp S1 => simp only [dCall, dPerm, ef] at q; exact absurd q xw0
  | ok ds ρ1 S1 =>
    have hl := hlen _ _ _ _ _ ef
    refine r C ρ S σ H G N _ R ?_
    rw [ef]
    intro vs H1 G1 N1 R1 x1 o1
    simp only [dCall, dPerm, ef, Res.bind_ok] at q
    have q1 := q.bind
    have ev : permL V.non perm ps.length [] vs = perm.map fun i => vs.getD i .non := by
      unfold permL
      rw [if_pos ⟨rfl, by rw [o1.length, hl, hn.1.1]⟩]
    rw [ev]
    have oa := args_all (q := C.q) (o1.permD perm)
    rw [List.length_map, hn.1.2] at oa
    refine ⟨C.q, C.c, S1, G1, _, R1.st, R1.gh, R1.gs.1, R1.gs.2, R1.gt, oa, ?_⟩
    cases hF : F (perm.map fun i => ds.getD i .none) S1 with
    | stk => rw [hF] at q1; exact q1
    | exc cn p S2 => rw [hF] at q1; exact absurd q1 xw0
    | ok d ρ2 S2 =>
      rw [hF] at q1
      intro v H' st hx at'
      have q1 : ∀ v H' G' N', Rel X.K C Γ ρ1 S2 σ H' G' N' → Ext C H G N H' G' N' pu → ValOk X.K C H H' G' N' (.val fr) v d → Q v H' := q1
      obtain ⟨R3, x3⟩ := R1.called st hx
      refine q1 v H' _ N1 R3 ((x1.trans x3).weak fun z => by simp [z]) ?_
      refine At.weak (fun a z => ?_) at'
      cases fr with
      | false => exact trivial
      | true => exact R1.h0 z
theorem dCons_len {f : Den D} {g : Den (List D)} {n : Nat} (h : ∀ ρ S ds ρ' S', g ρ S = .ok ds ρ' S' → ds.length = n) : ∀ ρ S ds ρ' S', dCons f g ρ S = .ok ds ρ' S' → ds.length = n + 1 := fun ρ S ds ρ' S' e => by
  unfold dCons at e
  cases e1 : f ρ S with
  | stk => rw [e1] at e; cases e
  | exc c p S1 => rw [e1] at e; cases e
  | ok d ρ1 S1 =>
    rw [e1] at e
    simp only [Res.bind_ok] at e
    cases e2 : g ρ1 S1 with
    | stk => rw [e2] at e; cases e
    | exc c p S1 => rw [e2] at e; cases e
    | ok ds2 ρ2 S2 =>
      rw [e2] at e
      simp only [Res.bind_ok] at e
      cases e
      rw [List.length_cons, h _ _ _ _ _ e2]
theorem dNil_len : ∀ ρ S ds ρ' S', dNil ρ S = .ok ds ρ' S' → ds.length = 0 := fun ρ S ds ρ' S' e => by cases e; rfl

/-! ### a new flat list from a def that gives new things: one's own -/
def dFlat (f : Den D) : Den D := fun ρ S => (f ρ S).bind fun d ρ1 S1 => match d with
  | .list ds => if ds.all flatD = true then .ok (.list ds) ρ1 S1 else .stk
  | _ => .stk
theorem AtL.flatG {K : PySem.W.Frag} {G G' : Hp} {P P' : Addr → Prop} : ∀ {vs : List V} {ds : List D}, AtL K G P vs ds → ds.all flatD = true → AtL K G' P' vs ds
  | [], [], _, _ => .nil
  | v :: vs, d :: ds, h, f => by
    rw [List.all_cons, Bool.and_eq_true] at f
    cases h with
    | cons a r =>
      refine .cons ?_ (AtL.flatG r f.2)
      cases a with
      | non => exact .non
      | bl b => exact .bl b
      | int i => exact .int i
      | str x => exact .str x
      | _ => simp [flatD] at f
  | [], _ :: _, h, _ => by cases h
  | _ :: _, [], h, _ => by cases h
/-- behind a call: all new things but p are at rest -/
theorem Rel.calledBut {K : PySem.W.Frag} {C : Ct} {ρ : Rho} {S S' : SS} {σ : L2.St} {H G H' : Hp} {N : Nat → Addr → Prop} {p : Addr} {o : HO} (R : Rel K C Γ ρ S σ H G N) (st : StAt H' C.q C.c S') (hx : ∀ a o, H a = some o → a ≠ C.q → a ≠ C.c → H' a = some o) (hp : H p = none) (hp' : H' p = some o) (to : isTupO o = false) :
    ∃ G', Rel K C Γ ρ S' σ H' G' N ∧ Ext C H G N H' G' N true ∧ G' p = none := by
  obtain ⟨R1, x1⟩ := R.called st hx
  have gp : G p = none := R.g0n hp
  have ne : ∀ a o, G a = some o → a ≠ p := fun a o e => by rintro rfl; rw [gp] at e; cases e
  have up : ∀ a, a ≠ p → (fun b => if b = p then none else extG G H H' b) a = extG G H H' a := fun a h => if_neg h
  refine ⟨fun b => if b = p then none else extG G H H' b, ⟨R1.st, R1.st0, R1.keep, fun a u e => ?_, ⟨?_, ?_⟩, fun a u e t => ?_, fun a u e => ?_, fun a h1 h2 => ?_, fun i a h => ?_, R1.dj, R1.one, R1.lr, R1.ls, fun i t d h1 h2 h3 => ?_⟩, ⟨ExR.of fun a u e => ?_, fun a h => ?_, x1.nx, x1.dom, x1.same⟩, if_pos rfl⟩
  · by_cases h : a = p
    · subst h; simp at e
    · simp only [h, if_false] at e; exact R1.gh a u e
  · have h : C.q ≠ p := fun z => by subst z; rw [R.st.2.1] at hp; cases hp
    simp only [h, if_false]; exact R1.gs.1
  · have h : C.c ≠ p := fun z => by subst z; rw [R.st.2.2] at hp; cases hp
    simp only [h, if_false]; exact R1.gs.2
  · have h : a ≠ p := fun z => by subst z; rw [hp'] at e; cases e; rw [to] at t; cases t
    simp only [h, if_false]; exact R1.gt a u e t
  · have h := ne a u (R.g0 a u e)
    simp only [h, if_false]; exact R1.g0 a u e
  · by_cases h : a = p
    · subst h; simp at h1
    · simp only [h, if_false] at h1; exact R1.gn a h1 h2
  · obtain ⟨z1, z2, z3⟩ := R1.nn i a h
    refine ⟨?_, z2, z3⟩
    by_cases h : a = p
    · simp [h]
    · simp only [h, if_false]; exact z1
  · obtain ⟨v, e, s⟩ := R.sl i t d h1 h2 h3
    refine ⟨v, e, (s.heap (fun a z => R.nq z) R.st hx).frz (ExR.of fun a u e => ?_)⟩
    have h := ne a u e
    simp only [h, if_false]
    unfold extG
    rw [R.gh a u e]; exact e
  · have h := ne a u e
    simp only [h, if_false]
    unfold extG
    rw [R.gh a u e]; exact e
  · by_cases e : a = p
    · subst e; exact .inr hp
    · simp only [e, if_false] at h; exact x1.gx a h
theorem ej_cN {ts : List Bool} {ms : List Mode} {fa : Den (List D)} {fr' : Bool} (c : CallOk X.prog X.w X.K X.mg X.base j x ps ts F true) (hr : Room k X.A) (ha : AJ X ec0 E0 Γ (e :: es) fa ms pu) (hj : j ≤ k := by first | decide | omega) (hms : argModes false ms ts = true := by rfl) (hg : Gl X x := by rfl)
    (hdb : (x == ("__debug__" : Str)) = false := by decide) (he : starEach (e :: es) X.env = (false, eval e X.env) :: starEach es X.env := by rfl) (hpl : (backTo pos (starEach es X.env)).any (·.1) = false := by rfl) : EJ X ec0 E0 Γ (.Call (.Name x p) (e :: es) [] pos) (dFlat (dCall F fa)) (.new fr') pu := by
  obtain ⟨f, fd, Fn, hm, hk, hb⟩ := c.ex
  obtain ⟨ta, pa, r⟩ := ha
  refine ⟨_, pe_call (Fn.mono hj) hr hg hm hk hb .nil (pass0 (X := X)) pa hdb he hpl, fun C ρ S σ H G N Q R q => ?_⟩
  have q : Post X.K ec0 E0 C ((dCall F fa ρ S).bind _) _ := q
  refine r C ρ S σ H G N _ R (q.bind.bind.mono fun ds ρ1 S1 q1 vs H1 G1 N1 R1 x1 o1 => ?_)
  have q1 := q1.bind
  show spD X.K ec0 ts F true (vs ++ []) H1 Q E0
  rw [List.append_nil]
  refine ⟨C.q, C.c, S1, G1, ds, R1.st, R1.gh, R1.gs.1, R1.gs.2, R1.gt, args_of (fr := false) R1 hms o1, ?_⟩
  cases hF : F ds S1 with
  | stk => rw [hF] at q1; exact q1
  | exc cn p S2 => rw [hF] at q1; exact absurd q1 xw0
  | ok d ρ2 S2 =>
    rw [hF] at q1
    intro v H' st hx at'
    cases d with
    | list xs =>
      obtain ⟨hfl, q1⟩ := ifR_post (show Post X.K ec0 E0 C (if _ then _ else .stk) _ from q1)
      have q1 : ∀ v H' G' N', Rel X.K C Γ ρ1 S2 σ H' G' N' → Ext C H G N H' G' N' pu → ValOk X.K C H H' G' N' (.new fr') v (.list xs) → Q v H' := q1
      cases at' with
      | @lst a vs2 _ hg2 pa2 l2 =>
        have pa2 : H1 a = none := pa2
        have ha' : H' a = some (.lst vs2) := by
          unfold extG at hg2; rw [pa2] at hg2; exact hg2
        obtain ⟨G3, R3, x3, gn⟩ := R1.calledBut st hx pa2 ha' rfl
        refine q1 _ H' G3 N1 R3 ((x1.trans x3).weak fun z => by simp [z]) ⟨a, rfl, ?_, gn, R1.n0 pa2, vs2, ha', l2.flatG hfl⟩
        cases z : H a with
        | none => rfl
        | some o => exact absurd pa2 (x1.dom a (by rw [z]; simp))
    | _ => exact q1.elim
end
end PD

/-! sorted(xs, key=len) -/
namespace PD
open PySem L2 PyProof.Rows
section
variable {X : Cx} {e : Expr} {te : TE} {p p2 kp pos : Pos}
def tSortedLen (K : PySem.W.Frag) (te : TE) : TE := fun σ H Q => te σ H fun x H1 => ∃ (a : Addr) (ps : List (V × Nat)), [x] = [V.ref a] ∧ SqL K H1 a (ps.map (·.1)) ∧ (∀ y ∈ ps, LenV K y.1 H1 y.2) ∧
  ∀ q, H1 q = none → Q (.ref q) (upd H1 q (.lst ((ps.mergeSort fun y z => decide ((y.2 : Int) ≤ z.2)).map (·.1))))
theorem each_vals : ∀ {ps : List (V × Nat)} {us : List Value}, Vals (ps.map (·.1)) us → PySem.W.EachIs (fun (u : Value) (y : V × Nat) => RelV y.1 u) us ps
  | [], _, r => by cases r; exact .nil
  | _ :: _, _, r => by
    cases r with
    | cons a b => exact .cons a (each_vals b)
theorem vals_each : ∀ {ps : List (V × Nat)} {us : List Value}, PySem.W.EachIs (fun (u : Value) (y : V × Nat) => RelV y.1 u) us ps → Vals (ps.map (·.1)) us
  | [], _, r => by cases r; exact .nil
  | _ :: _, _, r => by
    cases r with
    | cons a b => exact .cons a (vals_each b)
theorem pe_sortedLen (hg : Gl X "sorted") (hm : X.mg "sorted" = none) (hg2 : Gl X "len") (hm2 : X.mg "len" = none) (hu : X.A.units + 64 < cLine) (he : PE X e te)
    (he1 : starEach [e] X.env = (false, eval e X.env) :: starEach [] X.env)
    (hb : backTo pos (starEach [e] X.env) = (false, eval e X.env) :: backTo pos (starEach [] X.env)) (hpl : (backTo pos (starEach [e] X.env)).any (·.1) = false)
    (hall : (backToKw pos (keywordEach [⟨some "key", .Name "len" p2, kp⟩] X.env)).all (·.1.isSome) = true) (hnone : (backToKw pos (keywordEach [⟨some "key", .Name "len" p2, kp⟩] X.env)).any (·.1.isNone) = false)
    (hks : (backToKw pos (keywordEach [⟨some "key", .Name "len" p2, kp⟩] X.env)).filterMap (·.1) = [Str.ofString "key"]) :
    PE X (.Call (.Name "sorted" p) [e] [⟨some "key", .Name "len" p2, kp⟩] pos) (tSortedLen X.K te) := by
  refine ⟨fun pins s σ H Q I h => ?_⟩
  refine wpAny_Call_Name_kw (ld_blt I hg hm boot_sorted ?_ (by decide) (by decide))
  have h' : tCons te tNil σ H fun vs H1 => ∃ (a : Addr) (ps : List (V × Nat)), vs = [V.ref a] ∧ SqL X.K H1 a (ps.map (·.1)) ∧ (∀ y ∈ ps, LenV X.K y.1 H1 y.2) ∧
      ∀ q, H1 q = none → Q (.ref q) (upd H1 q (.lst ((ps.mergeSort fun y z => decide ((y.2 : Int) ≤ z.2)).map (·.1)))) := by
    exact h
  refine PyProof.Rows.callWith_kw (thn ((pa_cons he pa_nil he1).run pos pins s σ H _ I h') fun us s1 ⟨vs, H1, I1, r1, a, ps, ev, hs, hl, q⟩ => ?_) hb hpl hall hnone
  show wpAny _ _ (evalAll ((do let v ← eval (.Name "len" p2) X.env; standAt pos; pure v) :: [])) _ _ s1
  refine wpAny_evalAll_cons (wpAny_bind (ld_blt I1 hg2 hm2 PySem.boot_len (wpAny_bind (wpAny_standAt (wpAny_pure ?_))) (by decide) (by decide)))
  refine wpAny_evalAll_nil ?_
  rw [hks]
  subst ev
  rw [Vals.ref1 r1]
  obtain ⟨its, rv, pl, hz⟩ := I1.list hs
  have hl63 := line63
  have hs16 : sizeLine = 16777216 := sizeLine_eq
  refine PySem.W.sorted_key_data (R := fun (u : Value) (y : V × Nat) => RelV y.1 u) (b := false) (f := .builtin "len") (fun y => .int (y.2 : Int)) pl.isList (each_vals rv) (PySem.W.AllAlike.of fun b b' => by simp [PySem.W.alike]) (PySem.W.Sortable.others fun b => ⟨by simp, by simp⟩) (by rw [List.length_map] at hz; exact hz)
    (fun y _ => by simp only [PyData.depth]; omega) (PyProof.Rows.ksk_s1 _ _) (fun _ => PyProof.Rows.ksk_l1 _ _) (fun x => PyProof.Rows.ksk_t4 "len" x) ?_ ?_
  · intro u y ru hy h tk kp
    have I2 : Inv X pins σ H1 { s1 with heap := h, toks := tk } := I1.kept kp
    have hL := hl y hy
    obtain ⟨yv, n⟩ := y
    cases yv with
    | str z =>
      obtain ⟨t, rfl⟩ := ru
      obtain ⟨hy, e'⟩ : z.length ≤ sizeLine ∧ n = z.length := hL
      subst e'
      exact len_str (by omega) ⟨h, _, rfl, fun _ _ x => x, Reads.int _ _⟩
    | byt z =>
      obtain ⟨t, rfl⟩ := ru
      obtain ⟨hy, e'⟩ : z.size ≤ sizeLine ∧ n = z.size := hL
      subst e'
      exact PySem.W.len_bytes (by omega) ⟨h, _, rfl, fun _ _ x => x, Reads.int _ _⟩
    | ref b =>
      cases ru
      have e' : (∃ xs, SqL X.K H1 b xs ∧ n = xs.length) ∨ ∃ xs, SqT X.K H1 b xs ∧ n = xs.length := hL
      rcases e' with ⟨xs, hx, e'⟩ | ⟨xs, hx, e'⟩
      · subst e'
        obtain ⟨its2, r', pl2, hz2⟩ := I2.list hx
        have hlen := r'.length
        refine Calls.call_len_list pl2.isList (by simp only [List.size_toArray]; omega) ⟨h, _, rfl, fun _ _ x => x, ?_⟩
        simp only [List.size_toArray]; rw [← hlen]; exact Reads.int _ _
      · subst e'
        obtain ⟨its2, r', pl2, hz2⟩ := I2.tuple hx
        have hlen := r'.length
        refine len_tuple pl2 (by simp only [List.size_toArray]; omega) ⟨h, _, rfl, fun _ _ x => x, ?_⟩
        simp only [List.size_toArray]; rw [← hlen]; exact Reads.int _ _
    | _ => exact (show False from hL).elim
  · intro out c h' tk kp fr ho hl2 eo
    rw [show PySem.W.dataLe false (fun y : V × Nat => PyData.int (y.2 : Int)) = fun a b => decide ((a.2 : Int) ≤ b.2) from PySem.W.dataLe_int fun y : V × Nat => (y.2 : Int)] at eo
    have hf : H1 (s1.heap.objs.size + 1) = none := I1.hok.fresh (Nat.le_succ _)
    refine ⟨.ref (s1.heap.objs.size + 1), upd H1 (s1.heap.objs.size + 1) (.lst ((ps.mergeSort fun y z => decide ((y.2 : Int) ≤ z.2)).map (·.1))), I1.laid (t' := tk) kp (Nat.le_succ _) ⟨?_, out, c, vals_each eo, ho⟩, rfl, q _ hf⟩
    rw [List.length_map, (List.mergeSort_perm _ _).length_eq]
    rw [List.length_map] at hz
    exact hz
end
def lenOf : D → Option Nat
  | .list ds => some ds.length
  | .tuple ds => some ds.length
  | .str s => if s.length ≤ sizeLine then some s.length else none
  | _ => none
def lenN (d : D) : Nat := (lenOf d).getD 0
def sortLen (ds : List D) : List D := ds.mergeSort fun a b => decide ((lenN a : Int) ≤ lenN b)
def sortLenD : D → Option (List D)
  | .list ds => if ds.all (fun d => (lenOf d).isSome) = true then some (sortLen ds) else none
  | _ => none
section
variable {X : Cx} {ec : EC} {E : XK} {Γ : List Tag} {e : Expr} {pos p p2 kp : Pos} {fr pu : Bool} {f : Den D} {k : Nat}
theorem AtL.zips {K : PySem.W.Frag} {G : Hp} {P : Addr → Prop} : ∀ {vs : List V} {ds : List D}, AtL K G P vs ds → (∀ z ∈ vs.zip ds, At K G P z.1 z.2) ∧ (vs.zip ds).map (·.1) = vs ∧ (vs.zip ds).map (·.2) = ds
  | [], [], _ => ⟨by simp, rfl, rfl⟩
  | v :: vs, d :: ds, h => by
    cases h with
    | cons a r =>
      obtain ⟨h1, h2, h3⟩ := AtL.zips r
      refine ⟨fun z hz => ?_, by simp [h2], by simp [h3]⟩
      rw [List.zip_cons_cons, List.mem_cons] at hz
      rcases hz with rfl | hz
      · exact a
      · exact h1 z hz
  | [], _ :: _, h => by cases h
  | _ :: _, [], h => by cases h
theorem AtL.of_zips {K : PySem.W.Frag} {G : Hp} {P : Addr → Prop} : ∀ {zs : List (V × D)}, (∀ z ∈ zs, At K G P z.1 z.2) → AtL K G P (zs.map (·.1)) (zs.map (·.2))
  | [], _ => .nil
  | z :: zs, h => .cons (h z (by simp)) (AtL.of_zips fun y hy => h y (by simp [hy]))
theorem len_at {K : PySem.W.Frag} {H G : Hp} {P : Addr → Prop} {v : V} {d : D} (gh : ∀ a o, G a = some o → H a = some o) (h : At K G P v d) (hl : (lenOf d).isSome = true) : LenV K v H (lenN d) := by
  cases h with
  | lst e _ l => exact .inl ⟨_, .inl (.inl (gh _ _ e)), l.length.symm⟩
  | tup r l => exact .inr ⟨_, sqT_mono r gh (ExR.refl _), l.length.symm⟩
  | str x =>
    have hl : (if x.length ≤ sizeLine then some x.length else none).isSome = true := hl
    by_cases hx : x.length ≤ sizeLine
    · refine ⟨hx, ?_⟩
      show ((if x.length ≤ sizeLine then some x.length else none).getD 0) = _
      rw [if_pos hx]; rfl
    · rw [if_neg hx] at hl; cases hl
  | _ => simp [lenOf] at hl
def dSortLen (f : Den D) : Den D := fun ρ S => (f ρ S).bind fun d ρ1 S1 => (optR (sortLenD d) ρ1 S1).bind fun es ρ1 S1 => .ok (.list es) ρ1 S1
theorem b_sortLen (hr : Room k X.A) (h : EJ X ec E Γ e f (.top fr) pu) (hm : X.mg "sorted" = none) (hm2 : X.mg "len" = none) (hg : Gl X "sorted" := by rfl) (hg2 : Gl X "len" := by rfl) (he1 : starEach [e] X.env = (false, eval e X.env) :: starEach [] X.env := by rfl)
    (hb : backTo pos (starEach [e] X.env) = (false, eval e X.env) :: backTo pos (starEach [] X.env) := by rfl) (hpl : (backTo pos (starEach [e] X.env)).any (·.1) = false := by rfl)
    (hall : (backToKw pos (keywordEach [⟨some "key", .Name "len" p2, kp⟩] X.env)).all (·.1.isSome) = true := by rfl) (hnone : (backToKw pos (keywordEach [⟨some "key", .Name "len" p2, kp⟩] X.env)).any (·.1.isNone) = false := by rfl)
    (hks : (backToKw pos (keywordEach [⟨some "key", .Name "len" p2, kp⟩] X.env)).filterMap (·.1) = [Str.ofString "key"] := by rfl) :
    EJ X ec E Γ (.Call (.Name "sorted" p) [e] [⟨some "key", .Name "len" p2, kp⟩] pos) (dSortLen f) (.new fr) pu := by
  obtain ⟨te, pe, r⟩ := h
  refine ⟨_, pe_sortedLen hg hm hg2 hm2 (hu64 hr) pe he1 hb hpl hall hnone hks, fun C ρ S σ H G N Q R q => ?_⟩
  refine r C ρ S σ H G N _ R (q.bind.mono fun d ρ1 S1 q1 v H1 G1 N1 R1 x1 o1 => ?_)
  obtain ⟨es, hk, q2⟩ := optR_post q1.bind
  unfold sortLenD at hk
  split at hk
  · rename_i ds
    split at hk
    · rename_i hall'
      cases hk
      obtain ⟨a, vs, rfl, e1, l1⟩ := AtTop.list R1.gh o1
      obtain ⟨z1, z2, z3⟩ := l1.zips
      have key : ((vs.zip ds).map fun z => (z.1, lenN z.2)).mergeSort (fun y z => decide ((y.2 : Int) ≤ z.2)) = ((vs.zip ds).mergeSort fun y z => decide ((lenN y.2 : Int) ≤ lenN z.2)).map fun z => (z.1, lenN z.2) :=
        (List.map_mergeSort (f := fun z : V × D => (z.1, lenN z.2)) (by intros; rfl)).symm
      have key2 : sortLen ds = ((vs.zip ds).mergeSort fun y z => decide ((lenN y.2 : Int) ≤ lenN z.2)).map (·.2) := by
        unfold sortLen
        conv => lhs; rw [← z3]
        exact (List.map_mergeSort (f := fun z : V × D => z.2) (by intros; rfl)).symm
      refine ⟨a, (vs.zip ds).map fun z => (z.1, lenN z.2), rfl, .inl (.inl ?_), fun y hy => ?_, fun b hb => ?_⟩
      · have : ((vs.zip ds).map fun z => (z.1, lenN z.2)).map (·.1) = vs := by
          rw [List.map_map]; exact z2
        rw [this]; exact e1
      · obtain ⟨z, hz, rfl⟩ := List.mem_map.mp hy
        refine len_at R1.gh (z1 z hz) ?_
        rw [List.all_eq_true] at hall'
        exact hall' z.2 (by rw [← z3]; exact List.mem_map.mpr ⟨z, hz, rfl⟩)
      · rw [key, List.map_map]
        have at' : AtL X.K G1 (Pf C fr) (((vs.zip ds).mergeSort fun y z => decide ((lenN y.2 : Int) ≤ lenN z.2)).map (·.1)) (sortLen ds) := by
          rw [key2]
          exact AtL.of_zips fun z hz => z1 z ((List.mergeSort_perm _ _).mem_iff.mp hz)
        exact q2 _ _ _ N1 (R1.alloc hb rfl) ((x1.trans (ext_alloc (pu := true) hb)).weak fun z => by simp [z])
          ⟨b, rfl, (by
            cases q : H b with
            | none => rfl
            | some o => exact absurd hb (x1.dom b (by rw [q]; simp))), R1.g0n hb, R1.n0 hb, _, upd_same, at'⟩
    · cases hk
  · cases hk
end
end PD

/-! the law's own def: it is called where no repr is under way -/
namespace PD
open PySem PySem.Spec PyProof.Rows L2
/-- as FnOk with CX0, where no repr is under way -/
def FnG (P : Program) (w : World) (K : PySem.W.Frag) (mg : Str → Option Value) (base : Heap) (k : Nat) (f : Addr) (fd : FuncData) (ps : List Str) (sp : Sp) : Prop :=
  ∀ (A : Around) (outer : List Env) (s : Shared) (H : Hp) (args : Args) (us : List Value) (vs : List V) (Q : VK) (E : XK), A.guards = some [] → Room k A → Env0 P w K mg base A outer s H → BindsTo s fd args (ps.zip us) → Vals vs us → sp vs H Q E → vs.length = ps.length →
    codeAny (model P w) A (.call (.ref f) args) (CR CX0 outer P w H s Q E) s
theorem deeper_guards {A : Around} {env : Env} (h : A.guards = some []) : (A.deeper env).guards = some [] := h
section
variable {P : Program} {w : World} {K : PySem.W.Frag} {mg : Str → Option Value} {base : Heap}
theorem fn_g {x qual : Str} {st : Stmt} {f : Addr} {fd : FuncData} {N ps : List Str} {k : Nat} {sp : Sp} (F : Fun K x qual st f fd) (S : FnScope N ps (defScope st))
    (hbody : ∀ (cdv : Value) (A : Around) (outer : List Env) (s : Shared) (H : Hp) (vs : List V) (Q : VK) (E : XK), A.guards = some [] → Room k (A.deeper (envOfC qual (defScope st) s.heap.objs.size f cdv)) → sp vs H Q E →
      ∃ t, PSs (cxOf CX0 P w K mg base N qual (defScope st) f cdv A outer s H E).nox (defBody st) t ∧ t { nx := fun _ H' => Q .non H', rt := Q } (L2.start N vs) H) : FnG P w K mg base (k + 1) f fd ps sp := by
  intro A outer s H args us vs Q E hgd hr e0 hb r hsp hl
  obtain ⟨oc, od, kV, doc, pm, an, cdv, ct, osl, rfl, lk, hcd⟩ := F.ex
  have KX : K.In s.heap := e0.mod.kin.keeps fun b o e => (e0.bs b o e).1
  have lim : s.heap.NoLimit := e0.mod.nolimit.keeps fun b o e => (e0.bs b o e).1
  have hkind : ∀ y ∈ ps.zip us, (defScope st).names.lookup y.1 = some .local ∨ ((defScope st).names.lookup y.1 = some .cell ∧ ((cellsFrom (s.heap.objs.size + 1) (defScope st).names []).lookup y.1).isSome = true) := fun y hy => by
    have hm := (List.of_mem_zip (a := y.1) (b := y.2) hy).1
    exact (S.par y.1 hm).imp id fun q => ⟨q, PySem.W.cellsFrom_some _ _ _ (.inl q)⟩
  obtain ⟨t, ht, hq⟩ := hbody cdv A outer s H vs Q E hgd (hr.deeper _) hsp
  refine codeAny_call_function hr.depth (KX _ _ lk) rfl S.co S.gen rfl (PySem.W.codeRec_of KX hcd) (hb _ _ _ _ ?_)
  refine wpAny_newFunctionEnv_cells S.kind hkind fun env he s1 xx => ?_
  subst he
  refine ⟨lim.keeps xx.toInCall.keep, codeAny_func ?_⟩
  have I : Inv (cxOf CX0 P w K mg base N qual (defScope st) f cdv A outer s H E) [] (L2.start N vs) H s1 := inv_start S hr.hd e0 hl r xx
  refine wpAny_mono (ht.nox.run [] s1 (L2.start N vs) H _ I hq) (fun fl s' hs => ?_) fun e s' hs => hs
  cases fl with
  | ret u =>
    obtain ⟨v, σ', H', J, rv, q⟩ := hs
    exact ⟨v, H', J.os, J.bare, J.base, J.hok, rv, q⟩
  | next =>
    obtain ⟨σ', H', J, q⟩ := hs
    exact ⟨.non, H', J.os, J.bare, J.base, J.hok, rfl, q⟩
  | brk => obtain ⟨_, _, _, q⟩ := hs; exact False.elim q
  | cont => obtain ⟨_, _, _, q⟩ := hs; exact False.elim q
/-- the call that the claim makes: only the script is tracked -/
theorem call_g {mb : Str → Option Value} {k : Nat} {fa a : Addr} {fd : FuncData} {x : Str} {sp : Sp} {s : Shared} {vs : List Value} {ns : List Int}
    (KX : K.In s.heap) (hns : s.heap.Ns mainGlobals mg) (hb : s.heap.Ns builtinsNs mb) (hbb : ∀ x : Str, x ≠ "__name__" → mb x = bootBuiltins x) (hlim : s.heap.NoLimit) (hg : s.gens = #[])
    (ha : s.heap.get? a = some { cls := .type "list", data := .seq vs.toArray }) (hi : IntsAre vs ns) (hl : ns.length ≤ sizeLine) (hr : Room k callerA)
    (F : ∀ base : Heap, K.In base → base.Ns mainGlobals mg → FnG P w K mg base k fa fd [x] sp) (hbind : ∀ (s : Shared) (u : Value), BindsTo s fd ⟨[u], []⟩ [(x, u)])
    (hsp : ∀ H : Hp, Only H → SqL K H a (ns.map V.int) → sp [.ref a] H (fun v _ => v = .bl true) fun _ _ _ => False) :
    codeAny (model P w) callerA (.call (.ref fa) ⟨[.ref a], []⟩) (fun r s' => r = .ok (.ret (.bool true)) ∧ OldK s.heap s'.heap ∧ s'.os = s.os ∧ AllBare s'.gens) s := by
  have rv := vals_ints hi
  have hlv : vs.length = ns.length := hi.length
  -- what is tracked: the script, unless the written part has it
  obtain ⟨H, hO, hS, hok, hA, hK⟩ : ∃ H : Hp, Only H ∧ SqL K H a (ns.map V.int) ∧ HOk P w H s.heap ∧ (∀ b, H b ≠ none → b = a) ∧ (H a ≠ none → K.lookup a = none) := by
    cases hk : K.lookup a with
    | some o =>
      have e := KX a o hk
      rw [ha] at e; cases e
      exact ⟨fun _ => none, fun _ => .inl rfl, .inr ⟨_, vs.toArray, _, hk, rfl, rfl, rfl, by rw [List.size_toArray, hlv]; exact hl, by simpa using rv⟩, (fun b u z => nomatch z), fun b z => absurd rfl z, fun z => absurd rfl z⟩
    | none =>
      let ob : Obj := { cls := .type "list", data := .seq vs.toArray }
      refine ⟨upd (fun _ => none) a (.frz ob (.lst (ns.map V.int))), fun b => ?_, .inl (.inr ⟨ob, upd_same⟩), fun b u z => ?_, fun b z => ?_, fun _ => rfl⟩
      · by_cases h : b = a
        · subst h; exact .inr ⟨_, _, upd_same⟩
        · exact .inl (upd_ne h)
      · by_cases h : b = a
        · subst h
          rw [upd_same] at z; cases z
          exact ⟨ha, by rw [List.length_map]; exact hl, vs, _, rv, ha⟩
        · rw [upd_ne h] at z; cases z
      · by_cases h : b = a
        · exact h
        · exact absurd (upd_ne h) z
  have nd : ∀ {b : Addr} {o : Obj} {es : Array DictEntry} {ep : Nat}, s.heap.get? b = some o → o.data = .dict es ep → H b = none := fun {b o es ep} e d => by
    cases q : H b with
    | none => rfl
    | some u =>
      have e' := hA b (by rw [q]; simp)
      subst e'
      rw [ha] at e; cases e
      exact absurd d (by simp)
  have nsK : ∀ {b : Addr} {m : Str → Option Value}, s.heap.Ns b m → (hidT s.heap H).Ns b m := fun {b m} ⟨o, es, ep, e, d, r⟩ => ⟨o, es, ep, hidT_get e (nd e d), d, r⟩
  have kb : K.In (hidT s.heap H) := fun b o e => hidT_get (KX b o e) (by
    cases q : H b with
    | none => rfl
    | some u =>
      have e' := hA b (by rw [q]; simp)
      subst e'
      rw [hK (by rw [q]; simp)] at e; cases e)
  have hM : Mod K mg (hidT s.heap H) := ⟨kb, nsK hns, ⟨mb, nsK hb, hbb⟩, let ⟨mc, h1, h2⟩ := hlim; ⟨mc, nsK h1, h2⟩⟩
  have e0 : Env0 P w K mg (hidT s.heap H) callerA [] s H := ⟨rfl, hM, fun b o e => of_hidT e, Nat.le_of_eq (hidT_size _ _), trivial, fun b hb => absurd (show b ∈ ([] : List Addr) from hb) (by simp), hok, .of_eq hg⟩
  refine codeAny_mono (F _ kb (nsK hns) callerA [] s H ⟨[.ref a], []⟩ [.ref a] [.ref a] _ _ rfl hr e0 (hbind s (.ref a)) (.cons rfl .nil) (hsp H hO hS) rfl) fun r s' h => ?_
  cases r with
  | error e => exact h.elim
  | ok fl =>
    cases fl with
    | next => exact False.elim h
    | brk => exact False.elim h
    | cont => exact False.elim h
    | ret u =>
      obtain ⟨v, H', os, bare, un, hok', rr, q⟩ := h
      have q : v = .bl true := q
      subst q
      obtain rfl : u = Value.bool true := rr
      refine ⟨rfl, OldK.of_keep fun b o e => ?_, os, bare⟩
      rcases hO b with z | ⟨ob, xs, z⟩
      · exact un.keep b o e z (by intro z; exact absurd (show b ∈ ([] : List Addr) from z) (by simp)) (by simp)
      · obtain ⟨e1, _⟩ := hok b _ z
        obtain ⟨e2, _⟩ := hok' b _ (un.frzs b ob _ z)
        rw [e] at e1; cases e1
        exact e2
end
/-- the end of a law row, from the law's promise -/
theorem walk_g {l : PySem.W.OpenLaw} {n k : Nat} {q : Program} {loose : List Str} {XP : (Str → Option Value) → Heap → Prop} {YP : World → Heap → Prop} {d : DefRec} {K : Params → PySem.W.Frag} {sp : PySem.W.Frag → Sp} {x : Str}
    (hn : l.most = some n) (hn2 : n ≤ sizeLine) (hdf : d.params.defaults = []) (hr : Room k callerA) (hY : ∀ (w : World) (h : Heap), YP w h → (K w.params).In h)
    (F : ∀ (w : World) (mg : Str → Option Value) (fa : Addr) (h : Heap), (K w.params).In h → h.Ns mainGlobals mg → mg d.name = some (.ref fa) →
      ∃ fd : FuncData, (∀ (s : Shared) (u : Value), BindsTo s fd ⟨[u], []⟩ [(x, u)]) ∧ ∀ base : Heap, (K w.params).In base → base.Ns mainGlobals mg → FnG l.prog w (K w.params) mg base k fa fd [x] (sp (K w.params)))
    (hsp : ∀ (w : World) (H : Hp) (a : Addr) (ns : List Int), ns.length ≤ n → (∀ z ∈ ns, Builtin.Int.intBits z ≤ 1048576) → Only H → SqL (K w.params) H a (ns.map V.int) → sp (K w.params) [.ref a] H (fun v _ => v = .bl true) fun _ _ _ => False) :
    PySem.W.WalkO q loose XP YP l.row.toRowW d [] (fun f vs => PySem.call f vs) := by
  refine Att.attach_callB hn hdf fun w s₀ s₁ mg mb fa o pm cd doc a vs ns G Y ho hd hcd hmg hobj hints hlen hbits hg => ?_
  have KX := hY w _ Y
  obtain ⟨fd, hb, hF⟩ := F w mg fa _ KX G.T.g hmg
  exact call_g KX G.T.g G.T.b G.T.builtins G.T.nolimit hg hobj hints (Nat.le_trans hlen hn2) hr hF hb fun H hO hS => hsp w H a ns hlen hbits hO hS
end PD

/-! repr; the stream's start; the law -/
namespace PD
open PySem PySem.Spec PyProof.Rows L2
def isSeqD : D → Bool
  | .list _ => true
  | .tuple _ => true
  | _ => false
def reprOk (d : D) : Bool := isSeqD d && d.showable && !d.hasDict && d.canLay0 && decide (d.shown.length ≤ sizeLine) && decide (d.depth ≤ 60)
def reprD : List D → Option D
  | [d] => if reprOk d = true then some (.str d.shown) else none
  | _ => none
def rRepr (K : PySem.W.Frag) : List V → Hp → VK → Prop := fun xs H Q => ∃ a d, xs = [.ref a] ∧ Dp K H (.ref a) d ∧ reprOk d = true ∧ Q (.str d.shown) H
theorem call_reprA {X : Cx} (hg : X.A.guards = some []) (hu : X.A.units + 64 < cLine) : CallR X (.builtin "repr") (rRepr X.K) := by
  intro pins s σ H xs us Q I r h
  obtain ⟨a, d, rfl, hd, ok, q⟩ := h
  obtain ⟨u, rfl, rx⟩ := vals1 r
  cases rx
  unfold reprOk at ok
  simp only [Bool.and_eq_true, decide_eq_true_eq, Bool.not_eq_true'] at ok
  obtain ⟨⟨⟨⟨⟨_, o1⟩, o2⟩, o3⟩, o4⟩, o5⟩ := ok
  obtain ⟨as, rd⟩ := Dp.reads I d (.ref a) (.ref a) hd rfl
  exact PySem.repr_of_reads' rd o1 (fun z => by rw [o2] at z; cases z) hg (by omega) (fun _ _ e => e) (fun h' u tk hk => ⟨.str d.shown, H, I.kept (t' := tk) hk, ⟨_, rfl⟩, q⟩) o4
theorem prim_repr {K : PySem.W.Frag} : PrimCA K (rRepr K) reprD := by
  intro C H G P xs ds e Q gh hP h he q
  unfold reprD at he
  split at he
  · rename_i d
    split at he
    · rename_i ok
      cases he
      obtain ⟨x, rfl, hh⟩ := tops1 h
      have ok' := ok
      unfold reprOk at ok'
      simp only [Bool.and_eq_true, decide_eq_true_eq, Bool.not_eq_true'] at ok'
      obtain ⟨⟨⟨⟨⟨o0, o1⟩, o2⟩, o3⟩, o4⟩, o5⟩ := ok'
      have dp := hh.dp gh o3
      have : ∃ a, x = .ref a := by
        rcases hh with z | ⟨p, rfl, _⟩
        · cases z with
          | lst _ _ _ => exact ⟨_, rfl⟩
          | tup _ _ => exact ⟨_, rfl⟩
          | _ => simp [isSeqD] at o0
        · exact ⟨_, rfl⟩
      obtain ⟨a, rfl⟩ := this
      exact ⟨a, d, rfl, dp, ok, q.val gh (.str _)⟩
    · cases he
  · cases he
section
variable {X : Cx} {ec : EC} {E : XK} {Γ : List Tag} {e : Expr} {pos p : Pos} {fr pu : Bool} {f : Den D} {k : Nat}
theorem b_repr (hG : X.A.guards = some []) (hr : Room k X.A) (h : EJ X ec E Γ e f (.top fr) pu) (hm : X.mg "repr" = none) (hg : Gl X "repr" := by rfl) (he : starEach [e] X.env = (false, eval e X.env) :: starEach [] X.env := by rfl) : EJ X ec E Γ (.Call (.Name "repr" p) [e] [] pos) (dPrim reprD (dCons f dNil)) (.val fr) pu :=
  ej_callB (call_reprA hG (hu64 hr)) hg hm boot_repr prim_repr (one_top h he) (by decide) (by decide) he rfl
end
/-! ### the stream is made -/
def spStr (K : PySem.W.Frag) : Sp := fun vs H Q _ => ∃ a ns, vs = [.ref a] ∧ SqL K H a (ns.map V.int) ∧ ∀ H' q c, (∀ b o, H b = some o → H' b = some o) → H q = none → H c = none → StAt H' q c ⟨ns, 0, 0, 19⟩ → (∀ b o, H' b = some o → isTupO o = true → H b = some o) → Q (.ref q) H'
theorem str_made {H : Hp} {ns : List Int} {l p : Addr} (h1 : H l = none) (h2 : (upd H l (.lst (ns.map V.int))) p = none) :
    (∀ b o, H b = some o → (upd (upd H l (.lst (ns.map V.int))) p (.lst [.ref l, .int 0, .int 0, .int 19])) b = some o) ∧ H p = none ∧ StAt (upd (upd H l (.lst (ns.map V.int))) p (.lst [.ref l, .int 0, .int 0, .int 19])) p l ⟨ns, 0, 0, 19⟩ ∧
      ∀ b o, (upd (upd H l (.lst (ns.map V.int))) p (.lst [.ref l, .int 0, .int 0, .int 19])) b = some o → isTupO o = true → H b = some o := by
  have hpl : p ≠ l := fun e => by rw [e, upd_same] at h2; cases h2
  have hp : H p = none := by rw [upd_ne hpl] at h2; exact h2
  refine ⟨fun b o e => ?_, hp, ⟨hpl, upd_same, by rw [upd_ne hpl.symm, upd_same]⟩, fun b o e t => ?_⟩
  · rw [upd_ne (ne_of_none e hp), upd_ne (ne_of_none e h1)]; exact e
  · by_cases h : b = p
    · subst h; rw [upd_same] at e; cases e; cases t
    · rw [upd_ne h] at e
      by_cases h' : b = l
      · subst h'; rw [upd_same] at e; cases e; cases t
      · rw [upd_ne h'] at e; exact e
/-! ### the law's def -/
def spLaw (K : PySem.W.Frag) (n i : Nat) (body : SDen) : Sp := fun vs H Q _ => ∃ a ns S', vs = [.ref a] ∧ SqL K H a (ns.map V.int) ∧ Only H ∧ body ((List.replicate n none).set i (some .none)) ⟨ns, 0, 0, 19⟩ = .rt (.bool true) S' ∧ ∀ H', Q (.bl true) H'
theorem rel_law {K : PySem.W.Frag} {H H' : Hp} {q c a : Addr} {ns : List Int} {n i : Nat} {Γ : List Tag} (hO : Only H) (hx : ∀ b o, H b = some o → H' b = some o) (st : StAt H' q c ⟨ns, 0, 0, 19⟩) (ht : ∀ b o, H' b = some o → isTupO o = true → H b = some o) (hn : Γ.length = n) (hi : Γ[i]? = some .stm) :
    Rel K ⟨q, c, H', fun _ => none⟩ Γ ((List.replicate n none).set i (some .none)) ⟨ns, 0, 0, 19⟩ ((some (V.ref a) :: List.replicate (n - 1) none).set i (some (.ref q))) H' (fun _ => none) (fun _ _ => False) := by
  have hin : i < n := by rw [← hn]; exact (List.getElem?_eq_some_iff.mp hi).1
  refine ⟨st, ⟨by show H' q ≠ none; rw [st.2.1]; simp, by show H' c ≠ none; rw [st.2.2]; simp⟩, fun _ _ e _ _ => e, fun _ _ e => (nomatch e), ⟨rfl, rfl⟩, fun b o e t => ?_, fun _ _ e => e, fun _ h _ => absurd rfl h, fun _ _ h => h.elim, fun _ _ _ h => h.elim, fun _ _ _ _ _ h => h.elim, by simp [hn], by simp; omega, fun j t d h1 h2 h3 => ?_⟩
  · have z := ht b o e t
    rcases hO b with w | ⟨ob, xs, w⟩
    · rw [w] at z; cases z
    · rw [w] at z; cases z; cases t
  · by_cases hj : i = j
    · subst hj
      rw [hi] at h1; cases h1
      exact ⟨.ref q, List.getElem?_set_self (by simp; omega), rfl⟩
    · rw [List.getElem?_set_ne hj, List.getElem?_replicate] at h3
      split at h3 <;> cases h3
section
variable {P : Program} {w : World} {K : PySem.W.Frag} {mg : Str → Option Value} {base : Heap}
theorem law_g {st : Stmt} {f : Addr} {fd : FuncData} {N : List Str} {k i : Nat} {Γ : List Tag} {s0 : Stmt} {ss : List Stmt} {body : SDen} {T : Tg} {fr : Bool} (F : Fun K "law" "law" st f fd) (S : FnScope N ["script"] (defScope st)) (hb0 : defBody st = s0 :: ss) (hn : Γ.length = N.length) (hi : Γ[i]? = some .stm)
    (h0 : ∀ (cdv : Value) (A : Around) (outer : List Env) (s : Shared) (H : Hp) (E : XK), Room k (A.deeper (envOfC "law" (defScope st) s.heap.objs.size f cdv)) →
      PS (cxOf CX0 P w K mg base N "law" (defScope st) f cdv A outer s H E).nox s0 (tAsg (tCall (spStr K) [] E0 (tCons (tVar 0) tNil)) (gName i)))
    (hb : ∀ (cdv : Value) (A : Around) (outer : List Env) (s : Shared) (H : Hp) (E : XK), A.guards = some [] → Room k (A.deeper (envOfC "law" (defScope st) s.heap.objs.size f cdv)) →
      BJ (cxOf CX0 P w K mg base N "law" (defScope st) f cdv A outer s H E).nox ec0 E0 fr Γ ss body T) : FnG P w K mg base (k + 1) f fd ["script"] (spLaw K N.length i body) := by
  refine fn_g F S fun cdv A outer s H vs Q E hgd hr hsp => ?_
  obtain ⟨a, ns, S', rfl, hS, hO, hbd, hQ⟩ := hsp
  obtain ⟨t, pt, r⟩ := hb cdv A outer s H E hgd hr
  rw [hb0]
  refine ⟨_, pss_cons (h0 cdv A outer s H E hr) pt, ?_⟩
  have hs : L2.start N [V.ref a] = some (V.ref a) :: List.replicate (N.length - 1) none := rfl
  rw [hs]
  refine ⟨.ref a, rfl, a, ns, rfl, hS, fun H' q c hx _ _ sta htp => ?_⟩
  refine r ⟨q, c, H', fun _ => none⟩ _ ⟨ns, 0, 0, 19⟩ _ H' (fun _ => none) _ _ (rel_law (K := K) hO hx sta htp hn hi) ?_
  rw [hbd]
  intro v H2 _ _ at'
  cases at'
  exact hQ H2
end
end PD

/-! the def that spoils what was told, for flat lists -/
namespace PD
open PySem PySem.Spec PyProof.Rows L2
/-- what stands stays but P's; what is new are tuples -/
def SpG (P : Addr → Prop) (H H' : Hp) : Prop := (∀ a o, ¬ P a → H a = some o → H' a = some o) ∧ ∀ a, H a = none → H' a = none ∨ ∃ xs, H' a = some (.tup xs)
theorem SpG.refl {P : Addr → Prop} {H : Hp} : SpG P H H := ⟨fun _ _ _ e => e, fun _ e => .inl e⟩
theorem SpG.trans {P : Addr → Prop} {H H1 H2 : Hp} (hP : ∀ a, P a → H a ≠ none) (a : SpG P H H1) (b : SpG P H1 H2) : SpG P H H2 := ⟨fun x o h e => b.1 x o h (a.1 x o h e), fun x e => by
  rcases a.2 x e with z | ⟨xs, z⟩
  · exact b.2 x z
  · exact .inr ⟨xs, b.1 x _ (fun p => hP x p e) z⟩⟩
theorem SpG.weak {P P' : Addr → Prop} {H H1 : Hp} (h : ∀ a, P a → P' a) (a : SpG P H H1) : SpG P' H H1 := ⟨fun x o n e => a.1 x o (fun z => n (h x z)) e, a.2⟩
theorem SpG.tup {P : Addr → Prop} {H : Hp} {T : Addr} {xs : List V} (h : H T = none) : SpG P H (upd H T (.tup xs)) := ⟨fun a o _ e => by rw [upd_ne (ne_of_none e h)]; exact e, fun a e => by
  by_cases z : a = T
  · subst z; exact .inr ⟨xs, upd_same⟩
  · exact .inl (by rw [upd_ne z]; exact e)⟩
theorem SpG.put {P : Addr → Prop} {H : Hp} {t : Addr} {o : HO} (h : P t) (hn : H t ≠ none) : SpG P H (upd H t o) := ⟨fun a u n e => by
    have ne : a ≠ t := fun z => n (by rw [z]; exact h)
    rw [upd_ne ne]; exact e, fun a e => .inl (by
  have ne : a ≠ t := fun z => hn (by rw [← z]; exact e)
  rw [upd_ne ne]; exact e)⟩
def late : V := .str "late"
def spS (n : Nat) : Sp := match n with
  | 0 => fun vs H Q _ => ∃ v, vs = [v] ∧ flatV v = true ∧ ∀ H', SpG (fun _ => False) H H' → Q .non H'
  | 1 => fun vs H Q _ => ∃ t xs, vs = [.ref t] ∧ H t = some (.lst xs) ∧ xs.all flatV = true ∧ xs.length < sizeLine ∧ ∀ H', SpG (fun a => a = t) H H' → H' t = some (.lst (xs ++ [late])) → Q .non H'
  | _ => fun vs H Q _ => ∃ l t xs, vs = [.ref l] ∧ l ≠ t ∧ H l = some (.lst [.ref t]) ∧ H t = some (.lst xs) ∧ xs.all flatV = true ∧ xs.length < sizeLine ∧ ∀ H', SpG (fun a => a = l ∨ a = t) H H' → H' t = some (.lst (xs ++ [late])) → Q .non H'
theorem spS_len : ∀ (n : Nat) vs H Q E, spS n vs H Q E → vs.length = 1
  | 0, _, _, _, _, ⟨_, h, _⟩ => by rw [h]; rfl
  | 1, _, _, _, _, ⟨_, _, h, _⟩ => by rw [h]; rfl
  | n + 2, _, _, _, _, ⟨_, _, _, h, _⟩ => by rw [h]; rfl
section
variable {K : PySem.W.Frag} {H : Hp} {σ : L2.St} {v : V} {Q : Bool → Hp → Prop}
theorem rd_isi {c ty : String} {b : Bool} (h0 : σ[0]? = some (some v)) (hT : TyX K H v (.type ty)) (hk : kitB ty c = some b) (q : Q b H) : tB (tCB (rIsi K) (tCons (tVar 0) (tCons (tC (.ty c)) tNil))) σ H Q :=
  ⟨v, h0, v, .ty c, .type ty, .type c, b, rfl, .ty c, hT, kit_ty hk, b, rfl, q⟩
theorem rd_isiT {ty : String} {b : Bool} (h0 : σ[0]? = some (some v)) (hT : ∀ T, H T = none → TyX K (upd H T (.tup [.ty "list", .ty "tuple"])) v (.type ty)) (hk : ((kitB ty "list").bind fun x => (kitB ty "tuple").map fun y => x || y) = some b)
    (q : ∀ T, H T = none → Q b (upd H T (.tup [.ty "list", .ty "tuple"]))) : tB (tCB (rIsiT K) (tCons (tVar 0) (tCons (tTup (tCons (tC (.ty "list")) (tCons (tC (.ty "tuple")) tNil))) tNil))) σ H Q := by
  refine ⟨v, h0, by simp only [List.length_cons, List.length_nil]; rw [sizeLine_eq]; decide, fun T hT' => ⟨v, T, [.ty "list", .ty "tuple"], .type ty, [.type "list", .type "tuple"], b, rfl, upd_same, .cons (.ty _) (.cons (.ty _) .nil), hT T hT', ?_, b, rfl, q T hT'⟩⟩
  cases e1 : kitB ty "list" with
  | none => rw [e1] at hk; cases hk
  | some x =>
    cases e2 : kitB ty "tuple" with
    | none => rw [e1, e2] at hk; cases hk
    | some y =>
      rw [e1, e2] at hk
      have hk : (x || y) = b := by simpa using hk
      refine kitAny_cons (kit_ty e1) (fun z => ?_) (fun z => by rw [← hk, z]; rfl)
      refine kitAny_cons (kit_ty e2) (fun z2 => ?_) (fun z2 => by rw [← hk, z, z2]; rfl)
      rw [← hk, z, z2]; exact kitAny_nil
def tyF : V → String
  | .non => "NoneType"
  | .bl _ => "bool"
  | .int _ => "int"
  | _ => "str"
theorem tyF_x (h : flatV v = true) : TyX K H v (.type (tyF v)) := by
  cases v with
  | non => exact .base .non
  | bl b => exact .base (.bl b)
  | int i => exact .base (.int i)
  | str x => exact .base (.str x)
  | _ => simp [flatV] at h
theorem tyF_k (h : flatV v = true) : kitB (tyF v) "dict" = some false ∧ kitB (tyF v) "list" = some false ∧ ((kitB (tyF v) "list").bind fun x => (kitB (tyF v) "tuple").map fun y => x || y) = some false := by
  have : ∀ s ∈ ["NoneType", "bool", "int", "str"], kitB s "dict" = some false ∧ kitB s "list" = some false ∧ ((kitB s "list").bind fun x => (kitB s "tuple").map fun y => x || y) = some false := by decide +kernel
  exact this _ (by cases v <;> first | simp [tyF] | simp [flatV] at h)
theorem kit_list : kitB "list" "dict" = some false ∧ kitB "list" "list" = some true ∧ ((kitB "list" "list").bind fun x => (kitB "list" "tuple").map fun y => x || y) = some true := by decide +kernel
/-- the body's reading; t4 the loop's body, j the part's slot -/
abbrev tSpoil (K : PySem.W.Frag) (A0 : TS) (L : TS) (app : TE) : TS :=
  tSeq (tIfS (tB (tCB (rIsi K) (tCons (tVar 0) (tCons (tC (.ty "dict")) tNil)))) A0 tNext)
    (tSeq (tIfS (tB (tCB (rIsiT K) (tCons (tVar 0) (tCons (tTup (tCons (tC (.ty "list")) (tCons (tC (.ty "tuple")) tNil))) tNil)))) L tNext)
      (tIfS (tB (tCB (rIsi K) (tCons (tVar 0) (tCons (tC (.ty "list")) tNil)))) (tDrop app) tNext))

variable {A0 A1 : TS} {D : Ends}
theorem ifF {a b : Prop} (h : b) : if false = true then a else b := by rw [if_neg Bool.false_ne_true]; exact h
theorem ifT {a b : Prop} (h : a) : if true = true then a else b := by rw [if_pos rfl]; exact h
theorem sp_read0 {app : TE} (h0 : σ[0]? = some (some v)) (hf : flatV v = true) (q : ∀ H', SpG (fun _ => False) H H' → D.nx σ H') : tSpoil K A0 A1 app D σ H := by
  refine rd_isi h0 (tyF_x hf) (tyF_k hf).1 (ifF ?_)
  refine rd_isiT h0 (fun T hT => tyF_x hf) (tyF_k hf).2.2 fun T hT => ifF ?_
  exact rd_isi h0 (tyF_x hf) (tyF_k hf).2.1 (ifF (q _ (SpG.tup hT)))
abbrev tApp (K : PySem.W.Frag) : TE := tBM K "list" rAppend (tVar 0) (tCons (tC late) tNil)
abbrev tLoop (K : PySem.W.Frag) (j n : Nat) : TS := tFor (iList K (tVar 0)) (gName j) (tDrop (tCall (spS n) [] E0 (tCons (tVar j) tNil)))
theorem sp_read1 {t : Addr} {xs : List V} {j : Nat} (h0 : σ[0]? = some (some (.ref t))) (hj : 0 < j ∧ j < σ.length) (ht : H t = some (.lst xs)) (hf : xs.all flatV = true) (hz : xs.length < sizeLine) (q : ∀ σ' H', SpG (fun a => a = t) H H' → H' t = some (.lst (xs ++ [late])) → D.nx σ' H') : tSpoil K A0 (tLoop K j 0) (tApp K) D σ H := by
  have tl : ∀ {H'}, H' t = some (.lst xs) → TyX K H' (.ref t) (.type "list") := fun e => .base (.lst e)
  have no : ∀ a, (fun _ : Addr => False) a → H a ≠ none := fun _ h => h.elim
  refine rd_isi h0 (tl ht) kit_list.1 (ifF ?_)
  refine rd_isiT h0 (fun T hT => tl (by rw [upd_ne (ne_of_none ht hT)]; exact ht)) kit_list.2.2 fun T hT => ifT ?_
  have g1 : SpG (fun _ => False) H (upd H T (.tup [.ty "list", .ty "tuple"])) := SpG.tup hT
  refine ⟨_, h0, t, rfl, ⟨xs, .inl (.inl (g1.1 _ _ id ht))⟩, ?_⟩
  refine for_it (walk_list (xs := xs)) (fun i σ2 H2 => σ2[0]? = some (some (.ref t)) ∧ σ2.length = σ.length ∧ SpG (fun _ => False) H H2) ⟨h0, rfl, g1⟩ (fun i σ2 H2 _ p => .inl (.inl (p.2.2.1 _ _ id ht))) ?_ ?_
  · rintro i x σ2 H2 H3 hi ⟨p0, pl, p⟩ ⟨rfl, hx⟩
    have hj2 : j < σ2.length := by rw [pl]; exact hj.2
    refine ⟨x, List.getElem?_set_self hj2, x, rfl, ?_, fun H4 g4 => ⟨by rw [List.getElem?_set_ne (by omega)]; exact p0, by rw [List.length_set]; exact pl, p.trans no g4⟩⟩
    rw [List.all_eq_true] at hf
    exact hf x (List.mem_of_getElem? hx)
  · rintro σ2 H2 ⟨p0, pl, p⟩
    have ht2 := p.1 _ _ id ht
    refine rd_isi p0 (tl ht2) kit_list.2.1 (ifT ?_)
    refine ⟨_, p0, .inl ⟨rfl, xs, .inl (.inl ht2)⟩, t, xs, late, rfl, rfl, ht2, hz, ?_⟩
    refine q σ2 _ ?_ upd_same
    exact SpG.trans (fun a e => by rw [e, ht]; simp) (p.weak fun _ h => h.elim) (SpG.put rfl (by rw [ht2]; simp))
theorem sp_read2 {l t : Addr} {xs : List V} {j : Nat} (h0 : σ[0]? = some (some (.ref l))) (hj : 0 < j ∧ j < σ.length) (hlt : l ≠ t) (hl : H l = some (.lst [.ref t])) (ht : H t = some (.lst xs)) (hf : xs.all flatV = true) (hz : xs.length < sizeLine)
    (q : ∀ σ' H', SpG (fun a => a = l ∨ a = t) H H' → H' t = some (.lst (xs ++ [late])) → D.nx σ' H') : tSpoil K A0 (tLoop K j 1) (tApp K) D σ H := by
  have tl : ∀ {H'}, H' l = some (.lst [.ref t]) → TyX K H' (.ref l) (.type "list") := fun e => .base (.lst e)
  have in2 : ∀ a, (a = l ∨ a = t) → H a ≠ none := fun a h => by
    rcases h with h | h
    · rw [h, hl]; simp
    · rw [h, ht]; simp
  refine rd_isi h0 (tl hl) kit_list.1 (ifF ?_)
  refine rd_isiT h0 (fun T hT => tl (by rw [upd_ne (ne_of_none hl hT)]; exact hl)) kit_list.2.2 fun T hT => ifT ?_
  have g1 : SpG (fun _ => False) H (upd H T (.tup [.ty "list", .ty "tuple"])) := SpG.tup hT
  refine ⟨_, h0, l, rfl, ⟨[.ref t], .inl (.inl (g1.1 _ _ id hl))⟩, ?_⟩
  refine for_it (walk_list (xs := [.ref t])) (fun i σ2 H2 => σ2[0]? = some (some (.ref l)) ∧ σ2.length = σ.length ∧ H2 l = some (.lst [.ref t]) ∧ SpG (fun a => a = l ∨ a = t) H H2 ∧ (i = 0 → H2 t = some (.lst xs)) ∧ (i = 1 → H2 t = some (.lst (xs ++ [late]))))
    ⟨h0, rfl, g1.1 _ _ id hl, g1.weak fun _ h => h.elim, fun _ => g1.1 _ _ id ht, fun h => by cases h⟩ (fun i σ2 H2 _ p => .inl (.inl p.2.2.1)) ?_ ?_
  · rintro i x σ2 H2 H3 hi ⟨p0, pl, pl2, p, pt, _⟩ ⟨rfl, hx⟩
    have hi0 : i = 0 := by simp at hi; exact hi
    subst hi0
    simp at hx; subst hx
    have hj2 : j < σ2.length := by rw [pl]; exact hj.2
    refine ⟨_, List.getElem?_set_self hj2, t, xs, rfl, pt rfl, hf, hz, fun H4 g4 ht4 => ⟨by rw [List.getElem?_set_ne (by omega)]; exact p0, by rw [List.length_set]; exact pl, g4.1 _ _ hlt pl2, p.trans in2 (g4.weak fun a h => .inr h), fun h => (by cases h), fun _ => ht4⟩⟩
  · rintro σ2 H2 ⟨p0, pl, pl2, p, _, pt⟩
    have ht2 : H2 t = some (.lst (xs ++ [late])) := pt rfl
    refine rd_isi p0 (tl pl2) kit_list.2.1 (ifT ?_)
    refine ⟨_, p0, .inl ⟨rfl, _, .inl (.inl pl2)⟩, l, _, late, rfl, rfl, pl2, by simp only [List.length_cons, List.length_nil]; rw [sizeLine_eq]; decide, ?_⟩
    refine q σ2 _ (p.trans in2 (SpG.put (.inl rfl) (by rw [pl2]; simp))) ?_
    rw [upd_ne hlt.symm]; exact ht2
end
/-- at rest: what was, and new tuples -/
def tupX (G H H' : Hp) : Hp := fun a => match H a with
  | none => (match H' a with
    | some o => if isTupO o = true then some o else none
    | none => none)
  | some _ => G a
theorem tupX_s {G H H' : Hp} {a : Addr} {u : HO} (e : H a = some u) : tupX G H H' a = G a := by unfold tupX; rw [e]
theorem tupX_n {G H H' : Hp} {a : Addr} {o : HO} (e : H a = none) (h : tupX G H H' a = some o) : H' a = some o ∧ isTupO o = true := by
  unfold tupX at h
  rw [e] at h
  cases z : H' a with
  | none => rw [z] at h; cases h
  | some u =>
    rw [z] at h
    have h : (if isTupO u = true then some u else none) = some o := h
    split at h
    · cases h; exact ⟨rfl, by assumption⟩
    · cases h
/-! the statement _law_spoilt([x]), x a flat list of one's own -/
structure SpOk (P : Program) (w : World) (K : PySem.W.Frag) (mg : Str → Option Value) (base : Heap) (k : Nat) (x : Str) : Prop where
  ex : ∃ f fd, FnOk P w K mg base CX0 k f fd ["thing"] (spS 2) ∧ mg x = some (.ref f) ∧ PySem.W.keepIn K (.ref f) = true ∧ Binds K fd ["thing"] []
def sSpoil (i : Nat) : SDen := fun ρ S => (optR (ownL i ρ) ρ S).sr fun ds ρ S => if ds.all flatD = true ∧ ds.length < sizeLine then .nx (ρ.set i (some (.list (ds ++ [.str "late"])))) S else .stk
section
variable {X : Cx} {Γ : List Tag} {T : Tg} {fr fr2 : Bool} {pos : Pos} {k j : Nat}
theorem sj_spoil {i : Nat} {y x : Str} {fp lp yp cp : Pos} (c : SpOk X.prog X.w X.K X.mg X.base j x) (hr : Room k X.A) (hN : X.N[i]? = some y) (hv : Vis X.env.scope y) (hd : (y == ("__debug__" : Str)) = false) (hcd : (y == ("__classdict__" : Str)) = false) (ht : Γ[i]? = some (.own fr)) (hT : Γ = T.n := by rfl) (hj : j ≤ k := by first | decide | omega) (hg : Gl X x := by rfl)
    (hdb : (x == ("__debug__" : Str)) = false := by decide) (he : starEach [.List [.Name y yp] lp] X.env = (false, eval (.List [.Name y yp] lp) X.env) :: starEach [] X.env := by rfl) (he2 : starEach [.Name y yp] X.env = (false, eval (.Name y yp) X.env) :: starEach [] X.env := by rfl) (hpl : (backTo cp (starEach [] X.env)).any (·.1) = false := by rfl)
    (hs : swapsWith (.Call (.Name x fp) [.List [.Name y yp] lp] [] cp) none pos.line X.env = pure false := by rfl) : SJ X ec0 E0 fr2 Γ (.Expr (.Call (.Name x fp) [.List [.Name y yp] lp] [] cp) pos) (sSpoil i) T := by
  subst hT
  obtain ⟨f, fd, Fn, hm, hk, hb⟩ := c.ex
  refine ⟨_, ps_expr (pe_call (Fn.mono hj) hr hg hm hk hb .nil (pass0 (X := X)) (pa_cons (pe_lst (pa_cons (pe_var hN hv hd hcd) pa_nil he2)) pa_nil he) hdb he hpl) hs, fun C ρ S σ H G N Dn R p => ?_⟩
  obtain ⟨ds, h0, p⟩ := optR_post p.of
  obtain ⟨⟨hf, hz⟩, p⟩ := ifS_post p
  have p : PostS X.K ec0 E0 fr2 C T G (.nx _ S) Dn := p
  obtain ⟨t, xs, ev, np, hp, l⟩ := own_list R ht h0
  refine ⟨_, ev, by simp only [List.length_cons, List.length_nil]; rw [sizeLine_eq]; decide, fun q hq => ?_⟩
  have hqt : q ≠ t := fun e => by rw [e, hp] at hq; cases hq
  refine ⟨q, t, xs, rfl, hqt, upd_same, by rw [upd_ne hqt.symm]; exact hp, by rw [l.flat]; exact hf, by rw [l.length]; exact hz, fun H' g ht' => ?_⟩
  -- ahead of the call: the new list; behind it: t longer, new tuples
  have tq := R.nq np
  have qq := R.qn hq
  have hx : ∀ a o, H a = some o → a ≠ t → H' a = some o := fun a o e ne => g.1 a o (fun z => z.elim (fun z => by rw [z, hq] at e; cases e) ne) (by rw [upd_ne (ne_of_none e hq)]; exact e)
  obtain ⟨hgt, h0t, ot, eot, tot⟩ := R.nn i t np
  have ext : ∃ G', (∀ a o, G a = some o → G' a = some o) ∧ Rel X.K C T.n (ρ.set i (some (.list (ds ++ [.str "late"])))) S σ H' G' N := by
    refine ⟨tupX G H H', fun a o e => (tupX_s (R.gh a o e)).trans e, ?_⟩
    have gs : ∀ {a o}, H a = some o → tupX G H H' a = G a := fun {a o} e => tupX_s e
    have gn : ∀ {a}, H a = none → ∀ o, tupX G H H' a = some o → H' a = some o ∧ isTupO o = true := fun {a} e o h => tupX_n e h
    have hi : i < T.n.length := (List.getElem?_eq_some_iff.mp ht).1
    refine ⟨⟨R.st.1, hx _ _ R.st.2.1 tq.1.symm, hx _ _ R.st.2.2 tq.2.symm⟩, R.st0, fun a o e h1 h2 => hx a o (R.keep a o e h1 h2) (fun z => by rw [z, h0t] at e; cases e), fun a o e => ?_, ⟨(gs R.st.2.1).trans R.gs.1, (gs R.st.2.2).trans R.gs.2⟩, fun a o e tt => ?_, fun a o e => ?_, fun a h1 h2 => ?_, fun m a h => ?_, R.dj, R.one, by simp [R.lr], R.ls, fun m tg d h1 h2 h3 => ?_⟩
    · cases z : H a with
      | none => exact (gn z o e).1
      | some u =>
        have e := (gs z).symm.trans e
        exact hx a o (R.gh a o e) (fun y => by rw [y, hgt] at e; cases e)
    · cases z : H a with
      | none => unfold tupX; simp only [z, e, tt, if_true]
      | some u =>
        rw [tupX_s z]
        by_cases y : a = t
        · subst y; rw [ht'] at e; cases e; cases tt
        · have w := hx a u z y
          rw [e] at w; cases w
          exact R.gt a o z tt
    · have z := R.gh a o (R.g0 a o e)
      exact (gs z).trans (R.g0 a o e)
    · cases z : H a with
      | none => exact absurd (R.h0 z) h2
      | some u =>
        have h1 : G a ≠ none := by rw [← gs z]; exact h1
        exact R.gn a h1 h2
    · obtain ⟨z1, z2, u, z3, z4⟩ := R.nn m a h
      refine ⟨(gs z3).trans z1, z2, ?_⟩
      by_cases y : a = t
      · subst y; exact ⟨_, ht', rfl⟩
      · exact ⟨u, hx a u z3 y, z4⟩
    · have ex : ExR G (tupX G H H') := ExR.of fun a o e => by
          have z := R.gh a o e
          exact (gs z).trans e
      by_cases hm' : i = m
      · subst hm'
        rw [ht] at h1; cases h1
        rw [List.getElem?_set_self (by rw [R.lr]; exact hi)] at h3; cases h3
        exact ⟨.ref t, ev, t, rfl, np, xs ++ [late], ht', AtL.append (l.ext ex) (.cons (.str _) .nil)⟩
      · rw [List.getElem?_set_ne hm'] at h3
        obtain ⟨v, e, s⟩ := R.sl m tg d h1 h2 h3
        refine ⟨v, e, SlotOk.frz ex ?_⟩
        have s2 := s.upd (o' := .lst (xs ++ [late])) eot tot fun z => hm' (R.dj i m t np z)
        refine SlotOk.heap (H := L2.upd H t (.lst (xs ++ [late]))) (H' := H') (C := C) (S := S) (fun a z => R.nq z) ⟨R.st.1, by rw [upd_ne tq.1.symm]; exact R.st.2.1, by rw [upd_ne tq.2.symm]; exact R.st.2.2⟩ (fun a o e _ _ => ?_) s2
        by_cases y : a = t
        · subst y; rw [upd_same] at e; cases e; exact ht'
        · rw [upd_ne y] at e; exact hx a o e y
  obtain ⟨G', e', R'⟩ := ext
  exact p σ H' G' N R' (ExR.of e')
end
end PD

namespace PD
open PySem L2 PyProof.Rows
/-- a flat value is nobody's -/
def dFl (f : Den D) : Den D := fun ρ S => (f ρ S).bind fun d ρ1 S1 => if flatD d = true then .ok d ρ1 S1 else .stk
def IsFlat (f : Den D) : Prop := ∀ ρ S d ρ' S', f ρ S = .ok d ρ' S' → flatD d = true
theorem optR_ok {α : Type} {o : Option α} {ρ ρ' : Rho} {S S' : SS} {d : α} (h : optR o ρ S = .ok d ρ' S') : o = some d := by
  cases o with
  | none => cases h
  | some x => cases h; rfl
theorem flat_prim {g : List D → Option D} {f : Den (List D)} (h : ∀ ds d, g ds = some d → flatD d = true) : IsFlat (dPrim g f) := fun ρ S d ρ' S' e => by
  unfold dPrim at e
  cases q : f ρ S with
  | ok ds ρ1 S1 => rw [q] at e; exact h ds d (optR_ok e)
  | exc c p S1 => rw [q] at e; cases e
  | stk => rw [q] at e; cases e
theorem flat_dB {f : Den Bool} : IsFlat (dB f) := fun ρ S d ρ' S' e => by
  unfold dB at e
  cases q : f ρ S with
  | ok b ρ1 S1 => rw [q] at e; cases e; rfl
  | exc c p S1 => rw [q] at e; cases e
  | stk => rw [q] at e; cases e
theorem flat_bin {g : D → D → Option D} {fa fb : Den D} (h : ∀ x y d, g x y = some d → flatD d = true) : IsFlat (dBin g fa fb) := fun ρ S d ρ' S' e => by
  unfold dBin at e
  cases q : fa ρ S with
  | ok x ρ1 S1 =>
    rw [q] at e
    simp only [Res.bind_ok] at e
    cases q2 : fb ρ1 S1 with
    | ok y ρ2 S2 => rw [q2] at e; exact h x y d (optR_ok e)
    | exc c p S1 => rw [q2] at e; cases e
    | stk => rw [q2] at e; cases e
  | exc c p S1 => rw [q] at e; cases e
  | stk => rw [q] at e; cases e
theorem fl_len : ∀ ds d, lenD ds = some d → flatD d = true := fun ds d h => by
  unfold lenD at h
  split at h <;> (try split at h) <;> first | (cases h; rfl) | (cases h)
theorem fl_abs : ∀ ds d, absD ds = some d → flatD d = true := fun ds d h => by
  unfold absD at h
  split at h <;> (try split at h) <;> first | (cases h; rfl) | (cases h)
theorem fl_int : ∀ ds d, intD ds = some d → flatD d = true := fun ds d h => by
  unfold intD at h
  split at h <;> (try split at h) <;> first | (cases h; rfl) | (cases h)
theorem fl_all : ∀ ds d, allD ds = some d → flatD d = true := fun ds d h => by
  unfold allD at h
  split at h
  · simp only [Option.map_eq_some_iff] at h
    obtain ⟨_, _, rfl⟩ := h
    rfl
  · cases h
theorem fl_any : ∀ ds d, anyD ds = some d → flatD d = true := fun ds d h => by
  unfold anyD at h
  split at h
  · simp only [Option.map_eq_some_iff] at h
    obtain ⟨_, _, rfl⟩ := h
    rfl
  · cases h
theorem fl_sub : ∀ x y d, subD x y = some d → flatD d = true := fun x y d h => by
  unfold subD at h
  split at h <;> (try split at h) <;> first | (cases h; rfl) | (cases h)
theorem fl_div : ∀ x y d, divD x y = some d → flatD d = true := fun x y d h => by
  unfold divD at h
  split at h <;> (try split at h) <;> first | (cases h; rfl) | (cases h)
theorem fl_mod : ∀ x y d, modD x y = some d → flatD d = true := fun x y d h => by
  unfold modD at h
  split at h <;> (try split at h) <;> first | (cases h; rfl) | (cases h)
theorem fl_pow : ∀ x y d, powD x y = some d → flatD d = true := fun x y d h => by
  unfold powD at h
  split at h <;> (try split at h) <;> first | (cases h; rfl) | (cases h)
section
variable {X : Cx} {ec : EC} {E : XK} {Γ : List Tag} {e : Expr} {fr fr' pu : Bool} {f : Den D}
theorem fl_at {K : PySem.W.Frag} {G : Hp} {P P' : Addr → Prop} {v : V} {d : D} (o : At K G P v d) (hf : flatD d = true) : At K G P' v d := by
  cases o with
  | non => exact .non
  | bl b => exact .bl b
  | int i => exact .int i
  | str x => exact .str x
  | _ => simp [flatD] at hf
theorem Post.and {α : Type} {K : PySem.W.Frag} {C : Ct} {r : Res α} {k : α → Rho → SS → Prop} {φ : α → Prop} (h : Post K ec E C r k) (hf : ∀ d ρ S, r = .ok d ρ S → φ d) : Post K ec E C r fun d ρ S => φ d ∧ k d ρ S := by
  cases r with
  | ok a ρ S => exact ⟨hf a ρ S rfl, h⟩
  | exc c p S => exact h
  | stk => exact h
theorem ej_flg (h : EJ X ec E Γ e f (.val fr) pu) (hf : IsFlat f) : EJ X ec E Γ e f (.val fr') pu := by
  obtain ⟨te, pe, r⟩ := h
  exact ⟨te, pe, fun C ρ S σ H G N Q R p => r C ρ S σ H G N Q R ((p.and fun d ρ' S' z => hf ρ S d ρ' S' z).mono fun d ρ' S' q v H' G' N' R' x' o => q.2 v H' G' N' R' x' (fl_at o q.1))⟩
theorem ej_fl (h : EJ X ec E Γ e f (.val fr) pu) : EJ X ec E Γ e (dFl f) (.val fr') pu := by
  obtain ⟨te, pe, r⟩ := h
  refine ⟨te, pe, fun C ρ S σ H G N Q R p => r C ρ S σ H G N Q R (p.bind.mono fun d ρ' S' q v H' G' N' R' x' o => ?_)⟩
  obtain ⟨hf, q⟩ := ifR_post q
  exact q v H' G' N' R' x' (fl_at o hf)
end
end PD

namespace PD
open PySem L2 PyProof.Rows
/-- a def of the text as the top has left it -/
def DefIn (K : PySem.W.Frag) (x : Str) (st : Stmt) : Prop := ∃ (f : Addr) (oc : Value) (od an : Option Addr) (osl : Array (Option Value)) (kV doc pm cdv ct : Value), PySem.W.nsIn K mainGlobals x = some (some (.ref f)) ∧
  K.lookup f = some ⟨oc, od, .func (PySem.W.fnOf x x (defArgs st) (defBody st) (defScope st) .none kV doc pm an cdv ct), osl⟩ ∧ PySem.W.codeIn K cdv x = true ∧ PySem.W.keepIn K (.ref f) = true
theorem mk_def {K : PySem.W.Frag} {x : Str} {st : Stmt} {f : Addr} {oc : Value} {od an : Option Addr} {osl : Array (Option Value)} {kV doc pm cdv ct : Value} (a : PySem.W.nsIn K mainGlobals x = some (some (.ref f)))
  (l : K.lookup f = some ⟨oc, od, .func (PySem.W.fnOf x x (defArgs st) (defBody st) (defScope st) .none kV doc pm an cdv ct), osl⟩) (c : PySem.W.codeIn K cdv x = true) (k : PySem.W.keepIn K (.ref f) = true) : DefIn K x st := ⟨f, oc, od, an, osl, kV, doc, pm, cdv, ct, a, l, c, k⟩
/-- .. as a def -/
structure DefOf (K : PySem.W.Frag) (mg : Str → Option Value) (x : Str) (st : Stmt) (f : Addr) (fd : FuncData) : Prop where
  F : Fun K x x st f fd
  m : mg x = some (.ref f)
  shape : ∃ kV doc pm an cdv ct, fd = PySem.W.fnOf x x (defArgs st) (defBody st) (defScope st) .none kV doc pm an cdv ct
theorem def_of {K : PySem.W.Frag} {h : Heap} {mg : Str → Option Value} {x : Str} {st : Stmt} (X : K.In h) (G : h.Ns mainGlobals mg) (d : DefIn K x st) : ∃ f fd, DefOf K mg x st f fd := by
  obtain ⟨f, oc, od, an, osl, kV, doc, pm, cdv, ct, a, l, c, k⟩ := d
  exact ⟨f, _, fun_mk (st := st) l c k, PySem.W.mg_of X G a, _, _, _, _, _, _, rfl⟩
theorem DefOf.binds {K : PySem.W.Frag} {mg : Str → Option Value} {x : Str} {st : Stmt} {f : Addr} {fd : FuncData} {ps : List Str} (d : DefOf K mg x st f fd)
    (h : ∀ (kV doc pm : Value) (an : Option Addr) (cdv ct : Value) (us : List Value), us.length = ps.length → bindArgs (PySem.W.fnOf x x (defArgs st) (defBody st) (defScope st) .none kV doc pm an cdv ct) ⟨us, []⟩ = pure (ps.zip us)) : Binds K fd ps [] := d.F.binds h
theorem DefOf.kb {K : PySem.W.Frag} {mg : Str → Option Value} {x : Str} {st : Stmt} {f : Addr} {fd : FuncData} {ps ks : List Str} {perm : List Nat} (d : DefOf K mg x st f fd)
    (h : ∀ (kV doc pm : Value) (an : Option Addr) (cdv ct : Value) (ws : List Value), ws.length = ps.length → bindArgs (PySem.W.fnOf x x (defArgs st) (defBody st) (defScope st) .none kV doc pm an cdv ct) ⟨[], ks.zip ws⟩ = pure (ps.zip (perm.map fun i => ws.getD i .none))) : KB fd ps ks perm := by
  obtain ⟨kV, doc, pm, an, cdv, ct, rfl⟩ := d.shape
  exact h kV doc pm an cdv ct
end PD

/-! loops and comprehensions of denotations, in plain words -/
namespace PD
open PySem L2
/-- a for that runs through: I by the turn -/
theorem forL_inv {t : Tgt} {body : SDen} {ds : List D} {ρ : Rho} {S : SS} (I : Nat → Rho → SS → Prop)
    (hs : ∀ i d ρ S, ds[i]? = some d → I i ρ S → ∃ ρ1, bindT t d ρ = some ρ1 ∧ ∃ ρ2 S2, (body ρ1 S = .nx ρ2 S2 ∨ body ρ1 S = .ct ρ2 S2) ∧ I (i + 1) ρ2 S2) (h0 : I 0 ρ S) : ∃ ρ' S', forL t body ds ρ S = .nx ρ' S' ∧ I ds.length ρ' S' := by
  induction ds generalizing I ρ S with
  | nil => exact ⟨ρ, S, rfl, h0⟩
  | cons d ds ih =>
    obtain ⟨ρ1, hb, ρ2, S2, hbd, h1⟩ := hs 0 d ρ S rfl h0
    obtain ⟨ρ', S', e, hI⟩ := ih (fun i => I (i + 1)) (fun i d' ρ S hd h => hs (i + 1) d' ρ S (by simpa using hd) h) h1
    refine ⟨ρ', S', ?_, hI⟩
    unfold forL
    rw [hb]
    rcases hbd with hbd | hbd
    · simp only [hbd]; exact e
    · simp only [hbd]; exact e
/-- .. or returns -/
theorem forL_ret {t : Tgt} {body : SDen} {ds : List D} {ρ : Rho} {S : SS} (I : Nat → Rho → SS → Prop) (R : D → SS → Prop)
    (hs : ∀ i d ρ S, ds[i]? = some d → I i ρ S → ∃ ρ1, bindT t d ρ = some ρ1 ∧ ((∃ ρ2 S2, (body ρ1 S = .nx ρ2 S2 ∨ body ρ1 S = .ct ρ2 S2) ∧ I (i + 1) ρ2 S2) ∨ ∃ r S2, body ρ1 S = .rt r S2 ∧ R r S2)) (h0 : I 0 ρ S) :
    (∃ ρ' S', forL t body ds ρ S = .nx ρ' S' ∧ I ds.length ρ' S') ∨ ∃ r S', forL t body ds ρ S = .rt r S' ∧ R r S' := by
  induction ds generalizing I ρ S with
  | nil => exact .inl ⟨ρ, S, rfl, h0⟩
  | cons d ds ih =>
    obtain ⟨ρ1, hb, h⟩ := hs 0 d ρ S rfl h0
    rcases h with ⟨ρ2, S2, hbd, h1⟩ | ⟨r, S2, hbd, h1⟩
    · have z := ih (fun i => I (i + 1)) (fun i d' ρ S hd h => hs (i + 1) d' ρ S (by simpa using hd) h) h1
      have e : forL t body (d :: ds) ρ S = forL t body ds ρ2 S2 := by
        rw [forL, hb]
        rcases hbd with hbd | hbd <;> simp only [hbd]
      rw [e]; exact z
    · refine .inr ⟨r, S2, ?_, h1⟩
      rw [forL, hb]; simp only [hbd]
/-- a comprehension without draws -/
theorem lcL_pure {t : Tgt} {c : Den Bool} {f : Den D} {ρ : Rho} {S : SS} (p : D → Bool) (g : D → D) : ∀ {ds : List D}, (∀ d ∈ ds, ∃ ρ1, bindT t d ρ = some ρ1 ∧ (∃ ρ2, c ρ1 S = .ok (p d) ρ2 S) ∧ (p d = true → ∃ ρ2, f ρ1 S = .ok (g d) ρ2 S)) →
    lcL t c f ρ ds S = .ok ((ds.filter p).map g) ρ S
  | [], _ => rfl
  | d :: ds, h => by
    obtain ⟨ρ1, hb, ⟨ρ2, hc⟩, hf⟩ := h d (by simp)
    have ih := lcL_pure (ρ := ρ) (S := S) (c := c) (f := f) (t := t) p g (ds := ds) fun x hx => h x (by simp [hx])
    unfold lcL
    rw [hb]
    simp only [hc, Res.bind_ok]
    cases hp : p d with
    | false => simp [hp, ih]
    | true =>
      obtain ⟨ρ3, e⟩ := hf hp
      simp [hp, ih, e]
/-- .. with draws -/
theorem lcL_draw {t : Tgt} {c : Den Bool} {f : Den D} {ρ : Rho} {S : SS} (I : Nat → SS → Prop) (Q : D → D → Prop) : ∀ {ds : List D}, (∀ i d S, ds[i]? = some d → I i S → ∃ ρ1, bindT t d ρ = some ρ1 ∧ (∃ ρ2, c ρ1 S = .ok true ρ2 S) ∧ ∃ y ρ2 S2, f ρ1 S = .ok y ρ2 S2 ∧ Q d y ∧ I (i + 1) S2) → I 0 S →
    ∃ ys S', lcL t c f ρ ds S = .ok ys ρ S' ∧ Paired Q ds ys ∧ I ds.length S'
  | [], _, h0 => ⟨[], S, rfl, .nil, h0⟩
  | d :: ds, h, h0 => by
    obtain ⟨ρ1, hb, ⟨ρ2, hc⟩, y, ρ3, S2, hf, hq, h1⟩ := h 0 d S rfl h0
    obtain ⟨ys, S', e, hF, hI⟩ := lcL_draw (ρ := ρ) (S := S2) (c := c) (f := f) (t := t) (fun i => I (i + 1)) Q (ds := ds) (fun i x S hx hi => h (i + 1) x S (by simpa using hx) hi) h1
    refine ⟨y :: ys, S', ?_, .cons hq hF, hI⟩
    unfold lcL
    rw [hb]
    simp only [hc, hf, Res.bind_ok, if_true, e]
end PD

/-! the draw -/
namespace PD
open PySem L2
def drawC : Den Bool := (dAnd (dCmp eqD (dStIx 0 1) (dC (.int 0))) (dStNe 0))
def drawW : SDen := (sSeq (sAsg (dPrim absD (dCons (dStPop 0) dNil)) (.nm 2)) (sSeq (sAsgA (dBin modD (dPrim intD (dCons (dBin addD (dBin addD (dBin mulD (dStIx 0 3) (dC (.int 6151))) (dVar 2)) (dC (.int 7))) dNil)) (dC (.int 2147483629))) (aSt 0 3)) (sSeq (sAsgA (dIf (dCmp geD (dVar 2) (dBin powD (dC (.int 10)) (dC (.int 18)))) (dVar 2) (dC (.int 0))) (aSt 0 1)) sNop)))
def drawB : SDen := (sSeq (sAsgA (dBin addD (dStIx 0 2) (dC (.int 1))) (aSt 0 2)) (sSeq (sWhile (fun _ S => S.cells.length + 1) drawC drawW) (sSeq (sIf (dCmp gtD (dStIx 0 1) (dC (.int 0))) (sSeq (sAsg (dBin modD (dPrim intD (dCons (dStIx 0 1) dNil)) (dVar 1)) (.nm 3)) (sSeq (sAsgA (dBin divD (dStIx 0 1) (dVar 1)) (aSt 0 1)) (sSeq (sRet (dVar 3)) sNop))) sNop) (sSeq (sAsg (dBin modD (dPrim intD (dCons (dBin powD (dBin addD (dBin addD (dStIx 0 3) (dBin mulD (dC (.int 8191)) (dStIx 0 2))) (dC (.int 50021))) (dC (.int 5))) dNil)) (dC (.int 2147483587))) (.nm 4)) (sSeq (sRet (dBin modD (dBin modD (dPrim intD (dCons (dBin powD (dBin addD (dBin addD (dBin mulD (dVar 4) (dC (.int 40009))) (dBin mulD (dC (.int 20011)) (dStIx 0 2))) (dC (.int 31))) (dC (.int 3))) dNil)) (dC (.int 1000000009))) (dVar 1))) sNop)))))
/-- the stream's state, n draws still to come -/
structure StOk (n : Nat) (S : SS) : Prop where
  cur : 0 ≤ S.cur
  cnt : 0 ≤ S.cnt
  few : S.cnt + n ≤ 1000000000
  seed : 0 ≤ S.seed ∧ S.seed < 2147483629
theorem shaped_ints (ns : List Int) : SeqAt.shaped (.list (ns.map PyData.int)) = true := by
  have h1 : PyData.canLayAll0 (ns.map PyData.int) = true := by
    induction ns with
    | nil => rfl
    | cons n ns ih => simp [PyData.canLayAll0, PyData.canLay0, ih]
  have h2 : PyData.depthAll (ns.map PyData.int) = 0 := by
    clear h1
    induction ns with
    | nil => rfl
    | cons n ns ih => simp [PyData.depthAll, PyData.depth, ih]
  simp [SeqAt.shaped, PyData.canLay0, PyData.depth, h1, h2]
theorem eqv_nil (ns : List Int) : PyData.eqv (.list (ns.map PyData.int)) (.list []) = ns.isEmpty := by
  cases ns <;> simp [PyData.eqv, PyData.eqvAll]
theorem drawC_eq (a b : D) (y : Option D) (S : SS) : drawC [some a, some b, y, none, none] S = .ok (decide (S.cur = 0) && !S.cells.isEmpty) [some a, some b, y, none, none] S := by
  by_cases h : S.cur = 0
  · simp [drawC, dAnd, dCmp, dStIx, dC, dStNe, optR, stD, stAt, eqD, shaped_ints, eqv_nil, h]
  · simp [drawC, dAnd, dCmp, dStIx, dC, dStNe, optR, stD, stAt, eqD, shaped_ints, eqv_nil, h]
theorem drawW_eq (a b : D) (y : Option D) (x : Int) (r : List Int) (cur cnt seed : Int) (hs : 0 ≤ seed ∧ seed < 2147483629) :
    ∃ cur' seed', drawW [some a, some b, y, none, none] ⟨x :: r, cur, cnt, seed⟩ = .nx [some a, some b, some (.int (if x < 0 then -x else x)), none, none] ⟨r, cur', cnt, seed'⟩ ∧ 0 ≤ cur' ∧ 0 ≤ seed' ∧ seed' < 2147483629 := by
  have hp : ∀ z : Int, 0 ≤ z % 2147483629 ∧ z % 2147483629 < 2147483629 := fun z => ⟨Int.emod_nonneg _ (by decide), Int.emod_lt_of_pos _ (by decide)⟩
  have hm : (-(2 ^ 64) < seed ∧ seed < 2 ^ 64) ∨ (-(2 ^ 64) < (6151 : Int) ∧ (6151 : Int) < 2 ^ 64) := .inr (by decide)
  have hax : 0 ≤ (if x < 0 then -x else x) := by split <;> omega
  have ha : absD [.int x] = some (.int (if x < 0 then -x else x)) := rfl
  generalize (if x < 0 then -x else x) = ax at hax ha
  refine ⟨if 1000000000000000000 ≤ ax then ax else 0, (seed * 6151 + ax + 7) % 2147483629, ?_, ?_, (hp _).1, (hp _).2⟩
  · by_cases hx : 1000000000000000000 ≤ ax
    · simp [drawW, sSeq, sAsg, sAsgA, dPrim, dCons, dNil, dStPop, dBin, dStIx, dVar, dC, dIf, dCmp, optR, stD, stAt, stPut, aSt, ha, intD, addD, mulD, modD, powD, geD, bindT, sNop, Res.bind, Res.sr, hm, hx]
    · simp [drawW, sSeq, sAsg, sAsgA, dPrim, dCons, dNil, dStPop, dBin, dStIx, dVar, dC, dIf, dCmp, optR, stD, stAt, stPut, aSt, ha, intD, addD, mulD, modD, powD, geD, bindT, sNop, Res.bind, Res.sr, hm, hx]
  · split <;> omega
theorem draw_loop (a b : D) (cnt : Int) : ∀ (cells : List Int) (n : Nat) (y : Option D) (cur seed : Int), cells.length < n → 0 ≤ cur → 0 ≤ seed ∧ seed < 2147483629 →
    ∃ y' cells' cur' seed', whileL drawC drawW n [some a, some b, y, none, none] ⟨cells, cur, cnt, seed⟩ = .nx [some a, some b, y', none, none] ⟨cells', cur', cnt, seed'⟩ ∧ 0 ≤ cur' ∧ 0 ≤ seed' ∧ seed' < 2147483629
  | cells, 0, _, _, _, h, _, _ => by omega
  | [], n + 1, y, cur, seed, _, h0, hs => ⟨y, [], cur, seed, by unfold whileL; rw [drawC_eq]; simp [Res.sr], h0, hs⟩
  | x :: r, n + 1, y, cur, seed, h, h0, hs => by
    by_cases hc : cur = 0
    · obtain ⟨cur', seed', e, h1, h2, h3⟩ := drawW_eq a b y x r cur cnt seed hs
      obtain ⟨y2, cells2, cur2, seed2, e2, h4⟩ := draw_loop a b cnt r n (some (.int (if x < 0 then -x else x))) cur' seed' (by simp at h; omega) h1 ⟨h2, h3⟩
      refine ⟨y2, cells2, cur2, seed2, ?_, h4⟩
      unfold whileL
      rw [drawC_eq]
      simp only [hc, decide_true, List.isEmpty_cons, Bool.not_false, Bool.and_self, Res.sr_ok, if_true]
      subst hc
      rw [e]
      exact e2
    · exact ⟨y, x :: r, cur, seed, by unfold whileL; rw [drawC_eq]; simp [hc, Res.sr], h0, hs⟩
/-- THE DRAW -/
theorem draw_spec {q : D} {m : Int} {n : Nat} {S : SS} (hm : 0 < m ∧ m < 1073741824) (h : StOk (n + 1) S) : ∃ r S', defD 5 drawB [q, .int m] S = .ok (.int r) [] S' ∧ 0 ≤ r ∧ r < m ∧ StOk n S' := by
  obtain ⟨cells, cur, cnt, seed⟩ := S
  obtain ⟨h1, h2, h3, h4⟩ := h
  simp only at h1 h2 h3 h4
  obtain ⟨y, cells', cur', seed', e, k1, k2, k3⟩ := draw_loop q (.int m) (cnt + 1) cells (cells.length + 1) none cur seed (by omega) h1 h4
  have few : cnt + 1 + (n : Int) ≤ 1000000000 := by push_cast at h3; omega
  have r0 : ∀ z : Int, 0 ≤ z % m ∧ z % m < m := fun z => ⟨Int.emod_nonneg _ (by omega), Int.emod_lt_of_pos _ hm.1⟩
  have st : (sAsgA (dBin addD (dStIx 0 2) (dC (.int 1))) (aSt 0 2)) [some q, some (.int m), none, none, none] ⟨cells, cur, cnt, seed⟩ = .nx [some q, some (.int m), none, none, none] ⟨cells, cur, cnt + 1, seed⟩ := by
    simp [sAsgA, dBin, dStIx, dC, addD, aSt, optR, stD, stAt, stPut, Res.bind, Res.sr]
  have wh : (sWhile (fun _ S => S.cells.length + 1) drawC drawW) [some q, some (.int m), none, none, none] ⟨cells, cur, cnt + 1, seed⟩ = .nx [some q, some (.int m), y, none, none] ⟨cells', cur', cnt + 1, seed'⟩ := e
  unfold defD drawB
  simp only [List.map_cons, List.map_nil, List.length_cons, List.length_nil, List.replicate, Nat.reduceAdd, Nat.reduceSub, List.cons_append, List.nil_append]
  rw [sSeq, st]
  simp only []
  rw [sSeq, wh]
  simp only []
  by_cases hp : 0 < cur'
  · refine ⟨cur' % m, ⟨cells', cur' / m, cnt + 1, seed'⟩, ?_, (r0 _).1, (r0 _).2, ⟨Int.ediv_nonneg k1 (by omega), by simp only; omega, by simpa using few, ⟨k2, k3⟩⟩⟩
    simp [sSeq, sIf, sAsg, sAsgA, sRet, dCmp, dBin, dStIx, dC, dVar, dPrim, dCons, dNil, gtD, modD, divD, intD, aSt, optR, stD, stAt, stPut, bindT, Res.bind, Res.sr, hp, hm]
  · have hz : cur' = 0 := by omega
    subst hz
    have b1 : (seed' + 8191 * (cnt + 1) + 50021).natAbs < 2 ^ 64 := by omega
    have z0 : ∀ z : Int, 0 ≤ z % 2147483587 ∧ z % 2147483587 < 2147483587 := fun z => ⟨Int.emod_nonneg _ (by decide), Int.emod_lt_of_pos _ (by decide)⟩
    have z1 := z0 ((seed' + 8191 * (cnt + 1) + 50021) ^ 5)
    generalize hmx : (seed' + 8191 * (cnt + 1) + 50021) ^ 5 % 2147483587 = mx at z1
    have b2 : (mx * 40009 + 20011 * (cnt + 1) + 31).natAbs < 2 ^ 64 := by omega
    refine ⟨(mx * 40009 + 20011 * (cnt + 1) + 31) ^ 3 % 1000000009 % m, ⟨cells', 0, cnt + 1, seed'⟩, ?_, (r0 _).1, (r0 _).2, ⟨Int.le_refl 0, by simp only; omega, by simpa using few, ⟨k2, k3⟩⟩⟩
    simp [sSeq, sIf, sAsg, sAsgA, sRet, sNop, dCmp, dBin, dStIx, dC, dVar, dPrim, dCons, dNil, gtD, modD, divD, intD, mulD, addD, powD, aSt, optR, stD, stAt, stPut, bindT, Res.bind, Res.sr, hm, b1, hmx, b2]
end PD

/-! comprehensions of two clauses, without draws -/
namespace PD
open PySem L2
theorem lc2I_pure {t : Tgt} {c : Den Bool} {f : Den D} {ρ : Rho} {S : SS} (g : D → D) : ∀ {ds acc : List D}, (∀ d ∈ ds, ∃ ρ1, bindT t d ρ = some ρ1 ∧ (∃ ρ2, c ρ1 S = .ok true ρ2 S) ∧ ∃ ρ2, f ρ1 S = .ok (g d) ρ2 S) → acc.length + ds.length ≤ sizeLine →
    lc2I t c f ρ ds acc S = .ok (acc ++ ds.map g) ρ S
  | [], acc, _, _ => by simp [lc2I]
  | d :: ds, acc, h, hz => by
    obtain ⟨ρ1, hb, ⟨ρ2, hc⟩, ρ3, hf⟩ := h d (by simp)
    simp only [List.length_cons] at hz
    have ih := lc2I_pure (ρ := ρ) (S := S) (c := c) (f := f) (t := t) g (ds := ds) (acc := acc ++ [g d]) (fun x hx => h x (by simp [hx])) (by simp; omega)
    unfold lc2I
    rw [hb]
    have hl : acc.length < sizeLine := by omega
    simp only [hc, hf, Res.bind_ok, if_true, hl, ih]
    simp
theorem lc2L_pure {t t1 : Tgt} {c c1 : Den Bool} {it1 : Den (List D)} {f : Den D} {vs1 : List Nat} {ρ : Rho} {S : SS} (G : D → List D) : ∀ {ds acc : List D}, (∀ d ∈ ds, ∃ ρ1 ρ2 ds1 ρ3, bindT t d ρ = some ρ1 ∧ c ρ1 S = .ok true ρ2 S ∧ it1 ρ2 S = .ok ds1 ρ3 S ∧
      ∀ acc : List D, acc.length + (G d).length ≤ sizeLine → ∃ ρ4, lc2I t1 c1 f (wipeR ρ3 vs1) ds1 acc S = .ok (acc ++ G d) ρ4 S) → acc.length + (ds.flatMap G).length ≤ sizeLine →
    lc2L t c it1 t1 c1 f vs1 ρ ds acc S = .ok (acc ++ ds.flatMap G) ρ S
  | [], acc, _, _ => by simp [lc2L]
  | d :: ds, acc, h, hz => by
    obtain ⟨ρ1, ρ2, ds1, ρ3, hb, hc, hi, hf⟩ := h d (by simp)
    simp only [List.flatMap_cons, List.length_append] at hz
    obtain ⟨ρ4, e4⟩ := hf acc (by omega)
    have ih := lc2L_pure (t := t) (t1 := t1) (c := c) (c1 := c1) (it1 := it1) (f := f) (vs1 := vs1) (ρ := ρ) (S := S) G (ds := ds) (acc := acc ++ G d) (fun x hx => h x (by simp [hx])) (by rw [List.length_append]; omega)
    unfold lc2L
    rw [hb]
    simp only [hc, hi, Res.bind_ok, if_true, e4, ih]
    simp
theorem defD_rt {n : Nat} {body : SDen} {ds : List D} {S S' : SS} {d : D} (h : body (ds.map some ++ List.replicate (n - ds.length) none) S = .rt d S') : defD n body ds S = .ok d [] S' := by
  unfold defD; rw [h]
theorem dLst_nil {ρ : Rho} {S : SS} : dLst dNil ρ S = .ok (.list []) ρ S := by simp [dLst, dNil, Res.bind]
theorem rng1_nat {m : Nat} (h : m < 1000000) : rng1D [.int m] = some (rangeD 0 m) := by
  have g1 : (m : Int) < 4611686018427387904 := by omega
  have g2 : (-4611686018427387904 : Int) ≤ m := by omega
  simp [rng1D, g1, g2]
theorem rng2_nat {k m : Nat} (h : m < 1000000) (h2 : k < 1000000) : rng2D [.int k, .int m] = some (rangeD k m) := by
  have g1 : (m : Int) < 4611686018427387904 := by omega
  have g2 : (-4611686018427387904 : Int) ≤ m := by omega
  have g3 : (k : Int) < 4611686018427387904 := by omega
  have g4 : (-4611686018427387904 : Int) ≤ k := by omega
  simp [rng2D, g1, g2, g3, g4]
theorem range_len (m : Nat) : (rangeD 0 m).length = m := by simp [rangeD]
theorem range_get {m i : Nat} {d : D} (h : (rangeD 0 m)[i]? = some d) : i < m ∧ d = .int (i : Int) := by
  have h1 := (List.getElem?_eq_some_iff.mp h).1
  rw [range_len] at h1
  refine ⟨h1, ?_⟩
  simp [rangeD, h1] at h
  exact h.symm
theorem l64 : 64 ≤ sizeLine := by decide
theorem l1 : 1 ≤ sizeLine := by decide
theorem l2 : 2 ≤ sizeLine := by decide
theorem dIt_ok {g : List D → Option (List D)} {fa : Den (List D)} {ρ : Rho} {S S1 : SS} {ds es : List D} (h : fa ρ S = .ok ds ρ S1) (e : g ds = some es) : dIt g fa ρ S = .ok es ρ S1 := by
  simp [dIt, h, Res.bind, e, optR]
theorem dCons1 {f : Den D} {ρ : Rho} {S S1 : SS} {d : D} (h : f ρ S = .ok d ρ S1) : dCons f dNil ρ S = .ok [d] ρ S1 := by
  simp [dCons, dNil, h, Res.bind]
theorem dCons2 {f f2 : Den D} {ρ : Rho} {S S1 S2 : SS} {d d2 : D} (h : f ρ S = .ok d ρ S1) (h2 : f2 ρ S1 = .ok d2 ρ S2) : dCons f (dCons f2 dNil) ρ S = .ok [d, d2] ρ S2 := by
  simp [dCons, dNil, h, h2, Res.bind]
theorem dConsN {f : Den D} {g : Den (List D)} {ρ : Rho} {S S1 S2 : SS} {d : D} {ds : List D} (h : f ρ S = .ok d ρ S1) (h2 : g ρ S1 = .ok ds ρ S2) : dCons f g ρ S = .ok (d :: ds) ρ S2 := by
  simp [dCons, h, h2, Res.bind]
theorem dIt_rng1 {f : Den D} {m : Nat} {ρ : Rho} {S S' : SS} (h : f ρ S = .ok (.int m) ρ S') (hm : m < 1000000) : dIt rng1D (dCons f dNil) ρ S = .ok (rangeD 0 m) ρ S' := dIt_ok (dCons1 h) (rng1_nat hm)
theorem dIt_rng2 {f f2 : Den D} {k m : Nat} {ρ : Rho} {S S1 S' : SS} (h : f ρ S = .ok (.int k) ρ S1) (h2 : f2 ρ S1 = .ok (.int m) ρ S') (hk : k < 1000000) (hm : m < 1000000) : dIt rng2D (dCons f (dCons f2 dNil)) ρ S = .ok (rangeD k m) ρ S' := dIt_ok (dCons2 h h2) (rng2_nat hm hk)
theorem sFor_eq {f : Den (List D)} {t : Tgt} {body : SDen} {ρ : Rho} {S S1 : SS} {ds : List D} (h : f ρ S = .ok ds ρ S1) : sFor f t body ρ S = forL t body ds ρ S1 := by
  unfold sFor; rw [h]; rfl
theorem sSeq_nx {f g : SDen} {ρ ρ1 : Rho} {S S1 : SS} (h : f ρ S = .nx ρ1 S1) : sSeq f g ρ S = g ρ1 S1 := by
  unfold sSeq; rw [h]
theorem sSeq_rt {f g : SDen} {ρ : Rho} {S S1 : SS} {d : D} (h : f ρ S = .rt d S1) : sSeq f g ρ S = .rt d S1 := by
  unfold sSeq; rw [h]
theorem sAsg_eq {f : Den D} {t : Tgt} {ρ ρ2 : Rho} {S S1 : SS} {d : D} (h : f ρ S = .ok d ρ S1) (hb : bindT t d ρ = some ρ2) : sAsg f t ρ S = .nx ρ2 S1 := by
  simp [sAsg, h, Res.sr, hb]
theorem sIf_eq {c : Den Bool} {f g : SDen} {ρ : Rho} {S S1 : SS} {b : Bool} (h : c ρ S = .ok b ρ S1) : sIf c f g ρ S = if b then f ρ S1 else g ρ S1 := by
  simp [sIf, h, Res.sr]
theorem dCall_eq {F : List D → SS → Res D} {fa : Den (List D)} {ρ ρ2 : Rho} {S S1 S2 : SS} {ds : List D} {d : D} (ha : fa ρ S = .ok ds ρ S1) (h : F ds S1 = .ok d ρ2 S2) : dCall F fa ρ S = .ok d ρ S2 := by
  simp [dCall, ha, h, Res.bind]
theorem sRet_eq {f : Den D} {ρ : Rho} {S S1 : SS} {d : D} (h : f ρ S = .ok d ρ S1) : sRet f ρ S = .rt d S1 := by
  simp [sRet, h, Res.sr]
theorem cutG_from {α : Type} (xs : List α) (k : Nat) : cutG xs (some (k : Int)) none = xs.drop k := by
  unfold cutG
  rw [HT.sIx_nat, HT.sIx_none]
  by_cases h : k ≤ xs.length
  · rw [Nat.min_eq_left h]
    rw [List.take_of_length_le (by simp)]
  · rw [Nat.min_eq_right (by omega), List.drop_eq_nil_of_le (Nat.le_refl _), List.drop_eq_nil_of_le (by omega), List.take_nil]
theorem cutG_to {α : Type} (xs : List α) (k : Nat) : cutG xs none (some (k : Int)) = xs.take k := by
  unfold cutG
  rw [HT.sIx_nat, HT.sIx_none]
  simp only [List.drop_zero, Nat.sub_zero]
  by_cases h : k ≤ xs.length
  · rw [Nat.min_eq_left h]
  · rw [Nat.min_eq_right (by omega), List.take_of_length_le (Nat.le_refl _), List.take_of_length_le (by omega)]
theorem bools_map {α : Type} (f : α → Bool) (g : α → D) (h : ∀ x, g x = .bool (f x)) : ∀ l : List α, boolsD (l.map g) = some (l.map f)
  | [] => rfl
  | x :: l => by simp [boolsD, h, bools_map f g h l]
/-- a comprehension over a mapped list -/
theorem lcL_fmap {α : Type} {t : Tgt} {c : Den Bool} {f : Den D} {ρ : Rho} {S : SS} (h : α → D) (p : α → Bool) (g : α → D) : ∀ {l : List α}, (∀ x ∈ l, ∃ ρ1, bindT t (h x) ρ = some ρ1 ∧ c ρ1 S = .ok (p x) ρ1 S ∧ (p x = true → f ρ1 S = .ok (g x) ρ1 S)) →
    lcL t c f ρ (l.map h) S = .ok ((l.filter p).map g) ρ S
  | [], _ => rfl
  | x :: l, hh => by
    obtain ⟨ρ1, hb, hc, hf⟩ := hh x (by simp)
    have ih := lcL_fmap (ρ := ρ) (S := S) (c := c) (f := f) (t := t) h p g (l := l) fun y hy => hh y (by simp [hy])
    rw [List.map_cons]
    unfold lcL
    rw [hb]
    simp only [hc, Res.bind_ok]
    cases hp : p x with
    | false => simp [hp, ih]
    | true =>
      simp [hp, ih, hf hp]
theorem lcL_map {α : Type} {t : Tgt} {f : Den D} {ρ : Rho} {S : SS} (h : α → D) (g : α → D) {l : List α} (hh : ∀ x ∈ l, ∃ ρ1, bindT t (h x) ρ = some ρ1 ∧ f ρ1 S = .ok (g x) ρ1 S) : lcL t dYes f ρ (l.map h) S = .ok (l.map g) ρ S := by
  have e := lcL_fmap (t := t) (c := dYes) (f := f) (ρ := ρ) (S := S) h (fun _ => true) g (l := l) fun x hx => by
    obtain ⟨ρ1, h1, h2⟩ := hh x hx
    exact ⟨ρ1, h1, rfl, fun _ => h2⟩
  rw [List.filter_eq_self.mpr (by simp)] at e
  exact e
theorem dLc_eq {it : Den (List D)} {t : Tgt} {c : Den Bool} {f : Den D} {vs : List Nat} {ρ : Rho} {S S1 S2 : SS} {ds ys : List D} (h : it ρ S = .ok ds ρ S1) (hz : ds.length ≤ sizeLine) (e : lcL t c f (wipeR ρ vs) ds S1 = .ok ys (wipeR ρ vs) S2) : dLc it t c f vs ρ S = .ok (.list ys) ρ S2 := by
  simp [dLc, h, hz, e, Res.bind]
theorem dPrim1 {g : List D → Option D} {f : Den D} {ρ : Rho} {S S1 : SS} {d y : D} (h : f ρ S = .ok d ρ S1) (e : g [d] = some y) : dPrim g (dCons f dNil) ρ S = .ok y ρ S1 := by
  simp [dPrim, dCons1 h, Res.bind, e, optR]
theorem dBin_eq {g : D → D → Option D} {f f2 : Den D} {ρ : Rho} {S S1 S2 : SS} {x y z : D} (h : f ρ S = .ok x ρ S1) (h2 : f2 ρ S1 = .ok y ρ S2) (e : g x y = some z) : dBin g f f2 ρ S = .ok z ρ S2 := by
  simp [dBin, h, h2, Res.bind, e, optR]
theorem dCmp_eq {g : D → D → Option Bool} {f f2 : Den D} {ρ : Rho} {S S1 S2 : SS} {x y : D} {b : Bool} (h : f ρ S = .ok x ρ S1) (h2 : f2 ρ S1 = .ok y ρ S2) (e : g x y = some b) : dCmp g f f2 ρ S = .ok b ρ S2 := by
  simp [dCmp, h, h2, Res.bind, e, optR]
theorem dT_eq {f : Den D} {ρ : Rho} {S S1 : SS} {b : Bool} (h : f ρ S = .ok (.bool b) ρ S1) : dT f ρ S = .ok b ρ S1 := by
  simp [dT, h, Res.bind, boolD, optR]
theorem dNot_eq {f : Den Bool} {ρ : Rho} {S S1 : SS} {b : Bool} (h : f ρ S = .ok b ρ S1) : dNot f ρ S = .ok (!b) ρ S1 := by
  simp [dNot, h, Res.bind]
theorem dB_eq {f : Den Bool} {ρ : Rho} {S S1 : SS} {b : Bool} (h : f ρ S = .ok b ρ S1) : dB f ρ S = .ok (.bool b) ρ S1 := by
  simp [dB, h, Res.bind]
theorem dPrimL1 {g : List D → Option (List D)} {f : Den D} {ρ : Rho} {S S1 : SS} {d : D} {ys : List D} (h : f ρ S = .ok d ρ S1) (e : g [d] = some ys) : dPrimL g (dCons f dNil) ρ S = .ok (.list ys) ρ S1 := by
  simp [dPrimL, dCons1 h, Res.bind, e, optR]
theorem dSeq_eq {f : Den D} {ρ : Rho} {S S1 : SS} {ds : List D} (h : f ρ S = .ok (.list ds) ρ S1) : dSeq f ρ S = .ok ds ρ S1 := by
  simp [dSeq, h, Res.bind, seqD, optR]
theorem allD_map {α : Type} (f : α → Bool) (l : List α) : allD [.list (l.map fun x => .bool (f x))] = some (.bool (l.all f)) := by
  simp [allD, bools_map f _ (fun _ => rfl)]
theorem anyD_map {α : Type} (f : α → Bool) (l : List α) : anyD [.list (l.map fun x => .bool (f x))] = some (.bool (l.any f)) := by
  simp [anyD, bools_map f _ (fun _ => rfl)]
theorem dVar_eq {i : Nat} {ρ : Rho} {S : SS} {d : D} (h : ρ[i]? = some (some d)) : dVar i ρ S = .ok d ρ S := by simp [dVar, h, optR]
end PD

namespace PD
open PySem L2
/-- a loop that returns at the first thing that .. -/
theorem forL_find {α : Type} {t : Tgt} {body : SDen} {S : SS} (h : α → D) (p : α → Bool) (g : α → D) (I : Rho → Prop) : ∀ {l : List α} {ρ : Rho}, (∀ x ∈ l, ∀ ρ, I ρ → ∃ ρ1, bindT t (h x) ρ = some ρ1 ∧ (p x = true → body ρ1 S = .rt (g x) S) ∧ (p x = false → ∃ ρ2, body ρ1 S = .nx ρ2 S ∧ I ρ2)) → I ρ →
    (∀ x, l.find? p = some x → forL t body (l.map h) ρ S = .rt (g x) S) ∧ (l.find? p = none → ∃ ρ', forL t body (l.map h) ρ S = .nx ρ' S ∧ I ρ')
  | [], ρ, _, i => ⟨fun x e => by simp at e, fun _ => ⟨ρ, rfl, i⟩⟩
  | x :: l, ρ, hh, i => by
    obtain ⟨ρ1, hb, h1, h2⟩ := hh x (by simp) ρ i
    rw [List.map_cons]
    unfold forL
    rw [hb]
    simp only
    cases hp : p x with
    | true =>
      rw [h1 hp]
      refine ⟨fun y hy => ?_, fun hy => ?_⟩
      · simp [List.find?, hp] at hy; rw [hy]
      · simp [List.find?, hp] at hy
    | false =>
      obtain ⟨ρ2, e, i2⟩ := h2 hp
      rw [e]
      have ih := forL_find (S := S) (t := t) (body := body) h p g I (l := l) (ρ := ρ2) (fun y hy => hh y (by simp [hy])) i2
      simpa [List.find?, hp] using ih
/-- a loop over a mapped list, the state kept: I by what went ahead -/
theorem forL_map {α : Type} {t : Tgt} {body : SDen} {S : SS} (h : α → D) (I : List α → Rho → Prop) : ∀ {l pre : List α} {ρ : Rho}, (∀ pre x ρ, x ∈ l → I pre ρ → ∃ ρ1, bindT t (h x) ρ = some ρ1 ∧ ∃ ρ2, body ρ1 S = .nx ρ2 S ∧ I (pre ++ [x]) ρ2) → I pre ρ →
    ∃ ρ', forL t body (l.map h) ρ S = .nx ρ' S ∧ I (pre ++ l) ρ'
  | [], pre, ρ, _, i => ⟨ρ, rfl, by simpa using i⟩
  | x :: l, pre, ρ, hh, i => by
    obtain ⟨ρ1, hb, ρ2, e, i2⟩ := hh pre x ρ (by simp) i
    obtain ⟨ρ', e', i'⟩ := forL_map (S := S) (t := t) (body := body) h I (l := l) (fun pre y ρ hy => hh pre y ρ (by simp [hy])) i2
    refine ⟨ρ', ?_, by simpa using i'⟩
    rw [List.map_cons]
    unfold forL
    rw [hb]
    simp only [e]
    exact e'
theorem dBinL_eq {g : D → D → Option (List D)} {f f2 : Den D} {ρ : Rho} {S S1 S2 : SS} {x y : D} {zs : List D} (h : f ρ S = .ok x ρ S1) (h2 : f2 ρ S1 = .ok y ρ S2) (e : g x y = some zs) : dBinL g f f2 ρ S = .ok (.list zs) ρ S2 := by
  simp [dBinL, h, h2, Res.bind, e, optR]
theorem dLst_eq {f : Den (List D)} {ρ : Rho} {S S1 : SS} {ds : List D} (h : f ρ S = .ok ds ρ S1) (hz : ds.length ≤ sizeLine) : dLst f ρ S = .ok (.list ds) ρ S1 := by
  simp [dLst, h, hz, Res.bind]
theorem dTup_eq {f : Den (List D)} {ρ : Rho} {S S1 : SS} {ds : List D} (h : f ρ S = .ok ds ρ S1) (hz : ds.length ≤ sizeLine) : dTup f ρ S = .ok (.tuple ds) ρ S1 := by
  simp [dTup, h, hz, Res.bind]
theorem lenD_list (ds : List D) : lenD [.list ds] = some (.int ds.length) := rfl
theorem dNil_eq {ρ : Rho} {S : SS} : dNil ρ S = .ok [] ρ S := rfl
theorem dMut_eq {i : Nat} {g : List D → List D → Option (List D × D)} {fa : Den (List D)} {ρ : Rho} {S S1 : SS} {xs ds ys : List D} {r : D} (h0 : ownL i ρ = some xs) (h : fa ρ S = .ok ds ρ S1) (e : g xs ds = some (ys, r)) : dMut i g fa ρ S = .ok r (ρ.set i (some (.list ys))) S1 := by
  simp [dMut, h0, h, e, optR, Res.bind]
theorem sExpr_eq {f : Den D} {ρ ρ1 : Rho} {S S1 : SS} {d : D} (h : f ρ S = .ok d ρ1 S1) : sExpr f ρ S = .nx ρ1 S1 := by
  simp [sExpr, h, Res.sr]
theorem sAsgA_eq {f : Den D} {tf : D → Den Unit} {ρ ρ2 : Rho} {S S1 S2 : SS} {d : D} (h : f ρ S = .ok d ρ S1) (h2 : tf d ρ S1 = .ok () ρ2 S2) : sAsgA f tf ρ S = .nx ρ2 S2 := by
  simp [sAsgA, h, h2, Res.sr]
theorem aSub_eq {i n : Nat} {k : Int} {fi : Den D} {ρ : Rho} {S : SS} {d : D} {xs : List D} (h0 : ownL i ρ = some xs) (hk : fi ρ S = .ok (.int k) ρ S) (hn : L2.ixN xs.length k = some n) : aSub i fi d ρ S = .ok () (ρ.set i (some (.list (xs.set n d)))) S := by
  simp [aSub, h0, hk, hn, optR, Res.bind]
theorem aTup2_list {t1 t2 : D → Den Unit} {ρ ρ1 ρ2 : Rho} {S : SS} {d1 d2 : D} (h1 : t1 d1 ρ S = .ok () ρ1 S) (h2 : t2 d2 ρ1 S = .ok () ρ2 S) : aTup 2 (aCons t1 (aCons t2 aNil)) (.list [d1, d2]) ρ S = .ok () ρ2 S := by
  simp [aTup, aCons, aNil, h1, h2, Res.bind]
theorem sPar2 {f g : Den D} {i j : Nat} {ρ : Rho} {S S1 S2 : SS} {x y : D} (h1 : f ρ S = .ok x ρ S1) (h2 : g ρ S1 = .ok y ρ S2) : sPar (dCons f (dCons g dNil)) [i, j] ρ S = .nx ((ρ.set i (some x)).set j (some y)) S2 := by
  simp [sPar, dCons2 h1 h2, setSlots, Res.sr]
theorem listD_list (ds : List D) : listD [.list ds] = some ds := rfl
theorem listD_tuple (ds : List D) : listD [.tuple ds] = some ds := rfl
theorem dDict_eq {f : Den D} {ρ : Rho} {S S1 : SS} {d : D} {kds : List (D × D)} (h : f ρ S = .ok d ρ S1) (e : dictPD d = some kds) : dDict f ρ S = .ok (.dict kds) ρ S1 := by
  simp [dDict, h, e, optR, Res.bind]
end PD

/-! what the laws' own helpers do, by fuel -/
namespace PD
open PySem L2
theorem StOk.le {n m : Nat} {S : SS} (h : StOk n S) (hm : m ≤ n) : StOk m S := ⟨h.cur, h.cnt, by have := h.few; omega, h.seed⟩
theorem draw_nat {q : D} {m n : Nat} {S : SS} (hm : 0 < m ∧ m < 1073741824) (h : StOk (n + 1) S) : ∃ r S', defD 5 drawB [q, .int (m : Int)] S = .ok (.int (r : Nat)) [] S' ∧ r < m ∧ StOk n S' := by
  obtain ⟨r, S', e, h0, h1, h2⟩ := draw_spec (q := q) (m := (m : Int)) ⟨by omega, by omega⟩ h
  refine ⟨r.toNat, S', ?_, by omega, h2⟩
  rw [e, Int.toNat_of_nonneg h0]
/-- things that fit the fuel -/
def Plain : Nat → D → Prop
  | 0, _ => False
  | n + 1, d => flatD d = true ∨ ∃ ds, (d = .list ds ∨ d = .tuple ds) ∧ ds.length ≤ sizeLine ∧ ∀ x ∈ ds, Plain n x
theorem Plain.flat {n : Nat} {d : D} (h : flatD d = true) : Plain (n + 1) d := .inl h
theorem Plain.list {n : Nat} {ds : List D} (hz : ds.length ≤ sizeLine) (h : ∀ x ∈ ds, Plain n x) : Plain (n + 1) (.list ds) := .inr ⟨ds, .inl rfl, hz, h⟩
theorem Plain.tuple {n : Nat} {ds : List D} (hz : ds.length ≤ sizeLine) (h : ∀ x ∈ ds, Plain n x) : Plain (n + 1) (.tuple ds) := .inr ⟨ds, .inr rfl, hz, h⟩
theorem Plain.up : ∀ {n : Nat} {d : D}, Plain n d → Plain (n + 1) d
  | 0, _, h => h.elim
  | n + 1, d, h => by
    rcases h with h | ⟨ds, h1, h2, h3⟩
    · exact .inl h
    · exact .inr ⟨ds, h1, h2, fun x hx => (h3 x hx).up⟩
theorem flat_isi {d : D} (h : flatD d = true) : isDs ["list", "tuple"] d = false ∧ isDs ["list"] d = false ∧ isDs ["tuple"] d = false ∧ isDs ["dict"] d = false ∧ isDs ["list", "tuple", "dict"] d = false := by
  cases d <;> simp [flatD, isDs, isD1, tyD] at h ⊢
theorem dIsi_eq {cs : List String} {f : Den D} {ρ : Rho} {S S1 : SS} {d : D} (h : f ρ S = .ok d ρ S1) : dIsi cs f ρ S = .ok (.bool (isDs cs d)) ρ S1 := by
  simp [dIsi, h, Res.bind]
theorem dIf_eq {c : Den Bool} {f g : Den D} {ρ : Rho} {S S1 : SS} {b : Bool} (h : c ρ S = .ok b ρ S1) : dIf c f g ρ S = if b then f ρ S1 else g ρ S1 := by
  simp [dIf, h, Res.bind]
theorem dIf_t {c : Den Bool} {f g : Den D} {ρ : Rho} {S S1 : SS} (h : c ρ S = .ok true ρ S1) : dIf c f g ρ S = f ρ S1 := by rw [dIf_eq h, if_pos rfl]
theorem dIf_f {c : Den Bool} {f g : Den D} {ρ : Rho} {S S1 : SS} (h : c ρ S = .ok false ρ S1) : dIf c f g ρ S = g ρ S1 := by rw [dIf_eq h, if_neg (by simp)]
theorem sIf_t {c : Den Bool} {f g : SDen} {ρ : Rho} {S S1 : SS} (h : c ρ S = .ok true ρ S1) : sIf c f g ρ S = f ρ S1 := by rw [sIf_eq h, if_pos rfl]
theorem sIf_f {c : Den Bool} {f g : SDen} {ρ : Rho} {S S1 : SS} (h : c ρ S = .ok false ρ S1) : sIf c f g ρ S = g ρ S1 := by rw [sIf_eq h, if_neg (by simp)]
theorem sIf_no {c : Den Bool} {f : SDen} {ρ : Rho} {S S1 : SS} (h : c ρ S = .ok false ρ S1) : sIf c f sNop ρ S = .nx ρ S1 := by rw [sIf_f h]; rfl
theorem dFl_eq {f : Den D} {ρ : Rho} {S S1 : SS} {d : D} (h : f ρ S = .ok d ρ S1) (hf : flatD d = true) : dFl f ρ S = .ok d ρ S1 := by
  simp [dFl, h, hf, Res.bind]
/-! _law_copied -/
def copyB (N : SDen) (R : List D → SS → Res D) : SDen := (sSeq (sIf (dT (dIsi ["list", "tuple"] (dVar 0))) (sSeq (sAsg (dLc (dSeq (dVar 0)) (.nm 2) dYes (dCall R (dCons (dVar 2) dNil)) [2]) (.nm 1)) (sSeq (sRet (dIf (dT (dIsi ["list"] (dVar 0))) (dVar 1) (dPrim tupleD (dCons (dVar 1) dNil)))) sNop)) sNop) (sSeq (sIf (dT (dIsi ["dict"] (dVar 0))) N sNop) (sSeq (sRet (dFl (dVar 0))) sNop)))
def copyF (N : SDen) : Nat → List D → SS → Res D
  | 0 => fun _ _ => .stk
  | n + 1 => defD 4 (copyB N (copyF N n))
theorem seqD_two {d : D} {ds : List D} (h : d = .list ds ∨ d = .tuple ds) : seqD d = some ds := by rcases h with rfl | rfl <;> rfl
theorem dSeq_two {f : Den D} {ρ : Rho} {S S1 : SS} {d : D} {ds : List D} (h : f ρ S = .ok d ρ S1) (e : d = .list ds ∨ d = .tuple ds) : dSeq f ρ S = .ok ds ρ S1 := by
  simp [dSeq, h, Res.bind, seqD_two e, optR]
theorem isi_two {d : D} {ds : List D} (h : d = .list ds ∨ d = .tuple ds) : isDs ["list", "tuple"] d = true := by rcases h with rfl | rfl <;> simp [isDs, isD1, tyD]
theorem isT {cs : List String} {i : Nat} {ρ : Rho} {S : SS} {d : D} {b : Bool} (h : ρ[i]? = some (some d)) (e : isDs cs d = b) : dT (dIsi cs (dVar i)) ρ S = .ok b ρ S := by
  subst e; exact dT_eq (dIsi_eq (dVar_eq h))
theorem copy_eq {N : SDen} : ∀ {n : Nat} {d : D} {S : SS}, Plain n d → copyF N n [d] S = .ok d [] S
  | 0, _, _, h => h.elim
  | n + 1, d, S, h => by
    refine defD_rt (show copyB N (copyF N n) [some d, none, none, none] S = _ from ?_)
    rcases h with h | ⟨ds, h1, h2, h3⟩
    · obtain ⟨i1, _, _, i4, _⟩ := flat_isi h
      have c1 := isT (cs := ["list", "tuple"]) (i := 0) (ρ := [some d, none, none, none]) (S := S) rfl i1
      have c2 := isT (cs := ["dict"]) (i := 0) (ρ := [some d, none, none, none]) (S := S) rfl i4
      refine (sSeq_nx (ρ1 := [some d, none, none, none]) (S1 := S) (by rw [sIf_eq c1]; rfl)).trans ((sSeq_nx (ρ1 := [some d, none, none, none]) (S1 := S) (by rw [sIf_eq c2]; rfl)).trans (sSeq_rt (sRet_eq (dFl_eq (dVar_eq rfl) h))))
    · have c1 := isT (cs := ["list", "tuple"]) (i := 0) (ρ := [some d, none, none, none]) (S := S) rfl (isi_two h1)
      refine sSeq_rt ?_
      rw [sIf_eq c1, if_pos rfl]
      have e := lcL_map (t := .nm 2) (f := dCall (copyF N n) (dCons (dVar 2) dNil)) (ρ := [some d, none, none, none]) (S := S) id id (l := ds) fun x hx => ⟨[some d, none, some x, none], rfl, dCall_eq (dCons1 (dVar_eq rfl)) (copy_eq (h3 x hx))⟩
      rw [List.map_id] at e
      refine (sSeq_nx (sAsg_eq (ρ2 := [some d, some (.list ds), none, none]) (dLc_eq (dSeq_two (dVar_eq rfl) h1) h2 e) rfl)).trans (sSeq_rt (sRet_eq ?_))
      rcases h1 with rfl | rfl
      · rw [dIf_t (isT rfl (by simp [isDs, isD1, tyD]))]
        exact dVar_eq rfl
      · rw [dIf_f (isT rfl (by simp [isDs, isD1, tyD]))]
        exact dPrim1 (dVar_eq rfl) rfl
/-! _law_same, of a thing and itself -/
def sameB (N : SDen) (R : List D → SS → Res D) : SDen := (sSeq (sIf (dT (dIsi ["list", "tuple"] (dVar 1))) (sSeq (sIf (dOr (dCmp neD (dIsi ["list"] (dVar 0)) (dIsi ["list"] (dVar 1))) (dCmp neD (dIsi ["tuple"] (dVar 0)) (dIsi ["tuple"] (dVar 1)))) (sSeq (sRet (dC (.bool false))) sNop) sNop) (sSeq (sRet (dAndV (dB (dCmp eqD (dPrim lenD (dCons (dVar 0) dNil)) (dPrim lenD (dCons (dVar 1) dNil)))) (dPrim allD (dCons (dLc (dIt zipL (dCons (dVar 0) (dCons (dVar 1) dNil))) (.tup [(.nm 2), (.nm 3)]) dYes (dCall R (dCons (dVar 2) (dCons (dVar 3) dNil))) [2, 3]) dNil)))) sNop)) sNop) (sSeq (sIf (dT (dIsi ["dict"] (dVar 1))) N sNop) (sSeq (sIf (dOr (dT (dIsi ["bool"] (dVar 1))) (dT (dIsi ["bool"] (dVar 0)))) (sSeq (sRet (dAndV (dIsi ["bool"] (dVar 1)) (dAndV (dIsi ["bool"] (dVar 0)) (dB (dCmp eqD (dVar 0) (dVar 1)))))) sNop) sNop) (sSeq (sIf (dOr (dCmp isD (dVar 1) (dC .none)) (dCmp isD (dVar 0) (dC .none))) (sSeq (sRet (dAndV (dB (dCmp isD (dVar 1) (dC .none))) (dB (dCmp isD (dVar 0) (dC .none))))) sNop) sNop) (sSeq (sIf (dOr (dCmp neD (dIsi ["int"] (dVar 1)) (dIsi ["int"] (dVar 0))) (dCmp neD (dIsi ["str"] (dVar 1)) (dIsi ["str"] (dVar 0)))) (sSeq (sRet (dC (.bool false))) sNop) sNop) (sSeq (sRet (dAndV (dNotV (dIsi ["list", "tuple", "dict"] (dVar 0))) (dB (dCmp eqD (dVar 0) (dVar 1))))) sNop))))))
def sameF (N : SDen) : Nat → List D → SS → Res D
  | 0 => fun _ _ => .stk
  | n + 1 => defD 4 (sameB N (sameF N n))
theorem zip_self : ∀ ds : List D, zipD ds ds = ds.map fun d => .tuple [d, d]
  | [] => rfl
  | d :: ds => by simp [zipD, zip_self ds]
theorem neD_bool (a b : Bool) : neD (.bool a) (.bool b) = some (!(a == b)) := rfl
theorem dOr_ff {f g : Den Bool} {ρ : Rho} {S S1 S2 : SS} (h1 : f ρ S = .ok false ρ S1) (h2 : g ρ S1 = .ok false ρ S2) : dOr f g ρ S = .ok false ρ S2 := by
  simp [dOr, h1, h2, Res.bind]
theorem dOr_t {f g : Den Bool} {ρ : Rho} {S S1 : SS} (h1 : f ρ S = .ok true ρ S1) : dOr f g ρ S = .ok true ρ S1 := by
  simp [dOr, h1, Res.bind]
theorem dAndV_t {f g : Den D} {ρ : Rho} {S S1 : SS} (h1 : f ρ S = .ok (.bool true) ρ S1) : dAndV f g ρ S = g ρ S1 := by
  simp [dAndV, h1, Res.bind]
theorem isI {cs : List String} {i : Nat} {ρ : Rho} {S : SS} {d : D} {b : Bool} (h : ρ[i]? = some (some d)) (e : isDs cs d = b) : dIsi cs (dVar i) ρ S = .ok (.bool b) ρ S := by
  subst e; exact dIsi_eq (dVar_eq h)
theorem neI {cs : List String} {i j : Nat} {ρ : Rho} {S : SS} {d : D} (h : ρ[i]? = some (some d)) (h2 : ρ[j]? = some (some d)) : dCmp neD (dIsi cs (dVar i)) (dIsi cs (dVar j)) ρ S = .ok false ρ S :=
  dCmp_eq (isI h rfl) (isI h2 rfl) (by rw [neD_bool]; simp)
theorem flat_eqD {d : D} (h : flatD d = true) (hn : d ≠ .none) : eqD d d = some true := by
  cases d <;> first | (cases h; done) | (exact absurd rfl hn) | simp [eqD]
/-- lists only -/
def PlainL : Nat → D → Prop
  | 0, _ => False
  | n + 1, d => flatD d = true ∨ ∃ ds, d = .list ds ∧ ds.length ≤ sizeLine ∧ ∀ x ∈ ds, PlainL n x
theorem PlainL.flat {n : Nat} {d : D} (h : flatD d = true) : PlainL (n + 1) d := .inl h
theorem PlainL.list {n : Nat} {ds : List D} (hz : ds.length ≤ sizeLine) (h : ∀ x ∈ ds, PlainL n x) : PlainL (n + 1) (.list ds) := .inr ⟨ds, rfl, hz, h⟩
theorem same_eq {N : SDen} : ∀ {n : Nat} {d : D} {S : SS}, PlainL n d → sameF N n [d, d] S = .ok (.bool true) [] S
  | 0, _, _, h => h.elim
  | n + 1, d, S, h => by
    refine defD_rt (show sameB N (sameF N n) [some d, some d, none, none] S = _ from ?_)
    rcases h with h | ⟨ds, h1, h2, h3⟩
    · obtain ⟨i1, _, _, i4, i5⟩ := flat_isi h
      have c1 := isT (cs := ["list", "tuple"]) (i := 1) (ρ := [some d, some d, none, none]) (S := S) rfl i1
      have c2 := isT (cs := ["dict"]) (i := 1) (ρ := [some d, some d, none, none]) (S := S) rfl i4
      refine (sSeq_nx (sIf_no c1)).trans ((sSeq_nx (sIf_no c2)).trans ?_)
      by_cases hb : isDs ["bool"] d = true
      · have c3 := isT (cs := ["bool"]) (i := 1) (ρ := [some d, some d, none, none]) (S := S) rfl hb
        have hn : d ≠ .none := by rintro rfl; simp [isDs, isD1, tyD] at hb
        refine sSeq_rt ((sIf_t (dOr_t c3)).trans (sSeq_rt (sRet_eq ?_)))
        exact (dAndV_t (isI rfl hb)).trans ((dAndV_t (isI rfl hb)).trans (dB_eq (dCmp_eq (dVar_eq rfl) (dVar_eq rfl) (flat_eqD h hn))))
      · rw [Bool.not_eq_true] at hb
        have c3 := isT (cs := ["bool"]) (i := 1) (ρ := [some d, some d, none, none]) (S := S) rfl hb
        have c4 := isT (cs := ["bool"]) (i := 0) (ρ := [some d, some d, none, none]) (S := S) rfl hb
        refine (sSeq_nx (sIf_no (dOr_ff c3 c4))).trans ?_
        by_cases hn : d = .none
        · subst hn
          have q : (dCmp isD (dVar 1) (dC .none)) [some (.none : D), some .none, none, none] S = .ok true [some .none, some .none, none, none] S := dCmp_eq (dVar_eq rfl) rfl rfl
          have q0 : (dCmp isD (dVar 0) (dC .none)) [some (.none : D), some .none, none, none] S = .ok true [some .none, some .none, none, none] S := dCmp_eq (dVar_eq rfl) rfl rfl
          exact sSeq_rt ((sIf_t (dOr_t q)).trans (sSeq_rt (sRet_eq ((dAndV_t (dB_eq q)).trans (dB_eq q0)))))
        · have z : isD d .none = some false := by cases d <;> first | (exact absurd rfl hn) | rfl
          have q : (dCmp isD (dVar 1) (dC .none)) [some d, some d, none, none] S = .ok false [some d, some d, none, none] S := dCmp_eq (dVar_eq rfl) rfl z
          have q0 : (dCmp isD (dVar 0) (dC .none)) [some d, some d, none, none] S = .ok false [some d, some d, none, none] S := dCmp_eq (dVar_eq rfl) rfl z
          refine (sSeq_nx (sIf_no (dOr_ff q q0))).trans ((sSeq_nx (sIf_no (dOr_ff (neI (d := d) rfl rfl) (neI (d := d) rfl rfl)))).trans (sSeq_rt (sRet_eq ?_)))
          have nv : dNotV (dIsi ["list", "tuple", "dict"] (dVar 0)) [some d, some d, none, none] S = .ok (.bool true) [some d, some d, none, none] S := by
            simp [dNotV, isI (cs := ["list", "tuple", "dict"]) (i := 0) (ρ := [some d, some d, none, none]) (S := S) rfl i5, Res.bind]
          exact (dAndV_t nv).trans (dB_eq (dCmp_eq (dVar_eq rfl) (dVar_eq rfl) (flat_eqD h hn)))
    · have c1 := isT (cs := ["list", "tuple"]) (i := 1) (ρ := [some d, some d, none, none]) (S := S) rfl (isi_two (.inl h1))
      refine sSeq_rt ((sIf_t c1).trans ((sSeq_nx (sIf_no (dOr_ff (neI (d := d) rfl rfl) (neI (d := d) rfl rfl)))).trans (sSeq_rt (sRet_eq ?_))))
      have hl : lenD [d] = some (.int ds.length) := by subst h1; rfl
      have hz : zipL [d, d] = some (ds.map fun x => .tuple [x, x]) := by subst h1; simp [zipL, zip_self]
      have e := lcL_map (t := .tup [(.nm 2), (.nm 3)]) (f := dCall (sameF N n) (dCons (dVar 2) (dCons (dVar 3) dNil))) (ρ := [some d, some d, none, none]) (S := S) (fun x => .tuple [x, x]) (fun _ => .bool true) (l := ds) fun x hx => ⟨[some d, some d, some x, some x], by simp [bindT, bindTs], dCall_eq (dCons2 (dVar_eq rfl) (dVar_eq rfl)) (same_eq (h3 x hx))⟩
      refine (dAndV_t (dB_eq (dCmp_eq (dPrim1 (dVar_eq rfl) hl) (dPrim1 (dVar_eq rfl) hl) ?_))).trans (dPrim1 (dLc_eq (dIt_ok (dCons2 (dVar_eq rfl) (dVar_eq rfl)) hz) (by simpa using h2) e) ?_)
      · simp [eqD]
      · rw [allD_map (fun _ => true)]; simp
/-! _law_loose -/
def looseB (N : SDen) (R : List D → SS → Res D) : SDen := (sSeq (sIf (dT (dIsi ["list", "tuple"] (dVar 1))) (sSeq (sAsg (dLc (dSeq (dVar 1)) (.nm 3) dYes (dCall R (dCons (dVar 0) (dCons (dVar 3) dNil))) [3]) (.nm 2)) (sSeq (sRet (dIf (dCmp eqD (dCall (defD 5 drawB) (dCons (dVar 0) (dCons (dC (.int 2)) dNil))) (dC (.int 0))) (dVar 2) (dPrim tupleD (dCons (dVar 2) dNil)))) sNop)) sNop) (sSeq (sIf (dT (dIsi ["dict"] (dVar 1))) N sNop) (sSeq (sRet (dVar 1)) sNop)))
def looseF (N : SDen) : Nat → List D → SS → Res D
  | 0 => fun _ _ => .stk
  | n + 1 => defD 5 (looseB N (looseF N n))
def Loose : Nat → D → D → Prop
  | 0, _, _ => False
  | n + 1, d, e => (flatD d = true ∧ e = d) ∨ ∃ ds es, (d = .list ds ∨ d = .tuple ds) ∧ (e = .list es ∨ e = .tuple es) ∧ Paired (Loose n) ds es
/-- how many lists and tuples -/
def nodes : Nat → D → Nat
  | 0, _ => 0
  | n + 1, .list ds => (ds.map (nodes n)).sum + 1
  | n + 1, .tuple ds => (ds.map (nodes n)).sum + 1
  | _ + 1, _ => 0
theorem loose_eq {N : SDen} {q : D} : ∀ {n k : Nat} {d : D} {S : SS}, Plain n d → StOk (k + nodes n d) S → ∃ e S', looseF N n [q, d] S = .ok e [] S' ∧ Loose n d e ∧ StOk k S'
  | 0, _, _, _, h, _ => h.elim
  | n + 1, k, d, S, h, st => by
    rcases h with h | ⟨ds, h1, h2, h3⟩
    · refine ⟨d, S, defD_rt (show looseB N (looseF N n) [some q, some d, none, none, none] S = _ from ?_), .inl ⟨h, rfl⟩, st.le (by omega)⟩
      obtain ⟨i1, _, _, i4, _⟩ := flat_isi h
      have c1 := isT (cs := ["list", "tuple"]) (i := 1) (ρ := [some q, some d, none, none, none]) (S := S) rfl i1
      have c2 := isT (cs := ["dict"]) (i := 1) (ρ := [some q, some d, none, none, none]) (S := S) rfl i4
      exact (sSeq_nx (sIf_no c1)).trans ((sSeq_nx (sIf_no c2)).trans (sSeq_rt (sRet_eq (dVar_eq rfl))))
    · have hn : nodes (n + 1) d = (ds.map (nodes n)).sum + 1 := by rcases h1 with rfl | rfl <;> rfl
      rw [hn] at st
      obtain ⟨ys, S1, e, hp, st1⟩ := lcL_draw (t := .nm 3) (c := dYes) (f := dCall (looseF N n) (dCons (dVar 0) (dCons (dVar 3) dNil))) (ρ := [some q, some d, none, none, none]) (S := S) (fun i S => StOk (k + ((ds.drop i).map (nodes n)).sum + 1) S) (Loose n) (ds := ds) (fun i x S hx hi => by
        have hm := List.mem_of_getElem? hx
        have hd : ds.drop i = x :: ds.drop (i + 1) := by
          obtain ⟨hlt, rfl⟩ := List.getElem?_eq_some_iff.mp hx
          exact List.drop_eq_getElem_cons hlt
        rw [hd, List.map_cons, List.sum_cons] at hi
        obtain ⟨y, S2, e, l, st2⟩ := loose_eq (k := k + ((ds.drop (i + 1)).map (nodes n)).sum + 1) (h3 x hm) (hi.le (by omega))
        exact ⟨[some q, some d, none, some x, none], rfl, ⟨_, rfl⟩, y, _, S2, dCall_eq (dCons2 (dVar_eq rfl) (dVar_eq rfl)) e, l, st2⟩) (by simpa [Nat.add_assoc] using st)
      simp only [List.drop_length, List.map_nil, List.sum_nil, Nat.add_zero] at st1
      obtain ⟨r, S2, er, hr, st2⟩ := draw_nat (q := q) (m := 2) (by decide) st1
      have c1 := isT (cs := ["list", "tuple"]) (i := 1) (ρ := [some q, some d, none, none, none]) (S := S) rfl (isi_two h1)
      have cd : (dCmp eqD (dCall (defD 5 drawB) (dCons (dVar 0) (dCons (dC (.int 2)) dNil))) (dC (.int 0))) [some q, some d, some (.list ys), none, none] S1 = .ok ((r : Int) == 0) [some q, some d, some (.list ys), none, none] S2 :=
        dCmp_eq (dCall_eq (dCons2 (dVar_eq rfl) rfl) er) rfl rfl
      have hd : ∀ e S', sRet (dIf (dCmp eqD (dCall (defD 5 drawB) (dCons (dVar 0) (dCons (dC (.int 2)) dNil))) (dC (.int 0))) (dVar 2) (dPrim tupleD (dCons (dVar 2) dNil))) [some q, some d, some (.list ys), none, none] S1 = .rt e S' → looseF N (n + 1) [q, d] S = .ok e [] S' := fun e2 S' h => by
        refine defD_rt (show looseB N (looseF N n) [some q, some d, none, none, none] S = _ from ?_)
        exact sSeq_rt ((sIf_t c1).trans ((sSeq_nx (sAsg_eq (ρ2 := [some q, some d, some (.list ys), none, none]) (dLc_eq (dSeq_two (dVar_eq rfl) h1) h2 e) rfl)).trans (sSeq_rt h)))
      by_cases h0 : ((r : Int) == 0) = true
      · rw [h0] at cd
        exact ⟨.list ys, S2, hd _ _ (sRet_eq ((dIf_t cd).trans (dVar_eq rfl))), .inr ⟨ds, ys, h1, .inl rfl, hp⟩, st2⟩
      · rw [Bool.not_eq_true] at h0
        rw [h0] at cd
        exact ⟨.tuple ys, S2, hd _ _ (sRet_eq ((dIf_f cd).trans (dPrim1 (dVar_eq rfl) rfl))), .inr ⟨ds, ys, h1, .inr rfl, hp⟩, st2⟩
end PD

/-! things whose repr is a text -/
namespace PD
open PySem L2
structure ROk (k b : Nat) (d : D) : Prop where
  sh : d.showable = true
  nd : d.hasDict = false
  lay : d.canLay0 = true
  lv : d.leavesShort 13 = true
  dp : d.depth ≤ k
  bk : d.bulk ≤ b
theorem rok_int {i : Int} (h : i.natAbs < 10 ^ 12) : ROk 0 0 (.int i) := by
  refine ⟨?_, rfl, rfl, ?_, Nat.le_refl _, Nat.le_refl _⟩
  · simp only [PyData.showable, decide_eq_true_eq]
    by_cases h0 : i.natAbs = 0
    · rw [h0]; decide
    · have h2 : (10 : Nat) ^ 12 < 2 ^ 40 := by decide
      exact Nat.lt_trans ((Nat.log2_lt h0).mpr (Nat.lt_trans h h2)) (by decide)
  · simp only [PyData.leavesShort, decide_eq_true_eq]
    exact PyData.shown_int_le h
theorem rok_all {k b : Nat} : ∀ {ds : List D}, (∀ x ∈ ds, ROk k b x) → PyData.showableAll ds = true ∧ PyData.hasDictAll ds = false ∧ PyData.canLayAll0 ds = true ∧ PyData.leavesShortAll 13 ds = true ∧ PyData.depthAll ds ≤ k ∧ PyData.bulkAll ds ≤ ds.length * (b + 1)
  | [], _ => ⟨rfl, rfl, rfl, rfl, Nat.zero_le _, Nat.zero_le _⟩
  | d :: ds, h => by
    obtain ⟨a1, a2, a3, a4, a5, a6⟩ := rok_all (ds := ds) fun x hx => h x (by simp [hx])
    obtain ⟨b1, b2, b3, b4, b5, b6⟩ := h d (by simp)
    refine ⟨by simp [PyData.showableAll, a1, b1], by simp [PyData.hasDictAll, a2, b2], by simp [PyData.canLayAll0, a3, b3], by simp [PyData.leavesShortAll, a4, b4], ?_, ?_⟩
    · simp only [PyData.depthAll]; omega
    · simp only [PyData.bulkAll, List.length_cons, Nat.add_mul]; omega
theorem rok_list {k b n : Nat} {ds : List D} (h : ∀ x ∈ ds, ROk k b x) (hl : ds.length ≤ n) : ROk (k + 1) (n * (b + 1)) (.list ds) := by
  obtain ⟨a1, a2, a3, a4, a5, a6⟩ := rok_all h
  have := Nat.mul_le_mul_right (b + 1) hl
  exact ⟨by simpa [PyData.showable] using a1, by simpa [PyData.hasDict] using a2, by simpa [PyData.canLay0] using a3, by simpa [PyData.leavesShort] using a4, by simp only [PyData.depth]; omega, by simp only [PyData.bulk]; omega⟩
theorem rok_tuple {k b n : Nat} {ds : List D} (h : ∀ x ∈ ds, ROk k b x) (hl : ds.length ≤ n) : ROk (k + 1) (n * (b + 1)) (.tuple ds) := by
  obtain ⟨a1, a2, a3, a4, a5, a6⟩ := rok_all h
  have := Nat.mul_le_mul_right (b + 1) hl
  exact ⟨by simpa [PyData.showable] using a1, by simpa [PyData.hasDict] using a2, by simpa [PyData.canLay0] using a3, by simpa [PyData.leavesShort] using a4, by simp only [PyData.depth]; omega, by simp only [PyData.bulk]; omega⟩
theorem rok_repr {k b : Nat} {d : D} (h : ROk k b d) (hs : isSeqD d = true) (hk : k ≤ 60) (hb : b ≤ 2 ^ 20) : reprD [d] = some (.str d.shown) := by
  have h1 := PyData.shown_fits_bulk (B := 13) (by decide) (by decide) h.lv (Nat.le_trans h.bk hb)
  have h2 : d.depth ≤ 60 := Nat.le_trans h.dp hk
  have : reprOk d = true := by simp [reprOk, hs, h.sh, h.nd, h.lay, h1, h2]
  simp [reprD, this]
theorem dFlat_eq {f : Den D} {ρ : Rho} {S S1 : SS} {ds : List D} (h : f ρ S = .ok (.list ds) ρ S1) (hf : ds.all flatD = true) : dFlat f ρ S = .ok (.list ds) ρ S1 := by
  simp [dFlat, h, Res.bind]
  simpa using hf
theorem sSpoil_eq {i : Nat} {ρ : Rho} {S : SS} {ds : List D} (h : ownL i ρ = some ds) (hf : ds.all flatD = true) (hl : ds.length < sizeLine) : sSpoil i ρ S = .nx (ρ.set i (some (.list (ds ++ [.str "late"])))) S := by
  unfold sSpoil
  rw [h]
  simp only [optR, Res.sr]
  rw [if_pos ⟨hf, hl⟩]
end PD

namespace K72
open PySem L2 PyProof.Rows PD
def topS (i : Nat) : Stmt := PySem.Challenge.pw_orderalone_k72_whole_main_needless_excha.main.body.getD i (.Pass ⟨0, 0, 0, 0⟩)
structure Z (mg : Str → Option Value) : Prop where
  abs : mg "abs" = none
  all : mg "all" = none
  any : mg "any" = none
  bool_ : mg "bool" = none
  dict_ : mg "dict" = none
  enumerate : mg "enumerate" = none
  int_ : mg "int" = none
  isinstance : mg "isinstance" = none
  len : mg "len" = none
  list_ : mg "list" = none
  max : mg "max" = none
  range : mg "range" = none
  repr : mg "repr" = none
  sorted : mg "sorted" = none
  str_ : mg "str" = none
  tuple : mg "tuple" = none
  zip : mg "zip" = none
abbrev s_is_list : Stmt := topS 1
def n_is_list : List Str := ["thing"]
def p_is_list : List Str := ["thing"]
theorem sc_is_list : FnScope n_is_list p_is_list (defScope s_is_list) := ⟨rfl, rfl, rfl, by decide +kernel, rfl, by decide +kernel, by decide +kernel⟩
def b_is_list : SDen := (sSeq (sRet (dIsi ["list", "tuple"] (dVar 0))) sNop)
def D_is_list : List D → SS → Res D := defD n_is_list.length b_is_list
theorem ok_is_list {P : Program} {w : World} {K : PySem.W.Frag} {mg : Str → Option Value} {base : Heap} {f : Addr} {fd : FuncData} (F : Fun K "is_list" "is_list" s_is_list f fd) (z : Z mg)   : FnOk P w K mg base CX0 1 f fd p_is_list (spD K ec0 [false] D_is_list false) := by
  refine fn_pd (k := 0) (N := n_is_list) (ps := p_is_list) (ts := [false]) (fr := false) (st := s_is_list) (body := b_is_list) (rest := []) (T := ⟨[.dead], [], []⟩) F sc_is_list rfl rfl fun cdv A outer s H E hr => ?_
  have nd : (n_is_list).Nodup := sc_is_list.nd
  exact (bj_cons (Γm := [.dead]) (sj_ret (ej_isiT (fr := false) (fr' := false) (by decide) rfl z.isinstance (.cons rfl z.list_ boot_list (by decide) (by decide) rfl (.cons rfl z.tuple boot_tuple (by decide) (by decide) rfl .nil)) (ej_top (v 0))))
 k_nil)
abbrev s_is_whole : Stmt := topS 2
def n_is_whole : List Str := ["thing"]
def p_is_whole : List Str := ["thing"]
theorem sc_is_whole : FnScope n_is_whole p_is_whole (defScope s_is_whole) := ⟨rfl, rfl, rfl, by decide +kernel, rfl, by decide +kernel, by decide +kernel⟩
def b_is_whole : SDen := (sSeq (sRet (dAndV (dIsi ["int"] (dVar 0)) (dNotV (dIsi ["bool"] (dVar 0))))) sNop)
def D_is_whole : List D → SS → Res D := defD n_is_whole.length b_is_whole
theorem ok_is_whole {P : Program} {w : World} {K : PySem.W.Frag} {mg : Str → Option Value} {base : Heap} {f : Addr} {fd : FuncData} (F : Fun K "is_whole" "is_whole" s_is_whole f fd) (z : Z mg)   : FnOk P w K mg base CX0 1 f fd p_is_whole (spD K ec0 [false] D_is_whole false) := by
  refine fn_pd (k := 0) (N := n_is_whole) (ps := p_is_whole) (ts := [false]) (fr := false) (st := s_is_whole) (body := b_is_whole) (rest := []) (T := ⟨[.dead], [], []⟩) F sc_is_whole rfl rfl fun cdv A outer s H E hr => ?_
  have nd : (n_is_whole).Nodup := sc_is_whole.nd
  exact (bj_cons (Γm := [.dead]) (sj_ret (ej_and (ej_isi1 (fr := false) (fr' := false) (by decide) rfl z.isinstance (.cons rfl z.int_ boot_int (by decide) (by decide) rfl .nil) (ej_top (v 0))) (ej_one (ej_not (fr := false) (ej_isi1 (fr := false) (fr' := false) (by decide) rfl z.isinstance (.cons rfl z.bool_ boot_bool (by decide) (by decide) rfl .nil) (ej_top (v 0)))))))
 k_nil)
abbrev s_is_number : Stmt := topS 3
def n_is_number : List Str := ["thing"]
def p_is_number : List Str := ["thing"]
theorem sc_is_number : FnScope n_is_number p_is_number (defScope s_is_number) := ⟨rfl, rfl, rfl, by decide +kernel, rfl, by decide +kernel, by decide +kernel⟩
def b_is_number : SDen := (sSeq (sRet (dAndV (dCall D_is_whole (dCons (dVar 0) dNil)) (dB (dCmp geD (dVar 0) (dC (.int 0)))))) sNop)
def D_is_number : List D → SS → Res D := defD n_is_number.length b_is_number
theorem ok_is_number {P : Program} {w : World} {K : PySem.W.Frag} {mg : Str → Option Value} {base : Heap} {f : Addr} {fd : FuncData} (F : Fun K "is_number" "is_number" s_is_number f fd) (z : Z mg)  (c_is_whole : CallOk P w K mg base 1 "is_whole" p_is_whole [false] D_is_whole false) : FnOk P w K mg base CX0 2 f fd p_is_number (spD K ec0 [false] D_is_number false) := by
  refine fn_pd (k := 1) (N := n_is_number) (ps := p_is_number) (ts := [false]) (fr := false) (st := s_is_number) (body := b_is_number) (rest := []) (T := ⟨[.dead], [], []⟩) F sc_is_number rfl rfl fun cdv A outer s H E hr => ?_
  have nd : (n_is_number).Nodup := sc_is_number.nd
  exact (bj_cons (Γm := [.dead]) (sj_ret (ej_and (ej_c c_is_whole hr (aj_cons (m := .val false) (v 0) aj_nil rfl)) (ej_one (e_c (fr := false) (c_ge hr) (ej_top (v 0)) (ej_top (ej_int (fr := false)))))))
 k_nil)
abbrev s_is_row : Stmt := topS 4
def n_is_row : List Str := ["thing", "many"]
def p_is_row : List Str := ["thing", "many"]
theorem sc_is_row : FnScope n_is_row p_is_row (defScope s_is_row) := ⟨rfl, rfl, rfl, by decide +kernel, rfl, by decide +kernel, by decide +kernel⟩
def b_is_row : SDen := (sSeq (sRet (dAndV (dCall D_is_list (dCons (dVar 0) dNil)) (dB (dCmp eqD (dPrim lenD (dCons (dVar 0) dNil)) (dVar 1))))) sNop)
def D_is_row : List D → SS → Res D := defD n_is_row.length b_is_row
theorem ok_is_row {P : Program} {w : World} {K : PySem.W.Frag} {mg : Str → Option Value} {base : Heap} {f : Addr} {fd : FuncData} (F : Fun K "is_row" "is_row" s_is_row f fd) (z : Z mg)  (c_is_list : CallOk P w K mg base 1 "is_list" p_is_list [false] D_is_list false) : FnOk P w K mg base CX0 2 f fd p_is_row (spD K ec0 [false, false] D_is_row false) := by
  refine fn_pd (k := 1) (N := n_is_row) (ps := p_is_row) (ts := [false, false]) (fr := false) (st := s_is_row) (body := b_is_row) (rest := []) (T := ⟨[.dead, .dead], [], []⟩) F sc_is_row rfl rfl fun cdv A outer s H E hr => ?_
  have nd : (n_is_row).Nodup := sc_is_row.nd
  exact (bj_cons (Γm := [.dead, .dead]) (sj_ret (ej_and (ej_c c_is_list hr (aj_cons (m := .val false) (v 0) aj_nil rfl)) (ej_one (e_c (fr := false) (c_eq hr) (ej_top (b_len (fr := false) (ej_top (v 0)) z.len)) (ej_top (v 1))))))
 k_nil)
abbrev s_first_bad_pair : Stmt := topS 12
def n_first_bad_pair : List Str := ["many", "net", "index", "pair"]
def p_first_bad_pair : List Str := ["many", "net"]
theorem sc_first_bad_pair : FnScope n_first_bad_pair p_first_bad_pair (defScope s_first_bad_pair) := ⟨rfl, rfl, rfl, by decide +kernel, rfl, by decide +kernel, by decide +kernel⟩
def b_first_bad_pair : SDen := (sSeq (sIf (dNot (dT (dCall D_is_list (dCons (dVar 1) dNil)))) (sSeq (sRet (dC (.int 0))) sNop) sNop) (sSeq (sFor (dIt enumA (dCons (dVar 1) dNil)) (.tup [(.nm 2), (.nm 3)]) (sSeq (sIf (dOr (dNot (dT (dCall D_is_row (dCons (dVar 3) (dCons (dC (.int 2)) dNil))))) (dOr (dNot (dT (dCall D_is_number (dCons (dBin ixD (dVar 3) (dC (.int 0))) dNil)))) (dOr (dNot (dT (dCall D_is_number (dCons (dBin ixD (dVar 3) (dC (.int 1))) dNil)))) (dNot (dChain ltD ltD (dBin ixD (dVar 3) (dC (.int 0))) (dBin ixD (dVar 3) (dC (.int 1))) (dVar 0)))))) (sSeq (sRet (dVar 2)) sNop) sNop) sNop)) (sSeq (sRet (dC .none)) sNop)))
def D_first_bad_pair : List D → SS → Res D := defD n_first_bad_pair.length b_first_bad_pair
theorem ok_first_bad_pair {P : Program} {w : World} {K : PySem.W.Frag} {mg : Str → Option Value} {base : Heap} {f : Addr} {fd : FuncData} (F : Fun K "first_bad_pair" "first_bad_pair" s_first_bad_pair f fd) (z : Z mg)  (c_is_list : CallOk P w K mg base 1 "is_list" p_is_list [false] D_is_list false) (c_is_row : CallOk P w K mg base 2 "is_row" p_is_row [false, false] D_is_row false) (c_is_number : CallOk P w K mg base 2 "is_number" p_is_number [false] D_is_number false) : FnOk P w K mg base CX0 3 f fd p_first_bad_pair (spD K ec0 [false, false] D_first_bad_pair false) := by
  refine fn_pd (k := 2) (N := n_first_bad_pair) (ps := p_first_bad_pair) (ts := [false, false]) (fr := false) (st := s_first_bad_pair) (body := b_first_bad_pair) (rest := [.val false, .val false]) (T := ⟨[.dead, .dead, .dead, .dead], [], []⟩) F sc_first_bad_pair rfl rfl fun cdv A outer s H E hr => ?_
  have nd : (n_first_bad_pair).Nodup := sc_first_bad_pair.nd
  exact (bj_cons (Γm := [.val false, .val false, .val false, .val false]) (sj_if (tj_not (t_v (fr := false) (ej_c c_is_list hr (aj_cons (m := .val false) (v 1) aj_nil rfl)))) (bj_cons (Γm := [.val false, .val false, .val false, .val false]) (sj_ret (ej_int (fr := false)))
 k_nil)
 k_nil)
 (bj_cons (Γm := [.val false, .val false, .val false, .val false]) (k_for (fr' := false) rfl PassesOwn.never (i_enum (fr := false) (v 1) z.enumerate) (gj_tup rfl (gsj_cons (gj_nm (i := 2) nd rfl (Or.inl rfl) (Or.inl rfl)) (gsj_cons (gj_nm (i := 3) nd rfl (Or.inl rfl) (Or.inl rfl)) gsj_nil)))
 (bj_cons (Γm := [.val false, .val false, .val false, .val false]) (sj_if (tj_w (wj_or (tj_not (t_v (fr := false) (ej_c c_is_row hr (aj_cons (m := .val false) (v 3) (aj_cons (m := .val false) (ej_int (fr := false)) aj_nil rfl) rfl)))) (wj_or (tj_not (t_v (fr := false) (ej_c c_is_number hr (aj_cons (m := .val false) (e_ix (fr := false) hr (ej_top (v 3)) (ej_top (ej_int (fr := false)))) aj_nil rfl)))) (wj_or (tj_not (t_v (fr := false) (ej_c c_is_number hr (aj_cons (m := .val false) (e_ix (fr := false) hr (ej_top (v 3)) (ej_top (ej_int (fr := false)))) aj_nil rfl)))) (wj_or1 (tj_not (t_ch (fr := false) (c_lt hr) (c_lt hr) (ej_top (e_ix (fr := false) hr (ej_top (v 3)) (ej_top (ej_int (fr := false))))) (ej_top (e_ix (fr := false) hr (ej_top (v 3)) (ej_top (ej_int (fr := false))))) (ej_top (v 0))))))))) (bj_cons (Γm := [.val false, .val false, .val false, .val false]) (sj_ret (v 2))
 k_nil)
 k_nil)
 k_nil))
 (bj_cons (Γm := [.dead, .dead, .dead, .dead]) (sj_ret (ej_non (fr := false)))
 k_nil)))
abbrev s_check_places : Stmt := topS 13
def n_check_places : List Str := ["many", "net", "wrong", "pair"]
def p_check_places : List Str := ["many", "net"]
theorem sc_check_places : FnScope n_check_places p_check_places (defScope s_check_places) := ⟨rfl, rfl, rfl, by decide +kernel, rfl, by decide +kernel, by decide +kernel⟩
def b_check_places : SDen := (sSeq (sAsg (dCall D_first_bad_pair (dCons (dVar 0) (dCons (dVar 1) dNil))) (.nm 2)) (sSeq (sIf (dCmp isNotD (dVar 2) (dC .none)) (sSeq sNever sNop) sNop) (sSeq (sRet (dLc (dSeq (dVar 1)) (.nm 3) dYes (dPrim tupleD (dCons (dVar 3) dNil)) [3])) sNop)))
def D_check_places : List D → SS → Res D := defD n_check_places.length b_check_places
theorem ok_check_places {P : Program} {w : World} {K : PySem.W.Frag} {mg : Str → Option Value} {base : Heap} {f : Addr} {fd : FuncData} (F : Fun K "check_places" "check_places" s_check_places f fd) (z : Z mg)  (c_first_bad_pair : CallOk P w K mg base 3 "first_bad_pair" p_first_bad_pair [false, false] D_first_bad_pair false) : FnOk P w K mg base CX0 4 f fd p_check_places (spD K ec0 [false, false] D_check_places false) := by
  refine fn_pd (k := 3) (N := n_check_places) (ps := p_check_places) (ts := [false, false]) (fr := false) (st := s_check_places) (body := b_check_places) (rest := [.dead, .dead]) (T := ⟨[.dead, .dead, .dead, .dead], [], []⟩) F sc_check_places rfl rfl fun cdv A outer s H E hr => ?_
  have nd : (n_check_places).Nodup := sc_check_places.nd
  exact (bj_cons (Γm := [.val false, .val false, .val false, .dead]) (sj_asg (fr' := false) (ej_c c_first_bad_pair hr (aj_cons (m := .val false) (v 0) (aj_cons (m := .val false) (v 1) aj_nil rfl) rfl)) (gj_nm (i := 2) nd rfl (Or.inl rfl) (Or.inl rfl)) rfl)
 (bj_cons (Γm := [.val false, .val false, .val false, .dead]) (sj_if (t_c (fr := false) (c_isNot hr) (ej_top (v 2)) (ej_top (ej_non (fr := false)))) (bj_cons (Γm := [.val false, .val false, .val false, .dead]) sj_never
 k_nil)
 k_nil)
 (bj_cons (Γm := [.dead, .dead, .dead, .dead]) (sj_ret (ej_new (ej_lc (fr := false) (fr' := false) (own := [("pair", 3)]) rfl nd (ij_seq (fr := false) (v 1)) (blkOk_by (own := [("pair", 3)]) (N := n_check_places) (sc := (defScope s_check_places)) (by decide +kernel)) (fun _ _ _ _ _ => (gj_nm (i := 3) nd rfl (Or.inl rfl) (Or.inr rfl))) (fun _ _ _ _ _ => tsj_nil) (fun _ _ _ _ _ => (b_tuple (fr := false) (ej_top (v 3)) z.tuple)) (by decide))))
 k_nil)))
abbrev s_check_net : Stmt := topS 14
def n_check_net : List Str := ["many", "net"]
def p_check_net : List Str := ["many", "net"]
theorem sc_check_net : FnScope n_check_net p_check_net (defScope s_check_net) := ⟨rfl, rfl, rfl, by decide +kernel, rfl, by decide +kernel, by decide +kernel⟩
def b_check_net : SDen := (sSeq (sIf (dOr (dNot (dT (dCall D_is_number (dCons (dVar 0) dNil)))) (dCmp ltD (dVar 0) (dC (.int 1)))) (sSeq sNever sNop) sNop) (sSeq (sRet (dCall D_check_places (dCons (dVar 0) (dCons (dVar 1) dNil)))) sNop))
def D_check_net : List D → SS → Res D := defD n_check_net.length b_check_net
theorem ok_check_net {P : Program} {w : World} {K : PySem.W.Frag} {mg : Str → Option Value} {base : Heap} {f : Addr} {fd : FuncData} (F : Fun K "check_net" "check_net" s_check_net f fd) (z : Z mg)  (c_is_number : CallOk P w K mg base 2 "is_number" p_is_number [false] D_is_number false) (c_check_places : CallOk P w K mg base 4 "check_places" p_check_places [false, false] D_check_places false) : FnOk P w K mg base CX0 5 f fd p_check_net (spD K ec0 [false, false] D_check_net false) := by
  refine fn_pd (k := 4) (N := n_check_net) (ps := p_check_net) (ts := [false, false]) (fr := false) (st := s_check_net) (body := b_check_net) (rest := []) (T := ⟨[.dead, .dead], [], []⟩) F sc_check_net rfl rfl fun cdv A outer s H E hr => ?_
  have nd : (n_check_net).Nodup := sc_check_net.nd
  exact (bj_cons (Γm := [.val false, .val false]) (sj_if (tj_w (wj_or (tj_not (t_v (fr := false) (ej_c c_is_number hr (aj_cons (m := .val false) (v 0) aj_nil rfl)))) (wj_or1 (t_c (fr := false) (c_lt hr) (ej_top (v 0)) (ej_top (ej_int (fr := false))))))) (bj_cons (Γm := [.val false, .val false]) sj_never
 k_nil)
 k_nil)
 (bj_cons (Γm := [.dead, .dead]) (sj_ret (ej_c c_check_places hr (aj_cons (m := .val false) (v 0) (aj_cons (m := .val false) (v 1) aj_nil rfl) rfl)))
 k_nil))
abbrev s_run_on : Stmt := topS 15
def n_run_on : List Str := ["net", "row", "found", "moved", "index", "low", "high"]
def p_run_on : List Str := ["net", "row"]
theorem sc_run_on : FnScope n_run_on p_run_on (defScope s_run_on) := ⟨rfl, rfl, rfl, by decide +kernel, rfl, by decide +kernel, by decide +kernel⟩
def b_run_on : SDen := (sSeq (sPar (dCons (dPrimL listD (dCons (dVar 1) dNil)) (dCons (dLst dNil) dNil)) [2, 3]) (sSeq (sFor (dIt enumA (dCons (dVar 0) dNil)) (.tup [(.nm 4), (.tup [(.nm 5), (.nm 6)])]) (sSeq (sIf (dCmp ltD (dBin ixD (dVar 2) (dVar 6)) (dBin ixD (dVar 2) (dVar 5))) (sSeq (sAsgA (dTup (dCons (dBin ixD (dVar 2) (dVar 6)) (dCons (dBin ixD (dVar 2) (dVar 5)) dNil))) (aTup 2 (aCons (aSub 2 (dVar 5)) (aCons (aSub 2 (dVar 6)) aNil)))) (sSeq (sExpr (dMut 3 appD (dCons (dVar 4) dNil))) sNop)) sNop) sNop)) (sSeq (sRet (dTup (dCons (dVar 2) (dCons (dVar 3) dNil)))) sNop)))
def D_run_on : List D → SS → Res D := defD n_run_on.length b_run_on
theorem ok_run_on {P : Program} {w : World} {K : PySem.W.Frag} {mg : Str → Option Value} {base : Heap} {f : Addr} {fd : FuncData} (F : Fun K "run_on" "run_on" s_run_on f fd) (z : Z mg)   : FnOk P w K mg base CX0 1 f fd p_run_on (spD K ec0 [false, false] D_run_on false) := by
  refine fn_pd (k := 0) (N := n_run_on) (ps := p_run_on) (ts := [false, false]) (fr := false) (st := s_run_on) (body := b_run_on) (rest := [.dead, .dead, .val false, .val false, .val false]) (T := ⟨[.dead, .dead, .dead, .dead, .dead, .dead, .dead], [], []⟩) F sc_run_on rfl rfl fun cdv A outer s H E hr => ?_
  have nd : (n_run_on).Nodup := sc_run_on.nd
  exact (bj_cons (Γm := [.val false, .val false, .own false, .own false, .val false, .val false, .val false]) (sj_par2 (m1 := .new false) (m2 := .new false) (i := 2) (j := 3) rfl nd rfl rfl (by decide) rfl rfl (aj_cons (m := .new false) (b_list (fr := false) (ej_top (v 1)) z.list_) (aj_cons (m := .new false) (ej_lst (fr := false) lj_nil) aj_nil rfl) rfl) rfl (by decide) (by decide) rfl rfl)
 (bj_cons (Γm := [.val false, .val false, .own false, .own false, .val false, .val false, .val false]) (k_for (fr' := false) rfl PassesOwn.never (i_enum (fr := false) (v 0) z.enumerate) (gj_tup rfl (gsj_cons (gj_nm (i := 4) nd rfl (Or.inl rfl) (Or.inl rfl)) (gsj_cons (gj_tup rfl (gsj_cons (gj_nm (i := 5) nd rfl (Or.inl rfl) (Or.inl rfl)) (gsj_cons (gj_nm (i := 6) nd rfl (Or.inl rfl) (Or.inl rfl)) gsj_nil))) gsj_nil)))
 (bj_cons (Γm := [.val false, .val false, .own false, .own false, .val false, .val false, .val false]) (sj_if (t_c (fr := false) (c_lt hr) (ej_top (e_ix (fr := false) hr (vo 2) (ej_top (v 6)))) (ej_top (e_ix (fr := false) hr (vo 2) (ej_top (v 5))))) (bj_cons (Γm := [.val false, .val false, .own false, .own false, .val false, .val false, .val false]) (k_asgA (fr' := false) (ej_tup (fr := false) (lj_cons (e_ix (fr := false) hr (vo 2) (ej_top (v 6))) (lj_cons (e_ix (fr := false) hr (vo 2) (ej_top (v 5))) lj_nil))) (ag_tup (n := 2) rfl (ags_cons (ag_sub (fr := false) (fr' := false) (i := 2) rfl (Or.inl rfl) (by decide) (by decide) rfl (v 5)) (ags_cons (ag_sub (fr := false) (fr' := false) (i := 2) rfl (Or.inl rfl) (by decide) (by decide) rfl (v 6)) ags_nil))))
 (bj_cons (Γm := [.val false, .val false, .own false, .own false, .val false, .val false, .val false]) (k_expr (m := .val false) (ej_append (fr := false) (i := 3) rfl (Or.inl rfl) (by decide) (by decide) rfl (v 4)))
 k_nil))
 k_nil)
 k_nil))
 (bj_frz (i := 2) (fr' := false) rfl (bj_frz (i := 3) (fr' := false) rfl (bj_cons (Γm := [.dead, .dead, .dead, .dead, .dead, .dead, .dead]) (sj_ret (ej_tup (fr := false) (lj_cons (v 2) (lj_cons (v 3) lj_nil))))
 k_nil)))))
abbrev s_net_row : Stmt := topS 16
def n_net_row : List Str := ["many", "net", "row", "mine", "number"]
def p_net_row : List Str := ["many", "net", "row"]
theorem sc_net_row : FnScope n_net_row p_net_row (defScope s_net_row) := ⟨rfl, rfl, rfl, by decide +kernel, rfl, by decide +kernel, by decide +kernel⟩
def b_net_row : SDen := (sSeq (sAsg (dCall D_check_net (dCons (dVar 0) (dCons (dVar 1) dNil))) (.nm 3)) (sSeq (sIf (dOr (dNot (dT (dCall D_is_row (dCons (dVar 2) (dCons (dVar 0) dNil))))) (dNot (dT (dPrim allD (dCons (dLc (dSeq (dVar 2)) (.nm 4) dYes (dCall D_is_whole (dCons (dVar 4) dNil)) [4]) dNil))))) (sSeq sNever sNop) sNop) (sSeq (sRet (dBin ixD (dCall D_run_on (dCons (dVar 3) (dCons (dVar 2) dNil))) (dC (.int 0)))) sNop)))
def D_net_row : List D → SS → Res D := defD n_net_row.length b_net_row
theorem ok_net_row {P : Program} {w : World} {K : PySem.W.Frag} {mg : Str → Option Value} {base : Heap} {f : Addr} {fd : FuncData} (F : Fun K "net_row" "net_row" s_net_row f fd) (z : Z mg)  (c_check_net : CallOk P w K mg base 5 "check_net" p_check_net [false, false] D_check_net false) (c_is_row : CallOk P w K mg base 2 "is_row" p_is_row [false, false] D_is_row false) (c_is_whole : CallOk P w K mg base 1 "is_whole" p_is_whole [false] D_is_whole false) (c_run_on : CallOk P w K mg base 1 "run_on" p_run_on [false, false] D_run_on false) : FnOk P w K mg base CX0 6 f fd p_net_row (spD K ec0 [false, false, false] D_net_row false) := by
  refine fn_pd (k := 5) (N := n_net_row) (ps := p_net_row) (ts := [false, false, false]) (fr := false) (st := s_net_row) (body := b_net_row) (rest := [.dead, .dead]) (T := ⟨[.dead, .dead, .dead, .dead, .dead], [], []⟩) F sc_net_row rfl rfl fun cdv A outer s H E hr => ?_
  have nd : (n_net_row).Nodup := sc_net_row.nd
  exact (bj_cons (Γm := [.val false, .val false, .val false, .val false, .dead]) (sj_asg (fr' := false) (ej_c c_check_net hr (aj_cons (m := .val false) (v 0) (aj_cons (m := .val false) (v 1) aj_nil rfl) rfl)) (gj_nm (i := 3) nd rfl (Or.inl rfl) (Or.inl rfl)) rfl)
 (bj_cons (Γm := [.val false, .val false, .val false, .val false, .dead]) (sj_if (tj_w (wj_or (tj_not (t_v (fr := false) (ej_c c_is_row hr (aj_cons (m := .val false) (v 2) (aj_cons (m := .val false) (v 0) aj_nil rfl) rfl)))) (wj_or1 (tj_not (t_v (fr := false) (b_all (fr := false) (ej_top (ej_new (ej_lc (fr := false) (fr' := false) (own := [("number", 4)]) rfl nd (ij_seq (fr := false) (v 2)) (blkOk_by (own := [("number", 4)]) (N := n_net_row) (sc := (defScope s_net_row)) (by decide +kernel)) (fun _ _ _ _ _ => (gj_nm (i := 4) nd rfl (Or.inl rfl) (Or.inr rfl))) (fun _ _ _ _ _ => tsj_nil) (fun _ _ _ _ _ => (ej_c c_is_whole hr (aj_cons (m := .val false) (v 4) aj_nil rfl))) (by decide)))) z.all)))))) (bj_cons (Γm := [.val false, .val false, .val false, .val false, .dead]) sj_never
 k_nil)
 k_nil)
 (bj_cons (Γm := [.dead, .dead, .dead, .dead, .dead]) (sj_ret (e_ix (fr := false) hr (ej_top (ej_c c_run_on hr (aj_cons (m := .val false) (v 3) (aj_cons (m := .val false) (v 2) aj_nil rfl) rfl))) (ej_top (ej_int (fr := false)))))
 k_nil)))
abbrev s_bit_rows : Stmt := topS 17
def n_bit_rows : List Str := ["many", "found", "_", "row", "bit"]
def p_bit_rows : List Str := ["many"]
theorem sc_bit_rows : FnScope n_bit_rows p_bit_rows (defScope s_bit_rows) := ⟨rfl, rfl, rfl, by decide +kernel, rfl, by decide +kernel, by decide +kernel⟩
def b_bit_rows : SDen := (sSeq (sAsg (dLst (dCons (dLst dNil) dNil)) (.nm 1)) (sSeq (sFor (dIt rng1D (dCons (dVar 0) dNil)) (.nm 2) (sSeq (sAsg (dLc2 (dSeq (dVar 1)) (.nm 3) dYes (dSeq (dTup (dCons (dC (.int 0)) (dCons (dC (.int 1)) dNil)))) (.nm 4) dYes (dLst (dStar (dVar 3) (dCons (dVar 4) dNil))) [3, 4] [4]) (.nm 1)) sNop)) (sSeq (sRet (dVar 1)) sNop)))
def D_bit_rows : List D → SS → Res D := defD n_bit_rows.length b_bit_rows
theorem ok_bit_rows {P : Program} {w : World} {K : PySem.W.Frag} {mg : Str → Option Value} {base : Heap} {f : Addr} {fd : FuncData} (F : Fun K "bit_rows" "bit_rows" s_bit_rows f fd) (z : Z mg)   : FnOk P w K mg base CX0 1 f fd p_bit_rows (spD K ec0 [false] D_bit_rows false) := by
  refine fn_pd (k := 0) (N := n_bit_rows) (ps := p_bit_rows) (ts := [false]) (fr := false) (st := s_bit_rows) (body := b_bit_rows) (rest := [.dead, .val false, .dead, .dead]) (T := ⟨[.dead, .dead, .dead, .dead, .dead], [], []⟩) F sc_bit_rows rfl rfl fun cdv A outer s H E hr => ?_
  have nd : (n_bit_rows).Nodup := sc_bit_rows.nd
  exact (bj_cons (Γm := [.val false, .val false, .val false, .dead, .dead]) (sj_asg (fr' := false) (ej_new (ej_lst (fr := false) (lj_cons (ej_new (ej_lst (fr := false) lj_nil)) lj_nil))) (gj_nm (i := 1) nd rfl (Or.inl rfl) (Or.inl rfl)) rfl)
 (bj_cons (Γm := [.val false, .val false, .val false, .dead, .dead]) (k_for (fr' := false) rfl PassesOwn.never (i_range1 (fr := false) (fr' := false) (ej_top (v 0)) z.range) (gj_nm (i := 2) nd rfl (Or.inl rfl) (Or.inl rfl))
 (bj_cons (Γm := [.val false, .own false, .val false, .dead, .dead]) (sj_lc2 (fr := false) (fr' := false) (fr1 := false) (own := [("row", 3), ("bit", 4)]) (vs1 := [4]) rfl nd rfl rfl (by decide) rfl (sw_true rfl rfl rfl (by decide +kernel)) (ij_seq (fr := false) (v 1)) (blkOk_by (own := [("row", 3), ("bit", 4)]) (N := n_bit_rows) (sc := (defScope s_bit_rows)) (by decide +kernel)) (by decide) (fun _ _ _ _ _ => (gj_nm (i := 3) nd rfl (Or.inl rfl) (Or.inr rfl))) (fun _ _ _ _ _ => tsj_nil) (fun _ _ _ _ _ => (ij_seq (fr := false) (ej_tup (fr := false) (lj_cons (ej_int (fr := false)) (lj_cons (ej_int (fr := false)) lj_nil))))) (fun _ _ _ _ _ => (gj_nm (i := 4) nd rfl (Or.inl rfl) (Or.inr rfl))) (fun _ _ _ _ _ => tsj_nil) (fun _ _ _ _ _ => (ej_new (ej_lst (fr := false) (lj_star (ej_top (v 3)) (lj_cons (v 4) lj_nil))))) (by decide) (by decide))
 (bj_frz (i := 1) (fr' := false) rfl k_nil)))
 (bj_cons (Γm := [.dead, .dead, .dead, .dead, .dead]) (sj_ret (v 1))
 k_nil)))
abbrev s_is_ascending : Stmt := topS 18
def n_is_ascending : List Str := ["row", "one", "other"]
def p_is_ascending : List Str := ["row"]
theorem sc_is_ascending : FnScope n_is_ascending p_is_ascending (defScope s_is_ascending) := ⟨rfl, rfl, rfl, by decide +kernel, rfl, by decide +kernel, by decide +kernel⟩
def b_is_ascending : SDen := (sSeq (sRet (dPrim allD (dCons (dLc (dIt zipL (dCons (dVar 0) (dCons (dSl sliceD (dVar 0) (dPo (dC (.int 1))) dPo0) dNil))) (.tup [(.nm 1), (.nm 2)]) dYes (dB (dCmp leD (dVar 1) (dVar 2))) [1, 2]) dNil))) sNop)
def D_is_ascending : List D → SS → Res D := defD n_is_ascending.length b_is_ascending
theorem ok_is_ascending {P : Program} {w : World} {K : PySem.W.Frag} {mg : Str → Option Value} {base : Heap} {f : Addr} {fd : FuncData} (F : Fun K "is_ascending" "is_ascending" s_is_ascending f fd) (z : Z mg)   : FnOk P w K mg base CX0 1 f fd p_is_ascending (spD K ec0 [false] D_is_ascending false) := by
  refine fn_pd (k := 0) (N := n_is_ascending) (ps := p_is_ascending) (ts := [false]) (fr := false) (st := s_is_ascending) (body := b_is_ascending) (rest := [.dead, .dead]) (T := ⟨[.dead, .dead, .dead], [], []⟩) F sc_is_ascending rfl rfl fun cdv A outer s H E hr => ?_
  have nd : (n_is_ascending).Nodup := sc_is_ascending.nd
  exact (bj_cons (Γm := [.dead, .dead, .dead]) (sj_ret (b_all (fr := false) (ej_top (ej_new (ej_lc (fr := false) (fr' := false) (own := [("one", 1), ("other", 2)]) rfl nd (i_zip (fr := false) (v 0) (ej_slice (fr := false) (ej_top (v 0)) (poj_some (fr := false) (ej_int (fr := false))) poj_none) z.zip) (blkOk_by (own := [("one", 1), ("other", 2)]) (N := n_is_ascending) (sc := (defScope s_is_ascending)) (by decide +kernel)) (fun _ _ _ _ _ => (gj_tup rfl (gsj_cons (gj_nm (i := 1) nd rfl (Or.inl rfl) (Or.inr rfl)) (gsj_cons (gj_nm (i := 2) nd rfl (Or.inl rfl) (Or.inr rfl)) gsj_nil)))) (fun _ _ _ _ _ => tsj_nil) (fun _ _ _ _ _ => (e_c (fr := false) (c_le hr) (ej_top (v 1)) (ej_top (v 2)))) (by decide)))) z.all))
 k_nil)
abbrev s_first_unsorted : Stmt := topS 19
def n_first_unsorted : List Str := ["many", "net", "row"]
def p_first_unsorted : List Str := ["many", "net"]
theorem sc_first_unsorted : FnScope n_first_unsorted p_first_unsorted (defScope s_first_unsorted) := ⟨rfl, rfl, rfl, by decide +kernel, rfl, by decide +kernel, by decide +kernel⟩
def b_first_unsorted : SDen := (sSeq (sFor (dSeq (dCall D_bit_rows (dCons (dVar 0) dNil))) (.nm 2) (sSeq (sIf (dNot (dT (dCall D_is_ascending (dCons (dBin ixD (dCall D_run_on (dCons (dVar 1) (dCons (dVar 2) dNil))) (dC (.int 0))) dNil)))) (sSeq (sRet (dVar 2)) sNop) sNop) sNop)) (sSeq (sRet (dC .none)) sNop))
def D_first_unsorted : List D → SS → Res D := defD n_first_unsorted.length b_first_unsorted
theorem ok_first_unsorted {P : Program} {w : World} {K : PySem.W.Frag} {mg : Str → Option Value} {base : Heap} {f : Addr} {fd : FuncData} (F : Fun K "first_unsorted" "first_unsorted" s_first_unsorted f fd) (z : Z mg)  (c_bit_rows : CallOk P w K mg base 1 "bit_rows" p_bit_rows [false] D_bit_rows false) (c_is_ascending : CallOk P w K mg base 1 "is_ascending" p_is_ascending [false] D_is_ascending false) (c_run_on : CallOk P w K mg base 1 "run_on" p_run_on [false, false] D_run_on false) : FnOk P w K mg base CX0 2 f fd p_first_unsorted (spD K ec0 [false, false] D_first_unsorted false) := by
  refine fn_pd (k := 1) (N := n_first_unsorted) (ps := p_first_unsorted) (ts := [false, false]) (fr := false) (st := s_first_unsorted) (body := b_first_unsorted) (rest := [.val false]) (T := ⟨[.dead, .dead, .dead], [], []⟩) F sc_first_unsorted rfl rfl fun cdv A outer s H E hr => ?_
  have nd : (n_first_unsorted).Nodup := sc_first_unsorted.nd
  exact (bj_cons (Γm := [.val false, .val false, .val false]) (k_for (fr' := false) rfl PassesOwn.never (ij_seq (fr := false) (ej_c c_bit_rows hr (aj_cons (m := .val false) (v 0) aj_nil rfl))) (gj_nm (i := 2) nd rfl (Or.inl rfl) (Or.inl rfl))
 (bj_cons (Γm := [.val false, .val false, .val false]) (sj_if (tj_not (t_v (fr := false) (ej_c c_is_ascending hr (aj_cons (m := .val false) (e_ix (fr := false) hr (ej_top (ej_c c_run_on hr (aj_cons (m := .val false) (v 1) (aj_cons (m := .val false) (v 2) aj_nil rfl) rfl))) (ej_top (ej_int (fr := false)))) aj_nil rfl)))) (bj_cons (Γm := [.val false, .val false, .val false]) (sj_ret (v 2))
 k_nil)
 k_nil)
 k_nil))
 (bj_cons (Γm := [.dead, .dead, .dead]) (sj_ret (ej_non (fr := false)))
 k_nil))
abbrev s_needless : Stmt := topS 20
def n_needless : List Str := ["many", "net", "mine", "moved", "row", "index", "has_moved"]
def p_needless : List Str := ["many", "net"]
theorem sc_needless : FnScope n_needless p_needless (defScope s_needless) := ⟨rfl, rfl, rfl, by decide +kernel, rfl, by decide +kernel, by decide +kernel⟩
def b_needless : SDen := (sSeq (sAsg (dCall D_check_net (dCons (dVar 0) (dCons (dVar 1) dNil))) (.nm 2)) (sSeq (sAsg (dBinL repD (dLst (dCons (dC (.bool false)) dNil)) (dPrim lenD (dCons (dVar 2) dNil))) (.nm 3)) (sSeq (sFor (dSeq (dCall D_bit_rows (dCons (dVar 0) dNil))) (.nm 4) (sSeq (sFor (dSeq (dBin ixD (dCall D_run_on (dCons (dVar 2) (dCons (dVar 4) dNil))) (dC (.int 1)))) (.nm 5) (sSeq (sAsgA (dC (.bool true)) (aSub 3 (dVar 5))) sNop)) sNop)) (sSeq (sRet (dLc (dIt enumA (dCons (dVar 3) dNil)) (.tup [(.nm 5), (.nm 6)]) (dNot (dT (dVar 6))) (dVar 5) [5, 6])) sNop))))
def D_needless : List D → SS → Res D := defD n_needless.length b_needless
theorem ok_needless {P : Program} {w : World} {K : PySem.W.Frag} {mg : Str → Option Value} {base : Heap} {f : Addr} {fd : FuncData} (F : Fun K "needless" "needless" s_needless f fd) (z : Z mg)  (c_check_net : CallOk P w K mg base 5 "check_net" p_check_net [false, false] D_check_net false) (c_bit_rows : CallOk P w K mg base 1 "bit_rows" p_bit_rows [false] D_bit_rows false) (c_run_on : CallOk P w K mg base 1 "run_on" p_run_on [false, false] D_run_on false) : FnOk P w K mg base CX0 6 f fd p_needless (spD K ec0 [false, false] D_needless true) := by
  refine fn_pd (k := 5) (N := n_needless) (ps := p_needless) (ts := [false, false]) (fr := true) (st := s_needless) (body := b_needless) (rest := [.dead, .dead, .val false, .val false, .dead]) (T := ⟨[.dead, .dead, .dead, .dead, .dead, .dead, .dead], [], []⟩) F sc_needless rfl rfl fun cdv A outer s H E hr => ?_
  have nd : (n_needless).Nodup := sc_needless.nd
  exact (bj_cons (Γm := [.val false, .val false, .val false, .dead, .val false, .val false, .dead]) (sj_asg (fr' := false) (ej_c c_check_net hr (aj_cons (m := .val false) (v 0) (aj_cons (m := .val false) (v 1) aj_nil rfl) rfl)) (gj_nm (i := 2) nd rfl (Or.inl rfl) (Or.inl rfl)) rfl)
 (bj_cons (Γm := [.val false, .val false, .val false, .own true, .val false, .val false, .dead]) (sj_own (fr' := true) (i := 3) (e_rep (ej_top (ej_new (ej_lst (fr := true) (lj_cons (ej_bl (fr := true)) lj_nil)))) (ej_top (ej_flg (fr := false) (fr' := true) (b_len (fr := false) (ej_top (v 2)) z.len) (flat_prim fl_len)))) nd rfl (Or.inl rfl) (Or.inl rfl) (by decide) rfl)
 (bj_cons (Γm := [.val false, .val false, .val false, .own true, .val false, .val false, .dead]) (k_for (fr' := false) rfl PassesOwn.never (ij_seq (fr := false) (ej_c c_bit_rows hr (aj_cons (m := .val false) (v 0) aj_nil rfl))) (gj_nm (i := 4) nd rfl (Or.inl rfl) (Or.inl rfl))
 (bj_cons (Γm := [.val false, .val false, .val false, .own true, .val false, .val false, .dead]) (k_for (fr' := false) rfl PassesOwn.never (ij_seq (fr := false) (e_ix (fr := false) hr (ej_top (ej_c c_run_on hr (aj_cons (m := .val false) (v 2) (aj_cons (m := .val false) (v 4) aj_nil rfl) rfl))) (ej_top (ej_int (fr := false))))) (gj_nm (i := 5) nd rfl (Or.inl rfl) (Or.inl rfl))
 (bj_cons (Γm := [.val false, .val false, .val false, .own true, .val false, .val false, .dead]) (k_asgA (fr' := true) (ej_bl (fr := true)) (ag_sub (fr := true) (fr' := false) (i := 3) rfl (Or.inl rfl) (by decide) (by decide) rfl (v 5)))
 k_nil))
 k_nil))
 (bj_frz (i := 3) (fr' := true) rfl (bj_cons (Γm := [.dead, .dead, .dead, .dead, .dead, .dead, .dead]) (sj_ret (ej_new (ej_lc (fr := true) (fr' := true) (own := [("index", 5), ("has_moved", 6)]) rfl nd (i_enum (fr := true) (v 3) z.enumerate) (blkOk_by (own := [("index", 5), ("has_moved", 6)]) (N := n_needless) (sc := (defScope s_needless)) (by decide +kernel)) (fun _ _ _ _ _ => (gj_tup rfl (gsj_cons (gj_nm (i := 5) nd rfl (Or.inl rfl) (Or.inr rfl)) (gsj_cons (gj_nm (i := 6) nd rfl (Or.inl rfl) (Or.inr rfl)) gsj_nil)))) (fun _ _ _ _ _ => (tsj_one (tj_not (t_v (fr := true) (v 6))))) (fun _ _ _ _ _ => (v 5)) (by decide))))
 k_nil)))))
abbrev s_parts_of_net : Stmt := topS 21
def n_parts_of_net : List Str := ["net", "found", "pair", "some"]
def p_parts_of_net : List Str := ["net"]
theorem sc_parts_of_net : FnScope n_parts_of_net p_parts_of_net (defScope s_parts_of_net) := ⟨rfl, rfl, rfl, by decide +kernel, rfl, by decide +kernel, by decide +kernel⟩
def b_parts_of_net : SDen := (sSeq (sAsg (dLst (dCons (dLst dNil) dNil)) (.nm 1)) (sSeq (sFor (dSeq (dVar 0)) (.nm 2) (sSeq (sExpr (dMut 1 extD (dCons (dLc (dSeq (dPrimL listD (dCons (dVar 1) dNil))) (.nm 3) dYes (dLst (dStar (dVar 3) (dCons (dVar 2) dNil))) [3]) dNil))) sNop)) (sSeq (sRet (dSortLen (dVar 1))) sNop)))
def D_parts_of_net : List D → SS → Res D := defD n_parts_of_net.length b_parts_of_net
theorem ok_parts_of_net {P : Program} {w : World} {K : PySem.W.Frag} {mg : Str → Option Value} {base : Heap} {f : Addr} {fd : FuncData} (F : Fun K "parts_of_net" "parts_of_net" s_parts_of_net f fd) (z : Z mg)   : FnOk P w K mg base CX0 1 f fd p_parts_of_net (spD K ec0 [false] D_parts_of_net false) := by
  refine fn_pd (k := 0) (N := n_parts_of_net) (ps := p_parts_of_net) (ts := [false]) (fr := false) (st := s_parts_of_net) (body := b_parts_of_net) (rest := [.dead, .val false, .dead]) (T := ⟨[.dead, .dead, .dead, .dead], [], []⟩) F sc_parts_of_net rfl rfl fun cdv A outer s H E hr => ?_
  have nd : (n_parts_of_net).Nodup := sc_parts_of_net.nd
  exact (bj_cons (Γm := [.val false, .own false, .val false, .dead]) (sj_own (fr' := false) (i := 1) (ej_lst (fr := false) (lj_cons (ej_new (ej_lst (fr := false) lj_nil)) lj_nil)) nd rfl (Or.inl rfl) (Or.inl rfl) (by decide) rfl)
 (bj_cons (Γm := [.val false, .own false, .val false, .dead]) (k_for (fr' := false) rfl PassesOwn.never (ij_seq (fr := false) (v 0)) (gj_nm (i := 2) nd rfl (Or.inr rfl) (Or.inl rfl))
 (bj_cons (Γm := [.val false, .own false, .val false, .dead]) (k_expr (m := .val false) (ej_extend (fr := false) (i := 1) rfl (Or.inl rfl) (by decide) (by decide) rfl (ej_top (ej_new (ej_lc (fr := false) (fr' := false) (own := [("some", 3)]) rfl nd (ij_seq (fr := false) (ej_new (b_list (fr := false) (vo 1) z.list_))) (blkOk_by (own := [("some", 3)]) (N := n_parts_of_net) (sc := (defScope s_parts_of_net)) (by decide +kernel)) (fun _ _ _ _ _ => (gj_nm (i := 3) nd rfl (Or.inl rfl) (Or.inr rfl))) (fun _ _ _ _ _ => tsj_nil) (fun _ _ _ _ _ => (ej_new (ej_lst (fr := false) (lj_star (ej_top (v 3)) (lj_cons (v 2) lj_nil))))) (by decide))))))
 k_nil))
 (bj_cons (Γm := [.dead, .dead, .dead, .dead]) (sj_ret (ej_new (b_sortLen (fr := false) hr (vo 1) z.sorted z.len)))
 k_nil)))
abbrev s_fewest_left : Stmt := topS 22
def n_fewest_left : List Str := ["many", "net", "some"]
def p_fewest_left : List Str := ["many", "net"]
theorem sc_fewest_left : FnScope n_fewest_left p_fewest_left (defScope s_fewest_left) := ⟨rfl, rfl, rfl, by decide +kernel, rfl, by decide +kernel, by decide +kernel⟩
def b_fewest_left : SDen := (sSeq (sFor (dSeq (dCall D_parts_of_net (dCons (dCall D_check_net (dCons (dVar 0) (dCons (dVar 1) dNil))) dNil))) (.nm 2) (sSeq (sIf (dCmp isD (dCall D_first_unsorted (dCons (dVar 0) (dCons (dVar 2) dNil))) (dC .none)) (sSeq (sRet (dPrim lenD (dCons (dVar 2) dNil))) sNop) sNop) sNop)) (sSeq (sRet (dC .none)) sNop))
def D_fewest_left : List D → SS → Res D := defD n_fewest_left.length b_fewest_left
theorem ok_fewest_left {P : Program} {w : World} {K : PySem.W.Frag} {mg : Str → Option Value} {base : Heap} {f : Addr} {fd : FuncData} (F : Fun K "fewest_left" "fewest_left" s_fewest_left f fd) (z : Z mg)  (c_parts_of_net : CallOk P w K mg base 1 "parts_of_net" p_parts_of_net [false] D_parts_of_net false) (c_check_net : CallOk P w K mg base 5 "check_net" p_check_net [false, false] D_check_net false) (c_first_unsorted : CallOk P w K mg base 2 "first_unsorted" p_first_unsorted [false, false] D_first_unsorted false) : FnOk P w K mg base CX0 6 f fd p_fewest_left (spD K ec0 [false, false] D_fewest_left false) := by
  refine fn_pd (k := 5) (N := n_fewest_left) (ps := p_fewest_left) (ts := [false, false]) (fr := false) (st := s_fewest_left) (body := b_fewest_left) (rest := [.val false]) (T := ⟨[.dead, .dead, .dead], [], []⟩) F sc_fewest_left rfl rfl fun cdv A outer s H E hr => ?_
  have nd : (n_fewest_left).Nodup := sc_fewest_left.nd
  exact (bj_cons (Γm := [.val false, .val false, .val false]) (k_for (fr' := false) rfl PassesOwn.never (ij_seq (fr := false) (ej_c c_parts_of_net hr (aj_cons (m := .val false) (ej_c c_check_net hr (aj_cons (m := .val false) (v 0) (aj_cons (m := .val false) (v 1) aj_nil rfl) rfl)) aj_nil rfl))) (gj_nm (i := 2) nd rfl (Or.inl rfl) (Or.inl rfl))
 (bj_cons (Γm := [.val false, .val false, .val false]) (sj_if (t_c (fr := false) (c_is hr) (ej_top (ej_c c_first_unsorted hr (aj_cons (m := .val false) (v 0) (aj_cons (m := .val false) (v 2) aj_nil rfl) rfl))) (ej_top (ej_non (fr := false)))) (bj_cons (Γm := [.val false, .val false, .val false]) (sj_ret (b_len (fr := false) (ej_top (v 2)) z.len))
 k_nil)
 k_nil)
 k_nil))
 (bj_cons (Γm := [.dead, .dead, .dead]) (sj_ret (ej_non (fr := false)))
 k_nil))
abbrev s__law_stream : Stmt := topS 24
def n__law_stream : List Str := ["script"]
def p__law_stream : List Str := ["script"]
theorem sc__law_stream : FnScope n__law_stream p__law_stream (defScope s__law_stream) := ⟨rfl, rfl, rfl, by decide +kernel, rfl, by decide +kernel, by decide +kernel⟩
theorem ok__law_stream {P : Program} {w : World} {K : PySem.W.Frag} {mg : Str → Option Value} {base : Heap} {f : Addr} {fd : FuncData} (F : Fun K "_law_stream" "_law_stream" s__law_stream f fd) (z : Z mg) : FnOk P w K mg base CX0 1 f fd ["script"] (spStr K) := by
  refine F.ok sc__law_stream (fun vs H Q E h => by obtain ⟨a, ns, rfl, _⟩ := h; rfl) (fun cdv A outer s H vs Q E hr h => ?_)
  obtain ⟨a, ns, rfl, hS, q⟩ := h
  refine ⟨_, pss_one (ps_ret (pe_lst (pa_cons (pe_callTy call_list_of rfl z.list_ boot_list (pa_cons (pv 0) pa_nil)) (pa_cons pe_int (pa_cons pe_int (pa_cons pe_int pa_nil)))))), ?_⟩
  refine ⟨.ref a, rfl, a, ns.map V.int, rfl, .inl hS, fun l hl => ⟨by simp only [List.length_cons, List.length_nil]; rw [sizeLine_eq]; decide, fun p hp => ?_⟩⟩
  obtain ⟨h1, h2, h3, h4⟩ := str_made hl hp
  exact q _ p l h1 h2 hl h3 h4
abbrev s__law_draw : Stmt := topS 25
def n__law_draw : List Str := ["stream", "many", "cell", "digit", "mixed"]
def p__law_draw : List Str := ["stream", "many"]
theorem sc__law_draw : FnScope n__law_draw p__law_draw (defScope s__law_draw) := ⟨rfl, rfl, rfl, by decide +kernel, rfl, by decide +kernel, by decide +kernel⟩
def b__law_draw : SDen := (sSeq (sAsgA (dBin addD (dStIx 0 2) (dC (.int 1))) (aSt 0 2)) (sSeq (sWhile (fun _ S => S.cells.length + 1) (dAnd (dCmp eqD (dStIx 0 1) (dC (.int 0))) (dStNe 0)) (sSeq (sAsg (dPrim absD (dCons (dStPop 0) dNil)) (.nm 2)) (sSeq (sAsgA (dBin modD (dPrim intD (dCons (dBin addD (dBin addD (dBin mulD (dStIx 0 3) (dC (.int 6151))) (dVar 2)) (dC (.int 7))) dNil)) (dC (.int 2147483629))) (aSt 0 3)) (sSeq (sAsgA (dIf (dCmp geD (dVar 2) (dBin powD (dC (.int 10)) (dC (.int 18)))) (dVar 2) (dC (.int 0))) (aSt 0 1)) sNop)))) (sSeq (sIf (dCmp gtD (dStIx 0 1) (dC (.int 0))) (sSeq (sAsg (dBin modD (dPrim intD (dCons (dStIx 0 1) dNil)) (dVar 1)) (.nm 3)) (sSeq (sAsgA (dBin divD (dStIx 0 1) (dVar 1)) (aSt 0 1)) (sSeq (sRet (dVar 3)) sNop))) sNop) (sSeq (sAsg (dBin modD (dPrim intD (dCons (dBin powD (dBin addD (dBin addD (dStIx 0 3) (dBin mulD (dC (.int 8191)) (dStIx 0 2))) (dC (.int 50021))) (dC (.int 5))) dNil)) (dC (.int 2147483587))) (.nm 4)) (sSeq (sRet (dBin modD (dBin modD (dPrim intD (dCons (dBin powD (dBin addD (dBin addD (dBin mulD (dVar 4) (dC (.int 40009))) (dBin mulD (dC (.int 20011)) (dStIx 0 2))) (dC (.int 31))) (dC (.int 3))) dNil)) (dC (.int 1000000009))) (dVar 1))) sNop)))))
def D__law_draw : List D → SS → Res D := defD n__law_draw.length b__law_draw
theorem ok__law_draw {P : Program} {w : World} {K : PySem.W.Frag} {mg : Str → Option Value} {base : Heap} {f : Addr} {fd : FuncData} (F : Fun K "_law_draw" "_law_draw" s__law_draw f fd) (z : Z mg)   : FnOk P w K mg base CX0 1 f fd p__law_draw (spD K ec0 [true, false] D__law_draw false) := by
  refine fn_pd (k := 0) (N := n__law_draw) (ps := p__law_draw) (ts := [true, false]) (fr := false) (st := s__law_draw) (body := b__law_draw) (rest := [.val false, .dead, .dead]) (T := ⟨[.dead, .dead, .dead, .dead, .dead], [], []⟩) F sc__law_draw rfl rfl fun cdv A outer s H E hr => ?_
  have nd : (n__law_draw).Nodup := sc__law_draw.nd
  exact (bj_cons (Γm := [.stm, .val false, .val false, .dead, .dead]) (k_asgA (fr' := false) (e_add (ej_top (ej_stIx (fr := false) (i := 0) rfl (Or.inl rfl) (by decide) (by decide) rfl (by intro _ _; rfl))) (ej_top (ej_int (fr := false)))) (ag_st (fr := false) (i := 0) rfl (Or.inl rfl) (by decide) (by decide) rfl))
 (bj_cons (Γm := [.stm, .val false, .val false, .dead, .dead]) (k_while PassesOwn.never (tj_w (wj_and (t_c (fr := false) (c_eq hr) (ej_top (ej_stIx (fr := false) (i := 0) rfl (Or.inl rfl) (by decide) (by decide) rfl (by intro _ _; rfl))) (ej_top (ej_int (fr := false)))) (wj_and1 (tj_stNe (i := 0) rfl (Or.inl rfl) (by decide) (by decide) rfl (by intro _ _; rfl) (hu64 hr)))))
 (bj_cons (Γm := [.stm, .val false, .val false, .dead, .dead]) (sj_asg (fr' := false) (b_abs (fr := false) (ej_top (ej_stPop (fr := false) (i := 0) rfl (Or.inl rfl) (by decide) (by decide) rfl (by intro _ _; rfl))) z.abs) (gj_nm (i := 2) nd rfl (Or.inl rfl) (Or.inl rfl)) rfl)
 (bj_cons (Γm := [.stm, .val false, .val false, .dead, .dead]) (k_asgA (fr' := false) (e_mod (ej_top (b_int (fr := false) (ej_top (e_add (ej_top (e_add (ej_top (e_mul (ej_top (ej_stIx (fr := false) (i := 0) rfl (Or.inl rfl) (by decide) (by decide) rfl (by intro _ _; rfl))) (ej_top (ej_int (fr := false))))) (ej_top (v 2)))) (ej_top (ej_int (fr := false))))) z.int_)) (ej_top (ej_int (fr := false)))) (ag_st (fr := false) (i := 0) rfl (Or.inl rfl) (by decide) (by decide) rfl))
 (bj_cons (Γm := [.stm, .val false, .val false, .dead, .dead]) (k_asgA (fr' := false) (ej_if ⟨false, .inl rfl⟩ (t_c (fr := false) (c_ge hr) (ej_top (v 2)) (ej_top (e_pow (ej_top (ej_int (fr := false))) (ej_top (ej_int (fr := false)))))) (v 2) (ej_int (fr := false))) (ag_st (fr := false) (i := 0) rfl (Or.inl rfl) (by decide) (by decide) rfl))
 k_nil))))
 (bj_cons (Γm := [.stm, .val false, .val false, .dead, .dead]) (sj_if (t_c (fr := false) (c_gt hr) (ej_top (ej_stIx (fr := false) (i := 0) rfl (Or.inl rfl) (by decide) (by decide) rfl (by intro _ _; rfl))) (ej_top (ej_int (fr := false)))) (bj_cons (Γm := [.stm, .val false, .val false, .val false, .dead]) (sj_asg (fr' := false) (e_mod (ej_top (b_int (fr := false) (ej_top (ej_stIx (fr := false) (i := 0) rfl (Or.inl rfl) (by decide) (by decide) rfl (by intro _ _; rfl))) z.int_)) (ej_top (v 1))) (gj_nm (i := 3) nd rfl (Or.inl rfl) (Or.inl rfl)) rfl)
 (bj_cons (Γm := [.stm, .val false, .val false, .val false, .dead]) (k_asgA (fr' := false) (e_div (ej_top (ej_stIx (fr := false) (i := 0) rfl (Or.inl rfl) (by decide) (by decide) rfl (by intro _ _; rfl))) (ej_top (v 1))) (ag_st (fr := false) (i := 0) rfl (Or.inl rfl) (by decide) (by decide) rfl))
 (bj_cons (Γm := [.stm, .val false, .val false, .dead, .dead]) (sj_ret (v 3))
 k_nil)))
 k_nil)
 (bj_cons (Γm := [.stm, .val false, .val false, .dead, .val false]) (sj_asg (fr' := false) (e_mod (ej_top (b_int (fr := false) (ej_top (e_pow (ej_top (e_add (ej_top (e_add (ej_top (ej_stIx (fr := false) (i := 0) rfl (Or.inl rfl) (by decide) (by decide) rfl (by intro _ _; rfl))) (ej_top (e_mul (ej_top (ej_int (fr := false))) (ej_top (ej_stIx (fr := false) (i := 0) rfl (Or.inl rfl) (by decide) (by decide) rfl (by intro _ _; rfl))))))) (ej_top (ej_int (fr := false))))) (ej_top (ej_int (fr := false))))) z.int_)) (ej_top (ej_int (fr := false)))) (gj_nm (i := 4) nd rfl (Or.inl rfl) (Or.inl rfl)) rfl)
 (bj_cons (Γm := [.dead, .dead, .dead, .dead, .dead]) (sj_ret (e_mod (ej_top (e_mod (ej_top (b_int (fr := false) (ej_top (e_pow (ej_top (e_add (ej_top (e_add (ej_top (e_mul (ej_top (v 4)) (ej_top (ej_int (fr := false))))) (ej_top (e_mul (ej_top (ej_int (fr := false))) (ej_top (ej_stIx (fr := false) (i := 0) rfl (Or.inl rfl) (by decide) (by decide) rfl (by intro _ _; rfl))))))) (ej_top (ej_int (fr := false))))) (ej_top (ej_int (fr := false))))) z.int_)) (ej_top (ej_int (fr := false))))) (ej_top (v 1))))
 k_nil)))))
abbrev s__law_pick : Stmt := topS 26
def n__law_pick : List Str := ["stream", "things"]
def p__law_pick : List Str := ["stream", "things"]
theorem sc__law_pick : FnScope n__law_pick p__law_pick (defScope s__law_pick) := ⟨rfl, rfl, rfl, by decide +kernel, rfl, by decide +kernel, by decide +kernel⟩
def b__law_pick : SDen := (sSeq (sRet (dBin ixD (dVar 1) (dCall D__law_draw (dCons (dVar 0) (dCons (dPrim lenD (dCons (dVar 1) dNil)) dNil))))) sNop)
def D__law_pick : List D → SS → Res D := defD n__law_pick.length b__law_pick
theorem ok__law_pick {P : Program} {w : World} {K : PySem.W.Frag} {mg : Str → Option Value} {base : Heap} {f : Addr} {fd : FuncData} (F : Fun K "_law_pick" "_law_pick" s__law_pick f fd) (z : Z mg)  (c__law_draw : CallOk P w K mg base 1 "_law_draw" p__law_draw [true, false] D__law_draw false) : FnOk P w K mg base CX0 2 f fd p__law_pick (spD K ec0 [true, false] D__law_pick false) := by
  refine fn_pd (k := 1) (N := n__law_pick) (ps := p__law_pick) (ts := [true, false]) (fr := false) (st := s__law_pick) (body := b__law_pick) (rest := []) (T := ⟨[.dead, .dead], [], []⟩) F sc__law_pick rfl rfl fun cdv A outer s H E hr => ?_
  have nd : (n__law_pick).Nodup := sc__law_pick.nd
  exact (bj_cons (Γm := [.dead, .dead]) (sj_ret (e_ix (fr := false) hr (ej_top (v 1)) (ej_top (ej_c c__law_draw hr (aj_cons (m := .stm) (vs 0) (aj_cons (m := .val false) (b_len (fr := false) (ej_top (v 1)) z.len) aj_nil rfl) rfl)))))
 k_nil)
abbrev s__law_mixed : Stmt := topS 27
def n__law_mixed : List Str := ["stream", "things", "left", "found", "k"]
def p__law_mixed : List Str := ["stream", "things"]
theorem sc__law_mixed : FnScope n__law_mixed p__law_mixed (defScope s__law_mixed) := ⟨rfl, rfl, rfl, by decide +kernel, rfl, by decide +kernel, by decide +kernel⟩
def b__law_mixed : SDen := (sSeq (sPar (dCons (dPrimL listD (dCons (dVar 1) dNil)) (dCons (dLst dNil) dNil)) [2, 3]) (sSeq (sFor (dIt rng1D (dCons (dPrim lenD (dCons (dVar 2) dNil)) dNil)) (.nm 4) (sSeq (sExpr (dMut 3 appD (dCons (dMut 2 popAtD (dCons (dCall D__law_draw (dCons (dVar 0) (dCons (dPrim lenD (dCons (dVar 2) dNil)) dNil))) dNil)) dNil))) sNop)) (sSeq (sRet (dVar 3)) sNop)))
def D__law_mixed : List D → SS → Res D := defD n__law_mixed.length b__law_mixed
theorem ok__law_mixed {P : Program} {w : World} {K : PySem.W.Frag} {mg : Str → Option Value} {base : Heap} {f : Addr} {fd : FuncData} (F : Fun K "_law_mixed" "_law_mixed" s__law_mixed f fd) (z : Z mg)  (c__law_draw : CallOk P w K mg base 1 "_law_draw" p__law_draw [true, false] D__law_draw false) : FnOk P w K mg base CX0 2 f fd p__law_mixed (spD K ec0 [true, false] D__law_mixed false) := by
  refine fn_pd (k := 1) (N := n__law_mixed) (ps := p__law_mixed) (ts := [true, false]) (fr := false) (st := s__law_mixed) (body := b__law_mixed) (rest := [.dead, .dead, .val false]) (T := ⟨[.dead, .dead, .dead, .dead, .dead], [], []⟩) F sc__law_mixed rfl rfl fun cdv A outer s H E hr => ?_
  have nd : (n__law_mixed).Nodup := sc__law_mixed.nd
  exact (bj_cons (Γm := [.stm, .val false, .own false, .own false, .val false]) (sj_par2 (m1 := .new false) (m2 := .new false) (i := 2) (j := 3) rfl nd rfl rfl (by decide) rfl rfl (aj_cons (m := .new false) (b_list (fr := false) (ej_top (v 1)) z.list_) (aj_cons (m := .new false) (ej_lst (fr := false) lj_nil) aj_nil rfl) rfl) rfl (by decide) (by decide) rfl rfl)
 (bj_cons (Γm := [.stm, .val false, .own false, .own false, .val false]) (k_for (fr' := false) rfl PassesOwn.never (i_range1 (fr := false) (fr' := false) (ej_top (b_len (fr := false) (vo 2) z.len)) z.range) (gj_nm (i := 4) nd rfl (Or.inl rfl) (Or.inl rfl))
 (bj_cons (Γm := [.stm, .val false, .own false, .own false, .val false]) (k_expr (m := .val false) (ej_append (fr := false) (i := 3) rfl (Or.inl rfl) (by decide) (by decide) rfl (ej_popAt (fr := false) (i := 2) rfl (Or.inl rfl) (by decide) (by decide) rfl (ej_c c__law_draw hr (aj_cons (m := .stm) (vs 0) (aj_cons (m := .val false) (b_len (fr := false) (vo 2) z.len) aj_nil rfl) rfl)))))
 k_nil))
 (bj_frz (i := 3) (fr' := false) rfl (bj_cons (Γm := [.dead, .dead, .dead, .dead, .dead]) (sj_ret (v 3))
 k_nil))))
abbrev s__law_copied : Stmt := topS 28
def n__law_copied : List Str := ["thing", "some", "one", "key"]
def p__law_copied : List Str := ["thing"]
theorem sc__law_copied : FnScope n__law_copied p__law_copied (defScope s__law_copied) := ⟨rfl, rfl, rfl, by decide +kernel, rfl, by decide +kernel, by decide +kernel⟩
def b__law_copied (R : List D → SS → Res D) : SDen := (sSeq (sIf (dT (dIsi ["list", "tuple"] (dVar 0))) (sSeq (sAsg (dLc (dSeq (dVar 0)) (.nm 2) dYes (dCall R (dCons (dVar 2) dNil)) [2]) (.nm 1)) (sSeq (sRet (dIf (dT (dIsi ["list"] (dVar 0))) (dVar 1) (dPrim tupleD (dCons (dVar 1) dNil)))) sNop)) sNop) (sSeq (sIf (dT (dIsi ["dict"] (dVar 0))) (sSeq sNever sNop) sNop) (sSeq (sRet (dFl (dVar 0))) sNop)))
def D__law_copied : Nat → List D → SS → Res D
  | 0 => fun _ _ => .stk
  | n + 1 => defD n__law_copied.length (b__law_copied (D__law_copied n))
theorem ok__law_copied {P : Program} {w : World} {K : PySem.W.Frag} {mg : Str → Option Value} {base : Heap} {f : Addr} {fd : FuncData} (F : Fun K "_law_copied" "_law_copied" s__law_copied f fd) (z : Z mg)   (hm : mg "_law_copied" = some (.ref f)) (hk : PySem.W.keepIn K (.ref f) = true) (hb : Binds K fd p__law_copied []) : ∀ n : Nat, FnOk P w K mg base CX0 (0 + n) f fd p__law_copied (spD K ec0 [false] (D__law_copied n) true)
  | 0 => fn_stk rfl
  | m + 1 => by
    have c__law_copied : CallOk P w K mg base (0 + m) "_law_copied" p__law_copied [false] (D__law_copied m) true := ⟨f, fd, ok__law_copied F z  hm hk hb m, hm, hk, hb⟩
    refine fn_pd (k := 0 + m) (N := n__law_copied) (ps := p__law_copied) (ts := [false]) (fr := true) (st := s__law_copied) (body := b__law_copied (D__law_copied m)) (rest := [.dead, .dead, .dead]) (T := ⟨[.dead, .dead, .dead, .dead], [], []⟩) F sc__law_copied rfl rfl fun cdv A outer s H E hr => ?_
    have nd : (n__law_copied).Nodup := sc__law_copied.nd
    exact (bj_cons (Γm := [.val false, .dead, .dead, .dead]) (sj_if (t_v (fr := false) (ej_isiT (fr := false) (fr' := false) (by decide) rfl z.isinstance (.cons rfl z.list_ boot_list (by decide) (by decide) rfl (.cons rfl z.tuple boot_tuple (by decide) (by decide) rfl .nil)) (ej_top (v 0)))) (bj_cons (Γm := [.val false, .own true, .dead, .dead]) (sj_lc (fr := false) (fr' := true) (own := [("one", 2)]) rfl nd rfl rfl (by decide) rfl (sw_true rfl rfl rfl (by decide +kernel)) (ij_seq (fr := false) (v 0)) (blkOk_by (own := [("one", 2)]) (N := n__law_copied) (sc := (defScope s__law_copied)) (by decide +kernel)) (fun _ _ _ _ _ => (gj_nm (i := 2) nd rfl (Or.inl rfl) (Or.inr rfl))) (fun _ _ _ _ _ => tsj_nil) (fun _ _ _ _ _ => (ej_c c__law_copied hr (aj_cons (m := .val false) (v 2) aj_nil rfl))) (by decide))
 (bj_frz (i := 1) (fr' := true) rfl (bj_cons (Γm := [.val false, .dead, .dead, .dead]) (sj_ret (ej_if ⟨true, .inl rfl⟩ (t_v (fr := false) (ej_isi1 (fr := false) (fr' := false) (by decide) rfl z.isinstance (.cons rfl z.list_ boot_list (by decide) (by decide) rfl .nil) (ej_top (v 0)))) (v 1) (b_tuple (fr := true) (ej_top (v 1)) z.tuple)))
 k_nil)))
 k_nil)
 (bj_cons (Γm := [.val false, .dead, .dead, .dead]) (sj_if (t_v (fr := false) (ej_isi1 (fr := false) (fr' := false) (by decide) rfl z.isinstance (.cons rfl z.dict_ boot_dict (by decide) (by decide) rfl .nil) (ej_top (v 0)))) (bj_cons (Γm := [.val false, .dead, .dead, .dead]) sj_never
 k_nil)
 k_nil)
 (bj_cons (Γm := [.dead, .dead, .dead, .dead]) (sj_ret (ej_fl (fr := false) (v 0)))
 k_nil)))
abbrev s__law_same : Stmt := topS 29
def n__law_same : List Str := ["found", "due", "mine", "theirs"]
def p__law_same : List Str := ["found", "due"]
theorem sc__law_same : FnScope n__law_same p__law_same (defScope s__law_same) := ⟨rfl, rfl, rfl, by decide +kernel, rfl, by decide +kernel, by decide +kernel⟩
def b__law_same (R : List D → SS → Res D) : SDen := (sSeq (sIf (dT (dIsi ["list", "tuple"] (dVar 1))) (sSeq (sIf (dOr (dCmp neD (dIsi ["list"] (dVar 0)) (dIsi ["list"] (dVar 1))) (dCmp neD (dIsi ["tuple"] (dVar 0)) (dIsi ["tuple"] (dVar 1)))) (sSeq (sRet (dC (.bool false))) sNop) sNop) (sSeq (sRet (dAndV (dB (dCmp eqD (dPrim lenD (dCons (dVar 0) dNil)) (dPrim lenD (dCons (dVar 1) dNil)))) (dPrim allD (dCons (dLc (dIt zipL (dCons (dVar 0) (dCons (dVar 1) dNil))) (.tup [(.nm 2), (.nm 3)]) dYes (dCall R (dCons (dVar 2) (dCons (dVar 3) dNil))) [2, 3]) dNil)))) sNop)) sNop) (sSeq (sIf (dT (dIsi ["dict"] (dVar 1))) (sSeq sNever sNop) sNop) (sSeq (sIf (dOr (dT (dIsi ["bool"] (dVar 1))) (dT (dIsi ["bool"] (dVar 0)))) (sSeq (sRet (dAndV (dIsi ["bool"] (dVar 1)) (dAndV (dIsi ["bool"] (dVar 0)) (dB (dCmp eqD (dVar 0) (dVar 1)))))) sNop) sNop) (sSeq (sIf (dOr (dCmp isD (dVar 1) (dC .none)) (dCmp isD (dVar 0) (dC .none))) (sSeq (sRet (dAndV (dB (dCmp isD (dVar 1) (dC .none))) (dB (dCmp isD (dVar 0) (dC .none))))) sNop) sNop) (sSeq (sIf (dOr (dCmp neD (dIsi ["int"] (dVar 1)) (dIsi ["int"] (dVar 0))) (dCmp neD (dIsi ["str"] (dVar 1)) (dIsi ["str"] (dVar 0)))) (sSeq (sRet (dC (.bool false))) sNop) sNop) (sSeq (sRet (dAndV (dNotV (dIsi ["list", "tuple", "dict"] (dVar 0))) (dB (dCmp eqD (dVar 0) (dVar 1))))) sNop))))))
def D__law_same : Nat → List D → SS → Res D
  | 0 => fun _ _ => .stk
  | n + 1 => defD n__law_same.length (b__law_same (D__law_same n))
theorem ok__law_same {P : Program} {w : World} {K : PySem.W.Frag} {mg : Str → Option Value} {base : Heap} {f : Addr} {fd : FuncData} (F : Fun K "_law_same" "_law_same" s__law_same f fd) (z : Z mg)   (hm : mg "_law_same" = some (.ref f)) (hk : PySem.W.keepIn K (.ref f) = true) (hb : Binds K fd p__law_same []) : ∀ n : Nat, FnOk P w K mg base CX0 (0 + n) f fd p__law_same (spD K ec0 [false, false] (D__law_same n) false)
  | 0 => fn_stk rfl
  | m + 1 => by
    have c__law_same : CallOk P w K mg base (0 + m) "_law_same" p__law_same [false, false] (D__law_same m) false := ⟨f, fd, ok__law_same F z  hm hk hb m, hm, hk, hb⟩
    refine fn_pd (k := 0 + m) (N := n__law_same) (ps := p__law_same) (ts := [false, false]) (fr := false) (st := s__law_same) (body := b__law_same (D__law_same m)) (rest := [.dead, .dead]) (T := ⟨[.dead, .dead, .dead, .dead], [], []⟩) F sc__law_same rfl rfl fun cdv A outer s H E hr => ?_
    have nd : (n__law_same).Nodup := sc__law_same.nd
    exact (bj_cons (Γm := [.val false, .val false, .dead, .dead]) (sj_if (t_v (fr := false) (ej_isiT (fr := false) (fr' := false) (by decide) rfl z.isinstance (.cons rfl z.list_ boot_list (by decide) (by decide) rfl (.cons rfl z.tuple boot_tuple (by decide) (by decide) rfl .nil)) (ej_top (v 1)))) (bj_cons (Γm := [.val false, .val false, .dead, .dead]) (sj_if (tj_w (wj_or (t_c (fr := false) (c_ne hr) (ej_top (ej_isi1 (fr := false) (fr' := false) (by decide) rfl z.isinstance (.cons rfl z.list_ boot_list (by decide) (by decide) rfl .nil) (ej_top (v 0)))) (ej_top (ej_isi1 (fr := false) (fr' := false) (by decide) rfl z.isinstance (.cons rfl z.list_ boot_list (by decide) (by decide) rfl .nil) (ej_top (v 1))))) (wj_or1 (t_c (fr := false) (c_ne hr) (ej_top (ej_isi1 (fr := false) (fr' := false) (by decide) rfl z.isinstance (.cons rfl z.tuple boot_tuple (by decide) (by decide) rfl .nil) (ej_top (v 0)))) (ej_top (ej_isi1 (fr := false) (fr' := false) (by decide) rfl z.isinstance (.cons rfl z.tuple boot_tuple (by decide) (by decide) rfl .nil) (ej_top (v 1)))))))) (bj_cons (Γm := [.val false, .val false, .dead, .dead]) (sj_ret (ej_bl (fr := false)))
 k_nil)
 k_nil)
 (bj_cons (Γm := [.val false, .val false, .dead, .dead]) (sj_ret (ej_and (e_c (fr := false) (c_eq hr) (ej_top (b_len (fr := false) (ej_top (v 0)) z.len)) (ej_top (b_len (fr := false) (ej_top (v 1)) z.len))) (ej_one (b_all (fr := false) (ej_top (ej_new (ej_lc (fr := false) (fr' := false) (own := [("mine", 2), ("theirs", 3)]) rfl nd (i_zip (fr := false) (v 0) (v 1) z.zip) (blkOk_by (own := [("mine", 2), ("theirs", 3)]) (N := n__law_same) (sc := (defScope s__law_same)) (by decide +kernel)) (fun _ _ _ _ _ => (gj_tup rfl (gsj_cons (gj_nm (i := 2) nd rfl (Or.inl rfl) (Or.inr rfl)) (gsj_cons (gj_nm (i := 3) nd rfl (Or.inl rfl) (Or.inr rfl)) gsj_nil)))) (fun _ _ _ _ _ => tsj_nil) (fun _ _ _ _ _ => (ej_c c__law_same hr (aj_cons (m := .val false) (v 2) (aj_cons (m := .val false) (v 3) aj_nil rfl) rfl))) (by decide)))) z.all))))
 k_nil))
 k_nil)
 (bj_cons (Γm := [.val false, .val false, .dead, .dead]) (sj_if (t_v (fr := false) (ej_isi1 (fr := false) (fr' := false) (by decide) rfl z.isinstance (.cons rfl z.dict_ boot_dict (by decide) (by decide) rfl .nil) (ej_top (v 1)))) (bj_cons (Γm := [.val false, .val false, .dead, .dead]) sj_never
 k_nil)
 k_nil)
 (bj_cons (Γm := [.val false, .val false, .dead, .dead]) (sj_if (tj_w (wj_or (t_v (fr := false) (ej_isi1 (fr := false) (fr' := false) (by decide) rfl z.isinstance (.cons rfl z.bool_ boot_bool (by decide) (by decide) rfl .nil) (ej_top (v 1)))) (wj_or1 (t_v (fr := false) (ej_isi1 (fr := false) (fr' := false) (by decide) rfl z.isinstance (.cons rfl z.bool_ boot_bool (by decide) (by decide) rfl .nil) (ej_top (v 0))))))) (bj_cons (Γm := [.val false, .val false, .dead, .dead]) (sj_ret (ej_and (ej_isi1 (fr := false) (fr' := false) (by decide) rfl z.isinstance (.cons rfl z.bool_ boot_bool (by decide) (by decide) rfl .nil) (ej_top (v 1))) (ej_and (ej_isi1 (fr := false) (fr' := false) (by decide) rfl z.isinstance (.cons rfl z.bool_ boot_bool (by decide) (by decide) rfl .nil) (ej_top (v 0))) (ej_one (e_c (fr := false) (c_eq hr) (ej_top (v 0)) (ej_top (v 1)))))))
 k_nil)
 k_nil)
 (bj_cons (Γm := [.val false, .val false, .dead, .dead]) (sj_if (tj_w (wj_or (t_c (fr := false) (c_is hr) (ej_top (v 1)) (ej_top (ej_non (fr := false)))) (wj_or1 (t_c (fr := false) (c_is hr) (ej_top (v 0)) (ej_top (ej_non (fr := false))))))) (bj_cons (Γm := [.val false, .val false, .dead, .dead]) (sj_ret (ej_and (e_c (fr := false) (c_is hr) (ej_top (v 1)) (ej_top (ej_non (fr := false)))) (ej_one (e_c (fr := false) (c_is hr) (ej_top (v 0)) (ej_top (ej_non (fr := false)))))))
 k_nil)
 k_nil)
 (bj_cons (Γm := [.val false, .val false, .dead, .dead]) (sj_if (tj_w (wj_or (t_c (fr := false) (c_ne hr) (ej_top (ej_isi1 (fr := false) (fr' := false) (by decide) rfl z.isinstance (.cons rfl z.int_ boot_int (by decide) (by decide) rfl .nil) (ej_top (v 1)))) (ej_top (ej_isi1 (fr := false) (fr' := false) (by decide) rfl z.isinstance (.cons rfl z.int_ boot_int (by decide) (by decide) rfl .nil) (ej_top (v 0))))) (wj_or1 (t_c (fr := false) (c_ne hr) (ej_top (ej_isi1 (fr := false) (fr' := false) (by decide) rfl z.isinstance (.cons rfl z.str_ boot_str (by decide) (by decide) rfl .nil) (ej_top (v 1)))) (ej_top (ej_isi1 (fr := false) (fr' := false) (by decide) rfl z.isinstance (.cons rfl z.str_ boot_str (by decide) (by decide) rfl .nil) (ej_top (v 0)))))))) (bj_cons (Γm := [.val false, .val false, .dead, .dead]) (sj_ret (ej_bl (fr := false)))
 k_nil)
 k_nil)
 (bj_cons (Γm := [.dead, .dead, .dead, .dead]) (sj_ret (ej_and (ej_not (fr := false) (ej_isiT (fr := false) (fr' := false) (by decide) rfl z.isinstance (.cons rfl z.list_ boot_list (by decide) (by decide) rfl (.cons rfl z.tuple boot_tuple (by decide) (by decide) rfl (.cons rfl z.dict_ boot_dict (by decide) (by decide) rfl .nil))) (ej_top (v 0)))) (ej_one (e_c (fr := false) (c_eq hr) (ej_top (v 0)) (ej_top (v 1))))))
 k_nil))))))
abbrev s__law_spoilt : Stmt := topS 30
def n__law_spoilt : List Str := ["thing", "key", "part"]
def p__law_spoilt : List Str := ["thing"]
theorem sc__law_spoilt : FnScope n__law_spoilt p__law_spoilt (defScope s__law_spoilt) := ⟨rfl, rfl, rfl, by decide +kernel, rfl, by decide +kernel, by decide +kernel⟩
theorem ok__law_spoilt {P : Program} {w : World} {K : PySem.W.Frag} {mg : Str → Option Value} {base : Heap} {f : Addr} {fd : FuncData} (F : Fun K "_law_spoilt" "_law_spoilt" s__law_spoilt f fd) (z : Z mg) (hm : mg "_law_spoilt" = some (.ref f)) (hk : PySem.W.keepIn K (.ref f) = true) (hb : Binds K fd ["thing"] []) : SpOk P w K mg base 3 "_law_spoilt" := by
  have g0 : FnOk P w K mg base CX0 1 f fd ["thing"] (spS 0) := by
    refine F.ok sc__law_spoilt (fun vs H Q E h => spS_len _ _ _ _ _ h) (fun cdv A outer s H vs Q E hr h => ?_)
    obtain ⟨v, rfl, hf, q⟩ := h
    refine ⟨_, pss_cons (ps_if (pt_val (pe_callB call_isi rfl z.isinstance boot_isinstance (pa_cons (pv 0) (pa_cons (pe_bltn rfl z.dict_ boot_dict (v := .ty "dict") rfl) pa_nil)))) pss_never pss_nil) (pss_cons (ps_if (pt_val (pe_callB call_isiT rfl z.isinstance boot_isinstance (pa_cons (pv 0) (pa_cons (pe_tup (pa_cons (pe_bltn rfl z.list_ boot_list (v := .ty "list") rfl) (pa_cons (pe_bltn rfl z.tuple boot_tuple (v := .ty "tuple") rfl) pa_nil))) pa_nil)))) pss_never pss_nil) (pss_one (ps_if (pt_val (pe_callB call_isi rfl z.isinstance boot_isinstance (pa_cons (pv 0) (pa_cons (pe_bltn rfl z.list_ boot_list (v := .ty "list") rfl) pa_nil)))) (pss_one (ps_expr (pe_bm PySem.F.plainAttrs_list PySem.F.slot_list_append PySem.F.type_list_append mt_append (pv 0) (pa_cons pe_str pa_nil)))) pss_nil))), ?_⟩
    exact sp_read0 rfl hf fun H1 g => q H1 g
  have g1 : FnOk P w K mg base CX0 2 f fd ["thing"] (spS 1) := by
    refine F.ok sc__law_spoilt (fun vs H Q E h => spS_len _ _ _ _ _ h) (fun cdv A outer s H vs Q E hr h => ?_)
    obtain ⟨t, xs, rfl, ht, hf, hz, q⟩ := h
    refine ⟨_, pss_cons (ps_if (pt_val (pe_callB call_isi rfl z.isinstance boot_isinstance (pa_cons (pv 0) (pa_cons (pe_bltn rfl z.dict_ boot_dict (v := .ty "dict") rfl) pa_nil)))) pss_never pss_nil) (pss_cons (ps_if (pt_val (pe_callB call_isiT rfl z.isinstance boot_isinstance (pa_cons (pv 0) (pa_cons (pe_tup (pa_cons (pe_bltn rfl z.list_ boot_list (v := .ty "list") rfl) (pa_cons (pe_bltn rfl z.tuple boot_tuple (v := .ty "tuple") rfl) pa_nil))) pa_nil)))) (pss_one (ps_for PassesOwn.never rfl (pi_list (pv 0)) (pg_name (i := 2) sc__law_spoilt.nd rfl (.inl rfl)) (pss_one (ps_expr (pe_call (g0.mono (by decide)) hr rfl hm hk hb .nil pass0 (pa_cons (pv 2) pa_nil)))))) pss_nil) (pss_one (ps_if (pt_val (pe_callB call_isi rfl z.isinstance boot_isinstance (pa_cons (pv 0) (pa_cons (pe_bltn rfl z.list_ boot_list (v := .ty "list") rfl) pa_nil)))) (pss_one (ps_expr (pe_bm PySem.F.plainAttrs_list PySem.F.slot_list_append PySem.F.type_list_append mt_append (pv 0) (pa_cons pe_str pa_nil)))) pss_nil))), ?_⟩
    exact sp_read1 (j := 2) rfl ⟨by decide, show 2 < 3 by decide⟩ ht hf hz fun _ H1 g e => q H1 g e
  have g2 : FnOk P w K mg base CX0 3 f fd ["thing"] (spS 2) := by
    refine F.ok sc__law_spoilt (fun vs H Q E h => spS_len _ _ _ _ _ h) (fun cdv A outer s H vs Q E hr h => ?_)
    obtain ⟨l, t, xs, rfl, hlt, hl, ht, hf, hz, q⟩ := h
    refine ⟨_, pss_cons (ps_if (pt_val (pe_callB call_isi rfl z.isinstance boot_isinstance (pa_cons (pv 0) (pa_cons (pe_bltn rfl z.dict_ boot_dict (v := .ty "dict") rfl) pa_nil)))) pss_never pss_nil) (pss_cons (ps_if (pt_val (pe_callB call_isiT rfl z.isinstance boot_isinstance (pa_cons (pv 0) (pa_cons (pe_tup (pa_cons (pe_bltn rfl z.list_ boot_list (v := .ty "list") rfl) (pa_cons (pe_bltn rfl z.tuple boot_tuple (v := .ty "tuple") rfl) pa_nil))) pa_nil)))) (pss_one (ps_for PassesOwn.never rfl (pi_list (pv 0)) (pg_name (i := 2) sc__law_spoilt.nd rfl (.inl rfl)) (pss_one (ps_expr (pe_call (g1.mono (by decide)) hr rfl hm hk hb .nil pass0 (pa_cons (pv 2) pa_nil)))))) pss_nil) (pss_one (ps_if (pt_val (pe_callB call_isi rfl z.isinstance boot_isinstance (pa_cons (pv 0) (pa_cons (pe_bltn rfl z.list_ boot_list (v := .ty "list") rfl) pa_nil)))) (pss_one (ps_expr (pe_bm PySem.F.plainAttrs_list PySem.F.slot_list_append PySem.F.type_list_append mt_append (pv 0) (pa_cons pe_str pa_nil)))) pss_nil))), ?_⟩
    exact sp_read2 (j := 2) rfl ⟨by decide, show 2 < 3 by decide⟩ hlt hl ht hf hz fun _ H1 g e => q H1 g e
  exact ⟨f, fd, g2, hm, hk, hb⟩
abbrev s__law_loose : Stmt := topS 31
def n__law_loose : List Str := ["stream", "thing", "some", "one", "key"]
def p__law_loose : List Str := ["stream", "thing"]
theorem sc__law_loose : FnScope n__law_loose p__law_loose (defScope s__law_loose) := ⟨rfl, rfl, rfl, by decide +kernel, rfl, by decide +kernel, by decide +kernel⟩
def b__law_loose (R : List D → SS → Res D) : SDen := (sSeq (sIf (dT (dIsi ["list", "tuple"] (dVar 1))) (sSeq (sAsg (dLc (dSeq (dVar 1)) (.nm 3) dYes (dCall R (dCons (dVar 0) (dCons (dVar 3) dNil))) [3]) (.nm 2)) (sSeq (sRet (dIf (dCmp eqD (dCall D__law_draw (dCons (dVar 0) (dCons (dC (.int 2)) dNil))) (dC (.int 0))) (dVar 2) (dPrim tupleD (dCons (dVar 2) dNil)))) sNop)) sNop) (sSeq (sIf (dT (dIsi ["dict"] (dVar 1))) (sSeq sNever sNop) sNop) (sSeq (sRet (dVar 1)) sNop)))
def D__law_loose : Nat → List D → SS → Res D
  | 0 => fun _ _ => .stk
  | n + 1 => defD n__law_loose.length (b__law_loose (D__law_loose n))
theorem ok__law_loose {P : Program} {w : World} {K : PySem.W.Frag} {mg : Str → Option Value} {base : Heap} {f : Addr} {fd : FuncData} (F : Fun K "_law_loose" "_law_loose" s__law_loose f fd) (z : Z mg)  (c__law_draw : CallOk P w K mg base 1 "_law_draw" p__law_draw [true, false] D__law_draw false) (hm : mg "_law_loose" = some (.ref f)) (hk : PySem.W.keepIn K (.ref f) = true) (hb : Binds K fd p__law_loose []) : ∀ n : Nat, FnOk P w K mg base CX0 (1 + n) f fd p__law_loose (spD K ec0 [true, false] (D__law_loose n) false)
  | 0 => fn_stk rfl
  | m + 1 => by
    have c__law_loose : CallOk P w K mg base (1 + m) "_law_loose" p__law_loose [true, false] (D__law_loose m) false := ⟨f, fd, ok__law_loose F z c__law_draw hm hk hb m, hm, hk, hb⟩
    refine fn_pd (k := 1 + m) (N := n__law_loose) (ps := p__law_loose) (ts := [true, false]) (fr := false) (st := s__law_loose) (body := b__law_loose (D__law_loose m)) (rest := [.dead, .dead, .dead]) (T := ⟨[.dead, .dead, .dead, .dead, .dead], [], []⟩) F sc__law_loose rfl rfl fun cdv A outer s H E hr => ?_
    have nd : (n__law_loose).Nodup := sc__law_loose.nd
    exact (bj_cons (Γm := [.stm, .val false, .dead, .dead, .dead]) (sj_if (t_v (fr := false) (ej_isiT (fr := false) (fr' := false) (by decide) rfl z.isinstance (.cons rfl z.list_ boot_list (by decide) (by decide) rfl (.cons rfl z.tuple boot_tuple (by decide) (by decide) rfl .nil)) (ej_top (v 1)))) (bj_cons (Γm := [.stm, .val false, .own false, .dead, .dead]) (sj_lc (fr := false) (fr' := false) (own := [("one", 3)]) rfl nd rfl rfl (by decide) rfl (sw_true rfl rfl rfl (by decide +kernel)) (ij_seq (fr := false) (v 1)) (blkOk_by (own := [("one", 3)]) (N := n__law_loose) (sc := (defScope s__law_loose)) (by decide +kernel)) (fun _ _ _ _ _ => (gj_nm (i := 3) nd rfl (Or.inl rfl) (Or.inr rfl))) (fun _ _ _ _ _ => tsj_nil) (fun _ _ _ _ _ => (ej_c c__law_loose hr (aj_cons (m := .stm) (vs 0) (aj_cons (m := .val false) (v 3) aj_nil rfl) rfl))) (by decide))
 (bj_frz (i := 2) (fr' := false) rfl (bj_cons (Γm := [.stm, .val false, .dead, .dead, .dead]) (sj_ret (ej_if ⟨false, .inl rfl⟩ (t_c (fr := false) (c_eq hr) (ej_top (ej_c c__law_draw hr (aj_cons (m := .stm) (vs 0) (aj_cons (m := .val false) (ej_int (fr := false)) aj_nil rfl) rfl))) (ej_top (ej_int (fr := false)))) (v 2) (b_tuple (fr := false) (ej_top (v 2)) z.tuple)))
 k_nil)))
 k_nil)
 (bj_cons (Γm := [.stm, .val false, .dead, .dead, .dead]) (sj_if (t_v (fr := false) (ej_isi1 (fr := false) (fr' := false) (by decide) rfl z.isinstance (.cons rfl z.dict_ boot_dict (by decide) (by decide) rfl .nil) (ej_top (v 1)))) (bj_cons (Γm := [.stm, .val false, .dead, .dead, .dead]) sj_never
 k_nil)
 k_nil)
 (bj_cons (Γm := [.dead, .dead, .dead, .dead, .dead]) (sj_ret (v 1))
 k_nil)))
abbrev s__law_handed : Stmt := topS 32
def n__law_handed : List Str := ["stream", "thing"]
def p__law_handed : List Str := ["stream", "thing"]
theorem sc__law_handed : FnScope n__law_handed p__law_handed (defScope s__law_handed) := ⟨rfl, rfl, rfl, by decide +kernel, rfl, by decide +kernel, by decide +kernel⟩
def b__law_handed : SDen := (sSeq (sRet (dCall (D__law_loose 8) (dCons (dVar 0) (dCons (dCall (D__law_copied 8) (dCons (dVar 1) dNil)) dNil)))) sNop)
def D__law_handed : List D → SS → Res D := defD n__law_handed.length b__law_handed
theorem ok__law_handed {P : Program} {w : World} {K : PySem.W.Frag} {mg : Str → Option Value} {base : Heap} {f : Addr} {fd : FuncData} (F : Fun K "_law_handed" "_law_handed" s__law_handed f fd) (z : Z mg)  (c__law_loose : CallOk P w K mg base 9 "_law_loose" p__law_loose [true, false] (D__law_loose 8) false) (c__law_copied : CallOk P w K mg base 8 "_law_copied" p__law_copied [false] (D__law_copied 8) true) : FnOk P w K mg base CX0 10 f fd p__law_handed (spD K ec0 [true, false] D__law_handed false) := by
  refine fn_pd (k := 9) (N := n__law_handed) (ps := p__law_handed) (ts := [true, false]) (fr := false) (st := s__law_handed) (body := b__law_handed) (rest := []) (T := ⟨[.dead, .dead], [], []⟩) F sc__law_handed rfl rfl fun cdv A outer s H E hr => ?_
  have nd : (n__law_handed).Nodup := sc__law_handed.nd
  exact (bj_cons (Γm := [.dead, .dead]) (sj_ret (ej_c c__law_loose hr (aj_cons (m := .stm) (vs 0) (aj_cons (m := .val true) (ej_c c__law_copied hr (aj_cons (m := .val false) (v 1) aj_nil rfl)) aj_nil rfl) rfl)))
 k_nil)
abbrev s__law_net : Stmt := topS 33
def n__law_net : List Str := ["stream", "many", "most", "pairs", "low", "found", "way", "right", "turn", "at", "high", "k"]
def p__law_net : List Str := ["stream", "many", "most"]
theorem sc__law_net : FnScope n__law_net p__law_net (defScope s__law_net) := ⟨rfl, rfl, rfl, by decide +kernel, rfl, by decide +kernel, by decide +kernel⟩
def b__law_net : SDen := (sSeq (sIf (dCmp ltD (dVar 1) (dC (.int 2))) (sSeq (sRet (dLst dNil)) sNop) sNop) (sSeq (sAsg (dLst dNil) (.nm 3)) (sSeq (sFor (dIt rng1D (dCons (dVar 1) dNil)) (.nm 4) (sSeq (sExpr (dMut 3 extD (dCons (dLc (dIt rng2D (dCons (dBin addD (dVar 4) (dC (.int 1))) (dCons (dVar 1) dNil))) (.nm 10) dYes (dTup (dCons (dVar 4) (dCons (dVar 10) dNil))) [10]) dNil))) sNop)) (sSeq (sAsg (dLc (dIt rng1D (dCons (dCall D__law_draw (dCons (dVar 0) (dCons (dBin addD (dVar 2) (dC (.int 1))) dNil))) dNil)) (.nm 11) dYes (dCall D__law_pick (dCons (dVar 0) (dCons (dVar 3) dNil))) [11]) (.nm 5)) (sSeq (sAsg (dCall D__law_draw (dCons (dVar 0) (dCons (dC (.int 4)) dNil))) (.nm 6)) (sSeq (sIf (dAnd (dCmp ltD (dVar 6) (dC (.int 3))) (dCmp ltD (dVar 1) (dC (.int 6)))) (sSeq (sAsg (dLst dNil) (.nm 7)) (sSeq (sFor (dIt rng1D (dCons (dBin subD (dVar 1) (dC (.int 1))) dNil)) (.nm 8) (sSeq (sExpr (dMut 7 extD (dCons (dLc (dIt rng1D (dCons (dBin subD (dBin subD (dVar 1) (dC (.int 1))) (dVar 8)) dNil)) (.nm 9) dYes (dTup (dCons (dVar 9) (dCons (dBin addD (dVar 9) (dC (.int 1))) dNil))) [9]) dNil))) sNop)) (sSeq (sAsg (dCall D__law_pick (dCons (dVar 0) (dCons (dLst (dCons (dVar 7) (dCons (dIf (dCmp eqD (dVar 1) (dC (.int 4))) (dLst (dCons (dTup (dCons (dC (.int 0)) (dCons (dC (.int 1)) dNil))) (dCons (dTup (dCons (dC (.int 2)) (dCons (dC (.int 3)) dNil))) (dCons (dTup (dCons (dC (.int 0)) (dCons (dC (.int 2)) dNil))) (dCons (dTup (dCons (dC (.int 1)) (dCons (dC (.int 3)) dNil))) (dCons (dTup (dCons (dC (.int 1)) (dCons (dC (.int 2)) dNil))) dNil)))))) (dVar 7)) dNil))) dNil))) (.nm 7)) (sSeq (sAsg (dCall D__law_draw (dCons (dVar 0) (dCons (dPrim lenD (dCons (dVar 7) dNil)) dNil))) (.nm 9)) (sSeq (sAsg (dIf (dCmp eqD (dVar 6) (dC (.int 0))) (dVar 7) (dIf (dCmp eqD (dVar 6) (dC (.int 1))) (dBin addD (dSl sliceD (dVar 7) dPo0 (dPo (dVar 9))) (dSl sliceD (dVar 7) (dPo (dBin addD (dVar 9) (dC (.int 1)))) dPo0)) (dBin addD (dBin addD (dSl sliceD (dVar 7) dPo0 (dPo (dVar 9))) (dSl sliceD (dVar 5) dPo0 (dPo (dC (.int 2))))) (dSl sliceD (dVar 7) (dPo (dVar 9)) dPo0)))) (.nm 5)) sNop))))) sNop) (sSeq (sRet (dSl sliceD (dVar 5) dPo0 (dPo (dVar 2)))) sNop)))))))
def D__law_net : List D → SS → Res D := defD n__law_net.length b__law_net
theorem ok__law_net {P : Program} {w : World} {K : PySem.W.Frag} {mg : Str → Option Value} {base : Heap} {f : Addr} {fd : FuncData} (F : Fun K "_law_net" "_law_net" s__law_net f fd) (z : Z mg)  (c__law_draw : CallOk P w K mg base 1 "_law_draw" p__law_draw [true, false] D__law_draw false) (c__law_pick : CallOk P w K mg base 2 "_law_pick" p__law_pick [true, false] D__law_pick false) : FnOk P w K mg base CX0 3 f fd p__law_net (spD K ec0 [true, false, false] D__law_net false) := by
  refine fn_pd (k := 2) (N := n__law_net) (ps := p__law_net) (ts := [true, false, false]) (fr := false) (st := s__law_net) (body := b__law_net) (rest := [.dead, .val false, .dead, .dead, .val false, .val false, .val false, .dead, .dead]) (T := ⟨[.dead, .dead, .dead, .dead, .dead, .dead, .dead, .dead, .dead, .dead, .dead, .dead], [], []⟩) F sc__law_net rfl rfl fun cdv A outer s H E hr => ?_
  have nd : (n__law_net).Nodup := sc__law_net.nd
  exact (bj_cons (Γm := [.stm, .val false, .val false, .dead, .val false, .dead, .dead, .val false, .val false, .val false, .dead, .dead]) (sj_if (t_c (fr := false) (c_lt hr) (ej_top (v 1)) (ej_top (ej_int (fr := false)))) (bj_cons (Γm := [.stm, .val false, .val false, .dead, .val false, .dead, .dead, .val false, .val false, .val false, .dead, .dead]) (sj_ret (ej_new (ej_lst (fr := false) lj_nil)))
 k_nil)
 k_nil)
 (bj_cons (Γm := [.stm, .val false, .val false, .own false, .val false, .dead, .dead, .val false, .val false, .val false, .dead, .dead]) (sj_own (fr' := false) (i := 3) (ej_lst (fr := false) lj_nil) nd rfl (Or.inr rfl) (Or.inl rfl) (by decide) rfl)
 (bj_cons (Γm := [.stm, .val false, .val false, .own false, .val false, .dead, .dead, .val false, .val false, .val false, .dead, .dead]) (k_for (fr' := false) rfl PassesOwn.never (i_range1 (fr := false) (fr' := false) (ej_top (v 1)) z.range) (gj_nm (i := 4) nd rfl (Or.inr rfl) (Or.inl rfl))
 (bj_cons (Γm := [.stm, .val false, .val false, .own false, .val false, .dead, .dead, .val false, .val false, .val false, .dead, .dead]) (k_expr (m := .val false) (ej_extend (fr := false) (i := 3) rfl (Or.inr (Or.inl rfl)) (by decide) (by decide) rfl (ej_top (ej_new (ej_lc (fr := false) (fr' := false) (own := [("high", 10)]) rfl nd (i_range2 (fr := false) (fr' := false) (ej_top (e_add (ej_top (v 4)) (ej_top (ej_int (fr := false))))) (ej_top (v 1)) z.range) (blkOk_by (own := [("high", 10)]) (N := n__law_net) (sc := (defScope s__law_net)) (by decide +kernel)) (fun _ _ _ _ _ => (gj_nm (i := 10) nd rfl (Or.inl rfl) (Or.inr rfl))) (fun _ _ _ _ _ => tsj_nil) (fun _ _ _ _ _ => (ej_tup (fr := false) (lj_cons (v 4) (lj_cons (v 10) lj_nil)))) (by decide))))))
 k_nil))
 (bj_frz (i := 3) (fr' := false) rfl (bj_cons (Γm := [.stm, .val false, .val false, .val false, .val false, .own false, .dead, .val false, .val false, .val false, .dead, .dead]) (sj_lc (fr := false) (fr' := false) (own := [("k", 11)]) rfl nd rfl rfl (by decide) rfl (sw_true rfl rfl rfl (by decide +kernel)) (i_range1 (fr := false) (fr' := false) (ej_top (ej_c c__law_draw hr (aj_cons (m := .stm) (vs 0) (aj_cons (m := .val false) (e_add (ej_top (v 2)) (ej_top (ej_int (fr := false)))) aj_nil rfl) rfl))) z.range) (blkOk_by (own := [("k", 11)]) (N := n__law_net) (sc := (defScope s__law_net)) (by decide +kernel)) (fun _ _ _ _ _ => (gj_nm (i := 11) nd rfl (Or.inl rfl) (Or.inr rfl))) (fun _ _ _ _ _ => tsj_nil) (fun _ _ _ _ _ => (ej_c c__law_pick hr (aj_cons (m := .stm) (vs 0) (aj_cons (m := .val false) (v 3) aj_nil rfl) rfl))) (by decide))
 (bj_cons (Γm := [.stm, .val false, .val false, .val false, .val false, .own false, .val false, .val false, .val false, .val false, .dead, .dead]) (sj_asg (fr' := false) (ej_c c__law_draw hr (aj_cons (m := .stm) (vs 0) (aj_cons (m := .val false) (ej_int (fr := false)) aj_nil rfl) rfl)) (gj_nm (i := 6) nd rfl (Or.inl rfl) (Or.inl rfl)) rfl)
 (bj_cons (Γm := [.stm, .val false, .val false, .val false, .val false, .val false, .val false, .val false, .val false, .val false, .dead, .dead]) (sj_if (tj_w (wj_and (t_c (fr := false) (c_lt hr) (ej_top (v 6)) (ej_top (ej_int (fr := false)))) (wj_and1 (t_c (fr := false) (c_lt hr) (ej_top (v 1)) (ej_top (ej_int (fr := false))))))) (bj_cons (Γm := [.stm, .val false, .val false, .val false, .val false, .own false, .val false, .own false, .val false, .val false, .dead, .dead]) (sj_own (fr' := false) (i := 7) (ej_lst (fr := false) lj_nil) nd rfl (Or.inl rfl) (Or.inl rfl) (by decide) rfl)
 (bj_cons (Γm := [.stm, .val false, .val false, .val false, .val false, .own false, .val false, .own false, .val false, .val false, .dead, .dead]) (k_for (fr' := false) rfl PassesOwn.never (i_range1 (fr := false) (fr' := false) (ej_top (e_sub (ej_top (v 1)) (ej_top (ej_int (fr := false))))) z.range) (gj_nm (i := 8) nd rfl (Or.inl rfl) (Or.inl rfl))
 (bj_cons (Γm := [.stm, .val false, .val false, .val false, .val false, .own false, .val false, .own false, .val false, .val false, .dead, .dead]) (k_expr (m := .val false) (ej_extend (fr := false) (i := 7) rfl (Or.inl rfl) (by decide) (by decide) rfl (ej_top (ej_new (ej_lc (fr := false) (fr' := false) (own := [("at", 9)]) rfl nd (i_range1 (fr := false) (fr' := false) (ej_top (e_sub (ej_top (e_sub (ej_top (v 1)) (ej_top (ej_int (fr := false))))) (ej_top (v 8)))) z.range) (blkOk_by (own := [("at", 9)]) (N := n__law_net) (sc := (defScope s__law_net)) (by decide +kernel)) (fun _ _ _ _ _ => (gj_nm (i := 9) nd rfl (Or.inl rfl) (Or.inr rfl))) (fun _ _ _ _ _ => tsj_nil) (fun _ _ _ _ _ => (ej_tup (fr := false) (lj_cons (v 9) (lj_cons (e_add (ej_top (v 9)) (ej_top (ej_int (fr := false)))) lj_nil)))) (by decide))))))
 k_nil))
 (bj_frz (i := 7) (fr' := false) rfl (bj_cons (Γm := [.stm, .val false, .val false, .val false, .val false, .own false, .val false, .val false, .val false, .val false, .dead, .dead]) (sj_asg (fr' := false) (ej_c c__law_pick hr (aj_cons (m := .stm) (vs 0) (aj_cons (m := .val false) (ej_new (ej_lst (fr := false) (lj_cons (v 7) (lj_cons (ej_if ⟨false, .inl rfl⟩ (t_c (fr := false) (c_eq hr) (ej_top (v 1)) (ej_top (ej_int (fr := false)))) (ej_new (ej_lst (fr := false) (lj_cons (ej_tup (fr := false) (lj_cons (ej_int (fr := false)) (lj_cons (ej_int (fr := false)) lj_nil))) (lj_cons (ej_tup (fr := false) (lj_cons (ej_int (fr := false)) (lj_cons (ej_int (fr := false)) lj_nil))) (lj_cons (ej_tup (fr := false) (lj_cons (ej_int (fr := false)) (lj_cons (ej_int (fr := false)) lj_nil))) (lj_cons (ej_tup (fr := false) (lj_cons (ej_int (fr := false)) (lj_cons (ej_int (fr := false)) lj_nil))) (lj_cons (ej_tup (fr := false) (lj_cons (ej_int (fr := false)) (lj_cons (ej_int (fr := false)) lj_nil))) lj_nil))))))) (v 7)) lj_nil)))) aj_nil rfl) rfl)) (gj_nm (i := 7) nd rfl (Or.inl rfl) (Or.inl rfl)) rfl)
 (bj_cons (Γm := [.stm, .val false, .val false, .val false, .val false, .own false, .val false, .val false, .val false, .val false, .dead, .dead]) (sj_asg (fr' := false) (ej_c c__law_draw hr (aj_cons (m := .stm) (vs 0) (aj_cons (m := .val false) (b_len (fr := false) (ej_top (v 7)) z.len) aj_nil rfl) rfl)) (gj_nm (i := 9) nd rfl (Or.inl rfl) (Or.inl rfl)) rfl)
 (bj_cons (Γm := [.stm, .val false, .val false, .val false, .val false, .val false, .val false, .val false, .val false, .val false, .dead, .dead]) (sj_asg (fr' := false) (ej_if ⟨false, .inl rfl⟩ (t_c (fr := false) (c_eq hr) (ej_top (v 6)) (ej_top (ej_int (fr := false)))) (v 7) (ej_if ⟨false, .inl rfl⟩ (t_c (fr := false) (c_eq hr) (ej_top (v 6)) (ej_top (ej_int (fr := false)))) (e_add (ej_top (ej_slice (fr := false) (ej_top (v 7)) poj_none (poj_some (fr := false) (v 9)))) (ej_top (ej_slice (fr := false) (ej_top (v 7)) (poj_some (fr := false) (e_add (ej_top (v 9)) (ej_top (ej_int (fr := false))))) poj_none))) (e_add (ej_top (e_add (ej_top (ej_slice (fr := false) (ej_top (v 7)) poj_none (poj_some (fr := false) (v 9)))) (ej_top (ej_slice (fr := false) (vo 5) poj_none (poj_some (fr := false) (ej_int (fr := false))))))) (ej_top (ej_slice (fr := false) (ej_top (v 7)) (poj_some (fr := false) (v 9)) poj_none))))) (gj_nm (i := 5) nd rfl (Or.inl rfl) (Or.inl rfl)) rfl)
 k_nil))))))
 (bj_frz (i := 5) (fr' := false) rfl k_nil))
 (bj_cons (Γm := [.dead, .dead, .dead, .dead, .dead, .dead, .dead, .dead, .dead, .dead, .dead, .dead]) (sj_ret (ej_slice (fr := false) (ej_top (v 5)) poj_none (poj_some (fr := false) (v 2))))
 k_nil))))))))
abbrev s__law_run : Stmt := topS 34
def n__law_run : List Str := ["net", "row", "found", "low", "high"]
def p__law_run : List Str := ["net", "row"]
theorem sc__law_run : FnScope n__law_run p__law_run (defScope s__law_run) := ⟨rfl, rfl, rfl, by decide +kernel, rfl, by decide +kernel, by decide +kernel⟩
def b__law_run : SDen := (sSeq (sAsg (dPrimL listD (dCons (dVar 1) dNil)) (.nm 2)) (sSeq (sFor (dSeq (dVar 0)) (.tup [(.nm 3), (.nm 4)]) (sSeq (sAsgA (dPrimL sortedD (dCons (dLst (dCons (dBin ixD (dVar 2) (dVar 3)) (dCons (dBin ixD (dVar 2) (dVar 4)) dNil))) dNil)) (aTup 2 (aCons (aSub 2 (dVar 3)) (aCons (aSub 2 (dVar 4)) aNil)))) sNop)) (sSeq (sRet (dVar 2)) sNop)))
def D__law_run : List D → SS → Res D := defD n__law_run.length b__law_run
theorem ok__law_run {P : Program} {w : World} {K : PySem.W.Frag} {mg : Str → Option Value} {base : Heap} {f : Addr} {fd : FuncData} (F : Fun K "_law_run" "_law_run" s__law_run f fd) (z : Z mg)   : FnOk P w K mg base CX0 1 f fd p__law_run (spD K ec0 [false, false] D__law_run false) := by
  refine fn_pd (k := 0) (N := n__law_run) (ps := p__law_run) (ts := [false, false]) (fr := false) (st := s__law_run) (body := b__law_run) (rest := [.dead, .val false, .val false]) (T := ⟨[.dead, .dead, .dead, .dead, .dead], [], []⟩) F sc__law_run rfl rfl fun cdv A outer s H E hr => ?_
  have nd : (n__law_run).Nodup := sc__law_run.nd
  exact (bj_cons (Γm := [.val false, .val false, .own false, .val false, .val false]) (sj_own (fr' := false) (i := 2) (b_list (fr := false) (ej_top (v 1)) z.list_) nd rfl (Or.inl rfl) (Or.inl rfl) (by decide) rfl)
 (bj_cons (Γm := [.val false, .val false, .own false, .val false, .val false]) (k_for (fr' := false) rfl PassesOwn.never (ij_seq (fr := false) (v 0)) (gj_tup rfl (gsj_cons (gj_nm (i := 3) nd rfl (Or.inl rfl) (Or.inl rfl)) (gsj_cons (gj_nm (i := 4) nd rfl (Or.inl rfl) (Or.inl rfl)) gsj_nil)))
 (bj_cons (Γm := [.val false, .val false, .own false, .val false, .val false]) (k_asgA (fr' := false) (ej_new (b_sorted (fr := false) (ej_top (ej_new (ej_lst (fr := false) (lj_cons (e_ix (fr := false) hr (vo 2) (ej_top (v 3))) (lj_cons (e_ix (fr := false) hr (vo 2) (ej_top (v 4))) lj_nil))))) z.sorted)) (ag_tup (n := 2) rfl (ags_cons (ag_sub (fr := false) (fr' := false) (i := 2) rfl (Or.inl rfl) (by decide) (by decide) rfl (v 3)) (ags_cons (ag_sub (fr := false) (fr' := false) (i := 2) rfl (Or.inl rfl) (by decide) (by decide) rfl (v 4)) ags_nil))))
 k_nil))
 (bj_frz (i := 2) (fr' := false) rfl (bj_cons (Γm := [.dead, .dead, .dead, .dead, .dead]) (sj_ret (v 2))
 k_nil))))
abbrev s__law_bit_rows : Stmt := topS 35
def n__law_bit_rows : List Str := ["many", "found", "turn", "longer", "row"]
def p__law_bit_rows : List Str := ["many"]
theorem sc__law_bit_rows : FnScope n__law_bit_rows p__law_bit_rows (defScope s__law_bit_rows) := ⟨rfl, rfl, rfl, by decide +kernel, rfl, by decide +kernel, by decide +kernel⟩
def b__law_bit_rows : SDen := (sSeq (sAsg (dLst (dCons (dLst dNil) dNil)) (.nm 1)) (sSeq (sFor (dIt rng1D (dCons (dVar 0) dNil)) (.nm 2) (sSeq (sAsg (dLst dNil) (.nm 3)) (sSeq (sFor (dSeq (dVar 1)) (.nm 4) (sSeq (sExpr (dMut 3 extD (dCons (dLst (dCons (dBin addD (dVar 4) (dLst (dCons (dC (.int 0)) dNil))) (dCons (dBin addD (dVar 4) (dLst (dCons (dC (.int 1)) dNil))) dNil))) dNil))) sNop)) (sSeq (sAsg (dVar 3) (.nm 1)) sNop)))) (sSeq (sRet (dVar 1)) sNop)))
def D__law_bit_rows : List D → SS → Res D := defD n__law_bit_rows.length b__law_bit_rows
theorem ok__law_bit_rows {P : Program} {w : World} {K : PySem.W.Frag} {mg : Str → Option Value} {base : Heap} {f : Addr} {fd : FuncData} (F : Fun K "_law_bit_rows" "_law_bit_rows" s__law_bit_rows f fd) (z : Z mg)   : FnOk P w K mg base CX0 1 f fd p__law_bit_rows (spD K ec0 [false] D__law_bit_rows false) := by
  refine fn_pd (k := 0) (N := n__law_bit_rows) (ps := p__law_bit_rows) (ts := [false]) (fr := false) (st := s__law_bit_rows) (body := b__law_bit_rows) (rest := [.dead, .val false, .val false, .val false]) (T := ⟨[.dead, .dead, .dead, .dead, .dead], [], []⟩) F sc__law_bit_rows rfl rfl fun cdv A outer s H E hr => ?_
  have nd : (n__law_bit_rows).Nodup := sc__law_bit_rows.nd
  exact (bj_cons (Γm := [.val false, .val false, .val false, .val false, .val false]) (sj_asg (fr' := false) (ej_new (ej_lst (fr := false) (lj_cons (ej_new (ej_lst (fr := false) lj_nil)) lj_nil))) (gj_nm (i := 1) nd rfl (Or.inl rfl) (Or.inl rfl)) rfl)
 (bj_cons (Γm := [.val false, .val false, .val false, .val false, .val false]) (k_for (fr' := false) rfl PassesOwn.never (i_range1 (fr := false) (fr' := false) (ej_top (v 0)) z.range) (gj_nm (i := 2) nd rfl (Or.inl rfl) (Or.inl rfl))
 (bj_cons (Γm := [.val false, .val false, .val false, .own false, .val false]) (sj_own (fr' := false) (i := 3) (ej_lst (fr := false) lj_nil) nd rfl (Or.inl rfl) (Or.inl rfl) (by decide) rfl)
 (bj_cons (Γm := [.val false, .val false, .val false, .own false, .val false]) (k_for (fr' := false) rfl PassesOwn.never (ij_seq (fr := false) (v 1)) (gj_nm (i := 4) nd rfl (Or.inl rfl) (Or.inl rfl))
 (bj_cons (Γm := [.val false, .val false, .val false, .own false, .val false]) (k_expr (m := .val false) (ej_extend (fr := false) (i := 3) rfl (Or.inl rfl) (by decide) (by decide) rfl (ej_top (ej_new (ej_lst (fr := false) (lj_cons (e_add (ej_top (v 4)) (ej_top (ej_new (ej_lst (fr := false) (lj_cons (ej_int (fr := false)) lj_nil))))) (lj_cons (e_add (ej_top (v 4)) (ej_top (ej_new (ej_lst (fr := false) (lj_cons (ej_int (fr := false)) lj_nil))))) lj_nil)))))))
 k_nil))
 (bj_frz (i := 3) (fr' := false) rfl (bj_cons (Γm := [.val false, .val false, .val false, .val false, .val false]) (sj_asg (fr' := false) (v 3) (gj_nm (i := 1) nd rfl (Or.inl rfl) (Or.inl rfl)) rfl)
 k_nil)))))
 (bj_cons (Γm := [.dead, .dead, .dead, .dead, .dead]) (sj_ret (v 1))
 k_nil)))
abbrev s__law_unsorted : Stmt := topS 36
def n__law_unsorted : List Str := ["many", "net", "row"]
def p__law_unsorted : List Str := ["many", "net"]
theorem sc__law_unsorted : FnScope n__law_unsorted p__law_unsorted (defScope s__law_unsorted) := ⟨rfl, rfl, rfl, by decide +kernel, rfl, by decide +kernel, by decide +kernel⟩
def b__law_unsorted : SDen := (sSeq (sRet (dLc (dSeq (dCall D__law_bit_rows (dCons (dVar 0) dNil))) (.nm 2) (dCmp neD (dCall D__law_run (dCons (dVar 1) (dCons (dVar 2) dNil))) (dPrimL sortedD (dCons (dVar 2) dNil))) (dVar 2) [2])) sNop)
def D__law_unsorted : List D → SS → Res D := defD n__law_unsorted.length b__law_unsorted
theorem ok__law_unsorted {P : Program} {w : World} {K : PySem.W.Frag} {mg : Str → Option Value} {base : Heap} {f : Addr} {fd : FuncData} (F : Fun K "_law_unsorted" "_law_unsorted" s__law_unsorted f fd) (z : Z mg)  (c__law_bit_rows : CallOk P w K mg base 1 "_law_bit_rows" p__law_bit_rows [false] D__law_bit_rows false) (c__law_run : CallOk P w K mg base 1 "_law_run" p__law_run [false, false] D__law_run false) : FnOk P w K mg base CX0 2 f fd p__law_unsorted (spD K ec0 [false, false] D__law_unsorted false) := by
  refine fn_pd (k := 1) (N := n__law_unsorted) (ps := p__law_unsorted) (ts := [false, false]) (fr := false) (st := s__law_unsorted) (body := b__law_unsorted) (rest := [.dead]) (T := ⟨[.dead, .dead, .dead], [], []⟩) F sc__law_unsorted rfl rfl fun cdv A outer s H E hr => ?_
  have nd : (n__law_unsorted).Nodup := sc__law_unsorted.nd
  exact (bj_cons (Γm := [.dead, .dead, .dead]) (sj_ret (ej_new (ej_lc (fr := false) (fr' := false) (own := [("row", 2)]) rfl nd (ij_seq (fr := false) (ej_c c__law_bit_rows hr (aj_cons (m := .val false) (v 0) aj_nil rfl))) (blkOk_by (own := [("row", 2)]) (N := n__law_unsorted) (sc := (defScope s__law_unsorted)) (by decide +kernel)) (fun _ _ _ _ _ => (gj_nm (i := 2) nd rfl (Or.inl rfl) (Or.inr rfl))) (fun _ _ _ _ _ => (tsj_one (t_c (fr := false) (c_ne hr) (ej_top (ej_c c__law_run hr (aj_cons (m := .val false) (v 1) (aj_cons (m := .val false) (v 2) aj_nil rfl) rfl))) (ej_top (ej_new (b_sorted (fr := false) (ej_top (v 2)) z.sorted)))))) (fun _ _ _ _ _ => (v 2)) (by decide))))
 k_nil)
abbrev s__law_needless : Stmt := topS 37
def n__law_needless : List Str := ["many", "net", "moved", "row", "found", "index", "low", "high"]
def p__law_needless : List Str := ["many", "net"]
theorem sc__law_needless : FnScope n__law_needless p__law_needless (defScope s__law_needless) := ⟨rfl, rfl, rfl, by decide +kernel, rfl, by decide +kernel, by decide +kernel⟩
def b__law_needless : SDen := (sSeq (sAsg (dDict (dLc (dIt rng1D (dCons (dPrim lenD (dCons (dVar 1) dNil)) dNil)) (.nm 5) dYes (dTup (dCons (dVar 5) (dCons (dC (.bool false)) dNil))) [5])) (.nm 2)) (sSeq (sFor (dSeq (dCall D__law_bit_rows (dCons (dVar 0) dNil))) (.nm 3) (sSeq (sAsg (dPrimL listD (dCons (dVar 3) dNil)) (.nm 4)) (sSeq (sFor (dIt enumA (dCons (dVar 1) dNil)) (.tup [(.nm 5), (.tup [(.nm 6), (.nm 7)])]) (sSeq (sIf (dCmp ltD (dBin ixD (dVar 4) (dVar 7)) (dBin ixD (dVar 4) (dVar 6))) (sSeq (sDput 2 (dC (.bool true)) (dVar 5)) sNop) sNop) (sSeq (sAsgA (dPrimL sortedD (dCons (dLst (dCons (dBin ixD (dVar 4) (dVar 6)) (dCons (dBin ixD (dVar 4) (dVar 7)) dNil))) dNil)) (aTup 2 (aCons (aSub 4 (dVar 6)) (aCons (aSub 4 (dVar 7)) aNil)))) sNop))) sNop))) (sSeq (sRet (dLc (dIt rng1D (dCons (dPrim lenD (dCons (dVar 1) dNil)) dNil)) (.nm 5) (dNot (dT (dBin ixD (dVar 2) (dVar 5)))) (dVar 5) [5])) sNop)))
def D__law_needless : List D → SS → Res D := defD n__law_needless.length b__law_needless
theorem ok__law_needless {P : Program} {w : World} {K : PySem.W.Frag} {mg : Str → Option Value} {base : Heap} {f : Addr} {fd : FuncData} (F : Fun K "_law_needless" "_law_needless" s__law_needless f fd) (z : Z mg)  (c__law_bit_rows : CallOk P w K mg base 1 "_law_bit_rows" p__law_bit_rows [false] D__law_bit_rows false) : FnOk P w K mg base CX0 2 f fd p__law_needless (spD K ec0 [false, false] D__law_needless false) := by
  refine fn_pd (k := 1) (N := n__law_needless) (ps := p__law_needless) (ts := [false, false]) (fr := false) (st := s__law_needless) (body := b__law_needless) (rest := [.dead, .val false, .own false, .val false, .val false, .val false]) (T := ⟨[.dead, .dead, .dead, .dead, .dead, .dead, .dead, .dead], [], []⟩) F sc__law_needless rfl rfl fun cdv A outer s H E hr => ?_
  have nd : (n__law_needless).Nodup := sc__law_needless.nd
  exact (bj_cons (Γm := [.val false, .val false, .own false, .val false, .own false, .val false, .val false, .val false]) (sj_own (fr' := false) (i := 2) (b_dict (fr := false) (ej_top (ej_new (ej_lc (fr := false) (fr' := false) (own := [("index", 5)]) rfl nd (i_range1 (fr := false) (fr' := false) (ej_top (b_len (fr := false) (ej_top (v 1)) z.len)) z.range) (blkOk_by (own := [("index", 5)]) (N := n__law_needless) (sc := (defScope s__law_needless)) (by decide +kernel)) (fun _ _ _ _ _ => (gj_nm (i := 5) nd rfl (Or.inl rfl) (Or.inr rfl))) (fun _ _ _ _ _ => tsj_nil) (fun _ _ _ _ _ => (ej_tup (fr := false) (lj_cons (v 5) (lj_cons (ej_bl (fr := false)) lj_nil)))) (by decide)))) z.dict_) nd rfl (Or.inr rfl) (Or.inl rfl) (by decide) rfl)
 (bj_cons (Γm := [.val false, .val false, .own false, .val false, .own false, .val false, .val false, .val false]) (k_for (fr' := false) rfl PassesOwn.never (ij_seq (fr := false) (ej_c c__law_bit_rows hr (aj_cons (m := .val false) (v 0) aj_nil rfl))) (gj_nm (i := 3) nd rfl (Or.inl rfl) (Or.inl rfl))
 (bj_cons (Γm := [.val false, .val false, .own false, .val false, .own false, .val false, .val false, .val false]) (sj_own (fr' := false) (i := 4) (b_list (fr := false) (ej_top (v 3)) z.list_) nd rfl (Or.inl rfl) (Or.inl rfl) (by decide) rfl)
 (bj_cons (Γm := [.val false, .val false, .own false, .val false, .own false, .val false, .val false, .val false]) (k_for (fr' := false) rfl PassesOwn.never (i_enum (fr := false) (v 1) z.enumerate) (gj_tup rfl (gsj_cons (gj_nm (i := 5) nd rfl (Or.inl rfl) (Or.inl rfl)) (gsj_cons (gj_tup rfl (gsj_cons (gj_nm (i := 6) nd rfl (Or.inl rfl) (Or.inl rfl)) (gsj_cons (gj_nm (i := 7) nd rfl (Or.inl rfl) (Or.inl rfl)) gsj_nil))) gsj_nil)))
 (bj_cons (Γm := [.val false, .val false, .own false, .val false, .own false, .val false, .val false, .val false]) (sj_if (t_c (fr := false) (c_lt hr) (ej_top (e_ix (fr := false) hr (vo 4) (ej_top (v 7)))) (ej_top (e_ix (fr := false) hr (vo 4) (ej_top (v 6))))) (bj_cons (Γm := [.val false, .val false, .own false, .val false, .own false, .val false, .val false, .val false]) (k_dput (fr := false) (fr' := false) (i := 2) (hu1 hr) rfl (Or.inr (Or.inl rfl)) (by decide) (by decide) rfl (ej_bl (fr := false)) (v 5))
 k_nil)
 k_nil)
 (bj_cons (Γm := [.val false, .val false, .own false, .val false, .own false, .val false, .val false, .val false]) (k_asgA (fr' := false) (ej_new (b_sorted (fr := false) (ej_top (ej_new (ej_lst (fr := false) (lj_cons (e_ix (fr := false) hr (vo 4) (ej_top (v 6))) (lj_cons (e_ix (fr := false) hr (vo 4) (ej_top (v 7))) lj_nil))))) z.sorted)) (ag_tup (n := 2) rfl (ags_cons (ag_sub (fr := false) (fr' := false) (i := 4) rfl (Or.inl rfl) (by decide) (by decide) rfl (v 6)) (ags_cons (ag_sub (fr := false) (fr' := false) (i := 4) rfl (Or.inl rfl) (by decide) (by decide) rfl (v 7)) ags_nil))))
 k_nil)))
 k_nil)))
 (bj_cons (Γm := [.dead, .dead, .dead, .dead, .dead, .dead, .dead, .dead]) (sj_ret (ej_new (ej_lc (fr := false) (fr' := false) (own := [("index", 5)]) rfl nd (i_range1 (fr := false) (fr' := false) (ej_top (b_len (fr := false) (ej_top (v 1)) z.len)) z.range) (blkOk_by (own := [("index", 5)]) (N := n__law_needless) (sc := (defScope s__law_needless)) (by decide +kernel)) (fun _ _ _ _ _ => (gj_nm (i := 5) nd rfl (Or.inl rfl) (Or.inr rfl))) (fun _ _ _ _ _ => (tsj_one (tj_not (t_v (fr := false) (e_ix (fr := false) hr (vo 2) (ej_top (v 5))))))) (fun _ _ _ _ _ => (v 5)) (by decide))))
 k_nil)))
abbrev s__law_fewest : Stmt := topS 38
def n__law_fewest : List Str := ["many", "net", "parts", "pair", "sizes", "size", "some"]
def p__law_fewest : List Str := ["many", "net"]
theorem sc__law_fewest : FnScope n__law_fewest p__law_fewest (defScope s__law_fewest) := ⟨rfl, rfl, rfl, by decide +kernel, rfl, by decide +kernel, by decide +kernel⟩
def b__law_fewest : SDen := (sSeq (sAsg (dLst (dCons (dLst dNil) dNil)) (.nm 2)) (sSeq (sFor (dSeq (dVar 1)) (.nm 3) (sSeq (sAsg (dBin addD (dVar 2) (dLc (dSeq (dVar 2)) (.nm 6) dYes (dBin addD (dVar 6) (dLst (dCons (dVar 3) dNil))) [6])) (.nm 2)) sNop)) (sSeq (sAsg (dPrimL sortedD (dCons (dDict (dLc (dSeq (dVar 2)) (.nm 6) dYes (dTup (dCons (dPrim lenD (dCons (dVar 6) dNil)) (dCons (dC (.bool true)) dNil))) [6])) dNil)) (.nm 4)) (sSeq (sFor (dSeq (dVar 4)) (.nm 5) (sSeq (sIf (dT (dPrim anyD (dCons (dLc (dSeq (dVar 2)) (.nm 6) (dCmp eqD (dPrim lenD (dCons (dVar 6) dNil)) (dVar 5)) (dB (dCmp eqD (dCall D__law_unsorted (dCons (dVar 0) (dCons (dVar 6) dNil))) (dLst dNil))) [6]) dNil))) (sSeq (sRet (dVar 5)) sNop) sNop) sNop)) (sSeq (sRet (dC .none)) sNop)))))
def D__law_fewest : List D → SS → Res D := defD n__law_fewest.length b__law_fewest
theorem ok__law_fewest {P : Program} {w : World} {K : PySem.W.Frag} {mg : Str → Option Value} {base : Heap} {f : Addr} {fd : FuncData} (F : Fun K "_law_fewest" "_law_fewest" s__law_fewest f fd) (z : Z mg)  (c__law_unsorted : CallOk P w K mg base 2 "_law_unsorted" p__law_unsorted [false, false] D__law_unsorted false) : FnOk P w K mg base CX0 3 f fd p__law_fewest (spD K ec0 [false, false] D__law_fewest false) := by
  refine fn_pd (k := 2) (N := n__law_fewest) (ps := p__law_fewest) (ts := [false, false]) (fr := false) (st := s__law_fewest) (body := b__law_fewest) (rest := [.dead, .val false, .dead, .val false, .dead]) (T := ⟨[.dead, .dead, .dead, .dead, .dead, .dead, .dead], [], []⟩) F sc__law_fewest rfl rfl fun cdv A outer s H E hr => ?_
  have nd : (n__law_fewest).Nodup := sc__law_fewest.nd
  exact (bj_cons (Γm := [.val false, .val false, .val false, .val false, .dead, .val false, .dead]) (sj_asg (fr' := false) (ej_new (ej_lst (fr := false) (lj_cons (ej_new (ej_lst (fr := false) lj_nil)) lj_nil))) (gj_nm (i := 2) nd rfl (Or.inl rfl) (Or.inl rfl)) rfl)
 (bj_cons (Γm := [.val false, .val false, .val false, .val false, .dead, .val false, .dead]) (k_for (fr' := false) rfl PassesOwn.never (ij_seq (fr := false) (v 1)) (gj_nm (i := 3) nd rfl (Or.inr rfl) (Or.inl rfl))
 (bj_cons (Γm := [.val false, .val false, .val false, .val false, .dead, .val false, .dead]) (sj_asg (fr' := false) (e_add (ej_top (v 2)) (ej_top (ej_new (ej_lc (fr := false) (fr' := false) (own := [("some", 6)]) rfl nd (ij_seq (fr := false) (v 2)) (blkOk_by (own := [("some", 6)]) (N := n__law_fewest) (sc := (defScope s__law_fewest)) (by decide +kernel)) (fun _ _ _ _ _ => (gj_nm (i := 6) nd rfl (Or.inl rfl) (Or.inr rfl))) (fun _ _ _ _ _ => tsj_nil) (fun _ _ _ _ _ => (e_add (ej_top (v 6)) (ej_top (ej_new (ej_lst (fr := false) (lj_cons (v 3) lj_nil)))))) (by decide))))) (gj_nm (i := 2) nd rfl (Or.inl rfl) (Or.inl rfl)) rfl)
 k_nil))
 (bj_cons (Γm := [.val false, .val false, .val false, .val false, .val false, .val false, .dead]) (sj_asg (fr' := false) (ej_new (b_sorted (fr := false) (ej_top (ej_new (b_dict (fr := false) (ej_top (ej_new (ej_lc (fr := false) (fr' := false) (own := [("some", 6)]) rfl nd (ij_seq (fr := false) (v 2)) (blkOk_by (own := [("some", 6)]) (N := n__law_fewest) (sc := (defScope s__law_fewest)) (by decide +kernel)) (fun _ _ _ _ _ => (gj_nm (i := 6) nd rfl (Or.inl rfl) (Or.inr rfl))) (fun _ _ _ _ _ => tsj_nil) (fun _ _ _ _ _ => (ej_tup (fr := false) (lj_cons (b_len (fr := false) (ej_top (v 6)) z.len) (lj_cons (ej_bl (fr := false)) lj_nil)))) (by decide)))) z.dict_))) z.sorted)) (gj_nm (i := 4) nd rfl (Or.inl rfl) (Or.inl rfl)) rfl)
 (bj_cons (Γm := [.val false, .val false, .val false, .val false, .val false, .val false, .dead]) (k_for (fr' := false) rfl PassesOwn.never (ij_seq (fr := false) (v 4)) (gj_nm (i := 5) nd rfl (Or.inr rfl) (Or.inl rfl))
 (bj_cons (Γm := [.val false, .val false, .val false, .val false, .val false, .val false, .dead]) (sj_if (t_v (fr := false) (b_any (fr := false) (ej_top (ej_new (ej_lc (fr := false) (fr' := false) (own := [("some", 6)]) rfl nd (ij_seq (fr := false) (v 2)) (blkOk_by (own := [("some", 6)]) (N := n__law_fewest) (sc := (defScope s__law_fewest)) (by decide +kernel)) (fun _ _ _ _ _ => (gj_nm (i := 6) nd rfl (Or.inl rfl) (Or.inr rfl))) (fun _ _ _ _ _ => (tsj_one (t_c (fr := false) (c_eq hr) (ej_top (b_len (fr := false) (ej_top (v 6)) z.len)) (ej_top (v 5))))) (fun _ _ _ _ _ => (e_c (fr := false) (c_eq hr) (ej_top (ej_c c__law_unsorted hr (aj_cons (m := .val false) (v 0) (aj_cons (m := .val false) (v 6) aj_nil rfl) rfl))) (ej_top (ej_new (ej_lst (fr := false) lj_nil))))) (by decide)))) z.any)) (bj_cons (Γm := [.val false, .val false, .val false, .val false, .val false, .val false, .dead]) (sj_ret (v 5))
 k_nil)
 k_nil)
 k_nil))
 (bj_cons (Γm := [.dead, .dead, .dead, .dead, .dead, .dead, .dead]) (sj_ret (ej_non (fr := false)))
 k_nil)))))
abbrev s_law : Stmt := topS 39
def n_law : List Str := ["script", "stream", "turn", "many", "net", "at", "ask", "due", "was", "told", "kept", "rest", "again", "row", "few", "places", "fewest", "some", "index", "pair", "place", "low", "high"]
def p_law : List Str := ["script"]
theorem sc_law : FnScope n_law p_law (defScope s_law) := ⟨rfl, rfl, rfl, by decide +kernel, rfl, by decide +kernel, by decide +kernel⟩
def b_law : SDen := (sSeq (sFor (dIt rng1D (dCons (dC (.int 5)) dNil)) (.nm 2) (sSeq (sAsg (dBin addD (dC (.int 1)) (dCall D__law_draw (dCons (dVar 1) (dCons (dC (.int 6)) dNil)))) (.nm 3)) (sSeq (sAsg (dCall D__law_net (dCons (dVar 1) (dCons (dVar 3) (dCons (dC (.int 12)) dNil)))) (.nm 4)) (sSeq (sIf (dAnd (dCmp neD (dVar 4) (dLst dNil)) (dAnd (dCmp ltD (dPrim lenD (dCons (dVar 4) dNil)) (dC (.int 11))) (dCmp eqD (dCall D__law_draw (dCons (dVar 1) (dCons (dC (.int 2)) dNil))) (dC (.int 0))))) (sSeq (sAsg (dCall D__law_draw (dCons (dVar 1) (dCons (dPrim lenD (dCons (dVar 4) dNil)) dNil))) (.nm 5)) (sSeq (sAsg (dBin addD (dBin addD (dSl sliceD (dVar 4) dPo0 (dPo (dVar 5))) (dLst (dCons (dBin ixD (dVar 4) (dVar 5)) dNil))) (dSl sliceD (dVar 4) (dPo (dVar 5)) dPo0)) (.nm 4)) sNop)) sNop) (sSeq (sPar (dCons (dCall D__law_handed (dCons (dVar 1) (dCons (dVar 4) dNil))) (dCons (dCall D__law_needless (dCons (dVar 3) (dCons (dVar 4) dNil))) dNil)) [6, 7]) (sSeq (sPar (dCons (dPrim reprD (dCons (dVar 6) dNil)) (dCons (dFlat (dCall D_needless (dCons (dVar 3) (dCons (dVar 6) dNil)))) dNil)) [8, 9]) (sSeq (sAsg (dCall (D__law_copied 8) (dCons (dVar 9) dNil)) (.nm 10)) (sSeq (sSpoil 9) (sSeq (sIf (dNot (dT (dCall (D__law_same 8) (dCons (dLst (dCons (dVar 10) (dCons (dCall D_needless (dCons (dVar 3) (dCons (dVar 6) dNil))) (dCons (dCall D_needless (dPerm [1, 0] (dCons (dCall (D__law_copied 8) (dCons (dVar 4) dNil)) (dCons (dVar 3) dNil)))) dNil)))) (dCons (dBin mulD (dLst (dCons (dVar 7) dNil)) (dC (.int 3))) dNil))))) (sSeq (sRet (dC (.bool false))) sNop) sNop) (sSeq (sAsg (dLc (dIt enumA (dCons (dVar 4) dNil)) (.tup [(.nm 18), (.nm 19)]) (dCmp notInD (dVar 18) (dVar 7)) (dVar 19) [18, 19]) (.nm 11)) (sSeq (sIf (dNot (dT (dCall (D__law_same 8) (dCons (dCall D_needless (dCons (dVar 3) (dCons (dCall D__law_handed (dCons (dVar 1) (dCons (dVar 11) dNil))) dNil))) (dCons (dLst dNil) dNil))))) (sSeq (sRet (dC (.bool false))) sNop) sNop) (sSeq (sFor (dIt rng1D (dCons (dC (.int 4)) dNil)) (.nm 12) (sSeq (sAsg (dLc (dIt rng1D (dCons (dVar 3) dNil)) (.nm 20) dYes (dBin subD (dCall D__law_draw (dCons (dVar 1) (dCons (dC (.int 7)) dNil))) (dC (.int 3))) [20]) (.nm 13)) (sSeq (sIf (dNot (dT (dCall (D__law_same 8) (dCons (dLst (dCons (dCall D_net_row (dCons (dVar 3) (dCons (dVar 6) (dCons (dPrimL listD (dCons (dVar 13) dNil)) dNil)))) (dCons (dCall D_net_row (dCons (dVar 3) (dCons (dCall (D__law_copied 8) (dCons (dVar 11) dNil)) (dCons (dPrimL listD (dCons (dVar 13) dNil)) dNil)))) dNil))) (dCons (dBin mulD (dLst (dCons (dCall D__law_run (dCons (dVar 4) (dCons (dVar 13) dNil))) dNil)) (dC (.int 2))) dNil))))) (sSeq (sRet (dC (.bool false))) sNop) sNop) sNop))) (sSeq (sAsg (dCall D__law_net (dCons (dVar 1) (dCons (dBin addD (dC (.int 1)) (dCall D__law_draw (dCons (dVar 1) (dCons (dC (.int 4)) dNil)))) (dCons (dIf (dCmp eqD (dVar 2) (dC (.int 0))) (dC (.int 10)) (dC (.int 7))) dNil)))) (.nm 14)) (sSeq (sAsg (dPrim maxD (dCons (dBin addD (dLc (dSeq (dVar 14)) (.tup [(.nm 21), (.nm 22)]) dYes (dBin addD (dVar 22) (dC (.int 1))) [21, 22]) (dLst (dCons (dC (.int 1)) dNil))) dNil)) (.nm 15)) (sSeq (sAsg (dCall D__law_fewest (dCons (dVar 15) (dCons (dVar 14) dNil))) (.nm 16)) (sSeq (sIf (dOr (dNot (dT (dCall (D__law_same 8) (dCons (dLst (dCons (dCall D_fewest_left (dCons (dVar 15) (dCons (dCall D__law_handed (dCons (dVar 1) (dCons (dVar 14) dNil))) dNil))) (dCons (dCall D_fewest_left (dPerm [1, 0] (dCons (dCall (D__law_copied 8) (dCons (dVar 14) dNil)) (dCons (dVar 15) dNil)))) dNil))) (dCons (dLst (dCons (dVar 16) (dCons (dVar 16) dNil))) dNil))))) (dCmp neD (dPrim reprD (dCons (dVar 6) dNil)) (dVar 8))) (sSeq (sRet (dC (.bool false))) sNop) sNop) sNop)))))))))))))))) (sSeq (sAsg (dLst (dCons (dTup (dCons (dC (.int 0)) (dCons (dC (.int 1)) dNil))) (dCons (dTup (dCons (dC (.int 0)) (dCons (dC (.int 1)) dNil))) (dCons (dTup (dCons (dC (.int 1)) (dCons (dC (.int 2)) dNil))) (dCons (dTup (dCons (dC (.int 0)) (dCons (dC (.int 1)) dNil))) dNil))))) (.nm 17)) (sSeq (sRet (dCall (D__law_same 8) (dCons (dLst (dCons (dCall D_needless (dCons (dC (.int 3)) (dCons (dVar 17) dNil))) (dCons (dCall D_fewest_left (dCons (dC (.int 3)) (dCons (dVar 17) dNil))) (dCons (dCall D_fewest_left (dCons (dC (.int 2)) (dCons (dLst dNil) dNil))) (dCons (dCall D_fewest_left (dCons (dC (.int 1)) (dCons (dLst dNil) dNil))) dNil))))) (dCons (dLst (dCons (dLst (dCons (dC (.int 1)) dNil)) (dCons (dC (.int 3)) (dCons (dC .none) (dCons (dC (.int 0)) dNil))))) dNil)))) sNop)))
def D_law : List D → SS → Res D := defD n_law.length b_law
theorem ok_law {P : Program} {w : World} {K : PySem.W.Frag} {mg : Str → Option Value} {base : Heap} {f : Addr} {fd : FuncData} {fs : Addr} {fds : FuncData} (F : Fun K "law" "law" s_law f fd) (z : Z mg) (hs : FnOk P w K mg base CX0 1 fs fds ["script"] (spStr K)) (ms : mg "_law_stream" = some (.ref fs)) (ks : PySem.W.keepIn K (.ref fs) = true) (bs : Binds K fds ["script"] []) (k_needless_net_many : CallOkK P w K mg base 6 "needless" p_needless ["net", "many"] [1, 0] D_needless true) (k_fewest_left_net_many : CallOkK P w K mg base 6 "fewest_left" p_fewest_left ["net", "many"] [1, 0] D_fewest_left false) (spl : SpOk P w K mg base 3 "_law_spoilt") (c__law_draw : CallOk P w K mg base 1 "_law_draw" p__law_draw [true, false] D__law_draw false) (c__law_net : CallOk P w K mg base 3 "_law_net" p__law_net [true, false, false] D__law_net false) (c__law_handed : CallOk P w K mg base 10 "_law_handed" p__law_handed [true, false] D__law_handed false) (c__law_needless : CallOk P w K mg base 2 "_law_needless" p__law_needless [false, false] D__law_needless false) (c_needless : CallOk P w K mg base 6 "needless" p_needless [false, false] D_needless true) (c__law_copied : CallOk P w K mg base 8 "_law_copied" p__law_copied [false] (D__law_copied 8) true) (c__law_same : CallOk P w K mg base 8 "_law_same" p__law_same [false, false] (D__law_same 8) false) (c_net_row : CallOk P w K mg base 6 "net_row" p_net_row [false, false, false] D_net_row false) (c__law_run : CallOk P w K mg base 1 "_law_run" p__law_run [false, false] D__law_run false) (c__law_fewest : CallOk P w K mg base 3 "_law_fewest" p__law_fewest [false, false] D__law_fewest false) (c_fewest_left : CallOk P w K mg base 6 "fewest_left" p_fewest_left [false, false] D_fewest_left false) : FnG P w K mg base 11 f fd ["script"] (spLaw K n_law.length 1 b_law) := by
  refine law_g (k := 10) (N := n_law) (i := 1) (Γ := [.dead, .stm, .val false, .val false, .val false, .val false, .val false, .val false, .val false, .own false, .val true, .val false, .val false, .val false, .val false, .val false, .val false, .dead, .dead, .dead, .dead, .dead, .dead]) (st := s_law) (body := b_law) (fr := false) (T := ⟨[.dead, .dead, .dead, .dead, .dead, .dead, .dead, .dead, .dead, .dead, .dead, .dead, .dead, .dead, .dead, .dead, .dead, .dead, .dead, .dead, .dead, .dead, .dead], [], []⟩) F sc_law rfl rfl rfl (fun cdv A outer s H E hr => ps_set (i := 1) sc_law.nd rfl (.inr rfl) (pe_call (hs.mono (by decide)) hr rfl ms ks bs .nil pass0 (pa_cons (pv 0) pa_nil))) fun cdv A outer s H E hgd hr => ?_
  have nd : (n_law).Nodup := sc_law.nd
  exact (bj_cons (Γm := [.dead, .stm, .val false, .val false, .val false, .val false, .val false, .val false, .val false, .own false, .val true, .val false, .val false, .val false, .val false, .val false, .val false, .dead, .dead, .dead, .dead, .dead, .dead]) (k_for (fr' := false) rfl PassesOwn.never (i_range1 (fr := false) (fr' := false) (ej_top (ej_int (fr := false))) z.range) (gj_nm (i := 2) nd rfl (Or.inl rfl) (Or.inl rfl))
 (bj_cons (Γm := [.dead, .stm, .val false, .val false, .val false, .val false, .val false, .val false, .val false, .own false, .val true, .val false, .val false, .val false, .val false, .val false, .val false, .dead, .dead, .dead, .dead, .dead, .dead]) (sj_asg (fr' := false) (e_add (ej_top (ej_int (fr := false))) (ej_top (ej_c c__law_draw hr (aj_cons (m := .stm) (vs 1) (aj_cons (m := .val false) (ej_int (fr := false)) aj_nil rfl) rfl)))) (gj_nm (i := 3) nd rfl (Or.inl rfl) (Or.inl rfl)) rfl)
 (bj_cons (Γm := [.dead, .stm, .val false, .val false, .val false, .val false, .val false, .val false, .val false, .own false, .val true, .val false, .val false, .val false, .val false, .val false, .val false, .dead, .dead, .dead, .dead, .dead, .dead]) (sj_asg (fr' := false) (ej_c c__law_net hr (aj_cons (m := .stm) (vs 1) (aj_cons (m := .val false) (v 3) (aj_cons (m := .val false) (ej_int (fr := false)) aj_nil rfl) rfl) rfl)) (gj_nm (i := 4) nd rfl (Or.inl rfl) (Or.inl rfl)) rfl)
 (bj_cons (Γm := [.dead, .stm, .val false, .val false, .val false, .val false, .val false, .val false, .val false, .own false, .val true, .val false, .val false, .val false, .val false, .val false, .val false, .dead, .dead, .dead, .dead, .dead, .dead]) (sj_if (tj_w (wj_and (t_c (fr := false) (c_ne hr) (ej_top (v 4)) (ej_top (ej_new (ej_lst (fr := false) lj_nil)))) (wj_and (t_c (fr := false) (c_lt hr) (ej_top (b_len (fr := false) (ej_top (v 4)) z.len)) (ej_top (ej_int (fr := false)))) (wj_and1 (t_c (fr := false) (c_eq hr) (ej_top (ej_c c__law_draw hr (aj_cons (m := .stm) (vs 1) (aj_cons (m := .val false) (ej_int (fr := false)) aj_nil rfl) rfl))) (ej_top (ej_int (fr := false)))))))) (bj_cons (Γm := [.dead, .stm, .val false, .val false, .val false, .val false, .val false, .val false, .val false, .own false, .val true, .val false, .val false, .val false, .val false, .val false, .val false, .dead, .dead, .dead, .dead, .dead, .dead]) (sj_asg (fr' := false) (ej_c c__law_draw hr (aj_cons (m := .stm) (vs 1) (aj_cons (m := .val false) (b_len (fr := false) (ej_top (v 4)) z.len) aj_nil rfl) rfl)) (gj_nm (i := 5) nd rfl (Or.inl rfl) (Or.inl rfl)) rfl)
 (bj_cons (Γm := [.dead, .stm, .val false, .val false, .val false, .val false, .val false, .val false, .val false, .own false, .val true, .val false, .val false, .val false, .val false, .val false, .val false, .dead, .dead, .dead, .dead, .dead, .dead]) (sj_asg (fr' := false) (e_add (ej_top (e_add (ej_top (ej_slice (fr := false) (ej_top (v 4)) poj_none (poj_some (fr := false) (v 5)))) (ej_top (ej_new (ej_lst (fr := false) (lj_cons (e_ix (fr := false) hr (ej_top (v 4)) (ej_top (v 5))) lj_nil)))))) (ej_top (ej_slice (fr := false) (ej_top (v 4)) (poj_some (fr := false) (v 5)) poj_none))) (gj_nm (i := 4) nd rfl (Or.inl rfl) (Or.inl rfl)) rfl)
 k_nil))
 k_nil)
 (bj_cons (Γm := [.dead, .stm, .val false, .val false, .val false, .val false, .val false, .val false, .val false, .own false, .val true, .val false, .val false, .val false, .val false, .val false, .val false, .dead, .dead, .dead, .dead, .dead, .dead]) (sj_parN (is := [6, 7]) (ms := [.val false, .val false]) rfl (.cons nd rfl (Or.inl rfl) (Or.inl rfl) rfl (.cons nd rfl (Or.inr rfl) (Or.inl rfl) rfl .nil)) (aj_cons (m := .val false) (ej_c c__law_handed hr (aj_cons (m := .stm) (vs 1) (aj_cons (m := .val false) (v 4) aj_nil rfl) rfl)) (aj_cons (m := .val false) (ej_c c__law_needless hr (aj_cons (m := .val false) (v 3) (aj_cons (m := .val false) (v 4) aj_nil rfl) rfl)) aj_nil rfl) rfl) rfl rfl (by decide) (by decide) rfl rfl rfl)
 (bj_cons (Γm := [.dead, .stm, .val false, .val false, .val false, .val false, .val false, .val false, .val false, .own false, .val true, .val false, .val false, .val false, .val false, .val false, .val false, .dead, .dead, .dead, .dead, .dead, .dead]) (sj_par2 (m1 := .val false) (m2 := .new false) (i := 8) (j := 9) rfl nd rfl rfl (by decide) rfl rfl (aj_cons (m := .val false) (b_repr (fr := false) hgd hr (ej_top (v 6)) z.repr) (aj_cons (m := .new false) (ej_cN (fr' := false) c_needless hr (aj_cons (m := .val false) (v 3) (aj_cons (m := .val false) (v 6) aj_nil rfl) rfl)) aj_nil rfl) rfl) rfl (by decide) (by decide) rfl rfl)
 (bj_cons (Γm := [.dead, .stm, .val false, .val false, .val false, .val false, .val false, .val false, .val false, .own false, .val true, .val false, .val false, .val false, .val false, .val false, .val false, .dead, .dead, .dead, .dead, .dead, .dead]) (sj_asg (fr' := true) (ej_cF c__law_copied hr (aj_cons (m := .top false) (vo 9) aj_nil rfl)) (gj_nm (i := 10) nd rfl (Or.inl rfl) (Or.inl rfl)) rfl)
 (bj_cons (Γm := [.dead, .stm, .val false, .val false, .val false, .val false, .val false, .val false, .val false, .own false, .val true, .val false, .val false, .val false, .val false, .val false, .val false, .dead, .dead, .dead, .dead, .dead, .dead]) (sj_spoil (fr := false) (i := 9) spl hr rfl (Or.inl rfl) (by decide) (by decide) rfl)
 (bj_cons (Γm := [.dead, .stm, .val false, .val false, .val false, .val false, .val false, .val false, .val false, .own false, .val true, .val false, .val false, .val false, .val false, .val false, .val false, .dead, .dead, .dead, .dead, .dead, .dead]) (sj_if (tj_not (t_v (fr := false) (ej_c c__law_same hr (aj_cons (m := .val true) (ej_new (ej_lst (fr := true) (lj_cons (v 10) (lj_cons (ej_c c_needless hr (aj_cons (m := .val false) (v 3) (aj_cons (m := .val false) (v 6) aj_nil rfl) rfl)) (lj_cons (ej_k k_needless_net_many hr (kj_cons (ej_fr (ej_c c__law_copied hr (aj_cons (m := .val false) (v 4) aj_nil rfl))) (kj_cons (v 3) kj_nil)) ⟨⟨rfl, rfl⟩, by decide⟩ (dCons_len (dCons_len dNil_len))) lj_nil))))) (aj_cons (m := .val false) (e_mul (ej_top (ej_new (ej_lst (fr := false) (lj_cons (v 7) lj_nil)))) (ej_top (ej_int (fr := false)))) aj_nil rfl) rfl)))) (bj_cons (Γm := [.dead, .stm, .val false, .val false, .val false, .val false, .val false, .val false, .val false, .own false, .val true, .val false, .val false, .val false, .val false, .val false, .val false, .dead, .dead, .dead, .dead, .dead, .dead]) (sj_ret (ej_bl (fr := false)))
 k_nil)
 k_nil)
 (bj_cons (Γm := [.dead, .stm, .val false, .val false, .val false, .val false, .val false, .val false, .val false, .own false, .val true, .own false, .val false, .val false, .val false, .val false, .val false, .dead, .dead, .dead, .dead, .dead, .dead]) (sj_lc (fr := false) (fr' := false) (own := [("index", 18), ("pair", 19)]) rfl nd rfl rfl (by decide) rfl (sw_true rfl rfl rfl (by decide +kernel)) (i_enum (fr := false) (v 4) z.enumerate) (blkOk_by (own := [("index", 18), ("pair", 19)]) (N := n_law) (sc := (defScope s_law)) (by decide +kernel)) (fun _ _ _ _ _ => (gj_tup rfl (gsj_cons (gj_nm (i := 18) nd rfl (Or.inl rfl) (Or.inr rfl)) (gsj_cons (gj_nm (i := 19) nd rfl (Or.inl rfl) (Or.inr rfl)) gsj_nil)))) (fun _ _ _ _ _ => (tsj_one (t_c (fr := false) (c_notIn hr) (ej_top (v 18)) (ej_top (v 7))))) (fun _ _ _ _ _ => (v 19)) (by decide))
 (bj_frz (i := 11) (fr' := false) rfl (bj_cons (Γm := [.dead, .stm, .val false, .val false, .val false, .val false, .val false, .val false, .val false, .own false, .val true, .val false, .val false, .val false, .val false, .val false, .val false, .dead, .dead, .dead, .dead, .dead, .dead]) (sj_if (tj_not (t_v (fr := false) (ej_c c__law_same hr (aj_cons (m := .val true) (ej_c c_needless hr (aj_cons (m := .val false) (v 3) (aj_cons (m := .val false) (ej_c c__law_handed hr (aj_cons (m := .stm) (vs 1) (aj_cons (m := .val false) (v 11) aj_nil rfl) rfl)) aj_nil rfl) rfl)) (aj_cons (m := .val false) (ej_new (ej_lst (fr := false) lj_nil)) aj_nil rfl) rfl)))) (bj_cons (Γm := [.dead, .stm, .val false, .val false, .val false, .val false, .val false, .val false, .val false, .own false, .val true, .val false, .val false, .val false, .val false, .val false, .val false, .dead, .dead, .dead, .dead, .dead, .dead]) (sj_ret (ej_bl (fr := false)))
 k_nil)
 k_nil)
 (bj_cons (Γm := [.dead, .stm, .val false, .val false, .val false, .val false, .val false, .val false, .val false, .own false, .val true, .val false, .val false, .val false, .val false, .val false, .val false, .dead, .dead, .dead, .dead, .dead, .dead]) (k_for (fr' := false) rfl PassesOwn.never (i_range1 (fr := false) (fr' := false) (ej_top (ej_int (fr := false))) z.range) (gj_nm (i := 12) nd rfl (Or.inl rfl) (Or.inl rfl))
 (bj_cons (Γm := [.dead, .stm, .val false, .val false, .val false, .val false, .val false, .val false, .val false, .own false, .val true, .val false, .val false, .own false, .val false, .val false, .val false, .dead, .dead, .dead, .dead, .dead, .dead]) (sj_lc (fr := false) (fr' := false) (own := [("place", 20)]) rfl nd rfl rfl (by decide) rfl (sw_true rfl rfl rfl (by decide +kernel)) (i_range1 (fr := false) (fr' := false) (ej_top (v 3)) z.range) (blkOk_by (own := [("place", 20)]) (N := n_law) (sc := (defScope s_law)) (by decide +kernel)) (fun _ _ _ _ _ => (gj_nm (i := 20) nd rfl (Or.inl rfl) (Or.inr rfl))) (fun _ _ _ _ _ => tsj_nil) (fun _ _ _ _ _ => (e_sub (ej_top (ej_c c__law_draw hr (aj_cons (m := .stm) (vs 1) (aj_cons (m := .val false) (ej_int (fr := false)) aj_nil rfl) rfl))) (ej_top (ej_int (fr := false))))) (by decide))
 (bj_frz (i := 13) (fr' := false) rfl (bj_cons (Γm := [.dead, .stm, .val false, .val false, .val false, .val false, .val false, .val false, .val false, .own false, .val true, .val false, .val false, .val false, .val false, .val false, .val false, .dead, .dead, .dead, .dead, .dead, .dead]) (sj_if (tj_not (t_v (fr := false) (ej_c c__law_same hr (aj_cons (m := .val false) (ej_new (ej_lst (fr := false) (lj_cons (ej_c c_net_row hr (aj_cons (m := .val false) (v 3) (aj_cons (m := .val false) (v 6) (aj_cons (m := .val false) (ej_new (b_list (fr := false) (ej_top (v 13)) z.list_)) aj_nil rfl) rfl) rfl)) (lj_cons (ej_c c_net_row hr (aj_cons (m := .val false) (v 3) (aj_cons (m := .val true) (ej_c c__law_copied hr (aj_cons (m := .val false) (v 11) aj_nil rfl)) (aj_cons (m := .val false) (ej_new (b_list (fr := false) (ej_top (v 13)) z.list_)) aj_nil rfl) rfl) rfl)) lj_nil)))) (aj_cons (m := .val false) (e_mul (ej_top (ej_new (ej_lst (fr := false) (lj_cons (ej_c c__law_run hr (aj_cons (m := .val false) (v 4) (aj_cons (m := .val false) (v 13) aj_nil rfl) rfl)) lj_nil)))) (ej_top (ej_int (fr := false)))) aj_nil rfl) rfl)))) (bj_cons (Γm := [.dead, .stm, .val false, .val false, .val false, .val false, .val false, .val false, .val false, .own false, .val true, .val false, .val false, .val false, .val false, .val false, .val false, .dead, .dead, .dead, .dead, .dead, .dead]) (sj_ret (ej_bl (fr := false)))
 k_nil)
 k_nil)
 k_nil))))
 (bj_cons (Γm := [.dead, .stm, .val false, .val false, .val false, .val false, .val false, .val false, .val false, .own false, .val true, .val false, .val false, .val false, .val false, .val false, .val false, .dead, .dead, .dead, .dead, .dead, .dead]) (sj_asg (fr' := false) (ej_c c__law_net hr (aj_cons (m := .stm) (vs 1) (aj_cons (m := .val false) (e_add (ej_top (ej_int (fr := false))) (ej_top (ej_c c__law_draw hr (aj_cons (m := .stm) (vs 1) (aj_cons (m := .val false) (ej_int (fr := false)) aj_nil rfl) rfl)))) (aj_cons (m := .val false) (ej_if ⟨false, .inl rfl⟩ (t_c (fr := false) (c_eq hr) (ej_top (v 2)) (ej_top (ej_int (fr := false)))) (ej_int (fr := false)) (ej_int (fr := false))) aj_nil rfl) rfl) rfl)) (gj_nm (i := 14) nd rfl (Or.inl rfl) (Or.inl rfl)) rfl)
 (bj_cons (Γm := [.dead, .stm, .val false, .val false, .val false, .val false, .val false, .val false, .val false, .own false, .val true, .val false, .val false, .val false, .val false, .val false, .val false, .dead, .dead, .dead, .dead, .dead, .dead]) (sj_asg (fr' := false) (b_max (fr := false) (ej_top (e_add (ej_top (ej_new (ej_lc (fr := false) (fr' := false) (own := [("low", 21), ("high", 22)]) rfl nd (ij_seq (fr := false) (v 14)) (blkOk_by (own := [("low", 21), ("high", 22)]) (N := n_law) (sc := (defScope s_law)) (by decide +kernel)) (fun _ _ _ _ _ => (gj_tup rfl (gsj_cons (gj_nm (i := 21) nd rfl (Or.inl rfl) (Or.inr rfl)) (gsj_cons (gj_nm (i := 22) nd rfl (Or.inl rfl) (Or.inr rfl)) gsj_nil)))) (fun _ _ _ _ _ => tsj_nil) (fun _ _ _ _ _ => (e_add (ej_top (v 22)) (ej_top (ej_int (fr := false))))) (by decide)))) (ej_top (ej_new (ej_lst (fr := false) (lj_cons (ej_int (fr := false)) lj_nil)))))) z.max) (gj_nm (i := 15) nd rfl (Or.inl rfl) (Or.inl rfl)) rfl)
 (bj_cons (Γm := [.dead, .stm, .val false, .val false, .val false, .val false, .val false, .val false, .val false, .own false, .val true, .val false, .val false, .val false, .val false, .val false, .val false, .dead, .dead, .dead, .dead, .dead, .dead]) (sj_asg (fr' := false) (ej_c c__law_fewest hr (aj_cons (m := .val false) (v 15) (aj_cons (m := .val false) (v 14) aj_nil rfl) rfl)) (gj_nm (i := 16) nd rfl (Or.inl rfl) (Or.inl rfl)) rfl)
 (bj_cons (Γm := [.dead, .stm, .val false, .val false, .val false, .val false, .val false, .val false, .val false, .own false, .val true, .val false, .val false, .val false, .val false, .val false, .val false, .dead, .dead, .dead, .dead, .dead, .dead]) (sj_if (tj_w (wj_or (tj_not (t_v (fr := false) (ej_c c__law_same hr (aj_cons (m := .val false) (ej_new (ej_lst (fr := false) (lj_cons (ej_c c_fewest_left hr (aj_cons (m := .val false) (v 15) (aj_cons (m := .val false) (ej_c c__law_handed hr (aj_cons (m := .stm) (vs 1) (aj_cons (m := .val false) (v 14) aj_nil rfl) rfl)) aj_nil rfl) rfl)) (lj_cons (ej_k k_fewest_left_net_many hr (kj_cons (ej_fr (ej_c c__law_copied hr (aj_cons (m := .val false) (v 14) aj_nil rfl))) (kj_cons (v 15) kj_nil)) ⟨⟨rfl, rfl⟩, by decide⟩ (dCons_len (dCons_len dNil_len))) lj_nil)))) (aj_cons (m := .val false) (ej_new (ej_lst (fr := false) (lj_cons (v 16) (lj_cons (v 16) lj_nil)))) aj_nil rfl) rfl)))) (wj_or1 (t_c (fr := false) (c_ne hr) (ej_top (b_repr (fr := false) hgd hr (ej_top (v 6)) z.repr)) (ej_top (v 8)))))) (bj_cons (Γm := [.dead, .stm, .val false, .val false, .val false, .val false, .val false, .val false, .val false, .own false, .val true, .val false, .val false, .val false, .val false, .val false, .val false, .dead, .dead, .dead, .dead, .dead, .dead]) (sj_ret (ej_bl (fr := false)))
 k_nil)
 k_nil)
 k_nil)))))))))))))))))
 (bj_cons (Γm := [.dead, .stm, .val false, .val false, .val false, .val false, .val false, .val false, .val false, .own false, .val true, .val false, .val false, .val false, .val false, .val false, .val false, .val false, .dead, .dead, .dead, .dead, .dead]) (sj_asg (fr' := false) (ej_new (ej_lst (fr := false) (lj_cons (ej_tup (fr := false) (lj_cons (ej_int (fr := false)) (lj_cons (ej_int (fr := false)) lj_nil))) (lj_cons (ej_tup (fr := false) (lj_cons (ej_int (fr := false)) (lj_cons (ej_int (fr := false)) lj_nil))) (lj_cons (ej_tup (fr := false) (lj_cons (ej_int (fr := false)) (lj_cons (ej_int (fr := false)) lj_nil))) (lj_cons (ej_tup (fr := false) (lj_cons (ej_int (fr := false)) (lj_cons (ej_int (fr := false)) lj_nil))) lj_nil)))))) (gj_nm (i := 17) nd rfl (Or.inl rfl) (Or.inl rfl)) rfl)
 (bj_cons (Γm := [.dead, .dead, .dead, .dead, .dead, .dead, .dead, .dead, .dead, .dead, .dead, .dead, .dead, .dead, .dead, .dead, .dead, .dead, .dead, .dead, .dead, .dead, .dead]) (sj_ret (ej_c c__law_same hr (aj_cons (m := .val false) (ej_new (ej_lst (fr := false) (lj_cons (ej_fr (ej_c c_needless hr (aj_cons (m := .val false) (ej_int (fr := false)) (aj_cons (m := .val false) (v 17) aj_nil rfl) rfl))) (lj_cons (ej_c c_fewest_left hr (aj_cons (m := .val false) (ej_int (fr := false)) (aj_cons (m := .val false) (v 17) aj_nil rfl) rfl)) (lj_cons (ej_c c_fewest_left hr (aj_cons (m := .val false) (ej_int (fr := false)) (aj_cons (m := .val false) (ej_new (ej_lst (fr := false) lj_nil)) aj_nil rfl) rfl)) (lj_cons (ej_c c_fewest_left hr (aj_cons (m := .val false) (ej_int (fr := false)) (aj_cons (m := .val false) (ej_new (ej_lst (fr := false) lj_nil)) aj_nil rfl) rfl)) lj_nil)))))) (aj_cons (m := .val false) (ej_new (ej_lst (fr := false) (lj_cons (ej_new (ej_lst (fr := false) (lj_cons (ej_int (fr := false)) lj_nil))) (lj_cons (ej_int (fr := false)) (lj_cons (ej_non (fr := false)) (lj_cons (ej_int (fr := false)) lj_nil)))))) aj_nil rfl) rfl)))
 k_nil)))
theorem all_mk {P : Program} {w : World} {K : PySem.W.Frag} {h : Heap} {mg : Str → Option Value} {fa : Addr} (X : K.In h) (G : h.Ns mainGlobals mg) (hfa : mg "law" = some (.ref fa)) (d_is_list : DefIn K "is_list" s_is_list) (d_is_whole : DefIn K "is_whole" s_is_whole) (d_is_number : DefIn K "is_number" s_is_number) (d_is_row : DefIn K "is_row" s_is_row) (d_first_bad_pair : DefIn K "first_bad_pair" s_first_bad_pair) (d_check_places : DefIn K "check_places" s_check_places) (d_check_net : DefIn K "check_net" s_check_net) (d_run_on : DefIn K "run_on" s_run_on) (d_net_row : DefIn K "net_row" s_net_row) (d_bit_rows : DefIn K "bit_rows" s_bit_rows) (d_is_ascending : DefIn K "is_ascending" s_is_ascending) (d_first_unsorted : DefIn K "first_unsorted" s_first_unsorted) (d_needless : DefIn K "needless" s_needless) (d_parts_of_net : DefIn K "parts_of_net" s_parts_of_net) (d_fewest_left : DefIn K "fewest_left" s_fewest_left) (d__law_stream : DefIn K "_law_stream" s__law_stream) (d__law_draw : DefIn K "_law_draw" s__law_draw) (d__law_pick : DefIn K "_law_pick" s__law_pick) (d__law_mixed : DefIn K "_law_mixed" s__law_mixed) (d__law_copied : DefIn K "_law_copied" s__law_copied) (d__law_same : DefIn K "_law_same" s__law_same) (d__law_spoilt : DefIn K "_law_spoilt" s__law_spoilt) (d__law_loose : DefIn K "_law_loose" s__law_loose) (d__law_handed : DefIn K "_law_handed" s__law_handed) (d__law_net : DefIn K "_law_net" s__law_net) (d__law_run : DefIn K "_law_run" s__law_run) (d__law_bit_rows : DefIn K "_law_bit_rows" s__law_bit_rows) (d__law_unsorted : DefIn K "_law_unsorted" s__law_unsorted) (d__law_needless : DefIn K "_law_needless" s__law_needless) (d__law_fewest : DefIn K "_law_fewest" s__law_fewest) (d_law : DefIn K "law" s_law) (z_abs : PySem.W.nsIn K mainGlobals "abs" = some none) (z_all : PySem.W.nsIn K mainGlobals "all" = some none) (z_any : PySem.W.nsIn K mainGlobals "any" = some none) (z_bool_ : PySem.W.nsIn K mainGlobals "bool" = some none) (z_dict_ : PySem.W.nsIn K mainGlobals "dict" = some none) (z_enumerate : PySem.W.nsIn K mainGlobals "enumerate" = some none) (z_int_ : PySem.W.nsIn K mainGlobals "int" = some none) (z_isinstance : PySem.W.nsIn K mainGlobals "isinstance" = some none) (z_len : PySem.W.nsIn K mainGlobals "len" = some none) (z_list_ : PySem.W.nsIn K mainGlobals "list" = some none) (z_max : PySem.W.nsIn K mainGlobals "max" = some none) (z_range : PySem.W.nsIn K mainGlobals "range" = some none) (z_repr : PySem.W.nsIn K mainGlobals "repr" = some none) (z_sorted : PySem.W.nsIn K mainGlobals "sorted" = some none) (z_str_ : PySem.W.nsIn K mainGlobals "str" = some none) (z_tuple : PySem.W.nsIn K mainGlobals "tuple" = some none) (z_zip : PySem.W.nsIn K mainGlobals "zip" = some none) :
    ∃ fd : FuncData, (∀ (s : Shared) (v : Value), BindsTo s fd ⟨[v], []⟩ [("script", v)]) ∧ ∀ base : Heap, K.In base → base.Ns mainGlobals mg → FnG P w K mg base 11 fa fd ["script"] (spLaw K n_law.length 1 b_law) := by
  obtain ⟨f_is_list, fd_is_list, o_is_list⟩ := def_of X G d_is_list
  obtain ⟨f_is_whole, fd_is_whole, o_is_whole⟩ := def_of X G d_is_whole
  obtain ⟨f_is_number, fd_is_number, o_is_number⟩ := def_of X G d_is_number
  obtain ⟨f_is_row, fd_is_row, o_is_row⟩ := def_of X G d_is_row
  obtain ⟨f_first_bad_pair, fd_first_bad_pair, o_first_bad_pair⟩ := def_of X G d_first_bad_pair
  obtain ⟨f_check_places, fd_check_places, o_check_places⟩ := def_of X G d_check_places
  obtain ⟨f_check_net, fd_check_net, o_check_net⟩ := def_of X G d_check_net
  obtain ⟨f_run_on, fd_run_on, o_run_on⟩ := def_of X G d_run_on
  obtain ⟨f_net_row, fd_net_row, o_net_row⟩ := def_of X G d_net_row
  obtain ⟨f_bit_rows, fd_bit_rows, o_bit_rows⟩ := def_of X G d_bit_rows
  obtain ⟨f_is_ascending, fd_is_ascending, o_is_ascending⟩ := def_of X G d_is_ascending
  obtain ⟨f_first_unsorted, fd_first_unsorted, o_first_unsorted⟩ := def_of X G d_first_unsorted
  obtain ⟨f_needless, fd_needless, o_needless⟩ := def_of X G d_needless
  obtain ⟨f_parts_of_net, fd_parts_of_net, o_parts_of_net⟩ := def_of X G d_parts_of_net
  obtain ⟨f_fewest_left, fd_fewest_left, o_fewest_left⟩ := def_of X G d_fewest_left
  obtain ⟨f__law_stream, fd__law_stream, o__law_stream⟩ := def_of X G d__law_stream
  obtain ⟨f__law_draw, fd__law_draw, o__law_draw⟩ := def_of X G d__law_draw
  obtain ⟨f__law_pick, fd__law_pick, o__law_pick⟩ := def_of X G d__law_pick
  obtain ⟨f__law_mixed, fd__law_mixed, o__law_mixed⟩ := def_of X G d__law_mixed
  obtain ⟨f__law_copied, fd__law_copied, o__law_copied⟩ := def_of X G d__law_copied
  obtain ⟨f__law_same, fd__law_same, o__law_same⟩ := def_of X G d__law_same
  obtain ⟨f__law_spoilt, fd__law_spoilt, o__law_spoilt⟩ := def_of X G d__law_spoilt
  obtain ⟨f__law_loose, fd__law_loose, o__law_loose⟩ := def_of X G d__law_loose
  obtain ⟨f__law_handed, fd__law_handed, o__law_handed⟩ := def_of X G d__law_handed
  obtain ⟨f__law_net, fd__law_net, o__law_net⟩ := def_of X G d__law_net
  obtain ⟨f__law_run, fd__law_run, o__law_run⟩ := def_of X G d__law_run
  obtain ⟨f__law_bit_rows, fd__law_bit_rows, o__law_bit_rows⟩ := def_of X G d__law_bit_rows
  obtain ⟨f__law_unsorted, fd__law_unsorted, o__law_unsorted⟩ := def_of X G d__law_unsorted
  obtain ⟨f__law_needless, fd__law_needless, o__law_needless⟩ := def_of X G d__law_needless
  obtain ⟨f__law_fewest, fd__law_fewest, o__law_fewest⟩ := def_of X G d__law_fewest
  obtain ⟨f_law, fd_law, o_law⟩ := def_of X G d_law
  have e := hfa.symm.trans o_law.m
  cases e
  have z : Z mg := ⟨PySem.W.mg_none_of X G z_abs, PySem.W.mg_none_of X G z_all, PySem.W.mg_none_of X G z_any, PySem.W.mg_none_of X G z_bool_, PySem.W.mg_none_of X G z_dict_, PySem.W.mg_none_of X G z_enumerate, PySem.W.mg_none_of X G z_int_, PySem.W.mg_none_of X G z_isinstance, PySem.W.mg_none_of X G z_len, PySem.W.mg_none_of X G z_list_, PySem.W.mg_none_of X G z_max, PySem.W.mg_none_of X G z_range, PySem.W.mg_none_of X G z_repr, PySem.W.mg_none_of X G z_sorted, PySem.W.mg_none_of X G z_str_, PySem.W.mg_none_of X G z_tuple, PySem.W.mg_none_of X G z_zip⟩
  refine ⟨fd_law, fun s v => ?_, fun base _ _ => ?_⟩
  · obtain ⟨kV, doc, pm, an, cdv, ct, rfl⟩ := o_law.shape
    exact .of_eq rfl
  have b_is_list : Binds K fd_is_list p_is_list [] := o_is_list.binds fun _ _ _ _ _ _ us hl => match us, hl with | [_], _ => rfl
  have b_is_whole : Binds K fd_is_whole p_is_whole [] := o_is_whole.binds fun _ _ _ _ _ _ us hl => match us, hl with | [_], _ => rfl
  have b_is_number : Binds K fd_is_number p_is_number [] := o_is_number.binds fun _ _ _ _ _ _ us hl => match us, hl with | [_], _ => rfl
  have b_is_row : Binds K fd_is_row p_is_row [] := o_is_row.binds fun _ _ _ _ _ _ us hl => match us, hl with | [_, _], _ => rfl
  have b_first_bad_pair : Binds K fd_first_bad_pair p_first_bad_pair [] := o_first_bad_pair.binds fun _ _ _ _ _ _ us hl => match us, hl with | [_, _], _ => rfl
  have b_check_places : Binds K fd_check_places p_check_places [] := o_check_places.binds fun _ _ _ _ _ _ us hl => match us, hl with | [_, _], _ => rfl
  have b_check_net : Binds K fd_check_net p_check_net [] := o_check_net.binds fun _ _ _ _ _ _ us hl => match us, hl with | [_, _], _ => rfl
  have b_run_on : Binds K fd_run_on p_run_on [] := o_run_on.binds fun _ _ _ _ _ _ us hl => match us, hl with | [_, _], _ => rfl
  have b_net_row : Binds K fd_net_row p_net_row [] := o_net_row.binds fun _ _ _ _ _ _ us hl => match us, hl with | [_, _, _], _ => rfl
  have b_bit_rows : Binds K fd_bit_rows p_bit_rows [] := o_bit_rows.binds fun _ _ _ _ _ _ us hl => match us, hl with | [_], _ => rfl
  have b_is_ascending : Binds K fd_is_ascending p_is_ascending [] := o_is_ascending.binds fun _ _ _ _ _ _ us hl => match us, hl with | [_], _ => rfl
  have b_first_unsorted : Binds K fd_first_unsorted p_first_unsorted [] := o_first_unsorted.binds fun _ _ _ _ _ _ us hl => match us, hl with | [_, _], _ => rfl
  have b_needless : Binds K fd_needless p_needless [] := o_needless.binds fun _ _ _ _ _ _ us hl => match us, hl with | [_, _], _ => rfl
  have b_parts_of_net : Binds K fd_parts_of_net p_parts_of_net [] := o_parts_of_net.binds fun _ _ _ _ _ _ us hl => match us, hl with | [_], _ => rfl
  have b_fewest_left : Binds K fd_fewest_left p_fewest_left [] := o_fewest_left.binds fun _ _ _ _ _ _ us hl => match us, hl with | [_, _], _ => rfl
  have b__law_stream : Binds K fd__law_stream p__law_stream [] := o__law_stream.binds fun _ _ _ _ _ _ us hl => match us, hl with | [_], _ => rfl
  have b__law_draw : Binds K fd__law_draw p__law_draw [] := o__law_draw.binds fun _ _ _ _ _ _ us hl => match us, hl with | [_, _], _ => rfl
  have b__law_pick : Binds K fd__law_pick p__law_pick [] := o__law_pick.binds fun _ _ _ _ _ _ us hl => match us, hl with | [_, _], _ => rfl
  have b__law_mixed : Binds K fd__law_mixed p__law_mixed [] := o__law_mixed.binds fun _ _ _ _ _ _ us hl => match us, hl with | [_, _], _ => rfl
  have b__law_copied : Binds K fd__law_copied p__law_copied [] := o__law_copied.binds fun _ _ _ _ _ _ us hl => match us, hl with | [_], _ => rfl
  have b__law_same : Binds K fd__law_same p__law_same [] := o__law_same.binds fun _ _ _ _ _ _ us hl => match us, hl with | [_, _], _ => rfl
  have b__law_spoilt : Binds K fd__law_spoilt p__law_spoilt [] := o__law_spoilt.binds fun _ _ _ _ _ _ us hl => match us, hl with | [_], _ => rfl
  have b__law_loose : Binds K fd__law_loose p__law_loose [] := o__law_loose.binds fun _ _ _ _ _ _ us hl => match us, hl with | [_, _], _ => rfl
  have b__law_handed : Binds K fd__law_handed p__law_handed [] := o__law_handed.binds fun _ _ _ _ _ _ us hl => match us, hl with | [_, _], _ => rfl
  have b__law_net : Binds K fd__law_net p__law_net [] := o__law_net.binds fun _ _ _ _ _ _ us hl => match us, hl with | [_, _, _], _ => rfl
  have b__law_run : Binds K fd__law_run p__law_run [] := o__law_run.binds fun _ _ _ _ _ _ us hl => match us, hl with | [_, _], _ => rfl
  have b__law_bit_rows : Binds K fd__law_bit_rows p__law_bit_rows [] := o__law_bit_rows.binds fun _ _ _ _ _ _ us hl => match us, hl with | [_], _ => rfl
  have b__law_unsorted : Binds K fd__law_unsorted p__law_unsorted [] := o__law_unsorted.binds fun _ _ _ _ _ _ us hl => match us, hl with | [_, _], _ => rfl
  have b__law_needless : Binds K fd__law_needless p__law_needless [] := o__law_needless.binds fun _ _ _ _ _ _ us hl => match us, hl with | [_, _], _ => rfl
  have b__law_fewest : Binds K fd__law_fewest p__law_fewest [] := o__law_fewest.binds fun _ _ _ _ _ _ us hl => match us, hl with | [_, _], _ => rfl
  have c_is_list : CallOk P w K mg base 1 "is_list" p_is_list [false] D_is_list false := ⟨_, _, ok_is_list o_is_list.F z  , o_is_list.m, o_is_list.F.kp, b_is_list⟩
  have c_is_whole : CallOk P w K mg base 1 "is_whole" p_is_whole [false] D_is_whole false := ⟨_, _, ok_is_whole o_is_whole.F z  , o_is_whole.m, o_is_whole.F.kp, b_is_whole⟩
  have c_is_number : CallOk P w K mg base 2 "is_number" p_is_number [false] D_is_number false := ⟨_, _, ok_is_number o_is_number.F z  c_is_whole, o_is_number.m, o_is_number.F.kp, b_is_number⟩
  have c_is_row : CallOk P w K mg base 2 "is_row" p_is_row [false, false] D_is_row false := ⟨_, _, ok_is_row o_is_row.F z  c_is_list, o_is_row.m, o_is_row.F.kp, b_is_row⟩
  have c_first_bad_pair : CallOk P w K mg base 3 "first_bad_pair" p_first_bad_pair [false, false] D_first_bad_pair false := ⟨_, _, ok_first_bad_pair o_first_bad_pair.F z  c_is_list c_is_row c_is_number, o_first_bad_pair.m, o_first_bad_pair.F.kp, b_first_bad_pair⟩
  have c_check_places : CallOk P w K mg base 4 "check_places" p_check_places [false, false] D_check_places false := ⟨_, _, ok_check_places o_check_places.F z  c_first_bad_pair, o_check_places.m, o_check_places.F.kp, b_check_places⟩
  have c_check_net : CallOk P w K mg base 5 "check_net" p_check_net [false, false] D_check_net false := ⟨_, _, ok_check_net o_check_net.F z  c_is_number c_check_places, o_check_net.m, o_check_net.F.kp, b_check_net⟩
  have c_run_on : CallOk P w K mg base 1 "run_on" p_run_on [false, false] D_run_on false := ⟨_, _, ok_run_on o_run_on.F z  , o_run_on.m, o_run_on.F.kp, b_run_on⟩
  have c_net_row : CallOk P w K mg base 6 "net_row" p_net_row [false, false, false] D_net_row false := ⟨_, _, ok_net_row o_net_row.F z  c_check_net c_is_row c_is_whole c_run_on, o_net_row.m, o_net_row.F.kp, b_net_row⟩
  have c_bit_rows : CallOk P w K mg base 1 "bit_rows" p_bit_rows [false] D_bit_rows false := ⟨_, _, ok_bit_rows o_bit_rows.F z  , o_bit_rows.m, o_bit_rows.F.kp, b_bit_rows⟩
  have c_is_ascending : CallOk P w K mg base 1 "is_ascending" p_is_ascending [false] D_is_ascending false := ⟨_, _, ok_is_ascending o_is_ascending.F z  , o_is_ascending.m, o_is_ascending.F.kp, b_is_ascending⟩
  have c_first_unsorted : CallOk P w K mg base 2 "first_unsorted" p_first_unsorted [false, false] D_first_unsorted false := ⟨_, _, ok_first_unsorted o_first_unsorted.F z  c_bit_rows c_is_ascending c_run_on, o_first_unsorted.m, o_first_unsorted.F.kp, b_first_unsorted⟩
  have c_needless : CallOk P w K mg base 6 "needless" p_needless [false, false] D_needless true := ⟨_, _, ok_needless o_needless.F z  c_check_net c_bit_rows c_run_on, o_needless.m, o_needless.F.kp, b_needless⟩
  have k_needless_net_many : CallOkK P w K mg base 6 "needless" p_needless ["net", "many"] [1, 0] D_needless true := ⟨_, _, ok_needless o_needless.F z  c_check_net c_bit_rows c_run_on, o_needless.m, o_needless.F.kp, o_needless.kb fun _ _ _ _ _ _ ws hl => match ws, hl with | [_, _], _ => rfl⟩
  have c_parts_of_net : CallOk P w K mg base 1 "parts_of_net" p_parts_of_net [false] D_parts_of_net false := ⟨_, _, ok_parts_of_net o_parts_of_net.F z  , o_parts_of_net.m, o_parts_of_net.F.kp, b_parts_of_net⟩
  have c_fewest_left : CallOk P w K mg base 6 "fewest_left" p_fewest_left [false, false] D_fewest_left false := ⟨_, _, ok_fewest_left o_fewest_left.F z  c_parts_of_net c_check_net c_first_unsorted, o_fewest_left.m, o_fewest_left.F.kp, b_fewest_left⟩
  have k_fewest_left_net_many : CallOkK P w K mg base 6 "fewest_left" p_fewest_left ["net", "many"] [1, 0] D_fewest_left false := ⟨_, _, ok_fewest_left o_fewest_left.F z  c_parts_of_net c_check_net c_first_unsorted, o_fewest_left.m, o_fewest_left.F.kp, o_fewest_left.kb fun _ _ _ _ _ _ ws hl => match ws, hl with | [_, _], _ => rfl⟩
  have c__law_draw : CallOk P w K mg base 1 "_law_draw" p__law_draw [true, false] D__law_draw false := ⟨_, _, ok__law_draw o__law_draw.F z  , o__law_draw.m, o__law_draw.F.kp, b__law_draw⟩
  have c__law_pick : CallOk P w K mg base 2 "_law_pick" p__law_pick [true, false] D__law_pick false := ⟨_, _, ok__law_pick o__law_pick.F z  c__law_draw, o__law_pick.m, o__law_pick.F.kp, b__law_pick⟩
  have c__law_mixed : CallOk P w K mg base 2 "_law_mixed" p__law_mixed [true, false] D__law_mixed false := ⟨_, _, ok__law_mixed o__law_mixed.F z  c__law_draw, o__law_mixed.m, o__law_mixed.F.kp, b__law_mixed⟩
  have c__law_copied : CallOk P w K mg base 8 "_law_copied" p__law_copied [false] (D__law_copied 8) true := ⟨_, _, ok__law_copied o__law_copied.F z   o__law_copied.m o__law_copied.F.kp b__law_copied 8, o__law_copied.m, o__law_copied.F.kp, b__law_copied⟩
  have c__law_same : CallOk P w K mg base 8 "_law_same" p__law_same [false, false] (D__law_same 8) false := ⟨_, _, ok__law_same o__law_same.F z   o__law_same.m o__law_same.F.kp b__law_same 8, o__law_same.m, o__law_same.F.kp, b__law_same⟩
  have spl : SpOk P w K mg base 3 "_law_spoilt" := ok__law_spoilt o__law_spoilt.F z o__law_spoilt.m o__law_spoilt.F.kp b__law_spoilt
  have c__law_loose : CallOk P w K mg base 9 "_law_loose" p__law_loose [true, false] (D__law_loose 8) false := ⟨_, _, ok__law_loose o__law_loose.F z  c__law_draw o__law_loose.m o__law_loose.F.kp b__law_loose 8, o__law_loose.m, o__law_loose.F.kp, b__law_loose⟩
  have c__law_handed : CallOk P w K mg base 10 "_law_handed" p__law_handed [true, false] D__law_handed false := ⟨_, _, ok__law_handed o__law_handed.F z  c__law_loose c__law_copied, o__law_handed.m, o__law_handed.F.kp, b__law_handed⟩
  have c__law_net : CallOk P w K mg base 3 "_law_net" p__law_net [true, false, false] D__law_net false := ⟨_, _, ok__law_net o__law_net.F z  c__law_draw c__law_pick, o__law_net.m, o__law_net.F.kp, b__law_net⟩
  have c__law_run : CallOk P w K mg base 1 "_law_run" p__law_run [false, false] D__law_run false := ⟨_, _, ok__law_run o__law_run.F z  , o__law_run.m, o__law_run.F.kp, b__law_run⟩
  have c__law_bit_rows : CallOk P w K mg base 1 "_law_bit_rows" p__law_bit_rows [false] D__law_bit_rows false := ⟨_, _, ok__law_bit_rows o__law_bit_rows.F z  , o__law_bit_rows.m, o__law_bit_rows.F.kp, b__law_bit_rows⟩
  have c__law_unsorted : CallOk P w K mg base 2 "_law_unsorted" p__law_unsorted [false, false] D__law_unsorted false := ⟨_, _, ok__law_unsorted o__law_unsorted.F z  c__law_bit_rows c__law_run, o__law_unsorted.m, o__law_unsorted.F.kp, b__law_unsorted⟩
  have c__law_needless : CallOk P w K mg base 2 "_law_needless" p__law_needless [false, false] D__law_needless false := ⟨_, _, ok__law_needless o__law_needless.F z  c__law_bit_rows, o__law_needless.m, o__law_needless.F.kp, b__law_needless⟩
  have c__law_fewest : CallOk P w K mg base 3 "_law_fewest" p__law_fewest [false, false] D__law_fewest false := ⟨_, _, ok__law_fewest o__law_fewest.F z  c__law_unsorted, o__law_fewest.m, o__law_fewest.F.kp, b__law_fewest⟩
  exact ok_law o_law.F z (ok__law_stream o__law_stream.F z) o__law_stream.m o__law_stream.F.kp b__law_stream k_needless_net_many k_fewest_left_net_many spl c__law_draw c__law_net c__law_handed c__law_needless c_needless c__law_copied c__law_same c_net_row c__law_run c__law_fewest c_fewest_left
end K72

namespace K72
open PySem L2 PD
theorem is_list_eq (d : D) (S : SS) : D_is_list [d] S = .ok (.bool (isDs ["list", "tuple"] d)) [] S := rfl
theorem is_whole_int (i : Int) (S : SS) : D_is_whole [.int i] S = .ok (.bool true) [] S := rfl
theorem is_number_int (i : Int) (S : SS) : D_is_number [.int i] S = .ok (.bool (decide (0 ≤ i))) [] S := by
  simp [D_is_number, defD, b_is_number, sSeq, sRet, dAndV, dCall, dCons, dNil, dVar, is_whole_int, Res.bind, Res.sr, dB, dCmp, dC, optR, geD, n_is_number]
theorem is_row_seq (ds : List D) (m : Int) (S : SS) : D_is_row [.list ds, .int m] S = .ok (.bool (((ds.length : Int) == m))) [] S ∧ D_is_row [.tuple ds, .int m] S = .ok (.bool (((ds.length : Int) == m))) [] S := by
  constructor <;> simp [D_is_row, defD, b_is_row, sSeq, sRet, dAndV, dCall, dCons, dNil, dVar, is_list_eq, Res.bind, Res.sr, dB, dCmp, dC, optR, eqD, n_is_row, isDs, isD1, tyD, dPrim, lenD]
end K72

namespace K72
open PySem L2 PD
theorem draw_eq : D__law_draw = defD 5 drawB := rfl
/-- a pair, as a tuple or a list; a net of them -/
def IsPair (p : Nat × Nat) (d : D) : Prop := d = .tuple [.int p.1, .int p.2] ∨ d = .list [.int p.1, .int p.2]
def IsNet (net : List (Nat × Nat)) (ds : List D) : Prop := Paired IsPair net ds
def Good (m : Nat) (net : List (Nat × Nat)) : Prop := ∀ p ∈ net, p.1 < p.2 ∧ p.2 < m
theorem atI0 {a b : D} : L2.atI [a, b] 0 = some a := rfl
theorem atI1 {a b : D} : L2.atI [a, b] 1 = some b := rfl
theorem paired_get {α β : Type} {R : α → β → Prop} : ∀ {xs : List α} {ys : List β} {i : Nat} {y : β}, Paired R xs ys → ys[i]? = some y → ∃ x, xs[i]? = some x ∧ R x y
  | _, _, _, _, .nil, h => by simp at h
  | _, _, 0, _, .cons r _, h => by simp at h; subst h; exact ⟨_, rfl, r⟩
  | _, _, i + 1, _, .cons _ r, h => paired_get (i := i) r (by simpa using h)
theorem enum_get {ds : List D} {i : Nat} {d : D} (h : (enumD ds 0)[i]? = some d) : ∃ x, ds[i]? = some x ∧ d = .tuple [.int (i : Int), x] := by
  obtain ⟨x, h1, h2⟩ := enumD_get ds 0 i d h
  exact ⟨x, h1, by simpa using h2⟩
def fbB : SDen := (sSeq (sIf (dOr (dNot (dT (dCall D_is_row (dCons (dVar 3) (dCons (dC (.int 2)) dNil))))) (dOr (dNot (dT (dCall D_is_number (dCons (dBin ixD (dVar 3) (dC (.int 0))) dNil)))) (dOr (dNot (dT (dCall D_is_number (dCons (dBin ixD (dVar 3) (dC (.int 1))) dNil)))) (dNot (dChain ltD ltD (dBin ixD (dVar 3) (dC (.int 0))) (dBin ixD (dVar 3) (dC (.int 1))) (dVar 0)))))) (sSeq (sRet (dVar 2)) sNop) sNop) sNop)
theorem fb_body {m : Nat} {p : Nat × Nat} {d d0 : D} {ix : Option D} {S : SS} (h : IsPair p d) (g : p.1 < p.2 ∧ p.2 < m) : fbB [some (.int m), some d0, ix, some d] S = .nx [some (.int m), some d0, ix, some d] S := by
  have h1 : (p.1 : Int) < p.2 := by omega
  have h2 : (p.2 : Int) < m := by omega
  have e1 := (is_row_seq [.int p.1, .int p.2] 2 S).1
  have e2 := (is_row_seq [.int p.1, .int p.2] 2 S).2
  rcases h with rfl | rfl <;>
  simp [fbB, sSeq, sIf, sNop, dOr, dNot, dT, dCall, dCons, dNil, dVar, dC, dBin, dChain, optR, boolD, ixD, atI0, atI1, ltD, e1, e2, is_number_int, Res.bind, Res.sr, h1, h2]
theorem b_fb : b_first_bad_pair = (sSeq (sIf (dNot (dT (dCall D_is_list (dCons (dVar 1) dNil)))) (sSeq (sRet (dC (.int 0))) sNop) sNop) (sSeq (sFor (dIt enumA (dCons (dVar 1) dNil)) (.tup [(.nm 2), (.nm 3)]) fbB) (sSeq (sRet (dC .none)) sNop))) := rfl
theorem fb_loop {m : Nat} {net : List (Nat × Nat)} {ds : List D} {d0 : D} {S : SS} (h : IsNet net ds) (g : Good m net) : ∃ ρ', forL (.tup [.nm 2, .nm 3]) fbB (enumD ds 0) [some (.int m), some d0, none, none] S = .nx ρ' S := by
  obtain ⟨ρ', S', e, y, z, hρ, hS⟩ := forL_inv (t := .tup [.nm 2, .nm 3]) (body := fbB) (ds := enumD ds 0) (ρ := [some (.int m), some d0, none, none]) (S := S) (fun _ ρ S' => ∃ y z, ρ = [some (.int m), some d0, y, z] ∧ S' = S) (fun i d ρ S2 hd ⟨y, z, hρ, hS⟩ => by
    subst hρ hS
    obtain ⟨x, hx, rfl⟩ := enum_get hd
    obtain ⟨p, hp, hr⟩ := paired_get h hx
    refine ⟨[some (.int m), some d0, some (.int i), some x], by simp [bindT, bindTs], _, _, .inl (fb_body hr (g p (List.mem_of_getElem? hp))), _, _, rfl, rfl⟩) ⟨_, _, rfl, rfl⟩
  subst hS
  exact ⟨ρ', e⟩
theorem first_bad_pair_eq {m : Nat} {net : List (Nat × Nat)} {ds : List D} {S : SS} (h : IsNet net ds) (g : Good m net) : D_first_bad_pair [.int m, .list ds] S = .ok .none [] S ∧ D_first_bad_pair [.int m, .tuple ds] S = .ok .none [] S := by
  constructor
  · obtain ⟨ρ', e⟩ := fb_loop (d0 := .list ds) (S := S) h g
    simp [D_first_bad_pair, defD, b_fb, n_first_bad_pair, sSeq, sIf, sRet, sNop, sFor, dIt, enumA, dNot, dT, dCall, dCons, dNil, dVar, dC, optR, boolD, is_list_eq, isDs, isD1, tyD, Res.bind, Res.sr, e]
  · obtain ⟨ρ', e⟩ := fb_loop (d0 := .tuple ds) (S := S) h g
    simp [D_first_bad_pair, defD, b_fb, n_first_bad_pair, sSeq, sIf, sRet, sNop, sFor, dIt, enumA, dNot, dT, dCall, dCons, dNil, dVar, dC, optR, boolD, is_list_eq, isDs, isD1, tyD, Res.bind, Res.sr, e]
end K72

namespace K72
open PySem L2 PD
def tupP (p : Nat × Nat) : D := .tuple [.int p.1, .int p.2]
def toT : D → D
  | .list xs => .tuple xs
  | d => d
theorem toT_net : ∀ {net : List (Nat × Nat)} {ds : List D}, IsNet net ds → ds.map toT = net.map tupP
  | [], _, h => by cases h; rfl
  | p :: net, _, h => by
    cases h with
    | cons a r =>
      rw [List.map_cons, List.map_cons, toT_net r]
      rcases a with rfl | rfl <;> rfl
theorem tup_net (net : List (Nat × Nat)) : IsNet net (net.map tupP) := by
  induction net with
  | nil => exact .nil
  | cons p net ih => exact .cons (.inl rfl) ih
theorem paired_mem {α β : Type} {R : α → β → Prop} : ∀ {xs : List α} {ys : List β} {y : β}, Paired R xs ys → y ∈ ys → ∃ x ∈ xs, R x y
  | _, _, _, .nil, h => by simp at h
  | _, _, y, .cons r t, h => by
    rcases List.mem_cons.mp h with rfl | h
    · exact ⟨_, by simp, r⟩
    · obtain ⟨x, hx, e⟩ := paired_mem t h
      exact ⟨x, by simp [hx], e⟩
theorem places_loop {net : List (Nat × Nat)} {ds : List D} {a b c : Option D} {S : SS} (h : IsNet net ds) : lcL (.nm 3) dYes (dPrim tupleD (dCons (dVar 3) dNil)) [a, b, c, none] ds S = .ok (net.map tupP) [a, b, c, none] S := by
  have ff : ds.filter (fun _ => true) = ds := List.filter_eq_self.mpr (by simp)
  rw [lcL_pure (fun _ => true) toT fun d hd => ?_, ff, toT_net h]
  obtain ⟨p, _, hp⟩ := paired_mem h hd
  refine ⟨[a, b, c, some d], rfl, ⟨_, rfl⟩, fun _ => ⟨[a, b, c, some d], ?_⟩⟩
  rcases hp with rfl | rfl <;> simp [dPrim, dCons, dNil, dVar, tupleD, optR, toT, Res.bind]
theorem check_places_eq {m : Nat} {net : List (Nat × Nat)} {ds : List D} {S : SS} (h : IsNet net ds) (g : Good m net) (hz : ds.length ≤ sizeLine) : D_check_places [.int m, .list ds] S = .ok (.list (net.map tupP)) [] S ∧ D_check_places [.int m, .tuple ds] S = .ok (.list (net.map tupP)) [] S := by
  obtain ⟨e1, e2⟩ := first_bad_pair_eq (S := S) h g
  constructor <;>
  simp [D_check_places, defD, b_check_places, n_check_places, sSeq, sAsg, sIf, sRet, sNop, dCall, dCons, dNil, dVar, dC, dCmp, isNotD, isD, optR, bindT, dLc, dSeq, seqD, wipeR, Res.bind, Res.sr, e1, e2, hz, places_loop h]
theorem check_net_eq {m : Nat} {net : List (Nat × Nat)} {ds : List D} {S : SS} (hm : 0 < m) (h : IsNet net ds) (g : Good m net) (hz : ds.length ≤ sizeLine) : D_check_net [.int m, .list ds] S = .ok (.list (net.map tupP)) [] S ∧ D_check_net [.int m, .tuple ds] S = .ok (.list (net.map tupP)) [] S := by
  obtain ⟨e1, e2⟩ := check_places_eq (S := S) h g hz
  have h1 : ¬ ((m : Int) < 1) := by omega
  constructor <;>
  simp [D_check_net, defD, b_check_net, n_check_net, sSeq, sIf, sRet, sNop, dOr, dNot, dT, dCall, dCons, dNil, dVar, dC, dCmp, ltD, optR, boolD, is_number_int, Res.bind, Res.sr, e1, e2, h1]
end K72

namespace K72
open PySem L2 PD
/-- the numbers at two places -/
def moves (r : List Int) (p : Nat × Nat) : Bool := decide (r.getD p.2 0 < r.getD p.1 0)
def exch (r : List Int) (p : Nat × Nat) : List Int := if moves r p then (r.set p.1 (r.getD p.2 0)).set p.2 (r.getD p.1 0) else r
def runL (net : List (Nat × Nat)) (r : List Int) : List Int := net.foldl exch r
/-- the places of the exchanges that move, k the first's -/
def movedF : Nat → List (Nat × Nat) → List Int → List Nat
  | _, [], _ => []
  | k, p :: net, r => if moves r p then k :: movedF (k + 1) net (exch r p) else movedF (k + 1) net (exch r p)
def rowD (r : List Int) : D := .list (r.map PyData.int)
def idxD (ks : List Nat) : D := .list (ks.map fun (k : Nat) => PyData.int (k : Int))
theorem exch_length (r : List Int) (p : Nat × Nat) : (exch r p).length = r.length := by
  unfold exch; split <;> simp
theorem runL_length : ∀ (net : List (Nat × Nat)) (r : List Int), (runL net r).length = r.length
  | [], _ => rfl
  | p :: net, r => by
    show (runL net (exch r p)).length = _
    rw [runL_length net, exch_length]
theorem ix_row {r : List Int} {i : Nat} (h : i < r.length) : ixD (rowD r) (.int (i : Int)) = some (.int (r.getD i 0)) := by
  simp [ixD, rowD, L2.atI, L2.ixN, h, List.getD_eq_getElem?_getD]
theorem ixN_nat {n i : Nat} (h : i < n) : L2.ixN n (i : Int) = some i := by simp [L2.ixN, h]
def roB : SDen := (sSeq (sIf (dCmp ltD (dBin ixD (dVar 2) (dVar 6)) (dBin ixD (dVar 2) (dVar 5))) (sSeq (sAsgA (dTup (dCons (dBin ixD (dVar 2) (dVar 6)) (dCons (dBin ixD (dVar 2) (dVar 5)) dNil))) (aTup 2 (aCons (aSub 2 (dVar 5)) (aCons (aSub 2 (dVar 6)) aNil)))) (sSeq (sExpr (dMut 3 appD (dCons (dVar 4) dNil))) sNop)) sNop) sNop)
theorem b_ro : b_run_on = (sSeq (sPar (dCons (dPrimL listD (dCons (dVar 1) dNil)) (dCons (dLst dNil) dNil)) [2, 3]) (sSeq (sFor (dIt enumA (dCons (dVar 0) dNil)) (.tup [(.nm 4), (.tup [(.nm 5), (.nm 6)])]) roB) (sSeq (sRet (dTup (dCons (dVar 2) (dCons (dVar 3) dNil)))) sNop))) := rfl
theorem ro_body {r : List Int} {ks : List Nat} {p : Nat × Nat} {k : Nat} {a b : Option D} {S : SS} (h1 : p.1 < r.length) (h2 : p.2 < r.length) (hk : ks.length < sizeLine) :
    roB [a, b, some (rowD r), some (idxD ks), some (.int k), some (.int p.1), some (.int p.2)] S = .nx [a, b, some (rowD (exch r p)), some (idxD (if moves r p then ks ++ [k] else ks)), some (.int k), some (.int p.1), some (.int p.2)] S := by
  have e1 := ix_row h1
  have e2 := ix_row h2
  have l2 : (2 : Nat) ≤ sizeLine := by decide
  have c : (dCmp ltD (dBin ixD (dVar 2) (dVar 6)) (dBin ixD (dVar 2) (dVar 5))) [a, b, some (rowD r), some (idxD ks), some (.int k), some (.int p.1), some (.int p.2)] S = .ok (moves r p) [a, b, some (rowD r), some (idxD ks), some (.int k), some (.int p.1), some (.int p.2)] S := by
    simp [dCmp, dBin, dVar, e1, e2, optR, ltD, moves, Res.bind]
  by_cases hm : moves r p = true
  · simp [roB, sSeq, sIf, c, hm, sNop, Res.sr]
    simp [sAsgA, dTup, dCons, dNil, dBin, dVar, e1, e2, optR, aTup, aCons, aNil, aSub, ownL, l2, Res.bind, Res.sr, sExpr, dMut, appD]
    simp [rowD, idxD, ixN_nat h1, ixN_nat h2, hk, exch, hm, List.map_set]
  · simp [roB, sSeq, sIf, c, hm, sNop, Res.sr, exch]
theorem movedF_snoc : ∀ (net : List (Nat × Nat)) (k : Nat) (r : List Int) (p : Nat × Nat), movedF k (net ++ [p]) r = movedF k net r ++ (if moves (runL net r) p then [k + net.length] else [])
  | [], k, r, p => by cases h : moves r p <;> simp [movedF, runL, h]
  | q :: net, k, r, p => by
    have ih := movedF_snoc net (k + 1) (exch r q) p
    have e : k + 1 + net.length = k + (net.length + 1) := by omega
    simp only [List.cons_append, movedF, ih, List.length_cons, e]
    split <;> rfl
theorem movedF_length : ∀ (net : List (Nat × Nat)) (k : Nat) (r : List Int), (movedF k net r).length ≤ net.length
  | [], _, _ => Nat.le_refl _
  | p :: net, k, r => by
    have ih := movedF_length net (k + 1) (exch r p)
    unfold movedF
    split <;> simp <;> omega
theorem runL_snoc (net : List (Nat × Nat)) (r : List Int) (p : Nat × Nat) : runL (net ++ [p]) r = exch (runL net r) p := by simp [runL]
theorem take_snoc {α : Type} {l : List α} {i : Nat} {x : α} (h : l[i]? = some x) : l.take (i + 1) = l.take i ++ [x] := by rw [List.take_add_one, h]; rfl
theorem run_on_eq {net : List (Nat × Nat)} {r : List Int} {m : Nat} {S : SS} (hr : r.length = m) (g : Good m net) (hz : net.length < sizeLine) :
    D_run_on [.list (net.map tupP), rowD r] S = .ok (.tuple [rowD (runL net r), idxD (movedF 0 net r)]) [] S := by
  obtain ⟨ρ', S', e, x4, x5, x6, hρ, hS⟩ := forL_inv (t := .tup [.nm 4, .tup [.nm 5, .nm 6]]) (body := roB) (ds := enumD (net.map tupP) 0) (ρ := [some (.list (net.map tupP)), some (rowD r), some (rowD r), some (.list []), none, none, none]) (S := S)
    (fun i ρ S' => ∃ x4 x5 x6, ρ = [some (.list (net.map tupP)), some (rowD r), some (rowD (runL (net.take i) r)), some (idxD (movedF 0 (net.take i) r)), x4, x5, x6] ∧ S' = S) (fun i d ρ S2 hd ⟨x4, x5, x6, hρ, hS⟩ => by
      subst hρ hS
      obtain ⟨x, hx, rfl⟩ := enum_get hd
      rw [List.getElem?_map] at hx
      cases hp : net[i]? with
      | none => rw [hp] at hx; cases hx
      | some p =>
        rw [hp] at hx; cases hx
        obtain ⟨g1, g2⟩ := g p (List.mem_of_getElem? hp)
        have hl : (runL (net.take i) r).length = m := by rw [runL_length, hr]
        have hk : (movedF 0 (net.take i) r).length < sizeLine := Nat.lt_of_le_of_lt (movedF_length _ _ _) (by simp; omega)
        have hi : (net.take i).length = i := by
          have := (List.getElem?_eq_some_iff.mp hp).1
          simp; omega
        refine ⟨[some (.list (net.map tupP)), some (rowD r), some (rowD (runL (net.take i) r)), some (idxD (movedF 0 (net.take i) r)), some (.int i), some (.int p.1), some (.int p.2)], by simp [bindT, bindTs, tupP], _, _, .inl (ro_body (by omega) (by omega) hk), some (.int i), some (.int p.1), some (.int p.2), ?_, rfl⟩
        rw [take_snoc hp, runL_snoc, movedF_snoc, hi]
        split <;> simp) ⟨none, none, none, rfl, rfl⟩
  subst hS
  have hn : (enumD (net.map tupP) 0).length = net.length := by rw [enumD_length, List.length_map]
  rw [hn, List.take_length] at hρ
  subst hρ
  have l2 : (2 : Nat) ≤ sizeLine := by decide
  simp [D_run_on, defD, b_ro, n_run_on, sSeq, sPar, sFor, sRet, sNop, dIt, enumA, dPrimL, listD, dLst, dTup, dCons, dNil, dVar, optR, setSlots, Res.bind, Res.sr, rowD, l2] at e ⊢
  simp [e, l2]
end K72

/-! nets and rows of bits, in plain words -/
namespace K72
open PySem L2 PD
def bitRows : Nat → List (List Int)
  | 0 => [[]]
  | n + 1 => (bitRows n).flatMap fun r => [r ++ [0], r ++ [1]]
theorem bitRows_mem : ∀ {n : Nat} {r : List Int}, r ∈ bitRows n ↔ r.length = n ∧ ∀ x ∈ r, x = 0 ∨ x = 1
  | 0, r => by
    simp only [bitRows, List.mem_singleton]
    constructor
    · rintro rfl; simp
    · exact fun h => List.eq_nil_of_length_eq_zero h.1
  | n + 1, r => by
    simp only [bitRows, List.mem_flatMap, List.mem_cons, List.not_mem_nil, or_false]
    constructor
    · rintro ⟨q, hq, h⟩
      obtain ⟨h1, h2⟩ := bitRows_mem.mp hq
      rcases h with rfl | rfl
      · refine ⟨by simp [h1], fun x hx => ?_⟩
        simp at hx
        rcases hx with hx | hx
        · exact h2 x hx
        · exact .inl hx
      · refine ⟨by simp [h1], fun x hx => ?_⟩
        simp at hx
        rcases hx with hx | hx
        · exact h2 x hx
        · exact .inr hx
    · rintro ⟨h1, h2⟩
      have hne : r ≠ [] := by intro z; subst z; simp at h1
      have e := List.dropLast_concat_getLast hne
      refine ⟨r.dropLast, bitRows_mem.mpr ⟨by simp [h1], fun x hx => h2 x (List.dropLast_subset _ hx)⟩, ?_⟩
      rcases h2 _ (List.getLast_mem hne) with h | h
      · rw [h] at e; exact .inl e.symm
      · rw [h] at e; exact .inr e.symm
theorem bitRows_len (n : Nat) : (bitRows n).length = 2 ^ n := by
  induction n with
  | zero => rfl
  | succ n ih =>
    have : ∀ l : List (List Int), (l.flatMap fun r => [r ++ [0], r ++ [1]]).length = 2 * l.length := by
      intro l
      induction l with
      | nil => rfl
      | cons a l ih => simp only [List.flatMap_cons, List.length_append, ih, List.length_cons, List.length_nil]; omega
    rw [bitRows, this, ih, Nat.pow_succ]; omega
/-! thresholds -/
def bit (t x : Int) : Int := if t ≤ x then 1 else 0
def thr (t : Int) (r : List Int) : List Int := r.map (bit t)
theorem thr_len (t : Int) (r : List Int) : (thr t r).length = r.length := by simp [thr]
theorem thr_getD {t : Int} {r : List Int} {i : Nat} (h : i < r.length) : (thr t r).getD i 0 = bit t (r.getD i 0) := by
  simp [thr, List.getD_eq_getElem?_getD, h]
theorem thr_mem {t : Int} {r : List Int} {n : Nat} (h : r.length = n) : thr t r ∈ bitRows n := by
  refine bitRows_mem.mpr ⟨by simp [thr, h], fun x hx => ?_⟩
  simp only [thr, List.mem_map] at hx
  obtain ⟨y, _, rfl⟩ := hx
  unfold bit; split <;> simp
theorem thr_moves {t : Int} {r : List Int} {p : Nat × Nat} (h1 : p.1 < r.length) (h2 : p.2 < r.length) : moves (thr t r) p = (decide (r.getD p.2 0 < t) && decide (t ≤ r.getD p.1 0)) := by
  unfold moves
  rw [thr_getD h1, thr_getD h2]
  unfold bit
  generalize r.getD p.1 0 = x
  generalize r.getD p.2 0 = y
  by_cases a : t ≤ x <;> by_cases b : t ≤ y <;> simp [a, b]
  omega
theorem set_self {r : List Int} {i : Nat} : r.set i (r.getD i 0) = r := by
  apply List.ext_getElem?
  intro j
  rw [List.getElem?_set]
  split
  · subst_vars
    split
    · rename_i h; simp [List.getD_eq_getElem?_getD, h]
    · rename_i h; simp; omega
  · rfl
theorem thr_exch {t : Int} {r : List Int} {p : Nat × Nat} (h1 : p.1 < r.length) (h2 : p.2 < r.length) : exch (thr t r) p = thr t (exch r p) := by
  have hs : ∀ (i j : Nat) (x y : Int), thr t ((r.set i x).set j y) = ((thr t r).set i (bit t x)).set j (bit t y) := by
    intros; simp [thr, List.map_set]
  unfold exch
  rw [thr_moves h1 h2]
  by_cases m : moves r p = true
  · rw [if_pos m, hs]
    by_cases c : r.getD p.2 0 < t ∧ t ≤ r.getD p.1 0
    · have c' : (decide (r.getD p.2 0 < t) && decide (t ≤ r.getD p.1 0)) = true := by rw [decide_eq_true c.1, decide_eq_true c.2]; rfl
      rw [if_pos c', thr_getD h1, thr_getD h2]
    · have e : bit t (r.getD p.1 0) = bit t (r.getD p.2 0) := by
        have m' : r.getD p.2 0 < r.getD p.1 0 := by simpa [moves] using m
        unfold bit
        split <;> split <;> first | rfl | omega
      have c' : (decide (r.getD p.2 0 < t) && decide (t ≤ r.getD p.1 0)) = false := by
        rw [← Bool.not_eq_true, Bool.and_eq_true, decide_eq_true_eq, decide_eq_true_eq]; exact c
      simp only [c', Bool.false_eq_true, if_false]
      rw [← thr_getD h1]
      have q1 : (thr t r).set p.1 (bit t (r.getD p.2 0)) = thr t r := by
        rw [← e, ← thr_getD h1]; exact set_self
      rw [q1, thr_getD h1, e, ← thr_getD h2]; exact set_self.symm
  · rw [if_neg m]
    have m' : ¬ r.getD p.2 0 < r.getD p.1 0 := by simpa [moves] using m
    have c' : (decide (r.getD p.2 0 < t) && decide (t ≤ r.getD p.1 0)) = false := by
      rw [← Bool.not_eq_true, Bool.and_eq_true, decide_eq_true_eq, decide_eq_true_eq]; omega
    simp only [c', Bool.false_eq_true, if_false]
/-- an exchange that moves on a row moves on some row of bits -/
theorem movedF_thr {m k : Nat} : ∀ {net : List (Nat × Nat)} {j : Nat} {r : List Int}, r.length = m → Good m net → k ∈ movedF j net r → ∃ t, k ∈ movedF j net (thr t r)
  | [], _, _, _, _, h => by simp [movedF] at h
  | p :: net, j, r, hr, g, h => by
    obtain ⟨g1, g2⟩ := g p (by simp)
    have g' : Good m net := fun q hq => g q (by simp [hq])
    have hr' : (exch r p).length = m := by rw [exch_length, hr]
    have h1 : p.1 < r.length := by omega
    have h2 : p.2 < r.length := by omega
    have tail : k ∈ movedF (j + 1) net (exch r p) → ∃ t, k ∈ movedF j (p :: net) (thr t r) := fun h => by
      obtain ⟨t, ht⟩ := movedF_thr hr' g' h
      rw [← thr_exch h1 h2] at ht
      refine ⟨t, ?_⟩
      unfold movedF
      split
      · exact List.mem_cons_of_mem _ ht
      · exact ht
    unfold movedF at h
    by_cases hm : moves r p = true
    · rw [if_pos hm] at h
      rcases List.mem_cons.mp h with rfl | h
      · refine ⟨r.getD p.1 0, ?_⟩
        have m' : r.getD p.2 0 < r.getD p.1 0 := by simpa [moves] using hm
        have : moves (thr (r.getD p.1 0) r) p = true := by rw [thr_moves h1 h2, decide_eq_true m', decide_eq_true (Int.le_refl _)]; rfl
        unfold movedF
        rw [if_pos this]; simp
      · exact tail h
    · rw [if_neg hm] at h
      exact tail h
/-! needless ones -/
def hasMoved (m : Nat) (net : List (Nat × Nat)) (k : Nat) : Bool := (bitRows m).any fun r => (movedF 0 net r).contains k
def needF (m : Nat) (net : List (Nat × Nat)) : List Nat := (List.range net.length).filter fun k => !hasMoved m net k
theorem hasMoved_of {m k : Nat} {net : List (Nat × Nat)} {r : List Int} (hr : r.length = m) (g : Good m net) (h : k ∈ movedF 0 net r) : hasMoved m net k = true := by
  obtain ⟨t, ht⟩ := movedF_thr hr g h
  unfold hasMoved
  rw [List.any_eq_true]
  exact ⟨_, thr_mem hr, by simpa using ht⟩
theorem need_still {m k : Nat} {net : List (Nat × Nat)} {r : List Int} (hr : r.length = m) (g : Good m net) (h : k ∈ movedF 0 net r) : k ∉ needF m net := fun z => by
  unfold needF at z
  rw [List.mem_filter, hasMoved_of hr g h] at z
  simp at z
/-- the rest of a net -/
def restF (due : List Nat) : Nat → List (Nat × Nat) → List (Nat × Nat)
  | _, [] => []
  | k, p :: net => if due.contains k then restF due (k + 1) net else p :: restF due (k + 1) net
theorem restF_good {m : Nat} {due : List Nat} : ∀ {k : Nat} {net : List (Nat × Nat)}, Good m net → Good m (restF due k net)
  | _, [], g => g
  | k, p :: net, g => by
    have g' : Good m net := fun q hq => g q (by simp [hq])
    unfold restF
    split
    · exact restF_good g'
    · intro q hq
      rcases List.mem_cons.mp hq with rfl | hq
      · exact g _ (by simp)
      · exact restF_good g' q hq
theorem restF_len {due : List Nat} : ∀ (k : Nat) (net : List (Nat × Nat)), (restF due k net).length ≤ net.length
  | _, [] => Nat.le_refl _
  | k, p :: net => by
    have := restF_len (due := due) (k + 1) net
    unfold restF
    split <;> simp <;> omega
theorem restF_run {due : List Nat} : ∀ {k : Nat} {net : List (Nat × Nat)} {r : List Int}, (∀ j ∈ movedF k net r, j ∉ due) → runL (restF due k net) r = runL net r
  | _, [], _, _ => rfl
  | k, p :: net, r, h => by
    have h' : ∀ j ∈ movedF (k + 1) net (exch r p), j ∉ due := fun j hj => h j (by
      unfold movedF
      split
      · exact List.mem_cons_of_mem _ hj
      · exact hj)
    have ih := restF_run h'
    unfold restF
    split
    · rename_i hd
      have hm : ¬ moves r p = true := fun z => h k (by unfold movedF; rw [if_pos z]; simp) (by simpa using hd)
      have e : exch r p = r := by unfold exch; rw [if_neg hm]
      rw [e] at ih
      show _ = runL net (exch r p)
      rw [e]; exact ih
    · exact ih
/-- every exchange of the rest moves where it moved -/
theorem restF_moved {due : List Nat} : ∀ {k j : Nat} {net : List (Nat × Nat)} {i : Nat}, i < (restF due k net).length → ∃ q, q ∉ due ∧ q < k + net.length ∧ k ≤ q ∧ ∀ r, (∀ j ∈ movedF k net r, j ∉ due) → q ∈ movedF k net r → j + i ∈ movedF j (restF due k net) r
  | _, _, [], _, h => by simp [restF] at h
  | k, j, p :: net, i, h => by
    have sub : ∀ {r : List Int}, (∀ j ∈ movedF k (p :: net) r, j ∉ due) → ∀ j ∈ movedF (k + 1) net (exch r p), j ∉ due := fun h j hj => h j (by
      unfold movedF
      split
      · exact List.mem_cons_of_mem _ hj
      · exact hj)
    have low : ∀ (net : List (Nat × Nat)) (k : Nat) (r : List Int), ∀ j ∈ movedF k net r, k ≤ j := by
      intro net
      induction net with
      | nil => intro k r j h; simp [movedF] at h
      | cons p net ih =>
        intro k r j h
        unfold movedF at h
        split at h
        · rcases List.mem_cons.mp h with rfl | h
          · exact Nat.le_refl _
          · have := ih _ _ _ h; omega
        · have := ih _ _ _ h; omega
    have back : ∀ {q : Nat} {r : List Int}, k + 1 ≤ q → q ∈ movedF k (p :: net) r → q ∈ movedF (k + 1) net (exch r p) := fun hq h => by
      unfold movedF at h
      split at h
      · rcases List.mem_cons.mp h with rfl | h
        · omega
        · exact h
      · exact h
    by_cases hd : due.contains k = true
    · have e : restF due k (p :: net) = restF due (k + 1) net := by rw [restF, if_pos hd]
      rw [e] at h ⊢
      obtain ⟨q, q1, q2, q3, q4⟩ := restF_moved (j := j) h
      refine ⟨q, q1, by simp; omega, by omega, fun r hr hq => ?_⟩
      have z := q4 (exch r p) (sub hr) (back q3 hq)
      have hm : ¬ moves r p = true := fun z => hr k (by unfold movedF; rw [if_pos z]; simp) (by simpa using hd)
      have e : exch r p = r := by unfold exch; rw [if_neg hm]
      rw [e] at z; exact z
    · have e : restF due k (p :: net) = p :: restF due (k + 1) net := by rw [restF, if_neg hd]
      rw [e] at h ⊢
      cases i with
      | zero =>
        refine ⟨k, by simpa using hd, by simp, Nat.le_refl _, fun r hr hq => ?_⟩
        have hm : moves r p = true := by
          unfold movedF at hq
          split at hq
          · assumption
          · have := low _ _ _ _ hq; omega
        unfold movedF
        rw [if_pos hm]; simp
      | succ i =>
        obtain ⟨q, q1, q2, q3, q4⟩ := restF_moved (j := j + 1) (i := i) (by simpa using h)
        refine ⟨q, q1, by simp; omega, by omega, fun r hr hq => ?_⟩
        have z := q4 (exch r p) (sub hr) (back q3 hq)
        have e : j + (i + 1) = j + 1 + i := by omega
        rw [e]
        unfold movedF
        split
        · exact List.mem_cons_of_mem _ z
        · exact z
theorem need_rest {m : Nat} {net : List (Nat × Nat)} (g : Good m net) : needF m (restF (needF m net) 0 net) = [] := by
  have all : ∀ k, k < (restF (needF m net) 0 net).length → hasMoved m (restF (needF m net) 0 net) k = true := fun k hk => by
    obtain ⟨q, q1, q2, _, q4⟩ := restF_moved (j := 0) hk
    have hq : hasMoved m net q = true := by
      unfold needF at q1
      simp only [List.mem_filter, List.mem_range, not_and, Bool.not_eq_true', Bool.not_eq_false] at q1
      exact q1 (by omega)
    unfold hasMoved at hq
    rw [List.any_eq_true] at hq
    obtain ⟨r, hr, h⟩ := hq
    have hl := (bitRows_mem.mp hr).1
    have z := q4 r (fun j hj => need_still hl g hj) (by simpa using h)
    refine hasMoved_of hl (restF_good g) (by simpa using z)
  generalize restF (needF m net) 0 net = rest at all
  unfold needF
  rw [List.filter_eq_nil_iff]
  intro k hk
  simp [all k (by simpa using hk)]
theorem run_rest {m : Nat} {net : List (Nat × Nat)} {r : List Int} (g : Good m net) (hr : r.length = m) : runL (restF (needF m net) 0 net) r = runL net r :=
  restF_run fun j hj => need_still hr g hj
/-! in order -/
def ascB : List Int → Bool
  | [] => true
  | [_] => true
  | a :: b :: r => decide (a ≤ b) && ascB (b :: r)
theorem ascB_pair : ∀ {r : List Int}, ascB r = true ↔ r.Pairwise (· ≤ ·)
  | [] => by simp [ascB]
  | [a] => by simp [ascB]
  | a :: b :: r => by
    have ih := ascB_pair (r := b :: r)
    simp only [ascB, Bool.and_eq_true, decide_eq_true_eq, ih]
    constructor
    · rintro ⟨h, h2⟩
      refine List.Pairwise.cons (fun c hc => ?_) h2
      rcases List.mem_cons.mp hc with rfl | hc
      · exact h
      · exact Int.le_trans h ((List.pairwise_cons.mp h2).1 c hc)
    · intro h
      exact ⟨(List.pairwise_cons.mp h).1 b (by simp), (List.pairwise_cons.mp h).2⟩
theorem sortI_perm (r : List Int) : (sortI r).Perm r := List.mergeSort_perm _ _
theorem sortI_sorted (r : List Int) : (sortI r).Pairwise (· ≤ ·) := by
  have := List.pairwise_mergeSort (le := fun a b : Int => decide (a ≤ b)) (by intro a b c; simp; omega) (by intro a b; simp; omega) r
  exact this.imp (by simp)
theorem sorted_unique : ∀ {a b : List Int}, a.Perm b → a.Pairwise (· ≤ ·) → b.Pairwise (· ≤ ·) → a = b := fun h h1 h2 =>
  List.Perm.eq_of_pairwise (le := (· ≤ ·)) (fun a b _ _ => Int.le_antisymm) h1 h2 h
theorem sortI_eq {r q : List Int} (h : q.Perm r) : q = sortI r ↔ ascB q = true := by
  constructor
  · rintro rfl; exact ascB_pair.mpr (sortI_sorted r)
  · intro z; exact sorted_unique (h.trans (sortI_perm r).symm) (ascB_pair.mp z) (sortI_sorted r)
theorem exch_perm {r : List Int} {p : Nat × Nat} (h1 : p.1 < r.length) (h2 : p.2 < r.length) : (exch r p).Perm r := by
  unfold exch
  split
  · have e1 : r.getD p.1 0 = r[p.1] := by simp [List.getD_eq_getElem?_getD, h1]
    have e2 : r.getD p.2 0 = r[p.2] := by simp [List.getD_eq_getElem?_getD, h2]
    rw [e1, e2]
    exact List.set_set_perm h1 h2
  · exact .refl _
theorem runL_perm {m : Nat} : ∀ {net : List (Nat × Nat)} {r : List Int}, r.length = m → Good m net → (runL net r).Perm r
  | [], _, _, _ => .refl _
  | p :: net, r, hr, g => by
    obtain ⟨g1, g2⟩ := g p (by simp)
    exact (runL_perm (net := net) (r := exch r p) (by rw [exch_length, hr]) (fun q hq => g q (by simp [hq]))).trans (exch_perm (by omega) (by omega))
theorem sort2 (a b : Int) : sortI [a, b] = if b < a then [b, a] else [a, b] := by
  symm
  rw [sortI_eq]
  · split <;> simp [ascB] <;> omega
  · split
    · exact List.Perm.swap _ _ _
    · exact .refl _
end K72

namespace K72
open PySem L2 PD
def rowsD (rs : List (List Int)) : D := .list (rs.map rowD)
def brB : SDen := (sSeq (sAsg (dLc2 (dSeq (dVar 1)) (.nm 3) dYes (dSeq (dTup (dCons (dC (.int 0)) (dCons (dC (.int 1)) dNil)))) (.nm 4) dYes (dLst (dStar (dVar 3) (dCons (dVar 4) dNil))) [3, 4] [4]) (.nm 1)) sNop)
theorem b_br : b_bit_rows = (sSeq (sAsg (dLst (dCons (dLst dNil) dNil)) (.nm 1)) (sSeq (sFor (dIt rng1D (dCons (dVar 0) dNil)) (.nm 2) brB) (sSeq (sRet (dVar 1)) sNop))) := rfl
def brG : D → List D
  | .list xs => [.list (xs ++ [.int 0]), .list (xs ++ [.int 1])]
  | _ => []
theorem brG_rows (rs : List (List Int)) : (rs.map rowD).flatMap brG = (rs.flatMap fun r => [r ++ [0], r ++ [1]]).map rowD := by
  induction rs with
  | nil => rfl
  | cons r rs ih => simp [brG, rowD, ih]
theorem br_body {rs : List (List Int)} {a b : Option D} {S : SS} (hr : ∀ r ∈ rs, r.length + 1 ≤ sizeLine) (hz : (rs.flatMap fun r => [r ++ [0], r ++ [1]]).length ≤ sizeLine) :
    brB [a, some (rowsD rs), b, none, none] S = .nx [a, some (rowsD (rs.flatMap fun r => [r ++ [0], r ++ [1]])), b, none, none] S := by
  have e := lc2L_pure (t := .nm 3) (c := dYes) (it1 := (dSeq (dTup (dCons (dC (.int 0)) (dCons (dC (.int 1)) dNil))))) (t1 := .nm 4) (c1 := dYes) (f := (dLst (dStar (dVar 3) (dCons (dVar 4) dNil)))) (vs1 := [4]) (ρ := [a, some (rowsD rs), b, none, none]) (S := S) brG (ds := rs.map rowD) (acc := []) (fun d hd => by
    obtain ⟨r, hrm, rfl⟩ := List.mem_map.mp hd
    refine ⟨[a, some (rowsD rs), b, some (rowD r), none], _, [.int 0, .int 1], [a, some (rowsD rs), b, some (rowD r), none], rfl, rfl, ?_, fun acc ha => ?_⟩
    · simp [dSeq, dTup, dCons, dC, dNil, Res.bind, optR, seqD, sizeLine]
    · have h1 := hr r hrm
      simp only [rowD, brG, List.length_cons, List.length_nil] at ha
      have a1 : acc.length < sizeLine := by omega
      have a2 : acc.length + 1 < sizeLine := by omega
      exact ⟨_, by simp [lc2I, wipeR, bindT, dYes, dLst, dStar, dCons, dNil, dVar, rowD, brG, Res.bind, optR, seqD, h1, a1, a2]; rfl⟩) (by rw [brG_rows]; simpa using hz)
  rw [brG_rows] at e
  simp only [List.nil_append] at e
  simp [brB, sSeq, sAsg, dLc2, dSeq, dVar, optR, rowsD, seqD, wipeR, Res.bind, Res.sr, bindT, sNop] at e ⊢
  simp [e]
theorem pow6 {i : Nat} (hi : i ≤ 6) : 2 ^ i ≤ 64 := by
  have : i = 0 ∨ i = 1 ∨ i = 2 ∨ i = 3 ∨ i = 4 ∨ i = 5 ∨ i = 6 := by omega
  rcases this with rfl | rfl | rfl | rfl | rfl | rfl | rfl <;> decide
theorem br_step {i : Nat} {a b : Option D} {S : SS} (hi : i < 6) : brB [a, some (rowsD (bitRows i)), b, none, none] S = .nx [a, some (rowsD (bitRows (i + 1))), b, none, none] S := by
  have := bitRows_len (i + 1)
  have h1 := pow6 (i := i + 1) (by omega)
  have h2 := l64
  refine br_body (fun r hr => ?_) ?_
  · rw [(bitRows_mem.mp hr).1]; omega
  · rw [bitRows] at this
    rw [this]; omega
theorem br_loop {m : Nat} {S : SS} (hm : m ≤ 6) : ∃ x, forL (.nm 2) brB (rangeD 0 m) [some (.int m), some (rowsD (bitRows 0)), none, none, none] S = .nx [some (.int m), some (rowsD (bitRows m)), x, none, none] S := by
  have hn : (rangeD 0 m).length = m := by simp [rangeD]
  obtain ⟨ρ', S', e, x, hρ, hS⟩ := forL_inv (t := .nm 2) (body := brB) (ds := rangeD 0 m) (ρ := [some (.int m), some (rowsD (bitRows 0)), none, none, none]) (S := S)
    (fun i ρ S' => ∃ x, ρ = [some (.int m), some (rowsD (bitRows i)), x, none, none] ∧ S' = S) (fun i d ρ S2 hd ⟨x, hρ, hS⟩ => by
      subst hρ hS
      have hi : i < m := by have := (List.getElem?_eq_some_iff.mp hd).1; omega
      exact ⟨[some (.int m), some (rowsD (bitRows i)), some d, none, none], rfl, _, _, .inl (br_step (by omega)), some d, rfl, rfl⟩) ⟨none, rfl, rfl⟩
  subst hS
  rw [hn] at hρ
  subst hρ
  exact ⟨x, e⟩
theorem bit_rows_eq {m : Nat} {S : SS} (hm : m ≤ 6) : D_bit_rows [.int m] S = .ok (rowsD (bitRows m)) [] S := by
  obtain ⟨x, e⟩ := br_loop (S := S) hm
  have e0 : rowsD (bitRows 0) = .list [.list []] := rfl
  rw [e0] at e
  refine defD_rt (show b_bit_rows [some (.int m), none, none, none, none] S = _ from ?_)
  rw [b_br]
  rw [sSeq_nx (ρ1 := [some (.int m), some (.list [.list []]), none, none, none]) (S1 := S) (by simp [sAsg, dLst, dCons, dNil, Res.bind, Res.sr, l1, bindT])]
  rw [sSeq_nx ((sFor_eq (dIt_rng1 (m := m) (by simp [dVar, optR]) (by omega))).trans e)]
  simp [sSeq, sRet, dVar, optR, Res.sr]
end K72

namespace K72
open PySem L2 PD
theorem zip_tail (r : List Int) : zipD (r.map PyData.int) ((r.drop 1).map PyData.int) = (r.zip (r.drop 1)).map fun p => .tuple [.int p.1, .int p.2] := by
  generalize r.drop 1 = q
  induction r generalizing q with
  | nil => rfl
  | cons a r ih =>
    cases q with
    | nil => rfl
    | cons b q => simp [zipD, ih]
theorem asc_zip : ∀ r : List Int, ascB r = (r.zip (r.drop 1)).all fun p => decide (p.1 ≤ p.2)
  | [] => rfl
  | [_] => rfl
  | a :: b :: r => by
    have ih := asc_zip (b :: r)
    simp only [List.drop_succ_cons, List.drop_zero] at ih ⊢
    simp [ascB, ih]
theorem is_asc_eq {r : List Int} {S : SS} (hz : r.length ≤ sizeLine) : D_is_ascending [rowD r] S = .ok (.bool (ascB r)) [] S := by
  refine defD_rt (show b_is_ascending [some (rowD r), none, none] S = _ from ?_)
  refine sSeq_rt (sRet_eq (dPrim1 (dLc_eq (dIt_ok (dCons2 (d := rowD r) (d2 := rowD (r.drop 1)) (dVar_eq rfl) ?_) ?_) ?_ (lcL_map (α := Int × Int) (fun p => .tuple [.int p.1, .int p.2]) (fun p => .bool (decide (p.1 ≤ p.2))) (l := r.zip (r.drop 1)) fun p _ => ⟨[some (rowD r), some (.int p.1), some (.int p.2)], ?_, ?_⟩)) ?_))
  · have c := cutG_from (r.map PyData.int) 1
    simp at c
    simp [dSl, dPo, dPo0, dC, dVar, optR, intO, sliceD, Res.bind, rowD, c]
  · rw [rowD, rowD, zipL, zip_tail]
  · simp; omega
  · simp [bindT, bindTs, wipeR]
  · exact dB_eq (dCmp_eq (dVar_eq rfl) (dVar_eq rfl) rfl)
  · rw [asc_zip]; exact allD_map _ _
end K72

namespace K72
open PySem L2 PD
def netD (net : List (Nat × Nat)) : D := .list (net.map tupP)
def fuV (m : Nat) (net : List (Nat × Nat)) : Option (List Int) := (bitRows m).find? fun r => !ascB (runL net r)
def optD : Option (List Int) → D
  | some r => rowD r
  | none => .none
theorem ixD0 (a b : D) : ixD (.tuple [a, b]) (.int 0) = some a := by simp [ixD, atI0]
theorem ixD1 (a b : D) : ixD (.tuple [a, b]) (.int 1) = some b := by simp [ixD, atI1]
theorem runE {net : List (Nat × Nat)} {r : List Int} {m : Nat} {S : SS} {ρ : Rho} {f g : Den D} (hr : r.length = m) (gd : Good m net) (hz : net.length < sizeLine) (h1 : f ρ S = .ok (netD net) ρ S) (h2 : g ρ S = .ok (rowD r) ρ S) :
    dCall D_run_on (dCons f (dCons g dNil)) ρ S = .ok (.tuple [rowD (runL net r), idxD (movedF 0 net r)]) ρ S := dCall_eq (dCons2 h1 h2) (run_on_eq hr gd hz)
theorem first_unsorted_eq {m : Nat} {net : List (Nat × Nat)} {S : SS} (hm : m ≤ 6) (g : Good m net) (hz : net.length < sizeLine) : D_first_unsorted [.int m, netD net] S = .ok (optD (fuV m net)) [] S := by
  refine defD_rt (show b_first_unsorted [some (.int m), some (netD net), none] S = _ from ?_)
  obtain ⟨f1, f2⟩ := forL_find (t := .nm 2) (body := (sSeq (sIf (dNot (dT (dCall D_is_ascending (dCons (dBin ixD (dCall D_run_on (dCons (dVar 1) (dCons (dVar 2) dNil))) (dC (.int 0))) dNil)))) (sSeq (sRet (dVar 2)) sNop) sNop) sNop)) (S := S) rowD (fun r => !ascB (runL net r)) rowD (fun ρ => ∃ x, ρ = [some (.int m), some (netD net), x]) (l := bitRows m) (ρ := [some (.int m), some (netD net), none]) (fun r hr ρ ⟨x, hx⟩ => by
    subst hx
    have hl := (bitRows_mem.mp hr).1
    have z := l64
    have c : (dNot (dT (dCall D_is_ascending (dCons (dBin ixD (dCall D_run_on (dCons (dVar 1) (dCons (dVar 2) dNil))) (dC (.int 0))) dNil)))) [some (.int m), some (netD net), some (rowD r)] S = .ok (!ascB (runL net r)) [some (.int m), some (netD net), some (rowD r)] S :=
      dNot_eq (dT_eq (dCall_eq (dCons1 (dBin_eq (runE hl g hz (dVar_eq rfl) (dVar_eq rfl)) rfl (ixD0 _ _))) (is_asc_eq (by rw [runL_length]; omega))))
    refine ⟨[some (.int m), some (netD net), some (rowD r)], rfl, fun hp => ?_, fun hp => ⟨[some (.int m), some (netD net), some (rowD r)], ?_, _, rfl⟩⟩
    · simp only [hp] at c
      refine sSeq_rt ?_
      rw [sIf_eq c, if_pos rfl]
      exact sSeq_rt (sRet_eq (dVar_eq rfl))
    · simp only [hp] at c
      rw [sSeq_nx (ρ1 := [some (.int m), some (netD net), some (rowD r)]) (S1 := S) (by rw [sIf_eq c, if_neg (by simp)]; rfl)]
      rfl) ⟨none, rfl⟩
  unfold fuV
  rw [b_first_unsorted]
  have it : (dSeq (dCall D_bit_rows (dCons (dVar 0) dNil))) [some (.int m), some (netD net), none] S = .ok ((bitRows m).map rowD) [some (.int m), some (netD net), none] S := dSeq_eq (dCall_eq (dCons1 (dVar_eq rfl)) (bit_rows_eq hm))
  cases q : (bitRows m).find? (fun r => !ascB (runL net r)) with
  | some r => exact sSeq_rt ((sFor_eq it).trans (f1 r q))
  | none =>
    obtain ⟨ρ', e, _⟩ := f2 q
    rw [sSeq_nx ((sFor_eq it).trans e)]
    rfl
end K72

namespace K72
open PySem L2 PD
/-- a net as it is handed in -/
def NetArg (net : List (Nat × Nat)) (d : D) : Prop := ∃ ds, (d = .list ds ∨ d = .tuple ds) ∧ IsNet net ds
theorem paired_len {α β : Type} {R : α → β → Prop} : ∀ {xs : List α} {ys : List β}, Paired R xs ys → ys.length = xs.length
  | _, _, .nil => rfl
  | _, _, .cons _ t => by simp [paired_len t]
theorem netArg_D (net : List (Nat × Nat)) : NetArg net (netD net) := ⟨_, .inl rfl, tup_net net⟩
theorem check_eq {m : Nat} {net : List (Nat × Nat)} {d : D} {S : SS} (hm : 0 < m) (h : NetArg net d) (g : Good m net) (hz : net.length < sizeLine) : D_check_net [.int m, d] S = .ok (netD net) [] S := by
  obtain ⟨ds, h1, h2⟩ := h
  have hl : ds.length ≤ sizeLine := by rw [paired_len h2]; omega
  rcases h1 with rfl | rfl
  · exact (check_net_eq hm h2 g hl).1
  · exact (check_net_eq hm h2 g hl).2
theorem checkE {m : Nat} {net : List (Nat × Nat)} {d : D} {S : SS} {ρ : Rho} {f f2 : Den D} (hm : 0 < m) (h : NetArg net d) (g : Good m net) (hz : net.length < sizeLine) (h1 : f ρ S = .ok (.int m) ρ S) (h2 : f2 ρ S = .ok d ρ S) :
    dCall D_check_net (dCons f (dCons f2 dNil)) ρ S = .ok (netD net) ρ S := dCall_eq (dCons2 h1 h2) (check_eq hm h g hz)
theorem net_row_eq {m : Nat} {net : List (Nat × Nat)} {d : D} {r : List Int} {S : SS} (hm : 0 < m) (h : NetArg net d) (g : Good m net) (hz : net.length < sizeLine) (hr : r.length = m) (hmz : m ≤ sizeLine) : D_net_row [.int m, d, rowD r] S = .ok (rowD (runL net r)) [] S := by
  refine defD_rt (show b_net_row [some (.int m), some d, some (rowD r), none, none] S = _ from ?_)
  rw [b_net_row]
  rw [sSeq_nx (sAsg_eq (ρ2 := [some (.int m), some d, some (rowD r), some (netD net), none]) (checkE hm h g hz (dVar_eq rfl) (dVar_eq rfl)) rfl)]
  have e1 : D_is_row [rowD r, .int m] S = .ok (.bool true) [] S := by
    have := (is_row_seq (r.map PyData.int) m S).1
    rw [rowD, this]; simp [hr]
  have e2 : (dLc (dSeq (dVar 2)) (.nm 4) dYes (dCall D_is_whole (dCons (dVar 4) dNil)) [4]) [some (.int m), some d, some (rowD r), some (netD net), none] S = .ok (.list (r.map fun _ => .bool true)) [some (.int m), some d, some (rowD r), some (netD net), none] S := by
    refine dLc_eq (dSeq_eq (dVar_eq rfl)) (by simp [hr, hmz]) (lcL_map (l := r) PyData.int (fun _ => .bool true) fun x _ => ⟨[some (.int m), some d, some (rowD r), some (netD net), some (.int x)], rfl, dCall_eq (dCons1 (dVar_eq rfl)) (is_whole_int _ _)⟩)
  have e3 : allD [.list (r.map fun _ => .bool true)] = some (.bool true) := by
    have := allD_map (fun _ : Int => true) r
    rw [this]; simp
  have c : (dOr (dNot (dT (dCall D_is_row (dCons (dVar 2) (dCons (dVar 0) dNil))))) (dNot (dT (dPrim allD (dCons (dLc (dSeq (dVar 2)) (.nm 4) dYes (dCall D_is_whole (dCons (dVar 4) dNil)) [4]) dNil))))) [some (.int m), some d, some (rowD r), some (netD net), none] S = .ok false [some (.int m), some d, some (rowD r), some (netD net), none] S := by
    have q1 := dNot_eq (dT_eq (dCall_eq (ρ := [some (.int m), some d, some (rowD r), some (netD net), none]) (S := S) (dCons2 (f := dVar 2) (f2 := dVar 0) (dVar_eq rfl) (dVar_eq rfl)) e1))
    have q2 := dNot_eq (dT_eq (dPrim1 e2 e3))
    simp [dOr, q1, q2, Res.bind]
  rw [sSeq_nx (by rw [sIf_eq c, if_neg (by simp)]; rfl)]
  exact sSeq_rt (sRet_eq (dBin_eq (runE hr g hz (dVar_eq rfl) (dVar_eq rfl)) rfl (ixD0 _ _)))
/-! needless -/
def flD (n : Nat) (F : Nat → Bool) : D := .list ((List.range n).map fun k => .bool (F k))
theorem fl_set {n k : Nat} {F : Nat → Bool} (h : k < n) : ((List.range n).map fun k => PyData.bool (F k)).set k (.bool true) = (List.range n).map fun j => .bool (F j || j == k) := by
  apply List.ext_getElem?
  intro j
  rw [List.getElem?_set]
  by_cases hj : k = j
  · subst hj; simp [h]
  · rw [if_neg hj, List.getElem?_map, List.getElem?_map]
    have : (j == k) = false := by simp; omega
    by_cases hn : j < n
    · rw [List.getElem?_range hn]; simp [this]
    · rw [List.getElem?_eq_none (by simp; omega)]; rfl
theorem fl_ext {n : Nat} {F G : Nat → Bool} (h : ∀ k, k < n → F k = G k) : flD n F = flD n G := by
  unfold flD
  congr 1
  apply List.map_congr_left
  intro k hk
  rw [h k (by simpa using hk)]
theorem movedF_lt : ∀ {net : List (Nat × Nat)} {k j : Nat} {r : List Int}, j ∈ movedF k net r → j < k + net.length
  | [], _, _, _, h => by simp [movedF] at h
  | p :: net, k, j, r, h => by
    unfold movedF at h
    split at h
    · rcases List.mem_cons.mp h with rfl | h
      · simp
      · have := movedF_lt h; simp; omega
    · have := movedF_lt h; simp; omega
theorem nl_inner {n : Nat} {a b c d e : Option D} {S : SS} {F : Nat → Bool} {ks : List Nat} (hk : ∀ k ∈ ks, k < n) : ∃ x, forL (.nm 5) (sSeq (sAsgA (dC (.bool true)) (aSub 3 (dVar 5))) sNop) (ks.map fun (k : Nat) => PyData.int (k : Int)) [a, b, c, some (flD n F), d, e, none] S = .nx [a, b, c, some (flD n (fun j => F j || ks.contains j)), d, x, none] S := by
  obtain ⟨ρ', h, x, rfl⟩ := forL_map (t := .nm 5) (body := (sSeq (sAsgA (dC (.bool true)) (aSub 3 (dVar 5))) sNop)) (S := S) (fun k : Nat => PyData.int (k : Int)) (fun pre ρ => ∃ x, ρ = [a, b, c, some (flD n (fun j => F j || pre.contains j)), d, x, none]) (l := ks) (pre := []) (ρ := [a, b, c, some (flD n F), d, e, none]) (fun pre k ρ hm ⟨x, hx⟩ => by
    subst hx
    have hn := hk k hm
    refine ⟨[a, b, c, some (flD n (fun j => F j || pre.contains j)), d, some (.int k), none], rfl, [a, b, c, some (flD n (fun j => F j || (pre ++ [k]).contains j)), d, some (.int k), none], ?_, _, rfl⟩
    have e1 := fl_set (n := n) (k := k) (F := fun j => F j || pre.contains j) hn
    have e2 : flD n (fun j => F j || (pre ++ [k]).contains j) = .list ((List.range n).map fun j => .bool ((F j || pre.contains j) || j == k)) := by
      refine fl_ext fun j _ => ?_
      rw [Bool.or_assoc]
      congr 1
      rw [Bool.eq_iff_iff]
      simp
    rw [e2, ← e1]
    have hi : ixN n (k : Int) = some k := ixN_nat hn
    simp [sSeq, sAsgA, dC, aSub, ownL, flD, optR, dVar, Res.bind, Res.sr, sNop, hi]) ⟨e, by simp [flD]⟩
  exact ⟨x, h⟩
theorem enum_fl (n : Nat) (F : Nat → Bool) : enumD ((List.range n).map fun k => PyData.bool (F k)) 0 = (List.range n).map fun (k : Nat) => .tuple [.int (k : Int), .bool (F k)] := by
  have : ∀ (m j : Nat), enumD ((List.range' j m).map fun k => PyData.bool (F k)) j = (List.range' j m).map fun (k : Nat) => .tuple [.int (k : Int), .bool (F k)] := by
    intro m
    induction m with
    | zero => intro j; rfl
    | succ m ih => intro j; simp [List.range'_succ, enumD, ih]
  rw [List.range_eq_range']
  exact this n 0
theorem rep_fl {n : Nat} (h : n < 1000) : repD (.list [.bool false]) (.int (n : Int)) = some ((List.range n).map fun _ => PyData.bool false) := by
  have z1 : (n : Int) < 9223372036854775808 := by omega
  have z2 : (-9223372036854775808 : Int) ≤ n := by omega
  have z3 : n ≤ sizeLine := Nat.le_trans (Nat.le_of_lt h) (by decide)
  have e : (List.replicate n [PyData.bool false]).flatten = (List.range n).map fun _ => PyData.bool false := by
    rw [List.map_const', List.length_range, List.flatten_replicate_singleton]
  simp [repD, z1, z2, z3, e]
def neB : SDen := (sSeq (sFor (dSeq (dBin ixD (dCall D_run_on (dCons (dVar 2) (dCons (dVar 4) dNil))) (dC (.int 1)))) (.nm 5) (sSeq (sAsgA (dC (.bool true)) (aSub 3 (dVar 5))) sNop)) sNop)
theorem needless_eq {m : Nat} {net : List (Nat × Nat)} {d : D} {S : SS} (hm : 0 < m ∧ m ≤ 6) (h : NetArg net d) (g : Good m net) (hz : net.length < 1000) : D_needless [.int m, d] S = .ok (idxD (needF m net)) [] S := by
  have hz' : net.length < sizeLine := Nat.lt_of_lt_of_le hz (by decide)
  refine defD_rt (show b_needless [some (.int m), some d, none, none, none, none, none] S = _ from ?_)
  show (sSeq (sAsg (dCall D_check_net (dCons (dVar 0) (dCons (dVar 1) dNil))) (.nm 2)) (sSeq (sAsg (dBinL repD (dLst (dCons (dC (.bool false)) dNil)) (dPrim lenD (dCons (dVar 2) dNil))) (.nm 3)) (sSeq (sFor (dSeq (dCall D_bit_rows (dCons (dVar 0) dNil))) (.nm 4) neB) (sSeq (sRet (dLc (dIt enumA (dCons (dVar 3) dNil)) (.tup [(.nm 5), (.nm 6)]) (dNot (dT (dVar 6))) (dVar 5) [5, 6])) sNop)))) _ _ = _
  rw [sSeq_nx (sAsg_eq (ρ2 := [some (.int m), some d, some (netD net), none, none, none, none]) (checkE hm.1 h g hz' (dVar_eq rfl) (dVar_eq rfl)) rfl)]
  have e1 : (dBinL repD (dLst (dCons (dC (.bool false)) dNil)) (dPrim lenD (dCons (dVar 2) dNil))) [some (.int m), some d, some (netD net), none, none, none, none] S = .ok (flD net.length fun _ => false) [some (.int m), some d, some (netD net), none, none, none, none] S := by
    refine dBinL_eq (dLst_eq (dCons1 rfl) l1) (dPrim1 (dVar_eq rfl) (lenD_list _)) ?_
    rw [List.length_map]; exact rep_fl hz
  rw [sSeq_nx (sAsg_eq (ρ2 := [some (.int m), some d, some (netD net), some (flD net.length fun _ => false), none, none, none]) e1 rfl)]
  have it : (dSeq (dCall D_bit_rows (dCons (dVar 0) dNil))) [some (.int m), some d, some (netD net), some (flD net.length fun _ => false), none, none, none] S = .ok ((bitRows m).map rowD) [some (.int m), some d, some (netD net), some (flD net.length fun _ => false), none, none, none] S := dSeq_eq (dCall_eq (dCons1 (dVar_eq rfl)) (bit_rows_eq hm.2))
  obtain ⟨ρ', e2, x, y, rfl⟩ := forL_map (t := .nm 4) (body := neB) (S := S) rowD (fun pre ρ => ∃ x y, ρ = [some (.int m), some d, some (netD net), some (flD net.length (fun j => pre.any fun r => (movedF 0 net r).contains j)), x, y, none]) (l := bitRows m) (pre := []) (ρ := [some (.int m), some d, some (netD net), some (flD net.length fun _ => false), none, none, none]) (fun pre r ρ hr ⟨x, y, hx⟩ => by
    subst hx
    have hl := (bitRows_mem.mp hr).1
    obtain ⟨z, e⟩ := nl_inner (n := net.length) (a := some (.int m)) (b := some d) (c := some (netD net)) (d := some (rowD r)) (e := y) (S := S) (F := fun j => pre.any fun r => (movedF 0 net r).contains j) (ks := movedF 0 net r) (fun k hk => by have := movedF_lt hk; omega)
    refine ⟨[some (.int m), some d, some (netD net), some (flD net.length (fun j => pre.any fun r => (movedF 0 net r).contains j)), some (rowD r), y, none], rfl, _, sSeq_nx ((sFor_eq (dSeq_eq (dBin_eq (runE hl g hz' (dVar_eq rfl) (dVar_eq rfl)) rfl (ixD1 _ _)))).trans e), some (rowD r), z, ?_⟩
    simp) ⟨none, none, rfl⟩
  rw [sSeq_nx ((sFor_eq it).trans e2)]
  refine sSeq_rt (sRet_eq ?_)
  have hl : dLc (dIt enumA (dCons (dVar 3) dNil)) (.tup [(.nm 5), (.nm 6)]) (dNot (dT (dVar 6))) (dVar 5) [5, 6] [some (.int m), some d, some (netD net), some (flD net.length (hasMoved m net)), x, y, none] S = .ok (.list (((List.range net.length).filter fun k => !hasMoved m net k).map fun (k : Nat) => .int (k : Int))) [some (.int m), some d, some (netD net), some (flD net.length (hasMoved m net)), x, y, none] S := by
    refine dLc_eq (dIt_ok (dCons1 (dVar_eq rfl)) (show _ = some ((List.range net.length).map fun (k : Nat) => PyData.tuple [.int (k : Int), .bool (hasMoved m net k)]) from ?_)) ?_ (lcL_fmap (l := List.range net.length) (fun (k : Nat) => .tuple [.int (k : Int), .bool (hasMoved m net k)]) (fun k => !hasMoved m net k) (fun (k : Nat) => .int (k : Int)) fun k _ => ⟨[some (.int m), some d, some (netD net), some (flD net.length (hasMoved m net)), x, some (.int (k : Int)), some (.bool (hasMoved m net k))], ?_, dNot_eq (dT_eq (dVar_eq rfl)), fun _ => dVar_eq rfl⟩)
    · rw [flD, enumA, enum_fl]
    · simp; omega
    · simp [bindT, bindTs, wipeR]
  exact hl
end K72

namespace K72
open PySem L2 PD
abbrev Net := List (Nat × Nat)
/-- all parts of a net -/
def partsOf (net : Net) : List Net := net.foldl (fun found p => found ++ found.map (· ++ [p])) [[]]
theorem partsOf_snoc (net : Net) (p : Nat × Nat) : partsOf (net ++ [p]) = partsOf net ++ (partsOf net).map (· ++ [p]) := by
  simp [partsOf]
theorem foldl_len : ∀ (net : Net) (a : List Net), (net.foldl (fun found p => found ++ found.map (· ++ [p])) a).length = a.length * 2 ^ net.length
  | [], a => by simp
  | p :: net, a => by
    rw [List.foldl_cons, foldl_len net]
    simp only [List.length_append, List.length_map, List.length_cons, Nat.pow_succ]
    rw [← Nat.two_mul, Nat.mul_comm 2, Nat.mul_assoc, Nat.mul_comm 2]
theorem parts_len (net : Net) : (partsOf net).length = 2 ^ net.length := by
  have := foldl_len net [[]]
  simpa [partsOf] using this
theorem foldl_mem : ∀ (net : Net) (a : List Net) (Q : Nat × Nat → Prop), (∀ q ∈ net, Q q) → (∀ s ∈ a, ∀ q ∈ s, Q q) → ∀ s ∈ net.foldl (fun found p => found ++ found.map (· ++ [p])) a, ∀ q ∈ s, Q q
  | [], a, Q, _, h => h
  | p :: net, a, Q, hn, h => foldl_mem net _ Q (fun q hq => hn q (by simp [hq])) (by
      intro s hs q hq
      rcases List.mem_append.mp hs with hs | hs
      · exact h s hs q hq
      · obtain ⟨s', h1, rfl⟩ := List.mem_map.mp hs
        rcases List.mem_append.mp hq with hq | hq
        · exact h s' h1 q hq
        · simp at hq; subst hq; exact hn _ (by simp))
theorem parts_good {m : Nat} {net s : Net} (g : Good m net) (h : s ∈ partsOf net) : Good m s := foldl_mem net [[]] _ g (by simp) s h
theorem foldl_le : ∀ (net : Net) (a : List Net) (k : Nat), (∀ s ∈ a, s.length ≤ k) → ∀ s ∈ net.foldl (fun found p => found ++ found.map (· ++ [p])) a, s.length ≤ k + net.length
  | [], a, k, h => h
  | p :: net, a, k, h => by
    intro s hs
    have := foldl_le net (a ++ a.map (· ++ [p])) (k + 1) (fun s hs => by
      rcases List.mem_append.mp hs with hs | hs
      · have := h s hs; omega
      · obtain ⟨s', h1, rfl⟩ := List.mem_map.mp hs
        have := h s' h1; simp; omega) s hs
    simp only [List.length_cons]; omega
theorem parts_le {net s : Net} (h : s ∈ partsOf net) : s.length ≤ net.length := by
  have := foldl_le net [[]] 0 (by simp) s h
  omega
/-- does it sort, by rows of bits -/
def sortsB (m : Nat) (net : Net) : Bool := (bitRows m).all fun r => ascB (runL net r)
theorem fuV_none (m : Nat) (net : Net) : (fuV m net = none) ↔ sortsB m net = true := by
  unfold fuV sortsB
  rw [List.find?_eq_none, List.all_eq_true]
  simp
/-- the least length of a part that sorts -/
def IsFew (m : Nat) (net : Net) : Option Nat → Prop
  | some k => (∃ s ∈ partsOf net, s.length = k ∧ sortsB m s = true) ∧ ∀ s ∈ partsOf net, sortsB m s = true → k ≤ s.length
  | none => ∀ s ∈ partsOf net, sortsB m s = false
theorem isFew_one {m : Nat} {net : Net} {a b : Option Nat} (ha : IsFew m net a) (hb : IsFew m net b) : a = b := by
  cases a with
  | none =>
    cases b with
    | none => rfl
    | some k =>
      obtain ⟨⟨s, h1, _, h3⟩, _⟩ := hb
      have h : sortsB m s = false := ha s h1
      rw [h] at h3; cases h3
  | some j =>
    cases b with
    | none =>
      obtain ⟨⟨s, h1, _, h3⟩, _⟩ := ha
      have h : sortsB m s = false := hb s h1
      rw [h] at h3; cases h3
    | some k =>
      obtain ⟨⟨s, h1, h2, h3⟩, h4⟩ := ha
      obtain ⟨⟨t, k1, k2, k3⟩, k4⟩ := hb
      have := h4 t k1 k3
      have := k4 s h1 h3
      congr 1; omega
/-! the program's -/
def partsD (ps : List Net) : D := .list (ps.map netD)
def poB : SDen := (sSeq (sExpr (dMut 1 extD (dCons (dLc (dSeq (dPrimL listD (dCons (dVar 1) dNil))) (.nm 3) dYes (dLst (dStar (dVar 3) (dCons (dVar 2) dNil))) [3]) dNil))) sNop)
theorem po_body {ps : List Net} {a : Option D} {p : Nat × Nat} {S : SS} (hz : 2 * ps.length ≤ sizeLine) (hs : ∀ s ∈ ps, s.length + 1 ≤ sizeLine) :
    poB [a, some (partsD ps), some (tupP p), none] S = .nx [a, some (partsD (ps ++ ps.map (· ++ [p]))), some (tupP p), none] S := by
  have e1 : (dLc (dSeq (dPrimL listD (dCons (dVar 1) dNil))) (.nm 3) dYes (dLst (dStar (dVar 3) (dCons (dVar 2) dNil))) [3]) [a, some (partsD ps), some (tupP p), none] S = .ok (.list (ps.map fun s => netD (s ++ [p]))) [a, some (partsD ps), some (tupP p), none] S := by
    refine dLc_eq (dSeq_eq (dPrimL1 (dVar_eq rfl) rfl)) (by simp; omega) (lcL_map (l := ps) netD (fun s => netD (s ++ [p])) fun s hsm => ⟨[a, some (partsD ps), some (tupP p), some (netD s)], rfl, ?_⟩)
    have := hs s hsm
    simp [dLst, dStar, dVar, dCons, dNil, optR, seqD, netD, Res.bind, this]
  have e2 := dCons1 e1
  have z : (ps.map netD).length + (ps.map fun s => netD (s ++ [p])).length ≤ sizeLine := by simp; omega
  have e3 : extD (ps.map netD) [.list (ps.map fun s => netD (s ++ [p]))] = some (ps.map netD ++ ps.map fun s => netD (s ++ [p]), .none) := by rw [extD, if_pos z]
  have e4 : ps.map netD ++ (ps.map fun s => netD (s ++ [p])) = (ps ++ ps.map (· ++ [p])).map netD := by simp
  rw [e4] at e3
  have o : ownL 1 [a, some (partsD ps), some (tupP p), none] = some (ps.map netD) := rfl
  refine (sSeq_nx (sExpr_eq (dMut_eq o e2 e3))).trans ?_
  rfl
theorem po_loop {net : Net} {S : SS} (hn : net.length ≤ 20) : ∃ x, forL (.nm 2) poB (net.map tupP) [some (netD net), some (partsD [[]]), none, none] S = .nx [some (netD net), some (partsD (partsOf net)), x, none] S := by
  have hs : (2 : Nat) ^ 21 ≤ sizeLine := by decide
  have h1 : ∀ l r : Net, net = l ++ r → ∀ x, ∃ x', forL (.nm 2) poB (r.map tupP) [some (netD net), some (partsD (partsOf l)), x, none] S = .nx [some (netD net), some (partsD (partsOf net)), x', none] S := by
    intro l r
    induction r generalizing l with
    | nil => intro e x; simp at e; subst e; exact ⟨x, rfl⟩
    | cons p r ih =>
      intro e x
      obtain ⟨x', ih'⟩ := ih (l ++ [p]) (by simp [e]) (some (tupP p))
      refine ⟨x', ?_⟩
      rw [List.map_cons]
      unfold forL
      rw [show bindT (.nm 2) (tupP p) [some (netD net), some (partsD (partsOf l)), x, none] = some [some (netD net), some (partsD (partsOf l)), some (tupP p), none] from rfl]
      have hl : l.length + 1 ≤ 20 := by
        have := congrArg List.length e
        simp at this; omega
      have hp : 2 ^ l.length ≤ 2 ^ 19 := Nat.pow_le_pow_right (by decide) (by omega)
      have b := po_body (ps := partsOf l) (a := some (netD net)) (p := p) (S := S) (by rw [parts_len]; omega) (fun s hs => by have := parts_le hs; omega)
      simp only [b]
      rw [← partsOf_snoc]; exact ih'
  exact h1 [] net rfl none
def leLen (a b : Net) : Bool := decide ((a.length : Int) ≤ b.length)
theorem sortLen_nets (ps : List Net) : sortLen (ps.map netD) = (ps.mergeSort leLen).map netD := by
  unfold sortLen
  have e : ∀ s : Net, lenN (netD s) = s.length := fun s => by simp [lenN, lenOf, netD]
  exact (List.map_mergeSort (f := netD) (r := leLen) (s := fun a b => decide ((lenN a : Int) ≤ lenN b)) (by intro a _ b _; simp [e, leLen])).symm
theorem parts_eq {net : Net} {S : SS} (hn : net.length ≤ 20) : D_parts_of_net [netD net] S = .ok (partsD ((partsOf net).mergeSort leLen)) [] S := by
  obtain ⟨x, e⟩ := po_loop (S := S) hn
  refine defD_rt (show b_parts_of_net [some (netD net), none, none, none] S = _ from ?_)
  show (sSeq (sAsg (dLst (dCons (dLst dNil) dNil)) (.nm 1)) (sSeq (sFor (dSeq (dVar 0)) (.nm 2) poB) (sSeq (sRet (dSortLen (dVar 1))) sNop))) _ _ = _
  rw [sSeq_nx (sAsg_eq (ρ2 := [some (netD net), some (partsD [[]]), none, none]) (dLst_eq (dCons1 dLst_nil) l1) rfl)]
  rw [sSeq_nx ((sFor_eq (dSeq_eq (dVar_eq rfl))).trans e)]
  refine sSeq_rt (sRet_eq ?_)
  have h : sortLenD (partsD (partsOf net)) = some (((partsOf net).mergeSort leLen).map netD) := by
    have a : ((partsOf net).map netD).all (fun d => (lenOf d).isSome) = true := by
      rw [List.all_eq_true]
      intro d hd
      obtain ⟨s, _, rfl⟩ := List.mem_map.mp hd
      rfl
    rw [partsD, sortLenD, if_pos a, sortLen_nets]
  simp [dSortLen, dVar, optR, Res.bind, h]
  rfl
theorem mem_sorted {ps : List Net} {s : Net} : s ∈ ps.mergeSort leLen ↔ s ∈ ps := (List.mergeSort_perm _ _).mem_iff
theorem find_few {m : Nat} {net : Net} : IsFew m net ((((partsOf net).mergeSort leLen).find? (sortsB m)).map List.length) := by
  have hp : ((partsOf net).mergeSort leLen).Pairwise fun a b => leLen a b = true := List.pairwise_mergeSort (by intro a b c; simp [leLen]; omega) (by intro a b; simp [leLen]; omega) _
  cases q : ((partsOf net).mergeSort leLen).find? (sortsB m) with
  | none =>
    intro s hs
    have := List.find?_eq_none.mp q s (mem_sorted.mpr hs)
    simpa using this
  | some t =>
    obtain ⟨h1, as, bs, e, h2⟩ := List.find?_eq_some_iff_append.mp q
    refine ⟨⟨t, mem_sorted.mp (by rw [e]; simp), rfl, h1⟩, fun s hs hsb => ?_⟩
    have hs := mem_sorted.mpr hs
    rw [e] at hs hp
    rcases List.mem_append.mp hs with hs | hs
    · have := h2 s hs; simp [hsb] at this
    · rcases List.mem_cons.mp hs with rfl | hs
      · exact Nat.le_refl _
      · have := (List.pairwise_cons.mp (List.pairwise_append.mp hp).2.1).1 s hs
        simpa [leLen] using this
def optN : Option Nat → D
  | some k => .int (k : Int)
  | none => .none
theorem fewest_left_eq {m : Nat} {net : Net} {d : D} {S : SS} (hm : 0 < m ∧ m ≤ 6) (h : NetArg net d) (g : Good m net) (hn : net.length ≤ 20) : ∃ o, IsFew m net o ∧ D_fewest_left [.int m, d] S = .ok (optN o) [] S := by
  have l20 : 20 < sizeLine := by decide
  refine ⟨_, find_few, ?_⟩
  refine defD_rt (show b_fewest_left [some (.int m), some d, none] S = _ from ?_)
  rw [b_fewest_left]
  have it : (dSeq (dCall D_parts_of_net (dCons (dCall D_check_net (dCons (dVar 0) (dCons (dVar 1) dNil))) dNil))) [some (.int m), some d, none] S = .ok (((partsOf net).mergeSort leLen).map netD) [some (.int m), some d, none] S :=
    dSeq_eq (dCall_eq (dCons1 (checkE hm.1 h g (by omega) (dVar_eq rfl) (dVar_eq rfl))) (parts_eq hn))
  obtain ⟨f1, f2⟩ := forL_find (t := .nm 2) (body := (sSeq (sIf (dCmp isD (dCall D_first_unsorted (dCons (dVar 0) (dCons (dVar 2) dNil))) (dC .none)) (sSeq (sRet (dPrim lenD (dCons (dVar 2) dNil))) sNop) sNop) sNop)) (S := S) netD (sortsB m) (fun s : Net => .int (s.length : Int)) (fun ρ => ∃ x, ρ = [some (.int m), some d, x]) (l := (partsOf net).mergeSort leLen) (ρ := [some (.int m), some d, none]) (fun s hs ρ ⟨x, hx⟩ => by
    subst hx
    have hs := mem_sorted.mp hs
    have gs := parts_good g hs
    have ls := parts_le hs
    have i : isD (optD (fuV m s)) .none = some (sortsB m s) := by
      cases q : fuV m s with
      | none => rw [(fuV_none m s).mp q]; rfl
      | some r =>
        have : sortsB m s = false := by
          rw [← Bool.not_eq_true]
          intro z
          rw [(fuV_none m s).mpr z] at q; cases q
        rw [this]; rfl
    have c : (dCmp isD (dCall D_first_unsorted (dCons (dVar 0) (dCons (dVar 2) dNil))) (dC .none)) [some (.int m), some d, some (netD s)] S = .ok (sortsB m s) [some (.int m), some d, some (netD s)] S :=
      dCmp_eq (dCall_eq (dCons2 (dVar_eq rfl) (dVar_eq rfl)) (first_unsorted_eq hm.2 gs (by omega))) rfl i
    refine ⟨[some (.int m), some d, some (netD s)], rfl, fun hp => ?_, fun hp => ⟨[some (.int m), some d, some (netD s)], ?_, _, rfl⟩⟩
    · simp only [hp] at c
      refine sSeq_rt ?_
      rw [sIf_eq c, if_pos rfl]
      refine sSeq_rt (sRet_eq (dPrim1 (dVar_eq rfl) ?_))
      simp [netD, lenD]
    · simp only [hp] at c
      rw [sSeq_nx (ρ1 := [some (.int m), some d, some (netD s)]) (S1 := S) (by rw [sIf_eq c, if_neg (by simp)]; rfl)]
      rfl) ⟨none, rfl⟩
  cases q : ((partsOf net).mergeSort leLen).find? (sortsB m) with
  | some r => exact sSeq_rt ((sFor_eq it).trans (f1 r q))
  | none =>
    obtain ⟨ρ', e, _⟩ := f2 q
    rw [sSeq_nx ((sFor_eq it).trans e)]
    rfl
end K72

namespace K72
open PySem L2 PD
def lo (r : List Int) (p : Nat × Nat) : Int := if r.getD p.2 0 < r.getD p.1 0 then r.getD p.2 0 else r.getD p.1 0
def hi (r : List Int) (p : Nat × Nat) : Int := if r.getD p.2 0 < r.getD p.1 0 then r.getD p.1 0 else r.getD p.2 0
theorem sorted2 (r : List Int) (p : Nat × Nat) : sortedD [.list [.int (r.getD p.1 0), .int (r.getD p.2 0)]] = some [.int (lo r p), .int (hi r p)] := by
  have e : intsD [.int (r.getD p.1 0), .int (r.getD p.2 0)] = some [r.getD p.1 0, r.getD p.2 0] := rfl
  show Option.map (fun ns => (sortI ns).map PyData.int) (intsD [.int (r.getD p.1 0), .int (r.getD p.2 0)]) = _
  rw [e]
  simp only [Option.map_some, sort2, lo, hi]
  split <;> rfl
theorem exch_eq (r : List Int) (p : Nat × Nat) : (r.set p.1 (lo r p)).set p.2 (hi r p) = exch r p := by
  unfold exch moves lo hi
  by_cases h : r.getD p.2 0 < r.getD p.1 0
  · rw [if_pos h, if_pos h, if_pos (by rw [decide_eq_true h])]
  · rw [if_neg h, if_neg h, if_neg (by rw [decide_eq_false h]; simp), set_self, set_self]
def lrB : SDen := (sSeq (sAsgA (dPrimL sortedD (dCons (dLst (dCons (dBin ixD (dVar 2) (dVar 3)) (dCons (dBin ixD (dVar 2) (dVar 4)) dNil))) dNil)) (aTup 2 (aCons (aSub 2 (dVar 3)) (aCons (aSub 2 (dVar 4)) aNil)))) sNop)
theorem lr_body {r : List Int} {p : Nat × Nat} {a b : Option D} {S : SS} (h1 : p.1 < r.length) (h2 : p.2 < r.length) :
    lrB [a, b, some (rowD r), some (.int p.1), some (.int p.2)] S = .nx [a, b, some (rowD (exch r p)), some (.int p.1), some (.int p.2)] S := by
  have e1 := ix_row h1
  have e2 := ix_row h2
  have c : (dPrimL sortedD (dCons (dLst (dCons (dBin ixD (dVar 2) (dVar 3)) (dCons (dBin ixD (dVar 2) (dVar 4)) dNil))) dNil)) [a, b, some (rowD r), some (.int p.1), some (.int p.2)] S = .ok (.list [.int (lo r p), .int (hi r p)]) [a, b, some (rowD r), some (.int p.1), some (.int p.2)] S :=
    dPrimL1 (dLst_eq (dCons2 (dBin_eq (dVar_eq rfl) (dVar_eq rfl) e1) (dBin_eq (dVar_eq rfl) (dVar_eq rfl) e2)) l2) (sorted2 r p)
  rw [← exch_eq]
  have i1 : ixN r.length (p.1 : Int) = some p.1 := ixN_nat h1
  have i2 : ixN r.length (p.2 : Int) = some p.2 := ixN_nat h2
  refine (sSeq_nx (sAsgA_eq c (aTup2_list (aSub_eq (xs := r.map PyData.int) rfl (dVar_eq rfl) (by rw [List.length_map]; exact i1)) (aSub_eq (xs := (r.map PyData.int).set p.1 (.int (lo r p))) rfl (dVar_eq rfl) (by rw [List.length_set, List.length_map]; exact i2))))).trans ?_
  simp [sNop, rowD, List.map_set]
theorem law_run_eq {m : Nat} {net : Net} {r : List Int} {S : SS} (hr : r.length = m) (g : Good m net) : D__law_run [netD net, rowD r] S = .ok (rowD (runL net r)) [] S := by
  refine defD_rt (show b__law_run [some (netD net), some (rowD r), none, none, none] S = _ from ?_)
  show (sSeq (sAsg (dPrimL listD (dCons (dVar 1) dNil)) (.nm 2)) (sSeq (sFor (dSeq (dVar 0)) (.tup [(.nm 3), (.nm 4)]) lrB) (sSeq (sRet (dVar 2)) sNop))) _ _ = _
  rw [sSeq_nx (sAsg_eq (ρ2 := [some (netD net), some (rowD r), some (rowD r), none, none]) (dPrimL1 (dVar_eq rfl) (listD_list (r.map PyData.int))) rfl)]
  obtain ⟨ρ', e, x, y, rfl⟩ := forL_map (t := .tup [(.nm 3), (.nm 4)]) (body := lrB) (S := S) tupP (fun pre ρ => ∃ x y, ρ = [some (netD net), some (rowD r), some (rowD (runL pre r)), x, y]) (l := net) (pre := []) (ρ := [some (netD net), some (rowD r), some (rowD r), none, none]) (fun pre p ρ hp ⟨x, y, hx⟩ => by
    subst hx
    obtain ⟨g1, g2⟩ := g p hp
    have hl : (runL pre r).length = m := by rw [runL_length, hr]
    refine ⟨[some (netD net), some (rowD r), some (rowD (runL pre r)), some (.int p.1), some (.int p.2)], by simp [bindT, bindTs, tupP], _, lr_body (by omega) (by omega), some (.int p.1), some (.int p.2), ?_⟩
    rw [runL_snoc]) ⟨none, none, rfl⟩
  rw [sSeq_nx ((sFor_eq (dSeq_eq (dVar_eq rfl))).trans e)]
  exact sSeq_rt (sRet_eq (dVar_eq rfl))
/-! the law's rows of bits -/
def lbI : SDen := (sSeq (sExpr (dMut 3 extD (dCons (dLst (dCons (dBin addD (dVar 4) (dLst (dCons (dC (.int 0)) dNil))) (dCons (dBin addD (dVar 4) (dLst (dCons (dC (.int 1)) dNil))) dNil))) dNil))) sNop)
def lbB : SDen := (sSeq (sAsg (dLst dNil) (.nm 3)) (sSeq (sFor (dSeq (dVar 1)) (.nm 4) lbI) (sSeq (sAsg (dVar 3) (.nm 1)) sNop)))
def longer (rs : List (List Int)) : List (List Int) := rs.flatMap fun r => [r ++ [0], r ++ [1]]
theorem longer_len (rs : List (List Int)) : (longer rs).length = 2 * rs.length := by
  unfold longer
  induction rs with
  | nil => rfl
  | cons a l ih => rw [List.flatMap_cons, List.length_append, ih, List.length_cons, List.length_cons, List.length_cons, List.length_nil]; omega
theorem addD_row (r : List Int) (x : Int) (h : r.length + 1 ≤ sizeLine) : addD (rowD r) (.list [.int x]) = some (rowD (r ++ [x])) := by
  simp [addD, rowD, h]
theorem lb_inner {rs : List (List Int)} {a b c e : Option D} {S : SS} (hr : ∀ r ∈ rs, r.length + 1 ≤ sizeLine) (hz : 2 * rs.length ≤ sizeLine) :
    ∃ x, forL (.nm 4) lbI (rs.map rowD) [a, b, c, some (.list []), e] S = .nx [a, b, c, some (rowsD (longer rs)), x] S := by
  have h1 : ∀ l q : List (List Int), rs = l ++ q → ∀ e, ∃ x, forL (.nm 4) lbI (q.map rowD) [a, b, c, some (rowsD (longer l)), e] S = .nx [a, b, c, some (rowsD (longer rs)), x] S := by
    intro l q
    induction q generalizing l with
    | nil => intro h e; simp at h; subst h; exact ⟨e, rfl⟩
    | cons r q ih =>
      intro h e
      have hm : r.length + 1 ≤ sizeLine := hr r (by rw [h]; simp)
      have hl : l.length + 1 ≤ rs.length := by rw [h]; simp
      have a1 := addD_row r 0 hm
      have a2 := addD_row r 1 hm
      obtain ⟨x, ih'⟩ := ih (l ++ [r]) (by simp [h]) (some (rowD r))
      refine ⟨x, ?_⟩
      rw [List.map_cons]
      unfold forL
      rw [show bindT (.nm 4) (rowD r) [a, b, c, some (rowsD (longer l)), e] = some [a, b, c, some (rowsD (longer l)), some (rowD r)] from rfl]
      have z : ((longer l).map rowD).length + [rowD (r ++ [0]), rowD (r ++ [1])].length ≤ sizeLine := by
        rw [List.length_map, longer_len, List.length_cons, List.length_cons, List.length_nil]; omega
      have st : lbI [a, b, c, some (rowsD (longer l)), some (rowD r)] S = .nx [a, b, c, some (rowsD (longer (l ++ [r]))), some (rowD r)] S := by
        have e1 : (dLst (dCons (dBin addD (dVar 4) (dLst (dCons (dC (.int 0)) dNil))) (dCons (dBin addD (dVar 4) (dLst (dCons (dC (.int 1)) dNil))) dNil))) [a, b, c, some (rowsD (longer l)), some (rowD r)] S = .ok (.list [rowD (r ++ [0]), rowD (r ++ [1])]) [a, b, c, some (rowsD (longer l)), some (rowD r)] S :=
          dLst_eq (dCons2 (dBin_eq (dVar_eq rfl) (dLst_eq (dCons1 rfl) l1) a1) (dBin_eq (dVar_eq rfl) (dLst_eq (dCons1 rfl) l1) a2)) l2
        have e2 : extD ((longer l).map rowD) [.list [rowD (r ++ [0]), rowD (r ++ [1])]] = some ((longer l).map rowD ++ [rowD (r ++ [0]), rowD (r ++ [1])], .none) := by rw [extD, if_pos z]
        refine (sSeq_nx (sExpr_eq (dMut_eq (xs := (longer l).map rowD) rfl (dCons1 e1) e2))).trans ?_
        simp [sNop, rowsD, longer]
      simp only [st]
      exact ih'
  exact h1 [] rs rfl e
theorem lb_body {rs : List (List Int)} {a b c e : Option D} {S : SS} (hr : ∀ r ∈ rs, r.length + 1 ≤ sizeLine) (hz : 2 * rs.length ≤ sizeLine) :
    ∃ x y, lbB [a, some (rowsD rs), b, c, e] S = .nx [a, some (rowsD (longer rs)), b, x, y] S := by
  obtain ⟨x, h⟩ := lb_inner (a := a) (b := some (rowsD rs)) (c := b) (e := e) (S := S) hr hz
  refine ⟨_, x, (sSeq_nx (sAsg_eq (ρ2 := [a, some (rowsD rs), b, some (.list []), e]) dLst_nil rfl)).trans ((sSeq_nx ((sFor_eq (dSeq_eq (dVar_eq rfl))).trans h)).trans ((sSeq_nx (sAsg_eq (dVar_eq rfl) rfl)).trans rfl))⟩
theorem law_bits_eq {m : Nat} {S : SS} (hm : m ≤ 6) : D__law_bit_rows [.int m] S = .ok (rowsD (bitRows m)) [] S := by
  refine defD_rt (show b__law_bit_rows [some (.int m), none, none, none, none] S = _ from ?_)
  show (sSeq (sAsg (dLst (dCons (dLst dNil) dNil)) (.nm 1)) (sSeq (sFor (dIt rng1D (dCons (dVar 0) dNil)) (.nm 2) lbB) (sSeq (sRet (dVar 1)) sNop))) _ _ = _
  rw [sSeq_nx (sAsg_eq (ρ2 := [some (.int m), some (rowsD (bitRows 0)), none, none, none]) (dLst_eq (dCons1 dLst_nil) l1) rfl)]
  have hn : (rangeD 0 m).length = m := range_len m
  obtain ⟨ρ', S', e, x, y, z, hρ, hS⟩ := forL_inv (t := .nm 2) (body := lbB) (ds := rangeD 0 m) (ρ := [some (.int m), some (rowsD (bitRows 0)), none, none, none]) (S := S)
    (fun i ρ S' => ∃ x y z, ρ = [some (.int m), some (rowsD (bitRows i)), x, y, z] ∧ S' = S) (fun i d ρ S2 hd ⟨x, y, z, hρ, hS⟩ => by
      subst hρ hS
      have hi : i < m := (range_get hd).1
      have h1 := pow6 (i := i) (by omega)
      have h2 := l64
      obtain ⟨u, v, e⟩ := lb_body (rs := bitRows i) (a := some (.int m)) (b := some d) (c := y) (e := z) (S := S2) (fun r hr => by rw [(bitRows_mem.mp hr).1]; omega) (by
        rw [bitRows_len]
        have := pow6 (i := i + 1) (by omega)
        rw [Nat.pow_succ] at this; omega)
      exact ⟨[some (.int m), some (rowsD (bitRows i)), some d, y, z], rfl, _, _, .inl e, some d, u, v, rfl, rfl⟩) ⟨none, none, none, rfl, rfl⟩
  subst hS
  rw [hn] at hρ
  subst hρ
  rw [sSeq_nx ((sFor_eq (dIt_rng1 (m := m) (dVar_eq rfl) (by omega))).trans e)]
  exact sSeq_rt (sRet_eq (dVar_eq rfl))
end K72

namespace K72
open PySem L2 PD
theorem eqv_rows (a b : List Int) : PyData.eqv (rowD a) (rowD b) = decide (a = b) := by
  have h : ∀ a b : List Int, PyData.eqvAll (a.map PyData.int) (b.map PyData.int) = decide (a = b) := by
    intro a
    induction a with
    | nil => intro b; cases b <;> simp [PyData.eqvAll]
    | cons x a ih =>
      intro b
      cases b with
      | nil => simp [PyData.eqvAll]
      | cons y b => simp [PyData.eqvAll, PyData.eqv, ih]; by_cases h : x = y <;> simp [h]
  simp [rowD, PyData.eqv, h]
theorem eqD_rows (a b : List Int) : eqD (rowD a) (rowD b) = some (decide (a = b)) := by
  have e : eqD (rowD a) (rowD b) = if SeqAt.shaped (rowD a) && SeqAt.shaped (rowD b) then some (PyData.eqv (rowD a) (rowD b)) else none := rfl
  rw [e, eqv_rows, rowD, rowD, shaped_ints, shaped_ints]; rfl
theorem shaped_rows (rs : List (List Int)) : SeqAt.shaped (rowsD rs) = true := by
  have h0 : ∀ r : List Int, PyData.canLay0 (rowD r) = true ∧ PyData.depth (rowD r) ≤ 1 := by
    intro r
    have := shaped_ints r
    have h1 : PyData.canLayAll0 (r.map PyData.int) = true := by
      induction r with
      | nil => rfl
      | cons n ns ih => simp [PyData.canLayAll0, PyData.canLay0, ih (shaped_ints ns)]
    have h2 : PyData.depthAll (r.map PyData.int) = 0 := by
      clear this h1
      induction r with
      | nil => rfl
      | cons n ns ih => simp [PyData.depthAll, PyData.depth, ih]
    simp [rowD, PyData.canLay0, PyData.depth, h1, h2]
  have h1 : PyData.canLayAll0 (rs.map rowD) = true := by
    induction rs with
    | nil => rfl
    | cons n ns ih => simp [PyData.canLayAll0, (h0 n).1, ih]
  have h2 : PyData.depthAll (rs.map rowD) ≤ 1 := by
    clear h1
    induction rs with
    | nil => simp [PyData.depthAll]
    | cons n ns ih =>
      have := (h0 n).2
      simp only [List.map_cons, PyData.depthAll]; omega
  have h3 : PyData.depth (rowsD rs) ≤ 2 := by
    simp only [rowsD, PyData.depth]; omega
  have h4 : PyData.canLay0 (rowsD rs) = true := by simpa [rowsD, PyData.canLay0] using h1
  simp [SeqAt.shaped, h4]
  omega
theorem eqD_rows_nil (rs : List (List Int)) : eqD (rowsD rs) (.list []) = some rs.isEmpty := by
  have e : eqD (rowsD rs) (.list []) = if SeqAt.shaped (rowsD rs) && SeqAt.shaped (.list []) then some (PyData.eqv (rowsD rs) (.list [])) else none := rfl
  have h2 : SeqAt.shaped (.list []) = true := shaped_rows []
  rw [e, shaped_rows, h2]
  cases rs <;> simp [rowsD, PyData.eqv, PyData.eqvAll]
theorem sortedD_row (r : List Int) : sortedD [rowD r] = some ((sortI r).map PyData.int) := by
  show Option.map (fun ns => (sortI ns).map PyData.int) (intsD (r.map PyData.int)) = _
  rw [intsD_map]; rfl
def unsF (m : Nat) (net : Net) : List (List Int) := (bitRows m).filter fun r => !ascB (runL net r)
theorem unsF_empty (m : Nat) (net : Net) : (unsF m net).isEmpty = sortsB m net := by
  unfold unsF sortsB
  rw [Bool.eq_iff_iff, List.isEmpty_iff, List.filter_eq_nil_iff, List.all_eq_true]
  simp
theorem unsorted_eq {m : Nat} {net : Net} {S : SS} (hm : m ≤ 6) (g : Good m net) : D__law_unsorted [.int m, netD net] S = .ok (rowsD (unsF m net)) [] S := by
  refine defD_rt (show b__law_unsorted [some (.int m), some (netD net), none] S = _ from ?_)
  rw [b__law_unsorted]
  refine sSeq_rt (sRet_eq (dLc_eq (dSeq_eq (dCall_eq (dCons1 (dVar_eq rfl)) (law_bits_eq hm))) ?_ (lcL_fmap rowD (fun r => !ascB (runL net r)) rowD (l := bitRows m) fun r hr => ⟨[some (.int m), some (netD net), some (rowD r)], rfl, ?_, fun _ => dVar_eq rfl⟩)))
  · rw [List.length_map, bitRows_len]
    have := pow6 hm
    have := l64
    omega
  · have hl := (bitRows_mem.mp hr).1
    refine dCmp_eq (dCall_eq (dCons2 (dVar_eq rfl) (dVar_eq rfl)) (law_run_eq hl g)) (dPrimL1 (dVar_eq rfl) (sortedD_row r)) ?_
    show neD (rowD (runL net r)) (rowD (sortI r)) = _
    have h := sortI_eq (runL_perm hl g)
    unfold neD
    rw [eqD_rows]
    simp only [Option.map_some]
    congr 2
    rw [Bool.eq_iff_iff]
    simp [h]
end K72

namespace K72
open PySem L2 PD
/-- a dict of flags -/
def kdL (n : Nat) (F : Nat → Bool) : List (D × D) := (List.range n).map fun (k : Nat) => (PyData.int (k : Int), PyData.bool (F k))
theorem kd_has {n k : Nat} {F : Nat → Bool} : hasK (kdL n F) (.inl (k : Int)) = decide (k < n) := by
  unfold hasK kdL
  rw [Bool.eq_iff_iff, List.any_eq_true]
  constructor
  · rintro ⟨p, hp, h⟩
    obtain ⟨j, hj, rfl⟩ := List.mem_map.mp hp
    simp [keyOf] at h
    have : j < n := by simpa using hj
    simp; omega
  · intro h
    exact ⟨_, List.mem_map.mpr ⟨k, by simpa using h, rfl⟩, by simp [keyOf]⟩
theorem kd_get {n k : Nat} {F : Nat → Bool} (h : k < n) : getK (kdL n F) (.inl (k : Int)) = some (.bool (F k)) := by
  unfold getK kdL
  rw [List.find?_map]
  have e : (List.range n).find? ((fun p : D × D => decide (keyOf p.1 = some (.inl (k : Int)))) ∘ fun (j : Nat) => (PyData.int (j : Int), PyData.bool (F j))) = some k := by
    rw [List.find?_range_eq_some]
    refine ⟨by simp [keyOf], by simpa using h, fun j hj => ?_⟩
    simp [keyOf]
    omega
  rw [e]; rfl
theorem kd_put {n k : Nat} {F : Nat → Bool} (h : k < n) : putD (kdL n F) (.inl (k : Int)) (.bool true) = kdL n fun j => F j || j == k := by
  unfold putD
  rw [kd_has, if_pos (by simpa using h)]
  unfold kdL
  rw [List.map_map]
  apply List.map_congr_left
  intro j _
  by_cases hj : j = k
  · subst hj; simp [keyOf]
  · have h2 : (j == k) = false := by simpa using hj
    have h3 : ¬ (j : Int) = (k : Int) := by omega
    simp [keyOf, h2, h3, hj]
theorem kd_new (n : Nat) : dictPD (.list ((List.range n).map fun (k : Nat) => .tuple [.int (k : Int), .bool false])) = some (kdL n fun _ => false) := by
  have h1 : ∀ l : List Nat, pairsD (l.map fun (k : Nat) => PyData.tuple [.int (k : Int), .bool false]) = some (l.map fun (k : Nat) => ((Sum.inl (k : Int) : Key), PyData.bool false)) := by
    intro l
    induction l with
    | nil => rfl
    | cons a l ih => simp [pairsD, keyOf, ih]
  have h2 : mergeD [] ((List.range n).map fun (k : Nat) => ((Sum.inl (k : Int) : Key), PyData.bool false)) = kdL n fun _ => false := by
    induction n with
    | zero => rfl
    | succ n ih =>
      unfold mergeD at ih ⊢
      rw [List.range_succ, List.map_append, List.foldl_append, ih]
      show putD (kdL n fun _ => false) (.inl (n : Int)) (.bool false) = _
      unfold putD
      rw [kd_has, if_neg (by simp)]
      simp [kdL, List.range_succ, keyD]
  show Option.map (mergeD []) (pairsD _) = _
  rw [h1, Option.map_some, h2]
def kdD (n : Nat) (F : Nat → Bool) : D := .dict (kdL n F)
theorem kd_ext {n : Nat} {F G : Nat → Bool} (h : ∀ k, k < n → F k = G k) : kdD n F = kdD n G := by
  unfold kdD kdL
  congr 1
  apply List.map_congr_left
  intro k hk
  rw [h k (by simpa using hk)]
def lnI : SDen := (sSeq (sIf (dCmp ltD (dBin ixD (dVar 4) (dVar 7)) (dBin ixD (dVar 4) (dVar 6))) (sSeq (sDput 2 (dC (.bool true)) (dVar 5)) sNop) sNop) (sSeq (sAsgA (dPrimL sortedD (dCons (dLst (dCons (dBin ixD (dVar 4) (dVar 6)) (dCons (dBin ixD (dVar 4) (dVar 7)) dNil))) dNil)) (aTup 2 (aCons (aSub 4 (dVar 6)) (aCons (aSub 4 (dVar 7)) aNil)))) sNop))
def lnB : SDen := (sSeq (sAsg (dPrimL listD (dCons (dVar 3) dNil)) (.nm 4)) (sSeq (sFor (dIt enumA (dCons (dVar 1) dNil)) (.tup [(.nm 5), (.tup [(.nm 6), (.nm 7)])]) lnI) sNop))
theorem ln_body {r : List Int} {p : Nat × Nat} {n k : Nat} {F : Nat → Bool} {a b c : Option D} {S : SS} (h1 : p.1 < r.length) (h2 : p.2 < r.length) (hk : k < n) (hn : n < 1000) :
    lnI [a, b, some (kdD n F), c, some (rowD r), some (.int k), some (.int p.1), some (.int p.2)] S = .nx [a, b, some (kdD n fun j => F j || (moves r p && j == k)), c, some (rowD (exch r p)), some (.int k), some (.int p.1), some (.int p.2)] S := by
  have e1 := ix_row h1
  have e2 := ix_row h2
  have hz : (kdL n F).length < sizeLine := by
    have : 1000 ≤ sizeLine := by decide
    simp [kdL]; omega
  have hc : (dCmp ltD (dBin ixD (dVar 4) (dVar 7)) (dBin ixD (dVar 4) (dVar 6))) [a, b, some (kdD n F), c, some (rowD r), some (.int k), some (.int p.1), some (.int p.2)] S = .ok (moves r p) [a, b, some (kdD n F), c, some (rowD r), some (.int k), some (.int p.1), some (.int p.2)] S :=
    dCmp_eq (dBin_eq (dVar_eq rfl) (dVar_eq rfl) e2) (dBin_eq (dVar_eq rfl) (dVar_eq rfl) e1) rfl
  have st : (sIf (dCmp ltD (dBin ixD (dVar 4) (dVar 7)) (dBin ixD (dVar 4) (dVar 6))) (sSeq (sDput 2 (dC (.bool true)) (dVar 5)) sNop) sNop) [a, b, some (kdD n F), c, some (rowD r), some (.int k), some (.int p.1), some (.int p.2)] S = .nx [a, b, some (kdD n fun j => F j || (moves r p && j == k)), c, some (rowD r), some (.int k), some (.int p.1), some (.int p.2)] S := by
    rw [sIf_eq hc]
    cases hm : moves r p with
    | true =>
      have pt := kd_put (F := F) hk
      simp [sSeq, sDput, dC, dVar, ownK, kdD, optR, keyOf, hz, Res.sr, sNop, pt]
    | false =>
      simp [sNop]
  have cs : (dPrimL sortedD (dCons (dLst (dCons (dBin ixD (dVar 4) (dVar 6)) (dCons (dBin ixD (dVar 4) (dVar 7)) dNil))) dNil)) [a, b, some (kdD n fun j => F j || (moves r p && j == k)), c, some (rowD r), some (.int k), some (.int p.1), some (.int p.2)] S = .ok (.list [.int (lo r p), .int (hi r p)]) [a, b, some (kdD n fun j => F j || (moves r p && j == k)), c, some (rowD r), some (.int k), some (.int p.1), some (.int p.2)] S :=
    dPrimL1 (dLst_eq (dCons2 (dBin_eq (dVar_eq rfl) (dVar_eq rfl) e1) (dBin_eq (dVar_eq rfl) (dVar_eq rfl) e2)) l2) (sorted2 r p)
  rw [← exch_eq]
  have i1 : ixN r.length (p.1 : Int) = some p.1 := ixN_nat h1
  have i2 : ixN r.length (p.2 : Int) = some p.2 := ixN_nat h2
  refine (sSeq_nx st).trans ((sSeq_nx (sAsgA_eq cs (aTup2_list (aSub_eq (xs := r.map PyData.int) rfl (dVar_eq rfl) (by rw [List.length_map]; exact i1)) (aSub_eq (xs := (r.map PyData.int).set p.1 (.int (lo r p))) rfl (dVar_eq rfl) (by rw [List.length_set, List.length_map]; exact i2))))).trans ?_)
  simp [sNop, rowD, List.map_set]
theorem ln_inner {m : Nat} {net : Net} {r : List Int} {F : Nat → Bool} {a x5 x6 x7 : Option D} {S : SS} (hr : r.length = m) (g : Good m net) (hn : net.length < 1000) :
    ∃ x5' x6' x7', forL (.tup [(.nm 5), (.tup [(.nm 6), (.nm 7)])]) lnI (enumD (net.map tupP) 0) [a, some (netD net), some (kdD net.length F), some (rowD r), some (rowD r), x5, x6, x7] S = .nx [a, some (netD net), some (kdD net.length fun j => F j || (movedF 0 net r).contains j), some (rowD r), some (rowD (runL net r)), x5', x6', x7'] S := by
  obtain ⟨ρ', S', e, y5, y6, y7, hρ, hS⟩ := forL_inv (t := .tup [(.nm 5), (.tup [(.nm 6), (.nm 7)])]) (body := lnI) (ds := enumD (net.map tupP) 0) (ρ := [a, some (netD net), some (kdD net.length F), some (rowD r), some (rowD r), x5, x6, x7]) (S := S)
    (fun i ρ S' => ∃ x5 x6 x7, ρ = [a, some (netD net), some (kdD net.length fun j => F j || (movedF 0 (net.take i) r).contains j), some (rowD r), some (rowD (runL (net.take i) r)), x5, x6, x7] ∧ S' = S) (fun i d ρ S2 hd ⟨y5, y6, y7, hρ, hS⟩ => by
      subst hρ hS
      obtain ⟨x, hx, rfl⟩ := enum_get hd
      rw [List.getElem?_map] at hx
      cases hp : net[i]? with
      | none => rw [hp] at hx; cases hx
      | some p =>
        rw [hp] at hx; cases hx
        obtain ⟨g1, g2⟩ := g p (List.mem_of_getElem? hp)
        have hl : (runL (net.take i) r).length = m := by rw [runL_length, hr]
        have hlt := (List.getElem?_eq_some_iff.mp hp).1
        have hi : (net.take i).length = i := by simp; omega
        refine ⟨[a, some (netD net), some (kdD net.length fun j => F j || (movedF 0 (net.take i) r).contains j), some (rowD r), some (rowD (runL (net.take i) r)), some (.int i), some (.int p.1), some (.int p.2)], by simp [bindT, bindTs, tupP], _, _, .inl (ln_body (by omega) (by omega) hlt hn), some (.int i), some (.int p.1), some (.int p.2), ?_, rfl⟩
        rw [take_snoc hp, runL_snoc, movedF_snoc, hi]
        congr 4
        refine kd_ext fun j _ => ?_
        rw [Bool.or_assoc]
        congr 1
        rw [Bool.eq_iff_iff]
        cases hm : moves (runL (net.take i) r) p <;> simp) ⟨x5, x6, x7, by simp [movedF, runL], rfl⟩
  subst hS
  rw [enumD_length, List.length_map, List.take_length] at hρ
  subst hρ
  exact ⟨y5, y6, y7, e⟩
theorem law_needless_eq {m : Nat} {net : Net} {S : SS} (hm : m ≤ 6) (g : Good m net) (hn : net.length < 1000) : D__law_needless [.int m, netD net] S = .ok (idxD (needF m net)) [] S := by
  refine defD_rt (show b__law_needless [some (.int m), some (netD net), none, none, none, none, none, none] S = _ from ?_)
  show (sSeq (sAsg (dDict (dLc (dIt rng1D (dCons (dPrim lenD (dCons (dVar 1) dNil)) dNil)) (.nm 5) dYes (dTup (dCons (dVar 5) (dCons (dC (.bool false)) dNil))) [5])) (.nm 2)) (sSeq (sFor (dSeq (dCall D__law_bit_rows (dCons (dVar 0) dNil))) (.nm 3) lnB) (sSeq (sRet (dLc (dIt rng1D (dCons (dPrim lenD (dCons (dVar 1) dNil)) dNil)) (.nm 5) (dNot (dT (dBin ixD (dVar 2) (dVar 5)))) (dVar 5) [5])) sNop))) _ _ = _
  have len : ∀ ρ : Rho, ρ[1]? = some (some (netD net)) → dPrim lenD (dCons (dVar 1) dNil) ρ S = .ok (.int (net.length : Nat)) ρ S := fun ρ h => dPrim1 (dVar_eq h) (by rw [netD, lenD_list, List.length_map])
  have rng : rangeD 0 (net.length : Nat) = (List.range net.length).map fun (k : Nat) => PyData.int (k : Int) := by simp [rangeD]
  have hz : net.length ≤ sizeLine := Nat.le_trans (Nat.le_of_lt hn) (by decide)
  have d1 : dDict (dLc (dIt rng1D (dCons (dPrim lenD (dCons (dVar 1) dNil)) dNil)) (.nm 5) dYes (dTup (dCons (dVar 5) (dCons (dC (.bool false)) dNil))) [5]) [some (.int m), some (netD net), none, none, none, none, none, none] S = .ok (kdD net.length fun _ => false) [some (.int m), some (netD net), none, none, none, none, none, none] S := by
    have e := dLc_eq (vs := [5]) (c := dYes) (t := .nm 5) (dIt_rng1 (len [some (.int m), some (netD net), none, none, none, none, none, none] rfl) (by omega)) (by rw [range_len]; exact hz) (by rw [rng]; exact (lcL_map (l := List.range net.length) (fun (k : Nat) => PyData.int (k : Int)) (fun (k : Nat) => .tuple [.int (k : Int), .bool false]) (f := (dTup (dCons (dVar 5) (dCons (dC (.bool false)) dNil)))) fun k _ => ⟨[some (.int m), some (netD net), none, none, none, some (.int (k : Int)), none, none], rfl, dTup_eq (dCons2 (dVar_eq rfl) rfl) l2⟩))
    exact dDict_eq e (kd_new _)
  rw [sSeq_nx (sAsg_eq (ρ2 := [some (.int m), some (netD net), some (kdD net.length fun _ => false), none, none, none, none, none]) d1 rfl)]
  obtain ⟨ρ', e2, x3, x4, x5, x6, x7, rfl⟩ := forL_map (t := .nm 3) (body := lnB) (S := S) rowD (fun pre ρ => ∃ x3 x4 x5 x6 x7, ρ = [some (.int m), some (netD net), some (kdD net.length (fun j => pre.any fun r => (movedF 0 net r).contains j)), x3, x4, x5, x6, x7]) (l := bitRows m) (pre := []) (ρ := [some (.int m), some (netD net), some (kdD net.length fun _ => false), none, none, none, none, none]) (fun pre r ρ hr ⟨x3, x4, x5, x6, x7, hx⟩ => by
    subst hx
    have hl := (bitRows_mem.mp hr).1
    obtain ⟨y5, y6, y7, e⟩ := ln_inner (F := fun j => pre.any fun r => (movedF 0 net r).contains j) (a := some (.int m)) (x5 := x5) (x6 := x6) (x7 := x7) (S := S) hl g hn
    refine ⟨[some (.int m), some (netD net), some (kdD net.length (fun j => pre.any fun r => (movedF 0 net r).contains j)), some (rowD r), x4, x5, x6, x7], rfl, _, (sSeq_nx (sAsg_eq (dPrimL1 (dVar_eq rfl) (listD_list (r.map PyData.int))) rfl)).trans (sSeq_nx ((sFor_eq (dIt_ok (dCons1 (dVar_eq rfl)) (show enumA [netD net] = some (enumD (net.map tupP) 0) from rfl))).trans e)), some (rowD r), some (rowD (runL net r)), y5, y6, y7, ?_⟩
    simp) ⟨none, none, none, none, none, rfl⟩
  rw [sSeq_nx ((sFor_eq (dSeq_eq (dCall_eq (dCons1 (dVar_eq rfl)) (law_bits_eq hm)))).trans e2)]
  refine sSeq_rt (sRet_eq ?_)
  have e3 := dLc_eq (vs := [5]) (t := .nm 5) (c := (dNot (dT (dBin ixD (dVar 2) (dVar 5))))) (f := dVar 5) (dIt_rng1 (len [some (.int m), some (netD net), some (kdD net.length (hasMoved m net)), x3, x4, x5, x6, x7] rfl) (by omega)) (by rw [range_len]; exact hz) (by
    rw [rng]
    exact (lcL_fmap (l := List.range net.length) (fun (k : Nat) => PyData.int (k : Int)) (fun k => !hasMoved m net k) (fun (k : Nat) => PyData.int (k : Int)) fun k hk => ⟨[some (.int m), some (netD net), some (kdD net.length (hasMoved m net)), x3, x4, some (.int (k : Int)), x6, x7], rfl, dNot_eq (dT_eq (dBin_eq (dVar_eq rfl) (dVar_eq rfl) (by show getK (kdL net.length (hasMoved m net)) (.inl (k : Int)) = _; exact kd_get (by simpa using hk)))), fun _ => dVar_eq rfl⟩))
  exact e3
end K72

namespace K72
open PySem L2 PD
/-- keys, each once -/
def ext1 : List Nat → List Nat → List Nat
  | ks, [] => ks
  | ks, k :: l => if k ∈ ks then ext1 ks l else ext1 (ks ++ [k]) l
theorem ext1_mem : ∀ {ks l : List Nat} {j : Nat}, j ∈ ext1 ks l ↔ j ∈ ks ∨ j ∈ l
  | ks, [], j => by simp [ext1]
  | ks, k :: l, j => by
    unfold ext1
    split
    · rw [ext1_mem]
      rename_i h
      simp only [List.mem_cons]
      constructor
      · rintro (h | h); exact .inl h; exact .inr (.inr h)
      · rintro (h' | rfl | h')
        · exact .inl h'
        · exact .inl h
        · exact .inr h'
    · rw [ext1_mem]; simp [or_assoc]
theorem ext1_nodup : ∀ {ks l : List Nat}, ks.Nodup → (ext1 ks l).Nodup
  | ks, [], h => h
  | ks, k :: l, h => by
    unfold ext1
    split
    · exact ext1_nodup h
    · rename_i hk
      refine ext1_nodup ?_
      rw [List.nodup_append]
      refine ⟨h, by simp, fun a ha b hb => ?_⟩
      simp at hb; subst hb
      intro z; subst z; exact hk ha
def kT (k : Nat) : D × D := (PyData.int (k : Int), PyData.bool true)
theorem kt_has {ks : List Nat} {k : Nat} : hasK (ks.map kT) (.inl (k : Int)) = decide (k ∈ ks) := by
  unfold hasK
  rw [Bool.eq_iff_iff, List.any_eq_true]
  constructor
  · rintro ⟨p, hp, h⟩
    obtain ⟨j, hj, rfl⟩ := List.mem_map.mp hp
    simp [keyOf, kT] at h
    have : j = k := by omega
    subst this
    simpa using hj
  · intro h
    exact ⟨_, List.mem_map.mpr ⟨k, by simpa using h, rfl⟩, by simp [keyOf, kT]⟩
theorem kt_put {ks : List Nat} {k : Nat} : putD (ks.map kT) (.inl (k : Int)) (.bool true) = (if k ∈ ks then ks else ks ++ [k]).map kT := by
  unfold putD
  rw [kt_has]
  by_cases h : k ∈ ks
  · rw [if_pos (by simpa using h), if_pos h, List.map_map]
    apply List.map_congr_left
    intro j _
    by_cases hj : j = k
    · subst hj; simp [keyOf, kT]
    · have h3 : ¬ (j : Int) = (k : Int) := by omega
      simp [keyOf, kT, hj]
  · rw [if_neg (by simpa using h), if_neg h, List.map_append]
    rfl
theorem kt_merge : ∀ (l ks : List Nat), mergeD (ks.map kT) (l.map fun (k : Nat) => ((Sum.inl (k : Int) : Key), PyData.bool true)) = (ext1 ks l).map kT
  | [], ks => rfl
  | k :: l, ks => by
    show mergeD (putD (ks.map kT) (.inl (k : Int)) (.bool true)) _ = _
    rw [kt_put, kt_merge l]
    congr 1
    conv => rhs; rw [ext1]
    split <;> rfl
theorem kt_pairs (l : List Nat) : dictPD (.list (l.map fun (k : Nat) => .tuple [.int (k : Int), .bool true])) = some ((ext1 [] l).map kT) := by
  have h1 : ∀ l : List Nat, pairsD (l.map fun (k : Nat) => PyData.tuple [.int (k : Int), .bool true]) = some (l.map fun (k : Nat) => ((Sum.inl (k : Int) : Key), PyData.bool true)) := by
    intro l
    induction l with
    | nil => rfl
    | cons a l ih => simp [pairsD, keyOf, ih]
  show Option.map (mergeD []) (pairsD _) = _
  rw [h1, Option.map_some]
  exact congrArg some (kt_merge l [])
theorem kt_sorted {ks : List Nat} (h : ks.length < 64) : sortedD [.dict (ks.map kT)] = some ((sortI (ks.map fun (k : Nat) => (k : Int))).map .int) := by
  have e : keysI (ks.map kT) = some (ks.map fun (k : Nat) => (k : Int)) := by
    unfold keysI
    have := intsD_map (ks.map fun (k : Nat) => (k : Int))
    rw [← this, List.map_map, List.map_map]
    rfl
  unfold sortedD
  simp [e, h]
theorem nodup_len {ks : List Nat} {n : Nat} (h : ks.Nodup) (hl : ∀ k ∈ ks, k < n) : ks.length ≤ n := by
  have := List.Nodup.length_le_of_subset (l₂ := List.range n) h (fun k hk => by simpa using hl k hk)
  simpa using this
def lens (net : Net) : List Nat := ext1 [] ((partsOf net).map List.length)
theorem lens_mem {net : Net} {k : Nat} : k ∈ lens net ↔ ∃ s ∈ partsOf net, s.length = k := by
  unfold lens
  rw [ext1_mem]
  simp
theorem lens_len (net : Net) : (lens net).length ≤ net.length + 1 := nodup_len (ext1_nodup (by simp)) fun k hk => by
  obtain ⟨s, hs, rfl⟩ := lens_mem.mp hk
  have := parts_le hs
  omega
def sizesL (net : Net) : List Int := sortI ((lens net).map fun (k : Nat) => (k : Int))
theorem sizes_mem {net : Net} {z : Int} : z ∈ sizesL net ↔ ∃ s ∈ partsOf net, (s.length : Int) = z := by
  unfold sizesL
  rw [(sortI_perm _).mem_iff, List.mem_map]
  constructor
  · rintro ⟨k, hk, rfl⟩
    obtain ⟨s, hs, e⟩ := lens_mem.mp hk
    exact ⟨s, hs, by omega⟩
  · rintro ⟨s, hs, rfl⟩
    exact ⟨s.length, lens_mem.mpr ⟨s, hs, rfl⟩, rfl⟩
def sizeB (m : Nat) (net : Net) (z : Int) : Bool := ((partsOf net).filter fun s => ((s.length : Int) == z)).any (sortsB m)
theorem size_few {m : Nat} {net : Net} : IsFew m net (((sizesL net).find? (sizeB m net)).map Int.toNat) := by
  have hp : (sizesL net).Pairwise (· ≤ ·) := sortI_sorted _
  have hb : ∀ {z : Int}, sizeB m net z = true ↔ ∃ s ∈ partsOf net, (s.length : Int) = z ∧ sortsB m s = true := by
    intro z
    unfold sizeB
    rw [List.any_eq_true]
    constructor
    · rintro ⟨s, h1, h2⟩
      rw [List.mem_filter] at h1
      exact ⟨s, h1.1, by simpa using h1.2, h2⟩
    · rintro ⟨s, h1, h2, h3⟩
      exact ⟨s, List.mem_filter.mpr ⟨h1, by simpa using h2⟩, h3⟩
  cases q : (sizesL net).find? (sizeB m net) with
  | none =>
    intro s hs
    rw [← Bool.not_eq_true]
    intro hsb
    have := List.find?_eq_none.mp q s.length (sizes_mem.mpr ⟨s, hs, rfl⟩)
    exact this (hb.mpr ⟨s, hs, rfl, hsb⟩)
  | some z =>
    obtain ⟨h1, as, bs, e, h2⟩ := List.find?_eq_some_iff_append.mp q
    obtain ⟨t, ht, rfl, htb⟩ := hb.mp h1
    refine ⟨⟨t, ht, by simp, htb⟩, fun s hs hsb => ?_⟩
    have hm := sizes_mem.mpr ⟨s, hs, rfl⟩
    have hsz := hb.mpr ⟨s, hs, rfl, hsb⟩
    rw [e] at hm hp
    rcases List.mem_append.mp hm with hm | hm
    · have := h2 _ hm; rw [hsz] at this; simp at this
    · rcases List.mem_cons.mp hm with hm | hm
      · simp; omega
      · have := (List.pairwise_cons.mp (List.pairwise_append.mp hp).2.1).1 _ hm
        simp; omega
/-! the law's -/
def lfB : SDen := (sSeq (sAsg (dBin addD (dVar 2) (dLc (dSeq (dVar 2)) (.nm 6) dYes (dBin addD (dVar 6) (dLst (dCons (dVar 3) dNil))) [6])) (.nm 2)) sNop)
theorem lf_body {ps : List Net} {a b c : Option D} {p : Nat × Nat} {S : SS} (hz : 2 * ps.length ≤ sizeLine) (hs : ∀ s ∈ ps, s.length + 1 ≤ sizeLine) :
    lfB [a, b, some (partsD ps), some (tupP p), c, none, none] S = .nx [a, b, some (partsD (ps ++ ps.map (· ++ [p]))), some (tupP p), c, none, none] S := by
  have e1 : (dLc (dSeq (dVar 2)) (.nm 6) dYes (dBin addD (dVar 6) (dLst (dCons (dVar 3) dNil))) [6]) [a, b, some (partsD ps), some (tupP p), c, none, none] S = .ok (.list (ps.map fun s => netD (s ++ [p]))) [a, b, some (partsD ps), some (tupP p), c, none, none] S := by
    refine dLc_eq (dSeq_eq (dVar_eq rfl)) (by simp; omega) (lcL_map (l := ps) netD (fun s => netD (s ++ [p])) fun s hsm => ⟨[a, b, some (partsD ps), some (tupP p), c, none, some (netD s)], rfl, dBin_eq (dVar_eq rfl) (dLst_eq (dCons1 (dVar_eq rfl)) l1) ?_⟩)
    have := hs s hsm
    simp [addD, netD, this]
  have z : (ps.map netD).length + (ps.map fun s => netD (s ++ [p])).length ≤ sizeLine := by simp; omega
  have e3 : addD (partsD ps) (.list (ps.map fun s => netD (s ++ [p]))) = some (partsD (ps ++ ps.map (· ++ [p]))) := by
    rw [partsD, addD, if_pos z]
    simp [partsD]
  exact (sSeq_nx (sAsg_eq (dBin_eq (dVar_eq rfl) e1 e3) rfl)).trans rfl
theorem lf_loop {net : Net} {a b c : Option D} {S : SS} (hn : net.length ≤ 20) : ∃ x, forL (.nm 3) lfB (net.map tupP) [a, b, some (partsD [[]]), none, c, none, none] S = .nx [a, b, some (partsD (partsOf net)), x, c, none, none] S := by
  have hs : (2 : Nat) ^ 21 ≤ sizeLine := by decide
  have h1 : ∀ l r : Net, net = l ++ r → ∀ x, ∃ x', forL (.nm 3) lfB (r.map tupP) [a, b, some (partsD (partsOf l)), x, c, none, none] S = .nx [a, b, some (partsD (partsOf net)), x', c, none, none] S := by
    intro l r
    induction r generalizing l with
    | nil => intro e x; simp at e; subst e; exact ⟨x, rfl⟩
    | cons p r ih =>
      intro e x
      obtain ⟨x', ih'⟩ := ih (l ++ [p]) (by simp [e]) (some (tupP p))
      refine ⟨x', ?_⟩
      rw [List.map_cons]
      unfold forL
      rw [show bindT (.nm 3) (tupP p) [a, b, some (partsD (partsOf l)), x, c, none, none] = some [a, b, some (partsD (partsOf l)), some (tupP p), c, none, none] from rfl]
      have hl : l.length + 1 ≤ 20 := by
        have := congrArg List.length e
        simp at this; omega
      have hp : 2 ^ l.length ≤ 2 ^ 19 := Nat.pow_le_pow_right (by decide) (by omega)
      have b := lf_body (ps := partsOf l) (a := a) (b := b) (c := c) (p := p) (S := S) (by rw [parts_len]; omega) (fun s hs => by have := parts_le hs; omega)
      simp only [b]
      rw [← partsOf_snoc]; exact ih'
  exact h1 [] net rfl none
theorem law_fewest_eq {m : Nat} {net : Net} {S : SS} (hm : m ≤ 6) (g : Good m net) (hn : net.length ≤ 20) : ∃ o, IsFew m net o ∧ D__law_fewest [.int m, netD net] S = .ok (optN o) [] S := by
  refine ⟨_, size_few, ?_⟩
  obtain ⟨x, lp⟩ := lf_loop (net := net) (a := some (.int m)) (b := some (netD net)) (c := none) (S := S) hn
  have hpl : (partsOf net).length ≤ sizeLine := by
    rw [parts_len]
    exact Nat.le_trans (Nat.pow_le_pow_right (n := 2) (by decide) hn) (by decide)
  refine defD_rt (show b__law_fewest [some (.int m), some (netD net), none, none, none, none, none] S = _ from ?_)
  show (sSeq (sAsg (dLst (dCons (dLst dNil) dNil)) (.nm 2)) (sSeq (sFor (dSeq (dVar 1)) (.nm 3) lfB) (sSeq (sAsg (dPrimL sortedD (dCons (dDict (dLc (dSeq (dVar 2)) (.nm 6) dYes (dTup (dCons (dPrim lenD (dCons (dVar 6) dNil)) (dCons (dC (.bool true)) dNil))) [6])) dNil)) (.nm 4)) (sSeq (sFor (dSeq (dVar 4)) (.nm 5) (sSeq (sIf (dT (dPrim anyD (dCons (dLc (dSeq (dVar 2)) (.nm 6) (dCmp eqD (dPrim lenD (dCons (dVar 6) dNil)) (dVar 5)) (dB (dCmp eqD (dCall D__law_unsorted (dCons (dVar 0) (dCons (dVar 6) dNil))) (dLst dNil))) [6]) dNil))) (sSeq (sRet (dVar 5)) sNop) sNop) sNop)) (sSeq (sRet (dC .none)) sNop))))) _ _ = _
  rw [sSeq_nx (sAsg_eq (ρ2 := [some (.int m), some (netD net), some (partsD [[]]), none, none, none, none]) (dLst_eq (dCons1 dLst_nil) l1) rfl)]
  rw [sSeq_nx ((sFor_eq (dSeq_eq (dVar_eq rfl))).trans lp)]
  have d1 : dLc (dSeq (dVar 2)) (.nm 6) dYes (dTup (dCons (dPrim lenD (dCons (dVar 6) dNil)) (dCons (dC (.bool true)) dNil))) [6] [some (.int m), some (netD net), some (partsD (partsOf net)), x, none, none, none] S = .ok (.list (((partsOf net).map List.length).map fun (k : Nat) => .tuple [.int (k : Int), .bool true])) [some (.int m), some (netD net), some (partsD (partsOf net)), x, none, none, none] S := by
    rw [List.map_map]
    exact dLc_eq (dSeq_eq (dVar_eq rfl)) (by simpa using hpl) (lcL_map (l := partsOf net) netD _ fun s _ => ⟨[some (.int m), some (netD net), some (partsD (partsOf net)), x, none, none, some (netD s)], rfl, dTup_eq (dCons2 (dPrim1 (dVar_eq rfl) (by rw [netD, lenD_list, List.length_map])) rfl) l2⟩)
  have l64' : (lens net).length < 64 := by have := lens_len net; omega
  rw [sSeq_nx (sAsg_eq (ρ2 := [some (.int m), some (netD net), some (partsD (partsOf net)), x, some (.list ((sizesL net).map .int)), none, none]) (dPrimL1 (dDict_eq d1 (kt_pairs _)) (kt_sorted l64')) rfl)]
  obtain ⟨f1, f2⟩ := forL_find (t := .nm 5) (body := (sSeq (sIf (dT (dPrim anyD (dCons (dLc (dSeq (dVar 2)) (.nm 6) (dCmp eqD (dPrim lenD (dCons (dVar 6) dNil)) (dVar 5)) (dB (dCmp eqD (dCall D__law_unsorted (dCons (dVar 0) (dCons (dVar 6) dNil))) (dLst dNil))) [6]) dNil))) (sSeq (sRet (dVar 5)) sNop) sNop) sNop)) (S := S) PyData.int (sizeB m net) PyData.int (fun ρ => ∃ y, ρ = [some (.int m), some (netD net), some (partsD (partsOf net)), x, some (.list ((sizesL net).map .int)), y, none]) (l := sizesL net) (ρ := [some (.int m), some (netD net), some (partsD (partsOf net)), x, some (.list ((sizesL net).map .int)), none, none]) (fun z hz ρ ⟨y, hy⟩ => by
    subst hy
    have e1 : dLc (dSeq (dVar 2)) (.nm 6) (dCmp eqD (dPrim lenD (dCons (dVar 6) dNil)) (dVar 5)) (dB (dCmp eqD (dCall D__law_unsorted (dCons (dVar 0) (dCons (dVar 6) dNil))) (dLst dNil))) [6] [some (.int m), some (netD net), some (partsD (partsOf net)), x, some (.list ((sizesL net).map .int)), some (.int z), none] S = .ok (.list (((partsOf net).filter fun s => ((s.length : Int) == z)).map fun s => .bool (sortsB m s))) [some (.int m), some (netD net), some (partsD (partsOf net)), x, some (.list ((sizesL net).map .int)), some (.int z), none] S := by
      refine dLc_eq (dSeq_eq (dVar_eq rfl)) (by simpa using hpl) (lcL_fmap netD (fun s : Net => ((s.length : Int) == z)) (fun s => .bool (sortsB m s)) fun s hs => ⟨[some (.int m), some (netD net), some (partsD (partsOf net)), x, some (.list ((sizesL net).map .int)), some (.int z), some (netD s)], rfl, ?_, fun _ => ?_⟩)
      · exact dCmp_eq (dPrim1 (dVar_eq rfl) (by rw [netD, lenD_list, List.length_map])) (dVar_eq rfl) rfl
      · refine dB_eq (dCmp_eq (dCall_eq (dCons2 (dVar_eq rfl) (dVar_eq rfl)) (unsorted_eq hm (parts_good g hs))) dLst_nil ?_)
        rw [eqD_rows_nil, unsF_empty]
    have c := dT_eq (dPrim1 e1 (anyD_map _ _))
    rw [show ((partsOf net).filter fun s => ((s.length : Int) == z)).any (sortsB m) = sizeB m net z from rfl] at c
    refine ⟨[some (.int m), some (netD net), some (partsD (partsOf net)), x, some (.list ((sizesL net).map .int)), some (.int z), none], rfl, fun hp => ?_, fun hp => ⟨[some (.int m), some (netD net), some (partsD (partsOf net)), x, some (.list ((sizesL net).map .int)), some (.int z), none], ?_, some (.int z), rfl⟩⟩
    · refine sSeq_rt ?_
      rw [sIf_eq c, if_pos hp]
      exact sSeq_rt (sRet_eq (dVar_eq rfl))
    · rw [sSeq_nx (by rw [sIf_eq c, if_neg (by rw [hp]; simp)]; rfl)]
      rfl) ⟨none, rfl⟩
  cases q : (sizesL net).find? (sizeB m net) with
  | some z =>
    have hz := List.mem_of_find?_eq_some q
    obtain ⟨s, _, rfl⟩ := sizes_mem.mp hz
    exact sSeq_rt ((sFor_eq (dSeq_eq (dVar_eq rfl))).trans (f1 _ q))
  | none =>
    obtain ⟨ρ', e, _⟩ := f2 q
    rw [sSeq_nx ((sFor_eq (dSeq_eq (dVar_eq rfl))).trans e)]
    rfl
end K72

namespace K72
open PySem L2 PD
theorem copied_is : ∀ n, D__law_copied n = copyF (sSeq sNever sNop) n
  | 0 => rfl
  | n + 1 => by
    show defD _ (b__law_copied (D__law_copied n)) = defD 4 (copyB _ (copyF _ n))
    rw [copied_is n]; rfl
theorem same_is : ∀ n, D__law_same n = sameF (sSeq sNever sNop) n
  | 0 => rfl
  | n + 1 => by
    show defD _ (b__law_same (D__law_same n)) = defD 4 (sameB _ (sameF _ n))
    rw [same_is n]; rfl
theorem loose_is : ∀ n, D__law_loose n = looseF (sSeq sNever sNop) n
  | 0 => rfl
  | n + 1 => by
    show defD _ (b__law_loose (D__law_loose n)) = defD 5 (looseB _ (looseF _ n))
    rw [loose_is n]; rfl
theorem copiedE {d : D} {S : SS} (h : Plain 8 d) : D__law_copied 8 [d] S = .ok d [] S := by rw [copied_is]; exact copy_eq h
theorem sameE {d : D} {S : SS} (h : PlainL 8 d) : D__law_same 8 [d, d] S = .ok (.bool true) [] S := by rw [same_is]; exact same_eq h
theorem drawE {q : D} {m n : Nat} {S : SS} (hm : 0 < m ∧ m < 1073741824) (h : StOk (n + 1) S) : ∃ r S', D__law_draw [q, .int (m : Int)] S = .ok (.int (r : Nat)) [] S' ∧ r < m ∧ StOk n S' := by
  rw [draw_eq]; exact draw_nat hm h
theorem pickE {q : D} {n : Nat} {ds : List D} {S : SS} (h0 : 0 < ds.length ∧ ds.length < 1073741824) (h : StOk (n + 1) S) : ∃ d ∈ ds, ∃ S', D__law_pick [q, .list ds] S = .ok d [] S' ∧ StOk n S' := by
  obtain ⟨r, S', e, hr, st⟩ := drawE (q := q) h0 h
  refine ⟨ds[r], List.getElem_mem hr, S', ?_, st⟩
  refine defD_rt (show b__law_pick [some q, some (.list ds)] S = _ from ?_)
  refine sSeq_rt (sRet_eq (dBin_eq (dVar_eq rfl) (dCall_eq (dCons2 (dVar_eq rfl) (dPrim1 (dVar_eq rfl) (lenD_list _))) e) ?_))
  simp [ixD, L2.atI, ixN_nat hr, hr]
theorem net_plain {n : Nat} {net : Net} (h : net.length ≤ sizeLine) : Plain (n + 3) (netD net) := by
  refine Plain.list (by simpa using h) fun x hx => ?_
  obtain ⟨p, _, rfl⟩ := List.mem_map.mp hx
  refine Plain.tuple l2 fun x hx => ?_
  simp at hx
  rcases hx with rfl | rfl <;> exact Plain.flat rfl
theorem tup_nodes (n : Nat) (p : Nat × Nat) : nodes (n + 2) (tupP p) = 1 := by simp [tupP, nodes]
theorem net_nodes (n : Nat) (net : Net) : nodes (n + 3) (netD net) = net.length + 1 := by
  show ((net.map tupP).map (nodes (n + 2))).sum + 1 = _
  congr 1
  induction net with
  | nil => rfl
  | cons p net ih => simp only [List.map_cons, List.sum_cons, ih, tup_nodes, List.length_cons]; omega
theorem loose_net {n : Nat} {net : Net} {e : D} (h : Loose (n + 3) (netD net) e) : NetArg net e := by
  rcases h with ⟨h, _⟩ | ⟨ds, es, h1, h2, h3⟩
  · cases h
  · have hd : ds = net.map tupP := by
      rcases h1 with h1 | h1
      · exact (PyData.list.inj h1).symm
      · cases h1
    subst hd
    refine ⟨es, h2, ?_⟩
    clear h1 h2
    induction net generalizing es with
    | nil => cases h3; exact .nil
    | cons p net ih =>
      cases h3 with
      | cons a r =>
        refine .cons ?_ (ih _ r)
        rcases a with ⟨a, _⟩ | ⟨as, bs, a1, a2, a3⟩
        · cases a
        · have : as = [.int p.1, .int p.2] := by
            rcases a1 with a1 | a1
            · cases a1
            · exact (PyData.tuple.inj a1).symm
          subst this
          cases a3 with
          | cons b1 b2 =>
            cases b2 with
            | cons b3 b4 =>
              cases b4
              have z1 : ∀ {i : Int} {y : D}, Loose (n + 1) (.int i) y → y = .int i := by
                rintro i y (⟨_, h⟩ | ⟨_, _, h, _⟩)
                · exact h
                · rcases h with h | h <;> cases h
              rw [z1 b1, z1 b3] at a2
              rcases a2 with rfl | rfl
              · exact .inr rfl
              · exact .inl rfl
theorem handedE {q : D} {k : Nat} {net : Net} {S : SS} (hz : net.length ≤ sizeLine) (h : StOk (k + net.length + 1) S) : ∃ e S', D__law_handed [q, netD net] S = .ok e [] S' ∧ NetArg net e ∧ StOk k S' := by
  obtain ⟨e, S', h1, h2, h3⟩ := loose_eq (N := sSeq sNever sNop) (q := q) (n := 8) (k := k) (net_plain (n := 5) hz) (by rw [net_nodes 5]; exact h.le (by omega))
  refine ⟨e, S', ?_, loose_net (n := 5) h2, h3⟩
  refine defD_rt (show b__law_handed [some q, some (netD net)] S = _ from ?_)
  exact sSeq_rt (sRet_eq (dCall_eq (dCons2 (dVar_eq rfl) (dCall_eq (dCons1 (dVar_eq rfl)) (copiedE (net_plain (n := 5) hz)))) (by rw [loose_is]; exact h1)))
end K72

namespace K72
open PySem L2 PD
def prI : Den D := dLc (dIt rng2D (dCons (dBin addD (dVar 4) (dC (.int 1))) (dCons (dVar 1) dNil))) (.nm 10) dYes (dTup (dCons (dVar 4) (dCons (dVar 10) dNil))) [10]
def prB : SDen := (sSeq (sExpr (dMut 3 extD (dCons prI dNil))) sNop)
theorem rng2_map (a b : Nat) : rangeD (a : Int) (b : Int) = (List.range (b - a)).map fun (i : Nat) => PyData.int ((a + i : Nat) : Int) := by
  simp only [rangeD]
  have : ((b : Int) - (a : Int)).toNat = b - a := by omega
  rw [this]
  apply List.map_congr_left
  intro i _
  simp
theorem pr_body {m l : Nat} {ps : Net} {q a : Option D} {S : SS} (hm : m ≤ 6) (hl : l < m) (hz : ps.length ≤ 100) :
    prB [q, some (.int m), a, some (netD ps), some (.int l), none, none, none, none, none, none, none] S = .nx [q, some (.int m), a, some (netD (ps ++ (List.range (m - (l + 1))).map fun i => (l, l + 1 + i))), some (.int l), none, none, none, none, none, none, none] S := by
  have z : 200 ≤ sizeLine := by decide
  have e1 : prI [q, some (.int m), a, some (netD ps), some (.int l), none, none, none, none, none, none, none] S = .ok (netD ((List.range (m - (l + 1))).map fun i => (l, l + 1 + i))) [q, some (.int m), a, some (netD ps), some (.int l), none, none, none, none, none, none, none] S := by
    unfold netD
    rw [List.map_map]
    refine dLc_eq (dIt_rng2 (k := l + 1) (m := m) (dBin_eq (dVar_eq rfl) rfl (by simp [addD])) (dVar_eq rfl) (by omega) (by omega)) (by simp [rangeD]; omega) ?_
    rw [rng2_map]
    exact lcL_map (l := List.range (m - (l + 1))) _ _ fun i _ => ⟨[q, some (.int m), a, some (netD ps), some (.int l), none, none, none, none, none, some (.int ((l + 1 + i : Nat) : Int)), none], rfl, dTup_eq (dCons2 (dVar_eq rfl) (dVar_eq rfl)) l2⟩
  have z2 : (ps.map tupP).length + (((List.range (m - (l + 1))).map fun i => (l, l + 1 + i)).map tupP).length ≤ sizeLine := by simp; omega
  have e3 : extD (ps.map tupP) [netD ((List.range (m - (l + 1))).map fun i => (l, l + 1 + i))] = some ((ps ++ (List.range (m - (l + 1))).map fun i => (l, l + 1 + i)).map tupP, .none) := by
    rw [netD, extD, if_pos z2, List.map_append]
  exact (sSeq_nx (sExpr_eq (dMut_eq (xs := ps.map tupP) rfl (dCons1 e1) e3))).trans rfl
theorem pr_loop {m : Nat} {q a : Option D} {S : SS} (hm : 2 ≤ m ∧ m ≤ 6) : ∃ ps x, forL (.nm 4) prB (rangeD 0 m) [q, some (.int m), a, some (netD []), none, none, none, none, none, none, none, none] S = .nx [q, some (.int m), a, some (netD ps), x, none, none, none, none, none, none, none] S ∧ Good m ps ∧ 0 < ps.length ∧ ps.length ≤ 100 := by
  obtain ⟨ρ', S', e, ps, x, hρ, hS, hg, hl, h0⟩ := forL_inv (t := .nm 4) (body := prB) (ds := rangeD 0 m) (ρ := [q, some (.int m), a, some (netD []), none, none, none, none, none, none, none, none]) (S := S)
    (fun i ρ S' => ∃ ps x, ρ = [q, some (.int m), a, some (netD ps), x, none, none, none, none, none, none, none] ∧ S' = S ∧ Good m ps ∧ ps.length ≤ 6 * i ∧ (0 < i → 0 < ps.length)) (fun i d ρ S2 hd ⟨ps, x, hρ, hS, hg, hl, h0⟩ => by
      subst hρ hS
      obtain ⟨hi, rfl⟩ := range_get hd
      refine ⟨[q, some (.int m), a, some (netD ps), some (.int i), none, none, none, none, none, none, none], rfl, _, _, .inl (pr_body hm.2 hi (by omega)), _, _, rfl, rfl, ?_, ?_, ?_⟩
      · intro p hp
        rcases List.mem_append.mp hp with hp | hp
        · exact hg p hp
        · obtain ⟨j, hj, rfl⟩ := List.mem_map.mp hp
          have : j < m - (i + 1) := by simpa using hj
          exact ⟨by simp; omega, by simp; omega⟩
      · simp; omega
      · intro _
        by_cases hi0 : i = 0
        · subst hi0; simp; omega
        · have := h0 (by omega); simp; omega) ⟨[], none, rfl, rfl, by intro p hp; simp at hp, by simp, by simp⟩
  rw [range_len] at hl h0
  subst hρ hS
  exact ⟨ps, x, e, hg, h0 (by omega), by omega⟩
/-! the one that sorts -/
def riI : Den D := dLc (dIt rng1D (dCons (dBin subD (dBin subD (dVar 1) (dC (.int 1))) (dVar 8)) dNil)) (.nm 9) dYes (dTup (dCons (dVar 9) (dCons (dBin addD (dVar 9) (dC (.int 1))) dNil))) [9]
def riB : SDen := (sSeq (sExpr (dMut 7 extD (dCons riI dNil))) sNop)
theorem ri_body {m t : Nat} {rs : Net} {q a b c d e : Option D} {S : SS} (hm : m ≤ 6) (ht : t + 1 < m) (hz : rs.length ≤ 100) :
    riB [q, some (.int m), a, b, c, d, e, some (netD rs), some (.int t), none, none, none] S = .nx [q, some (.int m), a, b, c, d, e, some (netD (rs ++ (List.range (m - 1 - t)).map fun i => (i, i + 1))), some (.int t), none, none, none] S := by
  have z : 200 ≤ sizeLine := by decide
  have e1 : riI [q, some (.int m), a, b, c, d, e, some (netD rs), some (.int t), none, none, none] S = .ok (netD ((List.range (m - 1 - t)).map fun i => (i, i + 1))) [q, some (.int m), a, b, c, d, e, some (netD rs), some (.int t), none, none, none] S := by
    unfold netD
    rw [List.map_map]
    refine dLc_eq (dIt_rng1 (m := m - 1 - t) (dBin_eq (z := .int ((m - 1 - t : Nat) : Int)) (dBin_eq (z := .int ((m - 1 : Nat) : Int)) (dVar_eq rfl) rfl (by show some (PyData.int ((m : Int) - 1)) = _; congr 2; omega)) (dVar_eq rfl) (by show some (PyData.int (((m - 1 : Nat) : Int) - (t : Int))) = _; congr 2; omega)) (by omega)) (by rw [range_len]; omega) ?_
    have := rng2_map 0 (m - 1 - t)
    simp only [Nat.sub_zero, Nat.zero_add] at this
    rw [show ((0 : Nat) : Int) = 0 from rfl] at this
    rw [this]
    exact lcL_map (l := List.range (m - 1 - t)) _ _ fun i _ => ⟨[q, some (.int m), a, b, c, d, e, some (netD rs), some (.int t), some (.int (i : Int)), none, none], rfl, dTup_eq (dCons2 (dVar_eq rfl) (dBin_eq (dVar_eq rfl) rfl (by simp [addD]))) l2⟩
  have z2 : (rs.map tupP).length + (((List.range (m - 1 - t)).map fun i => (i, i + 1)).map tupP).length ≤ sizeLine := by simp; omega
  have e3 : extD (rs.map tupP) [netD ((List.range (m - 1 - t)).map fun i => (i, i + 1))] = some ((rs ++ (List.range (m - 1 - t)).map fun i => (i, i + 1)).map tupP, .none) := by
    rw [netD, extD, if_pos z2, List.map_append]
  exact (sSeq_nx (sExpr_eq (dMut_eq (xs := rs.map tupP) rfl (dCons1 e1) e3))).trans rfl
theorem ri_loop {m : Nat} {q a b c d e : Option D} {S : SS} (hm : 2 ≤ m ∧ m ≤ 6) : ∃ rs x, forL (.nm 8) riB (rangeD 0 ((m - 1 : Nat) : Int)) [q, some (.int m), a, b, c, d, e, some (netD []), none, none, none, none] S = .nx [q, some (.int m), a, b, c, d, e, some (netD rs), x, none, none, none] S ∧ Good m rs ∧ 0 < rs.length ∧ rs.length ≤ 100 := by
  obtain ⟨ρ', S', e, ps, x, hρ, hS, hg, hl, h0⟩ := forL_inv (t := .nm 8) (body := riB) (ds := rangeD 0 ((m - 1 : Nat) : Int)) (ρ := [q, some (.int m), a, b, c, d, e, some (netD []), none, none, none, none]) (S := S)
    (fun i ρ S' => ∃ ps x, ρ = [q, some (.int m), a, b, c, d, e, some (netD ps), x, none, none, none] ∧ S' = S ∧ Good m ps ∧ ps.length ≤ 6 * i ∧ (0 < i → 0 < ps.length)) (fun i w ρ S2 hd ⟨ps, x, hρ, hS, hg, hl, h0⟩ => by
      subst hρ hS
      obtain ⟨hi, rfl⟩ := range_get hd
      refine ⟨[q, some (.int m), a, b, c, d, e, some (netD ps), some (.int i), none, none, none], rfl, _, _, .inl (ri_body hm.2 (by omega) (by omega)), _, _, rfl, rfl, ?_, ?_, ?_⟩
      · intro p hp
        rcases List.mem_append.mp hp with hp | hp
        · exact hg p hp
        · obtain ⟨j, hj, rfl⟩ := List.mem_map.mp hp
          have : j < m - 1 - i := by simpa using hj
          exact ⟨by simp, by simp; omega⟩
      · simp; omega
      · intro _
        by_cases hi0 : i = 0
        · subst hi0; simp; omega
        · have := h0 (by omega); simp; omega) ⟨[], none, rfl, rfl, by intro p hp; simp at hp, by simp, by simp⟩
  rw [range_len] at hl h0
  subst hρ hS
  exact ⟨ps, x, e, hg, h0 (by omega), by omega⟩
end K72

namespace K72
open PySem L2 PD
/-- a list whose things are pairs of so many places -/
theorem picks_net {m : Nat} : ∀ {ds ys : List D}, Paired (fun _ y => ∃ p : Nat × Nat, y = tupP p ∧ p.1 < p.2 ∧ p.2 < m) ds ys → ∃ net : Net, ys = net.map tupP ∧ Good m net
  | _, _, .nil => ⟨[], rfl, by intro p hp; simp at hp⟩
  | _, _, .cons a r => by
    obtain ⟨p, rfl, g1⟩ := a
    obtain ⟨net, rfl, g⟩ := picks_net r
    refine ⟨p :: net, rfl, fun q hq => ?_⟩
    rcases List.mem_cons.mp hq with rfl | hq
    · exact g1
    · exact g q hq
theorem pick_net {q : D} {n m : Nat} {ps : Net} {S : SS} (g : Good m ps) (h0 : 0 < ps.length ∧ ps.length < 1073741824) (h : StOk (n + 1) S) : ∃ p : Nat × Nat, (p.1 < p.2 ∧ p.2 < m) ∧ ∃ S', D__law_pick [q, netD ps] S = .ok (tupP p) [] S' ∧ StOk n S' := by
  obtain ⟨d, hd, S', e, st⟩ := pickE (q := q) (ds := ps.map tupP) (n := n) (by rw [List.length_map]; exact h0) h
  obtain ⟨p, hp, rfl⟩ := List.mem_map.mp hd
  exact ⟨p, g p hp, S', e, st⟩
theorem good_take {m : Nat} {net : Net} (g : Good m net) (k : Nat) : Good m (net.take k) := fun p hp => g p (List.mem_of_mem_take hp)
theorem good_drop {m : Nat} {net : Net} (g : Good m net) (k : Nat) : Good m (net.drop k) := fun p hp => g p (List.mem_of_mem_drop hp)
theorem good_app {m : Nat} {a b : Net} (g : Good m a) (h : Good m b) : Good m (a ++ b) := fun p hp => by
  rcases List.mem_append.mp hp with hp | hp
  · exact g p hp
  · exact h p hp
theorem slTo {i : Nat} {f : Den D} {net : Net} {k : Nat} {ρ : Rho} {S : SS} (h : ρ[i]? = some (some (netD net))) (h2 : f ρ S = .ok (.int (k : Int)) ρ S) : dSl sliceD (dVar i) dPo0 (dPo f) ρ S = .ok (netD (net.take k)) ρ S := by
  simp only [dSl, dVar_eq h, Res.bind, dPo0, dPo, h2, intO, optR]
  rw [netD, sliceD, cutG_to, ← List.map_take]; rfl
theorem slFrom {i : Nat} {f : Den D} {net : Net} {k : Nat} {ρ : Rho} {S : SS} (h : ρ[i]? = some (some (netD net))) (h2 : f ρ S = .ok (.int (k : Int)) ρ S) : dSl sliceD (dVar i) (dPo f) dPo0 ρ S = .ok (netD (net.drop k)) ρ S := by
  simp only [dSl, dVar_eq h, Res.bind, dPo0, dPo, h2, intO, optR]
  rw [netD, sliceD, cutG_from, ← List.map_drop]; rfl
theorem addN {a b : Net} (h : a.length + b.length ≤ sizeLine) : addD (netD a) (netD b) = some (netD (a ++ b)) := by
  have h' : (a.map tupP).length + (b.map tupP).length ≤ sizeLine := by simpa using h
  rw [netD, netD, addD, if_pos h', ← List.map_append]; rfl
def lnTail : SDen := (sSeq (sIf (dAnd (dCmp ltD (dVar 6) (dC (.int 3))) (dCmp ltD (dVar 1) (dC (.int 6)))) (sSeq (sAsg (dLst dNil) (.nm 7)) (sSeq (sFor (dIt rng1D (dCons (dBin subD (dVar 1) (dC (.int 1))) dNil)) (.nm 8) riB) (sSeq (sAsg (dCall D__law_pick (dCons (dVar 0) (dCons (dLst (dCons (dVar 7) (dCons (dIf (dCmp eqD (dVar 1) (dC (.int 4))) (dLst (dCons (dTup (dCons (dC (.int 0)) (dCons (dC (.int 1)) dNil))) (dCons (dTup (dCons (dC (.int 2)) (dCons (dC (.int 3)) dNil))) (dCons (dTup (dCons (dC (.int 0)) (dCons (dC (.int 2)) dNil))) (dCons (dTup (dCons (dC (.int 1)) (dCons (dC (.int 3)) dNil))) (dCons (dTup (dCons (dC (.int 1)) (dCons (dC (.int 2)) dNil))) dNil)))))) (dVar 7)) dNil))) dNil))) (.nm 7)) (sSeq (sAsg (dCall D__law_draw (dCons (dVar 0) (dCons (dPrim lenD (dCons (dVar 7) dNil)) dNil))) (.nm 9)) (sSeq (sAsg (dIf (dCmp eqD (dVar 6) (dC (.int 0))) (dVar 7) (dIf (dCmp eqD (dVar 6) (dC (.int 1))) (dBin addD (dSl sliceD (dVar 7) dPo0 (dPo (dVar 9))) (dSl sliceD (dVar 7) (dPo (dBin addD (dVar 9) (dC (.int 1)))) dPo0)) (dBin addD (dBin addD (dSl sliceD (dVar 7) dPo0 (dPo (dVar 9))) (dSl sliceD (dVar 5) dPo0 (dPo (dC (.int 2))))) (dSl sliceD (dVar 7) (dPo (dVar 9)) dPo0)))) (.nm 5)) sNop))))) sNop) (sSeq (sRet (dSl sliceD (dVar 5) dPo0 (dPo (dVar 2)))) sNop))
theorem b_ln : b__law_net = (sSeq (sIf (dCmp ltD (dVar 1) (dC (.int 2))) (sSeq (sRet (dLst dNil)) sNop) sNop) (sSeq (sAsg (dLst dNil) (.nm 3)) (sSeq (sFor (dIt rng1D (dCons (dVar 1) dNil)) (.nm 4) prB) (sSeq (sAsg (dLc (dIt rng1D (dCons (dCall D__law_draw (dCons (dVar 0) (dCons (dBin addD (dVar 2) (dC (.int 1))) dNil))) dNil)) (.nm 11) dYes (dCall D__law_pick (dCons (dVar 0) (dCons (dVar 3) dNil))) [11]) (.nm 5)) (sSeq (sAsg (dCall D__law_draw (dCons (dVar 0) (dCons (dC (.int 4)) dNil))) (.nm 6)) lnTail))))) := rfl
theorem tail_no {m most w : Nat} {found : Net} {q c d : Option D} {S : SS} (hw : ¬ (w < 3 ∧ m < 6)) : lnTail [q, some (.int m), some (.int most), c, d, some (netD found), some (.int w), none, none, none, none, none] S = .rt (netD (found.take most)) S := by
  have cnd : dAnd (dCmp ltD (dVar 6) (dC (.int 3))) (dCmp ltD (dVar 1) (dC (.int 6))) [q, some (.int m), some (.int most), c, d, some (netD found), some (.int w), none, none, none, none, none] S = .ok false [q, some (.int m), some (.int most), c, d, some (netD found), some (.int w), none, none, none, none, none] S := by
    have h1 := dCmp_eq (g := ltD) (f := dVar 6) (f2 := dC (.int 3)) (ρ := [q, some (.int m), some (.int most), c, d, some (netD found), some (.int w), none, none, none, none, none]) (S := S) (dVar_eq rfl) rfl (show ltD (.int w) (.int 3) = some (decide ((w : Int) < 3)) from rfl)
    have h2 := dCmp_eq (g := ltD) (f := dVar 1) (f2 := dC (.int 6)) (ρ := [q, some (.int m), some (.int most), c, d, some (netD found), some (.int w), none, none, none, none, none]) (S := S) (dVar_eq rfl) rfl (show ltD (.int m) (.int 6) = some (decide ((m : Int) < 6)) from rfl)
    by_cases h3 : (w : Int) < 3
    · have h4 : ¬ (m : Int) < 6 := by omega
      simp [dAnd, h1, h2, h3, h4, Res.bind]
    · simp [dAnd, h1, h2, h3, Res.bind]
  exact (sSeq_nx (sIf_no cnd)).trans (sSeq_rt (sRet_eq (slTo rfl (dVar_eq rfl))))
def sort4 : Net := [(0, 1), (2, 3), (0, 2), (1, 3), (1, 2)]
theorem sort4_good : Good 4 sort4 := by
  intro p hp
  simp [sort4] at hp
  rcases hp with rfl | rfl | rfl | rfl | rfl <;> decide
theorem tail_yes {k m most w : Nat} {found : Net} {q : D} {c d : Option D} {S : SS} (hm : 2 ≤ m ∧ m < 6) (hw : w < 3) (gf : Good m found) (hf : found.length ≤ 100) (st : StOk (k + 2) S) :
    ∃ (net : Net) (S' : SS), lnTail [some q, some (.int m), some (.int most), c, d, some (netD found), some (.int w), none, none, none, none, none] S = .rt (netD (net.take most)) S' ∧ Good m net ∧ StOk k S' := by
  obtain ⟨rs, x, le, gr, hr0, hr1⟩ := ri_loop (m := m) (q := some q) (a := some (.int most)) (b := c) (c := d) (d := some (netD found)) (e := some (.int w)) (S := S) ⟨hm.1, by omega⟩
  have z : 300 ≤ sizeLine := by decide
  have l5 : 5 ≤ sizeLine := by decide
  -- the condition
  have cnd : dAnd (dCmp ltD (dVar 6) (dC (.int 3))) (dCmp ltD (dVar 1) (dC (.int 6))) [some q, some (.int m), some (.int most), c, d, some (netD found), some (.int w), none, none, none, none, none] S = .ok true [some q, some (.int m), some (.int most), c, d, some (netD found), some (.int w), none, none, none, none, none] S := by
    have h1 := dCmp_eq (g := ltD) (f := dVar 6) (f2 := dC (.int 3)) (ρ := [some q, some (.int m), some (.int most), c, d, some (netD found), some (.int w), none, none, none, none, none]) (S := S) (dVar_eq rfl) rfl (show ltD (.int w) (.int 3) = some (decide ((w : Int) < 3)) from rfl)
    have h2 := dCmp_eq (g := ltD) (f := dVar 1) (f2 := dC (.int 6)) (ρ := [some q, some (.int m), some (.int most), c, d, some (netD found), some (.int w), none, none, none, none, none]) (S := S) (dVar_eq rfl) rfl (show ltD (.int m) (.int 6) = some (decide ((m : Int) < 6)) from rfl)
    have h3 : (w : Int) < 3 := by omega
    have h4 : (m : Int) < 6 := by omega
    simp [dAnd, h1, h2, h3, h4, Res.bind]
  -- the second to pick from
  have second : ∃ X : Net, Good m X ∧ 0 < X.length ∧ X.length ≤ 100 ∧ (dIf (dCmp eqD (dVar 1) (dC (.int 4))) (dLst (dCons (dTup (dCons (dC (.int 0)) (dCons (dC (.int 1)) dNil))) (dCons (dTup (dCons (dC (.int 2)) (dCons (dC (.int 3)) dNil))) (dCons (dTup (dCons (dC (.int 0)) (dCons (dC (.int 2)) dNil))) (dCons (dTup (dCons (dC (.int 1)) (dCons (dC (.int 3)) dNil))) (dCons (dTup (dCons (dC (.int 1)) (dCons (dC (.int 2)) dNil))) dNil)))))) (dVar 7)) [some q, some (.int m), some (.int most), c, d, some (netD found), some (.int w), some (netD rs), x, none, none, none] S = .ok (netD X) [some q, some (.int m), some (.int most), c, d, some (netD found), some (.int w), some (netD rs), x, none, none, none] S := by
    have h1 := dCmp_eq (g := eqD) (f := dVar 1) (f2 := dC (.int 4)) (ρ := [some q, some (.int m), some (.int most), c, d, some (netD found), some (.int w), some (netD rs), x, none, none, none]) (S := S) (dVar_eq rfl) rfl (show eqD (.int m) (.int 4) = some ((m : Int) == 4) from rfl)
    by_cases h4 : m = 4
    · subst h4
      refine ⟨sort4, sort4_good, by decide, by decide, ?_⟩
      rw [show (((4 : Nat) : Int) == 4) = true from rfl] at h1
      refine (dIf_t h1).trans (dLst_eq ?_ (show (sort4.map tupP).length ≤ sizeLine from l5))
      have t : ∀ (a b : Int) (ρ : Rho), dTup (dCons (dC (.int a)) (dCons (dC (.int b)) dNil)) ρ S = .ok (.tuple [.int a, .int b]) ρ S := fun a b ρ => dTup_eq (dCons2 rfl rfl) l2
      exact dConsN (t _ _ _) (dConsN (t _ _ _) (dConsN (t _ _ _) (dConsN (t _ _ _) (dCons1 (t _ _ _)))))
    · have e : ((m : Int) == 4) = false := by rw [beq_eq_false_iff_ne]; omega
      rw [e] at h1
      exact ⟨rs, gr, hr0, hr1, (dIf_f h1).trans (dVar_eq rfl)⟩
  obtain ⟨X, gX, hX0, hX1, eX⟩ := second
  obtain ⟨R', hR', S1, e1, st1⟩ := pickE (q := q) (ds := [netD rs, netD X]) (n := k + 1) (S := S) (by simp) st
  have : ∃ R : Net, R' = netD R ∧ Good m R ∧ 0 < R.length ∧ R.length ≤ 100 := by
    simp at hR'
    rcases hR' with rfl | rfl
    · exact ⟨rs, rfl, gr, hr0, hr1⟩
    · exact ⟨X, rfl, gX, hX0, hX1⟩
  obtain ⟨R, rfl, gR, hR0, hR1⟩ := this
  obtain ⟨at_, S2, e2, ha, st2⟩ := drawE (q := q) (m := R.length) (n := k) ⟨hR0, by omega⟩ st1
  -- what is found then
  have fin : ∃ F : Net, Good m F ∧ (dIf (dCmp eqD (dVar 6) (dC (.int 0))) (dVar 7) (dIf (dCmp eqD (dVar 6) (dC (.int 1))) (dBin addD (dSl sliceD (dVar 7) dPo0 (dPo (dVar 9))) (dSl sliceD (dVar 7) (dPo (dBin addD (dVar 9) (dC (.int 1)))) dPo0)) (dBin addD (dBin addD (dSl sliceD (dVar 7) dPo0 (dPo (dVar 9))) (dSl sliceD (dVar 5) dPo0 (dPo (dC (.int 2))))) (dSl sliceD (dVar 7) (dPo (dVar 9)) dPo0)))) [some q, some (.int m), some (.int most), c, d, some (netD found), some (.int w), some (netD R), x, some (.int at_), none, none] S2 = .ok (netD F) [some q, some (.int m), some (.int most), c, d, some (netD found), some (.int w), some (netD R), x, some (.int at_), none, none] S2 := by
    have h0 := dCmp_eq (g := eqD) (f := dVar 6) (f2 := dC (.int 0)) (ρ := [some q, some (.int m), some (.int most), c, d, some (netD found), some (.int w), some (netD R), x, some (.int at_), none, none]) (S := S2) (dVar_eq rfl) rfl (show eqD (.int w) (.int 0) = some ((w : Int) == 0) from rfl)
    have h1 := dCmp_eq (g := eqD) (f := dVar 6) (f2 := dC (.int 1)) (ρ := [some q, some (.int m), some (.int most), c, d, some (netD found), some (.int w), some (netD R), x, some (.int at_), none, none]) (S := S2) (dVar_eq rfl) rfl (show eqD (.int w) (.int 1) = some ((w : Int) == 1) from rfl)
    have pa : ∀ ρ : Rho, ρ[9]? = some (some (.int at_)) → dBin addD (dVar 9) (dC (.int 1)) ρ S2 = .ok (.int ((at_ + 1 : Nat) : Int)) ρ S2 := fun ρ h => dBin_eq (dVar_eq h) rfl (by simp [addD])
    by_cases w0 : w = 0
    · subst w0
      exact ⟨R, gR, (dIf_t h0).trans (dVar_eq rfl)⟩
    · have n0 : ((w : Int) == 0) = false := by rw [beq_eq_false_iff_ne]; omega
      rw [n0] at h0
      by_cases w1 : w = 1
      · subst w1
        refine ⟨R.take at_ ++ R.drop (at_ + 1), good_app (good_take gR _) (good_drop gR _), (dIf_f h0).trans ((dIf_t h1).trans (dBin_eq (slTo rfl (dVar_eq rfl)) (slFrom rfl (pa _ rfl)) (addN ?_)))⟩
        simp; omega
      · have n1 : ((w : Int) == 1) = false := by rw [beq_eq_false_iff_ne]; omega
        rw [n1] at h1
        refine ⟨R.take at_ ++ found.take 2 ++ R.drop at_, good_app (good_app (good_take gR _) (good_take gf _)) (good_drop gR _), (dIf_f h0).trans ((dIf_f h1).trans (dBin_eq (dBin_eq (slTo rfl (dVar_eq rfl)) (slTo (k := 2) rfl rfl) (addN ?_)) (slFrom rfl (dVar_eq rfl)) (addN ?_)))⟩
        · simp; omega
        · simp; omega
  obtain ⟨F, gF, eF⟩ := fin
  refine ⟨F, S2, ?_, gF, st2⟩
  have m1 : dBin subD (dVar 1) (dC (.int 1)) [some q, some (.int m), some (.int most), c, d, some (netD found), some (.int w), some (netD []), none, none, none, none] S = .ok (.int ((m - 1 : Nat) : Int)) [some q, some (.int m), some (.int most), c, d, some (netD found), some (.int w), some (netD []), none, none, none, none] S :=
    dBin_eq (dVar_eq rfl) rfl (by show some (PyData.int ((m : Int) - 1)) = _; congr 2; omega)
  refine (sSeq_nx (ρ1 := [some q, some (.int m), some (.int most), c, d, some (netD F), some (.int w), some (netD R), x, some (.int at_), none, none]) (S1 := S2) ?_).trans (sSeq_rt (sRet_eq (slTo rfl (dVar_eq rfl))))
  rw [sIf_t cnd]
  refine (sSeq_nx (sAsg_eq (ρ2 := [some q, some (.int m), some (.int most), c, d, some (netD found), some (.int w), some (netD []), none, none, none, none]) dLst_nil rfl)).trans ?_
  refine (sSeq_nx ((sFor_eq (dIt_rng1 m1 (by omega))).trans le)).trans ?_
  refine (sSeq_nx (sAsg_eq (ρ2 := [some q, some (.int m), some (.int most), c, d, some (netD found), some (.int w), some (netD R), x, none, none, none]) (dCall_eq (dCons2 (dVar_eq rfl) (dLst_eq (dCons2 (dVar_eq rfl) eX) l2)) e1) rfl)).trans ?_
  refine (sSeq_nx (sAsg_eq (ρ2 := [some q, some (.int m), some (.int most), c, d, some (netD found), some (.int w), some (netD R), x, some (.int at_), none, none]) (dCall_eq (dCons2 (dVar_eq rfl) (dPrim1 (dVar_eq rfl) (by rw [netD, lenD_list, List.length_map]))) e2) rfl)).trans ?_
  exact (sSeq_nx (sAsg_eq eF rfl)).trans rfl
/-- THE DRAWN NET -/
theorem law_net_eq {k m most : Nat} {q : D} {S : SS} (hm : 1 ≤ m ∧ m ≤ 6) (hmost : most ≤ 50) (st : StOk (k + most + 4) S) :
    ∃ (net : Net) (S' : SS), D__law_net [q, .int m, .int most] S = .ok (netD net) [] S' ∧ Good m net ∧ net.length ≤ most ∧ StOk k S' := by
  have h1 := dCmp_eq (g := ltD) (f := dVar 1) (f2 := dC (.int 2)) (ρ := [some q, some (.int m), some (.int most), none, none, none, none, none, none, none, none, none]) (S := S) (dVar_eq rfl) rfl (show ltD (.int m) (.int 2) = some (decide ((m : Int) < 2)) from rfl)
  by_cases h2 : m < 2
  · refine ⟨[], S, defD_rt (show b__law_net [some q, some (.int m), some (.int most), none, none, none, none, none, none, none, none, none] S = _ from ?_), by intro p hp; simp at hp, by simp, st.le (by omega)⟩
    rw [show decide ((m : Int) < 2) = true by simp; omega] at h1
    rw [b_ln]
    exact sSeq_rt ((sIf_t h1).trans (sSeq_rt (sRet_eq dLst_nil)))
  · rw [show decide ((m : Int) < 2) = false by simp; omega] at h1
    obtain ⟨ps, x, e, gp, hp0, hp1⟩ := pr_loop (m := m) (q := some q) (a := some (.int most)) (S := S) ⟨by omega, hm.2⟩
    obtain ⟨r, S1, e1, hr, st1⟩ := drawE (q := q) (m := most + 1) (n := k + most + 3) (by omega) (st.le (by omega))
    obtain ⟨ys, S2, e2, hp, st2⟩ := lcL_draw (t := .nm 11) (c := dYes) (f := dCall D__law_pick (dCons (dVar 0) (dCons (dVar 3) dNil))) (ρ := [some q, some (.int m), some (.int most), some (netD ps), x, none, none, none, none, none, none, none]) (S := S1) (fun i S => StOk (k + most + 3 - i) S) (fun _ y => ∃ p : Nat × Nat, y = tupP p ∧ p.1 < p.2 ∧ p.2 < m) (ds := rangeD 0 (r : Nat)) (fun i d S hd hi => by
      obtain ⟨hi', rfl⟩ := range_get hd
      obtain ⟨p, g1, S3, e3, st3⟩ := pick_net (q := q) (n := k + most + 3 - (i + 1)) gp ⟨hp0, by omega⟩ (hi.le (by omega))
      exact ⟨[some q, some (.int m), some (.int most), some (netD ps), x, none, none, none, none, none, none, some (.int i)], rfl, ⟨_, rfl⟩, tupP p, _, S3, dCall_eq (dCons2 (dVar_eq rfl) (dVar_eq rfl)) e3, ⟨p, rfl, g1⟩, st3⟩) (by simpa using st1)
    have hlen := paired_len hp
    rw [range_len] at hlen st2
    obtain ⟨found, rfl, gf⟩ := picks_net hp
    have hfl : found.length = r := by simpa using hlen
    obtain ⟨w, S3, e3, hw, st3⟩ := drawE (q := q) (m := 4) (n := k + 2) (by decide) (st2.le (by omega))
    have pre : ∀ d S', lnTail [some q, some (.int m), some (.int most), some (netD ps), x, some (netD found), some (.int w), none, none, none, none, none] S3 = .rt d S' → D__law_net [q, .int m, .int most] S = .ok d [] S' := fun d S' h => by
      refine defD_rt (show b__law_net [some q, some (.int m), some (.int most), none, none, none, none, none, none, none, none, none] S = _ from ?_)
      rw [b_ln]
      refine (sSeq_nx (sIf_no h1)).trans ((sSeq_nx (sAsg_eq (ρ2 := [some q, some (.int m), some (.int most), some (netD []), none, none, none, none, none, none, none, none]) dLst_nil rfl)).trans ?_)
      refine (sSeq_nx ((sFor_eq (dIt_rng1 (dVar_eq rfl) (by omega))).trans e)).trans ?_
      have e1' : dCall D__law_draw (dCons (dVar 0) (dCons (dBin addD (dVar 2) (dC (.int 1))) dNil)) [some q, some (.int m), some (.int most), some (netD ps), x, none, none, none, none, none, none, none] S = .ok (.int (r : Nat)) [some q, some (.int m), some (.int most), some (netD ps), x, none, none, none, none, none, none, none] S1 :=
        dCall_eq (dCons2 (dVar_eq rfl) (dBin_eq (dVar_eq rfl) rfl (show addD (.int most) (.int 1) = some (.int ((most + 1 : Nat) : Int)) by simp [addD]))) e1
      refine (sSeq_nx (sAsg_eq (ρ2 := [some q, some (.int m), some (.int most), some (netD ps), x, some (netD found), none, none, none, none, none, none]) (dLc_eq (dIt_rng1 e1' (by omega)) (by rw [range_len]; exact Nat.le_trans (show r ≤ 100 by omega) (by decide)) e2) rfl)).trans ?_
      exact (sSeq_nx (sAsg_eq (ρ2 := [some q, some (.int m), some (.int most), some (netD ps), x, some (netD found), some (.int w), none, none, none, none, none]) (dCall_eq (dCons2 (dVar_eq rfl) rfl) e3) rfl)).trans h
    by_cases hc : w < 3 ∧ m < 6
    · obtain ⟨net, S', e4, gn, st4⟩ := tail_yes (k := k) (most := most) (found := found) (q := q) (c := some (netD ps)) (d := x) ⟨by omega, hc.2⟩ hc.1 gf (by omega) st3
      exact ⟨net.take most, S', pre _ _ e4, good_take gn _, by simp; omega, st4⟩
    · exact ⟨found.take most, S3, pre _ _ (tail_no hc), good_take gf _, by simp; omega, st3.le (by omega)⟩
end K72

namespace K72
open PySem L2 PD
theorem net_rok {m n : Nat} {net : Net} {d : D} (g : Good m net) (hm : m ≤ 6) (hn : net.length ≤ n) (h : NetArg net d) : ROk 2 (n * (2 * (0 + 1) + 1)) d := by
  obtain ⟨ds, h1, h2⟩ := h
  have hi : ∀ x ∈ ds, ROk 1 (2 * (0 + 1)) x := fun x hx => by
    obtain ⟨p, hp, hx⟩ := paired_mem h2 hx
    obtain ⟨g1, g2⟩ := g p hp
    have hz : ∀ y ∈ [PyData.int (p.1 : Int), .int (p.2 : Int)], ROk 0 0 y := fun y hy => by
      simp at hy
      rcases hy with rfl | rfl
      · exact rok_int (by omega)
      · exact rok_int (by omega)
    rcases hx with rfl | rfl
    · exact rok_tuple hz (by simp)
    · exact rok_list hz (by simp)
  have hl : ds.length ≤ n := by rw [paired_len h2]; exact hn
  rcases h1 with rfl | rfl
  · exact rok_list hi hl
  · exact rok_tuple hi hl
theorem rok_shaped {k b : Nat} {d : D} (h : ROk k b d) (hk : k ≤ 10) : SeqAt.shaped d = true := by
  have := h.dp
  simp [SeqAt.shaped, h.lay]
  omega
theorem ne_nil {m : Nat} {net : Net} (g : Good m net) (hm : m ≤ 6) : neD (netD net) (.list []) = some (!net.isEmpty) := by
  have e : eqD (netD net) (.list []) = if SeqAt.shaped (netD net) && SeqAt.shaped (.list []) then some (PyData.eqv (netD net) (.list [])) else none := rfl
  have h2 : SeqAt.shaped (.list []) = true := shaped_rows []
  unfold neD
  rw [e, rok_shaped (net_rok g hm (Nat.le_refl _) (netArg_D net)) (by decide), h2]
  cases net <;> simp [netD, PyData.eqv, PyData.eqvAll]
theorem dAnd_t {f g : Den Bool} {ρ : Rho} {S S1 : SS} (h1 : f ρ S = .ok true ρ S1) : dAnd f g ρ S = g ρ S1 := by
  simp [dAnd, h1, Res.bind]
theorem dAnd_f {f g : Den Bool} {ρ : Rho} {S S1 : SS} (h1 : f ρ S = .ok false ρ S1) : dAnd f g ρ S = .ok false ρ S1 := by
  simp [dAnd, h1, Res.bind]
/-! the rest of a net, by indexes -/
def enumP : Nat → Net → List (Nat × (Nat × Nat))
  | _, [] => []
  | k, p :: net => (k, p) :: enumP (k + 1) net
theorem enumP_D : ∀ (k : Nat) (net : Net), enumD (net.map tupP) k = (enumP k net).map fun q => .tuple [.int (q.1 : Int), tupP q.2]
  | _, [] => rfl
  | k, p :: net => by simp [enumD, enumP, enumP_D (k + 1) net]
theorem enumP_rest (due : List Nat) : ∀ (k : Nat) (net : Net), ((enumP k net).filter fun q => !due.contains q.1).map (·.2) = restF due k net
  | _, [] => rfl
  | k, p :: net => by
    have ih := enumP_rest due (k + 1) net
    unfold enumP restF
    by_cases h : due.contains k = true
    · rw [List.filter_cons_of_neg (by show ¬ ((!due.contains k) = true); rw [h]; simp), if_pos h]; exact ih
    · rw [List.filter_cons_of_pos (by simpa using h), if_neg h, List.map_cons, ih]
theorem enumP_len : ∀ (k : Nat) (net : Net), (enumP k net).length = net.length
  | _, [] => rfl
  | k, p :: net => by simp [enumP, enumP_len (k + 1) net]
theorem notin_idx (due : List Nat) (k : Nat) : notInD (.int (k : Int)) (idxD due) = some (!due.contains k) := by
  have h1 : (due.map fun (k : Nat) => PyData.int (k : Int)).all flatD = true := by
    rw [List.all_eq_true]
    intro d hd
    obtain ⟨j, _, rfl⟩ := List.mem_map.mp hd
    rfl
  have h2 : inD (.int (k : Int)) (idxD due) = some (due.contains k) := by
    show (if flatD (.int (k : Int)) && (due.map fun (k : Nat) => PyData.int (k : Int)).all flatD then some ((due.map fun (k : Nat) => PyData.int (k : Int)).any fun z => PyData.eqv z (.int (k : Int))) else _) = _
    rw [h1]
    simp only [flatD, Bool.and_self, if_true]
    congr 1
    rw [List.any_map, Bool.eq_iff_iff, List.any_eq_true]
    constructor
    · rintro ⟨j, hj, h⟩
      simp [PyData.eqv] at h
      have : j = k := by omega
      subst this
      simpa using hj
    · intro h
      exact ⟨k, by simpa using h, by simp [PyData.eqv]⟩
  unfold notInD
  rw [h2]; rfl
theorem idx_plain {n : Nat} {ks : List Nat} (h : ks.length ≤ sizeLine) : PlainL (n + 2) (idxD ks) := by
  refine PlainL.list (by simpa using h) fun x hx => ?_
  obtain ⟨j, _, rfl⟩ := List.mem_map.mp hx
  exact PlainL.flat rfl
theorem idx_plain' {n : Nat} {ks : List Nat} (h : ks.length ≤ sizeLine) : Plain (n + 2) (idxD ks) := by
  refine Plain.list (by simpa using h) fun x hx => ?_
  obtain ⟨j, _, rfl⟩ := List.mem_map.mp hx
  exact Plain.flat rfl
theorem row_plain {n : Nat} {r : List Int} (h : r.length ≤ sizeLine) : PlainL (n + 2) (rowD r) := by
  refine PlainL.list (by simpa using h) fun x hx => ?_
  obtain ⟨j, _, rfl⟩ := List.mem_map.mp hx
  exact PlainL.flat rfl
theorem needF_len (m : Nat) (net : Net) : (needF m net).length ≤ net.length := by
  unfold needF
  exact Nat.le_trans (List.length_filter_le _ _) (by simp)
theorem idx_flat (ks : List Nat) : (ks.map fun (k : Nat) => PyData.int (k : Int)).all flatD = true := by
  rw [List.all_eq_true]
  intro d hd
  obtain ⟨j, _, rfl⟩ := List.mem_map.mp hd
  rfl
theorem picks_row : ∀ {ds ys : List D}, Paired (fun _ y => ∃ z : Int, y = .int z) ds ys → ∃ r : List Int, ys = r.map PyData.int
  | _, _, .nil => ⟨[], rfl⟩
  | _, _, .cons a r => by
    obtain ⟨z, rfl⟩ := a
    obtain ⟨net, rfl⟩ := picks_row r
    exact ⟨z :: net, rfl⟩
/-- the places of a net -/
theorem places_eq {m : Nat} {net : Net} (g : Good m net) (hm : 0 < m) : ∃ pl : Nat, maxD [.list (net.map (fun p : Nat × Nat => PyData.int ((p.2 : Int) + 1)) ++ [.int 1])] = some (.int (pl : Int)) ∧ 0 < pl ∧ pl ≤ m ∧ Good pl net := by
  have e : (net.map (fun p : Nat × Nat => PyData.int ((p.2 : Int) + 1)) ++ [.int 1]) = (net.map (fun p : Nat × Nat => ((p.2 : Int) + 1)) ++ [1]).map PyData.int := by simp
  obtain ⟨h1, h2⟩ := maxI_spec (ns := net.map (fun p : Nat × Nat => ((p.2 : Int) + 1)) ++ [1]) (by simp)
  refine ⟨(maxI (net.map (fun p : Nat × Nat => ((p.2 : Int) + 1)) ++ [1])).toNat, ?_, ?_, ?_, ?_⟩
  · have h0 : 0 ≤ maxI (net.map (fun p : Nat × Nat => ((p.2 : Int) + 1)) ++ [1]) := Int.le_trans (by decide) (h2 1 (by simp))
    rw [Int.toNat_of_nonneg h0, e]
    show Option.bind (intsD _) _ = _
    rw [intsD_map]
    simp
  · have := h2 1 (by simp); omega
  · rcases List.mem_append.mp h1 with h | h
    · obtain ⟨p, hp, h⟩ := List.mem_map.mp h
      have := (g p hp).2; omega
    · simp at h; omega
  · intro p hp
    have := h2 ((p.2 : Int) + 1) (List.mem_append.mpr (.inl (List.mem_map.mpr ⟨p, hp, rfl⟩)))
    exact ⟨(g p hp).1, by omega⟩
theorem mul_rep {x : D} {n : Nat} (h : n ≤ 100) : mulD (.list [x]) (.int (n : Int)) = some (.list (List.replicate n x)) := by
  have h1 : (n : Int) < 9223372036854775808 := by omega
  have h2 : (-9223372036854775808 : Int) ≤ n := by omega
  have h3 : n ≤ sizeLine := Nat.le_trans h (by decide)
  simp [mulD, h1, h2, h3, List.flatten_replicate_singleton]
def againB : SDen := (sSeq (sAsg (dLc (dIt rng1D (dCons (dVar 3) dNil)) (.nm 20) dYes (dBin subD (dCall D__law_draw (dCons (dVar 1) (dCons (dC (.int 7)) dNil))) (dC (.int 3))) [20]) (.nm 13)) (sSeq (sIf (dNot (dT (dCall (D__law_same 8) (dCons (dLst (dCons (dCall D_net_row (dCons (dVar 3) (dCons (dVar 6) (dCons (dPrimL listD (dCons (dVar 13) dNil)) dNil)))) (dCons (dCall D_net_row (dCons (dVar 3) (dCons (dCall (D__law_copied 8) (dCons (dVar 11) dNil)) (dCons (dPrimL listD (dCons (dVar 13) dNil)) dNil)))) dNil))) (dCons (dBin mulD (dLst (dCons (dCall D__law_run (dCons (dVar 4) (dCons (dVar 13) dNil))) dNil)) (dC (.int 2))) dNil))))) (sSeq (sRet (dC (.bool false))) sNop) sNop) sNop))
def lawB : SDen := (sSeq (sAsg (dBin addD (dC (.int 1)) (dCall D__law_draw (dCons (dVar 1) (dCons (dC (.int 6)) dNil)))) (.nm 3)) (sSeq (sAsg (dCall D__law_net (dCons (dVar 1) (dCons (dVar 3) (dCons (dC (.int 12)) dNil)))) (.nm 4)) (sSeq (sIf (dAnd (dCmp neD (dVar 4) (dLst dNil)) (dAnd (dCmp ltD (dPrim lenD (dCons (dVar 4) dNil)) (dC (.int 11))) (dCmp eqD (dCall D__law_draw (dCons (dVar 1) (dCons (dC (.int 2)) dNil))) (dC (.int 0))))) (sSeq (sAsg (dCall D__law_draw (dCons (dVar 1) (dCons (dPrim lenD (dCons (dVar 4) dNil)) dNil))) (.nm 5)) (sSeq (sAsg (dBin addD (dBin addD (dSl sliceD (dVar 4) dPo0 (dPo (dVar 5))) (dLst (dCons (dBin ixD (dVar 4) (dVar 5)) dNil))) (dSl sliceD (dVar 4) (dPo (dVar 5)) dPo0)) (.nm 4)) sNop)) sNop) (sSeq (sPar (dCons (dCall D__law_handed (dCons (dVar 1) (dCons (dVar 4) dNil))) (dCons (dCall D__law_needless (dCons (dVar 3) (dCons (dVar 4) dNil))) dNil)) [6, 7]) (sSeq (sPar (dCons (dPrim reprD (dCons (dVar 6) dNil)) (dCons (dFlat (dCall D_needless (dCons (dVar 3) (dCons (dVar 6) dNil)))) dNil)) [8, 9]) (sSeq (sAsg (dCall (D__law_copied 8) (dCons (dVar 9) dNil)) (.nm 10)) (sSeq (sSpoil 9) (sSeq (sIf (dNot (dT (dCall (D__law_same 8) (dCons (dLst (dCons (dVar 10) (dCons (dCall D_needless (dCons (dVar 3) (dCons (dVar 6) dNil))) (dCons (dCall D_needless (dPerm [1, 0] (dCons (dCall (D__law_copied 8) (dCons (dVar 4) dNil)) (dCons (dVar 3) dNil)))) dNil)))) (dCons (dBin mulD (dLst (dCons (dVar 7) dNil)) (dC (.int 3))) dNil))))) (sSeq (sRet (dC (.bool false))) sNop) sNop) (sSeq (sAsg (dLc (dIt enumA (dCons (dVar 4) dNil)) (.tup [(.nm 18), (.nm 19)]) (dCmp notInD (dVar 18) (dVar 7)) (dVar 19) [18, 19]) (.nm 11)) (sSeq (sIf (dNot (dT (dCall (D__law_same 8) (dCons (dCall D_needless (dCons (dVar 3) (dCons (dCall D__law_handed (dCons (dVar 1) (dCons (dVar 11) dNil))) dNil))) (dCons (dLst dNil) dNil))))) (sSeq (sRet (dC (.bool false))) sNop) sNop) (sSeq (sFor (dIt rng1D (dCons (dC (.int 4)) dNil)) (.nm 12) againB) (sSeq (sAsg (dCall D__law_net (dCons (dVar 1) (dCons (dBin addD (dC (.int 1)) (dCall D__law_draw (dCons (dVar 1) (dCons (dC (.int 4)) dNil)))) (dCons (dIf (dCmp eqD (dVar 2) (dC (.int 0))) (dC (.int 10)) (dC (.int 7))) dNil)))) (.nm 14)) (sSeq (sAsg (dPrim maxD (dCons (dBin addD (dLc (dSeq (dVar 14)) (.tup [(.nm 21), (.nm 22)]) dYes (dBin addD (dVar 22) (dC (.int 1))) [21, 22]) (dLst (dCons (dC (.int 1)) dNil))) dNil)) (.nm 15)) (sSeq (sAsg (dCall D__law_fewest (dCons (dVar 15) (dCons (dVar 14) dNil))) (.nm 16)) (sSeq (sIf (dOr (dNot (dT (dCall (D__law_same 8) (dCons (dLst (dCons (dCall D_fewest_left (dCons (dVar 15) (dCons (dCall D__law_handed (dCons (dVar 1) (dCons (dVar 14) dNil))) dNil))) (dCons (dCall D_fewest_left (dPerm [1, 0] (dCons (dCall (D__law_copied 8) (dCons (dVar 14) dNil)) (dCons (dVar 15) dNil)))) dNil))) (dCons (dLst (dCons (dVar 16) (dCons (dVar 16) dNil))) dNil))))) (dCmp neD (dPrim reprD (dCons (dVar 6) dNil)) (dVar 8))) (sSeq (sRet (dC (.bool false))) sNop) sNop) sNop)))))))))))))))
theorem b_law_is : b_law = (sSeq (sFor (dIt rng1D (dCons (dC (.int 5)) dNil)) (.nm 2) lawB) (sSeq (sAsg (dLst (dCons (dTup (dCons (dC (.int 0)) (dCons (dC (.int 1)) dNil))) (dCons (dTup (dCons (dC (.int 0)) (dCons (dC (.int 1)) dNil))) (dCons (dTup (dCons (dC (.int 1)) (dCons (dC (.int 2)) dNil))) (dCons (dTup (dCons (dC (.int 0)) (dCons (dC (.int 1)) dNil))) dNil))))) (.nm 17)) (sSeq (sRet (dCall (D__law_same 8) (dCons (dLst (dCons (dCall D_needless (dCons (dC (.int 3)) (dCons (dVar 17) dNil))) (dCons (dCall D_fewest_left (dCons (dC (.int 3)) (dCons (dVar 17) dNil))) (dCons (dCall D_fewest_left (dCons (dC (.int 2)) (dCons (dLst dNil) dNil))) (dCons (dCall D_fewest_left (dCons (dC (.int 1)) (dCons (dLst dNil) dNil))) dNil))))) (dCons (dLst (dCons (dLst (dCons (dC (.int 1)) dNil)) (dCons (dC (.int 3)) (dCons (dC .none) (dCons (dC (.int 0)) dNil))))) dNil)))) sNop))) := rfl
end K72

namespace K72
open PySem L2 PD
theorem one_add {m : Nat} (h : 1 ≤ m) : addD (.int 1) (.int ((m - 1 : Nat) : Int)) = some (.int m) := by
  show some (PyData.int (1 + ((m - 1 : Nat) : Int))) = _
  congr 2; omega
theorem again_body {k m : Nat} {net rest : Net} {ask : D} {x0 x2 x5 x7 x8 x9 x10 x12 x13 x14 x15 x16 x17 x18 x19 x20 x21 x22 : Option D} {S : SS} (hm : 1 ≤ m ∧ m ≤ 6) (g : Good m net) (gr : Good m rest) (hn : net.length ≤ 50) (hr : rest.length ≤ 50) (ha : NetArg net ask)
    (same : ∀ r : List Int, r.length = m → runL rest r = runL net r) (st : StOk (k + 6) S) :
    ∃ (y13 : Option D) (S' : SS), againB [x0, some .none, x2, some (.int m), some (netD net), x5, some ask, x7, x8, x9, x10, some (netD rest), x12, x13, x14, x15, x16, x17, x18, x19, x20, x21, x22] S = .nx [x0, some .none, x2, some (.int m), some (netD net), x5, some ask, x7, x8, x9, x10, some (netD rest), x12, y13, x14, x15, x16, x17, x18, x19, x20, x21, x22] S' ∧ StOk k S' := by
  have z100 : 100 < sizeLine := by decide
  obtain ⟨ys, S1, e1, hp, st1⟩ := lcL_draw (t := .nm 20) (c := dYes) (f := dBin subD (dCall D__law_draw (dCons (dVar 1) (dCons (dC (.int 7)) dNil))) (dC (.int 3))) (ρ := [x0, some .none, x2, some (.int m), some (netD net), x5, some ask, x7, x8, x9, x10, some (netD rest), x12, x13, x14, x15, x16, x17, x18, x19, none, x21, x22]) (S := S) (fun i S => StOk (k + 6 - i) S) (fun _ y => ∃ z : Int, y = .int z) (ds := rangeD 0 (m : Nat)) (fun i d S hd hi => by
    obtain ⟨hi', rfl⟩ := range_get hd
    obtain ⟨r, S3, e3, _, st3⟩ := drawE (q := .none) (m := 7) (n := k + 6 - (i + 1)) (by decide) (hi.le (by omega))
    exact ⟨[x0, some .none, x2, some (.int m), some (netD net), x5, some ask, x7, x8, x9, x10, some (netD rest), x12, x13, x14, x15, x16, x17, x18, x19, some (.int i), x21, x22], rfl, ⟨_, rfl⟩, .int ((r : Int) - 3), _, S3, dBin_eq (dCall_eq (dCons2 (dVar_eq rfl) rfl) e3) rfl rfl, ⟨_, rfl⟩, st3⟩) (by simpa using st)
  have hlen := paired_len hp
  rw [range_len] at hlen st1
  obtain ⟨row, rfl⟩ := picks_row hp
  have hrow : row.length = m := by simpa using hlen
  refine ⟨some (rowD row), S1, ?_, st1.le (by omega)⟩
  have l1' : (dPrimL listD (dCons (dVar 13) dNil)) [x0, some .none, x2, some (.int m), some (netD net), x5, some ask, x7, x8, x9, x10, some (netD rest), x12, some (rowD row), x14, x15, x16, x17, x18, x19, x20, x21, x22] S1 = .ok (rowD row) [x0, some .none, x2, some (.int m), some (netD net), x5, some ask, x7, x8, x9, x10, some (netD rest), x12, some (rowD row), x14, x15, x16, x17, x18, x19, x20, x21, x22] S1 := dPrimL1 (dVar_eq rfl) (listD_list (row.map PyData.int))
  have n1 : dCall D_net_row (dCons (dVar 3) (dCons (dVar 6) (dCons (dPrimL listD (dCons (dVar 13) dNil)) dNil))) [x0, some .none, x2, some (.int m), some (netD net), x5, some ask, x7, x8, x9, x10, some (netD rest), x12, some (rowD row), x14, x15, x16, x17, x18, x19, x20, x21, x22] S1 = .ok (rowD (runL net row)) [x0, some .none, x2, some (.int m), some (netD net), x5, some ask, x7, x8, x9, x10, some (netD rest), x12, some (rowD row), x14, x15, x16, x17, x18, x19, x20, x21, x22] S1 :=
    dCall_eq (dConsN (dVar_eq rfl) (dCons2 (dVar_eq rfl) l1')) (net_row_eq (by omega) ha g (by omega) hrow (by omega))
  have n2 : dCall D_net_row (dCons (dVar 3) (dCons (dCall (D__law_copied 8) (dCons (dVar 11) dNil)) (dCons (dPrimL listD (dCons (dVar 13) dNil)) dNil))) [x0, some .none, x2, some (.int m), some (netD net), x5, some ask, x7, x8, x9, x10, some (netD rest), x12, some (rowD row), x14, x15, x16, x17, x18, x19, x20, x21, x22] S1 = .ok (rowD (runL net row)) [x0, some .none, x2, some (.int m), some (netD net), x5, some ask, x7, x8, x9, x10, some (netD rest), x12, some (rowD row), x14, x15, x16, x17, x18, x19, x20, x21, x22] S1 := by
    rw [← same row hrow]
    exact dCall_eq (dConsN (dVar_eq rfl) (dCons2 (dCall_eq (dCons1 (dVar_eq rfl)) (copiedE (net_plain (n := 5) (by omega)))) l1')) (net_row_eq (by omega) (netArg_D rest) gr (by omega) hrow (by omega))
  have n3 : dBin mulD (dLst (dCons (dCall D__law_run (dCons (dVar 4) (dCons (dVar 13) dNil))) dNil)) (dC (.int 2)) [x0, some .none, x2, some (.int m), some (netD net), x5, some ask, x7, x8, x9, x10, some (netD rest), x12, some (rowD row), x14, x15, x16, x17, x18, x19, x20, x21, x22] S1 = .ok (.list [rowD (runL net row), rowD (runL net row)]) [x0, some .none, x2, some (.int m), some (netD net), x5, some ask, x7, x8, x9, x10, some (netD rest), x12, some (rowD row), x14, x15, x16, x17, x18, x19, x20, x21, x22] S1 :=
    dBin_eq (dLst_eq (dCons1 (dCall_eq (dCons2 (dVar_eq rfl) (dVar_eq rfl)) (law_run_eq hrow g))) l1) rfl (mul_rep (n := 2) (by decide))
  have pl : PlainL 8 (.list [rowD (runL net row), rowD (runL net row)]) := PlainL.list l2 fun x hx => by
    have : x = rowD (runL net row) := by simpa using hx
    subst this
    exact row_plain (n := 5) (by rw [runL_length]; omega)
  have sm := dNot_eq (dT_eq (dCall_eq (dCons2 (dLst_eq (dCons2 n1 n2) l2) n3) (sameE pl)))
  refine (sSeq_nx (sAsg_eq (ρ2 := [x0, some .none, x2, some (.int m), some (netD net), x5, some ask, x7, x8, x9, x10, some (netD rest), x12, some (rowD row), x14, x15, x16, x17, x18, x19, x20, x21, x22]) (dLc_eq (dIt_rng1 (dVar_eq rfl) (by omega)) (by rw [range_len]; omega) e1) rfl)).trans ?_
  exact (sSeq_nx (sIf_no sm)).trans rfl

theorem turn_body {k t : Nat} {x0 x3 x4 x5 x6 x7 x8 x9 x10 x11 x12 x13 x14 x15 x16 x17 x18 x19 x20 x21 x22 : Option D} {S : SS} (st : StOk (k + 120) S) :
    ∃ (y3 y4 y5 y6 y7 y8 y9 y10 y11 y12 y13 y14 y15 y16 : Option D) (S' : SS), lawB [x0, some .none, some (.int t), x3, x4, x5, x6, x7, x8, x9, x10, x11, x12, x13, x14, x15, x16, x17, x18, x19, x20, x21, x22] S = .nx [x0, some .none, some (.int t), y3, y4, y5, y6, y7, y8, y9, y10, y11, y12, y13, y14, y15, y16, x17, x18, x19, x20, x21, x22] S' ∧ StOk k S' := by
  have z100 : 100 < sizeLine := by decide
  -- many
  obtain ⟨r, S1, e1, hr, st1⟩ := drawE (q := .none) (m := 6) (n := k + 119) (by decide) (st.le (by omega))
  obtain ⟨m, hm, rfl⟩ : ∃ m, (1 ≤ m ∧ m ≤ 6) ∧ r = m - 1 := ⟨r + 1, by omega, by omega⟩
  have a3 : dBin addD (dC (.int 1)) (dCall D__law_draw (dCons (dVar 1) (dCons (dC (.int 6)) dNil))) [x0, some .none, some (.int t), x3, x4, x5, x6, x7, x8, x9, x10, x11, x12, x13, x14, x15, x16, x17, x18, x19, x20, x21, x22] S = .ok (.int m) [x0, some .none, some (.int t), x3, x4, x5, x6, x7, x8, x9, x10, x11, x12, x13, x14, x15, x16, x17, x18, x19, x20, x21, x22] S1 :=
    dBin_eq rfl (dCall_eq (dCons2 (dVar_eq rfl) rfl) e1) (one_add hm.1)
  -- net
  obtain ⟨net0, S2, e2, g0, hn0, st2⟩ := law_net_eq (k := k + 100) (m := m) (most := 12) (q := .none) (S := S1) hm (by decide) (st1.le (by omega))
  have a4 : dCall D__law_net (dCons (dVar 1) (dCons (dVar 3) (dCons (dC (.int 12)) dNil))) [x0, some .none, some (.int t), some (.int m), x4, x5, x6, x7, x8, x9, x10, x11, x12, x13, x14, x15, x16, x17, x18, x19, x20, x21, x22] S1 = .ok (netD net0) [x0, some .none, some (.int t), some (.int m), x4, x5, x6, x7, x8, x9, x10, x11, x12, x13, x14, x15, x16, x17, x18, x19, x20, x21, x22] S2 :=
    dCall_eq (dConsN (dVar_eq rfl) (dCons2 (dVar_eq rfl) rfl)) e2
  -- an exchange twice
  have twice : ∃ (net : Net) (y5 : Option D) (S3 : SS), (sIf (dAnd (dCmp neD (dVar 4) (dLst dNil)) (dAnd (dCmp ltD (dPrim lenD (dCons (dVar 4) dNil)) (dC (.int 11))) (dCmp eqD (dCall D__law_draw (dCons (dVar 1) (dCons (dC (.int 2)) dNil))) (dC (.int 0))))) (sSeq (sAsg (dCall D__law_draw (dCons (dVar 1) (dCons (dPrim lenD (dCons (dVar 4) dNil)) dNil))) (.nm 5)) (sSeq (sAsg (dBin addD (dBin addD (dSl sliceD (dVar 4) dPo0 (dPo (dVar 5))) (dLst (dCons (dBin ixD (dVar 4) (dVar 5)) dNil))) (dSl sliceD (dVar 4) (dPo (dVar 5)) dPo0)) (.nm 4)) sNop)) sNop) [x0, some .none, some (.int t), some (.int m), some (netD net0), x5, x6, x7, x8, x9, x10, x11, x12, x13, x14, x15, x16, x17, x18, x19, x20, x21, x22] S2 = .nx [x0, some .none, some (.int t), some (.int m), some (netD net), y5, x6, x7, x8, x9, x10, x11, x12, x13, x14, x15, x16, x17, x18, x19, x20, x21, x22] S3 ∧ Good m net ∧ net.length ≤ 12 ∧ StOk (k + 90) S3 := by
    have c1 : dCmp neD (dVar 4) (dLst dNil) [x0, some .none, some (.int t), some (.int m), some (netD net0), x5, x6, x7, x8, x9, x10, x11, x12, x13, x14, x15, x16, x17, x18, x19, x20, x21, x22] S2 = .ok (!net0.isEmpty) [x0, some .none, some (.int t), some (.int m), some (netD net0), x5, x6, x7, x8, x9, x10, x11, x12, x13, x14, x15, x16, x17, x18, x19, x20, x21, x22] S2 := dCmp_eq (dVar_eq rfl) dLst_nil (ne_nil g0 hm.2)
    have c2 : dCmp ltD (dPrim lenD (dCons (dVar 4) dNil)) (dC (.int 11)) [x0, some .none, some (.int t), some (.int m), some (netD net0), x5, x6, x7, x8, x9, x10, x11, x12, x13, x14, x15, x16, x17, x18, x19, x20, x21, x22] S2 = .ok (decide ((net0.length : Int) < 11)) [x0, some .none, some (.int t), some (.int m), some (netD net0), x5, x6, x7, x8, x9, x10, x11, x12, x13, x14, x15, x16, x17, x18, x19, x20, x21, x22] S2 := dCmp_eq (dPrim1 (dVar_eq rfl) (by rw [netD, lenD_list, List.length_map])) rfl rfl
    have no : ∀ S', StOk (k + 90) S' → (dAnd (dCmp neD (dVar 4) (dLst dNil)) (dAnd (dCmp ltD (dPrim lenD (dCons (dVar 4) dNil)) (dC (.int 11))) (dCmp eqD (dCall D__law_draw (dCons (dVar 1) (dCons (dC (.int 2)) dNil))) (dC (.int 0))))) [x0, some .none, some (.int t), some (.int m), some (netD net0), x5, x6, x7, x8, x9, x10, x11, x12, x13, x14, x15, x16, x17, x18, x19, x20, x21, x22] S2 = .ok false [x0, some .none, some (.int t), some (.int m), some (netD net0), x5, x6, x7, x8, x9, x10, x11, x12, x13, x14, x15, x16, x17, x18, x19, x20, x21, x22] S' → ∃ (net : Net) (y5 : Option D) (S3 : SS), (sIf (dAnd (dCmp neD (dVar 4) (dLst dNil)) (dAnd (dCmp ltD (dPrim lenD (dCons (dVar 4) dNil)) (dC (.int 11))) (dCmp eqD (dCall D__law_draw (dCons (dVar 1) (dCons (dC (.int 2)) dNil))) (dC (.int 0))))) (sSeq (sAsg (dCall D__law_draw (dCons (dVar 1) (dCons (dPrim lenD (dCons (dVar 4) dNil)) dNil))) (.nm 5)) (sSeq (sAsg (dBin addD (dBin addD (dSl sliceD (dVar 4) dPo0 (dPo (dVar 5))) (dLst (dCons (dBin ixD (dVar 4) (dVar 5)) dNil))) (dSl sliceD (dVar 4) (dPo (dVar 5)) dPo0)) (.nm 4)) sNop)) sNop) [x0, some .none, some (.int t), some (.int m), some (netD net0), x5, x6, x7, x8, x9, x10, x11, x12, x13, x14, x15, x16, x17, x18, x19, x20, x21, x22] S2 = .nx [x0, some .none, some (.int t), some (.int m), some (netD net), y5, x6, x7, x8, x9, x10, x11, x12, x13, x14, x15, x16, x17, x18, x19, x20, x21, x22] S3 ∧ Good m net ∧ net.length ≤ 12 ∧ StOk (k + 90) S3 := fun S' st h => ⟨net0, x5, S', sIf_no h, g0, hn0, st⟩
    by_cases he : net0.isEmpty = true
    · rw [he] at c1
      exact no S2 (st2.le (by omega)) (dAnd_f c1)
    · rw [Bool.not_eq_true] at he
      rw [he] at c1
      by_cases hl : (net0.length : Int) < 11
      · rw [decide_eq_true hl] at c2
        obtain ⟨u, S3, e3, hu, st3⟩ := drawE (q := .none) (m := 2) (n := k + 99) (by decide) (st2.le (by omega))
        have c3 : dCmp eqD (dCall D__law_draw (dCons (dVar 1) (dCons (dC (.int 2)) dNil))) (dC (.int 0)) [x0, some .none, some (.int t), some (.int m), some (netD net0), x5, x6, x7, x8, x9, x10, x11, x12, x13, x14, x15, x16, x17, x18, x19, x20, x21, x22] S2 = .ok ((u : Int) == 0) [x0, some .none, some (.int t), some (.int m), some (netD net0), x5, x6, x7, x8, x9, x10, x11, x12, x13, x14, x15, x16, x17, x18, x19, x20, x21, x22] S3 := dCmp_eq (dCall_eq (dCons2 (dVar_eq rfl) rfl) e3) rfl rfl
        by_cases h0 : ((u : Int) == 0) = true
        · rw [h0] at c3
          have hne : 0 < net0.length := by
            cases net0 with
            | nil => simp at he
            | cons => simp
          obtain ⟨v, S4, e4, hv, st4⟩ := drawE (q := .none) (m := net0.length) (n := k + 98) ⟨hne, by omega⟩ (st3.le (by omega))
          refine ⟨net0.take v ++ [net0[v]] ++ net0.drop v, some (.int v), S4, ?_, ?_, ?_, st4.le (by omega)⟩
          · rw [sIf_t ((dAnd_t c1).trans ((dAnd_t c2).trans c3))]
            refine (sSeq_nx (sAsg_eq (ρ2 := [x0, some .none, some (.int t), some (.int m), some (netD net0), some (.int v), x6, x7, x8, x9, x10, x11, x12, x13, x14, x15, x16, x17, x18, x19, x20, x21, x22]) (dCall_eq (dCons2 (dVar_eq rfl) (dPrim1 (dVar_eq rfl) (by rw [netD, lenD_list, List.length_map]))) e4) rfl)).trans ?_
            have ix : ixD (netD net0) (.int v) = some (tupP net0[v]) := by
              have hi : L2.ixN net0.length (v : Int) = some v := ixN_nat hv
              simp [netD, ixD, L2.atI, hi, hv]
            refine (sSeq_nx (sAsg_eq (dBin_eq (dBin_eq (slTo (k := v) rfl (dVar_eq rfl)) (dLst_eq (dCons1 (dBin_eq (dVar_eq rfl) (dVar_eq rfl) ix)) l1) (show addD (netD (net0.take v)) (netD [net0[v]]) = _ from addN (by simp; omega))) (slFrom (k := v) rfl (dVar_eq rfl)) (addN (by simp; omega))) rfl)).trans ?_
            rfl
          · exact good_app (good_app (good_take g0 _) (fun p hp => by simp at hp; subst hp; exact g0 _ (List.getElem_mem hv))) (good_drop g0 _)
          · simp; omega
        · rw [Bool.not_eq_true] at h0
          rw [h0] at c3
          exact no S3 (st3.le (by omega)) ((dAnd_t c1).trans ((dAnd_t c2).trans c3))
      · rw [decide_eq_false hl] at c2
        exact no S2 (st2.le (by omega)) ((dAnd_t c1).trans (dAnd_f c2))
  obtain ⟨net, y5, S3, a5, g, hn, st3⟩ := twice
  -- ask, due
  obtain ⟨ask, S4, e4, ha, st4⟩ := handedE (q := .none) (k := k + 77) (net := net) (S := S3) (by omega) (st3.le (by omega))
  have a67 : sPar (dCons (dCall D__law_handed (dCons (dVar 1) (dCons (dVar 4) dNil))) (dCons (dCall D__law_needless (dCons (dVar 3) (dCons (dVar 4) dNil))) dNil)) [6, 7] [x0, some .none, some (.int t), some (.int m), some (netD net), y5, x6, x7, x8, x9, x10, x11, x12, x13, x14, x15, x16, x17, x18, x19, x20, x21, x22] S3 = .nx [x0, some .none, some (.int t), some (.int m), some (netD net), y5, some ask, some (idxD (needF m net)), x8, x9, x10, x11, x12, x13, x14, x15, x16, x17, x18, x19, x20, x21, x22] S4 :=
    sPar2 (dCall_eq (dCons2 (dVar_eq rfl) (dVar_eq rfl)) e4) (dCall_eq (dCons2 (dVar_eq rfl) (dVar_eq rfl)) (law_needless_eq hm.2 g (by omega)))
  -- was, told
  have rk := rok_repr (net_rok g hm.2 hn ha) (by obtain ⟨ds, h, _⟩ := ha; rcases h with rfl | rfl <;> rfl) (by decide) (by decide)
  have nd : ∀ (ρ : Rho) (S : SS), ρ[3]? = some (some (.int m)) → ρ[6]? = some (some ask) → dCall D_needless (dCons (dVar 3) (dCons (dVar 6) dNil)) ρ S = .ok (idxD (needF m net)) ρ S := fun ρ S h3 h6 =>
    dCall_eq (dCons2 (dVar_eq h3) (dVar_eq h6)) (needless_eq hm ha g (by omega))
  have a89 : sPar (dCons (dPrim reprD (dCons (dVar 6) dNil)) (dCons (dFlat (dCall D_needless (dCons (dVar 3) (dCons (dVar 6) dNil)))) dNil)) [8, 9] [x0, some .none, some (.int t), some (.int m), some (netD net), y5, some ask, some (idxD (needF m net)), x8, x9, x10, x11, x12, x13, x14, x15, x16, x17, x18, x19, x20, x21, x22] S4 = .nx [x0, some .none, some (.int t), some (.int m), some (netD net), y5, some ask, some (idxD (needF m net)), some (.str ask.shown), some (idxD (needF m net)), x10, x11, x12, x13, x14, x15, x16, x17, x18, x19, x20, x21, x22] S4 := by
    refine sPar2 (dPrim1 (dVar_eq rfl) rk) ?_
    exact dFlat_eq (nd _ S4 rfl rfl) (idx_flat _)
  -- kept
  have hnf : (needF m net).length ≤ 12 := Nat.le_trans (needF_len m net) hn
  have a10 : dCall (D__law_copied 8) (dCons (dVar 9) dNil) [x0, some .none, some (.int t), some (.int m), some (netD net), y5, some ask, some (idxD (needF m net)), some (.str ask.shown), some (idxD (needF m net)), x10, x11, x12, x13, x14, x15, x16, x17, x18, x19, x20, x21, x22] S4 = .ok (idxD (needF m net)) [x0, some .none, some (.int t), some (.int m), some (netD net), y5, some ask, some (idxD (needF m net)), some (.str ask.shown), some (idxD (needF m net)), x10, x11, x12, x13, x14, x15, x16, x17, x18, x19, x20, x21, x22] S4 := dCall_eq (dCons1 (dVar_eq rfl)) (copiedE (idx_plain' (n := 6) (by omega)))
  obtain ⟨lateD, hlate⟩ : ∃ d : D, d = .list (((needF m net).map fun (k : Nat) => PyData.int (k : Int)) ++ [.str "late"]) := ⟨_, rfl⟩
  have asp : sSpoil 9 [x0, some .none, some (.int t), some (.int m), some (netD net), y5, some ask, some (idxD (needF m net)), some (.str ask.shown), some (idxD (needF m net)), some (idxD (needF m net)), x11, x12, x13, x14, x15, x16, x17, x18, x19, x20, x21, x22] S4 = .nx [x0, some .none, some (.int t), some (.int m), some (netD net), y5, some ask, some (idxD (needF m net)), some (.str ask.shown), some lateD, some (idxD (needF m net)), x11, x12, x13, x14, x15, x16, x17, x18, x19, x20, x21, x22] S4 := by
    have o : ownL 9 [x0, some .none, some (.int t), some (.int m), some (netD net), y5, some ask, some (idxD (needF m net)), some (.str ask.shown), some (idxD (needF m net)), some (idxD (needF m net)), x11, x12, x13, x14, x15, x16, x17, x18, x19, x20, x21, x22] = some ((needF m net).map fun (k : Nat) => PyData.int (k : Int)) := rfl
    have hl : ((needF m net).map fun (k : Nat) => PyData.int (k : Int)).length < sizeLine := by simp; omega
    exact (sSpoil_eq o (idx_flat _) hl).trans (by rw [hlate]; rfl)
  -- the first test
  have pl3 : PlainL 8 (.list [idxD (needF m net), idxD (needF m net), idxD (needF m net)]) := PlainL.list (Nat.le_trans (by simp) (show 3 ≤ sizeLine by decide)) fun x hx => by
    have : x = idxD (needF m net) := by simpa using hx
    subst this
    exact idx_plain (n := 5) (by omega)
  have p1 : dCall D_needless (dPerm [1, 0] (dCons (dCall (D__law_copied 8) (dCons (dVar 4) dNil)) (dCons (dVar 3) dNil))) [x0, some .none, some (.int t), some (.int m), some (netD net), y5, some ask, some (idxD (needF m net)), some (.str ask.shown), some lateD, some (idxD (needF m net)), x11, x12, x13, x14, x15, x16, x17, x18, x19, x20, x21, x22] S4 = .ok (idxD (needF m net)) [x0, some .none, some (.int t), some (.int m), some (netD net), y5, some ask, some (idxD (needF m net)), some (.str ask.shown), some lateD, some (idxD (needF m net)), x11, x12, x13, x14, x15, x16, x17, x18, x19, x20, x21, x22] S4 := by
    have c := dCons2 (f := dCall (D__law_copied 8) (dCons (dVar 4) dNil)) (f2 := dVar 3) (ρ := [x0, some .none, some (.int t), some (.int m), some (netD net), y5, some ask, some (idxD (needF m net)), some (.str ask.shown), some lateD, some (idxD (needF m net)), x11, x12, x13, x14, x15, x16, x17, x18, x19, x20, x21, x22]) (S := S4) (dCall_eq (dCons1 (dVar_eq rfl)) (copiedE (net_plain (n := 5) (by omega)))) (dVar_eq rfl)
    refine dCall_eq (ds := [.int m, netD net]) ?_ (needless_eq hm (netArg_D net) g (by omega))
    simp only [dPerm, c, Res.bind]
    rfl
  have s1 := dNot_eq (dT_eq (dCall_eq (dCons2 (dLst_eq (dConsN (dVar_eq (i := 10) rfl) (dCons2 (nd [x0, some .none, some (.int t), some (.int m), some (netD net), y5, some ask, some (idxD (needF m net)), some (.str ask.shown), some lateD, some (idxD (needF m net)), x11, x12, x13, x14, x15, x16, x17, x18, x19, x20, x21, x22] S4 rfl rfl) p1)) (Nat.le_trans (by simp) (show 3 ≤ sizeLine by decide))) (dBin_eq (dLst_eq (dCons1 (dVar_eq (i := 7) rfl)) l1) rfl (mul_rep (x := idxD (needF m net)) (n := 3) (by decide)))) (sameE pl3)))
  -- the rest
  obtain ⟨rest, hrest⟩ : ∃ r : Net, r = restF (needF m net) 0 net := ⟨_, rfl⟩
  have a11 : dLc (dIt enumA (dCons (dVar 4) dNil)) (.tup [(.nm 18), (.nm 19)]) (dCmp notInD (dVar 18) (dVar 7)) (dVar 19) [18, 19] [x0, some .none, some (.int t), some (.int m), some (netD net), y5, some ask, some (idxD (needF m net)), some (.str ask.shown), some lateD, some (idxD (needF m net)), x11, x12, x13, x14, x15, x16, x17, x18, x19, x20, x21, x22] S4 = .ok (netD rest) [x0, some .none, some (.int t), some (.int m), some (netD net), y5, some ask, some (idxD (needF m net)), some (.str ask.shown), some lateD, some (idxD (needF m net)), x11, x12, x13, x14, x15, x16, x17, x18, x19, x20, x21, x22] S4 := by
    have e := lcL_fmap (t := .tup [(.nm 18), (.nm 19)]) (c := dCmp notInD (dVar 18) (dVar 7)) (f := dVar 19) (ρ := [x0, some .none, some (.int t), some (.int m), some (netD net), y5, some ask, some (idxD (needF m net)), some (.str ask.shown), some lateD, some (idxD (needF m net)), x11, x12, x13, x14, x15, x16, x17, none, none, x20, x21, x22]) (S := S4) (fun q : Nat × (Nat × Nat) => .tuple [.int (q.1 : Int), tupP q.2]) (fun q => !(needF m net).contains q.1) (fun q => tupP q.2) (l := enumP 0 net) fun q _ => ⟨[x0, some .none, some (.int t), some (.int m), some (netD net), y5, some ask, some (idxD (needF m net)), some (.str ask.shown), some lateD, some (idxD (needF m net)), x11, x12, x13, x14, x15, x16, x17, some (.int q.1), some (tupP q.2), x20, x21, x22], by simp [bindT, bindTs], dCmp_eq (dVar_eq rfl) (dVar_eq rfl) (notin_idx _ _), fun _ => dVar_eq rfl⟩
    have h : ((enumP 0 net).filter fun q => !(needF m net).contains q.1).map (fun q => tupP q.2) = rest.map tupP := by
      rw [hrest, ← enumP_rest, List.map_map]; rfl
    rw [h] at e
    refine dLc_eq (dIt_ok (dCons1 (dVar_eq rfl)) (show enumA [netD net] = some ((enumP 0 net).map fun q : Nat × (Nat × Nat) => .tuple [.int (q.1 : Int), tupP q.2]) from ?_)) ?_ e
    · rw [← enumP_D]; rfl
    · rw [List.length_map, enumP_len]; omega
  have hrl : rest.length ≤ 12 := by rw [hrest]; exact Nat.le_trans (restF_len 0 net) hn
  have gr : Good m rest := by rw [hrest]; exact restF_good g
  obtain ⟨ask2, S5, e5, ha2, st5⟩ := handedE (q := .none) (k := k + 64) (net := rest) (S := S4) (by omega) (st4.le (by omega))
  have n0 := needless_eq (S := S5) hm ha2 gr (by omega)
  rw [show needF m rest = [] by rw [hrest]; exact need_rest g] at n0
  have pl0 : PlainL 8 (.list []) := PlainL.list (Nat.zero_le _) (by intro x hx; cases hx)
  rw [show idxD [] = .list [] from rfl] at n0
  have s2 := dNot_eq (dT_eq (dCall_eq (ρ := [x0, some .none, some (.int t), some (.int m), some (netD net), y5, some ask, some (idxD (needF m net)), some (.str ask.shown), some lateD, some (idxD (needF m net)), some (netD rest), x12, x13, x14, x15, x16, x17, x18, x19, x20, x21, x22]) (S := S4) (dCons2 (dCall_eq (dCons2 (dVar_eq (i := 3) rfl) (dCall_eq (dCons2 (dVar_eq (i := 1) rfl) (dVar_eq (i := 11) rfl)) e5)) n0) dLst_nil) (sameE pl0)))
  -- four rows
  obtain ⟨ρ6, S6, e6, y12, y13, hρ6, st6⟩ := forL_inv (t := .nm 12) (body := againB) (ds := rangeD 0 ((4 : Nat) : Int)) (ρ := [x0, some .none, some (.int t), some (.int m), some (netD net), y5, some ask, some (idxD (needF m net)), some (.str ask.shown), some lateD, some (idxD (needF m net)), some (netD rest), x12, x13, x14, x15, x16, x17, x18, x19, x20, x21, x22]) (S := S5) (fun i ρ S => ∃ y12 y13, ρ = [x0, some .none, some (.int t), some (.int m), some (netD net), y5, some ask, some (idxD (needF m net)), some (.str ask.shown), some lateD, some (idxD (needF m net)), some (netD rest), y12, y13, x14, x15, x16, x17, x18, x19, x20, x21, x22] ∧ StOk (k + 64 - 6 * i) S) (fun i d ρ S hd ⟨y12, y13, hρ, hs⟩ => by
    subst hρ
    obtain ⟨hi, rfl⟩ := range_get hd
    obtain ⟨z13, S', e, st'⟩ := again_body (k := k + 64 - 6 * (i + 1)) (m := m) (net := net) (rest := rest) (ask := ask) (x0 := x0) (x2 := some (.int t)) (x5 := y5) (x7 := some (idxD (needF m net))) (x8 := some (.str ask.shown)) (x9 := some lateD) (x10 := some (idxD (needF m net))) (x12 := some (.int i)) (x13 := y13) (x14 := x14) (x15 := x15) (x16 := x16) (x17 := x17) (x18 := x18) (x19 := x19) (x20 := x20) (x21 := x21) (x22 := x22) hm g gr (by omega) (by omega) ha (fun r hr => by rw [hrest]; exact run_rest g hr) (hs.le (by omega))
    exact ⟨[x0, some .none, some (.int t), some (.int m), some (netD net), y5, some ask, some (idxD (needF m net)), some (.str ask.shown), some lateD, some (idxD (needF m net)), some (netD rest), some (.int i), y13, x14, x15, x16, x17, x18, x19, x20, x21, x22], rfl, _, S', .inl e, some (.int i), z13, rfl, st'⟩) ⟨x12, x13, rfl, st5.le (by omega)⟩
  subst hρ6
  rw [range_len] at st6
  -- few
  obtain ⟨r7, S7, e7, hr7, st7⟩ := drawE (q := .none) (m := 4) (n := k + 39) (by decide) (st6.le (by omega))
  obtain ⟨m7, hm7, rfl⟩ : ∃ m7, (1 ≤ m7 ∧ m7 ≤ 4) ∧ r7 = m7 - 1 := ⟨r7 + 1, by omega, by omega⟩
  have b1 : dBin addD (dC (.int 1)) (dCall D__law_draw (dCons (dVar 1) (dCons (dC (.int 4)) dNil))) [x0, some .none, some (.int t), some (.int m), some (netD net), y5, some ask, some (idxD (needF m net)), some (.str ask.shown), some lateD, some (idxD (needF m net)), some (netD rest), y12, y13, x14, x15, x16, x17, x18, x19, x20, x21, x22] S6 = .ok (.int m7) [x0, some .none, some (.int t), some (.int m), some (netD net), y5, some ask, some (idxD (needF m net)), some (.str ask.shown), some lateD, some (idxD (needF m net)), some (netD rest), y12, y13, x14, x15, x16, x17, x18, x19, x20, x21, x22] S7 :=
    dBin_eq rfl (dCall_eq (dCons2 (dVar_eq rfl) rfl) e7) (one_add hm7.1)
  have b2 : ∃ most : Nat, most ≤ 10 ∧ dIf (dCmp eqD (dVar 2) (dC (.int 0))) (dC (.int 10)) (dC (.int 7)) [x0, some .none, some (.int t), some (.int m), some (netD net), y5, some ask, some (idxD (needF m net)), some (.str ask.shown), some lateD, some (idxD (needF m net)), some (netD rest), y12, y13, x14, x15, x16, x17, x18, x19, x20, x21, x22] S7 = .ok (.int most) [x0, some .none, some (.int t), some (.int m), some (netD net), y5, some ask, some (idxD (needF m net)), some (.str ask.shown), some lateD, some (idxD (needF m net)), some (netD rest), y12, y13, x14, x15, x16, x17, x18, x19, x20, x21, x22] S7 := by
    have c : dCmp eqD (dVar 2) (dC (.int 0)) [x0, some .none, some (.int t), some (.int m), some (netD net), y5, some ask, some (idxD (needF m net)), some (.str ask.shown), some lateD, some (idxD (needF m net)), some (netD rest), y12, y13, x14, x15, x16, x17, x18, x19, x20, x21, x22] S7 = .ok ((t : Int) == 0) [x0, some .none, some (.int t), some (.int m), some (netD net), y5, some ask, some (idxD (needF m net)), some (.str ask.shown), some lateD, some (idxD (needF m net)), some (netD rest), y12, y13, x14, x15, x16, x17, x18, x19, x20, x21, x22] S7 := dCmp_eq (dVar_eq rfl) rfl rfl
    cases h : ((t : Int) == 0) with
    | true => rw [h] at c; exact ⟨10, by decide, (dIf_t c).trans rfl⟩
    | false => rw [h] at c; exact ⟨7, by decide, (dIf_f c).trans rfl⟩
  obtain ⟨most, hmost, b2⟩ := b2
  obtain ⟨few, S8, e8, g8, hn8, st8⟩ := law_net_eq (k := k + 20) (m := m7) (most := most) (q := .none) (S := S7) ⟨hm7.1, by omega⟩ (by omega) (st7.le (by omega))
  have a14 : dCall D__law_net (dCons (dVar 1) (dCons (dBin addD (dC (.int 1)) (dCall D__law_draw (dCons (dVar 1) (dCons (dC (.int 4)) dNil)))) (dCons (dIf (dCmp eqD (dVar 2) (dC (.int 0))) (dC (.int 10)) (dC (.int 7))) dNil))) [x0, some .none, some (.int t), some (.int m), some (netD net), y5, some ask, some (idxD (needF m net)), some (.str ask.shown), some lateD, some (idxD (needF m net)), some (netD rest), y12, y13, x14, x15, x16, x17, x18, x19, x20, x21, x22] S6 = .ok (netD few) [x0, some .none, some (.int t), some (.int m), some (netD net), y5, some ask, some (idxD (needF m net)), some (.str ask.shown), some lateD, some (idxD (needF m net)), some (netD rest), y12, y13, x14, x15, x16, x17, x18, x19, x20, x21, x22] S8 :=
    dCall_eq (dConsN (dVar_eq rfl) (dCons2 b1 b2)) e8
  -- places
  obtain ⟨pl, hpl, hpl0, hpl1, g9⟩ := places_eq g8 (by omega)
  have a15 : dPrim maxD (dCons (dBin addD (dLc (dSeq (dVar 14)) (.tup [(.nm 21), (.nm 22)]) dYes (dBin addD (dVar 22) (dC (.int 1))) [21, 22]) (dLst (dCons (dC (.int 1)) dNil))) dNil) [x0, some .none, some (.int t), some (.int m), some (netD net), y5, some ask, some (idxD (needF m net)), some (.str ask.shown), some lateD, some (idxD (needF m net)), some (netD rest), y12, y13, some (netD few), x15, x16, x17, x18, x19, x20, x21, x22] S8 = .ok (.int pl) [x0, some .none, some (.int t), some (.int m), some (netD net), y5, some ask, some (idxD (needF m net)), some (.str ask.shown), some lateD, some (idxD (needF m net)), some (netD rest), y12, y13, some (netD few), x15, x16, x17, x18, x19, x20, x21, x22] S8 := by
    have e := dLc_eq (vs := [21, 22]) (c := dYes) (t := .tup [(.nm 21), (.nm 22)]) (f := dBin addD (dVar 22) (dC (.int 1))) (dSeq_eq (f := dVar 14) (ρ := [x0, some .none, some (.int t), some (.int m), some (netD net), y5, some ask, some (idxD (needF m net)), some (.str ask.shown), some lateD, some (idxD (needF m net)), some (netD rest), y12, y13, some (netD few), x15, x16, x17, x18, x19, x20, x21, x22]) (S := S8) (ds := few.map tupP) (dVar_eq rfl)) (by simp; omega) (lcL_map (l := few) tupP (fun p => PyData.int ((p.2 : Int) + 1)) fun p _ => ⟨[x0, some .none, some (.int t), some (.int m), some (netD net), y5, some ask, some (idxD (needF m net)), some (.str ask.shown), some lateD, some (idxD (needF m net)), some (netD rest), y12, y13, some (netD few), x15, x16, x17, x18, x19, x20, some (.int p.1), some (.int p.2)], by simp [bindT, bindTs, tupP, wipeR], dBin_eq (dVar_eq rfl) rfl rfl⟩)
    refine dPrim1 (dBin_eq e (dLst_eq (dCons1 rfl) l1) (show addD _ _ = some (.list (few.map (fun p : Nat × Nat => PyData.int ((p.2 : Int) + 1)) ++ [.int 1])) from ?_)) hpl
    have hz : (few.map (fun p : Nat × Nat => PyData.int ((p.2 : Int) + 1))).length + [PyData.int 1].length ≤ sizeLine := by simp; omega
    rw [addD, if_pos hz]
  -- fewest
  obtain ⟨o, ho, e9⟩ := law_fewest_eq (m := pl) (net := few) (S := S8) (by omega) g9 (by omega)
  have a16 : dCall D__law_fewest (dCons (dVar 15) (dCons (dVar 14) dNil)) [x0, some .none, some (.int t), some (.int m), some (netD net), y5, some ask, some (idxD (needF m net)), some (.str ask.shown), some lateD, some (idxD (needF m net)), some (netD rest), y12, y13, some (netD few), some (.int pl), x16, x17, x18, x19, x20, x21, x22] S8 = .ok (optN o) [x0, some .none, some (.int t), some (.int m), some (netD net), y5, some ask, some (idxD (needF m net)), some (.str ask.shown), some lateD, some (idxD (needF m net)), some (netD rest), y12, y13, some (netD few), some (.int pl), x16, x17, x18, x19, x20, x21, x22] S8 := dCall_eq (dCons2 (dVar_eq rfl) (dVar_eq rfl)) e9
  obtain ⟨ask3, S9, e10, ha3, st9⟩ := handedE (q := .none) (k := k) (net := few) (S := S8) (by omega) (st8.le (by omega))
  obtain ⟨o1, ho1, f1⟩ := fewest_left_eq (m := pl) (net := few) (S := S9) ⟨hpl0, by omega⟩ ha3 g9 (by omega)
  obtain ⟨o2, ho2, f2⟩ := fewest_left_eq (m := pl) (net := few) (S := S9) ⟨hpl0, by omega⟩ (netArg_D few) g9 (by omega)
  have q1 := isFew_one ho1 ho
  have q2 := isFew_one ho2 ho
  rw [q1] at f1
  rw [q2] at f2
  have pf : PlainL 8 (.list [optN o, optN o]) := PlainL.list l2 fun x hx => by
    have : x = optN o := by simpa using hx
    subst this
    refine PlainL.flat ?_
    cases o <;> rfl
  have p2 : dCall D_fewest_left (dPerm [1, 0] (dCons (dCall (D__law_copied 8) (dCons (dVar 14) dNil)) (dCons (dVar 15) dNil))) [x0, some .none, some (.int t), some (.int m), some (netD net), y5, some ask, some (idxD (needF m net)), some (.str ask.shown), some lateD, some (idxD (needF m net)), some (netD rest), y12, y13, some (netD few), some (.int pl), some (optN o), x17, x18, x19, x20, x21, x22] S9 = .ok (optN o) [x0, some .none, some (.int t), some (.int m), some (netD net), y5, some ask, some (idxD (needF m net)), some (.str ask.shown), some lateD, some (idxD (needF m net)), some (netD rest), y12, y13, some (netD few), some (.int pl), some (optN o), x17, x18, x19, x20, x21, x22] S9 := by
    have c := dCons2 (f := dCall (D__law_copied 8) (dCons (dVar 14) dNil)) (f2 := dVar 15) (ρ := [x0, some .none, some (.int t), some (.int m), some (netD net), y5, some ask, some (idxD (needF m net)), some (.str ask.shown), some lateD, some (idxD (needF m net)), some (netD rest), y12, y13, some (netD few), some (.int pl), some (optN o), x17, x18, x19, x20, x21, x22]) (S := S9) (dCall_eq (dCons1 (dVar_eq rfl)) (copiedE (net_plain (n := 5) (by omega)))) (dVar_eq rfl)
    refine dCall_eq (ds := [.int pl, netD few]) ?_ f2
    simp only [dPerm, c, Res.bind]
    rfl
  have s3 := dNot_eq (dT_eq (dCall_eq (ρ := [x0, some .none, some (.int t), some (.int m), some (netD net), y5, some ask, some (idxD (needF m net)), some (.str ask.shown), some lateD, some (idxD (needF m net)), some (netD rest), y12, y13, some (netD few), some (.int pl), some (optN o), x17, x18, x19, x20, x21, x22]) (S := S8) (dCons2 (dLst_eq (dCons2 (dCall_eq (dCons2 (dVar_eq (i := 15) rfl) (dCall_eq (dCons2 (dVar_eq (i := 1) rfl) (dVar_eq (i := 14) rfl)) e10)) f1) p2) l2) (dLst_eq (dCons2 (dVar_eq (i := 16) rfl) (dVar_eq (i := 16) rfl)) l2)) (sameE pf)))
  have s4 : dCmp neD (dPrim reprD (dCons (dVar 6) dNil)) (dVar 8) [x0, some .none, some (.int t), some (.int m), some (netD net), y5, some ask, some (idxD (needF m net)), some (.str ask.shown), some lateD, some (idxD (needF m net)), some (netD rest), y12, y13, some (netD few), some (.int pl), some (optN o), x17, x18, x19, x20, x21, x22] S9 = .ok false [x0, some .none, some (.int t), some (.int m), some (netD net), y5, some ask, some (idxD (needF m net)), some (.str ask.shown), some lateD, some (idxD (needF m net)), some (netD rest), y12, y13, some (netD few), some (.int pl), some (optN o), x17, x18, x19, x20, x21, x22] S9 :=
    dCmp_eq (dPrim1 (dVar_eq rfl) rk) (dVar_eq rfl) (by simp [neD, eqD])
  refine ⟨some (.int m), some (netD net), y5, some ask, some (idxD (needF m net)), some (.str ask.shown), some lateD, some (idxD (needF m net)), some (netD rest), y12, y13, some (netD few), some (.int pl), some (optN o), S9, ?_, st9⟩
  refine (sSeq_nx (sAsg_eq (ρ2 := [x0, some .none, some (.int t), some (.int m), x4, x5, x6, x7, x8, x9, x10, x11, x12, x13, x14, x15, x16, x17, x18, x19, x20, x21, x22]) a3 rfl)).trans ?_
  refine (sSeq_nx (sAsg_eq (ρ2 := [x0, some .none, some (.int t), some (.int m), some (netD net0), x5, x6, x7, x8, x9, x10, x11, x12, x13, x14, x15, x16, x17, x18, x19, x20, x21, x22]) a4 rfl)).trans ?_
  refine (sSeq_nx a5).trans ?_
  refine (sSeq_nx a67).trans ?_
  refine (sSeq_nx a89).trans ?_
  refine (sSeq_nx (sAsg_eq (ρ2 := [x0, some .none, some (.int t), some (.int m), some (netD net), y5, some ask, some (idxD (needF m net)), some (.str ask.shown), some (idxD (needF m net)), some (idxD (needF m net)), x11, x12, x13, x14, x15, x16, x17, x18, x19, x20, x21, x22]) a10 rfl)).trans ?_
  refine (sSeq_nx asp).trans ?_
  refine (sSeq_nx (sIf_no s1)).trans ?_
  refine (sSeq_nx (sAsg_eq (ρ2 := [x0, some .none, some (.int t), some (.int m), some (netD net), y5, some ask, some (idxD (needF m net)), some (.str ask.shown), some lateD, some (idxD (needF m net)), some (netD rest), x12, x13, x14, x15, x16, x17, x18, x19, x20, x21, x22]) a11 rfl)).trans ?_
  refine (sSeq_nx (sIf_no s2)).trans ?_
  refine (sSeq_nx ((sFor_eq (dIt_rng1 (m := 4) rfl (by decide))).trans e6)).trans ?_
  refine (sSeq_nx (sAsg_eq (ρ2 := [x0, some .none, some (.int t), some (.int m), some (netD net), y5, some ask, some (idxD (needF m net)), some (.str ask.shown), some lateD, some (idxD (needF m net)), some (netD rest), y12, y13, some (netD few), x15, x16, x17, x18, x19, x20, x21, x22]) a14 rfl)).trans ?_
  refine (sSeq_nx (sAsg_eq (ρ2 := [x0, some .none, some (.int t), some (.int m), some (netD net), y5, some ask, some (idxD (needF m net)), some (.str ask.shown), some lateD, some (idxD (needF m net)), some (netD rest), y12, y13, some (netD few), some (.int pl), x16, x17, x18, x19, x20, x21, x22]) a15 rfl)).trans ?_
  refine (sSeq_nx (sAsg_eq (ρ2 := [x0, some .none, some (.int t), some (.int m), some (netD net), y5, some ask, some (idxD (needF m net)), some (.str ask.shown), some lateD, some (idxD (needF m net)), some (netD rest), y12, y13, some (netD few), some (.int pl), some (optN o), x17, x18, x19, x20, x21, x22]) a16 rfl)).trans ?_
  exact (sSeq_nx (sIf_no (dOr_ff s3 s4))).trans rfl

theorem turns {k n : Nat} {x0 x2 x3 x4 x5 x6 x7 x8 x9 x10 x11 x12 x13 x14 x15 x16 x17 x18 x19 x20 x21 x22 : Option D} {S : SS} (hn : n < 1000) (st : StOk (k + 120 * n) S) : ∃ (y0 y2 y3 y4 y5 y6 y7 y8 y9 y10 y11 y12 y13 y14 y15 y16 y17 y18 y19 y20 y21 y22 : Option D) (S' : SS), forL (.nm 2) lawB (rangeD 0 (n : Nat)) [x0, some .none, x2, x3, x4, x5, x6, x7, x8, x9, x10, x11, x12, x13, x14, x15, x16, x17, x18, x19, x20, x21, x22] S = .nx [y0, some .none, y2, y3, y4, y5, y6, y7, y8, y9, y10, y11, y12, y13, y14, y15, y16, y17, y18, y19, y20, y21, y22] S' ∧ StOk k S' := by
  obtain ⟨ρ', S', e, ⟨y0, y2, y3, y4, y5, y6, y7, y8, y9, y10, y11, y12, y13, y14, y15, y16, y17, y18, y19, y20, y21, y22, hρ⟩, st'⟩ := forL_inv (t := .nm 2) (body := lawB) (ds := rangeD 0 (n : Nat)) (ρ := [x0, some .none, x2, x3, x4, x5, x6, x7, x8, x9, x10, x11, x12, x13, x14, x15, x16, x17, x18, x19, x20, x21, x22]) (S := S) (fun i ρ S => (∃ (y0 y2 y3 y4 y5 y6 y7 y8 y9 y10 y11 y12 y13 y14 y15 y16 y17 y18 y19 y20 y21 y22 : Option D), ρ = [y0, some .none, y2, y3, y4, y5, y6, y7, y8, y9, y10, y11, y12, y13, y14, y15, y16, y17, y18, y19, y20, y21, y22]) ∧ StOk (k + 120 * (n - i)) S) (fun i d ρ S hd ⟨⟨x0, x2, x3, x4, x5, x6, x7, x8, x9, x10, x11, x12, x13, x14, x15, x16, x17, x18, x19, x20, x21, x22, hρ⟩, hs⟩ => by
    subst hρ
    obtain ⟨hi, rfl⟩ := range_get hd
    obtain ⟨y3, y4, y5, y6, y7, y8, y9, y10, y11, y12, y13, y14, y15, y16, S', e, st'⟩ := turn_body (k := k + 120 * (n - (i + 1))) (t := i) (x0 := x0) (x3 := x3) (x4 := x4) (x5 := x5) (x6 := x6) (x7 := x7) (x8 := x8) (x9 := x9) (x10 := x10) (x11 := x11) (x12 := x12) (x13 := x13) (x14 := x14) (x15 := x15) (x16 := x16) (x17 := x17) (x18 := x18) (x19 := x19) (x20 := x20) (x21 := x21) (x22 := x22) (hs.le (by omega))
    exact ⟨[x0, some .none, some (.int i), x3, x4, x5, x6, x7, x8, x9, x10, x11, x12, x13, x14, x15, x16, x17, x18, x19, x20, x21, x22], rfl, _, S', .inl e, ⟨x0, some (.int i), y3, y4, y5, y6, y7, y8, y9, y10, y11, y12, y13, y14, y15, y16, x17, x18, x19, x20, x21, x22, rfl⟩, st'⟩) ⟨⟨x0, x2, x3, x4, x5, x6, x7, x8, x9, x10, x11, x12, x13, x14, x15, x16, x17, x18, x19, x20, x21, x22, rfl⟩, by simpa using st⟩
  subst hρ
  rw [range_len] at st'
  exact ⟨y0, y2, y3, y4, y5, y6, y7, y8, y9, y10, y11, y12, y13, y14, y15, y16, y17, y18, y19, y20, y21, y22, S', e, st'.le (by omega)⟩
def some4 : Net := [(0, 1), (0, 1), (1, 2), (0, 1)]
theorem some4_good : Good 3 some4 := by
  intro p hp
  simp [some4] at hp
  rcases hp with rfl | rfl | rfl | rfl <;> decide
theorem some4_need : needF 3 some4 = [1] := by decide +kernel
theorem some4_few : IsFew 3 some4 (some 3) := by
  refine ⟨⟨[(0, 1), (1, 2), (0, 1)], by decide +kernel, rfl, by decide +kernel⟩, ?_⟩
  decide +kernel
theorem none_few : IsFew 2 [] none := by
  show ∀ s ∈ partsOf [], sortsB 2 s = false
  decide +kernel
theorem zero_few : IsFew 1 [] (some 0) := by
  refine ⟨⟨[], by decide +kernel, rfl, by decide +kernel⟩, ?_⟩
  decide +kernel
theorem fewE {m : Nat} {net : Net} {o : Option Nat} {S : SS} {d : D} (hm : 0 < m ∧ m ≤ 6) (g : Good m net) (hn : net.length ≤ 20) (hd : d = netD net) (h : IsFew m net o) : D_fewest_left [.int m, d] S = .ok (optN o) [] S := by
  subst hd
  obtain ⟨o', h', e⟩ := fewest_left_eq (S := S) hm (netArg_D net) g hn
  rw [e, isFew_one h' h]
theorem law_true (ns : List Int) (hl : ns.length ≤ 63) (hb : ∀ z ∈ ns, Builtin.Int.intBits z ≤ 1048576) : ∃ S', b_law ((List.replicate n_law.length none).set 1 (some .none)) ⟨ns, 0, 0, 19⟩ = .rt (.bool true) S' := by
  have st : StOk (0 + 120 * 5) ⟨ns, 0, 0, 19⟩ := ⟨by show (0 : Int) ≤ 0; decide, by show (0 : Int) ≤ 0; decide, by show (0 : Int) + ((0 + 120 * 5 : Nat) : Int) ≤ 1000000000; decide, by show (0 : Int) ≤ 19 ∧ (19 : Int) < 2147483629; decide⟩
  obtain ⟨y0, y2, y3, y4, y5, y6, y7, y8, y9, y10, y11, y12, y13, y14, y15, y16, y17, y18, y19, y20, y21, y22, S', e, _⟩ := turns (k := 0) (n := 5) (x0 := none) (x2 := none) (x3 := none) (x4 := none) (x5 := none) (x6 := none) (x7 := none) (x8 := none) (x9 := none) (x10 := none) (x11 := none) (x12 := none) (x13 := none) (x14 := none) (x15 := none) (x16 := none) (x17 := none) (x18 := none) (x19 := none) (x20 := none) (x21 := none) (x22 := none) (by decide) st
  refine ⟨S', ?_⟩
  show b_law [none, some .none, none, none, none, none, none, none, none, none, none, none, none, none, none, none, none, none, none, none, none, none, none] _ = _
  rw [b_law_is]
  refine (sSeq_nx ((sFor_eq (dIt_rng1 (m := 5) rfl (by decide))).trans e)).trans ?_
  have t : ∀ (a b : Int) (ρ : Rho), dTup (dCons (dC (.int a)) (dCons (dC (.int b)) dNil)) ρ S' = .ok (.tuple [.int a, .int b]) ρ S' := fun a b ρ => dTup_eq (dCons2 rfl rfl) l2
  have l4 : 4 ≤ sizeLine := by decide
  have a17 : dLst (dCons (dTup (dCons (dC (.int 0)) (dCons (dC (.int 1)) dNil))) (dCons (dTup (dCons (dC (.int 0)) (dCons (dC (.int 1)) dNil))) (dCons (dTup (dCons (dC (.int 1)) (dCons (dC (.int 2)) dNil))) (dCons (dTup (dCons (dC (.int 0)) (dCons (dC (.int 1)) dNil))) dNil)))) [y0, some .none, y2, y3, y4, y5, y6, y7, y8, y9, y10, y11, y12, y13, y14, y15, y16, y17, y18, y19, y20, y21, y22] S' = .ok (netD some4) [y0, some .none, y2, y3, y4, y5, y6, y7, y8, y9, y10, y11, y12, y13, y14, y15, y16, y17, y18, y19, y20, y21, y22] S' :=
    dLst_eq (dConsN (t _ _ _) (dConsN (t _ _ _) (dConsN (t _ _ _) (dCons1 (t _ _ _))))) (show (some4.map tupP).length ≤ sizeLine from l4)
  refine (sSeq_nx (sAsg_eq (ρ2 := [y0, some .none, y2, y3, y4, y5, y6, y7, y8, y9, y10, y11, y12, y13, y14, y15, y16, some (netD some4), y18, y19, y20, y21, y22]) a17 rfl)).trans (sSeq_rt (sRet_eq ?_))
  have n1 := needless_eq (m := 3) (S := S') (by decide) (netArg_D some4) some4_good (by decide)
  rw [some4_need] at n1
  have b1 : dCall D_needless (dCons (dC (.int 3)) (dCons (dVar 17) dNil)) [y0, some .none, y2, y3, y4, y5, y6, y7, y8, y9, y10, y11, y12, y13, y14, y15, y16, some (netD some4), y18, y19, y20, y21, y22] S' = .ok (.list [.int 1]) [y0, some .none, y2, y3, y4, y5, y6, y7, y8, y9, y10, y11, y12, y13, y14, y15, y16, some (netD some4), y18, y19, y20, y21, y22] S' := dCall_eq (dCons2 rfl (dVar_eq rfl)) n1
  have b2 : dCall D_fewest_left (dCons (dC (.int 3)) (dCons (dVar 17) dNil)) [y0, some .none, y2, y3, y4, y5, y6, y7, y8, y9, y10, y11, y12, y13, y14, y15, y16, some (netD some4), y18, y19, y20, y21, y22] S' = .ok (.int 3) [y0, some .none, y2, y3, y4, y5, y6, y7, y8, y9, y10, y11, y12, y13, y14, y15, y16, some (netD some4), y18, y19, y20, y21, y22] S' := dCall_eq (dCons2 rfl (dVar_eq rfl)) (fewE (m := 3) (by decide) some4_good (by decide) rfl some4_few)
  have b3 : dCall D_fewest_left (dCons (dC (.int 2)) (dCons (dLst dNil) dNil)) [y0, some .none, y2, y3, y4, y5, y6, y7, y8, y9, y10, y11, y12, y13, y14, y15, y16, some (netD some4), y18, y19, y20, y21, y22] S' = .ok .none [y0, some .none, y2, y3, y4, y5, y6, y7, y8, y9, y10, y11, y12, y13, y14, y15, y16, some (netD some4), y18, y19, y20, y21, y22] S' := dCall_eq (dCons2 rfl dLst_nil) (fewE (m := 2) (net := []) (by decide) (by intro p hp; cases hp) (by decide) rfl none_few)
  have b4 : dCall D_fewest_left (dCons (dC (.int 1)) (dCons (dLst dNil) dNil)) [y0, some .none, y2, y3, y4, y5, y6, y7, y8, y9, y10, y11, y12, y13, y14, y15, y16, some (netD some4), y18, y19, y20, y21, y22] S' = .ok (.int 0) [y0, some .none, y2, y3, y4, y5, y6, y7, y8, y9, y10, y11, y12, y13, y14, y15, y16, some (netD some4), y18, y19, y20, y21, y22] S' := dCall_eq (dCons2 rfl dLst_nil) (fewE (m := 1) (net := []) (by decide) (by intro p hp; cases hp) (by decide) rfl zero_few)
  have pl : PlainL 8 (.list [.list [.int 1], .int 3, .none, .int 0]) := PlainL.list l4 fun x hx => by
    simp at hx
    rcases hx with rfl | rfl | rfl | rfl
    · exact PlainL.list l1 fun y hy => by
        simp at hy
        subst hy
        exact PlainL.flat rfl
    · exact PlainL.flat rfl
    · exact PlainL.flat rfl
    · exact PlainL.flat rfl
  exact dCall_eq (dCons2 (dLst_eq (dConsN b1 (dConsN b2 (dCons2 b3 b4))) l4) (dLst_eq (dConsN (dLst_eq (dCons1 rfl) l1) (dConsN rfl (dCons2 rfl rfl))) l4)) (sameE pl)
end K72

open PySem PySem.W PyProof.Rows
set_option maxHeartbeats 0 in
theorem PySem.Challenge.cw_orderalone_k72_whole_main_needless_excha_holds : PySem.Challenge.rw_orderalone_k72_whole_main_needless_excha.Holds := by
  w_on; o_law; k_head; (case hw => w_witness2)
  k_fill
  refine PD.walk_g (l := PySem.Challenge.rw_orderalone_k72_whole_main_needless_excha) (n := 63) (k := 11) (x := "script") (sp := fun K => PD.spLaw K K72.n_law.length 1 K72.b_law) rfl (by decide) rfl ⟨rfl, by decide, by decide⟩ (fun w h Y => PySem.W.kIn_of Y) ?pdF (fun w H a ns hl hb hO hS => ?pdM)
  case pdM =>
    obtain ⟨S', e⟩ := K72.law_true ns hl hb
    exact ⟨a, ns, S', rfl, hS, hO, e, fun _ => rfl⟩
  case pdF =>
    intro w mg fa h KX G hmg
    refine' K72.all_mk KX G hmg ?d_is_list ?d_is_whole ?d_is_number ?d_is_row ?d_first_bad_pair ?d_check_places ?d_check_net ?d_run_on ?d_net_row ?d_bit_rows ?d_is_ascending ?d_first_unsorted ?d_needless ?d_parts_of_net ?d_fewest_left ?d__law_stream ?d__law_draw ?d__law_pick ?d__law_mixed ?d__law_copied ?d__law_same ?d__law_spoilt ?d__law_loose ?d__law_handed ?d__law_net ?d__law_run ?d__law_bit_rows ?d__law_unsorted ?d__law_needless ?d__law_fewest ?d_law ?z_abs ?z_all ?z_any ?z_bool_ ?z_dict_ ?z_enumerate ?z_int_ ?z_isinstance ?z_len ?z_list_ ?z_max ?z_range ?z_repr ?z_sorted ?z_str_ ?z_tuple ?z_zip
    case d_is_list =>
      refine' PD.mk_def ?a ?l ?c ?k
      (case a => k_is); (case l => k_is); (case c => k_is); (case k => k_is)
    case d_is_whole =>
      refine' PD.mk_def ?a ?l ?c ?k
      (case a => k_is); (case l => k_is); (case c => k_is); (case k => k_is)
    case d_is_number =>
      refine' PD.mk_def ?a ?l ?c ?k
      (case a => k_is); (case l => k_is); (case c => k_is); (case k => k_is)
    case d_is_row =>
      refine' PD.mk_def ?a ?l ?c ?k
      (case a => k_is); (case l => k_is); (case c => k_is); (case k => k_is)
    case d_first_bad_pair =>
      refine' PD.mk_def ?a ?l ?c ?k
      (case a => k_is); (case l => k_is); (case c => k_is); (case k => k_is)
    case d_check_places =>
      refine' PD.mk_def ?a ?l ?c ?k
      (case a => k_is); (case l => k_is); (case c => k_is); (case k => k_is)
    case d_check_net =>
      refine' PD.mk_def ?a ?l ?c ?k
      (case a => k_is); (case l => k_is); (case c => k_is); (case k => k_is)
    case d_run_on =>
      refine' PD.mk_def ?a ?l ?c ?k
      (case a => k_is); (case l => k_is); (case c => k_is); (case k => k_is)
    case d_net_row =>
      refine' PD.mk_def ?a ?l ?c ?k
      (case a => k_is); (case l => k_is); (case c => k_is); (case k => k_is)
    case d_bit_rows =>
      refine' PD.mk_def ?a ?l ?c ?k
      (case a => k_is); (case l => k_is); (case c => k_is); (case k => k_is)
    case d_is_ascending =>
      refine' PD.mk_def ?a ?l ?c ?k
      (case a => k_is); (case l => k_is); (case c => k_is); (case k => k_is)
    case d_first_unsorted =>
      refine' PD.mk_def ?a ?l ?c ?k
      (case a => k_is); (case l => k_is); (case c => k_is); (case k => k_is)
    case d_needless =>
      refine' PD.mk_def ?a ?l ?c ?k
      (case a => k_is); (case l => k_is); (case c => k_is); (case k => k_is)
    case d_parts_of_net =>
      refine' PD.mk_def ?a ?l ?c ?k
      (case a => k_is); (case l => k_is); (case c => k_is); (case k => k_is)
    case d_fewest_left =>
      refine' PD.mk_def ?a ?l ?c ?k
      (case a => k_is); (case l => k_is); (case c => k_is); (case k => k_is)
    case d__law_stream =>
      refine' PD.mk_def ?a ?l ?c ?k
      (case a => k_is); (case l => k_is); (case c => k_is); (case k => k_is)
    case d__law_draw =>
      refine' PD.mk_def ?a ?l ?c ?k
      (case a => k_is); (case l => k_is); (case c => k_is); (case k => k_is)
    case d__law_pick =>
      refine' PD.mk_def ?a ?l ?c ?k
      (case a => k_is); (case l => k_is); (case c => k_is); (case k => k_is)
    case d__law_mixed =>
      refine' PD.mk_def ?a ?l ?c ?k
      (case a => k_is); (case l => k_is); (case c => k_is); (case k => k_is)
    case d__law_copied =>
      refine' PD.mk_def ?a ?l ?c ?k
      (case a => k_is); (case l => k_is); (case c => k_is); (case k => k_is)
    case d__law_same =>
      refine' PD.mk_def ?a ?l ?c ?k
      (case a => k_is); (case l => k_is); (case c => k_is); (case k => k_is)
    case d__law_spoilt =>
      refine' PD.mk_def ?a ?l ?c ?k
      (case a => k_is); (case l => k_is); (case c => k_is); (case k => k_is)
    case d__law_loose =>
      refine' PD.mk_def ?a ?l ?c ?k
      (case a => k_is); (case l => k_is); (case c => k_is); (case k => k_is)
    case d__law_handed =>
      refine' PD.mk_def ?a ?l ?c ?k
      (case a => k_is); (case l => k_is); (case c => k_is); (case k => k_is)
    case d__law_net =>
      refine' PD.mk_def ?a ?l ?c ?k
      (case a => k_is); (case l => k_is); (case c => k_is); (case k => k_is)
    case d__law_run =>
      refine' PD.mk_def ?a ?l ?c ?k
      (case a => k_is); (case l => k_is); (case c => k_is); (case k => k_is)
    case d__law_bit_rows =>
      refine' PD.mk_def ?a ?l ?c ?k
      (case a => k_is); (case l => k_is); (case c => k_is); (case k => k_is)
    case d__law_unsorted =>
      refine' PD.mk_def ?a ?l ?c ?k
      (case a => k_is); (case l => k_is); (case c => k_is); (case k => k_is)
    case d__law_needless =>
      refine' PD.mk_def ?a ?l ?c ?k
      (case a => k_is); (case l => k_is); (case c => k_is); (case k => k_is)
    case d__law_fewest =>
      refine' PD.mk_def ?a ?l ?c ?k
      (case a => k_is); (case l => k_is); (case c => k_is); (case k => k_is)
    case d_law =>
      refine' PD.mk_def ?a ?l ?c ?k
      (case a => k_is); (case l => k_is); (case c => k_is); (case k => k_is)
    case z_abs => k_is
    case z_all => k_is
    case z_any => k_is
    case z_bool_ => k_is
    case z_dict_ => k_is
    case z_enumerate => k_is
    case z_int_ => k_is
    case z_isinstance => k_is
    case z_len => k_is
    case z_list_ => k_is
    case z_max => k_is
    case z_range => k_is
    case z_repr => k_is
    case z_sorted => k_is
    case z_str_ => k_is
    case z_tuple => k_is
    case z_zip => k_is

