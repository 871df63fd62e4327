import PyProof.Rows.All
import Wide.All
import OpenK.AllK
import Wide.FinOn
import HandS.ForMost
import HandS.Exc
import HandS.Evl
import HandS.DictComp
import HandS.Wide
import HandS.IsInst
import HandS.Conv
import HandS.Style
import HandS.SortRule
import HandS.Zip
import HandS.TupAny
import HandS.Deep
import KE.DataMinMax
import KE.DataCmp
import KE.SortData
import KE.KTupSum
import KE.DataIsa
import HandS.Iter
import KE.GoesEnum
import KE.GoesZip
import KE.GoesMore
import KE.KDictItemsList
import KE.KDictZip
import HandS.Star
import HandS.Defaults
import HandS.Ends
import KE.KStar
import HandS.Head0
import HandS.Head1
import HandS.Head2
import HandS.HeadEnd
import HandS.HeadHook1
import HandS.HeadHook2
import PySem.Challenge.RW_dotbooks_k31_whole_sixty_entries_in_colu
set_option Elab.async false
set_option linter.all false
set_option maxRecDepth 100000
set_option maxHeartbeats 0
/-! Plain data over the tracked heap: what a value stands for, the slots of a def, what an expression or a statement does to them. -/
namespace Pd
open PySem L2 Evl

/-! a value stands for a datum: read off the heap H -/
mutual
inductive Rp (K : PySem.W.Frag) (H : Hp) : V → PyData → Prop
  | non : Rp K H .non .none
  | bl (b : Bool) : Rp K H (.bl b) (.bool b)
  | int (i : Int) : Rp K H (.int i) (.int i)
  | str (x : Str) : Rp K H (.str x) (.str x)
  | lst {a : Addr} {xs : List V} {ds : List PyData} : H a = some (.lst xs) → RpA K H xs ds → Rp K H (.ref a) (.list ds)
  | rdl {a : Addr} {xs : List V} {ds : List PyData} : SqL K H a xs → RpA K H xs ds → Rp K H (.ref a) (.dict [(.dict [], .list ds)])
  | tup {a : Addr} {xs : List V} {ds : List PyData} : SqT K H a xs → RpA K H xs ds → Rp K H (.ref a) (.tuple ds)
  | dik {a : Addr} {kvs : List (Key × V)} {ds : List (PyData × PyData)} : H a = some (.dK kvs) → RpK K H kvs ds → Rp K H (.ref a) (.dict ds)
inductive RpA (K : PySem.W.Frag) (H : Hp) : List V → List PyData → Prop
  | nil : RpA K H [] []
  | cons {v : V} {vs : List V} {d : PyData} {ds : List PyData} : Rp K H v d → RpA K H vs ds → RpA K H (v :: vs) (d :: ds)
inductive RpK (K : PySem.W.Frag) (H : Hp) : List (Key × V) → List (PyData × PyData) → Prop
  | nil : RpK K H [] []
  | int {i : Int} {v : V} {d : PyData} {kvs : List (Key × V)} {ds : List (PyData × PyData)} : Rp K H v d → RpK K H kvs ds → RpK K H ((.inl i, v) :: kvs) ((.int i, d) :: ds)
  | str {x : Str} {v : V} {d : PyData} {kvs : List (Key × V)} {ds : List (PyData × PyData)} : Rp K H v d → RpK K H kvs ds → RpK K H ((.inr x, v) :: kvs) ((.str x, d) :: ds)
end

section
variable {K : PySem.W.Frag} {H H' : Hp}
mutual
theorem Rp.ex (e : Ex H H') : ∀ {v : V} {d : PyData}, Rp K H v d → Rp K H' v d
  | _, _, .non => .non
  | _, _, .bl b => .bl b
  | _, _, .int i => .int i
  | _, _, .str x => .str x
  | _, _, .lst h r => .lst (e _ _ h) (RpA.ex e r)
  | _, _, .rdl h r => .rdl (ex_l e h) (RpA.ex e r)
  | _, _, .tup h r => .tup (ex_t e h) (RpA.ex e r)
  | _, _, .dik h r => .dik (e _ _ h) (RpK.ex e r)
theorem RpA.ex (e : Ex H H') : ∀ {vs : List V} {ds : List PyData}, RpA K H vs ds → RpA K H' vs ds
  | _, _, .nil => .nil
  | _, _, .cons a b => .cons (Rp.ex e a) (RpA.ex e b)
theorem RpK.ex (e : Ex H H') : ∀ {vs : List (Key × V)} {ds : List (PyData × PyData)}, RpK K H vs ds → RpK K H' vs ds
  | _, _, .nil => .nil
  | _, _, .int a b => .int (Rp.ex e a) (RpK.ex e b)
  | _, _, .str a b => .str (Rp.ex e a) (RpK.ex e b)
end
theorem RpA.len {vs : List V} {ds : List PyData} (h : RpA K H vs ds) : vs.length = ds.length := by
  induction vs generalizing ds with
  | nil => cases h; rfl
  | cons v vs ih => cases h with | cons a b => simp [ih b]
theorem RpA.get {vs : List V} {ds : List PyData} (h : RpA K H vs ds) {i : Nat} {d : PyData} (e : ds[i]? = some d) : ∃ v, vs[i]? = some v ∧ Rp K H v d := by
  induction vs generalizing ds i with
  | nil => cases h; simp at e
  | cons v vs ih =>
    cases h with
    | cons a b =>
      cases i with
      | zero => simp at e; subst e; exact ⟨v, rfl, a⟩
      | succ i => obtain ⟨u, h1, h2⟩ := ih b (i := i) (by simpa using e); exact ⟨u, by simpa using h1, h2⟩
theorem RpA.getV {vs : List V} {ds : List PyData} (h : RpA K H vs ds) {i : Nat} {v : V} (e : vs[i]? = some v) : ∃ d, ds[i]? = some d ∧ Rp K H v d := by
  induction vs generalizing ds i with
  | nil => simp at e
  | cons w vs ih =>
    cases h with
    | cons a b =>
      cases i with
      | zero => simp at e; subst e; exact ⟨_, rfl, a⟩
      | succ i => obtain ⟨u, h1, h2⟩ := ih b (i := i) (by simpa using e); exact ⟨u, by simpa using h1, h2⟩
theorem RpA.app {vs ws : List V} {ds es : List PyData} (h : RpA K H vs ds) (g : RpA K H ws es) : RpA K H (vs ++ ws) (ds ++ es) := by
  induction vs generalizing ds with
  | nil => cases h; exact g
  | cons v vs ih => cases h with | cons a b => exact .cons a (ih b)
theorem RpA.set {vs : List V} {ds : List PyData} (h : RpA K H vs ds) {v : V} {d : PyData} (r : Rp K H v d) (i : Nat) : RpA K H (vs.set i v) (ds.set i d) := by
  induction vs generalizing ds i with
  | nil => cases h; exact .nil
  | cons w vs ih =>
    cases h with
    | cons a b =>
      cases i with
      | zero => exact .cons r b
      | succ i => exact .cons a (ih b i)
theorem RpA.take {vs : List V} {ds : List PyData} (h : RpA K H vs ds) (n : Nat) : RpA K H (vs.take n) (ds.take n) := by
  induction vs generalizing ds n with
  | nil => cases h; simp; exact .nil
  | cons w vs ih =>
    cases h with
    | cons a b =>
      cases n with
      | zero => exact .nil
      | succ n => exact .cons a (ih b n)
theorem RpA.drop {vs : List V} {ds : List PyData} (h : RpA K H vs ds) (n : Nat) : RpA K H (vs.drop n) (ds.drop n) := by
  induction vs generalizing ds n with
  | nil => cases h; simp; exact .nil
  | cons w vs ih =>
    cases h with
    | cons a b =>
      cases n with
      | zero => exact .cons a b
      | succ n => exact ih b n
theorem RpA.erase {vs : List V} {ds : List PyData} (h : RpA K H vs ds) (i : Nat) : RpA K H (vs.eraseIdx i) (ds.eraseIdx i) := by
  induction vs generalizing ds i with
  | nil => cases h; exact .nil
  | cons w vs ih =>
    cases h with
    | cons a b =>
      cases i with
      | zero => exact b
      | succ i => exact .cons a (ih b i)
theorem RpA.rev {vs : List V} {ds : List PyData} (h : RpA K H vs ds) : RpA K H vs.reverse ds.reverse := by
  induction vs generalizing ds with
  | nil => cases h; exact .nil
  | cons w vs ih => cases h with | cons a b => rw [List.reverse_cons, List.reverse_cons]; exact (ih b).app (.cons a .nil)
theorem RpA.ints {vs : List V} {ns : List Int} (h : RpA K H vs (ns.map PyData.int)) : vs = ns.map V.int := by
  induction ns generalizing vs with
  | nil => cases h; rfl
  | cons n ns ih => cases h with | cons a b => cases a; rw [ih b]; rfl
theorem RpA.of_ints (ns : List Int) : RpA K H (ns.map V.int) (ns.map PyData.int) := by
  induction ns with
  | nil => exact .nil
  | cons n ns ih => exact .cons (.int n) ih
theorem RpA.bls {vs : List V} {ns : List Bool} (h : RpA K H vs (ns.map PyData.bool)) : vs = ns.map V.bl := by
  induction ns generalizing vs with
  | nil => cases h; rfl
  | cons n ns ih => cases h with | cons a b => cases a; rw [ih b]; rfl
theorem RpA.strs {vs : List V} {ns : List Str} (h : RpA K H vs (ns.map PyData.str)) : vs = ns.map V.str := by
  induction ns generalizing vs with
  | nil => cases h; rfl
  | cons n ns ih => cases h with | cons a b => cases a; rw [ih b]; rfl
end

/-- a slot: nothing is known of it; it holds a datum that stays; it holds a list of the def's own; the list that was handed in to be changed -/
inductive Sl where
  | un | va (d : PyData) | ow (ds : List PyData) | bg (ds : List PyData)
abbrev Env := List Sl
/-- the call: what stood still and what stood at the entry, the list that may change -/
structure Bw where
  G0 : Hp
  H0 : Hp
  ba : Option Addr
/-- the i-th slot holds a list that may change, at a -/
def Own (σ : L2.St) (env : Env) (i : Nat) (a : Addr) : Prop := (∃ ds, env[i]? = some (.ow ds) ∨ env[i]? = some (.bg ds)) ∧ σ[i]? = some (some (.ref a))
def NoOwn (σ : L2.St) (env : Env) (a : Addr) : Prop := ∀ i, ¬ Own σ env i a
def SlOk (K : PySem.W.Frag) (B : Bw) (G H : Hp) (o : Option (Option V)) : Sl → Prop
  | .un => True
  | .va d => ∃ v, o = some (some v) ∧ Rp K G v d
  | .ow ds => ∃ a ws, o = some (some (.ref a)) ∧ G a = none ∧ H a = some (.lst ws) ∧ RpA K G ws ds ∧ B.H0 a = none ∧ B.ba ≠ some a
  | .bg ds => ∃ a ws, o = some (some (.ref a)) ∧ G a = none ∧ H a = some (.lst ws) ∧ RpA K G ws ds ∧ B.ba = some a
/-- the slots and the heap are as env says; G: what will never change -/
structure SO (K : PySem.W.Frag) (B : Bw) (G H : Hp) (σ : L2.St) (env : Env) : Prop where
  len : σ.length = env.length
  gg : Ex B.G0 G
  gh : Ex G H
  hh : ∀ b o, B.ba ≠ some b → B.H0 b = some o → H b = some o
  gn : ∀ b, B.H0 b ≠ none → G b = B.G0 b
  bt : ∀ a, B.ba = some a → H a ≠ none
  sl : ∀ (i : Nat) (s : Sl), env[i]? = some s → SlOk K B G H (σ[i]?) s
  dj : ∀ i j a, Own σ env i a → Own σ env j a → i = j
/-- from one state to a later one within an expression -/
structure Stp (K : PySem.W.Frag) (B : Bw) (σ : L2.St) (env : Env) (G H : Hp) (env' : Env) (G' H' : Hp) : Prop where
  so : SO K B G' H' σ env'
  gx : Ex G G'
  kp : ∀ b o, H b = some o → NoOwn σ env b → H' b = some o ∧ G' b = G b
  sb : ∀ i a, Own σ env' i a → Own σ env i a
  nw : ∀ b, H' b = none → H b = none

section
variable {K : PySem.W.Frag} {B : Bw} {G H G1 H1 G2 H2 : Hp} {σ : L2.St} {env env1 env2 : Env}
theorem Stp.refl (h : SO K B G H σ env) : Stp K B σ env G H env G H := ⟨h, Ex.refl G, fun _ _ e _ => ⟨e, rfl⟩, fun _ _ h => h, fun _ h => h⟩
theorem Stp.trans (a : Stp K B σ env G H env1 G1 H1) (b : Stp K B σ env1 G1 H1 env2 G2 H2) : Stp K B σ env G H env2 G2 H2 where
  so := b.so
  gx := a.gx.trans b.gx
  kp := fun x o e n => by
    obtain ⟨h1, h2⟩ := a.kp x o e n
    obtain ⟨h3, h4⟩ := b.kp x o h1 fun i q => n i (a.sb i x q)
    exact ⟨h3, h4.trans h2⟩
  sb := fun i x q => a.sb i x (b.sb i x q)
  nw := fun x h => a.nw x (b.nw x h)
theorem Own.tracked {i : Nat} {a : Addr} (h : SO K B G H σ env) (o : Own σ env i a) : ∃ ws, H a = some (.lst ws) ∧ G a = none := by
  obtain ⟨⟨ds, e⟩, s⟩ := o
  rcases e with e | e
  · obtain ⟨a', ws, e1, e2, e3, _⟩ := h.sl i _ e
    rw [s] at e1; cases e1
    exact ⟨ws, e3, e2⟩
  · obtain ⟨a', ws, e1, e2, e3, _⟩ := h.sl i _ e
    rw [s] at e1; cases e1
    exact ⟨ws, e3, e2⟩
theorem SO.noOwn (h : SO K B G H σ env) {a : Addr} (e : H a = none) : NoOwn σ env a := fun i o => by
  obtain ⟨ws, q, _⟩ := o.tracked h
  rw [e] at q; cases q
theorem SO.there (h : SO K B G H σ env) {b : Addr} (n : B.H0 b ≠ none) : H b ≠ none := by
  by_cases q : B.ba = some b
  · exact h.bt b q
  · cases e : B.H0 b with
    | none => exact absurd e n
    | some o => rw [h.hh b o q e]; simp
/-- new objects, some of them to stay -/
theorem SO.grow (h : SO K B G H σ env) (hg : Ex G G1) (hh : Ex H H1) (gh : Ex G1 H1) (gn : ∀ b, H b ≠ none → G1 b = G b) : Stp K B σ env G H env G1 H1 := by
  refine ⟨⟨h.len, h.gg.trans hg, gh, fun b o n e => hh b o (h.hh b o n e), fun b n => (gn b (h.there n)).trans (h.gn b n), fun a e => ?_, fun i s e => ?_, h.dj⟩, hg, fun b o e _ => ⟨hh b o e, gn b (by rw [e]; simp)⟩, fun _ _ q => q, fun b e => fresh_back hh e⟩
  · cases q : H a with
    | none => exact absurd q (h.bt a e)
    | some o => rw [hh a o q]; simp
  · have s0 := h.sl i s e
    cases s with
    | un => trivial
    | va d => obtain ⟨v, e1, r⟩ := s0; exact ⟨v, e1, r.ex hg⟩
    | ow ds =>
      obtain ⟨a, ws, e1, e2, e3, r, e4⟩ := s0
      exact ⟨a, ws, e1, (gn a (by rw [e3]; simp)).trans e2, hh _ _ e3, r.ex hg, e4⟩
    | bg ds =>
      obtain ⟨a, ws, e1, e2, e3, r, e4⟩ := s0
      exact ⟨a, ws, e1, (gn a (by rw [e3]; simp)).trans e2, hh _ _ e3, r.ex hg, e4⟩
/-- the heap alone has grown -/
theorem SO.growH (h : SO K B G H σ env) (hh : Ex H H1) : Stp K B σ env G H env G H1 := h.grow (Ex.refl G) hh (h.gh.trans hh) fun _ _ => rfl
/-- one new object, to stay -/
theorem SO.new (h : SO K B G H σ env) {p : Addr} {o : HO} (hp : H p = none) : Stp K B σ env G H env (upd G p o) (upd H p o) := by
  have gp : G p = none := fresh_back h.gh hp
  refine h.grow (Ex.new gp) (Ex.new hp) (fun a u e => ?_) fun b n => ?_
  · by_cases q : a = p
    · subst q; rw [upd_same] at e ⊢; exact e
    · rw [upd_ne q] at e ⊢; exact h.gh a u e
  · exact upd_ne fun q => n (by rw [q]; exact hp)
/-- one new object, not yet to stay -/
theorem SO.newH (h : SO K B G H σ env) {p : Addr} {o : HO} (hp : H p = none) : Stp K B σ env G H env G (upd H p o) := h.growH (Ex.new hp)
end
end Pd

namespace Pd
open PySem L2 Evl

/-! ### what is reckoned: a partial function of the slots -/
abbrev M (α : Type) := Env → Option (α × Env)
def mret {α : Type} (x : α) : M α := fun e => some (x, e)
def mbind {α β : Type} (f : M α) (g : α → M β) : M β := fun e => match f e with
  | some (x, e1) => g x e1
  | none => none
def mlift {α : Type} (o : Option α) : M α := fun e => match o with
  | some x => some (x, e)
  | none => none
theorem mbind_some {α β : Type} {f : M α} {g : α → M β} {e : Env} {r : β × Env} (h : mbind f g e = some r) : ∃ x e1, f e = some (x, e1) ∧ g x e1 = some r := by
  unfold mbind at h
  cases q : f e with
  | none => rw [q] at h; cases h
  | some p => obtain ⟨x, e1⟩ := p; rw [q] at h; exact ⟨x, e1, rfl, h⟩
theorem mlift_some {α : Type} {o : Option α} {e : Env} {r : α × Env} (h : mlift o e = some r) : o = some r.1 ∧ r.2 = e := by
  unfold mlift at h
  cases o with
  | none => cases h
  | some x => cases h; exact ⟨rfl, rfl⟩

/-- readable now: it stays, or it is a list as it stands -/
inductive Rq (K : PySem.W.Frag) (G H : Hp) : V → PyData → Prop
  | st {v : V} {d : PyData} : Rp K G v d → Rq K G H v d
  | ls {a : Addr} {ws : List V} {ds : List PyData} : H a = some (.lst ws) → RpA K G ws ds → Rq K G H (.ref a) (.list ds)

section
variable {K : PySem.W.Frag} {B : Bw} {G H G' H' : Hp} {σ : L2.St} {env env' : Env}
/-- read a list or a tuple -/
theorem Rp.seqH {v : V} {ds : List PyData} (e : Ex G H) (h : Rp K G v (.list ds)) : ∃ a ws, v = .ref a ∧ H a = some (.lst ws) ∧ RpA K G ws ds := by
  cases h with
  | lst a b => exact ⟨_, _, rfl, e _ _ a, b⟩
theorem Rp.seqL {v : V} {ds : List PyData} (e : Ex G H) (h : Rp K G v (.list ds)) : ∃ a ws, v = .ref a ∧ SqL K H a ws ∧ RpA K G ws ds := by
  obtain ⟨a, ws, h1, h2, h3⟩ := h.seqH e
  exact ⟨a, ws, h1, SqL.of h2, h3⟩
theorem Rp.seqT {v : V} {ds : List PyData} (e : Ex G H) (h : Rp K G v (.tuple ds)) : ∃ a ws, v = .ref a ∧ SqT K H a ws ∧ RpA K G ws ds := by
  cases h with
  | tup a b => exact ⟨_, _, rfl, ex_t e a, b⟩
theorem Rq.seqH {v : V} {ds : List PyData} (e : Ex G H) (h : Rq K G H v (.list ds)) : ∃ a ws, v = .ref a ∧ H a = some (.lst ws) ∧ RpA K G ws ds := by
  cases h with
  | st h => exact h.seqH e
  | ls a b => exact ⟨_, _, rfl, a, b⟩
theorem Rq.seqL {v : V} {ds : List PyData} (e : Ex G H) (h : Rq K G H v (.list ds)) : ∃ a ws, v = .ref a ∧ SqL K H a ws ∧ RpA K G ws ds := by
  obtain ⟨a, ws, h1, h2, h3⟩ := h.seqH e
  exact ⟨a, ws, h1, SqL.of h2, h3⟩
theorem Rq.seqT {v : V} {ds : List PyData} (e : Ex G H) (h : Rq K G H v (.tuple ds)) : ∃ a ws, v = .ref a ∧ SqT K H a ws ∧ RpA K G ws ds := by
  cases h with
  | st h => exact h.seqT e
/-- all of the heap counted as staying -/
theorem Rq.rp {v : V} {d : PyData} (e : Ex G H) (h : Rq K G H v d) : Rp K H v d := by
  cases h with
  | st h => exact h.ex e
  | ls a b => exact .lst a (b.ex e)
/-- a new list is made to stay -/
theorem Stp.keep {a : Addr} {oo : HO} (s : Stp K B σ env G H env' G' H') (h0 : H a = none) (h1 : G' a = none) (h2 : H' a = some oo) (so : SO K B G H σ env) :
    Stp K B σ env G H env' (upd G' a oo) H' := by
  have ne : ∀ i c, Own σ env' i c → c ≠ a := fun i c o q => by
    obtain ⟨w, e, _⟩ := (s.sb i c o).tracked so
    rw [q, h0] at e; cases e
  have hz : B.H0 a = none := by
    cases q : B.H0 a with
    | none => rfl
    | some o => exact absurd h0 (so.there (by rw [q]; simp))
  have gx : Ex G' (upd G' a oo) := Ex.new h1
  refine ⟨⟨s.so.len, s.so.gg.trans gx, fun b u e => ?_, s.so.hh, fun b n => ?_, s.so.bt, fun i t e => ?_, s.so.dj⟩, s.gx.trans gx, fun b o e n => ?_, s.sb, s.nw⟩
  · by_cases q : b = a
    · rw [q, upd_same] at e; rw [q, h2]; exact e
    · rw [upd_ne q] at e; exact s.so.gh b u e
  · rw [upd_ne (fun q => n (by rw [q]; exact hz))]; exact s.so.gn b n
  · have t0 := s.so.sl i t e
    cases t with
    | un => trivial
    | va d => obtain ⟨v, e1, r⟩ := t0; exact ⟨v, e1, r.ex gx⟩
    | ow ds =>
      obtain ⟨c, us, e1, e2, e3, r, e4⟩ := t0
      have nc := ne i c ⟨⟨ds, .inl e⟩, e1⟩
      exact ⟨c, us, e1, by rw [upd_ne nc]; exact e2, e3, r.ex gx, e4⟩
    | bg ds =>
      obtain ⟨c, us, e1, e2, e3, r, e4⟩ := t0
      have nc := ne i c ⟨⟨ds, .inr e⟩, e1⟩
      exact ⟨c, us, e1, by rw [upd_ne nc]; exact e2, e3, r.ex gx, e4⟩
  · obtain ⟨k1, k2⟩ := s.kp b o e n
    exact ⟨k1, by rw [upd_ne (ne_of_none e h0)]; exact k2⟩
theorem own_set_other {i j : Nat} {s : Sl} {a : Addr} (h : i ≠ j) : Own σ (env.set j s) i a ↔ Own σ env i a := by
  unfold Own
  rw [List.getElem?_set_ne (Ne.symm h)]
/-- a list of one's own is made to stay -/
theorem SO.freeze {i : Nat} {ds : List PyData} (so : SO K B G H σ env) (e : env[i]? = some (.ow ds)) :
    ∃ a G', σ[i]? = some (some (.ref a)) ∧ Stp K B σ env G H (env.set i (.va (.list ds))) G' H ∧ Rp K G' (.ref a) (.list ds) := by
  obtain ⟨a, ws, e1, e2, e3, r, e4, e5⟩ := so.sl i _ e
  have gx : Ex G (upd G a (.lst ws)) := Ex.new e2
  have hi : i < env.length := (List.getElem?_eq_some_iff.mp e).1
  have rp : Rp K (upd G a (.lst ws)) (.ref a) (.list ds) := .lst upd_same (r.ex gx)
  have ow : Own σ env i a := ⟨⟨ds, .inl e⟩, e1⟩
  have noti : ∀ c, ¬ Own σ (env.set i (.va (.list ds))) i c := fun c o => by
    obtain ⟨⟨es, q⟩, _⟩ := o
    rw [List.getElem?_set_self hi] at q
    rcases q with q | q <;> cases q
  have sub : ∀ j c, Own σ (env.set i (.va (.list ds))) j c → j ≠ i ∧ Own σ env j c := fun j c o => by
    have hj : j ≠ i := fun q => noti c (q ▸ o)
    exact ⟨hj, (own_set_other hj).mp o⟩
  refine ⟨a, upd G a (.lst ws), e1, ⟨⟨by rw [List.length_set]; exact so.len, so.gg.trans gx, fun b u q => ?_, so.hh, fun b n => ?_, so.bt, fun j t q => ?_, fun j k c o1 o2 => so.dj j k c (sub j c o1).2 (sub k c o2).2⟩, gx, fun b o q n => ⟨q, ?_⟩, fun j c o => (sub j c o).2, fun _ q => q⟩, rp⟩
  · by_cases z : b = a
    · rw [z, upd_same] at q; rw [z, e3]; exact q
    · rw [upd_ne z] at q; exact so.gh b u q
  · rw [upd_ne (fun z => n (by rw [z]; exact e4))]; exact so.gn b n
  · by_cases hj : j = i
    · subst hj
      rw [List.getElem?_set_self hi] at q
      cases q
      exact ⟨_, e1, rp⟩
    · rw [List.getElem?_set_ne (Ne.symm hj)] at q
      have t0 := so.sl j t q
      cases t with
      | un => trivial
      | va d => obtain ⟨v, q1, r'⟩ := t0; exact ⟨v, q1, r'.ex gx⟩
      | ow es =>
        obtain ⟨c, us, q1, q2, q3, r', q4⟩ := t0
        have nc : c ≠ a := fun z => hj (so.dj j i a ⟨⟨es, .inl q⟩, z ▸ q1⟩ ow)
        exact ⟨c, us, q1, by rw [upd_ne nc]; exact q2, q3, r'.ex gx, q4⟩
      | bg es =>
        obtain ⟨c, us, q1, q2, q3, r', q4⟩ := t0
        have nc : c ≠ a := fun z => hj (so.dj j i a ⟨⟨es, .inr q⟩, z ▸ q1⟩ ow)
        exact ⟨c, us, q1, by rw [upd_ne nc]; exact q2, q3, r'.ex gx, q4⟩
  · rw [upd_ne (fun z => n i (by rw [z]; exact ow))]
end

/-! ### expressions -/
/-- its value stays -/
def SeP (K : PySem.W.Frag) (t : TE) (f : M PyData) : Prop := ∀ (B : Bw) (G H : Hp) (σ : L2.St) (env : Env) (d : PyData) (env' : Env), SO K B G H σ env → f env = some (d, env') →
  ∀ Q : VK, (∀ v G' H', Stp K B σ env G H env' G' H' → Rp K G' v d → Q v H') → t σ H Q
/-- its value can be read -/
def SeQ (K : PySem.W.Frag) (t : TE) (f : M PyData) : Prop := ∀ (B : Bw) (G H : Hp) (σ : L2.St) (env : Env) (d : PyData) (env' : Env), SO K B G H σ env → f env = some (d, env') →
  ∀ Q : VK, (∀ v G' H', Stp K B σ env G H env' G' H' → Rq K G' H' v d → Q v H') → t σ H Q
/-- its value is a new list -/
def SeL (K : PySem.W.Frag) (t : TE) (f : M PyData) : Prop := ∀ (B : Bw) (G H : Hp) (σ : L2.St) (env : Env) (d : PyData) (env' : Env), SO K B G H σ env → f env = some (d, env') →
  ∀ Q : VK, (∀ a ws ds G' H', Stp K B σ env G H env' G' H' → d = .list ds → H a = none → G' a = none → H' a = some (.lst ws) → RpA K G' ws ds → Q (.ref a) H') → t σ H Q
def SeT (K : PySem.W.Frag) (t : TT) (f : M Bool) : Prop := ∀ (B : Bw) (G H : Hp) (σ : L2.St) (env : Env) (b : Bool) (env' : Env), SO K B G H σ env → f env = some (b, env') →
  ∀ Q : Bool → Hp → Prop, (∀ G' H', Stp K B σ env G H env' G' H' → Q b H') → t σ H Q
def SeA (K : PySem.W.Frag) (t : TA) (f : M (List PyData)) : Prop := ∀ (B : Bw) (G H : Hp) (σ : L2.St) (env : Env) (ds : List PyData) (env' : Env), SO K B G H σ env → f env = some (ds, env') →
  ∀ Q : List V → Hp → Prop, (∀ vs G' H', Stp K B σ env G H env' G' H' → RpA K G' vs ds → Q vs H') → t σ H Q

section
variable {K : PySem.W.Frag} {t : TE} {f : M PyData}
theorem SeP.q (h : SeP K t f) : SeQ K t f := fun B G H σ env d env' so e Q k => h B G H σ env d env' so e Q fun v G' H' s r => k v G' H' s (.st r)
theorem SeL.q (h : SeL K t f) : SeQ K t f := fun B G H σ env d env' so e Q k => h B G H σ env d env' so e Q fun a ws ds G' H' s ed h0 h1 h2 r => k _ G' H' s (by rw [ed]; exact .ls h2 r)
theorem SeL.p (h : SeL K t f) : SeP K t f := fun B G H σ env d env' so e Q k => h B G H σ env d env' so e Q fun a ws ds G' H' s ed h0 h1 h2 r =>
  k _ (upd G' a (.lst ws)) H' (s.keep h0 h1 h2 so) (by rw [ed]; exact .lst upd_same (r.ex (Ex.new h1)))
end

structure DP (X : Cx) (e : Expr) (t : TE) (f : M PyData) : Prop where
  pe : PE X e t
  se : SeP X.K t f
structure DQ (X : Cx) (e : Expr) (t : TE) (f : M PyData) : Prop where
  pe : PE X e t
  se : SeQ X.K t f
structure DL (X : Cx) (e : Expr) (t : TE) (f : M PyData) : Prop where
  pe : PE X e t
  se : SeL X.K t f
structure DT (X : Cx) (e : Expr) (t : TT) (f : M Bool) : Prop where
  pe : PT X e t
  se : SeT X.K t f
structure DA (X : Cx) (es : List Expr) (t : TA) (f : M (List PyData)) : Prop where
  pe : PA X es t
  se : SeA X.K t f
theorem DP.q {X : Cx} {e : Expr} {t : TE} {f : M PyData} (h : DP X e t f) : DQ X e t f := ⟨h.pe, h.se.q⟩
theorem DL.q {X : Cx} {e : Expr} {t : TE} {f : M PyData} (h : DL X e t f) : DQ X e t f := ⟨h.pe, h.se.q⟩
theorem DL.p {X : Cx} {e : Expr} {t : TE} {f : M PyData} (h : DL X e t f) : DP X e t f := ⟨h.pe, h.se.p⟩

/-! ### names, constants -/
def fV (i : Nat) : M PyData := fun e => match e[i]? with
  | some (.va d) => some (d, e)
  | _ => none
def fR (i : Nat) : M PyData := fun e => match e[i]? with
  | some (.ow ds) => some (.list ds, e)
  | some (.bg ds) => some (.list ds, e)
  | _ => none
def fO (i : Nat) : M PyData := fun e => match e[i]? with
  | some (.ow ds) => some (.list ds, e.set i (.va (.list ds)))
  | _ => none
section
variable {K : PySem.W.Frag}
theorem se_var (i : Nat) : SeP K (tVar i) (fV i) := fun B G H σ env d env' so e Q k => by
  unfold fV at e
  split at e
  · rename_i d' q
    cases e
    obtain ⟨v, e1, r⟩ := so.sl i _ q
    exact ⟨v, e1, k v G H (Stp.refl so) r⟩
  · cases e
theorem se_own (i : Nat) : SeQ K (tVar i) (fR i) := fun B G H σ env d env' so e Q k => by
  unfold fR at e
  split at e
  · rename_i d' q
    cases e
    obtain ⟨a, ws, e1, e2, e3, r, _⟩ := so.sl i _ q
    exact ⟨_, e1, k _ G H (Stp.refl so) (.ls e3 r)⟩
  · rename_i d' q
    cases e
    obtain ⟨a, ws, e1, e2, e3, r, _⟩ := so.sl i _ q
    exact ⟨_, e1, k _ G H (Stp.refl so) (.ls e3 r)⟩
  · cases e
theorem se_frz (i : Nat) : SeP K (tVar i) (fO i) := fun B G H σ env d env' so e Q k => by
  unfold fO at e
  split at e
  · rename_i ds q
    cases e
    obtain ⟨a, G', e1, s, r⟩ := so.freeze q
    exact ⟨_, e1, k _ G' H s r⟩
  · cases e
theorem se_c {v : V} {d : PyData} (h : ∀ H, Rp K H v d) : SeP K (tC v) (mret d) := fun B G H σ env d' env' so e Q k => by
  cases e
  exact k v G H (Stp.refl so) (h G)
end
section
variable {X : Cx} {pos : Pos}
theorem dp_var (i : Nat) {x : Str} (hN : X.N[i]? = some x := by rfl) (hv : Vis X.env.scope x := by first | exact Or.inl rfl | exact Or.inr (Or.inl rfl) | exact Or.inr (Or.inr rfl)) (hd : (x == ("__debug__" : Str)) = false := by decide)
    (hcd : (x == ("__classdict__" : Str)) = false := by decide) : DP X (.Name x pos) (tVar i) (fV i) := ⟨pe_var hN hv hd hcd, se_var i⟩
theorem dq_own (i : Nat) {x : Str} (hN : X.N[i]? = some x := by rfl) (hv : Vis X.env.scope x := by first | exact Or.inl rfl | exact Or.inr (Or.inl rfl) | exact Or.inr (Or.inr rfl)) (hd : (x == ("__debug__" : Str)) = false := by decide)
    (hcd : (x == ("__classdict__" : Str)) = false := by decide) : DQ X (.Name x pos) (tVar i) (fR i) := ⟨pe_var hN hv hd hcd, se_own i⟩
theorem dp_frz (i : Nat) {x : Str} (hN : X.N[i]? = some x := by rfl) (hv : Vis X.env.scope x := by first | exact Or.inl rfl | exact Or.inr (Or.inl rfl) | exact Or.inr (Or.inr rfl)) (hd : (x == ("__debug__" : Str)) = false := by decide)
    (hcd : (x == ("__classdict__" : Str)) = false := by decide) : DP X (.Name x pos) (tVar i) (fO i) := ⟨pe_var hN hv hd hcd, se_frz i⟩
theorem dp_int {i : Int} {j} : DP X (.Constant (.int i) j pos) (tC (.int i)) (mret (.int i)) := ⟨pe_int, se_c fun _ => .int i⟩
theorem dp_bl {b : Bool} {j} : DP X (.Constant (.bool b) j pos) (tC (.bl b)) (mret (.bool b)) := ⟨pe_bl, se_c fun _ => .bl b⟩
theorem dp_non {j} : DP X (.Constant .none j pos) (tC .non) (mret .none) := ⟨pe_non, se_c fun _ => .non⟩
theorem dp_str {x : Str} {j} : DP X (.Constant (.str x) j pos) (tC (.str x)) (mret (.str x)) := ⟨pe_str, se_c fun _ => .str x⟩
end

/-! ### operations on values -/
def m1 (g : PyData → Option PyData) (fa : M PyData) : M PyData := mbind fa fun x => mlift (g x)
def m2 (g : PyData → PyData → Option PyData) (fa fb : M PyData) : M PyData := mbind fa fun x => mbind fb fun y => mlift (g x y)
/-- two values that are read, and one that stays -/
def Op2 (K : PySem.W.Frag) (r : R2) (g : PyData → PyData → Option PyData) : Prop := ∀ (B : Bw) (G H : Hp) (σ : L2.St) (env : Env) (v w : V) (x y z : PyData), SO K B G H σ env → Rq K G H v x → Rq K G H w y → g x y = some z →
  ∀ Q : VK, (∀ u G' H', Stp K B σ env G H env G' H' → Rp K G' u z → Q u H') → r v w H Q
/-- .. a new list -/
def Op2L (K : PySem.W.Frag) (r : R2) (g : PyData → PyData → Option PyData) : Prop := ∀ (B : Bw) (G H : Hp) (σ : L2.St) (env : Env) (v w : V) (x y z : PyData), SO K B G H σ env → Rq K G H v x → Rq K G H w y → g x y = some z →
  ∀ Q : VK, (∀ a ws ds G' H', Stp K B σ env G H env G' H' → z = .list ds → H a = none → G' a = none → H' a = some (.lst ws) → RpA K G' ws ds → Q (.ref a) H') → r v w H Q
/-- a call of values that are read -/
def Op1q (K : PySem.W.Frag) (r : List V → Hp → VK → Prop) (g : PyData → Option PyData) : Prop := ∀ (B : Bw) (G H : Hp) (σ : L2.St) (env : Env) (v : V) (x z : PyData), SO K B G H σ env → Rq K G H v x → g x = some z →
  ∀ Q : VK, (∀ u G' H', Stp K B σ env G H env G' H' → Rp K G' u z → Q u H') → r [v] H Q
def Op1qL (K : PySem.W.Frag) (r : List V → Hp → VK → Prop) (g : PyData → Option PyData) : Prop := ∀ (B : Bw) (G H : Hp) (σ : L2.St) (env : Env) (v : V) (x z : PyData), SO K B G H σ env → Rq K G H v x → g x = some z →
  ∀ Q : VK, (∀ a ws ds G' H', Stp K B σ env G H env G' H' → z = .list ds → H a = none → G' a = none → H' a = some (.lst ws) → RpA K G' ws ds → Q (.ref a) H') → r [v] H Q
def OpA (K : PySem.W.Frag) (r : List V → Hp → VK → Prop) (g : List PyData → Option PyData) : Prop := ∀ (B : Bw) (G H : Hp) (σ : L2.St) (env : Env) (vs : List V) (xs : List PyData) (z : PyData), SO K B G H σ env → RpA K G vs xs → g xs = some z →
  ∀ Q : VK, (∀ u G' H', Stp K B σ env G H env G' H' → Rp K G' u z → Q u H') → r vs H Q

section
variable {K : PySem.W.Frag} {ta tb : TE} {fa fb : M PyData} {r : R2} {g : PyData → PyData → Option PyData}
theorem se_op2 (h : Op2 K r g) (ha : SeP K ta fa) (hb : SeP K tb fb) : SeP K (tOp r ta tb) (m2 g fa fb) := fun B G H σ env d env' so e Q k => by
  obtain ⟨x, e1, q1, e⟩ := mbind_some e
  obtain ⟨y, e2, q2, e⟩ := mbind_some e
  obtain ⟨q3, q4⟩ := mlift_some e
  dsimp only at q3 q4
  subst q4
  refine ha B G H σ env x e1 so q1 _ fun v G1 H1 s1 r1 => hb B G1 H1 σ e1 y env' s1.so q2 _ fun w G2 H2 s2 r2 => ?_
  exact h B G2 H2 σ env' v w x y d s2.so (.st (r1.ex s2.gx)) (.st r2) q3 Q fun u G3 H3 s3 r3 => k u G3 H3 ((s1.trans s2).trans s3) r3
theorem se_op2q (h : Op2 K r g) (ha : SeP K ta fa) (hb : SeQ K tb fb) : SeP K (tOp r ta tb) (m2 g fa fb) := fun B G H σ env d env' so e Q k => by
  obtain ⟨x, e1, q1, e⟩ := mbind_some e
  obtain ⟨y, e2, q2, e⟩ := mbind_some e
  obtain ⟨q3, q4⟩ := mlift_some e
  dsimp only at q3 q4
  subst q4
  refine ha B G H σ env x e1 so q1 _ fun v G1 H1 s1 r1 => hb B G1 H1 σ e1 y env' s1.so q2 _ fun w G2 H2 s2 r2 => ?_
  exact h B G2 H2 σ env' v w x y d s2.so (.st (r1.ex s2.gx)) r2 q3 Q fun u G3 H3 s3 r3 => k u G3 H3 ((s1.trans s2).trans s3) r3
theorem se_op2L (h : Op2L K r g) (ha : SeP K ta fa) (hb : SeP K tb fb) : SeL K (tOp r ta tb) (m2 g fa fb) := fun B G H σ env d env' so e Q k => by
  obtain ⟨x, e1, q1, e⟩ := mbind_some e
  obtain ⟨y, e2, q2, e⟩ := mbind_some e
  obtain ⟨q3, q4⟩ := mlift_some e
  dsimp only at q3 q4
  subst q4
  refine ha B G H σ env x e1 so q1 _ fun v G1 H1 s1 r1 => hb B G1 H1 σ e1 y env' s1.so q2 _ fun w G2 H2 s2 r2 => ?_
  have s12 := s1.trans s2
  exact h B G2 H2 σ env' v w x y d s2.so (.st (r1.ex s2.gx)) (.st r2) q3 Q fun a ws ds G3 H3 s3 ed h0 h1 h2 r3 => k a ws ds G3 H3 (s12.trans s3) ed (s12.nw a h0) h1 h2 r3
/-! ### arguments -/
def fNil : M (List PyData) := mret []
def fCons (fa : M PyData) (fr : M (List PyData)) : M (List PyData) := mbind fa fun x => mbind fr fun xs => mret (x :: xs)
theorem se_nil : SeA K tNil fNil := fun B G H σ env d env' so e Q k => by
  cases e
  exact k [] G H (Stp.refl so) .nil
theorem se_cons {tr : TA} {fr : M (List PyData)} (ha : SeP K ta fa) (hr : SeA K tr fr) : SeA K (tCons ta tr) (fCons fa fr) := fun B G H σ env d env' so e Q k => by
  obtain ⟨x, e1, q1, e⟩ := mbind_some e
  obtain ⟨xs, e2, q2, e⟩ := mbind_some e
  cases e
  refine ha B G H σ env x e1 so q1 _ fun v G1 H1 s1 r1 => hr B G1 H1 σ e1 xs env' s1.so q2 _ fun w G2 H2 s2 r2 => ?_
  exact k (v :: w) G2 H2 (s1.trans s2) (.cons (r1.ex s2.gx) r2)
/-- a display -/
def mTup (fr : M (List PyData)) : M PyData := mbind fr fun xs => mlift (if xs.length ≤ 16777216 then some (.tuple xs) else none)
def mLst (fr : M (List PyData)) : M PyData := mbind fr fun xs => mlift (if xs.length ≤ 16777216 then some (.list xs) else none)
theorem sz_line {n : Nat} (h : n ≤ 16777216) : n ≤ sizeLine := by rw [sizeLine_eq]; exact h
theorem se_tup {tr : TA} {fr : M (List PyData)} (hr : SeA K tr fr) : SeP K (tTup tr) (mTup fr) := fun B G H σ env d env' so e Q k => by
  obtain ⟨xs, e1, q1, e⟩ := mbind_some e
  obtain ⟨q3, q4⟩ := mlift_some e
  dsimp only at q3 q4
  subst q4
  refine hr B G H σ env xs env' so q1 _ fun vs G1 H1 s1 r1 => ?_
  split at q3
  · rename_i hl
    cases q3
    refine ⟨sz_line (by rw [r1.len]; exact hl), fun p hp => ?_⟩
    refine k _ _ _ (s1.trans (s1.so.new (o := .tup vs) hp)) (.tup (SqT.of upd_same) (r1.ex (Ex.new (fresh_back s1.so.gh hp))))
  · cases q3
theorem se_lst {tr : TA} {fr : M (List PyData)} (hr : SeA K tr fr) : SeL K (tLst tr) (mLst fr) := fun B G H σ env d env' so e Q k => by
  obtain ⟨xs, e1, q1, e⟩ := mbind_some e
  obtain ⟨q3, q4⟩ := mlift_some e
  dsimp only at q3 q4
  subst q4
  refine hr B G H σ env xs env' so q1 _ fun vs G1 H1 s1 r1 => ?_
  split at q3
  · rename_i hl
    cases q3
    refine ⟨sz_line (by rw [r1.len]; exact hl), fun p hp => ?_⟩
    exact k p vs xs _ _ (s1.trans (s1.so.newH (o := .lst vs) hp)) rfl (s1.nw p hp) (fresh_back s1.so.gh hp) upd_same r1
  · cases q3
/-- built-in calls -/
def mA (g : List PyData → Option PyData) (fr : M (List PyData)) : M PyData := mbind fr fun xs => mlift (g xs)
theorem se_cb1 {r : List V → Hp → VK → Prop} {g : PyData → Option PyData} (h : Op1q K r g) (ha : SeQ K ta fa) : SeP K (tCB r (tCons ta tNil)) (m1 g fa) := fun B G H σ env d env' so e Q k => by
  obtain ⟨x, e1, q1, e⟩ := mbind_some e
  obtain ⟨q3, q4⟩ := mlift_some e
  dsimp only at q3 q4
  subst q4
  refine ha B G H σ env x env' so q1 _ fun v G1 H1 s1 r1 => ?_
  exact h B G1 H1 σ env' v x d s1.so r1 q3 Q fun u G3 H3 s3 r3 => k u G3 H3 (s1.trans s3) r3
theorem se_cb1L {r : List V → Hp → VK → Prop} {g : PyData → Option PyData} (h : Op1qL K r g) (ha : SeQ K ta fa) : SeL K (tCB r (tCons ta tNil)) (m1 g fa) := fun B G H σ env d env' so e Q k => by
  obtain ⟨x, e1, q1, e⟩ := mbind_some e
  obtain ⟨q3, q4⟩ := mlift_some e
  dsimp only at q3 q4
  subst q4
  refine ha B G H σ env x env' so q1 _ fun v G1 H1 s1 r1 => ?_
  exact h B G1 H1 σ env' v x d s1.so r1 q3 Q fun a ws ds G3 H3 s3 ed h0 h1 h2 r3 => k a ws ds G3 H3 (s1.trans s3) ed (s1.nw a h0) h1 h2 r3
theorem se_cbA {r : List V → Hp → VK → Prop} {g : List PyData → Option PyData} {tr : TA} {fr : M (List PyData)} (h : OpA K r g) (hr : SeA K tr fr) : SeP K (tCB r tr) (mA g fr) := fun B G H σ env d env' so e Q k => by
  obtain ⟨x, e1, q1, e⟩ := mbind_some e
  obtain ⟨q3, q4⟩ := mlift_some e
  dsimp only at q3 q4
  subst q4
  refine hr B G H σ env x env' so q1 _ fun v G1 H1 s1 r1 => ?_
  exact h B G1 H1 σ env' v x d s1.so r1 q3 Q fun u G3 H3 s3 r3 => k u G3 H3 (s1.trans s3) r3
end
end Pd

namespace Pd
open PySem L2 Evl

/-! ### tests -/
def gB : PyData → Option Bool
  | .bool b => some b
  | _ => none
/-- truth -/
def gTru : PyData → Option Bool
  | .none => some false
  | .bool b => some b
  | .int i => some (i != 0)
  | .list xs => some (!xs.isEmpty)
  | .tuple xs => some (!xs.isEmpty)
  | _ => none
def mT (g : PyData → Option Bool) (f : M PyData) : M Bool := mbind f fun x => mlift (g x)
def mAnd (f g : M Bool) : M Bool := mbind f fun b => if b then g else mret false
def mOr (f g : M Bool) : M Bool := mbind f fun b => if b then mret true else g
def mNot (f : M Bool) : M Bool := mbind f fun b => mret (!b)
def mIte {α : Type} (c : M Bool) (f g : M α) : M α := mbind c fun b => if b then f else g
def mVal (f : M Bool) : M PyData := mbind f fun b => mret (.bool b)

section
variable {K : PySem.W.Frag} {te ta tb : TE} {t u : TT} {f fa fb : M PyData} {ft fu : M Bool}
theorem se_test (h : SeQ K te f) : SeT K (tTest te) (mT gB f) := fun B G H σ env b env' so e Q k => by
  obtain ⟨x, e1, q1, e⟩ := mbind_some e
  obtain ⟨q3, q4⟩ := mlift_some e
  dsimp only at q3 q4
  subst q4
  refine h B G H σ env x env' so q1 _ fun v G1 H1 s1 r1 => ?_
  cases x <;> first | cases q3 | skip
  cases r1 with
  | st r => cases r; exact ⟨_, rfl, k G1 H1 s1⟩
theorem se_truth (h : SeQ K te f) : SeT K (fun σ H Q => te σ H fun x H' => ∃ k, TruV K x H' k ∧ Q k H') (mT gTru f) := fun B G H σ env b env' so e Q k => by
  obtain ⟨x, e1, q1, e⟩ := mbind_some e
  obtain ⟨q3, q4⟩ := mlift_some e
  dsimp only at q3 q4
  subst q4
  refine h B G H σ env x env' so q1 _ fun v G1 H1 s1 r1 => ?_
  cases x with
  | none => cases q3; cases r1 with | st r => cases r; exact ⟨_, rfl, k G1 H1 s1⟩
  | bool c => cases q3; cases r1 with | st r => cases r; exact ⟨_, rfl, k G1 H1 s1⟩
  | int c => cases q3; cases r1 with | st r => cases r; exact ⟨_, rfl, k G1 H1 s1⟩
  | str c => cases q3
  | list xs =>
    cases q3
    obtain ⟨a, ws, rfl, hq, r⟩ := r1.seqL s1.so.gh
    refine ⟨!xs.isEmpty, .inl ⟨ws, hq, ?_⟩, k G1 H1 s1⟩
    cases r <;> rfl
  | tuple xs =>
    cases q3
    obtain ⟨a, ws, rfl, hq, r⟩ := r1.seqT s1.so.gh
    refine ⟨!xs.isEmpty, .inr (.inl ⟨ws, hq, ?_⟩), k G1 H1 s1⟩
    cases r <;> rfl
  | dict xs => cases q3
theorem se_and (h : SeT K t ft) (g : SeT K u fu) : SeT K (tAnd t u) (mAnd ft fu) := fun B G H σ env b env' so e Q k => by
  obtain ⟨x, e1, q1, e⟩ := mbind_some e
  refine h B G H σ env x e1 so q1 _ fun G1 H1 s1 => ?_
  cases x with
  | true => exact g B G1 H1 σ e1 b env' s1.so e Q fun G2 H2 s2 => k G2 H2 (s1.trans s2)
  | false => cases e; exact k G1 H1 s1
theorem se_or (h : SeT K t ft) (g : SeT K u fu) : SeT K (tOr t u) (mOr ft fu) := fun B G H σ env b env' so e Q k => by
  obtain ⟨x, e1, q1, e⟩ := mbind_some e
  refine h B G H σ env x e1 so q1 _ fun G1 H1 s1 => ?_
  cases x with
  | false => exact g B G1 H1 σ e1 b env' s1.so e Q fun G2 H2 s2 => k G2 H2 (s1.trans s2)
  | true => cases e; exact k G1 H1 s1
theorem se_not (h : SeT K t ft) : SeT K (tNot t) (mNot ft) := fun B G H σ env b env' so e Q k => by
  obtain ⟨x, e1, q1, e⟩ := mbind_some e
  cases e
  exact h B G H σ env x env' so q1 _ fun G1 H1 s1 => k G1 H1 s1
theorem se_ifP (h : SeT K t ft) (ha : SeP K ta fa) (hb : SeP K tb fb) : SeP K (tIf t ta tb) (mIte ft fa fb) := fun B G H σ env d env' so e Q k => by
  obtain ⟨x, e1, q1, e⟩ := mbind_some e
  refine h B G H σ env x e1 so q1 _ fun G1 H1 s1 => ?_
  cases x with
  | true => exact ha B G1 H1 σ e1 d env' s1.so e Q fun v G2 H2 s2 => k v G2 H2 (s1.trans s2)
  | false => exact hb B G1 H1 σ e1 d env' s1.so e Q fun v G2 H2 s2 => k v G2 H2 (s1.trans s2)
theorem se_ifL (h : SeT K t ft) (ha : SeL K ta fa) (hb : SeL K tb fb) : SeL K (tIf t ta tb) (mIte ft fa fb) := fun B G H σ env d env' so e Q k => by
  obtain ⟨x, e1, q1, e⟩ := mbind_some e
  refine h B G H σ env x e1 so q1 _ fun G1 H1 s1 => ?_
  cases x with
  | true => exact ha B G1 H1 σ e1 d env' s1.so e Q fun v ws ds G2 H2 s2 ed h0 => k v ws ds G2 H2 (s1.trans s2) ed (s1.nw v h0)
  | false => exact hb B G1 H1 σ e1 d env' s1.so e Q fun v ws ds G2 H2 s2 ed h0 => k v ws ds G2 H2 (s1.trans s2) ed (s1.nw v h0)
/-! and, or, not as values: all members True or False -/
theorem se_andV (h : SeP K ta fa) (g : SeP K tb fb) : SeP K (tAndV ta tb) (mbind (mT gB fa) fun b => if b then fb else mret (.bool false)) := fun B G H σ env d env' so e Q k => by
  obtain ⟨x, e1, q1, e⟩ := mbind_some e
  obtain ⟨y, e2, q2, q1⟩ := mbind_some q1
  obtain ⟨q3, q4⟩ := mlift_some q1
  dsimp only at q3 q4
  subst q4
  refine h B G H σ env y e1 so q2 _ fun v G1 H1 s1 r1 => ?_
  cases y <;> first | cases q3 | skip
  cases r1
  refine ⟨_, rfl, ?_⟩
  cases x with
  | true => exact g B G1 H1 σ e1 d env' s1.so e Q fun v G2 H2 s2 => k v G2 H2 (s1.trans s2)
  | false => cases e; exact k _ G1 H1 s1 (.bl false)
theorem se_orV (h : SeP K ta fa) (g : SeP K tb fb) : SeP K (tOrV ta tb) (mbind (mT gB fa) fun b => if b then mret (.bool true) else fb) := fun B G H σ env d env' so e Q k => by
  obtain ⟨x, e1, q1, e⟩ := mbind_some e
  obtain ⟨y, e2, q2, q1⟩ := mbind_some q1
  obtain ⟨q3, q4⟩ := mlift_some q1
  dsimp only at q3 q4
  subst q4
  refine h B G H σ env y e1 so q2 _ fun v G1 H1 s1 r1 => ?_
  cases y <;> first | cases q3 | skip
  cases r1
  refine ⟨_, rfl, ?_⟩
  cases x with
  | false => exact g B G1 H1 σ e1 d env' s1.so e Q fun v G2 H2 s2 => k v G2 H2 (s1.trans s2)
  | true => cases e; exact k _ G1 H1 s1 (.bl true)
theorem se_notV (h : SeP K ta fa) : SeP K (tNotV ta) (mVal (mNot (mT gB fa))) := fun B G H σ env d env' so e Q k => by
  obtain ⟨x, e1, q1, e⟩ := mbind_some e
  obtain ⟨z, e3, q0, q1⟩ := mbind_some q1
  obtain ⟨y, e2, q2, q5⟩ := mbind_some q0
  obtain ⟨q3, q4⟩ := mlift_some q5
  dsimp only at q3 q4
  subst q4
  cases q1
  cases e
  refine h B G H σ env y _ so q2 _ fun v G1 H1 s1 r1 => ?_
  cases y <;> first | cases q3 | skip
  cases r1
  exact ⟨_, rfl, k _ G1 H1 s1 (.bl _)⟩
end

/-! ### what a def promises -/
/-- nothing that stood is changed; the value stays -/
def spP (K : PySem.W.Frag) (pf : List PyData → Option PyData) : Sp := fun vs H Q _ => ∃ G ds d, Ex G H ∧ RpA K G vs ds ∧ pf ds = some d ∧
  ∀ v G' H', Ex G G' → Ex H H' → Ex G' H' → (∀ b, H b ≠ none → G' b = G b) → Rp K G' v d → Q v H'
/-- .. the value is a new list -/
def spL (K : PySem.W.Frag) (pf : List PyData → Option PyData) : Sp := fun vs H Q _ => ∃ G ds d, Ex G H ∧ RpA K G vs ds ∧ pf ds = some d ∧
  ∀ a ws es G' H', d = .list es → Ex G G' → Ex H H' → Ex G' H' → (∀ b, H b ≠ none → G' b = G b) → H a = none → G' a = none → H' a = some (.lst ws) → RpA K G' ws es → Q (.ref a) H'
/-- the first argument is a list that may be changed -/
def spB (K : PySem.W.Frag) (pf : List PyData → List PyData → Option (PyData × List PyData)) : Sp := fun vs H Q _ => ∃ G a ws bs us ds d bs', vs = .ref a :: us ∧ Ex G H ∧ G a = none ∧ H a = some (.lst ws) ∧ RpA K G ws bs ∧ RpA K G us ds ∧ pf bs ds = some (d, bs') ∧
  ∀ v G' H' ws', Ex G G' → (∀ b o, b ≠ a → H b = some o → H' b = some o) → Ex G' H' → (∀ b, H b ≠ none → G' b = G b) → H' a = some (.lst ws') → RpA K G' ws' bs' → Rp K G' v d → Q v H'

section
variable {K : PySem.W.Frag} {tr : TA} {fr : M (List PyData)} {pf : List PyData → Option PyData}
theorem se_call (hr : SeA K tr fr) : SeP K (tCall (spP K pf) [] E0 tr) (mA pf fr) := fun B G H σ env d env' so e Q k => by
  obtain ⟨x, e1, q1, e⟩ := mbind_some e
  obtain ⟨q3, q4⟩ := mlift_some e
  dsimp only at q3 q4
  subst q4
  refine hr B G H σ env x env' so q1 _ fun vs G1 H1 s1 r1 => ?_
  refine ⟨G1, x, d, s1.so.gh, by rw [List.append_nil]; exact r1, q3, fun v G2 H2 a b c n r2 => ?_⟩
  exact k v G2 H2 (s1.trans (s1.so.grow a b c n)) r2
theorem se_callL (hr : SeA K tr fr) : SeL K (tCall (spL K pf) [] E0 tr) (mA pf fr) := fun B G H σ env d env' so e Q k => by
  obtain ⟨x, e1, q1, e⟩ := mbind_some e
  obtain ⟨q3, q4⟩ := mlift_some e
  dsimp only at q3 q4
  subst q4
  refine hr B G H σ env x env' so q1 _ fun vs G1 H1 s1 r1 => ?_
  refine ⟨G1, x, d, s1.so.gh, by rw [List.append_nil]; exact r1, q3, fun p ws es G2 H2 ed a b c n h0 h1 h2 r2 => ?_⟩
  exact k p ws es G2 H2 (s1.trans (s1.so.grow a b c n)) ed (s1.nw p h0) h1 h2 r2
end

/-! ### the list that is handed on to be changed -/
def owOf (e : Env) (i : Nat) : Option (List PyData) := match e[i]? with
  | some (.ow ds) => some ds
  | some (.bg ds) => some ds
  | _ => none
def putOw (e : Env) (i : Nat) (ds : List PyData) : Env := match e[i]? with
  | some (.ow _) => e.set i (.ow ds)
  | some (.bg _) => e.set i (.bg ds)
  | _ => e
section
variable {K : PySem.W.Frag} {B : Bw} {G H G' H' : Hp} {σ : L2.St} {env : Env}
theorem owOf_own {i : Nat} {ds : List PyData} (so : SO K B G H σ env) (h : owOf env i = some ds) :
    ∃ a ws, Own σ env i a ∧ σ[i]? = some (some (.ref a)) ∧ G a = none ∧ H a = some (.lst ws) ∧ RpA K G ws ds := by
  unfold owOf at h
  split at h
  · rename_i es q
    cases h
    obtain ⟨a, ws, e1, e2, e3, r, _⟩ := so.sl i _ q
    exact ⟨a, ws, ⟨⟨_, .inl q⟩, e1⟩, e1, e2, e3, r⟩
  · rename_i es q
    cases h
    obtain ⟨a, ws, e1, e2, e3, r, _⟩ := so.sl i _ q
    exact ⟨a, ws, ⟨⟨_, .inr q⟩, e1⟩, e1, e2, e3, r⟩
  · cases h
theorem own_put {i j : Nat} {ds : List PyData} {a : Addr} : Own σ (putOw env i ds) j a ↔ Own σ env j a := by
  unfold putOw
  split
  · rename_i es q
    have hi : i < env.length := (List.getElem?_eq_some_iff.mp q).1
    by_cases hj : j = i
    · subst hj
      unfold Own
      rw [List.getElem?_set_self hi, q]
      constructor
      · rintro ⟨_, s⟩; exact ⟨⟨_, .inl rfl⟩, s⟩
      · rintro ⟨_, s⟩; exact ⟨⟨_, .inl rfl⟩, s⟩
    · exact own_set_other hj
  · rename_i es q
    have hi : i < env.length := (List.getElem?_eq_some_iff.mp q).1
    by_cases hj : j = i
    · subst hj
      unfold Own
      rw [List.getElem?_set_self hi, q]
      constructor
      · rintro ⟨_, s⟩; exact ⟨⟨_, .inr rfl⟩, s⟩
      · rintro ⟨_, s⟩; exact ⟨⟨_, .inr rfl⟩, s⟩
    · exact own_set_other hj
  · exact Iff.rfl
theorem putOw_len {i : Nat} {ds : List PyData} : (putOw env i ds).length = env.length := by
  unfold putOw
  split <;> simp
/-- the own list in the i-th slot has changed, all else that stood has not -/
theorem SO.put {i : Nat} {a : Addr} {ws' : List V} {ds ds' : List PyData} (so : SO K B G H σ env) (ho : owOf env i = some ds) (hs : σ[i]? = some (some (.ref a)))
    (hg : Ex G G') (hh : ∀ b o, b ≠ a → H b = some o → H' b = some o) (gh : Ex G' H') (gn : ∀ b, H b ≠ none → G' b = G b) (ha : H' a = some (.lst ws')) (r : RpA K G' ws' ds') :
    Stp K B σ env G H (putOw env i ds') G' H' := by
  obtain ⟨c, ws, ow, e1, e2, e3, r0⟩ := owOf_own so ho
  rw [hs] at e1; cases e1
  have own' : ∀ j b, Own σ (putOw env i ds') j b → Own σ env j b := fun j b o => own_put.mp o
  refine ⟨⟨by rw [putOw_len]; exact so.len, so.gg.trans hg, gh, fun b o n e => ?_, fun b n => (gn b (so.there n)).trans (so.gn b n), fun b e => ?_, fun j t q => ?_, fun j k b o1 o2 => so.dj j k b (own' j b o1) (own' k b o2)⟩, hg, fun b o e n => ⟨hh b o (fun z => n i (by rw [z]; exact ow)) e, gn b (by rw [e]; simp)⟩, own', fun b e => ?_⟩
  · by_cases hb : b = a
    · subst hb
      unfold owOf at ho
      split at ho
      · rename_i es q
        obtain ⟨a', ws', z1, z2, z3, z4, z5, z6⟩ := so.sl i _ q
        rw [hs] at z1; cases z1
        rw [z5] at e; cases e
      · rename_i es q
        obtain ⟨a', ws', z1, z2, z3, z4, z5⟩ := so.sl i _ q
        rw [hs] at z1; cases z1
        exact absurd z5 n
      · cases ho
    · exact hh b o hb (so.hh b o n e)
  · by_cases hb : b = a
    · rw [hb, ha]; simp
    · cases q : H b with
      | none => exact absurd q (so.bt b e)
      | some o => rw [hh b o hb q]; simp
  · -- the slots
    by_cases hj : j = i
    · subst hj
      unfold owOf at ho
      unfold putOw at q
      split at ho
      · rename_i es z
        have hi : j < env.length := (List.getElem?_eq_some_iff.mp z).1
        rw [z] at q
        dsimp only at q
        rw [List.getElem?_set_self hi] at q
        cases q
        obtain ⟨a', ws2, z1, z2, z3, z4, z5, z6⟩ := so.sl j _ z
        rw [hs] at z1; cases z1
        exact ⟨a, ws', hs, (gn a (by rw [z3]; simp)).trans z2, ha, r, z5, z6⟩
      · rename_i es z
        have hi : j < env.length := (List.getElem?_eq_some_iff.mp z).1
        rw [z] at q
        dsimp only at q
        rw [List.getElem?_set_self hi] at q
        cases q
        obtain ⟨a', ws2, z1, z2, z3, z4, z5⟩ := so.sl j _ z
        rw [hs] at z1; cases z1
        exact ⟨a, ws', hs, (gn a (by rw [z3]; simp)).trans z2, ha, r, z5⟩
      · cases ho
    · have q' : env[j]? = some t := by
        unfold putOw at q
        split at q
        · rwa [List.getElem?_set_ne (Ne.symm hj)] at q
        · rwa [List.getElem?_set_ne (Ne.symm hj)] at q
        · exact q
      have t0 := so.sl j t q'
      cases t with
      | un => trivial
      | va d => obtain ⟨v, z1, r'⟩ := t0; exact ⟨v, z1, r'.ex hg⟩
      | ow es =>
        obtain ⟨c, us, z1, z2, z3, r', z4⟩ := t0
        have nc : c ≠ a := fun z => hj (so.dj j i a ⟨⟨es, .inl q'⟩, z ▸ z1⟩ ow)
        exact ⟨c, us, z1, (gn c (by rw [z3]; simp)).trans z2, hh c _ nc z3, r'.ex hg, z4⟩
      | bg es =>
        obtain ⟨c, us, z1, z2, z3, r', z4⟩ := t0
        have nc : c ≠ a := fun z => hj (so.dj j i a ⟨⟨es, .inr q'⟩, z ▸ z1⟩ ow)
        exact ⟨c, us, z1, (gn c (by rw [z3]; simp)).trans z2, hh c _ nc z3, r'.ex hg, z4⟩
  · by_cases hb : b = a
    · rw [hb, ha] at e; cases e
    · cases q : H b with
      | none => rfl
      | some o => rw [hh b o hb q] at e; cases e
/-- .. by a store -/
theorem SO.put1 {i : Nat} {a : Addr} {ws' : List V} {ds ds' : List PyData} (so : SO K B G H σ env) (ho : owOf env i = some ds) (hs : σ[i]? = some (some (.ref a))) (r : RpA K G ws' ds') :
    Stp K B σ env G H (putOw env i ds') G (upd H a (.lst ws')) := by
  obtain ⟨c, ws, ow, e1, e2, e3, r0⟩ := owOf_own so ho
  rw [hs] at e1; cases e1
  exact so.put ho hs (Ex.refl G) (fun b o hb e => by rw [upd_ne hb]; exact e) (so.gh.mut e2) (fun _ _ => rfl) upd_same r
end
/-- f(bag, ..): the bag in the i-th slot -/
def mCallB (i : Nat) (pf : List PyData → List PyData → Option (PyData × List PyData)) (fr : M (List PyData)) : M PyData := fun e => match owOf e i with
  | none => none
  | some _ => match fr e with
    | none => none
    | some (ds, e1) => match owOf e1 i with
      | none => none
      | some bs => match pf bs ds with
        | none => none
        | some (d, bs') => some (d, putOw e1 i bs')
section
variable {K : PySem.W.Frag} {tr : TA} {fr : M (List PyData)}
theorem se_callB {i : Nat} {pf : List PyData → List PyData → Option (PyData × List PyData)} (hr : SeA K tr fr) : SeP K (tCall (spB K pf) [] E0 (tCons (tVar i) tr)) (mCallB i pf fr) := fun B G H σ env d env' so e Q k => by
  unfold mCallB at e
  cases h0 : owOf env i with
  | none => rw [h0] at e; cases e
  | some b0 =>
    rw [h0] at e
    dsimp only at e
    cases h1 : fr env with
    | none => rw [h1] at e; cases e
    | some p =>
      obtain ⟨ds, e1⟩ := p
      rw [h1] at e
      dsimp only at e
      cases h2 : owOf e1 i with
      | none => rw [h2] at e; cases e
      | some bs =>
        rw [h2] at e
        dsimp only at e
        cases h3 : pf bs ds with
        | none => rw [h3] at e; cases e
        | some p2 =>
          obtain ⟨d2, bs'⟩ := p2
          rw [h3] at e
          cases e
          obtain ⟨a, ws, ow, z1, z2, z3, r0⟩ := owOf_own so h0
          refine ⟨_, z1, hr B G H σ env ds e1 so h1 _ fun vs G1 H1 s1 r1 => ?_⟩
          obtain ⟨a', ws1, ow1, y1, y2, y3, r2⟩ := owOf_own s1.so h2
          rw [z1] at y1; cases y1
          refine ⟨G1, a, ws1, bs, vs, ds, d, bs', by simp, s1.so.gh, y2, y3, r2, r1, h3, fun v G2 H2 ws2 x1 x2 x3 x4 x5 x6 x7 => ?_⟩
          exact k v G2 H2 (s1.trans (s1.so.put h2 z1 x1 x2 x3 x4 x5 x6)) x7
end

/-! ### own list on the left of an operation: it is read when both have been reckoned -/
def m2o (i : Nat) (g : PyData → PyData → Option PyData) (fb : M PyData) : M PyData := fun e => match owOf e i with
  | none => none
  | some _ => match fb e with
    | none => none
    | some (y, e1) => match owOf e1 i with
      | none => none
      | some ds => mlift (g (.list ds) y) e1
section
variable {K : PySem.W.Frag} {tb : TE} {fb : M PyData} {r : R2} {g : PyData → PyData → Option PyData}
theorem m2o_some {i : Nat} {env env' : Env} {d : PyData} (e : m2o i g fb env = some (d, env')) : ∃ d0 y ds, owOf env i = some d0 ∧ fb env = some (y, env') ∧ owOf env' i = some ds ∧ g (.list ds) y = some d := by
  unfold m2o at e
  cases h0 : owOf env i with
  | none => rw [h0] at e; cases e
  | some b0 =>
    rw [h0] at e
    dsimp only at e
    cases h1 : fb env with
    | none => rw [h1] at e; cases e
    | some p =>
      obtain ⟨y, e1⟩ := p
      rw [h1] at e
      dsimp only at e
      cases h2 : owOf e1 i with
      | none => rw [h2] at e; cases e
      | some ds =>
        rw [h2] at e
        obtain ⟨q3, q4⟩ := mlift_some e
        dsimp only at q3 q4
        subst q4
        exact ⟨b0, y, ds, rfl, rfl, h2, q3⟩
theorem se_op2o {i : Nat} (h : Op2 K r g) (hb : SeQ K tb fb) : SeP K (tOp r (tVar i) tb) (m2o i g fb) := fun B G H σ env d env' so e Q k => by
  obtain ⟨d0, y, ds, q0, q1, q2, q3⟩ := m2o_some e
  obtain ⟨a, ws, ow, z1, z2, z3, r0⟩ := owOf_own so q0
  refine ⟨_, z1, hb B G H σ env y env' so q1 _ fun w G1 H1 s1 r1 => ?_⟩
  obtain ⟨a', ws1, ow1, y1, y2, y3, r2⟩ := owOf_own s1.so q2
  rw [z1] at y1; cases y1
  exact h B G1 H1 σ env' _ w _ y d s1.so (.ls y3 r2) r1 q3 Q fun u G3 H3 s3 r3 => k u G3 H3 (s1.trans s3) r3
theorem se_op2oL {i : Nat} (h : Op2L K r g) (hb : SeQ K tb fb) : SeL K (tOp r (tVar i) tb) (m2o i g fb) := fun B G H σ env d env' so e Q k => by
  obtain ⟨d0, y, ds, q0, q1, q2, q3⟩ := m2o_some e
  obtain ⟨a, ws, ow, z1, z2, z3, r0⟩ := owOf_own so q0
  refine ⟨_, z1, hb B G H σ env y env' so q1 _ fun w G1 H1 s1 r1 => ?_⟩
  obtain ⟨a', ws1, ow1, y1, y2, y3, r2⟩ := owOf_own s1.so q2
  rw [z1] at y1; cases y1
  exact h B G1 H1 σ env' _ w _ y d s1.so (.ls y3 r2) r1 q3 Q fun b us es G3 H3 s3 ed h0 h1 h2 r3 => k b us es G3 H3 (s1.trans s3) ed (s1.nw b h0) h1 h2 r3
end
end Pd

namespace Pd
open PySem L2 Evl

/-! ### statements -/
/-- how a statement ends: it goes on; the def hands back a datum, a new list; the loop is left, goes on -/
inductive Fl where
  | nx | rt (d : PyData) | rf (ds : List PyData) | bk | ct
def PostS (K : PySem.W.Frag) (B : Bw) (G : Hp) (D : Ends) (env' : Env) : Fl → Prop
  | .nx => ∀ σ' G' H', SO K B G' H' σ' env' → Ex G G' → D.nx σ' H'
  | .bk => ∀ σ' G' H', SO K B G' H' σ' env' → Ex G G' → D.bk σ' H'
  | .ct => ∀ σ' G' H', SO K B G' H' σ' env' → Ex G G' → D.ct σ' H'
  | .rt d => ∀ v σ' G' H', SO K B G' H' σ' env' → Ex G G' → Rp K G' v d → D.rt v H'
  | .rf ds => ∀ a ws σ' G' H', SO K B G' H' σ' env' → Ex G G' → B.H0 a = none → G' a = none → H' a = some (.lst ws) → RpA K G' ws ds → D.rt (.ref a) H'
def SeS (K : PySem.W.Frag) (t : TS) (f : M Fl) : Prop := ∀ (B : Bw) (G H : Hp) (σ : L2.St) (env : Env) (fl : Fl) (env' : Env), SO K B G H σ env → f env = some (fl, env') →
  ∀ D : Ends, PostS K B G D env' fl → t D σ H
theorem PostS.ex {K : PySem.W.Frag} {B : Bw} {G G1 : Hp} {D : Ends} {env' : Env} {fl : Fl} (h : PostS K B G D env' fl) (e : Ex G G1) : PostS K B G1 D env' fl := by
  cases fl with
  | nx => exact fun σ' G' H' so x => h σ' G' H' so (e.trans x)
  | bk => exact fun σ' G' H' so x => h σ' G' H' so (e.trans x)
  | ct => exact fun σ' G' H' so x => h σ' G' H' so (e.trans x)
  | rt d => exact fun v σ' G' H' so x => h v σ' G' H' so (e.trans x)
  | rf ds => exact fun v ws σ' G' H' so x => h v ws σ' G' H' so (e.trans x)

structure DS (X : Cx) (s : Stmt) (t : TS) (f : M Fl) : Prop where
  pe : PS X s t
  se : SeS X.K t f
structure DB (X : Cx) (s : List Stmt) (t : TS) (f : M Fl) : Prop where
  pe : PSs X s t
  se : SeS X.K t f

def fNx : M Fl := mret .nx
def fSeq (f g : M Fl) : M Fl := fun e => match f e with
  | some (.nx, e1) => g e1
  | r => r
section
variable {K : PySem.W.Frag} {t u : TS} {f g : M Fl}
theorem se_next : SeS K tNext fNx := fun B G H σ env fl env' so e D k => by
  cases e
  exact k σ G H so (Ex.refl G)
theorem se_never : SeS K tNever (fun _ => none) := fun B G H σ env fl env' so e D k => by cases e
theorem se_seq (ht : SeS K t f) (hu : SeS K u g) : SeS K (tSeq t u) (fSeq f g) := fun B G H σ env fl env' so e D k => by
  unfold fSeq at e
  cases q : f env with
  | none => rw [q] at e; cases e
  | some p =>
    obtain ⟨fl1, e1⟩ := p
    rw [q] at e
    refine ht B G H σ env fl1 e1 so q _ ?_
    cases fl1 with
    | nx => exact fun σ' G' H' so' x => hu B G' H' σ' e1 fl env' so' e D (k.ex x)
    | bk => cases e; exact k
    | ct => cases e; exact k
    | rt d => cases e; exact k
    | rf ds => cases e; exact k
theorem se_ifS {c : TT} {fc : M Bool} (hc : SeT K c fc) (ht : SeS K t f) (hu : SeS K u g) : SeS K (tIfS c t u) (mIte fc f g) := fun B G H σ env fl env' so e D k => by
  obtain ⟨x, e1, q1, e⟩ := mbind_some e
  refine hc B G H σ env x e1 so q1 _ fun G1 H1 s1 => ?_
  cases x with
  | true => exact ht B G1 H1 σ e1 fl env' s1.so e D (k.ex s1.gx)
  | false => exact hu B G1 H1 σ e1 fl env' s1.so e D (k.ex s1.gx)
theorem se_break : SeS K tBreak (mret .bk) := fun B G H σ env fl env' so e D k => by
  cases e
  exact k σ G H so (Ex.refl G)
theorem se_cont : SeS K tCont (mret .ct) := fun B G H σ env fl env' so e D k => by
  cases e
  exact k σ G H so (Ex.refl G)
theorem se_retN : SeS K tRetN (mret (.rt .none)) := fun B G H σ env fl env' so e D k => by
  cases e
  exact k .non σ G H so (Ex.refl G) .non
def fRet (fa : M PyData) : M Fl := mbind fa fun x => mret (.rt x)
theorem se_ret {te : TE} {fa : M PyData} (h : SeP K te fa) : SeS K (tRet te) (fRet fa) := fun B G H σ env fl env' so e D k => by
  obtain ⟨x, e1, q1, e⟩ := mbind_some e
  cases e
  exact h B G H σ env x env' so q1 _ fun v G1 H1 s1 r1 => k v σ G1 H1 s1.so s1.gx r1
def fRetF (fa : M PyData) : M Fl := mbind fa fun x => mlift (match x with
  | .list ds => some (.rf ds)
  | _ => none)
theorem se_retF {te : TE} {fa : M PyData} (h : SeL K te fa) : SeS K (tRet te) (fRetF fa) := fun B G H σ env fl env' so e D k => by
  obtain ⟨x, e1, q1, e⟩ := mbind_some e
  obtain ⟨q3, q4⟩ := mlift_some e
  dsimp only at q3 q4
  subst q4
  refine h B G H σ env x env' so q1 _ fun a ws ds G1 H1 s1 ed h0 h1 h2 r1 => ?_
  subst ed
  cases q3
  refine k a ws σ G1 H1 s1.so s1.gx ?_ h1 h2 r1
  cases q : B.H0 a with
  | none => rfl
  | some o => exact absurd h0 (so.there (by rw [q]; simp))
def fDrop (fa : M PyData) : M Fl := mbind fa fun _ => mret .nx
theorem se_drop {te : TE} {fa : M PyData} (h : SeP K te fa) : SeS K (tDrop te) (fDrop fa) := fun B G H σ env fl env' so e D k => by
  obtain ⟨x, e1, q1, e⟩ := mbind_some e
  cases e
  exact h B G H σ env x env' so q1 _ fun v G1 H1 s1 r1 => k σ G1 H1 s1.so s1.gx
end

/-! ### stores -/
def setE (e : Env) (i : Nat) (s : Sl) : Option Env := match e[i]? with
  | some (.bg _) => none
  | some _ => some (e.set i s)
  | none => none
section
variable {K : PySem.W.Frag} {B : Bw} {G H G' H' : Hp} {σ : L2.St} {env env' : Env}
theorem setE_some {i : Nat} {s : Sl} (h : setE env i s = some env') : i < env.length ∧ env' = env.set i s ∧ ∀ ds, env[i]? ≠ some (.bg ds) := by
  unfold setE at h
  split at h
  · cases h
  · rename_i x n q
    cases h
    exact ⟨(List.getElem?_eq_some_iff.mp q).1, rfl, fun ds z => by rw [q] at z; exact n ds (Option.some.inj z)⟩
  · cases h
/-- a slot stored: what holds of the others stays -/
theorem SO.store {i : Nat} {s : Sl} {v : V} (so : SO K B G H σ env) (h : setE env i s = some env') (ok : SlOk K B G H (some (some v)) s)
    (ow : ∀ a, ((∃ ds, s = .ow ds) ∨ (∃ ds, s = .bg ds)) → v = .ref a → NoOwn σ env a) : SO K B G H (σ.set i (some v)) env' := by
  obtain ⟨hi, rfl, nb⟩ := setE_some h
  have hσ : i < σ.length := by rw [so.len]; exact hi
  have own1 : ∀ j a, j ≠ i → (Own (σ.set i (some v)) (env.set i s) j a ↔ Own σ env j a) := fun j a hj => by
    unfold Own
    rw [List.getElem?_set_ne (Ne.symm hj), List.getElem?_set_ne (Ne.symm hj)]
  have own2 : ∀ a, Own (σ.set i (some v)) (env.set i s) i a → NoOwn σ env a := fun a o => by
    obtain ⟨⟨ds, q⟩, z⟩ := o
    rw [List.getElem?_set_self hi] at q
    rw [List.getElem?_set_self hσ] at z
    refine ow a ?_ (Option.some.inj (Option.some.inj z))
    rcases q with q | q
    · exact .inl ⟨ds, Option.some.inj q⟩
    · exact .inr ⟨ds, Option.some.inj q⟩
  refine ⟨by rw [List.length_set, List.length_set]; exact so.len, so.gg, so.gh, so.hh, so.gn, so.bt, fun j t q => ?_, fun j k a o1 o2 => ?_⟩
  · by_cases hj : j = i
    · subst hj
      rw [List.getElem?_set_self hi] at q
      cases q
      rw [List.getElem?_set_self hσ]
      exact ok
    · rw [List.getElem?_set_ne (Ne.symm hj)] at q
      rw [List.getElem?_set_ne (Ne.symm hj)]
      exact so.sl j t q
  · by_cases hj : j = i
    · by_cases hk : k = i
      · rw [hj, hk]
      · subst hj
        exact absurd ((own1 k a hk).mp o2) (own2 a o1 k)
    · by_cases hk : k = i
      · subst hk
        exact absurd ((own1 j a hj).mp o1) (own2 a o2 j)
      · exact so.dj j k a ((own1 j a hj).mp o1) ((own1 k a hk).mp o2)
/-- .. by a datum -/
theorem SO.storeV {i : Nat} {d : PyData} {v : V} (so : SO K B G H σ env) (h : setE env i (.va d) = some env') (r : Rp K G v d) : SO K B G H (σ.set i (some v)) env' :=
  so.store h ⟨v, rfl, r⟩ fun a q _ => by rcases q with ⟨ds, q⟩ | ⟨ds, q⟩ <;> cases q
theorem own_storeV {i : Nat} {d : PyData} {v : V} (so : SO K B G H σ env) (h : setE env i (.va d) = some env') : ∀ j a, Own (σ.set i (some v)) env' j a → Own σ env j a := fun j a o => by
  obtain ⟨hi, rfl, nb⟩ := setE_some h
  by_cases hj : j = i
  · subst hj
    obtain ⟨⟨ds, q⟩, _⟩ := o
    rw [List.getElem?_set_self hi] at q
    rcases q with q | q <;> cases q
  · unfold Own at o ⊢
    rw [List.getElem?_set_ne (Ne.symm hj), List.getElem?_set_ne (Ne.symm hj)] at o
    exact o
end
/-- x = e -/
def fSet (i : Nat) (fa : M PyData) : M Fl := mbind fa fun x e => match setE e i (.va x) with
  | some e1 => some (.nx, e1)
  | none => none
/-- x = a new list, that will be changed -/
def fSetL (i : Nat) (fa : M PyData) : M Fl := mbind fa fun x e => match x with
  | .list ds => (match setE e i (.ow ds) with
    | some e1 => some (.nx, e1)
    | none => none)
  | _ => none
section
variable {K : PySem.W.Frag} {te : TE} {fa : M PyData}
theorem se_set {i : Nat} (h : SeP K te fa) : SeS K (tAsg te (gName i)) (fSet i fa) := fun B G H σ env fl env' so e D k => by
  obtain ⟨x, e1, q1, e⟩ := mbind_some e
  cases q : setE e1 i (.va x) with
  | none => rw [q] at e; cases e
  | some e2 =>
    rw [q] at e
    cases e
    exact h B G H σ env x e1 so q1 _ fun v G1 H1 s1 r1 => k _ G1 H1 (s1.so.storeV q r1) s1.gx
theorem se_setL {i : Nat} (h : SeL K te fa) : SeS K (tAsg te (gName i)) (fSetL i fa) := fun B G H σ env fl env' so e D k => by
  obtain ⟨x, e1, q1, e⟩ := mbind_some e
  split at e
  · rename_i ds
    cases q : setE e1 i (.ow ds) with
    | none => rw [q] at e; cases e
    | some e2 =>
      rw [q] at e
      cases e
      refine h B G H σ env _ e1 so q1 _ fun a ws es G1 H1 s1 ed h0 h1 h2 r1 => ?_
      cases ed
      refine k _ G1 H1 (s1.so.store q ⟨a, ws, rfl, h1, h2, r1, ?_, fun z => so.bt a z h0⟩ fun b _ ev => ?_) s1.gx
      · cases z : B.H0 a with
        | none => rfl
        | some o => exact absurd h0 (so.there (by rw [z]; simp))
      · cases ev
        exact fun j o => so.noOwn h0 j (s1.sb j a o)
  · cases e
end

/-! ### targets -/
def SeG (K : PySem.W.Frag) (js : List Nat) (g : TG) (fg : PyData → Env → Option Env) : Prop := ∀ (B : Bw) (G H : Hp) (σ : L2.St) (env : Env) (d : PyData) (v : V) (env' : Env), SO K B G H σ env → Rp K G v d → fg d env = some env' →
  ∀ Q : L2.St → Hp → Prop, (∀ σ', SO K B G H σ' env' → (∀ j, j ∉ js → σ'[j]? = σ[j]?) → σ'.length = σ.length → (∀ i a, Own σ' env' i a → Own σ env i a) → Q σ' H) → g v σ H Q
def SeGs (K : PySem.W.Frag) (js : List Nat) (g : TGs) (fg : List PyData → Env → Option Env) : Prop := ∀ (B : Bw) (G H : Hp) (σ : L2.St) (env : Env) (ds : List PyData) (vs : List V) (env' : Env), SO K B G H σ env → RpA K G vs ds → fg ds env = some env' →
  ∀ Q : L2.St → Hp → Prop, (∀ σ', SO K B G H σ' env' → (∀ j, j ∉ js → σ'[j]? = σ[j]?) → σ'.length = σ.length → (∀ i a, Own σ' env' i a → Own σ env i a) → Q σ' H) → g vs σ H Q
def tgName (i : Nat) : PyData → Env → Option Env := fun d e => setE e i (.va d)
def tgNil : List PyData → Env → Option Env := fun ds e => match ds with
  | [] => some e
  | _ => none
def tgCons (f : PyData → Env → Option Env) (g : List PyData → Env → Option Env) : List PyData → Env → Option Env := fun ds e => match ds with
  | d :: r => (match f d e with
    | some e1 => g r e1
    | none => none)
  | [] => none
/-- a tuple of n -/
def tgTup (n : Nat) (g : List PyData → Env → Option Env) : PyData → Env → Option Env := fun d e => match d with
  | .tuple ds => if ds.length = n then g ds e else none
  | _ => none
section
variable {K : PySem.W.Frag}
theorem sg_name (i : Nat) : SeG K [i] (gName i) (tgName i) := fun B G H σ env d v env' so r e Q k =>
  k _ (so.storeV e r) (fun j hj => List.getElem?_set_ne (fun z => hj (by simp [z]))) (by rw [List.length_set]) (own_storeV so e)
theorem sgs_nil : SeGs K [] gNil tgNil := fun B G H σ env ds vs env' so r e Q k => by
  unfold tgNil at e
  split at e
  · cases e
    cases r
    exact ⟨rfl, k σ so (fun _ _ => rfl) rfl fun _ _ h => h⟩
  · cases e
theorem sgs_cons {js ks : List Nat} {g : TG} {u : TGs} {f : PyData → Env → Option Env} {h : List PyData → Env → Option Env} (hg : SeG K js g f) (hu : SeGs K ks u h) : SeGs K (js ++ ks) (gCons g u) (tgCons f h) := fun B G H σ env ds vs env' so r e Q k => by
  unfold tgCons at e
  split at e
  · rename_i d rs
    cases q : f d env with
    | none => rw [q] at e; cases e
    | some e1 =>
      rw [q] at e
      cases r with
      | cons r1 r2 =>
        refine ⟨_, _, rfl, hg B G H σ env d _ e1 so r1 q _ fun σ1 so1 z1 l1 o1 => ?_⟩
        refine hu B G H σ1 e1 rs _ env' so1 r2 e _ fun σ2 so2 z2 l2 o2 => k σ2 so2 (fun j hj => ?_) (l2.trans l1) fun i a o => o1 i a (o2 i a o)
        rw [List.mem_append, not_or] at hj
        exact (z2 j hj.2).trans (z1 j hj.1)
  · cases e
theorem sg_tup {js : List Nat} {n : Nat} {u : TGs} {h : List PyData → Env → Option Env} (hu : SeGs K js u h) : SeG K js (gTup K n u) (tgTup n h) := fun B G H σ env d v env' so r e Q k => by
  unfold tgTup at e
  split at e
  · rename_i ds
    split at e
    · rename_i hl
      obtain ⟨a, ws, rfl, hq, r1⟩ := r.seqT so.gh
      exact ⟨a, ws, rfl, hq, by rw [r1.len]; exact hl, hu B G H σ env ds ws env' so r1 e Q k⟩
    · cases e
  · cases e
end
structure DG (X : Cx) (e : Expr) (js : List Nat) (g : TG) (f : PyData → Env → Option Env) : Prop where
  pe : PG X e g
  se : SeG X.K js g f
structure DGs (X : Cx) (es : List Expr) (js : List Nat) (g : TGs) (f : List PyData → Env → Option Env) : Prop where
  pe : PGs X es g
  se : SeGs X.K js g f
/-- target = e -/
def fAsg (fa : M PyData) (g : PyData → Env → Option Env) : M Fl := mbind fa fun x e => match g x e with
  | some e1 => some (.nx, e1)
  | none => none
theorem se_asg {K : PySem.W.Frag} {te : TE} {fa : M PyData} {js : List Nat} {g : TG} {fg : PyData → Env → Option Env} (h : SeP K te fa) (hg : SeG K js g fg) : SeS K (tAsg te g) (fAsg fa fg) := fun B G H σ env fl env' so e D k => by
  obtain ⟨x, e1, q1, e⟩ := mbind_some e
  cases q : fg x e1 with
  | none => rw [q] at e; cases e
  | some e2 =>
    rw [q] at e
    cases e
    exact h B G H σ env x e1 so q1 _ fun v G1 H1 s1 r1 => hg B G1 H1 σ e1 x v env' s1.so r1 q _ fun σ' so' _ _ _ => k σ' G1 H1 so' s1.gx

/-! ### what a loop walks -/
/-- from the heap G on (which stays) the iterator J yields ds -/
structure ItOk (K : PySem.W.Frag) (G : Hp) (J : It) (ds : List PyData) : Prop where
  go : ∀ i H, Ex G H → i < ds.length → J.go i H
  stop : ∀ H, Ex G H → J.stop ds.length H
  yld : ∀ (i : Nat) (H : Hp) (x : V) (H' : Hp) (d : PyData), Ex G H → ds[i]? = some d → J.yld i H x H' → ∀ G1, Ex G G1 → Ex G1 H → ∃ G2, Ex G1 G2 ∧ Ex H H' ∧ Ex G2 H' ∧ (∀ b, H b ≠ none → G2 b = G1 b) ∧ Rp K G2 x d
def SeI (K : PySem.W.Frag) (wi : TI) (f : M (List PyData)) : Prop := ∀ (B : Bw) (G H : Hp) (σ : L2.St) (env : Env) (ds : List PyData) (env' : Env), SO K B G H σ env → f env = some (ds, env') →
  ∀ R : It → Hp → Prop, (∀ J G' H', Stp K B σ env G H env' G' H' → ItOk K G' J ds → R J H') → wi σ H R
structure DI (X : Cx) (tg e : Expr) (wi : TI) (f : M (List PyData)) : Prop where
  pe : PI X tg e wi
  se : SeI X.K wi f
def gSeqL : PyData → Option (List PyData)
  | .list ds => some ds
  | _ => none
def gSeqT : PyData → Option (List PyData)
  | .tuple ds => some ds
  | _ => none
def gSeq : PyData → Option (List PyData)
  | .list ds => some ds
  | .tuple ds => some ds
  | _ => none
def mI (g : PyData → Option (List PyData)) (fa : M PyData) : M (List PyData) := mbind fa fun x => mlift (g x)
section
variable {K : PySem.W.Frag} {te : TE} {fa : M PyData}
theorem it_list {G : Hp} {a : Addr} {ws : List V} {ds : List PyData} (h : SqL K G a ws) (r : RpA K G ws ds) : ItOk K G (Itl K a) ds where
  go := fun i H e hi => by
    have hw : i < ws.length := by rw [r.len]; exact hi
    exact ⟨ws, ws[i], ex_l e h, by simp [hw]⟩
  stop := fun H e => ⟨ws, ex_l e h, by rw [r.len]; exact Nat.le_refl _⟩
  yld := fun i H x H' d e hd y G1 g1 g2 => by
    obtain ⟨rfl, y⟩ := y
    obtain ⟨v, hv, rv⟩ := r.get hd
    have q := y ws (ex_l e h)
    rw [hv] at q; cases q
    exact ⟨G1, Ex.refl _, Ex.refl _, g2, fun _ _ => rfl, rv.ex g1⟩
theorem it_tup {G : Hp} {a : Addr} {ws : List V} {ds : List PyData} (h : SqT K G a ws) (r : RpA K G ws ds) : ItOk K G (Itt K a) ds where
  go := fun i H e hi => by
    have hw : i < ws.length := by rw [r.len]; exact hi
    exact ⟨ws, ws[i], ex_t e h, by simp [hw]⟩
  stop := fun H e => ⟨ws, ex_t e h, by rw [r.len]; exact Nat.le_refl _⟩
  yld := fun i H x H' d e hd y G1 g1 g2 => by
    obtain ⟨rfl, y⟩ := y
    obtain ⟨v, hv, rv⟩ := r.get hd
    have q := y ws (ex_t e h)
    rw [hv] at q; cases q
    exact ⟨G1, Ex.refl _, Ex.refl _, g2, fun _ _ => rfl, rv.ex g1⟩
theorem si_list (h : SeP K te fa) : SeI K (iList K te) (mI gSeqL fa) := fun B G H σ env ds env' so e R k => by
  obtain ⟨x, e1, q1, e⟩ := mbind_some e
  obtain ⟨q3, q4⟩ := mlift_some e
  dsimp only at q3 q4
  subst q4
  refine h B G H σ env x env' so q1 _ fun v G1 H1 s1 r1 => ?_
  cases x <;> first | cases q3 | skip
  cases r1 with
  | lst hq r => exact ⟨_, rfl, ⟨_, SqL.of (s1.so.gh _ _ hq)⟩, k _ G1 H1 s1 (it_list (SqL.of hq) r)⟩
theorem si_tup (h : SeP K te fa) : SeI K (iTup K te) (mI gSeqT fa) := fun B G H σ env ds env' so e R k => by
  obtain ⟨x, e1, q1, e⟩ := mbind_some e
  obtain ⟨q3, q4⟩ := mlift_some e
  dsimp only at q3 q4
  subst q4
  refine h B G H σ env x env' so q1 _ fun v G1 H1 s1 r1 => ?_
  cases x <;> first | cases q3 | skip
  cases r1 with
  | tup hq r => exact ⟨_, rfl, ⟨_, ex_t s1.so.gh hq⟩, k _ G1 H1 s1 (it_tup hq r)⟩
end

/-! ### for -/
def forL (g : PyData → Env → Option Env) (fb : M Fl) : List PyData → M Fl
  | [], e => some (.nx, e)
  | d :: r, e => match g d e with
    | none => none
    | some e1 => match fb e1 with
      | none => none
      | some (.nx, e2) => forL g fb r e2
      | some (.ct, e2) => forL g fb r e2
      | some (.bk, e2) => some (.nx, e2)
      | some (fl, e2) => some (fl, e2)
def fFor (fi : M (List PyData)) (g : PyData → Env → Option Env) (fb : M Fl) : M Fl := mbind fi fun ds => forL g fb ds
/-- objects have come that stay or not: the slots are as they were -/
theorem SO.grow' {K : PySem.W.Frag} {B : Bw} {G H G1 H1 : Hp} {σ : L2.St} {env : Env} (h : SO K B G H σ env) (hg : Ex G G1) (hh : Ex H H1) (gh : Ex G1 H1) (gn : ∀ b, H b ≠ none → G1 b = G b) : SO K B G1 H1 σ env := (h.grow hg hh gh gn).so
theorem se_for {K : PySem.W.Frag} {wi : TI} {fi : M (List PyData)} {js : List Nat} {g : TG} {fg : PyData → Env → Option Env} {tb : TS} {fb : M Fl} (hi : SeI K wi fi) (hg : SeG K js g fg) (hb : SeS K tb fb) : SeS K (tFor wi g tb) (fFor fi fg fb) := fun B G H σ env fl env' so e D k => by
  obtain ⟨ds, e1, q1, e⟩ := mbind_some e
  refine hi B G H σ env ds e1 so q1 _ fun J G0 H0 s0 it => ?_
  refine ⟨fun i m σ' H' => ∃ G' en, SO K B G' H' σ' en ∧ Ex G0 G' ∧ i ≤ ds.length ∧ m = ds.length - i ∧ forL fg fb (ds.drop i) en = some (fl, env'), ⟨ds.length, G0, e1, s0.so, Ex.refl _, Nat.zero_le _, rfl, e⟩, ?_⟩
  rintro i m σ1 H1 ⟨G1, en, so1, gx1, hi1, rfl, q⟩
  by_cases hlt : i < ds.length
  · refine .inr ⟨it.go i H1 (gx1.trans so1.gh) hlt, ?_⟩
    rw [List.drop_eq_getElem_cons hlt] at q
    have hd : ds[i]? = some ds[i] := by simp [hlt]
    unfold forL at q
    cases qg : fg ds[i] en with
    | none => rw [qg] at q; cases q
    | some e2 =>
      rw [qg] at q
      dsimp only at q
      cases qb : fb e2 with
      | none => rw [qb] at q; cases q
      | some p =>
        obtain ⟨fl1, e3⟩ := p
        rw [qb] at q
        refine ⟨fun σ' H' => ∃ G' en, SO K B G' H' σ' en ∧ Ex G0 G' ∧ forL fg fb (ds.drop (i + 1)) en = some (fl, env'), fun σ' H' ⟨G', en', a, b, c⟩ => ⟨ds.length - (i + 1), by omega, G', en', a, b, hlt, rfl, c⟩, fun x H2 y => ?_⟩
        obtain ⟨G2, a1, a2, a3, a4, r⟩ := it.yld i H1 x H2 _ (gx1.trans so1.gh) hd y G1 gx1 so1.gh
        have so2 := so1.grow' a1 a2 a3 a4
        refine hg B G2 H2 σ1 en _ x e2 so2 r qg _ fun σ3 so3 _ _ _ => ?_
        refine hb B G2 H2 σ3 e2 fl1 e3 so3 qb _ ?_
        cases fl1 with
        | nx => exact fun σ' G' H' so' x => ⟨G', e3, so', (gx1.trans a1).trans x, q⟩
        | ct => exact fun σ' G' H' so' x => ⟨G', e3, so', (gx1.trans a1).trans x, q⟩
        | bk =>
          have q' : some (Fl.nx, e3) = some (fl, env') := q
          cases q'
          exact fun σ' G' H' so' x => k σ' G' H' so' (((s0.gx.trans gx1).trans a1).trans x)
        | rt d =>
          have q' : some (Fl.rt d, e3) = some (fl, env') := q
          cases q'
          exact fun v σ' G' H' so' x => k v σ' G' H' so' (((s0.gx.trans gx1).trans a1).trans x)
        | rf d =>
          have q' : some (Fl.rf d, e3) = some (fl, env') := q
          cases q'
          exact fun v ws σ' G' H' so' x => k v ws σ' G' H' so' (((s0.gx.trans gx1).trans a1).trans x)
  · have hi2 : i = ds.length := by omega
    subst hi2
    refine .inl ⟨it.stop H1 (gx1.trans so1.gh), ?_⟩
    rw [List.drop_length] at q
    have q' : some (Fl.nx, en) = some (fl, env') := q
    cases q'
    exact k σ1 G1 H1 so1 (s0.gx.trans gx1)

/-! ### while -/
def whileF (fc : M Bool) (fb : M Fl) : Nat → M Fl
  | 0, _ => none
  | n + 1, e => match fc e with
    | none => none
    | some (false, e1) => some (.nx, e1)
    | some (true, e1) => match fb e1 with
      | none => none
      | some (.nx, e2) => whileF fc fb n e2
      | some (.ct, e2) => whileF fc fb n e2
      | some (.bk, e2) => some (.nx, e2)
      | some (fl, e2) => some (fl, e2)
open Classical in
/-- as often as it takes -/
noncomputable def fWhile (fc : M Bool) (fb : M Fl) : M Fl := fun e => if h : ∃ n, (whileF fc fb n e).isSome = true then whileF fc fb h.choose e else none
theorem whileF_more {fc : M Bool} {fb : M Fl} : ∀ {n : Nat} {e : Env} {r : Fl × Env}, whileF fc fb n e = some r → ∀ m, n ≤ m → whileF fc fb m e = some r
  | 0, _, _, h, _, _ => by cases h
  | n + 1, e, r, h, m, hm => by
    obtain ⟨m, rfl⟩ : ∃ k, m = k + 1 := ⟨m - 1, by omega⟩
    unfold whileF at h ⊢
    cases q : fc e with
    | none => rw [q] at h; cases h
    | some p =>
      obtain ⟨b, e1⟩ := p
      rw [q] at h
      cases b with
      | false => exact h
      | true =>
        dsimp only at h ⊢
        cases q2 : fb e1 with
        | none => rw [q2] at h; cases h
        | some p2 =>
          obtain ⟨fl, e2⟩ := p2
          rw [q2] at h
          cases fl with
          | nx => exact whileF_more h m (by omega)
          | ct => exact whileF_more h m (by omega)
          | bk => exact h
          | rt d => exact h
          | rf d => exact h
theorem fWhile_of {fc : M Bool} {fb : M Fl} {n : Nat} {e : Env} {r : Fl × Env} (h : whileF fc fb n e = some r) : fWhile fc fb e = some r := by
  unfold fWhile
  have ex : ∃ n, (whileF fc fb n e).isSome = true := ⟨n, by rw [h]; rfl⟩
  rw [dif_pos ex]
  have hs := ex.choose_spec
  cases q : whileF fc fb ex.choose e with
  | none => rw [q] at hs; cases hs
  | some p =>
    have a := whileF_more q (max n ex.choose) (Nat.le_max_right _ _)
    have b := whileF_more h (max n ex.choose) (Nat.le_max_left _ _)
    rw [a] at b
    exact b
theorem fWhile_some {fc : M Bool} {fb : M Fl} {e : Env} {r : Fl × Env} (h : fWhile fc fb e = some r) : ∃ n, whileF fc fb n e = some r := by
  unfold fWhile at h
  split at h
  · exact ⟨_, h⟩
  · cases h
theorem se_while {K : PySem.W.Frag} {tc : TT} {fc : M Bool} {tb : TS} {fb : M Fl} (hc : SeT K tc fc) (hb : SeS K tb fb) : SeS K (tWhile tc tb) (fWhile fc fb) := fun B G H σ env fl env' so e D k => by
  obtain ⟨n, q⟩ := fWhile_some e
  refine ⟨fun m σ' H' => ∃ G' en, SO K B G' H' σ' en ∧ Ex G G' ∧ whileF fc fb m en = some (fl, env'), ⟨n, G, env, so, Ex.refl _, q⟩, ?_⟩
  rintro m σ1 H1 ⟨G1, en, so1, gx1, q⟩
  cases m with
  | zero => cases q
  | succ m =>
    unfold whileF at q
    cases qc : fc en with
    | none => rw [qc] at q; cases q
    | some p =>
      obtain ⟨b, e1⟩ := p
      rw [qc] at q
      refine hc B G1 H1 σ1 en b e1 so1 qc _ fun G2 H2 s2 => ?_
      cases b with
      | false =>
        have q' : some (Fl.nx, e1) = some (fl, env') := q
        cases q'
        exact k σ1 G2 H2 s2.so (gx1.trans s2.gx)
      | true =>
        dsimp only at q
        cases qb : fb e1 with
        | none => rw [qb] at q; cases q
        | some p2 =>
          obtain ⟨fl1, e2⟩ := p2
          rw [qb] at q
          refine ⟨fun σ' H' => ∃ G' en, SO K B G' H' σ' en ∧ Ex G G' ∧ whileF fc fb m en = some (fl, env'), fun σ' H' h => ⟨m, Nat.lt_succ_self m, h⟩, ?_⟩
          refine hb B G2 H2 σ1 e1 fl1 e2 s2.so qb _ ?_
          cases fl1 with
          | nx => exact fun σ' G' H' so' x => ⟨G', e2, so', (gx1.trans s2.gx).trans x, q⟩
          | ct => exact fun σ' G' H' so' x => ⟨G', e2, so', (gx1.trans s2.gx).trans x, q⟩
          | bk =>
            have q' : some (Fl.nx, e2) = some (fl, env') := q
            cases q'
            exact fun σ' G' H' so' x => k σ' G' H' so' ((gx1.trans s2.gx).trans x)
          | rt d =>
            have q' : some (Fl.rt d, e2) = some (fl, env') := q
            cases q'
            exact fun v σ' G' H' so' x => k v σ' G' H' so' ((gx1.trans s2.gx).trans x)
          | rf d =>
            have q' : some (Fl.rf d, e2) = some (fl, env') := q
            cases q'
            exact fun v ws σ' G' H' so' x => k v ws σ' G' H' so' ((gx1.trans s2.gx).trans x)
end Pd

namespace Pd
open PySem L2 Evl

/-! ### comprehensions -/
def wipeE (e : Env) : List Nat → Env
  | [] => e
  | v :: vs => (wipeE e vs).set v .un
/-- the block's own slots as they were ahead of it -/
def restE (e e2 : Env) : List Nat → Env
  | [] => e2
  | v :: vs => (restE e e2 vs).set v (match e[v]? with
    | some (.va d) => .va d
    | _ => .un)
theorem wipeE_len (e : Env) : ∀ vs, (wipeE e vs).length = e.length
  | [] => rfl
  | v :: vs => by unfold wipeE; rw [List.length_set, wipeE_len e vs]
theorem restE_len (e e2 : Env) : ∀ vs, (restE e e2 vs).length = e2.length
  | [] => rfl
  | v :: vs => by unfold restE; rw [List.length_set, restE_len e e2 vs]
theorem wipeE_get {e : Env} {i : Nat} {s : Sl} : ∀ {vs : List Nat}, (wipeE e vs)[i]? = some s → s = .un ∨ (i ∉ vs ∧ e[i]? = some s)
  | [], h => .inr ⟨by simp, h⟩
  | v :: vs, h => by
    unfold wipeE at h
    by_cases hi : v = i
    · subst hi
      by_cases hv : v < (wipeE e vs).length
      · rw [List.getElem?_set_self hv] at h; cases h; exact .inl rfl
      · rw [List.getElem?_eq_none (by simpa using hv)] at h; cases h
    · rw [List.getElem?_set_ne hi] at h
      rcases wipeE_get h with h | ⟨h1, h2⟩
      · exact .inl h
      · exact .inr ⟨by simp only [List.mem_cons, not_or]; exact ⟨fun z => hi z.symm, h1⟩, h2⟩
theorem restE_get {e e2 : Env} {i : Nat} {s : Sl} : ∀ {vs : List Nat}, (restE e e2 vs)[i]? = some s → s = .un ∨ (∃ d, s = .va d ∧ e[i]? = some (.va d)) ∨ (i ∉ vs ∧ e2[i]? = some s)
  | [], h => .inr (.inr ⟨by simp, h⟩)
  | v :: vs, h => by
    unfold restE at h
    by_cases hi : v = i
    · subst hi
      by_cases hv : v < (restE e e2 vs).length
      · rw [List.getElem?_set_self hv] at h
        cases h
        split
        · rename_i d q; exact .inr (.inl ⟨d, rfl, q⟩)
        · exact .inl rfl
      · rw [List.getElem?_eq_none (by simpa using hv)] at h; cases h
    · rw [List.getElem?_set_ne hi] at h
      rcases restE_get h with h | h | ⟨h1, h2⟩
      · exact .inl h
      · exact .inr (.inl h)
      · exact .inr (.inr ⟨by simp only [List.mem_cons, not_or]; exact ⟨fun z => hi z.symm, h1⟩, h2⟩)
theorem wipe_get {σ : L2.St} {i : Nat} : ∀ {vs : List Nat}, i ∉ vs → (wipe σ vs)[i]? = σ[i]?
  | [], _ => rfl
  | v :: vs, h => by
    simp only [List.mem_cons, not_or] at h
    unfold wipe
    rw [List.getElem?_set_ne (fun z => h.1 z.symm)]
    exact wipe_get h.2
theorem wipe_in {σ : L2.St} {i : Nat} : ∀ {vs : List Nat}, i ∈ vs → i < σ.length → (wipe σ vs)[i]? = some none
  | v :: vs, h, hl => by
    unfold wipe
    by_cases hi : v = i
    · subst hi
      rw [List.getElem?_set_self (by rw [wipe_length]; exact hl)]
    · rw [List.getElem?_set_ne hi]
      refine wipe_in ?_ hl
      rcases List.mem_cons.mp h with h | h
      · exact absurd h.symm hi
      · exact h
/-- two states alike but for these slots -/
theorem wipe_eq {σ σ' : L2.St} {vs : List Nat} (hl : σ'.length = σ.length) (h : ∀ j, j ∉ vs → σ'[j]? = σ[j]?) : wipe σ' vs = wipe σ vs := by
  refine List.ext_getElem? fun i => ?_
  by_cases hi : i ∈ vs
  · by_cases hlt : i < σ.length
    · rw [wipe_in hi hlt, wipe_in hi (by rw [hl]; exact hlt)]
    · rw [List.getElem?_eq_none (by rw [wipe_length]; omega), List.getElem?_eq_none (by rw [wipe_length]; omega)]
  · rw [wipe_get hi, wipe_get hi]; exact h i hi
theorem wipe_wipe {σ : L2.St} {vs : List Nat} : wipe (wipe σ vs) vs = wipe σ vs := wipe_eq (wipe_length _ _) fun _ hj => wipe_get hj

section
variable {K : PySem.W.Frag} {B : Bw} {G H G' H' : Hp} {σ σ' : L2.St} {env env' : Env}
theorem SO.weak (so : SO K B G H σ env) (hl : σ'.length = env'.length) (h : ∀ (i : Nat) (s : Sl), env'[i]? = some s → s = .un ∨ (env[i]? = some s ∧ σ'[i]? = σ[i]?)) : SO K B G H σ' env' ∧ ∀ i a, Own σ' env' i a → Own σ env i a := by
  have ow : ∀ i a, Own σ' env' i a → Own σ env i a := fun i a o => by
    obtain ⟨⟨ds, q⟩, z⟩ := o
    rcases q with q | q
    · rcases h i _ q with e | ⟨e1, e2⟩
      · cases e
      · exact ⟨⟨ds, .inl e1⟩, e2 ▸ z⟩
    · rcases h i _ q with e | ⟨e1, e2⟩
      · cases e
      · exact ⟨⟨ds, .inr e1⟩, e2 ▸ z⟩
  refine ⟨⟨hl, so.gg, so.gh, so.hh, so.gn, so.bt, fun i s q => ?_, fun i j a o1 o2 => so.dj i j a (ow i a o1) (ow j a o2)⟩, ow⟩
  rcases h i s q with rfl | ⟨e1, e2⟩
  · trivial
  · rw [e2]; exact so.sl i s e1
theorem SO.wiped (so : SO K B G H σ env) (vs : List Nat) : SO K B G H (wipe σ vs) (wipeE env vs) ∧ ∀ i a, Own (wipe σ vs) (wipeE env vs) i a → Own σ env i a :=
  so.weak (by rw [wipe_length, wipeE_len]; exact so.len) fun i s q => by
    rcases wipeE_get q with h | ⟨h1, h2⟩
    · exact .inl h
    · exact .inr ⟨h2, wipe_get h1⟩
/-- back from the block -/
theorem SO.rest {vs : List Nat} (so : SO K B G H σ env) (gx : Ex G G') (so2 : SO K B G' H' (wipe σ vs) env') : SO K B G' H' σ (restE env env' vs) ∧ ∀ i a, Own σ (restE env env' vs) i a → Own (wipe σ vs) env' i a := by
  have ow : ∀ i a, Own σ (restE env env' vs) i a → Own (wipe σ vs) env' i a := fun i a o => by
    obtain ⟨⟨ds, q⟩, z⟩ := o
    rcases q with q | q
    · rcases restE_get q with e | ⟨d, e, _⟩ | ⟨e1, e2⟩
      · cases e
      · cases e
      · exact ⟨⟨ds, .inl e2⟩, by rw [wipe_get e1]; exact z⟩
    · rcases restE_get q with e | ⟨d, e, _⟩ | ⟨e1, e2⟩
      · cases e
      · cases e
      · exact ⟨⟨ds, .inr e2⟩, by rw [wipe_get e1]; exact z⟩
  refine ⟨⟨?_, so2.gg, so2.gh, so2.hh, so2.gn, so2.bt, fun i s q => ?_, fun i j a o1 o2 => so2.dj i j a (ow i a o1) (ow j a o2)⟩, ow⟩
  · rw [restE_len, ← so2.len, wipe_length]
  · rcases restE_get q with rfl | ⟨d, rfl, e⟩ | ⟨e1, e2⟩
    · trivial
    · obtain ⟨v, q1, r⟩ := so.sl i _ e
      exact ⟨v, q1, r.ex gx⟩
    · rw [← wipe_get e1 (σ := σ)]; exact so2.sl i s e2
/-- an object that is nobody's slot's and does not stay has changed -/
theorem SO.mut {a : Addr} {o : HO} (so : SO K B G H σ env) (h0 : B.H0 a = none) (hb : B.ba ≠ some a) (hg : G a = none) (hn : NoOwn σ env a) : SO K B G (upd H a o) σ env := by
  refine ⟨so.len, so.gg, so.gh.mut hg, fun b u n e => ?_, so.gn, fun b e => ?_, fun i s q => ?_, so.dj⟩
  · rw [upd_ne (fun z => by rw [z, h0] at e; cases e)]; exact so.hh b u n e
  · rw [upd_ne (fun z => hb (by rw [← z]; exact e))]; exact so.bt b e
  · have t0 := so.sl i s q
    cases s with
    | un => trivial
    | va d => exact t0
    | ow ds =>
      obtain ⟨c, us, z1, z2, z3, r', z4⟩ := t0
      have nc : c ≠ a := fun z => hn i ⟨⟨ds, .inl q⟩, z ▸ z1⟩
      exact ⟨c, us, z1, z2, by rw [upd_ne nc]; exact z3, r', z4⟩
    | bg ds =>
      obtain ⟨c, us, z1, z2, z3, r', z4⟩ := t0
      have nc : c ≠ a := fun z => hn i ⟨⟨ds, .inr q⟩, z ▸ z1⟩
      exact ⟨c, us, z1, z2, by rw [upd_ne nc]; exact z3, r', z4⟩
theorem SO.new0 (so : SO K B G H σ env) {a : Addr} (h : H a = none) : B.H0 a = none := by
  cases q : B.H0 a with
  | none => rfl
  | some o => exact absurd h (so.there (by rw [q]; simp))
end

/-- the turns of a comprehension with one clause; the block's own slots are vs -/
def lcL (vs : List Nat) (fg : PyData → Env → Option Env) (ft : M Bool) (fe : M PyData) : List PyData → M (List PyData)
  | [], e => some ([], e)
  | d :: r, e => match fg d (wipeE e vs) with
    | none => none
    | some e1 => match ft e1 with
      | none => none
      | some (false, e2) => lcL vs fg ft fe r e2
      | some (true, e2) => match fe e2 with
        | none => none
        | some (x, e3) => match lcL vs fg ft fe r e3 with
          | none => none
          | some (xs, e4) => some (x :: xs, e4)
def fLc (vs : List Nat) (fi : M (List PyData)) (fg : PyData → Env → Option Env) (ft : M Bool) (fe : M PyData) : M PyData := mbind fi fun ds e => match lcL vs fg ft fe ds e with
  | some (xs, e2) => if xs.length ≤ 16777216 then some (.list xs, restE e e2 vs) else none
  | none => none
/-- the new object of a comprehension while it is made: D nobody's, not yet to stay; σb, vb: the slots as the clause at hand finds them, its own slots -/
structure Mk (K : PySem.W.Frag) (B : Bw) (σ : L2.St) (env : Env) (G H : Hp) (D : Addr) (σb : L2.St) (vb : List Nat) (env' : Env) (G' H' : Hp) : Prop where
  so : SO K B G' H' (wipe σb vb) (wipeE env' vb)
  gx : Ex G G'
  gd : G' D = none
  td : H' D ≠ none
  kp : ∀ b o, b ≠ D → H b = some o → NoOwn σ env b → H' b = some o ∧ G' b = G b
  sb : ∀ i a, Own (wipe σb vb) (wipeE env' vb) i a → Own σ env i a
  nw : ∀ b, H' b = none → H b = none
theorem wipeE_out {e : Env} {i : Nat} : ∀ {ts : List Nat}, i ∉ ts → (wipeE e ts)[i]? = e[i]?
  | [], _ => rfl
  | t :: ts, h => by
    simp only [List.mem_cons, not_or] at h
    unfold wipeE
    rw [List.getElem?_set_ne (fun z => h.1 z.symm)]
    exact wipeE_out h.2
theorem wipeE_in {e : Env} {i : Nat} : ∀ {ts : List Nat}, i ∈ ts → i < e.length → (wipeE e ts)[i]? = some .un
  | t :: ts, h, hl => by
    unfold wipeE
    by_cases hi : t = i
    · subst hi
      rw [List.getElem?_set_self (by rw [wipeE_len]; exact hl)]
    · rw [List.getElem?_set_ne hi]
      refine wipeE_in ?_ hl
      rcases List.mem_cons.mp h with h | h
      · exact absurd h.symm hi
      · exact h
theorem wipeE_eq {e e' : Env} {vs : List Nat} (hl : e'.length = e.length) (h : ∀ j, j ∉ vs → e'[j]? = e[j]?) : wipeE e' vs = wipeE e vs := by
  refine List.ext_getElem? fun i => ?_
  by_cases hi : i ∈ vs
  · by_cases hlt : i < e.length
    · rw [wipeE_in hi hlt, wipeE_in hi (by rw [hl]; exact hlt)]
    · rw [List.getElem?_eq_none (by rw [wipeE_len]; omega), List.getElem?_eq_none (by rw [wipeE_len]; omega)]
  · rw [wipeE_out hi, wipeE_out hi]; exact h i hi
theorem restE_out {e e2 : Env} {i : Nat} : ∀ {ts : List Nat}, i ∉ ts → (restE e e2 ts)[i]? = e2[i]?
  | [], _ => rfl
  | t :: ts, h => by
    simp only [List.mem_cons, not_or] at h
    unfold restE
    rw [List.getElem?_set_ne (fun z => h.1 z.symm)]
    exact restE_out h.2
theorem restE_in {e e2 : Env} {i : Nat} : ∀ {ts : List Nat}, i ∈ ts → i < e2.length → (restE e e2 ts)[i]? = some (match e[i]? with
    | some (.va d) => .va d
    | _ => .un)
  | t :: ts, h, hl => by
    unfold restE
    by_cases hi : t = i
    · subst hi
      rw [List.getElem?_set_self (by rw [restE_len]; exact hl)]
    · rw [List.getElem?_set_ne hi]
      refine restE_in ?_ hl
      rcases List.mem_cons.mp h with h | h
      · exact absurd h.symm hi
      · exact h
theorem restE_eq {e e2 e3 : Env} {vs : List Nat} (hl : e3.length = e2.length) (h : ∀ j, j ∉ vs → e3[j]? = e2[j]?) : restE e e3 vs = restE e e2 vs := by
  refine List.ext_getElem? fun i => ?_
  by_cases hi : i ∈ vs
  · by_cases hlt : i < e2.length
    · rw [restE_in hi hlt, restE_in hi (by rw [hl]; exact hlt)]
    · rw [List.getElem?_eq_none (by rw [restE_len]; omega), List.getElem?_eq_none (by rw [restE_len]; omega)]
  · rw [restE_out hi, restE_out hi]; exact h i hi
theorem restE_wipe {e e2 : Env} {vs : List Nat} : restE e (wipeE e2 vs) vs = restE e e2 vs := restE_eq (wipeE_len _ _) fun _ hj => wipeE_out hj
section
variable {K : PySem.W.Frag} {B : Bw} {σ σb : L2.St} {vb vs : List Nat} {env env' e1 e2 : Env} {G H G' H' G2 H2 : Hp} {D : Addr}
theorem Mk.start (so : SO K B G H σ env) (hD : H D = none) (o : HO) : Mk K B σ env G H D σ vs env G (upd H D o) := by
  obtain ⟨w1, w2⟩ := so.wiped vs
  refine ⟨(w1.newH hD).so, Ex.refl G, fresh_back so.gh hD, by rw [upd_same]; simp, fun b o n e _ => ⟨by rw [upd_ne n]; exact e, rfl⟩, w2, fun b e => ?_⟩
  by_cases hb : b = D
  · rw [hb]; exact hD
  · rwa [upd_ne hb] at e
theorem Mk.noOwn (m : Mk K B σ env G H D σb vb env' G' H') (so : SO K B G H σ env) (hD : H D = none) : NoOwn (wipe σb vb) (wipeE env' vb) D := fun i o => so.noOwn hD i (m.sb i D o)
/-- an item comes, the clause's own slots are stored (σ1, e1), more is reckoned: the clause that follows has the slots vs for its own -/
theorem Mk.turn (m : Mk K B σ env G H D σb vb env' G' H') (so : SO K B G H σ env) (hD : H D = none)
    {G1 H1 : Hp} {σ1 : L2.St} (hg1 : Ex G' G1) (hh1 : Ex H' H1) (gn1 : ∀ b, H' b ≠ none → G1 b = G' b) (ow : ∀ i a, Own σ1 e1 i a → Own (wipe σb vb) (wipeE env' vb) i a)
    (s : Stp K B σ1 e1 G1 H1 e2 G2 H2) (vs : List Nat) : Mk K B σ env G H D σ1 vs e2 G2 H2 ∧ H2 D = H' D ∧ Ex G' G2 := by
  have no : NoOwn σ1 e1 D := fun i o => m.noOwn so hD i (ow i D o)
  obtain ⟨od, hd⟩ : ∃ od, H' D = some od := by
    cases q : H' D with
    | none => exact absurd q m.td
    | some o => exact ⟨o, rfl⟩
  have hd1 := hh1 _ _ hd
  have gd1 : G1 D = none := (gn1 D (by rw [hd]; simp)).trans m.gd
  obtain ⟨k1, k2⟩ := s.kp D _ hd1 no
  obtain ⟨w1, w2⟩ := s.so.wiped vs
  refine ⟨⟨w1, (m.gx.trans hg1).trans s.gx, k2.trans gd1, by rw [k1]; simp, fun b o n e no2 => ?_, fun i a o => m.sb i a (ow i a (s.sb i a (w2 i a o))), fun b e => m.nw b (fresh_back hh1 (s.nw b e))⟩, k1.trans hd.symm, hg1.trans s.gx⟩
  obtain ⟨z1, z2⟩ := m.kp b o n e no2
  have z3 := hh1 _ _ z1
  have z4 := (gn1 b (by rw [z1]; simp)).trans z2
  obtain ⟨z5, z6⟩ := s.kp b o z3 fun i q => no2 i (m.sb i b (ow i b q))
  exact ⟨z5, z6.trans z4⟩
/-- the clause's own slots forgotten, a clause around it has more -/
theorem Mk.back (m : Mk K B σ env G H D σb vb env' G' H') {σc : L2.St} {vc : List Nat} (hs : ∀ j, j ∈ vb → j ∈ vc) (hσ : wipe σb vc = wipe σc vc) : Mk K B σ env G H D σc vc env' G' H' := by
  obtain ⟨w1, w2⟩ := m.so.wiped vc
  have a1 : wipe (wipe σb vb) vc = wipe σc vc := (wipe_eq (wipe_length _ _) fun j hj => wipe_get fun z => hj (hs j z)).trans hσ
  have a2 : wipeE (wipeE env' vb) vc = wipeE env' vc := wipeE_eq (wipeE_len _ _) fun j hj => wipeE_out fun z => hj (hs j z)
  rw [a1, a2] at w1 w2
  exact ⟨w1, m.gx, m.gd, m.td, m.kp, fun i a o => m.sb i a (w2 i a o), m.nw⟩
/-- the new object has changed -/
theorem Mk.put (m : Mk K B σ env G H D σb vb env' G' H') (so : SO K B G H σ env) (hD : H D = none) (o : HO) : Mk K B σ env G H D σb vb env' G' (upd H' D o) := by
  refine ⟨m.so.mut (so.new0 hD) (fun z => so.bt D z hD) m.gd (m.noOwn so hD), m.gx, m.gd, by rw [upd_same]; simp, fun b u n e no => ?_, m.sb, fun b e => ?_⟩
  · obtain ⟨z1, z2⟩ := m.kp b u n e no
    exact ⟨by rw [upd_ne n]; exact z1, z2⟩
  · by_cases hb : b = D
    · rw [hb, upd_same] at e; cases e
    · rw [upd_ne hb] at e; exact m.nw b e
/-- the end -/
theorem Mk.done (m : Mk K B σ env G H D σ vs env' G' H') (so : SO K B G H σ env) (hD : H D = none) : Stp K B σ env G H (restE env env' vs) G' H' := by
  obtain ⟨w1, w2⟩ := so.rest m.gx m.so
  rw [restE_wipe] at w1 w2
  exact ⟨w1, m.gx, fun b o e n => m.kp b o (ne_of_none e hD) e n, fun i a o => m.sb i a (w2 i a o), m.nw⟩
end

/-- [e for target in xs if t]: the targets are among the block's slots -/
theorem se_lc {K : PySem.W.Frag} {vs js : List Nat} {wi : TI} {fi : M (List PyData)} {g : TG} {fg : PyData → Env → Option Env} {tt : TT} {ft : M Bool} {te : TE} {fe : M PyData} (hi : SeI K wi fi) (hg : SeG K js g fg) (hj : ∀ j, j ∈ js → j ∈ vs) (ht : SeT K tt ft) (he : SeP K te fe) :
    SeL K (tLc wi g tt te vs) (fLc vs fi fg ft fe) := fun B G H σ env d env' so e Q k => by
  obtain ⟨ds, e0, q0, e⟩ := mbind_some e
  refine hi B G H σ env ds e0 so q0 _ fun J G0 H0 s0 it D hD => ?_
  cases ql : lcL vs fg ft fe ds e0 with
  | none => rw [ql] at e; cases e
  | some p =>
    obtain ⟨xs, eE⟩ := p
    rw [ql] at e
    dsimp only at e
    split at e
    · rename_i hlen
      cases e
      refine ⟨fun i m H' => ∃ G' en acc ys ws, Mk K B σ e0 G0 H0 D σ vs en G' H' ∧ H' D = some (.lst ws) ∧ RpA K G' ws acc ∧ i ≤ ds.length ∧ m = ds.length - i ∧ lcL vs fg ft fe (ds.drop i) en = some (ys, eE) ∧ acc ++ ys = xs,
        ⟨ds.length, G0, e0, [], xs, [], Mk.start s0.so hD _, upd_same, .nil, Nat.zero_le _, rfl, ql, rfl⟩, ?_⟩
      rintro i m H1 ⟨G1, en, acc, ys, ws, mk, hw, rw0, hi1, rfl, q, hx⟩
      by_cases hlt : i < ds.length
      · refine .inr ⟨it.go i H1 (mk.gx.trans mk.so.gh) hlt, ?_⟩
        rw [List.drop_eq_getElem_cons hlt] at q
        have hd : ds[i]? = some ds[i] := by simp [hlt]
        unfold lcL at q
        refine ⟨fun H' => ∃ G' en acc ys ws, Mk K B σ e0 G0 H0 D σ vs en G' H' ∧ H' D = some (.lst ws) ∧ RpA K G' ws acc ∧ lcL vs fg ft fe (ds.drop (i + 1)) en = some (ys, eE) ∧ acc ++ ys = xs,
          fun H' ⟨G', en', acc', ys', ws', a, b1, b2, b, c⟩ => ⟨ds.length - (i + 1), by omega, G', en', acc', ys', ws', a, b1, b2, hlt, rfl, b, c⟩, fun x H2 y => ?_⟩
        obtain ⟨G2, a1, a2, a3, a4, r⟩ := it.yld i H1 x H2 _ (mk.gx.trans mk.so.gh) hd y G1 mk.gx mk.so.gh
        cases qg : fg ds[i] (wipeE en vs) with
        | none => rw [qg] at q; cases q
        | some e1 =>
          rw [qg] at q
          dsimp only at q
          have so2 := mk.so.grow' a1 a2 a3 a4
          refine hg B G2 H2 _ (wipeE en vs) _ x e1 so2 r qg _ fun σ3 so3 z3 l3 ow3 => ?_
          have z4 : ∀ j, j ∉ vs → σ3[j]? = (wipe σ vs)[j]? := fun j h => z3 j fun w => h (hj j w)
          have we : wipe σ3 vs = wipe σ vs := (wipe_eq l3 z4).trans wipe_wipe
          refine ⟨we, ?_⟩
          cases qt : ft e1 with
          | none => rw [qt] at q; cases q
          | some p1 =>
            obtain ⟨b, e2⟩ := p1
            rw [qt] at q
            refine ht B G2 H2 σ3 e1 b e2 so3 qt _ fun G4 H4 s4 => ?_
            cases b with
            | false =>
              dsimp only at q
              rw [if_neg (by decide)]
              obtain ⟨t1, t2, t3⟩ := mk.turn s0.so hD a1 a2 a4 ow3 s4 vs
              exact ⟨G4, e2, acc, ys, ws, t1.back (fun _ h => h) we, t2.trans hw, rw0.ex t3, q, hx⟩
            | true =>
              dsimp only at q
              rw [if_pos rfl]
              cases qe : fe e2 with
              | none => rw [qe] at q; cases q
              | some p2 =>
                obtain ⟨x2, e3⟩ := p2
                rw [qe] at q
                dsimp only at q
                cases qr : lcL vs fg ft fe (ds.drop (i + 1)) e3 with
                | none => rw [qr] at q; cases q
                | some p3 =>
                  obtain ⟨xs2, e4⟩ := p3
                  rw [qr] at q
                  cases q
                  refine he B G4 H4 σ3 e2 x2 e3 s4.so qe _ fun w G5 H5 s5 r5 => ?_
                  obtain ⟨t1, t2, t3⟩ := mk.turn s0.so hD a1 a2 a4 ow3 (s4.trans s5) vs
                  refine ⟨ws, t2.trans hw, ?_, G5, e3, acc ++ [x2], xs2, ws ++ [w], (t1.back (fun _ h => h) we).put s0.so hD _, upd_same, (rw0.ex t3).app (.cons r5 .nil), qr, by rw [List.append_assoc]; exact hx⟩
                  rw [sizeLine_eq, rw0.len]
                  have : xs.length = acc.length + (xs2.length + 1) := by rw [← hx]; simp
                  omega
      · have hi2 : i = ds.length := by omega
        subst hi2
        refine .inl ⟨it.stop H1 (mk.gx.trans mk.so.gh), ?_⟩
        rw [List.drop_length] at q
        have q' : some (([] : List PyData), en) = some (ys, eE) := q
        cases q'
        rw [List.append_nil] at hx
        subst hx
        exact k D ws acc G1 H1 (s0.trans (mk.done s0.so hD)) rfl (s0.nw D hD) mk.gd hw rw0
    · cases e

/-! ### two clauses -/
def lc2L (vs vs1 : List Nat) (fg : PyData → Env → Option Env) (ft : M Bool) (fi1 : M (List PyData)) (fg1 : PyData → Env → Option Env) (ft1 : M Bool) (fe : M PyData) : List PyData → M (List PyData)
  | [], e => some ([], e)
  | d :: r, e => match fg d (wipeE e vs) with
    | none => none
    | some e1 => match ft e1 with
      | none => none
      | some (false, e2) => lc2L vs vs1 fg ft fi1 fg1 ft1 fe r e2
      | some (true, e2) => match fi1 e2 with
        | none => none
        | some (ds1, e3) => match lcL vs1 fg1 ft1 fe ds1 e3 with
          | none => none
          | some (xs, e4) => match lc2L vs vs1 fg ft fi1 fg1 ft1 fe r e4 with
            | none => none
            | some (ys, e5) => some (xs ++ ys, e5)
def fLc2 (vs vs1 : List Nat) (fi : M (List PyData)) (fg : PyData → Env → Option Env) (ft : M Bool) (fi1 : M (List PyData)) (fg1 : PyData → Env → Option Env) (ft1 : M Bool) (fe : M PyData) : M PyData := mbind fi fun ds e => match lc2L vs vs1 fg ft fi1 fg1 ft1 fe ds e with
  | some (xs, e2) => if xs.length ≤ 16777216 then some (.list xs, restE e e2 vs) else none
  | none => none
theorem se_lc2 {K : PySem.W.Frag} {vs vs1 js js1 : List Nat} {wi wi1 : TI} {fi fi1 : M (List PyData)} {g g1 : TG} {fg fg1 : PyData → Env → Option Env} {tt tt1 : TT} {ft ft1 : M Bool} {te : TE} {fe : M PyData}
    (hi : SeI K wi fi) (hg : SeG K js g fg) (hj : ∀ j, j ∈ js → j ∈ vs) (ht : SeT K tt ft) (hi1 : SeI K wi1 fi1) (hg1 : SeG K js1 g1 fg1) (hj1 : ∀ j, j ∈ js1 → j ∈ vs1) (hv : ∀ j, j ∈ vs1 → j ∈ vs) (ht1 : SeT K tt1 ft1) (he : SeP K te fe) :
    SeL K (tLc2 wi g tt wi1 g1 tt1 te vs vs1) (fLc2 vs vs1 fi fg ft fi1 fg1 ft1 fe) := fun B G H σ env d env' so e Q k => by
  obtain ⟨ds, e0, q0, e⟩ := mbind_some e
  refine hi B G H σ env ds e0 so q0 _ fun J G0 H0 s0 it D hD => ?_
  cases ql : lc2L vs vs1 fg ft fi1 fg1 ft1 fe ds e0 with
  | none => rw [ql] at e; cases e
  | some p =>
    obtain ⟨xs, eE⟩ := p
    rw [ql] at e
    dsimp only at e
    split at e
    · rename_i hlen
      cases e
      refine ⟨fun i m H' => ∃ G' en acc ys ws, Mk K B σ e0 G0 H0 D σ vs en G' H' ∧ H' D = some (.lst ws) ∧ RpA K G' ws acc ∧ i ≤ ds.length ∧ m = ds.length - i ∧ lc2L vs vs1 fg ft fi1 fg1 ft1 fe (ds.drop i) en = some (ys, eE) ∧ acc ++ ys = xs,
        ⟨ds.length, G0, e0, [], xs, [], Mk.start s0.so hD _, upd_same, .nil, Nat.zero_le _, rfl, ql, rfl⟩, ?_⟩
      rintro i m H1 ⟨G1, en, acc, ys, ws, mk, hw, rw0, hi0, rfl, q, hx⟩
      by_cases hlt : i < ds.length
      · refine .inr ⟨it.go i H1 (mk.gx.trans mk.so.gh) hlt, ?_⟩
        rw [List.drop_eq_getElem_cons hlt] at q
        have hd : ds[i]? = some ds[i] := by simp [hlt]
        unfold lc2L at q
        refine ⟨fun H' => ∃ G' en acc ys ws, Mk K B σ e0 G0 H0 D σ vs en G' H' ∧ H' D = some (.lst ws) ∧ RpA K G' ws acc ∧ lc2L vs vs1 fg ft fi1 fg1 ft1 fe (ds.drop (i + 1)) en = some (ys, eE) ∧ acc ++ ys = xs,
          fun H' ⟨G', en', acc', ys', ws', a, b1, b2, b, c⟩ => ⟨ds.length - (i + 1), by omega, G', en', acc', ys', ws', a, b1, b2, hlt, rfl, b, c⟩, fun x H2 y => ?_⟩
        obtain ⟨G2, a1, a2, a3, a4, r⟩ := it.yld i H1 x H2 _ (mk.gx.trans mk.so.gh) hd y G1 mk.gx mk.so.gh
        cases qg : fg ds[i] (wipeE en vs) with
        | none => rw [qg] at q; cases q
        | some e1 =>
          rw [qg] at q
          dsimp only at q
          have so2 := mk.so.grow' a1 a2 a3 a4
          refine hg B G2 H2 _ (wipeE en vs) _ x e1 so2 r qg _ fun σ3 so3 z3 l3 ow3 => ?_
          have z4 : ∀ j, j ∉ vs → σ3[j]? = (wipe σ vs)[j]? := fun j h => z3 j fun w => h (hj j w)
          have we : wipe σ3 vs = wipe σ vs := (wipe_eq l3 z4).trans wipe_wipe
          refine ⟨we, ?_⟩
          cases qt : ft e1 with
          | none => rw [qt] at q; cases q
          | some p1 =>
            obtain ⟨b, e2⟩ := p1
            rw [qt] at q
            refine ht B G2 H2 σ3 e1 b e2 so3 qt _ fun G4 H4 s4 => ?_
            cases b with
            | false =>
              dsimp only at q
              rw [if_neg (by decide)]
              obtain ⟨t1, t2, t3⟩ := mk.turn s0.so hD a1 a2 a4 ow3 s4 vs
              exact ⟨G4, e2, acc, ys, ws, t1.back (fun _ h => h) we, t2.trans hw, rw0.ex t3, q, hx⟩
            | true =>
              dsimp only at q
              rw [if_pos rfl]
              cases qi : fi1 e2 with
              | none => rw [qi] at q; cases q
              | some p2 =>
                obtain ⟨ds1, e3⟩ := p2
                rw [qi] at q
                dsimp only at q
                cases ql1 : lcL vs1 fg1 ft1 fe ds1 e3 with
                | none => rw [ql1] at q; cases q
                | some p3 =>
                  obtain ⟨xs1, e4⟩ := p3
                  rw [ql1] at q
                  dsimp only at q
                  cases qr : lc2L vs vs1 fg ft fi1 fg1 ft1 fe (ds.drop (i + 1)) e4 with
                  | none => rw [qr] at q; cases q
                  | some p4 =>
                    obtain ⟨ys2, e5⟩ := p4
                    rw [qr] at q
                    cases q
                    refine hi1 B G4 H4 σ3 e2 ds1 e3 s4.so qi _ fun J1 G5 H5 s5 it1 => ?_
                    obtain ⟨t1, t2, t3⟩ := mk.turn s0.so hD a1 a2 a4 ow3 (s4.trans s5) vs1
                    refine ⟨fun j n H' => ∃ G' en' acc' zs ws', Mk K B σ e0 G0 H0 D σ3 vs1 en' G' H' ∧ Ex G5 G' ∧ H' D = some (.lst ws') ∧ RpA K G' ws' acc' ∧ j ≤ ds1.length ∧ n = ds1.length - j ∧ lcL vs1 fg1 ft1 fe (ds1.drop j) en' = some (zs, e4) ∧ acc' ++ zs = acc ++ xs1,
                      ⟨ds1.length, G5, e3, acc, xs1, ws, t1, Ex.refl _, t2.trans hw, rw0.ex t3, Nat.zero_le _, rfl, ql1, rfl⟩, ?_⟩
                    rintro j n H6 ⟨G6, en', acc', zs, ws', mk1, gx6, hw6, rw6, hj6, rfl, q6, hx6⟩
                    by_cases hlt6 : j < ds1.length
                    · refine .inr ⟨it1.go j H6 (gx6.trans mk1.so.gh) hlt6, ?_⟩
                      rw [List.drop_eq_getElem_cons hlt6] at q6
                      have hd6 : ds1[j]? = some ds1[j] := by simp [hlt6]
                      unfold lcL at q6
                      refine ⟨fun H' => ∃ G' en' acc' zs ws', Mk K B σ e0 G0 H0 D σ3 vs1 en' G' H' ∧ Ex G5 G' ∧ H' D = some (.lst ws') ∧ RpA K G' ws' acc' ∧ lcL vs1 fg1 ft1 fe (ds1.drop (j + 1)) en' = some (zs, e4) ∧ acc' ++ zs = acc ++ xs1,
                        fun H' ⟨G', en', acc', ys', ws', a, bx, b1, b2, b, c⟩ => ⟨ds1.length - (j + 1), by omega, G', en', acc', ys', ws', a, bx, b1, b2, hlt6, rfl, b, c⟩, fun x7 H7 y7 => ?_⟩
                      obtain ⟨G7, a1', a2', a3', a4', r7⟩ := it1.yld j H6 x7 H7 _ (gx6.trans mk1.so.gh) hd6 y7 G6 gx6 mk1.so.gh
                      cases qg7 : fg1 ds1[j] (wipeE en' vs1) with
                      | none => rw [qg7] at q6; cases q6
                      | some f1 =>
                        rw [qg7] at q6
                        dsimp only at q6
                        have so7 := mk1.so.grow' a1' a2' a3' a4'
                        refine hg1 B G7 H7 _ (wipeE en' vs1) _ x7 f1 so7 r7 qg7 _ fun σ8 so8 z8 l8 ow8 => ?_
                        have z9 : ∀ j, j ∉ vs1 → σ8[j]? = (wipe σ3 vs1)[j]? := fun j h => z8 j fun w => h (hj1 j w)
                        have we8 : wipe σ8 vs1 = wipe σ3 vs1 := (wipe_eq l8 z9).trans wipe_wipe
                        refine ⟨we8, ?_⟩
                        cases qt8 : ft1 f1 with
                        | none => rw [qt8] at q6; cases q6
                        | some p8 =>
                          obtain ⟨b8, f2⟩ := p8
                          rw [qt8] at q6
                          refine ht1 B G7 H7 σ8 f1 b8 f2 so8 qt8 _ fun G9 H9 s9 => ?_
                          cases b8 with
                          | false =>
                            dsimp only at q6
                            rw [if_neg (by decide)]
                            obtain ⟨u1, u2, u3⟩ := mk1.turn s0.so hD a1' a2' a4' ow8 s9 vs1
                            exact ⟨G9, f2, acc', zs, ws', u1.back (fun _ h => h) we8, gx6.trans u3, u2.trans hw6, rw6.ex u3, q6, hx6⟩
                          | true =>
                            dsimp only at q6
                            rw [if_pos rfl]
                            cases qe : fe f2 with
                            | none => rw [qe] at q6; cases q6
                            | some p9 =>
                              obtain ⟨x2, f3⟩ := p9
                              rw [qe] at q6
                              dsimp only at q6
                              cases qr9 : lcL vs1 fg1 ft1 fe (ds1.drop (j + 1)) f3 with
                              | none => rw [qr9] at q6; cases q6
                              | some p10 =>
                                obtain ⟨xs9, e9⟩ := p10
                                rw [qr9] at q6
                                cases q6
                                refine he B G9 H9 σ8 f2 x2 f3 s9.so qe _ fun w G10 H10 s10 r10 => ?_
                                obtain ⟨u1, u2, u3⟩ := mk1.turn s0.so hD a1' a2' a4' ow8 (s9.trans s10) vs1
                                refine ⟨ws', u2.trans hw6, ?_, G10, f3, acc' ++ [x2], xs9, ws' ++ [w], (u1.back (fun _ h => h) we8).put s0.so hD _, gx6.trans u3, upd_same, (rw6.ex u3).app (.cons r10 .nil), qr9, by rw [List.append_assoc]; exact hx6⟩
                                rw [sizeLine_eq, rw6.len]
                                have l1 : (acc' ++ x2 :: xs9).length = (acc ++ xs1).length := by rw [hx6]
                                have l2 : (acc ++ (xs1 ++ ys2)).length = xs.length := by rw [hx]
                                simp only [List.length_append, List.length_cons] at l1 l2
                                omega
                    · have hj2 : j = ds1.length := by omega
                      subst hj2
                      refine .inl ⟨it1.stop H6 (gx6.trans mk1.so.gh), ?_⟩
                      rw [List.drop_length] at q6
                      have q' : some (([] : List PyData), en') = some (zs, e4) := q6
                      cases q'
                      rw [List.append_nil] at hx6
                      subst hx6
                      exact ⟨G6, _, acc ++ xs1, ys2, ws', mk1.back hv we, hw6, rw6, qr, by rw [List.append_assoc]; exact hx⟩
      · have hi2 : i = ds.length := by omega
        subst hi2
        refine .inl ⟨it.stop H1 (mk.gx.trans mk.so.gh), ?_⟩
        rw [List.drop_length] at q
        have q' : some (([] : List PyData), en) = some (ys, eE) := q
        cases q'
        rw [List.append_nil] at hx
        subst hx
        exact k D ws acc G1 H1 (s0.trans (mk.done s0.so hD)) rfl (s0.nw D hD) mk.gd hw rw0
    · cases e
end Pd

namespace Pd
open PySem L2 Evl

/-! ### data without dicts, in the heap -/
section
variable {K : PySem.W.Frag} {H : Hp}
mutual
theorem Rp.dp : ∀ {v : V} {d : PyData}, Rp K H v d → d.canLay0 = true → Dp K H v d
  | _, _, .non, _ => .non
  | _, _, .bl b, _ => .bl b
  | _, _, .int i, _ => .int i
  | _, _, .str x, _ => .str x
  | _, _, .lst h r, c => .lst (SqL.of h) (RpA.dp r (by simpa [PyData.canLay0] using c))
  | _, _, .rdl h r, c => by simp [PyData.canLay0] at c
  | _, _, .tup h r, c => .tup h (RpA.dp r (by simpa [PyData.canLay0] using c))
  | _, _, .dik h r, c => by simp [PyData.canLay0] at c
theorem RpA.dp : ∀ {vs : List V} {ds : List PyData}, RpA K H vs ds → PyData.canLayAll0 ds = true → DpAll K H vs ds
  | _, _, .nil, _ => .nil
  | _, _, .cons a b, c => by
    simp only [PyData.canLayAll0, Bool.and_eq_true] at c
    exact .cons (Rp.dp a c.1) (RpA.dp b c.2)
end
end

section
variable {K : PySem.W.Frag} {B : Bw} {G H G' H' : Hp} {σ : L2.St} {env env' : Env}
theorem Rq.dp {v : V} {d : PyData} (e : Ex G H) (h : Rq K G H v d) (c : d.canLay0 = true) : Dp K H v d := (h.rp e).dp c
theorem SO.newP (so : SO K B G H σ env) {p : Addr} {ws : List V} {ds : List PyData} (hp : H p = none) (r : RpA K G ws ds) :
    Stp K B σ env G H env (upd G p (.lst ws)) (upd H p (.lst ws)) ∧ Rp K (upd G p (.lst ws)) (.ref p) (.list ds) :=
  ⟨so.new hp, .lst upd_same (r.ex (Ex.new (fresh_back so.gh hp)))⟩
theorem SO.newT (so : SO K B G H σ env) {p : Addr} {ws : List V} {ds : List PyData} (hp : H p = none) (r : RpA K G ws ds) :
    Stp K B σ env G H env (upd G p (.tup ws)) (upd H p (.tup ws)) ∧ Rp K (upd G p (.tup ws)) (.ref p) (.tuple ds) :=
  ⟨so.new hp, .tup (SqT.of upd_same) (r.ex (Ex.new (fresh_back so.gh hp)))⟩
theorem sz_of {n : Nat} (h : n ≤ 16777216) : n ≤ sizeLine := by rw [sizeLine_eq]; exact h
end

/-! ### arithmetic -/
def szOk (n : Nat) : Bool := decide (n ≤ 16777216)
def gAdd : PyData → PyData → Option PyData
  | .int i, .int j => some (.int (i + j))
  | .str a, .str b => if szOk (a.length + b.length) then some (.str (a ++ b)) else none
  | .tuple xs, .tuple ys => if szOk (xs.length + ys.length) then some (.tuple (xs ++ ys)) else none
  | .list xs, .list ys => if szOk (xs.length + ys.length) then some (.list (xs ++ ys)) else none
  | _, _ => none
def rStrAdd : R2 := fun x y H Q => ∃ i j, x = .str i ∧ y = .str j ∧ i.length + j.length ≤ sizeLine ∧ Q (.str (i ++ j)) H
def rAddA (K : PySem.W.Frag) : R2 := fun x y H Q => rI0 (fun i j => .int (i + j)) x y H Q ∨ rStrAdd x y H Q ∨ rCatA K x y H Q ∨ rCat x y H Q
theorem op_addA {X : Cx} : OpR X (binaryOp .Add) (rAddA X.K) := op_add.or (op_add_str.or (op_catA.or op_cat))
theorem o2_add {K : PySem.W.Frag} : Op2 K (rAddA K) gAdd := fun B G H σ env v w x y z so rx ry e Q k => by
  unfold gAdd at e
  split at e
  · cases e
    cases rx with | st rx => cases ry with | st ry =>
    cases rx; cases ry
    exact .inl ⟨_, _, rfl, rfl, k _ G H (Stp.refl so) (.int _)⟩
  · split at e
    · rename_i h
      cases e
      cases rx with | st rx => cases ry with | st ry =>
      cases rx; cases ry
      exact .inr (.inl ⟨_, _, rfl, rfl, sz_of (of_decide_eq_true h), k _ G H (Stp.refl so) (.str _)⟩)
    · cases e
  · rename_i xs ys
    split at e
    · rename_i h
      cases e
      obtain ⟨a, us, rfl, h1, r1⟩ := rx.seqT so.gh
      obtain ⟨b, ws, rfl, h2, r2⟩ := ry.seqT so.gh
      refine .inr (.inr (.inl ⟨a, b, us, ws, rfl, rfl, h1, h2, sz_of (by rw [r1.len, r2.len]; exact of_decide_eq_true h), fun q => ?_, fun _ q => ?_, fun _ _ p hp => ?_⟩))
      · subst q
        cases r1
        cases ry with | st ry => exact k _ G H (Stp.refl so) (by rw [List.nil_append]; exact ry)
      · subst q
        cases r2
        cases rx with | st rx => exact k _ G H (Stp.refl so) (by rw [List.append_nil]; exact rx)
      · obtain ⟨s, r⟩ := so.newT hp (r1.app r2)
        exact k _ _ _ s r
    · cases e
  · rename_i xs ys
    split at e
    · rename_i h
      cases e
      obtain ⟨a, us, rfl, h1, r1⟩ := rx.seqH so.gh
      obtain ⟨b, ws, rfl, h2, r2⟩ := ry.seqH so.gh
      refine .inr (.inr (.inr ⟨a, b, us, ws, rfl, rfl, h1, h2, sz_of (by rw [r1.len, r2.len]; exact of_decide_eq_true h), fun p hp => ?_⟩))
      obtain ⟨s, r⟩ := so.newP hp (r1.app r2)
      exact k _ _ _ s r
    · cases e
  · cases e
/-- a + b, lists: a new list -/
def gCatL : PyData → PyData → Option PyData
  | .list xs, .list ys => if szOk (xs.length + ys.length) then some (.list (xs ++ ys)) else none
  | _, _ => none
theorem o2_catL {K : PySem.W.Frag} : Op2L K (rAddA K) gCatL := fun B G H σ env v w x y z so rx ry e Q k => by
  unfold gCatL at e
  split at e
  · rename_i xs ys
    split at e
    · rename_i h
      cases e
      obtain ⟨a, us, rfl, h1, r1⟩ := rx.seqH so.gh
      obtain ⟨b, ws, rfl, h2, r2⟩ := ry.seqH so.gh
      refine .inr (.inr (.inr ⟨a, b, us, ws, rfl, rfl, h1, h2, sz_of (by rw [r1.len, r2.len]; exact of_decide_eq_true h), fun p hp => ?_⟩))
      exact k p _ _ _ _ (so.newH hp) rfl hp (fresh_back so.gh hp) upd_same (r1.app r2)
    · cases e
  · cases e
def gSub : PyData → PyData → Option PyData
  | .int i, .int j => some (.int (i - j))
  | _, _ => none
theorem o2_sub {K : PySem.W.Frag} : Op2 K (rI0 fun i j => .int (i - j)) gSub := fun B G H σ env v w x y z so rx ry e Q k => by
  unfold gSub at e
  split at e
  · cases e
    cases rx with | st rx => cases ry with | st ry =>
    cases rx; cases ry
    exact ⟨_, _, rfl, rfl, k _ G H (Stp.refl so) (.int _)⟩
  · cases e
def mulOk (i j : Int) : Bool := (decide (-(2 ^ 64) < i) && decide (i < 2 ^ 64)) || (decide (-(2 ^ 64) < j) && decide (j < 2 ^ 64))
theorem mulOk_of {i j : Int} (h : mulOk i j = true) : CMul i j := by
  unfold mulOk at h
  simp only [Bool.or_eq_true, Bool.and_eq_true, decide_eq_true_eq] at h
  exact h
def gMul : PyData → PyData → Option PyData
  | .int i, .int j => if mulOk i j then some (.int (i * j)) else none
  | .list xs, .int k => if decide (-(2 ^ 63) ≤ k) && decide (k < 2 ^ 63) && szOk (xs.length * k.toNat) then some (.list (List.replicate k.toNat xs).flatten) else none
  | _, _ => none
def rMulA : R2 := fun x y H Q => rI CMul (fun i j => .int (i * j)) x y H Q ∨ rRep x y H Q
theorem op_mulA {X : Cx} : OpR X (binaryOp .Mult) rMulA := op_mul.or op_rep
theorem RpA.rep {K : PySem.W.Frag} {G : Hp} {ws : List V} {ds : List PyData} (r : RpA K G ws ds) : ∀ n : Nat, RpA K G (List.replicate n ws).flatten (List.replicate n ds).flatten
  | 0 => .nil
  | n + 1 => by
    rw [List.replicate_succ, List.replicate_succ, List.flatten_cons, List.flatten_cons]
    exact r.app (RpA.rep r n)
theorem o2_mul {K : PySem.W.Frag} : Op2 K rMulA gMul := fun B G H σ env v w x y z so rx ry e Q k => by
  unfold gMul at e
  split at e
  · split at e
    · rename_i h
      cases e
      cases rx with | st rx => cases ry with | st ry =>
      cases rx; cases ry
      exact .inl ⟨_, _, rfl, rfl, mulOk_of h, k _ G H (Stp.refl so) (.int _)⟩
    · cases e
  · rename_i xs m
    split at e
    · rename_i h
      cases e
      obtain ⟨a, us, rfl, h1, r1⟩ := rx.seqH so.gh
      cases ry with | st ry =>
      cases ry
      simp only [Bool.and_eq_true, decide_eq_true_eq] at h
      refine .inr ⟨a, m, us, rfl, rfl, h1, h.1.1, h.1.2, sz_of (by rw [r1.len]; exact of_decide_eq_true h.2), fun p hp => ?_⟩
      obtain ⟨s, r⟩ := so.newP hp (r1.rep m.toNat)
      exact k _ _ _ s r
    · cases e
  · cases e
def gMulL : PyData → PyData → Option PyData
  | .list xs, .int k => if decide (-(2 ^ 63) ≤ k) && decide (k < 2 ^ 63) && szOk (xs.length * k.toNat) then some (.list (List.replicate k.toNat xs).flatten) else none
  | _, _ => none
theorem o2_mulL {K : PySem.W.Frag} : Op2L K rMulA gMulL := fun B G H σ env v w x y z so rx ry e Q k => by
  unfold gMulL at e
  split at e
  · rename_i xs m
    split at e
    · rename_i h
      cases e
      obtain ⟨a, us, rfl, h1, r1⟩ := rx.seqH so.gh
      cases ry with | st ry =>
      cases ry
      simp only [Bool.and_eq_true, decide_eq_true_eq] at h
      refine .inr ⟨a, m, us, rfl, rfl, h1, h.1.1, h.1.2, sz_of (by rw [r1.len]; exact of_decide_eq_true h.2), fun p hp => ?_⟩
      exact k p _ _ _ _ (so.newH hp) rfl hp (fresh_back so.gh hp) upd_same (r1.rep m.toNat)
    · cases e
  · cases e
/-- // and % by a positive divisor -/
def gFdiv : PyData → PyData → Option PyData
  | .int i, .int j => if decide (0 < j) && decide (j < 1073741824) then some (.int (i / j)) else none
  | _, _ => none
theorem o2_fdiv {K : PySem.W.Frag} : Op2 K (rI CDiv fun i j => .int (i / j)) gFdiv := fun B G H σ env v w x y z so rx ry e Q k => by
  unfold gFdiv at e
  split at e
  · split at e
    · rename_i h
      cases e
      cases rx with | st rx => cases ry with | st ry =>
      cases rx; cases ry
      simp only [Bool.and_eq_true, decide_eq_true_eq] at h
      exact ⟨_, _, rfl, rfl, h, k _ G H (Stp.refl so) (.int _)⟩
    · cases e
  · cases e
def gMod : PyData → PyData → Option PyData
  | .int i, .int j => if decide (0 < j) then some (.int (i % j)) else none
  | _, _ => none
theorem o2_mod {K : PySem.W.Frag} : Op2 K (rI (fun _ j => 0 < j) fun i j => .int (i % j)) gMod := fun B G H σ env v w x y z so rx ry e Q k => by
  unfold gMod at e
  split at e
  · split at e
    · rename_i h
      cases e
      cases rx with | st rx => cases ry with | st ry =>
      cases rx; cases ry
      exact ⟨_, _, rfl, rfl, of_decide_eq_true h, k _ G H (Stp.refl so) (.int _)⟩
    · cases e
  · cases e
def gPow : PyData → PyData → Option PyData
  | .int i, .int j => if decide (0 ≤ j) && decide (j ≤ 1000000) && decide (i.natAbs < 2 ^ 64) then some (.int (i ^ j.toNat)) else none
  | _, _ => none
theorem o2_pow {K : PySem.W.Frag} : Op2 K (rI CPow fun i j => .int (i ^ j.toNat)) gPow := fun B G H σ env v w x y z so rx ry e Q k => by
  unfold gPow at e
  split at e
  · split at e
    · rename_i h
      cases e
      cases rx with | st rx => cases ry with | st ry =>
      cases rx; cases ry
      simp only [Bool.and_eq_true, decide_eq_true_eq] at h
      exact ⟨_, _, rfl, rfl, ⟨h.1.1, h.1.2, h.2⟩, k _ G H (Stp.refl so) (.int _)⟩
    · cases e
  · cases e
/-- -x -/
def gNeg : PyData → Option PyData
  | .int i => some (.int (-i))
  | _ => none
theorem se_neg {K : PySem.W.Frag} {ta : TE} {fa : M PyData} (ha : SeP K ta fa) : SeP K (tUn (rU fun i => .int (-i)) ta) (m1 gNeg fa) := fun B G H σ env d env' so e Q k => by
  obtain ⟨x, e1, q1, e⟩ := mbind_some e
  obtain ⟨q3, q4⟩ := mlift_some e
  dsimp only at q3 q4
  subst q4
  refine ha B G H σ env x env' so q1 _ fun v G1 H1 s1 r1 => ?_
  unfold gNeg at q3
  split at q3
  · cases q3
    cases r1
    exact ⟨_, rfl, k _ G1 H1 s1 (.int _)⟩
  · cases q3

/-! ### comparisons -/
def shp (d : PyData) : Bool := SeqAt.shaped d
theorem shp_lay {d : PyData} (h : shp d = true) : d.canLay0 = true := SeqAt.canLay_of_shaped h
theorem shp_depth {d : PyData} (h : shp d = true) : d.depth ≤ 64 := by
  unfold shp SeqAt.shaped at h
  simp only [Bool.and_eq_true, decide_eq_true_eq] at h
  exact h.2
def gEq (x y : PyData) : Option PyData := if shp x && shp y then some (.bool (PyData.eqv x y)) else none
def gNe (x y : PyData) : Option PyData := if shp x && shp y then some (.bool (!PyData.eqv x y)) else none
theorem o2_eq {K : PySem.W.Frag} : Op2 K (rEqD K) gEq := fun B G H σ env v w x y z so rx ry e Q k => by
  unfold gEq at e
  split at e
  · rename_i h
    cases e
    simp only [Bool.and_eq_true] at h
    exact ⟨x, y, rx.dp so.gh (shp_lay h.1), ry.dp so.gh (shp_lay h.2), h.1, h.2, k _ G H (Stp.refl so) (.bl _)⟩
  · cases e
theorem o2_ne {K : PySem.W.Frag} : Op2 K (rNeD K) gNe := fun B G H σ env v w x y z so rx ry e Q k => by
  unfold gNe at e
  split at e
  · rename_i h
    cases e
    simp only [Bool.and_eq_true] at h
    exact ⟨x, y, rx.dp so.gh (shp_lay h.1), ry.dp so.gh (shp_lay h.2), h.1, h.2, k _ G H (Stp.refl so) (.bl _)⟩
  · cases e
def isNon : PyData → Bool
  | .none => true
  | _ => false
def rCmpD (K : PySem.W.Frag) (f : PyData → PyData → Bool) : R2 := fun x y H Q => ∃ d e, Dp K H x d ∧ Dp K H y e ∧ PySem.W.alike d e = true ∧ d ≠ .none ∧ d.depth ≤ 64 ∧ Q (.bl (f d e)) H
section
variable {X : Cx}
theorem min_room {u a b : Nat} (h : u + 64 < cLine) (ha : a ≤ 64) : u + min a b < cLine := by omega
theorem op_ltD (hu : X.A.units + 64 < cLine) : OpR X (compareOp .Lt) (rCmpD X.K fun d e => PySem.W.dataLt d e) := by
  intro pins s σ H x y v u Q I rx ry h
  obtain ⟨d, e, hd, he, al, nn, dp, q⟩ := h
  obtain ⟨as, r1⟩ := Dp.reads I d x v hd rx
  obtain ⟨bs, r2⟩ := Dp.reads I e y u he ry
  exact PySem.W.lt_data r1 r2 al nn (min_room hu dp) ⟨.bl _, H, I, rfl, q⟩
theorem op_gtD (hu : X.A.units + 64 < cLine) : OpR X (compareOp .Gt) (rCmpD X.K fun d e => PySem.W.dataLt e d) := by
  intro pins s σ H x y v u Q I rx ry h
  obtain ⟨d, e, hd, he, al, nn, dp, q⟩ := h
  obtain ⟨as, r1⟩ := Dp.reads I d x v hd rx
  obtain ⟨bs, r2⟩ := Dp.reads I e y u he ry
  exact PySem.W.gt_data r1 r2 al nn (min_room hu dp) ⟨.bl _, H, I, rfl, q⟩
theorem op_leD (hu : X.A.units + 64 < cLine) : OpR X (compareOp .LtE) (rCmpD X.K fun d e => !PySem.W.dataLt e d) := by
  intro pins s σ H x y v u Q I rx ry h
  obtain ⟨d, e, hd, he, al, nn, dp, q⟩ := h
  obtain ⟨as, r1⟩ := Dp.reads I d x v hd rx
  obtain ⟨bs, r2⟩ := Dp.reads I e y u he ry
  exact PySem.W.le_data r1 r2 al nn (min_room hu dp) ⟨.bl _, H, I, rfl, q⟩
theorem op_geD (hu : X.A.units + 64 < cLine) : OpR X (compareOp .GtE) (rCmpD X.K fun d e => !PySem.W.dataLt d e) := by
  intro pins s σ H x y v u Q I rx ry h
  obtain ⟨d, e, hd, he, al, nn, dp, q⟩ := h
  obtain ⟨as, r1⟩ := Dp.reads I d x v hd rx
  obtain ⟨bs, r2⟩ := Dp.reads I e y u he ry
  exact PySem.W.ge_data r1 r2 al nn (min_room hu dp) ⟨.bl _, H, I, rfl, q⟩
end
def gCmp (f : PyData → PyData → Bool) (x y : PyData) : Option PyData := if PySem.W.alike x y && !isNon x && shp x && shp y then some (.bool (f x y)) else none
theorem o2_cmp {K : PySem.W.Frag} (f : PyData → PyData → Bool) : Op2 K (rCmpD K f) (gCmp f) := fun B G H σ env v w x y z so rx ry e Q k => by
  unfold gCmp at e
  split at e
  · rename_i h
    cases e
    simp only [Bool.and_eq_true] at h
    refine ⟨x, y, rx.dp so.gh (shp_lay h.1.2), ry.dp so.gh (shp_lay h.2), h.1.1.1, fun z => ?_, shp_depth h.1.2, k _ G H (Stp.refl so) (.bl _)⟩
    have h2 := h.1.1.2
    rw [z] at h2
    cases h2
  · cases e
def fLt (d e : PyData) : Bool := PySem.W.dataLt d e
def fGt (d e : PyData) : Bool := PySem.W.dataLt e d
def fLe (d e : PyData) : Bool := !PySem.W.dataLt e d
def fGe (d e : PyData) : Bool := !PySem.W.dataLt d e
abbrev gLt := gCmp fLt
abbrev gGt := gCmp fGt
abbrev gLe := gCmp fLe
abbrev gGe := gCmp fGe

/-- is None -/
def rIsN : R2 := fun x y H Q => y = .non ∧ Q (.bl (decide (x = .non))) H
def rNotN : R2 := fun x y H Q => y = .non ∧ Q (.bl (!decide (x = .non))) H
def gIsN (x y : PyData) : Option PyData := if isNon y then some (.bool (isNon x)) else none
def gNotN (x y : PyData) : Option PyData := if isNon y then some (.bool (!isNon x)) else none
theorem rp_non {K : PySem.W.Frag} {G : Hp} {v : V} {d : PyData} (h : Rp K G v d) : decide (v = .non) = isNon d := by cases h <;> rfl
theorem rq_non {K : PySem.W.Frag} {G H : Hp} {v : V} {d : PyData} (h : Rq K G H v d) : decide (v = .non) = isNon d := by
  cases h with
  | st h => exact rp_non h
  | ls a b => rfl
theorem o2_isN {K : PySem.W.Frag} : Op2 K rIsN gIsN := fun B G H σ env v w x y z so rx ry e Q k => by
  unfold gIsN at e
  split at e
  · rename_i h
    cases e
    have e2 := rq_non ry
    rw [h] at e2
    exact ⟨of_decide_eq_true e2, by rw [rq_non rx]; exact k _ G H (Stp.refl so) (.bl _)⟩
  · cases e
theorem o2_notN {K : PySem.W.Frag} : Op2 K rNotN gNotN := fun B G H σ env v w x y z so rx ry e Q k => by
  unfold gNotN at e
  split at e
  · rename_i h
    cases e
    have e2 := rq_non ry
    rw [h] at e2
    exact ⟨of_decide_eq_true e2, by rw [rq_non rx]; exact k _ G H (Stp.refl so) (.bl _)⟩
  · cases e

/-! ### in -/
def rInDT (K : PySem.W.Frag) (neg : Bool) : R2 := fun x y H Q => ∃ d ds, Dp K H x d ∧ Dp K H y (.tuple ds) ∧ SeqAt.shaped d = true ∧ SeqAt.shaped (.tuple ds) = true ∧ Q (.bl (if neg then !ds.any fun z => PyData.eqv z d else ds.any fun z => PyData.eqv z d)) H
section
variable {X : Cx}
theorem op_inDT (hu : X.A.units + 65 < cLine) : OpR X (compareOp .In) (rInDT X.K false) := by
  intro pins s σ H x y v u Q I rx ry h
  obtain ⟨d, ds, hd, he, sd, se, q⟩ := h
  obtain ⟨as, r1⟩ := Dp.reads I d x v hd rx
  obtain ⟨bs, r2⟩ := Dp.reads I (.tuple ds) y u he ry
  exact SeqAt.in_tuple_reads r2 r1 (SeqAt.canLay_of_shaped se) (SeqAt.canLay_of_shaped sd) (PyProof.Rows.room_in_shaped sd hu) ⟨.bl _, H, I, rfl, q⟩
theorem op_notInDT (hu : X.A.units + 65 < cLine) : OpR X (compareOp .NotIn) (rInDT X.K true) := by
  intro pins s σ H x y v u Q I rx ry h
  obtain ⟨d, ds, hd, he, sd, se, q⟩ := h
  obtain ⟨as, r1⟩ := Dp.reads I d x v hd rx
  obtain ⟨bs, r2⟩ := Dp.reads I (.tuple ds) y u he ry
  exact SeqAt.notIn_tuple_reads r2 r1 (SeqAt.canLay_of_shaped se) (SeqAt.canLay_of_shaped sd) (PyProof.Rows.room_in_shaped sd hu) ⟨.bl _, H, I, rfl, q⟩
end
def rInS (K : PySem.W.Frag) : R2 := fun x y H Q => rInD K x y H Q ∨ rInDT K false x y H Q
def rNotInS (K : PySem.W.Frag) : R2 := fun x y H Q => rNotInD K x y H Q ∨ rInDT K true x y H Q
theorem op_inS {X : Cx} (hu : X.A.units + 65 < cLine) : OpR X (compareOp .In) (rInS X.K) := (op_inD hu).or (op_inDT hu)
theorem op_notInS {X : Cx} (hu : X.A.units + 65 < cLine) : OpR X (compareOp .NotIn) (rNotInS X.K) := (op_notInD hu).or (op_notInDT hu)
def gIn (x y : PyData) : Option PyData := match y with
  | .list ds => if shp x && shp y then some (.bool (ds.any fun z => PyData.eqv z x)) else none
  | .tuple ds => if shp x && shp y then some (.bool (ds.any fun z => PyData.eqv z x)) else none
  | _ => none
def gNotIn (x y : PyData) : Option PyData := match y with
  | .list ds => if shp x && shp y then some (.bool (!ds.any fun z => PyData.eqv z x)) else none
  | .tuple ds => if shp x && shp y then some (.bool (!ds.any fun z => PyData.eqv z x)) else none
  | _ => none
theorem o2_in {K : PySem.W.Frag} : Op2 K (rInS K) gIn := fun B G H σ env v w x y z so rx ry e Q k => by
  unfold gIn at e
  split at e
  · split at e
    · rename_i h
      cases e
      simp only [Bool.and_eq_true] at h
      exact .inl ⟨x, _, rx.dp so.gh (shp_lay h.1), ry.dp so.gh (shp_lay h.2), h.1, h.2, k _ G H (Stp.refl so) (.bl _)⟩
    · cases e
  · split at e
    · rename_i h
      cases e
      simp only [Bool.and_eq_true] at h
      exact .inr ⟨x, _, rx.dp so.gh (shp_lay h.1), ry.dp so.gh (shp_lay h.2), h.1, h.2, k _ G H (Stp.refl so) (.bl _)⟩
    · cases e
  · cases e
theorem o2_notIn {K : PySem.W.Frag} : Op2 K (rNotInS K) gNotIn := fun B G H σ env v w x y z so rx ry e Q k => by
  unfold gNotIn at e
  split at e
  · split at e
    · rename_i h
      cases e
      simp only [Bool.and_eq_true] at h
      exact .inl ⟨x, _, rx.dp so.gh (shp_lay h.1), ry.dp so.gh (shp_lay h.2), h.1, h.2, k _ G H (Stp.refl so) (.bl _)⟩
    · cases e
  · split at e
    · rename_i h
      cases e
      simp only [Bool.and_eq_true] at h
      exact .inr ⟨x, _, rx.dp so.gh (shp_lay h.1), ry.dp so.gh (shp_lay h.2), h.1, h.2, k _ G H (Stp.refl so) (.bl _)⟩
    · cases e
  · cases e
end Pd

namespace Pd
open PySem L2 Evl

/-! ### subscripts -/
def keyD : PyData → Option Key
  | .int i => some (.inl i)
  | .str x => some (.inr x)
  | _ => none
def dget (kvs : List (PyData × PyData)) (k : PyData) : Option PyData := match keyD k with
  | none => none
  | some c => (kvs.find? fun kv => decide (keyD kv.1 = some c)).map (·.2)
def gIx : PyData → PyData → Option PyData
  | .list xs, .int i => atI xs i
  | .tuple xs, .int i => atI xs i
  | .dict kvs, k => dget kvs k
  | _, _ => none
def rIxDk : R2 := fun x y H Q => ∃ a v, x = .ref a ∧ DGet H a y (some v) ∧ Q v H
theorem ix_dk {X : Cx} (hu : X.A.units + 1 < cLine) : IxR X rIxDk := by
  intro value slice pins s σ H x y v u Q I rx ry h hs
  obtain ⟨a, w, ex, g, q⟩ := h
  subst ex
  obtain rfl : v = Value.ref a := rx
  exact PyProof.Rows.tail_any (dict_typeIs I g) PySem.F.slot_dict_getitem.lookup (d_getItem hu I g ry fun w' s3 I3 rw' => ⟨w, H, I3, rw', q⟩) hs
def rIxA (K : PySem.W.Frag) : R2 := fun x y H Q => rIxL K x y H Q ∨ rIxT K x y H Q ∨ rIxDk x y H Q
theorem ix_A {X : Cx} (hu : X.A.units + 1 < cLine) : IxR X (rIxA X.K) := ix_list.or (ix_tup.or (ix_dk hu))
section
variable {K : PySem.W.Frag} {G H : Hp}
theorem RpA.atI {vs : List V} {ds : List PyData} (h : RpA K G vs ds) {i : Int} {d : PyData} (e : atI ds i = some d) : ∃ v, L2.atI vs i = some v ∧ Rp K G v d := by
  unfold L2.atI at e ⊢
  rw [h.len]
  cases q : ixN ds.length i with
  | none => rw [q] at e; cases e
  | some j => rw [q] at e; exact h.get e
theorem kV_of {v : V} {d : PyData} {c : Key} (r : Rp K G v d) (h : keyD d = some c) : v = kV c := by
  cases r <;> cases h <;> rfl
theorem RpK.get {kvs : List (Key × V)} {ds : List (PyData × PyData)} (r : RpK K G kvs ds) {c : Key} {d : PyData} (h : (ds.find? fun kv => decide (keyD kv.1 = some c)).map (·.2) = some d) : ∃ v, valV kvs c = some v ∧ Rp K G v d := by
  induction kvs generalizing ds with
  | nil => cases r; cases h
  | cons p kvs ih =>
    cases r with
    | int r1 r2 =>
      rename_i i v d' ds'
      by_cases hc : (Sum.inl i : Key) = c
      · rw [valV_pos hc]
        rw [List.find?_cons_of_pos (by simpa [keyD] using hc)] at h
        cases h
        exact ⟨_, rfl, r1⟩
      · rw [valV_neg hc]
        rw [List.find?_cons_of_neg (by simpa [keyD] using hc)] at h
        exact ih r2 h
    | str r1 r2 =>
      rename_i i v d' ds'
      by_cases hc : (Sum.inr i : Key) = c
      · rw [valV_pos hc]
        rw [List.find?_cons_of_pos (by simpa [keyD] using hc)] at h
        cases h
        exact ⟨_, rfl, r1⟩
      · rw [valV_neg hc]
        rw [List.find?_cons_of_neg (by simpa [keyD] using hc)] at h
        exact ih r2 h
end
theorem o2_ix {K : PySem.W.Frag} : Op2 K (rIxA K) gIx := fun B G H σ env v w x y z so rx ry e Q k => by
  unfold gIx at e
  split at e
  · obtain ⟨a, us, rfl, h1, r1⟩ := rx.seqL so.gh
    cases ry with | st ry =>
    cases ry
    obtain ⟨u, h2, r2⟩ := r1.atI e
    exact .inl ⟨a, us, _, u, rfl, rfl, h1, h2, k u G H (Stp.refl so) r2⟩
  · obtain ⟨a, us, rfl, h1, r1⟩ := rx.seqT so.gh
    cases ry with | st ry =>
    cases ry
    obtain ⟨u, h2, r2⟩ := r1.atI e
    exact .inr (.inl ⟨a, us, _, u, rfl, rfl, h1, h2, k u G H (Stp.refl so) r2⟩)
  · rename_i kvs
    unfold dget at e
    cases q : keyD y with
    | none => rw [q] at e; cases e
    | some c =>
      rw [q] at e
      dsimp only at e
      have hy : w = kV c := by
        cases ry with
        | st r => exact kV_of r q
        | ls a b => cases q
      cases rx with | st rx =>
      cases rx with
      | rdl h r =>
        simp only [List.find?_cons, List.find?_nil, keyD] at e
        cases e
      | dik h r =>
        obtain ⟨u, h2, r2⟩ := r.get e
        refine .inr (.inr ⟨_, u, rfl, ?_, k u G H (Stp.refl so) r2⟩)
        rw [hy, ← h2]
        exact DGet.k (so.gh _ _ h)
  · cases e

/-! ### slices -/
def cutD (xs : List PyData) (lo hi : Option Int) : List PyData := (xs.drop (HT.sIx xs.length 0 lo)).take (HT.sIx xs.length xs.length hi - HT.sIx xs.length 0 lo)
theorem RpA.cut {K : PySem.W.Frag} {G : Hp} {vs : List V} {ds : List PyData} (h : RpA K G vs ds) (lo hi : Option Int) : RpA K G (cutV vs lo hi) (cutD ds lo hi) := by
  unfold cutV cutD
  rw [h.len]
  exact (h.drop _).take _
def gSl (x : PyData) (lo hi : Option Int) : Option PyData := match x with
  | .list xs => some (.list (cutD xs lo hi))
  | .tuple xs => some (.tuple (cutD xs lo hi))
  | .dict [(.dict [], .list xs)] => some (.list (cutD xs lo hi))
  | _ => none
def gSlL (x : PyData) (lo hi : Option Int) : Option PyData := match x with
  | .list xs => some (.list (cutD xs lo hi))
  | .dict [(.dict [], .list xs)] => some (.list (cutD xs lo hi))
  | _ => none
def rSlAll (K : PySem.W.Frag) : V → Option Int → Option Int → Hp → VK → Prop := fun x lo hi H Q => rSlL K x lo hi H Q ∨ rSlA K x lo hi H Q
theorem sl_all {X : Cx} : SlR X (rSlAll X.K) := sl_list.or sl_tupA
/-- a part of a slice -/
def SeO (K : PySem.W.Frag) (t : TO) (f : M (Option Int)) : Prop := ∀ (B : Bw) (G H : Hp) (σ : L2.St) (env : Env) (d : Option Int) (env' : Env), SO K B G H σ env → f env = some (d, env') →
  ∀ Q : Option Int → Hp → Prop, (∀ G' H', Stp K B σ env G H env' G' H' → Q d H') → t σ H Q
def gInt : PyData → Option Int
  | .int i => some i
  | _ => none
def mNoPart : M (Option Int) := mret none
def mPart (fa : M PyData) : M (Option Int) := mbind fa fun x => mlift ((gInt x).map some)
structure DO (X : Cx) (e : Option Expr) (t : TO) (f : M (Option Int)) : Prop where
  pe : PO X e t
  se : SeO X.K t f
def mSl (g : PyData → Option Int → Option Int → Option PyData) (fa : M PyData) (fl fh : M (Option Int)) : M PyData := mbind fa fun x => mbind fl fun l => mbind fh fun h => mlift (g x l h)
/-- own list -/
def mSlo (i : Nat) (g : PyData → Option Int → Option Int → Option PyData) (fl fh : M (Option Int)) : M PyData := fun e => match owOf e i with
  | none => none
  | some _ => match fl e with
    | none => none
    | some (l, e1) => match fh e1 with
      | none => none
      | some (h, e2) => match owOf e2 i with
        | none => none
        | some ds => mlift (g (.list ds) l h) e2
section
variable {K : PySem.W.Frag} {ta : TE} {fa : M PyData} {tl th : TO} {fl fh : M (Option Int)}
theorem se_noPart : SeO K tNoPart mNoPart := fun B G H σ env d env' so e Q k => by
  cases e
  exact k G H (Stp.refl so)
theorem se_part (ha : SeP K ta fa) : SeO K (tPart ta) (mPart fa) := fun B G H σ env d env' so e Q k => by
  obtain ⟨x, e1, q1, e⟩ := mbind_some e
  obtain ⟨q3, q4⟩ := mlift_some e
  dsimp only at q3 q4
  subst q4
  refine ha B G H σ env x env' so q1 _ fun v G1 H1 s1 r1 => ?_
  cases x <;> first | cases q3 | skip
  cases r1
  exact ⟨_, rfl, k G1 H1 s1⟩
/-- .. what it is, from what can be read -/
theorem sl_read {B : Bw} {G H : Hp} {σ : L2.St} {env : Env} {v : V} {x z : PyData} {lo hi : Option Int} (so : SO K B G H σ env) (rx : Rq K G H v x) (e : gSl x lo hi = some z) (Q : VK)
    (k : ∀ u G' H', Stp K B σ env G H env G' H' → Rp K G' u z → Q u H') : rSlAll K v lo hi H Q := by
  unfold gSl at e
  split at e
  · cases e
    obtain ⟨a, us, rfl, h1, r1⟩ := rx.seqL so.gh
    refine .inl ⟨a, us, rfl, h1, fun p hp => ?_⟩
    obtain ⟨s, r⟩ := so.newP hp (r1.cut lo hi)
    exact k _ _ _ s r
  · cases e
    obtain ⟨a, us, rfl, h1, r1⟩ := rx.seqT so.gh
    refine .inr ⟨a, us, rfl, h1, fun hw => ?_, fun hw p hp => ?_⟩
    · cases rx with | st rx =>
      refine k _ G H (Stp.refl so) ?_
      rename_i xs
      have hx : cutD xs lo hi = xs := by
        unfold cutD
        rw [← r1.len, hw.1, hw.2, r1.len]
        simp
      rw [hx]; exact rx
    · obtain ⟨s, r⟩ := so.newT hp (r1.cut lo hi)
      exact k _ _ _ s r
  · cases e
    cases rx with | st rx =>
    cases rx with
    | rdl h r =>
      refine .inl ⟨_, _, rfl, ex_l so.gh h, fun p hp => ?_⟩
      obtain ⟨s, r⟩ := so.newP hp (r.cut lo hi)
      exact k _ _ _ s r
    | dik h r => cases r
  · cases e
theorem sl_readL {B : Bw} {G H : Hp} {σ : L2.St} {env : Env} {v : V} {x z : PyData} {lo hi : Option Int} (so : SO K B G H σ env) (rx : Rq K G H v x) (e : gSlL x lo hi = some z) (Q : VK)
    (k : ∀ a ws ds G' H', Stp K B σ env G H env G' H' → z = .list ds → H a = none → G' a = none → H' a = some (.lst ws) → RpA K G' ws ds → Q (.ref a) H') : rSlAll K v lo hi H Q := by
  unfold gSlL at e
  split at e
  · cases e
    obtain ⟨a, us, rfl, h1, r1⟩ := rx.seqL so.gh
    exact .inl ⟨a, us, rfl, h1, fun p hp => k p _ _ _ _ (so.newH hp) rfl hp (fresh_back so.gh hp) upd_same (r1.cut lo hi)⟩
  · cases e
    cases rx with | st rx =>
    cases rx with
    | rdl h r => exact .inl ⟨_, _, rfl, ex_l so.gh h, fun p hp => k p _ _ _ _ (so.newH hp) rfl hp (fresh_back so.gh hp) upd_same (r.cut lo hi)⟩
    | dik h r => cases r
  · cases e
theorem se_sl (ha : SeP K ta fa) (hl : SeO K tl fl) (hh : SeO K th fh) : SeP K (tSl (rSlAll K) ta tl th) (mSl gSl fa fl fh) := fun B G H σ env d env' so e Q k => by
  obtain ⟨x, e1, q1, e⟩ := mbind_some e
  obtain ⟨l, e2, q2, e⟩ := mbind_some e
  obtain ⟨h, e3, q3, e⟩ := mbind_some e
  obtain ⟨q4, q5⟩ := mlift_some e
  dsimp only at q4 q5
  subst q5
  refine ha B G H σ env x e1 so q1 _ fun v G1 H1 s1 r1 => hl B G1 H1 σ e1 l e2 s1.so q2 _ fun G2 H2 s2 => hh B G2 H2 σ e2 h env' s2.so q3 _ fun G3 H3 s3 => ?_
  exact sl_read s3.so (.st ((r1.ex s2.gx).ex s3.gx)) q4 Q fun u G4 H4 s4 r4 => k u G4 H4 (((s1.trans s2).trans s3).trans s4) r4
theorem se_slL (ha : SeP K ta fa) (hl : SeO K tl fl) (hh : SeO K th fh) : SeL K (tSl (rSlAll K) ta tl th) (mSl gSlL fa fl fh) := fun B G H σ env d env' so e Q k => by
  obtain ⟨x, e1, q1, e⟩ := mbind_some e
  obtain ⟨l, e2, q2, e⟩ := mbind_some e
  obtain ⟨h, e3, q3, e⟩ := mbind_some e
  obtain ⟨q4, q5⟩ := mlift_some e
  dsimp only at q4 q5
  subst q5
  refine ha B G H σ env x e1 so q1 _ fun v G1 H1 s1 r1 => hl B G1 H1 σ e1 l e2 s1.so q2 _ fun G2 H2 s2 => hh B G2 H2 σ e2 h env' s2.so q3 _ fun G3 H3 s3 => ?_
  have s123 := (s1.trans s2).trans s3
  exact sl_readL s3.so (.st ((r1.ex s2.gx).ex s3.gx)) q4 Q fun u ws ds G4 H4 s4 ed h0 h1 h2 r4 => k u ws ds G4 H4 (s123.trans s4) ed (s123.nw u h0) h1 h2 r4
theorem mSlo_some {i : Nat} {g : PyData → Option Int → Option Int → Option PyData} {env env' : Env} {d : PyData} (e : mSlo i g fl fh env = some (d, env')) :
    ∃ d0 l e1 h ds, owOf env i = some d0 ∧ fl env = some (l, e1) ∧ fh e1 = some (h, env') ∧ owOf env' i = some ds ∧ g (.list ds) l h = some d := by
  unfold mSlo at e
  cases h0 : owOf env i with
  | none => rw [h0] at e; cases e
  | some b0 =>
    rw [h0] at e
    dsimp only at e
    cases h1 : fl env with
    | none => rw [h1] at e; cases e
    | some p =>
      obtain ⟨y, e1⟩ := p
      rw [h1] at e
      dsimp only at e
      cases h3 : fh e1 with
      | none => rw [h3] at e; cases e
      | some p2 =>
        obtain ⟨y2, e2⟩ := p2
        rw [h3] at e
        dsimp only at e
        cases h2 : owOf e2 i with
        | none => rw [h2] at e; cases e
        | some ds =>
          rw [h2] at e
          obtain ⟨q3, q4⟩ := mlift_some e
          dsimp only at q3 q4
          subst q4
          exact ⟨b0, y, e1, y2, ds, rfl, rfl, h3, h2, q3⟩
theorem se_slo {i : Nat} (hl : SeO K tl fl) (hh : SeO K th fh) : SeP K (tSl (rSlAll K) (tVar i) tl th) (mSlo i gSl fl fh) := fun B G H σ env d env' so e Q k => by
  obtain ⟨d0, l, e1, h, ds, q0, q1, q2, q3, q4⟩ := mSlo_some e
  obtain ⟨a, ws, ow, z1, z2, z3, r0⟩ := owOf_own so q0
  refine ⟨_, z1, hl B G H σ env l e1 so q1 _ fun G2 H2 s2 => hh B G2 H2 σ e1 h env' s2.so q2 _ fun G3 H3 s3 => ?_⟩
  obtain ⟨a', ws1, ow1, y1, y2, y3, r2⟩ := owOf_own s3.so q3
  rw [z1] at y1; cases y1
  exact sl_read s3.so (.ls y3 r2) q4 Q fun u G4 H4 s4 r4 => k u G4 H4 ((s2.trans s3).trans s4) r4
end
section
variable {X : Cx} {e : Expr} {te : TE} {fe : M PyData}
theorem do_none : DO X none tNoPart mNoPart := ⟨po_none, se_noPart⟩
theorem do_some (h : DP X e te fe) : DO X (some e) (tPart te) (mPart fe) := ⟨po_some h.pe, se_part h.se⟩
end

/-! ### calls of built-ins -/
def rLenA (K : PySem.W.Frag) : List V → Hp → VK → Prop := fun xs H Q => ∃ x n, xs = [x] ∧ LenV K x H n ∧ Q (.int n) H
def rLenDk : List V → Hp → VK → Prop := fun xs H Q => ∃ a kvs, xs = [V.ref a] ∧ H a = some (.dK kvs) ∧ Q (.int kvs.length) H
def rLenB (K : PySem.W.Frag) : List V → Hp → VK → Prop := fun xs H Q => rLenA K xs H Q ∨ rLenDk xs H Q
theorem call_lenB {X : Cx} : CallR X (.builtin "len") (rLenB X.K) := call_len.or call_lenD
def gLen : PyData → Option PyData
  | .list xs => some (.int xs.length)
  | .tuple xs => some (.int xs.length)
  | .str x => if szOk x.length then some (.int x.length) else none
  | _ => none
theorem o1_len {K : PySem.W.Frag} : Op1q K (rLenB K) gLen := fun B G H σ env v x z so rx e Q k => by
  unfold gLen at e
  split at e
  · cases e
    obtain ⟨a, us, rfl, h1, r1⟩ := rx.seqL so.gh
    exact .inl ⟨_, _, rfl, .inl ⟨us, h1, r1.len.symm⟩, k _ G H (Stp.refl so) (.int _)⟩
  · cases e
    obtain ⟨a, us, rfl, h1, r1⟩ := rx.seqT so.gh
    exact .inl ⟨_, _, rfl, .inr ⟨us, h1, r1.len.symm⟩, k _ G H (Stp.refl so) (.int _)⟩
  · split at e
    · rename_i h
      cases e
      cases rx with | st rx =>
      cases rx
      exact .inl ⟨_, _, rfl, ⟨sz_of (of_decide_eq_true h), rfl⟩, k _ G H (Stp.refl so) (.int _)⟩
    · cases e
  · cases e
/-- list(x), tuple(x) -/
def gList : PyData → Option PyData
  | .list xs => some (.list xs)
  | .tuple xs => some (.list xs)
  | _ => none
def rListB (K : PySem.W.Frag) : List V → Hp → VK → Prop := fun xs H Q => ∃ p ys, xs = [.ref p] ∧ (SqL K H p ys ∨ SqT K H p ys) ∧ ∀ l, H l = none → Q (.ref l) (upd H l (.lst ys))
theorem o1_list {K : PySem.W.Frag} : Op1qL K (rListB K) gList := fun B G H σ env v x z so rx e Q k => by
  unfold gList at e
  split at e
  · cases e
    obtain ⟨a, us, rfl, h1, r1⟩ := rx.seqL so.gh
    exact ⟨_, _, rfl, .inl h1, fun p hp => k p _ _ _ _ (so.newH hp) rfl hp (fresh_back so.gh hp) upd_same r1⟩
  · cases e
    obtain ⟨a, us, rfl, h1, r1⟩ := rx.seqT so.gh
    exact ⟨_, _, rfl, .inr h1, fun p hp => k p _ _ _ _ (so.newH hp) rfl hp (fresh_back so.gh hp) upd_same r1⟩
  · cases e
def gTuple : PyData → Option PyData
  | .list xs => some (.tuple xs)
  | .tuple xs => some (.tuple xs)
  | _ => none
def rTupleB (K : PySem.W.Frag) : List V → Hp → VK → Prop := fun xs H Q => ∃ p ys, xs = [.ref p] ∧ ((SqL K H p ys ∧ ∀ l, H l = none → Q (.ref l) (upd H l (.tup ys))) ∨ (SqT K H p ys ∧ Q (.ref p) H))
theorem o1_tuple {K : PySem.W.Frag} : Op1q K (rTupleB K) gTuple := fun B G H σ env v x z so rx e Q k => by
  unfold gTuple at e
  split at e
  · cases e
    obtain ⟨a, us, rfl, h1, r1⟩ := rx.seqL so.gh
    refine ⟨_, _, rfl, .inl ⟨h1, fun p hp => ?_⟩⟩
    obtain ⟨s, r⟩ := so.newT hp r1
    exact k _ _ _ s r
  · cases e
    obtain ⟨a, us, rfl, h1, r1⟩ := rx.seqT so.gh
    cases rx with | st rx =>
    exact ⟨_, _, rfl, .inr ⟨h1, k _ G H (Stp.refl so) rx⟩⟩
  · cases e

/-! sum -/
def intsOf : List PyData → Option (List Int)
  | [] => some []
  | .int i :: r => (intsOf r).map (i :: ·)
  | _ :: _ => none
theorem intsOf_some : ∀ {ds : List PyData} {ns : List Int}, intsOf ds = some ns → ds = ns.map .int
  | [], ns, h => by cases h; rfl
  | .int i :: r, ns, h => by
    unfold intsOf at h
    cases q : intsOf r with
    | none => rw [q] at h; cases h
    | some ms => rw [q] at h; cases h; rw [intsOf_some q]; rfl
  | .none :: _, _, h => by cases h
  | .bool _ :: _, _, h => by cases h
  | .str _ :: _, _, h => by cases h
  | .list _ :: _, _, h => by cases h
  | .tuple _ :: _, _, h => by cases h
  | .dict _ :: _, _, h => by cases h
theorem intsOf_map (ns : List Int) : intsOf (ns.map .int) = some ns := by
  induction ns with
  | nil => rfl
  | cons n ns ih => show (intsOf (ns.map .int)).map (n :: ·) = _; rw [ih]; rfl
def gSum (x : PyData) : Option PyData := match x with
  | .list ds => (intsOf ds).map fun ns => .int ns.sum
  | .tuple ds => (intsOf ds).map fun ns => .int ns.sum
  | _ => none
def rSumT (K : PySem.W.Frag) : List V → Hp → VK → Prop := fun vs H Q => ∃ (a : Addr) (ns : List Int), vs = [V.ref a] ∧ SqT K H a (ns.map V.int) ∧ Q (.int ns.sum) H
open PySem.Spec PyProof.Rows in
theorem cr_sumT {X : Cx} (hc : X.calm = true) : CallR X (.builtin "sum") (rSumT X.K) := by
  intro pins s σ H vs us Q I r h
  obtain ⟨a, ns, rfl, hs, q⟩ := h
  obtain ⟨its, rv, hl, _⟩ := I.tuple hs
  rw [Vals.ref1 r]
  have hi := rv.ints
  obtain ⟨xs, e⟩ := hi.allInts.items
  have hn : numsOf (intItems xs).toList = ns := by rw [← e]; exact hi.numsOf
  rw [nums_intItems] at hn
  rw [e] at hl
  refine PySem.W.ktm_sumG (I.ok.hd hc) hl fun h' tk t' hk => ?_
  rw [preSum_eq, List.take_of_length_le (by simp), hn]
  exact ⟨.int _, H, I.kept hk, ⟨_, rfl⟩, q⟩
def rSumB (K : PySem.W.Frag) : List V → Hp → VK → Prop := fun xs H Q => rSum K xs H Q ∨ rSumT K xs H Q
theorem cr_sumB {X : Cx} (hc : X.calm = true) : CallR X (.builtin "sum") (rSumB X.K) := (cr_sum hc).or (cr_sumT hc)
theorem o1_sum {K : PySem.W.Frag} : Op1q K (rSumB K) gSum := fun B G H σ env v x z so rx e Q k => by
  unfold gSum at e
  split at e
  · rename_i ds
    cases q : intsOf ds with
    | none => rw [q] at e; cases e
    | some ns =>
      rw [q] at e
      cases e
      obtain ⟨a, us, rfl, h1, r1⟩ := rx.seqL so.gh
      rw [intsOf_some q] at r1
      rw [r1.ints] at h1
      exact .inl ⟨_, ns, rfl, h1, k _ G H (Stp.refl so) (.int _)⟩
  · rename_i ds
    cases q : intsOf ds with
    | none => rw [q] at e; cases e
    | some ns =>
      rw [q] at e
      cases e
      obtain ⟨a, us, rfl, h1, r1⟩ := rx.seqT so.gh
      rw [intsOf_some q] at r1
      rw [r1.ints] at h1
      exact .inr ⟨_, ns, rfl, h1, k _ G H (Stp.refl so) (.int _)⟩
  · cases e
end Pd

namespace Pd
open PySem L2 Evl

/-! ### items of alike data that come back: which value it was -/
section
variable {K : PySem.W.Frag} {H : Hp}
theorem Vals.getR : ∀ {vs : List V} {us : List Value} {i : Nat} {u : Value}, Vals vs us → us[i]? = some u → ∃ v, vs[i]? = some v ∧ RelV v u
  | _, _, _, _, .nil, e => by simp at e
  | _, _, 0, _, .cons r t, e => by simp at e; subst e; exact ⟨_, rfl, r⟩
  | _, _, i + 1, u, .cons _ t, e => by
    obtain ⟨v, h1, h2⟩ := Vals.getR t (i := i) (by simpa using e)
    exact ⟨v, by simpa using h1, h2⟩
end
/-- min, max of a list or a tuple -/
def alikeAllB (ds : List PyData) : Bool := ds.all fun x => (ds.all fun y => PySem.W.alike x y) && !isNon x
theorem alikeAllB_of {ds : List PyData} (h : alikeAllB ds = true) : PySem.W.AlikeAll ds := by
  unfold alikeAllB at h
  rw [List.all_eq_true] at h
  refine ⟨fun x hx y hy => ?_, fun x hx e => ?_⟩
  · have := h x hx
    rw [Bool.and_eq_true, List.all_eq_true] at this
    exact this.1 y hy
  · have := h x hx
    rw [Bool.and_eq_true, e] at this
    exact absurd this.2 (by decide)
/-- at least one item: the result is one of the values, it reads as r -/
def rBest (K : PySem.W.Frag) (f : PyData → List PyData → PyData) : List V → Hp → VK → Prop := fun xs H Q => ∃ a us d ds, xs = [.ref a] ∧ (SqL K H a us ∨ SqT K H a us) ∧ DpAll K H us (d :: ds) ∧ PyData.canLayAll0 (d :: ds) = true ∧ PySem.W.AlikeAll (d :: ds) ∧ PyData.depthAll (d :: ds) ≤ 60 ∧
  ∀ (i : Nat) (v : V), us[i]? = some v → (d :: ds)[i]? = some (f d ds) → Q v H
open PySem.Spec PyProof.Rows in
theorem readsBack {X : Cx} {pins : List (Addr × Obj)} {σ : L2.St} {H : Hp} {s : Shared} (I : L2.Inv X pins σ H s) {us : List V} {ds : List PyData} {its : List Value} {as : List Addr} (hd : DpAll X.K H us ds) (hr : ReadsAll s.heap its ds as)
    {h' : Heap} (hk : ∀ b o, s.heap.get? b = some o → h'.get? b = some o) {i : Nat} {v : V} {u : Value} (hv : us[i]? = some v) (hu : its[i]? = some u) {d : PyData} {bs : List Addr} (r : Reads h' u d bs) (hl : PyData.canLayAll0 ds = true) : ds[i]? = some d := by
  induction us generalizing ds its as i with
  | nil => simp at hv
  | cons w us ih =>
    cases hd with
    | cons d1 d2 =>
      cases hr with
      | cons r1 r2 =>
        simp only [PyData.canLayAll0, Bool.and_eq_true] at hl
        cases i with
        | zero =>
          simp at hv hu
          subst hv; subst hu
          have := PyProof.Rows.Reads.keeps hk r1
          simp only [List.getElem?_cons_zero, Option.some.injEq]
          exact SeqAt.Reads.unique _ _ _ _ _ hl.1 this r
        | succ i =>
          simp only [List.getElem?_cons_succ] at hv hu ⊢
          exact ih d2 r2 hv hu hl.2
section
variable {X : Cx}
open PySem.Spec PyProof.Rows in
theorem cr_bestMin (hc : X.calm = true) (hu : X.A.units + 64 < cLine) : CallR X (.builtin "min") (rBest X.K PySem.W.minD) := by
  intro pins s σ H xs us Q I r h
  obtain ⟨a, vs, d, ds, rfl, hs, hd, hl, al, dp, q⟩ := h
  rw [Vals.ref1 r]
  rcases hs with hs | hs
  · obtain ⟨its, rv, pl, _⟩ := I.list hs
    obtain ⟨as, hr⟩ := Dp.readsAll I (d :: ds) _ its hd rv
    refine PySem.W.min_list_data (I.ok.hd hc) pl.isList (vs := its.toArray) hr al (by omega) fun i u h' tk bs hv rd hk => ?_
    have hv' : its[i]? = some u := by simpa using hv
    obtain ⟨w, hw, rw'⟩ := Vals.getR rv hv'
    exact ⟨w, H, I.kept hk, rw', q i w hw (readsBack I hd hr hk hw hv' rd hl)⟩
  · obtain ⟨its, rv, pl, _⟩ := I.tuple hs
    obtain ⟨as, hr⟩ := Dp.readsAll I (d :: ds) _ its hd rv
    refine PySem.W.min_tuple_data (I.ok.hd hc) pl (vs := its.toArray) hr al (by omega) fun i u h' tk bs hv rd hk => ?_
    have hv' : its[i]? = some u := by simpa using hv
    obtain ⟨w, hw, rw'⟩ := Vals.getR rv hv'
    exact ⟨w, H, I.kept hk, rw', q i w hw (readsBack I hd hr hk hw hv' rd hl)⟩
open PySem.Spec PyProof.Rows in
theorem cr_bestMax (hc : X.calm = true) (hu : X.A.units + 64 < cLine) : CallR X (.builtin "max") (rBest X.K PySem.W.maxD) := by
  intro pins s σ H xs us Q I r h
  obtain ⟨a, vs, d, ds, rfl, hs, hd, hl, al, dp, q⟩ := h
  rw [Vals.ref1 r]
  rcases hs with hs | hs
  · obtain ⟨its, rv, pl, _⟩ := I.list hs
    obtain ⟨as, hr⟩ := Dp.readsAll I (d :: ds) _ its hd rv
    refine PySem.W.max_list_data (I.ok.hd hc) pl.isList (vs := its.toArray) hr al (by omega) fun i u h' tk bs hv rd hk => ?_
    have hv' : its[i]? = some u := by simpa using hv
    obtain ⟨w, hw, rw'⟩ := Vals.getR rv hv'
    exact ⟨w, H, I.kept hk, rw', q i w hw (readsBack I hd hr hk hw hv' rd hl)⟩
  · obtain ⟨its, rv, pl, _⟩ := I.tuple hs
    obtain ⟨as, hr⟩ := Dp.readsAll I (d :: ds) _ its hd rv
    refine PySem.W.max_tuple_data (I.ok.hd hc) pl (vs := its.toArray) hr al (by omega) fun i u h' tk bs hv rd hk => ?_
    have hv' : its[i]? = some u := by simpa using hv
    obtain ⟨w, hw, rw'⟩ := Vals.getR rv hv'
    exact ⟨w, H, I.kept hk, rw', q i w hw (readsBack I hd hr hk hw hv' rd hl)⟩
end
def bestOk (ds : List PyData) : Bool := alikeAllB ds && PyData.canLayAll0 ds && decide (PyData.depthAll ds ≤ 60)
def gBest (f : PyData → List PyData → PyData) : PyData → Option PyData
  | .list (d :: ds) => if bestOk (d :: ds) then some (f d ds) else none
  | .tuple (d :: ds) => if bestOk (d :: ds) then some (f d ds) else none
  | _ => none
abbrev gMin1 := gBest PySem.W.minD
abbrev gMax1 := gBest PySem.W.maxD
theorem o1_best {K : PySem.W.Frag} (f : PyData → List PyData → PyData) : Op1q K (rBest K f) (gBest f) := fun B G H σ env v x z so rx e Q k => by
  unfold gBest at e
  split at e
  · rename_i d ds
    split at e
    · rename_i h
      cases e
      unfold bestOk at h
      simp only [Bool.and_eq_true, decide_eq_true_eq] at h
      obtain ⟨a, us, rfl, h1, r1⟩ := rx.seqL so.gh
      refine ⟨a, us, d, ds, rfl, .inl h1, (r1.ex so.gh).dp h.1.2, h.1.2, alikeAllB_of h.1.1, h.2, fun i w hw hd => ?_⟩
      obtain ⟨w', e1, e2⟩ := r1.get hd
      rw [hw] at e1; cases e1
      exact k w G H (Stp.refl so) e2
    · cases e
  · rename_i d ds
    split at e
    · rename_i h
      cases e
      unfold bestOk at h
      simp only [Bool.and_eq_true, decide_eq_true_eq] at h
      obtain ⟨a, us, rfl, h1, r1⟩ := rx.seqT so.gh
      refine ⟨a, us, d, ds, rfl, .inr h1, (r1.ex so.gh).dp h.1.2, h.1.2, alikeAllB_of h.1.1, h.2, fun i w hw hd => ?_⟩
      obtain ⟨w', e1, e2⟩ := r1.get hd
      rw [hw] at e1; cases e1
      exact k w G H (Stp.refl so) e2
    · cases e
  · cases e

/-! ### sorted -/
def sortOk (ds : List PyData) : Bool := (ds.all fun x => ds.all fun y => PySem.W.alike x y) && PyData.canLayAll0 ds && szOk ds.length && (ds.all fun d => decide (d.depth ≤ 60)) &&
  ((ds.all fun d => match d with
    | .tuple (_ :: _) => true
    | _ => false) || ds.all fun d => match d with
    | .tuple _ => false
    | .none => false
    | _ => true)
/-- the order of sorted -/
def gSorted : PyData → Option PyData
  | .list ds => if sortOk ds then some (.list (ds.mergeSort (PySem.W.dataLe false id))) else none
  | _ => none
def rSortedB (K : PySem.W.Frag) : List V → Hp → VK → Prop := fun xs H Q => ∃ (a : Addr) (us : List V) (ds : List PyData) (R : V → PyData → Prop), xs = [.ref a] ∧ SqL K H a us ∧ DpAll K H us ds ∧ PySem.W.AllAlike ds ∧ PySem.W.Sortable ds ∧ ds.length ≤ sizeLine ∧ (∀ d ∈ ds, d.depth ≤ 60) ∧
  PySem.W.EachIs R us ds ∧ ∀ ws p, PySem.W.EachIs R ws (ds.mergeSort (PySem.W.dataLe false id)) → H p = none → Q (.ref p) (upd H p (.lst ws))
open PySem.W in
theorem each_both {R : V → PyData → Prop} : ∀ {us : List V} {its : List Value} {ds : List PyData}, EachIs R us ds → Vals us its → EachIs (fun u d => ∃ w, RelV w u ∧ R w d) its ds
  | _, _, _, .nil, .nil => .nil
  | _, _, _, .cons a b, .cons r t => .cons ⟨_, r, a⟩ (each_both b t)
open PySem.W in
theorem each_split {R : V → PyData → Prop} : ∀ {its : List Value} {ds : List PyData}, EachIs (fun u d => ∃ w, RelV w u ∧ R w d) its ds → ∃ ws, Vals ws its ∧ EachIs R ws ds
  | _, _, .nil => ⟨[], .nil, .nil⟩
  | _, _, .cons ⟨w, r, a⟩ b => by
    obtain ⟨ws, h1, h2⟩ := each_split b
    exact ⟨w :: ws, .cons r h1, .cons a h2⟩
open PySem.W in
theorem each_reads {h : Heap} : ∀ {its : List Value} {ds : List PyData} {as : List Addr}, ReadsAll h its ds as → EachIs (fun v d => ∃ as, Reads h v (id d) as) its ds
  | _, _, _, .nil => .nil
  | _, _, _, .cons r t => .cons ⟨_, r⟩ (each_reads t)
open PySem.W in
theorem each_of {K : PySem.W.Frag} {G : Hp} : ∀ {us : List V} {ds : List PyData}, RpA K G us ds → EachIs (Rp K G) us ds
  | _, _, .nil => .nil
  | _, _, .cons a b => .cons a (each_of b)
open PySem.W in
theorem of_each {K : PySem.W.Frag} {G : Hp} : ∀ {us : List V} {ds : List PyData}, EachIs (Rp K G) us ds → RpA K G us ds
  | _, _, .nil => .nil
  | _, _, .cons a b => .cons a (of_each b)
open PySem.Spec PyProof.Rows in
theorem cr_sortedB {X : Cx} (hu : X.A.units + 64 < cLine) : CallR X (.builtin "sorted") (rSortedB X.K) := by
  intro pins s σ H xs us Q I r h
  obtain ⟨a, vs, ds, R, rfl, hs, hd, al, so, hl, dp, hr, q⟩ := h
  rw [Vals.ref1 r]
  obtain ⟨its, rv, pl, hz⟩ := I.list hs
  obtain ⟨as, hrd⟩ := Dp.readsAll I ds _ its hd rv
  refine PySem.W.sorted_data (vs := its) (bs := ds) (enc := id) (R := fun u d => ∃ w, RelV w u ∧ R w d) pl.isList (each_both hr rv) (each_reads hrd) (by rw [List.map_id]; exact al) (by rw [List.map_id]; exact so) hl (fun b hb => by have := dp b hb; simp only [id]; omega) fun out h1 h2 => ?_
  obtain ⟨ws, w1, w2⟩ := each_split h2
  obtain ⟨ep, he'⟩ := PyProof.Rows.sortedAll_at s.heap its out.toArray
  have hlen : ws.length ≤ sizeLine := by rw [w1.length, h1]; exact hl
  exact ⟨.ref _, upd H (s.heap.objs.size + 1) (.lst ws), I.laid (t' := s.toks) (fun _ _ => PyProof.Rows.sortedAll_old) (Nat.le_succ _) ⟨hlen, out, ep, w1, he'⟩, rfl, q ws _ w2 (I.hok.fresh (Nat.le_succ _))⟩
theorem sortOk_of {ds : List PyData} (h : sortOk ds = true) : PySem.W.AllAlike ds ∧ PyData.canLayAll0 ds = true ∧ ds.length ≤ sizeLine ∧ (∀ d ∈ ds, d.depth ≤ 60) ∧ PySem.W.Sortable ds := by
  unfold sortOk at h
  simp only [Bool.and_eq_true, Bool.or_eq_true, List.all_eq_true, decide_eq_true_eq] at h
  obtain ⟨⟨⟨⟨h1, h2⟩, h3⟩, h4⟩, h5⟩ := h
  refine ⟨fun d hd e he => h1 d hd e he, h2, sz_of (of_decide_eq_true h3), h4, ?_⟩
  rcases h5 with h5 | h5
  · refine .inl fun d hd => ?_
    have := h5 d hd
    split at this
    · exact ⟨_, _, rfl⟩
    · cases this
  · refine .inr fun d hd => ?_
    have := h5 d hd
    constructor
    · rintro rfl; cases this
    · rintro xs rfl; cases this
theorem o1_sorted {K : PySem.W.Frag} : Op1qL K (rSortedB K) gSorted := fun B G H σ env v x z so rx e Q k => by
  unfold gSorted at e
  split at e
  · rename_i ds
    split at e
    · rename_i h
      cases e
      obtain ⟨h1, h2, h3, h4, h5⟩ := sortOk_of h
      obtain ⟨a, us, rfl, hq, r1⟩ := rx.seqL so.gh
      exact ⟨a, us, ds, Rp K G, rfl, hq, (r1.ex so.gh).dp h2, h1, h5, h3, h4, each_of r1, fun ws p hw hp => k p ws _ _ _ (so.newH hp) rfl hp (fresh_back so.gh hp) upd_same (of_each hw)⟩
    · cases e
  · cases e

/-! ### numbers -/
def rAbs : List V → Hp → VK → Prop := fun xs H Q => ∃ i, xs = [.int i] ∧ Q (.int (if i < 0 then -i else i)) H
def gAbs : List PyData → Option PyData
  | [.int i] => some (.int (if i < 0 then -i else i))
  | _ => none
theorem oA_abs {K : PySem.W.Frag} : OpA K rAbs gAbs := fun B G H σ env vs xs z so rx e Q k => by
  unfold gAbs at e
  split at e
  · cases e
    cases rx with | cons a b =>
    cases b; cases a
    exact ⟨_, rfl, k _ G H (Stp.refl so) (.int _)⟩
  · cases e
def rInt1 : List V → Hp → VK → Prop := fun xs H Q => (∃ i, xs = [.int i] ∧ Q (.int i) H) ∨ ∃ k, xs = [.bl k] ∧ Q (.int (if k then 1 else 0)) H
def gInt1 : List PyData → Option PyData
  | [.int i] => some (.int i)
  | [.bool b] => some (.int (if b then 1 else 0))
  | _ => none
theorem oA_int {K : PySem.W.Frag} : OpA K rInt1 gInt1 := fun B G H σ env vs xs z so rx e Q k => by
  unfold gInt1 at e
  split at e
  · cases e
    cases rx with | cons a b =>
    cases b; cases a
    exact .inl ⟨_, rfl, k _ G H (Stp.refl so) (.int _)⟩
  · cases e
    cases rx with | cons a b =>
    cases b; cases a
    exact .inr ⟨_, rfl, k _ G H (Stp.refl so) (.int _)⟩
  · cases e
def rMx2 : List V → Hp → VK → Prop := fun xs H Q => ∃ i j, xs = [.int i, .int j] ∧ Q (.int (if j > i then j else i)) H
def rMn2 : List V → Hp → VK → Prop := fun xs H Q => ∃ i j, xs = [.int i, .int j] ∧ Q (.int (if j < i then j else i)) H
def gMax2 : List PyData → Option PyData
  | [.int i, .int j] => some (.int (if j > i then j else i))
  | _ => none
def gMin2 : List PyData → Option PyData
  | [.int i, .int j] => some (.int (if j < i then j else i))
  | _ => none
theorem oA_max2 {K : PySem.W.Frag} : OpA K rMx2 gMax2 := fun B G H σ env vs xs z so rx e Q k => by
  unfold gMax2 at e
  split at e
  · cases e
    cases rx with | cons a b =>
    cases b with | cons c d =>
    cases d; cases a; cases c
    exact ⟨_, _, rfl, k _ G H (Stp.refl so) (.int _)⟩
  · cases e
theorem oA_min2 {K : PySem.W.Frag} : OpA K rMn2 gMin2 := fun B G H σ env vs xs z so rx e Q k => by
  unfold gMin2 at e
  split at e
  · cases e
    cases rx with | cons a b =>
    cases b with | cons c d =>
    cases d; cases a; cases c
    exact ⟨_, _, rfl, k _ G H (Stp.refl so) (.int _)⟩
  · cases e

/-! ### range(..) made a list, a tuple; walked -/
def rgD (a b : Int) : List PyData := (List.range (b - a).toNat).map fun i => PyData.int (a + (i : Nat))
theorem rgD_rp {K : PySem.W.Frag} {G : Hp} (a b : Int) : RpA K G (rgV a b) (rgD a b) := by
  unfold rgV rgD
  generalize List.range (b - a).toNat = l
  induction l with
  | nil => exact .nil
  | cons i l ih => exact .cons (.int _) ih
def rgOk (a b : Int) : Bool := decide (-(2 ^ 62) ≤ a) && decide (a < 2 ^ 62) && decide (-(2 ^ 62) ≤ b) && decide (b < 2 ^ 62) && decide ((b - a).toNat ≤ 16777216)
theorem rgOk_of {a b : Int} (h : rgOk a b = true) : RgOk a b := by
  unfold rgOk at h
  simp only [Bool.and_eq_true, decide_eq_true_eq] at h
  exact ⟨h.1.1.1.1, h.1.1.1.2, h.1.1.2, h.1.2, h.2⟩
abbrev TR := L2.St → Hp → (Int → Int → Hp → Prop) → Prop
def SeR (K : PySem.W.Frag) (t : TR) (f : M (Int × Int)) : Prop := ∀ (B : Bw) (G H : Hp) (σ : L2.St) (env : Env) (d : Int × Int) (env' : Env), SO K B G H σ env → f env = some (d, env') →
  ∀ Q : Int → Int → Hp → Prop, (∀ G' H', Stp K B σ env G H env' G' H' → Q d.1 d.2 H') → t σ H Q
def mRg1 (fa : M PyData) : M (Int × Int) := mbind fa fun x => mlift ((gInt x).map fun n => (0, n))
def mRg2 (fa fb : M PyData) : M (Int × Int) := mbind fa fun x => mbind fb fun y => mlift (match x, y with
  | .int i, .int j => some (i, j)
  | _, _ => none)
section
variable {K : PySem.W.Frag} {ta tb : TE} {fa fb : M PyData} {tr : TR} {fr : M (Int × Int)}
theorem se_rg1 (ha : SeP K ta fa) : SeR K (tRg1 ta) (mRg1 fa) := fun B G H σ env d env' so e Q k => by
  obtain ⟨x, e1, q1, e⟩ := mbind_some e
  obtain ⟨q3, q4⟩ := mlift_some e
  dsimp only at q3 q4
  subst q4
  refine ha B G H σ env x env' so q1 _ fun v G1 H1 s1 r1 => ?_
  cases x <;> first | cases q3 | skip
  cases r1
  exact ⟨_, rfl, k G1 H1 s1⟩
theorem se_rg2 (ha : SeP K ta fa) (hb : SeP K tb fb) : SeR K (tRg2 ta tb) (mRg2 fa fb) := fun B G H σ env d env' so e Q k => by
  obtain ⟨x, e1, q1, e⟩ := mbind_some e
  obtain ⟨y, e2, q2, e⟩ := mbind_some e
  obtain ⟨q3, q4⟩ := mlift_some e
  dsimp only at q3 q4
  subst q4
  refine ha B G H σ env x e1 so q1 _ fun v G1 H1 s1 r1 => hb B G1 H1 σ e1 y env' s1.so q2 _ fun w G2 H2 s2 r2 => ?_
  split at q3
  · cases q3
    cases r1; cases r2
    exact ⟨_, _, rfl, rfl, k G2 H2 (s1.trans s2)⟩
  · cases q3
def mLstRg (fr : M (Int × Int)) : M PyData := mbind fr fun p => mlift (if rgOk p.1 p.2 then some (.list (rgD p.1 p.2)) else none)
def mTupRg (fr : M (Int × Int)) : M PyData := mbind fr fun p => mlift (if rgOk p.1 p.2 then some (.tuple (rgD p.1 p.2)) else none)
theorem se_lstRg (hr : SeR K tr fr) : SeL K (tLstRg tr) (mLstRg fr) := fun B G H σ env d env' so e Q k => by
  obtain ⟨p, e1, q1, e⟩ := mbind_some e
  obtain ⟨q3, q4⟩ := mlift_some e
  dsimp only at q3 q4
  subst q4
  refine hr B G H σ env p env' so q1 _ fun G1 H1 s1 => ?_
  split at q3
  · rename_i h
    cases q3
    exact ⟨rgOk_of h, fun q hq => k q _ _ _ _ (s1.trans (s1.so.newH hq)) rfl (s1.nw q hq) (fresh_back s1.so.gh hq) upd_same (rgD_rp _ _)⟩
  · cases q3
theorem se_tupRg (hr : SeR K tr fr) : SeP K (tTupRg tr) (mTupRg fr) := fun B G H σ env d env' so e Q k => by
  obtain ⟨p, e1, q1, e⟩ := mbind_some e
  obtain ⟨q3, q4⟩ := mlift_some e
  dsimp only at q3 q4
  subst q4
  refine hr B G H σ env p env' so q1 _ fun G1 H1 s1 => ?_
  split at q3
  · rename_i h
    cases q3
    refine ⟨rgOk_of h, fun q hq => ?_⟩
    obtain ⟨s, r⟩ := s1.so.newT hq (rgD_rp p.1 p.2)
    exact k _ _ _ (s1.trans s) r
  · cases q3
end

/-! ### isinstance -/
inductive Ty6 where
  | tup | lst | int | bl | str | dct
def Ty6.name : Ty6 → String
  | .tup => "tuple"
  | .lst => "list"
  | .int => "int"
  | .bl => "bool"
  | .str => "str"
  | .dct => "dict"
def tyName : PyData → String
  | .none => "NoneType"
  | .bool _ => "bool"
  | .int _ => "int"
  | .str _ => "str"
  | .list _ => "list"
  | .tuple _ => "tuple"
  | .dict _ => "dict"
def isiB : PyData → Ty6 → Bool
  | .bool _, .bl => true
  | .bool _, .int => true
  | .int _, .int => true
  | .str _, .str => true
  | .list _, .lst => true
  | .tuple _, .tup => true
  | .dict _, .dct => true
  | _, _ => false
theorem kitB_is (d : PyData) (t : Ty6) : kitB (tyName d) t.name = some (isiB d t) := by
  cases d <;> cases t <;> (dsimp only [tyName, Ty6.name, isiB]; decide +kernel)
/-- isinstance(x, T), isinstance(x, (T1, T2)) -/
def rIsiD (K : PySem.W.Frag) : List V → Hp → VK → Prop := fun xs H Q => ∃ (x : V) (d : PyData) (t : Ty6), xs = [x, .ty t.name] ∧ Dp K H x d ∧ Q (.bl (isiB d t)) H
def rIsiD2 (K : PySem.W.Frag) : List V → Hp → VK → Prop := fun xs H Q => ∃ (x : V) (tp : Addr) (d : PyData) (ts : List Ty6), xs = [x, .ref tp] ∧ H tp = some (.tup (ts.map fun t => .ty t.name)) ∧ Dp K H x d ∧ Q (.bl (ts.any (isiB d))) H
section
variable {X : Cx}
open PySem.Spec PyProof.Rows in
theorem kit_ofD {pins : List (Addr × Obj)} {σ : L2.St} {H : Hp} {s : Shared} (I : L2.Inv X pins σ H s) {x : V} {u : Value} {d : PyData} (h : Dp X.K H x d) (rx : RelV x u) :
    ∃ P : Heap → Prop, PySem.W.KitX X.K u (.type (tyName d)) P ∧ P s.heap ∧ u ≠ .builtin "__main__.__loader__#opaque" := by
  cases h with
  | non => cases (show u = Value.none from rx); exact ⟨_, PySem.W.kitx_none, True.intro, fun z => nomatch z⟩
  | bl y => cases (show u = Value.bool y from rx); exact ⟨_, PySem.W.kitx_bool, True.intro, fun z => nomatch z⟩
  | int i => obtain ⟨t, q⟩ := (show ∃ t, u = Value.int i t from rx); cases q; exact ⟨_, PySem.W.kitx_int, True.intro, fun z => nomatch z⟩
  | str y => obtain ⟨t, q⟩ := (show ∃ t, u = Value.str y t from rx); cases q; exact ⟨_, PySem.W.kitx_str, True.intro, fun z => nomatch z⟩
  | lst h1 h2 =>
    cases (show u = Value.ref _ from rx)
    obtain ⟨its, rv, pl, _⟩ := I.list h1
    obtain ⟨o, n, e, c, _⟩ := pl
    exact ⟨_, PySem.W.kitx_list, ⟨_, e, c⟩, fun z => nomatch z⟩
  | tup h1 h2 =>
    cases (show u = Value.ref _ from rx)
    obtain ⟨its, rv, pl, _⟩ := I.tuple h1
    obtain ⟨o, e, c, _⟩ := pl
    exact ⟨_, PySem.W.kitx_tuple, ⟨_, e, c⟩, fun z => nomatch z⟩
theorem call_isiD : CallR X (.builtin "isinstance") (rIsiD X.K) := by
  intro pins s σ H xs us Q I r h
  obtain ⟨x, d, t, rfl, hd, q⟩ := h
  obtain ⟨u1, u2, rfl, r1, r2⟩ := vals2 r
  cases (show u2 = Value.type t.name from r2)
  obtain ⟨P, Z, p, hx⟩ := kit_ofD I hd r1
  exact PySem.W.kia_one Z I.kIn p (kit_ty (kitB_is d t)) hx fun tk => ⟨.bl _, H, I.tok tk, rfl, q⟩
theorem kitAny_is {K : PySem.W.Frag} (d : PyData) : ∀ ts : List Ty6, PySem.W.kitAny K (.type (tyName d)) (ts.map fun t => Value.type t.name) = some (ts.any (isiB d))
  | [] => rfl
  | t :: ts => by
    rw [List.map_cons, List.any_cons]
    refine kitAny_cons (kit_ty (kitB_is d t)) (fun h => ?_) (fun h => ?_)
    · rw [h, Bool.false_or]; exact kitAny_is d ts
    · rw [h, Bool.true_or]
theorem vals_ty : ∀ {ts : List Ty6} {its : List Value}, Vals (ts.map fun t => V.ty t.name) its → its = ts.map fun t => Value.type t.name
  | [], _, .nil => rfl
  | t :: ts, _, .cons r h => by
    rw [List.map_cons, vals_ty h]
    cases (show _ = Value.type t.name from r)
    rfl
theorem call_isiD2 : CallR X (.builtin "isinstance") (rIsiD2 X.K) := by
  intro pins s σ H xs us Q I r h
  obtain ⟨x, tp, d, ts, rfl, hT, hd, q⟩ := h
  obtain ⟨u1, u2, rfl, r1, r2⟩ := vals2 r
  cases (show u2 = Value.ref tp from r2)
  obtain ⟨P, Z, p, hx⟩ := kit_ofD I hd r1
  obtain ⟨_, its, rv, o, h1, h2, n, h3⟩ := (show ObjOk X.prog X.w H s.heap tp (.tup _) from I.hok tp _ hT)
  have e3 := vals_ty rv
  subst e3
  obtain ⟨oc, od, dt, sl⟩ := o
  simp only at h2 h3
  subst h2 h3
  exact PySem.W.kia_tup Z I.kIn p h1 (kitAny_is d ts) hx fun tk => ⟨.bl _, H, I.tok tk, rfl, q⟩
end
def mIsi (t : Ty6) (fa : M PyData) : M PyData := mbind fa fun x => mlift (if x.canLay0 then some (.bool (isiB x t)) else none)
def mIsi2 (ts : List Ty6) (fa : M PyData) : M PyData := mbind fa fun x => mlift (if x.canLay0 then some (.bool (ts.any (isiB x))) else none)
def tTys (ts : List Ty6) : TA := fun _ H Q => Q (ts.map fun t => .ty t.name) H
section
variable {K : PySem.W.Frag} {ta : TE} {fa : M PyData}
theorem se_isi (t : Ty6) (ha : SeQ K ta fa) : SeP K (tCB (rIsiD K) (tCons ta (tCons (tC (.ty t.name)) tNil))) (mIsi t fa) := fun B G H σ env d env' so e Q k => by
  obtain ⟨x, e1, q1, e⟩ := mbind_some e
  obtain ⟨q3, q4⟩ := mlift_some e
  dsimp only at q3 q4
  subst q4
  refine ha B G H σ env x env' so q1 _ fun v G1 H1 s1 r1 => ?_
  split at q3
  · rename_i h
    cases q3
    exact ⟨v, x, t, rfl, r1.dp s1.so.gh h, k _ G1 H1 s1 (.bl _)⟩
  · cases q3
theorem se_isi2 {tr : TA} (ts : List Ty6) (hl : ts.length ≤ 16777216) (htr : ∀ σ H (Q : List V → Hp → Prop), Q (ts.map fun t => .ty t.name) H → tr σ H Q) (ha : SeQ K ta fa) : SeP K (tCB (rIsiD2 K) (tCons ta (tCons (tTup tr) tNil))) (mIsi2 ts fa) := fun B G H σ env d env' so e Q k => by
  obtain ⟨x, e1, q1, e⟩ := mbind_some e
  obtain ⟨q3, q4⟩ := mlift_some e
  dsimp only at q3 q4
  subst q4
  refine ha B G H σ env x env' so q1 _ fun v G1 H1 s1 r1 => ?_
  split at q3
  · rename_i h
    cases q3
    refine htr σ H1 _ ⟨sz_line (by rw [List.length_map]; exact hl), fun p hp => ?_⟩
    have s2 := s1.so.newH (o := .tup (ts.map fun t => .ty t.name)) hp
    refine ⟨v, p, x, ts, rfl, upd_same, ?_, k _ G1 _ (s1.trans s2) (.bl _)⟩
    exact ((r1.rp s1.so.gh).ex (Ex.new hp)).dp h
  · cases q3
end
end Pd

/-! iterators over a list or a tuple, told by a truth value: false a list, true a tuple -/
namespace Pd
open PySem L2 Evl PySem.Spec PyProof.Rows

def SqB (K : PySem.W.Frag) (b : Bool) (H : Hp) (a : Addr) (xs : List V) : Prop := match b with
  | false => SqL K H a xs
  | true => SqT K H a xs
def ItB (b : Bool) (h : Heap) (it a : Addr) (i : Nat) : Prop := match b with
  | false => h.IsListIter it a i
  | true => h.IsTupleIter it a i
def CoB (b : Bool) (h : Heap) (a : Addr) (items : Array Value) : Prop := match b with
  | false => h.IsList a items
  | true => h.IsTuple a items
def obB (b : Bool) (a : Addr) : Obj := match b with
  | false => { cls := .type "list_iterator", data := .fields #[.ref a, .int 0 0] }
  | true => { cls := .type "tuple_iterator", data := .fields #[.ref a, .int 0 0] }
theorem ItB.at {b : Bool} {h h' : Heap} {it a : Addr} {i : Nat} (t : ItB b h it a i) (k : ∀ o, h.get? it = some o → h'.get? it = some o) : ItB b h' it a i := by
  cases b with
  | false => exact Heap.IsListIter.at t k
  | true => exact Heap.IsTupleIter.at t k
theorem ItB.obj {b : Bool} {h : Heap} {it a : Addr} {i : Nat} (t : ItB b h it a i) : ∃ o, h.get? it = some o ∧ ∃ vs, o.data = .fields vs := by
  cases b with
  | false => obtain ⟨o, h1, _, h2⟩ := t; exact ⟨o, h1, _, h2⟩
  | true => obtain ⟨o, h1, _, h2⟩ := t; exact ⟨o, h1, _, h2⟩
theorem begins_B (b : Bool) (a : Addr) (items : Array Value) : PySem.Begins (.ref a) (obB b a) fun h => CoB b h a items := by
  cases b with
  | false => exact begins_list a items
  | true => exact begins_tuple a items
theorem itB_of {b : Bool} {h : Heap} {it a : Addr} (e : h.get? it = some (obB b a)) : ItB b h it a 0 := by
  cases b with
  | false => exact ⟨_, e, rfl, rfl⟩
  | true => exact ⟨_, e, rfl, rfl⟩
theorem drawsB {prog : Program} {w : World} {A : Around} (hh : A.handled = none) (b : Bool) (it a : Addr) (hne : a ≠ it) (items : Array Value) :
    Draws prog w A it [it, a] items.size (fun i v => items[i]? = some v) (fun i h => ItB b h it a i ∧ CoB b h a items) := by
  cases b with
  | false => exact Draws.list hh it a hne items
  | true => exact Draws.tuple hh it a hne items
section
variable {X : Cx} {pins : List (Addr × Obj)} {σ : L2.St} {H : Hp} {s : Shared}
theorem inv_B {b : Bool} {a : Addr} {xs : List V} (I : L2.Inv X pins σ H s) (h : SqB X.K b H a xs) : ∃ its : List Value, Vals xs its ∧ CoB b s.heap a its.toArray ∧ xs.length ≤ sizeLine := by
  cases b with
  | false => obtain ⟨its, rv, p, z⟩ := I.list h; exact ⟨its, rv, p.isList, z⟩
  | true => obtain ⟨its, rv, p, z⟩ := I.tuple h; exact ⟨its, rv, p, z⟩
theorem inv_Binj {b : Bool} {a : Addr} {xs ys : List V} (I : L2.Inv X pins σ H s) (h : SqB X.K b H a xs) (g : SqB X.K b H a ys) : xs = ys := by
  cases b with
  | false => exact I.list_inj h g
  | true => exact I.tuple_inj h g
end
/-! ### enumerate(x) -/
open PySem PySem.W in
theorem meets_enum1 {v : Value} {o : Obj} {H : Heap → Prop} (B : PySem.Begins v o H) :
    Meets (Builtin.«enumerate.__new__» ⟨[.type "enumerate", v], []⟩) (fun _ R s => H s.heap ∧
      R (.ok (.ret (.ref (s.heap.push o).objs.size))) { s with heap := (s.heap.push o).push { cls := .type "enumerate", data := .fields #[.none, .bool false, .ref s.heap.objs.size, rawInt 0, .none, .none] } }) :=
  .of_wp fun prog w A R s h => by
    obtain ⟨hp, g, d, tk, os⟩ := s
    obtain ⟨h1, h⟩ := h
    have hsub := sub_enumerate
    have q1 : ∀ {A' : Around} {E : Value → Shared → Prop} {Q : Value → Shared → Prop}, Q (.ref hp.objs.size) ⟨hp.push o, g, d, tk, os⟩ → wpAny (model prog w) A' (pyIter v) Q E ⟨hp, g, d, tk, os⟩ :=
      fun q => B.iter prog w _ _ ⟨hp, g, d, tk, os⟩ _ h1 q
    wp_walk using q1
    refine wpAny_stack_any fun st => wpAny_pure ?_
    split
    · rename_i c _ _ _ _ _
      cases (c == Value.type "enumerate")
      · wp_walk using q1
        exact ⟨_, rfl, h⟩
      · wp_walk using q1
        exact ⟨_, rfl, h⟩
    · wp_walk using q1
      exact ⟨_, rfl, h⟩
theorem enum_begins1 {prog : Program} {w : World} {A : Around} {E : Value → Shared → Prop} {s : Shared} {v : Value} {o : Obj} {H : Heap → Prop} {Q : Value → Shared → Prop} (B : PySem.Begins v o H) (h1 : H s.heap)
    (h : ∀ h', IsEnum h' (s.heap.objs.size + 1) s.heap.objs.size 0 .none → h'.get? s.heap.objs.size = some o →
      (∀ b o, s.heap.get? b = some o → h'.get? b = some o) → Q (.ref (s.heap.objs.size + 1)) { s with heap := h' }) :
    wpAny (model prog w) A (call (.type "enumerate") [v]) Q E s := by
  refine callType_new F.called_enumerate (by decide) (F.typeCall_enumerate_1 _) (F.newCall_enumerate_1 _) (fun obj => F.args_object_init_2 obj _) F.entry_enumerate_new (meets_enum1 B) ⟨h1, ?_⟩
  have hz : (s.heap.push o).objs.size = s.heap.objs.size + 1 := Heap.size_push ..
  show _ ∧ _
  rw [hz]
  have he : IsEnum ((s.heap.push o).push { cls := .type "enumerate", data := .fields #[.none, .bool false, .ref s.heap.objs.size, rawInt 0, .none, .none] }) (s.heap.objs.size + 1) s.heap.objs.size 0 .none := by
    have := Heap.get?_push_size (s.heap.push o) (o := { cls := .type "enumerate", data := .fields #[.none, .bool false, .ref s.heap.objs.size, rawInt 0, .none, .none] }) rfl
    rw [hz] at this; exact this
  exact ⟨⟨_, he, rfl⟩, h _ he (Heap.get?_push_of_some _ (Heap.get?_push_size _ B.free)) fun b o x => Heap.get?_push_of_some _ (Heap.get?_push_of_some _ x)⟩
def IteB (K : PySem.W.Frag) (b : Bool) (a : Addr) : It :=
  ⟨fun i H => ∃ (xs : List V) (x : V), SqB K b H a xs ∧ xs[i]? = some x, fun i H v H' => ∃ T x, v = .ref T ∧ H T = none ∧ H' = upd H T (.tup [.int (i : Nat), x]) ∧ ∀ xs, SqB K b H a xs → xs[i]? = some x, fun i H => ∃ xs : List V, SqB K b H a xs ∧ xs.length = i⟩
theorem turn_enumB {P : Program} {w : World} {K : PySem.W.Frag} {elts : List Expr} {kk : Nat} {tpos : Pos} (b : Bool) (a e it : Addr) :
    Turn P w K (.Tuple elts kk tpos) (IteB K b a) [e, it] e (fun i h => (∃ old, IsEnum h e it ((i : Nat) : Int) old) ∧ ItB b h it a i ∧ e ≠ it ∧ a ≠ it ∧ e ≠ a) where
  mem := by simp
  obj := fun i h st c hb => by
    obtain ⟨⟨old, he⟩, hi, _⟩ := st
    obtain ⟨o, ho, vs, hd⟩ := hi.obj
    have e' : c = e ∨ c = it := by simpa using hb
    rcases e' with z | z
    · rw [z]; exact ⟨_, he, fun v q => nomatch q⟩
    · rw [z]; exact ⟨o, ho, fun v q => by rw [hd] at q; cases q⟩
  keep := fun i h h' st k => let ⟨⟨old, he⟩, hi, hne⟩ := st; ⟨⟨old, k e (by simp) _ he⟩, hi.at fun o q => k it (by simp) o q, hne⟩
  item := by
    intro X hP hw hK hc i pins s σ H E I hf st hg
    subst hP hw hK
    obtain ⟨⟨old, he⟩, hit, hne, hai, hea⟩ := st
    obtain ⟨xs, x, hq, hx⟩ := hg
    obtain ⟨its, rv, p, hz⟩ := inv_B I hq
    obtain ⟨u, hu, ru⟩ := rv.get hx
    have hel : e < s.heap.objs.size := Heap.lt_size he
    have hil : it < s.heap.objs.size := by obtain ⟨_, q, _⟩ := hit.obj; exact Heap.lt_size q
    have hlt : i < its.toArray.size := by
      have := (List.getElem?_eq_some_iff.mp hu).1
      simpa using this
    refine wpAny_pyNext_enum_itemD (drawsB (A := X.A.in1) (I.ok.hd hc) b it a hai its.toArray) he ⟨hit, p⟩ hlt hne (by simp [hne, hea]) fun u' h' tk pu ho st' hT hsz hk => ?_
    have eu : u' = u := by
      have : its[i]? = some u' := by simpa using pu
      rw [hu] at this
      exact (Option.some.inj this).symm
    subst eu
    refine ⟨_, rfl, wpAny_letOwnedTupleGo_enum (s := { s with heap := h', toks := tk + 1 }) ho fun h'' he' sb => ?_⟩
    have hT2 : h''.get? s.heap.objs.size = some { cls := .type "tuple", data := .seq #[.int i tk, u'] } := (sb.2 _ (Nat.ne_of_gt hel)).trans hT
    have new : ObjOk X.prog X.w (upd H s.heap.objs.size (.tup [.int (i : Nat), x])) h'' s.heap.objs.size (.tup [.int (i : Nat), x]) :=
      ⟨by show 2 ≤ sizeLine; decide, [.int i tk, u'], .cons ⟨_, rfl⟩ (.cons ru .nil), ⟨_, hT2, rfl, _, rfl⟩⟩
    have I1 : L2.Inv X pins σ (upd H s.heap.objs.size (.tup [.int (i : Nat), x])) { s with heap := h'', toks := tk + 1 } :=
      I.turnedNew (ch := [e, it]) (fun c ob hb q => (sb.2 c (fun z => hb (by simp [z]))).trans (hk c ob (fun z => hb (by simp [z])) (fun z => hb (by simp [z])) q)) hf (Nat.le_refl _) new
    refine ⟨.ref s.heap.objs.size, _, I1, rfl, ⟨_, x, rfl, I.hok.fresh (Nat.le_refl _), rfl, fun ys hy => by rw [inv_Binj I hy hq]; exact hx⟩, ⟨⟨u', ?_⟩, st'.1.at fun o q => (sb.2 it (Ne.symm hne)).trans q, hne, hai, hea⟩, fun c hb => ?_⟩
    · have e1 : ((i + 1 : Nat) : Int) = (i : Int) + 1 := by omega
      rw [e1]; exact he'
    · have hb' : c < s.heap.objs.size := by
        have e' : c = e ∨ c = it := by simpa using hb
        rcases e' with z | z
        · rw [z]; exact hel
        · rw [z]; exact hil
      rw [upd_ne (Nat.ne_of_lt hb')]
      exact (hf c hb).1
  done := by
    intro X hP hw hK hc i pins s σ H E I hf st hg
    subst hP hw hK
    obtain ⟨⟨old, he⟩, hit, hne, hai, hea⟩ := st
    obtain ⟨xs, hq, hx⟩ := hg
    obtain ⟨its, rv, p, hz⟩ := inv_B I hq
    obtain ⟨f0, f1, f2, f3, f4, f5⟩ := hf it (by simp)
    have hl := rv.length
    have hi : i = its.toArray.size := by simp; omega
    subst hi
    exact wpAny_pyNext_enum_endD (drawsB (A := X.A.in1) (I.ok.hd hc) b it a hai its.toArray) he ⟨hit, p⟩ fun h' eb => ⟨rfl, I.turned (t' := s.toks) (fun c o hb q => eb c o hb q) f0 f1 f3 f4 f5⟩
  self := fun A i s Q E st h => let ⟨⟨_, he⟩, _⟩ := st; wpAny_pyIter_enum he h
def iEnumB (K : PySem.W.Frag) (ta : TA) : TI := fun σ H R => ta σ H fun vs H1 => ∃ a xs b, vs = [.ref a] ∧ SqB K b H1 a xs ∧ R (IteB K b a) H1
theorem coB_lt {b : Bool} {h : Heap} {a : Addr} {items : Array Value} (c : CoB b h a items) : a < h.objs.size := by
  cases b with
  | false => obtain ⟨o, ho, _⟩ := c; exact Heap.lt_size ho
  | true => obtain ⟨o, ho, _⟩ := c; exact Heap.lt_size ho
theorem pi_enumB {X : Cx} {e : Expr} {ta : TA} {p pos tpos : Pos} {elts : List Expr} {kk : Nat} (hg : Gl X "enumerate") (hm : X.mg "enumerate" = none) (ha : PA X [e] ta) (hs : starEach [e] X.env = [(false, eval e X.env)] := by rfl) :
    PI X (.Tuple elts kk tpos) (.Call (.Name "enumerate" p) [e] [] pos) (iEnumB X.K ta) := by
  refine ⟨fun pins s σ H R I h => ?_⟩
  refine Call_ (ld_blt I hg hm boot_enumerate (PyProof.Rows.callWith_type1 (thn (ha.run pos pins s σ H _ I h) fun us s1 ⟨vs, H1, I1, r1, q1⟩ => ?_) hs rfl))
  obtain ⟨a, xs, b, ex, hq, q⟩ := q1
  subst ex
  cases r1 with
  | cons r rr =>
    cases rr
    cases r
    obtain ⟨its, rv, p', hz⟩ := inv_B I1 hq
    have hal := coB_lt p'
    refine enum_begins1 (begins_B b a its.toArray) p' fun h' he hit hk => wpAny_pyIter_enum he ?_
    have I2 : L2.Inv X pins σ H1 { s1 with heap := h' } := I1.kept (t' := s1.toks) hk
    refine ⟨s1.heap.objs.size + 1, [s1.heap.objs.size + 1, s1.heap.objs.size], _, _, H1, rfl, I2, turn_enumB b a (s1.heap.objs.size + 1) s1.heap.objs.size, ⟨⟨.none, he⟩, itB_of hit, Nat.succ_ne_self _, Nat.ne_of_lt hal, Nat.ne_of_gt (Nat.lt_succ_of_lt hal)⟩, fun c hb => ?_, q⟩
    have e' : c = s1.heap.objs.size + 1 ∨ c = s1.heap.objs.size := by simpa using hb
    have hle : s1.heap.objs.size ≤ c := by
      rcases e' with z | z
      · rw [z]; exact Nat.le_add_right _ _
      · rw [z]; exact Nat.le_refl _
    exact I1.fpOk hle (I1.hok.fresh hle)

/-! ### zip(x, y) -/
def ItzB (K : PySem.W.Frag) (b1 b2 : Bool) (a b : Addr) : It :=
  ⟨fun i H => ∃ (xs ys : List V) (x y : V), SqB K b1 H a xs ∧ SqB K b2 H b ys ∧ xs[i]? = some x ∧ ys[i]? = some y,
    fun i H v H' => ∃ T x y, v = .ref T ∧ H T = none ∧ H' = upd H T (.tup [x, y]) ∧ (∀ xs, SqB K b1 H a xs → xs[i]? = some x) ∧ ∀ ys, SqB K b2 H b ys → ys[i]? = some y,
    fun i H => ∃ xs ys : List V, SqB K b1 H a xs ∧ SqB K b2 H b ys ∧ i ≤ xs.length ∧ i ≤ ys.length ∧ (i = xs.length ∨ i = ys.length)⟩
/-- z, its two tuples, the two iterators, the two that are walked: all apart -/
structure Apart2 (z TI TO i1 i2 a b : Addr) : Prop where
  sep : PySem.ZipSep2 z TI TO i1 i2 [i1, a] [i2, b]
  a1 : a ≠ i1
  b2 : b ≠ i2
theorem tup2_at {h h' : Heap} {T : Addr} {x y : Value} (t : PySem.IsTupOf2 h T x y) (k : ∀ o, h.get? T = some o → h'.get? T = some o) : PySem.IsTupOf2 h' T x y := k _ t
theorem turn_zipB {P : Program} {w : World} {K : PySem.W.Frag} {elts : List Expr} {kk : Nat} {tpos : Pos} (b1 b2 : Bool) {a b z TI TO i1 i2 : Addr} (D : Apart2 z TI TO i1 i2 a b) :
    Turn P w K (.Tuple elts kk tpos) (ItzB K b1 b2 a b) [z, TI, TO, i1, i2] z (fun i h => IsZip h z TI TO .none ∧ PySem.IsTupOf2 h TI (.ref i1) (.ref i2) ∧ (∃ x y, PySem.IsTupOf2 h TO x y) ∧ ItB b1 h i1 a i ∧ ItB b2 h i2 b i) where
  mem := by simp
  obj := fun i h st c hc => by
    obtain ⟨hz, hTI, ⟨x, y, hTO⟩, h1, h2⟩ := st
    obtain ⟨o1, e1, _, d1⟩ := h1.obj
    obtain ⟨o2, e2, _, d2⟩ := h2.obj
    have e' : c = z ∨ c = TI ∨ c = TO ∨ c = i1 ∨ c = i2 := by simpa using hc
    rcases e' with q | q | q | q | q
    · rw [q]; exact ⟨_, hz, fun v q => nomatch q⟩
    · rw [q]; exact ⟨_, hTI, fun v q => nomatch q⟩
    · rw [q]; exact ⟨_, hTO, fun v q => nomatch q⟩
    · rw [q]; exact ⟨o1, e1, fun v q => by rw [d1] at q; cases q⟩
    · rw [q]; exact ⟨o2, e2, fun v q => by rw [d2] at q; cases q⟩
  keep := fun i h h' st k => by
    obtain ⟨hz, hTI, ⟨x, y, hTO⟩, h1, h2⟩ := st
    exact ⟨k z (by simp) _ hz, k TI (by simp) _ hTI, ⟨x, y, k TO (by simp) _ hTO⟩, h1.at fun o q => k i1 (by simp) o q, h2.at fun o q => k i2 (by simp) o q⟩
  item := by
    intro X hP hw hK hc i pins s σ H E I hf st hg
    subst hP hw hK
    obtain ⟨hz, hTI, ⟨x0, y0, hTO⟩, h1, h2⟩ := st
    obtain ⟨xs, ys, x, y, hqx, hqy, hx, hy⟩ := hg
    obtain ⟨its, rv, p, _⟩ := inv_B I hqx
    obtain ⟨its2, rv2, p2, _⟩ := inv_B I hqy
    obtain ⟨u, hu, ru⟩ := rv.get hx
    obtain ⟨u2, hu2, ru2⟩ := rv2.get hy
    have hzl : z < s.heap.objs.size := Heap.lt_size hz
    have lt1 : i < its.toArray.size := by simpa using (List.getElem?_eq_some_iff.mp hu).1
    have lt2 : i < its2.toArray.size := by simpa using (List.getElem?_eq_some_iff.mp hu2).1
    refine PySem.wpAny_pyNext_zipD2_item D.sep (drawsB (A := X.A.in1) (I.ok.hd hc) b1 i1 a D.a1 its.toArray) (drawsB (A := X.A.in1) (I.ok.hd hc) b2 i2 b D.b2 its2.toArray) hz hTI hTO ⟨h1, p⟩ ⟨h2, p2⟩ lt1 lt2 fun u' u2' h' tk pu pu2 z' TO' st1 st2 hT hsz hk => ?_
    have eu : u' = u := by
      have : its[i]? = some u' := by simpa using pu
      rw [hu] at this
      exact (Option.some.inj this).symm
    have eu2 : u2' = u2 := by
      have : its2[i]? = some u2' := by simpa using pu2
      rw [hu2] at this
      exact (Option.some.inj this).symm
    subst eu eu2
    refine ⟨_, rfl, wpAny_letOwnedTupleGo_zip (s := { s with heap := h', toks := tk }) z' fun h'' z'' sb => ?_⟩
    have hT2 : h''.get? s.heap.objs.size = some { cls := .type "tuple", data := .seq #[u', u2'] } := (sb.2 _ (Nat.ne_of_gt hzl)).trans hT
    have new : ObjOk X.prog X.w (upd H s.heap.objs.size (.tup [x, y])) h'' s.heap.objs.size (.tup [x, y]) :=
      ⟨by show 2 ≤ sizeLine; decide, [u', u2'], .cons ru (.cons ru2 .nil), ⟨_, hT2, rfl, _, rfl⟩⟩
    have I1 : L2.Inv X pins σ (upd H s.heap.objs.size (.tup [x, y])) { s with heap := h'', toks := tk } :=
      I.turnedNew (t' := tk) (ch := [z, TI, TO, i1, i2]) (fun c o hb q => (sb.2 c (fun q' => hb (by simp [q']))).trans (hk c o (fun q' => hb (by simp [q'])) (fun q' => hb (by simp [q'])) (fun q' => hb (by simp [q'])) (fun q' => hb (by simp [q'])) q)) hf (Nat.le_refl _) new
    refine ⟨.ref s.heap.objs.size, _, I1, rfl, ⟨_, x, y, rfl, I.hok.fresh (Nat.le_refl _), rfl, fun l hl => by rw [inv_Binj I hl hqx]; exact hx, fun l hl => by rw [inv_Binj I hl hqy]; exact hy⟩, ⟨z'', ?_, ⟨u', u2', ?_⟩, ?_, ?_⟩, fun c hcm => ?_⟩
    · exact (sb.2 _ D.sep.TIz).trans (hk _ _ D.sep.TIz D.sep.TITO D.sep.TIi1 D.sep.TIi2 hTI)
    · exact (sb.2 _ D.sep.TOz).trans TO'
    · exact st1.1.at fun o q => (sb.2 _ (Ne.symm D.sep.zi1)).trans q
    · exact st2.1.at fun o q => (sb.2 _ (Ne.symm D.sep.zi2)).trans q
    · have hlt : c < s.heap.objs.size := by
        have e' : c = z ∨ c = TI ∨ c = TO ∨ c = i1 ∨ c = i2 := by simpa using hcm
        rcases e' with q | q | q | q | q
        · rw [q]; exact hzl
        · rw [q]; exact Heap.lt_size hTI
        · rw [q]; exact Heap.lt_size hTO
        · rw [q]; obtain ⟨_, e1, _⟩ := h1.obj; exact Heap.lt_size e1
        · rw [q]; obtain ⟨_, e2, _⟩ := h2.obj; exact Heap.lt_size e2
      rw [upd_ne (Nat.ne_of_lt hlt)]
      exact (hf c hcm).1
  done := by
    intro X hP hw hK hc i pins s σ H E I hf st hg
    subst hP hw hK
    obtain ⟨hz, hTI, ⟨x0, y0, hTO⟩, h1, h2⟩ := st
    obtain ⟨xs, ys, hqx, hqy, le1, le2, hend⟩ := hg
    obtain ⟨its, rv, p, _⟩ := inv_B I hqx
    obtain ⟨its2, rv2, p2, _⟩ := inv_B I hqy
    have l1 := rv.length
    have l2 := rv2.length
    have s1 : its.toArray.size = its.length := by simp
    have s2 : its2.toArray.size = its2.length := by simp
    exact PySem.wpAny_pyNext_zipD2_end D.sep (drawsB (A := X.A.in1) (I.ok.hd hc) b1 i1 a D.a1 its.toArray) (drawsB (A := X.A.in1) (I.ok.hd hc) b2 i2 b D.b2 its2.toArray) hz hTI hTO ⟨h1, p⟩ ⟨h2, p2⟩ (by omega) (by omega) (by omega) fun h' tk hk => ⟨rfl, I.turnedL (t' := tk) (ch := [z, TI, TO, i1, i2]) (fun c o hb q =>
      hk c o (fun q' => hb (by simp [q'])) (fun q' => hb (by simp [q'])) (fun q' => hb (by simp [q'])) (fun q' => hb (by simp [q'])) q) hf⟩
  self := fun A i s Q E st h => wpAny_pyIter_zip st.1 h
def iZipB (K : PySem.W.Frag) (ta : TA) : TI := fun σ H R => ta σ H fun vs H1 => ∃ a b xs ys b1 b2, vs = [.ref a, .ref b] ∧ SqB K b1 H1 a xs ∧ SqB K b2 H1 b ys ∧ R (ItzB K b1 b2 a b) H1
theorem apart2_new {N a b : Addr} (ha : a < N) (hb : b < N) : Apart2 (N + 4) (N + 2) (N + 3) N (N + 1) a b :=
  ⟨PySem.zip_sep2 (fp1 := [a]) (fp2 := [b]) (fun c hc => by rw [List.mem_singleton.mp hc]; exact ha) (fun c hc => by rw [List.mem_singleton.mp hc]; exact hb), Nat.ne_of_lt ha, Nat.ne_of_lt (Nat.lt_succ_of_lt hb)⟩
theorem pi_zipB {X : Cx} {e e2 : Expr} {ta : TA} {p pos tpos : Pos} {elts : List Expr} {kk : Nat} (hg : Gl X "zip") (hm : X.mg "zip" = none) (ha : PA X [e, e2] ta)
    (hs : starEach [e, e2] X.env = (false, eval e X.env) :: starEach [e2] X.env := by rfl) (hpl : (backTo pos (starEach [e2] X.env)).any (·.1) = false := by rfl) :
    PI X (.Tuple elts kk tpos) (.Call (.Name "zip" p) [e, e2] [] pos) (iZipB X.K ta) := by
  refine ⟨fun pins s σ H R I h => ?_⟩
  refine Call_ (ld_blt I hg hm PyProof.Rows.boot_zip (PyProof.Rows.callWith_type1 (thn (ha.run pos pins s σ H _ I h) fun us s1 ⟨vs, H1, I1, r1, q1⟩ => ?_) hs hpl))
  obtain ⟨a, b, xs, ys, b1, b2, ex, hqx, hqy, q⟩ := q1
  subst ex
  obtain ⟨u1, u2, rfl, ra, rb⟩ := vals2 r1
  cases ra
  cases rb
  obtain ⟨its, rv, p1, _⟩ := inv_B I1 hqx
  obtain ⟨its2, rv2, p2, _⟩ := inv_B I1 hqy
  have hal := coB_lt p1
  have hbl := coB_lt p2
  refine PySem.zip_begins2 (begins_B b1 a its.toArray) (begins_B b2 b its2.toArray) p1 p2 fun h' hz hTI hTO hi1 hi2 hsz hk => wpAny_pyIter_zip hz ?_
  have I2 : L2.Inv X pins σ H1 { s1 with heap := h' } := I1.kept (t' := s1.toks) hk
  refine ⟨s1.heap.objs.size + 4, [s1.heap.objs.size + 4, s1.heap.objs.size + 2, s1.heap.objs.size + 3, s1.heap.objs.size, s1.heap.objs.size + 1], _, _, H1, rfl, I2, turn_zipB b1 b2 (apart2_new hal hbl), ⟨hz, hTI, ⟨_, _, hTO⟩, itB_of hi1, itB_of hi2⟩, fun c hb => ?_, q⟩
  have hle : s1.heap.objs.size ≤ c := by
    have e' : c = s1.heap.objs.size + 4 ∨ c = s1.heap.objs.size + 2 ∨ c = s1.heap.objs.size + 3 ∨ c = s1.heap.objs.size ∨ c = s1.heap.objs.size + 1 := by simpa using hb
    rcases e' with z | z | z | z | z
    · rw [z]; exact Nat.le_add_right _ _
    · rw [z]; exact Nat.le_add_right _ _
    · rw [z]; exact Nat.le_add_right _ _
    · rw [z]; exact Nat.le_refl _
    · rw [z]; exact Nat.le_add_right _ _
  exact I1.fpOk hle (I1.hok.fresh hle)
end Pd

/-! list(zip(x, y)): the pairs stay, so a zip makes a new tuple at each turn -/
namespace Pd
open PySem L2 Evl PySem.Spec PyProof.Rows

section
variable {prog : Program} {w : World} {A : Around} {E : Value → Shared → Prop} {s : Shared} {z TI TO T i1 i2 : Addr} {fp1 fp2 : List Addr} {n1 n2 i : Nat} {P1 P2 : Nat → Value → Prop} {St1 St2 : Nat → Heap → Prop} {f : Bool} {oT : Obj}
theorem zipHeld_item {Q : Value → Shared → Prop} (S : PySem.ZipSep2 z TI TO i1 i2 fp1 fp2) (D1 : Draws prog w A i1 fp1 n1 P1 St1) (D2 : Draws prog w A i2 fp2 n2 P2 St2)
    (hz : PySem.IsZipHeld s.heap z TI TO T f) (hT : s.heap.get? T = some oT) (hTI : PySem.IsTupOf2 s.heap TI (.ref i1) (.ref i2)) (st1 : St1 i s.heap) (st2 : St2 i s.heap) (hlt1 : i < n1) (hlt2 : i < n2)
    (hQ : ∀ x1 x2 h' tk, P1 i x1 → P2 i x2 → PySem.IsZipHeld h' z TI TO T true → St1 (i + 1) h' → St2 (i + 1) h' → PySem.IsTupOf2 h' s.heap.objs.size x1 x2 → h'.objs.size = s.heap.objs.size + 1 →
      (∀ c o, c ≠ z → c ≠ i1 → c ≠ i2 → s.heap.get? c = some o → h'.get? c = some o) → Q (.ref s.heap.objs.size) { s with heap := h', toks := tk }) :
    wpAny (model prog w) A (Builtin.«zip.__next__» ⟨[.ref z], []⟩) (fun fin s' => ∃ v, fin = .done (.ret v) ∧ Q v s') E s := by
  obtain ⟨hp, g, d, tk0, os⟩ := s
  show wpAny _ _ (field (.ref z) 2 >>= _) _ _ _
  refine wpAny_bind (wpAny_field hz rfl (x := .bool false) rfl ?_)
  show wpAny _ _ (field (.ref z) 3 >>= _) _ _ _
  refine wpAny_bind (wpAny_field hz rfl (x := .ref TI) rfl ?_)
  refine wpAny_bind (wpAny_seqItems hTI rfl ?_)
  show wpAny _ _ (Builtin.SmallTypes.ownedTupleIsFree (.ref z) >>= _) _ _ _
  refine wpAny_bind (PySem.wpAny_tupleHeld_zip hz hT fun g0 hz0 hs0 => ?_)
  replace hs0 : Heap.SameBut z hp g0 := hs0
  simp only [Bool.false_eq_true, if_false]
  refine wpAny_bind ?_
  rw [← Array.forIn_toList]
  simp only [List.forIn_cons, List.forIn_nil]
  refine wpAny_bind (wpAny_bind (wpAny_holding ?_))
  show wpAny _ _ (Builtin.SmallTypes.nextOf (.ref i1) >>= _) _ _ ⟨g0, g, d, tk0, os⟩
  refine wpAny_bind (D1.item i _ _ _ hlt1 (D1.over st1 hs0 S.zf1) fun x1 p1 tk1 hx1 sn1 hp1 => wpAny_pure ?_)
  replace hp1 : Heap.SameBut i1 g0 p1 := hp1
  refine wpAny_pure ?_
  refine wpAny_bind (wpAny_bind (wpAny_holding ?_))
  show wpAny _ _ (Builtin.SmallTypes.nextOf (.ref i2) >>= _) _ _ ⟨p1, g, d, tk1, os⟩
  refine wpAny_bind (D2.item i _ _ _ hlt2 (D2.over (D2.over st2 hs0 S.zf2) hp1 S.sep1_2) fun x2 p2 tk2 hx2 sn2 hp2 => wpAny_pure ?_)
  replace hp2 : Heap.SameBut i2 p1 p2 := hp2
  refine wpAny_pure (wpAny_pure ?_)
  show wpAny _ _ (newTuple [x1, x2] >>= _) _ _ _
  refine wpAny_bind (wpAny_newTuple ?_)
  have hsz : p2.objs.size = hp.objs.size := by rw [hp2.1, hp1.1, hs0.1]
  have hz₃ : PySem.IsZipHeld p2 z TI TO T true := hp2.extBut _ _ S.zi2 (hp1.extBut _ _ S.zi1 hz0)
  have hk : ∀ c o, c ≠ z → c ≠ i1 → c ≠ i2 → hp.get? c = some o → p2.get? c = some o := fun c o c1 c2 c3 e => hp2.extBut _ _ c3 (hp1.extBut _ _ c2 (hs0.extBut _ _ c1 e))
  have hj1 : St1 (i + 1) p2 := D1.over sn1 hp2 S.sep2_1
  refine wpAny_pure ⟨_, rfl, ?_⟩
  show Q (.ref p2.objs.size) ⟨p2.push { cls := .type "tuple", data := .seq #[x1, x2] }, g, d, tk2, os⟩
  have hpp : PySem.IsTupOf2 (p2.push { cls := .type "tuple", data := .seq #[x1, x2] }) p2.objs.size x1 x2 := Heap.get?_push_size _ rfl
  have hz4 : (p2.push { cls := .type "tuple", data := .seq #[x1, x2] }).objs.size = p2.objs.size + 1 := Heap.size_push ..
  rw [hsz] at hpp hz4 ⊢
  exact hQ x1 x2 _ tk2 hx1 hx2 (Heap.get?_push_of_some _ hz₃) (D1.frame _ _ _ hj1 fun b hb o e => Heap.get?_push_of_some _ e) (D2.frame _ _ _ sn2 fun b hb o e => Heap.get?_push_of_some _ e) hpp hz4 fun c o c1 c2 c3 e => Heap.get?_push_of_some _ (hk c o c1 c2 c3 e)
theorem zipHeld_end {Q : Fin → Shared → Prop} (S : PySem.ZipSep2 z TI TO i1 i2 fp1 fp2) (D1 : Draws prog w A i1 fp1 n1 P1 St1) (D2 : Draws prog w A i2 fp2 n2 P2 St2)
    (hz : PySem.IsZipHeld s.heap z TI TO T f) (hT : s.heap.get? T = some oT) (hTI : PySem.IsTupOf2 s.heap TI (.ref i1) (.ref i2)) (st1 : St1 i s.heap) (st2 : St2 i s.heap) (hle1 : i ≤ n1) (hle2 : i ≤ n2) (hend : i = n1 ∨ i = n2)
    (hE : ∀ h' tk e, (∀ c o, c ≠ z → c ≠ i1 → c ≠ i2 → s.heap.get? c = some o → h'.get? c = some o) → (∃ o, h'.get? e = some o ∧ o.cls = .type "StopIteration") → E (.ref e) { s with heap := h', toks := tk }) :
    wpAny (model prog w) A (Builtin.«zip.__next__» ⟨[.ref z], []⟩) Q E s := by
  obtain ⟨hp, g, d, tk0, os⟩ := s
  show wpAny _ _ (field (.ref z) 2 >>= _) _ _ _
  refine wpAny_bind (wpAny_field hz rfl (x := .bool false) rfl ?_)
  show wpAny _ _ (field (.ref z) 3 >>= _) _ _ _
  refine wpAny_bind (wpAny_field hz rfl (x := .ref TI) rfl ?_)
  refine wpAny_bind (wpAny_seqItems hTI rfl ?_)
  show wpAny _ _ (Builtin.SmallTypes.ownedTupleIsFree (.ref z) >>= _) _ _ _
  refine wpAny_bind (PySem.wpAny_tupleHeld_zip hz hT fun g0 hz0 hs0 => ?_)
  replace hs0 : Heap.SameBut z hp g0 := hs0
  simp only [Bool.false_eq_true, if_false]
  refine wpAny_bind ?_
  rw [← Array.forIn_toList]
  simp only [List.forIn_cons, List.forIn_nil]
  refine wpAny_bind (wpAny_bind (wpAny_holding ?_))
  show wpAny _ _ (Builtin.SmallTypes.nextOf (.ref i1) >>= _) _ _ ⟨g0, g, d, tk0, os⟩
  by_cases hlt1 : i < n1
  · refine wpAny_bind (D1.item i _ _ _ hlt1 (D1.over st1 hs0 S.zf1) fun x1 p1 tk1 hx1 sn1 hp1 => wpAny_pure ?_)
    replace hp1 : Heap.SameBut i1 g0 p1 := hp1
    have hi2 : i = n2 := by omega
    refine wpAny_pure ?_
    refine wpAny_bind (wpAny_bind (wpAny_holding ?_))
    show wpAny _ _ (Builtin.SmallTypes.nextOf (.ref i2) >>= _) _ _ ⟨p1, g, d, tk1, os⟩
    refine wpAny_bind (D2.done ⟨p1, g, d, tk1, os⟩ _ _ (by rw [← hi2]; exact (D2.over (D2.over st2 hs0 S.zf2) hp1 S.sep1_2)) fun q e hq he => ?_)
    replace hq : Heap.ExtBut i2 p1 q := hq
    exact hE q tk1 e (fun c o cz c1 c2 x => hq _ _ c2 (hp1.extBut _ _ c1 (hs0.extBut _ _ cz x))) he
  · have hi1 : i = n1 := by omega
    refine wpAny_bind (D1.done ⟨g0, g, d, tk0, os⟩ _ _ (by rw [← hi1]; exact (D1.over st1 hs0 S.zf1)) fun q e hq he => ?_)
    replace hq : Heap.ExtBut i1 g0 q := hq
    exact hE q tk0 e (fun c o cz c1 c2 x => hq _ _ c1 (hs0.extBut _ _ cz x)) he
theorem next_zipHeld {Q : Option Value → Shared → Prop} (S : PySem.ZipSep2 z TI TO i1 i2 fp1 fp2) (D1 : Draws prog w A.in1 i1 fp1 n1 P1 St1) (D2 : Draws prog w A.in1 i2 fp2 n2 P2 St2)
    (hz : PySem.IsZipHeld s.heap z TI TO T f) (hT : s.heap.get? T = some oT) (hTI : PySem.IsTupOf2 s.heap TI (.ref i1) (.ref i2)) (st1 : St1 i s.heap) (st2 : St2 i s.heap) (hlt1 : i < n1) (hlt2 : i < n2)
    (hQ : ∀ x1 x2 h' tk, P1 i x1 → P2 i x2 → PySem.IsZipHeld h' z TI TO T true → St1 (i + 1) h' → St2 (i + 1) h' → PySem.IsTupOf2 h' s.heap.objs.size x1 x2 → h'.objs.size = s.heap.objs.size + 1 →
      (∀ c o, c ≠ z → c ≠ i1 → c ≠ i2 → s.heap.get? c = some o → h'.get? c = some o) → Q (some (.ref s.heap.objs.size)) { s with heap := h', toks := tk }) :
    wpAny (model prog w) A (pyNext (.ref z)) Q E s := by
  have hTy : s.TypeIs (.ref z) "zip" := ⟨_, hz, rfl⟩
  unfold pyNext
  exact wpAny_bind (wpAny_attempt (wpAny_callSpecial?_slot (name := Str.ofString "__next__") hTy F.slot_zip_next
    (wpAny_call_entry F.slot_zip_next hTy F.entry_zip_next
      (zipHeld_item S D1 D2 hz hT hTI st1 st2 hlt1 hlt2 fun x1 x2 h' tk y1 y2 b1 b2 d1 d2 b5 b6 => wpAny_pure (hQ x1 x2 h' tk y1 y2 b1 b2 d1 d2 b5 b6)) (F.args_zip_next_1 _))))
theorem done_zipHeld {Q : Option Value → Shared → Prop} (S : PySem.ZipSep2 z TI TO i1 i2 fp1 fp2) (D1 : Draws prog w A.in1 i1 fp1 n1 P1 St1) (D2 : Draws prog w A.in1 i2 fp2 n2 P2 St2)
    (hz : PySem.IsZipHeld s.heap z TI TO T f) (hT : s.heap.get? T = some oT) (hTI : PySem.IsTupOf2 s.heap TI (.ref i1) (.ref i2)) (st1 : St1 i s.heap) (st2 : St2 i s.heap) (hle1 : i ≤ n1) (hle2 : i ≤ n2) (hend : i = n1 ∨ i = n2)
    (hQ : ∀ h' tk, (∀ c o, c ≠ z → c ≠ i1 → c ≠ i2 → s.heap.get? c = some o → h'.get? c = some o) → Q none { s with heap := h', toks := tk }) : wpAny (model prog w) A (pyNext (.ref z)) Q E s := by
  have hTy : s.TypeIs (.ref z) "zip" := ⟨_, hz, rfl⟩
  unfold pyNext
  refine wpAny_bind (wpAny_attempt (wpAny_callSpecial?_slot (name := Str.ofString "__next__") hTy F.slot_zip_next
    (wpAny_call_entry F.slot_zip_next hTy F.entry_zip_next (zipHeld_end S D1 D2 hz hT hTI st1 st2 hle1 hle2 hend fun h' tk e hk he => ?_) (F.args_zip_next_1 _))))
  obtain ⟨o, ho, hc⟩ := he
  refine wpAny_bind (wpAny_isInstance (T := "StopIteration") (b := true) ⟨o, ho, hc⟩ isSubtype_stop ?_)
  exact wpAny_pure (hQ _ _ hk)
end

/-! ### the state of a zip whose pairs stay -/
/-- turn i: free or with a pair that is still out (not at S) -/
def ZSt (b1 b2 : Bool) (z TI TO i1 i2 a b S : Addr) (xs ys : Array Value) (i : Nat) (h : Heap) : Prop :=
  PySem.IsTupOf2 h TI (.ref i1) (.ref i2) ∧ (ItB b1 h i1 a i ∧ CoB b1 h a xs) ∧ (ItB b2 h i2 b i ∧ CoB b2 h b ys) ∧
  ((IsZip h z TI TO .none ∧ ∃ x y, PySem.IsTupOf2 h TO x y) ∨ ∃ T f oT, PySem.IsZipHeld h z TI TO T f ∧ h.get? T = some oT ∧ T ≠ z ∧ T ≠ i1 ∧ T ≠ i2 ∧ T ≠ S)
theorem coB_at {b : Bool} {h h' : Heap} {a : Addr} {items : Array Value} (c : CoB b h a items) (k : ∀ o, h.get? a = some o → h'.get? a = some o) : CoB b h' a items := by
  cases b with
  | false => exact Heap.IsList.at c k
  | true => exact Heap.IsTuple.at c k
theorem ZSt.keep {b1 b2 : Bool} {z TI TO i1 i2 a b S : Addr} {xs ys : Array Value} {i : Nat} {h h' : Heap} (t : ZSt b1 b2 z TI TO i1 i2 a b S xs ys i h) (k : ∀ c o, c ≠ S → h.get? c = some o → h'.get? c = some o)
    (n1 : z ≠ S) (n2 : TI ≠ S) (n3 : TO ≠ S) (n4 : i1 ≠ S) (n5 : i2 ≠ S) (n6 : a ≠ S) (n7 : b ≠ S) : ZSt b1 b2 z TI TO i1 i2 a b S xs ys i h' := by
  obtain ⟨hTI, ⟨h1, c1⟩, ⟨h2, c2⟩, hz⟩ := t
  refine ⟨k _ _ n2 hTI, ⟨h1.at fun o e => k _ o n4 e, coB_at c1 fun o e => k _ o n6 e⟩, ⟨h2.at fun o e => k _ o n5 e, coB_at c2 fun o e => k _ o n7 e⟩, ?_⟩
  rcases hz with ⟨hz, x, y, hTO⟩ | ⟨T, f, oT, hz, hT, r1, r2, r3, r4⟩
  · exact .inl ⟨k _ _ n1 hz, x, y, k _ _ n3 hTO⟩
  · exact .inr ⟨T, f, oT, k _ _ n1 hz, k _ _ r4 hT, r1, r2, r3, r4⟩
section
variable {prog : Program} {w : World} {A : Around} {E : Value → Shared → Prop} {s : Shared} {z TI TO i1 i2 a b S : Addr} {b1 b2 : Bool} {xs ys : Array Value} {i : Nat}
theorem zst_item {Q : Option Value → Shared → Prop} (hh : A.handled = none) (D : Apart2 z TI TO i1 i2 a b) (hS : S < s.heap.objs.size) (t : ZSt b1 b2 z TI TO i1 i2 a b S xs ys i s.heap) (h1 : i < xs.size) (h2 : i < ys.size)
    (hQ : ∀ h' tk, ZSt b1 b2 z TI TO i1 i2 a b S xs ys (i + 1) h' → PySem.IsTupOf2 h' s.heap.objs.size xs[i] ys[i] → h'.objs.size = s.heap.objs.size + 1 →
      (∀ c o, c ≠ z → c ≠ TO → c ≠ i1 → c ≠ i2 → s.heap.get? c = some o → h'.get? c = some o) → Q (some (.ref s.heap.objs.size)) { s with heap := h', toks := tk }) :
    wpAny (model prog w) A (pyNext (.ref z)) Q E s := by
  obtain ⟨hTI, ⟨t1, c1⟩, ⟨t2, c2⟩, hz⟩ := t
  have D1 := drawsB (prog := prog) (w := w) (A := A.in1) hh b1 i1 a D.a1 xs
  have D2 := drawsB (prog := prog) (w := w) (A := A.in1) hh b2 i2 b D.b2 ys
  have lt : ∀ {c o}, s.heap.get? c = some o → s.heap.objs.size ≠ c := fun e => Nat.ne_of_gt (Heap.lt_size e)
  have l1 : s.heap.objs.size ≠ i1 := let ⟨_, e, _⟩ := t1.obj; lt e
  have l2 : s.heap.objs.size ≠ i2 := let ⟨_, e, _⟩ := t2.obj; lt e
  rcases hz with ⟨hz, x, y, hTO⟩ | ⟨T, f, oT, hz, hT, r1, r2, r3, r4⟩
  · refine PySem.wpAny_pyNext_zipD2_item D.sep D1 D2 hz hTI hTO ⟨t1, c1⟩ ⟨t2, c2⟩ h1 h2 fun u1 u2 h' tk p1 p2 z' TO' s1 s2 hT hsz hk => ?_
    have e1 : u1 = xs[i] := by rw [Array.getElem?_eq_getElem h1] at p1; exact (Option.some.inj p1).symm
    have e2 : u2 = ys[i] := by rw [Array.getElem?_eq_getElem h2] at p2; exact (Option.some.inj p2).symm
    subst e1 e2
    exact hQ h' tk ⟨hk _ _ D.sep.TIz D.sep.TITO D.sep.TIi1 D.sep.TIi2 hTI, s1, s2, .inr ⟨_, false, _, z', hT, lt hz, l1, l2, Nat.ne_of_gt hS⟩⟩ hT hsz hk
  · refine next_zipHeld D.sep D1 D2 hz hT hTI ⟨t1, c1⟩ ⟨t2, c2⟩ h1 h2 fun u1 u2 h' tk p1 p2 z' s1 s2 hT' hsz hk => ?_
    have e1 : u1 = xs[i] := by rw [Array.getElem?_eq_getElem h1] at p1; exact (Option.some.inj p1).symm
    have e2 : u2 = ys[i] := by rw [Array.getElem?_eq_getElem h2] at p2; exact (Option.some.inj p2).symm
    subst e1 e2
    exact hQ h' tk ⟨hk _ _ D.sep.TIz D.sep.TIi1 D.sep.TIi2 hTI, s1, s2, .inr ⟨T, true, oT, z', hk _ _ r1 r2 r3 hT, r1, r2, r3, r4⟩⟩ hT' hsz fun c o n1 _ n3 n4 e => hk c o n1 n3 n4 e
theorem zst_done {Q : Option Value → Shared → Prop} (hh : A.handled = none) (D : Apart2 z TI TO i1 i2 a b) (t : ZSt b1 b2 z TI TO i1 i2 a b S xs ys (min xs.size ys.size) s.heap)
    (hQ : ∀ h' tk, (∀ c o, c ≠ z → c ≠ TO → c ≠ i1 → c ≠ i2 → s.heap.get? c = some o → h'.get? c = some o) → Q none { s with heap := h', toks := tk }) : wpAny (model prog w) A (pyNext (.ref z)) Q E s := by
  obtain ⟨hTI, ⟨t1, c1⟩, ⟨t2, c2⟩, hz⟩ := t
  have D1 := drawsB (prog := prog) (w := w) (A := A.in1) hh b1 i1 a D.a1 xs
  have D2 := drawsB (prog := prog) (w := w) (A := A.in1) hh b2 i2 b D.b2 ys
  rcases hz with ⟨hz, x, y, hTO⟩ | ⟨T, f, oT, hz, hT, r1, r2, r3, r4⟩
  · exact PySem.wpAny_pyNext_zipD2_end D.sep D1 D2 hz hTI hTO ⟨t1, c1⟩ ⟨t2, c2⟩ (by omega) (by omega) (by omega) hQ
  · exact done_zipHeld D.sep D1 D2 hz hT hTI ⟨t1, c1⟩ ⟨t2, c2⟩ (by omega) (by omega) (by omega) fun h' tk hk => hQ h' tk fun c o n1 _ n3 n4 e => hk c o n1 n3 n4 e
end
end Pd

namespace Pd
open PySem L2 Evl PySem.Spec PyProof.Rows

/-- the pairs that were gathered, all above S -/
structure Prs (xs ys : Array Value) (S : Addr) (h : Heap) (as : List Addr) : Prop where
  rise : as.Pairwise (· < ·)
  above : ∀ a ∈ as, S < a
  pairs : ∀ (j : Nat) (a : Addr), as[j]? = some a → ∃ (h1 : j < xs.size) (h2 : j < ys.size), PySem.IsTupOf2 h a xs[j] ys[j]
theorem Prs.there {xs ys : Array Value} {S : Addr} {h : Heap} {as : List Addr} (g : Prs xs ys S h as) {a : Addr} (ha : a ∈ as) : a < h.objs.size := by
  obtain ⟨j, hj⟩ := List.mem_iff_getElem?.mp ha
  obtain ⟨_, _, e⟩ := g.pairs j a hj
  exact Heap.lt_size e
theorem Prs.keep {xs ys : Array Value} {S : Addr} {h h' : Heap} {as : List Addr} (g : Prs xs ys S h as) (k : ∀ c o, S < c → h.get? c = some o → h'.get? c = some o) : Prs xs ys S h' as :=
  ⟨g.rise, g.above, fun j a hj => let ⟨h1, h2, e⟩ := g.pairs j a hj; ⟨h1, h2, k a _ (g.above a (List.mem_of_getElem? hj)) e⟩⟩
theorem Prs.snoc {xs ys : Array Value} {S : Addr} {h : Heap} {as : List Addr} {p : Addr} (g : Prs xs ys S h as) (hp : ∀ a ∈ as, a < p) (hS : S < p) (h1 : as.length < xs.size) (h2 : as.length < ys.size) (e : PySem.IsTupOf2 h p xs[as.length] ys[as.length]) : Prs xs ys S h (as ++ [p]) := by
  refine ⟨List.pairwise_append.mpr ⟨g.rise, List.pairwise_singleton _ _, fun a ha b hb => ?_⟩, fun a ha => ?_, fun j b hj => ?_⟩
  · rw [List.mem_singleton.mp hb]; exact hp a ha
  · rcases List.mem_append.mp ha with ha | ha
    · exact g.above a ha
    · rw [List.mem_singleton.mp ha]; exact hS
  · rcases Nat.lt_trichotomy j as.length with q | q | q
    · rw [List.getElem?_append_left q] at hj
      exact g.pairs j b hj
    · subst q
      have hb : p = b := by simpa using hj
      subst hb
      exact ⟨h1, h2, e⟩
    · have hnone : (as ++ [p])[j]? = none := List.getElem?_eq_none (by rw [List.length_append, List.length_singleton]; omega)
      rw [hnone] at hj; cases hj
section
variable {prog : Program} {w : World} {A : Around} {s : Shared} {R : Result → Shared → Prop} {z TI TO i1 i2 a b S : Addr} {b1 b2 : Bool} {xs ys : Array Value}
/-- the cells of the zip, what it walks: below S -/
structure Low (z TI TO i1 i2 a b S : Addr) : Prop where
  z : z < S
  TI : TI < S
  TO : TO < S
  i1 : i1 < S
  i2 : i2 < S
  a : a < S
  b : b < S
theorem zl_loop (hh : A.handled = none) (D : Apart2 z TI TO i1 i2 a b) (L : Low z TI TO i1 i2 a b S) (hn : min xs.size ys.size ≤ sizeLine) (res : Value) {h₁ : Heap}
    (hR : ∀ h' tk acc c as, (∀ x o, x ≠ S → x ≠ z → x ≠ TO → x ≠ i1 → x ≠ i2 → h₁.get? x = some o → h'.get? x = some o) → h'.get? S = some { cls := .type "list", dict := none, data := .seq acc c, slots := #[] } →
      as.length = min xs.size ys.size → Prs xs ys S h' as → acc.toList = as.map Value.ref → R (.ok (.ret res)) { s with heap := h', toks := tk }) :
    ∀ (k i : Nat) (h : Heap) (tk c : Nat) (acc : Array Value) (as : List Addr), min xs.size ys.size - i = k → i ≤ min xs.size ys.size → ZSt b1 b2 z TI TO i1 i2 a b S xs ys i h →
      (∀ x o, x ≠ S → x ≠ z → x ≠ TO → x ≠ i1 → x ≠ i2 → h₁.get? x = some o → h.get? x = some o) →
      h.get? S = some { cls := .type "list", dict := none, data := .seq acc c, slots := #[] } → acc.toList = as.map Value.ref → as.length = i → Prs xs ys S h as →
      codeAny (model prog w) A (.builtin "list.extend.loop" ⟨[.ref S, .ref z, res], []⟩) R { s with heap := h, toks := tk } := by
  have nz : ∀ {c : Addr}, S < c → c ≠ z ∧ c ≠ TO ∧ c ≠ i1 ∧ c ≠ i2 := fun hc => ⟨Nat.ne_of_gt (Nat.lt_trans L.z hc), Nat.ne_of_gt (Nat.lt_trans L.TO hc), Nat.ne_of_gt (Nat.lt_trans L.i1 hc), Nat.ne_of_gt (Nat.lt_trans L.i2 hc)⟩
  have nS : S ≠ z ∧ S ≠ TO ∧ S ≠ i1 ∧ S ≠ i2 := ⟨Nat.ne_of_gt L.z, Nat.ne_of_gt L.TO, Nat.ne_of_gt L.i1, Nat.ne_of_gt L.i2⟩
  intro k
  induction k with
  | zero =>
    intro i h tk c acc as hk hi hst hkeep hS hacc hal hG
    have hin : i = min xs.size ys.size := by omega
    subst hin
    refine codeAny_builtin PySem.F.entry_extend_loop ?_
    rw [Around.under_plainId PySem.F.plain_extend_loop _]
    show wpAny _ A.in1 (pyNext (.ref z) >>= _) _ _ _
    refine wpAny_bind (zst_done (s := { s with heap := h, toks := tk }) (A := A.in1) hh D hst fun h' tk' he => ?_)
    exact wpAny_pure (hR h' tk' acc c as (fun x o h1 h2 h3 h4 h5 e => he x o h2 h3 h4 h5 (hkeep x o h1 h2 h3 h4 h5 e)) (he S _ nS.1 nS.2.1 nS.2.2.1 nS.2.2.2 hS) hal (hG.keep fun c o hc e => let ⟨q1, q2, q3, q4⟩ := nz hc; he c o q1 q2 q3 q4 e) hacc)
  | succ k ih =>
    intro i h tk c acc as hk hi hst hkeep hS hacc hal hG
    have hx : i < xs.size := by omega
    have hy : i < ys.size := by omega
    have hsz : acc.size = i := by rw [← Array.length_toList, hacc, List.length_map, hal]
    have hSl : S < h.objs.size := Heap.lt_size hS
    refine codeAny_builtin PySem.F.entry_extend_loop ?_
    rw [Around.under_plainId PySem.F.plain_extend_loop _]
    show wpAny _ A.in1 (pyNext (.ref z) >>= _) _ _ _
    refine wpAny_bind (zst_item (s := { s with heap := h, toks := tk }) (A := A.in1) hh D hSl hst hx hy fun h' tk' hst' ht hz' hkp => ?_)
    dsimp only at ht hz' hkp ⊢
    have hS' := hkp S _ nS.1 nS.2.1 nS.2.2.1 nS.2.2.2 hS
    have up : ∀ x o, x ≠ S → h'.get? x = some o → (h'.update S (Obj.mapSeq (·.push (Value.ref h.objs.size)))).get? x = some o := fun x o hb e => (Heap.get?_update_other _ _ (Ne.symm hb)).trans e
    show wpAny _ A.in1 (updateSeq S (·.push (Value.ref h.objs.size)) >>= _) _ _ _
    refine wpAny_bind ?_
    refine wpAny_updateSeq hS' rfl (wpAny_pure ⟨plainId_quiet PySem.F.plain_extend_loop _, ih (i + 1) _ tk' _ (acc.push (Value.ref h.objs.size)) (as ++ [h.objs.size]) (by omega) (by omega)
      (hst'.keep up (Nat.ne_of_lt L.z) (Nat.ne_of_lt L.TI) (Nat.ne_of_lt L.TO) (Nat.ne_of_lt L.i1) (Nat.ne_of_lt L.i2) (Nat.ne_of_lt L.a) (Nat.ne_of_lt L.b))
      (fun x o h1 h2 h3 h4 h5 e => up x o h1 (hkp x o h2 h3 h4 h5 (hkeep x o h1 h2 h3 h4 h5 e))) (Heap.get?_update_self _ hS' rfl) (by rw [Array.toList_push, hacc, List.map_append]; rfl) (by rw [List.length_append, hal]; rfl) ?_⟩) (by rw [hsz]; omega) (by show (acc.push (Value.ref h.objs.size)).size ≤ sizeLine + 1; rw [Array.size_push, hsz]; omega)
    have g1 : Prs xs ys S (h'.update S (Obj.mapSeq (·.push (Value.ref h.objs.size)))) as := hG.keep fun c o hc e => let ⟨q1, q2, q3, q4⟩ := nz hc; up c o (Nat.ne_of_gt hc) (hkp c o q1 q2 q3 q4 e)
    subst hal
    exact g1.snoc (fun a ha => hG.there ha) hSl hx hy (up _ _ (Nat.ne_of_gt hSl) ht)
end
theorem zip_no_len : typeLookup (.type "zip") "__len__" = pure none := am_miss_of_fast (by decide +kernel)
theorem zip_no_hint : typeLookup (.type "zip") "__length_hint__" = pure none := am_miss_of_fast (by decide +kernel)
section
variable {prog : Program} {w : World} {A : Around} {E : Value → Shared → Prop} {s : Shared} {z TI TO i1 i2 a b S : Addr} {b1 b2 : Bool} {xs ys : Array Value}
theorem hint_zip {Q : Bool → Shared → Prop} (hT : s.TypeIs (.ref z) "zip") (h : Q true s) : wpAny (model prog w) A (Builtin.List.listLengthHint (.ref z)) Q E s := by
  unfold Builtin.List.listLengthHint
  refine wpAny_bind (wpAny_specialOf hT zip_no_len ?_)
  wp_delta
  refine wpAny_bind (wpAny_specialOf hT zip_no_hint ?_)
  exact wpAny_pure h
end

section
variable {prog : Program} {w : World} {A : Around} {E : Value → Shared → Prop} {s : Shared} {z TI TO i1 i2 a b S : Addr} {b1 b2 : Bool} {xs ys : Array Value}
/-- a zip at its beginning -/
structure Z0 (b1 b2 : Bool) (z TI TO i1 i2 a b : Addr) (xs ys : Array Value) (h : Heap) : Prop where
  hz : IsZip h z TI TO .none
  hTI : PySem.IsTupOf2 h TI (.ref i1) (.ref i2)
  hTO : ∃ x y, PySem.IsTupOf2 h TO x y
  h1 : ItB b1 h i1 a 0
  c1 : CoB b1 h a xs
  h2 : ItB b2 h i2 b 0
  c2 : CoB b2 h b ys
theorem Z0.st {h : Heap} (t : Z0 b1 b2 z TI TO i1 i2 a b xs ys h) (S : Addr) : ZSt b1 b2 z TI TO i1 i2 a b S xs ys 0 h :=
  let ⟨x, y, e⟩ := t.hTO; ⟨t.hTI, ⟨t.h1, t.c1⟩, ⟨t.h2, t.c2⟩, .inl ⟨t.hz, x, y, e⟩⟩
theorem Z0.keep {h h' : Heap} (t : Z0 b1 b2 z TI TO i1 i2 a b xs ys h) (L : Low z TI TO i1 i2 a b S) (k : ∀ c o, c ≠ S → h.get? c = some o → h'.get? c = some o) : Z0 b1 b2 z TI TO i1 i2 a b xs ys h' :=
  ⟨k _ _ (Nat.ne_of_lt L.z) t.hz, k _ _ (Nat.ne_of_lt L.TI) t.hTI, let ⟨x, y, e⟩ := t.hTO; ⟨x, y, k _ _ (Nat.ne_of_lt L.TO) e⟩, t.h1.at fun o e => k _ o (Nat.ne_of_lt L.i1) e, coB_at t.c1 fun o e => k _ o (Nat.ne_of_lt L.a) e,
    t.h2.at fun o e => k _ o (Nat.ne_of_lt L.i2) e, coB_at t.c2 fun o e => k _ o (Nat.ne_of_lt L.b) e⟩
theorem zl_extend {R : Result → Shared → Prop} (hh : A.handled = none) (D : Apart2 z TI TO i1 i2 a b) (L : Low z TI TO i1 i2 a b S) (t : Z0 b1 b2 z TI TO i1 i2 a b xs ys s.heap) (res : Value) (c₀ : Nat) (hS : s.heap.get? S = some { cls := .type "list", data := .seq #[] c₀ })
    (hR : ∀ h' tk acc c as, (∀ x o, x ≠ S → x ≠ z → x ≠ TO → x ≠ i1 → x ≠ i2 → s.heap.get? x = some o → h'.get? x = some o) → h'.get? S = some { cls := .type "list", dict := none, data := .seq acc c, slots := #[] } →
      as.length = min xs.size ys.size → Prs xs ys S h' as → acc.toList = as.map Value.ref → R (.ok (.ret res)) { s with heap := h', toks := tk }) (hn : min xs.size ys.size ≤ sizeLine) :
    wpAny (model prog w) A.in1 (Builtin.List.listExtendWith (.ref S) (.ref z) res)
      (fun fin s' => match fin with | .done f => R (.ok f) s' | .again c' => c'.quiet = true ∧ codeAny (model prog w) A c' R s') (fun e s' => R (.error e) s') s := by
  have hT : s.TypeIs (.ref z) "zip" := ⟨_, t.hz, rfl⟩
  have key : ∀ (h : Heap) (c₁ tk : Nat), (∀ x o, x ≠ S → s.heap.get? x = some o → h.get? x = some o) → h.get? S = some { cls := .type "list", data := .seq #[] c₁ } →
      codeAny (model prog w) A (.builtin "list.extend.loop" ⟨[.ref S, .ref z, res], []⟩) R { s with heap := h, toks := tk } := by
    intro h c₁ tk hk hS₁
    refine zl_loop (s := s) (h₁ := s.heap) hh D L hn res hR (min xs.size ys.size) 0 h tk c₁ #[] [] (Nat.sub_zero _) (Nat.zero_le _) ((t.keep L hk).st S) (fun x o h1 _ _ _ _ e => hk x o h1 e) hS₁ rfl rfl
      ⟨List.Pairwise.nil, (fun _ ha => nomatch ha), (fun j a hj => by simp at hj)⟩
  unfold Builtin.List.listExtendWith
  refine wpAny_bind (wpAny_typeOf (T := "zip") hT ?_)
  have h1 : Builtin.List.listSameRef (.ref S) (.ref z) = false := by simp [Builtin.List.listSameRef, Nat.ne_of_gt L.z]
  have h2 : (Value.type "zip" == Value.type "list") = false := by decide
  have h3 : (Value.type "zip" == Value.type "tuple") = false := by decide
  simp only [h1, h2, h3, Bool.or_false, Bool.false_eq_true, if_false]
  refine wpAny_bind (wpAny_pyIter_zip t.hz ?_)
  refine wpAny_bind (wpAny_holding (hint_zip hT ?_))
  refine wpAny_ite_split (fun _ => ?_) (fun hab => absurd rfl hab)
  refine wpAny_bind (wpAny_rule ?_)
  refine wpAny_bind ?_
  show wpAny _ _ (updateSeq S (·.push .none) >>= fun _ => updateSeq S (·.pop)) _ _ _
  refine wpAny_bind (wpAny_updateSeq hS rfl ?_)
  have hS₂ := Heap.get?_update_self (Obj.mapSeq (·.push Value.none)) hS rfl
  refine wpAny_updateSeq (hz := by seq_fits) hS₂ rfl ?_
  have hS₃ := Heap.get?_update_self (Obj.mapSeq (·.pop)) hS₂ rfl
  refine wpAny_pure ⟨plainId_quiet PySem.F.plain_extend_loop _, key _ _ _ (fun x o hb e => ?_) hS₃⟩
  exact (Heap.get?_update_other _ _ (Ne.symm hb)).trans ((Heap.get?_update_other _ _ (Ne.symm hb)).trans e)
theorem zl_init {R : Result → Shared → Prop} (hh : A.handled = none) (D : Apart2 z TI TO i1 i2 a b) (L : Low z TI TO i1 i2 a b S) (t : Z0 b1 b2 z TI TO i1 i2 a b xs ys s.heap) (hS : s.heap.get? S = some { cls := .type "list", data := .seq #[] })
    (hR : ∀ h' tk acc c as, (∀ x o, x ≠ S → x ≠ z → x ≠ TO → x ≠ i1 → x ≠ i2 → s.heap.get? x = some o → h'.get? x = some o) → h'.get? S = some { cls := .type "list", dict := none, data := .seq acc c, slots := #[] } →
      as.length = min xs.size ys.size → Prs xs ys S h' as → acc.toList = as.map Value.ref → R (.ok (.ret .none)) { s with heap := h', toks := tk }) (hn : min xs.size ys.size ≤ sizeLine) :
    wpAny (model prog w) A.in1 (Builtin.«list.__init__» ⟨[.ref S, .ref z], []⟩)
      (fun fin s' => match fin with | .done f => R (.ok f) s' | .again c' => c'.quiet = true ∧ codeAny (model prog w) A c' R s') (fun e s' => R (.error e) s') s := by
  show wpAny _ _ (do let old ← Builtin.List.listItems (.ref S); Builtin.List.listUpdate (.ref S) (fun _ => #[]); letGo old.toList.reverse; Builtin.List.listExtendWith (.ref S) (.ref z) .none) _ _ s
  refine wpAny_bind ?_
  unfold Builtin.List.listItems
  refine wpAny_bind (wpAny_seqItems hS rfl (wpAny_pure ?_))
  show wpAny _ _ (updateSeq S (fun _ => #[]) >>= fun _ => letGo (#[] : Array Value).toList.reverse >>= fun _ => Builtin.List.listExtendWith (.ref S) (.ref z) .none) _ _ s
  refine wpAny_bind (wpAny_updateSeq hS rfl ?_)
  have hS₂ := Heap.get?_update_self (Obj.mapSeq (fun _ => (#[] : Array Value))) hS rfl
  have oth : ∀ x o, x ≠ S → s.heap.get? x = some o → (s.heap.update S (Obj.mapSeq (fun _ => (#[] : Array Value)))).get? x = some o :=
    fun x o hb e => (Heap.get?_update_other _ _ (Ne.symm hb)).trans e
  refine wpAny_bind (wpAny_letGo ?_)
  exact zl_extend hh D L (t.keep L oth) .none _ hS₂ (fun h' tk acc c as hk hS' hl hG hacc => hR h' tk acc c as (fun x o n1 n2 n3 n4 n5 e => hk x o n1 n2 n3 n4 n5 (oth x o n1 e)) hS' hl hG hacc) hn
theorem zl_call {Q : Value → Shared → Prop} (hh : A.handled = none) (D : Apart2 z TI TO i1 i2 a b) (L : Low z TI TO i1 i2 a b s.heap.objs.size) (t : Z0 b1 b2 z TI TO i1 i2 a b xs ys s.heap) (hn : min xs.size ys.size ≤ sizeLine)
    (hQ : ∀ h' tk acc c as, (∀ x o, x ≠ z → x ≠ TO → x ≠ i1 → x ≠ i2 → s.heap.get? x = some o → h'.get? x = some o) → h'.get? s.heap.objs.size = some { cls := .type "list", dict := none, data := .seq acc c, slots := #[] } →
      as.length = min xs.size ys.size → Prs xs ys s.heap.objs.size h' as → acc.toList = as.map Value.ref → Q (.ref s.heap.objs.size) { s with heap := h', toks := tk }) :
    wpAny (model prog w) A (call (.type "list") [.ref z]) Q E s := by
  refine callType_codes (Q₁ := fun obj s₁ => obj = .ref s.heap.objs.size ∧ s₁ = { s with heap := s.heap.push { cls := .type "list", data := .seq #[] } }) PySem.F.called_list (PySem.F.typeCall_list_1 _) PySem.F.entry_list_init
    (code_list_new _ ⟨rfl, rfl⟩) fun obj s₁ h₁ => ?_
  obtain ⟨rfl, rfl⟩ := h₁
  have hS : (s.heap.push { cls := .type "list", data := .seq #[] }).get? s.heap.objs.size = some { cls := .type "list", data := .seq #[] } := Heap.get?_push_size _ rfl
  refine ⟨⟨_, hS, rfl⟩, PySem.F.args_list_init_2 _ _, zl_init (A := A.in1) hh D L (t.keep L fun c o _ e => Heap.get?_push_of_some _ e) hS (fun h' tk acc c as hk hS' hl hG hacc => ?_) hn⟩
  exact ⟨rfl, hQ h' tk acc c as (fun x o n2 n3 n4 n5 e => hk x o (Nat.ne_of_lt (Heap.lt_size e)) n2 n3 n4 n5 (Heap.get?_push_of_some _ e)) hS' hl hG hacc⟩
end

/-! ### as a reading -/
section
variable {X : Cx} {pins : List (Addr × Obj)} {σ : L2.St} {H H' : Hp} {s : Shared} {h' : Heap}
/-- some objects that are not tracked turn, new ones are laid -/
theorem turnedMany {t' : Nat} {ch : List Addr} (I : L2.Inv X pins σ H s) (k : ∀ b o, b ∉ ch → s.heap.get? b = some o → h'.get? b = some o) (hf : ∀ b ∈ ch, FpOk X pins H b) (old : ∀ b, b < s.heap.objs.size → H' b = H b)
    (new : ∀ b u, s.heap.objs.size ≤ b → H' b = some u → ObjOk X.prog X.w H' h' b u) : L2.Inv X pins σ H' { s with heap := h', toks := t' } := by
  have nit : ∀ b u, H b = some u → b ∉ ch := fun b u e z => by
    have q := (hf b z).1
    rw [q] at e; cases e
  have lt : ∀ b u, H b = some u → b < s.heap.objs.size := fun b u e => I.hok.lt e
  have ex : ∀ b u, H b = some u → H' b = some u := fun b u e => by rw [old b (lt b u e)]; exact e
  refine I.step (g' := s.gens) (d' := s.drawn) (ch := ch) (fun b hb => ⟨(hf b hb).2.2.2.1, (hf b hb).2.1, (hf b hb).2.2.2.2.1, (hf b hb).2.2.2.2.2⟩) (fun b o _ _ hc e _ => k b o hc e) (fun b o _ _ hc e _ => ⟨o.slots, k b o hc e⟩)
    (fun b o _ e n => ?_) (fun b o hc e => ⟨o, k b o hc e⟩) (fun b xs e => ?_) (fun b o u e => ?_) (fun b ps e => ⟨#[], ?_⟩) (fun m hm => ?_) (fun b u e => ?_) I.bare
  · rw [old b (Heap.lt_size e)]; exact n
  · exact ex _ _ e
  · exact ex _ _ e
  · rw [ex _ _ e]; simp
  · obtain ⟨o, es, ep, ho, r⟩ := hm
    exact ⟨o, es, ep, k _ o (fun z => (hf _ z).2.1 rfl) ho, r⟩
  · rcases Nat.lt_or_ge b s.heap.objs.size with hb | hb
    · rw [old b hb] at e
      refine (I.hok b u e).stay (fun c v hc q => k c v ?_ q) (fun c q => ex _ _ q) fun c xs q => ex _ _ q
      rcases hc with z | z
      · rw [z]; exact nit b u e
      · exact nit c _ z
    · exact new b u hb e
end
/-- the list at S, its pairs at ps -/
def pairH (H : Hp) (S : Addr) (ps : List Addr) (us vs : List V) : Hp := fun c =>
  if c = S then some (.lst (ps.map V.ref)) else match ps.idxOf? c with
    | some j => some (.tup [us.getD j .non, vs.getD j .non])
    | none => H c
theorem pairH_S {H : Hp} {S : Addr} {ps : List Addr} {us vs : List V} : pairH H S ps us vs S = some (.lst (ps.map V.ref)) := if_pos rfl
theorem pairH_out {H : Hp} {S : Addr} {ps : List Addr} {us vs : List V} {c : Addr} (h1 : c ≠ S) (h2 : c ∉ ps) : pairH H S ps us vs c = H c := by
  unfold pairH
  rw [if_neg h1, List.idxOf?_eq_none_iff.mpr h2]
theorem pairH_at {H : Hp} {S : Addr} {ps : List Addr} {us vs : List V} {j : Nat} {p : Addr} (hn : ps.Nodup) (h1 : p ≠ S) (e : ps[j]? = some p) : pairH H S ps us vs p = some (.tup [us.getD j .non, vs.getD j .non]) := by
  unfold pairH
  obtain ⟨hj, ej⟩ := List.getElem?_eq_some_iff.mp e
  have : ps.idxOf? p = some j := by
    rw [List.idxOf?_eq_some_iff]
    refine ⟨hj, by simp [ej], fun i hi => ?_⟩
    intro hq
    have hq' : ps[i] = ps[j] := by rw [ej]; simpa using hq
    have := (List.getElem_inj hn).mp hq'
    omega
  rw [if_neg h1, this]
def tLZip (K : PySem.W.Frag) (ta : TA) : TE := fun σ H Q => ta σ H fun vs H1 => ∃ a b us ws b1 b2, vs = [.ref a, .ref b] ∧ SqB K b1 H1 a us ∧ SqB K b2 H1 b ws ∧
  ∀ S ps, H1 S = none → (∀ p ∈ ps, H1 p = none ∧ p ≠ S) → ps.Nodup → ps.length = min us.length ws.length → Q (.ref S) (pairH H1 S ps us ws)
theorem pe_lzip {X : Cx} {e e2 : Expr} {ta : TA} {p p2 pos pos2 : Pos} (hc : X.calm = true) (hg : Gl X "zip") (hm : X.mg "zip" = none) (hg2 : Gl X "list") (hm2 : X.mg "list" = none) (ha : PA X [e, e2] ta)
    (hs : starEach [e, e2] X.env = (false, eval e X.env) :: starEach [e2] X.env := by rfl) (hpl : (backTo pos (starEach [e2] X.env)).any (·.1) = false := by rfl)
    (na : starEach [.Call (.Name "zip" p) [e, e2] [] pos] X.env = (false, eval (.Call (.Name "zip" p) [e, e2] [] pos) X.env) :: starEach [] X.env := by rfl) :
    PE X (.Call (.Name "list" p2) [.Call (.Name "zip" p) [e, e2] [] pos] [] pos2) (tLZip X.K ta) := by
  refine ⟨fun pins s σ H Q I h => ?_⟩
  refine Call_ (ld_blt I hg2 hm2 boot_list (PyProof.Rows.callWith_type1 (args_cons (Call_ (ld_blt I hg hm PyProof.Rows.boot_zip (PyProof.Rows.callWith_type1 (thn (ha.run pos pins s σ H _ I h) fun us s1 ⟨vs, H1, I1, r1, q1⟩ => ?_) hs hpl))) na) na))
  obtain ⟨a, b, xs, ys, b1, b2, ex, hqx, hqy, q⟩ := q1
  subst ex
  obtain ⟨u1, u2, rfl, ra, rb⟩ := vals2 r1
  cases ra
  cases rb
  obtain ⟨its, rv, p1, z1⟩ := inv_B I1 hqx
  obtain ⟨its2, rv2, p2, z2⟩ := inv_B I1 hqy
  have hal := coB_lt p1
  have hbl := coB_lt p2
  refine PySem.zip_begins2 (begins_B b1 a its.toArray) (begins_B b2 b its2.toArray) p1 p2 fun h' hz hTI hTO hi1 hi2 hsz hk => args_nil ?_
  have I2 : L2.Inv X pins σ H1 { s1 with heap := h' } := I1.kept (t' := s1.toks) hk
  have fresh : ∀ k, FpOk X pins H1 (s1.heap.objs.size + k) := fun k => I1.fpOk (Nat.le_add_right _ _) (I1.hok.fresh (Nat.le_add_right _ _))
  have low : Low (s1.heap.objs.size + 4) (s1.heap.objs.size + 2) (s1.heap.objs.size + 3) s1.heap.objs.size (s1.heap.objs.size + 1) a b h'.objs.size := by
    rw [hsz]
    have e1 : a < s1.heap.objs.size + 5 := Nat.lt_of_lt_of_le hal (Nat.le_add_right _ _)
    have e2 : b < s1.heap.objs.size + 5 := Nat.lt_of_lt_of_le hbl (Nat.le_add_right _ _)
    exact ⟨Nat.lt_succ_self _, Nat.add_lt_add_left (by decide) _, Nat.add_lt_add_left (by decide) _, Nat.lt_add_of_pos_right (by decide), Nat.add_lt_add_left (by decide) _, e1, e2⟩
  have z0 : Z0 b1 b2 (s1.heap.objs.size + 4) (s1.heap.objs.size + 2) (s1.heap.objs.size + 3) s1.heap.objs.size (s1.heap.objs.size + 1) a b its.toArray its2.toArray h' :=
    ⟨hz, hTI, ⟨_, _, hTO⟩, itB_of hi1, coB_at p1 fun o e => hk _ o e, itB_of hi2, coB_at p2 fun o e => hk _ o e⟩
  have l1 := rv.length
  have l2 := rv2.length
  have s1' : its.toArray.size = xs.length := by rw [List.size_toArray, l1]
  have s2' : its2.toArray.size = ys.length := by rw [List.size_toArray, l2]
  have hmin : min its.toArray.size its2.toArray.size ≤ sizeLine := by rw [s1', s2']; exact Nat.le_trans (Nat.min_le_left _ _) z1
  refine zl_call (s := { s1 with heap := h' }) (I1.ok.hd hc) (apart2_new hal hbl) low z0 hmin fun h'' tk acc c as hk2 hS hl hP hacc => ?_
  have hn : as.Nodup := hP.rise.imp fun h => Nat.ne_of_lt h
  have hab : ∀ p ∈ as, h'.objs.size < p := hP.above
  have hnS : ∀ p ∈ as, p ≠ h'.objs.size := fun p hp => Nat.ne_of_gt (hab p hp)
  refine ⟨.ref h'.objs.size, pairH H1 h'.objs.size as xs ys, ?_, rfl, q _ as (I2.hok.fresh (Nat.le_refl _)) (fun p hp => ⟨I2.hok.fresh (Nat.le_of_lt (hab p hp)), hnS p hp⟩) hn (by rw [hl, s1', s2'])⟩
  refine turnedMany (t' := tk) (ch := [s1.heap.objs.size + 4, s1.heap.objs.size + 3, s1.heap.objs.size, s1.heap.objs.size + 1]) I2 (fun x o hx e => hk2 x o (fun z => hx (by simp [z])) (fun z => hx (by simp [z])) (fun z => hx (by simp [z])) (fun z => hx (by simp [z])) e) (fun x hx => ?_) (fun x hx => ?_) (fun x u hx e => ?_)
  · simp only [List.mem_cons, List.not_mem_nil, or_false] at hx
    rcases hx with z | z | z | z
    · rw [z]; exact fresh 4
    · rw [z]; exact fresh 3
    · rw [z]; exact fresh 0
    · rw [z]; exact fresh 1
  · exact pairH_out (Nat.ne_of_lt hx) fun hm => Nat.lt_irrefl _ (Nat.lt_trans hx (hab x hm))
  · by_cases hxS : x = h'.objs.size
    · subst hxS
      rw [pairH_S] at e
      cases e
      refine ⟨by rw [List.length_map, hl]; exact hmin, acc.toList, c, ?_, by rw [Array.toArray_toList]; exact hS⟩
      rw [hacc]
      clear hacc hl hP hn hab hnS
      induction as with
      | nil => exact .nil
      | cons x r ih => exact .cons rfl ih
    · by_cases hxa : x ∈ as
      · obtain ⟨j, hj⟩ := List.mem_iff_getElem?.mp hxa
        rw [pairH_at hn hxS hj] at e
        cases e
        obtain ⟨j1, j2, ht⟩ := hP.pairs j x hj
        have k1 : j < its.length := by simpa using j1
        have k2 : j < its2.length := by simpa using j2
        have m1 : xs[j]? = some (xs.getD j .non) := by
          have : j < xs.length := by omega
          simp [List.getD_eq_getElem?_getD, List.getElem?_eq_getElem this]
        have m2 : ys[j]? = some (ys.getD j .non) := by
          have : j < ys.length := by omega
          simp [List.getD_eq_getElem?_getD, List.getElem?_eq_getElem this]
        obtain ⟨w1, e1, r1⟩ := rv.get m1
        obtain ⟨w2, e2, r2⟩ := rv2.get m2
        have q1 : its.toArray[j] = w1 := by
          have := List.getElem?_eq_getElem k1
          rw [e1] at this
          simpa using (Option.some.inj this).symm
        have q2 : its2.toArray[j] = w2 := by
          have := List.getElem?_eq_getElem k2
          rw [e2] at this
          simpa using (Option.some.inj this).symm
        rw [q1, q2] at ht
        exact ⟨by show 2 ≤ sizeLine; decide, [w1, w2], .cons r1 (.cons r2 .nil), ⟨_, ht, rfl, 0, rfl⟩⟩
      · rw [pairH_out hxS hxa, I2.hok.fresh hx] at e
        cases e
end Pd

namespace Pd
open PySem L2 Evl PySem.Spec PyProof.Rows
abbrev IsZ (h : Heap) (z : Addr) (f0 : Value) (fl : Bool) (TI TO : Addr) : Prop := h.get? z = some { cls := .type "zip", dict := none, data := .fields #[f0, .bool fl, .bool false, .ref TI, .ref TO], slots := #[] }
abbrev IsTn (h : Heap) (T : Addr) (us : List Value) : Prop := h.get? T = some { cls := .type "tuple", data := .seq us.toArray }
/-- what a zip draws from: the iterator, the list or tuple that it walks, its items -/
structure Src where
  it : Addr
  a : Addr
  b : Bool
  items : Array Value
/-- the first k have been drawn from at turn i -/
def Adv (xs : List Src) (i k : Nat) (h : Heap) : Prop := ∀ (j : Nat) (x : Src), xs[j]? = some x → ItB x.b h x.it x.a (if j < k then i + 1 else i) ∧ CoB x.b h x.a x.items
structure SepN (z TI TO : Addr) (xs : List Src) : Prop where
  TIz : TI ≠ z
  TOz : TO ≠ z
  TITO : TI ≠ TO
  nd : (xs.map Src.it).Nodup
  itz : ∀ x ∈ xs, x.it ≠ z
  itTI : ∀ x ∈ xs, x.it ≠ TI
  itTO : ∀ x ∈ xs, x.it ≠ TO
  az : ∀ x ∈ xs, x.a ≠ z
  aTO : ∀ x ∈ xs, x.a ≠ TO
  ait : ∀ x ∈ xs, ∀ y ∈ xs, x.a ≠ y.it
theorem Adv.keep {xs : List Src} {i k : Nat} {h h' : Heap} (t : Adv xs i k h) (kp : ∀ x ∈ xs, (∀ o, h.get? x.it = some o → h'.get? x.it = some o) ∧ ∀ o, h.get? x.a = some o → h'.get? x.a = some o) : Adv xs i k h' := fun j x hx =>
  let ⟨h1, h2⟩ := t j x hx
  let ⟨k1, k2⟩ := kp x (List.mem_of_getElem? hx)
  ⟨h1.at k1, coB_at h2 k2⟩
section
variable {prog : Program} {w : World} {A : Around} {E : Value → Shared → Prop} {s : Shared} {z TI TO : Addr} {xs : List Src} {f0 : Value} {fl : Bool} {i k : Nat}
theorem SepN.itne (S : SepN z TI TO xs) {j k : Nat} {x y : Src} (hx : xs[j]? = some x) (hy : xs[k]? = some y) (hn : j ≠ k) : x.it ≠ y.it := fun e => by
  have h1 : (xs.map Src.it)[j]? = some x.it := by rw [List.getElem?_map, hx]; rfl
  have h2 : (xs.map Src.it)[k]? = some y.it := by rw [List.getElem?_map, hy]; rfl
  obtain ⟨l1, e1⟩ := List.getElem?_eq_some_iff.mp h1
  obtain ⟨l2, e2⟩ := List.getElem?_eq_some_iff.mp h2
  exact hn ((List.getElem_inj S.nd).mp (e1.trans (e.trans e2.symm)))
theorem adv_draw {Q : Value → Shared → Prop} (hh : A.handled = none) (S : SepN z TI TO xs) (t : Adv xs i k s.heap) {x : Src} (hx : xs[k]? = some x) (hi : i < x.items.size)
    (hQ : ∀ h' tk, Adv xs i (k + 1) h' → Heap.SameBut x.it s.heap h' → Q x.items[i] { s with heap := h', toks := tk }) : wpAny (model prog w) A (Builtin.SmallTypes.nextOf (.ref x.it)) Q E s := by
  have hm := List.mem_of_getElem? hx
  obtain ⟨h1, h2⟩ := t k x hx
  rw [if_neg (Nat.lt_irrefl k)] at h1
  refine (drawsB (prog := prog) (w := w) hh x.b x.it x.a (S.ait x hm x hm) x.items).item i s Q E hi ⟨h1, h2⟩ fun u h' tk hu st sb => ?_
  have eu : u = x.items[i] := by rw [Array.getElem?_eq_getElem hi] at hu; exact (Option.some.inj hu).symm
  subst eu
  refine hQ h' tk (fun j y hy => ?_) sb
  by_cases hj : j = k
  · subst hj
    rw [hx] at hy; cases hy
    rw [if_pos (Nat.lt_succ_self j)]
    exact st
  · obtain ⟨g1, g2⟩ := t j y hy
    have e1 : (if j < k then i + 1 else i) = if j < k + 1 then i + 1 else i := by
      by_cases q : j < k
      · rw [if_pos q, if_pos (by omega)]
      · rw [if_neg q, if_neg (by omega)]
    rw [e1] at g1
    exact ⟨g1.at fun o e => sb.extBut _ _ (S.itne hy hx hj) e, coB_at g2 fun o e => sb.extBut _ _ (S.ait y (List.mem_of_getElem? hy) x hm) e⟩
theorem adv_end {Q : Value → Shared → Prop} (hh : A.handled = none) (S : SepN z TI TO xs) (t : Adv xs i k s.heap) {x : Src} (hx : xs[k]? = some x) (hi : i = x.items.size)
    (hE : ∀ h' e, Heap.ExtBut x.it s.heap h' → (∃ o, h'.get? e = some o ∧ o.cls = .type "StopIteration") → E (.ref e) { s with heap := h' }) : wpAny (model prog w) A (Builtin.SmallTypes.nextOf (.ref x.it)) Q E s := by
  have hm := List.mem_of_getElem? hx
  obtain ⟨h1, h2⟩ := t k x hx
  rw [if_neg (Nat.lt_irrefl k)] at h1
  subst hi
  exact (drawsB (prog := prog) (w := w) hh x.b x.it x.a (S.ait x hm x hm) x.items).done s Q E ⟨h1, h2⟩ hE
/-- is the tuple that it keeps free? either answer -/
theorem owned_any {Q : Bool → Shared → Prop} (hz : IsZ s.heap z f0 fl TI TO) (hf : f0 = .none ∨ ∃ T : Addr, f0 = rawInt T) (h1 : Q true s) (h2 : ∀ h', IsZ h' z f0 true TI TO → Heap.SameBut z s.heap h' → Q false { s with heap := h' }) :
    wpAny (model prog w) A (Builtin.SmallTypes.ownedTupleIsFree (.ref z)) Q E s := by
  unfold Builtin.SmallTypes.ownedTupleIsFree
  refine wpAny_bind (wpAny_field hz rfl (x := f0) rfl ?_)
  rcases hf with rfl | ⟨T, rfl⟩
  · exact wpAny_pure h1
  · show wpAny _ _ (loadIfAlive ((T : Int).toNat) >>= _) _ _ _
    rw [Int.toNat_natCast]
    have al : ∀ {Q' : Option Obj → Shared → Prop}, Q' (s.heap.get? T) s → wpAny (model prog w) A (loadIfAlive T) Q' E s := fun h => fun _ _ _ => h
    refine wpAny_bind (al ?_)
    cases hT : s.heap.get? T with
    | none => exact wpAny_pure h1
    | some oT =>
      simp only [Option.isNone_some, Bool.false_eq_true, if_false]
      refine wpAny_bind (wpAny_field hz rfl (x := .bool fl) rfl ?_)
      cases fl with
      | true =>
        rw [if_neg (show ¬ ((Value.bool true != Value.bool true) = true) from Bool.false_ne_true)]
        exact wpAny_pure (h2 s.heap hz (Heap.SameBut.refl _ _))
      | false =>
        rw [if_pos (show (Value.bool false != Value.bool true) = true from rfl)]
        exact wpAny_bind (wpAny_setField_rec hz (by simp) fun h₁ hz₁ hs₁ => wpAny_pure (h2 h₁ hz₁ hs₁))
/-- what has not changed since hp: all but the zip, its tuple, the iterators -/
def Kep (z TO : Addr) (xs : List Src) (hp h : Heap) : Prop := h.objs.size = hp.objs.size ∧ ∀ c o, c ≠ z → c ≠ TO → (∀ x ∈ xs, c ≠ x.it) → hp.get? c = some o → h.get? c = some o
theorem Kep.sb {hp h h' : Heap} {c : Addr} (t : Kep z TO xs hp h) (sb : Heap.SameBut c h h') (hc : c = z ∨ c = TO ∨ ∃ x ∈ xs, c = x.it) : Kep z TO xs hp h' := by
  refine ⟨sb.1.trans t.1, fun d o n1 n2 n3 e => sb.extBut _ _ (fun q => ?_) (t.2 d o n1 n2 n3 e)⟩
  subst q
  rcases hc with q | q | ⟨x, hx, q⟩
  · exact n1 q
  · exact n2 q
  · exact n3 x hx q
def gotN (xs : List Src) (i : Nat) : List Value := xs.map fun x => x.items.getD i .none
theorem zn_item {Q : Value → Shared → Prop} (hh : A.handled = none) (S : SepN z TI TO xs) (hz : IsZ s.heap z f0 fl TI TO) (hf : f0 = .none ∨ ∃ T : Addr, f0 = rawInt T) (hTI : IsTn s.heap TI (xs.map fun x => .ref x.it)) (hTO : ∃ us, us.length = xs.length ∧ IsTn s.heap TO us) (hne : xs ≠ []) (hln : xs.length ≤ 1000)
    (t : Adv xs i 0 s.heap) (hi : ∀ x ∈ xs, i < x.items.size)
    (hQ : ∀ h' tk f0' fl', IsZ h' z f0' fl' TI TO → (f0' = .none ∨ ∃ T : Addr, f0' = rawInt T) → IsTn h' TI (xs.map fun x => .ref x.it) → (∃ us, us.length = xs.length ∧ IsTn h' TO us) → Adv xs (i + 1) 0 h' → IsTn h' s.heap.objs.size (gotN xs i) → h'.objs.size = s.heap.objs.size + 1 →
      (∀ c o, c ≠ z → c ≠ TO → (∀ x ∈ xs, c ≠ x.it) → s.heap.get? c = some o → h'.get? c = some o) → Q (.ref s.heap.objs.size) { s with heap := h', toks := tk }) :
    wpAny (model prog w) A (Builtin.«zip.__next__» ⟨[.ref z], []⟩) (fun fin s' => ∃ v, fin = .done (.ret v) ∧ Q v s') E s := by
  obtain ⟨hp, g, d, tk0, os⟩ := s
  show wpAny _ _ (field (.ref z) 2 >>= _) _ _ _
  refine wpAny_bind (wpAny_field hz rfl (x := .bool false) rfl ?_)
  show wpAny _ _ (field (.ref z) 3 >>= _) _ _ _
  refine wpAny_bind (wpAny_field hz rfl (x := .ref TI) rfl ?_)
  refine wpAny_bind (wpAny_seqItems hTI rfl ?_)
  dsimp only
  have hemp : ¬ ((List.map (fun x => Value.ref x.it) xs).toArray.isEmpty = true) := by
    cases xs with
    | nil => exact absurd rfl hne
    | cons x r => simp
  rw [if_neg hemp]
  have adv' : ∀ h, Adv xs i xs.length h → Adv xs (i + 1) 0 h := fun h t j x hx => by
    have := t j x hx
    rw [if_pos (List.getElem?_eq_some_iff.mp hx).1] at this
    rw [if_neg (Nat.not_lt_zero j)]
    exact this
  refine wpAny_bind (owned_any hz hf ?_ fun h1 hz1 hs1 => ?_)
  · -- its own tuple again
    obtain ⟨us0, hl0, hTO⟩ := hTO
    rw [if_pos rfl]
    refine wpAny_bind (wpAny_rule ?_)
    refine wpAny_bind (wpAny_field hz rfl (x := .ref TO) rfl ?_)
    dsimp only
    refine wpAny_bind (wpAny_setField_rec hz (by simp) fun g0 hz0 hs0 => ?_)
    replace hz0 : IsZ g0 z .ellipsis fl TI TO := hz0
    replace hs0 : Heap.SameBut z hp g0 := hs0
    have k0 : Kep z TO xs hp g0 := ⟨hs0.1, fun c o n1 _ _ e => hs0.extBut _ _ n1 e⟩
    have t0 : Adv xs i 0 g0 := t.keep fun x hx => ⟨fun o e => hs0.extBut _ _ (S.itz x hx) e, fun o e => hs0.extBut _ _ (S.az x hx) e⟩
    refine wpAny_bind ?_
    refine wpAny_forIn_list _ (fun rest b s' => b = (none, ()) ∧ ∃ (kk : Nat) (h : Heap) (tk : Nat) (us : List Value), kk ≤ xs.length ∧ rest = ((xs.map fun x => Value.ref x.it).zipIdx).drop kk ∧ s' = ⟨h, g, d, tk, os⟩ ∧ Kep z TO xs hp h ∧ Adv xs i kk h ∧ IsZ h z .ellipsis fl TI TO ∧
      us.length = xs.length ∧ IsTn h TO us ∧ (∀ j, j < kk → us[j]? = (gotN xs i)[j]?)) _ ?turn ?fin _ _ ⟨rfl, 0, g0, tk0, us0, Nat.zero_le _, rfl, rfl, k0, t0, hz0, hl0, hs0.extBut _ _ S.TOz hTO, fun j hj => absurd hj (Nat.not_lt_zero j)⟩
    case turn =>
      rintro ⟨v, kv⟩ rest b s' ⟨rfl, kk, h, tk, us, hk, hr, rfl, kp, av, hzz, hl, hto, hg⟩
      have hlt : kk < xs.length := by
        rcases Nat.lt_or_ge kk xs.length with q | q
        · exact q
        · rw [List.drop_of_length_le (by simpa using q)] at hr; cases hr
      have hlt' : kk < ((xs.map fun x => Value.ref x.it).zipIdx).length := by simpa using hlt
      rw [List.drop_eq_getElem_cons hlt'] at hr
      injection hr with hr1 hr2
      have hx : xs[kk]? = some xs[kk] := by simp [hlt]
      have hm := List.mem_of_getElem? hx
      have ev : v = .ref xs[kk].it ∧ kv = kk := by
        have := hr1
        simp only [List.getElem_zipIdx, List.getElem_map] at this
        cases this
        exact ⟨rfl, by simp⟩
      obtain ⟨rfl, rfl⟩ := ev
      dsimp only
      refine wpAny_bind (wpAny_onRaise ?_)
      show wpAny _ _ (Builtin.SmallTypes.nextOf (.ref xs[kv].it) >>= _) _ _ _
      refine wpAny_bind (adv_draw (s := ⟨h, g, d, tk, os⟩) hh S av hx (hi _ hm) fun h' tk' av' sb => wpAny_pure ?_)
      replace sb : Heap.SameBut xs[kv].it h h' := sb
      have hto' := sb.extBut _ _ (Ne.symm (S.itTO _ hm)) hto
      refine wpAny_bind (wpAny_seqItems (s := ⟨h', g, d, tk', os⟩) hto' rfl ?_)
      dsimp only
      have hsz : us.toArray.size ≤ sizeLine := by rw [List.size_toArray, hl, sizeLine_eq]; omega
      refine wpAny_bind (wpAny_updateSeq (s := ⟨h', g, d, tk', os⟩) hto' rfl ?_ hsz (by simp only [Array.size_setIfInBounds]; omega))
      refine wpAny_bind (wpAny_letGo (wpAny_pure ?_))
      have sb2 : Heap.SameBut TO h' (h'.update TO (Obj.mapSeq fun x_1 => x_1.setIfInBounds kv (xs[kv].items[i]'(hi _ hm)))) := Heap.SameBut.update ..
      have hget := Heap.get?_update_self (Obj.mapSeq fun x_1 => x_1.setIfInBounds kv (xs[kv].items[i]'(hi _ hm))) hto' rfl
      refine ⟨rfl, kv + 1, _, tk', us.set kv (xs[kv].items[i]'(hi _ hm)), hlt, hr2, rfl, (kp.sb sb (.inr (.inr ⟨_, hm, rfl⟩))).sb sb2 (.inr (.inl rfl)), av'.keep fun x hx' => ⟨fun o e => sb2.extBut _ _ (S.itTO x hx') e, fun o e => sb2.extBut _ _ (S.aTO x hx') e⟩,
        sb2.extBut _ _ (Ne.symm S.TOz) (sb.extBut _ _ (Ne.symm (S.itz _ hm)) hzz), by rw [List.length_set]; exact hl, ?_, fun j hj => ?_⟩
      · show (h'.update TO _).get? TO = _
        rw [hget]
        simp [Obj.mapSeq]
      · by_cases q : j = kv
        · subst q
          rw [List.getElem?_set_self (by rw [hl]; exact hlt)]
          unfold gotN
          rw [List.getElem?_map, hx]
          have := hi _ hm
          simp [Array.getD, this]
        · rw [List.getElem?_set_ne (Ne.symm q)]
          exact hg j (by omega)
    case fin =>
      rintro b s' ⟨rfl, kk, h, tk, us, hk, hr, rfl, kp, av, hzz, hl, hto, hg⟩
      have hkk : kk = xs.length := by
        rcases Nat.lt_or_ge kk xs.length with q | q
        · have hlt' : kk < ((xs.map fun x => Value.ref x.it).zipIdx).length := by simpa using q
          rw [List.drop_eq_getElem_cons hlt'] at hr; cases hr
        · omega
      subst hkk
      have eus : us = gotN xs i := by
        refine List.ext_getElem? fun j => ?_
        rcases Nat.lt_or_ge j xs.length with q | q
        · exact hg j q
        · rw [List.getElem?_eq_none (by rw [hl]; exact q), List.getElem?_eq_none (by unfold gotN; simpa using q)]
      subst eus
      dsimp only
      refine wpAny_bind (wpAny_seqItems (s := ⟨h, g, d, tk, os⟩) hto rfl ?_)
      dsimp only
      refine wpAny_bind (wpAny_newTuple ?_ (by unfold gotN; rw [List.length_map, sizeLine_eq]; omega))
      have hzlt : z < h.objs.size := Heap.lt_size hzz
      show wpAny _ _ (Builtin.SmallTypes.ownedTupleHandOut (.ref z) (.ref h.objs.size) >>= _) _ _ ⟨h.push { cls := .type "tuple", data := .seq (gotN xs i).toArray }, g, d, tk, os⟩
      refine wpAny_bind ?_
      unfold Builtin.SmallTypes.ownedTupleHandOut
      have hz₆ : IsZ (h.push { cls := .type "tuple", data := .seq (gotN xs i).toArray }) z .ellipsis fl TI TO := Heap.get?_push_of_some _ hzz
      refine wpAny_bind (wpAny_setField_rec hz₆ (by simp) fun h₇ hz₇ hs₇ => ?_)
      replace hz₇ : IsZ h₇ z (rawInt h.objs.size) fl TI TO := hz₇
      refine wpAny_setField_rec hz₇ (by simp) fun h₈ hz₈ hs₈ => ?_
      replace hz₈ : IsZ h₈ z (rawInt h.objs.size) false TI TO := hz₈
      replace hs₇ : Heap.SameBut z (h.push { cls := .type "tuple", data := .seq (gotN xs i).toArray }) h₇ := hs₇
      replace hs₈ : Heap.SameBut z h₇ h₈ := hs₈
      have up : ∀ c o, c ≠ z → h.get? c = some o → h₈.get? c = some o := fun c o c1 e => hs₈.extBut _ _ c1 (hs₇.extBut _ _ c1 (Heap.get?_push_of_some _ e))
      have hT₈ : IsTn h₈ h.objs.size (gotN xs i) := hs₈.extBut _ _ (Nat.ne_of_gt hzlt) (hs₇.extBut _ _ (Nat.ne_of_gt hzlt) (Heap.get?_push_size _ rfl))
      have hz8 : h₈.objs.size = h.objs.size + 1 := by rw [hs₈.1, hs₇.1, Heap.size_push]
      have esz : h.objs.size = hp.objs.size := kp.1
      rw [esz] at hz₈ hT₈ hz8
      refine wpAny_pure ⟨_, rfl, ?_⟩
      show Q (.ref h.objs.size) ⟨h₈, g, d, tk, os⟩
      rw [esz]
      refine hQ h₈ tk _ _ hz₈ (.inr ⟨_, rfl⟩) ?_ ⟨_, hl, up _ _ S.TOz hto⟩ (adv' _ (av.keep fun x hx => ⟨fun o e => up _ o (S.itz x hx) e, fun o e => up _ o (S.az x hx) e⟩)) hT₈ hz8 fun c o n1 n2 n3 e => up c o n1 (kp.2 c o n1 n2 n3 e)
      exact up _ _ S.TIz (kp.2 _ _ S.TIz S.TITO (fun x hx => Ne.symm (S.itTI x hx)) hTI)
  · -- a new one
    rw [if_neg Bool.false_ne_true]
    replace hs1 : Heap.SameBut z hp h1 := hs1
    have k0 : Kep z TO xs hp h1 := ⟨hs1.1, fun c o n1 _ _ e => hs1.extBut _ _ n1 e⟩
    have t0 : Adv xs i 0 h1 := t.keep fun x hx => ⟨fun o e => hs1.extBut _ _ (S.itz x hx) e, fun o e => hs1.extBut _ _ (S.az x hx) e⟩
    obtain ⟨us0, hl0, hTO⟩ := hTO
    dsimp only
    refine wpAny_bind ?_
    rw [← Array.forIn_toList]
    refine wpAny_forIn_list _ (fun rest b s' => ∃ (kk : Nat) (h : Heap) (tk : Nat) (us : List Value), b = (none, us.toArray) ∧ kk ≤ xs.length ∧ rest = (xs.map fun x => Value.ref x.it).drop kk ∧ s' = ⟨h, g, d, tk, os⟩ ∧ Kep z TO xs hp h ∧ Adv xs i kk h ∧ IsZ h z f0 true TI TO ∧
      us = (gotN xs i).take kk ∧ IsTn h TO us0) _ ?turn2 ?fin2 _ _ ⟨0, h1, tk0, [], rfl, Nat.zero_le _, by rw [List.toList_toArray]; rfl, rfl, k0, t0, hz1, rfl, hs1.extBut _ _ S.TOz hTO⟩
    case turn2 =>
      rintro v rest b s' ⟨kk, h, tk, us, rfl, hk, hr, rfl, kp, av, hzz, hl, hto⟩
      have hlt : kk < xs.length := by
        rcases Nat.lt_or_ge kk xs.length with q | q
        · exact q
        · rw [List.drop_of_length_le (by simpa using q)] at hr; cases hr
      have hlt' : kk < (xs.map fun x => Value.ref x.it).length := by simpa using hlt
      rw [List.drop_eq_getElem_cons hlt'] at hr
      injection hr with hr1 hr2
      have hx : xs[kk]? = some xs[kk] := by simp [hlt]
      have hm := List.mem_of_getElem? hx
      have ev : v = .ref xs[kk].it := by rw [hr1]; simp
      subst ev
      dsimp only
      refine wpAny_bind (wpAny_holding ?_)
      show wpAny _ _ (Builtin.SmallTypes.nextOf (.ref xs[kk].it) >>= _) _ _ _
      refine wpAny_bind (adv_draw (s := ⟨h, g, d, tk, os⟩) hh S av hx (hi _ hm) fun h' tk' av' sb => wpAny_pure ?_)
      replace sb : Heap.SameBut xs[kk].it h h' := sb
      refine wpAny_pure ?_
      refine ⟨kk + 1, h', tk', us ++ [xs[kk].items[i]'(hi _ hm)], by simp, hlt, hr2, rfl, kp.sb sb (.inr (.inr ⟨_, hm, rfl⟩)), av', sb.extBut _ _ (Ne.symm (S.itz _ hm)) hzz, ?_, sb.extBut _ _ (Ne.symm (S.itTO _ hm)) hto⟩
      rw [List.take_add_one, ← hl]
      congr 1
      unfold gotN
      rw [List.getElem?_map, hx]
      have := hi _ hm
      simp [Array.getD, this]
    case fin2 =>
      rintro b s' ⟨kk, h, tk, us, rfl, hk, hr, rfl, kp, av, hzz, hl, hto⟩
      have hkk : kk = xs.length := by
        rcases Nat.lt_or_ge kk xs.length with q | q
        · have hlt' : kk < (xs.map fun x => Value.ref x.it).length := by simpa using q
          rw [List.drop_eq_getElem_cons hlt'] at hr; cases hr
        · omega
      subst hkk
      have eus : us = gotN xs i := by rw [hl]; exact List.take_of_length_le (by unfold gotN; simp)
      subst eus
      dsimp only
      refine wpAny_bind (wpAny_newTuple ?_ (by unfold gotN; rw [List.length_map, sizeLine_eq]; omega))
      refine wpAny_pure ⟨_, rfl, ?_⟩
      have esz : h.objs.size = hp.objs.size := kp.1
      have up : ∀ c o, h.get? c = some o → (h.push { cls := .type "tuple", data := .seq (gotN xs i).toArray }).get? c = some o := fun c o e => Heap.get?_push_of_some _ e
      have hT₈ : IsTn (h.push { cls := .type "tuple", data := .seq (gotN xs i).toArray }) h.objs.size (gotN xs i) := Heap.get?_push_size _ rfl
      have hz8 : (h.push { cls := .type "tuple", data := .seq (gotN xs i).toArray }).objs.size = h.objs.size + 1 := by rw [Heap.size_push]
      rw [esz] at hT₈ hz8
      show Q (.ref h.objs.size) ⟨h.push { cls := .type "tuple", data := .seq (gotN xs i).toArray }, g, d, tk, os⟩
      rw [esz]
      refine hQ _ tk _ _ (up _ _ hzz) hf ?_ ⟨_, hl0, up _ _ hto⟩ (adv' _ (av.keep fun x hx => ⟨fun o e => up _ o e, fun o e => up _ o e⟩)) hT₈ hz8 fun c o n1 n2 n3 e => up c o (kp.2 c o n1 n2 n3 e)
      exact up _ _ (kp.2 _ _ S.TIz S.TITO (fun x hx => Ne.symm (S.itTI x hx)) hTI)
theorem zn_end {Q : PySem.Fin → Shared → Prop} (hh : A.handled = none) (S : SepN z TI TO xs) (hz : IsZ s.heap z f0 fl TI TO) (hf : f0 = .none ∨ ∃ T : Addr, f0 = rawInt T) (hTI : IsTn s.heap TI (xs.map fun x => .ref x.it)) (hTO : ∃ us, us.length = xs.length ∧ IsTn s.heap TO us) (hln : xs.length ≤ 1000)
    (t : Adv xs i 0 s.heap) (hle : ∀ x ∈ xs, i ≤ x.items.size) (hex : ∃ x ∈ xs, i = x.items.size)
    (hE : ∀ h' tk e, (∀ c o, c ≠ z → c ≠ TO → (∀ x ∈ xs, c ≠ x.it) → s.heap.get? c = some o → h'.get? c = some o) → (∃ o, h'.get? e = some o ∧ o.cls = .type "StopIteration") → E (.ref e) { s with heap := h', toks := tk }) :
    wpAny (model prog w) A (Builtin.«zip.__next__» ⟨[.ref z], []⟩) Q E s := by
  obtain ⟨hp, g, d, tk0, os⟩ := s
  have hne : xs ≠ [] := fun e => by obtain ⟨x, hx, _⟩ := hex; rw [e] at hx; cases hx
  show wpAny _ _ (field (.ref z) 2 >>= _) _ _ _
  refine wpAny_bind (wpAny_field hz rfl (x := .bool false) rfl ?_)
  show wpAny _ _ (field (.ref z) 3 >>= _) _ _ _
  refine wpAny_bind (wpAny_field hz rfl (x := .ref TI) rfl ?_)
  refine wpAny_bind (wpAny_seqItems hTI rfl ?_)
  dsimp only
  have hemp : ¬ ((List.map (fun x => Value.ref x.it) xs).toArray.isEmpty = true) := by
    cases xs with
    | nil => exact absurd rfl hne
    | cons x r => simp
  rw [if_neg hemp]
  have no : ∀ kk, kk = xs.length → (∀ j, j < kk → ∀ x, xs[j]? = some x → i < x.items.size) → False := fun kk e hl => by
    obtain ⟨x, hx, q⟩ := hex
    obtain ⟨j, hj⟩ := List.mem_iff_getElem?.mp hx
    have := hl j (by rw [e]; exact (List.getElem?_eq_some_iff.mp hj).1) x hj
    omega
  refine wpAny_bind (owned_any hz hf ?_ fun h1 hz1 hs1 => ?_)
  · obtain ⟨us0, hl0, hTO⟩ := hTO
    rw [if_pos rfl]
    refine wpAny_bind (wpAny_rule ?_)
    refine wpAny_bind (wpAny_field hz rfl (x := .ref TO) rfl ?_)
    dsimp only
    refine wpAny_bind (wpAny_setField_rec hz (by simp) fun g0 hz0 hs0 => ?_)
    replace hz0 : IsZ g0 z .ellipsis fl TI TO := hz0
    replace hs0 : Heap.SameBut z hp g0 := hs0
    have k0 : Kep z TO xs hp g0 := ⟨hs0.1, fun c o n1 _ _ e => hs0.extBut _ _ n1 e⟩
    have t0 : Adv xs i 0 g0 := t.keep fun x hx => ⟨fun o e => hs0.extBut _ _ (S.itz x hx) e, fun o e => hs0.extBut _ _ (S.az x hx) e⟩
    refine wpAny_bind ?_
    refine wpAny_forIn_list _ (fun rest b s' => b = (none, ()) ∧ ∃ (kk : Nat) (h : Heap) (tk : Nat) (us : List Value), kk ≤ xs.length ∧ rest = ((xs.map fun x => Value.ref x.it).zipIdx).drop kk ∧ s' = ⟨h, g, d, tk, os⟩ ∧ Kep z TO xs hp h ∧ Adv xs i kk h ∧ IsZ h z .ellipsis fl TI TO ∧
      us.length = xs.length ∧ IsTn h TO us ∧ (∀ j, j < kk → ∀ x, xs[j]? = some x → i < x.items.size)) _ ?turn ?fin _ _ ⟨rfl, 0, g0, tk0, us0, Nat.zero_le _, rfl, rfl, k0, t0, hz0, hl0, hs0.extBut _ _ S.TOz hTO, fun j hj => absurd hj (Nat.not_lt_zero j)⟩
    case turn =>
      rintro ⟨v, kv⟩ rest b s' ⟨rfl, kk, h, tk, us, hk, hr, rfl, kp, av, hzz, hl, hto, hg⟩
      have hlt : kk < xs.length := by
        rcases Nat.lt_or_ge kk xs.length with q | q
        · exact q
        · rw [List.drop_of_length_le (by simpa using q)] at hr; cases hr
      have hlt' : kk < ((xs.map fun x => Value.ref x.it).zipIdx).length := by simpa using hlt
      rw [List.drop_eq_getElem_cons hlt'] at hr
      injection hr with hr1 hr2
      have hx : xs[kk]? = some xs[kk] := by simp [hlt]
      have hm := List.mem_of_getElem? hx
      have ev : v = .ref xs[kk].it ∧ kv = kk := by
        have := hr1
        simp only [List.getElem_zipIdx, List.getElem_map] at this
        cases this
        exact ⟨rfl, by simp⟩
      obtain ⟨rfl, rfl⟩ := ev
      dsimp only
      refine wpAny_bind (wpAny_onRaise ?_)
      show wpAny _ _ (Builtin.SmallTypes.nextOf (.ref xs[kv].it) >>= _) _ _ _
      by_cases hi : i < xs[kv].items.size
      · refine wpAny_bind (adv_draw (s := ⟨h, g, d, tk, os⟩) hh S av hx hi fun h' tk' av' sb => wpAny_pure ?_)
        replace sb : Heap.SameBut xs[kv].it h h' := sb
        have hto' := sb.extBut _ _ (Ne.symm (S.itTO _ hm)) hto
        refine wpAny_bind (wpAny_seqItems (s := ⟨h', g, d, tk', os⟩) hto' rfl ?_)
        dsimp only
        have hsz : us.toArray.size ≤ sizeLine := by rw [List.size_toArray, hl, sizeLine_eq]; omega
        refine wpAny_bind (wpAny_updateSeq (s := ⟨h', g, d, tk', os⟩) hto' rfl ?_ hsz (by simp only [Array.size_setIfInBounds]; omega))
        refine wpAny_bind (wpAny_letGo (wpAny_pure ?_))
        have sb2 : Heap.SameBut TO h' (h'.update TO (Obj.mapSeq fun x_1 => x_1.setIfInBounds kv (xs[kv].items[i]'hi))) := Heap.SameBut.update ..
        have hget := Heap.get?_update_self (Obj.mapSeq fun x_1 => x_1.setIfInBounds kv (xs[kv].items[i]'hi)) hto' rfl
        refine ⟨rfl, kv + 1, _, tk', us.set kv (xs[kv].items[i]'hi), hlt, hr2, rfl, (kp.sb sb (.inr (.inr ⟨_, hm, rfl⟩))).sb sb2 (.inr (.inl rfl)), av'.keep fun x hx' => ⟨fun o e => sb2.extBut _ _ (S.itTO x hx') e, fun o e => sb2.extBut _ _ (S.aTO x hx') e⟩,
          sb2.extBut _ _ (Ne.symm S.TOz) (sb.extBut _ _ (Ne.symm (S.itz _ hm)) hzz), by rw [List.length_set]; exact hl, ?_, fun j hj x hxj => ?_⟩
        · show (h'.update TO _).get? TO = _
          rw [hget]
          simp [Obj.mapSeq]
        · by_cases q : j = kv
          · subst q; rw [hx] at hxj; cases hxj; exact hi
          · exact hg j (by omega) x hxj
      · have hie : i = xs[kv].items.size := by have := hle _ hm; omega
        refine wpAny_bind (adv_end (s := ⟨h, g, d, tk, os⟩) hh S av hx hie fun q e hq he => ?_)
        replace hq : Heap.ExtBut xs[kv].it h q := hq
        obtain ⟨oe, hoe, hce⟩ := he
        replace hoe : q.get? e = some oe := hoe
        have hzq : IsZ q z .ellipsis fl TI TO := hq _ _ (Ne.symm (S.itz _ hm)) hzz
        have hez : e ≠ z := fun x => by subst x; rw [hzq] at hoe; cases hoe; simp at hce
        refine wpAny_setField_rec (s := ⟨q, g, d, tk, os⟩) hzq (by simp) fun q' _ hq' => ?_
        replace hq' : Heap.SameBut z q q' := hq'
        exact hE q' tk e (fun c o n1 n2 n3 x => hq'.extBut _ _ n1 (hq _ _ (n3 _ hm) (kp.2 c o n1 n2 n3 x))) ⟨oe, hq'.extBut _ _ hez hoe, hce⟩
    case fin =>
      rintro b s' ⟨rfl, kk, h, tk, us, hk, hr, rfl, kp, av, hzz, hl, hto, hg⟩
      refine (no kk ?_ hg).elim
      rcases Nat.lt_or_ge kk xs.length with q | q
      · have hlt' : kk < ((xs.map fun x => Value.ref x.it).zipIdx).length := by simpa using q
        rw [List.drop_eq_getElem_cons hlt'] at hr; cases hr
      · omega
  · rw [if_neg Bool.false_ne_true]
    replace hs1 : Heap.SameBut z hp h1 := hs1
    have k0 : Kep z TO xs hp h1 := ⟨hs1.1, fun c o n1 _ _ e => hs1.extBut _ _ n1 e⟩
    have t0 : Adv xs i 0 h1 := t.keep fun x hx => ⟨fun o e => hs1.extBut _ _ (S.itz x hx) e, fun o e => hs1.extBut _ _ (S.az x hx) e⟩
    dsimp only
    refine wpAny_bind ?_
    rw [← Array.forIn_toList]
    refine wpAny_forIn_list _ (fun rest b s' => ∃ (kk : Nat) (h : Heap) (tk : Nat) (us : List Value), b = (none, us.toArray) ∧ kk ≤ xs.length ∧ rest = (xs.map fun x => Value.ref x.it).drop kk ∧ s' = ⟨h, g, d, tk, os⟩ ∧ Kep z TO xs hp h ∧ Adv xs i kk h ∧ (∀ j, j < kk → ∀ x, xs[j]? = some x → i < x.items.size)) _ ?turn2 ?fin2 _ _
      ⟨0, h1, tk0, [], rfl, Nat.zero_le _, by rw [List.toList_toArray]; rfl, rfl, k0, t0, fun j hj => absurd hj (Nat.not_lt_zero j)⟩
    case turn2 =>
      rintro v rest b s' ⟨kk, h, tk, us, rfl, hk, hr, rfl, kp, av, hg⟩
      have hlt : kk < xs.length := by
        rcases Nat.lt_or_ge kk xs.length with q | q
        · exact q
        · rw [List.drop_of_length_le (by simpa using q)] at hr; cases hr
      have hlt' : kk < (xs.map fun x => Value.ref x.it).length := by simpa using hlt
      rw [List.drop_eq_getElem_cons hlt'] at hr
      injection hr with hr1 hr2
      have hx : xs[kk]? = some xs[kk] := by simp [hlt]
      have hm := List.mem_of_getElem? hx
      have ev : v = .ref xs[kk].it := by rw [hr1]; simp
      subst ev
      dsimp only
      refine wpAny_bind (wpAny_holding ?_)
      show wpAny _ _ (Builtin.SmallTypes.nextOf (.ref xs[kk].it) >>= _) _ _ _
      by_cases hi : i < xs[kk].items.size
      · refine wpAny_bind (adv_draw (s := ⟨h, g, d, tk, os⟩) hh S av hx hi fun h' tk' av' sb => wpAny_pure ?_)
        replace sb : Heap.SameBut xs[kk].it h h' := sb
        refine wpAny_pure ?_
        refine ⟨kk + 1, h', tk', us ++ [xs[kk].items[i]'hi], by simp, hlt, hr2, rfl, kp.sb sb (.inr (.inr ⟨_, hm, rfl⟩)), av', fun j hj x hxj => ?_⟩
        by_cases q : j = kk
        · subst q; rw [hx] at hxj; cases hxj; exact hi
        · exact hg j (by omega) x hxj
      · have hie : i = xs[kk].items.size := by have := hle _ hm; omega
        refine wpAny_bind (adv_end (s := ⟨h, g, d, tk, os⟩) hh S av hx hie fun q e hq he => ?_)
        replace hq : Heap.ExtBut xs[kk].it h q := hq
        exact hE q tk e (fun c o n1 n2 n3 x => hq _ _ (n3 _ hm) (kp.2 c o n1 n2 n3 x)) he
    case fin2 =>
      rintro b s' ⟨kk, h, tk, us, rfl, hk, hr, rfl, kp, av, hg⟩
      refine (no kk ?_ hg).elim
      rcases Nat.lt_or_ge kk xs.length with q | q
      · have hlt' : kk < (xs.map fun x => Value.ref x.it).length := by simpa using q
        rw [List.drop_eq_getElem_cons hlt'] at hr; cases hr
      · omega
theorem next_zn {Q : Option Value → Shared → Prop} (hh : A.handled = none) (S : SepN z TI TO xs) (hz : IsZ s.heap z f0 fl TI TO) (hf : f0 = .none ∨ ∃ T : Addr, f0 = rawInt T) (hTI : IsTn s.heap TI (xs.map fun x => .ref x.it)) (hTO : ∃ us, us.length = xs.length ∧ IsTn s.heap TO us) (hne : xs ≠ []) (hln : xs.length ≤ 1000)
    (t : Adv xs i 0 s.heap) (hi : ∀ x ∈ xs, i < x.items.size)
    (hQ : ∀ h' tk f0' fl', IsZ h' z f0' fl' TI TO → (f0' = .none ∨ ∃ T : Addr, f0' = rawInt T) → IsTn h' TI (xs.map fun x => .ref x.it) → (∃ us, us.length = xs.length ∧ IsTn h' TO us) → Adv xs (i + 1) 0 h' → IsTn h' s.heap.objs.size (gotN xs i) → h'.objs.size = s.heap.objs.size + 1 →
      (∀ c o, c ≠ z → c ≠ TO → (∀ x ∈ xs, c ≠ x.it) → s.heap.get? c = some o → h'.get? c = some o) → Q (some (.ref s.heap.objs.size)) { s with heap := h', toks := tk }) : wpAny (model prog w) A (pyNext (.ref z)) Q E s := by
  have hTy : s.TypeIs (.ref z) "zip" := ⟨_, hz, rfl⟩
  unfold pyNext
  exact wpAny_bind (wpAny_attempt (wpAny_callSpecial?_slot (name := Str.ofString "__next__") hTy F.slot_zip_next
    (wpAny_call_entry F.slot_zip_next hTy F.entry_zip_next
      (zn_item (A := A.in1) hh S hz hf hTI hTO hne hln t hi fun h' tk f0' fl' a1 a2 a3 a4 a5 a6 a7 a8 => wpAny_pure (hQ h' tk f0' fl' a1 a2 a3 a4 a5 a6 a7 a8)) (F.args_zip_next_1 _))))
theorem done_zn {Q : Option Value → Shared → Prop} (hh : A.handled = none) (S : SepN z TI TO xs) (hz : IsZ s.heap z f0 fl TI TO) (hf : f0 = .none ∨ ∃ T : Addr, f0 = rawInt T) (hTI : IsTn s.heap TI (xs.map fun x => .ref x.it)) (hTO : ∃ us, us.length = xs.length ∧ IsTn s.heap TO us) (hln : xs.length ≤ 1000)
    (t : Adv xs i 0 s.heap) (hle : ∀ x ∈ xs, i ≤ x.items.size) (hex : ∃ x ∈ xs, i = x.items.size)
    (hQ : ∀ h' tk, (∀ c o, c ≠ z → c ≠ TO → (∀ x ∈ xs, c ≠ x.it) → s.heap.get? c = some o → h'.get? c = some o) → Q none { s with heap := h', toks := tk }) : wpAny (model prog w) A (pyNext (.ref z)) Q E s := by
  have hTy : s.TypeIs (.ref z) "zip" := ⟨_, hz, rfl⟩
  unfold pyNext
  refine wpAny_bind (wpAny_attempt (wpAny_callSpecial?_slot (name := Str.ofString "__next__") hTy F.slot_zip_next
    (wpAny_call_entry F.slot_zip_next hTy F.entry_zip_next (zn_end (A := A.in1) hh S hz hf hTI hTO hln t hle hex fun h' tk e hk he => ?_) (F.args_zip_next_1 _))))
  obtain ⟨o, ho, hc⟩ := he
  refine wpAny_bind (wpAny_isInstance (T := "StopIteration") (b := true) ⟨o, ho, hc⟩ isSubtype_stop ?_)
  exact wpAny_pure (hQ _ _ hk)
theorem iter_zn {Q : Value → Shared → Prop} (hz : IsZ s.heap z f0 fl TI TO) (h : Q (.ref z) s) : wpAny (model prog w) A (pyIter (.ref z)) Q E s := by
  have hT : s.TypeIs (.ref z) "zip" := ⟨_, hz, rfl⟩
  refine wpAny_pyIter_slot hT F.slot_zip_iter (wpAny_call_entry F.slot_zip_iter hT F.entry_zip_iter ?_ (F.args_zip_iter_1 _))
  show wpAny _ _ (ret (.ref z)) _ _ s
  exact wpAny_pure ⟨_, rfl, "zip", _, hT, F.slot_zip_next.lookup, h⟩
end
end Pd

namespace Pd
open PySem L2 Evl

section
variable {K : PySem.W.Frag}
theorem RpA.of_get {G : Hp} : ∀ {vs : List V} {ds : List PyData}, vs.length = ds.length → (∀ (i : Nat) (v : V) (d : PyData), vs[i]? = some v → ds[i]? = some d → Rp K G v d) → RpA K G vs ds
  | [], [], _, _ => .nil
  | [], _ :: _, h, _ => by simp at h
  | _ :: _, [], h, _ => by simp at h
  | v :: vs, d :: ds, h, f => .cons (f 0 v d rfl rfl) (RpA.of_get (by simpa using h) fun i v d e1 e2 => f (i + 1) v d (by simpa using e1) (by simpa using e2))
/-- a list or a tuple that is read -/
theorem Rq.seqB {G H : Hp} {v : V} {d : PyData} {ds : List PyData} (e : Ex G H) (h : Rq K G H v d) (g : gSeq d = some ds) : ∃ a us b, v = .ref a ∧ SqB K b H a us ∧ RpA K G us ds := by
  unfold gSeq at g
  split at g
  · cases g
    obtain ⟨a, us, h1, h2, h3⟩ := h.seqL e
    exact ⟨a, us, false, h1, h2, h3⟩
  · cases g
    obtain ⟨a, us, h1, h2, h3⟩ := h.seqT e
    exact ⟨a, us, true, h1, h2, h3⟩
  · cases g
theorem SqB.ex {b : Bool} {H H' : Hp} {a : Addr} {us : List V} (e : Ex H H') (h : SqB K b H a us) : SqB K b H' a us := by
  cases b with
  | false => exact ex_l e h
  | true => exact ex_t e h

/-! ### list(zip(x, y)) -/
def zipD (xs ys : List PyData) : List PyData := (xs.zip ys).map fun p => .tuple [p.1, p.2]
def gZip : List PyData → Option (List PyData)
  | [x, y] => match gSeq x, gSeq y with
    | some xs, some ys => some (zipD xs ys)
    | _, _ => none
  | _ => none
def mLZip (fr : M (List PyData)) : M PyData := mbind fr fun xs => mlift ((gZip xs).map .list)
def pairG (G : Hp) (ps : List Addr) (us vs : List V) : Hp := fun c => match ps.idxOf? c with
  | some j => some (.tup [us.getD j .non, vs.getD j .non])
  | none => G c
theorem pairG_out {H : Hp} {ps : List Addr} {us vs : List V} {c : Addr} (h2 : c ∉ ps) : pairG H ps us vs c = H c := by
  unfold pairG
  rw [List.idxOf?_eq_none_iff.mpr h2]
theorem pairG_at {H : Hp} {ps : List Addr} {us vs : List V} {j : Nat} {p : Addr} (hn : ps.Nodup) (e : ps[j]? = some p) : pairG H ps us vs p = some (.tup [us.getD j .non, vs.getD j .non]) := by
  unfold pairG
  obtain ⟨hj, ej⟩ := List.getElem?_eq_some_iff.mp e
  have : ps.idxOf? p = some j := by
    rw [List.idxOf?_eq_some_iff]
    refine ⟨hj, by simp [ej], fun i hi => ?_⟩
    intro hq
    have hq' : ps[i] = ps[j] := by rw [ej]; simpa using hq
    have := (List.getElem_inj hn).mp hq'
    omega
  rw [this]
theorem se_lzip {tr : TA} {fr : M (List PyData)} (hr : SeA K tr fr) : SeL K (tLZip K tr) (mLZip fr) := fun B G H σ env d env' so e Q k => by
  obtain ⟨xs, e1, q1, e⟩ := mbind_some e
  obtain ⟨q3, q4⟩ := mlift_some e
  dsimp only at q3 q4
  subst q4
  refine hr B G H σ env xs env' so q1 _ fun vs G1 H1 s1 r1 => ?_
  unfold gZip at q3
  split at q3
  · rename_i x y
    cases r1 with | cons rx r1 =>
    cases r1 with | cons ry r1 =>
    cases r1
    split at q3
    · rename_i ds es gx gy
      cases q3
      obtain ⟨a, us, b1, rfl, hx, ra⟩ := (Rq.st rx).seqB s1.so.gh gx
      obtain ⟨b, ws, b2, rfl, hy, rb⟩ := (Rq.st ry).seqB s1.so.gh gy
      refine ⟨a, b, us, ws, b1, b2, rfl, hx, hy, fun S ps hS hps hn hl => ?_⟩
      have pg : ∀ p ∈ ps, G1 p = none := fun p hp => fresh_back s1.so.gh (hps p hp).1
      have gx' : Ex G1 (pairG G1 ps us ws) := fun c o e => by
        have : c ∉ ps := fun z => by rw [pg c z] at e; cases e
        rw [pairG_out this]; exact e
      have hx' : Ex H1 (pairH H1 S ps us ws) := fun c o e => by
        have n1 : c ∉ ps := fun z => by rw [(hps c z).1] at e; cases e
        have n2 : c ≠ S := fun z => by rw [z, hS] at e; cases e
        rw [pairH_out n2 n1]; exact e
      have gh' : Ex (pairG G1 ps us ws) (pairH H1 S ps us ws) := fun c o e => by
        by_cases hc : c ∈ ps
        · obtain ⟨j, hj⟩ := List.mem_iff_getElem?.mp hc
          rw [pairG_at hn hj] at e
          rw [pairH_at hn (hps c hc).2 hj]; exact e
        · rw [pairG_out hc] at e
          exact hx' _ _ (s1.so.gh _ _ e)
      have gn : ∀ c, H1 c ≠ none → pairG G1 ps us ws c = G1 c := fun c hc => pairG_out fun z => hc (hps c z).1
      have s2 := s1.so.grow gx' hx' gh' gn
      refine k S (ps.map V.ref) (zipD ds es) _ _ (s1.trans s2) rfl (s1.nw S hS) ?_ pairH_S ?_
      · rw [pairG_out fun z => (hps S z).2 rfl]; exact fresh_back s1.so.gh hS
      · have lu := ra.len
        have lw := rb.len
        refine RpA.of_get (by unfold zipD; simp [hl, lu, lw]) fun i v dd e1 e2 => ?_
        rw [List.getElem?_map] at e1
        cases hp : ps[i]? with
        | none => rw [hp] at e1; cases e1
        | some p =>
          rw [hp] at e1
          cases e1
          unfold zipD at e2
          rw [List.getElem?_map] at e2
          cases hz : (ds.zip es)[i]? with
          | none => rw [hz] at e2; cases e2
          | some pr =>
            rw [hz] at e2
            cases e2
            obtain ⟨m1, m2⟩ := List.getElem?_zip_eq_some.mp hz
            obtain ⟨w1, f1, g1⟩ := ra.get m1
            obtain ⟨w2, f2, g2⟩ := rb.get m2
            have k1 : us.getD i .non = w1 := by rw [List.getD_eq_getElem?_getD, f1]; rfl
            have k2 : ws.getD i .non = w2 := by rw [List.getD_eq_getElem?_getD, f2]; rfl
            refine .tup (SqT.of (xs := [w1, w2]) ?_) (.cons (g1.ex gx') (.cons (g2.ex gx') .nil))
            rw [pairG_at hn hp, k1, k2]
    · cases q3
  · cases q3

/-! ### walks -/
def rngD (lo : Int) (n : Nat) : List PyData := (List.range n).map fun i => PyData.int (lo + (i : Nat))
theorem rngD_get {lo : Int} {n i : Nat} {d : PyData} (h : (rngD lo n)[i]? = some d) : d = .int (lo + (i : Nat)) := by
  unfold rngD at h
  rw [List.getElem?_map] at h
  cases q : (List.range n)[i]? with
  | none => rw [q] at h; cases h
  | some j =>
    rw [q] at h
    cases h
    have := List.getElem?_eq_some_iff.mp q
    obtain ⟨h1, h2⟩ := this
    simp at h2
    rw [h2]
theorem it_rng {G : Hp} (lo : Int) (n : Nat) : ItOk K G (Itr lo n) (rngD lo n) where
  go := fun i H e hi => by unfold rngD at hi; show i < n; simpa using hi
  stop := fun H e => by unfold rngD; show n ≤ _; simp
  yld := fun i H x H' d e hd y G1 g1 g2 => by
    obtain ⟨rfl, rfl⟩ := y
    rw [rngD_get hd]
    exact ⟨G1, Ex.refl _, Ex.refl _, g2, fun _ _ => rfl, .int _⟩
def stpD (lo c : Int) (n : Nat) : List PyData := (List.range n).map fun i => PyData.int (lo + (i : Nat) * c)
theorem it_stp {G : Hp} (lo c : Int) (n : Nat) : ItOk K G (Itc lo c n) (stpD lo c n) where
  go := fun i H e hi => by unfold stpD at hi; show i < n; simpa using hi
  stop := fun H e => by unfold stpD; show n ≤ _; simp
  yld := fun i H x H' d e hd y G1 g1 g2 => by
    obtain ⟨rfl, rfl⟩ := y
    unfold stpD at hd
    rw [List.getElem?_map] at hd
    cases q : (List.range n)[i]? with
    | none => rw [q] at hd; cases hd
    | some j =>
      rw [q] at hd
      cases hd
      obtain ⟨h1, h2⟩ := List.getElem?_eq_some_iff.mp q
      simp at h2
      subst h2
      exact ⟨G1, Ex.refl _, Ex.refl _, g2, fun _ _ => rfl, .int _⟩
def smOk (i : Int) : Bool := decide (-(2 ^ 62) ≤ i) && decide (i < 2 ^ 62)
theorem smOk_of {i : Int} (h : smOk i = true) : -(2 ^ 62) ≤ i ∧ i < 2 ^ 62 := by
  unfold smOk at h
  simp only [Bool.and_eq_true, decide_eq_true_eq] at h
  exact h
def gRng1 : List PyData → Option (List PyData)
  | [.int j] => if smOk j then some (rngD 0 j.toNat) else none
  | _ => none
def gRng2 : List PyData → Option (List PyData)
  | [.int i, .int j] => if smOk i && smOk j then some (rngD i (j - i).toNat) else none
  | _ => none
/-- how many: i, i + c, .. below j (c positive), above j (c negative) -/
def rgN (i j c : Int) : Nat := (Builtin.Range.rangeSize i j c).toNat
def gRng3 : List PyData → Option (List PyData)
  | [.int i, .int j, .int c] => if decide (c ≠ 0) && decide (c.natAbs < 1073741824) && Builtin.Range.small i j c && decide (Builtin.Range.rangeSize i j c = (rgN i j c : Int)) then some (stpD i c (rgN i j c)) else none
  | _ => none
def mIA (g : List PyData → Option (List PyData)) (fr : M (List PyData)) : M (List PyData) := mbind fr fun xs => mlift (g xs)
theorem si_rng1 {tr : TA} {fr : M (List PyData)} (hr : SeA K tr fr) : SeI K (iRng1 tr) (mIA gRng1 fr) := fun B G H σ env ds env' so e R k => by
  obtain ⟨xs, e1, q1, e⟩ := mbind_some e
  obtain ⟨q3, q4⟩ := mlift_some e
  dsimp only at q3 q4
  subst q4
  refine hr B G H σ env xs env' so q1 _ fun vs G1 H1 s1 r1 => ?_
  unfold gRng1 at q3
  split at q3
  · split at q3
    · rename_i h
      cases q3
      cases r1 with | cons a r1 =>
      cases r1; cases a
      obtain ⟨h1, h2⟩ := smOk_of h
      exact ⟨_, rfl, h1, h2, k _ G1 H1 s1 (it_rng _ _)⟩
    · cases q3
  · cases q3
theorem si_rng2 {tr : TA} {fr : M (List PyData)} (hr : SeA K tr fr) : SeI K (iRng2 tr) (mIA gRng2 fr) := fun B G H σ env ds env' so e R k => by
  obtain ⟨xs, e1, q1, e⟩ := mbind_some e
  obtain ⟨q3, q4⟩ := mlift_some e
  dsimp only at q3 q4
  subst q4
  refine hr B G H σ env xs env' so q1 _ fun vs G1 H1 s1 r1 => ?_
  unfold gRng2 at q3
  split at q3
  · split at q3
    · rename_i h
      cases q3
      cases r1 with | cons a r1 =>
      cases r1 with | cons b r1 =>
      cases r1; cases a; cases b
      rw [Bool.and_eq_true] at h
      obtain ⟨h1, h2⟩ := smOk_of h.1
      obtain ⟨h3, h4⟩ := smOk_of h.2
      exact ⟨_, _, rfl, ⟨h1, h2, h3, h4⟩, k _ G1 H1 s1 (it_rng _ _)⟩
    · cases q3
  · cases q3
theorem si_rng3 {tr : TA} {fr : M (List PyData)} (hr : SeA K tr fr) : SeI K (iRng3 tr) (mIA gRng3 fr) := fun B G H σ env ds env' so e R k => by
  obtain ⟨xs, e1, q1, e⟩ := mbind_some e
  obtain ⟨q3, q4⟩ := mlift_some e
  dsimp only at q3 q4
  subst q4
  refine hr B G H σ env xs env' so q1 _ fun vs G1 H1 s1 r1 => ?_
  unfold gRng3 at q3
  split at q3
  · split at q3
    · rename_i h
      cases q3
      cases r1 with | cons a r1 =>
      cases r1 with | cons b r1 =>
      cases r1 with | cons c r1 =>
      cases r1; cases a; cases b; cases c
      simp only [Bool.and_eq_true, decide_eq_true_eq] at h
      exact ⟨_, _, _, _, rfl, ⟨h.1.1.1, h.1.1.2, h.1.2, h.2⟩, k _ G1 H1 s1 (it_stp _ _ _)⟩
    · cases q3
  · cases q3
/-! enumerate, zip -/
def enumD (xs : List PyData) : List PyData := (xs.zipIdx).map fun p => .tuple [.int (p.2 : Nat), p.1]
theorem enumD_get {xs : List PyData} {i : Nat} {d : PyData} (h : (enumD xs)[i]? = some d) : ∃ x, xs[i]? = some x ∧ d = .tuple [.int (i : Nat), x] := by
  unfold enumD at h
  rw [List.getElem?_map, List.getElem?_zipIdx] at h
  cases q : xs[i]? with
  | none => rw [q] at h; cases h
  | some x => rw [q] at h; cases h; exact ⟨x, rfl, by simp⟩
theorem enumD_len {xs : List PyData} : (enumD xs).length = xs.length := by unfold enumD; simp
theorem it_enum {G : Hp} {a : Addr} {b : Bool} {us : List V} {ds : List PyData} (h : SqB K b G a us) (r : RpA K G us ds) : ItOk K G (IteB K b a) (enumD ds) where
  go := fun i H e hi => by
    rw [enumD_len, ← r.len] at hi
    exact ⟨us, us[i], h.ex e, by simp [hi]⟩
  stop := fun H e => ⟨us, h.ex e, by rw [enumD_len, r.len]⟩
  yld := fun i H x H' d e hd y G1 g1 g2 => by
    obtain ⟨T, v, rfl, hT, rfl, y⟩ := y
    obtain ⟨x, hx, rfl⟩ := enumD_get hd
    obtain ⟨u, hu, ru⟩ := r.get hx
    have q := y us (h.ex e)
    rw [hu] at q; cases q
    have gT := fresh_back g2 hT
    refine ⟨upd G1 T (.tup [.int (i : Nat), v]), Ex.new gT, Ex.new hT, fun c o ec => ?_, fun c hc => upd_ne fun z => hc (by rw [z]; exact hT), .tup (SqT.of upd_same) (.cons (.int _) (.cons ((ru.ex g1).ex (Ex.new gT)) .nil))⟩
    by_cases hc : c = T
    · rw [hc, upd_same] at ec ⊢; exact ec
    · rw [upd_ne hc] at ec ⊢; exact g2 _ _ ec
theorem zipD_get {xs ys : List PyData} {i : Nat} {d : PyData} (h : (zipD xs ys)[i]? = some d) : ∃ x y, xs[i]? = some x ∧ ys[i]? = some y ∧ d = .tuple [x, y] := by
  unfold zipD at h
  rw [List.getElem?_map] at h
  cases hz : (xs.zip ys)[i]? with
  | none => rw [hz] at h; cases h
  | some pr =>
    rw [hz] at h
    cases h
    obtain ⟨m1, m2⟩ := List.getElem?_zip_eq_some.mp hz
    exact ⟨pr.1, pr.2, m1, m2, rfl⟩
theorem zipD_len {xs ys : List PyData} : (zipD xs ys).length = min xs.length ys.length := by unfold zipD; simp
theorem it_zip {G : Hp} {a b : Addr} {b1 b2 : Bool} {us ws : List V} {ds es : List PyData} (h : SqB K b1 G a us) (r : RpA K G us ds) (h2 : SqB K b2 G b ws) (r2 : RpA K G ws es) : ItOk K G (ItzB K b1 b2 a b) (zipD ds es) where
  go := fun i H e hi => by
    rw [zipD_len, ← r.len, ← r2.len] at hi
    have k1 : i < us.length := by omega
    have k2 : i < ws.length := by omega
    exact ⟨us, ws, us[i], ws[i], h.ex e, h2.ex e, by simp [k1], by simp [k2]⟩
  stop := fun H e => ⟨us, ws, h.ex e, h2.ex e, by rw [zipD_len, r.len]; omega, by rw [zipD_len, r2.len]; omega, by rw [zipD_len, r.len, r2.len]; omega⟩
  yld := fun i H x H' d e hd y G1 g1 g2 => by
    obtain ⟨T, v, v2, rfl, hT, rfl, y, y2⟩ := y
    obtain ⟨x, x2, hx, hx2, rfl⟩ := zipD_get hd
    obtain ⟨u, hu, ru⟩ := r.get hx
    obtain ⟨u2, hu2, ru2⟩ := r2.get hx2
    have q := y us (h.ex e)
    rw [hu] at q; cases q
    have q2 := y2 ws (h2.ex e)
    rw [hu2] at q2; cases q2
    have gT := fresh_back g2 hT
    refine ⟨upd G1 T (.tup [v, v2]), Ex.new gT, Ex.new hT, fun c o ec => ?_, fun c hc => upd_ne fun z => hc (by rw [z]; exact hT), .tup (SqT.of upd_same) (.cons ((ru.ex g1).ex (Ex.new gT)) (.cons ((ru2.ex g1).ex (Ex.new gT)) .nil))⟩
    by_cases hc : c = T
    · rw [hc, upd_same] at ec ⊢; exact ec
    · rw [upd_ne hc] at ec ⊢; exact g2 _ _ ec
/-- from what stays -/
theorem Rp.seqB {G : Hp} {v : V} {d : PyData} {ds : List PyData} (h : Rp K G v d) (g : gSeq d = some ds) : ∃ a us b, v = .ref a ∧ SqB K b G a us ∧ RpA K G us ds := (Rq.st (H := G) h).seqB (Ex.refl G) g
def gEnum : List PyData → Option (List PyData)
  | [x] => (gSeq x).map enumD
  | _ => none
theorem si_enum {tr : TA} {fr : M (List PyData)} (hr : SeA K tr fr) : SeI K (iEnumB K tr) (mIA gEnum fr) := fun B G H σ env ds env' so e R k => by
  obtain ⟨xs, e1, q1, e⟩ := mbind_some e
  obtain ⟨q3, q4⟩ := mlift_some e
  dsimp only at q3 q4
  subst q4
  refine hr B G H σ env xs env' so q1 _ fun vs G1 H1 s1 r1 => ?_
  unfold gEnum at q3
  split at q3
  · rename_i x
    cases g : gSeq x with
    | none => rw [g] at q3; cases q3
    | some es =>
      rw [g] at q3
      cases q3
      cases r1 with | cons a r1 =>
      cases r1
      obtain ⟨p, us, b, rfl, h, r⟩ := a.seqB g
      exact ⟨p, us, b, rfl, h.ex s1.so.gh, k _ G1 H1 s1 (it_enum h r)⟩
  · cases q3
theorem si_zip {tr : TA} {fr : M (List PyData)} (hr : SeA K tr fr) : SeI K (iZipB K tr) (mIA gZip fr) := fun B G H σ env ds env' so e R k => by
  obtain ⟨xs, e1, q1, e⟩ := mbind_some e
  obtain ⟨q3, q4⟩ := mlift_some e
  dsimp only at q3 q4
  subst q4
  refine hr B G H σ env xs env' so q1 _ fun vs G1 H1 s1 r1 => ?_
  unfold gZip at q3
  split at q3
  · rename_i x y
    split at q3
    · rename_i as bs gx gy
      cases q3
      cases r1 with | cons a r1 =>
      cases r1 with | cons b r1 =>
      cases r1
      obtain ⟨p, us, b1, rfl, h, r⟩ := a.seqB gx
      obtain ⟨p2, us2, b2, rfl, h2, r2⟩ := b.seqB gy
      exact ⟨p, p2, us, us2, b1, b2, rfl, h.ex s1.so.gh, h2.ex s1.so.gh, k _ G1 H1 s1 (it_zip h r h2 r2)⟩
    · cases q3
  · cases q3
/-- for x in xs: a list or a tuple -/
def iSeqB (K : PySem.W.Frag) (te : TE) : TI := fun σ H R => te σ H fun x H1 => (∃ a, x = .ref a ∧ (∃ xs, SqL K H1 a xs) ∧ R (Itl K a) H1) ∨ (∃ a, x = .ref a ∧ (∃ xs, SqT K H1 a xs) ∧ R (Itt K a) H1)
theorem si_seqB {te : TE} {fa : M PyData} (h : SeP K te fa) : SeI K (iSeqB K te) (mI gSeq fa) := fun B G H σ env ds env' so e R k => by
  obtain ⟨x, e1, q1, e⟩ := mbind_some e
  obtain ⟨q3, q4⟩ := mlift_some e
  dsimp only at q3 q4
  subst q4
  refine h B G H σ env x env' so q1 _ fun v G1 H1 s1 r1 => ?_
  obtain ⟨a, us, b, rfl, hq, r⟩ := r1.seqB q3
  cases b with
  | false => exact .inl ⟨_, rfl, ⟨_, ex_l s1.so.gh hq⟩, k _ G1 H1 s1 (it_list hq r)⟩
  | true => exact .inr ⟨_, rfl, ⟨_, ex_t s1.so.gh hq⟩, k _ G1 H1 s1 (it_tup hq r)⟩
end
open PySem.Spec PyProof.Rows in
theorem pi_seqB {X : Cx} {tg l : Expr} {tl : TE} (hl : PE X l tl) : PI X tg l (iSeqB X.K tl) := by
  refine ⟨fun pins s σ H R I h => ?_⟩
  refine thn (hl.run pins s σ H _ I h) fun v s1 ⟨x, H1, I1, r1, q1⟩ => ?_
  rcases q1 with ⟨a, e, ⟨xs, hq⟩, q⟩ | ⟨a, e, ⟨xs, hq⟩, q⟩
  · subst e
    cases r1
    obtain ⟨its, rv, p, hz⟩ := I1.list hq
    refine wpAny_pyIter_list p.isList ?_
    refine ⟨s1.heap.objs.size, [s1.heap.objs.size], _, _, H1, rfl, I1.kept (t' := s1.toks) fun b o e => Heap.get?_push_of_some _ e, turn_list a _, ⟨_, Heap.get?_push_size _ rfl, rfl, rfl⟩, fun b hb => ?_, q⟩
    have e : b = s1.heap.objs.size := by simpa using hb
    subst e
    exact I1.fpOk (Nat.le_refl _) (I1.hok.fresh (Nat.le_refl _))
  · subst e
    cases r1
    obtain ⟨its, rv, p, hz⟩ := I1.tuple hq
    refine wpAny_pyIter_tuple (show s1.heap.IsTuple a its.toArray from p) ?_
    refine ⟨s1.heap.objs.size, [s1.heap.objs.size], _, _, H1, rfl, I1.kept (t' := s1.toks) fun b o e => Heap.get?_push_of_some _ e, turn_tuple a _, ⟨_, Heap.get?_push_size _ rfl, rfl, rfl⟩, fun b hb => ?_, q⟩
    have e : b = s1.heap.objs.size := by simpa using hb
    subst e
    exact I1.fpOk (Nat.le_refl _) (I1.hok.fresh (Nat.le_refl _))
end Pd

namespace Pd
open PySem L2 Evl

section
variable {K : PySem.W.Frag}
/-! ### star in a display -/
def fStar (fa : M PyData) (fr : M (List PyData)) : M (List PyData) := mbind fa fun x => mbind (mlift (gSeq x)) fun xs => mbind fr fun ys => mret (xs ++ ys)
theorem se_star {te : TE} {fa : M PyData} {tr : TA} {fr : M (List PyData)} (ha : SeQ K te fa) (hr : SeA K tr fr) : SeA K (StX.tStar K te tr) (fStar fa fr) := fun B G H σ env d env' so e Q k => by
  unfold fStar at e
  obtain ⟨x, e1, q1, ea⟩ := mbind_some e
  obtain ⟨xs, e2, q2, eb⟩ := mbind_some ea
  obtain ⟨g1, g2⟩ := mlift_some q2
  dsimp only at g1 g2
  obtain ⟨ys, e3, q3, ec⟩ := mbind_some eb
  cases ec
  subst g2
  refine ha B G H σ env x e2 so q1 _ fun v G1 H1 s1 r1 => ?_
  obtain ⟨a, us, b, rfl, hq, r⟩ := r1.seqB s1.so.gh g1
  refine ⟨a, us, rfl, ?_, hr B G1 H1 σ e2 ys env' s1.so q3 _ fun ws G2 H2 s2 r2 => ?_⟩
  · cases b with
    | false => exact .inr hq
    | true => exact .inl hq
  · exact k (us ++ ws) G2 H2 (s1.trans s2) ((r.ex s2.gx).app r2)

/-! ### a list of one's own, changed -/
/-- what a method does to the list, from the arguments -/
def OpM (K : PySem.W.Frag) (r : V → List V → Hp → VK → Prop) (g : List PyData → List PyData → Option (PyData × List PyData)) : Prop := ∀ (G H : Hp) (a : Addr) (ws us : List V) (bs ds bs' : List PyData) (d : PyData),
  Ex G H → H a = some (.lst ws) → RpA K G ws bs → RpA K G us ds → g bs ds = some (d, bs') → ∀ Q : VK, (∀ v ws', RpA K G ws' bs' → Rp K G v d → Q v (upd H a (.lst ws'))) → r (.ref a) us H Q
theorem se_mut {tr : TA} {fr : M (List PyData)} {r : V → List V → Hp → VK → Prop} {g : List PyData → List PyData → Option (PyData × List PyData)} {i : Nat} (hm : OpM K r g) (hr : SeA K tr fr) :
    SeP K (tBM K "list" r (tVar i) tr) (mCallB i g fr) := fun B G H σ env d env' so e Q k => by
  unfold mCallB at e
  cases h0 : owOf env i with
  | none => rw [h0] at e; cases e
  | some b0 =>
    rw [h0] at e
    dsimp only at e
    cases h1 : fr env with
    | none => rw [h1] at e; cases e
    | some p =>
      obtain ⟨ds, e1⟩ := p
      rw [h1] at e
      dsimp only at e
      cases h2 : owOf e1 i with
      | none => rw [h2] at e; cases e
      | some bs =>
        rw [h2] at e
        dsimp only at e
        cases h3 : g bs ds with
        | none => rw [h3] at e; cases e
        | some p2 =>
          obtain ⟨d2, bs'⟩ := p2
          rw [h3] at e
          cases e
          obtain ⟨a, ws, ow, z1, z2, z3, r0⟩ := owOf_own so h0
          refine ⟨_, z1, .inl ⟨rfl, ws, SqL.of z3⟩, hr B G H σ env ds e1 so h1 _ fun vs G1 H1 s1 r1 => ?_⟩
          obtain ⟨a', ws1, ow1, y1, y2, y3, r2⟩ := owOf_own s1.so h2
          rw [z1] at y1; cases y1
          exact hm G1 H1 a ws1 vs bs ds bs' d s1.so.gh y3 r2 r1 h3 Q fun v ws' rw' rv => k v G1 _ (s1.trans (s1.so.put1 h2 z1 rw')) rv
theorem se_mut0 {r : V → List V → Hp → VK → Prop} {g : List PyData → List PyData → Option (PyData × List PyData)} {i : Nat} (hm : OpM K r g) :
    SeP K (tBM0 K "list" r (tVar i)) (mCallB i g fNil) := fun B G H σ env d env' so e Q k => by
  unfold mCallB at e
  cases h0 : owOf env i with
  | none => rw [h0] at e; cases e
  | some b0 =>
    rw [h0] at e
    dsimp only [fNil, mret] at e
    rw [h0] at e
    dsimp only at e
    cases h3 : g b0 [] with
    | none => rw [h3] at e; cases e
    | some p2 =>
      obtain ⟨d2, bs'⟩ := p2
      rw [h3] at e
      cases e
      obtain ⟨a, ws, ow, z1, z2, z3, r0⟩ := owOf_own so h0
      refine ⟨_, z1, .inl ⟨rfl, ws, SqL.of z3⟩, ?_⟩
      exact hm G H a ws [] b0 [] bs' d so.gh z3 r0 .nil h3 Q fun v ws' rw' rv => k v G _ (so.put1 h0 z1 rw') rv
def gAppend : List PyData → List PyData → Option (PyData × List PyData)
  | bs, [d] => if decide (bs.length < 16777216) then some (.none, bs ++ [d]) else none
  | _, _ => none
theorem om_append : OpM K rAppend gAppend := fun G H a ws us bs ds bs' d e h rw0 ru g Q k => by
  unfold gAppend at g
  split at g
  · split at g
    · rename_i hl
      cases g
      cases ru with | cons r1 r2 =>
      cases r2
      exact ⟨a, ws, _, rfl, rfl, h, by rw [sizeLine_eq, rw0.len]; exact of_decide_eq_true hl, k _ _ (rw0.app (.cons r1 .nil)) .non⟩
    · cases g
  · cases g
def gExtend : List PyData → List PyData → Option (PyData × List PyData)
  | bs, [.list ds] => if szOk (bs.length + ds.length) then some (.none, bs ++ ds) else none
  | _, _ => none
theorem om_extend : OpM K rExtend gExtend := fun G H a ws us bs ds bs' d e h rw0 ru g Q k => by
  unfold gExtend at g
  split at g
  · split at g
    · rename_i hl
      cases g
      cases ru with | cons r1 r2 =>
      cases r2
      obtain ⟨b, zs, rfl, h2, r3⟩ := r1.seqH e
      exact ⟨a, b, ws, zs, rfl, rfl, h, h2, sz_of (by rw [rw0.len, r3.len]; exact of_decide_eq_true hl), k _ _ (rw0.app r3) .non⟩
    · cases g
  · cases g
def gPopAt : List PyData → List PyData → Option (PyData × List PyData)
  | bs, [.int i] => if decide (-(2 ^ 63) ≤ i) && decide (i < 2 ^ 63) then (match seqIndex? i bs.length with
    | some j => (match bs[j]? with
      | some d => some (d, bs.eraseIdx j)
      | none => none)
    | none => none) else none
  | _, _ => none
theorem om_popAt : OpM K rPopAt gPopAt := fun G H a ws us bs ds bs' d e h rw0 ru g Q k => by
  unfold gPopAt at g
  split at g
  · rename_i i
    split at g
    · rename_i hl
      rw [Bool.and_eq_true] at hl
      cases ru with | cons r1 r2 =>
      cases r2; cases r1
      cases hj : seqIndex? i bs.length with
      | none => rw [hj] at g; cases g
      | some j =>
        rw [hj] at g
        dsimp only at g
        cases hb : bs[j]? with
        | none => rw [hb] at g; cases g
        | some dd =>
          rw [hb] at g
          cases g
          obtain ⟨v, hv, rv⟩ := rw0.get hb
          exact ⟨a, ws, i, j, v, rfl, rfl, h, of_decide_eq_true hl.1, of_decide_eq_true hl.2, by rw [rw0.len]; exact hj, hv, k _ _ (rw0.erase j) rv⟩
    · cases g
  · cases g
def gPop0 : List PyData → List PyData → Option (PyData × List PyData)
  | bs, [] => match bs[bs.length - 1]? with
    | some d => some (d, bs.dropLast)
    | none => none
  | _, _ => none
theorem RpA.dropLast {G : Hp} {vs : List V} {ds : List PyData} (h : RpA K G vs ds) : RpA K G vs.dropLast ds.dropLast := by
  rw [List.dropLast_eq_take, List.dropLast_eq_take, h.len]
  exact h.take _
theorem om_pop0 : OpM K rPop gPop0 := fun G H a ws us bs ds bs' d e h rw0 ru g Q k => by
  unfold gPop0 at g
  split at g
  · split at g
    · rename_i dd hb
      cases g
      cases ru
      obtain ⟨v, hv, rv⟩ := rw0.get hb
      exact ⟨a, ws, v, rfl, rfl, h, by rw [rw0.len]; exact hv, k _ _ rw0.dropLast rv⟩
    · cases g
  · cases g
def gReverse : List PyData → List PyData → Option (PyData × List PyData)
  | bs, [] => some (.none, bs.reverse)
  | _, _ => none
theorem om_reverse : OpM K rReverse gReverse := fun G H a ws us bs ds bs' d e h rw0 ru g Q k => by
  unfold gReverse at g
  split at g
  · cases g
    cases ru
    exact ⟨a, ws, rfl, rfl, h, k _ _ rw0.rev .non⟩
  · cases g

/-! ### x[i] = e, x[i] op= e -/
def setAt (bs : List PyData) (i : PyData) (d : PyData) : Option (List PyData) := match i with
  | .int k => (ixN bs.length k).map fun j => bs.set j d
  | _ => none
def fSetIt (i : Nat) (fi fe : M PyData) : M Fl := mbind fe fun x => fun e => match owOf e i with
  | none => none
  | some _ => match fi e with
    | none => none
    | some (y, e1) => match owOf e1 i with
      | none => none
      | some bs => match setAt bs y x with
        | none => none
        | some bs' => some (.nx, putOw e1 i bs')
theorem se_setIt {i : Nat} {ti te : TE} {fi fe : M PyData} (hi : SeP K ti fi) (he : SeP K te fe) : SeS K (tAsg te (L2.gSub (tVar i) ti rSetL)) (fSetIt i fi fe) := fun B G H σ env fl env' so e D k => by
  obtain ⟨x, e1, q1, e⟩ := mbind_some e
  cases h0 : owOf e1 i with
  | none => rw [h0] at e; cases e
  | some b0 =>
    rw [h0] at e
    dsimp only at e
    cases h1 : fi e1 with
    | none => rw [h1] at e; cases e
    | some p =>
      obtain ⟨y, e2⟩ := p
      rw [h1] at e
      dsimp only at e
      cases h2 : owOf e2 i with
      | none => rw [h2] at e; cases e
      | some bs =>
        rw [h2] at e
        dsimp only at e
        cases h3 : setAt bs y x with
        | none => rw [h3] at e; cases e
        | some bs' =>
          rw [h3] at e
          cases e
          refine he B G H σ env x e1 so q1 _ fun v G1 H1 s1 r1 => ?_
          obtain ⟨a, ws, ow, z1, z2, z3, r0⟩ := owOf_own s1.so h0
          refine ⟨_, z1, hi B G1 H1 σ e1 y e2 s1.so h1 _ fun w G2 H2 s2 r2 => ?_⟩
          obtain ⟨a', ws1, ow1, y1, y2, y3, r3⟩ := owOf_own s2.so h2
          rw [z1] at y1; cases y1
          unfold setAt at h3
          split at h3
          · rename_i kk
            cases hj : ixN bs.length kk with
            | none => rw [hj] at h3; cases h3
            | some j =>
              rw [hj] at h3
              cases h3
              cases r2
              refine ⟨a, ws1, kk, j, rfl, rfl, y3, by rw [r3.len]; exact hj, ?_⟩
              have s3 := s2.so.put1 h2 z1 (r3.set (r1.ex s2.gx) j)
              exact k σ _ _ s3.so ((s1.gx.trans s2.gx).trans s3.gx)
          · cases h3
def rGetL : V → V → Hp → VK → Prop := fun o i H Q => ∃ p xs k v, o = .ref p ∧ i = .int k ∧ H p = some (.lst xs) ∧ atI xs k = some v ∧ Q v H
open PySem.Spec PyProof.Rows in
theorem get_list {X : Cx} : PGet X rGetL := by
  intro pins s σ H o i ov iv Q I ro ri h
  obtain ⟨p, xs, k, v, rfl, rfl, hp, he, q⟩ := h
  cases ro
  obtain ⟨t, rfl⟩ := ri
  obtain ⟨its, r, pl, hz⟩ := I.list (SqL.of hp)
  obtain ⟨j, h1, h2, h3, h4, h5⟩ := atI_get he
  obtain ⟨w, ew, rw'⟩ := r.get h2
  have hl := r.length
  have hn := line63
  have fin : EP X pins σ Q w s := ⟨v, H, I, rw', q⟩
  by_cases h0 : 0 ≤ k
  · have hj : k.toNat = j := by
      rw [seqIndex_of h0 h5] at h1
      exact Option.some.inj h1
    exact wpAny_getItem_list pl.isList h0 (by omega) (by rw [hj]; simpa using ew) fin
  · have hj : (k + (its.toArray.size : Int)).toNat = j := by
      rw [seqIndex_neg (by omega) h4] at h1
      rw [List.size_toArray, ← hl]
      exact Option.some.inj h1
    exact wpAny_getItem_list_neg pl.isList (by omega) (by rw [List.size_toArray]; omega) (by omega) (by rw [hj]; simpa using ew) fin
/-- i op= j, ints -/
def gIp (f : Int → Int → Int) : PyData → PyData → Option PyData
  | .int i, .int j => some (.int (f i j))
  | _, _ => none
def fAugIt (i : Nat) (f : Int → Int → Int) (fi fe : M PyData) : M Fl := fun e => match owOf e i with
  | none => none
  | some _ => match fi e with
    | none => none
    | some (y, e1) => match owOf e1 i with
      | none => none
      | some bs => match gIx (.list bs) y with
        | none => none
        | some x => match fe e1 with
          | none => none
          | some (z, e2) => match gIp f x z with
            | none => none
            | some u => match owOf e2 i with
              | none => none
              | some bs2 => match setAt bs2 y u with
                | none => none
                | some bs' => some (.nx, putOw e2 i bs')
theorem se_augIt {i : Nat} {f : Int → Int → Int} {ti te : TE} {fi fe : M PyData} (hi : SeP K ti fi) (he : SeP K te fe) : SeS K (tAugS (tVar i) ti te rGetL (ipI f) rSetL) (fAugIt i f fi fe) := fun B G H σ env fl env' so e D k => by
  unfold fAugIt at e
  cases h0 : owOf env i with
  | none => rw [h0] at e; cases e
  | some b0 =>
    rw [h0] at e
    dsimp only at e
    cases h1 : fi env with
    | none => rw [h1] at e; cases e
    | some p =>
      obtain ⟨y, e1⟩ := p
      rw [h1] at e
      dsimp only at e
      cases h2 : owOf e1 i with
      | none => rw [h2] at e; cases e
      | some bs =>
        rw [h2] at e
        dsimp only at e
        cases h3 : gIx (.list bs) y with
        | none => rw [h3] at e; cases e
        | some x =>
          rw [h3] at e
          dsimp only at e
          cases h4 : fe e1 with
          | none => rw [h4] at e; cases e
          | some p4 =>
            obtain ⟨z, e2⟩ := p4
            rw [h4] at e
            dsimp only at e
            cases h5 : gIp f x z with
            | none => rw [h5] at e; cases e
            | some u =>
              rw [h5] at e
              dsimp only at e
              cases h6 : owOf e2 i with
              | none => rw [h6] at e; cases e
              | some bs2 =>
                rw [h6] at e
                dsimp only at e
                cases h7 : setAt bs2 y u with
                | none => rw [h7] at e; cases e
                | some bs' =>
                  rw [h7] at e
                  cases e
                  obtain ⟨a, ws, ow, z1, z2, z3, r0⟩ := owOf_own so h0
                  refine ⟨_, z1, hi B G H σ env y e1 so h1 _ fun w G1 H1 s1 r1 => ?_⟩
                  obtain ⟨a', ws1, ow1, y1, y2, y3, r3⟩ := owOf_own s1.so h2
                  rw [z1] at y1; cases y1
                  unfold gIx at h3
                  split at h3
                  · rename_i xs0 kk he0
                    cases he0
                    obtain ⟨v, hv, rv⟩ := r3.atI h3
                    cases r1
                    refine ⟨a, ws1, kk, v, rfl, rfl, y3, hv, he B G1 H1 σ e1 z e2 s1.so h4 _ fun w2 G2 H2 s2 r2 => ?_⟩
                    unfold gIp at h5
                    split at h5
                    · cases h5
                      cases rv
                      cases r2
                      obtain ⟨a', ws2, ow2, x1, x2, x3, r5⟩ := owOf_own s2.so h6
                      rw [z1] at x1; cases x1
                      unfold setAt at h7
                      dsimp only at h7
                      cases hj : ixN bs2.length kk with
                      | none => rw [hj] at h7; cases h7
                      | some j =>
                        rw [hj] at h7
                        cases h7
                        refine ⟨_, _, rfl, rfl, a, ws2, kk, j, rfl, rfl, x3, by rw [r5.len]; exact hj, ?_⟩
                        exact k σ _ _ (s2.so.put1 h6 z1 (r5.set (.int _) j)).so (s1.gx.trans s2.gx)
                    · cases h5
                  · rename_i he0; cases he0
                  · rename_i he0; cases he0
                  · cases h3
/-! ### x op= e -/
def fAug (i : Nat) (f : Int → Int → Int) (fe : M PyData) : M Fl := fun e => match e[i]? with
  | some (.va x) => (match fe e with
    | none => none
    | some (z, e1) => match gIp f x z with
      | none => none
      | some u => match setE e1 i (.va u) with
        | none => none
        | some e2 => some (.nx, e2))
  | _ => none
theorem se_aug {i : Nat} {f : Int → Int → Int} {te : TE} {fe : M PyData} (he : SeP K te fe) : SeS K (tAug i te (ipI f)) (fAug i f fe) := fun B G H σ env fl env' so e D k => by
  unfold fAug at e
  split at e
  · rename_i x hx
    cases h1 : fe env with
    | none => rw [h1] at e; cases e
    | some p =>
      obtain ⟨z, e1⟩ := p
      rw [h1] at e
      dsimp only at e
      cases h2 : gIp f x z with
      | none => rw [h2] at e; cases e
      | some u =>
        rw [h2] at e
        dsimp only at e
        cases h3 : setE e1 i (.va u) with
        | none => rw [h3] at e; cases e
        | some e2 =>
          rw [h3] at e
          cases e
          obtain ⟨v, hv, rv⟩ := so.sl i _ hx
          refine ⟨v, hv, he B G H σ env z e1 so h1 _ fun w G1 H1 s1 r1 => ?_⟩
          unfold gIp at h2
          split at h2
          · cases h2
            cases rv
            cases r1
            exact ⟨_, _, rfl, rfl, k _ G1 H1 (s1.so.storeV h3 (.int _)) s1.gx⟩
          · cases h2
  · cases e
end
end Pd

namespace Pd
open PySem L2 Evl

section
variable {K : PySem.W.Frag}
/-! ### x, y = e, f: values that stay, or new lists -/
/-- the value is of one's own (a new list), or stays -/
def SeV (K : PySem.W.Frag) (own : Bool) (t : TE) (f : M PyData) : Prop := match own with
  | true => SeL K t f
  | false => SeP K t f
def slV (own : Bool) (d : PyData) : Option Sl := match own, d with
  | true, .list ds => some (.ow ds)
  | true, _ => none
  | false, d => some (.va d)
def mPair (fa fb : M PyData) : M (PyData × PyData) := mbind fa fun x => mbind fb fun y => mret (x, y)
def fPar (i j : Nat) (o1 o2 : Bool) (fa fb : M PyData) : M Fl := mbind fa fun x => mbind fb fun y => fun e => match slV o1 x, slV o2 y with
  | some s1, some s2 => (match setE e i s1 with
    | some e1 => (match setE e1 j s2 with
      | some e2 => some (.nx, e2)
      | none => none)
    | none => none)
  | _, _ => none
/-- what a value is that was reckoned, in a later state -/
structure Vok (K : PySem.W.Frag) (B : Bw) (G H : Hp) (σ : L2.St) (env : Env) (o : Bool) (v : V) (d : PyData) : Prop where
  va : o = false → Rp K G v d
  ow : o = true → ∃ a ws ds, v = .ref a ∧ d = .list ds ∧ G a = none ∧ H a = some (.lst ws) ∧ RpA K G ws ds ∧ B.H0 a = none ∧ B.ba ≠ some a ∧ NoOwn σ env a
variable {B : Bw} {G H G' H' : Hp} {σ : L2.St} {env env' : Env}
theorem Vok.later {o : Bool} {v : V} {d : PyData} (h : Vok K B G H σ env o v d) (s : Stp K B σ env G H env' G' H') : Vok K B G' H' σ env' o v d := by
  refine ⟨fun q => (h.va q).ex s.gx, fun q => ?_⟩
  obtain ⟨a, ws, ds, h1, h2, h3, h4, h5, h6, h7, h8⟩ := h.ow q
  obtain ⟨k1, k2⟩ := s.kp a _ h4 h8
  exact ⟨a, ws, ds, h1, h2, k2.trans h3, k1, h5.ex s.gx, h6, h7, fun i z => h8 i (s.sb i a z)⟩
theorem se_vok {o : Bool} {t : TE} {f : M PyData} (h : SeV K o t f) (so : SO K B G H σ env) {d : PyData} (e : f env = some (d, env')) {Q : VK} (k : ∀ v G' H', Stp K B σ env G H env' G' H' → Vok K B G' H' σ env' o v d → Q v H') : t σ H Q := by
  cases o with
  | false => exact h B G H σ env d env' so e Q fun v G' H' s r => k v G' H' s ⟨fun _ => r, fun q => by cases q⟩
  | true =>
    refine h B G H σ env d env' so e Q fun a ws ds G' H' s ed h0 h1 h2 r => k _ G' H' s ⟨fun q => (by cases q), fun _ => ⟨a, ws, ds, rfl, ed, h1, h2, r, ?_, fun z => so.bt a z h0, fun i z => so.noOwn h0 i (s.sb i a z)⟩⟩
    exact so.new0 h0
/-- two that were reckoned one behind another are apart -/
theorem SO.storeK {i : Nat} {o : Bool} {v : V} {d : PyData} {s : Sl} (so : SO K B G H σ env) (h : Vok K B G H σ env o v d) (hs : slV o d = some s) (he : setE env i s = some env') : SO K B G H (σ.set i (some v)) env' := by
  cases o with
  | false =>
    cases hs
    exact so.storeV he (h.va rfl)
  | true =>
    obtain ⟨a, ws, ds, rfl, rfl, h3, h4, h5, h6, h7, h8⟩ := h.ow rfl
    cases hs
    exact so.store he ⟨a, ws, rfl, h3, h4, h5, h6, h7⟩ fun b _ ev => by cases ev; exact h8
theorem own_storeK {i j : Nat} {v : V} {s : Sl} {a : Addr} (so : SO K B G H σ env) (he : setE env i s = some env') (o : Own (σ.set i (some v)) env' j a) : Own σ env j a ∨ v = .ref a ∧ ∃ ds, s = .ow ds ∨ s = .bg ds := by
  obtain ⟨hi, rfl, nb⟩ := setE_some he
  have hσ : i < σ.length := by rw [so.len]; exact hi
  by_cases hj : j = i
  · subst hj
    obtain ⟨⟨ds, q⟩, z⟩ := o
    rw [List.getElem?_set_self hi] at q
    rw [List.getElem?_set_self hσ] at z
    refine .inr ⟨Option.some.inj (Option.some.inj z), ds, ?_⟩
    rcases q with q | q
    · exact .inl (Option.some.inj q)
    · exact .inr (Option.some.inj q)
  · refine .inl ?_
    unfold Own at o ⊢
    rw [List.getElem?_set_ne (Ne.symm hj), List.getElem?_set_ne (Ne.symm hj)] at o
    exact o
theorem se_par {i j : Nat} {o1 o2 : Bool} {ta tb : TE} {fa fb : M PyData} (ha : SeV K o1 ta fa) (hb : SeV K o2 tb fb) : SeS K (tPar i j (tCons ta (tCons tb tNil))) (fPar i j o1 o2 fa fb) := fun B G H σ env fl env' so e D k => by
  unfold fPar at e
  obtain ⟨x, e1, q1, ea⟩ := mbind_some e
  obtain ⟨y, e2, q2, eb⟩ := mbind_some ea
  refine se_vok ha so q1 fun v G1 H1 s1 v1 => ?_
  -- the second is new behind the first
  have fin : ∀ w G2 H2, Stp K B σ e1 G1 H1 e2 G2 H2 → Vok K B G2 H2 σ e2 o2 w y → (∀ a, o2 = true → w = .ref a → H1 a = none) → D.nx ((σ.set i (some v)).set j (some w)) H2 := fun w G2 H2 s2 v2 nw => by
    cases h1 : slV o1 x with
    | none => rw [h1] at eb; cases eb
    | some t1 =>
      cases h2 : slV o2 y with
      | none => rw [h1, h2] at eb; cases eb
      | some t2 =>
        rw [h1, h2] at eb
        dsimp only at eb
        cases h3 : setE e2 i t1 with
        | none => rw [h3] at eb; cases eb
        | some e3 =>
          rw [h3] at eb
          dsimp only at eb
          cases h4 : setE e3 j t2 with
          | none => rw [h4] at eb; cases eb
          | some e4 =>
            rw [h4] at eb
            cases eb
            have v1' := v1.later s2
            have so3 := s2.so.storeK v1' h1 h3
            have v2' : Vok K B G2 H2 (σ.set i (some v)) e3 o2 w y := by
              refine ⟨v2.va, fun q => ?_⟩
              obtain ⟨a, ws, ds, g1, g2, g3, g4, g5, g6, g7, g8⟩ := v2.ow q
              refine ⟨a, ws, ds, g1, g2, g3, g4, g5, g6, g7, fun l z => ?_⟩
              rcases own_storeK s2.so h3 z with z | ⟨z1, ds', z2⟩
              · exact g8 l z
              · -- the first is at another place
                have n1 := nw a q g1
                cases o1 with
                | false =>
                  cases h1
                  rcases z2 with z2 | z2 <;> cases z2
                | true =>
                  obtain ⟨b, ws', ds'', f1, f2, f3, f4, _⟩ := v1.ow rfl
                  rw [f1] at z1
                  cases z1
                  rw [n1] at f4
                  cases f4
            exact k _ G2 H2 (so3.storeK v2' h2 h4) (s1.gx.trans s2.gx)
  cases o2 with
  | false =>
    refine (show SeP K tb fb from hb) B G1 H1 σ e1 y e2 s1.so q2 _ fun w G2 H2 s2 r2 => ?_
    exact ⟨v, w, rfl, fin w G2 H2 s2 ⟨fun _ => r2, fun q => by cases q⟩ fun a q => by cases q⟩
  | true =>
    refine (show SeL K tb fb from hb) B G1 H1 σ e1 y e2 s1.so q2 _ fun a ws ds G2 H2 s2 ed h0 h1 h2 r => ?_
    exact ⟨v, _, rfl, fin _ G2 H2 s2 ⟨fun q => (by cases q), fun _ => ⟨a, ws, ds, rfl, ed, h1, h2, r, s1.so.new0 h0, fun z => s1.so.bt a z h0, fun i z => s1.so.noOwn h0 i (s2.sb i a z)⟩⟩ fun b _ eb => by cases eb; exact h0⟩
end

/-! ### a dict comprehension -/
def putD (acc : List (PyData × PyData)) (k v : PyData) : Option (List (PyData × PyData)) := match keyD k with
  | none => none
  | some c => some (if (acc.any fun kv => decide (keyD kv.1 = some c)) = true then acc.map (fun kv => if keyD kv.1 = some c then (kv.1, v) else kv) else acc ++ [(k, v)])
def dcL (vs : List Nat) (fg : PyData → Env → Option Env) (ft : M Bool) (fk fv : M PyData) : List PyData → List (PyData × PyData) → M (List (PyData × PyData))
  | [], acc, e => some (acc, e)
  | d :: r, acc, e => match fg d (wipeE e vs) with
    | none => none
    | some e1 => match ft e1 with
      | none => none
      | some (false, e2) => dcL vs fg ft fk fv r acc e2
      | some (true, e2) => match fk e2 with
        | none => none
        | some (k, e3) => match fv e3 with
          | none => none
          | some (v, e4) => match putD acc k v with
            | none => none
            | some acc' => if decide (acc.length < 16777216) then dcL vs fg ft fk fv r acc' e4 else none
def fDc (vs : List Nat) (fi : M (List PyData)) (fg : PyData → Env → Option Env) (ft : M Bool) (fk fv : M PyData) : M PyData := mbind fi fun ds e => match dcL vs fg ft fk fv ds [] e with
  | some (kvs, e2) => some (.dict kvs, restE e e2 vs)
  | none => none
section
variable {K : PySem.W.Frag} {G : Hp}
theorem RpK.len {kvs : List (Key × V)} {ds : List (PyData × PyData)} (r : RpK K G kvs ds) : kvs.length = ds.length := by
  induction kvs generalizing ds with
  | nil => cases r; rfl
  | cons p kvs ih =>
    cases r with
    | int a b => simp [ih b]
    | str a b => simp [ih b]
theorem RpK.any {kvs : List (Key × V)} {ds : List (PyData × PyData)} (r : RpK K G kvs ds) (c : Key) : (kvs.any fun kv => decide (kv.1 = c)) = ds.any fun kv => decide (keyD kv.1 = some c) := by
  induction kvs generalizing ds with
  | nil => cases r; rfl
  | cons p kvs ih =>
    cases r with
    | int a b => rw [List.any_cons, List.any_cons, ih b]; simp [keyD]
    | str a b => rw [List.any_cons, List.any_cons, ih b]; simp [keyD]
theorem RpK.repl {kvs : List (Key × V)} {ds : List (PyData × PyData)} (r : RpK K G kvs ds) (c : Key) {v : V} {d : PyData} (rv : Rp K G v d) :
    RpK K G (kvs.map fun kv => if kv.1 = c then (kv.1, v) else kv) (ds.map fun kv => if keyD kv.1 = some c then (kv.1, d) else kv) := by
  induction kvs generalizing ds with
  | nil => cases r; exact .nil
  | cons p kvs ih =>
    cases r with
    | int a b =>
      rename_i i v' d' ds'
      rw [List.map_cons, List.map_cons]
      by_cases hc : (Sum.inl i : Key) = c
      · rw [if_pos hc, if_pos (by simpa [keyD] using hc)]; exact .int rv (ih b)
      · rw [if_neg hc, if_neg (by simpa [keyD] using hc)]; exact .int a (ih b)
    | str a b =>
      rename_i i v' d' ds'
      rw [List.map_cons, List.map_cons]
      by_cases hc : (Sum.inr i : Key) = c
      · rw [if_pos hc, if_pos (by simpa [keyD] using hc)]; exact .str rv (ih b)
      · rw [if_neg hc, if_neg (by simpa [keyD] using hc)]; exact .str a (ih b)
theorem RpK.snoc {kvs : List (Key × V)} {ds : List (PyData × PyData)} (r : RpK K G kvs ds) {c : Key} {k : PyData} (hk : keyD k = some c) {v : V} {d : PyData} (rv : Rp K G v d) : RpK K G (kvs ++ [(c, v)]) (ds ++ [(k, d)]) := by
  induction kvs generalizing ds with
  | nil =>
    cases r
    cases k <;> cases hk
    · exact .int rv .nil
    · exact .str rv .nil
  | cons p kvs ih =>
    cases r with
    | int a b => exact .int a (ih b)
    | str a b => exact .str a (ih b)
theorem RpK.put {kvs : List (Key × V)} {ds ds' : List (PyData × PyData)} (r : RpK K G kvs ds) {c : Key} {k : PyData} (hk : keyD k = some c) {v : V} {d : PyData} (rv : Rp K G v d) (h : putD ds k d = some ds') : RpK K G (putK kvs c v) ds' := by
  unfold putD at h
  rw [hk] at h
  cases h
  unfold putK
  rw [r.any c]
  split
  · exact r.repl c rv
  · exact r.snoc hk rv
theorem se_dc {vs js : List Nat} {wi : TI} {fi : M (List PyData)} {g : TG} {fg : PyData → Env → Option Env} {tt : TT} {ft : M Bool} {tk tv : TE} {fk fv : M PyData} (hi : SeI K wi fi) (hg : SeG K js g fg) (hj : ∀ j, j ∈ js → j ∈ vs) (ht : SeT K tt ft) (hk : SeP K tk fk) (hv : SeP K tv fv) :
    SeP K (tDc wi g tt tk tv vs) (fDc vs fi fg ft fk fv) := fun B G H σ env d env' so e Q k => by
  obtain ⟨ds, e0, q0, e⟩ := mbind_some e
  refine hi B G H σ env ds e0 so q0 _ fun J G0 H0 s0 it D hD => ?_
  cases ql : dcL vs fg ft fk fv ds [] e0 with
  | none => rw [ql] at e; cases e
  | some p =>
    obtain ⟨xs, eE⟩ := p
    rw [ql] at e
    cases e
    refine ⟨fun i m H' => ∃ G' en acc kvs, Pd.Mk K B σ e0 G0 H0 D σ vs en G' H' ∧ H' D = some (.dK kvs) ∧ RpK K G' kvs acc ∧ i ≤ ds.length ∧ m = ds.length - i ∧ dcL vs fg ft fk fv (ds.drop i) acc en = some (xs, eE),
      ⟨ds.length, G0, e0, [], [], Pd.Mk.start s0.so hD _, upd_same, .nil, Nat.zero_le _, rfl, ql⟩, ?_⟩
    rintro i m H1 ⟨G1, en, acc, kvs, mk, hw, rw0, hi1, rfl, q⟩
    by_cases hlt : i < ds.length
    · refine .inr ⟨it.go i H1 (mk.gx.trans mk.so.gh) hlt, ?_⟩
      rw [List.drop_eq_getElem_cons hlt] at q
      have hd : ds[i]? = some ds[i] := by simp [hlt]
      unfold dcL at q
      refine ⟨fun H' => ∃ G' en acc kvs, Pd.Mk K B σ e0 G0 H0 D σ vs en G' H' ∧ H' D = some (.dK kvs) ∧ RpK K G' kvs acc ∧ dcL vs fg ft fk fv (ds.drop (i + 1)) acc en = some (xs, eE),
        fun H' ⟨G', en', acc', kvs', a, b1, b2, b⟩ => ⟨ds.length - (i + 1), by omega, G', en', acc', kvs', a, b1, b2, hlt, rfl, b⟩, fun x H2 y => ?_⟩
      obtain ⟨G2, a1, a2, a3, a4, r⟩ := it.yld i H1 x H2 _ (mk.gx.trans mk.so.gh) hd y G1 mk.gx mk.so.gh
      cases qg : fg ds[i] (wipeE en vs) with
      | none => rw [qg] at q; cases q
      | some e1 =>
        rw [qg] at q
        dsimp only at q
        have so2 := mk.so.grow' a1 a2 a3 a4
        refine hg B G2 H2 _ (wipeE en vs) _ x e1 so2 r qg _ fun σ3 so3 z3 l3 ow3 => ?_
        have z4 : ∀ j, j ∉ vs → σ3[j]? = (wipe σ vs)[j]? := fun j h => z3 j fun w => h (hj j w)
        have we : wipe σ3 vs = wipe σ vs := (wipe_eq l3 z4).trans wipe_wipe
        refine ⟨we, ?_⟩
        cases qt : ft e1 with
        | none => rw [qt] at q; cases q
        | some p1 =>
          obtain ⟨b, e2⟩ := p1
          rw [qt] at q
          refine ht B G2 H2 σ3 e1 b e2 so3 qt _ fun G4 H4 s4 => ?_
          cases b with
          | false =>
            dsimp only at q
            rw [if_neg (by decide)]
            obtain ⟨t1, t2, t3⟩ := mk.turn s0.so hD a1 a2 a4 ow3 s4 vs
            exact ⟨G4, e2, acc, kvs, t1.back (fun _ h => h) we, t2.trans hw, rw0.ex t3, q⟩
          | true =>
            dsimp only at q
            rw [if_pos rfl]
            cases qk : fk e2 with
            | none => rw [qk] at q; cases q
            | some p2 =>
              obtain ⟨kd, e3⟩ := p2
              rw [qk] at q
              dsimp only at q
              cases qv : fv e3 with
              | none => rw [qv] at q; cases q
              | some p3 =>
                obtain ⟨vd, e4⟩ := p3
                rw [qv] at q
                dsimp only at q
                cases qp : putD acc kd vd with
                | none => rw [qp] at q; cases q
                | some acc' =>
                  rw [qp] at q
                  dsimp only at q
                  split at q
                  · rename_i hlen
                    refine hk B G4 H4 σ3 e2 kd e3 s4.so qk _ fun kw G5 H5 s5 r5 => hv B G5 H5 σ3 e3 vd e4 s5.so qv _ fun vw G6 H6 s6 r6 => ?_
                    obtain ⟨t1, t2, t3⟩ := mk.turn s0.so hD a1 a2 a4 ow3 ((s4.trans s5).trans s6) vs
                    cases hc : keyD kd with
                    | none => unfold putD at qp; rw [hc] at qp; cases qp
                    | some c =>
                      refine ⟨kvs, c, kV_of r5 hc, t2.trans hw, ?_, G6, e4, acc', putK kvs c vw, (t1.back (fun _ h => h) we).put s0.so hD _, upd_same, (rw0.ex t3).put hc r6 qp, q⟩
                      rw [sizeLine_eq, rw0.len]
                      exact of_decide_eq_true hlen
                  · cases q
    · have hi2 : i = ds.length := by omega
      subst hi2
      refine .inl ⟨it.stop H1 (mk.gx.trans mk.so.gh), ?_⟩
      rw [List.drop_length] at q
      have q' : some (acc, en) = some (xs, eE) := q
      cases q'
      have s2 := s0.trans (mk.done s0.so hD)
      exact k _ _ _ (s2.keep (s0.nw D hD) mk.gd hw so) (.dik upd_same (rw0.ex (Ex.new mk.gd)))
end
end Pd

namespace Pd
open PySem L2 Evl

/-! ### a def from its body -/
def env0 (n : Nat) (ds : List PyData) : Env := ds.map .va ++ List.replicate (n - ds.length) .un
def envB (n : Nat) (bs ds : List PyData) : Env := .bg bs :: (ds.map .va ++ List.replicate (n - 1 - ds.length) .un)
/-- the value that stays; n slots, np of them parameters -/
def pfP (n np : Nat) (m : M Fl) (ds : List PyData) : Option PyData := if ds.length = np then (match m (env0 n ds) with
  | some (.rt d, _) => some d
  | some (.nx, _) => some .none
  | _ => none) else none
/-- a new list -/
def pfL (n np : Nat) (m : M Fl) (ds : List PyData) : Option PyData := if ds.length = np then (match m (env0 n ds) with
  | some (.rf ds', _) => some (.list ds')
  | _ => none) else none
def bgOf (e : Env) : Option (List PyData) := match e[(0 : Nat)]? with
  | some (.bg bs) => some bs
  | _ => none
/-- the first parameter a list that may change -/
def pfB (n np : Nat) (m : M Fl) (bs ds : List PyData) : Option (PyData × List PyData) := if ds.length + 1 = np then (match m (envB n bs ds) with
  | some (.rt d, e) => (bgOf e).map fun b => (d, b)
  | some (.nx, e) => (bgOf e).map fun b => (.none, b)
  | _ => none) else none
section
variable {K : PySem.W.Frag} {G H : Hp} {N : List Str}
theorem start_at {vs : List V} {i : Nat} {v : V} (h : vs[i]? = some v) : (L2.start N vs)[i]? = some (some v) := by
  unfold L2.start
  have hi := (List.getElem?_eq_some_iff.mp h).1
  rw [List.getElem?_append_left (by simpa using hi), List.getElem?_map, h]
  rfl
theorem so_start {vs : List V} {ds : List PyData} (hl : ds.length ≤ N.length) (gh : Ex G H) (r : RpA K G vs ds) : SO K ⟨G, H, none⟩ G H (L2.start N vs) (env0 N.length ds) := by
  have get : ∀ (i : Nat) (s : Sl), (env0 N.length ds)[i]? = some s → s = .un ∨ ∃ d, ds[i]? = some d ∧ s = .va d := fun i s e => by
    unfold env0 at e
    rcases Nat.lt_or_ge i ds.length with h | h
    · rw [List.getElem?_append_left (by simpa using h), List.getElem?_map] at e
      cases q : ds[i]? with
      | none => rw [q] at e; cases e
      | some d => rw [q] at e; cases e; exact .inr ⟨d, rfl, rfl⟩
    · rw [List.getElem?_append_right (by simpa using h)] at e
      exact .inl (List.eq_of_mem_replicate (List.mem_of_getElem? e))
  have noown : ∀ i a, ¬ Own (L2.start N vs) (env0 N.length ds) i a := fun i a o => by
    obtain ⟨⟨es, q⟩, _⟩ := o
    rcases q with q | q
    · rcases get i _ q with z | ⟨d, _, z⟩ <;> cases z
    · rcases get i _ q with z | ⟨d, _, z⟩ <;> cases z
  refine ⟨?_, Ex.refl G, gh, fun b o _ e => e, fun b _ => rfl, fun a e => (by cases e), fun i s e => ?_, fun i j a o => absurd o (noown i a)⟩
  · unfold L2.start env0
    simp only [List.length_append, List.length_map, List.length_replicate, r.len]
  · rcases get i s e with rfl | ⟨d, hd, rfl⟩
    · trivial
    · obtain ⟨v, hv, rv⟩ := r.get hd
      exact ⟨v, start_at hv, rv⟩
theorem so_startB {a : Addr} {ws us : List V} {bs ds : List PyData} (hl : ds.length + 1 ≤ N.length) (gh : Ex G H) (g0 : G a = none) (h0 : H a = some (.lst ws)) (rb : RpA K G ws bs) (r : RpA K G us ds) :
    SO K ⟨G, H, some a⟩ G H (L2.start N (.ref a :: us)) (envB N.length bs ds) := by
  have get : ∀ (i : Nat) (s : Sl), (envB N.length bs ds)[i]? = some s → (i = 0 ∧ s = .bg bs) ∨ s = .un ∨ ∃ d j, i = j + 1 ∧ ds[j]? = some d ∧ s = .va d := fun i s e => by
    unfold envB at e
    cases i with
    | zero => simp at e; exact .inl ⟨rfl, e.symm⟩
    | succ i =>
      rw [List.getElem?_cons_succ] at e
      rcases Nat.lt_or_ge i ds.length with h | h
      · rw [List.getElem?_append_left (by simpa using h), List.getElem?_map] at e
        cases q : ds[i]? with
        | none => rw [q] at e; cases e
        | some d => rw [q] at e; cases e; exact .inr (.inr ⟨d, i, rfl, q, rfl⟩)
      · rw [List.getElem?_append_right (by simpa using h)] at e
        exact .inr (.inl (List.eq_of_mem_replicate (List.mem_of_getElem? e)))
  have own0 : ∀ i c, Own (L2.start N (.ref a :: us)) (envB N.length bs ds) i c → i = 0 := fun i c o => by
    obtain ⟨⟨es, q⟩, _⟩ := o
    rcases q with q | q
    · rcases get i _ q with ⟨_, z⟩ | z | ⟨d, j, _, _, z⟩ <;> cases z
    · rcases get i _ q with ⟨z, _⟩ | z | ⟨d, j, _, _, z⟩
      · exact z
      · cases z
      · cases z
  refine ⟨?_, Ex.refl G, gh, fun b o _ e => e, fun b _ => rfl, fun c e => (by cases e; rw [h0]; simp), fun i s e => ?_, fun i j c o1 o2 => (own0 i c o1).trans (own0 j c o2).symm⟩
  · unfold L2.start envB
    simp only [List.length_append, List.length_map, List.length_replicate, List.length_cons, r.len]
    omega
  · rcases get i s e with ⟨rfl, rfl⟩ | rfl | ⟨d, j, rfl, hd, rfl⟩
    · exact ⟨a, ws, start_at rfl, g0, h0, rb, rfl⟩
    · trivial
    · obtain ⟨v, hv, rv⟩ := r.get hd
      exact ⟨v, start_at (by simpa using hv), rv⟩
end
section
variable {P : Program} {w : World} {K : PySem.W.Frag} {mg : Str → Option Value} {base : Heap} {x qual : Str} {params : Arguments} {body : List Stmt} {scope : Scope} {dvs : List V} {kws : List (Str × V)} {f : Addr} {fd : FuncData} {N ps : List Str} {k np n : Nat} {m : M Fl}
/-- the body's derivation, at the def's entry -/
abbrev BodyD (P : Program) (w : World) (K : PySem.W.Frag) (mg : Str → Option Value) (base : Heap) (qual : Str) (body : List Stmt) (scope : Scope) (f : Addr) (N : List Str) (k : Nat) (m : M Fl) : Prop :=
  ∀ (cdv : Value) (A : Around) (outer : List PySem.Env) (s : Shared) (H : Hp) (E : XK), Room k (A.deeper (PyProof.Rows.envOfC qual scope s.heap.objs.size f cdv)) → ∃ t, DB (cxOf CX0 P w K mg base N qual scope f cdv A outer s H E).nox body t m
theorem ok_P (F : FunD K x qual params body scope dvs kws f fd) (S : FnScope N ps scope) (hn : N.length = n) (hp : ps.length = np) (hle : np ≤ n) (D : BodyD P w K mg base qual body scope f N k m) : FnOk P w K mg base CX0 (k + 1) f fd ps (spP K (pfP n np m)) := by
  subst hn hp
  refine F.ok S (fun vs H Q E h => ?_) (fun cdv A outer s H vs Q E hr h => ?_)
  · obtain ⟨G, ds, d, _, r, q, _⟩ := h
    unfold pfP at q
    split at q
    · rename_i hl; rw [r.len]; exact hl
    · cases q
  · obtain ⟨t, db⟩ := D cdv A outer s H E hr
    refine ⟨t, PSs.nox db.pe, ?_⟩
    obtain ⟨G, ds, d, gh, r, q, kk⟩ := h
    unfold pfP at q
    split at q
    · rename_i hl
      have so := so_start (N := N) (K := K) (by rw [hl]; exact hle) gh r
      split at q
      · rename_i d' e' hm
        cases q
        exact db.se ⟨G, H, none⟩ G H _ _ _ _ so hm _ fun v σ' G' H' so' gx rv => kk v G' H' gx (fun b o e => so'.hh b o (fun z => by cases z) e) so'.gh (fun b hb => so'.gn b hb) rv
      · rename_i e' hm
        cases q
        exact db.se ⟨G, H, none⟩ G H _ _ _ _ so hm _ fun σ' G' H' so' gx => kk .non G' H' gx (fun b o e => so'.hh b o (fun z => by cases z) e) so'.gh (fun b hb => so'.gn b hb) .non
      · cases q
    · cases q
theorem ok_L (F : FunD K x qual params body scope dvs kws f fd) (S : FnScope N ps scope) (hn : N.length = n) (hp : ps.length = np) (hle : np ≤ n) (D : BodyD P w K mg base qual body scope f N k m) : FnOk P w K mg base CX0 (k + 1) f fd ps (spL K (pfL n np m)) := by
  subst hn hp
  refine F.ok S (fun vs H Q E h => ?_) (fun cdv A outer s H vs Q E hr h => ?_)
  · obtain ⟨G, ds, d, _, r, q, _⟩ := h
    unfold pfL at q
    split at q
    · rename_i hl; rw [r.len]; exact hl
    · cases q
  · obtain ⟨t, db⟩ := D cdv A outer s H E hr
    refine ⟨t, PSs.nox db.pe, ?_⟩
    obtain ⟨G, ds, d, gh, r, q, kk⟩ := h
    unfold pfL at q
    split at q
    · rename_i hl
      have so := so_start (N := N) (K := K) (by rw [hl]; exact hle) gh r
      split at q
      · rename_i d' e' hm
        cases q
        exact db.se ⟨G, H, none⟩ G H _ _ _ _ so hm _ fun a ws σ' G' H' so' gx h0 h1 h2 rv => kk a ws _ G' H' rfl gx (fun b o e => so'.hh b o (fun z => by cases z) e) so'.gh (fun b hb => so'.gn b hb) h0 h1 h2 rv
      · cases q
    · cases q
theorem ok_B (F : FunD K x qual params body scope dvs kws f fd) (S : FnScope N ps scope) (hn : N.length = n) (hp : ps.length = np) (hle : np ≤ n) (D : BodyD P w K mg base qual body scope f N k m) : FnOk P w K mg base CX0 (k + 1) f fd ps (spB K (pfB n np m)) := by
  subst hn hp
  refine F.ok S (fun vs H Q E h => ?_) (fun cdv A outer s H vs Q E hr h => ?_)
  · obtain ⟨G, a, ws, bs, us, ds, d, bs', rfl, _, _, _, _, r, q, _⟩ := h
    unfold pfB at q
    split at q
    · rename_i hl; rw [List.length_cons, r.len]; exact hl
    · cases q
  · obtain ⟨t, db⟩ := D cdv A outer s H E hr
    refine ⟨t, PSs.nox db.pe, ?_⟩
    obtain ⟨G, a, ws, bs, us, ds, d, bs', rfl, gh, g0, h0, rb, r, q, kk⟩ := h
    unfold pfB at q
    split at q
    · rename_i hl
      have so := so_startB (N := N) (K := K) (by rw [hl]; exact hle) gh g0 h0 rb r
      have fin : ∀ {σ' : L2.St} {G' H' : Hp} {e' : Env} {b : List PyData} {v : V} {dd : PyData}, SO K ⟨G, H, some a⟩ G' H' σ' e' → Ex G G' → bgOf e' = some b → dd = d → b = bs' → Rp K G' v dd → Q v H' := fun {σ' G' H' e' b v dd} so' gx hb hd hbs rv => by
        unfold bgOf at hb
        split at hb
        · rename_i bb hz
          cases hb
          obtain ⟨c, ws', z1, z2, z3, z4, z5⟩ := so'.sl 0 _ hz
          cases z5
          subst hd hbs
          exact kk v G' H' ws' gx (fun b o hb e => so'.hh b o (fun z => by cases z; exact hb rfl) e) so'.gh (fun b hb => so'.gn b hb) z3 z4 rv
        · cases hb
      split at q
      · rename_i d' e' hm
        cases hb : bgOf e' with
        | none => rw [hb] at q; cases q
        | some b =>
          rw [hb] at q
          cases q
          exact db.se ⟨G, H, some a⟩ G H _ _ _ _ so hm _ fun v σ' G' H' so' gx rv => fin so' gx hb rfl rfl rv
      · rename_i e' hm
        cases hb : bgOf e' with
        | none => rw [hb] at q; cases q
        | some b =>
          rw [hb] at q
          cases q
          exact db.se ⟨G, H, some a⟩ G H _ _ _ _ so hm _ fun σ' G' H' so' gx => fin so' gx hb rfl rfl .non
      · cases q
    · cases q
end
end Pd

/-! the rules of a text together with what they mean -/
namespace Pd
open PySem L2 Evl

structure DW (X : Cx) (e : Expr) (t : TT) (f : M Bool) : Prop where
  pe : PW X e t
  se : SeT X.K t f
structure DTs (X : Cx) (es : List Expr) (t : TT) (f : M Bool) : Prop where
  pe : PTs X es t
  se : SeT X.K t f
structure DR (X : Cx) (e : Expr) (t : TR) (f : M (Int × Int)) : Prop where
  pe : PRg X e t
  se : SeR X.K t f
section
variable {X : Cx} {k : Nat} {pos p2 p3 p4 : Pos} {a b e c : Expr} {es : List Expr} {ta tb te : TE} {fa fb fe : M PyData} {tr : TA} {fr : M (List PyData)} {r : R2} {g : PyData → PyData → Option PyData} {op : Operator} {cop : CmpOp} {tc td : TT} {fc fd : M Bool} {x : Str}

/-! ### operations -/
theorem dp_op (ho : OpR X (binaryOp op) r) (h : Op2 X.K r g) (ha : DP X a ta fa) (hb : DP X b tb fb) : DP X (.BinOp a op b pos) (tOp r ta tb) (m2 g fa fb) := ⟨pe_op ho ha.pe hb.pe, se_op2 h ha.se hb.se⟩
theorem dp_opq (ho : OpR X (binaryOp op) r) (h : Op2 X.K r g) (ha : DP X a ta fa) (hb : DQ X b tb fb) : DP X (.BinOp a op b pos) (tOp r ta tb) (m2 g fa fb) := ⟨pe_op ho ha.pe hb.pe, se_op2q h ha.se hb.se⟩
theorem dp_opo {i : Nat} {f0 : M PyData} (ho : OpR X (binaryOp op) r) (h : Op2 X.K r g) (ha : DQ X a (tVar i) f0) (hb : DQ X b tb fb) : DP X (.BinOp a op b pos) (tOp r (tVar i) tb) (m2o i g fb) := ⟨pe_op ho ha.pe hb.pe, se_op2o h hb.se⟩
theorem dl_op (ho : OpR X (binaryOp op) r) (h : Op2L X.K r g) (ha : DP X a ta fa) (hb : DP X b tb fb) : DL X (.BinOp a op b pos) (tOp r ta tb) (m2 g fa fb) := ⟨pe_op ho ha.pe hb.pe, se_op2L h ha.se hb.se⟩
theorem dl_opo {i : Nat} {f0 : M PyData} (ho : OpR X (binaryOp op) r) (h : Op2L X.K r g) (ha : DQ X a (tVar i) f0) (hb : DQ X b tb fb) : DL X (.BinOp a op b pos) (tOp r (tVar i) tb) (m2o i g fb) := ⟨pe_op ho ha.pe hb.pe, se_op2oL h hb.se⟩
theorem dp_neg (ha : DP X a ta fa) : DP X (.UnaryOp .USub a pos) (tUn (rU fun i => .int (-i)) ta) (m1 gNeg fa) := ⟨pe_un un_neg ha.pe, se_neg ha.se⟩
/-! comparisons -/
theorem dp_cmp (ho : OpR X (compareOp cop) r) (h : Op2 X.K r g) (ha : DP X a ta fa) (hb : DP X b tb fb) (hm : behindInMarks cop b = false) : DP X (.Compare a [cop] [b] pos) (tOp r ta tb) (m2 g fa fb) := ⟨pe_cmpR ho ha.pe hb.pe hm, se_op2 h ha.se hb.se⟩
theorem dp_cmpq (ho : OpR X (compareOp cop) r) (h : Op2 X.K r g) (ha : DP X a ta fa) (hb : DQ X b tb fb) (hm : behindInMarks cop b = false) : DP X (.Compare a [cop] [b] pos) (tOp r ta tb) (m2 g fa fb) := ⟨pe_cmpR ho ha.pe hb.pe hm, se_op2q h ha.se hb.se⟩
theorem dp_cmpo {i : Nat} {f0 : M PyData} (ho : OpR X (compareOp cop) r) (h : Op2 X.K r g) (ha : DQ X a (tVar i) f0) (hb : DQ X b tb fb) (hm : behindInMarks cop b = false) : DP X (.Compare a [cop] [b] pos) (tOp r (tVar i) tb) (m2o i g fb) := ⟨pe_cmpR ho ha.pe hb.pe hm, se_op2o h hb.se⟩
theorem dt_cmp (ho : OpR X (compareOp cop) r) (h : Op2 X.K r g) (ha : DP X a ta fa) (hb : DP X b tb fb) (hm : behindInMarks cop b = false) : DT X (.Compare a [cop] [b] pos) (tTest (tOp r ta tb)) (mT gB (m2 g fa fb)) := ⟨pt_cmpR ho ha.pe hb.pe hm, se_test (se_op2 h ha.se hb.se).q⟩
theorem dt_cmpq (ho : OpR X (compareOp cop) r) (h : Op2 X.K r g) (ha : DP X a ta fa) (hb : DQ X b tb fb) (hm : behindInMarks cop b = false) : DT X (.Compare a [cop] [b] pos) (tTest (tOp r ta tb)) (mT gB (m2 g fa fb)) := ⟨pt_cmpR ho ha.pe hb.pe hm, se_test (se_op2q h ha.se hb.se).q⟩
theorem dt_cmpo {i : Nat} {f0 : M PyData} (ho : OpR X (compareOp cop) r) (h : Op2 X.K r g) (ha : DQ X a (tVar i) f0) (hb : DQ X b tb fb) (hm : behindInMarks cop b = false) : DT X (.Compare a [cop] [b] pos) (tTest (tOp r (tVar i) tb)) (mT gB (m2o i g fb)) := ⟨pt_cmpR ho ha.pe hb.pe hm, se_test (se_op2o h hb.se).q⟩
/-! tests -/
theorem dt_val (h : DP X e te fe) (he : ∀ whole, isTrue e X.env whole = (do let v ← whole; standAt e.pos; holding [v] (truthy v)) := by intro _; rfl) : DT X e (tB te) (mT gB fe) := ⟨pt_val h.pe he, se_test h.se.q⟩
theorem dt_tru (h : DQ X e te fe) (he : ∀ whole, isTrue e X.env whole = (do let v ← whole; standAt e.pos; holding [v] (truthy v)) := by intro _; rfl) : DT X e (fun σ H Q => te σ H fun x H' => ∃ k, TruV X.K x H' k ∧ Q k H') (mT gTru fe) := ⟨pt_truth h.pe he, se_truth h.se⟩
theorem dt_not (h : DT X e tc fc) : DT X (.UnaryOp .Not e pos) (tNot tc) (mNot fc) := ⟨pt_not h.pe, se_not h.se⟩
theorem dw_and1 (h : DT X a tc fc) : DW X (.BoolOp .And [a] pos) tc fc := ⟨pw_and1 h.pe, h.se⟩
theorem dw_or1 (h : DT X a tc fc) : DW X (.BoolOp .Or [a] pos) tc fc := ⟨pw_or1 h.pe, h.se⟩
theorem dw_and (h : DT X a tc fc) (hb : DW X (.BoolOp .And (b :: es) pos) td fd) : DW X (.BoolOp .And (a :: b :: es) pos) (tAnd tc td) (mAnd fc fd) := ⟨pw_and h.pe hb.pe, se_and h.se hb.se⟩
theorem dw_or (h : DT X a tc fc) (hb : DW X (.BoolOp .Or (b :: es) pos) td fd) : DW X (.BoolOp .Or (a :: b :: es) pos) (tOr tc td) (mOr fc fd) := ⟨pw_or h.pe hb.pe, se_or h.se hb.se⟩
theorem DW.t (h : DW X e tc fc) : DT X e tc fc := ⟨h.pe.pt, h.se⟩
/-! .. as values -/
def fAndV (fa fb : M PyData) : M PyData := mbind (mT gB fa) fun b => if b then fb else mret (.bool false)
def fOrV (fa fb : M PyData) : M PyData := mbind (mT gB fa) fun b => if b then mret (.bool true) else fb
def fNotV (fa : M PyData) : M PyData := mVal (mNot (mT gB fa))
theorem dp_one {bop} (h : DP X a ta fa) : DP X (.BoolOp bop [a] pos) ta fa := ⟨pe_one h.pe, h.se⟩
theorem dp_and (h : DP X a ta fa) (hb : DP X (.BoolOp .And (b :: es) pos) tb fb) : DP X (.BoolOp .And (a :: b :: es) pos) (tAndV ta tb) (fAndV fa fb) := ⟨pe_and h.pe hb.pe, se_andV h.se hb.se⟩
theorem dp_or (h : DP X a ta fa) (hb : DP X (.BoolOp .Or (b :: es) pos) tb fb) : DP X (.BoolOp .Or (a :: b :: es) pos) (tOrV ta tb) (fOrV fa fb) := ⟨pe_or h.pe hb.pe, se_orV h.se hb.se⟩
theorem dp_not (h : DP X a ta fa) : DP X (.UnaryOp .Not a pos) (tNotV ta) (fNotV fa) := ⟨L2.pe_not h.pe, se_notV h.se⟩
theorem dp_if (hc : DT X c tc fc) (ha : DP X a ta fa) (hb : DP X b tb fb) : DP X (.IfExp c a b pos) (tIf tc ta tb) (mIte fc fa fb) := ⟨pe_ifExp hc.pe ha.pe hb.pe, se_ifP hc.se ha.se hb.se⟩
theorem dl_if (hc : DT X c tc fc) (ha : DL X a ta fa) (hb : DL X b tb fb) : DL X (.IfExp c a b pos) (tIf tc ta tb) (mIte fc fa fb) := ⟨pe_ifExp hc.pe ha.pe hb.pe, se_ifL hc.se ha.se hb.se⟩

/-! ### subscripts, slices, displays -/
theorem dp_ix {K : PySem.W.Frag} (hr : Room k X.A) (ha : DP X a ta fa) (hb : DP X b tb fb) (hs : PlainIx b := by exact fun _ _ => rfl) (hK : X.K = K := by rfl) : DP X (.Subscript a b pos) (tOp (rIxA K) ta tb) (m2 gIx fa fb) := by
  subst hK
  exact ⟨pe_ix (ix_A (by have := hr.units; omega)) ha.pe hb.pe hs, se_op2 o2_ix ha.se hb.se⟩
theorem dp_ixo {K : PySem.W.Frag} {i : Nat} {f0 : M PyData} (hr : Room k X.A) (ha : DQ X a (tVar i) f0) (hb : DP X b tb fb) (hs : PlainIx b := by exact fun _ _ => rfl) (hK : X.K = K := by rfl) : DP X (.Subscript a b pos) (tOp (rIxA K) (tVar i) tb) (m2o i gIx fb) := by
  subst hK
  exact ⟨pe_ix (ix_A (by have := hr.units; omega)) ha.pe hb.pe hs, se_op2o o2_ix hb.se.q⟩
variable {lo hi : Option Expr} {tl th : TO} {fl fh : M (Option Int)}
theorem dp_sl {K : PySem.W.Frag} (ha : DP X a ta fa) (hl : DO X lo tl fl) (hh : DO X hi th fh) (hK : X.K = K := by rfl) : DP X (.Subscript a (.Slice lo hi none p2) pos) (tSl (rSlAll K) ta tl th) (mSl gSl fa fl fh) := by
  subst hK
  exact ⟨pe_slice sl_all ha.pe hl.pe hh.pe, se_sl ha.se hl.se hh.se⟩
theorem dl_sl {K : PySem.W.Frag} (ha : DP X a ta fa) (hl : DO X lo tl fl) (hh : DO X hi th fh) (hK : X.K = K := by rfl) : DL X (.Subscript a (.Slice lo hi none p2) pos) (tSl (rSlAll K) ta tl th) (mSl gSlL fa fl fh) := by
  subst hK
  exact ⟨pe_slice sl_all ha.pe hl.pe hh.pe, se_slL ha.se hl.se hh.se⟩
theorem dp_slo {K : PySem.W.Frag} {i : Nat} {f0 : M PyData} (ha : DQ X a (tVar i) f0) (hl : DO X lo tl fl) (hh : DO X hi th fh) (hK : X.K = K := by rfl) : DP X (.Subscript a (.Slice lo hi none p2) pos) (tSl (rSlAll K) (tVar i) tl th) (mSlo i gSl fl fh) := by
  subst hK
  exact ⟨pe_slice sl_all ha.pe hl.pe hh.pe, se_slo hl.se hh.se⟩
theorem da_nil : DA X [] tNil fNil := ⟨pa_nil, se_nil⟩
theorem da_cons (ha : DP X e te fe) (hr : DA X es tr fr) (hs : starEach (e :: es) X.env = (false, eval e X.env) :: starEach es X.env := by rfl) : DA X (e :: es) (tCons te tr) (fCons fe fr) := ⟨pa_cons ha.pe hr.pe hs, se_cons ha.se hr.se⟩
theorem da_star {K : PySem.W.Frag} (ha : DQ X e te fe) (hr : DA X es tr fr) (hs : starEach (.Starred e pos :: es) X.env = (true, eval e X.env) :: starEach es X.env := by rfl) (hK : X.K = K := by rfl) : DA X (.Starred e pos :: es) (StX.tStar K te tr) (fStar fe fr) := by
  subst hK
  exact ⟨StX.pa_star ha.pe hr.pe hs, se_star ha.se hr.se⟩
theorem dp_tup {x1} (h : DA X es tr fr) : DP X (.Tuple es x1 pos) (tTup tr) (mTup fr) := ⟨pe_tup h.pe, se_tup h.se⟩
theorem dl_lst (h : DA X es tr fr) : DL X (.List es pos) (tLst tr) (mLst fr) := ⟨pe_lst h.pe, se_lst h.se⟩

/-! ### calls of built-ins -/
variable {id T : String} {rb : List V → Hp → VK → Prop} {g1 : PyData → Option PyData} {gA : List PyData → Option PyData}
theorem dp_cb1 (hc : CallR X (.builtin id) rb) (h1 : Op1q X.K rb g1) (hg : Gl X x) (hm : X.mg x = none) (hv : bootBuiltins x = some (.builtin id)) (ha : DQ X a ta fa) (hn : x ≠ "__name__" := by decide) (hdb : (x == ("__debug__" : Str)) = false := by decide)
    (he : starEach [a] X.env = (false, eval a X.env) :: starEach [] X.env := by rfl) : DP X (.Call (.Name x p2) [a] [] pos) (tCB rb (tCons ta tNil)) (m1 g1 fa) :=
  ⟨pe_callB hc hg hm hv (pa_cons ha.pe pa_nil he) hn hdb he rfl, se_cb1 h1 ha.se⟩
theorem dl_cb1 (hc : CallR X (.builtin id) rb) (h1 : Op1qL X.K rb g1) (hg : Gl X x) (hm : X.mg x = none) (hv : bootBuiltins x = some (.builtin id)) (ha : DQ X a ta fa) (hn : x ≠ "__name__" := by decide) (hdb : (x == ("__debug__" : Str)) = false := by decide)
    (he : starEach [a] X.env = (false, eval a X.env) :: starEach [] X.env := by rfl) : DL X (.Call (.Name x p2) [a] [] pos) (tCB rb (tCons ta tNil)) (m1 g1 fa) :=
  ⟨pe_callB hc hg hm hv (pa_cons ha.pe pa_nil he) hn hdb he rfl, se_cb1L h1 ha.se⟩
theorem dp_ct1 (hc : CallR X (.type T) rb) (h1 : Op1q X.K rb g1) (hg : Gl X x) (hm : X.mg x = none) (hv : bootBuiltins x = some (.type T)) (ha : DQ X a ta fa) (hn : x ≠ "__name__" := by decide) (hdb : (x == ("__debug__" : Str)) = false := by decide)
    (he : starEach [a] X.env = (false, eval a X.env) :: starEach [] X.env := by rfl) : DP X (.Call (.Name x p2) [a] [] pos) (tCB rb (tCons ta tNil)) (m1 g1 fa) :=
  ⟨pe_callTy hc hg hm hv (pa_cons ha.pe pa_nil he) hn hdb he rfl, se_cb1 h1 ha.se⟩
theorem dl_ct1 (hc : CallR X (.type T) rb) (h1 : Op1qL X.K rb g1) (hg : Gl X x) (hm : X.mg x = none) (hv : bootBuiltins x = some (.type T)) (ha : DQ X a ta fa) (hn : x ≠ "__name__" := by decide) (hdb : (x == ("__debug__" : Str)) = false := by decide)
    (he : starEach [a] X.env = (false, eval a X.env) :: starEach [] X.env := by rfl) : DL X (.Call (.Name x p2) [a] [] pos) (tCB rb (tCons ta tNil)) (m1 g1 fa) :=
  ⟨pe_callTy hc hg hm hv (pa_cons ha.pe pa_nil he) hn hdb he rfl, se_cb1L h1 ha.se⟩
theorem dp_cbA (hc : CallR X (.builtin id) rb) (h1 : OpA X.K rb gA) (hg : Gl X x) (hm : X.mg x = none) (hv : bootBuiltins x = some (.builtin id)) (ha : DA X (e :: es) tr fr) (hn : x ≠ "__name__" := by decide) (hdb : (x == ("__debug__" : Str)) = false := by decide)
    (he : starEach (e :: es) X.env = (false, eval e X.env) :: starEach es X.env := by rfl) (hpl : (backTo pos (starEach es X.env)).any (·.1) = false := by rfl) : DP X (.Call (.Name x p2) (e :: es) [] pos) (tCB rb tr) (mA gA fr) :=
  ⟨pe_callB hc hg hm hv ha.pe hn hdb he hpl, se_cbA h1 ha.se⟩
theorem dp_ctA (hc : CallR X (.type T) rb) (h1 : OpA X.K rb gA) (hg : Gl X x) (hm : X.mg x = none) (hv : bootBuiltins x = some (.type T)) (ha : DA X (e :: es) tr fr) (hn : x ≠ "__name__" := by decide) (hdb : (x == ("__debug__" : Str)) = false := by decide)
    (he : starEach (e :: es) X.env = (false, eval e X.env) :: starEach es X.env := by rfl) (hpl : (backTo pos (starEach es X.env)).any (·.1) = false := by rfl) : DP X (.Call (.Name x p2) (e :: es) [] pos) (tCB rb tr) (mA gA fr) :=
  ⟨pe_callTy hc hg hm hv ha.pe hn hdb he hpl, se_cbA h1 ha.se⟩
theorem dr_1 (hg : Gl X "range") (hm : X.mg "range" = none) (ha : DP X a ta fa) (na : starEach [a] X.env = (false, eval a X.env) :: starEach [] X.env := by rfl) : DR X (.Call (.Name "range" p2) [a] [] pos) (tRg1 ta) (mRg1 fa) := ⟨prg_1 hg hm ha.pe na, se_rg1 ha.se⟩
theorem dr_2 (hg : Gl X "range") (hm : X.mg "range" = none) (ha : DP X a ta fa) (hb : DP X b tb fb) (na : starEach [a, b] X.env = (false, eval a X.env) :: starEach [b] X.env := by rfl)
    (nb : starEach [b] X.env = (false, eval b X.env) :: starEach [] X.env := by rfl) (hp : (backTo pos (starEach [b] X.env)).any (·.1) = false := by rfl) : DR X (.Call (.Name "range" p2) [a, b] [] pos) (tRg2 ta tb) (mRg2 fa fb) := ⟨prg_2 hg hm ha.pe hb.pe na nb hp, se_rg2 ha.se hb.se⟩
variable {trg : TR} {frg : M (Int × Int)}
theorem dl_lstRg (hc : X.calm = true) (hg : Gl X "list") (hm : X.mg "list" = none) (he : DR X e trg frg) (na : starEach [e] X.env = (false, eval e X.env) :: starEach [] X.env := by rfl) : DL X (.Call (.Name "list" p2) [e] [] pos) (tLstRg trg) (mLstRg frg) := ⟨pe_listRg hc hg hm he.pe na, se_lstRg he.se⟩
theorem dp_tupRg (hc : X.calm = true) (hg : Gl X "tuple") (hm : X.mg "tuple" = none) (he : DR X e trg frg) (na : starEach [e] X.env = (false, eval e X.env) :: starEach [] X.env := by rfl) : DP X (.Call (.Name "tuple" p2) [e] [] pos) (tTupRg trg) (mTupRg frg) := ⟨pe_tupRg hc hg hm he.pe na, se_tupRg he.se⟩
theorem dl_lzip {K : PySem.W.Frag} (hc : X.calm = true) (hg : Gl X "zip") (hm : X.mg "zip" = none) (hg2 : Gl X "list") (hm2 : X.mg "list" = none) (ha : DA X [a, b] tr fr)
    (hs : starEach [a, b] X.env = (false, eval a X.env) :: starEach [b] X.env := by rfl) (hpl : (backTo pos (starEach [b] X.env)).any (·.1) = false := by rfl)
    (na : starEach [.Call (.Name "zip" p2) [a, b] [] pos] X.env = (false, eval (.Call (.Name "zip" p2) [a, b] [] pos) X.env) :: starEach [] X.env := by rfl) (hK : X.K = K := by rfl) :
    DL X (.Call (.Name "list" p3) [.Call (.Name "zip" p2) [a, b] [] pos] [] p4) (tLZip K tr) (mLZip fr) := by
  subst hK
  exact ⟨pe_lzip hc hg hm hg2 hm2 ha.pe hs hpl na, se_lzip ha.se⟩
/-! isinstance -/
theorem dp_isi {K : PySem.W.Frag} {y : Str} (t : Ty6) (hg : Gl X "isinstance") (hm : X.mg "isinstance" = none) (hgy : Gl X y) (hmy : X.mg y = none) (hv : bootBuiltins y = some (.type t.name)) (ha : DQ X a ta fa) (hy : y ≠ "__name__" := by decide) (hdb : (y == ("__debug__" : Str)) = false := by decide)
    (he : starEach [a, .Name y p3] X.env = (false, eval a X.env) :: starEach [.Name y p3] X.env := by rfl) (he2 : starEach [.Name y p3] X.env = (false, eval (.Name y p3) X.env) :: starEach [] X.env := by rfl) (hpl : (backTo pos (starEach [.Name y p3] X.env)).any (·.1) = false := by rfl) (hK : X.K = K := by rfl) :
    DP X (.Call (.Name "isinstance" p2) [a, .Name y p3] [] pos) (tCB (rIsiD K) (tCons ta (tCons (tC (.ty t.name)) tNil))) (mIsi t fa) := by
  subst hK
  exact ⟨pe_callB call_isiD hg hm PyProof.Rows.boot_isinstance (pa_cons ha.pe (pa_cons (pe_bltn hgy hmy hv rfl hy hdb) pa_nil he2) he) (by decide) (by decide) he hpl, se_isi t ha.se⟩
/-- two types -/
theorem dp_isi2 {K : PySem.W.Frag} {y z : Str} (t u : Ty6) {p5 : Pos} {x1} (hg : Gl X "isinstance") (hm : X.mg "isinstance" = none) (hgy : Gl X y) (hmy : X.mg y = none) (hv : bootBuiltins y = some (.type t.name)) (hgz : Gl X z) (hmz : X.mg z = none) (hvz : bootBuiltins z = some (.type u.name)) (ha : DQ X a ta fa)
    (hy : y ≠ "__name__" := by decide) (hdb : (y == ("__debug__" : Str)) = false := by decide) (hz : z ≠ "__name__" := by decide) (hdz : (z == ("__debug__" : Str)) = false := by decide)
    (h1 : starEach [.Name y p3, .Name z p4] X.env = (false, eval (.Name y p3) X.env) :: starEach [.Name z p4] X.env := by rfl) (h2 : starEach [.Name z p4] X.env = (false, eval (.Name z p4) X.env) :: starEach [] X.env := by rfl)
    (he : starEach [a, .Tuple [.Name y p3, .Name z p4] x1 p5] X.env = (false, eval a X.env) :: starEach [.Tuple [.Name y p3, .Name z p4] x1 p5] X.env := by rfl)
    (he2 : starEach [.Tuple [.Name y p3, .Name z p4] x1 p5] X.env = (false, eval (.Tuple [.Name y p3, .Name z p4] x1 p5) X.env) :: starEach [] X.env := by rfl) (hpl : (backTo pos (starEach [.Tuple [.Name y p3, .Name z p4] x1 p5] X.env)).any (·.1) = false := by rfl) (hK : X.K = K := by rfl) :
    DP X (.Call (.Name "isinstance" p2) [a, .Tuple [.Name y p3, .Name z p4] x1 p5] [] pos) (tCB (rIsiD2 K) (tCons ta (tCons (tTup (tCons (tC (.ty t.name)) (tCons (tC (.ty u.name)) tNil))) tNil))) (mIsi2 [t, u] fa) := by
  subst hK
  exact ⟨pe_callB call_isiD2 hg hm PyProof.Rows.boot_isinstance (pa_cons ha.pe (pa_cons (pe_tup (pa_cons (pe_bltn hgy hmy hv rfl hy hdb) (pa_cons (pe_bltn hgz hmz hvz rfl hz hdz) pa_nil h2) h1)) pa_nil he2) he) (by decide) (by decide) he hpl,
    se_isi2 [t, u] (by simp) (fun _ _ _ q => q) ha.se⟩
/-! ### calls of defs -/
variable {fA : Addr} {fdA : FuncData} {ps : List Str} {pf : List PyData → Option PyData} {pfb : List PyData → List PyData → Option (PyData × List PyData)} {j : Nat}
theorem dp_call (F : FnOk X.prog X.w X.K X.mg X.base CX0 j fA fdA ps (spP X.K pf)) (hj : j ≤ k) (hr : Room k X.A) (hg : Gl X x) (hm : X.mg x = some (.ref fA)) (hk : PySem.W.keepIn X.K (.ref fA) = true) (hb : Binds X.K fdA ps []) (ha : DA X (e :: es) tr fr)
    (hdb : (x == ("__debug__" : Str)) = false := by decide) (he : starEach (e :: es) X.env = (false, eval e X.env) :: starEach es X.env := by rfl) (hpl : (backTo pos (starEach es X.env)).any (·.1) = false := by rfl) :
    DP X (.Call (.Name x p2) (e :: es) [] pos) (tCall (spP X.K pf) [] E0 tr) (mA pf fr) := ⟨pe_call (F.mono hj) hr hg hm hk hb .nil pass0 ha.pe hdb he hpl, se_call ha.se⟩
theorem dl_call (F : FnOk X.prog X.w X.K X.mg X.base CX0 j fA fdA ps (spL X.K pf)) (hj : j ≤ k) (hr : Room k X.A) (hg : Gl X x) (hm : X.mg x = some (.ref fA)) (hk : PySem.W.keepIn X.K (.ref fA) = true) (hb : Binds X.K fdA ps []) (ha : DA X (e :: es) tr fr)
    (hdb : (x == ("__debug__" : Str)) = false := by decide) (he : starEach (e :: es) X.env = (false, eval e X.env) :: starEach es X.env := by rfl) (hpl : (backTo pos (starEach es X.env)).any (·.1) = false := by rfl) :
    DL X (.Call (.Name x p2) (e :: es) [] pos) (tCall (spL X.K pf) [] E0 tr) (mA pf fr) := ⟨pe_call (F.mono hj) hr hg hm hk hb .nil pass0 ha.pe hdb he hpl, se_callL ha.se⟩
theorem dp_callB {i : Nat} {f0 : M PyData} (F : FnOk X.prog X.w X.K X.mg X.base CX0 j fA fdA ps (spB X.K pfb)) (hj : j ≤ k) (hr : Room k X.A) (hg : Gl X x) (hm : X.mg x = some (.ref fA)) (hk : PySem.W.keepIn X.K (.ref fA) = true) (hb : Binds X.K fdA ps []) (h0 : DQ X e (tVar i) f0) (ha : DA X es tr fr)
    (hdb : (x == ("__debug__" : Str)) = false := by decide) (he : starEach (e :: es) X.env = (false, eval e X.env) :: starEach es X.env := by rfl) (hpl : (backTo pos (starEach es X.env)).any (·.1) = false := by rfl) :
    DP X (.Call (.Name x p2) (e :: es) [] pos) (tCall (spB X.K pfb) [] E0 (tCons (tVar i) tr)) (mCallB i pfb fr) := ⟨pe_call (F.mono hj) hr hg hm hk hb .nil pass0 (pa_cons h0.pe ha.pe he) hdb he hpl, se_callB ha.se⟩
/-! methods of a list of one's own -/
variable {rm : V → List V → Hp → VK → Prop} {gm : List PyData → List PyData → Option (PyData × List PyData)} {nm : Str}
theorem dp_mut {K : PySem.W.Frag} {i : Nat} {f0 : M PyData} (slot : Slot "list" nm id) (hty : typeOf (.builtin id) = pure (.type "method_descriptor")) (hm : MtR X id rm) (om : OpM X.K rm gm) (h0 : DQ X a (tVar i) f0) (ha : DA X (e :: es) tr fr)
    (hbase : attributeBase a nm X.env (eval a X.env) = eval a X.env := by rfl)
    (hfew : ((backTo pos (starEach (e :: es) X.env)).all (fun x => !x.1) && (backToKw pos (keywordEach [] X.env)).all (fun x => x.1.isSome)
      && decide ((e :: es).length + ([] : List Keyword).length + (if ([] : List Keyword).isEmpty then 0 else 1) < 30)) = true := by rfl)
    (hline : (p2.endLine == pos.line) = true := by rfl) (hs : starEach (e :: es) X.env = (false, eval e X.env) :: starEach es X.env := by rfl) (hplain : (backTo pos (starEach es X.env)).any (·.1) = false := by rfl) (hK : X.K = K := by rfl) :
    DP X (.Call (.Attribute a nm p2) (e :: es) [] pos) (tBM K "list" rm (tVar i) tr) (mCallB i gm fr) := by
  subst hK
  exact ⟨pe_bm PySem.F.plainAttrs_list slot hty hm h0.pe ha.pe hbase hfew hline hs hplain, se_mut om ha.se⟩
theorem dp_mut0 {K : PySem.W.Frag} {i : Nat} {f0 : M PyData} (slot : Slot "list" nm id) (hty : typeOf (.builtin id) = pure (.type "method_descriptor")) (hm : MtR X id rm) (om : OpM X.K rm gm) (h0 : DQ X a (tVar i) f0)
    (hbase : attributeBase a nm X.env (eval a X.env) = eval a X.env := by rfl) (hline : (p2.endLine == pos.line) = true := by rfl) (hK : X.K = K := by rfl) :
    DP X (.Call (.Attribute a nm p2) [] [] pos) (tBM0 K "list" rm (tVar i)) (mCallB i gm fNil) := by
  subst hK
  exact ⟨pe_bm0 PySem.F.plainAttrs_list slot hty hm h0.pe hbase hline, se_mut0 om⟩
end
end Pd

namespace Pd
open PySem L2 Evl

section
variable {X : Cx} {k : Nat} {pos p2 p3 p4 spos : Pos} {a b e c tg iter elt : Expr} {es : List Expr} {ta tb te tk : TE} {fa fb fe fk : M PyData} {tr : TA} {fr : M (List PyData)} {tc td tt : TT} {fc fd ft : M Bool} {x y : Str} {wi : TI} {fi : M (List PyData)}
/-! ### walks -/
theorem di_seq {K : PySem.W.Frag} (h : DP X e te fe) (hK : X.K = K := by rfl) : DI X tg e (iSeqB K te) (mI gSeq fe) := by
  subst hK
  exact ⟨pi_seqB h.pe, si_seqB h.se⟩
theorem di_rng1 (hg : Gl X "range") (hm : X.mg "range" = none) (ha : DA X [a] tr fr) (hs : starEach [a] X.env = [(false, eval a X.env)] := by rfl) : DI X tg (.Call (.Name "range" p2) [a] [] pos) (iRng1 tr) (mIA gRng1 fr) := ⟨pi_range1 hg hm ha.pe hs, si_rng1 ha.se⟩
theorem di_rng2 (hg : Gl X "range") (hm : X.mg "range" = none) (ha : DA X [a, b] tr fr) (hs : starEach [a, b] X.env = [(false, eval a X.env), (false, eval b X.env)] := by rfl) (hs2 : starEach [b] X.env = [(false, eval b X.env)] := by rfl) : DI X tg (.Call (.Name "range" p2) [a, b] [] pos) (iRng2 tr) (mIA gRng2 fr) :=
  ⟨pi_range2 hg hm ha.pe hs hs2, si_rng2 ha.se⟩
theorem di_rng3 (hg : Gl X "range") (hm : X.mg "range" = none) (ha : DA X [a, b, c] tr fr) (hs : starEach [a, b, c] X.env = (false, eval a X.env) :: starEach [b, c] X.env := by rfl) (hpl : (backTo pos (starEach [b, c] X.env)).any (·.1) = false := by rfl) : DI X tg (.Call (.Name "range" p2) [a, b, c] [] pos) (iRng3 tr) (mIA gRng3 fr) :=
  ⟨pi_range3 hg hm ha.pe hs hpl, si_rng3 ha.se⟩
theorem di_enum {K : PySem.W.Frag} {elts : List Expr} {kk : Nat} {tpos : Pos} (hg : Gl X "enumerate") (hm : X.mg "enumerate" = none) (ha : DA X [e] tr fr) (hs : starEach [e] X.env = [(false, eval e X.env)] := by rfl) (hK : X.K = K := by rfl) : DI X (.Tuple elts kk tpos) (.Call (.Name "enumerate" p2) [e] [] pos) (iEnumB K tr) (mIA gEnum fr) := by
  subst hK
  exact ⟨pi_enumB hg hm ha.pe hs, si_enum ha.se⟩
theorem di_zip {K : PySem.W.Frag} {elts : List Expr} {kk : Nat} {tpos : Pos} (hg : Gl X "zip") (hm : X.mg "zip" = none) (ha : DA X [a, b] tr fr) (hs : starEach [a, b] X.env = (false, eval a X.env) :: starEach [b] X.env := by rfl) (hpl : (backTo pos (starEach [b] X.env)).any (·.1) = false := by rfl) (hK : X.K = K := by rfl) :
    DI X (.Tuple elts kk tpos) (.Call (.Name "zip" p2) [a, b] [] pos) (iZipB K tr) (mIA gZip fr) := by
  subst hK
  exact ⟨pi_zipB hg hm ha.pe hs hpl, si_zip ha.se⟩
/-! ### targets -/
theorem dg_name (i : Nat) (hN : X.N.Nodup) (hi : X.N[i]? = some x := by rfl) (hx : Loc X.env.scope x := by first | exact Or.inl rfl | exact Or.inr rfl) (hf : X.fn x = true ∨ X.env.scope.names.lookup x = some .local := by first | exact .inl rfl | exact .inr rfl) : DG X (.Name x pos) [i] (gName i) (tgName i) := ⟨pg_name hN hi hx hf, sg_name i⟩
theorem dgs_nil : DGs X [] [] gNil tgNil := ⟨pgs_nil, sgs_nil⟩
theorem dgs_cons {js ks : List Nat} {g : TG} {u : TGs} {f : PyData → Env → Option Env} {h : List PyData → Env → Option Env} (hg : DG X e js g f) (hu : DGs X es ks u h) (hs : (assignEach (e :: es) X.env).map (·.2) = assign e X.env :: (assignEach es X.env).map (·.2) := by rfl) : DGs X (e :: es) (js ++ ks) (gCons g u) (tgCons f h) := ⟨pgs_cons hg.pe hu.pe hs, sgs_cons hg.se hu.se⟩
theorem dg_tup {K : PySem.W.Frag} {js : List Nat} {u : TGs} {h : List PyData → Env → Option Env} {kk : Nat} (n : Nat) (hc : X.calm = true) (hu : DGs X es js u h) (hn : (assignEach es X.env).length = n := by rfl) (hst : (assignEach es X.env).findIdx? (·.1) = none := by rfl) (hK : X.K = K := by rfl) : DG X (.Tuple es kk pos) js (gTup K n u) (tgTup n h) := by
  subst hK
  exact ⟨pg_tup hc hu.pe hn hst, sg_tup hu.se⟩
/-! ### tests of a clause -/
def fYes : M Bool := mret true
theorem se_yes {K : PySem.W.Frag} : SeT K tYes fYes := fun B G H σ env b env' so e Q k => by
  cases e
  exact k G H (Stp.refl so)
theorem dts_nil : DTs X [] tYes fYes := ⟨pts_nil, se_yes⟩
theorem dts_one (h : DT X c tc fc) : DTs X [c] tc fc := ⟨pts_one h.pe, h.se⟩
/-! ### comprehensions -/
variable {ifs ifs1 : List Expr} {scope : Scope} {own : List (Str × Nat)} {g g1 : TG} {js js1 : List Nat} {fg fg1 : PyData → Env → Option Env} {tg1 iter1 : Expr} {wi1 : TI} {fi1 : M (List PyData)} {tt1 : TT} {ft1 : M Bool} {vs1 : List Nat} {i : Nat}
theorem dl_lc (hc : X.calm = true) (hN : X.N.Nodup) (ok : BlkOk X.N X.env.scope scope own) (hi : DI X tg iter wi fi)
    (hg : ∀ (s : Shared) (H : Hp) (C : Addr) (cl : List (Str × Addr)) (fp : List Addr), DG (X.blk s H scope (compEnvC scope cl C X.env) fp) tg js g fg) (hj : ∀ j, j ∈ js → j ∈ own.map (·.2))
    (ht : ∀ (s : Shared) (H : Hp) (C : Addr) (cl : List (Str × Addr)) (fp : List Addr), DTs (X.blk s H scope (compEnvC scope cl C X.env) fp) ifs tt ft)
    (he : ∀ (s : Shared) (H : Hp) (C : Addr) (cl : List (Str × Addr)) (fp : List Addr), DP (X.blk s H scope (compEnvC scope cl C X.env) fp) elt te fe) (hs : ∀ x, foldedSetIterable iter X.env x = pure x := by intro _; rfl) :
    DL X (.ListComp elt [⟨tg, iter, ifs, 0⟩] scope pos) (tLc wi g tt te (own.map (·.2))) (fLc (own.map (·.2)) fi fg ft fe) :=
  ⟨pe_lc hc hN hi.pe ok (fun s H C cl fp => (hg s H C cl fp).pe) (fun s H C cl fp => (ht s H C cl fp).pe) (fun s H C cl fp => (he s H C cl fp).pe) hs,
    se_lc hi.se (hg X.s_0 X.H_0 0 [] []).se hj (ht X.s_0 X.H_0 0 [] []).se (he X.s_0 X.H_0 0 [] []).se⟩
theorem dp_dc {kx : Expr} (hc : X.calm = true) (hN : X.N.Nodup) (ok : BlkOk X.N X.env.scope scope own) (hi : DI X tg iter wi fi)
    (hg : ∀ (s : Shared) (H : Hp) (C : Addr) (cl : List (Str × Addr)) (fp : List Addr), DG (X.blk s H scope (compEnvC scope cl C X.env) fp) tg js g fg) (hj : ∀ j, j ∈ js → j ∈ own.map (·.2))
    (ht : ∀ (s : Shared) (H : Hp) (C : Addr) (cl : List (Str × Addr)) (fp : List Addr), DTs (X.blk s H scope (compEnvC scope cl C X.env) fp) ifs tt ft)
    (hk : ∀ (s : Shared) (H : Hp) (C : Addr) (cl : List (Str × Addr)) (fp : List Addr), DP (X.blk s H scope (compEnvC scope cl C X.env) fp) kx tk fk)
    (he : ∀ (s : Shared) (H : Hp) (C : Addr) (cl : List (Str × Addr)) (fp : List Addr), DP (X.blk s H scope (compEnvC scope cl C X.env) fp) elt te fe) (hs : ∀ x, foldedSetIterable iter X.env x = pure x := by intro _; rfl) :
    DP X (.DictComp kx elt [⟨tg, iter, ifs, 0⟩] scope pos) (tDc wi g tt tk te (own.map (·.2))) (fDc (own.map (·.2)) fi fg ft fk fe) :=
  ⟨pe_dc hc hN hi.pe ok (fun s H C cl fp => (hg s H C cl fp).pe) (fun s H C cl fp => (ht s H C cl fp).pe) (fun s H C cl fp => (hk s H C cl fp).pe) (fun s H C cl fp => (he s H C cl fp).pe) hs,
    se_dc hi.se (hg X.s_0 X.H_0 0 [] []).se hj (ht X.s_0 X.H_0 0 [] []).se (hk X.s_0 X.H_0 0 [] []).se (he X.s_0 X.H_0 0 [] []).se⟩
theorem dl_lc2 (vs1 : List Nat) (hc : X.calm = true) (hN : X.N.Nodup) (ok : BlkOk X.N X.env.scope scope own) (hv : ∀ i ∈ vs1, i ∈ own.map (·.2)) (hi : DI X tg iter wi fi)
    (hg : ∀ (s : Shared) (H : Hp) (C : Addr) (cl : List (Str × Addr)) (fp : List Addr), DG (X.blk s H scope (compEnvC scope cl C X.env) fp) tg js g fg) (hj : ∀ j, j ∈ js → j ∈ own.map (·.2))
    (ht : ∀ (s : Shared) (H : Hp) (C : Addr) (cl : List (Str × Addr)) (fp : List Addr), DTs (X.blk s H scope (compEnvC scope cl C X.env) fp) ifs tt ft)
    (hi1 : ∀ (s : Shared) (H : Hp) (C : Addr) (cl : List (Str × Addr)) (fp : List Addr), DI (X.blk s H scope (compEnvC scope cl C X.env) fp) tg1 iter1 wi1 fi1)
    (hg1 : ∀ (s : Shared) (H : Hp) (C : Addr) (cl : List (Str × Addr)) (fp : List Addr), DG (X.blk s H scope (compEnvC scope cl C X.env) fp) tg1 js1 g1 fg1) (hj1 : ∀ j, j ∈ js1 → j ∈ vs1)
    (ht1 : ∀ (s : Shared) (H : Hp) (C : Addr) (cl : List (Str × Addr)) (fp : List Addr), DTs (X.blk s H scope (compEnvC scope cl C X.env) fp) ifs1 tt1 ft1)
    (he : ∀ (s : Shared) (H : Hp) (C : Addr) (cl : List (Str × Addr)) (fp : List Addr), DP (X.blk s H scope (compEnvC scope cl C X.env) fp) elt te fe) (hs : ∀ x, foldedSetIterable iter X.env x = pure x := by intro _; rfl) (hs1 : ∀ env x, foldedSetIterable iter1 env x = pure x := by intro _ _; rfl) :
    DL X (.ListComp elt [⟨tg, iter, ifs, 0⟩, ⟨tg1, iter1, ifs1, 0⟩] scope pos) (tLc2 wi g tt wi1 g1 tt1 te (own.map (·.2)) vs1) (fLc2 (own.map (·.2)) vs1 fi fg ft fi1 fg1 ft1 fe) :=
  ⟨pe_lc2 hc hN hi.pe ok hv (fun s H C cl fp => (hg s H C cl fp).pe) (fun s H C cl fp => (ht s H C cl fp).pe) (fun s H C cl fp => (hi1 s H C cl fp).pe) (fun s H C cl fp => (hg1 s H C cl fp).pe) (fun s H C cl fp => (ht1 s H C cl fp).pe) (fun s H C cl fp => (he s H C cl fp).pe) hs hs1,
    se_lc2 hi.se (hg X.s_0 X.H_0 0 [] []).se hj (ht X.s_0 X.H_0 0 [] []).se (hi1 X.s_0 X.H_0 0 [] []).se (hg1 X.s_0 X.H_0 0 [] []).se hj1 hv (ht1 X.s_0 X.H_0 0 [] []).se (he X.s_0 X.H_0 0 [] []).se⟩
/-! ### statements -/
variable {t u : TS} {f h : M Fl} {st : Stmt} {rest body : List Stmt}
theorem db_nil : DB X [] tNext fNx := ⟨pss_nil, se_next⟩
theorem db_cons (h1 : DS X st t f) (h2 : DB X rest u h) : DB X (st :: rest) (tSeq t u) (fSeq f h) := ⟨pss_cons h1.pe h2.pe, se_seq h1.se h2.se⟩
theorem db_one (h1 : DS X st t f) : DB X [st] t f := ⟨pss_one h1.pe, h1.se⟩
def fNone : M Fl := fun _ => none
theorem ds_never : DS X st tNever fNone := ⟨ps_never, se_never⟩
theorem ds_pass : DS X (.Pass pos) tNext fNx := ⟨ps_pass, se_next⟩
theorem ds_break : DS X (.Break pos) tBreak (mret .bk) := ⟨ps_break, se_break⟩
theorem ds_cont : DS X (.Continue pos) tCont (mret .ct) := ⟨ps_continue, se_cont⟩
theorem ds_doc {z j pos'} : DS X (.Expr (.Constant (.str z) j pos) pos') tNext fNx := ⟨ps_doc, se_next⟩
theorem ds_expr (he : DP X e te fe) (hs : swapsWith e none pos.line X.env = pure false := by rfl) : DS X (.Expr e pos) (tDrop te) (fDrop fe) := ⟨ps_expr he.pe hs, se_drop he.se⟩
theorem ds_ret (he : DP X e te fe) : DS X (.Return (some e) pos) (tRet te) (fRet fe) := ⟨ps_ret he.pe, se_ret he.se⟩
theorem ds_retF (he : DL X e te fe) : DS X (.Return (some e) pos) (tRet te) (fRetF fe) := ⟨ps_ret he.pe, se_retF he.se⟩
theorem ds_retN : DS X (.Return none pos) tRetN (mret (.rt .none)) := ⟨ps_retN, se_retN⟩
theorem ds_if (hc : DT X c tc fc) (ha : DB X body t f) (hb : DB X rest u h) : DS X (.If c body rest pos) (tIfS tc t u) (mIte fc f h) := ⟨ps_if hc.pe ha.pe hb.pe, se_ifS hc.se ha.se hb.se⟩
theorem ds_while (hp : PassesOwn (model X.prog X.w) X.A X.env X.xe) (hc : DT X c tc fc) (hb : DB X body t f) : DS X (.While c body [] pos) (tWhile tc t) (fWhile fc f) := ⟨ps_while hp hc.pe hb.pe, se_while hc.se hb.se⟩
theorem ds_for (hp : PassesOwn (model X.prog X.w) X.A X.env X.xe) (hc : X.calm = true) (hi : DI X tg iter wi fi) (hg : DG X tg js g fg) (hb : DB X body t f) (hs : ∀ x, foldedSetIterable iter X.env x = pure x := by intro _; rfl) : DS X (.For tg iter body [] pos) (tFor wi g t) (fFor fi fg f) := ⟨ps_for hp hc hi.pe hg.pe hb.pe hs, se_for hi.se hg.se hb.se⟩
theorem ds_set (i : Nat) (hN : X.N.Nodup) (he : DP X e te fe) (hi : X.N[i]? = some x := by rfl) (hx : Loc X.env.scope x := by first | exact Or.inl rfl | exact Or.inr rfl) (hs : swapsWith e (some (.Name x p2)) pos.line X.env = pure false := by rfl) (hf : X.fn x = true ∨ X.env.scope.names.lookup x = some .local := by first | exact .inl rfl | exact .inr rfl) :
    DS X (.Assign [.Name x p2] e pos) (tAsg te (gName i)) (fSet i fe) := ⟨ps_set hN hi hx he.pe hs hf, se_set he.se⟩
theorem ds_setL (i : Nat) (hN : X.N.Nodup) (he : DL X e te fe) (hi : X.N[i]? = some x := by rfl) (hx : Loc X.env.scope x := by first | exact Or.inl rfl | exact Or.inr rfl) (hs : swapsWith e (some (.Name x p2)) pos.line X.env = pure false := by rfl) (hf : X.fn x = true ∨ X.env.scope.names.lookup x = some .local := by first | exact .inl rfl | exact .inr rfl) :
    DS X (.Assign [.Name x p2] e pos) (tAsg te (gName i)) (fSetL i fe) := ⟨ps_set hN hi hx he.pe hs hf, se_setL he.se⟩
theorem ds_asg (he : DP X e te fe) (hg : DG X tg js g fg) (hs : swapsWithSole [tg] e pos.line X.env = pure false := by rfl) (hw : swappedStores [tg] e X.env = pure none := by rfl) (h1 : (assignEach [tg] X.env).map (·.2) = [assign tg X.env] := by rfl) : DS X (.Assign [tg] e pos) (tAsg te g) (fAsg fe fg) := ⟨ps_asg he.pe hg.pe hs hw h1, se_asg he.se hg.se⟩
theorem ds_setIt {i : Nat} {f0 : M PyData} (ho : DQ X a (tVar i) f0) (hi : DP X b tb fb) (he : DP X e te fe) (hs : swapsWithSole [.Subscript a b p2] e pos.line X.env = pure false := by rfl) (hw : swappedStores [.Subscript a b p2] e X.env = pure none := by rfl)
    (ha : ∀ v, assign (.Subscript a b p2) X.env v = (do
      let ov ← holding [v] (eval a X.env)
      let iv ← holding [v, ov] (eval b X.env)
      standAt p2
      holding [v, ov, iv] (setItem ov iv v)
      release [v, ov, iv] []) := by intro _; rfl) : DS X (.Assign [.Subscript a b p2] e pos) (tAsg te (L2.gSub (tVar i) tb rSetL)) (fSetIt i fb fe) := ⟨ps_asg he.pe (pg_sub ho.pe hi.pe set_list ha) hs hw, se_setIt hi.se he.se⟩
theorem ds_augIt {i : Nat} {f0 : M PyData} {op : Operator} {ff : Int → Int → Int} (hp : PIp X op (ipI ff)) (ho : DQ X a (tVar i) f0) (hi : DP X b tb fb) (he : DP X e te fe)
    (ha : ∀ ov iv new, augStore b ov iv new = (do holding [new, ov, iv] (setItem ov iv new); release [new, ov, iv] []; pure .next) := by intros; rfl) : DS X (.AugAssign (.Subscript a b p2) op e pos) (tAugS (tVar i) tb te rGetL (ipI ff) rSetL) (fAugIt i ff fb fe) :=
  ⟨ps_augS ho.pe hi.pe get_list he.pe hp set_list ha, se_augIt hi.se he.se⟩
theorem ds_aug (i : Nat) {op : Operator} {ff : Int → Int → Int} (hp : PIp X op (ipI ff)) (hN : X.N.Nodup) (he : DP X e te fe) (hi : X.N[i]? = some x := by rfl) (hx : Loc X.env.scope x := by first | exact Or.inl rfl | exact Or.inr rfl) (hf : X.fn x = true ∨ X.env.scope.names.lookup x = some .local := by first | exact .inl rfl | exact .inr rfl) :
    DS X (.AugAssign (.Name x p2) op e pos) (tAug i te (ipI ff)) (fAug i ff fe) := ⟨ps_aug hN hi hx he.pe hp hf, se_aug he.se⟩
/-- a value of the kind that is asked -/
inductive DV (X : Cx) : Bool → Expr → TE → M PyData → Prop
  | p {e : Expr} {t : TE} {f : M PyData} (h : DP X e t f) : DV X false e t f
  | l {e : Expr} {t : TE} {f : M PyData} (h : DL X e t f) : DV X true e t f
theorem DV.pe {o : Bool} {e : Expr} {t : TE} {f : M PyData} (h : DV X o e t f) : PE X e t := by
  cases h with
  | p h => exact h.pe
  | l h => exact h.pe
theorem DV.se {o : Bool} {e : Expr} {t : TE} {f : M PyData} (h : DV X o e t f) : SeV X.K o t f := by
  cases h with
  | p h => exact h.se
  | l h => exact h.se
theorem ds_par (i j : Nat) {o1 o2 : Bool} {kt k2 : Nat} {pt2 pt : Pos} (hc : X.calm = true) (hN : X.N.Nodup) (ha : DV X o1 a ta fa) (hb : DV X o2 b tb fb) (hij : i ≠ j := by decide) (hi : X.N[i]? = some x := by rfl) (hj : X.N[j]? = some y := by rfl)
    (hx : X.env.scope.names.lookup x = some .local := by rfl) (hy : X.env.scope.names.lookup y = some .local := by rfl) (hw : swappedStores [.Tuple [.Name x p2, .Name y p3] kt pt] (.Tuple [a, b] k2 pt2) X.env = pure (some [x, y]) := by rfl)
    (hs : swapsWithSole [.Tuple [.Name x p2, .Name y p3] kt pt] (.Tuple [a, b] k2 pt2) pos.line X.env = pure false := by rfl)
    (h1 : starEach [a, b] X.env = (false, eval a X.env) :: starEach [b] X.env := by rfl) (h2 : starEach [b] X.env = (false, eval b X.env) :: starEach [] X.env := by rfl) :
    DS X (.Assign [.Tuple [.Name x p2, .Name y p3] kt pt] (.Tuple [a, b] k2 pt2) pos) (tPar i j (tCons ta (tCons tb tNil))) (fPar i j o1 o2 fa fb) :=
  ⟨ps_par hc hN hi hj hij hx hy (pa_cons ha.pe (pa_cons hb.pe pa_nil h2) h1) hw hs, se_par ha.se hb.se⟩
theorem ds_setLc (i : Nat) (hc : X.calm = true) (hN : X.N.Nodup) (ok : BlkOk X.N X.env.scope scope own) (hi : DI X tg iter wi fi)
    (hg : ∀ (s : Shared) (H : Hp) (C : Addr) (cl : List (Str × Addr)) (fp : List Addr), DG (X.blk s H scope (compEnvC scope cl C X.env) fp) tg js g fg) (hj : ∀ j, j ∈ js → j ∈ own.map (·.2))
    (ht : ∀ (s : Shared) (H : Hp) (C : Addr) (cl : List (Str × Addr)) (fp : List Addr), DTs (X.blk s H scope (compEnvC scope cl C X.env) fp) ifs tt ft)
    (he : ∀ (s : Shared) (H : Hp) (C : Addr) (cl : List (Str × Addr)) (fp : List Addr), DP (X.blk s H scope (compEnvC scope cl C X.env) fp) elt te fe) (hs : ∀ x, foldedSetIterable iter X.env x = pure x := by intro _; rfl)
    (hy : X.N[i]? = some y := by rfl) (hyl : X.env.scope.names.lookup y = some .local := by rfl) (hsw : swapsWith (.ListComp elt [⟨tg, iter, ifs, 0⟩] scope pos) (some (.Name y p2)) spos.line X.env = pure true := by rfl) :
    DS X (.Assign [.Name y p2] (.ListComp elt [⟨tg, iter, ifs, 0⟩] scope pos) spos) (tAsg (tLc wi g tt te (own.map (·.2))) (gName i)) (fSet i (fLc (own.map (·.2)) fi fg ft fe)) :=
  ⟨ps_setLc hc hN hy hyl hsw hi.pe ok (fun s H C cl fp => (hg s H C cl fp).pe) (fun s H C cl fp => (ht s H C cl fp).pe) (fun s H C cl fp => (he s H C cl fp).pe) hs,
    se_set (se_lc hi.se (hg X.s_0 X.H_0 0 [] []).se hj (ht X.s_0 X.H_0 0 [] []).se (he X.s_0 X.H_0 0 [] []).se).p⟩
theorem ds_setLcL (i : Nat) (hc : X.calm = true) (hN : X.N.Nodup) (ok : BlkOk X.N X.env.scope scope own) (hi : DI X tg iter wi fi)
    (hg : ∀ (s : Shared) (H : Hp) (C : Addr) (cl : List (Str × Addr)) (fp : List Addr), DG (X.blk s H scope (compEnvC scope cl C X.env) fp) tg js g fg) (hj : ∀ j, j ∈ js → j ∈ own.map (·.2))
    (ht : ∀ (s : Shared) (H : Hp) (C : Addr) (cl : List (Str × Addr)) (fp : List Addr), DTs (X.blk s H scope (compEnvC scope cl C X.env) fp) ifs tt ft)
    (he : ∀ (s : Shared) (H : Hp) (C : Addr) (cl : List (Str × Addr)) (fp : List Addr), DP (X.blk s H scope (compEnvC scope cl C X.env) fp) elt te fe) (hs : ∀ x, foldedSetIterable iter X.env x = pure x := by intro _; rfl)
    (hy : X.N[i]? = some y := by rfl) (hyl : X.env.scope.names.lookup y = some .local := by rfl) (hsw : swapsWith (.ListComp elt [⟨tg, iter, ifs, 0⟩] scope pos) (some (.Name y p2)) spos.line X.env = pure true := by rfl) :
    DS X (.Assign [.Name y p2] (.ListComp elt [⟨tg, iter, ifs, 0⟩] scope pos) spos) (tAsg (tLc wi g tt te (own.map (·.2))) (gName i)) (fSetL i (fLc (own.map (·.2)) fi fg ft fe)) :=
  ⟨ps_setLc hc hN hy hyl hsw hi.pe ok (fun s H C cl fp => (hg s H C cl fp).pe) (fun s H C cl fp => (ht s H C cl fp).pe) (fun s H C cl fp => (he s H C cl fp).pe) hs,
    se_setL (se_lc hi.se (hg X.s_0 X.H_0 0 [] []).se hj (ht X.s_0 X.H_0 0 [] []).se (he X.s_0 X.H_0 0 [] []).se)⟩
theorem ds_setLc2 (i : Nat) (vs1 : List Nat) (hc : X.calm = true) (hN : X.N.Nodup) (ok : BlkOk X.N X.env.scope scope own) (hv : ∀ i ∈ vs1, i ∈ own.map (·.2)) (hi : DI X tg iter wi fi)
    (hg : ∀ (s : Shared) (H : Hp) (C : Addr) (cl : List (Str × Addr)) (fp : List Addr), DG (X.blk s H scope (compEnvC scope cl C X.env) fp) tg js g fg) (hj : ∀ j, j ∈ js → j ∈ own.map (·.2))
    (ht : ∀ (s : Shared) (H : Hp) (C : Addr) (cl : List (Str × Addr)) (fp : List Addr), DTs (X.blk s H scope (compEnvC scope cl C X.env) fp) ifs tt ft)
    (hi1 : ∀ (s : Shared) (H : Hp) (C : Addr) (cl : List (Str × Addr)) (fp : List Addr), DI (X.blk s H scope (compEnvC scope cl C X.env) fp) tg1 iter1 wi1 fi1)
    (hg1 : ∀ (s : Shared) (H : Hp) (C : Addr) (cl : List (Str × Addr)) (fp : List Addr), DG (X.blk s H scope (compEnvC scope cl C X.env) fp) tg1 js1 g1 fg1) (hj1 : ∀ j, j ∈ js1 → j ∈ vs1)
    (ht1 : ∀ (s : Shared) (H : Hp) (C : Addr) (cl : List (Str × Addr)) (fp : List Addr), DTs (X.blk s H scope (compEnvC scope cl C X.env) fp) ifs1 tt1 ft1)
    (he : ∀ (s : Shared) (H : Hp) (C : Addr) (cl : List (Str × Addr)) (fp : List Addr), DP (X.blk s H scope (compEnvC scope cl C X.env) fp) elt te fe) (hs : ∀ x, foldedSetIterable iter X.env x = pure x := by intro _; rfl) (hs1 : ∀ env x, foldedSetIterable iter1 env x = pure x := by intro _ _; rfl)
    (hy : X.N[i]? = some y := by rfl) (hyl : X.env.scope.names.lookup y = some .local := by rfl) (hsw : swapsWith (.ListComp elt [⟨tg, iter, ifs, 0⟩, ⟨tg1, iter1, ifs1, 0⟩] scope pos) (some (.Name y p2)) spos.line X.env = pure true := by rfl) :
    DS X (.Assign [.Name y p2] (.ListComp elt [⟨tg, iter, ifs, 0⟩, ⟨tg1, iter1, ifs1, 0⟩] scope pos) spos) (tAsg (tLc2 wi g tt wi1 g1 tt1 te (own.map (·.2)) vs1) (gName i)) (fSet i (fLc2 (own.map (·.2)) vs1 fi fg ft fi1 fg1 ft1 fe)) :=
  ⟨ps_setLc2 hc hN hy hyl hsw hi.pe ok hv (fun s H C cl fp => (hg s H C cl fp).pe) (fun s H C cl fp => (ht s H C cl fp).pe) (fun s H C cl fp => (hi1 s H C cl fp).pe) (fun s H C cl fp => (hg1 s H C cl fp).pe) (fun s H C cl fp => (ht1 s H C cl fp).pe) (fun s H C cl fp => (he s H C cl fp).pe) hs hs1,
    se_set (se_lc2 hi.se (hg X.s_0 X.H_0 0 [] []).se hj (ht X.s_0 X.H_0 0 [] []).se (hi1 X.s_0 X.H_0 0 [] []).se (hg1 X.s_0 X.H_0 0 [] []).se hj1 hv (ht1 X.s_0 X.H_0 0 [] []).se (he X.s_0 X.H_0 0 [] []).se).p⟩
end
end Pd

namespace Pd
open PySem L2 Evl

/-- the def hands back a list of its own -/
def fRetOw (i : Nat) : M Fl := fun e => match e[i]? with
  | some (.ow ds) => some (.rf ds, e)
  | _ => none
theorem se_retOw {K : PySem.W.Frag} {i : Nat} : SeS K (tRet (tVar i)) (fRetOw i) := fun B G H σ env fl env' so e D k => by
  unfold fRetOw at e
  split at e
  · rename_i ds q
    cases e
    obtain ⟨a, ws, z1, z2, z3, r, z5, z6⟩ := so.sl i _ q
    exact ⟨_, z1, k a ws σ G H so (Ex.refl G) z5 z2 z3 r⟩
  · cases e
theorem ds_retOw {X : Cx} {e : Expr} {i : Nat} {f0 : M PyData} {pos : Pos} (h : DQ X e (tVar i) f0) : DS X (.Return (some e) pos) (tRet (tVar i)) (fRetOw i) := ⟨ps_ret h.pe, se_retOw⟩

/-- a def of the text that may be called -/
structure CalD (P : Program) (w : World) (K : PySem.W.Frag) (mg : Str → Option Value) (base : Heap) (x : Str) (j : Nat) (sp : Sp) : Prop where
  ex : ∃ f fd ps, FnOk P w K mg base CX0 j f fd ps sp ∧ mg x = some (.ref f) ∧ PySem.W.keepIn K (.ref f) = true ∧ Binds K fd ps []
section
variable {X : Cx} {k j : Nat} {pos p2 : Pos} {e : Expr} {es : List Expr} {tr : TA} {fr : M (List PyData)} {x : Str} {pf : List PyData → Option PyData} {pfb : List PyData → List PyData → Option (PyData × List PyData)}
theorem dp_c {K : PySem.W.Frag} (C : CalD X.prog X.w X.K X.mg X.base x j (spP K pf)) (hj : j ≤ k) (hr : Room k X.A) (hg : Gl X x) (ha : DA X (e :: es) tr fr)
    (hdb : (x == ("__debug__" : Str)) = false := by decide) (he : starEach (e :: es) X.env = (false, eval e X.env) :: starEach es X.env := by rfl) (hpl : (backTo pos (starEach es X.env)).any (·.1) = false := by rfl) (hK : X.K = K := by rfl) :
    DP X (.Call (.Name x p2) (e :: es) [] pos) (tCall (spP K pf) [] E0 tr) (mA pf fr) := by
  subst hK
  obtain ⟨f, fd, ps, F, hm, hk, hb⟩ := C.ex
  exact dp_call F hj hr hg hm hk hb ha hdb he hpl
theorem dl_c {K : PySem.W.Frag} (C : CalD X.prog X.w X.K X.mg X.base x j (spL K pf)) (hj : j ≤ k) (hr : Room k X.A) (hg : Gl X x) (ha : DA X (e :: es) tr fr)
    (hdb : (x == ("__debug__" : Str)) = false := by decide) (he : starEach (e :: es) X.env = (false, eval e X.env) :: starEach es X.env := by rfl) (hpl : (backTo pos (starEach es X.env)).any (·.1) = false := by rfl) (hK : X.K = K := by rfl) :
    DL X (.Call (.Name x p2) (e :: es) [] pos) (tCall (spL K pf) [] E0 tr) (mA pf fr) := by
  subst hK
  obtain ⟨f, fd, ps, F, hm, hk, hb⟩ := C.ex
  exact dl_call F hj hr hg hm hk hb ha hdb he hpl
theorem dp_cB {K : PySem.W.Frag} {i : Nat} {f0 : M PyData} (C : CalD X.prog X.w X.K X.mg X.base x j (spB K pfb)) (hj : j ≤ k) (hr : Room k X.A) (hg : Gl X x) (h0 : DQ X e (tVar i) f0) (ha : DA X es tr fr)
    (hdb : (x == ("__debug__" : Str)) = false := by decide) (he : starEach (e :: es) X.env = (false, eval e X.env) :: starEach es X.env := by rfl) (hpl : (backTo pos (starEach es X.env)).any (·.1) = false := by rfl) (hK : X.K = K := by rfl) :
    DP X (.Call (.Name x p2) (e :: es) [] pos) (tCall (spB K pfb) [] E0 (tCons (tVar i) tr)) (mCallB i pfb fr) := by
  subst hK
  obtain ⟨f, fd, ps, F, hm, hk, hb⟩ := C.ex
  exact dp_callB F hj hr hg hm hk hb h0 ha hdb he hpl
end
/-- the built-in names are free in the text -/
structure Blt (mg : Str → Option Value) : Prop where
  len : mg "len" = none
  sum : mg "sum" = none
  max : mg "max" = none
  min : mg "min" = none
  abs : mg "abs" = none
  int : mg "int" = none
  str : mg "str" = none
  bool : mg "bool" = none
  list : mg "list" = none
  tuple : mg "tuple" = none
  dict : mg "dict" = none
  range : mg "range" = none
  zip : mg "zip" = none
  enumerate : mg "enumerate" = none
  sorted : mg "sorted" = none
  isinstance : mg "isinstance" = none
end Pd

namespace Pd
open PySem L2 Evl PySem.Spec PyProof.Rows
/-! ### zip(*rows), one to three rows: it begins -/
theorem F.typeCall_zip_1' (a : Value) : checkTypeCall "zip" ⟨[a], []⟩ = pure () := by kernel_rfl
theorem F.newCall_zip_1' (a : Value) : checkBuiltinCall "zip.__new__" ⟨[.type "zip", a], []⟩ = pure () := by kernel_rfl
abbrev gzT1 (h : Heap) (o1 : Obj) : Heap := (h.push o1).push { cls := .type "tuple", data := .seq #[.ref h.objs.size] }
abbrev gzO1 (h : Heap) (o1 : Obj) : Heap := (gzT1 h o1).push { cls := .type "tuple", data := .seq #[.none] }
abbrev gzZ1 (h : Heap) (o1 : Obj) : Heap := (gzO1 h o1).push { cls := .type "zip", data := .fields #[.none, .bool false, .bool false, .ref (h.push o1).objs.size, .ref (gzT1 h o1).objs.size] }
theorem meets_zip_newB1 {v1 : Value} {o1 : Obj} {H1 : Heap → Prop} (B1 : Begins v1 o1 H1) :
    Meets (Builtin.«zip.__new__» ⟨[.type "zip", v1], []⟩) (fun _ R s => H1 s.heap ∧
      R (.ok (.ret (.ref (gzO1 s.heap o1).objs.size))) { s with heap := gzZ1 s.heap o1 }) :=
  .of_wp fun prog w A R s h => by
    obtain ⟨hp, g, d, tk, os⟩ := s; obtain ⟨h1, h⟩ := h
    have hsub := sub_zip
    have q1 : ∀ {A' : Around} {E : Value → Shared → Prop} {Q : Value → Shared → Prop}, Q (.ref hp.objs.size) ⟨(hp.push o1), g, d, tk, os⟩ → wpAny (model prog w) A' (pyIter v1) Q E ⟨hp, g, d, tk, os⟩ :=
      fun q => B1.iter prog w _ _ ⟨hp, g, d, tk, os⟩ _ (B1.keeps _ _ h1 fun b o' e => e) q
    wp_walk using q1
    exact ⟨_, rfl, h⟩
section
variable {prog : Program} {w : World} {A : Around} {E : Value → Shared → Prop} {s : Shared}
theorem zip_begins1 {v1 : Value} {o1 : Obj} {H1 : Heap → Prop} {Q : Value → Shared → Prop} (B1 : Begins v1 o1 H1) (h1 : H1 s.heap)
    (h : ∀ h', IsZ h' (s.heap.objs.size + 3) .none false (s.heap.objs.size + 1) (s.heap.objs.size + 2) → IsTn h' (s.heap.objs.size + 1) [.ref s.heap.objs.size] →
      IsTn h' (s.heap.objs.size + 2) [.none] → h'.get? s.heap.objs.size = some o1 → h'.objs.size = s.heap.objs.size + 4 →
      (∀ c o, s.heap.get? c = some o → h'.get? c = some o) → Q (.ref (s.heap.objs.size + 3)) { s with heap := h' }) :
    wpAny (model prog w) A (call (.type "zip") [v1]) Q E s := by
  refine callType_new F.called_zip (by decide) (F.typeCall_zip_1' _) (F.newCall_zip_1' _) (fun obj => F.args_object_init_2 obj _) F.entry_zip_new
    (meets_zip_newB1 B1) ⟨h1, ?_⟩
  have z1 : (s.heap.push o1).objs.size = s.heap.objs.size + 1 := by rw [Heap.size_push]
  have zT : (gzT1 s.heap o1).objs.size = s.heap.objs.size + 2 := by rw [Heap.size_push, z1]
  have zO : (gzO1 s.heap o1).objs.size = s.heap.objs.size + 3 := by rw [Heap.size_push, zT]
  have zZ : (gzZ1 s.heap o1).objs.size = s.heap.objs.size + 4 := by rw [Heap.size_push, zO]
  have gZ : (gzZ1 s.heap o1).get? (gzO1 s.heap o1).objs.size = some { cls := .type "zip", data := .fields #[.none, .bool false, .bool false, .ref (s.heap.push o1).objs.size, .ref (gzT1 s.heap o1).objs.size] } := Heap.get?_push_size _ rfl
  have gO : (gzZ1 s.heap o1).get? (gzT1 s.heap o1).objs.size = some { cls := .type "tuple", data := .seq #[.none] } := Heap.get?_push_of_some _ (Heap.get?_push_size _ rfl)
  have gT : (gzZ1 s.heap o1).get? (s.heap.push o1).objs.size = some { cls := .type "tuple", data := .seq #[.ref s.heap.objs.size] } := Heap.get?_push_of_some _ (Heap.get?_push_of_some _ (Heap.get?_push_size _ rfl))
  have gi : (gzZ1 s.heap o1).get? s.heap.objs.size = some o1 := Heap.get?_push_of_some _ (Heap.get?_push_of_some _ (Heap.get?_push_of_some _ (Heap.get?_push_size _ B1.free)))
  rw [zO, zT, z1] at gZ
  rw [zT] at gO
  rw [z1] at gT
  show _ ∧ _
  rw [zO]
  exact ⟨⟨_, gZ, rfl⟩, h _ gZ gT gO gi zZ fun c o e => Heap.get?_push_of_some _ (Heap.get?_push_of_some _ (Heap.get?_push_of_some _ (Heap.get?_push_of_some _ e)))⟩
/-- what it draws from, laid from address n on -/
def srcN : Nat → List (Addr × Bool) → List Src
  | _, [] => []
  | n, q :: qs => ⟨n, q.1, q.2, #[]⟩ :: srcN (n + 1) qs
theorem srcN_map : ∀ (n : Nat) (qs : List (Addr × Bool)), (srcN n qs).map (fun x => (x.a, x.b)) = qs
  | _, [] => rfl
  | n, q :: qs => by show _ :: _ = _; rw [srcN_map (n + 1) qs]
theorem srcN_len : ∀ (n : Nat) (qs : List (Addr × Bool)), (srcN n qs).length = qs.length
  | _, [] => rfl
  | n, q :: qs => by show _ + 1 = _ + 1; rw [srcN_len (n + 1) qs]
theorem srcN_mem : ∀ (n : Nat) (qs : List (Addr × Bool)) (x : Src), x ∈ srcN n qs → (∃ k : Nat, k < qs.length ∧ x.it = n + k) ∧ (x.a, x.b) ∈ qs
  | _, [], x, h => nomatch h
  | n, q :: qs, x, h => by
    rcases List.mem_cons.mp h with rfl | h
    · exact ⟨⟨0, Nat.succ_pos _, rfl⟩, List.mem_cons_self ..⟩
    · obtain ⟨⟨k, h1, h2⟩, h3⟩ := srcN_mem (n + 1) qs x h
      exact ⟨⟨k + 1, Nat.succ_lt_succ h1, h2.trans (Nat.add_right_comm n 1 k)⟩, List.mem_cons_of_mem _ h3⟩
theorem srcN_nodup : ∀ (n : Nat) (qs : List (Addr × Bool)), ((srcN n qs).map Src.it).Nodup
  | _, [] => List.nodup_nil
  | n, q :: qs => by
    refine List.nodup_cons.mpr ⟨fun h => ?_, srcN_nodup (n + 1) qs⟩
    obtain ⟨x, hx, e⟩ := List.mem_map.mp h
    obtain ⟨⟨k, _, h2⟩, _⟩ := srcN_mem (n + 1) qs x hx
    have e' : n + 1 + k = n := h2.symm.trans e
    exact absurd e' (by omega)
theorem sepN_new {n : Nat} {qs : List (Addr × Bool)} (h : ∀ q ∈ qs, q.1 < n) : SepN (n + qs.length + 2) (n + qs.length) (n + qs.length + 1) (srcN n qs) where
  TIz := fun e => absurd (show n + qs.length = n + qs.length + 2 from e) (by omega)
  TOz := fun e => absurd (show n + qs.length + 1 = n + qs.length + 2 from e) (by omega)
  TITO := fun e => absurd (show n + qs.length = n + qs.length + 1 from e) (by omega)
  nd := srcN_nodup n qs
  itz := fun x hx e => by obtain ⟨⟨k, h1, h2⟩, _⟩ := srcN_mem n qs x hx; exact absurd (show n + k = n + qs.length + 2 from h2.symm.trans e) (by omega)
  itTI := fun x hx e => by obtain ⟨⟨k, h1, h2⟩, _⟩ := srcN_mem n qs x hx; exact absurd (show n + k = n + qs.length from h2.symm.trans e) (by omega)
  itTO := fun x hx e => by obtain ⟨⟨k, h1, h2⟩, _⟩ := srcN_mem n qs x hx; exact absurd (show n + k = n + qs.length + 1 from h2.symm.trans e) (by omega)
  az := fun x hx e => by have := h _ (srcN_mem n qs x hx).2; exact absurd (show Nat.lt (n + qs.length + 2) n from e ▸ this) (fun q => absurd (show n + qs.length + 2 < n from q) (by omega))
  aTO := fun x hx e => by have := h _ (srcN_mem n qs x hx).2; exact absurd (show Nat.lt (n + qs.length + 1) n from e ▸ this) (fun q => absurd (show n + qs.length + 1 < n from q) (by omega))
  ait := fun x hx y hy e => by obtain ⟨⟨k, h1, h2⟩, _⟩ := srcN_mem n qs y hy; have := h _ (srcN_mem n qs x hx).2; exact absurd (show Nat.lt (n + k) n from (e.trans h2) ▸ this) (fun q => absurd (show n + k < n from q) (by omega))
theorem zip_beginsN {qs : List (Addr × Bool)} {its : Addr × Bool → Array Value} {Q : Value → Shared → Prop} (h1 : 1 ≤ qs.length) (h3 : qs.length ≤ 3) (hc : ∀ q ∈ qs, CoB q.2 s.heap q.1 (its q))
    (h : ∀ h', IsZ h' (s.heap.objs.size + qs.length + 2) .none false (s.heap.objs.size + qs.length) (s.heap.objs.size + qs.length + 1) → IsTn h' (s.heap.objs.size + qs.length) ((srcN s.heap.objs.size qs).map fun x => .ref x.it) →
      (∃ us, us.length = qs.length ∧ IsTn h' (s.heap.objs.size + qs.length + 1) us) → (∀ x ∈ srcN s.heap.objs.size qs, ItB x.b h' x.it x.a 0) →
      (∀ c o, s.heap.get? c = some o → h'.get? c = some o) → Q (.ref (s.heap.objs.size + qs.length + 2)) { s with heap := h' }) :
    wpAny (model prog w) A (call (.type "zip") (qs.map fun q => .ref q.1)) Q E s := by
  match qs, h1, h3, hc, h with
  | [(a, b)], _, _, hc, h =>
    refine zip_begins1 (begins_B b a (its (a, b))) (hc _ (.head _)) fun h' hz hTI hTO hi hsz hk => ?_
    refine h h' hz hTI ⟨_, rfl, hTO⟩ (fun x hx => ?_) hk
    simp only [srcN, List.mem_cons, List.not_mem_nil, or_false] at hx
    subst hx
    exact itB_of hi
  | [(a, b), (a2, b2)], _, _, hc, h =>
    refine zip_begins2 (begins_B b a (its (a, b))) (begins_B b2 a2 (its (a2, b2))) (hc _ (.head _)) (hc _ (.tail _ (.head _))) fun h' hz hTI hTO hi hi2 hsz hk => ?_
    refine h h' hz hTI ⟨_, rfl, hTO⟩ (fun x hx => ?_) hk
    simp only [srcN, List.mem_cons, List.not_mem_nil, or_false] at hx
    rcases hx with rfl | rfl
    · exact itB_of hi
    · exact itB_of hi2
  | [(a, b), (a2, b2), (a3, b3)], _, _, hc, h =>
    refine zip_begins3 (begins_B b a (its (a, b))) (begins_B b2 a2 (its (a2, b2))) (begins_B b3 a3 (its (a3, b3))) (hc _ (.head _)) (hc _ (.tail _ (.head _))) (hc _ (.tail _ (.tail _ (.head _)))) fun h' hz hTI hTO hi hi2 hi3 hsz hk => ?_
    refine h h' hz hTI ⟨_, rfl, hTO⟩ (fun x hx => ?_) hk
    simp only [srcN, List.mem_cons, List.not_mem_nil, or_false] at hx
    rcases hx with rfl | rfl | rfl
    · exact itB_of hi
    · exact itB_of hi2
    · exact itB_of hi3
end
/-! ### as an iterator of the book -/
def ItzN (K : PySem.W.Frag) (qs : List (Addr × Bool)) : It :=
  ⟨fun i H => ∀ q ∈ qs, ∃ xs : List V, SqB K q.2 H q.1 xs ∧ i < xs.length,
    fun i H v H' => ∃ (T : Addr) (ws : List V), v = .ref T ∧ H T = none ∧ H' = upd H T (.tup ws) ∧ ws.length = qs.length ∧ (∀ (j : Nat) (q : Addr × Bool) (w : V), qs[j]? = some q → ws[j]? = some w → ∀ xs, SqB K q.2 H q.1 xs → xs[i]? = some w),
    fun i H => (∀ q ∈ qs, ∃ xs : List V, SqB K q.2 H q.1 xs ∧ i ≤ xs.length) ∧ ∃ q ∈ qs, ∃ xs : List V, SqB K q.2 H q.1 xs ∧ i = xs.length⟩
theorem chM {α β : Type} [Inhabited β] {l : List α} {P : α → β → Prop} (h : ∀ x ∈ l, ∃ y, P x y) : ∃ f : α → β, ∀ x ∈ l, P x (f x) := by
  classical
  exact ⟨fun x => if q : x ∈ l then Classical.choose (h x q) else default, fun x q => by show P x (if q : x ∈ l then Classical.choose (h x q) else default); rw [dif_pos q]; exact Classical.choose_spec (h x q)⟩
def setI (f : Src → Array Value) (x : Src) : Src := { x with items := f x }
theorem SepN.setI {z TI TO : Addr} {xs : List Src} (S : SepN z TI TO xs) (f : Src → Array Value) : SepN z TI TO (xs.map (setI f)) := by
  have m : ∀ x ∈ xs.map (Pd.setI f), ∃ y ∈ xs, x.it = y.it ∧ x.a = y.a := fun x hx => by
    obtain ⟨y, hy, rfl⟩ := List.mem_map.mp hx
    exact ⟨y, hy, rfl, rfl⟩
  refine ⟨S.TIz, S.TOz, S.TITO, ?_, fun x hx => ?_, fun x hx => ?_, fun x hx => ?_, fun x hx => ?_, fun x hx => ?_, fun x hx y hy => ?_⟩
  · rw [List.map_map]; exact S.nd
  · obtain ⟨y, hy, e, _⟩ := m x hx; rw [e]; exact S.itz y hy
  · obtain ⟨y, hy, e, _⟩ := m x hx; rw [e]; exact S.itTI y hy
  · obtain ⟨y, hy, e, _⟩ := m x hx; rw [e]; exact S.itTO y hy
  · obtain ⟨y, hy, _, e⟩ := m x hx; rw [e]; exact S.az y hy
  · obtain ⟨y, hy, _, e⟩ := m x hx; rw [e]; exact S.aTO y hy
  · obtain ⟨x', hx', _, e⟩ := m x hx; obtain ⟨y', hy', e', _⟩ := m y hy; rw [e, e']; exact S.ait x' hx' y' hy'
theorem vals_mapN {α : Type} {l : List α} {f : α → V} {g : α → Value} (h : ∀ x ∈ l, RelV (f x) (g x)) : Vals (l.map f) (l.map g) := by
  induction l with
  | nil => exact .nil
  | cons x r ih => exact .cons (h x (List.mem_cons_self ..)) (ih fun y hy => h y (List.mem_cons_of_mem _ hy))
theorem turn_zipN {P : Program} {w : World} {K : PySem.W.Frag} {x0 : Str} {tpos : Pos} {ps : List Src} {z TI TO : Addr} (S : SepN z TI TO ps) (hn : ps ≠ []) (hl : ps.length ≤ 1000) :
    Turn P w K (.Name x0 tpos) (ItzN K (ps.map fun x => (x.a, x.b))) (z :: TI :: TO :: ps.map Src.it) z (fun i h => (∃ f0 fl, IsZ h z f0 fl TI TO ∧ (f0 = .none ∨ ∃ T : Addr, f0 = rawInt T)) ∧ IsTn h TI (ps.map fun x => .ref x.it) ∧ (∃ us, us.length = ps.length ∧ IsTn h TO us) ∧ ∀ x ∈ ps, ItB x.b h x.it x.a i) where
  mem := by simp
  obj := fun i h st c hc => by
    obtain ⟨⟨f0, fl, hz, hf⟩, hTI, ⟨us, hu, hTO⟩, hi⟩ := st
    rcases List.mem_cons.mp hc with q | hc
    · rw [q]; exact ⟨_, hz, fun v q => nomatch q⟩
    rcases List.mem_cons.mp hc with q | hc
    · rw [q]; exact ⟨_, hTI, fun v q => nomatch q⟩
    rcases List.mem_cons.mp hc with q | hc
    · rw [q]; exact ⟨_, hTO, fun v q => nomatch q⟩
    obtain ⟨x, hx, q⟩ := List.mem_map.mp hc
    obtain ⟨o1, e1, _, d1⟩ := (hi x hx).obj
    rw [← q]; exact ⟨o1, e1, fun v q => by rw [d1] at q; cases q⟩
  keep := fun i h h' st k => by
    obtain ⟨⟨f0, fl, hz, hf⟩, hTI, ⟨us, hu, hTO⟩, hi⟩ := st
    exact ⟨⟨f0, fl, k z (by simp) _ hz, hf⟩, k TI (by simp) _ hTI, ⟨us, hu, k TO (by simp) _ hTO⟩, fun x hx => (hi x hx).at fun o q => k x.it (by simp; exact .inr (.inr (.inr ⟨x, hx, rfl⟩))) o q⟩
  item := by
    intro X hP hw hK hc i pins s σ H E I hf st hg
    subst hP hw hK
    obtain ⟨⟨f0, fl, hz, hf0⟩, hTI, ⟨us0, hu0, hTO⟩, hi⟩ := st
    have hg' : ∀ x ∈ ps, ∃ y : List V × List Value, SqB X.K x.b H x.a y.1 ∧ i < y.1.length ∧ Vals y.1 y.2 ∧ CoB x.b s.heap x.a y.2.toArray := fun x hx => by
      obtain ⟨xs, h1, h2⟩ := hg (x.a, x.b) (List.mem_map.mpr ⟨x, hx, rfl⟩)
      obtain ⟨its, rv, p, _⟩ := inv_B I h1
      exact ⟨(xs, its), h1, h2, rv, p⟩
    obtain ⟨f, hfm⟩ := chM hg'
    have hzl : z < s.heap.objs.size := Heap.lt_size hz
    have e1 : (ps.map (setI fun x => (f x).2.toArray)).map (fun x => Value.ref x.it) = ps.map fun x => Value.ref x.it := by rw [List.map_map]; rfl
    have el : (ps.map (setI fun x => (f x).2.toArray)).length = ps.length := by simp
    refine next_zn (i := i) (xs := ps.map (setI fun x => (f x).2.toArray)) (I.ok.hd hc) (S.setI _) hz hf0 (by rw [e1]; exact hTI) ⟨us0, by rw [el]; exact hu0, hTO⟩ (by simpa using hn) (by rw [el]; exact hl) (fun j x hx => ?_) (fun x hx => ?_) fun h' tk f0' fl' z' hf' TI' TO' av hT hsz hk => ?_
    · rw [List.getElem?_map] at hx
      cases hp : ps[j]? with
      | none => rw [hp] at hx; cases hx
      | some y =>
        rw [hp] at hx; cases hx
        have hm := List.mem_of_getElem? hp
        exact ⟨by rw [if_neg (Nat.not_lt_zero j)]; exact hi y hm, (hfm y hm).2.2.2⟩
    · obtain ⟨y, hy, rfl⟩ := List.mem_map.mp hx
      have := (hfm y hy).2.1
      rw [(hfm y hy).2.2.1.length] at this
      show i < (f y).2.toArray.size
      simpa using this
    · refine ⟨_, rfl, ?_⟩
      have hk' : ∀ c o, c ∉ z :: TI :: TO :: ps.map Src.it → s.heap.get? c = some o → h'.get? c = some o := fun c o hb q => by
        refine hk c o (fun e => hb (by simp [e])) (fun e => hb (by simp [e])) (fun x hx e => hb ?_) q
        obtain ⟨y, hy, rfl⟩ := List.mem_map.mp hx
        rw [e]
        exact List.mem_cons_of_mem _ (List.mem_cons_of_mem _ (List.mem_cons_of_mem _ (List.mem_map.mpr ⟨y, hy, rfl⟩)))
      have eg : gotN (ps.map (setI fun x => (f x).2.toArray)) i = ps.map fun x => (f x).2.toArray.getD i .none := by unfold gotN; rw [List.map_map]; rfl
      rw [eg] at hT
      have rel : Vals (ps.map fun x => (f x).1.getD i .non) (ps.map fun x => (f x).2.toArray.getD i .none) := vals_mapN fun x hx => by
        obtain ⟨_, h2, h3, _⟩ := hfm x hx
        obtain ⟨u, hu, ru⟩ := h3.get (List.getElem?_eq_getElem h2)
        obtain ⟨hlu, hu'⟩ := List.getElem?_eq_some_iff.mp hu
        have a1 : (f x).1.getD i .non = (f x).1[i] := by simp [List.getD, h2]
        have a2 : (f x).2.toArray.getD i .none = u := by simp [Array.getD, hlu, hu']
        rw [a1, a2]; exact ru
      have new : ObjOk X.prog X.w (upd H s.heap.objs.size (.tup (ps.map fun x => (f x).1.getD i .non))) h' s.heap.objs.size (.tup (ps.map fun x => (f x).1.getD i .non)) :=
        ⟨by rw [List.length_map, sizeLine_eq]; omega, _, rel, ⟨_, hT, rfl, _, rfl⟩⟩
      have I1 : L2.Inv X pins σ (upd H s.heap.objs.size (.tup (ps.map fun x => (f x).1.getD i .non))) { s with heap := h', toks := tk } :=
        I.turnedNew (t' := tk) (ch := z :: TI :: TO :: ps.map Src.it) hk' hf (Nat.le_refl _) new
      refine wpAny_pure ⟨.ref s.heap.objs.size, _, I1, rfl, ⟨_, _, rfl, I.hok.fresh (Nat.le_refl _), rfl, by simp, fun j q w hq hw xs hxs => ?_⟩, ⟨⟨f0', fl', z', hf'⟩, by rw [e1] at TI'; exact TI', by rw [el] at TO'; exact TO', fun x hx => ?_⟩, fun c hcm => ?_⟩
      · rw [List.getElem?_map] at hq hw
        cases hp : ps[j]? with
        | none => rw [hp] at hq; cases hq
        | some y =>
          rw [hp] at hq hw; cases hq; cases hw
          obtain ⟨h1, h2, _⟩ := hfm y (List.mem_of_getElem? hp)
          rw [inv_Binj I hxs h1]
          simp [List.getD, h2]
      · obtain ⟨j, hj, e⟩ := List.mem_iff_getElem.mp hx
        have hjj : (ps.map (setI fun x => (f x).2.toArray))[j]? = some (setI (fun x => (f x).2.toArray) x) := by rw [List.getElem?_map, List.getElem?_eq_getElem hj, e]; rfl
        have := (av j _ hjj).1
        rw [if_neg (Nat.not_lt_zero j)] at this
        exact this
      · have hlt : c < s.heap.objs.size := by
          rcases List.mem_cons.mp hcm with q | hc
          · rw [q]; exact hzl
          rcases List.mem_cons.mp hc with q | hc
          · rw [q]; exact Heap.lt_size hTI
          rcases List.mem_cons.mp hc with q | hc
          · rw [q]; exact Heap.lt_size hTO
          obtain ⟨x, hx, q⟩ := List.mem_map.mp hc
          obtain ⟨_, e1, _⟩ := (hi x hx).obj
          rw [← q]; exact Heap.lt_size e1
        rw [upd_ne (Nat.ne_of_lt hlt)]
        exact (hf c hcm).1
  done := by
    intro X hP hw hK hc i pins s σ H E I hf st hg
    subst hP hw hK
    obtain ⟨⟨f0, fl, hz, hf0⟩, hTI, ⟨us0, hu0, hTO⟩, hi⟩ := st
    obtain ⟨hg, qe, hqe, xe, hxe, hie⟩ := hg
    have hg' : ∀ x ∈ ps, ∃ y : List V × List Value, SqB X.K x.b H x.a y.1 ∧ i ≤ y.1.length ∧ Vals y.1 y.2 ∧ CoB x.b s.heap x.a y.2.toArray := fun x hx => by
      obtain ⟨xs, h1, h2⟩ := hg (x.a, x.b) (List.mem_map.mpr ⟨x, hx, rfl⟩)
      obtain ⟨its, rv, p, _⟩ := inv_B I h1
      exact ⟨(xs, its), h1, h2, rv, p⟩
    obtain ⟨f, hfm⟩ := chM hg'
    have e1 : (ps.map (setI fun x => (f x).2.toArray)).map (fun x => Value.ref x.it) = ps.map fun x => Value.ref x.it := by rw [List.map_map]; rfl
    have el : (ps.map (setI fun x => (f x).2.toArray)).length = ps.length := by simp
    obtain ⟨pe, hpe, rfl⟩ := List.mem_map.mp hqe
    refine done_zn (i := i) (xs := ps.map (setI fun x => (f x).2.toArray)) (I.ok.hd hc) (S.setI _) hz hf0 (by rw [e1]; exact hTI) ⟨us0, by rw [el]; exact hu0, hTO⟩ (by rw [el]; exact hl) (fun j x hx => ?_) (fun x hx => ?_) ⟨_, List.mem_map.mpr ⟨pe, hpe, rfl⟩, ?_⟩ fun h' tk hk => ?_
    · rw [List.getElem?_map] at hx
      cases hp : ps[j]? with
      | none => rw [hp] at hx; cases hx
      | some y =>
        rw [hp] at hx; cases hx
        have hm := List.mem_of_getElem? hp
        exact ⟨by rw [if_neg (Nat.not_lt_zero j)]; exact hi y hm, (hfm y hm).2.2.2⟩
    · obtain ⟨y, hy, rfl⟩ := List.mem_map.mp hx
      have := (hfm y hy).2.1
      rw [(hfm y hy).2.2.1.length] at this
      show i ≤ (f y).2.toArray.size
      simpa using this
    · obtain ⟨h1, _, h3, _⟩ := hfm pe hpe
      have := inv_Binj I h1 hxe
      show i = (f pe).2.toArray.size
      rw [List.size_toArray, ← h3.length, this]; exact hie
    · refine ⟨rfl, I.turnedL (t' := tk) (ch := z :: TI :: TO :: ps.map Src.it) (fun c o hb q => ?_) hf⟩
      refine hk c o (fun e => hb (by simp [e])) (fun e => hb (by simp [e])) (fun x hx e => hb ?_) q
      obtain ⟨y, hy, rfl⟩ := List.mem_map.mp hx
      rw [e]
      exact List.mem_cons_of_mem _ (List.mem_cons_of_mem _ (List.mem_cons_of_mem _ (List.mem_map.mpr ⟨y, hy, rfl⟩)))
  self := fun A i s Q E st h => by
    obtain ⟨⟨f0, fl, hz, hf⟩, _⟩ := st
    exact iter_zn hz h
end Pd

namespace Pd
open PySem L2 Evl PySem.Spec PyProof.Rows
def iZipS (K : PySem.W.Frag) (te : TE) : TI := fun σ H R => te σ H fun x H1 => ∃ (p : Addr) (ys : List V) (qs : List (Addr × Bool)), x = V.ref p ∧ (SqT K H1 p ys ∨ SqL K H1 p ys) ∧ ys = qs.map (fun q => V.ref q.1) ∧ 1 ≤ qs.length ∧ qs.length ≤ 3 ∧
  (∀ q ∈ qs, ∃ xs : List V, SqB K q.2 H1 q.1 xs) ∧ R (ItzN K qs) H1
section
variable {M : Model} {A : Around} {E : Value → Shared → Prop} {s : Shared} {env : PySem.Env} {pos p : Pos} {e : Expr}
theorem callWith_typeS {T : String} {Q : Value → Shared → Prop} (h : wpAny M A (eval e env) (fun v s₁ => PySem.W.StarOf M A E v (fun vs s₂ => wpAny M A (call (.type T) vs) Q E s₂) s₁) E s)
    (he : starEach [.Starred e p] env = [(true, eval e env)] := by rfl) : wpAny M A (callWith pos (.type T) [] (backTo pos (starEach [.Starred e p] env)) []) Q E s := by
  rw [he]
  refine PySem.W.ks_call (P := fun _ => True) rfl (fun h _ => ⟨.machine, .inr (.inl rfl), PySem.W.Looks.of_pure rfl⟩) (PySem.W.ks_lone ?_)
  refine wpAny_mono h (fun v s1 h1 => ?_) fun _ _ x => x
  unfold PySem.W.StarOf at h1 ⊢
  exact wpAny_mono h1 (fun b s2 ⟨h2, h3⟩ => ⟨h2, wpAny_mono h3 (fun vs s3 h4 => ⟨trivial, h4⟩) fun _ _ x => x⟩) fun _ _ x => x
end
theorem vals_refs {qs : List (Addr × Bool)} {us : List Value} (h : Vals (qs.map fun q => V.ref q.1) us) : us = qs.map fun q => Value.ref q.1 := by
  induction qs generalizing us with
  | nil => cases h; rfl
  | cons q r ih =>
    cases h with | cons a b =>
    have a' : _ = Value.ref q.1 := a
    rw [a', ih b]; rfl
theorem pi_zipS {X : Cx} {e : Expr} {te : TE} {p p3 pos tpos : Pos} {x0 : Str} (hg : Gl X "zip") (hm : X.mg "zip" = none) (he : PE X e te)
    (hs : starEach [.Starred e p3] X.env = [(true, eval e X.env)] := by rfl) :
    PI X (.Name x0 tpos) (.Call (.Name "zip" p) [.Starred e p3] [] pos) (iZipS X.K te) := by
  refine ⟨fun pins s σ H R I h => ?_⟩
  refine Call_ (ld_blt I hg hm PyProof.Rows.boot_zip (callWith_typeS (thn (he.run pins s σ H _ I h) fun v s1 ⟨y, H1, I1, ry, a, ys, qs, ey, hsq, eys, l1, l3, hq, hR⟩ => ?_) hs))
  subst ey eys
  obtain rfl : v = Value.ref a := ry
  refine StX.star_any I1 hsq fun us s2 I2 rv => ?_
  rw [vals_refs rv]
  have hq' : ∀ q ∈ qs, ∃ its : Array Value, CoB q.2 s2.heap q.1 its := fun q hqm => by
    obtain ⟨xs, h1⟩ := hq q hqm
    obtain ⟨its, _, c, _⟩ := inv_B I2 h1
    exact ⟨_, c⟩
  obtain ⟨f, hf⟩ := chM hq'
  have hlt : ∀ q ∈ qs, q.1 < s2.heap.objs.size := fun q hqm => coB_lt (hf q hqm)
  refine zip_beginsN (its := f) l1 l3 hf fun h' hz hTI hTO hi hk => iter_zn hz ?_
  have I3 : L2.Inv X pins σ H1 { s2 with heap := h' } := I2.kept (t' := s2.toks) hk
  have ln := srcN_len s2.heap.objs.size qs
  have tz := turn_zipN (P := X.prog) (w := X.w) (K := X.K) (x0 := x0) (tpos := tpos) (sepN_new hlt) (fun e => by rw [e] at ln; simp at ln; omega) (by rw [ln]; omega)
  rw [srcN_map] at tz
  refine ⟨s2.heap.objs.size + qs.length + 2, _, _, _, H1, rfl, I3, tz, ⟨⟨_, _, hz, .inl rfl⟩, hTI, by rw [ln]; exact hTO, hi⟩, fun c hb => ?_, hR⟩
  have hle : s2.heap.objs.size ≤ c := by
    rcases List.mem_cons.mp hb with q | hb
    · rw [q]; exact Nat.le_trans (Nat.le_add_right _ _) (Nat.le_add_right _ _)
    rcases List.mem_cons.mp hb with q | hb
    · rw [q]; exact Nat.le_add_right _ _
    rcases List.mem_cons.mp hb with q | hb
    · rw [q]; exact Nat.le_trans (Nat.le_add_right _ _) (Nat.le_add_right _ _)
    obtain ⟨x, hx, q⟩ := List.mem_map.mp hb
    obtain ⟨⟨k, _, h2⟩, _⟩ := srcN_mem _ qs x hx
    rw [← q, h2]; exact Nat.le_add_right _ _
  exact I2.fpOk hle (I2.hok.fresh hle)

/-! ### what it means -/
/-- the items of zip(*rows) -/
def zipSD (rows : List (List PyData)) : List PyData := match rows with
  | [] => []
  | r :: rs => (List.range (rs.foldl (fun n q => min n q.length) r.length)).map fun i => .tuple ((r :: rs).map fun q => q.getD i .none)
def seqsOf : List PyData → Option (List (List PyData))
  | [] => some []
  | d :: ds => match gSeq d, seqsOf ds with
    | some r, some rs => some (r :: rs)
    | _, _ => none
def gZipS (x : PyData) : Option (List PyData) := match gSeq x with
  | some (d :: ds) => if ds.length ≤ 2 then (seqsOf (d :: ds)).map zipSD else none
  | _ => none
def leastN : List (List PyData) → Nat
  | [] => 0
  | r :: rs => rs.foldl (fun n q => min n q.length) r.length
theorem foldmin_le : ∀ (rs : List (List PyData)) (n : Nat), rs.foldl (fun n q => min n q.length) n ≤ n ∧ ∀ q ∈ rs, rs.foldl (fun n q => min n q.length) n ≤ q.length
  | [], n => ⟨Nat.le_refl _, fun _ h => nomatch h⟩
  | r :: rs, n => by
    obtain ⟨h1, h2⟩ := foldmin_le rs (min n r.length)
    refine ⟨by show rs.foldl _ (min n r.length) ≤ n; omega, fun q hq => ?_⟩
    rcases List.mem_cons.mp hq with rfl | hq
    · show rs.foldl _ (min n q.length) ≤ q.length; omega
    · exact h2 q hq
theorem foldmin_eq : ∀ (rs : List (List PyData)) (n : Nat), rs.foldl (fun n q => min n q.length) n = n ∨ ∃ q ∈ rs, rs.foldl (fun n q => min n q.length) n = q.length
  | [], n => .inl rfl
  | r :: rs, n => by
    rcases foldmin_eq rs (min n r.length) with h | ⟨q, hq, h⟩
    · rcases Nat.le_total n r.length with g | g
      · left; show rs.foldl _ (min n r.length) = n; rw [h]; exact Nat.min_eq_left g
      · right; exact ⟨r, List.mem_cons_self .., by show rs.foldl _ (min n r.length) = _; rw [h]; exact Nat.min_eq_right g⟩
    · exact .inr ⟨q, List.mem_cons_of_mem _ hq, h⟩
theorem zipSD_len (rows : List (List PyData)) : (zipSD rows).length = leastN rows := by
  cases rows with
  | nil => rfl
  | cons r rs => unfold zipSD leastN; simp
theorem leastN_le {rows : List (List PyData)} {r : List PyData} (h : r ∈ rows) : leastN rows ≤ r.length := by
  cases rows with
  | nil => nomatch h
  | cons a rs =>
    rcases List.mem_cons.mp h with rfl | h
    · exact (foldmin_le rs _).1
    · exact (foldmin_le rs _).2 r h
theorem leastN_eq {rows : List (List PyData)} (h : rows ≠ []) : ∃ r ∈ rows, leastN rows = r.length := by
  cases rows with
  | nil => exact absurd rfl h
  | cons a rs =>
    rcases foldmin_eq rs a.length with e | ⟨q, hq, e⟩
    · exact ⟨a, List.mem_cons_self .., e⟩
    · exact ⟨q, List.mem_cons_of_mem _ hq, e⟩
theorem zipSD_get {rows : List (List PyData)} {i : Nat} {d : PyData} (h : (zipSD rows)[i]? = some d) : i < leastN rows ∧ d = .tuple (rows.map fun q => q.getD i .none) := by
  cases rows with
  | nil => cases h
  | cons r rs =>
    unfold zipSD at h
    rw [List.getElem?_map] at h
    cases q : (List.range (rs.foldl (fun n q => min n q.length) r.length))[i]? with
    | none => rw [q] at h; cases h
    | some j =>
      rw [q] at h; cases h
      obtain ⟨h1, h2⟩ := List.getElem?_eq_some_iff.mp q
      simp at h1 h2
      subst h2
      exact ⟨h1, rfl⟩
section
variable {K : PySem.W.Frag}
/-- the rows, each a list or a tuple that stays -/
theorem rows_of {G : Hp} : ∀ {ds : List PyData} {rows : List (List PyData)} {vs : List V}, seqsOf ds = some rows → RpA K G vs ds →
    ∃ (qs : List (Addr × Bool)) (us : List (List V)), vs = qs.map (fun q => V.ref q.1) ∧ qs.length = rows.length ∧ us.length = rows.length ∧
      ∀ (j : Nat) (q : Addr × Bool) (u : List V) (r : List PyData), qs[j]? = some q → us[j]? = some u → rows[j]? = some r → SqB K q.2 G q.1 u ∧ RpA K G u r
  | [], rows, vs, h, r => by
    cases h; cases r
    exact ⟨[], [], rfl, rfl, rfl, fun j q u r h => by cases h⟩
  | d :: ds, rows, vs, h, r => by
    cases r with | cons a r =>
    unfold seqsOf at h
    split at h
    · rename_i r0 rs0 g1 g2
      cases h
      obtain ⟨p, u, b, rfl, h1, h2⟩ := a.seqB g1
      obtain ⟨qs, us, e1, e2, e3, h3⟩ := rows_of g2 r
      refine ⟨(p, b) :: qs, u :: us, by rw [e1]; rfl, by simp [e2], by simp [e3], fun j q u' r' k1 k2 k3 => ?_⟩
      cases j with
      | zero => cases k1; cases k2; cases k3; exact ⟨h1, h2⟩
      | succ j => exact h3 j q u' r' k1 k2 k3
    · cases h
theorem it_zipN {G : Hp} {qs : List (Addr × Bool)} {us : List (List V)} {rows : List (List PyData)} (hne : rows ≠ []) (l1 : qs.length = rows.length) (l2 : us.length = rows.length)
    (h : ∀ (j : Nat) (q : Addr × Bool) (u : List V) (r : List PyData), qs[j]? = some q → us[j]? = some u → rows[j]? = some r → SqB K q.2 G q.1 u ∧ RpA K G u r) : ItOk K G (ItzN K qs) (zipSD rows) := by
  have at_ : ∀ q ∈ qs, ∃ u r, r ∈ rows ∧ SqB K q.2 G q.1 u ∧ RpA K G u r := fun q hq => by
    obtain ⟨j, hj, e⟩ := List.mem_iff_getElem.mp hq
    have g1 : j < us.length := by omega
    have g2 : j < rows.length := by omega
    obtain ⟨k1, k2⟩ := h j q us[j] rows[j] (by rw [List.getElem?_eq_getElem hj, e]) (List.getElem?_eq_getElem g1) (List.getElem?_eq_getElem g2)
    exact ⟨_, _, List.getElem_mem g2, k1, k2⟩
  refine ⟨fun i H e hi => fun q hq => ?_, fun H e => ⟨fun q hq => ?_, ?_⟩, fun i H x H' d e hd y G1 g1 g2 => ?_⟩
  · obtain ⟨u, r, hr, k1, k2⟩ := at_ q hq
    rw [zipSD_len] at hi
    have := leastN_le hr
    exact ⟨u, k1.ex e, by rw [k2.len]; omega⟩
  · obtain ⟨u, r, hr, k1, k2⟩ := at_ q hq
    exact ⟨u, k1.ex e, by rw [zipSD_len, k2.len]; exact leastN_le hr⟩
  · obtain ⟨r, hr, er⟩ := leastN_eq hne
    obtain ⟨j, hj, e2⟩ := List.mem_iff_getElem.mp hr
    have j1 : j < qs.length := by omega
    have j2 : j < us.length := by omega
    obtain ⟨k1, k2⟩ := h j qs[j] us[j] rows[j] (List.getElem?_eq_getElem j1) (List.getElem?_eq_getElem j2) (List.getElem?_eq_getElem hj)
    exact ⟨qs[j], List.getElem_mem j1, us[j], k1.ex e, by rw [zipSD_len, er, k2.len, e2]⟩
  · obtain ⟨T, ws, rfl, hT, rfl, hlw, hw⟩ := y
    obtain ⟨hi, rfl⟩ := zipSD_get hd
    have gT := fresh_back g2 hT
    refine ⟨upd G1 T (.tup ws), Ex.new gT, Ex.new hT, fun c o ec => ?_, fun c hc => upd_ne fun z => hc (by rw [z]; exact hT), .tup (SqT.of upd_same) (RpA.of_get (by simp [hlw, l1]) fun j v d' k1 k2 => ?_)⟩
    · by_cases hc : c = T
      · rw [hc, upd_same] at ec ⊢; exact ec
      · rw [upd_ne hc] at ec ⊢; exact g2 _ _ ec
    · have hj : j < ws.length := (List.getElem?_eq_some_iff.mp k1).1
      have j1 : j < qs.length := by omega
      have j2 : j < us.length := by omega
      have j3 : j < rows.length := by omega
      rw [List.getElem?_map, List.getElem?_eq_getElem j3] at k2
      cases k2
      obtain ⟨m1, m2⟩ := h j qs[j] us[j] rows[j] (List.getElem?_eq_getElem j1) (List.getElem?_eq_getElem j2) (List.getElem?_eq_getElem j3)
      have q := hw j qs[j] v (List.getElem?_eq_getElem j1) k1 us[j] (m1.ex e)
      have hil : i < rows[j].length := Nat.lt_of_lt_of_le hi (leastN_le (List.getElem_mem j3))
      obtain ⟨u, hu, ru⟩ := m2.get (List.getElem?_eq_getElem hil)
      rw [hu] at q; cases q
      have : rows[j].getD i .none = rows[j][i] := by simp [List.getD, hil]
      show Rp K _ v (rows[j].getD i .none)
      rw [this]
      exact (ru.ex g1).ex (Ex.new gT)
theorem seqsOf_len : ∀ {ds : List PyData} {rows : List (List PyData)}, seqsOf ds = some rows → rows.length = ds.length
  | [], rows, h => by cases h; rfl
  | d :: ds, rows, h => by
    unfold seqsOf at h
    split at h
    · rename_i r0 rs0 g1 g2
      cases h
      simp [seqsOf_len g2]
    · cases h
theorem si_zipS {te : TE} {fe : M PyData} (h : SeP K te fe) : SeI K (iZipS K te) (mI gZipS fe) := fun B G H σ env ds env' so e R k => by
  obtain ⟨x, e1, q1, e⟩ := mbind_some e
  obtain ⟨q3, q4⟩ := mlift_some e
  dsimp only at q3 q4
  subst q4
  refine h B G H σ env x env' so q1 _ fun v G1 H1 s1 r1 => ?_
  unfold gZipS at q3
  split at q3
  · rename_i d dr g
    split at q3
    · rename_i hl
      cases hs : seqsOf (d :: dr) with
      | none => rw [hs] at q3; cases q3
      | some rows =>
        rw [hs] at q3; cases q3
        obtain ⟨a, us, b, rfl, hq, rs⟩ := r1.seqB g
        obtain ⟨qs, uu, e1, l1, l2, hh⟩ := rows_of hs rs
        have ln := seqsOf_len hs
        have ln' : rows.length = dr.length + 1 := ln
        have hne : rows ≠ [] := fun z => by rw [z] at ln'; simp at ln'
        refine ⟨a, us, qs, rfl, ?_, e1, by omega, by omega, fun q hqm => ?_, k _ G1 H1 s1 (it_zipN hne l1 l2 hh)⟩
        · cases b with
          | false => exact .inr (hq.ex s1.so.gh)
          | true => exact .inl (hq.ex s1.so.gh)
        · obtain ⟨j, hj, e⟩ := List.mem_iff_getElem.mp hqm
          have g1 : j < uu.length := by omega
          have g2 : j < rows.length := by omega
          obtain ⟨k1, k2⟩ := hh j q uu[j] rows[j] (by rw [List.getElem?_eq_getElem hj, e]) (List.getElem?_eq_getElem g1) (List.getElem?_eq_getElem g2)
          exact ⟨_, k1.ex s1.so.gh⟩
    · cases q3
  · cases q3
end
theorem di_zipS {X : Cx} {K : PySem.W.Frag} {e : Expr} {te : TE} {fe : M PyData} {pos p2 p3 tpos : Pos} {x0 : Str} (hg : Gl X "zip") (hm : X.mg "zip" = none) (hc : X.calm = true) (h : DP X e te fe)
    (hs : starEach [.Starred e p3] X.env = [(true, eval e X.env)] := by rfl) (hK : X.K = K := by rfl) : DI X (.Name x0 tpos) (.Call (.Name "zip" p2) [.Starred e p3] [] pos) (iZipS K te) (mI gZipS fe) := by
  subst hK
  exact ⟨pi_zipS hg hm h.pe hs, si_zipS h.se⟩
end Pd

namespace L2
open PySem
theorem MtR.of {X : Cx} {id : String} {r : V → List V → Hp → VK → Prop} (h : MtM X id r) : MtR X id r := h
theorem Room.u65 {k : Nat} {A : Around} (r : Room k A) : A.units + 65 < cLine := by have := r.un; omega
end L2
namespace Pd
open PySem L2 Evl
section
variable {X : Cx} {k : Nat} {A : Around} (K : PySem.W.Frag)
theorem k_addA (hK : X.K = K := by rfl) : OpR X (binaryOp .Add) (rAddA K) := by subst hK; exact op_addA
theorem k_ltD (hr : Room k X.A) (hK : X.K = K := by rfl) : OpR X (compareOp .Lt) (rCmpD K fLt) := by subst hK; exact op_ltD hr.units
theorem k_gtD (hr : Room k X.A) (hK : X.K = K := by rfl) : OpR X (compareOp .Gt) (rCmpD K fGt) := by subst hK; exact op_gtD hr.units
theorem k_leD (hr : Room k X.A) (hK : X.K = K := by rfl) : OpR X (compareOp .LtE) (rCmpD K fLe) := by subst hK; exact op_leD hr.units
theorem k_geD (hr : Room k X.A) (hK : X.K = K := by rfl) : OpR X (compareOp .GtE) (rCmpD K fGe) := by subst hK; exact op_geD hr.units
theorem k_eqD (hr : Room k X.A) (hK : X.K = K := by rfl) : OpR X (compareOp .Eq) (rEqD K) := by subst hK; exact op_eqD hr.units
theorem k_neD (hr : Room k X.A) (hK : X.K = K := by rfl) : OpR X (compareOp .NotEq) (rNeD K) := by subst hK; exact op_neD hr.units
theorem k_inS (hr : Room k X.A) (hK : X.K = K := by rfl) : OpR X (compareOp .In) (rInS K) := by subst hK; exact op_inS hr.u65
theorem k_notInS (hr : Room k X.A) (hK : X.K = K := by rfl) : OpR X (compareOp .NotIn) (rNotInS K) := by subst hK; exact op_notInS hr.u65
theorem k_isN : OpR X (compareOp .Is) rIsN := op_isN
theorem k_notN : OpR X (compareOp .IsNot) rNotN := op_notN
theorem k_len (hK : X.K = K := by rfl) : CallR X (.builtin "len") (rLenB K) := by subst hK; exact call_lenB
theorem k_sum (hc : X.calm = true := by rfl) (hK : X.K = K := by rfl) : CallR X (.builtin "sum") (rSumB K) := by subst hK; exact cr_sumB hc
theorem k_max (hr : Room k X.A) (hc : X.calm = true := by rfl) (hK : X.K = K := by rfl) : CallR X (.builtin "max") (rBest K PySem.W.maxD) := by subst hK; exact cr_bestMax hc hr.units
theorem k_min (hr : Room k X.A) (hc : X.calm = true := by rfl) (hK : X.K = K := by rfl) : CallR X (.builtin "min") (rBest K PySem.W.minD) := by subst hK; exact cr_bestMin hc hr.units
theorem k_sorted (hr : Room k X.A) (hK : X.K = K := by rfl) : CallR X (.builtin "sorted") (rSortedB K) := by subst hK; exact cr_sortedB hr.units
theorem k_list (hK : X.K = K := by rfl) : CallR X (.type "list") (rListB K) := by subst hK; exact call_list_of
theorem k_tuple (hK : X.K = K := by rfl) : CallR X (.type "tuple") (rTupleB K) := by subst hK; exact call_tuple_of
theorem k_max2 (hc : X.calm = true := by rfl) : CallR X (.builtin "max") rMx2 := call_max2 hc
theorem k_min2 (hc : X.calm = true := by rfl) : CallR X (.builtin "min") rMn2 := call_min2 hc
theorem k_abs : CallR X (.builtin "abs") rAbs := call_abs
theorem k_int : CallR X (.type "int") rInt1 := call_int1
end
end Pd

namespace Pd
open PySem L2 Evl
/-- the script, as a datum -/
def scrD (ns : List Int) : PyData := .dict [(.dict [], .list (ns.map .int))]
theorem law_start {K : PySem.W.Frag} {pf : List PyData → Option PyData} {H : Hp} {a : Addr} {ns : List Int} (hS : SqL K H a (ns.map V.int)) (h : pf [scrD ns] = some (.bool true)) : spP K pf [.ref a] H (fun v _ => v = .bl true) fun _ _ _ => False :=
  ⟨H, [scrD ns], .bool true, Ex.refl H, .cons (.rdl hS (RpA.of_ints ns)) .nil, h, fun v G' H' _ _ _ _ r => by cases r; rfl⟩
end Pd

/-! ### reckoning what a def means -/
namespace Pd
open PySem L2 Evl
section
variable {α β : Type} {e : Env}
@[simp] theorem mret_ap (x : α) (e : Env) : mret x e = some (x, e) := rfl
@[simp] theorem mbind_ap (f : M α) (g : α → M β) (e : Env) : mbind f g e = match f e with
  | some (x, e1) => g x e1
  | none => none := rfl
@[simp] theorem mlift_s (x : α) (e : Env) : mlift (some x) e = some (x, e) := rfl
@[simp] theorem mlift_n (e : Env) : mlift (none : Option α) e = none := rfl
@[simp] theorem mlift_if (c : Prop) [Decidable c] (x y : Option α) (e : Env) : mlift (if c then x else y) e = if c then mlift x e else mlift y e := by split <;> rfl
@[simp] theorem fV_ap (i : Nat) (e : Env) : fV i e = match e[i]? with
  | some (.va d) => some (d, e)
  | _ => none := rfl
@[simp] theorem fR_ap (i : Nat) (e : Env) : fR i e = match e[i]? with
  | some (.ow ds) => some (.list ds, e)
  | some (.bg ds) => some (.list ds, e)
  | _ => none := rfl
@[simp] theorem fO_ap (i : Nat) (e : Env) : fO i e = match e[i]? with
  | some (.ow ds) => some (.list ds, e.set i (.va (.list ds)))
  | _ => none := rfl
@[simp] theorem m1_ap (g : PyData → Option PyData) (fa : M PyData) (e : Env) : m1 g fa e = match fa e with
  | some (x, e1) => mlift (g x) e1
  | none => none := by
  unfold m1 mbind
  rcases fa e with _ | ⟨x, e1⟩ <;> rfl
@[simp] theorem m2_ap (g : PyData → PyData → Option PyData) (fa fb : M PyData) (e : Env) : m2 g fa fb e = match fa e with
  | some (x, e1) => (match fb e1 with
    | some (y, e2) => mlift (g x y) e2
    | none => none)
  | none => none := by
  unfold m2 mbind
  rcases fa e with _ | ⟨x, e1⟩
  · rfl
  · dsimp only
    rcases fb e1 with _ | ⟨y, e2⟩ <;> rfl
@[simp] theorem fNil_ap (e : Env) : fNil e = some ([], e) := rfl
@[simp] theorem fCons_ap (fa : M PyData) (fr : M (List PyData)) (e : Env) : fCons fa fr e = match fa e with
  | some (x, e1) => (match fr e1 with
    | some (xs, e2) => some (x :: xs, e2)
    | none => none)
  | none => none := by
  unfold fCons mbind
  rcases fa e with _ | ⟨x, e1⟩
  · rfl
  · dsimp only
    rcases fr e1 with _ | ⟨y, e2⟩ <;> rfl
@[simp] theorem fStar_ap (fa : M PyData) (fr : M (List PyData)) (e : Env) : fStar fa fr e = match fa e with
  | some (x, e1) => (match mlift (gSeq x) e1 with
    | some (xs, e2) => (match fr e2 with
      | some (ys, e3) => some (xs ++ ys, e3)
      | none => none)
    | none => none)
  | none => none := by
  unfold fStar mbind
  rcases fa e with _ | ⟨x, e1⟩
  · rfl
  · dsimp only
    unfold mlift
    rcases gSeq x with _ | xs
    · rfl
    · dsimp only
      rcases fr e1 with _ | ⟨z, e3⟩ <;> rfl
@[simp] theorem mTup_ap (fr : M (List PyData)) (e : Env) : mTup fr e = match fr e with
  | some (xs, e1) => mlift (if xs.length ≤ 16777216 then some (.tuple xs) else none) e1
  | none => none := by
  unfold mTup mbind
  rcases fr e with _ | ⟨x, e1⟩ <;> rfl
@[simp] theorem mLst_ap (fr : M (List PyData)) (e : Env) : mLst fr e = match fr e with
  | some (xs, e1) => mlift (if xs.length ≤ 16777216 then some (.list xs) else none) e1
  | none => none := by
  unfold mLst mbind
  rcases fr e with _ | ⟨x, e1⟩ <;> rfl
@[simp] theorem mA_ap (g : List PyData → Option PyData) (fr : M (List PyData)) (e : Env) : mA g fr e = match fr e with
  | some (xs, e1) => mlift (g xs) e1
  | none => none := by
  unfold mA mbind
  rcases fr e with _ | ⟨x, e1⟩ <;> rfl
@[simp] theorem mT_ap (g : PyData → Option Bool) (f : M PyData) (e : Env) : mT g f e = match f e with
  | some (x, e1) => mlift (g x) e1
  | none => none := by
  unfold mT mbind
  rcases f e with _ | ⟨x, e1⟩ <;> rfl
@[simp] theorem mAnd_ap (f g : M Bool) (e : Env) : mAnd f g e = match f e with
  | some (b, e1) => if b then g e1 else some (false, e1)
  | none => none := by
  unfold mAnd mbind
  cases f e with
  | none => rfl
  | some p => obtain ⟨b, e1⟩ := p; cases b <;> rfl
@[simp] theorem mOr_ap (f g : M Bool) (e : Env) : mOr f g e = match f e with
  | some (b, e1) => if b then some (true, e1) else g e1
  | none => none := by
  unfold mOr mbind
  cases f e with
  | none => rfl
  | some p => obtain ⟨b, e1⟩ := p; cases b <;> rfl
@[simp] theorem mNot_ap (f : M Bool) (e : Env) : mNot f e = match f e with
  | some (b, e1) => some (!b, e1)
  | none => none := by
  unfold mNot mbind
  rcases f e with _ | ⟨x, e1⟩ <;> rfl
@[simp] theorem mIte_ap (c : M Bool) (f g : M α) (e : Env) : mIte c f g e = match c e with
  | some (b, e1) => if b then f e1 else g e1
  | none => none := by
  unfold mIte mbind
  cases c e with
  | none => rfl
  | some p => obtain ⟨b, e1⟩ := p; cases b <;> rfl
@[simp] theorem mVal_ap (f : M Bool) (e : Env) : mVal f e = match f e with
  | some (b, e1) => some (.bool b, e1)
  | none => none := by
  unfold mVal mbind
  rcases f e with _ | ⟨x, e1⟩ <;> rfl
@[simp] theorem fYes_ap (e : Env) : fYes e = some (true, e) := rfl
@[simp] theorem mI_ap (g : PyData → Option (List PyData)) (fa : M PyData) (e : Env) : mI g fa e = match fa e with
  | some (x, e1) => mlift (g x) e1
  | none => none := by
  unfold mI mbind
  rcases fa e with _ | ⟨x, e1⟩ <;> rfl
@[simp] theorem mIA_ap (g : List PyData → Option (List PyData)) (fr : M (List PyData)) (e : Env) : mIA g fr e = match fr e with
  | some (x, e1) => mlift (g x) e1
  | none => none := by
  unfold mIA mbind
  rcases fr e with _ | ⟨x, e1⟩ <;> rfl
@[simp] theorem mLZip_ap (fr : M (List PyData)) (e : Env) : mLZip fr e = match fr e with
  | some (x, e1) => mlift ((gZip x).map .list) e1
  | none => none := by
  unfold mLZip mbind
  rcases fr e with _ | ⟨x, e1⟩ <;> rfl
@[simp] theorem mNoPart_ap (e : Env) : mNoPart e = some (none, e) := rfl
@[simp] theorem mPart_ap (fa : M PyData) (e : Env) : mPart fa e = match fa e with
  | some (x, e1) => mlift ((gInt x).map some) e1
  | none => none := by
  unfold mPart mbind
  rcases fa e with _ | ⟨x, e1⟩ <;> rfl
@[simp] theorem mSl_ap (g : PyData → Option Int → Option Int → Option PyData) (fa : M PyData) (fl fh : M (Option Int)) (e : Env) : mSl g fa fl fh e = match fa e with
  | some (x, e1) => (match fl e1 with
    | some (l, e2) => (match fh e2 with
      | some (h, e3) => mlift (g x l h) e3
      | none => none)
    | none => none)
  | none => none := by
  unfold mSl mbind
  rcases fa e with _ | ⟨x, e1⟩
  · rfl
  · dsimp only
    rcases fl e1 with _ | ⟨y, e2⟩
    · rfl
    · dsimp only
      rcases fh e2 with _ | ⟨z, e3⟩ <;> rfl
@[simp] theorem fNx_ap (e : Env) : fNx e = some (.nx, e) := rfl
@[simp] theorem fSeq_ap (f g : M Fl) (e : Env) : fSeq f g e = match f e with
  | some (.nx, e1) => g e1
  | r => r := rfl
@[simp] theorem fRet_ap (fa : M PyData) (e : Env) : fRet fa e = match fa e with
  | some (x, e1) => some (.rt x, e1)
  | none => none := by
  unfold fRet mbind
  rcases fa e with _ | ⟨x, e1⟩ <;> rfl
@[simp] theorem fRetF_ap (fa : M PyData) (e : Env) : fRetF fa e = match fa e with
  | some (.list ds, e1) => some (.rf ds, e1)
  | _ => none := by
  unfold fRetF mbind
  cases fa e with
  | none => rfl
  | some p => obtain ⟨x, e1⟩ := p; cases x <;> rfl
@[simp] theorem fDrop_ap (fa : M PyData) (e : Env) : fDrop fa e = match fa e with
  | some (x, e1) => some (.nx, e1)
  | none => none := by
  unfold fDrop mbind
  rcases fa e with _ | ⟨x, e1⟩ <;> rfl
@[simp] theorem fSet_ap (i : Nat) (fa : M PyData) (e : Env) : fSet i fa e = match fa e with
  | some (x, e1) => (match setE e1 i (.va x) with
    | some e2 => some (.nx, e2)
    | none => none)
  | none => none := by
  unfold fSet mbind
  rcases fa e with _ | ⟨x, e1⟩
  · rfl
  · dsimp only
    all_goals (rcases setE e1 i (.va x) with _ | ⟨y, e2⟩ <;> rfl)
@[simp] theorem fSetL_ap (i : Nat) (fa : M PyData) (e : Env) : fSetL i fa e = match fa e with
  | some (.list ds, e1) => (match setE e1 i (.ow ds) with
    | some e2 => some (.nx, e2)
    | none => none)
  | _ => none := by
  unfold fSetL mbind
  cases fa e with
  | none => rfl
  | some p => obtain ⟨x, e1⟩ := p; cases x <;> rfl
@[simp] theorem fAsg_ap (fa : M PyData) (g : PyData → Env → Option Env) (e : Env) : fAsg fa g e = match fa e with
  | some (x, e1) => (match g x e1 with
    | some e2 => some (.nx, e2)
    | none => none)
  | none => none := by
  unfold fAsg mbind
  rcases fa e with _ | ⟨x, e1⟩
  · rfl
  · dsimp only
    all_goals (rcases g x e1 with _ | ⟨y, e2⟩ <;> rfl)
@[simp] theorem fFor_ap (fi : M (List PyData)) (g : PyData → Env → Option Env) (fb : M Fl) (e : Env) : fFor fi g fb e = match fi e with
  | some (ds, e1) => forL g fb ds e1
  | none => none := by
  unfold fFor mbind
  rcases fi e with _ | ⟨x, e1⟩ <;> rfl
@[simp] theorem fLc_ap (vs : List Nat) (fi : M (List PyData)) (fg : PyData → Env → Option Env) (ft : M Bool) (fe : M PyData) (e : Env) : fLc vs fi fg ft fe e = match fi e with
  | some (ds, e1) => (match lcL vs fg ft fe ds e1 with
    | some (xs, e2) => if xs.length ≤ 16777216 then some (.list xs, restE e1 e2 vs) else none
    | none => none)
  | none => none := by
  unfold fLc mbind
  rcases fi e with _ | ⟨x, e1⟩
  · rfl
  · dsimp only
    all_goals (rcases lcL vs fg ft fe x e1 with _ | ⟨y, e2⟩ <;> rfl)
@[simp] theorem fLc2_ap (vs vs1 : List Nat) (fi : M (List PyData)) (fg : PyData → Env → Option Env) (ft : M Bool) (fi1 : M (List PyData)) (fg1 : PyData → Env → Option Env) (ft1 : M Bool) (fe : M PyData) (e : Env) : fLc2 vs vs1 fi fg ft fi1 fg1 ft1 fe e = match fi e with
  | some (ds, e1) => (match lc2L vs vs1 fg ft fi1 fg1 ft1 fe ds e1 with
    | some (xs, e2) => if xs.length ≤ 16777216 then some (.list xs, restE e1 e2 vs) else none
    | none => none)
  | none => none := by
  unfold fLc2 mbind
  rcases fi e with _ | ⟨x, e1⟩
  · rfl
  · dsimp only
    all_goals (rcases lc2L vs vs1 fg ft fi1 fg1 ft1 fe x e1 with _ | ⟨y, e2⟩ <;> rfl)
@[simp] theorem tgName_ap (i : Nat) (d : PyData) (e : Env) : tgName i d e = setE e i (.va d) := rfl
@[simp] theorem tgNil_ap (e : Env) : tgNil [] e = some e := rfl
@[simp] theorem tgCons_ap (f : PyData → Env → Option Env) (g : List PyData → Env → Option Env) (d : PyData) (r : List PyData) (e : Env) : tgCons f g (d :: r) e = match f d e with
  | some e1 => g r e1
  | none => none := rfl
@[simp] theorem tgTup_ap (n : Nat) (g : List PyData → Env → Option Env) (ds : List PyData) (e : Env) : tgTup n g (.tuple ds) e = if ds.length = n then g ds e else none := rfl
@[simp] theorem fPar_ap (i j : Nat) (o1 o2 : Bool) (fa fb : M PyData) (e : Env) : fPar i j o1 o2 fa fb e = match fa e with
  | some (x, e1) => (match fb e1 with
    | some (y, e2) => (match slV o1 x, slV o2 y with
      | some s1, some s2 => (match setE e2 i s1 with
        | some e3 => (match setE e3 j s2 with
          | some e4 => some (.nx, e4)
          | none => none)
        | none => none)
      | _, _ => none)
    | none => none)
  | none => none := by
  unfold fPar mbind
  rcases fa e with _ | ⟨x, e1⟩
  · rfl
  · dsimp only
    rcases fb e1 with _ | ⟨y, e2⟩
    · rfl
    · rfl
end
@[simp] theorem gB_b (b : Bool) : gB (.bool b) = some b := rfl
@[simp] theorem gInt_i (i : Int) : gInt (.int i) = some i := rfl
@[simp] theorem gSeq_l (xs : List PyData) : gSeq (.list xs) = some xs := rfl
@[simp] theorem gSeq_t (xs : List PyData) : gSeq (.tuple xs) = some xs := rfl
@[simp] theorem gAdd_i (i j : Int) : gAdd (.int i) (.int j) = some (.int (i + j)) := rfl
@[simp] theorem gSub_i (i j : Int) : gSub (.int i) (.int j) = some (.int (i - j)) := rfl
@[simp] theorem gNeg_i (i : Int) : gNeg (.int i) = some (.int (-i)) := rfl
@[simp] theorem gLen_l (xs : List PyData) : gLen (.list xs) = some (.int xs.length) := rfl
@[simp] theorem gLen_t (xs : List PyData) : gLen (.tuple xs) = some (.int xs.length) := rfl
@[simp] theorem gList_l (xs : List PyData) : gList (.list xs) = some (.list xs) := rfl
@[simp] theorem gList_t (xs : List PyData) : gList (.tuple xs) = some (.list xs) := rfl
@[simp] theorem gTuple_l (xs : List PyData) : gTuple (.list xs) = some (.tuple xs) := rfl
@[simp] theorem gTuple_t (xs : List PyData) : gTuple (.tuple xs) = some (.tuple xs) := rfl
@[simp] theorem gMax2_i (i j : Int) : gMax2 [.int i, .int j] = some (.int (max i j)) := by
  unfold gMax2; congr 2; by_cases h : j > i <;> simp [h] <;> omega
@[simp] theorem gMin2_i (i j : Int) : gMin2 [.int i, .int j] = some (.int (min i j)) := by
  unfold gMin2; congr 2; by_cases h : j < i <;> simp [h] <;> omega
@[simp] theorem gAbs_i (i : Int) : gAbs [.int i] = some (.int (i.natAbs : Int)) := by
  show some (PyData.int (if i < 0 then -i else i)) = _; congr 2; split <;> omega
@[simp] theorem gInt1_i (i : Int) : gInt1 [.int i] = some (.int i) := rfl
@[simp] theorem gInt1_b (b : Bool) : gInt1 [.bool b] = some (.int (if b then 1 else 0)) := rfl
@[simp] theorem gIx_l (xs : List PyData) (i : Int) : gIx (.list xs) (.int i) = atI xs i := rfl
@[simp] theorem gIx_t (xs : List PyData) (i : Int) : gIx (.tuple xs) (.int i) = atI xs i := rfl
@[simp] theorem gSum_t (ns : List Int) : gSum (.tuple (ns.map .int)) = some (.int ns.sum) := by unfold gSum; simp only [intsOf_map, Option.map_some]
@[simp] theorem gSum_l (ns : List Int) : gSum (.list (ns.map .int)) = some (.int ns.sum) := by unfold gSum; simp only [intsOf_map, Option.map_some]
@[simp] theorem gSl_l (xs : List PyData) (a b : Option Int) : gSl (.list xs) a b = some (.list (cutD xs a b)) := by unfold gSl; rfl
@[simp] theorem gSl_t (xs : List PyData) (a b : Option Int) : gSl (.tuple xs) a b = some (.tuple (cutD xs a b)) := by unfold gSl; rfl
@[simp] theorem slV_f (d : PyData) : slV false d = some (.va d) := by cases d <;> rfl
@[simp] theorem slV_t (ds : List PyData) : slV true (.list ds) = some (.ow ds) := rfl
@[simp] theorem gEnum_1l (xs : List PyData) : gEnum [.list xs] = some (enumD xs) := rfl
@[simp] theorem gEnum_1t (xs : List PyData) : gEnum [.tuple xs] = some (enumD xs) := rfl
@[simp] theorem isNon_n : isNon .none = true := rfl
@[simp] theorem isNon_i (i : Int) : isNon (.int i) = false := rfl
@[simp] theorem isNon_t (i : List PyData) : isNon (.tuple i) = false := rfl
@[simp] theorem isNon_l (i : List PyData) : isNon (.list i) = false := rfl
@[simp] theorem gIsN_n (x : PyData) : gIsN x .none = some (.bool (isNon x)) := rfl
@[simp] theorem gNotN_n (x : PyData) : gNotN x .none = some (.bool (!isNon x)) := rfl
/-! ints compared -/
@[simp] theorem shp_int (i : Int) : shp (.int i) = true := rfl
@[simp] theorem shp_none : shp .none = true := rfl
@[simp] theorem shp_bool (b : Bool) : shp (.bool b) = true := rfl
@[simp] theorem gLt_i (i j : Int) : gCmp fLt (.int i) (.int j) = some (.bool (decide (i < j))) := by unfold gCmp fLt; simp [PySem.W.alike, PySem.W.dataLt_int]
@[simp] theorem gGt_i (i j : Int) : gCmp fGt (.int i) (.int j) = some (.bool (decide (j < i))) := by unfold gCmp fGt; simp [PySem.W.alike, PySem.W.dataLt_int]
@[simp] theorem gLe_i (i j : Int) : gCmp fLe (.int i) (.int j) = some (.bool (decide (i ≤ j))) := by unfold gCmp fLe; simp only [PySem.W.alike, PySem.W.dataLt_int, isNon_i, shp_int, Bool.not_false, Bool.and_self, if_true]; congr 2; by_cases h : j < i <;> simp [h] <;> omega
@[simp] theorem gGe_i (i j : Int) : gCmp fGe (.int i) (.int j) = some (.bool (decide (j ≤ i))) := by unfold gCmp fGe; simp only [PySem.W.alike, PySem.W.dataLt_int, isNon_i, shp_int, Bool.not_false, Bool.and_self, if_true]; congr 2; by_cases h : i < j <;> simp [h] <;> omega
@[simp] theorem gEq_i (i j : Int) : gEq (.int i) (.int j) = some (.bool (decide (i = j))) := by unfold gEq; simp only [shp_int, Bool.and_self, if_true, PyData.eqv]; rfl
@[simp] theorem gNe_i (i j : Int) : gNe (.int i) (.int j) = some (.bool (!decide (i = j))) := by unfold gNe; simp only [shp_int, Bool.and_self, if_true, PyData.eqv]; rfl
/-! ints in a row -/
def tupI (xs : List Int) : PyData := .tuple (xs.map .int)
def lstI (xs : List Int) : PyData := .list (xs.map .int)
theorem lay_ints : ∀ xs : List Int, PyData.canLayAll0 (xs.map .int) = true
  | [] => rfl
  | x :: xs => by show (true && _) = true; rw [lay_ints xs]; rfl
theorem depth_ints : ∀ xs : List Int, PyData.depthAll (xs.map .int) ≤ 1
  | [] => by simp [PyData.depthAll]
  | x :: xs => by have := depth_ints xs; simp [PyData.depthAll, PyData.depth]; omega
end Pd

namespace Pd
open PySem L2 Evl
section
variable {α β : Type}
@[simp] theorem owOf_ap (e : Env) (i : Nat) : owOf e i = match e[i]? with
  | some (.ow ds) => some ds
  | some (.bg ds) => some ds
  | _ => none := rfl
@[simp] theorem putOw_ap (e : Env) (i : Nat) (ds : List PyData) : putOw e i ds = match e[i]? with
  | some (.ow _) => e.set i (.ow ds)
  | some (.bg _) => e.set i (.bg ds)
  | _ => e := rfl
@[simp] theorem setE_ap (e : Env) (i : Nat) (s : Sl) : setE e i s = match e[i]? with
  | some (.bg _) => none
  | some _ => some (e.set i s)
  | none => none := rfl
@[simp] theorem m2o_ap (i : Nat) (g : PyData → PyData → Option PyData) (fb : M PyData) (e : Env) : m2o i g fb e = match owOf e i with
  | none => none
  | some _ => match fb e with
    | none => none
    | some (y, e1) => match owOf e1 i with
      | none => none
      | some ds => mlift (g (.list ds) y) e1 := rfl
@[simp] theorem mSlo_ap (i : Nat) (g : PyData → Option Int → Option Int → Option PyData) (fl fh : M (Option Int)) (e : Env) : mSlo i g fl fh e = match owOf e i with
  | none => none
  | some _ => match fl e with
    | none => none
    | some (l, e1) => match fh e1 with
      | none => none
      | some (h, e2) => match owOf e2 i with
        | none => none
        | some ds => mlift (g (.list ds) l h) e2 := rfl
@[simp] theorem mCallB_ap (i : Nat) (pf : List PyData → List PyData → Option (PyData × List PyData)) (fr : M (List PyData)) (e : Env) : mCallB i pf fr e = match owOf e i with
  | none => none
  | some _ => match fr e with
    | none => none
    | some (ds, e1) => match owOf e1 i with
      | none => none
      | some bs => match pf bs ds with
        | none => none
        | some (d, bs') => some (d, putOw e1 i bs') := rfl
@[simp] theorem fSetIt_ap (i : Nat) (fi fe : M PyData) (e : Env) : fSetIt i fi fe e = match fe e with
  | none => none
  | some (x, e0) => match owOf e0 i with
    | none => none
    | some _ => match fi e0 with
      | none => none
      | some (y, e1) => match owOf e1 i with
        | none => none
        | some bs => match setAt bs y x with
          | none => none
          | some bs' => some (.nx, putOw e1 i bs') := by
  unfold fSetIt mbind
  rcases fe e with _ | ⟨x, e1⟩ <;> rfl
@[simp] theorem fAugIt_ap (i : Nat) (f : Int → Int → Int) (fi fe : M PyData) (e : Env) : fAugIt i f fi fe e = match owOf e i with
  | none => none
  | some _ => match fi e with
    | none => none
    | some (y, e1) => match owOf e1 i with
      | none => none
      | some bs => match gIx (.list bs) y with
        | none => none
        | some x => match fe e1 with
          | none => none
          | some (z, e2) => match gIp f x z with
            | none => none
            | some u => match owOf e2 i with
              | none => none
              | some bs2 => match setAt bs2 y u with
                | none => none
                | some bs' => some (.nx, putOw e2 i bs') := rfl
@[simp] theorem fAug_ap (i : Nat) (f : Int → Int → Int) (fe : M PyData) (e : Env) : fAug i f fe e = match e[i]? with
  | some (.va x) => (match fe e with
    | none => none
    | some (z, e1) => match gIp f x z with
      | none => none
      | some u => match setE e1 i (.va u) with
        | none => none
        | some e2 => some (.nx, e2))
  | _ => none := rfl
@[simp] theorem gIp_i (f : Int → Int → Int) (i j : Int) : gIp f (.int i) (.int j) = some (.int (f i j)) := rfl
@[simp] theorem mIsi_ap (t : Ty6) (fa : M PyData) (e : Env) : mIsi t fa e = match fa e with
  | none => none
  | some (x, e1) => mlift (if x.canLay0 then some (.bool (isiB x t)) else none) e1 := by
  unfold mIsi mbind
  rcases fa e with _ | ⟨x, e1⟩ <;> rfl
@[simp] theorem mIsi2_ap (ts : List Ty6) (fa : M PyData) (e : Env) : mIsi2 ts fa e = match fa e with
  | none => none
  | some (x, e1) => mlift (if x.canLay0 then some (.bool (ts.any (isiB x))) else none) e1 := by
  unfold mIsi2 mbind
  rcases fa e with _ | ⟨x, e1⟩ <;> rfl
@[simp] theorem mRg1_ap (fa : M PyData) (e : Env) : mRg1 fa e = match fa e with
  | none => none
  | some (x, e1) => mlift ((gInt x).map fun n => ((0 : Int), n)) e1 := by
  unfold mRg1 mbind
  rcases fa e with _ | ⟨x, e1⟩ <;> rfl
@[simp] theorem mLstRg_ap (fr : M (Int × Int)) (e : Env) : mLstRg fr e = match fr e with
  | none => none
  | some (p, e1) => mlift (if rgOk p.1 p.2 then some (.list (rgD p.1 p.2)) else none) e1 := by
  unfold mLstRg mbind
  rcases fr e with _ | ⟨x, e1⟩ <;> rfl
@[simp] theorem mTupRg_ap (fr : M (Int × Int)) (e : Env) : mTupRg fr e = match fr e with
  | none => none
  | some (p, e1) => mlift (if rgOk p.1 p.2 then some (.tuple (rgD p.1 p.2)) else none) e1 := by
  unfold mTupRg mbind
  rcases fr e with _ | ⟨x, e1⟩ <;> rfl
@[simp] theorem mRg2_ap (fa fb : M PyData) (e : Env) : mRg2 fa fb e = match fa e with
  | none => none
  | some (x, e1) => match fb e1 with
    | none => none
    | some (y, e2) => mlift (match x, y with
      | .int i, .int j => some (i, j)
      | _, _ => none) e2 := by
  unfold mRg2 mbind
  rcases fa e with _ | ⟨x, e1⟩
  · rfl
  · dsimp only
    rcases fb e1 with _ | ⟨y, e2⟩ <;> rfl
end
/-! ### loops -/
section
variable {T S : Type}
theorem forL_fold {g : PyData → Env → Option Env} {fb : M Fl} (enc : T → PyData) (R : S → Env → Prop) (step : S → T → S) : ∀ (xs : List T) (s : S) (e : Env), R s e →
    (∀ s e x, x ∈ xs → R s e → ∃ e1 e2, g (enc x) e = some e1 ∧ fb e1 = some (.nx, e2) ∧ R (step s x) e2) → ∃ e', forL g fb (xs.map enc) e = some (.nx, e') ∧ R (xs.foldl step s) e'
  | [], s, e, hr, _ => ⟨e, rfl, hr⟩
  | x :: xs, s, e, hr, h => by
    obtain ⟨e1, e2, h1, h2, h3⟩ := h s e x (List.mem_cons_self ..) hr
    obtain ⟨e', h4, h5⟩ := forL_fold enc R step xs (step s x) e2 h3 fun s e y hy => h s e y (List.mem_cons_of_mem _ hy)
    refine ⟨e', ?_, h5⟩
    rw [List.map_cons]
    unfold forL
    rw [h1]; dsimp only; rw [h2]; exact h4
/-- a fold that may hand back a datum at once -/
def runE (step : S → T → Except PyData S) : S → List T → Except PyData S
  | s, [] => .ok s
  | s, x :: xs => match step s x with
    | .ok s' => runE step s' xs
    | .error d => .error d
theorem forL_run {g : PyData → Env → Option Env} {fb : M Fl} (enc : T → PyData) (R : S → Env → Prop) (step : S → T → Except PyData S) : ∀ (xs : List T) (s : S) (e : Env), R s e →
    (∀ s e x, x ∈ xs → R s e → ∃ e1 e2, g (enc x) e = some e1 ∧ match step s x with
      | .ok s' => fb e1 = some (.nx, e2) ∧ R s' e2
      | .error d => fb e1 = some (.rt d, e2)) → ∃ e', match runE step s xs with
    | .ok s' => forL g fb (xs.map enc) e = some (.nx, e') ∧ R s' e'
    | .error d => forL g fb (xs.map enc) e = some (.rt d, e')
  | [], s, e, hr, _ => ⟨e, rfl, hr⟩
  | x :: xs, s, e, hr, h => by
    obtain ⟨e1, e2, h1, h2⟩ := h s e x (List.mem_cons_self ..) hr
    rw [List.map_cons]
    unfold runE
    cases q : step s x with
    | ok s' =>
      rw [q] at h2
      obtain ⟨h2, h3⟩ := h2
      obtain ⟨e', h4⟩ := forL_run enc R step xs s' e2 h3 fun s e y hy => h s e y (List.mem_cons_of_mem _ hy)
      refine ⟨e', ?_⟩
      dsimp only
      cases q2 : runE step s' xs with
      | ok s2 =>
        rw [q2] at h4
        refine ⟨?_, h4.2⟩
        unfold forL
        rw [h1]; dsimp only; rw [h2]; exact h4.1
      | error d =>
        rw [q2] at h4
        show forL g fb (enc x :: xs.map enc) e = _
        unfold forL
        rw [h1]; dsimp only; rw [h2]; exact h4
    | error d =>
      rw [q] at h2
      refine ⟨e2, ?_⟩
      show forL g fb (enc x :: xs.map enc) e = _
      unfold forL
      rw [h1]; dsimp only; rw [h2]
/-- some loop over what changes: nothing is told of the state but R -/
theorem forL_rel {g : PyData → Env → Option Env} {fb : M Fl} (R : List PyData → Env → Prop) : ∀ (ds done : List PyData) (e : Env), R done e →
    (∀ done d e, d ∈ ds → R done e → ∃ e1 e2, g d e = some e1 ∧ fb e1 = some (.nx, e2) ∧ R (done ++ [d]) e2) → ∃ e', forL g fb ds e = some (.nx, e') ∧ R (done ++ ds) e'
  | [], done, e, hr, _ => ⟨e, rfl, by simpa using hr⟩
  | x :: xs, done, e, hr, h => by
    obtain ⟨e1, e2, h1, h2, h3⟩ := h done x e (List.mem_cons_self ..) hr
    obtain ⟨e', h4, h5⟩ := forL_rel R xs (done ++ [x]) e2 h3 fun s y e hy => h s y e (List.mem_cons_of_mem _ hy)
    refine ⟨e', ?_, by simpa using h5⟩
    unfold forL
    rw [h1]; dsimp only; rw [h2]; exact h4
theorem lcL_pure {vs : List Nat} {fg : PyData → Env → Option Env} {ft : M Bool} {fe : M PyData} (enc : T → PyData) (R : Env → Prop) (p : T → Bool) (v : T → PyData) : ∀ (xs : List T) (e : Env), R e →
    (∀ x e, x ∈ xs → R e → ∃ e1 e2, fg (enc x) (wipeE e vs) = some e1 ∧ ft e1 = some (p x, e2) ∧ ∃ e3, (if p x then fe e2 = some (v x, e3) else e3 = e2) ∧ R e3) → ∃ e', lcL vs fg ft fe (xs.map enc) e = some ((xs.filter p).map v, e') ∧ R e'
  | [], e, hr, _ => ⟨e, rfl, hr⟩
  | x :: xs, e, hr, h => by
    obtain ⟨e1, e2, h1, h2, e3, h3, h4⟩ := h x e (List.mem_cons_self ..) hr
    obtain ⟨e', h5, h6⟩ := lcL_pure enc R p v xs e3 h4 fun y e hy => h y e (List.mem_cons_of_mem _ hy)
    refine ⟨e', ?_, h6⟩
    rw [List.map_cons]
    unfold lcL
    rw [h1]; dsimp only; rw [h2]
    cases q : p x with
    | false =>
      rw [q] at h3
      have h3' : e3 = e2 := h3
      subst h3'
      rw [List.filter_cons, q]
      exact h5
    | true =>
      rw [q] at h3
      have h3' : fe e2 = some (v x, e3) := h3
      dsimp only
      rw [h3', List.filter_cons, q]
      dsimp only
      rw [h5]; rfl
/-- the whole comprehension -/
theorem fLc_pure {vs : List Nat} {fi : M (List PyData)} {fg : PyData → Env → Option Env} {ft : M Bool} {fe : M PyData} {e e1 e0 : Env} {xs : List T} {enc : T → PyData} (hi : fi e = some (xs.map enc, e1)) (R : Env → Prop) (p : T → Bool) (v : T → PyData) (h0 : R e1)
    (hr : ∀ e', R e' → restE e1 e' vs = e0) (hz : xs.length ≤ 16777216)
    (h : ∀ x e, x ∈ xs → R e → ∃ e1 e2, fg (enc x) (wipeE e vs) = some e1 ∧ ft e1 = some (p x, e2) ∧ ∃ e3, (if p x then fe e2 = some (v x, e3) else e3 = e2) ∧ R e3) : fLc vs fi fg ft fe e = some (.list ((xs.filter p).map v), e0) := by
  obtain ⟨e', h5, h6⟩ := lcL_pure enc R p v xs e1 h0 h
  rw [fLc_ap, hi]
  dsimp only
  rw [h5]
  dsimp only
  rw [if_pos (by rw [List.length_map]; exact Nat.le_trans (List.length_filter_le _ _) hz), hr e' h6]
/-- .. without a test -/
theorem fLc_map {vs : List Nat} {fi : M (List PyData)} {fg : PyData → Env → Option Env} {fe : M PyData} {e e1 e0 : Env} {xs : List T} {enc : T → PyData} (hi : fi e = some (xs.map enc, e1)) (R : Env → Prop) (v : T → PyData) (h0 : R e1)
    (hr : ∀ e', R e' → restE e1 e' vs = e0) (hz : xs.length ≤ 16777216)
    (h : ∀ x e, x ∈ xs → R e → ∃ e1, fg (enc x) (wipeE e vs) = some e1 ∧ ∃ e3, fe e1 = some (v x, e3) ∧ R e3) : fLc vs fi fg fYes fe e = some (.list (xs.map v), e0) := by
  have := fLc_pure (ft := fYes) (vs := vs) (fg := fg) (fe := fe) hi R (fun _ => true) v h0 hr hz fun x e hx hR => by
    obtain ⟨e1, h1, e3, h2, h3⟩ := h x e hx hR
    exact ⟨e1, e1, h1, rfl, e3, h2, h3⟩
  rw [this, List.filter_eq_self.mpr fun _ _ => rfl]
/-- a comprehension over what changes -/
theorem lcL_rel {vs : List Nat} {fg : PyData → Env → Option Env} {fe : M PyData} (R : Env → Prop) (P : PyData → PyData → Prop) : ∀ (ds : List PyData) (e : Env), R e →
    (∀ d e, d ∈ ds → R e → ∃ e1 y e2, fg d (wipeE e vs) = some e1 ∧ fe e1 = some (y, e2) ∧ P d y ∧ R e2) → ∃ ys e', lcL vs fg fYes fe ds e = some (ys, e') ∧ ys.length = ds.length ∧ (∀ y ∈ ys, ∃ d ∈ ds, P d y) ∧ R e'
  | [], e, hr, _ => ⟨[], e, rfl, rfl, fun y hy => (nomatch hy), hr⟩
  | x :: xs, e, hr, h => by
    obtain ⟨e1, y, e2, h1, h2, h3, h4⟩ := h x e (List.mem_cons_self ..) hr
    obtain ⟨ys, e', h5, h6, h7, h8⟩ := lcL_rel R P xs e2 h4 fun y e hy => h y e (List.mem_cons_of_mem _ hy)
    refine ⟨y :: ys, e', ?_, by simp [h6], fun z hz => ?_, h8⟩
    · unfold lcL
      rw [h1]; dsimp only; rw [fYes_ap]; dsimp only; rw [h2]; dsimp only; rw [h5]
    · rcases List.mem_cons.mp hz with rfl | hz
      · exact ⟨x, List.mem_cons_self .., h3⟩
      · obtain ⟨d, hd, hp⟩ := h7 z hz
        exact ⟨d, List.mem_cons_of_mem _ hd, hp⟩
end
@[simp] theorem wipeE_nil (e : Env) : wipeE e [] = e := rfl
@[simp] theorem wipeE_cons (e : Env) (v : Nat) (vs : List Nat) : wipeE e (v :: vs) = (wipeE e vs).set v .un := rfl
@[simp] theorem restE_nil (e e2 : Env) : restE e e2 [] = e2 := rfl
@[simp] theorem restE_cons (e e2 : Env) (v : Nat) (vs : List Nat) : restE e e2 (v :: vs) = (restE e e2 vs).set v (match e[v]? with
    | some (.va d) => .va d
    | _ => .un) := rfl
/-! ### best -/
theorem ali_i (i j : Int) : PySem.W.alike (.int i) (.int j) = true := by simp [PySem.W.alike]
theorem bestOk_ints (xs : List Int) : bestOk (xs.map .int) = true := by
  unfold bestOk alikeAllB
  have := depth_ints xs
  simp [lay_ints, ali_i]
  omega
theorem gMax1_t (x : Int) (xs : List Int) : gMax1 (.tuple ((x :: xs).map .int)) = some (.int (xs.foldl max x)) := by
  have h := bestOk_ints (x :: xs)
  rw [List.map_cons] at h ⊢
  unfold gMax1 gBest
  dsimp only
  rw [h, if_pos rfl, PySem.W.maxD_ints]
theorem gMax1_l (x : Int) (xs : List Int) : gMax1 (.list ((x :: xs).map .int)) = some (.int (xs.foldl max x)) := by
  have h := bestOk_ints (x :: xs)
  rw [List.map_cons] at h ⊢
  unfold gMax1 gBest
  dsimp only
  rw [h, if_pos rfl, PySem.W.maxD_ints]
theorem gMin1_t (x : Int) (xs : List Int) : gMin1 (.tuple ((x :: xs).map .int)) = some (.int (xs.foldl min x)) := by
  have h := bestOk_ints (x :: xs)
  rw [List.map_cons] at h ⊢
  unfold gMin1 gBest
  dsimp only
  rw [h, if_pos rfl, PySem.W.minD_ints]
theorem gMin1_l (x : Int) (xs : List Int) : gMin1 (.list ((x :: xs).map .int)) = some (.int (xs.foldl min x)) := by
  have h := bestOk_ints (x :: xs)
  rw [List.map_cons] at h ⊢
  unfold gMin1 gBest
  dsimp only
  rw [h, if_pos rfl, PySem.W.minD_ints]
/-- the greatest, 0 of none -/
def mxL : List Int → Int
  | [] => 0
  | x :: xs => xs.foldl max x
def mnL : List Int → Int
  | [] => 0
  | x :: xs => xs.foldl min x
theorem gMax1_T {xs : List Int} (h : xs ≠ []) : gMax1 (.tuple (xs.map .int)) = some (.int (mxL xs)) := by
  cases xs with
  | nil => exact absurd rfl h
  | cons x r => exact gMax1_t x r
theorem gMax1_L {xs : List Int} (h : xs ≠ []) : gMax1 (.list (xs.map .int)) = some (.int (mxL xs)) := by
  cases xs with
  | nil => exact absurd rfl h
  | cons x r => exact gMax1_l x r
theorem gMin1_T {xs : List Int} (h : xs ≠ []) : gMin1 (.tuple (xs.map .int)) = some (.int (mnL xs)) := by
  cases xs with
  | nil => exact absurd rfl h
  | cons x r => exact gMin1_t x r
theorem gMin1_L {xs : List Int} (h : xs ≠ []) : gMin1 (.list (xs.map .int)) = some (.int (mnL xs)) := by
  cases xs with
  | nil => exact absurd rfl h
  | cons x r => exact gMin1_l x r
theorem foldmax_le (xs : List Int) (x : Int) : (x ≤ xs.foldl max x) ∧ ∀ y ∈ xs, y ≤ xs.foldl max x := by
  induction xs generalizing x with
  | nil => exact ⟨Int.le_refl _, fun y hy => nomatch hy⟩
  | cons z r ih =>
    obtain ⟨h1, h2⟩ := ih (max x z)
    refine ⟨by rw [List.foldl_cons]; omega, fun y hy => ?_⟩
    rcases List.mem_cons.mp hy with rfl | hy
    · rw [List.foldl_cons]; omega
    · exact h2 y hy
theorem foldmax_mem (xs : List Int) (x : Int) : xs.foldl max x = x ∨ xs.foldl max x ∈ xs := by
  induction xs generalizing x with
  | nil => exact .inl rfl
  | cons z r ih =>
    rw [List.foldl_cons]
    rcases ih (max x z) with h | h
    · rcases Int.le_total x z with g | g
      · right; rw [h, Int.max_eq_right g]; exact List.mem_cons_self ..
      · left; rw [h, Int.max_eq_left g]
    · exact .inr (List.mem_cons_of_mem _ h)
theorem foldmin_leI (xs : List Int) (x : Int) : (xs.foldl min x ≤ x) ∧ ∀ y ∈ xs, xs.foldl min x ≤ y := by
  induction xs generalizing x with
  | nil => exact ⟨Int.le_refl _, fun y hy => nomatch hy⟩
  | cons z r ih =>
    obtain ⟨h1, h2⟩ := ih (min x z)
    refine ⟨by rw [List.foldl_cons]; omega, fun y hy => ?_⟩
    rcases List.mem_cons.mp hy with rfl | hy
    · rw [List.foldl_cons]; omega
    · exact h2 y hy
theorem foldmin_memI (xs : List Int) (x : Int) : xs.foldl min x = x ∨ xs.foldl min x ∈ xs := by
  induction xs generalizing x with
  | nil => exact .inl rfl
  | cons z r ih =>
    rw [List.foldl_cons]
    rcases ih (min x z) with h | h
    · rcases Int.le_total x z with g | g
      · left; rw [h, Int.min_eq_left g]
      · right; rw [h, Int.min_eq_right g]; exact List.mem_cons_self ..
    · exact .inr (List.mem_cons_of_mem _ h)
theorem mxL_le {xs : List Int} {y : Int} (h : y ∈ xs) : y ≤ mxL xs := by
  cases xs with
  | nil => nomatch h
  | cons x r =>
    obtain ⟨h1, h2⟩ := foldmax_le r x
    rcases List.mem_cons.mp h with rfl | h
    · exact h1
    · exact h2 y h
theorem mxL_mem {xs : List Int} (h : xs ≠ []) : mxL xs ∈ xs := by
  cases xs with
  | nil => exact absurd rfl h
  | cons x r =>
    rcases foldmax_mem r x with e | e
    · show r.foldl max x ∈ _; rw [e]; exact List.mem_cons_self ..
    · exact List.mem_cons_of_mem _ e
theorem mnL_le {xs : List Int} {y : Int} (h : y ∈ xs) : mnL xs ≤ y := by
  cases xs with
  | nil => nomatch h
  | cons x r =>
    obtain ⟨h1, h2⟩ := foldmin_leI r x
    rcases List.mem_cons.mp h with rfl | h
    · exact h1
    · exact h2 y h
theorem mnL_mem {xs : List Int} (h : xs ≠ []) : mnL xs ∈ xs := by
  cases xs with
  | nil => exact absurd rfl h
  | cons x r =>
    rcases foldmin_memI r x with e | e
    · show r.foldl min x ∈ _; rw [e]; exact List.mem_cons_self ..
    · exact List.mem_cons_of_mem _ e
/-! ### a place -/
theorem atI_nat {α : Type} {xs : List α} {i : Nat} {x : α} (h : xs[i]? = some x) : atI xs (i : Int) = some x := by
  unfold atI
  rw [ixN_nat (List.getElem?_eq_some_iff.mp h).1]
  exact h
theorem atI_last {α : Type} {xs : List α} {x : α} : atI (xs ++ [x]) (-1) = some x := by
  unfold atI ixN
  have e : (((xs ++ [x]).length : Nat) : Int) = xs.length + 1 := by simp
  rw [if_neg (by omega), if_pos (by omega)]
  have : ((-1 : Int) + ((xs ++ [x]).length : Nat)).toNat = xs.length := by omega
  rw [this]; simp
end Pd

namespace Pd
open PySem L2 Evl
/-- a slot that nobody reads -/
def Jk (s : Sl) : Prop := s = .un ∨ ∃ d, s = .va d
theorem jk_un : Jk .un := .inl rfl
theorem jk_va (d : PyData) : Jk (.va d) := .inr ⟨d, rfl⟩
/-! ### data: how deep, how many -/
def Nice (d : PyData) (k : Nat) : Prop := d.canLay0 = true ∧ d.depth ≤ k
theorem nice_int (i : Int) (k : Nat) : Nice (.int i) k := ⟨rfl, by simp [PyData.depth]⟩
theorem nice_none (k : Nat) : Nice .none k := ⟨rfl, by simp [PyData.depth]⟩
theorem nice_bool (b : Bool) (k : Nat) : Nice (.bool b) k := ⟨rfl, by simp [PyData.depth]⟩
theorem nice_all {xs : List PyData} {k : Nat} (h : ∀ x ∈ xs, Nice x k) : PyData.canLayAll0 xs = true ∧ PyData.depthAll xs ≤ k := by
  induction xs with
  | nil => exact ⟨rfl, by simp [PyData.depthAll]⟩
  | cons x r ih =>
    obtain ⟨h1, h2⟩ := ih fun y hy => h y (List.mem_cons_of_mem _ hy)
    obtain ⟨h3, h4⟩ := h x (List.mem_cons_self ..)
    exact ⟨by simp [PyData.canLayAll0, h1, h3], by simp [PyData.depthAll]; omega⟩
theorem nice_tup {xs : List PyData} {k : Nat} (h : ∀ x ∈ xs, Nice x k) : Nice (.tuple xs) (k + 1) := by
  obtain ⟨h1, h2⟩ := nice_all h
  exact ⟨by simpa [PyData.canLay0] using h1, by simp [PyData.depth]; omega⟩
theorem nice_lst {xs : List PyData} {k : Nat} (h : ∀ x ∈ xs, Nice x k) : Nice (.list xs) (k + 1) := by
  obtain ⟨h1, h2⟩ := nice_all h
  exact ⟨by simpa [PyData.canLay0] using h1, by simp [PyData.depth]; omega⟩
theorem nice_up {d : PyData} {j k : Nat} (h : Nice d j) (hk : j ≤ k) : Nice d k := ⟨h.1, Nat.le_trans h.2 hk⟩
theorem nice_shp {d : PyData} {k : Nat} (h : Nice d k) (hk : k ≤ 64) : shp d = true := by
  unfold shp SeqAt.shaped
  rw [h.1]
  simp
  exact Nat.le_trans h.2 hk
theorem nice_tupI (xs : List Int) : Nice (tupI xs) 1 := nice_tup fun x hx => by obtain ⟨i, _, rfl⟩ := List.mem_map.mp hx; exact nice_int i 0
theorem nice_lstI (xs : List Int) : Nice (lstI xs) 1 := nice_lst fun x hx => by obtain ⟨i, _, rfl⟩ := List.mem_map.mp hx; exact nice_int i 0
@[simp] theorem shp_tupI (xs : List Int) : shp (tupI xs) = true := nice_shp (nice_tupI xs) (by decide)
@[simp] theorem shp_lstI (xs : List Int) : shp (lstI xs) = true := nice_shp (nice_lstI xs) (by decide)
mutual
/-- neither truth values nor dicts -/
def plain : PyData → Bool
  | .none | .int _ | .str _ => true
  | .list xs | .tuple xs => plainAll xs
  | .bool _ | .dict _ => false
def plainAll : List PyData → Bool
  | [] => true
  | x :: xs => plain x && plainAll xs
end
mutual
theorem eqv_plain : ∀ x y : PyData, plain x = true → plain y = true → (PyData.eqv x y = true ↔ x = y)
  | .none, y, _, hy => by cases y <;> simp [PyData.eqv, plain] at hy ⊢
  | .int i, y, _, hy => by cases y <;> simp [PyData.eqv, plain] at hy ⊢
  | .str i, y, _, hy => by cases y <;> simp [PyData.eqv, plain] at hy ⊢
  | .list xs, y, hx, hy => by
    cases y <;> simp [PyData.eqv] at hy ⊢
    rename_i ys
    exact eqvAll_plain xs ys (by simpa [plain] using hx) (by simpa [plain] using hy)
  | .tuple xs, y, hx, hy => by
    cases y <;> simp [PyData.eqv] at hy ⊢
    rename_i ys
    exact eqvAll_plain xs ys (by simpa [plain] using hx) (by simpa [plain] using hy)
  | .bool _, _, hx, _ => by simp [plain] at hx
  | .dict _, _, hx, _ => by simp [plain] at hx
theorem eqvAll_plain : ∀ xs ys : List PyData, plainAll xs = true → plainAll ys = true → (PyData.eqvAll xs ys = true ↔ xs = ys)
  | [], [], _, _ => by simp [PyData.eqvAll]
  | [], _ :: _, _, _ => by simp [PyData.eqvAll]
  | _ :: _, [], _, _ => by simp [PyData.eqvAll]
  | x :: xs, y :: ys, hx, hy => by
    simp only [plainAll, Bool.and_eq_true] at hx hy
    simp only [PyData.eqvAll, Bool.and_eq_true, List.cons.injEq]
    rw [eqv_plain x y hx.1 hy.1, eqvAll_plain xs ys hx.2 hy.2]
end
mutual
theorem eqv_self : ∀ x : PyData, x.canLay0 = true → PyData.eqv x x = true
  | .none, _ => by simp [PyData.eqv]
  | .bool b, _ => by simp [PyData.eqv]
  | .int i, _ => by simp [PyData.eqv]
  | .str i, _ => by simp [PyData.eqv]
  | .list xs, h => by simp only [PyData.eqv]; exact eqvAll_self xs (by simpa [PyData.canLay0] using h)
  | .tuple xs, h => by simp only [PyData.eqv]; exact eqvAll_self xs (by simpa [PyData.canLay0] using h)
  | .dict _, h => by simp [PyData.canLay0] at h
theorem eqvAll_self : ∀ xs : List PyData, PyData.canLayAll0 xs = true → PyData.eqvAll xs xs = true
  | [], _ => rfl
  | x :: xs, h => by
    simp only [PyData.canLayAll0, Bool.and_eq_true] at h
    simp only [PyData.eqvAll, Bool.and_eq_true]
    exact ⟨eqv_self x h.1, eqvAll_self xs h.2⟩
end
theorem plainAll_of {xs : List PyData} (h : ∀ x ∈ xs, plain x = true) : plainAll xs = true := by
  induction xs with
  | nil => rfl
  | cons x r ih => simp only [plainAll, Bool.and_eq_true]; exact ⟨h x (List.mem_cons_self ..), ih fun y hy => h y (List.mem_cons_of_mem _ hy)⟩
theorem plain_tup {xs : List PyData} (h : ∀ x ∈ xs, plain x = true) : plain (.tuple xs) = true := by simpa [plain] using plainAll_of h
theorem plain_lst {xs : List PyData} (h : ∀ x ∈ xs, plain x = true) : plain (.list xs) = true := by simpa [plain] using plainAll_of h
theorem plain_tupI (xs : List Int) : plain (tupI xs) = true := plain_tup fun x hx => by obtain ⟨i, _, rfl⟩ := List.mem_map.mp hx; rfl
theorem plain_lstI (xs : List Int) : plain (lstI xs) = true := plain_lst fun x hx => by obtain ⟨i, _, rfl⟩ := List.mem_map.mp hx; rfl
theorem eqv_enc {T : Type} [DecidableEq T] {enc : T → PyData} (inj : ∀ a b, enc a = enc b → a = b) (pl : ∀ a, plain (enc a) = true) (a b : T) : PyData.eqv (enc a) (enc b) = decide (a = b) := by
  rw [Bool.eq_iff_iff, eqv_plain _ _ (pl a) (pl b), decide_eq_true_eq]
  exact ⟨inj a b, fun h => by rw [h]⟩
theorem gNe_of {x y : PyData} {j k : Nat} (hx : Nice x j) (hy : Nice y k) (hj : j ≤ 64 := by decide) (hk : k ≤ 64 := by decide) : gNe x y = some (.bool (!PyData.eqv x y)) := by
  unfold gNe; rw [nice_shp hx hj, nice_shp hy hk]; rfl
theorem gEq_of {x y : PyData} {j k : Nat} (hx : Nice x j) (hy : Nice y k) (hj : j ≤ 64 := by decide) (hk : k ≤ 64 := by decide) : gEq x y = some (.bool (PyData.eqv x y)) := by
  unfold gEq; rw [nice_shp hx hj, nice_shp hy hk]; rfl
@[simp] theorem eqv_t0 (xs : List PyData) : PyData.eqv (.tuple xs) (.tuple []) = xs.isEmpty := by cases xs <;> simp [PyData.eqv, PyData.eqvAll]
@[simp] theorem eqv_l0 (xs : List PyData) : PyData.eqv (.list xs) (.list []) = xs.isEmpty := by cases xs <;> simp [PyData.eqv, PyData.eqvAll]
theorem nice_t0 : Nice (.tuple []) 1 := ⟨rfl, by decide⟩
theorem nice_l0 : Nice (.list []) 1 := ⟨rfl, by decide⟩
@[simp] theorem gNe_T0 (xs : List Int) : gNe (tupI xs) (.tuple []) = some (.bool (!xs.isEmpty)) := by
  rw [gNe_of (nice_tupI xs) nice_t0]; unfold tupI; rw [eqv_t0]; cases xs <;> rfl
@[simp] theorem gNe_L0 (xs : List Int) : gNe (lstI xs) (.list []) = some (.bool (!xs.isEmpty)) := by
  rw [gNe_of (nice_lstI xs) nice_l0]; unfold lstI; rw [eqv_l0]; cases xs <;> rfl
@[simp] theorem gSeq_T (xs : List Int) : gSeq (tupI xs) = some (xs.map .int) := rfl
@[simp] theorem gSeq_L (xs : List Int) : gSeq (lstI xs) = some (xs.map .int) := rfl
@[simp] theorem gLen_T (xs : List Int) : gLen (tupI xs) = some (.int xs.length) := by unfold tupI; simp
@[simp] theorem gLen_L (xs : List Int) : gLen (lstI xs) = some (.int xs.length) := by unfold lstI; simp
@[simp] theorem gSum_T (xs : List Int) : gSum (tupI xs) = some (.int xs.sum) := gSum_t xs
@[simp] theorem gSum_L (xs : List Int) : gSum (lstI xs) = some (.int xs.sum) := gSum_l xs
@[simp] theorem gTuple_L (xs : List Int) : gTuple (lstI xs) = some (tupI xs) := rfl
@[simp] theorem gTuple_T (xs : List Int) : gTuple (tupI xs) = some (tupI xs) := rfl
@[simp] theorem gList_T (xs : List Int) : gList (tupI xs) = some (lstI xs) := rfl
@[simp] theorem gList_L (xs : List Int) : gList (lstI xs) = some (lstI xs) := rfl
@[simp] theorem isNon_T (i : List Int) : isNon (tupI i) = false := rfl
@[simp] theorem isNon_L (i : List Int) : isNon (lstI i) = false := rfl
@[simp] theorem gEnum_T (xs : List Int) : gEnum [tupI xs] = some (xs.zipIdx.map fun p => .tuple [.int (p.2 : Nat), .int p.1]) := by
  unfold tupI; rw [gEnum_1t]; unfold enumD
  rw [List.zipIdx_map, List.map_map]; rfl
@[simp] theorem gEnum_L (xs : List Int) : gEnum [lstI xs] = some (xs.zipIdx.map fun p => .tuple [.int (p.2 : Nat), .int p.1]) := by
  unfold lstI; rw [gEnum_1l]; unfold enumD
  rw [List.zipIdx_map, List.map_map]; rfl
theorem gMax1_TT {xs : List Int} (h : xs ≠ []) : gMax1 (tupI xs) = some (.int (mxL xs)) := gMax1_T h
theorem gMax1_LL {xs : List Int} (h : xs ≠ []) : gMax1 (lstI xs) = some (.int (mxL xs)) := gMax1_L h
theorem gMin1_TT {xs : List Int} (h : xs ≠ []) : gMin1 (tupI xs) = some (.int (mnL xs)) := gMin1_T h
theorem gMin1_LL {xs : List Int} (h : xs ≠ []) : gMin1 (lstI xs) = some (.int (mnL xs)) := gMin1_L h
theorem tupI_inj {a b : List Int} (h : tupI a = tupI b) : a = b := by
  have : a.map PyData.int = b.map PyData.int := by unfold tupI at h; injection h
  exact (List.map_inj_right fun x y e => by cases e; rfl).mp this
theorem lstI_inj {a b : List Int} (h : lstI a = lstI b) : a = b := by
  have : a.map PyData.int = b.map PyData.int := by unfold lstI at h; injection h
  exact (List.map_inj_right fun x y e => by cases e; rfl).mp this
/-! ### while -/
theorem whileF_inv {fc : M Bool} {fb : M Fl} (R : Env → Prop) (μ : Env → Nat) (P : Env → Prop)
    (h : ∀ e, R e → ∃ b e1, fc e = some (b, e1) ∧ (b = false → P e1) ∧ (b = true → ∃ e2, fb e1 = some (.nx, e2) ∧ R e2 ∧ μ e2 < μ e)) : ∀ (n : Nat) (e : Env), μ e < n → R e → ∃ e', whileF fc fb n e = some (.nx, e') ∧ P e'
  | 0, e, hn, _ => absurd hn (Nat.not_lt_zero _)
  | n + 1, e, hn, hr => by
    obtain ⟨b, e1, h1, h2, h3⟩ := h e hr
    cases b with
    | false => exact ⟨e1, by unfold whileF; rw [h1], h2 rfl⟩
    | true =>
      obtain ⟨e2, h4, h5, h6⟩ := h3 rfl
      obtain ⟨e', h7, h8⟩ := whileF_inv R μ P h n e2 (by omega) h5
      exact ⟨e', by unfold whileF; rw [h1]; dsimp only; rw [h4]; exact h7, h8⟩
theorem fWhile_inv {fc : M Bool} {fb : M Fl} (R : Env → Prop) (μ : Env → Nat) (P : Env → Prop) {e : Env} (hr : R e)
    (h : ∀ e, R e → ∃ b e1, fc e = some (b, e1) ∧ (b = false → P e1) ∧ (b = true → ∃ e2, fb e1 = some (.nx, e2) ∧ R e2 ∧ μ e2 < μ e)) : ∃ e', fWhile fc fb e = some (.nx, e') ∧ P e' := by
  obtain ⟨e', h1, h2⟩ := whileF_inv R μ P h (μ e + 1) e (Nat.lt_succ_self _) hr
  exact ⟨e', fWhile_of h1, h2⟩
/-! ### how many data -/
mutual
def nodes : PyData → Nat
  | .list xs | .tuple xs => nodesAll xs + 1
  | .none | .bool _ | .int _ | .str _ | .dict _ => 1
def nodesAll : List PyData → Nat
  | [] => 0
  | x :: xs => nodes x + nodesAll xs
end
theorem nodes_pos (d : PyData) : 1 ≤ nodes d := by cases d <;> simp [nodes]
theorem nodesAll_app (xs ys : List PyData) : nodesAll (xs ++ ys) = nodesAll xs + nodesAll ys := by
  induction xs with
  | nil => simp [nodesAll]
  | cons x r ih => simp only [List.cons_append, nodesAll, ih]; omega
theorem nodesAll_le {xs : List PyData} {k : Nat} (h : ∀ x ∈ xs, nodes x ≤ k) : nodesAll xs ≤ xs.length * k := by
  induction xs with
  | nil => simp [nodesAll]
  | cons x r ih =>
    have h1 := ih fun y hy => h y (List.mem_cons_of_mem _ hy)
    have h2 := h x (List.mem_cons_self ..)
    simp only [nodesAll, List.length_cons, Nat.succ_mul]; omega
theorem len_nodes (xs : List PyData) : xs.length ≤ nodesAll xs := by
  induction xs with
  | nil => simp
  | cons x r ih => have := nodes_pos x; simp only [nodesAll, List.length_cons]; omega
theorem nodes_tupI (xs : List Int) : nodes (tupI xs) = xs.length + 1 := by
  unfold tupI; simp only [nodes]
  congr 1
  induction xs with
  | nil => rfl
  | cons x r ih => simp only [List.map_cons, nodesAll, ih, nodes, List.length_cons]; omega
/-! ### ranges -/
theorem gRng1_i {n : Int} (h : n < 2 ^ 62) (h2 : -(2 ^ 62) ≤ n) : gRng1 [.int n] = some (rngD 0 n.toNat) := by
  have e : smOk n = true := by unfold smOk; simp; omega
  show (if smOk n then some (rngD 0 n.toNat) else none) = _
  rw [e]; rfl
theorem gRng1_n {n : Nat} (h : n < 1000000000) : gRng1 [.int (n : Int)] = some (rngD 0 n) := by
  rw [gRng1_i (by omega) (by omega), Int.toNat_natCast]
theorem gRng2_i {a b : Int} (h1 : -(2 ^ 62) ≤ a) (h2 : a < 2 ^ 62) (h3 : -(2 ^ 62) ≤ b) (h4 : b < 2 ^ 62) : gRng2 [.int a, .int b] = some (rngD a (b - a).toNat) := by
  have e : smOk a = true := by unfold smOk; simp; omega
  have e2 : smOk b = true := by unfold smOk; simp; omega
  show (if smOk a && smOk b then some (rngD a (b - a).toNat) else none) = _
  rw [e, e2]; rfl
/-- the numbers of a range -/
def rngI (lo : Int) (n : Nat) : List Int := (List.range n).map fun i => lo + (i : Nat)
theorem rngD_I (lo : Int) (n : Nat) : rngD lo n = (rngI lo n).map PyData.int := by unfold rngD rngI; rw [List.map_map]; rfl
theorem mem_rngI {lo : Int} {n : Nat} {x : Int} : x ∈ rngI lo n ↔ lo ≤ x ∧ x < lo + n := by
  unfold rngI
  rw [List.mem_map]
  constructor
  · rintro ⟨i, hi, rfl⟩
    have := List.mem_range.mp hi
    omega
  · rintro ⟨h1, h2⟩
    exact ⟨(x - lo).toNat, List.mem_range.mpr (by omega), by omega⟩
theorem rngI_len (lo : Int) (n : Nat) : (rngI lo n).length = n := by unfold rngI; simp
theorem rngI_succ (lo : Int) (n : Nat) : rngI lo (n + 1) = lo :: rngI (lo + 1) n := by
  unfold rngI
  rw [List.range_succ_eq_map, List.map_cons, List.map_map]
  congr 1
  · simp
  · refine List.map_congr_left fun i _ => ?_
    simp; omega
/-! ### loops that know how far they are -/
section
variable {T S : Type}
theorem forL_runI {g : PyData → Env → Option Env} {fb : M Fl} (enc : T → PyData) (R : Nat → S → Env → Prop) (step : S → T → Except PyData S) : ∀ (xs : List T) (n : Nat) (s : S) (e : Env), R n s e →
    (∀ j s e x, xs[j]? = some x → R (n + j) s e → ∃ e1 e2, g (enc x) e = some e1 ∧ match step s x with
      | .ok s' => fb e1 = some (.nx, e2) ∧ R (n + j + 1) s' e2
      | .error d => fb e1 = some (.rt d, e2)) → ∃ e', match runE step s xs with
    | .ok s' => forL g fb (xs.map enc) e = some (.nx, e') ∧ R (n + xs.length) s' e'
    | .error d => forL g fb (xs.map enc) e = some (.rt d, e')
  | [], n, s, e, hr, _ => ⟨e, rfl, hr⟩
  | x :: xs, n, s, e, hr, h => by
    obtain ⟨e1, e2, h1, h2⟩ := h 0 s e x rfl hr
    rw [List.map_cons]
    unfold runE
    cases q : step s x with
    | ok s' =>
      rw [q] at h2
      obtain ⟨h2, h3⟩ := h2
      obtain ⟨e', h4⟩ := forL_runI enc R step xs (n + 1) s' e2 h3 fun j s e y hy hr => by
        have := h (j + 1) s e y hy (by rw [show n + (j + 1) = n + 1 + j by omega]; exact hr)
        rw [show n + (j + 1) + 1 = n + 1 + j + 1 by omega] at this
        exact this
      refine ⟨e', ?_⟩
      dsimp only
      cases q2 : runE step s' xs with
      | ok s2 =>
        rw [q2] at h4
        refine ⟨?_, by rw [List.length_cons, show n + (xs.length + 1) = n + 1 + xs.length by omega]; exact h4.2⟩
        unfold forL
        rw [h1]; dsimp only; rw [h2]; exact h4.1
      | error d =>
        rw [q2] at h4
        show forL g fb (enc x :: xs.map enc) e = _
        unfold forL
        rw [h1]; dsimp only; rw [h2]; exact h4
    | error d =>
      rw [q] at h2
      refine ⟨e2, ?_⟩
      show forL g fb (enc x :: xs.map enc) e = _
      unfold forL
      rw [h1]; dsimp only; rw [h2]
end
end Pd

/-! ### the defs of the text: what each means over plain data, and that it keeps its promise. Printed by wip/gen.py. -/
namespace Law
open PySem L2 Evl Pd
def top (i : Nat) : Stmt := PySem.Challenge.pw_dotbooks_k31_whole_sixty_entries_in_colu.main.body.getD i (.Pass ⟨0, 0, 0, 0⟩)
abbrev FnP (K : PySem.W.Frag) (x : Str) (st : Stmt) (f : Addr) (fd : FuncData) : Prop := FunD K x x (defArgs st) (defBody st) (defScope st) [] [] f fd
/-! _law_bag -/
abbrev st__law_bag : Stmt := top 30
abbrev N__law_bag : List Str := ["script", "cell"]
noncomputable def m__law_bag : M Fl :=
  (fRetF (mLst (fCons (mret (.int 0)) (fCons (mret (.int 1234567891)) (fCons (mret (.int 0)) (fCons (fLc [1] (mI gSeq (mSl gSl (fV 0) mNoPart (mPart (mret (.int 63))))) (tgName 1) fYes (mA gAbs (fCons (fV 1) fNil))) fNil))))))
noncomputable def pf__law_bag := pfL 2 1 m__law_bag
theorem sc__law_bag : FnScope N__law_bag ["script"] (defScope st__law_bag) := ⟨rfl, rfl, rfl, by decide +kernel, rfl, by decide +kernel, by decide +kernel⟩
theorem d__law_bag {P : Program} {w : World} {K : PySem.W.Frag} {mg : Str → Option Value} {base : Heap} {f : Addr} (B : Blt mg) : BodyD P w K mg base "_law_bag" (defBody st__law_bag) (defScope st__law_bag) f N__law_bag 0 m__law_bag :=
  fun cdv A outer s H E hr => have sc := sc__law_bag; ⟨_,
   (db_one (ds_retF (dl_lst (da_cons dp_int (da_cons dp_int (da_cons dp_int (da_cons (DL.p (dl_lc (own := [("cell", 1)]) rfl sc.nd (blkOk_by (by rfl)) (di_seq (K := K) (dp_sl (K := K) (dp_var 0) do_none (do_some dp_int))) (fun _ _ _ _ _ => (dg_name 1 sc.nd)) (fun _ h => h) (fun _ _ _ _ _ => dts_nil) (fun _ _ _ _ _ => (dp_cbA k_abs oA_abs (by rfl) B.abs PyProof.Rows.boot_abs (da_cons (dp_var 1) da_nil))))) da_nil)))))))⟩
theorem ok__law_bag {P : Program} {w : World} {K : PySem.W.Frag} {mg : Str → Option Value} {base : Heap} {f : Addr} {fd : FuncData} (B : Blt mg) (F : FnP K "_law_bag" st__law_bag f fd) : FnOk P w K mg base CX0 1 f fd ["script"] (spL K pf__law_bag) :=
  ok_L F sc__law_bag rfl rfl (by decide) (d__law_bag B)
theorem cal__law_bag {P : Program} {w : World} {K : PySem.W.Frag} {mg : Str → Option Value} {base : Heap} {f : Addr} {fd : FuncData} (B : Blt mg) (F : FnP K "_law_bag" st__law_bag f fd) (hm : mg "_law_bag" = some (.ref f)) : CalD P w K mg base "_law_bag" 1 (spL K pf__law_bag) :=
  ⟨f, fd, ["script"], ok__law_bag B F, hm, F.kp, F.bindsN fun _ _ _ _ _ _ us hl => match us, hl with | [_], _ => rfl⟩
/-! _law_lines -/
abbrev st__law_lines : Stmt := top 37
abbrev N__law_lines : List Str := ["text", "wide", "many", "room", "extent"]
noncomputable def m__law_lines : M Fl :=
  (fSeq (mIte (mAnd (mT gB (m2 gNe (fV 0) (mTup fNil))) (mT gB (m2 (gCmp fGt) (m1 gMax1 (fV 0)) (fV 1))))
    (fRet (mret .none))
    fNx)
    (fSeq (fAsg (mTup (fCons (mret (.int 0)) (fCons (m1 gNeg (mret (.int 1))) fNil))) (tgTup 2 (tgCons (tgName 2) (tgCons (tgName 3) tgNil))))
    (fSeq (fFor (mI gSeq (fV 0)) (tgName 4)
    (fSeq (mIte (mT gB (m2 (gCmp fGt) (m2 gAdd (fV 4) (mret (.int 1))) (fV 3)))
    (fPar 2 3 false false (m2 gAdd (fV 2) (mret (.int 1))) (m2 gAdd (fV 1) (mret (.int 1))))
    fNx)
    (fAug 3 (fun i j => i - j) (m2 gAdd (fV 4) (mret (.int 1))))))
    (fRet (mA gMax2 (fCons (mret (.int 1)) (fCons (fV 2) fNil)))))))
noncomputable def pf__law_lines := pfP 5 2 m__law_lines
theorem sc__law_lines : FnScope N__law_lines ["text", "wide"] (defScope st__law_lines) := ⟨rfl, rfl, rfl, by decide +kernel, rfl, by decide +kernel, by decide +kernel⟩
theorem d__law_lines {P : Program} {w : World} {K : PySem.W.Frag} {mg : Str → Option Value} {base : Heap} {f : Addr} (B : Blt mg) : BodyD P w K mg base "_law_lines" (defBody st__law_lines) (defScope st__law_lines) f N__law_lines 0 m__law_lines :=
  fun cdv A outer s H E hr => have sc := sc__law_lines; ⟨_,
   (db_cons (ds_if (DW.t (dw_and (dt_cmp (k_neD K hr) o2_ne (dp_var 0) (dp_tup da_nil) (nomark _)) (dw_and1 (dt_cmp (k_gtD K hr) (o2_cmp fGt) (dp_cb1 (k_max K hr) (o1_best PySem.W.maxD) (by rfl) B.max PyProof.Rows.boot_max (DP.q (dp_var 0))) (dp_var 1) (nomark _)))))
    (db_one (ds_ret dp_non))
    db_nil)
    (db_cons (ds_asg (dp_tup (da_cons dp_int (da_cons (dp_neg dp_int) da_nil))) (dg_tup (K := K) 2 rfl (dgs_cons (dg_name 2 sc.nd) (dgs_cons (dg_name 3 sc.nd) dgs_nil))))
    (db_cons (ds_for PassesOwn.never rfl (di_seq (K := K) (dp_var 0)) (dg_name 4 sc.nd)
    (db_cons (ds_if (dt_cmp (k_gtD K hr) (o2_cmp fGt) (dp_op (k_addA K) o2_add (dp_var 4) dp_int) (dp_var 3) (nomark _))
    (db_one (ds_par 2 3 rfl sc.nd (.p (dp_op (k_addA K) o2_add (dp_var 2) dp_int)) (.p (dp_op (k_addA K) o2_add (dp_var 1) dp_int))))
    db_nil)
    (db_one (ds_aug 3 ip_sub sc.nd (dp_op (k_addA K) o2_add (dp_var 4) dp_int)))))
    (db_one (ds_ret (dp_cbA k_max2 oA_max2 (by rfl) B.max PyProof.Rows.boot_max (da_cons dp_int (da_cons (dp_var 2) da_nil))))))))⟩
theorem ok__law_lines {P : Program} {w : World} {K : PySem.W.Frag} {mg : Str → Option Value} {base : Heap} {f : Addr} {fd : FuncData} (B : Blt mg) (F : FnP K "_law_lines" st__law_lines f fd) : FnOk P w K mg base CX0 1 f fd ["text", "wide"] (spP K pf__law_lines) :=
  ok_P F sc__law_lines rfl rfl (by decide) (d__law_lines B)
theorem cal__law_lines {P : Program} {w : World} {K : PySem.W.Frag} {mg : Str → Option Value} {base : Heap} {f : Addr} {fd : FuncData} (B : Blt mg) (F : FnP K "_law_lines" st__law_lines f fd) (hm : mg "_law_lines" = some (.ref f)) : CalD P w K mg base "_law_lines" 1 (spP K pf__law_lines) :=
  ⟨f, fd, ["text", "wide"], ok__law_lines B F, hm, F.kp, F.bindsN fun _ _ _ _ _ _ us hl => match us, hl with | [_, _], _ => rfl⟩
/-! _law_row_lines -/
abbrev st__law_row_lines : Stmt := top 38
abbrev N__law_row_lines : List Str := ["sheet", "some", "found", "row", "lines", "text", "wide"]
noncomputable def m__law_row_lines : M Fl :=
  (fSeq (fSetL 2 (mLst fNil))
    (fSeq (fFor (mI gSeq (fV 0)) (tgName 3)
    (fSeq (fSet 4 (fLc [5, 6] (mI gSeq (mLZip (fCons (fV 3) (fCons (fV 1) fNil)))) (tgTup 2 (tgCons (tgName 5) (tgCons (tgName 6) tgNil))) fYes (mA pf__law_lines (fCons (fV 5) (fCons (fV 6) fNil)))))
    (fSeq (mIte (mT gB (m2 gIn (mret .none) (fV 4)))
    (fRet (mret .none))
    fNx)
    (fDrop (mCallB 2 gAppend (fCons (m1 gMax1 (fV 4)) fNil))))))
    (fRet (m1 gTuple (fR 2)))))
noncomputable def pf__law_row_lines := pfP 7 2 m__law_row_lines
theorem sc__law_row_lines : FnScope N__law_row_lines ["sheet", "some"] (defScope st__law_row_lines) := ⟨rfl, rfl, rfl, by decide +kernel, rfl, by decide +kernel, by decide +kernel⟩
theorem d__law_row_lines {P : Program} {w : World} {K : PySem.W.Frag} {mg : Str → Option Value} {base : Heap} {f : Addr} (B : Blt mg) (C__law_lines : CalD P w K mg base "_law_lines" 1 (spP K pf__law_lines)) : BodyD P w K mg base "_law_row_lines" (defBody st__law_row_lines) (defScope st__law_row_lines) f N__law_row_lines 1 m__law_row_lines :=
  fun cdv A outer s H E hr => have sc := sc__law_row_lines; ⟨_,
   (db_cons (ds_setL 2 sc.nd (dl_lst da_nil))
    (db_cons (ds_for PassesOwn.never rfl (di_seq (K := K) (dp_var 0)) (dg_name 3 sc.nd)
    (db_cons (ds_setLc 4 (own := [("text", 5), ("wide", 6)]) rfl sc.nd (blkOk_by (by rfl)) (di_seq (K := K) (DL.p (dl_lzip (K := K) rfl (by rfl) B.zip (by rfl) B.list (da_cons (dp_var 3) (da_cons (dp_var 1) da_nil))))) (fun _ _ _ _ _ => (dg_tup (K := K) 2 rfl (dgs_cons (dg_name 5 sc.nd) (dgs_cons (dg_name 6 sc.nd) dgs_nil)))) (fun _ h => h) (fun _ _ _ _ _ => dts_nil) (fun _ _ _ _ _ => (dp_c (K := K) C__law_lines (by decide) hr (by rfl) (da_cons (dp_var 5) (da_cons (dp_var 6) da_nil)))))
    (db_cons (ds_if (dt_cmp (k_inS K hr) o2_in dp_non (dp_var 4) (by with_unfolding_all rfl))
    (db_one (ds_ret dp_non))
    db_nil)
    (db_one (ds_expr (dp_mut (K := K) PySem.F.slot_list_append PySem.F.type_list_append (MtR.of mt_append) om_append (dq_own 2) (da_cons (dp_cb1 (k_max K hr) (o1_best PySem.W.maxD) (by rfl) B.max PyProof.Rows.boot_max (DP.q (dp_var 4))) da_nil)))))))
    (db_one (ds_ret (dp_ct1 (k_tuple K) o1_tuple (by rfl) B.tuple PyProof.Rows.boot_tuple (dq_own 2))))))⟩
theorem ok__law_row_lines {P : Program} {w : World} {K : PySem.W.Frag} {mg : Str → Option Value} {base : Heap} {f : Addr} {fd : FuncData} (B : Blt mg) (C__law_lines : CalD P w K mg base "_law_lines" 1 (spP K pf__law_lines)) (F : FnP K "_law_row_lines" st__law_row_lines f fd) : FnOk P w K mg base CX0 2 f fd ["sheet", "some"] (spP K pf__law_row_lines) :=
  ok_P F sc__law_row_lines rfl rfl (by decide) (d__law_row_lines B C__law_lines)
theorem cal__law_row_lines {P : Program} {w : World} {K : PySem.W.Frag} {mg : Str → Option Value} {base : Heap} {f : Addr} {fd : FuncData} (B : Blt mg) (C__law_lines : CalD P w K mg base "_law_lines" 1 (spP K pf__law_lines)) (F : FnP K "_law_row_lines" st__law_row_lines f fd) (hm : mg "_law_row_lines" = some (.ref f)) : CalD P w K mg base "_law_row_lines" 2 (spP K pf__law_row_lines) :=
  ⟨f, fd, ["sheet", "some"], ok__law_row_lines B C__law_lines F, hm, F.kp, F.bindsN fun _ _ _ _ _ _ us hl => match us, hl with | [_, _], _ => rfl⟩
/-! cells_in -/
abbrev st_cells_in : Stmt := top 1
abbrev N_cells_in : List Str := ["lengths", "line", "index"]
noncomputable def m_cells_in : M Fl :=
  (fRet (m2 gAdd (m1 gSum (fLc [2] (mI gSeq (fV 1)) (tgName 2) fYes (m2 gIx (fV 0) (fV 2)))) (mA gMax2 (fCons (mret (.int 0)) (fCons (m2 gSub (m1 gLen (fV 1)) (mret (.int 1))) fNil)))))
noncomputable def pf_cells_in := pfP 3 2 m_cells_in
theorem sc_cells_in : FnScope N_cells_in ["lengths", "line"] (defScope st_cells_in) := ⟨rfl, rfl, rfl, by decide +kernel, rfl, by decide +kernel, by decide +kernel⟩
theorem d_cells_in {P : Program} {w : World} {K : PySem.W.Frag} {mg : Str → Option Value} {base : Heap} {f : Addr} (B : Blt mg) : BodyD P w K mg base "cells_in" (defBody st_cells_in) (defScope st_cells_in) f N_cells_in 0 m_cells_in :=
  fun cdv A outer s H E hr => have sc := sc_cells_in; ⟨_,
   (db_one (ds_ret (dp_op (k_addA K) o2_add (dp_cb1 (k_sum K) o1_sum (by rfl) B.sum PyProof.Rows.boot_sum (DL.q (dl_lc (own := [("index", 2)]) rfl sc.nd (blkOk_by (by rfl)) (di_seq (K := K) (dp_var 1)) (fun _ _ _ _ _ => (dg_name 2 sc.nd)) (fun _ h => h) (fun _ _ _ _ _ => dts_nil) (fun _ _ _ _ _ => (dp_ix (K := K) hr (dp_var 0) (dp_var 2)))))) (dp_cbA k_max2 oA_max2 (by rfl) B.max PyProof.Rows.boot_max (da_cons dp_int (da_cons (dp_op op_sub o2_sub (dp_cb1 (k_len K) o1_len (by rfl) B.len boot_len (DP.q (dp_var 1))) dp_int) da_nil))))))⟩
theorem ok_cells_in {P : Program} {w : World} {K : PySem.W.Frag} {mg : Str → Option Value} {base : Heap} {f : Addr} {fd : FuncData} (B : Blt mg) (F : FnP K "cells_in" st_cells_in f fd) : FnOk P w K mg base CX0 1 f fd ["lengths", "line"] (spP K pf_cells_in) :=
  ok_P F sc_cells_in rfl rfl (by decide) (d_cells_in B)
theorem cal_cells_in {P : Program} {w : World} {K : PySem.W.Frag} {mg : Str → Option Value} {base : Heap} {f : Addr} {fd : FuncData} (B : Blt mg) (F : FnP K "cells_in" st_cells_in f fd) (hm : mg "cells_in" = some (.ref f)) : CalD P w K mg base "cells_in" 1 (spP K pf_cells_in) :=
  ⟨f, fd, ["lengths", "line"], ok_cells_in B F, hm, F.kp, F.bindsN fun _ _ _ _ _ _ us hl => match us, hl with | [_, _], _ => rfl⟩
/-! laid -/
abbrev st_laid : Stmt := top 2
abbrev N_laid : List Str := ["lengths", "wide", "found", "index", "length"]
noncomputable def m_laid : M Fl :=
  (fSeq (fSetL 2 (mLst fNil))
    (fSeq (fFor (mIA gEnum (fCons (fV 0) fNil)) (tgTup 2 (tgCons (tgName 3) (tgCons (tgName 4) tgNil)))
    (fSeq (mIte (mT gB (m2 (gCmp fGt) (fV 4) (fV 1)))
    (fRet (mret .none))
    fNx)
    (mIte (mAnd (mT gB (m2o 2 gNe (mLst fNil))) (mT gB (m2 (gCmp fLe) (mA pf_cells_in (fCons (fV 0) (fCons (mTup (fStar (m2o 2 gIx (m1 gNeg (mret (.int 1)))) (fCons (fV 3) fNil))) fNil))) (fV 1))))
    (fSetIt 2 (m1 gNeg (mret (.int 1))) (mTup (fStar (m2o 2 gIx (m1 gNeg (mret (.int 1)))) (fCons (fV 3) fNil))))
    (fDrop (mCallB 2 gAppend (fCons (mTup (fCons (fV 3) fNil)) fNil))))))
    (fRet (m1 gTuple (fR 2)))))
noncomputable def pf_laid := pfP 5 2 m_laid
theorem sc_laid : FnScope N_laid ["lengths", "wide"] (defScope st_laid) := ⟨rfl, rfl, rfl, by decide +kernel, rfl, by decide +kernel, by decide +kernel⟩
theorem d_laid {P : Program} {w : World} {K : PySem.W.Frag} {mg : Str → Option Value} {base : Heap} {f : Addr} (B : Blt mg) (C_cells_in : CalD P w K mg base "cells_in" 1 (spP K pf_cells_in)) : BodyD P w K mg base "laid" (defBody st_laid) (defScope st_laid) f N_laid 1 m_laid :=
  fun cdv A outer s H E hr => have sc := sc_laid; ⟨_,
   (db_cons (ds_setL 2 sc.nd (dl_lst da_nil))
    (db_cons (ds_for PassesOwn.never rfl (di_enum (K := K) (by rfl) B.enumerate (da_cons (dp_var 0) da_nil)) (dg_tup (K := K) 2 rfl (dgs_cons (dg_name 3 sc.nd) (dgs_cons (dg_name 4 sc.nd) dgs_nil)))
    (db_cons (ds_if (dt_cmp (k_gtD K hr) (o2_cmp fGt) (dp_var 4) (dp_var 1) (nomark _))
    (db_one (ds_ret dp_non))
    db_nil)
    (db_one (ds_if (DW.t (dw_and (dt_cmpo (k_neD K hr) o2_ne (dq_own 2) (DL.q (dl_lst da_nil)) (nomark _)) (dw_and1 (dt_cmp (k_leD K hr) (o2_cmp fLe) (dp_c (K := K) C_cells_in (by decide) hr (by rfl) (da_cons (dp_var 0) (da_cons (dp_tup (da_star (K := K) (DP.q (dp_ixo (K := K) hr (dq_own 2) (dp_neg dp_int))) (da_cons (dp_var 3) da_nil))) da_nil))) (dp_var 1) (nomark _)))))
    (db_one (ds_setIt (dq_own 2) (dp_neg dp_int) (dp_tup (da_star (K := K) (DP.q (dp_ixo (K := K) hr (dq_own 2) (dp_neg dp_int))) (da_cons (dp_var 3) da_nil)))))
    (db_one (ds_expr (dp_mut (K := K) PySem.F.slot_list_append PySem.F.type_list_append (MtR.of mt_append) om_append (dq_own 2) (da_cons (dp_tup (da_cons (dp_var 3) da_nil)) da_nil))))))))
    (db_one (ds_ret (dp_ct1 (k_tuple K) o1_tuple (by rfl) B.tuple PyProof.Rows.boot_tuple (dq_own 2))))))⟩
theorem ok_laid {P : Program} {w : World} {K : PySem.W.Frag} {mg : Str → Option Value} {base : Heap} {f : Addr} {fd : FuncData} (B : Blt mg) (C_cells_in : CalD P w K mg base "cells_in" 1 (spP K pf_cells_in)) (F : FnP K "laid" st_laid f fd) : FnOk P w K mg base CX0 2 f fd ["lengths", "wide"] (spP K pf_laid) :=
  ok_P F sc_laid rfl rfl (by decide) (d_laid B C_cells_in)
theorem cal_laid {P : Program} {w : World} {K : PySem.W.Frag} {mg : Str → Option Value} {base : Heap} {f : Addr} {fd : FuncData} (B : Blt mg) (C_cells_in : CalD P w K mg base "cells_in" 1 (spP K pf_cells_in)) (F : FnP K "laid" st_laid f fd) (hm : mg "laid" = some (.ref f)) : CalD P w K mg base "laid" 2 (spP K pf_laid) :=
  ⟨f, fd, ["lengths", "wide"], ok_laid B C_cells_in F, hm, F.kp, F.bindsN fun _ _ _ _ _ _ us hl => match us, hl with | [_, _], _ => rfl⟩
/-! _law_alike -/
abbrev st__law_alike : Stmt := top 34
abbrev N__law_alike : List Str := ["found", "due", "pairs", "at", "one", "other"]
noncomputable def m__law_alike : M Fl :=
  (fSeq (fPar 2 3 true false (mLst (fCons (mTup (fCons (fV 0) (fCons (fV 1) fNil))) fNil)) (mret (.int 0)))
    (fSeq (fWhile (mT gB (m2 (gCmp fLt) (fV 3) (m1 gLen (fR 2))))
    (fSeq (fAsg (m2o 2 gIx (fV 3)) (tgTup 2 (tgCons (tgName 4) (tgCons (tgName 5) tgNil))))
    (fSeq (fAug 3 (fun i j => i + j) (mret (.int 1)))
    (mIte (mT gTru (mIsi2 [.tup, .lst] (fV 5)))
    (fSeq (mIte (mOr (mT gB (m2 gNe (mIsi .tup (fV 4)) (mIsi .tup (fV 5)))) (mT gB (m2 gNe (mIsi .lst (fV 4)) (mIsi .lst (fV 5)))))
    (fRet (mret (.bool false)))
    fNx)
    (fSeq (mIte (mT gB (m2 gNe (m1 gLen (fV 4)) (m1 gLen (fV 5))))
    (fRet (mret (.bool false)))
    fNx)
    (fDrop (mCallB 2 gExtend (fCons (mLZip (fCons (fV 4) (fCons (fV 5) fNil))) fNil)))))
    (mIte (mT gB (m2 gIsN (fV 5) (mret .none)))
    (mIte (mT gB (m2 gNotN (fV 4) (mret .none)))
    (fRet (mret (.bool false)))
    fNx)
    (mIte (mOr (mT gB (m2 gNe (mIsi .bl (fV 4)) (mIsi .bl (fV 5)))) (mT gB (m2 gNe (mIsi .int (fV 4)) (mIsi .int (fV 5)))))
    (fRet (mret (.bool false)))
    (mIte (mOr (mT gB (m2 gNe (mIsi .str (fV 4)) (mIsi .str (fV 5)))) (mT gB (m2 gNe (fV 4) (fV 5))))
    (fRet (mret (.bool false)))
    fNx)))))))
    (fRet (mret (.bool true)))))
noncomputable def pf__law_alike := pfP 6 2 m__law_alike
theorem sc__law_alike : FnScope N__law_alike ["found", "due"] (defScope st__law_alike) := ⟨rfl, rfl, rfl, by decide +kernel, rfl, by decide +kernel, by decide +kernel⟩
theorem d__law_alike {P : Program} {w : World} {K : PySem.W.Frag} {mg : Str → Option Value} {base : Heap} {f : Addr} (B : Blt mg) : BodyD P w K mg base "_law_alike" (defBody st__law_alike) (defScope st__law_alike) f N__law_alike 0 m__law_alike :=
  fun cdv A outer s H E hr => have sc := sc__law_alike; ⟨_,
   (db_cons (ds_par 2 3 rfl sc.nd (.l (dl_lst (da_cons (dp_tup (da_cons (dp_var 0) (da_cons (dp_var 1) da_nil))) da_nil))) (.p dp_int))
    (db_cons (ds_while PassesOwn.never (dt_cmp (k_ltD K hr) (o2_cmp fLt) (dp_var 3) (dp_cb1 (k_len K) o1_len (by rfl) B.len boot_len (dq_own 2)) (nomark _))
    (db_cons (ds_asg (dp_ixo (K := K) hr (dq_own 2) (dp_var 3)) (dg_tup (K := K) 2 rfl (dgs_cons (dg_name 4 sc.nd) (dgs_cons (dg_name 5 sc.nd) dgs_nil))))
    (db_cons (ds_aug 3 ip_add sc.nd dp_int)
    (db_one (ds_if (dt_tru (DP.q (dp_isi2 (K := K) .tup .lst (by rfl) B.isinstance (by rfl) B.tuple PyProof.Rows.boot_tuple (by rfl) B.list PyProof.Rows.boot_list (DP.q (dp_var 5)))))
    (db_cons (ds_if (DW.t (dw_or (dt_cmp (k_neD K hr) o2_ne (dp_isi (K := K) .tup (by rfl) B.isinstance (by rfl) B.tuple PyProof.Rows.boot_tuple (DP.q (dp_var 4))) (dp_isi (K := K) .tup (by rfl) B.isinstance (by rfl) B.tuple PyProof.Rows.boot_tuple (DP.q (dp_var 5))) (nomark _)) (dw_or1 (dt_cmp (k_neD K hr) o2_ne (dp_isi (K := K) .lst (by rfl) B.isinstance (by rfl) B.list PyProof.Rows.boot_list (DP.q (dp_var 4))) (dp_isi (K := K) .lst (by rfl) B.isinstance (by rfl) B.list PyProof.Rows.boot_list (DP.q (dp_var 5))) (nomark _)))))
    (db_one (ds_ret dp_bl))
    db_nil)
    (db_cons (ds_if (dt_cmp (k_neD K hr) o2_ne (dp_cb1 (k_len K) o1_len (by rfl) B.len boot_len (DP.q (dp_var 4))) (dp_cb1 (k_len K) o1_len (by rfl) B.len boot_len (DP.q (dp_var 5))) (nomark _))
    (db_one (ds_ret dp_bl))
    db_nil)
    (db_one (ds_expr (dp_mut (K := K) PySem.F.slot_list_extend PySem.F.type_list_extend (MtR.of mt_extend) om_extend (dq_own 2) (da_cons (DL.p (dl_lzip (K := K) rfl (by rfl) B.zip (by rfl) B.list (da_cons (dp_var 4) (da_cons (dp_var 5) da_nil)))) da_nil))))))
    (db_one (ds_if (dt_cmp k_isN o2_isN (dp_var 5) dp_non (nomark _))
    (db_one (ds_if (dt_cmp k_notN o2_notN (dp_var 4) dp_non (nomark _))
    (db_one (ds_ret dp_bl))
    db_nil))
    (db_one (ds_if (DW.t (dw_or (dt_cmp (k_neD K hr) o2_ne (dp_isi (K := K) .bl (by rfl) B.isinstance (by rfl) B.bool PyProof.Rows.boot_bool (DP.q (dp_var 4))) (dp_isi (K := K) .bl (by rfl) B.isinstance (by rfl) B.bool PyProof.Rows.boot_bool (DP.q (dp_var 5))) (nomark _)) (dw_or1 (dt_cmp (k_neD K hr) o2_ne (dp_isi (K := K) .int (by rfl) B.isinstance (by rfl) B.int PyProof.Rows.boot_int (DP.q (dp_var 4))) (dp_isi (K := K) .int (by rfl) B.isinstance (by rfl) B.int PyProof.Rows.boot_int (DP.q (dp_var 5))) (nomark _)))))
    (db_one (ds_ret dp_bl))
    (db_one (ds_if (DW.t (dw_or (dt_cmp (k_neD K hr) o2_ne (dp_isi (K := K) .str (by rfl) B.isinstance (by rfl) B.str PyProof.Rows.boot_str (DP.q (dp_var 4))) (dp_isi (K := K) .str (by rfl) B.isinstance (by rfl) B.str PyProof.Rows.boot_str (DP.q (dp_var 5))) (nomark _)) (dw_or1 (dt_cmp (k_neD K hr) o2_ne (dp_var 4) (dp_var 5) (nomark _)))))
    (db_one (ds_ret dp_bl))
    db_nil)))))))))))
    (db_one (ds_ret dp_bl))))⟩
theorem ok__law_alike {P : Program} {w : World} {K : PySem.W.Frag} {mg : Str → Option Value} {base : Heap} {f : Addr} {fd : FuncData} (B : Blt mg) (F : FnP K "_law_alike" st__law_alike f fd) : FnOk P w K mg base CX0 1 f fd ["found", "due"] (spP K pf__law_alike) :=
  ok_P F sc__law_alike rfl rfl (by decide) (d__law_alike B)
theorem cal__law_alike {P : Program} {w : World} {K : PySem.W.Frag} {mg : Str → Option Value} {base : Heap} {f : Addr} {fd : FuncData} (B : Blt mg) (F : FnP K "_law_alike" st__law_alike f fd) (hm : mg "_law_alike" = some (.ref f)) : CalD P w K mg base "_law_alike" 1 (spP K pf__law_alike) :=
  ⟨f, fd, ["found", "due"], ok__law_alike B F, hm, F.kp, F.bindsN fun _ _ _ _ _ _ us hl => match us, hl with | [_, _], _ => rfl⟩
/-! _law_take -/
abbrev st__law_take : Stmt := top 31
abbrev N__law_take : List Str := ["bag", "many", "cell", "stirred", "value", "begin", "second"]
noncomputable def m__law_take : M Fl :=
  (fSeq (mIte (mT gB (m2 gEq (m2o 0 gIx (mret (.int 0))) (mret (.int 0))))
    (fSeq (fSet 2 (m2 gIx (m2 gAdd (mSl gSl (m2o 0 gIx (mret (.int 3))) (mPart (m2o 0 gIx (mret (.int 2)))) mNoPart) (mLst (fCons (mret (.int 0)) fNil))) (mret (.int 0))))
    (fSeq (fAugIt 0 (fun i j => i + j) (mret (.int 2)) (mret (.int 1)))
    (fSeq (mIte (mT gB (m2 (gCmp fGe) (fV 2) (m2 gPow (mret (.int 10)) (mret (.int 18)))))
    (fSetIt 0 (mret (.int 0)) (fV 2))
    fNx)
    (fSeq (fSet 3 (m2 gAdd (m2 gAdd (m2 gMul (m2o 0 gIx (mret (.int 1))) (mret (.int 48271))) (m2 gMod (mA gInt1 (fCons (fV 2) fNil)) (mret (.int 2147483647)))) (m2 gMul (mret (.int 7919)) (m2o 0 gIx (mret (.int 2))))))
    (fSetIt 0 (mret (.int 1)) (m2 gMod (mA gInt1 (fCons (fV 3) fNil)) (mret (.int 2147483647))))))))
    fNx)
    (fSeq (mIte (mT gB (m2 (gCmp fGt) (m2o 0 gIx (mret (.int 0))) (mret (.int 0))))
    (fSeq (fSet 4 (m2 gMod (mA gInt1 (fCons (m2o 0 gIx (mret (.int 0))) fNil)) (fV 1)))
    (fSeq (fSetIt 0 (mret (.int 0)) (m2 gFdiv (mA gInt1 (fCons (m2o 0 gIx (mret (.int 0))) fNil)) (fV 1)))
    (fRet (fV 4))))
    fNx)
    (fSeq (fSet 5 (m2 gMod (mA gInt1 (fCons (m2 gMul (m2 gAdd (m2o 0 gIx (mret (.int 1))) (mret (.int 1))) (mret (.int 39373))) fNil)) (mret (.int 1000000007))))
    (fSeq (fSet 6 (m2 gMod (mA gInt1 (fCons (m2 gMul (m2 gMod (mA gInt1 (fCons (m2 gMul (fV 5) (fV 5)) fNil)) (mret (.int 998244353))) (mret (.int 30011))) fNil)) (mret (.int 998244353))))
    (fRet (m2 gMod (mA gInt1 (fCons (m2 gFdiv (fV 6) (mret (.int 7))) fNil)) (fV 1)))))))
noncomputable def pf__law_take := pfB 7 2 m__law_take
theorem sc__law_take : FnScope N__law_take ["bag", "many"] (defScope st__law_take) := ⟨rfl, rfl, rfl, by decide +kernel, rfl, by decide +kernel, by decide +kernel⟩
theorem d__law_take {P : Program} {w : World} {K : PySem.W.Frag} {mg : Str → Option Value} {base : Heap} {f : Addr} (B : Blt mg) : BodyD P w K mg base "_law_take" (defBody st__law_take) (defScope st__law_take) f N__law_take 0 m__law_take :=
  fun cdv A outer s H E hr => have sc := sc__law_take; ⟨_,
   (db_cons (ds_if (dt_cmp (k_eqD K hr) o2_eq (dp_ixo (K := K) hr (dq_own 0) dp_int) dp_int (nomark _))
    (db_cons (ds_set 2 sc.nd (dp_ix (K := K) hr (dp_op (k_addA K) o2_add (dp_sl (K := K) (dp_ixo (K := K) hr (dq_own 0) dp_int) (do_some (dp_ixo (K := K) hr (dq_own 0) dp_int)) do_none) (DL.p (dl_lst (da_cons dp_int da_nil)))) dp_int))
    (db_cons (ds_augIt ip_add (dq_own 0) dp_int dp_int)
    (db_cons (ds_if (dt_cmp (k_geD K hr) (o2_cmp fGe) (dp_var 2) (dp_op op_pow o2_pow dp_int dp_int) (nomark _))
    (db_one (ds_setIt (dq_own 0) dp_int (dp_var 2)))
    db_nil)
    (db_cons (ds_set 3 sc.nd (dp_op (k_addA K) o2_add (dp_op (k_addA K) o2_add (dp_op op_mulA o2_mul (dp_ixo (K := K) hr (dq_own 0) dp_int) dp_int) (dp_op op_mod o2_mod (dp_ctA k_int oA_int (by rfl) B.int PyProof.Rows.boot_int (da_cons (dp_var 2) da_nil)) dp_int)) (dp_op op_mulA o2_mul dp_int (dp_ixo (K := K) hr (dq_own 0) dp_int))))
    (db_one (ds_setIt (dq_own 0) dp_int (dp_op op_mod o2_mod (dp_ctA k_int oA_int (by rfl) B.int PyProof.Rows.boot_int (da_cons (dp_var 3) da_nil)) dp_int)))))))
    db_nil)
    (db_cons (ds_if (dt_cmp (k_gtD K hr) (o2_cmp fGt) (dp_ixo (K := K) hr (dq_own 0) dp_int) dp_int (nomark _))
    (db_cons (ds_set 4 sc.nd (dp_op op_mod o2_mod (dp_ctA k_int oA_int (by rfl) B.int PyProof.Rows.boot_int (da_cons (dp_ixo (K := K) hr (dq_own 0) dp_int) da_nil)) (dp_var 1)))
    (db_cons (ds_setIt (dq_own 0) dp_int (dp_op op_fdiv o2_fdiv (dp_ctA k_int oA_int (by rfl) B.int PyProof.Rows.boot_int (da_cons (dp_ixo (K := K) hr (dq_own 0) dp_int) da_nil)) (dp_var 1)))
    (db_one (ds_ret (dp_var 4)))))
    db_nil)
    (db_cons (ds_set 5 sc.nd (dp_op op_mod o2_mod (dp_ctA k_int oA_int (by rfl) B.int PyProof.Rows.boot_int (da_cons (dp_op op_mulA o2_mul (dp_op (k_addA K) o2_add (dp_ixo (K := K) hr (dq_own 0) dp_int) dp_int) dp_int) da_nil)) dp_int))
    (db_cons (ds_set 6 sc.nd (dp_op op_mod o2_mod (dp_ctA k_int oA_int (by rfl) B.int PyProof.Rows.boot_int (da_cons (dp_op op_mulA o2_mul (dp_op op_mod o2_mod (dp_ctA k_int oA_int (by rfl) B.int PyProof.Rows.boot_int (da_cons (dp_op op_mulA o2_mul (dp_var 5) (dp_var 5)) da_nil)) dp_int) dp_int) da_nil)) dp_int))
    (db_one (ds_ret (dp_op op_mod o2_mod (dp_ctA k_int oA_int (by rfl) B.int PyProof.Rows.boot_int (da_cons (dp_op op_fdiv o2_fdiv (dp_var 6) dp_int) da_nil)) (dp_var 1))))))))⟩
theorem ok__law_take {P : Program} {w : World} {K : PySem.W.Frag} {mg : Str → Option Value} {base : Heap} {f : Addr} {fd : FuncData} (B : Blt mg) (F : FnP K "_law_take" st__law_take f fd) : FnOk P w K mg base CX0 1 f fd ["bag", "many"] (spB K pf__law_take) :=
  ok_B F sc__law_take rfl rfl (by decide) (d__law_take B)
theorem cal__law_take {P : Program} {w : World} {K : PySem.W.Frag} {mg : Str → Option Value} {base : Heap} {f : Addr} {fd : FuncData} (B : Blt mg) (F : FnP K "_law_take" st__law_take f fd) (hm : mg "_law_take" = some (.ref f)) : CalD P w K mg base "_law_take" 1 (spB K pf__law_take) :=
  ⟨f, fd, ["bag", "many"], ok__law_take B F, hm, F.kp, F.bindsN fun _ _ _ _ _ _ us hl => match us, hl with | [_, _], _ => rfl⟩
/-! _law_some -/
abbrev st__law_some : Stmt := top 32
abbrev N__law_some : List Str := ["bag", "things"]
noncomputable def m__law_some : M Fl :=
  (fRet (m2 gIx (fV 1) (mCallB 0 pf__law_take (fCons (m1 gLen (fV 1)) fNil))))
noncomputable def pf__law_some := pfB 2 2 m__law_some
theorem sc__law_some : FnScope N__law_some ["bag", "things"] (defScope st__law_some) := ⟨rfl, rfl, rfl, by decide +kernel, rfl, by decide +kernel, by decide +kernel⟩
theorem d__law_some {P : Program} {w : World} {K : PySem.W.Frag} {mg : Str → Option Value} {base : Heap} {f : Addr} (B : Blt mg) (C__law_take : CalD P w K mg base "_law_take" 1 (spB K pf__law_take)) : BodyD P w K mg base "_law_some" (defBody st__law_some) (defScope st__law_some) f N__law_some 1 m__law_some :=
  fun cdv A outer s H E hr => have sc := sc__law_some; ⟨_,
   (db_one (ds_ret (dp_ix (K := K) hr (dp_var 1) (dp_cB (K := K) C__law_take (by decide) hr (by rfl) (dq_own 0) (da_cons (dp_cb1 (k_len K) o1_len (by rfl) B.len boot_len (DP.q (dp_var 1))) da_nil)))))⟩
theorem ok__law_some {P : Program} {w : World} {K : PySem.W.Frag} {mg : Str → Option Value} {base : Heap} {f : Addr} {fd : FuncData} (B : Blt mg) (C__law_take : CalD P w K mg base "_law_take" 1 (spB K pf__law_take)) (F : FnP K "_law_some" st__law_some f fd) : FnOk P w K mg base CX0 2 f fd ["bag", "things"] (spB K pf__law_some) :=
  ok_B F sc__law_some rfl rfl (by decide) (d__law_some B C__law_take)
theorem cal__law_some {P : Program} {w : World} {K : PySem.W.Frag} {mg : Str → Option Value} {base : Heap} {f : Addr} {fd : FuncData} (B : Blt mg) (C__law_take : CalD P w K mg base "_law_take" 1 (spB K pf__law_take)) (F : FnP K "_law_some" st__law_some f fd) (hm : mg "_law_some" = some (.ref f)) : CalD P w K mg base "_law_some" 2 (spB K pf__law_some) :=
  ⟨f, fd, ["bag", "things"], ok__law_some B C__law_take F, hm, F.kp, F.bindsN fun _ _ _ _ _ _ us hl => match us, hl with | [_, _], _ => rfl⟩
/-! _law_sheet -/
abbrev st__law_sheet : Stmt := top 42
abbrev N__law_sheet : List Str := ["bag", "across", "most", "found", "turn", "row", "column", "word"]
noncomputable def m__law_sheet : M Fl :=
  (fSeq (fAsg (mTup (fCons (m2 gAdd (mret (.int 1)) (mCallB 0 pf__law_take (fCons (mret (.int 3)) fNil))) (fCons (mCallB 0 pf__law_some (fCons (mLst (fCons (mret (.int 2)) (fCons (mret (.int 5)) (fCons (mret (.int 12)) fNil)))) fNil)) fNil))) (tgTup 2 (tgCons (tgName 1) (tgCons (tgName 2) tgNil))))
    (fSeq (fSetL 3 (mLst fNil))
    (fSeq (fFor (mIA gRng1 (fCons (m2 gAdd (mret (.int 1)) (mCallB 0 pf__law_take (fCons (mret (.int 20)) fNil))) fNil)) (tgName 4)
    (fSeq (fSetL 5 (mLst fNil))
    (fSeq (fFor (mIA gRng1 (fCons (fV 1) fNil)) (tgName 6)
    (fDrop (mCallB 5 gAppend (fCons (m1 gTuple (fLc [7] (mIA gRng1 (fCons (mCallB 0 pf__law_some (fCons (mLst (fCons (mret (.int 0)) (fCons (mret (.int 1)) (fCons (mret (.int 2)) (fCons (mret (.int 3)) (fCons (mret (.int 6)) fNil)))))) fNil)) fNil)) (tgName 7) fYes (m2 gAdd (mret (.int 1)) (mCallB 0 pf__law_take (fCons (fV 2) fNil))))) fNil))))
    (fDrop (mCallB 3 gAppend (fCons (m1 gTuple (fR 5)) fNil))))))
    (fSeq (mIte (mT gB (m2 gEq (mCallB 0 pf__law_take (fCons (mret (.int 6)) fNil)) (mret (.int 0))))
    (fSetIt 3 (mret (.int 0)) (m2 gAdd (mTup (fCons (mTup (fCons (mret (.int 60)) (fCons (mret (.int 60)) (fCons (mret (.int 99)) fNil)))) fNil)) (mSl gSl (m2o 3 gIx (mret (.int 0))) (mPart (mret (.int 1))) mNoPart)))
    fNx)
    (fRet (m1 gTuple (fR 3)))))))
noncomputable def pf__law_sheet := pfB 8 1 m__law_sheet
theorem sc__law_sheet : FnScope N__law_sheet ["bag"] (defScope st__law_sheet) := ⟨rfl, rfl, rfl, by decide +kernel, rfl, by decide +kernel, by decide +kernel⟩
theorem d__law_sheet {P : Program} {w : World} {K : PySem.W.Frag} {mg : Str → Option Value} {base : Heap} {f : Addr} (B : Blt mg) (C__law_some : CalD P w K mg base "_law_some" 2 (spB K pf__law_some)) (C__law_take : CalD P w K mg base "_law_take" 1 (spB K pf__law_take)) : BodyD P w K mg base "_law_sheet" (defBody st__law_sheet) (defScope st__law_sheet) f N__law_sheet 2 m__law_sheet :=
  fun cdv A outer s H E hr => have sc := sc__law_sheet; ⟨_,
   (db_cons (ds_asg (dp_tup (da_cons (dp_op (k_addA K) o2_add dp_int (dp_cB (K := K) C__law_take (by decide) hr (by rfl) (dq_own 0) (da_cons dp_int da_nil))) (da_cons (dp_cB (K := K) C__law_some (by decide) hr (by rfl) (dq_own 0) (da_cons (DL.p (dl_lst (da_cons dp_int (da_cons dp_int (da_cons dp_int da_nil))))) da_nil)) da_nil))) (dg_tup (K := K) 2 rfl (dgs_cons (dg_name 1 sc.nd) (dgs_cons (dg_name 2 sc.nd) dgs_nil))))
    (db_cons (ds_setL 3 sc.nd (dl_lst da_nil))
    (db_cons (ds_for PassesOwn.never rfl (di_rng1 (by rfl) B.range (da_cons (dp_op (k_addA K) o2_add dp_int (dp_cB (K := K) C__law_take (by decide) hr (by rfl) (dq_own 0) (da_cons dp_int da_nil))) da_nil)) (dg_name 4 sc.nd)
    (db_cons (ds_setL 5 sc.nd (dl_lst da_nil))
    (db_cons (ds_for PassesOwn.never rfl (di_rng1 (by rfl) B.range (da_cons (dp_var 1) da_nil)) (dg_name 6 sc.nd)
    (db_one (ds_expr (dp_mut (K := K) PySem.F.slot_list_append PySem.F.type_list_append (MtR.of mt_append) om_append (dq_own 5) (da_cons (dp_ct1 (k_tuple K) o1_tuple (by rfl) B.tuple PyProof.Rows.boot_tuple (DL.q (dl_lc (own := [("word", 7)]) rfl sc.nd (blkOk_by (by rfl)) (di_rng1 (by rfl) B.range (da_cons (dp_cB (K := K) C__law_some (by decide) hr (by rfl) (dq_own 0) (da_cons (DL.p (dl_lst (da_cons dp_int (da_cons dp_int (da_cons dp_int (da_cons dp_int (da_cons dp_int da_nil))))))) da_nil)) da_nil)) (fun _ _ _ _ _ => (dg_name 7 sc.nd)) (fun _ h => h) (fun _ _ _ _ _ => dts_nil) (fun _ _ _ _ _ => (dp_op (k_addA K) o2_add dp_int (dp_cB (K := K) C__law_take (by decide) hr (by rfl) (dq_own 0) (da_cons (dp_var 2) da_nil))))))) da_nil)))))
    (db_one (ds_expr (dp_mut (K := K) PySem.F.slot_list_append PySem.F.type_list_append (MtR.of mt_append) om_append (dq_own 3) (da_cons (dp_ct1 (k_tuple K) o1_tuple (by rfl) B.tuple PyProof.Rows.boot_tuple (dq_own 5)) da_nil)))))))
    (db_cons (ds_if (dt_cmp (k_eqD K hr) o2_eq (dp_cB (K := K) C__law_take (by decide) hr (by rfl) (dq_own 0) (da_cons dp_int da_nil)) dp_int (nomark _))
    (db_one (ds_setIt (dq_own 3) dp_int (dp_op (k_addA K) o2_add (dp_tup (da_cons (dp_tup (da_cons dp_int (da_cons dp_int (da_cons dp_int da_nil)))) da_nil)) (dp_sl (K := K) (dp_ixo (K := K) hr (dq_own 3) dp_int) (do_some dp_int) do_none))))
    db_nil)
    (db_one (ds_ret (dp_ct1 (k_tuple K) o1_tuple (by rfl) B.tuple PyProof.Rows.boot_tuple (dq_own 3))))))))⟩
theorem ok__law_sheet {P : Program} {w : World} {K : PySem.W.Frag} {mg : Str → Option Value} {base : Heap} {f : Addr} {fd : FuncData} (B : Blt mg) (C__law_some : CalD P w K mg base "_law_some" 2 (spB K pf__law_some)) (C__law_take : CalD P w K mg base "_law_take" 1 (spB K pf__law_take)) (F : FnP K "_law_sheet" st__law_sheet f fd) : FnOk P w K mg base CX0 3 f fd ["bag"] (spB K pf__law_sheet) :=
  ok_B F sc__law_sheet rfl rfl (by decide) (d__law_sheet B C__law_some C__law_take)
theorem cal__law_sheet {P : Program} {w : World} {K : PySem.W.Frag} {mg : Str → Option Value} {base : Heap} {f : Addr} {fd : FuncData} (B : Blt mg) (C__law_some : CalD P w K mg base "_law_some" 2 (spB K pf__law_some)) (C__law_take : CalD P w K mg base "_law_take" 1 (spB K pf__law_take)) (F : FnP K "_law_sheet" st__law_sheet f fd) (hm : mg "_law_sheet" = some (.ref f)) : CalD P w K mg base "_law_sheet" 3 (spB K pf__law_sheet) :=
  ⟨f, fd, ["bag"], ok__law_sheet B C__law_some C__law_take F, hm, F.kp, F.bindsN fun _ _ _ _ _ _ us hl => match us, hl with | [_], _ => rfl⟩
/-! _law_steps -/
abbrev st__law_steps : Stmt := top 39
abbrev N__law_steps : List Str := ["sheet", "column", "texts", "least_wide_one", "most", "found", "before", "wide", "now", "row", "text"]
noncomputable def m__law_steps : M Fl :=
  (fSeq (fSet 2 (fLc [9] (mI gSeq (fV 0)) (tgName 9) fYes (m2 gIx (fV 9) (fV 1))))
    (fSeq (fSet 3 (m1 gMax1 (m2 gAdd (mLst (fCons (mret (.int 1)) fNil)) (fLc [10] (mI gSeq (fV 2)) (tgName 10) (mT gB (m2 gNe (fV 10) (mTup fNil))) (m1 gMax1 (fV 10))))))
    (fSeq (fSet 4 (m1 gMax1 (m2 gAdd (mLst (fCons (mret (.int 1)) fNil)) (fLc [10] (mI gSeq (fV 2)) (tgName 10) (mT gB (m2 gNe (fV 10) (mTup fNil))) (m2 gSub (m2 gAdd (m1 gSum (fV 10)) (m1 gLen (fV 10))) (mret (.int 1)))))))
    (fSeq (fPar 5 6 false false (mLst fNil) (mret .none))
    (fSeq (fFor (mIA gRng2 (fCons (fV 3) (fCons (m2 gAdd (fV 4) (mret (.int 1))) fNil))) (tgName 7)
    (fSeq (fSet 8 (fLc [10] (mI gSeq (fV 2)) (tgName 10) fYes (mA pf__law_lines (fCons (fV 10) (fCons (fV 7) fNil)))))
    (fSeq (fSet 5 (m2 gAdd (fV 5) (m2 gMul (mLst (fCons (fV 7) fNil)) (mA gInt1 (fCons (m2 gNe (fV 8) (fV 6)) fNil)))))
    (fSet 6 (fV 8)))))
    (fRet (fV 5)))))))
noncomputable def pf__law_steps := pfP 11 2 m__law_steps
theorem sc__law_steps : FnScope N__law_steps ["sheet", "column"] (defScope st__law_steps) := ⟨rfl, rfl, rfl, by decide +kernel, rfl, by decide +kernel, by decide +kernel⟩
theorem d__law_steps {P : Program} {w : World} {K : PySem.W.Frag} {mg : Str → Option Value} {base : Heap} {f : Addr} (B : Blt mg) (C__law_lines : CalD P w K mg base "_law_lines" 1 (spP K pf__law_lines)) : BodyD P w K mg base "_law_steps" (defBody st__law_steps) (defScope st__law_steps) f N__law_steps 1 m__law_steps :=
  fun cdv A outer s H E hr => have sc := sc__law_steps; ⟨_,
   (db_cons (ds_setLc 2 (own := [("row", 9)]) rfl sc.nd (blkOk_by (by rfl)) (di_seq (K := K) (dp_var 0)) (fun _ _ _ _ _ => (dg_name 9 sc.nd)) (fun _ h => h) (fun _ _ _ _ _ => dts_nil) (fun _ _ _ _ _ => (dp_ix (K := K) hr (dp_var 9) (dp_var 1))))
    (db_cons (ds_set 3 sc.nd (dp_cb1 (k_max K hr) (o1_best PySem.W.maxD) (by rfl) B.max PyProof.Rows.boot_max (DP.q (dp_op (k_addA K) o2_add (DL.p (dl_lst (da_cons dp_int da_nil))) (DL.p (dl_lc (own := [("text", 10)]) rfl sc.nd (blkOk_by (by rfl)) (di_seq (K := K) (dp_var 2)) (fun _ _ _ _ _ => (dg_name 10 sc.nd)) (fun _ h => h) (fun _ _ _ _ _ => (dts_one (dt_cmp (k_neD K hr) o2_ne (dp_var 10) (dp_tup da_nil) (nomark _)))) (fun _ _ _ _ _ => (dp_cb1 (k_max K hr) (o1_best PySem.W.maxD) (by rfl) B.max PyProof.Rows.boot_max (DP.q (dp_var 10))))))))))
    (db_cons (ds_set 4 sc.nd (dp_cb1 (k_max K hr) (o1_best PySem.W.maxD) (by rfl) B.max PyProof.Rows.boot_max (DP.q (dp_op (k_addA K) o2_add (DL.p (dl_lst (da_cons dp_int da_nil))) (DL.p (dl_lc (own := [("text", 10)]) rfl sc.nd (blkOk_by (by rfl)) (di_seq (K := K) (dp_var 2)) (fun _ _ _ _ _ => (dg_name 10 sc.nd)) (fun _ h => h) (fun _ _ _ _ _ => (dts_one (dt_cmp (k_neD K hr) o2_ne (dp_var 10) (dp_tup da_nil) (nomark _)))) (fun _ _ _ _ _ => (dp_op op_sub o2_sub (dp_op (k_addA K) o2_add (dp_cb1 (k_sum K) o1_sum (by rfl) B.sum PyProof.Rows.boot_sum (DP.q (dp_var 10))) (dp_cb1 (k_len K) o1_len (by rfl) B.len boot_len (DP.q (dp_var 10)))) dp_int))))))))
    (db_cons (ds_par 5 6 rfl sc.nd (.p (DL.p (dl_lst da_nil))) (.p dp_non))
    (db_cons (ds_for PassesOwn.never rfl (di_rng2 (by rfl) B.range (da_cons (dp_var 3) (da_cons (dp_op (k_addA K) o2_add (dp_var 4) dp_int) da_nil))) (dg_name 7 sc.nd)
    (db_cons (ds_setLc 8 (own := [("text", 10)]) rfl sc.nd (blkOk_by (by rfl)) (di_seq (K := K) (dp_var 2)) (fun _ _ _ _ _ => (dg_name 10 sc.nd)) (fun _ h => h) (fun _ _ _ _ _ => dts_nil) (fun _ _ _ _ _ => (dp_c (K := K) C__law_lines (by decide) hr (by rfl) (da_cons (dp_var 10) (da_cons (dp_var 7) da_nil)))))
    (db_cons (ds_set 5 sc.nd (dp_op (k_addA K) o2_add (dp_var 5) (dp_op op_mulA o2_mul (DL.p (dl_lst (da_cons (dp_var 7) da_nil))) (dp_ctA k_int oA_int (by rfl) B.int PyProof.Rows.boot_int (da_cons (dp_cmp (k_neD K hr) o2_ne (dp_var 8) (dp_var 6) (nomark _)) da_nil)))))
    (db_one (ds_set 6 sc.nd (dp_var 8))))))
    (db_one (ds_ret (dp_var 5))))))))⟩
theorem ok__law_steps {P : Program} {w : World} {K : PySem.W.Frag} {mg : Str → Option Value} {base : Heap} {f : Addr} {fd : FuncData} (B : Blt mg) (C__law_lines : CalD P w K mg base "_law_lines" 1 (spP K pf__law_lines)) (F : FnP K "_law_steps" st__law_steps f fd) : FnOk P w K mg base CX0 2 f fd ["sheet", "column"] (spP K pf__law_steps) :=
  ok_P F sc__law_steps rfl rfl (by decide) (d__law_steps B C__law_lines)
theorem cal__law_steps {P : Program} {w : World} {K : PySem.W.Frag} {mg : Str → Option Value} {base : Heap} {f : Addr} {fd : FuncData} (B : Blt mg) (C__law_lines : CalD P w K mg base "_law_lines" 1 (spP K pf__law_lines)) (F : FnP K "_law_steps" st__law_steps f fd) (hm : mg "_law_steps" = some (.ref f)) : CalD P w K mg base "_law_steps" 2 (spP K pf__law_steps) :=
  ⟨f, fd, ["sheet", "column"], ok__law_steps B C__law_lines F, hm, F.kp, F.bindsN fun _ _ _ _ _ _ us hl => match us, hl with | [_, _], _ => rfl⟩
/-! begun -/
abbrev st_begun : Stmt := top 13
abbrev N_begun : List Str := ["steps", "room", "found", "column", "least", "some", "step", "its"]
noncomputable def m_begun : M Fl :=
  (fSeq (fSet 2 (mLst (fCons (mTup fNil) fNil)))
    (fSeq (fFor (mIA gRng1 (fCons (m2 gSub (m1 gLen (fV 0)) (mret (.int 1))) fNil)) (tgName 3)
    (fSeq (fSet 4 (m1 gSum (fLc [7] (mI gSeq (mSl gSl (fV 0) (mPart (m2 gAdd (fV 3) (mret (.int 1)))) mNoPart)) (tgName 7) fYes (m1 gMin1 (fV 7)))))
    (fSet 2 (fLc2 [5, 6] [6] (mI gSeq (fV 2)) (tgName 5) fYes (mI gSeq (m2 gIx (fV 0) (fV 3))) (tgName 6) (mT gB (m2 (gCmp fLe) (m2 gAdd (m2 gAdd (m1 gSum (fV 5)) (fV 6)) (fV 4)) (fV 1))) (mTup (fStar (fV 5) (fCons (fV 6) fNil)))))))
    (fRet (fV 2))))
noncomputable def pf_begun := pfP 8 2 m_begun
theorem sc_begun : FnScope N_begun ["steps", "room"] (defScope st_begun) := ⟨rfl, rfl, rfl, by decide +kernel, rfl, by decide +kernel, by decide +kernel⟩
theorem d_begun {P : Program} {w : World} {K : PySem.W.Frag} {mg : Str → Option Value} {base : Heap} {f : Addr} (B : Blt mg) : BodyD P w K mg base "begun" (defBody st_begun) (defScope st_begun) f N_begun 0 m_begun :=
  fun cdv A outer s H E hr => have sc := sc_begun; ⟨_,
   (db_cons (ds_set 2 sc.nd (DL.p (dl_lst (da_cons (dp_tup da_nil) da_nil))))
    (db_cons (ds_for PassesOwn.never rfl (di_rng1 (by rfl) B.range (da_cons (dp_op op_sub o2_sub (dp_cb1 (k_len K) o1_len (by rfl) B.len boot_len (DP.q (dp_var 0))) dp_int) da_nil)) (dg_name 3 sc.nd)
    (db_cons (ds_set 4 sc.nd (dp_cb1 (k_sum K) o1_sum (by rfl) B.sum PyProof.Rows.boot_sum (DL.q (dl_lc (own := [("its", 7)]) rfl sc.nd (blkOk_by (by rfl)) (di_seq (K := K) (dp_sl (K := K) (dp_var 0) (do_some (dp_op (k_addA K) o2_add (dp_var 3) dp_int)) do_none)) (fun _ _ _ _ _ => (dg_name 7 sc.nd)) (fun _ h => h) (fun _ _ _ _ _ => dts_nil) (fun _ _ _ _ _ => (dp_cb1 (k_min K hr) (o1_best PySem.W.minD) (by rfl) B.min PyProof.Rows.boot_min (DP.q (dp_var 7))))))))
    (db_one (ds_setLc2 (own := [("some", 5), ("step", 6)]) 2 [6] rfl sc.nd (blkOk_by (by rfl)) (fun _ h => List.mem_append_right [5] h) (di_seq (K := K) (dp_var 2)) (fun _ _ _ _ _ => (dg_name 5 sc.nd)) (fun _ h => List.mem_append_left [6] h) (fun _ _ _ _ _ => dts_nil) (fun _ _ _ _ _ => (di_seq (K := K) (dp_ix (K := K) hr (dp_var 0) (dp_var 3)))) (fun _ _ _ _ _ => (dg_name 6 sc.nd)) (fun _ h => h) (fun _ _ _ _ _ => (dts_one (dt_cmp (k_leD K hr) (o2_cmp fLe) (dp_op (k_addA K) o2_add (dp_op (k_addA K) o2_add (dp_cb1 (k_sum K) o1_sum (by rfl) B.sum PyProof.Rows.boot_sum (DP.q (dp_var 5))) (dp_var 6)) (dp_var 4)) (dp_var 1) (nomark _)))) (fun _ _ _ _ _ => (dp_tup (da_star (K := K) (DP.q (dp_var 5)) (da_cons (dp_var 6) da_nil))))))))
    (db_one (ds_ret (dp_var 2)))))⟩
theorem ok_begun {P : Program} {w : World} {K : PySem.W.Frag} {mg : Str → Option Value} {base : Heap} {f : Addr} {fd : FuncData} (B : Blt mg) (F : FnP K "begun" st_begun f fd) : FnOk P w K mg base CX0 1 f fd ["steps", "room"] (spP K pf_begun) :=
  ok_P F sc_begun rfl rfl (by decide) (d_begun B)
theorem cal_begun {P : Program} {w : World} {K : PySem.W.Frag} {mg : Str → Option Value} {base : Heap} {f : Addr} {fd : FuncData} (B : Blt mg) (F : FnP K "begun" st_begun f fd) (hm : mg "begun" = some (.ref f)) : CalD P w K mg base "begun" 1 (spP K pf_begun) :=
  ⟨f, fd, ["steps", "room"], ok_begun B F, hm, F.kp, F.bindsN fun _ _ _ _ _ _ us hl => match us, hl with | [_, _], _ => rfl⟩
/-! text_lines -/
abbrev st_text_lines : Stmt := top 4
abbrev N_text_lines : List Str := ["text", "wide", "found"]
noncomputable def m_text_lines : M Fl :=
  (fSeq (fSet 2 (mA pf_laid (fCons (fV 0) (fCons (fV 1) fNil))))
    (fRet (mIte (mT gB (m2 gIsN (fV 2) (mret .none))) (mret .none) (mA gMax2 (fCons (mret (.int 1)) (fCons (m1 gLen (fV 2)) fNil))))))
noncomputable def pf_text_lines := pfP 3 2 m_text_lines
theorem sc_text_lines : FnScope N_text_lines ["text", "wide"] (defScope st_text_lines) := ⟨rfl, rfl, rfl, by decide +kernel, rfl, by decide +kernel, by decide +kernel⟩
theorem d_text_lines {P : Program} {w : World} {K : PySem.W.Frag} {mg : Str → Option Value} {base : Heap} {f : Addr} (B : Blt mg) (C_laid : CalD P w K mg base "laid" 2 (spP K pf_laid)) : BodyD P w K mg base "text_lines" (defBody st_text_lines) (defScope st_text_lines) f N_text_lines 2 m_text_lines :=
  fun cdv A outer s H E hr => have sc := sc_text_lines; ⟨_,
   (db_cons (ds_set 2 sc.nd (dp_c (K := K) C_laid (by decide) hr (by rfl) (da_cons (dp_var 0) (da_cons (dp_var 1) da_nil))))
    (db_one (ds_ret (dp_if (dt_cmp k_isN o2_isN (dp_var 2) dp_non (nomark _)) dp_non (dp_cbA k_max2 oA_max2 (by rfl) B.max PyProof.Rows.boot_max (da_cons dp_int (da_cons (dp_cb1 (k_len K) o1_len (by rfl) B.len boot_len (DP.q (dp_var 2))) da_nil)))))))⟩
theorem ok_text_lines {P : Program} {w : World} {K : PySem.W.Frag} {mg : Str → Option Value} {base : Heap} {f : Addr} {fd : FuncData} (B : Blt mg) (C_laid : CalD P w K mg base "laid" 2 (spP K pf_laid)) (F : FnP K "text_lines" st_text_lines f fd) : FnOk P w K mg base CX0 3 f fd ["text", "wide"] (spP K pf_text_lines) :=
  ok_P F sc_text_lines rfl rfl (by decide) (d_text_lines B C_laid)
theorem cal_text_lines {P : Program} {w : World} {K : PySem.W.Frag} {mg : Str → Option Value} {base : Heap} {f : Addr} {fd : FuncData} (B : Blt mg) (C_laid : CalD P w K mg base "laid" 2 (spP K pf_laid)) (F : FnP K "text_lines" st_text_lines f fd) (hm : mg "text_lines" = some (.ref f)) : CalD P w K mg base "text_lines" 3 (spP K pf_text_lines) :=
  ⟨f, fd, ["text", "wide"], ok_text_lines B C_laid F, hm, F.kp, F.bindsN fun _ _ _ _ _ _ us hl => match us, hl with | [_, _], _ => rfl⟩
/-! texts_of -/
abbrev st_texts_of : Stmt := top 7
abbrev N_texts_of : List Str := ["sheet", "column", "row"]
noncomputable def m_texts_of : M Fl :=
  (fRet (fLc [2] (mI gSeq (fV 0)) (tgName 2) fYes (m2 gIx (fV 2) (fV 1))))
noncomputable def pf_texts_of := pfP 3 2 m_texts_of
theorem sc_texts_of : FnScope N_texts_of ["sheet", "column"] (defScope st_texts_of) := ⟨rfl, rfl, rfl, by decide +kernel, rfl, by decide +kernel, by decide +kernel⟩
theorem d_texts_of {P : Program} {w : World} {K : PySem.W.Frag} {mg : Str → Option Value} {base : Heap} {f : Addr} (B : Blt mg) : BodyD P w K mg base "texts_of" (defBody st_texts_of) (defScope st_texts_of) f N_texts_of 0 m_texts_of :=
  fun cdv A outer s H E hr => have sc := sc_texts_of; ⟨_,
   (db_one (ds_ret (DL.p (dl_lc (own := [("row", 2)]) rfl sc.nd (blkOk_by (by rfl)) (di_seq (K := K) (dp_var 0)) (fun _ _ _ _ _ => (dg_name 2 sc.nd)) (fun _ h => h) (fun _ _ _ _ _ => dts_nil) (fun _ _ _ _ _ => (dp_ix (K := K) hr (dp_var 2) (dp_var 1)))))))⟩
theorem ok_texts_of {P : Program} {w : World} {K : PySem.W.Frag} {mg : Str → Option Value} {base : Heap} {f : Addr} {fd : FuncData} (B : Blt mg) (F : FnP K "texts_of" st_texts_of f fd) : FnOk P w K mg base CX0 1 f fd ["sheet", "column"] (spP K pf_texts_of) :=
  ok_P F sc_texts_of rfl rfl (by decide) (d_texts_of B)
theorem cal_texts_of {P : Program} {w : World} {K : PySem.W.Frag} {mg : Str → Option Value} {base : Heap} {f : Addr} {fd : FuncData} (B : Blt mg) (F : FnP K "texts_of" st_texts_of f fd) (hm : mg "texts_of" = some (.ref f)) : CalD P w K mg base "texts_of" 1 (spP K pf_texts_of) :=
  ⟨f, fd, ["sheet", "column"], ok_texts_of B F, hm, F.kp, F.bindsN fun _ _ _ _ _ _ us hl => match us, hl with | [_, _], _ => rfl⟩
/-! lines_at -/
abbrev st_lines_at : Stmt := top 9
abbrev N_lines_at : List Str := ["sheet", "column", "wide", "text"]
noncomputable def m_lines_at : M Fl :=
  (fRet (fLc [3] (mI gSeq (mA pf_texts_of (fCons (fV 0) (fCons (fV 1) fNil)))) (tgName 3) fYes (mA pf_text_lines (fCons (fV 3) (fCons (fV 2) fNil)))))
noncomputable def pf_lines_at := pfP 4 3 m_lines_at
theorem sc_lines_at : FnScope N_lines_at ["sheet", "column", "wide"] (defScope st_lines_at) := ⟨rfl, rfl, rfl, by decide +kernel, rfl, by decide +kernel, by decide +kernel⟩
theorem d_lines_at {P : Program} {w : World} {K : PySem.W.Frag} {mg : Str → Option Value} {base : Heap} {f : Addr} (B : Blt mg) (C_text_lines : CalD P w K mg base "text_lines" 3 (spP K pf_text_lines)) (C_texts_of : CalD P w K mg base "texts_of" 1 (spP K pf_texts_of)) : BodyD P w K mg base "lines_at" (defBody st_lines_at) (defScope st_lines_at) f N_lines_at 3 m_lines_at :=
  fun cdv A outer s H E hr => have sc := sc_lines_at; ⟨_,
   (db_one (ds_ret (DL.p (dl_lc (own := [("text", 3)]) rfl sc.nd (blkOk_by (by rfl)) (di_seq (K := K) (dp_c (K := K) C_texts_of (by decide) hr (by rfl) (da_cons (dp_var 0) (da_cons (dp_var 1) da_nil)))) (fun _ _ _ _ _ => (dg_name 3 sc.nd)) (fun _ h => h) (fun _ _ _ _ _ => dts_nil) (fun _ _ _ _ _ => (dp_c (K := K) C_text_lines (by decide) hr (by rfl) (da_cons (dp_var 3) (da_cons (dp_var 2) da_nil))))))))⟩
theorem ok_lines_at {P : Program} {w : World} {K : PySem.W.Frag} {mg : Str → Option Value} {base : Heap} {f : Addr} {fd : FuncData} (B : Blt mg) (C_text_lines : CalD P w K mg base "text_lines" 3 (spP K pf_text_lines)) (C_texts_of : CalD P w K mg base "texts_of" 1 (spP K pf_texts_of)) (F : FnP K "lines_at" st_lines_at f fd) : FnOk P w K mg base CX0 4 f fd ["sheet", "column", "wide"] (spP K pf_lines_at) :=
  ok_P F sc_lines_at rfl rfl (by decide) (d_lines_at B C_text_lines C_texts_of)
theorem cal_lines_at {P : Program} {w : World} {K : PySem.W.Frag} {mg : Str → Option Value} {base : Heap} {f : Addr} {fd : FuncData} (B : Blt mg) (C_text_lines : CalD P w K mg base "text_lines" 3 (spP K pf_text_lines)) (C_texts_of : CalD P w K mg base "texts_of" 1 (spP K pf_texts_of)) (F : FnP K "lines_at" st_lines_at f fd) (hm : mg "lines_at" = some (.ref f)) : CalD P w K mg base "lines_at" 4 (spP K pf_lines_at) :=
  ⟨f, fd, ["sheet", "column", "wide"], ok_lines_at B C_text_lines C_texts_of F, hm, F.kp, F.bindsN fun _ _ _ _ _ _ us hl => match us, hl with | [_, _, _], _ => rfl⟩
/-! heights_by -/
abbrev st_heights_by : Stmt := top 12
abbrev N_heights_by : List Str := ["sheet", "column", "steps", "wide"]
noncomputable def m_heights_by : M Fl :=
  (fRet (fDc [3] (mI gSeq (fV 2)) (tgName 3) fYes (fV 3) (mA pf_lines_at (fCons (fV 0) (fCons (fV 1) (fCons (fV 3) fNil))))))
noncomputable def pf_heights_by := pfP 4 3 m_heights_by
theorem sc_heights_by : FnScope N_heights_by ["sheet", "column", "steps"] (defScope st_heights_by) := ⟨rfl, rfl, rfl, by decide +kernel, rfl, by decide +kernel, by decide +kernel⟩
theorem d_heights_by {P : Program} {w : World} {K : PySem.W.Frag} {mg : Str → Option Value} {base : Heap} {f : Addr} (B : Blt mg) (C_lines_at : CalD P w K mg base "lines_at" 4 (spP K pf_lines_at)) : BodyD P w K mg base "heights_by" (defBody st_heights_by) (defScope st_heights_by) f N_heights_by 4 m_heights_by :=
  fun cdv A outer s H E hr => have sc := sc_heights_by; ⟨_,
   (db_one (ds_ret (dp_dc (own := [("wide", 3)]) rfl sc.nd (blkOk_by (by rfl)) (di_seq (K := K) (dp_var 2)) (fun _ _ _ _ _ => (dg_name 3 sc.nd)) (fun _ h => h) (fun _ _ _ _ _ => dts_nil) (fun _ _ _ _ _ => (dp_var 3)) (fun _ _ _ _ _ => (dp_c (K := K) C_lines_at (by decide) hr (by rfl) (da_cons (dp_var 0) (da_cons (dp_var 1) (da_cons (dp_var 3) da_nil))))))))⟩
theorem ok_heights_by {P : Program} {w : World} {K : PySem.W.Frag} {mg : Str → Option Value} {base : Heap} {f : Addr} {fd : FuncData} (B : Blt mg) (C_lines_at : CalD P w K mg base "lines_at" 4 (spP K pf_lines_at)) (F : FnP K "heights_by" st_heights_by f fd) : FnOk P w K mg base CX0 5 f fd ["sheet", "column", "steps"] (spP K pf_heights_by) :=
  ok_P F sc_heights_by rfl rfl (by decide) (d_heights_by B C_lines_at)
theorem cal_heights_by {P : Program} {w : World} {K : PySem.W.Frag} {mg : Str → Option Value} {base : Heap} {f : Addr} {fd : FuncData} (B : Blt mg) (C_lines_at : CalD P w K mg base "lines_at" 4 (spP K pf_lines_at)) (F : FnP K "heights_by" st_heights_by f fd) (hm : mg "heights_by" = some (.ref f)) : CalD P w K mg base "heights_by" 5 (spP K pf_heights_by) :=
  ⟨f, fd, ["sheet", "column", "steps"], ok_heights_by B C_lines_at F, hm, F.kp, F.bindsN fun _ _ _ _ _ _ us hl => match us, hl with | [_, _, _], _ => rfl⟩
/-! all_lines -/
abbrev st_all_lines : Stmt := top 14
abbrev N_all_lines : List Str := ["heights", "some", "lines", "column", "step", "row"]
noncomputable def m_all_lines : M Fl :=
  (fSeq (fSet 2 (fLc [3, 4] (mIA gEnum (fCons (fV 1) fNil)) (tgTup 2 (tgCons (tgName 3) (tgCons (tgName 4) tgNil))) fYes (m2 gIx (m2 gIx (fV 0) (fV 3)) (fV 4))))
    (fRet (m1 gSum (fLc [5] (mI gZipS (fV 2)) (tgName 5) fYes (m1 gMax1 (fV 5))))))
noncomputable def pf_all_lines := pfP 6 2 m_all_lines
theorem sc_all_lines : FnScope N_all_lines ["heights", "some"] (defScope st_all_lines) := ⟨rfl, rfl, rfl, by decide +kernel, rfl, by decide +kernel, by decide +kernel⟩
theorem d_all_lines {P : Program} {w : World} {K : PySem.W.Frag} {mg : Str → Option Value} {base : Heap} {f : Addr} (B : Blt mg) : BodyD P w K mg base "all_lines" (defBody st_all_lines) (defScope st_all_lines) f N_all_lines 0 m_all_lines :=
  fun cdv A outer s H E hr => have sc := sc_all_lines; ⟨_,
   (db_cons (ds_setLc 2 (own := [("column", 3), ("step", 4)]) rfl sc.nd (blkOk_by (by rfl)) (di_enum (K := K) (by rfl) B.enumerate (da_cons (dp_var 1) da_nil)) (fun _ _ _ _ _ => (dg_tup (K := K) 2 rfl (dgs_cons (dg_name 3 sc.nd) (dgs_cons (dg_name 4 sc.nd) dgs_nil)))) (fun _ h => h) (fun _ _ _ _ _ => dts_nil) (fun _ _ _ _ _ => (dp_ix (K := K) hr (dp_ix (K := K) hr (dp_var 0) (dp_var 3)) (dp_var 4))))
    (db_one (ds_ret (dp_cb1 (k_sum K) o1_sum (by rfl) B.sum PyProof.Rows.boot_sum (DL.q (dl_lc (own := [("row", 5)]) rfl sc.nd (blkOk_by (by rfl)) (di_zipS (by rfl) B.zip rfl (dp_var 2)) (fun _ _ _ _ _ => (dg_name 5 sc.nd)) (fun _ h => h) (fun _ _ _ _ _ => dts_nil) (fun _ _ _ _ _ => (dp_cb1 (k_max K hr) (o1_best PySem.W.maxD) (by rfl) B.max PyProof.Rows.boot_max (DP.q (dp_var 5))))))))))⟩
theorem ok_all_lines {P : Program} {w : World} {K : PySem.W.Frag} {mg : Str → Option Value} {base : Heap} {f : Addr} {fd : FuncData} (B : Blt mg) (F : FnP K "all_lines" st_all_lines f fd) : FnOk P w K mg base CX0 1 f fd ["heights", "some"] (spP K pf_all_lines) :=
  ok_P F sc_all_lines rfl rfl (by decide) (d_all_lines B)
theorem cal_all_lines {P : Program} {w : World} {K : PySem.W.Frag} {mg : Str → Option Value} {base : Heap} {f : Addr} {fd : FuncData} (B : Blt mg) (F : FnP K "all_lines" st_all_lines f fd) (hm : mg "all_lines" = some (.ref f)) : CalD P w K mg base "all_lines" 1 (spP K pf_all_lines) :=
  ⟨f, fd, ["heights", "some"], ok_all_lines B F, hm, F.kp, F.bindsN fun _ _ _ _ _ _ us hl => match us, hl with | [_, _], _ => rfl⟩
/-! narrowest -/
abbrev st_narrowest : Stmt := top 8
abbrev N_narrowest : List Str := ["sheet", "found", "column", "text", "length"]
noncomputable def m_narrowest : M Fl :=
  (fSeq (fSetL 1 (mLst fNil))
    (fSeq (fFor (mIA gRng1 (fCons (m1 gLen (m2 gIx (fV 0) (mret (.int 0)))) fNil)) (tgName 2)
    (fDrop (mCallB 1 gAppend (fCons (m1 gMax1 (mLst (fCons (mret (.int 1)) (fStar (fLc2 [3, 4] [4] (mI gSeq (mA pf_texts_of (fCons (fV 0) (fCons (fV 2) fNil)))) (tgName 3) fYes (mI gSeq (fV 3)) (tgName 4) fYes (fV 4)) fNil)))) fNil))))
    (fRet (m1 gTuple (fR 1)))))
noncomputable def pf_narrowest := pfP 5 1 m_narrowest
theorem sc_narrowest : FnScope N_narrowest ["sheet"] (defScope st_narrowest) := ⟨rfl, rfl, rfl, by decide +kernel, rfl, by decide +kernel, by decide +kernel⟩
theorem d_narrowest {P : Program} {w : World} {K : PySem.W.Frag} {mg : Str → Option Value} {base : Heap} {f : Addr} (B : Blt mg) (C_texts_of : CalD P w K mg base "texts_of" 1 (spP K pf_texts_of)) : BodyD P w K mg base "narrowest" (defBody st_narrowest) (defScope st_narrowest) f N_narrowest 1 m_narrowest :=
  fun cdv A outer s H E hr => have sc := sc_narrowest; ⟨_,
   (db_cons (ds_setL 1 sc.nd (dl_lst da_nil))
    (db_cons (ds_for PassesOwn.never rfl (di_rng1 (by rfl) B.range (da_cons (dp_cb1 (k_len K) o1_len (by rfl) B.len boot_len (DP.q (dp_ix (K := K) hr (dp_var 0) dp_int))) da_nil)) (dg_name 2 sc.nd)
    (db_one (ds_expr (dp_mut (K := K) PySem.F.slot_list_append PySem.F.type_list_append (MtR.of mt_append) om_append (dq_own 1) (da_cons (dp_cb1 (k_max K hr) (o1_best PySem.W.maxD) (by rfl) B.max PyProof.Rows.boot_max (DL.q (dl_lst (da_cons dp_int (da_star (K := K) (DL.q (dl_lc2 (own := [("text", 3), ("length", 4)]) [4] rfl sc.nd (blkOk_by (by rfl)) (fun _ h => List.mem_append_right [3] h) (di_seq (K := K) (dp_c (K := K) C_texts_of (by decide) hr (by rfl) (da_cons (dp_var 0) (da_cons (dp_var 2) da_nil)))) (fun _ _ _ _ _ => (dg_name 3 sc.nd)) (fun _ h => List.mem_append_left [4] h) (fun _ _ _ _ _ => dts_nil) (fun _ _ _ _ _ => (di_seq (K := K) (dp_var 3))) (fun _ _ _ _ _ => (dg_name 4 sc.nd)) (fun _ h => h) (fun _ _ _ _ _ => dts_nil) (fun _ _ _ _ _ => (dp_var 4)))) da_nil))))) da_nil)))))
    (db_one (ds_ret (dp_ct1 (k_tuple K) o1_tuple (by rfl) B.tuple PyProof.Rows.boot_tuple (dq_own 1))))))⟩
theorem ok_narrowest {P : Program} {w : World} {K : PySem.W.Frag} {mg : Str → Option Value} {base : Heap} {f : Addr} {fd : FuncData} (B : Blt mg) (C_texts_of : CalD P w K mg base "texts_of" 1 (spP K pf_texts_of)) (F : FnP K "narrowest" st_narrowest f fd) : FnOk P w K mg base CX0 2 f fd ["sheet"] (spP K pf_narrowest) :=
  ok_P F sc_narrowest rfl rfl (by decide) (d_narrowest B C_texts_of)
theorem cal_narrowest {P : Program} {w : World} {K : PySem.W.Frag} {mg : Str → Option Value} {base : Heap} {f : Addr} {fd : FuncData} (B : Blt mg) (C_texts_of : CalD P w K mg base "texts_of" 1 (spP K pf_texts_of)) (F : FnP K "narrowest" st_narrowest f fd) (hm : mg "narrowest" = some (.ref f)) : CalD P w K mg base "narrowest" 2 (spP K pf_narrowest) :=
  ⟨f, fd, ["sheet"], ok_narrowest B C_texts_of F, hm, F.kp, F.bindsN fun _ _ _ _ _ _ us hl => match us, hl with | [_], _ => rfl⟩
/-! widest_text -/
abbrev st_widest_text : Stmt := top 10
abbrev N_widest_text : List Str := ["sheet", "column", "text"]
noncomputable def m_widest_text : M Fl :=
  (fRet (m1 gMax1 (mLst (fCons (mret (.int 1)) (fStar (fLc [2] (mI gSeq (mA pf_texts_of (fCons (fV 0) (fCons (fV 1) fNil)))) (tgName 2) fYes (m2 gSub (m2 gAdd (m1 gSum (fV 2)) (m1 gLen (fV 2))) (mret (.int 1)))) fNil)))))
noncomputable def pf_widest_text := pfP 3 2 m_widest_text
theorem sc_widest_text : FnScope N_widest_text ["sheet", "column"] (defScope st_widest_text) := ⟨rfl, rfl, rfl, by decide +kernel, rfl, by decide +kernel, by decide +kernel⟩
theorem d_widest_text {P : Program} {w : World} {K : PySem.W.Frag} {mg : Str → Option Value} {base : Heap} {f : Addr} (B : Blt mg) (C_texts_of : CalD P w K mg base "texts_of" 1 (spP K pf_texts_of)) : BodyD P w K mg base "widest_text" (defBody st_widest_text) (defScope st_widest_text) f N_widest_text 1 m_widest_text :=
  fun cdv A outer s H E hr => have sc := sc_widest_text; ⟨_,
   (db_one (ds_ret (dp_cb1 (k_max K hr) (o1_best PySem.W.maxD) (by rfl) B.max PyProof.Rows.boot_max (DL.q (dl_lst (da_cons dp_int (da_star (K := K) (DL.q (dl_lc (own := [("text", 2)]) rfl sc.nd (blkOk_by (by rfl)) (di_seq (K := K) (dp_c (K := K) C_texts_of (by decide) hr (by rfl) (da_cons (dp_var 0) (da_cons (dp_var 1) da_nil)))) (fun _ _ _ _ _ => (dg_name 2 sc.nd)) (fun _ h => h) (fun _ _ _ _ _ => dts_nil) (fun _ _ _ _ _ => (dp_op op_sub o2_sub (dp_op (k_addA K) o2_add (dp_cb1 (k_sum K) o1_sum (by rfl) B.sum PyProof.Rows.boot_sum (DP.q (dp_var 2))) (dp_cb1 (k_len K) o1_len (by rfl) B.len boot_len (DP.q (dp_var 2)))) dp_int)))) da_nil)))))))⟩
theorem ok_widest_text {P : Program} {w : World} {K : PySem.W.Frag} {mg : Str → Option Value} {base : Heap} {f : Addr} {fd : FuncData} (B : Blt mg) (C_texts_of : CalD P w K mg base "texts_of" 1 (spP K pf_texts_of)) (F : FnP K "widest_text" st_widest_text f fd) : FnOk P w K mg base CX0 2 f fd ["sheet", "column"] (spP K pf_widest_text) :=
  ok_P F sc_widest_text rfl rfl (by decide) (d_widest_text B C_texts_of)
theorem cal_widest_text {P : Program} {w : World} {K : PySem.W.Frag} {mg : Str → Option Value} {base : Heap} {f : Addr} {fd : FuncData} (B : Blt mg) (C_texts_of : CalD P w K mg base "texts_of" 1 (spP K pf_texts_of)) (F : FnP K "widest_text" st_widest_text f fd) (hm : mg "widest_text" = some (.ref f)) : CalD P w K mg base "widest_text" 2 (spP K pf_widest_text) :=
  ⟨f, fd, ["sheet", "column"], ok_widest_text B C_texts_of F, hm, F.kp, F.bindsN fun _ _ _ _ _ _ us hl => match us, hl with | [_, _], _ => rfl⟩
/-! line_steps -/
abbrev st_line_steps : Stmt := top 11
abbrev N_line_steps : List Str := ["sheet", "column", "found", "wide"]
noncomputable def m_line_steps : M Fl :=
  (fSeq (fSetL 2 (mLst (fCons (m2 gIx (mA pf_narrowest (fCons (fV 0) fNil)) (fV 1)) fNil)))
    (fSeq (fFor (mIA gRng2 (fCons (m2 gAdd (m2o 2 gIx (mret (.int 0))) (mret (.int 1))) (fCons (m2 gAdd (mA pf_widest_text (fCons (fV 0) (fCons (fV 1) fNil))) (mret (.int 1))) fNil))) (tgName 3)
    (mIte (mT gB (m2 gNe (mA pf_lines_at (fCons (fV 0) (fCons (fV 1) (fCons (fV 3) fNil)))) (mA pf_lines_at (fCons (fV 0) (fCons (fV 1) (fCons (m2 gSub (fV 3) (mret (.int 1))) fNil))))))
    (fDrop (mCallB 2 gAppend (fCons (fV 3) fNil)))
    fNx))
    (fRet (m1 gTuple (fR 2)))))
noncomputable def pf_line_steps := pfP 4 2 m_line_steps
theorem sc_line_steps : FnScope N_line_steps ["sheet", "column"] (defScope st_line_steps) := ⟨rfl, rfl, rfl, by decide +kernel, rfl, by decide +kernel, by decide +kernel⟩
theorem d_line_steps {P : Program} {w : World} {K : PySem.W.Frag} {mg : Str → Option Value} {base : Heap} {f : Addr} (B : Blt mg) (C_narrowest : CalD P w K mg base "narrowest" 2 (spP K pf_narrowest)) (C_widest_text : CalD P w K mg base "widest_text" 2 (spP K pf_widest_text)) (C_lines_at : CalD P w K mg base "lines_at" 4 (spP K pf_lines_at)) : BodyD P w K mg base "line_steps" (defBody st_line_steps) (defScope st_line_steps) f N_line_steps 4 m_line_steps :=
  fun cdv A outer s H E hr => have sc := sc_line_steps; ⟨_,
   (db_cons (ds_setL 2 sc.nd (dl_lst (da_cons (dp_ix (K := K) hr (dp_c (K := K) C_narrowest (by decide) hr (by rfl) (da_cons (dp_var 0) da_nil)) (dp_var 1)) da_nil)))
    (db_cons (ds_for PassesOwn.never rfl (di_rng2 (by rfl) B.range (da_cons (dp_op (k_addA K) o2_add (dp_ixo (K := K) hr (dq_own 2) dp_int) dp_int) (da_cons (dp_op (k_addA K) o2_add (dp_c (K := K) C_widest_text (by decide) hr (by rfl) (da_cons (dp_var 0) (da_cons (dp_var 1) da_nil))) dp_int) da_nil))) (dg_name 3 sc.nd)
    (db_one (ds_if (dt_cmp (k_neD K hr) o2_ne (dp_c (K := K) C_lines_at (by decide) hr (by rfl) (da_cons (dp_var 0) (da_cons (dp_var 1) (da_cons (dp_var 3) da_nil)))) (dp_c (K := K) C_lines_at (by decide) hr (by rfl) (da_cons (dp_var 0) (da_cons (dp_var 1) (da_cons (dp_op op_sub o2_sub (dp_var 3) dp_int) da_nil)))) (nomark _))
    (db_one (ds_expr (dp_mut (K := K) PySem.F.slot_list_append PySem.F.type_list_append (MtR.of mt_append) om_append (dq_own 2) (da_cons (dp_var 3) da_nil))))
    db_nil)))
    (db_one (ds_ret (dp_ct1 (k_tuple K) o1_tuple (by rfl) B.tuple PyProof.Rows.boot_tuple (dq_own 2))))))⟩
theorem ok_line_steps {P : Program} {w : World} {K : PySem.W.Frag} {mg : Str → Option Value} {base : Heap} {f : Addr} {fd : FuncData} (B : Blt mg) (C_narrowest : CalD P w K mg base "narrowest" 2 (spP K pf_narrowest)) (C_widest_text : CalD P w K mg base "widest_text" 2 (spP K pf_widest_text)) (C_lines_at : CalD P w K mg base "lines_at" 4 (spP K pf_lines_at)) (F : FnP K "line_steps" st_line_steps f fd) : FnOk P w K mg base CX0 5 f fd ["sheet", "column"] (spP K pf_line_steps) :=
  ok_P F sc_line_steps rfl rfl (by decide) (d_line_steps B C_narrowest C_widest_text C_lines_at)
theorem cal_line_steps {P : Program} {w : World} {K : PySem.W.Frag} {mg : Str → Option Value} {base : Heap} {f : Addr} {fd : FuncData} (B : Blt mg) (C_narrowest : CalD P w K mg base "narrowest" 2 (spP K pf_narrowest)) (C_widest_text : CalD P w K mg base "widest_text" 2 (spP K pf_widest_text)) (C_lines_at : CalD P w K mg base "lines_at" 4 (spP K pf_lines_at)) (F : FnP K "line_steps" st_line_steps f fd) (hm : mg "line_steps" = some (.ref f)) : CalD P w K mg base "line_steps" 5 (spP K pf_line_steps) :=
  ⟨f, fd, ["sheet", "column"], ok_line_steps B C_narrowest C_widest_text C_lines_at F, hm, F.kp, F.bindsN fun _ _ _ _ _ _ us hl => match us, hl with | [_, _], _ => rfl⟩
/-! best_widths -/
abbrev st_best_widths : Stmt := top 15
abbrev N_best_widths : List Str := ["sheet", "wide", "gap", "many", "room", "steps", "heights", "best", "some", "last", "fewest", "column", "step"]
noncomputable def m_best_widths : M Fl :=
  (fSeq (fSet 3 (m1 gLen (m2 gIx (fV 0) (mret (.int 0)))))
    (fSeq (fSet 4 (m2 gSub (fV 1) (m2 gMul (fV 2) (m2 gSub (fV 3) (mret (.int 1))))))
    (fSeq (mIte (mT gB (m2 (gCmp fGt) (m1 gSum (mA pf_narrowest (fCons (fV 0) fNil))) (fV 4)))
    (fRet (mret .none))
    fNx)
    (fSeq (fSet 5 (fLc [11] (mIA gRng1 (fCons (fV 3) fNil)) (tgName 11) fYes (fLc [12] (mI gSeq (mA pf_line_steps (fCons (fV 0) (fCons (fV 11) fNil)))) (tgName 12) (mT gB (m2 (gCmp fLe) (fV 12) (fV 4))) (fV 12))))
    (fSeq (fSet 6 (fLc [11] (mIA gRng1 (fCons (fV 3) fNil)) (tgName 11) fYes (mA pf_heights_by (fCons (fV 0) (fCons (fV 11) (fCons (m2 gIx (fV 5) (fV 11)) fNil))))))
    (fSeq (fSet 7 (mret .none))
    (fSeq (fFor (mI gSeq (mA pf_begun (fCons (fV 5) (fCons (fV 4) fNil)))) (tgName 8)
    (fSeq (fSet 9 (fLc [12] (mI gSeq (m2 gIx (fV 5) (m1 gNeg (mret (.int 1))))) (tgName 12) (mT gB (m2 (gCmp fLe) (m2 gAdd (m1 gSum (fV 8)) (fV 12)) (fV 4))) (fV 12)))
    (fSeq (fSet 10 (mA pf_all_lines (fCons (fV 6) (fCons (mTup (fStar (fV 8) (fCons (m2 gIx (fV 9) (m1 gNeg (mret (.int 1)))) fNil))) fNil))))
    (mIte (mOr (mT gB (m2 gIsN (fV 7) (mret .none))) (mT gB (m2 (gCmp fLt) (fV 10) (m2 gIx (fV 7) (mret (.int 0))))))
    (fSet 7 (mTup (fCons (fV 10) (fCons (mTup (fStar (fV 8) (fCons (m2 gIx (fLc [12] (mI gSeq (fV 9)) (tgName 12) (mT gB (m2 gEq (mA pf_all_lines (fCons (fV 6) (fCons (mTup (fStar (fV 8) (fCons (fV 12) fNil))) fNil))) (fV 10))) (fV 12)) (mret (.int 0))) fNil))) fNil))))
    fNx))))
    (fRet (fV 7)))))))))
noncomputable def pf_best_widths := pfP 13 3 m_best_widths
theorem sc_best_widths : FnScope N_best_widths ["sheet", "wide", "gap"] (defScope st_best_widths) := ⟨rfl, rfl, rfl, by decide +kernel, rfl, by decide +kernel, by decide +kernel⟩
theorem d_best_widths {P : Program} {w : World} {K : PySem.W.Frag} {mg : Str → Option Value} {base : Heap} {f : Addr} (B : Blt mg) (C_begun : CalD P w K mg base "begun" 1 (spP K pf_begun)) (C_heights_by : CalD P w K mg base "heights_by" 5 (spP K pf_heights_by)) (C_all_lines : CalD P w K mg base "all_lines" 1 (spP K pf_all_lines)) (C_narrowest : CalD P w K mg base "narrowest" 2 (spP K pf_narrowest)) (C_line_steps : CalD P w K mg base "line_steps" 5 (spP K pf_line_steps)) : BodyD P w K mg base "best_widths" (defBody st_best_widths) (defScope st_best_widths) f N_best_widths 5 m_best_widths :=
  fun cdv A outer s H E hr => have sc := sc_best_widths; ⟨_,
   (db_cons (ds_set 3 sc.nd (dp_cb1 (k_len K) o1_len (by rfl) B.len boot_len (DP.q (dp_ix (K := K) hr (dp_var 0) dp_int))))
    (db_cons (ds_set 4 sc.nd (dp_op op_sub o2_sub (dp_var 1) (dp_op op_mulA o2_mul (dp_var 2) (dp_op op_sub o2_sub (dp_var 3) dp_int))))
    (db_cons (ds_if (dt_cmp (k_gtD K hr) (o2_cmp fGt) (dp_cb1 (k_sum K) o1_sum (by rfl) B.sum PyProof.Rows.boot_sum (DP.q (dp_c (K := K) C_narrowest (by decide) hr (by rfl) (da_cons (dp_var 0) da_nil)))) (dp_var 4) (nomark _))
    (db_one (ds_ret dp_non))
    db_nil)
    (db_cons (ds_set 5 sc.nd (DL.p (dl_lc (own := [("column", 11)]) rfl sc.nd (blkOk_by (by rfl)) (di_rng1 (by rfl) B.range (da_cons (dp_var 3) da_nil)) (fun _ _ _ _ _ => (dg_name 11 sc.nd)) (fun _ h => h) (fun _ _ _ _ _ => dts_nil) (fun _ _ _ _ _ => (DL.p (dl_lc (own := [("step", 12)]) rfl sc.nd (blkOk_by (by rfl)) (di_seq (K := K) (dp_c (K := K) C_line_steps (by decide) hr (by rfl) (da_cons (dp_var 0) (da_cons (dp_var 11) da_nil)))) (fun _ _ _ _ _ => (dg_name 12 sc.nd)) (fun _ h => h) (fun _ _ _ _ _ => (dts_one (dt_cmp (k_leD K hr) (o2_cmp fLe) (dp_var 12) (dp_var 4) (nomark _)))) (fun _ _ _ _ _ => (dp_var 12))))))))
    (db_cons (ds_set 6 sc.nd (DL.p (dl_lc (own := [("column", 11)]) rfl sc.nd (blkOk_by (by rfl)) (di_rng1 (by rfl) B.range (da_cons (dp_var 3) da_nil)) (fun _ _ _ _ _ => (dg_name 11 sc.nd)) (fun _ h => h) (fun _ _ _ _ _ => dts_nil) (fun _ _ _ _ _ => (dp_c (K := K) C_heights_by (by decide) hr (by rfl) (da_cons (dp_var 0) (da_cons (dp_var 11) (da_cons (dp_ix (K := K) hr (dp_var 5) (dp_var 11)) da_nil))))))))
    (db_cons (ds_set 7 sc.nd dp_non)
    (db_cons (ds_for PassesOwn.never rfl (di_seq (K := K) (dp_c (K := K) C_begun (by decide) hr (by rfl) (da_cons (dp_var 5) (da_cons (dp_var 4) da_nil)))) (dg_name 8 sc.nd)
    (db_cons (ds_setLc 9 (own := [("step", 12)]) rfl sc.nd (blkOk_by (by rfl)) (di_seq (K := K) (dp_ix (K := K) hr (dp_var 5) (dp_neg dp_int))) (fun _ _ _ _ _ => (dg_name 12 sc.nd)) (fun _ h => h) (fun _ _ _ _ _ => (dts_one (dt_cmp (k_leD K hr) (o2_cmp fLe) (dp_op (k_addA K) o2_add (dp_cb1 (k_sum K) o1_sum (by rfl) B.sum PyProof.Rows.boot_sum (DP.q (dp_var 8))) (dp_var 12)) (dp_var 4) (nomark _)))) (fun _ _ _ _ _ => (dp_var 12)))
    (db_cons (ds_set 10 sc.nd (dp_c (K := K) C_all_lines (by decide) hr (by rfl) (da_cons (dp_var 6) (da_cons (dp_tup (da_star (K := K) (DP.q (dp_var 8)) (da_cons (dp_ix (K := K) hr (dp_var 9) (dp_neg dp_int)) da_nil))) da_nil))))
    (db_one (ds_if (DW.t (dw_or (dt_cmp k_isN o2_isN (dp_var 7) dp_non (nomark _)) (dw_or1 (dt_cmp (k_ltD K hr) (o2_cmp fLt) (dp_var 10) (dp_ix (K := K) hr (dp_var 7) dp_int) (nomark _)))))
    (db_one (ds_set 7 sc.nd (dp_tup (da_cons (dp_var 10) (da_cons (dp_tup (da_star (K := K) (DP.q (dp_var 8)) (da_cons (dp_ix (K := K) hr (DL.p (dl_lc (own := [("step", 12)]) rfl sc.nd (blkOk_by (by rfl)) (di_seq (K := K) (dp_var 9)) (fun _ _ _ _ _ => (dg_name 12 sc.nd)) (fun _ h => h) (fun _ _ _ _ _ => (dts_one (dt_cmp (k_eqD K hr) o2_eq (dp_c (K := K) C_all_lines (by decide) hr (by rfl) (da_cons (dp_var 6) (da_cons (dp_tup (da_star (K := K) (DP.q (dp_var 8)) (da_cons (dp_var 12) da_nil))) da_nil))) (dp_var 10) (nomark _)))) (fun _ _ _ _ _ => (dp_var 12)))) dp_int) da_nil))) da_nil)))))
    db_nil)))))
    (db_one (ds_ret (dp_var 7))))))))))⟩
theorem ok_best_widths {P : Program} {w : World} {K : PySem.W.Frag} {mg : Str → Option Value} {base : Heap} {f : Addr} {fd : FuncData} (B : Blt mg) (C_begun : CalD P w K mg base "begun" 1 (spP K pf_begun)) (C_heights_by : CalD P w K mg base "heights_by" 5 (spP K pf_heights_by)) (C_all_lines : CalD P w K mg base "all_lines" 1 (spP K pf_all_lines)) (C_narrowest : CalD P w K mg base "narrowest" 2 (spP K pf_narrowest)) (C_line_steps : CalD P w K mg base "line_steps" 5 (spP K pf_line_steps)) (F : FnP K "best_widths" st_best_widths f fd) : FnOk P w K mg base CX0 6 f fd ["sheet", "wide", "gap"] (spP K pf_best_widths) :=
  ok_P F sc_best_widths rfl rfl (by decide) (d_best_widths B C_begun C_heights_by C_all_lines C_narrowest C_line_steps)
theorem cal_best_widths {P : Program} {w : World} {K : PySem.W.Frag} {mg : Str → Option Value} {base : Heap} {f : Addr} {fd : FuncData} (B : Blt mg) (C_begun : CalD P w K mg base "begun" 1 (spP K pf_begun)) (C_heights_by : CalD P w K mg base "heights_by" 5 (spP K pf_heights_by)) (C_all_lines : CalD P w K mg base "all_lines" 1 (spP K pf_all_lines)) (C_narrowest : CalD P w K mg base "narrowest" 2 (spP K pf_narrowest)) (C_line_steps : CalD P w K mg base "line_steps" 5 (spP K pf_line_steps)) (F : FnP K "best_widths" st_best_widths f fd) (hm : mg "best_widths" = some (.ref f)) : CalD P w K mg base "best_widths" 6 (spP K pf_best_widths) :=
  ⟨f, fd, ["sheet", "wide", "gap"], ok_best_widths B C_begun C_heights_by C_all_lines C_narrowest C_line_steps F, hm, F.kp, F.bindsN fun _ _ _ _ _ _ us hl => match us, hl with | [_, _, _], _ => rfl⟩
/-! _law_best -/
abbrev st__law_best : Stmt := top 40
abbrev N__law_best : List Str := ["sheet", "steps", "room", "found", "some", "wider", "begun_one", "marks", "wide"]
noncomputable def m__law_best : M Fl :=
  (fSeq (fSet 3 (mLst (fCons (mTup fNil) fNil)))
    (fSeq (fFor (mI gSeq (fV 1)) (tgName 4)
    (fSeq (fSetL 5 (mLst fNil))
    (fSeq (fFor (mI gSeq (fV 3)) (tgName 6)
    (fDrop (mCallB 5 gExtend (fCons (fLc [8] (mI gSeq (fV 4)) (tgName 8) (mT gB (m2 (gCmp fLe) (m2 gAdd (m1 gSum (fV 6)) (fV 8)) (fV 2))) (m2 gAdd (fV 6) (mTup (fCons (fV 8) fNil)))) fNil))))
    (fSet 3 (fO 5)))))
    (fSeq (fSet 7 (fLc [4] (mI gSeq (fV 3)) (tgName 4) fYes (mTup (fCons (m1 gSum (mA pf__law_row_lines (fCons (fV 0) (fCons (fV 4) fNil)))) (fCons (fV 4) fNil)))))
    (fRet (mIte (mT gB (m2 gNe (fV 7) (mLst fNil))) (m1 gMin1 (fV 7)) (mret .none))))))
noncomputable def pf__law_best := pfP 9 3 m__law_best
theorem sc__law_best : FnScope N__law_best ["sheet", "steps", "room"] (defScope st__law_best) := ⟨rfl, rfl, rfl, by decide +kernel, rfl, by decide +kernel, by decide +kernel⟩
theorem d__law_best {P : Program} {w : World} {K : PySem.W.Frag} {mg : Str → Option Value} {base : Heap} {f : Addr} (B : Blt mg) (C__law_row_lines : CalD P w K mg base "_law_row_lines" 2 (spP K pf__law_row_lines)) : BodyD P w K mg base "_law_best" (defBody st__law_best) (defScope st__law_best) f N__law_best 2 m__law_best :=
  fun cdv A outer s H E hr => have sc := sc__law_best; ⟨_,
   (db_cons (ds_set 3 sc.nd (DL.p (dl_lst (da_cons (dp_tup da_nil) da_nil))))
    (db_cons (ds_for PassesOwn.never rfl (di_seq (K := K) (dp_var 1)) (dg_name 4 sc.nd)
    (db_cons (ds_setL 5 sc.nd (dl_lst da_nil))
    (db_cons (ds_for PassesOwn.never rfl (di_seq (K := K) (dp_var 3)) (dg_name 6 sc.nd)
    (db_one (ds_expr (dp_mut (K := K) PySem.F.slot_list_extend PySem.F.type_list_extend (MtR.of mt_extend) om_extend (dq_own 5) (da_cons (DL.p (dl_lc (own := [("wide", 8)]) rfl sc.nd (blkOk_by (by rfl)) (di_seq (K := K) (dp_var 4)) (fun _ _ _ _ _ => (dg_name 8 sc.nd)) (fun _ h => h) (fun _ _ _ _ _ => (dts_one (dt_cmp (k_leD K hr) (o2_cmp fLe) (dp_op (k_addA K) o2_add (dp_cb1 (k_sum K) o1_sum (by rfl) B.sum PyProof.Rows.boot_sum (DP.q (dp_var 6))) (dp_var 8)) (dp_var 2) (nomark _)))) (fun _ _ _ _ _ => (dp_op (k_addA K) o2_add (dp_var 6) (dp_tup (da_cons (dp_var 8) da_nil)))))) da_nil)))))
    (db_one (ds_set 3 sc.nd (dp_frz 5))))))
    (db_cons (ds_setLc 7 (own := [("some", 4)]) rfl sc.nd (blkOk_by (by rfl)) (di_seq (K := K) (dp_var 3)) (fun _ _ _ _ _ => (dg_name 4 sc.nd)) (fun _ h => h) (fun _ _ _ _ _ => dts_nil) (fun _ _ _ _ _ => (dp_tup (da_cons (dp_cb1 (k_sum K) o1_sum (by rfl) B.sum PyProof.Rows.boot_sum (DP.q (dp_c (K := K) C__law_row_lines (by decide) hr (by rfl) (da_cons (dp_var 0) (da_cons (dp_var 4) da_nil))))) (da_cons (dp_var 4) da_nil)))))
    (db_one (ds_ret (dp_if (dt_cmp (k_neD K hr) o2_ne (dp_var 7) (DL.p (dl_lst da_nil)) (nomark _)) (dp_cb1 (k_min K hr) (o1_best PySem.W.minD) (by rfl) B.min PyProof.Rows.boot_min (DP.q (dp_var 7))) dp_non))))))⟩
theorem ok__law_best {P : Program} {w : World} {K : PySem.W.Frag} {mg : Str → Option Value} {base : Heap} {f : Addr} {fd : FuncData} (B : Blt mg) (C__law_row_lines : CalD P w K mg base "_law_row_lines" 2 (spP K pf__law_row_lines)) (F : FnP K "_law_best" st__law_best f fd) : FnOk P w K mg base CX0 3 f fd ["sheet", "steps", "room"] (spP K pf__law_best) :=
  ok_P F sc__law_best rfl rfl (by decide) (d__law_best B C__law_row_lines)
theorem cal__law_best {P : Program} {w : World} {K : PySem.W.Frag} {mg : Str → Option Value} {base : Heap} {f : Addr} {fd : FuncData} (B : Blt mg) (C__law_row_lines : CalD P w K mg base "_law_row_lines" 2 (spP K pf__law_row_lines)) (F : FnP K "_law_best" st__law_best f fd) (hm : mg "_law_best" = some (.ref f)) : CalD P w K mg base "_law_best" 3 (spP K pf__law_best) :=
  ⟨f, fd, ["sheet", "steps", "room"], ok__law_best B C__law_row_lines F, hm, F.kp, F.bindsN fun _ _ _ _ _ _ us hl => match us, hl with | [_, _, _], _ => rfl⟩
/-! _law_wide -/
abbrev st__law_wide : Stmt := top 35
abbrev N__law_wide : List Str := ["entries", "lines", "gap", "most", "many", "begin"]
noncomputable def m__law_wide : M Fl :=
  (fSeq (fAsg (mTup (fCons (mret (.int 0)) (fCons (mret (.int 0)) fNil))) (tgTup 2 (tgCons (tgName 3) (tgCons (tgName 4) tgNil))))
    (fSeq (fFor (mIA gRng3 (fCons (mret (.int 0)) (fCons (m1 gLen (fV 0)) (fCons (fV 1) fNil)))) (tgName 5)
    (fPar 3 4 false false (m2 gAdd (fV 3) (m1 gMax1 (mSl gSl (fV 0) (mPart (fV 5)) (mPart (m2 gAdd (fV 5) (fV 1)))))) (m2 gAdd (fV 4) (mret (.int 1)))))
    (fRet (m2 gAdd (fV 3) (m2 gMul (fV 2) (m2 gSub (fV 4) (mret (.int 1))))))))
noncomputable def pf__law_wide := pfP 6 3 m__law_wide
theorem sc__law_wide : FnScope N__law_wide ["entries", "lines", "gap"] (defScope st__law_wide) := ⟨rfl, rfl, rfl, by decide +kernel, rfl, by decide +kernel, by decide +kernel⟩
theorem d__law_wide {P : Program} {w : World} {K : PySem.W.Frag} {mg : Str → Option Value} {base : Heap} {f : Addr} (B : Blt mg) : BodyD P w K mg base "_law_wide" (defBody st__law_wide) (defScope st__law_wide) f N__law_wide 0 m__law_wide :=
  fun cdv A outer s H E hr => have sc := sc__law_wide; ⟨_,
   (db_cons (ds_asg (dp_tup (da_cons dp_int (da_cons dp_int da_nil))) (dg_tup (K := K) 2 rfl (dgs_cons (dg_name 3 sc.nd) (dgs_cons (dg_name 4 sc.nd) dgs_nil))))
    (db_cons (ds_for PassesOwn.never rfl (di_rng3 (by rfl) B.range (da_cons dp_int (da_cons (dp_cb1 (k_len K) o1_len (by rfl) B.len boot_len (DP.q (dp_var 0))) (da_cons (dp_var 1) da_nil)))) (dg_name 5 sc.nd)
    (db_one (ds_par 3 4 rfl sc.nd (.p (dp_op (k_addA K) o2_add (dp_var 3) (dp_cb1 (k_max K hr) (o1_best PySem.W.maxD) (by rfl) B.max PyProof.Rows.boot_max (DP.q (dp_sl (K := K) (dp_var 0) (do_some (dp_var 5)) (do_some (dp_op (k_addA K) o2_add (dp_var 5) (dp_var 1)))))))) (.p (dp_op (k_addA K) o2_add (dp_var 4) dp_int)))))
    (db_one (ds_ret (dp_op (k_addA K) o2_add (dp_var 3) (dp_op op_mulA o2_mul (dp_var 2) (dp_op op_sub o2_sub (dp_var 4) dp_int)))))))⟩
theorem ok__law_wide {P : Program} {w : World} {K : PySem.W.Frag} {mg : Str → Option Value} {base : Heap} {f : Addr} {fd : FuncData} (B : Blt mg) (F : FnP K "_law_wide" st__law_wide f fd) : FnOk P w K mg base CX0 1 f fd ["entries", "lines", "gap"] (spP K pf__law_wide) :=
  ok_P F sc__law_wide rfl rfl (by decide) (d__law_wide B)
theorem cal__law_wide {P : Program} {w : World} {K : PySem.W.Frag} {mg : Str → Option Value} {base : Heap} {f : Addr} {fd : FuncData} (B : Blt mg) (F : FnP K "_law_wide" st__law_wide f fd) (hm : mg "_law_wide" = some (.ref f)) : CalD P w K mg base "_law_wide" 1 (spP K pf__law_wide) :=
  ⟨f, fd, ["entries", "lines", "gap"], ok__law_wide B F, hm, F.kp, F.bindsN fun _ _ _ _ _ _ us hl => match us, hl with | [_, _, _], _ => rfl⟩
/-! cut -/
abbrev st_cut : Stmt := top 17
abbrev N_cut : List Str := ["some", "lines", "at"]
noncomputable def m_cut : M Fl :=
  (fRet (m1 gTuple (fLc [2] (mIA gRng3 (fCons (mret (.int 0)) (fCons (m1 gLen (fV 0)) (fCons (fV 1) fNil)))) (tgName 2) fYes (m1 gTuple (mSl gSl (fV 0) (mPart (fV 2)) (mPart (m2 gAdd (fV 2) (fV 1))))))))
noncomputable def pf_cut := pfP 3 2 m_cut
theorem sc_cut : FnScope N_cut ["some", "lines"] (defScope st_cut) := ⟨rfl, rfl, rfl, by decide +kernel, rfl, by decide +kernel, by decide +kernel⟩
theorem d_cut {P : Program} {w : World} {K : PySem.W.Frag} {mg : Str → Option Value} {base : Heap} {f : Addr} (B : Blt mg) : BodyD P w K mg base "cut" (defBody st_cut) (defScope st_cut) f N_cut 0 m_cut :=
  fun cdv A outer s H E hr => have sc := sc_cut; ⟨_,
   (db_one (ds_ret (dp_ct1 (k_tuple K) o1_tuple (by rfl) B.tuple PyProof.Rows.boot_tuple (DL.q (dl_lc (own := [("at", 2)]) rfl sc.nd (blkOk_by (by rfl)) (di_rng3 (by rfl) B.range (da_cons dp_int (da_cons (dp_cb1 (k_len K) o1_len (by rfl) B.len boot_len (DP.q (dp_var 0))) (da_cons (dp_var 1) da_nil)))) (fun _ _ _ _ _ => (dg_name 2 sc.nd)) (fun _ h => h) (fun _ _ _ _ _ => dts_nil) (fun _ _ _ _ _ => (dp_ct1 (k_tuple K) o1_tuple (by rfl) B.tuple PyProof.Rows.boot_tuple (DP.q (dp_sl (K := K) (dp_var 0) (do_some (dp_var 2)) (do_some (dp_op (k_addA K) o2_add (dp_var 2) (dp_var 1))))))))))))⟩
theorem ok_cut {P : Program} {w : World} {K : PySem.W.Frag} {mg : Str → Option Value} {base : Heap} {f : Addr} {fd : FuncData} (B : Blt mg) (F : FnP K "cut" st_cut f fd) : FnOk P w K mg base CX0 1 f fd ["some", "lines"] (spP K pf_cut) :=
  ok_P F sc_cut rfl rfl (by decide) (d_cut B)
theorem cal_cut {P : Program} {w : World} {K : PySem.W.Frag} {mg : Str → Option Value} {base : Heap} {f : Addr} {fd : FuncData} (B : Blt mg) (F : FnP K "cut" st_cut f fd) (hm : mg "cut" = some (.ref f)) : CalD P w K mg base "cut" 1 (spP K pf_cut) :=
  ⟨f, fd, ["some", "lines"], ok_cut B F, hm, F.kp, F.bindsN fun _ _ _ _ _ _ us hl => match us, hl with | [_, _], _ => rfl⟩
/-! widths -/
abbrev st_widths : Stmt := top 19
abbrev N_widths : List Str := ["entries", "lines", "column"]
noncomputable def m_widths : M Fl :=
  (fRet (m1 gTuple (fLc [2] (mI gSeq (mA pf_cut (fCons (fV 0) (fCons (fV 1) fNil)))) (tgName 2) fYes (m1 gMax1 (fV 2)))))
noncomputable def pf_widths := pfP 3 2 m_widths
theorem sc_widths : FnScope N_widths ["entries", "lines"] (defScope st_widths) := ⟨rfl, rfl, rfl, by decide +kernel, rfl, by decide +kernel, by decide +kernel⟩
theorem d_widths {P : Program} {w : World} {K : PySem.W.Frag} {mg : Str → Option Value} {base : Heap} {f : Addr} (B : Blt mg) (C_cut : CalD P w K mg base "cut" 1 (spP K pf_cut)) : BodyD P w K mg base "widths" (defBody st_widths) (defScope st_widths) f N_widths 1 m_widths :=
  fun cdv A outer s H E hr => have sc := sc_widths; ⟨_,
   (db_one (ds_ret (dp_ct1 (k_tuple K) o1_tuple (by rfl) B.tuple PyProof.Rows.boot_tuple (DL.q (dl_lc (own := [("column", 2)]) rfl sc.nd (blkOk_by (by rfl)) (di_seq (K := K) (dp_c (K := K) C_cut (by decide) hr (by rfl) (da_cons (dp_var 0) (da_cons (dp_var 1) da_nil)))) (fun _ _ _ _ _ => (dg_name 2 sc.nd)) (fun _ h => h) (fun _ _ _ _ _ => dts_nil) (fun _ _ _ _ _ => (dp_cb1 (k_max K hr) (o1_best PySem.W.maxD) (by rfl) B.max PyProof.Rows.boot_max (DP.q (dp_var 2)))))))))⟩
theorem ok_widths {P : Program} {w : World} {K : PySem.W.Frag} {mg : Str → Option Value} {base : Heap} {f : Addr} {fd : FuncData} (B : Blt mg) (C_cut : CalD P w K mg base "cut" 1 (spP K pf_cut)) (F : FnP K "widths" st_widths f fd) : FnOk P w K mg base CX0 2 f fd ["entries", "lines"] (spP K pf_widths) :=
  ok_P F sc_widths rfl rfl (by decide) (d_widths B C_cut)
theorem cal_widths {P : Program} {w : World} {K : PySem.W.Frag} {mg : Str → Option Value} {base : Heap} {f : Addr} {fd : FuncData} (B : Blt mg) (C_cut : CalD P w K mg base "cut" 1 (spP K pf_cut)) (F : FnP K "widths" st_widths f fd) (hm : mg "widths" = some (.ref f)) : CalD P w K mg base "widths" 2 (spP K pf_widths) :=
  ⟨f, fd, ["entries", "lines"], ok_widths B C_cut F, hm, F.kp, F.bindsN fun _ _ _ _ _ _ us hl => match us, hl with | [_, _], _ => rfl⟩
/-! width -/
abbrev st_width : Stmt := top 20
abbrev N_width : List Str := ["entries", "lines", "gap", "some"]
noncomputable def m_width : M Fl :=
  (fSeq (fSet 3 (mA pf_widths (fCons (fV 0) (fCons (fV 1) fNil))))
    (fRet (m2 gAdd (m1 gSum (fV 3)) (m2 gMul (fV 2) (m2 gSub (m1 gLen (fV 3)) (mret (.int 1)))))))
noncomputable def pf_width := pfP 4 3 m_width
theorem sc_width : FnScope N_width ["entries", "lines", "gap"] (defScope st_width) := ⟨rfl, rfl, rfl, by decide +kernel, rfl, by decide +kernel, by decide +kernel⟩
theorem d_width {P : Program} {w : World} {K : PySem.W.Frag} {mg : Str → Option Value} {base : Heap} {f : Addr} (B : Blt mg) (C_widths : CalD P w K mg base "widths" 2 (spP K pf_widths)) : BodyD P w K mg base "width" (defBody st_width) (defScope st_width) f N_width 2 m_width :=
  fun cdv A outer s H E hr => have sc := sc_width; ⟨_,
   (db_cons (ds_set 3 sc.nd (dp_c (K := K) C_widths (by decide) hr (by rfl) (da_cons (dp_var 0) (da_cons (dp_var 1) da_nil))))
    (db_one (ds_ret (dp_op (k_addA K) o2_add (dp_cb1 (k_sum K) o1_sum (by rfl) B.sum PyProof.Rows.boot_sum (DP.q (dp_var 3))) (dp_op op_mulA o2_mul (dp_var 2) (dp_op op_sub o2_sub (dp_cb1 (k_len K) o1_len (by rfl) B.len boot_len (DP.q (dp_var 3))) dp_int))))))⟩
theorem ok_width {P : Program} {w : World} {K : PySem.W.Frag} {mg : Str → Option Value} {base : Heap} {f : Addr} {fd : FuncData} (B : Blt mg) (C_widths : CalD P w K mg base "widths" 2 (spP K pf_widths)) (F : FnP K "width" st_width f fd) : FnOk P w K mg base CX0 3 f fd ["entries", "lines", "gap"] (spP K pf_width) :=
  ok_P F sc_width rfl rfl (by decide) (d_width B C_widths)
theorem cal_width {P : Program} {w : World} {K : PySem.W.Frag} {mg : Str → Option Value} {base : Heap} {f : Addr} {fd : FuncData} (B : Blt mg) (C_widths : CalD P w K mg base "widths" 2 (spP K pf_widths)) (F : FnP K "width" st_width f fd) (hm : mg "width" = some (.ref f)) : CalD P w K mg base "width" 3 (spP K pf_width) :=
  ⟨f, fd, ["entries", "lines", "gap"], ok_width B C_widths F, hm, F.kp, F.bindsN fun _ _ _ _ _ _ us hl => match us, hl with | [_, _, _], _ => rfl⟩
/-! _law_first_within -/
abbrev st__law_first_within : Stmt := top 36
abbrev N__law_first_within : List Str := ["entries", "wide", "gap", "good", "lines"]
noncomputable def m__law_first_within : M Fl :=
  (fSeq (fSet 3 (fLc [4] (mIA gRng2 (fCons (mret (.int 1)) (fCons (m2 gAdd (m1 gLen (fV 0)) (mret (.int 1))) fNil))) (tgName 4) (mT gB (m2 (gCmp fLe) (mA pf__law_wide (fCons (fV 0) (fCons (fV 4) (fCons (fV 2) fNil)))) (fV 1))) (fV 4)))
    (fRet (mIte (mT gB (m2 gNe (fV 3) (mLst fNil))) (m2 gIx (fV 3) (mret (.int 0))) (mret .none))))
noncomputable def pf__law_first_within := pfP 5 3 m__law_first_within
theorem sc__law_first_within : FnScope N__law_first_within ["entries", "wide", "gap"] (defScope st__law_first_within) := ⟨rfl, rfl, rfl, by decide +kernel, rfl, by decide +kernel, by decide +kernel⟩
theorem d__law_first_within {P : Program} {w : World} {K : PySem.W.Frag} {mg : Str → Option Value} {base : Heap} {f : Addr} (B : Blt mg) (C__law_wide : CalD P w K mg base "_law_wide" 1 (spP K pf__law_wide)) : BodyD P w K mg base "_law_first_within" (defBody st__law_first_within) (defScope st__law_first_within) f N__law_first_within 1 m__law_first_within :=
  fun cdv A outer s H E hr => have sc := sc__law_first_within; ⟨_,
   (db_cons (ds_setLc 3 (own := [("lines", 4)]) rfl sc.nd (blkOk_by (by rfl)) (di_rng2 (by rfl) B.range (da_cons dp_int (da_cons (dp_op (k_addA K) o2_add (dp_cb1 (k_len K) o1_len (by rfl) B.len boot_len (DP.q (dp_var 0))) dp_int) da_nil))) (fun _ _ _ _ _ => (dg_name 4 sc.nd)) (fun _ h => h) (fun _ _ _ _ _ => (dts_one (dt_cmp (k_leD K hr) (o2_cmp fLe) (dp_c (K := K) C__law_wide (by decide) hr (by rfl) (da_cons (dp_var 0) (da_cons (dp_var 4) (da_cons (dp_var 2) da_nil)))) (dp_var 1) (nomark _)))) (fun _ _ _ _ _ => (dp_var 4)))
    (db_one (ds_ret (dp_if (dt_cmp (k_neD K hr) o2_ne (dp_var 3) (DL.p (dl_lst da_nil)) (nomark _)) (dp_ix (K := K) hr (dp_var 3) dp_int) dp_non))))⟩
theorem ok__law_first_within {P : Program} {w : World} {K : PySem.W.Frag} {mg : Str → Option Value} {base : Heap} {f : Addr} {fd : FuncData} (B : Blt mg) (C__law_wide : CalD P w K mg base "_law_wide" 1 (spP K pf__law_wide)) (F : FnP K "_law_first_within" st__law_first_within f fd) : FnOk P w K mg base CX0 2 f fd ["entries", "wide", "gap"] (spP K pf__law_first_within) :=
  ok_P F sc__law_first_within rfl rfl (by decide) (d__law_first_within B C__law_wide)
theorem cal__law_first_within {P : Program} {w : World} {K : PySem.W.Frag} {mg : Str → Option Value} {base : Heap} {f : Addr} {fd : FuncData} (B : Blt mg) (C__law_wide : CalD P w K mg base "_law_wide" 1 (spP K pf__law_wide)) (F : FnP K "_law_first_within" st__law_first_within f fd) (hm : mg "_law_first_within" = some (.ref f)) : CalD P w K mg base "_law_first_within" 2 (spP K pf__law_first_within) :=
  ⟨f, fd, ["entries", "wide", "gap"], ok__law_first_within B C__law_wide F, hm, F.kp, F.bindsN fun _ _ _ _ _ _ us hl => match us, hl with | [_, _, _], _ => rfl⟩
/-! first_within -/
abbrev st_first_within : Stmt := top 21
abbrev N_first_within : List Str := ["entries", "wide", "gap", "some", "lines"]
noncomputable def m_first_within : M Fl :=
  (fSeq (fSet 3 (fLc [4] (mIA gRng2 (fCons (mret (.int 1)) (fCons (m2 gAdd (m1 gLen (fV 0)) (mret (.int 1))) fNil))) (tgName 4) (mT gB (m2 (gCmp fLe) (mA pf_width (fCons (fV 0) (fCons (fV 4) (fCons (fV 2) fNil)))) (fV 1))) (fV 4)))
    (fRet (mIte (mT gB (m2 gNe (fV 3) (mLst fNil))) (m2 gIx (fV 3) (mret (.int 0))) (mret .none))))
noncomputable def pf_first_within := pfP 5 3 m_first_within
theorem sc_first_within : FnScope N_first_within ["entries", "wide", "gap"] (defScope st_first_within) := ⟨rfl, rfl, rfl, by decide +kernel, rfl, by decide +kernel, by decide +kernel⟩
theorem d_first_within {P : Program} {w : World} {K : PySem.W.Frag} {mg : Str → Option Value} {base : Heap} {f : Addr} (B : Blt mg) (C_width : CalD P w K mg base "width" 3 (spP K pf_width)) : BodyD P w K mg base "first_within" (defBody st_first_within) (defScope st_first_within) f N_first_within 3 m_first_within :=
  fun cdv A outer s H E hr => have sc := sc_first_within; ⟨_,
   (db_cons (ds_setLc 3 (own := [("lines", 4)]) rfl sc.nd (blkOk_by (by rfl)) (di_rng2 (by rfl) B.range (da_cons dp_int (da_cons (dp_op (k_addA K) o2_add (dp_cb1 (k_len K) o1_len (by rfl) B.len boot_len (DP.q (dp_var 0))) dp_int) da_nil))) (fun _ _ _ _ _ => (dg_name 4 sc.nd)) (fun _ h => h) (fun _ _ _ _ _ => (dts_one (dt_cmp (k_leD K hr) (o2_cmp fLe) (dp_c (K := K) C_width (by decide) hr (by rfl) (da_cons (dp_var 0) (da_cons (dp_var 4) (da_cons (dp_var 2) da_nil)))) (dp_var 1) (nomark _)))) (fun _ _ _ _ _ => (dp_var 4)))
    (db_one (ds_ret (dp_if (dt_cmp (k_neD K hr) o2_ne (dp_var 3) (DL.p (dl_lst da_nil)) (nomark _)) (dp_ix (K := K) hr (dp_var 3) dp_int) dp_non))))⟩
theorem ok_first_within {P : Program} {w : World} {K : PySem.W.Frag} {mg : Str → Option Value} {base : Heap} {f : Addr} {fd : FuncData} (B : Blt mg) (C_width : CalD P w K mg base "width" 3 (spP K pf_width)) (F : FnP K "first_within" st_first_within f fd) : FnOk P w K mg base CX0 4 f fd ["entries", "wide", "gap"] (spP K pf_first_within) :=
  ok_P F sc_first_within rfl rfl (by decide) (d_first_within B C_width)
theorem cal_first_within {P : Program} {w : World} {K : PySem.W.Frag} {mg : Str → Option Value} {base : Heap} {f : Addr} {fd : FuncData} (B : Blt mg) (C_width : CalD P w K mg base "width" 3 (spP K pf_width)) (F : FnP K "first_within" st_first_within f fd) (hm : mg "first_within" = some (.ref f)) : CalD P w K mg base "first_within" 4 (spP K pf_first_within) :=
  ⟨f, fd, ["entries", "wide", "gap"], ok_first_within B C_width F, hm, F.kp, F.bindsN fun _ _ _ _ _ _ us hl => match us, hl with | [_, _, _], _ => rfl⟩
/-! fewest_lines -/
abbrev st_fewest_lines : Stmt := top 22
abbrev N_fewest_lines : List Str := ["entries", "wide", "gap"]
noncomputable def m_fewest_lines : M Fl :=
  (fRet (mA pf_first_within (fCons (fV 0) (fCons (fV 1) (fCons (fV 2) fNil)))))
noncomputable def pf_fewest_lines := pfP 3 3 m_fewest_lines
theorem sc_fewest_lines : FnScope N_fewest_lines ["entries", "wide", "gap"] (defScope st_fewest_lines) := ⟨rfl, rfl, rfl, by decide +kernel, rfl, by decide +kernel, by decide +kernel⟩
theorem d_fewest_lines {P : Program} {w : World} {K : PySem.W.Frag} {mg : Str → Option Value} {base : Heap} {f : Addr} (B : Blt mg) (C_first_within : CalD P w K mg base "first_within" 4 (spP K pf_first_within)) : BodyD P w K mg base "fewest_lines" (defBody st_fewest_lines) (defScope st_fewest_lines) f N_fewest_lines 4 m_fewest_lines :=
  fun cdv A outer s H E hr => have sc := sc_fewest_lines; ⟨_,
   (db_one (ds_ret (dp_c (K := K) C_first_within (by decide) hr (by rfl) (da_cons (dp_var 0) (da_cons (dp_var 1) (da_cons (dp_var 2) da_nil))))))⟩
theorem ok_fewest_lines {P : Program} {w : World} {K : PySem.W.Frag} {mg : Str → Option Value} {base : Heap} {f : Addr} {fd : FuncData} (B : Blt mg) (C_first_within : CalD P w K mg base "first_within" 4 (spP K pf_first_within)) (F : FnP K "fewest_lines" st_fewest_lines f fd) : FnOk P w K mg base CX0 5 f fd ["entries", "wide", "gap"] (spP K pf_fewest_lines) :=
  ok_P F sc_fewest_lines rfl rfl (by decide) (d_fewest_lines B C_first_within)
theorem cal_fewest_lines {P : Program} {w : World} {K : PySem.W.Frag} {mg : Str → Option Value} {base : Heap} {f : Addr} {fd : FuncData} (B : Blt mg) (C_first_within : CalD P w K mg base "first_within" 4 (spP K pf_first_within)) (F : FnP K "fewest_lines" st_fewest_lines f fd) (hm : mg "fewest_lines" = some (.ref f)) : CalD P w K mg base "fewest_lines" 5 (spP K pf_fewest_lines) :=
  ⟨f, fd, ["entries", "wide", "gap"], ok_fewest_lines B C_first_within F, hm, F.kp, F.bindsN fun _ _ _ _ _ _ us hl => match us, hl with | [_, _, _], _ => rfl⟩
/-! best_order -/
abbrev st_best_order : Stmt := top 24
abbrev N_best_order : List Str := ["entries", "less", "index", "length"]
noncomputable def m_best_order : M Fl :=
  (fRet (m1 gTuple (fLc [1, 2] (mI gSeq (m1 gSorted (fLc [2, 3] (mIA gEnum (fCons (fV 0) fNil)) (tgTup 2 (tgCons (tgName 2) (tgCons (tgName 3) tgNil))) fYes (mTup (fCons (m2 gSub (mret (.int 0)) (fV 3)) (fCons (fV 2) fNil)))))) (tgTup 2 (tgCons (tgName 1) (tgCons (tgName 2) tgNil))) fYes (fV 2))))
noncomputable def pf_best_order := pfP 4 1 m_best_order
theorem sc_best_order : FnScope N_best_order ["entries"] (defScope st_best_order) := ⟨rfl, rfl, rfl, by decide +kernel, rfl, by decide +kernel, by decide +kernel⟩
theorem d_best_order {P : Program} {w : World} {K : PySem.W.Frag} {mg : Str → Option Value} {base : Heap} {f : Addr} (B : Blt mg) : BodyD P w K mg base "best_order" (defBody st_best_order) (defScope st_best_order) f N_best_order 0 m_best_order :=
  fun cdv A outer s H E hr => have sc := sc_best_order; ⟨_,
   (db_one (ds_ret (dp_ct1 (k_tuple K) o1_tuple (by rfl) B.tuple PyProof.Rows.boot_tuple (DL.q (dl_lc (own := [("less", 1), ("index", 2)]) rfl sc.nd (blkOk_by (by rfl)) (di_seq (K := K) (DL.p (dl_cb1 (k_sorted K hr) o1_sorted (by rfl) B.sorted PyProof.Rows.boot_sorted (DL.q (dl_lc (own := [("index", 2), ("length", 3)]) rfl sc.nd (blkOk_by (by rfl)) (di_enum (K := K) (by rfl) B.enumerate (da_cons (dp_var 0) da_nil)) (fun _ _ _ _ _ => (dg_tup (K := K) 2 rfl (dgs_cons (dg_name 2 sc.nd) (dgs_cons (dg_name 3 sc.nd) dgs_nil)))) (fun _ h => h) (fun _ _ _ _ _ => dts_nil) (fun _ _ _ _ _ => (dp_tup (da_cons (dp_op op_sub o2_sub dp_int (dp_var 3)) (da_cons (dp_var 2) da_nil))))))))) (fun _ _ _ _ _ => (dg_tup (K := K) 2 rfl (dgs_cons (dg_name 1 sc.nd) (dgs_cons (dg_name 2 sc.nd) dgs_nil)))) (fun _ h => h) (fun _ _ _ _ _ => dts_nil) (fun _ _ _ _ _ => (dp_var 2)))))))⟩
theorem ok_best_order {P : Program} {w : World} {K : PySem.W.Frag} {mg : Str → Option Value} {base : Heap} {f : Addr} {fd : FuncData} (B : Blt mg) (F : FnP K "best_order" st_best_order f fd) : FnOk P w K mg base CX0 1 f fd ["entries"] (spP K pf_best_order) :=
  ok_P F sc_best_order rfl rfl (by decide) (d_best_order B)
theorem cal_best_order {P : Program} {w : World} {K : PySem.W.Frag} {mg : Str → Option Value} {base : Heap} {f : Addr} {fd : FuncData} (B : Blt mg) (F : FnP K "best_order" st_best_order f fd) (hm : mg "best_order" = some (.ref f)) : CalD P w K mg base "best_order" 1 (spP K pf_best_order) :=
  ⟨f, fd, ["entries"], ok_best_order B F, hm, F.kp, F.bindsN fun _ _ _ _ _ _ us hl => match us, hl with | [_], _ => rfl⟩
/-! in_order -/
abbrev st_in_order : Stmt := top 25
abbrev N_in_order : List Str := ["entries", "index"]
noncomputable def m_in_order : M Fl :=
  (fRet (m1 gTuple (fLc [1] (mI gSeq (mA pf_best_order (fCons (fV 0) fNil))) (tgName 1) fYes (m2 gIx (fV 0) (fV 1)))))
noncomputable def pf_in_order := pfP 2 1 m_in_order
theorem sc_in_order : FnScope N_in_order ["entries"] (defScope st_in_order) := ⟨rfl, rfl, rfl, by decide +kernel, rfl, by decide +kernel, by decide +kernel⟩
theorem d_in_order {P : Program} {w : World} {K : PySem.W.Frag} {mg : Str → Option Value} {base : Heap} {f : Addr} (B : Blt mg) (C_best_order : CalD P w K mg base "best_order" 1 (spP K pf_best_order)) : BodyD P w K mg base "in_order" (defBody st_in_order) (defScope st_in_order) f N_in_order 1 m_in_order :=
  fun cdv A outer s H E hr => have sc := sc_in_order; ⟨_,
   (db_one (ds_ret (dp_ct1 (k_tuple K) o1_tuple (by rfl) B.tuple PyProof.Rows.boot_tuple (DL.q (dl_lc (own := [("index", 1)]) rfl sc.nd (blkOk_by (by rfl)) (di_seq (K := K) (dp_c (K := K) C_best_order (by decide) hr (by rfl) (da_cons (dp_var 0) da_nil))) (fun _ _ _ _ _ => (dg_name 1 sc.nd)) (fun _ h => h) (fun _ _ _ _ _ => dts_nil) (fun _ _ _ _ _ => (dp_ix (K := K) hr (dp_var 0) (dp_var 1))))))))⟩
theorem ok_in_order {P : Program} {w : World} {K : PySem.W.Frag} {mg : Str → Option Value} {base : Heap} {f : Addr} {fd : FuncData} (B : Blt mg) (C_best_order : CalD P w K mg base "best_order" 1 (spP K pf_best_order)) (F : FnP K "in_order" st_in_order f fd) : FnOk P w K mg base CX0 2 f fd ["entries"] (spP K pf_in_order) :=
  ok_P F sc_in_order rfl rfl (by decide) (d_in_order B C_best_order)
theorem cal_in_order {P : Program} {w : World} {K : PySem.W.Frag} {mg : Str → Option Value} {base : Heap} {f : Addr} {fd : FuncData} (B : Blt mg) (C_best_order : CalD P w K mg base "best_order" 1 (spP K pf_best_order)) (F : FnP K "in_order" st_in_order f fd) (hm : mg "in_order" = some (.ref f)) : CalD P w K mg base "in_order" 2 (spP K pf_in_order) :=
  ⟨f, fd, ["entries"], ok_in_order B C_best_order F, hm, F.kp, F.bindsN fun _ _ _ _ _ _ us hl => match us, hl with | [_], _ => rfl⟩
/-! fewest_by_order -/
abbrev st_fewest_by_order : Stmt := top 27
abbrev N_fewest_by_order : List Str := ["entries", "wide", "gap"]
noncomputable def m_fewest_by_order : M Fl :=
  (fRet (mA pf_first_within (fCons (mA pf_in_order (fCons (fV 0) fNil)) (fCons (fV 1) (fCons (fV 2) fNil)))))
noncomputable def pf_fewest_by_order := pfP 3 3 m_fewest_by_order
theorem sc_fewest_by_order : FnScope N_fewest_by_order ["entries", "wide", "gap"] (defScope st_fewest_by_order) := ⟨rfl, rfl, rfl, by decide +kernel, rfl, by decide +kernel, by decide +kernel⟩
theorem d_fewest_by_order {P : Program} {w : World} {K : PySem.W.Frag} {mg : Str → Option Value} {base : Heap} {f : Addr} (B : Blt mg) (C_first_within : CalD P w K mg base "first_within" 4 (spP K pf_first_within)) (C_in_order : CalD P w K mg base "in_order" 2 (spP K pf_in_order)) : BodyD P w K mg base "fewest_by_order" (defBody st_fewest_by_order) (defScope st_fewest_by_order) f N_fewest_by_order 4 m_fewest_by_order :=
  fun cdv A outer s H E hr => have sc := sc_fewest_by_order; ⟨_,
   (db_one (ds_ret (dp_c (K := K) C_first_within (by decide) hr (by rfl) (da_cons (dp_c (K := K) C_in_order (by decide) hr (by rfl) (da_cons (dp_var 0) da_nil)) (da_cons (dp_var 1) (da_cons (dp_var 2) da_nil))))))⟩
theorem ok_fewest_by_order {P : Program} {w : World} {K : PySem.W.Frag} {mg : Str → Option Value} {base : Heap} {f : Addr} {fd : FuncData} (B : Blt mg) (C_first_within : CalD P w K mg base "first_within" 4 (spP K pf_first_within)) (C_in_order : CalD P w K mg base "in_order" 2 (spP K pf_in_order)) (F : FnP K "fewest_by_order" st_fewest_by_order f fd) : FnOk P w K mg base CX0 5 f fd ["entries", "wide", "gap"] (spP K pf_fewest_by_order) :=
  ok_P F sc_fewest_by_order rfl rfl (by decide) (d_fewest_by_order B C_first_within C_in_order)
theorem cal_fewest_by_order {P : Program} {w : World} {K : PySem.W.Frag} {mg : Str → Option Value} {base : Heap} {f : Addr} {fd : FuncData} (B : Blt mg) (C_first_within : CalD P w K mg base "first_within" 4 (spP K pf_first_within)) (C_in_order : CalD P w K mg base "in_order" 2 (spP K pf_in_order)) (F : FnP K "fewest_by_order" st_fewest_by_order f fd) (hm : mg "fewest_by_order" = some (.ref f)) : CalD P w K mg base "fewest_by_order" 5 (spP K pf_fewest_by_order) :=
  ⟨f, fd, ["entries", "wide", "gap"], ok_fewest_by_order B C_first_within C_in_order F, hm, F.kp, F.bindsN fun _ _ _ _ _ _ us hl => match us, hl with | [_, _, _], _ => rfl⟩
/-! gain_of_order -/
abbrev st_gain_of_order : Stmt := top 28
abbrev N_gain_of_order : List Str := ["entries", "wide", "gap", "told", "best"]
noncomputable def m_gain_of_order : M Fl :=
  (fSeq (fPar 3 4 false false (mA pf_fewest_lines (fCons (fV 0) (fCons (fV 1) (fCons (fV 2) fNil)))) (mA pf_fewest_by_order (fCons (fV 0) (fCons (fV 1) (fCons (fV 2) fNil)))))
    (fRet (mIte (mOr (mT gB (m2 gIsN (fV 3) (mret .none))) (mT gB (m2 gIsN (fV 4) (mret .none)))) (mret .none) (m2 gSub (fV 3) (fV 4)))))
noncomputable def pf_gain_of_order := pfP 5 3 m_gain_of_order
theorem sc_gain_of_order : FnScope N_gain_of_order ["entries", "wide", "gap"] (defScope st_gain_of_order) := ⟨rfl, rfl, rfl, by decide +kernel, rfl, by decide +kernel, by decide +kernel⟩
theorem d_gain_of_order {P : Program} {w : World} {K : PySem.W.Frag} {mg : Str → Option Value} {base : Heap} {f : Addr} (B : Blt mg) (C_fewest_lines : CalD P w K mg base "fewest_lines" 5 (spP K pf_fewest_lines)) (C_fewest_by_order : CalD P w K mg base "fewest_by_order" 5 (spP K pf_fewest_by_order)) : BodyD P w K mg base "gain_of_order" (defBody st_gain_of_order) (defScope st_gain_of_order) f N_gain_of_order 5 m_gain_of_order :=
  fun cdv A outer s H E hr => have sc := sc_gain_of_order; ⟨_,
   (db_cons (ds_par 3 4 rfl sc.nd (.p (dp_c (K := K) C_fewest_lines (by decide) hr (by rfl) (da_cons (dp_var 0) (da_cons (dp_var 1) (da_cons (dp_var 2) da_nil))))) (.p (dp_c (K := K) C_fewest_by_order (by decide) hr (by rfl) (da_cons (dp_var 0) (da_cons (dp_var 1) (da_cons (dp_var 2) da_nil))))))
    (db_one (ds_ret (dp_if (DW.t (dw_or (dt_cmp k_isN o2_isN (dp_var 3) dp_non (nomark _)) (dw_or1 (dt_cmp k_isN o2_isN (dp_var 4) dp_non (nomark _))))) dp_non (dp_op op_sub o2_sub (dp_var 3) (dp_var 4))))))⟩
theorem ok_gain_of_order {P : Program} {w : World} {K : PySem.W.Frag} {mg : Str → Option Value} {base : Heap} {f : Addr} {fd : FuncData} (B : Blt mg) (C_fewest_lines : CalD P w K mg base "fewest_lines" 5 (spP K pf_fewest_lines)) (C_fewest_by_order : CalD P w K mg base "fewest_by_order" 5 (spP K pf_fewest_by_order)) (F : FnP K "gain_of_order" st_gain_of_order f fd) : FnOk P w K mg base CX0 6 f fd ["entries", "wide", "gap"] (spP K pf_gain_of_order) :=
  ok_P F sc_gain_of_order rfl rfl (by decide) (d_gain_of_order B C_fewest_lines C_fewest_by_order)
theorem cal_gain_of_order {P : Program} {w : World} {K : PySem.W.Frag} {mg : Str → Option Value} {base : Heap} {f : Addr} {fd : FuncData} (B : Blt mg) (C_fewest_lines : CalD P w K mg base "fewest_lines" 5 (spP K pf_fewest_lines)) (C_fewest_by_order : CalD P w K mg base "fewest_by_order" 5 (spP K pf_fewest_by_order)) (F : FnP K "gain_of_order" st_gain_of_order f fd) (hm : mg "gain_of_order" = some (.ref f)) : CalD P w K mg base "gain_of_order" 6 (spP K pf_gain_of_order) :=
  ⟨f, fd, ["entries", "wide", "gap"], ok_gain_of_order B C_fewest_lines C_fewest_by_order F, hm, F.kp, F.bindsN fun _ _ _ _ _ _ us hl => match us, hl with | [_, _, _], _ => rfl⟩
/-! _law_mixed -/
abbrev st__law_mixed : Stmt := top 33
abbrev N__law_mixed : List Str := ["bag", "things", "left", "found"]
noncomputable def m__law_mixed : M Fl :=
  (fSeq (fPar 2 3 true true (m1 gList (fV 1)) (mLst fNil))
    (fSeq (fWhile (mT gB (m2o 2 gNe (mLst fNil)))
    (fDrop (mCallB 3 gAppend (fCons (mCallB 2 gPopAt (fCons (mCallB 0 pf__law_take (fCons (m1 gLen (fR 2)) fNil)) fNil)) fNil))))
    (fRet (fO 3))))
noncomputable def pf__law_mixed := pfB 4 2 m__law_mixed
theorem sc__law_mixed : FnScope N__law_mixed ["bag", "things"] (defScope st__law_mixed) := ⟨rfl, rfl, rfl, by decide +kernel, rfl, by decide +kernel, by decide +kernel⟩
theorem d__law_mixed {P : Program} {w : World} {K : PySem.W.Frag} {mg : Str → Option Value} {base : Heap} {f : Addr} (B : Blt mg) (C__law_take : CalD P w K mg base "_law_take" 1 (spB K pf__law_take)) : BodyD P w K mg base "_law_mixed" (defBody st__law_mixed) (defScope st__law_mixed) f N__law_mixed 1 m__law_mixed :=
  fun cdv A outer s H E hr => have sc := sc__law_mixed; ⟨_,
   (db_cons (ds_par 2 3 rfl sc.nd (.l (dl_ct1 (k_list K) o1_list (by rfl) B.list PyProof.Rows.boot_list (DP.q (dp_var 1)))) (.l (dl_lst da_nil)))
    (db_cons (ds_while PassesOwn.never (dt_cmpo (k_neD K hr) o2_ne (dq_own 2) (DL.q (dl_lst da_nil)) (nomark _))
    (db_one (ds_expr (dp_mut (K := K) PySem.F.slot_list_append PySem.F.type_list_append (MtR.of mt_append) om_append (dq_own 3) (da_cons (dp_mut (K := K) PySem.F.slot_list_pop PySem.F.type_list_pop (MtR.of mt_popAt) om_popAt (dq_own 2) (da_cons (dp_cB (K := K) C__law_take (by decide) hr (by rfl) (dq_own 0) (da_cons (dp_cb1 (k_len K) o1_len (by rfl) B.len boot_len (dq_own 2)) da_nil)) da_nil)) da_nil)))))
    (db_one (ds_ret (dp_frz 3)))))⟩
theorem ok__law_mixed {P : Program} {w : World} {K : PySem.W.Frag} {mg : Str → Option Value} {base : Heap} {f : Addr} {fd : FuncData} (B : Blt mg) (C__law_take : CalD P w K mg base "_law_take" 1 (spB K pf__law_take)) (F : FnP K "_law_mixed" st__law_mixed f fd) : FnOk P w K mg base CX0 2 f fd ["bag", "things"] (spB K pf__law_mixed) :=
  ok_B F sc__law_mixed rfl rfl (by decide) (d__law_mixed B C__law_take)
theorem cal__law_mixed {P : Program} {w : World} {K : PySem.W.Frag} {mg : Str → Option Value} {base : Heap} {f : Addr} {fd : FuncData} (B : Blt mg) (C__law_take : CalD P w K mg base "_law_take" 1 (spB K pf__law_take)) (F : FnP K "_law_mixed" st__law_mixed f fd) (hm : mg "_law_mixed" = some (.ref f)) : CalD P w K mg base "_law_mixed" 2 (spB K pf__law_mixed) :=
  ⟨f, fd, ["bag", "things"], ok__law_mixed B C__law_take F, hm, F.kp, F.bindsN fun _ _ _ _ _ _ us hl => match us, hl with | [_, _], _ => rfl⟩
/-! columns -/
abbrev st_columns : Stmt := top 18
abbrev N_columns : List Str := ["entries", "lines"]
noncomputable def m_columns : M Fl :=
  (fRet (mA pf_cut (fCons (mLstRg (mRg1 (m1 gLen (fV 0)))) (fCons (fV 1) fNil))))
noncomputable def pf_columns := pfP 2 2 m_columns
theorem sc_columns : FnScope N_columns ["entries", "lines"] (defScope st_columns) := ⟨rfl, rfl, rfl, by decide +kernel, rfl, by decide +kernel, by decide +kernel⟩
theorem d_columns {P : Program} {w : World} {K : PySem.W.Frag} {mg : Str → Option Value} {base : Heap} {f : Addr} (B : Blt mg) (C_cut : CalD P w K mg base "cut" 1 (spP K pf_cut)) : BodyD P w K mg base "columns" (defBody st_columns) (defScope st_columns) f N_columns 1 m_columns :=
  fun cdv A outer s H E hr => have sc := sc_columns; ⟨_,
   (db_one (ds_ret (dp_c (K := K) C_cut (by decide) hr (by rfl) (da_cons (DL.p (dl_lstRg rfl (by rfl) B.list (dr_1 (by rfl) B.range (dp_cb1 (k_len K) o1_len (by rfl) B.len boot_len (DP.q (dp_var 0)))))) (da_cons (dp_var 1) da_nil)))))⟩
theorem ok_columns {P : Program} {w : World} {K : PySem.W.Frag} {mg : Str → Option Value} {base : Heap} {f : Addr} {fd : FuncData} (B : Blt mg) (C_cut : CalD P w K mg base "cut" 1 (spP K pf_cut)) (F : FnP K "columns" st_columns f fd) : FnOk P w K mg base CX0 2 f fd ["entries", "lines"] (spP K pf_columns) :=
  ok_P F sc_columns rfl rfl (by decide) (d_columns B C_cut)
theorem cal_columns {P : Program} {w : World} {K : PySem.W.Frag} {mg : Str → Option Value} {base : Heap} {f : Addr} {fd : FuncData} (B : Blt mg) (C_cut : CalD P w K mg base "cut" 1 (spP K pf_cut)) (F : FnP K "columns" st_columns f fd) (hm : mg "columns" = some (.ref f)) : CalD P w K mg base "columns" 2 (spP K pf_columns) :=
  ⟨f, fd, ["entries", "lines"], ok_columns B C_cut F, hm, F.kp, F.bindsN fun _ _ _ _ _ _ us hl => match us, hl with | [_, _], _ => rfl⟩
/-! page_rows -/
abbrev st_page_rows : Stmt := top 23
abbrev N_page_rows : List Str := ["entries", "lines", "some", "line", "column"]
noncomputable def m_page_rows : M Fl :=
  (fSeq (fSet 2 (mA pf_columns (fCons (fV 0) (fCons (fV 1) fNil))))
    (fRet (m1 gTuple (fLc [3] (mIA gRng1 (fCons (m1 gLen (m2 gIx (fV 2) (mret (.int 0)))) fNil)) (tgName 3) fYes (m1 gTuple (fLc [4] (mI gSeq (fV 2)) (tgName 4) (mT gB (m2 (gCmp fLt) (fV 3) (m1 gLen (fV 4)))) (m2 gIx (fV 4) (fV 3))))))))
noncomputable def pf_page_rows := pfP 5 2 m_page_rows
theorem sc_page_rows : FnScope N_page_rows ["entries", "lines"] (defScope st_page_rows) := ⟨rfl, rfl, rfl, by decide +kernel, rfl, by decide +kernel, by decide +kernel⟩
theorem d_page_rows {P : Program} {w : World} {K : PySem.W.Frag} {mg : Str → Option Value} {base : Heap} {f : Addr} (B : Blt mg) (C_columns : CalD P w K mg base "columns" 2 (spP K pf_columns)) : BodyD P w K mg base "page_rows" (defBody st_page_rows) (defScope st_page_rows) f N_page_rows 2 m_page_rows :=
  fun cdv A outer s H E hr => have sc := sc_page_rows; ⟨_,
   (db_cons (ds_set 2 sc.nd (dp_c (K := K) C_columns (by decide) hr (by rfl) (da_cons (dp_var 0) (da_cons (dp_var 1) da_nil))))
    (db_one (ds_ret (dp_ct1 (k_tuple K) o1_tuple (by rfl) B.tuple PyProof.Rows.boot_tuple (DL.q (dl_lc (own := [("line", 3)]) rfl sc.nd (blkOk_by (by rfl)) (di_rng1 (by rfl) B.range (da_cons (dp_cb1 (k_len K) o1_len (by rfl) B.len boot_len (DP.q (dp_ix (K := K) hr (dp_var 2) dp_int))) da_nil)) (fun _ _ _ _ _ => (dg_name 3 sc.nd)) (fun _ h => h) (fun _ _ _ _ _ => dts_nil) (fun _ _ _ _ _ => (dp_ct1 (k_tuple K) o1_tuple (by rfl) B.tuple PyProof.Rows.boot_tuple (DL.q (dl_lc (own := [("column", 4)]) rfl sc.nd (blkOk_by (by rfl)) (di_seq (K := K) (dp_var 2)) (fun _ _ _ _ _ => (dg_name 4 sc.nd)) (fun _ h => h) (fun _ _ _ _ _ => (dts_one (dt_cmp (k_ltD K hr) (o2_cmp fLt) (dp_var 3) (dp_cb1 (k_len K) o1_len (by rfl) B.len boot_len (DP.q (dp_var 4))) (nomark _)))) (fun _ _ _ _ _ => (dp_ix (K := K) hr (dp_var 4) (dp_var 3)))))))))))))⟩
theorem ok_page_rows {P : Program} {w : World} {K : PySem.W.Frag} {mg : Str → Option Value} {base : Heap} {f : Addr} {fd : FuncData} (B : Blt mg) (C_columns : CalD P w K mg base "columns" 2 (spP K pf_columns)) (F : FnP K "page_rows" st_page_rows f fd) : FnOk P w K mg base CX0 3 f fd ["entries", "lines"] (spP K pf_page_rows) :=
  ok_P F sc_page_rows rfl rfl (by decide) (d_page_rows B C_columns)
theorem cal_page_rows {P : Program} {w : World} {K : PySem.W.Frag} {mg : Str → Option Value} {base : Heap} {f : Addr} {fd : FuncData} (B : Blt mg) (C_columns : CalD P w K mg base "columns" 2 (spP K pf_columns)) (F : FnP K "page_rows" st_page_rows f fd) (hm : mg "page_rows" = some (.ref f)) : CalD P w K mg base "page_rows" 3 (spP K pf_page_rows) :=
  ⟨f, fd, ["entries", "lines"], ok_page_rows B C_columns F, hm, F.kp, F.bindsN fun _ _ _ _ _ _ us hl => match us, hl with | [_, _], _ => rfl⟩
/-! least_width -/
abbrev st_least_width : Stmt := top 26
abbrev N_least_width : List Str := ["entries", "lines", "gap"]
noncomputable def m_least_width : M Fl :=
  (fRet (mA pf_width (fCons (mA pf_in_order (fCons (fV 0) fNil)) (fCons (fV 1) (fCons (fV 2) fNil)))))
noncomputable def pf_least_width := pfP 3 3 m_least_width
theorem sc_least_width : FnScope N_least_width ["entries", "lines", "gap"] (defScope st_least_width) := ⟨rfl, rfl, rfl, by decide +kernel, rfl, by decide +kernel, by decide +kernel⟩
theorem d_least_width {P : Program} {w : World} {K : PySem.W.Frag} {mg : Str → Option Value} {base : Heap} {f : Addr} (B : Blt mg) (C_width : CalD P w K mg base "width" 3 (spP K pf_width)) (C_in_order : CalD P w K mg base "in_order" 2 (spP K pf_in_order)) : BodyD P w K mg base "least_width" (defBody st_least_width) (defScope st_least_width) f N_least_width 3 m_least_width :=
  fun cdv A outer s H E hr => have sc := sc_least_width; ⟨_,
   (db_one (ds_ret (dp_c (K := K) C_width (by decide) hr (by rfl) (da_cons (dp_c (K := K) C_in_order (by decide) hr (by rfl) (da_cons (dp_var 0) da_nil)) (da_cons (dp_var 1) (da_cons (dp_var 2) da_nil))))))⟩
theorem ok_least_width {P : Program} {w : World} {K : PySem.W.Frag} {mg : Str → Option Value} {base : Heap} {f : Addr} {fd : FuncData} (B : Blt mg) (C_width : CalD P w K mg base "width" 3 (spP K pf_width)) (C_in_order : CalD P w K mg base "in_order" 2 (spP K pf_in_order)) (F : FnP K "least_width" st_least_width f fd) : FnOk P w K mg base CX0 4 f fd ["entries", "lines", "gap"] (spP K pf_least_width) :=
  ok_P F sc_least_width rfl rfl (by decide) (d_least_width B C_width C_in_order)
theorem cal_least_width {P : Program} {w : World} {K : PySem.W.Frag} {mg : Str → Option Value} {base : Heap} {f : Addr} {fd : FuncData} (B : Blt mg) (C_width : CalD P w K mg base "width" 3 (spP K pf_width)) (C_in_order : CalD P w K mg base "in_order" 2 (spP K pf_in_order)) (F : FnP K "least_width" st_least_width f fd) (hm : mg "least_width" = some (.ref f)) : CalD P w K mg base "least_width" 4 (spP K pf_least_width) :=
  ⟨f, fd, ["entries", "lines", "gap"], ok_least_width B C_width C_in_order F, hm, F.kp, F.bindsN fun _ _ _ _ _ _ us hl => match us, hl with | [_, _, _], _ => rfl⟩
/-! _law_are_columns -/
abbrev st__law_are_columns : Stmt := top 41
abbrev N__law_are_columns : List Str := ["bag", "many", "most", "entries", "gap", "lines", "wide", "lots", "extents", "rows", "order", "fallen", "narrow", "other", "told", "best", "due", "found", "entry", "begin", "lot", "at", "line", "pair"]
noncomputable def m__law_are_columns : M Fl :=
  (fSeq (fSet 1 (m2 gAdd (mret (.int 1)) (mCallB 0 pf__law_take (fCons (mret (.int 60)) fNil))))
    (fSeq (fSet 2 (mCallB 0 pf__law_some (fCons (mLst (fCons (mret (.int 3)) (fCons (mret (.int 20)) (fCons (mret (.int 99)) fNil)))) fNil)))
    (fSeq (fAsg (mTup (fCons (m1 gTuple (fLc [18] (mIA gRng1 (fCons (fV 1) fNil)) (tgName 18) fYes (m2 gAdd (mret (.int 1)) (mCallB 0 pf__law_take (fCons (fV 2) fNil))))) (fCons (mCallB 0 pf__law_take (fCons (mret (.int 10)) fNil)) fNil))) (tgTup 2 (tgCons (tgName 3) (tgCons (tgName 4) tgNil))))
    (fSeq (fAsg (mTup (fCons (m2 gAdd (mret (.int 1)) (mCallB 0 pf__law_take (fCons (mret (.int 60)) fNil))) (fCons (m2 gAdd (mret (.int 1)) (mCallB 0 pf__law_take (fCons (mret (.int 99)) fNil))) fNil))) (tgTup 2 (tgCons (tgName 5) (tgCons (tgName 6) tgNil))))
    (fSeq (fSet 7 (m1 gTuple (fLc [19] (mIA gRng3 (fCons (mret (.int 0)) (fCons (fV 1) (fCons (fV 5) fNil)))) (tgName 19) fYes (mTupRg (mRg2 (fV 19) (mA gMin2 (fCons (fV 1) (fCons (m2 gAdd (fV 19) (fV 5)) fNil))))))))
    (fSeq (fSet 8 (m1 gTuple (fLc [20] (mI gSeq (fV 7)) (tgName 20) fYes (m1 gMax1 (fLc [21] (mI gSeq (fV 20)) (tgName 21) fYes (m2 gIx (fV 3) (fV 21)))))))
    (fSeq (fSet 9 (m1 gTuple (fLc [22] (mIA gRng1 (fCons (m1 gLen (m2 gIx (fV 7) (mret (.int 0)))) fNil)) (tgName 22) fYes (m1 gTuple (fLc [20] (mI gSeq (fV 7)) (tgName 20) (mT gB (m2 (gCmp fLt) (fV 22) (m1 gLen (fV 20)))) (m2 gIx (fV 20) (fV 22)))))))
    (fSeq (mIte (mNot (mT gTru (mA pf__law_alike (fCons (mLst (fCons (mA pf_columns (fCons (fV 3) (fCons (fV 5) fNil))) (fCons (mA pf_widths (fCons (fV 3) (fCons (fV 5) fNil))) (fCons (mA pf_page_rows (fCons (fV 3) (fCons (fV 5) fNil))) fNil)))) (fCons (mLst (fCons (fV 7) (fCons (fV 8) (fCons (fV 9) fNil)))) fNil)))))
    (fRet (mret (.bool false)))
    fNx)
    (fSeq (fSet 10 (fLc [23] (mI gSeq (m1 gSorted (fLc [21, 18] (mIA gEnum (fCons (fV 3) fNil)) (tgTup 2 (tgCons (tgName 21) (tgCons (tgName 18) tgNil))) fYes (mTup (fCons (m2 gSub (mret (.int 0)) (fV 18)) (fCons (fV 21) fNil)))))) (tgName 23) fYes (m2 gIx (fV 23) (mret (.int 1)))))
    (fSeq (fSet 11 (fLc [21] (mI gSeq (fV 10)) (tgName 21) fYes (m2 gIx (fV 3) (fV 21))))
    (fSeq (mIte (mNot (mT gTru (mA pf__law_alike (fCons (mLst (fCons (mA pf_best_order (fCons (fV 3) fNil)) (fCons (mA pf_width (fCons (fV 3) (fCons (fV 5) (fCons (fV 4) fNil)))) fNil))) (fCons (mLst (fCons (m1 gTuple (fV 10)) (fCons (mA pf__law_wide (fCons (fV 3) (fCons (fV 5) (fCons (fV 4) fNil)))) fNil))) fNil)))))
    (fRet (mret (.bool false)))
    fNx)
    (fSeq (fPar 12 13 false false (mA pf__law_wide (fCons (fV 11) (fCons (fV 5) (fCons (fV 4) fNil)))) (m1 gTuple (mCallB 0 pf__law_mixed (fCons (m1 gList (fV 3)) fNil))))
    (fSeq (mIte (mNot (mT gTru (mA pf__law_alike (fCons (mLst (fCons (mA pf_least_width (fCons (fV 3) (fCons (fV 5) (fCons (fV 4) fNil)))) (fCons (mA pf_least_width (fCons (fV 13) (fCons (fV 5) (fCons (fV 4) fNil)))) fNil))) (fCons (mLst (fCons (fV 12) (fCons (fV 12) fNil))) fNil)))))
    (fRet (mret (.bool false)))
    fNx)
    (fSeq (mIte (mT gB (m2 (gCmp fLt) (mA pf_width (fCons (fV 13) (fCons (fV 5) (fCons (fV 4) fNil)))) (fV 12)))
    (fRet (mret (.bool false)))
    fNx)
    (fSeq (fPar 14 15 false false (mA pf__law_first_within (fCons (fV 3) (fCons (fV 6) (fCons (fV 4) fNil)))) (mA pf__law_first_within (fCons (fV 11) (fCons (fV 6) (fCons (fV 4) fNil)))))
    (fSeq (fSet 16 (mLst (fCons (fV 14) (fCons (fV 15) (fCons (mIte (mOr (mT gB (m2 gIsN (fV 14) (mret .none))) (mT gB (m2 gIsN (fV 15) (mret .none)))) (mret .none) (m2 gSub (fV 14) (fV 15))) fNil)))))
    (fSeq (fSet 17 (mLst (fCons (mA pf_fewest_lines (fCons (fV 3) (fCons (fV 6) (fCons (fV 4) fNil)))) (fCons (mA pf_fewest_by_order (fCons (fV 3) (fCons (fV 6) (fCons (fV 4) fNil)))) (fCons (mA pf_gain_of_order (fCons (fV 3) (fCons (fV 6) (fCons (fV 4) fNil)))) fNil)))))
    (fRet (fAndV (mA pf__law_alike (fCons (fV 17) (fCons (fV 16) fNil))) (fOrV (m2 gIsN (fV 14) (mret .none)) (fAndV (m2 gNotN (fV 15) (mret .none)) (m2 (gCmp fLe) (fV 15) (fV 14)))))))))))))))))))))))
noncomputable def pf__law_are_columns := pfB 24 1 m__law_are_columns
theorem sc__law_are_columns : FnScope N__law_are_columns ["bag"] (defScope st__law_are_columns) := ⟨rfl, rfl, rfl, by decide +kernel, rfl, by decide +kernel, by decide +kernel⟩
theorem d__law_are_columns {P : Program} {w : World} {K : PySem.W.Frag} {mg : Str → Option Value} {base : Heap} {f : Addr} (B : Blt mg) (C__law_some : CalD P w K mg base "_law_some" 2 (spB K pf__law_some)) (C__law_take : CalD P w K mg base "_law_take" 1 (spB K pf__law_take)) (C__law_alike : CalD P w K mg base "_law_alike" 1 (spP K pf__law_alike)) (C__law_wide : CalD P w K mg base "_law_wide" 1 (spP K pf__law_wide)) (C_width : CalD P w K mg base "width" 3 (spP K pf_width)) (C__law_first_within : CalD P w K mg base "_law_first_within" 2 (spP K pf__law_first_within)) (C_fewest_lines : CalD P w K mg base "fewest_lines" 5 (spP K pf_fewest_lines)) (C_fewest_by_order : CalD P w K mg base "fewest_by_order" 5 (spP K pf_fewest_by_order)) (C_gain_of_order : CalD P w K mg base "gain_of_order" 6 (spP K pf_gain_of_order)) (C__law_mixed : CalD P w K mg base "_law_mixed" 2 (spB K pf__law_mixed)) (C_columns : CalD P w K mg base "columns" 2 (spP K pf_columns)) (C_widths : CalD P w K mg base "widths" 2 (spP K pf_widths)) (C_page_rows : CalD P w K mg base "page_rows" 3 (spP K pf_page_rows)) (C_best_order : CalD P w K mg base "best_order" 1 (spP K pf_best_order)) (C_least_width : CalD P w K mg base "least_width" 4 (spP K pf_least_width)) : BodyD P w K mg base "_law_are_columns" (defBody st__law_are_columns) (defScope st__law_are_columns) f N__law_are_columns 6 m__law_are_columns :=
  fun cdv A outer s H E hr => have sc := sc__law_are_columns; ⟨_,
   (db_cons (ds_set 1 sc.nd (dp_op (k_addA K) o2_add dp_int (dp_cB (K := K) C__law_take (by decide) hr (by rfl) (dq_own 0) (da_cons dp_int da_nil))))
    (db_cons (ds_set 2 sc.nd (dp_cB (K := K) C__law_some (by decide) hr (by rfl) (dq_own 0) (da_cons (DL.p (dl_lst (da_cons dp_int (da_cons dp_int (da_cons dp_int da_nil))))) da_nil)))
    (db_cons (ds_asg (dp_tup (da_cons (dp_ct1 (k_tuple K) o1_tuple (by rfl) B.tuple PyProof.Rows.boot_tuple (DL.q (dl_lc (own := [("entry", 18)]) rfl sc.nd (blkOk_by (by rfl)) (di_rng1 (by rfl) B.range (da_cons (dp_var 1) da_nil)) (fun _ _ _ _ _ => (dg_name 18 sc.nd)) (fun _ h => h) (fun _ _ _ _ _ => dts_nil) (fun _ _ _ _ _ => (dp_op (k_addA K) o2_add dp_int (dp_cB (K := K) C__law_take (by decide) hr (by rfl) (dq_own 0) (da_cons (dp_var 2) da_nil))))))) (da_cons (dp_cB (K := K) C__law_take (by decide) hr (by rfl) (dq_own 0) (da_cons dp_int da_nil)) da_nil))) (dg_tup (K := K) 2 rfl (dgs_cons (dg_name 3 sc.nd) (dgs_cons (dg_name 4 sc.nd) dgs_nil))))
    (db_cons (ds_asg (dp_tup (da_cons (dp_op (k_addA K) o2_add dp_int (dp_cB (K := K) C__law_take (by decide) hr (by rfl) (dq_own 0) (da_cons dp_int da_nil))) (da_cons (dp_op (k_addA K) o2_add dp_int (dp_cB (K := K) C__law_take (by decide) hr (by rfl) (dq_own 0) (da_cons dp_int da_nil))) da_nil))) (dg_tup (K := K) 2 rfl (dgs_cons (dg_name 5 sc.nd) (dgs_cons (dg_name 6 sc.nd) dgs_nil))))
    (db_cons (ds_set 7 sc.nd (dp_ct1 (k_tuple K) o1_tuple (by rfl) B.tuple PyProof.Rows.boot_tuple (DL.q (dl_lc (own := [("begin", 19)]) rfl sc.nd (blkOk_by (by rfl)) (di_rng3 (by rfl) B.range (da_cons dp_int (da_cons (dp_var 1) (da_cons (dp_var 5) da_nil)))) (fun _ _ _ _ _ => (dg_name 19 sc.nd)) (fun _ h => h) (fun _ _ _ _ _ => dts_nil) (fun _ _ _ _ _ => (dp_tupRg rfl (by rfl) B.tuple (dr_2 (by rfl) B.range (dp_var 19) (dp_cbA k_min2 oA_min2 (by rfl) B.min PyProof.Rows.boot_min (da_cons (dp_var 1) (da_cons (dp_op (k_addA K) o2_add (dp_var 19) (dp_var 5)) da_nil))))))))))
    (db_cons (ds_set 8 sc.nd (dp_ct1 (k_tuple K) o1_tuple (by rfl) B.tuple PyProof.Rows.boot_tuple (DL.q (dl_lc (own := [("lot", 20)]) rfl sc.nd (blkOk_by (by rfl)) (di_seq (K := K) (dp_var 7)) (fun _ _ _ _ _ => (dg_name 20 sc.nd)) (fun _ h => h) (fun _ _ _ _ _ => dts_nil) (fun _ _ _ _ _ => (dp_cb1 (k_max K hr) (o1_best PySem.W.maxD) (by rfl) B.max PyProof.Rows.boot_max (DL.q (dl_lc (own := [("at", 21)]) rfl sc.nd (blkOk_by (by rfl)) (di_seq (K := K) (dp_var 20)) (fun _ _ _ _ _ => (dg_name 21 sc.nd)) (fun _ h => h) (fun _ _ _ _ _ => dts_nil) (fun _ _ _ _ _ => (dp_ix (K := K) hr (dp_var 3) (dp_var 21)))))))))))
    (db_cons (ds_set 9 sc.nd (dp_ct1 (k_tuple K) o1_tuple (by rfl) B.tuple PyProof.Rows.boot_tuple (DL.q (dl_lc (own := [("line", 22)]) rfl sc.nd (blkOk_by (by rfl)) (di_rng1 (by rfl) B.range (da_cons (dp_cb1 (k_len K) o1_len (by rfl) B.len boot_len (DP.q (dp_ix (K := K) hr (dp_var 7) dp_int))) da_nil)) (fun _ _ _ _ _ => (dg_name 22 sc.nd)) (fun _ h => h) (fun _ _ _ _ _ => dts_nil) (fun _ _ _ _ _ => (dp_ct1 (k_tuple K) o1_tuple (by rfl) B.tuple PyProof.Rows.boot_tuple (DL.q (dl_lc (own := [("lot", 20)]) rfl sc.nd (blkOk_by (by rfl)) (di_seq (K := K) (dp_var 7)) (fun _ _ _ _ _ => (dg_name 20 sc.nd)) (fun _ h => h) (fun _ _ _ _ _ => (dts_one (dt_cmp (k_ltD K hr) (o2_cmp fLt) (dp_var 22) (dp_cb1 (k_len K) o1_len (by rfl) B.len boot_len (DP.q (dp_var 20))) (nomark _)))) (fun _ _ _ _ _ => (dp_ix (K := K) hr (dp_var 20) (dp_var 22)))))))))))
    (db_cons (ds_if (dt_not (dt_tru (DP.q (dp_c (K := K) C__law_alike (by decide) hr (by rfl) (da_cons (DL.p (dl_lst (da_cons (dp_c (K := K) C_columns (by decide) hr (by rfl) (da_cons (dp_var 3) (da_cons (dp_var 5) da_nil))) (da_cons (dp_c (K := K) C_widths (by decide) hr (by rfl) (da_cons (dp_var 3) (da_cons (dp_var 5) da_nil))) (da_cons (dp_c (K := K) C_page_rows (by decide) hr (by rfl) (da_cons (dp_var 3) (da_cons (dp_var 5) da_nil))) da_nil))))) (da_cons (DL.p (dl_lst (da_cons (dp_var 7) (da_cons (dp_var 8) (da_cons (dp_var 9) da_nil))))) da_nil))))))
    (db_one (ds_ret dp_bl))
    db_nil)
    (db_cons (ds_setLc 10 (own := [("pair", 23)]) rfl sc.nd (blkOk_by (by rfl)) (di_seq (K := K) (DL.p (dl_cb1 (k_sorted K hr) o1_sorted (by rfl) B.sorted PyProof.Rows.boot_sorted (DL.q (dl_lc (own := [("at", 21), ("entry", 18)]) rfl sc.nd (blkOk_by (by rfl)) (di_enum (K := K) (by rfl) B.enumerate (da_cons (dp_var 3) da_nil)) (fun _ _ _ _ _ => (dg_tup (K := K) 2 rfl (dgs_cons (dg_name 21 sc.nd) (dgs_cons (dg_name 18 sc.nd) dgs_nil)))) (fun _ h => h) (fun _ _ _ _ _ => dts_nil) (fun _ _ _ _ _ => (dp_tup (da_cons (dp_op op_sub o2_sub dp_int (dp_var 18)) (da_cons (dp_var 21) da_nil))))))))) (fun _ _ _ _ _ => (dg_name 23 sc.nd)) (fun _ h => h) (fun _ _ _ _ _ => dts_nil) (fun _ _ _ _ _ => (dp_ix (K := K) hr (dp_var 23) dp_int)))
    (db_cons (ds_setLc 11 (own := [("at", 21)]) rfl sc.nd (blkOk_by (by rfl)) (di_seq (K := K) (dp_var 10)) (fun _ _ _ _ _ => (dg_name 21 sc.nd)) (fun _ h => h) (fun _ _ _ _ _ => dts_nil) (fun _ _ _ _ _ => (dp_ix (K := K) hr (dp_var 3) (dp_var 21))))
    (db_cons (ds_if (dt_not (dt_tru (DP.q (dp_c (K := K) C__law_alike (by decide) hr (by rfl) (da_cons (DL.p (dl_lst (da_cons (dp_c (K := K) C_best_order (by decide) hr (by rfl) (da_cons (dp_var 3) da_nil)) (da_cons (dp_c (K := K) C_width (by decide) hr (by rfl) (da_cons (dp_var 3) (da_cons (dp_var 5) (da_cons (dp_var 4) da_nil)))) da_nil)))) (da_cons (DL.p (dl_lst (da_cons (dp_ct1 (k_tuple K) o1_tuple (by rfl) B.tuple PyProof.Rows.boot_tuple (DP.q (dp_var 10))) (da_cons (dp_c (K := K) C__law_wide (by decide) hr (by rfl) (da_cons (dp_var 3) (da_cons (dp_var 5) (da_cons (dp_var 4) da_nil)))) da_nil)))) da_nil))))))
    (db_one (ds_ret dp_bl))
    db_nil)
    (db_cons (ds_par 12 13 rfl sc.nd (.p (dp_c (K := K) C__law_wide (by decide) hr (by rfl) (da_cons (dp_var 11) (da_cons (dp_var 5) (da_cons (dp_var 4) da_nil))))) (.p (dp_ct1 (k_tuple K) o1_tuple (by rfl) B.tuple PyProof.Rows.boot_tuple (DP.q (dp_cB (K := K) C__law_mixed (by decide) hr (by rfl) (dq_own 0) (da_cons (DL.p (dl_ct1 (k_list K) o1_list (by rfl) B.list PyProof.Rows.boot_list (DP.q (dp_var 3)))) da_nil))))))
    (db_cons (ds_if (dt_not (dt_tru (DP.q (dp_c (K := K) C__law_alike (by decide) hr (by rfl) (da_cons (DL.p (dl_lst (da_cons (dp_c (K := K) C_least_width (by decide) hr (by rfl) (da_cons (dp_var 3) (da_cons (dp_var 5) (da_cons (dp_var 4) da_nil)))) (da_cons (dp_c (K := K) C_least_width (by decide) hr (by rfl) (da_cons (dp_var 13) (da_cons (dp_var 5) (da_cons (dp_var 4) da_nil)))) da_nil)))) (da_cons (DL.p (dl_lst (da_cons (dp_var 12) (da_cons (dp_var 12) da_nil)))) da_nil))))))
    (db_one (ds_ret dp_bl))
    db_nil)
    (db_cons (ds_if (dt_cmp (k_ltD K hr) (o2_cmp fLt) (dp_c (K := K) C_width (by decide) hr (by rfl) (da_cons (dp_var 13) (da_cons (dp_var 5) (da_cons (dp_var 4) da_nil)))) (dp_var 12) (nomark _))
    (db_one (ds_ret dp_bl))
    db_nil)
    (db_cons (ds_par 14 15 rfl sc.nd (.p (dp_c (K := K) C__law_first_within (by decide) hr (by rfl) (da_cons (dp_var 3) (da_cons (dp_var 6) (da_cons (dp_var 4) da_nil))))) (.p (dp_c (K := K) C__law_first_within (by decide) hr (by rfl) (da_cons (dp_var 11) (da_cons (dp_var 6) (da_cons (dp_var 4) da_nil))))))
    (db_cons (ds_set 16 sc.nd (DL.p (dl_lst (da_cons (dp_var 14) (da_cons (dp_var 15) (da_cons (dp_if (DW.t (dw_or (dt_cmp k_isN o2_isN (dp_var 14) dp_non (nomark _)) (dw_or1 (dt_cmp k_isN o2_isN (dp_var 15) dp_non (nomark _))))) dp_non (dp_op op_sub o2_sub (dp_var 14) (dp_var 15))) da_nil))))))
    (db_cons (ds_set 17 sc.nd (DL.p (dl_lst (da_cons (dp_c (K := K) C_fewest_lines (by decide) hr (by rfl) (da_cons (dp_var 3) (da_cons (dp_var 6) (da_cons (dp_var 4) da_nil)))) (da_cons (dp_c (K := K) C_fewest_by_order (by decide) hr (by rfl) (da_cons (dp_var 3) (da_cons (dp_var 6) (da_cons (dp_var 4) da_nil)))) (da_cons (dp_c (K := K) C_gain_of_order (by decide) hr (by rfl) (da_cons (dp_var 3) (da_cons (dp_var 6) (da_cons (dp_var 4) da_nil)))) da_nil))))))
    (db_one (ds_ret (dp_and (dp_c (K := K) C__law_alike (by decide) hr (by rfl) (da_cons (dp_var 17) (da_cons (dp_var 16) da_nil))) (dp_one (dp_or (dp_cmp k_isN o2_isN (dp_var 14) dp_non (nomark _)) (dp_one (dp_and (dp_cmp k_notN o2_notN (dp_var 15) dp_non (nomark _)) (dp_one (dp_cmp (k_leD K hr) (o2_cmp fLe) (dp_var 15) (dp_var 14) (nomark _)))))))))))))))))))))))))))⟩
theorem ok__law_are_columns {P : Program} {w : World} {K : PySem.W.Frag} {mg : Str → Option Value} {base : Heap} {f : Addr} {fd : FuncData} (B : Blt mg) (C__law_some : CalD P w K mg base "_law_some" 2 (spB K pf__law_some)) (C__law_take : CalD P w K mg base "_law_take" 1 (spB K pf__law_take)) (C__law_alike : CalD P w K mg base "_law_alike" 1 (spP K pf__law_alike)) (C__law_wide : CalD P w K mg base "_law_wide" 1 (spP K pf__law_wide)) (C_width : CalD P w K mg base "width" 3 (spP K pf_width)) (C__law_first_within : CalD P w K mg base "_law_first_within" 2 (spP K pf__law_first_within)) (C_fewest_lines : CalD P w K mg base "fewest_lines" 5 (spP K pf_fewest_lines)) (C_fewest_by_order : CalD P w K mg base "fewest_by_order" 5 (spP K pf_fewest_by_order)) (C_gain_of_order : CalD P w K mg base "gain_of_order" 6 (spP K pf_gain_of_order)) (C__law_mixed : CalD P w K mg base "_law_mixed" 2 (spB K pf__law_mixed)) (C_columns : CalD P w K mg base "columns" 2 (spP K pf_columns)) (C_widths : CalD P w K mg base "widths" 2 (spP K pf_widths)) (C_page_rows : CalD P w K mg base "page_rows" 3 (spP K pf_page_rows)) (C_best_order : CalD P w K mg base "best_order" 1 (spP K pf_best_order)) (C_least_width : CalD P w K mg base "least_width" 4 (spP K pf_least_width)) (F : FnP K "_law_are_columns" st__law_are_columns f fd) : FnOk P w K mg base CX0 7 f fd ["bag"] (spB K pf__law_are_columns) :=
  ok_B F sc__law_are_columns rfl rfl (by decide) (d__law_are_columns B C__law_some C__law_take C__law_alike C__law_wide C_width C__law_first_within C_fewest_lines C_fewest_by_order C_gain_of_order C__law_mixed C_columns C_widths C_page_rows C_best_order C_least_width)
theorem cal__law_are_columns {P : Program} {w : World} {K : PySem.W.Frag} {mg : Str → Option Value} {base : Heap} {f : Addr} {fd : FuncData} (B : Blt mg) (C__law_some : CalD P w K mg base "_law_some" 2 (spB K pf__law_some)) (C__law_take : CalD P w K mg base "_law_take" 1 (spB K pf__law_take)) (C__law_alike : CalD P w K mg base "_law_alike" 1 (spP K pf__law_alike)) (C__law_wide : CalD P w K mg base "_law_wide" 1 (spP K pf__law_wide)) (C_width : CalD P w K mg base "width" 3 (spP K pf_width)) (C__law_first_within : CalD P w K mg base "_law_first_within" 2 (spP K pf__law_first_within)) (C_fewest_lines : CalD P w K mg base "fewest_lines" 5 (spP K pf_fewest_lines)) (C_fewest_by_order : CalD P w K mg base "fewest_by_order" 5 (spP K pf_fewest_by_order)) (C_gain_of_order : CalD P w K mg base "gain_of_order" 6 (spP K pf_gain_of_order)) (C__law_mixed : CalD P w K mg base "_law_mixed" 2 (spB K pf__law_mixed)) (C_columns : CalD P w K mg base "columns" 2 (spP K pf_columns)) (C_widths : CalD P w K mg base "widths" 2 (spP K pf_widths)) (C_page_rows : CalD P w K mg base "page_rows" 3 (spP K pf_page_rows)) (C_best_order : CalD P w K mg base "best_order" 1 (spP K pf_best_order)) (C_least_width : CalD P w K mg base "least_width" 4 (spP K pf_least_width)) (F : FnP K "_law_are_columns" st__law_are_columns f fd) (hm : mg "_law_are_columns" = some (.ref f)) : CalD P w K mg base "_law_are_columns" 7 (spB K pf__law_are_columns) :=
  ⟨f, fd, ["bag"], ok__law_are_columns B C__law_some C__law_take C__law_alike C__law_wide C_width C__law_first_within C_fewest_lines C_fewest_by_order C_gain_of_order C__law_mixed C_columns C_widths C_page_rows C_best_order C_least_width F, hm, F.kp, F.bindsN fun _ _ _ _ _ _ us hl => match us, hl with | [_], _ => rfl⟩
/-! row_lines -/
abbrev st_row_lines : Stmt := top 5
abbrev N_row_lines : List Str := ["sheet", "some", "found", "row", "lines", "text", "wide"]
noncomputable def m_row_lines : M Fl :=
  (fSeq (fSetL 2 (mLst fNil))
    (fSeq (fFor (mI gSeq (fV 0)) (tgName 3)
    (fSeq (fSet 4 (fLc [5, 6] (mIA gZip (fCons (fV 3) (fCons (fV 1) fNil))) (tgTup 2 (tgCons (tgName 5) (tgCons (tgName 6) tgNil))) fYes (mA pf_text_lines (fCons (fV 5) (fCons (fV 6) fNil)))))
    (fSeq (mIte (mT gB (m2 gIn (mret .none) (fV 4)))
    (fRet (mret .none))
    fNx)
    (fDrop (mCallB 2 gAppend (fCons (m1 gMax1 (fV 4)) fNil))))))
    (fRet (m1 gTuple (fR 2)))))
noncomputable def pf_row_lines := pfP 7 2 m_row_lines
theorem sc_row_lines : FnScope N_row_lines ["sheet", "some"] (defScope st_row_lines) := ⟨rfl, rfl, rfl, by decide +kernel, rfl, by decide +kernel, by decide +kernel⟩
theorem d_row_lines {P : Program} {w : World} {K : PySem.W.Frag} {mg : Str → Option Value} {base : Heap} {f : Addr} (B : Blt mg) (C_text_lines : CalD P w K mg base "text_lines" 3 (spP K pf_text_lines)) : BodyD P w K mg base "row_lines" (defBody st_row_lines) (defScope st_row_lines) f N_row_lines 3 m_row_lines :=
  fun cdv A outer s H E hr => have sc := sc_row_lines; ⟨_,
   (db_cons (ds_setL 2 sc.nd (dl_lst da_nil))
    (db_cons (ds_for PassesOwn.never rfl (di_seq (K := K) (dp_var 0)) (dg_name 3 sc.nd)
    (db_cons (ds_setLc 4 (own := [("text", 5), ("wide", 6)]) rfl sc.nd (blkOk_by (by rfl)) (di_zip (K := K) (by rfl) B.zip (da_cons (dp_var 3) (da_cons (dp_var 1) da_nil))) (fun _ _ _ _ _ => (dg_tup (K := K) 2 rfl (dgs_cons (dg_name 5 sc.nd) (dgs_cons (dg_name 6 sc.nd) dgs_nil)))) (fun _ h => h) (fun _ _ _ _ _ => dts_nil) (fun _ _ _ _ _ => (dp_c (K := K) C_text_lines (by decide) hr (by rfl) (da_cons (dp_var 5) (da_cons (dp_var 6) da_nil)))))
    (db_cons (ds_if (dt_cmp (k_inS K hr) o2_in dp_non (dp_var 4) (by with_unfolding_all rfl))
    (db_one (ds_ret dp_non))
    db_nil)
    (db_one (ds_expr (dp_mut (K := K) PySem.F.slot_list_append PySem.F.type_list_append (MtR.of mt_append) om_append (dq_own 2) (da_cons (dp_cb1 (k_max K hr) (o1_best PySem.W.maxD) (by rfl) B.max PyProof.Rows.boot_max (DP.q (dp_var 4))) da_nil)))))))
    (db_one (ds_ret (dp_ct1 (k_tuple K) o1_tuple (by rfl) B.tuple PyProof.Rows.boot_tuple (dq_own 2))))))⟩
theorem ok_row_lines {P : Program} {w : World} {K : PySem.W.Frag} {mg : Str → Option Value} {base : Heap} {f : Addr} {fd : FuncData} (B : Blt mg) (C_text_lines : CalD P w K mg base "text_lines" 3 (spP K pf_text_lines)) (F : FnP K "row_lines" st_row_lines f fd) : FnOk P w K mg base CX0 4 f fd ["sheet", "some"] (spP K pf_row_lines) :=
  ok_P F sc_row_lines rfl rfl (by decide) (d_row_lines B C_text_lines)
theorem cal_row_lines {P : Program} {w : World} {K : PySem.W.Frag} {mg : Str → Option Value} {base : Heap} {f : Addr} {fd : FuncData} (B : Blt mg) (C_text_lines : CalD P w K mg base "text_lines" 3 (spP K pf_text_lines)) (F : FnP K "row_lines" st_row_lines f fd) (hm : mg "row_lines" = some (.ref f)) : CalD P w K mg base "row_lines" 4 (spP K pf_row_lines) :=
  ⟨f, fd, ["sheet", "some"], ok_row_lines B C_text_lines F, hm, F.kp, F.bindsN fun _ _ _ _ _ _ us hl => match us, hl with | [_, _], _ => rfl⟩
/-! sheet_lines -/
abbrev st_sheet_lines : Stmt := top 6
abbrev N_sheet_lines : List Str := ["sheet", "some", "found"]
noncomputable def m_sheet_lines : M Fl :=
  (fSeq (fSet 2 (mA pf_row_lines (fCons (fV 0) (fCons (fV 1) fNil))))
    (fRet (mIte (mT gB (m2 gIsN (fV 2) (mret .none))) (mret .none) (m1 gSum (fV 2)))))
noncomputable def pf_sheet_lines := pfP 3 2 m_sheet_lines
theorem sc_sheet_lines : FnScope N_sheet_lines ["sheet", "some"] (defScope st_sheet_lines) := ⟨rfl, rfl, rfl, by decide +kernel, rfl, by decide +kernel, by decide +kernel⟩
theorem d_sheet_lines {P : Program} {w : World} {K : PySem.W.Frag} {mg : Str → Option Value} {base : Heap} {f : Addr} (B : Blt mg) (C_row_lines : CalD P w K mg base "row_lines" 4 (spP K pf_row_lines)) : BodyD P w K mg base "sheet_lines" (defBody st_sheet_lines) (defScope st_sheet_lines) f N_sheet_lines 4 m_sheet_lines :=
  fun cdv A outer s H E hr => have sc := sc_sheet_lines; ⟨_,
   (db_cons (ds_set 2 sc.nd (dp_c (K := K) C_row_lines (by decide) hr (by rfl) (da_cons (dp_var 0) (da_cons (dp_var 1) da_nil))))
    (db_one (ds_ret (dp_if (dt_cmp k_isN o2_isN (dp_var 2) dp_non (nomark _)) dp_non (dp_cb1 (k_sum K) o1_sum (by rfl) B.sum PyProof.Rows.boot_sum (DP.q (dp_var 2)))))))⟩
theorem ok_sheet_lines {P : Program} {w : World} {K : PySem.W.Frag} {mg : Str → Option Value} {base : Heap} {f : Addr} {fd : FuncData} (B : Blt mg) (C_row_lines : CalD P w K mg base "row_lines" 4 (spP K pf_row_lines)) (F : FnP K "sheet_lines" st_sheet_lines f fd) : FnOk P w K mg base CX0 5 f fd ["sheet", "some"] (spP K pf_sheet_lines) :=
  ok_P F sc_sheet_lines rfl rfl (by decide) (d_sheet_lines B C_row_lines)
theorem cal_sheet_lines {P : Program} {w : World} {K : PySem.W.Frag} {mg : Str → Option Value} {base : Heap} {f : Addr} {fd : FuncData} (B : Blt mg) (C_row_lines : CalD P w K mg base "row_lines" 4 (spP K pf_row_lines)) (F : FnP K "sheet_lines" st_sheet_lines f fd) (hm : mg "sheet_lines" = some (.ref f)) : CalD P w K mg base "sheet_lines" 5 (spP K pf_sheet_lines) :=
  ⟨f, fd, ["sheet", "some"], ok_sheet_lines B C_row_lines F, hm, F.kp, F.bindsN fun _ _ _ _ _ _ us hl => match us, hl with | [_, _], _ => rfl⟩
/-! law -/
abbrev st_law : Stmt := top 43
abbrev N_law : List Str := ["script", "bag", "sheet", "gap", "wide", "across", "some", "due", "steps", "text", "told", "room", "column", "one"]
noncomputable def m_law : M Fl :=
  (fSeq (fSetL 1 (mA pf__law_bag (fCons (fV 0) fNil)))
    (fSeq (mIte (mOr (mNot (mT gTru (mCallB 1 pf__law_are_columns fNil))) (mNot (mT gTru (mCallB 1 pf__law_are_columns fNil))))
    (fRet (mret (.bool false)))
    fNx)
    (fSeq (fAsg (mTup (fCons (mCallB 1 pf__law_sheet fNil) (fCons (mCallB 1 pf__law_take (fCons (mret (.int 10)) fNil)) (fCons (m2 gAdd (mret (.int 1)) (mCallB 1 pf__law_take (fCons (mret (.int 99)) fNil))) fNil)))) (tgTup 3 (tgCons (tgName 2) (tgCons (tgName 3) (tgCons (tgName 4) tgNil)))))
    (fSeq (fSet 5 (m1 gLen (m2 gIx (fV 2) (mret (.int 0)))))
    (fSeq (fSet 6 (m1 gTuple (fLc [12] (mIA gRng1 (fCons (fV 5) fNil)) (tgName 12) fYes (m2 gAdd (mret (.int 1)) (mCallB 1 pf__law_take (fCons (mret (.int 99)) fNil))))))
    (fSeq (fSet 7 (mA pf__law_row_lines (fCons (fV 2) (fCons (fV 6) fNil))))
    (fSeq (mIte (mNot (mT gTru (mA pf__law_alike (fCons (mLst (fCons (mA pf_row_lines (fCons (fV 2) (fCons (fV 6) fNil))) (fCons (mA pf_sheet_lines (fCons (fV 2) (fCons (fV 6) fNil))) fNil))) (fCons (mLst (fCons (fV 7) (fCons (mIte (mT gB (m2 gIsN (fV 7) (mret .none))) (mret .none) (m1 gSum (fV 7))) fNil))) fNil)))))
    (fRet (mret (.bool false)))
    fNx)
    (fSeq (fSet 8 (fLc [12] (mIA gRng1 (fCons (fV 5) fNil)) (tgName 12) fYes (mA pf__law_steps (fCons (fV 2) (fCons (fV 12) fNil)))))
    (fSeq (mIte (mNot (mT gTru (mA pf__law_alike (fCons (fLc [12] (mIA gRng1 (fCons (fV 5) fNil)) (tgName 12) fYes (mA pf_line_steps (fCons (fV 2) (fCons (fV 12) fNil)))) (fCons (fLc [13] (mI gSeq (fV 8)) (tgName 13) fYes (m1 gTuple (fV 13))) fNil)))))
    (fRet (mret (.bool false)))
    fNx)
    (fSeq (mIte (mNot (mT gTru (mA pf__law_alike (fCons (mA pf_narrowest (fCons (fV 2) fNil)) (fCons (m1 gTuple (fLc [13] (mI gSeq (fV 8)) (tgName 13) fYes (m2 gIx (fV 13) (mret (.int 0))))) fNil)))))
    (fRet (mret (.bool false)))
    fNx)
    (fSeq (fSet 9 (m2 gIx (m2 gIx (fV 2) (mret (.int 0))) (mret (.int 0))))
    (fSeq (fSet 10 (mA pf_laid (fCons (fV 9) (fCons (m2 gIx (fV 6) (mret (.int 0))) fNil))))
    (fSeq (mIte (mNot (mT gTru (mA pf__law_alike (fCons (mIte (mT gB (m2 gIsN (fV 10) (mret .none))) (mret .none) (mA gMax2 (fCons (mret (.int 1)) (fCons (m1 gLen (fV 10)) fNil)))) (fCons (mA pf__law_lines (fCons (fV 9) (fCons (m2 gIx (fV 6) (mret (.int 0))) fNil))) fNil)))))
    (fRet (mret (.bool false)))
    fNx)
    (fSeq (fSet 11 (m2 gSub (fV 4) (m2 gMul (fV 3) (m2 gSub (fV 5) (mret (.int 1))))))
    (fSeq (mIte (mT gB (m2 (gCmp fGt) (m2 gMul (m2 gMul (m1 gLen (m2 gIx (fV 8) (mret (.int 0)))) (m1 gLen (m2 gIx (fV 8) (m1 gNeg (mret (.int 1)))))) (m1 gLen (m2 gIx (fV 8) (m2 gFdiv (fV 5) (mret (.int 2)))))) (mret (.int 4000))))
    (fRet (mret (.bool true)))
    fNx)
    (fRet (mA pf__law_alike (fCons (mA pf_best_widths (fCons (fV 2) (fCons (fV 4) (fCons (fV 3) fNil)))) (fCons (mA pf__law_best (fCons (fV 2) (fCons (fV 8) (fCons (fV 11) fNil)))) fNil)))))))))))))))))))
noncomputable def pf_law := pfP 14 1 m_law
theorem sc_law : FnScope N_law ["script"] (defScope st_law) := ⟨rfl, rfl, rfl, by decide +kernel, rfl, by decide +kernel, by decide +kernel⟩
theorem d_law {P : Program} {w : World} {K : PySem.W.Frag} {mg : Str → Option Value} {base : Heap} {f : Addr} (B : Blt mg) (C__law_bag : CalD P w K mg base "_law_bag" 1 (spL K pf__law_bag)) (C__law_row_lines : CalD P w K mg base "_law_row_lines" 2 (spP K pf__law_row_lines)) (C_laid : CalD P w K mg base "laid" 2 (spP K pf_laid)) (C__law_alike : CalD P w K mg base "_law_alike" 1 (spP K pf__law_alike)) (C__law_sheet : CalD P w K mg base "_law_sheet" 3 (spB K pf__law_sheet)) (C__law_take : CalD P w K mg base "_law_take" 1 (spB K pf__law_take)) (C__law_steps : CalD P w K mg base "_law_steps" 2 (spP K pf__law_steps)) (C_best_widths : CalD P w K mg base "best_widths" 6 (spP K pf_best_widths)) (C__law_best : CalD P w K mg base "_law_best" 3 (spP K pf__law_best)) (C__law_are_columns : CalD P w K mg base "_law_are_columns" 7 (spB K pf__law_are_columns)) (C_narrowest : CalD P w K mg base "narrowest" 2 (spP K pf_narrowest)) (C__law_lines : CalD P w K mg base "_law_lines" 1 (spP K pf__law_lines)) (C_row_lines : CalD P w K mg base "row_lines" 4 (spP K pf_row_lines)) (C_sheet_lines : CalD P w K mg base "sheet_lines" 5 (spP K pf_sheet_lines)) (C_line_steps : CalD P w K mg base "line_steps" 5 (spP K pf_line_steps)) : BodyD P w K mg base "law" (defBody st_law) (defScope st_law) f N_law 7 m_law :=
  fun cdv A outer s H E hr => have sc := sc_law; ⟨_,
   (db_cons (ds_setL 1 sc.nd (dl_c (K := K) C__law_bag (by decide) hr (by rfl) (da_cons (dp_var 0) da_nil)))
    (db_cons (ds_if (DW.t (dw_or (dt_not (dt_tru (DP.q (dp_cB (K := K) C__law_are_columns (by decide) hr (by rfl) (dq_own 1) da_nil)))) (dw_or1 (dt_not (dt_tru (DP.q (dp_cB (K := K) C__law_are_columns (by decide) hr (by rfl) (dq_own 1) da_nil)))))))
    (db_one (ds_ret dp_bl))
    db_nil)
    (db_cons (ds_asg (dp_tup (da_cons (dp_cB (K := K) C__law_sheet (by decide) hr (by rfl) (dq_own 1) da_nil) (da_cons (dp_cB (K := K) C__law_take (by decide) hr (by rfl) (dq_own 1) (da_cons dp_int da_nil)) (da_cons (dp_op (k_addA K) o2_add dp_int (dp_cB (K := K) C__law_take (by decide) hr (by rfl) (dq_own 1) (da_cons dp_int da_nil))) da_nil)))) (dg_tup (K := K) 3 rfl (dgs_cons (dg_name 2 sc.nd) (dgs_cons (dg_name 3 sc.nd) (dgs_cons (dg_name 4 sc.nd) dgs_nil)))))
    (db_cons (ds_set 5 sc.nd (dp_cb1 (k_len K) o1_len (by rfl) B.len boot_len (DP.q (dp_ix (K := K) hr (dp_var 2) dp_int))))
    (db_cons (ds_set 6 sc.nd (dp_ct1 (k_tuple K) o1_tuple (by rfl) B.tuple PyProof.Rows.boot_tuple (DL.q (dl_lc (own := [("column", 12)]) rfl sc.nd (blkOk_by (by rfl)) (di_rng1 (by rfl) B.range (da_cons (dp_var 5) da_nil)) (fun _ _ _ _ _ => (dg_name 12 sc.nd)) (fun _ h => h) (fun _ _ _ _ _ => dts_nil) (fun _ _ _ _ _ => (dp_op (k_addA K) o2_add dp_int (dp_cB (K := K) C__law_take (by decide) hr (by rfl) (dq_own 1) (da_cons dp_int da_nil))))))))
    (db_cons (ds_set 7 sc.nd (dp_c (K := K) C__law_row_lines (by decide) hr (by rfl) (da_cons (dp_var 2) (da_cons (dp_var 6) da_nil))))
    (db_cons (ds_if (dt_not (dt_tru (DP.q (dp_c (K := K) C__law_alike (by decide) hr (by rfl) (da_cons (DL.p (dl_lst (da_cons (dp_c (K := K) C_row_lines (by decide) hr (by rfl) (da_cons (dp_var 2) (da_cons (dp_var 6) da_nil))) (da_cons (dp_c (K := K) C_sheet_lines (by decide) hr (by rfl) (da_cons (dp_var 2) (da_cons (dp_var 6) da_nil))) da_nil)))) (da_cons (DL.p (dl_lst (da_cons (dp_var 7) (da_cons (dp_if (dt_cmp k_isN o2_isN (dp_var 7) dp_non (nomark _)) dp_non (dp_cb1 (k_sum K) o1_sum (by rfl) B.sum PyProof.Rows.boot_sum (DP.q (dp_var 7)))) da_nil)))) da_nil))))))
    (db_one (ds_ret dp_bl))
    db_nil)
    (db_cons (ds_setLc 8 (own := [("column", 12)]) rfl sc.nd (blkOk_by (by rfl)) (di_rng1 (by rfl) B.range (da_cons (dp_var 5) da_nil)) (fun _ _ _ _ _ => (dg_name 12 sc.nd)) (fun _ h => h) (fun _ _ _ _ _ => dts_nil) (fun _ _ _ _ _ => (dp_c (K := K) C__law_steps (by decide) hr (by rfl) (da_cons (dp_var 2) (da_cons (dp_var 12) da_nil)))))
    (db_cons (ds_if (dt_not (dt_tru (DP.q (dp_c (K := K) C__law_alike (by decide) hr (by rfl) (da_cons (DL.p (dl_lc (own := [("column", 12)]) rfl sc.nd (blkOk_by (by rfl)) (di_rng1 (by rfl) B.range (da_cons (dp_var 5) da_nil)) (fun _ _ _ _ _ => (dg_name 12 sc.nd)) (fun _ h => h) (fun _ _ _ _ _ => dts_nil) (fun _ _ _ _ _ => (dp_c (K := K) C_line_steps (by decide) hr (by rfl) (da_cons (dp_var 2) (da_cons (dp_var 12) da_nil)))))) (da_cons (DL.p (dl_lc (own := [("one", 13)]) rfl sc.nd (blkOk_by (by rfl)) (di_seq (K := K) (dp_var 8)) (fun _ _ _ _ _ => (dg_name 13 sc.nd)) (fun _ h => h) (fun _ _ _ _ _ => dts_nil) (fun _ _ _ _ _ => (dp_ct1 (k_tuple K) o1_tuple (by rfl) B.tuple PyProof.Rows.boot_tuple (DP.q (dp_var 13)))))) da_nil))))))
    (db_one (ds_ret dp_bl))
    db_nil)
    (db_cons (ds_if (dt_not (dt_tru (DP.q (dp_c (K := K) C__law_alike (by decide) hr (by rfl) (da_cons (dp_c (K := K) C_narrowest (by decide) hr (by rfl) (da_cons (dp_var 2) da_nil)) (da_cons (dp_ct1 (k_tuple K) o1_tuple (by rfl) B.tuple PyProof.Rows.boot_tuple (DL.q (dl_lc (own := [("one", 13)]) rfl sc.nd (blkOk_by (by rfl)) (di_seq (K := K) (dp_var 8)) (fun _ _ _ _ _ => (dg_name 13 sc.nd)) (fun _ h => h) (fun _ _ _ _ _ => dts_nil) (fun _ _ _ _ _ => (dp_ix (K := K) hr (dp_var 13) dp_int))))) da_nil))))))
    (db_one (ds_ret dp_bl))
    db_nil)
    (db_cons (ds_set 9 sc.nd (dp_ix (K := K) hr (dp_ix (K := K) hr (dp_var 2) dp_int) dp_int))
    (db_cons (ds_set 10 sc.nd (dp_c (K := K) C_laid (by decide) hr (by rfl) (da_cons (dp_var 9) (da_cons (dp_ix (K := K) hr (dp_var 6) dp_int) da_nil))))
    (db_cons (ds_if (dt_not (dt_tru (DP.q (dp_c (K := K) C__law_alike (by decide) hr (by rfl) (da_cons (dp_if (dt_cmp k_isN o2_isN (dp_var 10) dp_non (nomark _)) dp_non (dp_cbA k_max2 oA_max2 (by rfl) B.max PyProof.Rows.boot_max (da_cons dp_int (da_cons (dp_cb1 (k_len K) o1_len (by rfl) B.len boot_len (DP.q (dp_var 10))) da_nil)))) (da_cons (dp_c (K := K) C__law_lines (by decide) hr (by rfl) (da_cons (dp_var 9) (da_cons (dp_ix (K := K) hr (dp_var 6) dp_int) da_nil))) da_nil))))))
    (db_one (ds_ret dp_bl))
    db_nil)
    (db_cons (ds_set 11 sc.nd (dp_op op_sub o2_sub (dp_var 4) (dp_op op_mulA o2_mul (dp_var 3) (dp_op op_sub o2_sub (dp_var 5) dp_int))))
    (db_cons (ds_if (dt_cmp (k_gtD K hr) (o2_cmp fGt) (dp_op op_mulA o2_mul (dp_op op_mulA o2_mul (dp_cb1 (k_len K) o1_len (by rfl) B.len boot_len (DP.q (dp_ix (K := K) hr (dp_var 8) dp_int))) (dp_cb1 (k_len K) o1_len (by rfl) B.len boot_len (DP.q (dp_ix (K := K) hr (dp_var 8) (dp_neg dp_int))))) (dp_cb1 (k_len K) o1_len (by rfl) B.len boot_len (DP.q (dp_ix (K := K) hr (dp_var 8) (dp_op op_fdiv o2_fdiv (dp_var 5) dp_int))))) dp_int (nomark _))
    (db_one (ds_ret dp_bl))
    db_nil)
    (db_one (ds_ret (dp_c (K := K) C__law_alike (by decide) hr (by rfl) (da_cons (dp_c (K := K) C_best_widths (by decide) hr (by rfl) (da_cons (dp_var 2) (da_cons (dp_var 4) (da_cons (dp_var 3) da_nil)))) (da_cons (dp_c (K := K) C__law_best (by decide) hr (by rfl) (da_cons (dp_var 2) (da_cons (dp_var 8) (da_cons (dp_var 11) da_nil)))) da_nil))))))))))))))))))))⟩
theorem ok_law {P : Program} {w : World} {K : PySem.W.Frag} {mg : Str → Option Value} {base : Heap} {f : Addr} {fd : FuncData} (B : Blt mg) (C__law_bag : CalD P w K mg base "_law_bag" 1 (spL K pf__law_bag)) (C__law_row_lines : CalD P w K mg base "_law_row_lines" 2 (spP K pf__law_row_lines)) (C_laid : CalD P w K mg base "laid" 2 (spP K pf_laid)) (C__law_alike : CalD P w K mg base "_law_alike" 1 (spP K pf__law_alike)) (C__law_sheet : CalD P w K mg base "_law_sheet" 3 (spB K pf__law_sheet)) (C__law_take : CalD P w K mg base "_law_take" 1 (spB K pf__law_take)) (C__law_steps : CalD P w K mg base "_law_steps" 2 (spP K pf__law_steps)) (C_best_widths : CalD P w K mg base "best_widths" 6 (spP K pf_best_widths)) (C__law_best : CalD P w K mg base "_law_best" 3 (spP K pf__law_best)) (C__law_are_columns : CalD P w K mg base "_law_are_columns" 7 (spB K pf__law_are_columns)) (C_narrowest : CalD P w K mg base "narrowest" 2 (spP K pf_narrowest)) (C__law_lines : CalD P w K mg base "_law_lines" 1 (spP K pf__law_lines)) (C_row_lines : CalD P w K mg base "row_lines" 4 (spP K pf_row_lines)) (C_sheet_lines : CalD P w K mg base "sheet_lines" 5 (spP K pf_sheet_lines)) (C_line_steps : CalD P w K mg base "line_steps" 5 (spP K pf_line_steps)) (F : FnP K "law" st_law f fd) : FnOk P w K mg base CX0 8 f fd ["script"] (spP K pf_law) :=
  ok_P F sc_law rfl rfl (by decide) (d_law B C__law_bag C__law_row_lines C_laid C__law_alike C__law_sheet C__law_take C__law_steps C_best_widths C__law_best C__law_are_columns C_narrowest C__law_lines C_row_lines C_sheet_lines C_line_steps)
theorem cal_law {P : Program} {w : World} {K : PySem.W.Frag} {mg : Str → Option Value} {base : Heap} {f : Addr} {fd : FuncData} (B : Blt mg) (C__law_bag : CalD P w K mg base "_law_bag" 1 (spL K pf__law_bag)) (C__law_row_lines : CalD P w K mg base "_law_row_lines" 2 (spP K pf__law_row_lines)) (C_laid : CalD P w K mg base "laid" 2 (spP K pf_laid)) (C__law_alike : CalD P w K mg base "_law_alike" 1 (spP K pf__law_alike)) (C__law_sheet : CalD P w K mg base "_law_sheet" 3 (spB K pf__law_sheet)) (C__law_take : CalD P w K mg base "_law_take" 1 (spB K pf__law_take)) (C__law_steps : CalD P w K mg base "_law_steps" 2 (spP K pf__law_steps)) (C_best_widths : CalD P w K mg base "best_widths" 6 (spP K pf_best_widths)) (C__law_best : CalD P w K mg base "_law_best" 3 (spP K pf__law_best)) (C__law_are_columns : CalD P w K mg base "_law_are_columns" 7 (spB K pf__law_are_columns)) (C_narrowest : CalD P w K mg base "narrowest" 2 (spP K pf_narrowest)) (C__law_lines : CalD P w K mg base "_law_lines" 1 (spP K pf__law_lines)) (C_row_lines : CalD P w K mg base "row_lines" 4 (spP K pf_row_lines)) (C_sheet_lines : CalD P w K mg base "sheet_lines" 5 (spP K pf_sheet_lines)) (C_line_steps : CalD P w K mg base "line_steps" 5 (spP K pf_line_steps)) (F : FnP K "law" st_law f fd) (hm : mg "law" = some (.ref f)) : CalD P w K mg base "law" 8 (spP K pf_law) :=
  ⟨f, fd, ["script"], ok_law B C__law_bag C__law_row_lines C_laid C__law_alike C__law_sheet C__law_take C__law_steps C_best_widths C__law_best C__law_are_columns C_narrowest C__law_lines C_row_lines C_sheet_lines C_line_steps F, hm, F.kp, F.bindsN fun _ _ _ _ _ _ us hl => match us, hl with | [_], _ => rfl⟩
end Law

namespace Law
open PySem L2 Evl Pd
noncomputable def c__law_bag_1 : M PyData := (fLc [1] (mI gSeq (mSl gSl (fV 0) mNoPart (mPart (mret (.int 63))))) (tgName 1) fYes (mA gAbs (fCons (fV 1) fNil)))
theorem mm__law_bag : m__law_bag = (fRetF (mLst (fCons (mret (.int 0)) (fCons (mret (.int 1234567891)) (fCons (mret (.int 0)) (fCons c__law_bag_1 fNil)))))) := rfl
noncomputable def b__law_lines_1 : M Fl := (fSeq (mIte (mT gB (m2 (gCmp fGt) (m2 gAdd (fV 4) (mret (.int 1))) (fV 3))) (fPar 2 3 false false (m2 gAdd (fV 2) (mret (.int 1))) (m2 gAdd (fV 1) (mret (.int 1)))) fNx) (fAug 3 (fun i j => i - j) (m2 gAdd (fV 4) (mret (.int 1)))))
noncomputable def c__law_lines_1 : M Fl := (fFor (mI gSeq (fV 0)) (tgName 4) b__law_lines_1)
theorem mm__law_lines : m__law_lines = (fSeq (mIte (mAnd (mT gB (m2 gNe (fV 0) (mTup fNil))) (mT gB (m2 (gCmp fGt) (m1 gMax1 (fV 0)) (fV 1)))) (fRet (mret .none)) fNx) (fSeq (fAsg (mTup (fCons (mret (.int 0)) (fCons (m1 gNeg (mret (.int 1))) fNil))) (tgTup 2 (tgCons (tgName 2) (tgCons (tgName 3) tgNil)))) (fSeq c__law_lines_1 (fRet (mA gMax2 (fCons (mret (.int 1)) (fCons (fV 2) fNil))))))) := rfl
noncomputable def c__law_row_lines_2 : M PyData := (fLc [5, 6] (mI gSeq (mLZip (fCons (fV 3) (fCons (fV 1) fNil)))) (tgTup 2 (tgCons (tgName 5) (tgCons (tgName 6) tgNil))) fYes (mA pf__law_lines (fCons (fV 5) (fCons (fV 6) fNil))))
noncomputable def b__law_row_lines_1 : M Fl := (fSeq (fSet 4 c__law_row_lines_2) (fSeq (mIte (mT gB (m2 gIn (mret .none) (fV 4))) (fRet (mret .none)) fNx) (fDrop (mCallB 2 gAppend (fCons (m1 gMax1 (fV 4)) fNil)))))
noncomputable def c__law_row_lines_1 : M Fl := (fFor (mI gSeq (fV 0)) (tgName 3) b__law_row_lines_1)
theorem mm__law_row_lines : m__law_row_lines = (fSeq (fSetL 2 (mLst fNil)) (fSeq c__law_row_lines_1 (fRet (m1 gTuple (fR 2))))) := rfl
noncomputable def c_cells_in_1 : M PyData := (fLc [2] (mI gSeq (fV 1)) (tgName 2) fYes (m2 gIx (fV 0) (fV 2)))
theorem mm_cells_in : m_cells_in = (fRet (m2 gAdd (m1 gSum c_cells_in_1) (mA gMax2 (fCons (mret (.int 0)) (fCons (m2 gSub (m1 gLen (fV 1)) (mret (.int 1))) fNil))))) := rfl
noncomputable def b_laid_1 : M Fl := (fSeq (mIte (mT gB (m2 (gCmp fGt) (fV 4) (fV 1))) (fRet (mret .none)) fNx) (mIte (mAnd (mT gB (m2o 2 gNe (mLst fNil))) (mT gB (m2 (gCmp fLe) (mA pf_cells_in (fCons (fV 0) (fCons (mTup (fStar (m2o 2 gIx (m1 gNeg (mret (.int 1)))) (fCons (fV 3) fNil))) fNil))) (fV 1)))) (fSetIt 2 (m1 gNeg (mret (.int 1))) (mTup (fStar (m2o 2 gIx (m1 gNeg (mret (.int 1)))) (fCons (fV 3) fNil)))) (fDrop (mCallB 2 gAppend (fCons (mTup (fCons (fV 3) fNil)) fNil)))))
noncomputable def c_laid_1 : M Fl := (fFor (mIA gEnum (fCons (fV 0) fNil)) (tgTup 2 (tgCons (tgName 3) (tgCons (tgName 4) tgNil))) b_laid_1)
theorem mm_laid : m_laid = (fSeq (fSetL 2 (mLst fNil)) (fSeq c_laid_1 (fRet (m1 gTuple (fR 2))))) := rfl
noncomputable def b__law_alike_1 : M Fl := (fSeq (fAsg (m2o 2 gIx (fV 3)) (tgTup 2 (tgCons (tgName 4) (tgCons (tgName 5) tgNil)))) (fSeq (fAug 3 (fun i j => i + j) (mret (.int 1))) (mIte (mT gTru (mIsi2 [.tup, .lst] (fV 5))) (fSeq (mIte (mOr (mT gB (m2 gNe (mIsi .tup (fV 4)) (mIsi .tup (fV 5)))) (mT gB (m2 gNe (mIsi .lst (fV 4)) (mIsi .lst (fV 5))))) (fRet (mret (.bool false))) fNx) (fSeq (mIte (mT gB (m2 gNe (m1 gLen (fV 4)) (m1 gLen (fV 5)))) (fRet (mret (.bool false))) fNx) (fDrop (mCallB 2 gExtend (fCons (mLZip (fCons (fV 4) (fCons (fV 5) fNil))) fNil))))) (mIte (mT gB (m2 gIsN (fV 5) (mret .none))) (mIte (mT gB (m2 gNotN (fV 4) (mret .none))) (fRet (mret (.bool false))) fNx) (mIte (mOr (mT gB (m2 gNe (mIsi .bl (fV 4)) (mIsi .bl (fV 5)))) (mT gB (m2 gNe (mIsi .int (fV 4)) (mIsi .int (fV 5))))) (fRet (mret (.bool false))) (mIte (mOr (mT gB (m2 gNe (mIsi .str (fV 4)) (mIsi .str (fV 5)))) (mT gB (m2 gNe (fV 4) (fV 5)))) (fRet (mret (.bool false))) fNx))))))
noncomputable def c__law_alike_1 : M Fl := (fWhile (mT gB (m2 (gCmp fLt) (fV 3) (m1 gLen (fR 2)))) b__law_alike_1)
theorem mm__law_alike : m__law_alike = (fSeq (fPar 2 3 true false (mLst (fCons (mTup (fCons (fV 0) (fCons (fV 1) fNil))) fNil)) (mret (.int 0))) (fSeq c__law_alike_1 (fRet (mret (.bool true))))) := rfl
theorem mm__law_take : m__law_take = (fSeq (mIte (mT gB (m2 gEq (m2o 0 gIx (mret (.int 0))) (mret (.int 0)))) (fSeq (fSet 2 (m2 gIx (m2 gAdd (mSl gSl (m2o 0 gIx (mret (.int 3))) (mPart (m2o 0 gIx (mret (.int 2)))) mNoPart) (mLst (fCons (mret (.int 0)) fNil))) (mret (.int 0)))) (fSeq (fAugIt 0 (fun i j => i + j) (mret (.int 2)) (mret (.int 1))) (fSeq (mIte (mT gB (m2 (gCmp fGe) (fV 2) (m2 gPow (mret (.int 10)) (mret (.int 18))))) (fSetIt 0 (mret (.int 0)) (fV 2)) fNx) (fSeq (fSet 3 (m2 gAdd (m2 gAdd (m2 gMul (m2o 0 gIx (mret (.int 1))) (mret (.int 48271))) (m2 gMod (mA gInt1 (fCons (fV 2) fNil)) (mret (.int 2147483647)))) (m2 gMul (mret (.int 7919)) (m2o 0 gIx (mret (.int 2)))))) (fSetIt 0 (mret (.int 1)) (m2 gMod (mA gInt1 (fCons (fV 3) fNil)) (mret (.int 2147483647)))))))) fNx) (fSeq (mIte (mT gB (m2 (gCmp fGt) (m2o 0 gIx (mret (.int 0))) (mret (.int 0)))) (fSeq (fSet 4 (m2 gMod (mA gInt1 (fCons (m2o 0 gIx (mret (.int 0))) fNil)) (fV 1))) (fSeq (fSetIt 0 (mret (.int 0)) (m2 gFdiv (mA gInt1 (fCons (m2o 0 gIx (mret (.int 0))) fNil)) (fV 1))) (fRet (fV 4)))) fNx) (fSeq (fSet 5 (m2 gMod (mA gInt1 (fCons (m2 gMul (m2 gAdd (m2o 0 gIx (mret (.int 1))) (mret (.int 1))) (mret (.int 39373))) fNil)) (mret (.int 1000000007)))) (fSeq (fSet 6 (m2 gMod (mA gInt1 (fCons (m2 gMul (m2 gMod (mA gInt1 (fCons (m2 gMul (fV 5) (fV 5)) fNil)) (mret (.int 998244353))) (mret (.int 30011))) fNil)) (mret (.int 998244353)))) (fRet (m2 gMod (mA gInt1 (fCons (m2 gFdiv (fV 6) (mret (.int 7))) fNil)) (fV 1))))))) := rfl
theorem mm__law_some : m__law_some = (fRet (m2 gIx (fV 1) (mCallB 0 pf__law_take (fCons (m1 gLen (fV 1)) fNil)))) := rfl
noncomputable def c__law_sheet_3 : M PyData := (fLc [7] (mIA gRng1 (fCons (mCallB 0 pf__law_some (fCons (mLst (fCons (mret (.int 0)) (fCons (mret (.int 1)) (fCons (mret (.int 2)) (fCons (mret (.int 3)) (fCons (mret (.int 6)) fNil)))))) fNil)) fNil)) (tgName 7) fYes (m2 gAdd (mret (.int 1)) (mCallB 0 pf__law_take (fCons (fV 2) fNil))))
noncomputable def b__law_sheet_2 : M Fl := (fDrop (mCallB 5 gAppend (fCons (m1 gTuple c__law_sheet_3) fNil)))
noncomputable def c__law_sheet_2 : M Fl := (fFor (mIA gRng1 (fCons (fV 1) fNil)) (tgName 6) b__law_sheet_2)
noncomputable def b__law_sheet_1 : M Fl := (fSeq (fSetL 5 (mLst fNil)) (fSeq c__law_sheet_2 (fDrop (mCallB 3 gAppend (fCons (m1 gTuple (fR 5)) fNil)))))
noncomputable def c__law_sheet_1 : M Fl := (fFor (mIA gRng1 (fCons (m2 gAdd (mret (.int 1)) (mCallB 0 pf__law_take (fCons (mret (.int 20)) fNil))) fNil)) (tgName 4) b__law_sheet_1)
theorem mm__law_sheet : m__law_sheet = (fSeq (fAsg (mTup (fCons (m2 gAdd (mret (.int 1)) (mCallB 0 pf__law_take (fCons (mret (.int 3)) fNil))) (fCons (mCallB 0 pf__law_some (fCons (mLst (fCons (mret (.int 2)) (fCons (mret (.int 5)) (fCons (mret (.int 12)) fNil)))) fNil)) fNil))) (tgTup 2 (tgCons (tgName 1) (tgCons (tgName 2) tgNil)))) (fSeq (fSetL 3 (mLst fNil)) (fSeq c__law_sheet_1 (fSeq (mIte (mT gB (m2 gEq (mCallB 0 pf__law_take (fCons (mret (.int 6)) fNil)) (mret (.int 0)))) (fSetIt 3 (mret (.int 0)) (m2 gAdd (mTup (fCons (mTup (fCons (mret (.int 60)) (fCons (mret (.int 60)) (fCons (mret (.int 99)) fNil)))) fNil)) (mSl gSl (m2o 3 gIx (mret (.int 0))) (mPart (mret (.int 1))) mNoPart))) fNx) (fRet (m1 gTuple (fR 3))))))) := rfl
noncomputable def c__law_steps_1 : M PyData := (fLc [9] (mI gSeq (fV 0)) (tgName 9) fYes (m2 gIx (fV 9) (fV 1)))
noncomputable def c__law_steps_2 : M PyData := (fLc [10] (mI gSeq (fV 2)) (tgName 10) (mT gB (m2 gNe (fV 10) (mTup fNil))) (m1 gMax1 (fV 10)))
noncomputable def c__law_steps_3 : M PyData := (fLc [10] (mI gSeq (fV 2)) (tgName 10) (mT gB (m2 gNe (fV 10) (mTup fNil))) (m2 gSub (m2 gAdd (m1 gSum (fV 10)) (m1 gLen (fV 10))) (mret (.int 1))))
noncomputable def c__law_steps_5 : M PyData := (fLc [10] (mI gSeq (fV 2)) (tgName 10) fYes (mA pf__law_lines (fCons (fV 10) (fCons (fV 7) fNil))))
noncomputable def b__law_steps_4 : M Fl := (fSeq (fSet 8 c__law_steps_5) (fSeq (fSet 5 (m2 gAdd (fV 5) (m2 gMul (mLst (fCons (fV 7) fNil)) (mA gInt1 (fCons (m2 gNe (fV 8) (fV 6)) fNil))))) (fSet 6 (fV 8))))
noncomputable def c__law_steps_4 : M Fl := (fFor (mIA gRng2 (fCons (fV 3) (fCons (m2 gAdd (fV 4) (mret (.int 1))) fNil))) (tgName 7) b__law_steps_4)
theorem mm__law_steps : m__law_steps = (fSeq (fSet 2 c__law_steps_1) (fSeq (fSet 3 (m1 gMax1 (m2 gAdd (mLst (fCons (mret (.int 1)) fNil)) c__law_steps_2))) (fSeq (fSet 4 (m1 gMax1 (m2 gAdd (mLst (fCons (mret (.int 1)) fNil)) c__law_steps_3))) (fSeq (fPar 5 6 false false (mLst fNil) (mret .none)) (fSeq c__law_steps_4 (fRet (fV 5))))))) := rfl
noncomputable def c_begun_2 : M PyData := (fLc [7] (mI gSeq (mSl gSl (fV 0) (mPart (m2 gAdd (fV 3) (mret (.int 1)))) mNoPart)) (tgName 7) fYes (m1 gMin1 (fV 7)))
noncomputable def c_begun_3 : M PyData := (fLc2 [5, 6] [6] (mI gSeq (fV 2)) (tgName 5) fYes (mI gSeq (m2 gIx (fV 0) (fV 3))) (tgName 6) (mT gB (m2 (gCmp fLe) (m2 gAdd (m2 gAdd (m1 gSum (fV 5)) (fV 6)) (fV 4)) (fV 1))) (mTup (fStar (fV 5) (fCons (fV 6) fNil))))
noncomputable def b_begun_1 : M Fl := (fSeq (fSet 4 (m1 gSum c_begun_2)) (fSet 2 c_begun_3))
noncomputable def c_begun_1 : M Fl := (fFor (mIA gRng1 (fCons (m2 gSub (m1 gLen (fV 0)) (mret (.int 1))) fNil)) (tgName 3) b_begun_1)
theorem mm_begun : m_begun = (fSeq (fSet 2 (mLst (fCons (mTup fNil) fNil))) (fSeq c_begun_1 (fRet (fV 2)))) := rfl
theorem mm_text_lines : m_text_lines = (fSeq (fSet 2 (mA pf_laid (fCons (fV 0) (fCons (fV 1) fNil)))) (fRet (mIte (mT gB (m2 gIsN (fV 2) (mret .none))) (mret .none) (mA gMax2 (fCons (mret (.int 1)) (fCons (m1 gLen (fV 2)) fNil)))))) := rfl
noncomputable def c_texts_of_1 : M PyData := (fLc [2] (mI gSeq (fV 0)) (tgName 2) fYes (m2 gIx (fV 2) (fV 1)))
theorem mm_texts_of : m_texts_of = (fRet c_texts_of_1) := rfl
noncomputable def c_lines_at_1 : M PyData := (fLc [3] (mI gSeq (mA pf_texts_of (fCons (fV 0) (fCons (fV 1) fNil)))) (tgName 3) fYes (mA pf_text_lines (fCons (fV 3) (fCons (fV 2) fNil))))
theorem mm_lines_at : m_lines_at = (fRet c_lines_at_1) := rfl
noncomputable def c_heights_by_1 : M PyData := (fDc [3] (mI gSeq (fV 2)) (tgName 3) fYes (fV 3) (mA pf_lines_at (fCons (fV 0) (fCons (fV 1) (fCons (fV 3) fNil)))))
theorem mm_heights_by : m_heights_by = (fRet c_heights_by_1) := rfl
noncomputable def c_all_lines_1 : M PyData := (fLc [3, 4] (mIA gEnum (fCons (fV 1) fNil)) (tgTup 2 (tgCons (tgName 3) (tgCons (tgName 4) tgNil))) fYes (m2 gIx (m2 gIx (fV 0) (fV 3)) (fV 4)))
noncomputable def c_all_lines_2 : M PyData := (fLc [5] (mI gZipS (fV 2)) (tgName 5) fYes (m1 gMax1 (fV 5)))
theorem mm_all_lines : m_all_lines = (fSeq (fSet 2 c_all_lines_1) (fRet (m1 gSum c_all_lines_2))) := rfl
noncomputable def c_narrowest_2 : M PyData := (fLc2 [3, 4] [4] (mI gSeq (mA pf_texts_of (fCons (fV 0) (fCons (fV 2) fNil)))) (tgName 3) fYes (mI gSeq (fV 3)) (tgName 4) fYes (fV 4))
noncomputable def b_narrowest_1 : M Fl := (fDrop (mCallB 1 gAppend (fCons (m1 gMax1 (mLst (fCons (mret (.int 1)) (fStar c_narrowest_2 fNil)))) fNil)))
noncomputable def c_narrowest_1 : M Fl := (fFor (mIA gRng1 (fCons (m1 gLen (m2 gIx (fV 0) (mret (.int 0)))) fNil)) (tgName 2) b_narrowest_1)
theorem mm_narrowest : m_narrowest = (fSeq (fSetL 1 (mLst fNil)) (fSeq c_narrowest_1 (fRet (m1 gTuple (fR 1))))) := rfl
noncomputable def c_widest_text_1 : M PyData := (fLc [2] (mI gSeq (mA pf_texts_of (fCons (fV 0) (fCons (fV 1) fNil)))) (tgName 2) fYes (m2 gSub (m2 gAdd (m1 gSum (fV 2)) (m1 gLen (fV 2))) (mret (.int 1))))
theorem mm_widest_text : m_widest_text = (fRet (m1 gMax1 (mLst (fCons (mret (.int 1)) (fStar c_widest_text_1 fNil))))) := rfl
noncomputable def b_line_steps_1 : M Fl := (mIte (mT gB (m2 gNe (mA pf_lines_at (fCons (fV 0) (fCons (fV 1) (fCons (fV 3) fNil)))) (mA pf_lines_at (fCons (fV 0) (fCons (fV 1) (fCons (m2 gSub (fV 3) (mret (.int 1))) fNil)))))) (fDrop (mCallB 2 gAppend (fCons (fV 3) fNil))) fNx)
noncomputable def c_line_steps_1 : M Fl := (fFor (mIA gRng2 (fCons (m2 gAdd (m2o 2 gIx (mret (.int 0))) (mret (.int 1))) (fCons (m2 gAdd (mA pf_widest_text (fCons (fV 0) (fCons (fV 1) fNil))) (mret (.int 1))) fNil))) (tgName 3) b_line_steps_1)
theorem mm_line_steps : m_line_steps = (fSeq (fSetL 2 (mLst (fCons (m2 gIx (mA pf_narrowest (fCons (fV 0) fNil)) (fV 1)) fNil))) (fSeq c_line_steps_1 (fRet (m1 gTuple (fR 2))))) := rfl
noncomputable def c_best_widths_2 : M PyData := (fLc [12] (mI gSeq (mA pf_line_steps (fCons (fV 0) (fCons (fV 11) fNil)))) (tgName 12) (mT gB (m2 (gCmp fLe) (fV 12) (fV 4))) (fV 12))
noncomputable def c_best_widths_1 : M PyData := (fLc [11] (mIA gRng1 (fCons (fV 3) fNil)) (tgName 11) fYes c_best_widths_2)
noncomputable def c_best_widths_3 : M PyData := (fLc [11] (mIA gRng1 (fCons (fV 3) fNil)) (tgName 11) fYes (mA pf_heights_by (fCons (fV 0) (fCons (fV 11) (fCons (m2 gIx (fV 5) (fV 11)) fNil)))))
noncomputable def c_best_widths_5 : M PyData := (fLc [12] (mI gSeq (m2 gIx (fV 5) (m1 gNeg (mret (.int 1))))) (tgName 12) (mT gB (m2 (gCmp fLe) (m2 gAdd (m1 gSum (fV 8)) (fV 12)) (fV 4))) (fV 12))
noncomputable def c_best_widths_6 : M PyData := (fLc [12] (mI gSeq (fV 9)) (tgName 12) (mT gB (m2 gEq (mA pf_all_lines (fCons (fV 6) (fCons (mTup (fStar (fV 8) (fCons (fV 12) fNil))) fNil))) (fV 10))) (fV 12))
noncomputable def b_best_widths_4 : M Fl := (fSeq (fSet 9 c_best_widths_5) (fSeq (fSet 10 (mA pf_all_lines (fCons (fV 6) (fCons (mTup (fStar (fV 8) (fCons (m2 gIx (fV 9) (m1 gNeg (mret (.int 1)))) fNil))) fNil)))) (mIte (mOr (mT gB (m2 gIsN (fV 7) (mret .none))) (mT gB (m2 (gCmp fLt) (fV 10) (m2 gIx (fV 7) (mret (.int 0)))))) (fSet 7 (mTup (fCons (fV 10) (fCons (mTup (fStar (fV 8) (fCons (m2 gIx c_best_widths_6 (mret (.int 0))) fNil))) fNil)))) fNx)))
noncomputable def c_best_widths_4 : M Fl := (fFor (mI gSeq (mA pf_begun (fCons (fV 5) (fCons (fV 4) fNil)))) (tgName 8) b_best_widths_4)
theorem mm_best_widths : m_best_widths = (fSeq (fSet 3 (m1 gLen (m2 gIx (fV 0) (mret (.int 0))))) (fSeq (fSet 4 (m2 gSub (fV 1) (m2 gMul (fV 2) (m2 gSub (fV 3) (mret (.int 1)))))) (fSeq (mIte (mT gB (m2 (gCmp fGt) (m1 gSum (mA pf_narrowest (fCons (fV 0) fNil))) (fV 4))) (fRet (mret .none)) fNx) (fSeq (fSet 5 c_best_widths_1) (fSeq (fSet 6 c_best_widths_3) (fSeq (fSet 7 (mret .none)) (fSeq c_best_widths_4 (fRet (fV 7))))))))) := rfl
noncomputable def c__law_best_3 : M PyData := (fLc [8] (mI gSeq (fV 4)) (tgName 8) (mT gB (m2 (gCmp fLe) (m2 gAdd (m1 gSum (fV 6)) (fV 8)) (fV 2))) (m2 gAdd (fV 6) (mTup (fCons (fV 8) fNil))))
noncomputable def b__law_best_2 : M Fl := (fDrop (mCallB 5 gExtend (fCons c__law_best_3 fNil)))
noncomputable def c__law_best_2 : M Fl := (fFor (mI gSeq (fV 3)) (tgName 6) b__law_best_2)
noncomputable def b__law_best_1 : M Fl := (fSeq (fSetL 5 (mLst fNil)) (fSeq c__law_best_2 (fSet 3 (fO 5))))
noncomputable def c__law_best_1 : M Fl := (fFor (mI gSeq (fV 1)) (tgName 4) b__law_best_1)
noncomputable def c__law_best_4 : M PyData := (fLc [4] (mI gSeq (fV 3)) (tgName 4) fYes (mTup (fCons (m1 gSum (mA pf__law_row_lines (fCons (fV 0) (fCons (fV 4) fNil)))) (fCons (fV 4) fNil))))
theorem mm__law_best : m__law_best = (fSeq (fSet 3 (mLst (fCons (mTup fNil) fNil))) (fSeq c__law_best_1 (fSeq (fSet 7 c__law_best_4) (fRet (mIte (mT gB (m2 gNe (fV 7) (mLst fNil))) (m1 gMin1 (fV 7)) (mret .none)))))) := rfl
noncomputable def b__law_wide_1 : M Fl := (fPar 3 4 false false (m2 gAdd (fV 3) (m1 gMax1 (mSl gSl (fV 0) (mPart (fV 5)) (mPart (m2 gAdd (fV 5) (fV 1)))))) (m2 gAdd (fV 4) (mret (.int 1))))
noncomputable def c__law_wide_1 : M Fl := (fFor (mIA gRng3 (fCons (mret (.int 0)) (fCons (m1 gLen (fV 0)) (fCons (fV 1) fNil)))) (tgName 5) b__law_wide_1)
theorem mm__law_wide : m__law_wide = (fSeq (fAsg (mTup (fCons (mret (.int 0)) (fCons (mret (.int 0)) fNil))) (tgTup 2 (tgCons (tgName 3) (tgCons (tgName 4) tgNil)))) (fSeq c__law_wide_1 (fRet (m2 gAdd (fV 3) (m2 gMul (fV 2) (m2 gSub (fV 4) (mret (.int 1)))))))) := rfl
noncomputable def c_cut_1 : M PyData := (fLc [2] (mIA gRng3 (fCons (mret (.int 0)) (fCons (m1 gLen (fV 0)) (fCons (fV 1) fNil)))) (tgName 2) fYes (m1 gTuple (mSl gSl (fV 0) (mPart (fV 2)) (mPart (m2 gAdd (fV 2) (fV 1))))))
theorem mm_cut : m_cut = (fRet (m1 gTuple c_cut_1)) := rfl
noncomputable def c_widths_1 : M PyData := (fLc [2] (mI gSeq (mA pf_cut (fCons (fV 0) (fCons (fV 1) fNil)))) (tgName 2) fYes (m1 gMax1 (fV 2)))
theorem mm_widths : m_widths = (fRet (m1 gTuple c_widths_1)) := rfl
theorem mm_width : m_width = (fSeq (fSet 3 (mA pf_widths (fCons (fV 0) (fCons (fV 1) fNil)))) (fRet (m2 gAdd (m1 gSum (fV 3)) (m2 gMul (fV 2) (m2 gSub (m1 gLen (fV 3)) (mret (.int 1))))))) := rfl
noncomputable def c__law_first_within_1 : M PyData := (fLc [4] (mIA gRng2 (fCons (mret (.int 1)) (fCons (m2 gAdd (m1 gLen (fV 0)) (mret (.int 1))) fNil))) (tgName 4) (mT gB (m2 (gCmp fLe) (mA pf__law_wide (fCons (fV 0) (fCons (fV 4) (fCons (fV 2) fNil)))) (fV 1))) (fV 4))
theorem mm__law_first_within : m__law_first_within = (fSeq (fSet 3 c__law_first_within_1) (fRet (mIte (mT gB (m2 gNe (fV 3) (mLst fNil))) (m2 gIx (fV 3) (mret (.int 0))) (mret .none)))) := rfl
noncomputable def c_first_within_1 : M PyData := (fLc [4] (mIA gRng2 (fCons (mret (.int 1)) (fCons (m2 gAdd (m1 gLen (fV 0)) (mret (.int 1))) fNil))) (tgName 4) (mT gB (m2 (gCmp fLe) (mA pf_width (fCons (fV 0) (fCons (fV 4) (fCons (fV 2) fNil)))) (fV 1))) (fV 4))
theorem mm_first_within : m_first_within = (fSeq (fSet 3 c_first_within_1) (fRet (mIte (mT gB (m2 gNe (fV 3) (mLst fNil))) (m2 gIx (fV 3) (mret (.int 0))) (mret .none)))) := rfl
theorem mm_fewest_lines : m_fewest_lines = (fRet (mA pf_first_within (fCons (fV 0) (fCons (fV 1) (fCons (fV 2) fNil))))) := rfl
noncomputable def c_best_order_2 : M PyData := (fLc [2, 3] (mIA gEnum (fCons (fV 0) fNil)) (tgTup 2 (tgCons (tgName 2) (tgCons (tgName 3) tgNil))) fYes (mTup (fCons (m2 gSub (mret (.int 0)) (fV 3)) (fCons (fV 2) fNil))))
noncomputable def c_best_order_1 : M PyData := (fLc [1, 2] (mI gSeq (m1 gSorted c_best_order_2)) (tgTup 2 (tgCons (tgName 1) (tgCons (tgName 2) tgNil))) fYes (fV 2))
theorem mm_best_order : m_best_order = (fRet (m1 gTuple c_best_order_1)) := rfl
noncomputable def c_in_order_1 : M PyData := (fLc [1] (mI gSeq (mA pf_best_order (fCons (fV 0) fNil))) (tgName 1) fYes (m2 gIx (fV 0) (fV 1)))
theorem mm_in_order : m_in_order = (fRet (m1 gTuple c_in_order_1)) := rfl
theorem mm_fewest_by_order : m_fewest_by_order = (fRet (mA pf_first_within (fCons (mA pf_in_order (fCons (fV 0) fNil)) (fCons (fV 1) (fCons (fV 2) fNil))))) := rfl
theorem mm_gain_of_order : m_gain_of_order = (fSeq (fPar 3 4 false false (mA pf_fewest_lines (fCons (fV 0) (fCons (fV 1) (fCons (fV 2) fNil)))) (mA pf_fewest_by_order (fCons (fV 0) (fCons (fV 1) (fCons (fV 2) fNil))))) (fRet (mIte (mOr (mT gB (m2 gIsN (fV 3) (mret .none))) (mT gB (m2 gIsN (fV 4) (mret .none)))) (mret .none) (m2 gSub (fV 3) (fV 4))))) := rfl
noncomputable def b__law_mixed_1 : M Fl := (fDrop (mCallB 3 gAppend (fCons (mCallB 2 gPopAt (fCons (mCallB 0 pf__law_take (fCons (m1 gLen (fR 2)) fNil)) fNil)) fNil)))
noncomputable def c__law_mixed_1 : M Fl := (fWhile (mT gB (m2o 2 gNe (mLst fNil))) b__law_mixed_1)
theorem mm__law_mixed : m__law_mixed = (fSeq (fPar 2 3 true true (m1 gList (fV 1)) (mLst fNil)) (fSeq c__law_mixed_1 (fRet (fO 3)))) := rfl
theorem mm_columns : m_columns = (fRet (mA pf_cut (fCons (mLstRg (mRg1 (m1 gLen (fV 0)))) (fCons (fV 1) fNil)))) := rfl
noncomputable def c_page_rows_2 : M PyData := (fLc [4] (mI gSeq (fV 2)) (tgName 4) (mT gB (m2 (gCmp fLt) (fV 3) (m1 gLen (fV 4)))) (m2 gIx (fV 4) (fV 3)))
noncomputable def c_page_rows_1 : M PyData := (fLc [3] (mIA gRng1 (fCons (m1 gLen (m2 gIx (fV 2) (mret (.int 0)))) fNil)) (tgName 3) fYes (m1 gTuple c_page_rows_2))
theorem mm_page_rows : m_page_rows = (fSeq (fSet 2 (mA pf_columns (fCons (fV 0) (fCons (fV 1) fNil)))) (fRet (m1 gTuple c_page_rows_1))) := rfl
theorem mm_least_width : m_least_width = (fRet (mA pf_width (fCons (mA pf_in_order (fCons (fV 0) fNil)) (fCons (fV 1) (fCons (fV 2) fNil))))) := rfl
noncomputable def c__law_are_columns_1 : M PyData := (fLc [18] (mIA gRng1 (fCons (fV 1) fNil)) (tgName 18) fYes (m2 gAdd (mret (.int 1)) (mCallB 0 pf__law_take (fCons (fV 2) fNil))))
noncomputable def c__law_are_columns_2 : M PyData := (fLc [19] (mIA gRng3 (fCons (mret (.int 0)) (fCons (fV 1) (fCons (fV 5) fNil)))) (tgName 19) fYes (mTupRg (mRg2 (fV 19) (mA gMin2 (fCons (fV 1) (fCons (m2 gAdd (fV 19) (fV 5)) fNil))))))
noncomputable def c__law_are_columns_4 : M PyData := (fLc [21] (mI gSeq (fV 20)) (tgName 21) fYes (m2 gIx (fV 3) (fV 21)))
noncomputable def c__law_are_columns_3 : M PyData := (fLc [20] (mI gSeq (fV 7)) (tgName 20) fYes (m1 gMax1 c__law_are_columns_4))
noncomputable def c__law_are_columns_6 : M PyData := (fLc [20] (mI gSeq (fV 7)) (tgName 20) (mT gB (m2 (gCmp fLt) (fV 22) (m1 gLen (fV 20)))) (m2 gIx (fV 20) (fV 22)))
noncomputable def c__law_are_columns_5 : M PyData := (fLc [22] (mIA gRng1 (fCons (m1 gLen (m2 gIx (fV 7) (mret (.int 0)))) fNil)) (tgName 22) fYes (m1 gTuple c__law_are_columns_6))
noncomputable def c__law_are_columns_8 : M PyData := (fLc [21, 18] (mIA gEnum (fCons (fV 3) fNil)) (tgTup 2 (tgCons (tgName 21) (tgCons (tgName 18) tgNil))) fYes (mTup (fCons (m2 gSub (mret (.int 0)) (fV 18)) (fCons (fV 21) fNil))))
noncomputable def c__law_are_columns_7 : M PyData := (fLc [23] (mI gSeq (m1 gSorted c__law_are_columns_8)) (tgName 23) fYes (m2 gIx (fV 23) (mret (.int 1))))
noncomputable def c__law_are_columns_9 : M PyData := (fLc [21] (mI gSeq (fV 10)) (tgName 21) fYes (m2 gIx (fV 3) (fV 21)))
theorem mm__law_are_columns : m__law_are_columns = (fSeq (fSet 1 (m2 gAdd (mret (.int 1)) (mCallB 0 pf__law_take (fCons (mret (.int 60)) fNil)))) (fSeq (fSet 2 (mCallB 0 pf__law_some (fCons (mLst (fCons (mret (.int 3)) (fCons (mret (.int 20)) (fCons (mret (.int 99)) fNil)))) fNil))) (fSeq (fAsg (mTup (fCons (m1 gTuple c__law_are_columns_1) (fCons (mCallB 0 pf__law_take (fCons (mret (.int 10)) fNil)) fNil))) (tgTup 2 (tgCons (tgName 3) (tgCons (tgName 4) tgNil)))) (fSeq (fAsg (mTup (fCons (m2 gAdd (mret (.int 1)) (mCallB 0 pf__law_take (fCons (mret (.int 60)) fNil))) (fCons (m2 gAdd (mret (.int 1)) (mCallB 0 pf__law_take (fCons (mret (.int 99)) fNil))) fNil))) (tgTup 2 (tgCons (tgName 5) (tgCons (tgName 6) tgNil)))) (fSeq (fSet 7 (m1 gTuple c__law_are_columns_2)) (fSeq (fSet 8 (m1 gTuple c__law_are_columns_3)) (fSeq (fSet 9 (m1 gTuple c__law_are_columns_5)) (fSeq (mIte (mNot (mT gTru (mA pf__law_alike (fCons (mLst (fCons (mA pf_columns (fCons (fV 3) (fCons (fV 5) fNil))) (fCons (mA pf_widths (fCons (fV 3) (fCons (fV 5) fNil))) (fCons (mA pf_page_rows (fCons (fV 3) (fCons (fV 5) fNil))) fNil)))) (fCons (mLst (fCons (fV 7) (fCons (fV 8) (fCons (fV 9) fNil)))) fNil))))) (fRet (mret (.bool false))) fNx) (fSeq (fSet 10 c__law_are_columns_7) (fSeq (fSet 11 c__law_are_columns_9) (fSeq (mIte (mNot (mT gTru (mA pf__law_alike (fCons (mLst (fCons (mA pf_best_order (fCons (fV 3) fNil)) (fCons (mA pf_width (fCons (fV 3) (fCons (fV 5) (fCons (fV 4) fNil)))) fNil))) (fCons (mLst (fCons (m1 gTuple (fV 10)) (fCons (mA pf__law_wide (fCons (fV 3) (fCons (fV 5) (fCons (fV 4) fNil)))) fNil))) fNil))))) (fRet (mret (.bool false))) fNx) (fSeq (fPar 12 13 false false (mA pf__law_wide (fCons (fV 11) (fCons (fV 5) (fCons (fV 4) fNil)))) (m1 gTuple (mCallB 0 pf__law_mixed (fCons (m1 gList (fV 3)) fNil)))) (fSeq (mIte (mNot (mT gTru (mA pf__law_alike (fCons (mLst (fCons (mA pf_least_width (fCons (fV 3) (fCons (fV 5) (fCons (fV 4) fNil)))) (fCons (mA pf_least_width (fCons (fV 13) (fCons (fV 5) (fCons (fV 4) fNil)))) fNil))) (fCons (mLst (fCons (fV 12) (fCons (fV 12) fNil))) fNil))))) (fRet (mret (.bool false))) fNx) (fSeq (mIte (mT gB (m2 (gCmp fLt) (mA pf_width (fCons (fV 13) (fCons (fV 5) (fCons (fV 4) fNil)))) (fV 12))) (fRet (mret (.bool false))) fNx) (fSeq (fPar 14 15 false false (mA pf__law_first_within (fCons (fV 3) (fCons (fV 6) (fCons (fV 4) fNil)))) (mA pf__law_first_within (fCons (fV 11) (fCons (fV 6) (fCons (fV 4) fNil))))) (fSeq (fSet 16 (mLst (fCons (fV 14) (fCons (fV 15) (fCons (mIte (mOr (mT gB (m2 gIsN (fV 14) (mret .none))) (mT gB (m2 gIsN (fV 15) (mret .none)))) (mret .none) (m2 gSub (fV 14) (fV 15))) fNil))))) (fSeq (fSet 17 (mLst (fCons (mA pf_fewest_lines (fCons (fV 3) (fCons (fV 6) (fCons (fV 4) fNil)))) (fCons (mA pf_fewest_by_order (fCons (fV 3) (fCons (fV 6) (fCons (fV 4) fNil)))) (fCons (mA pf_gain_of_order (fCons (fV 3) (fCons (fV 6) (fCons (fV 4) fNil)))) fNil))))) (fRet (fAndV (mA pf__law_alike (fCons (fV 17) (fCons (fV 16) fNil))) (fOrV (m2 gIsN (fV 14) (mret .none)) (fAndV (m2 gNotN (fV 15) (mret .none)) (m2 (gCmp fLe) (fV 15) (fV 14))))))))))))))))))))))) := rfl
noncomputable def c_row_lines_2 : M PyData := (fLc [5, 6] (mIA gZip (fCons (fV 3) (fCons (fV 1) fNil))) (tgTup 2 (tgCons (tgName 5) (tgCons (tgName 6) tgNil))) fYes (mA pf_text_lines (fCons (fV 5) (fCons (fV 6) fNil))))
noncomputable def b_row_lines_1 : M Fl := (fSeq (fSet 4 c_row_lines_2) (fSeq (mIte (mT gB (m2 gIn (mret .none) (fV 4))) (fRet (mret .none)) fNx) (fDrop (mCallB 2 gAppend (fCons (m1 gMax1 (fV 4)) fNil)))))
noncomputable def c_row_lines_1 : M Fl := (fFor (mI gSeq (fV 0)) (tgName 3) b_row_lines_1)
theorem mm_row_lines : m_row_lines = (fSeq (fSetL 2 (mLst fNil)) (fSeq c_row_lines_1 (fRet (m1 gTuple (fR 2))))) := rfl
theorem mm_sheet_lines : m_sheet_lines = (fSeq (fSet 2 (mA pf_row_lines (fCons (fV 0) (fCons (fV 1) fNil)))) (fRet (mIte (mT gB (m2 gIsN (fV 2) (mret .none))) (mret .none) (m1 gSum (fV 2))))) := rfl
noncomputable def c_law_1 : M PyData := (fLc [12] (mIA gRng1 (fCons (fV 5) fNil)) (tgName 12) fYes (m2 gAdd (mret (.int 1)) (mCallB 1 pf__law_take (fCons (mret (.int 99)) fNil))))
noncomputable def c_law_2 : M PyData := (fLc [12] (mIA gRng1 (fCons (fV 5) fNil)) (tgName 12) fYes (mA pf__law_steps (fCons (fV 2) (fCons (fV 12) fNil))))
noncomputable def c_law_3 : M PyData := (fLc [12] (mIA gRng1 (fCons (fV 5) fNil)) (tgName 12) fYes (mA pf_line_steps (fCons (fV 2) (fCons (fV 12) fNil))))
noncomputable def c_law_4 : M PyData := (fLc [13] (mI gSeq (fV 8)) (tgName 13) fYes (m1 gTuple (fV 13)))
noncomputable def c_law_5 : M PyData := (fLc [13] (mI gSeq (fV 8)) (tgName 13) fYes (m2 gIx (fV 13) (mret (.int 0))))
theorem mm_law : m_law = (fSeq (fSetL 1 (mA pf__law_bag (fCons (fV 0) fNil))) (fSeq (mIte (mOr (mNot (mT gTru (mCallB 1 pf__law_are_columns fNil))) (mNot (mT gTru (mCallB 1 pf__law_are_columns fNil)))) (fRet (mret (.bool false))) fNx) (fSeq (fAsg (mTup (fCons (mCallB 1 pf__law_sheet fNil) (fCons (mCallB 1 pf__law_take (fCons (mret (.int 10)) fNil)) (fCons (m2 gAdd (mret (.int 1)) (mCallB 1 pf__law_take (fCons (mret (.int 99)) fNil))) fNil)))) (tgTup 3 (tgCons (tgName 2) (tgCons (tgName 3) (tgCons (tgName 4) tgNil))))) (fSeq (fSet 5 (m1 gLen (m2 gIx (fV 2) (mret (.int 0))))) (fSeq (fSet 6 (m1 gTuple c_law_1)) (fSeq (fSet 7 (mA pf__law_row_lines (fCons (fV 2) (fCons (fV 6) fNil)))) (fSeq (mIte (mNot (mT gTru (mA pf__law_alike (fCons (mLst (fCons (mA pf_row_lines (fCons (fV 2) (fCons (fV 6) fNil))) (fCons (mA pf_sheet_lines (fCons (fV 2) (fCons (fV 6) fNil))) fNil))) (fCons (mLst (fCons (fV 7) (fCons (mIte (mT gB (m2 gIsN (fV 7) (mret .none))) (mret .none) (m1 gSum (fV 7))) fNil))) fNil))))) (fRet (mret (.bool false))) fNx) (fSeq (fSet 8 c_law_2) (fSeq (mIte (mNot (mT gTru (mA pf__law_alike (fCons c_law_3 (fCons c_law_4 fNil))))) (fRet (mret (.bool false))) fNx) (fSeq (mIte (mNot (mT gTru (mA pf__law_alike (fCons (mA pf_narrowest (fCons (fV 2) fNil)) (fCons (m1 gTuple c_law_5) fNil))))) (fRet (mret (.bool false))) fNx) (fSeq (fSet 9 (m2 gIx (m2 gIx (fV 2) (mret (.int 0))) (mret (.int 0)))) (fSeq (fSet 10 (mA pf_laid (fCons (fV 9) (fCons (m2 gIx (fV 6) (mret (.int 0))) fNil)))) (fSeq (mIte (mNot (mT gTru (mA pf__law_alike (fCons (mIte (mT gB (m2 gIsN (fV 10) (mret .none))) (mret .none) (mA gMax2 (fCons (mret (.int 1)) (fCons (m1 gLen (fV 10)) fNil)))) (fCons (mA pf__law_lines (fCons (fV 9) (fCons (m2 gIx (fV 6) (mret (.int 0))) fNil))) fNil))))) (fRet (mret (.bool false))) fNx) (fSeq (fSet 11 (m2 gSub (fV 4) (m2 gMul (fV 3) (m2 gSub (fV 5) (mret (.int 1)))))) (fSeq (mIte (mT gB (m2 (gCmp fGt) (m2 gMul (m2 gMul (m1 gLen (m2 gIx (fV 8) (mret (.int 0)))) (m1 gLen (m2 gIx (fV 8) (m1 gNeg (mret (.int 1)))))) (m1 gLen (m2 gIx (fV 8) (m2 gFdiv (fV 5) (mret (.int 2)))))) (mret (.int 4000)))) (fRet (mret (.bool true))) fNx) (fRet (mA pf__law_alike (fCons (mA pf_best_widths (fCons (fV 2) (fCons (fV 4) (fCons (fV 3) fNil)))) (fCons (mA pf__law_best (fCons (fV 2) (fCons (fV 8) (fCons (fV 11) fNil)))) fNil))))))))))))))))))) := rfl
end Law

namespace Law
open PySem L2 Evl Pd
/-! ### lines of a text -/
/-- one step of the law's own reckoning: lines so far, room left -/
def lnStep (w : Int) (s : Int × Int) (x : Int) : Int × Int := if s.2 < x + 1 then (s.1 + 1, w + 1 - (x + 1)) else (s.1, s.2 - (x + 1))
def lnFold (xs : List Int) (w : Int) : Int := (xs.foldl (lnStep w) (0, -1)).1
/-- lines of a text, None if a word is too long -/
def tlines (xs : List Int) (w : Int) : Option Int := if xs.any (fun x => decide (w < x)) then none else some (max 1 (lnFold xs w))
def OI : Option Int → PyData
  | none => .none
  | some i => .int i
theorem c__law_lines_ev (xs : List Int) (w m r : Int) : ∃ s, c__law_lines_1 [.va (tupI xs), .va (.int w), .va (.int m), .va (.int r), .un] = some (.nx, [.va (tupI xs), .va (.int w), .va (.int (xs.foldl (lnStep w) (m, r)).1), .va (.int (xs.foldl (lnStep w) (m, r)).2), s]) := by
  obtain ⟨e', h1, s, hs, rfl⟩ := forL_fold (g := tgName 4) (fb := b__law_lines_1) PyData.int (fun (p : Int × Int) e => ∃ s, Jk s ∧ e = [.va (tupI xs), .va (.int w), .va (.int p.1), .va (.int p.2), s]) (lnStep w) xs (m, r) [.va (tupI xs), .va (.int w), .va (.int m), .va (.int r), .un] ⟨_, jk_un, rfl⟩
    (by
      rintro ⟨m, r⟩ e x hx ⟨s, hs, rfl⟩
      by_cases h : r < x + 1 <;> rcases hs with rfl | ⟨d, rfl⟩ <;> simp [b__law_lines_1, lnStep, h, jk_va])
  refine ⟨s, ?_⟩
  unfold c__law_lines_1
  simp
  exact h1
theorem any_mx {xs : List Int} (h : xs ≠ []) (w : Int) : xs.any (fun x => decide (w < x)) = decide (w < mxL xs) := by
  rw [Bool.eq_iff_iff, List.any_eq_true, decide_eq_true_eq]
  constructor
  · rintro ⟨x, hx, h1⟩
    have := mxL_le hx
    have h1 : w < x := by simpa using h1
    omega
  · intro h1
    exact ⟨_, mxL_mem h, by simpa using h1⟩
theorem pf__law_lines_ev (xs : List Int) (w : Int) : pf__law_lines [tupI xs, .int w] = some (OI (tlines xs w)) := by
  obtain ⟨s, h⟩ := c__law_lines_ev xs w 0 (-1)
  by_cases hx : xs = []
  · subst hx
    simp [pf__law_lines, pfP, env0, mm__law_lines, h, tlines, OI, lnFold]
  · have he : xs.isEmpty = false := by cases xs with
      | nil => exact absurd rfl hx
      | cons => rfl
    by_cases hw : w < mxL xs
    · simp [pf__law_lines, pfP, env0, mm__law_lines, h, tlines, OI, lnFold, he, gMax1_TT hx, any_mx hx, hw]
    · simp [pf__law_lines, pfP, env0, mm__law_lines, h, tlines, OI, lnFold, he, gMax1_TT hx, any_mx hx, hw]
/-! cells_in -/
def tupN (l : List Nat) : PyData := .tuple (l.map fun i => .int (i : Nat))
@[simp] theorem gSeq_N (l : List Nat) : gSeq (tupN l) = some (l.map fun i => .int (i : Nat)) := rfl
@[simp] theorem gLen_N (l : List Nat) : gLen (tupN l) = some (.int l.length) := by unfold tupN; simp
def lenAt (xs : List Int) (i : Nat) : Int := xs.getD i 0
theorem atI_ints {xs : List Int} {i : Nat} (h : i < xs.length) : atI (xs.map PyData.int) (i : Int) = some (.int (lenAt xs i)) := by
  refine Pd.atI_nat ?_
  rw [List.getElem?_map, List.getElem?_eq_getElem h]
  simp [lenAt, h]
theorem gIx_T {xs : List Int} {i : Nat} (h : i < xs.length) : gIx (tupI xs) (.int (i : Int)) = some (.int (lenAt xs i)) := by
  unfold tupI; rw [gIx_t]; exact atI_ints h
theorem c_cells_in_ev (xs : List Int) (l : List Nat) (hv : ∀ i ∈ l, i < xs.length) (hz : l.length ≤ 16777216) :
    c_cells_in_1 [.va (tupI xs), .va (tupN l), .un] = some (lstI (l.map (lenAt xs)), [.va (tupI xs), .va (tupN l), .un]) := by
  unfold c_cells_in_1
  have := fLc_map (vs := [2]) (fg := tgName 2) (fi := mI gSeq (fV 1)) (fe := m2 gIx (fV 0) (fV 2)) (e := [.va (tupI xs), .va (tupN l), .un]) (e1 := [.va (tupI xs), .va (tupN l), .un]) (e0 := [.va (tupI xs), .va (tupN l), .un]) (xs := l) (enc := fun i : Nat => .int (i : Int)) (by simp)
    (fun e => ∃ s, Jk s ∧ e = [.va (tupI xs), .va (tupN l), s]) (fun i => .int (lenAt xs i)) ⟨_, jk_un, rfl⟩ (by rintro e ⟨s, hs, rfl⟩; simp) hz
    (by
      rintro i e hi ⟨s, hs, rfl⟩
      simp [gIx_T (hv i hi), jk_va])
  rw [this]
  unfold lstI; rw [List.map_map]; rfl
theorem pf_cells_in_ev (xs : List Int) (l : List Nat) (hv : ∀ i ∈ l, i < xs.length) (hz : l.length ≤ 16777216) : pf_cells_in [tupI xs, tupN l] = some (.int ((l.map (lenAt xs)).sum + max 0 ((l.length : Int) - 1))) := by
  simp [pf_cells_in, pfP, env0, mm_cells_in, c_cells_in_ev xs l hv hz]
/-! laid -/
def OKL (xs : List Int) (w : Int) (n : Nat) (found : List (List Nat)) (m r : Int) : Prop := (found.length : Int) = m ∧ found.length ≤ n ∧ (found = [] → r = -1) ∧ (∀ init last, found = init ++ [last] → last ≠ [] ∧ last.length ≤ n ∧ r = w + 1 - (last.map fun i => lenAt xs i + 1).sum ∧ ∀ i ∈ last, i < xs.length)
def laidStep (w : Int) (s : Int × Int) (p : Int × Nat) : Except PyData (Int × Int) := if w < p.1 then .error .none else .ok (lnStep w s p.1)
theorem sum_app1 (f : Nat → Int) (l : List Nat) (i : Nat) : ((l ++ [i]).map f).sum = (l.map f).sum + f i := by simp
theorem sum_plus1 (f : Nat → Int) (l : List Nat) : (l.map fun i => f i + 1).sum = (l.map f).sum + l.length := by
  induction l with
  | nil => rfl
  | cons x r ih => simp only [List.map_cons, List.sum_cons, List.length_cons, ih]; omega
theorem gNe_LN (f : List (List Nat)) : gNe (.list (f.map tupN)) (.list []) = some (.bool (!f.isEmpty)) := by
  rw [gNe_of (j := 2) (nice_lst (k := 1) fun x hx => ?_) nice_l0]
  · rw [eqv_l0]; cases f <;> rfl
  · obtain ⟨l, _, rfl⟩ := List.mem_map.mp hx
    exact nice_tup (k := 0) fun y hy => by obtain ⟨i, _, rfl⟩ := List.mem_map.mp hy; exact nice_int _ _
theorem gNe_l00 : gNe (.list []) (.list []) = some (.bool false) := by rw [gNe_of nice_l0 nice_l0]; rfl
theorem setAt_last (bs : List PyData) (d x : PyData) : setAt (bs ++ [d]) (.int (-1)) x = some (bs ++ [x]) := by
  unfold setAt ixN
  dsimp only
  have e : (((bs ++ [d]).length : Nat) : Int) = bs.length + 1 := by simp
  rw [if_neg (by omega), if_pos (by omega)]
  have : ((-1 : Int) + ((bs ++ [d]).length : Nat)).toNat = bs.length := by omega
  rw [this]; simp
theorem laid_loop (xs : List Int) (w : Int) (hz : xs.length ≤ 16777215) (hp : ∀ x ∈ xs, 0 ≤ x) : ∃ e', match runE (laidStep w) (0, -1) xs.zipIdx with
    | .ok s' => c_laid_1 [.va (tupI xs), .va (.int w), .ow [], .un, .un] = some (.nx, e') ∧ ∃ found s3 s4, e' = [.va (tupI xs), .va (.int w), .ow (found.map tupN), s3, s4] ∧ OKL xs w xs.length found s'.1 s'.2
    | .error d => c_laid_1 [.va (tupI xs), .va (.int w), .ow [], .un, .un] = some (.rt d, e') := by
  obtain ⟨e', h1⟩ := forL_runI (g := tgTup 2 (tgCons (tgName 3) (tgCons (tgName 4) tgNil))) (fb := b_laid_1) (fun p : Int × Nat => .tuple [.int (p.2 : Nat), .int p.1]) (fun n (s : Int × Int) e => ∃ found s3 s4, Jk s3 ∧ Jk s4 ∧ e = [.va (tupI xs), .va (.int w), .ow (found.map tupN), s3, s4] ∧ OKL xs w n found s.1 s.2) (laidStep w) xs.zipIdx 0 (0, -1) [.va (tupI xs), .va (.int w), .ow [], .un, .un]
    ⟨[], .un, .un, jk_un, jk_un, rfl, ⟨rfl, Nat.zero_le _, fun _ => rfl, fun i l e => by simp at e⟩⟩
    (by
      rintro j ⟨m, r⟩ e ⟨x, i⟩ hx ⟨found, s3, s4, h3, h4, rfl, ⟨o1, o2, o3, o4⟩⟩
      rw [List.getElem?_zipIdx] at hx
      obtain ⟨y, hy, hyx⟩ := Option.map_eq_some_iff.mp hx
      have hyx' : y = x ∧ j = i := by simpa using hyx
      obtain ⟨rfl, rfl⟩ := hyx'
      have hj : j < xs.length := (List.getElem?_eq_some_iff.mp hy).1
      have hl : lenAt xs j = y := by unfold lenAt; rw [List.getD_eq_getElem?_getD, hy]; rfl
      have hy0 : 0 ≤ y := hp y (List.mem_of_getElem? hy)
      rw [Nat.zero_add] at o2
      dsimp only at o1 o3 o4
      refine ⟨[.va (tupI xs), .va (.int w), .ow (found.map tupN), .va (.int (j : Int)), .va (.int y)], ?_⟩
      by_cases hw : w < y
      · refine ⟨[.va (tupI xs), .va (.int w), .ow (found.map tupN), .va (.int (j : Int)), .va (.int y)], ?_⟩
        rcases h3 with rfl | ⟨d3, rfl⟩ <;> rcases h4 with rfl | ⟨d4, rfl⟩ <;> simp [laidStep, hw, b_laid_1]
      · by_cases hf : found = []
        · subst hf
          have hr := o3 rfl
          subst hr
          have st : laidStep w (m, -1) (y, j) = .ok (m + 1, w + 1 - (y + 1)) := by
            unfold laidStep lnStep
            rw [if_neg hw, if_pos (by show (-1 : Int) < y + 1; omega)]
          refine ⟨[.va (tupI xs), .va (.int w), .ow [tupN [j]], .va (.int (j : Int)), .va (.int y)], ?_⟩
          rw [st]
          refine ⟨?_, ?_, [[j]], _, _, jk_va _, jk_va _, rfl, by simp at o1 ⊢; omega, by simp, (fun e => by cases e), fun init last e => ?_⟩
          · rcases h3 with rfl | ⟨d3, rfl⟩ <;> rcases h4 with rfl | ⟨d4, rfl⟩ <;> simp
          · simp [hw, b_laid_1, gNe_l00, gAppend, tupN]
          · cases init with
            | nil =>
              simp at e; subst e
              exact ⟨by simp, by simp, by simp [hl], by simpa using hj⟩
            | cons a b => simp at e
        · obtain ⟨init, last, rfl⟩ : ∃ init last, found = init ++ [last] := ⟨found.dropLast, found.getLast hf, (List.dropLast_concat_getLast hf).symm⟩
          obtain ⟨p1, p2, p3, p4⟩ := o4 init last rfl
          have hin : ∀ i ∈ last ++ [j], i < xs.length := fun i hi => by
            rcases List.mem_append.mp hi with hi | hi
            · exact p4 i hi
            · rw [List.mem_singleton.mp hi]; exact hj
          have hcells := pf_cells_in_ev xs (last ++ [j]) hin (by simp; omega)
          have hsum : ((last ++ [j]).map (lenAt xs)).sum + max 0 (((last ++ [j]).length : Int) - 1) = w + 1 - r + y := by
            rw [sum_app1, hl]
            rw [sum_plus1] at p3
            have : ((last ++ [j]).length : Int) = last.length + 1 := by simp
            rw [this]
            omega
          rw [hsum] at hcells
          have e1 : (init ++ [last]).map tupN = init.map tupN ++ [tupN last] := by simp
          have hne : ((init ++ [last]).isEmpty) = false := by simp
          have hgn : gNe (.list (init.map tupN ++ [tupN last])) (.list []) = some (.bool true) := by rw [← e1, gNe_LN, hne]; rfl
          have hapN : PyData.tuple ((last.map fun i => PyData.int (i : Nat)) ++ [.int (j : Int)]) = tupN (last ++ [j]) := by unfold tupN; simp
          by_cases hc : r < y + 1
          · have st : laidStep w (m, r) (y, j) = .ok (m + 1, w + 1 - (y + 1)) := by
              unfold laidStep lnStep
              rw [if_neg hw, if_pos hc]
            refine ⟨[.va (tupI xs), .va (.int w), .ow ((init ++ [last] ++ [[j]]).map tupN), .va (.int (j : Int)), .va (.int y)], ?_⟩
            rw [st]
            refine ⟨?_, ?_, init ++ [last] ++ [[j]], _, _, jk_va _, jk_va _, rfl, by simp at o1 ⊢; omega, by simp at o2 ⊢; omega, (fun e => by simp at e), fun i2 l2 e => ?_⟩
            · rcases h3 with rfl | ⟨d3, rfl⟩ <;> rcases h4 with rfl | ⟨d4, rfl⟩ <;> simp
            · have hg : ¬ (w + 1 - r + y ≤ w) := by omega
              have hlen : init.length + 1 < 16777216 := by simp at o2; omega
              have hlen2 : last.length + 1 ≤ 16777216 := by omega
              rw [e1]
              simp [b_laid_1, hw, hgn, Pd.atI_last, hlen, hlen2, hapN, hcells, hg, gAppend]
              simp [tupN]
            · obtain ⟨_, e3⟩ := List.append_inj' e rfl
              simp at e3; subst e3
              exact ⟨by simp, by simp, by simp [hl], by simpa using hj⟩
          · have st : laidStep w (m, r) (y, j) = .ok (m, r - (y + 1)) := by
              unfold laidStep lnStep
              rw [if_neg hw, if_neg hc]
            refine ⟨[.va (tupI xs), .va (.int w), .ow ((init ++ [last ++ [j]]).map tupN), .va (.int (j : Int)), .va (.int y)], ?_⟩
            rw [st]
            refine ⟨?_, ?_, init ++ [last ++ [j]], _, _, jk_va _, jk_va _, rfl, by simp at o1 ⊢; omega, by simp at o2 ⊢; omega, (fun e => by simp at e), fun i2 l2 e => ?_⟩
            · rcases h3 with rfl | ⟨d3, rfl⟩ <;> rcases h4 with rfl | ⟨d4, rfl⟩ <;> simp
            · have hg : (w + 1 - r + y ≤ w) := by omega
              have hlen2 : last.length + 1 ≤ 16777216 := by omega
              rw [e1]
              simp [b_laid_1, hw, hgn, Pd.atI_last, hlen2, hapN, hcells, hg, setAt_last]
            · obtain ⟨_, e3⟩ := List.append_inj' e rfl
              simp at e3; subst e3
              refine ⟨by simp, by simp; omega, ?_, hin⟩
              rw [sum_app1, p3, hl]; omega)
  cases q : runE (laidStep w) (0, -1) xs.zipIdx with
  | ok s' =>
    rw [q] at h1
    obtain ⟨h1, found, s3, s4, _, _, rfl, h5⟩ := h1
    refine ⟨_, ?_, found, s3, s4, rfl, ?_⟩
    · unfold c_laid_1
      simp
      exact h1
    · rw [List.length_zipIdx, Nat.zero_add] at h5; exact h5
  | error d =>
    rw [q] at h1
    refine ⟨e', ?_⟩
    unfold c_laid_1
    simp
    exact h1
theorem runE_laid (w : Int) (xs : List Int) (n : Nat) (s : Int × Int) : runE (laidStep w) s (xs.zipIdx n) = if xs.any (fun x => decide (w < x)) then .error .none else .ok (xs.foldl (lnStep w) s) := by
  induction xs generalizing n s with
  | nil => rfl
  | cons x r ih =>
    rw [List.zipIdx_cons]
    unfold runE laidStep
    by_cases h : w < x
    · simp [h]
    · simp only [if_neg h]
      rw [show (fun (s : Int × Int) (p : Int × Nat) => if w < p.1 then Except.error PyData.none else Except.ok (lnStep w s p.1)) = laidStep w from rfl, ih]
      simp [h]
theorem pf_laid_ev (xs : List Int) (w : Int) (hz : xs.length ≤ 16777215) (hp : ∀ x ∈ xs, 0 ≤ x) :
    (tlines xs w = none ∧ pf_laid [tupI xs, .int w] = some .none) ∨ ∃ l : List (List Nat), l.length ≤ xs.length ∧ tlines xs w = some (max 1 (l.length : Int)) ∧ pf_laid [tupI xs, .int w] = some (.tuple (l.map tupN)) := by
  obtain ⟨e', h⟩ := laid_loop xs w hz hp
  rw [runE_laid] at h
  by_cases ha : xs.any (fun x => decide (w < x)) = true
  · rw [if_pos ha] at h
    left
    refine ⟨by unfold tlines; rw [if_pos ha], ?_⟩
    simp [pf_laid, pfP, env0, mm_laid, h]
  · rw [if_neg ha] at h
    obtain ⟨h, found, s3, s4, rfl, ok⟩ := h
    right
    refine ⟨found, ok.2.1, ?_, ?_⟩
    · unfold tlines lnFold
      rw [if_neg ha, ok.1]
    · simp [pf_laid, pfP, env0, mm_laid, h]
theorem pf_text_lines_ev (xs : List Int) (w : Int) (hz : xs.length ≤ 16777215) (hp : ∀ x ∈ xs, 0 ≤ x) : pf_text_lines [tupI xs, .int w] = some (OI (tlines xs w)) := by
  rcases pf_laid_ev xs w hz hp with ⟨h1, h2⟩ | ⟨l, _, h1, h2⟩
  · simp [pf_text_lines, pfP, env0, mm_text_lines, h1, h2, OI]
  · simp [pf_text_lines, pfP, env0, mm_text_lines, h1, h2, OI]
/-! ### a sheet: rows of texts -/
def tupTT (sh : List (List (List Int))) : PyData := .tuple (sh.map fun row => .tuple (row.map tupI))
def rowT (row : List (List Int)) : PyData := .tuple (row.map tupI)
/-- well formed: m columns, texts short, words at least 1 wide -/
structure Sheet (m : Nat) (sh : List (List (List Int))) : Prop where
  ne : sh ≠ []
  m1 : 1 ≤ m
  wid : ∀ row ∈ sh, row.length = m
  len : ∀ row ∈ sh, ∀ t ∈ row, t.length ≤ 1000
  pos : ∀ row ∈ sh, ∀ t ∈ row, ∀ x ∈ t, 1 ≤ x ∧ x ≤ 1000
  rows : sh.length ≤ 1000
  m3 : m ≤ 3
def OIs (l : List (Option Int)) : PyData := .list (l.map OI)
end Law

namespace Law
open PySem L2 Evl Pd
@[simp] theorem gSeq_TT (sh : List (List (List Int))) : gSeq (tupTT sh) = some (sh.map rowT) := rfl
@[simp] theorem gSeq_row (row : List (List Int)) : gSeq (rowT row) = some (row.map tupI) := rfl
@[simp] theorem gLen_row (row : List (List Int)) : gLen (rowT row) = some (.int row.length) := by unfold rowT; simp
theorem atI_map {T : Type} (enc : T → PyData) {xs : List T} {i : Nat} {x : T} (h : xs[i]? = some x) : atI (xs.map enc) (i : Int) = some (enc x) := Pd.atI_nat (by rw [List.getElem?_map, h]; rfl)
theorem gIx_row {row : List (List Int)} {c : Nat} (h : c < row.length) : gIx (rowT row) (.int (c : Int)) = some (tupI (row.getD c [])) := by
  unfold rowT; rw [gIx_t]
  refine atI_map tupI ?_
  rw [List.getElem?_eq_getElem h]; simp [List.getD, h]
theorem gIx_TT0 {sh : List (List (List Int))} (h : sh ≠ []) : ∃ hd ∈ sh, gIx (tupTT sh) (.int 0) = some (rowT hd) := by
  cases sh with
  | nil => exact absurd rfl h
  | cons a r => exact ⟨a, List.mem_cons_self .., atI_map rowT (i := 0) rfl⟩
/-! ### row_lines -/
def OIv (o : Option Int) : Int := o.getD 0
def rowL (ws : List Int) (row : List (List Int)) : List (Option Int) := (row.zip ws).map fun p => tlines p.1 p.2
def rowMax (ws : List Int) (row : List (List Int)) : Option Int := if (rowL ws row).any Option.isNone then none else some (mxL ((rowL ws row).map OIv))
def rlStep (ws : List Int) (acc : List Int) (row : List (List Int)) : Except PyData (List Int) := match rowMax ws row with
  | none => .error .none
  | some v => .ok (acc ++ [v])
theorem gZip_row (row : List (List Int)) (ws : List Int) : gZip [rowT row, tupI ws] = some ((row.zip ws).map fun p => .tuple [tupI p.1, .int p.2]) := by
  show some (zipD (row.map tupI) (ws.map .int)) = _
  unfold zipD
  rw [List.zip_map, List.map_map]; rfl
theorem nice_OI (o : Option Int) : Nice (OI o) 0 := by cases o; exact nice_none 0; exact nice_int _ 0
theorem nice_OIs (l : List (Option Int)) : Nice (OIs l) 1 := nice_lst fun x hx => by obtain ⟨o, _, rfl⟩ := List.mem_map.mp hx; exact nice_OI o
theorem gIn_OIs (l : List (Option Int)) : gIn .none (OIs l) = some (.bool (l.any Option.isNone)) := by
  unfold OIs gIn
  dsimp only
  rw [shp_none, show shp (.list (l.map OI)) = true from nice_shp (nice_OIs l) (by decide)]
  simp only [Bool.and_self, if_true]
  congr 2
  rw [List.any_map]
  congr 1
  funext o
  cases o <;> rfl
theorem OIs_L {l : List (Option Int)} (h : l.any Option.isNone = false) : OIs l = lstI (l.map OIv) := by
  unfold OIs lstI
  rw [List.map_map]
  congr 1
  refine List.map_congr_left fun o ho => ?_
  cases o with
  | none => rw [List.any_eq_false] at h; exact absurd rfl (h none ho)
  | some v => rfl
theorem rowL_len {ws : List Int} {row : List (List Int)} {m : Nat} (h1 : row.length = m) (h2 : ws.length = m) : (rowL ws row).length = m := by
  unfold rowL
  simp; omega
theorem rowL_ne {ws : List Int} {row : List (List Int)} {m : Nat} (h1 : row.length = m) (h2 : ws.length = m) (hm : 1 ≤ m) : rowL ws row ≠ [] := by
  intro e
  have := congrArg List.length e
  rw [rowL_len h1 h2, List.length_nil] at this
  omega
theorem c_row_lines_2_ev {m : Nat} {sh : List (List (List Int))} (S : Sheet m sh) {ws : List Int} (hw : ws.length = m) {row : List (List Int)} (hr : row ∈ sh) (x2 x4 : Sl) :
    c_row_lines_2 [.va (tupTT sh), .va (tupI ws), x2, .va (rowT row), x4, .un, .un] = some (OIs (rowL ws row), [.va (tupTT sh), .va (tupI ws), x2, .va (rowT row), x4, .un, .un]) := by
  unfold c_row_lines_2
  rw [fLc_map (T := List Int × Int) (xs := row.zip ws) (enc := fun p => .tuple [tupI p.1, .int p.2]) (e1 := [.va (tupTT sh), .va (tupI ws), x2, .va (rowT row), x4, .un, .un]) (e0 := [.va (tupTT sh), .va (tupI ws), x2, .va (rowT row), x4, .un, .un]) (by simp [gZip_row])
    (fun e => ∃ s5 s6, Jk s5 ∧ Jk s6 ∧ e = [.va (tupTT sh), .va (tupI ws), x2, .va (rowT row), x4, s5, s6]) (fun p => OI (tlines p.1 p.2)) ⟨_, _, jk_un, jk_un, rfl⟩ (by rintro e ⟨s5, s6, h5, h6, rfl⟩; simp)
    (by have := S.m3; have := S.wid row hr; simp; omega)
    (by
      rintro ⟨t, w⟩ e hi ⟨s5, s6, h5, h6, rfl⟩
      have ht := (List.of_mem_zip hi).1
      have := pf_text_lines_ev t w (by have := S.len row hr t ht; omega) (fun x hx => by have := S.pos row hr t ht x hx; omega)
      simp [this, jk_va])]
  unfold OIs rowL
  rw [List.map_map]; rfl
theorem c__law_row_lines_2_ev {m : Nat} {sh : List (List (List Int))} (S : Sheet m sh) {ws : List Int} (hw : ws.length = m) {row : List (List Int)} (hr : row ∈ sh) (x2 x4 : Sl) :
    c__law_row_lines_2 [.va (tupTT sh), .va (tupI ws), x2, .va (rowT row), x4, .un, .un] = some (OIs (rowL ws row), [.va (tupTT sh), .va (tupI ws), x2, .va (rowT row), x4, .un, .un]) := by
  unfold c__law_row_lines_2
  rw [fLc_map (T := List Int × Int) (xs := row.zip ws) (enc := fun p => .tuple [tupI p.1, .int p.2]) (e1 := [.va (tupTT sh), .va (tupI ws), x2, .va (rowT row), x4, .un, .un]) (e0 := [.va (tupTT sh), .va (tupI ws), x2, .va (rowT row), x4, .un, .un]) (by simp [gZip_row])
    (fun e => ∃ s5 s6, Jk s5 ∧ Jk s6 ∧ e = [.va (tupTT sh), .va (tupI ws), x2, .va (rowT row), x4, s5, s6]) (fun p => OI (tlines p.1 p.2)) ⟨_, _, jk_un, jk_un, rfl⟩ (by rintro e ⟨s5, s6, h5, h6, rfl⟩; simp)
    (by have := S.m3; have := S.wid row hr; simp; omega)
    (by
      rintro ⟨t, w⟩ e hi ⟨s5, s6, h5, h6, rfl⟩
      simp [pf__law_lines_ev, jk_va])]
  unfold OIs rowL
  rw [List.map_map]; rfl
def rowLines (ws : List Int) (sh : List (List (List Int))) : Except PyData (List Int) := runE (rlStep ws) [] sh
theorem row_loop {m : Nat} {sh : List (List (List Int))} (S : Sheet m sh) {ws : List Int} (hw : ws.length = m) : ∃ e', match rowLines ws sh with
    | .ok l => c_row_lines_1 [.va (tupTT sh), .va (tupI ws), .ow [], .un, .un, .un, .un] = some (.nx, e') ∧ ∃ s3 s4, e' = [.va (tupTT sh), .va (tupI ws), .ow (l.map .int), s3, s4, .un, .un]
    | .error d => c_row_lines_1 [.va (tupTT sh), .va (tupI ws), .ow [], .un, .un, .un, .un] = some (.rt d, e') := by
  obtain ⟨e', h1⟩ := forL_runI (g := tgName 3) (fb := b_row_lines_1) rowT (fun n (l : List Int) e => ∃ s3 s4, Jk s3 ∧ Jk s4 ∧ l.length = n ∧ e = [.va (tupTT sh), .va (tupI ws), .ow (l.map .int), s3, s4, .un, .un]) (rlStep ws) sh 0 [] [.va (tupTT sh), .va (tupI ws), .ow [], .un, .un, .un, .un]
    ⟨.un, .un, jk_un, jk_un, rfl, rfl⟩
    (by
      rintro j l e row hrow ⟨s3, s4, h3, h4, hl, rfl⟩
      have hr := List.mem_of_getElem? hrow
      have hj : j < sh.length := (List.getElem?_eq_some_iff.mp hrow).1
      have hj2 := S.rows
      have hlen : l.length < 16777216 := by omega
      have hc := c_row_lines_2_ev S hw hr (.ow (l.map .int)) s4
      have hne := rowL_ne (S.wid row hr) hw S.m1
      refine ⟨[.va (tupTT sh), .va (tupI ws), .ow (l.map .int), .va (rowT row), s4, .un, .un], ?_⟩
      by_cases ha : (rowL ws row).any Option.isNone = true
      · refine ⟨[.va (tupTT sh), .va (tupI ws), .ow (l.map .int), .va (rowT row), .va (OIs (rowL ws row)), .un, .un], ?_⟩
        have st : rlStep ws l row = .error .none := by unfold rlStep rowMax; rw [if_pos ha]
        rw [st]
        rcases h3 with rfl | ⟨d3, rfl⟩ <;> rcases h4 with rfl | ⟨d4, rfl⟩ <;> simp [b_row_lines_1, hc, gIn_OIs, ha]
      · have ha' : (rowL ws row).any Option.isNone = false := Bool.eq_false_iff.mpr ha
        refine ⟨[.va (tupTT sh), .va (tupI ws), .ow ((l ++ [mxL ((rowL ws row).map OIv)]).map .int), .va (rowT row), .va (OIs (rowL ws row)), .un, .un], ?_⟩
        have st : rlStep ws l row = .ok (l ++ [mxL ((rowL ws row).map OIv)]) := by unfold rlStep rowMax; rw [if_neg ha]
        rw [st]
        have hm : gMax1 (OIs (rowL ws row)) = some (.int (mxL ((rowL ws row).map OIv))) := by
          rw [OIs_L ha']; exact gMax1_LL (by simpa using hne)
        refine ⟨?_, ?_, _, _, jk_va _, jk_va _, by simp; omega, rfl⟩
        · rcases h3 with rfl | ⟨d3, rfl⟩ <;> rcases h4 with rfl | ⟨d4, rfl⟩ <;> simp
        · rcases h4 with rfl | ⟨d4, rfl⟩ <;> simp [b_row_lines_1, hc, gIn_OIs, ha', hm, gAppend, hlen])
  unfold rowLines
  cases q : runE (rlStep ws) [] sh with
  | ok s' =>
    rw [q] at h1
    obtain ⟨h1, s3, s4, _, _, _, rfl⟩ := h1
    refine ⟨_, ?_, s3, s4, rfl⟩
    unfold c_row_lines_1
    simp
    exact h1
  | error d =>
    rw [q] at h1
    refine ⟨e', ?_⟩
    unfold c_row_lines_1
    simp
    exact h1
theorem law_row_loop {m : Nat} {sh : List (List (List Int))} (S : Sheet m sh) {ws : List Int} (hw : ws.length = m) : ∃ e', match rowLines ws sh with
    | .ok l => c__law_row_lines_1 [.va (tupTT sh), .va (tupI ws), .ow [], .un, .un, .un, .un] = some (.nx, e') ∧ ∃ s3 s4, e' = [.va (tupTT sh), .va (tupI ws), .ow (l.map .int), s3, s4, .un, .un]
    | .error d => c__law_row_lines_1 [.va (tupTT sh), .va (tupI ws), .ow [], .un, .un, .un, .un] = some (.rt d, e') := by
  obtain ⟨e', h1⟩ := forL_runI (g := tgName 3) (fb := b__law_row_lines_1) rowT (fun n (l : List Int) e => ∃ s3 s4, Jk s3 ∧ Jk s4 ∧ l.length = n ∧ e = [.va (tupTT sh), .va (tupI ws), .ow (l.map .int), s3, s4, .un, .un]) (rlStep ws) sh 0 [] [.va (tupTT sh), .va (tupI ws), .ow [], .un, .un, .un, .un]
    ⟨.un, .un, jk_un, jk_un, rfl, rfl⟩
    (by
      rintro j l e row hrow ⟨s3, s4, h3, h4, hl, rfl⟩
      have hr := List.mem_of_getElem? hrow
      have hj : j < sh.length := (List.getElem?_eq_some_iff.mp hrow).1
      have hj2 := S.rows
      have hlen : l.length < 16777216 := by omega
      have hc := c__law_row_lines_2_ev S hw hr (.ow (l.map .int)) s4
      have hne := rowL_ne (S.wid row hr) hw S.m1
      refine ⟨[.va (tupTT sh), .va (tupI ws), .ow (l.map .int), .va (rowT row), s4, .un, .un], ?_⟩
      by_cases ha : (rowL ws row).any Option.isNone = true
      · refine ⟨[.va (tupTT sh), .va (tupI ws), .ow (l.map .int), .va (rowT row), .va (OIs (rowL ws row)), .un, .un], ?_⟩
        have st : rlStep ws l row = .error .none := by unfold rlStep rowMax; rw [if_pos ha]
        rw [st]
        rcases h3 with rfl | ⟨d3, rfl⟩ <;> rcases h4 with rfl | ⟨d4, rfl⟩ <;> simp [b__law_row_lines_1, hc, gIn_OIs, ha]
      · have ha' : (rowL ws row).any Option.isNone = false := Bool.eq_false_iff.mpr ha
        refine ⟨[.va (tupTT sh), .va (tupI ws), .ow ((l ++ [mxL ((rowL ws row).map OIv)]).map .int), .va (rowT row), .va (OIs (rowL ws row)), .un, .un], ?_⟩
        have st : rlStep ws l row = .ok (l ++ [mxL ((rowL ws row).map OIv)]) := by unfold rlStep rowMax; rw [if_neg ha]
        rw [st]
        have hm : gMax1 (OIs (rowL ws row)) = some (.int (mxL ((rowL ws row).map OIv))) := by
          rw [OIs_L ha']; exact gMax1_LL (by simpa using hne)
        refine ⟨?_, ?_, _, _, jk_va _, jk_va _, by simp; omega, rfl⟩
        · rcases h3 with rfl | ⟨d3, rfl⟩ <;> rcases h4 with rfl | ⟨d4, rfl⟩ <;> simp
        · rcases h4 with rfl | ⟨d4, rfl⟩ <;> simp [b__law_row_lines_1, hc, gIn_OIs, ha', hm, gAppend, hlen])
  unfold rowLines
  cases q : runE (rlStep ws) [] sh with
  | ok s' =>
    rw [q] at h1
    obtain ⟨h1, s3, s4, _, _, _, rfl⟩ := h1
    refine ⟨_, ?_, s3, s4, rfl⟩
    unfold c__law_row_lines_1
    simp
    exact h1
  | error d =>
    rw [q] at h1
    refine ⟨e', ?_⟩
    unfold c__law_row_lines_1
    simp
    exact h1
/-- as data -/
def rowsD (ws : List Int) (sh : List (List (List Int))) : PyData := match rowLines ws sh with
  | .ok l => tupI l
  | .error _ => .none
def sumD (ws : List Int) (sh : List (List (List Int))) : PyData := match rowLines ws sh with
  | .ok l => .int l.sum
  | .error _ => .none
theorem runE_rl_err {ws : List Int} : ∀ {sh : List (List (List Int))} {l : List Int} {d : PyData}, runE (rlStep ws) l sh = .error d → d = .none
  | [], l, d, h => by cases h
  | row :: sh, l, d, h => by
    unfold runE at h
    cases q : rlStep ws l row with
    | ok l' => rw [q] at h; exact runE_rl_err h
    | error d' =>
      rw [q] at h
      cases h
      unfold rlStep at q
      split at q
      · cases q; rfl
      · cases q
theorem pf_row_lines_ev {m : Nat} {sh : List (List (List Int))} (S : Sheet m sh) {ws : List Int} (hw : ws.length = m) : pf_row_lines [tupTT sh, tupI ws] = some (rowsD ws sh) := by
  obtain ⟨e', h⟩ := row_loop S hw
  unfold rowsD
  cases q : rowLines ws sh with
  | ok l =>
    rw [q] at h
    obtain ⟨h, s3, s4, rfl⟩ := h
    simp [pf_row_lines, pfP, env0, mm_row_lines, h]; rfl
  | error d =>
    rw [q] at h
    have := runE_rl_err q
    subst this
    simp [pf_row_lines, pfP, env0, mm_row_lines, h]
theorem pf__law_row_lines_ev {m : Nat} {sh : List (List (List Int))} (S : Sheet m sh) {ws : List Int} (hw : ws.length = m) : pf__law_row_lines [tupTT sh, tupI ws] = some (rowsD ws sh) := by
  obtain ⟨e', h⟩ := law_row_loop S hw
  unfold rowsD
  cases q : rowLines ws sh with
  | ok l =>
    rw [q] at h
    obtain ⟨h, s3, s4, rfl⟩ := h
    simp [pf__law_row_lines, pfP, env0, mm__law_row_lines, h]; rfl
  | error d =>
    rw [q] at h
    have := runE_rl_err q
    subst this
    simp [pf__law_row_lines, pfP, env0, mm__law_row_lines, h]
theorem pf_sheet_lines_ev {m : Nat} {sh : List (List (List Int))} (S : Sheet m sh) {ws : List Int} (hw : ws.length = m) : pf_sheet_lines [tupTT sh, tupI ws] = some (sumD ws sh) := by
  have h := pf_row_lines_ev S hw
  unfold rowsD at h
  unfold sumD
  cases q : rowLines ws sh with
  | ok l => rw [q] at h; simp [pf_sheet_lines, pfP, env0, mm_sheet_lines, h]
  | error d => rw [q] at h; simp [pf_sheet_lines, pfP, env0, mm_sheet_lines, h]
end Law

namespace Pd
open PySem L2 Evl
section
variable {T U : Type}
theorem lc2L_pure {vs vs1 : List Nat} {fg : PyData → Env → Option Env} {ft : M Bool} {fi1 : M (List PyData)} {fg1 : PyData → Env → Option Env} {ft1 : M Bool} {fe : M PyData} (enc : T → PyData) (enc1 : U → PyData) (f : T → List U) (R : Env → Prop) (R1 : T → Env → Prop) (p : T → U → Bool) (v : T → U → PyData) : ∀ (xs : List T) (e : Env), R e →
    (∀ x e, x ∈ xs → R e → ∃ e1 e2 e3, fg (enc x) (wipeE e vs) = some e1 ∧ ft e1 = some (true, e2) ∧ fi1 e2 = some ((f x).map enc1, e3) ∧ R1 x e3) →
    (∀ x u e, x ∈ xs → u ∈ f x → R1 x e → ∃ e1 e2, fg1 (enc1 u) (wipeE e vs1) = some e1 ∧ ft1 e1 = some (p x u, e2) ∧ ∃ e3, (if p x u then fe e2 = some (v x u, e3) else e3 = e2) ∧ R1 x e3) →
    (∀ x e, x ∈ xs → R1 x e → R e) →
    ∃ e', lc2L vs vs1 fg ft fi1 fg1 ft1 fe (xs.map enc) e = some ((xs.map fun x => ((f x).filter (p x)).map (v x)).flatten, e') ∧ R e'
  | [], e, hr, _, _, _ => ⟨e, rfl, hr⟩
  | x :: xs, e, hr, h, hi, hb => by
    obtain ⟨e1, e2, e3, h1, h2, h3, h4⟩ := h x e (List.mem_cons_self ..) hr
    obtain ⟨e4, h5, h6⟩ := lcL_pure (vs := vs1) (fg := fg1) (ft := ft1) (fe := fe) enc1 (R1 x) (p x) (v x) (f x) e3 h4 fun u e hu => hi x u e (List.mem_cons_self ..) hu
    obtain ⟨e', h7, h8⟩ := lc2L_pure enc enc1 f R R1 p v xs e4 (hb x e4 (List.mem_cons_self ..) h6) (fun y e hy => h y e (List.mem_cons_of_mem _ hy)) (fun y u e hy => hi y u e (List.mem_cons_of_mem _ hy)) (fun y e hy => hb y e (List.mem_cons_of_mem _ hy))
    refine ⟨e', ?_, h8⟩
    rw [List.map_cons]
    unfold lc2L
    rw [h1]; dsimp only; rw [h2]; dsimp only; rw [h3]; dsimp only; rw [h5]; dsimp only; rw [h7]; rfl
theorem fLc2_pure {vs vs1 : List Nat} {fi : M (List PyData)} {fg : PyData → Env → Option Env} {ft : M Bool} {fi1 : M (List PyData)} {fg1 : PyData → Env → Option Env} {ft1 : M Bool} {fe : M PyData} {e e1 e0 : Env} {xs : List T} {enc : T → PyData} (hi : fi e = some (xs.map enc, e1)) (enc1 : U → PyData) (f : T → List U) (R : Env → Prop) (R1 : T → Env → Prop) (p : T → U → Bool) (v : T → U → PyData)
    (h0 : R e1) (hr : ∀ e', R e' → restE e1 e' vs = e0) (hz : (xs.map fun x => ((f x).filter (p x)).map (v x)).flatten.length ≤ 16777216)
    (h : ∀ x e, x ∈ xs → R e → ∃ e1 e2 e3, fg (enc x) (wipeE e vs) = some e1 ∧ ft e1 = some (true, e2) ∧ fi1 e2 = some ((f x).map enc1, e3) ∧ R1 x e3)
    (hi1 : ∀ x u e, x ∈ xs → u ∈ f x → R1 x e → ∃ e1 e2, fg1 (enc1 u) (wipeE e vs1) = some e1 ∧ ft1 e1 = some (p x u, e2) ∧ ∃ e3, (if p x u then fe e2 = some (v x u, e3) else e3 = e2) ∧ R1 x e3)
    (hb : ∀ x e, x ∈ xs → R1 x e → R e) : fLc2 vs vs1 fi fg ft fi1 fg1 ft1 fe e = some (.list ((xs.map fun x => ((f x).filter (p x)).map (v x)).flatten), e0) := by
  obtain ⟨e', h5, h6⟩ := lc2L_pure (vs := vs) (vs1 := vs1) (fg := fg) (ft := ft) (fi1 := fi1) (fg1 := fg1) (ft1 := ft1) (fe := fe) enc enc1 f R R1 p v xs e1 h0 h hi1 hb
  rw [fLc2_ap, hi]
  dsimp only
  rw [h5]
  dsimp only
  rw [if_pos hz, hr e' h6]
end
@[simp] theorem gAdd_l (xs ys : List PyData) : gAdd (.list xs) (.list ys) = if xs.length + ys.length ≤ 16777216 then some (.list (xs ++ ys)) else none := by
  show (if szOk (xs.length + ys.length) = true then _ else _) = _
  unfold szOk; simp
@[simp] theorem gAdd_t (xs ys : List PyData) : gAdd (.tuple xs) (.tuple ys) = if xs.length + ys.length ≤ 16777216 then some (.tuple (xs ++ ys)) else none := by
  show (if szOk (xs.length + ys.length) = true then _ else _) = _
  unfold szOk; simp
@[simp] theorem gMul_l0 (x : PyData) : gMul (.list [x]) (.int 0) = some (.list []) := rfl
@[simp] theorem gMul_l1 (x : PyData) : gMul (.list [x]) (.int 1) = some (.list [x]) := rfl
theorem gAppend_1 {bs : List PyData} {d : PyData} (h : bs.length < 16777216) : gAppend bs [d] = some (.none, bs ++ [d]) := by
  unfold gAppend; dsimp only; rw [if_pos (by simpa using h)]
theorem gExtend_1 {bs ds : List PyData} (h : bs.length + ds.length ≤ 16777216) : gExtend bs [.list ds] = some (.none, bs ++ ds) := by
  unfold gExtend; dsimp only; rw [if_pos (by simpa [szOk] using h)]
theorem fSeq_nx {f g : M Fl} {e e1 : Env} {r : Option (Fl × Env)} (h1 : f e = some (.nx, e1)) (h2 : g e1 = r) : fSeq f g e = r := by
  rw [fSeq_ap, h1]; exact h2
theorem fSeq_rt {f g : M Fl} {e e1 : Env} {d : PyData} (h1 : f e = some (.rt d, e1)) : fSeq f g e = some (.rt d, e1) := by
  rw [fSeq_ap, h1]
theorem pfP_rt {n np : Nat} {m : M Fl} {ds : List PyData} {d : PyData} {e : Env} (hl : ds.length = np) (h : m (env0 n ds) = some (.rt d, e)) : pfP n np m ds = some d := by
  unfold pfP; rw [if_pos hl, h]
theorem mxL_eq {xs : List Int} {m : Int} (h : m ∈ xs) (hm : ∀ y ∈ xs, y ≤ m) : mxL xs = m := by
  have h1 := mxL_le h
  have h2 := hm _ (mxL_mem (List.ne_nil_of_mem h))
  omega
theorem mnL_eq {xs : List Int} {m : Int} (h : m ∈ xs) (hm : ∀ y ∈ xs, m ≤ y) : mnL xs = m := by
  have h1 := mnL_le h
  have h2 := hm _ (mnL_mem (List.ne_nil_of_mem h))
  omega
/-- two rows with the same greatest -/
theorem mxL_same {xs ys : List Int} (h1 : xs ≠ []) (h2 : ys ≠ []) (h : ∀ x ∈ xs, ∃ y ∈ ys, x ≤ y) (g : ∀ y ∈ ys, ∃ x ∈ xs, y ≤ x) : mxL xs = mxL ys := by
  obtain ⟨y, hy, a⟩ := h _ (mxL_mem h1)
  obtain ⟨x, hx, b⟩ := g _ (mxL_mem h2)
  have := mxL_le hy
  have := mxL_le hx
  omega
end Pd

namespace Law
open PySem L2 Evl Pd
theorem rngD_range (n : Nat) : rngD 0 n = (List.range n).map fun i : Nat => PyData.int (i : Int) := by unfold rngD; simp
/-! ### the texts of a column -/
def colOf (sh : List (List (List Int))) (c : Nat) : List (List Int) := sh.map fun row => row.getD c []
def txts (l : List (List Int)) : PyData := .list (l.map tupI)
@[simp] theorem gSeq_txts (l : List (List Int)) : gSeq (txts l) = some (l.map tupI) := rfl
theorem texts_ev {m : Nat} {sh : List (List (List Int))} (S : Sheet m sh) {c : Nat} (hc : c < m) : (sh.map rowT).map (fun r => gIx r (.int (c : Int))) = (colOf sh c).map fun t => some (tupI t) := by
  unfold colOf
  rw [List.map_map, List.map_map]
  refine List.map_congr_left fun row hr => ?_
  exact gIx_row (by rw [S.wid row hr]; exact hc)
theorem pf_texts_of_ev {m : Nat} {sh : List (List (List Int))} (S : Sheet m sh) {c : Nat} (hc : c < m) : pf_texts_of [tupTT sh, .int (c : Int)] = some (txts (colOf sh c)) := by
  have h : c_texts_of_1 [.va (tupTT sh), .va (.int (c : Int)), .un] = some (txts (colOf sh c), [.va (tupTT sh), .va (.int (c : Int)), .un]) := by
    unfold c_texts_of_1
    rw [fLc_map (T := List (List Int)) (xs := sh) (enc := rowT) (e1 := [.va (tupTT sh), .va (.int (c : Int)), .un]) (e0 := [.va (tupTT sh), .va (.int (c : Int)), .un]) (by simp)
      (fun e => ∃ s, Jk s ∧ e = [.va (tupTT sh), .va (.int (c : Int)), s]) (fun row => tupI (row.getD c [])) ⟨_, jk_un, rfl⟩ (by rintro e ⟨s, hs, rfl⟩; simp) (by have := S.rows; omega)
      (by
        rintro row e hr ⟨s, hs, rfl⟩
        have := gIx_row (row := row) (c := c) (by rw [S.wid row hr]; exact hc)
        simp [this, jk_va])]
    unfold txts colOf
    rw [List.map_map]; rfl
  simp [pf_texts_of, pfP, env0, mm_texts_of, h]
theorem c__law_steps_1_ev {m : Nat} {sh : List (List (List Int))} (S : Sheet m sh) {c : Nat} (hc : c < m) : c__law_steps_1 [.va (tupTT sh), .va (.int (c : Int)), .un, .un, .un, .un, .un, .un, .un, .un, .un] = some (txts (colOf sh c), [.va (tupTT sh), .va (.int (c : Int)), .un, .un, .un, .un, .un, .un, .un, .un, .un]) := by
  unfold c__law_steps_1
  rw [fLc_map (T := List (List Int)) (xs := sh) (enc := rowT) (e1 := [.va (tupTT sh), .va (.int (c : Int)), .un, .un, .un, .un, .un, .un, .un, .un, .un]) (e0 := [.va (tupTT sh), .va (.int (c : Int)), .un, .un, .un, .un, .un, .un, .un, .un, .un]) (by simp)
    (fun e => ∃ s, Jk s ∧ e = [.va (tupTT sh), .va (.int (c : Int)), .un, .un, .un, .un, .un, .un, .un, s, .un]) (fun row => tupI (row.getD c [])) ⟨_, jk_un, rfl⟩ (by rintro e ⟨s, hs, rfl⟩; simp) (by have := S.rows; omega)
    (by
      rintro row e hr ⟨s, hs, rfl⟩
      have := gIx_row (row := row) (c := c) (by rw [S.wid row hr]; exact hc)
      simp [this, jk_va])]
  unfold txts colOf
  rw [List.map_map]; rfl
/-- a column's texts, well formed -/
structure Col (l : List (List Int)) : Prop where
  ne : l ≠ []
  rows : l.length ≤ 1000
  len : ∀ t ∈ l, t.length ≤ 1000
  pos : ∀ t ∈ l, ∀ x ∈ t, 1 ≤ x ∧ x ≤ 1000
theorem Sheet.col {m : Nat} {sh : List (List (List Int))} (S : Sheet m sh) {c : Nat} (hc : c < m) : Col (colOf sh c) := by
  have g : ∀ t ∈ colOf sh c, ∃ row ∈ sh, t ∈ row := fun t ht => by
    obtain ⟨row, hr, rfl⟩ := List.mem_map.mp ht
    refine ⟨row, hr, ?_⟩
    have hl : c < row.length := by rw [S.wid row hr]; exact hc
    have : row.getD c [] = row[c] := by simp [List.getD, hl]
    rw [this]; exact List.getElem_mem hl
  refine ⟨by simpa [colOf] using S.ne, by unfold colOf; rw [List.length_map]; exact S.rows, fun t ht => ?_, fun t ht => ?_⟩
  · obtain ⟨row, hr, h⟩ := g t ht; exact S.len row hr t h
  · obtain ⟨row, hr, h⟩ := g t ht; exact S.pos row hr t h
def linesC (l : List (List Int)) (w : Int) : List (Option Int) := l.map fun t => tlines t w
theorem pf_lines_at_ev {m : Nat} {sh : List (List (List Int))} (S : Sheet m sh) {c : Nat} (hc : c < m) (w : Int) : pf_lines_at [tupTT sh, .int (c : Int), .int w] = some (OIs (linesC (colOf sh c) w)) := by
  have C := S.col hc
  have ht := pf_texts_of_ev S hc
  have h : c_lines_at_1 [.va (tupTT sh), .va (.int (c : Int)), .va (.int w), .un] = some (OIs (linesC (colOf sh c) w), [.va (tupTT sh), .va (.int (c : Int)), .va (.int w), .un]) := by
    unfold c_lines_at_1
    rw [fLc_map (T := List Int) (xs := colOf sh c) (enc := tupI) (e1 := [.va (tupTT sh), .va (.int (c : Int)), .va (.int w), .un]) (e0 := [.va (tupTT sh), .va (.int (c : Int)), .va (.int w), .un]) (by simp [ht])
      (fun e => ∃ s, Jk s ∧ e = [.va (tupTT sh), .va (.int (c : Int)), .va (.int w), s]) (fun t => OI (tlines t w)) ⟨_, jk_un, rfl⟩ (by rintro e ⟨s, hs, rfl⟩; simp) (by have := C.rows; omega)
      (by
        rintro t e hr ⟨s, hs, rfl⟩
        have := pf_text_lines_ev t w (by have := C.len t hr; omega) (fun x hx => by have := C.pos t hr x hx; omega)
        simp [this, jk_va])]
    unfold OIs linesC
    rw [List.map_map]; rfl
  simp [pf_lines_at, pfP, env0, mm_lines_at, h]
/-! least and greatest width -/
def leastC (l : List (List Int)) : Int := mxL (1 :: l.flatten)
def extent (t : List Int) : Int := t.sum + t.length - 1
def mostC (l : List (List Int)) : Int := mxL (1 :: l.map extent)
theorem pf_widest_text_ev {m : Nat} {sh : List (List (List Int))} (S : Sheet m sh) {c : Nat} (hc : c < m) : pf_widest_text [tupTT sh, .int (c : Int)] = some (.int (mostC (colOf sh c))) := by
  have C := S.col hc
  have ht := pf_texts_of_ev S hc
  have h : c_widest_text_1 [.va (tupTT sh), .va (.int (c : Int)), .un] = some (lstI ((colOf sh c).map extent), [.va (tupTT sh), .va (.int (c : Int)), .un]) := by
    unfold c_widest_text_1
    rw [fLc_map (T := List Int) (xs := colOf sh c) (enc := tupI) (e1 := [.va (tupTT sh), .va (.int (c : Int)), .un]) (e0 := [.va (tupTT sh), .va (.int (c : Int)), .un]) (by simp [ht])
      (fun e => ∃ s, Jk s ∧ e = [.va (tupTT sh), .va (.int (c : Int)), s]) (fun t => .int (extent t)) ⟨_, jk_un, rfl⟩ (by rintro e ⟨s, hs, rfl⟩; simp) (by have := C.rows; omega)
      (by
        rintro t e hr ⟨s, hs, rfl⟩
        simp [extent, jk_va])]
    unfold lstI
    rw [List.map_map]; rfl
  obtain ⟨ex, hex⟩ : ∃ ex, (colOf sh c).map extent = ex := ⟨_, rfl⟩
  have hl : ex.length + 1 ≤ 16777216 := by rw [← hex, List.length_map]; have := C.rows; omega
  have hm := gMax1_l 1 ex
  rw [List.map_cons] at hm
  rw [hex] at h
  unfold mostC
  rw [hex]
  simp [pf_widest_text, pfP, env0, mm_widest_text, h, hl, hm]
  rfl
theorem len_flat {l : List (List Int)} {k : Nat} (h : ∀ t ∈ l, t.length ≤ k) : l.flatten.length ≤ l.length * k := by
  induction l with
  | nil => simp
  | cons t r ih =>
    have := ih fun u hu => h u (List.mem_cons_of_mem _ hu)
    have := h t (List.mem_cons_self ..)
    rw [List.flatten_cons, List.length_append, List.length_cons, Nat.succ_mul]; omega
theorem Col.flat {l : List (List Int)} (C : Col l) : l.flatten.length ≤ 1000000 := by
  have h1 := len_flat C.len
  have h2 := C.rows
  have : l.length * 1000 ≤ 1000 * 1000 := Nat.mul_le_mul_right _ h2
  omega
theorem pf_narrowest_ev {m : Nat} {sh : List (List (List Int))} (S : Sheet m sh) : pf_narrowest [tupTT sh] = some (tupI ((List.range m).map fun c => leastC (colOf sh c))) := by
  have h2 : ∀ (c : Nat) (hc : c < m) (x1 : Sl), c_narrowest_2 [.va (tupTT sh), x1, .va (.int (c : Int)), .un, .un] = some (lstI (colOf sh c).flatten, [.va (tupTT sh), x1, .va (.int (c : Int)), .un, .un]) := by
    intro c hc x1
    have C := S.col hc
    have ht := pf_texts_of_ev S hc
    have e1 : ((colOf sh c).map fun t => (t.filter fun _ => true).map PyData.int).flatten = (colOf sh c).flatten.map PyData.int := by
      rw [List.map_flatten]
      congr 1
      refine List.map_congr_left fun t _ => ?_
      rw [List.filter_eq_self.mpr fun _ _ => rfl]
    unfold c_narrowest_2
    rw [fLc2_pure (T := List Int) (U := Int) (xs := colOf sh c) (enc := tupI) (e1 := [.va (tupTT sh), x1, .va (.int (c : Int)), .un, .un]) (e0 := [.va (tupTT sh), x1, .va (.int (c : Int)), .un, .un]) (by simp [ht]) PyData.int (fun t => t)
      (fun e => ∃ s s2, Jk s ∧ Jk s2 ∧ e = [.va (tupTT sh), x1, .va (.int (c : Int)), s, s2]) (fun t e => ∃ s2, Jk s2 ∧ e = [.va (tupTT sh), x1, .va (.int (c : Int)), .va (tupI t), s2]) (fun _ _ => true) (fun _ x => .int x) ⟨_, _, jk_un, jk_un, rfl⟩
      (by rintro e ⟨s, s2, hs, hs2, rfl⟩; simp) (by have := C.flat; rw [e1, List.length_map]; omega)
      (by
        rintro t e hr ⟨s, s2, hs, hs2, rfl⟩
        simp [jk_un])
      (by
        rintro t u e ht hu ⟨s, hs, rfl⟩
        simp [jk_va])
      (by
        rintro t e ht ⟨s, hs, rfl⟩
        exact ⟨_, s, jk_va _, hs, rfl⟩)]
    rw [e1]; rfl
  obtain ⟨hd, hdm, hix⟩ := gIx_TT0 S.ne
  have hhd : hd.length = m := S.wid hd hdm
  have h1 : ∃ s, c_narrowest_1 [.va (tupTT sh), .ow [], .un, .un, .un] = some (.nx, [.va (tupTT sh), .ow (((List.range m).map fun c => leastC (colOf sh c)).map .int), s, .un, .un]) := by
    obtain ⟨e', h4⟩ := forL_runI (g := tgName 2) (fb := b_narrowest_1) (fun c : Nat => .int (c : Int)) (fun n (l : List Int) e => ∃ s, Jk s ∧ l = (List.range n).map (fun c => leastC (colOf sh c)) ∧ e = [.va (tupTT sh), .ow (l.map .int), s, .un, .un]) (fun l c => .ok (l ++ [leastC (colOf sh c)])) (List.range m) 0 [] [.va (tupTT sh), .ow [], .un, .un, .un]
      ⟨_, jk_un, rfl, rfl⟩
      (by
        rintro j l e c hcj ⟨s, hs, hl, rfl⟩
        obtain ⟨q1, q2⟩ := List.getElem?_eq_some_iff.mp hcj
        simp at q1 q2
        subst q2
        have C := S.col q1
        have hll : l.length < 16777216 := by rw [hl]; simp; have hm3 := S.m3; omega
        obtain ⟨fl, hfl⟩ : ∃ fl, (colOf sh j).flatten = fl := ⟨_, rfl⟩
        have hfl2 : fl.length + 1 ≤ 16777216 := by rw [← hfl]; have := C.flat; omega
        have hle : leastC (colOf sh j) = fl.foldl max 1 := by unfold leastC; rw [hfl]; rfl
        have hm := gMax1_l 1 fl
        rw [List.map_cons] at hm
        have hh := h2 j q1 (.ow (l.map .int))
        rw [hfl] at hh
        refine ⟨[.va (tupTT sh), .ow (l.map .int), .va (.int (j : Int)), .un, .un], [.va (tupTT sh), .ow ((l ++ [leastC (colOf sh j)]).map .int), .va (.int (j : Int)), .un, .un], ?_, ?_, _, jk_va _, ?_, rfl⟩
        · rcases hs with rfl | ⟨d, rfl⟩ <;> simp
        · simp [b_narrowest_1, hh, hm, gAppend, hll, hfl2, hle]
        · rw [hl, Nat.zero_add, List.range_succ, List.map_append]; rfl)
    have er : ∀ (xs : List Nat) (l : List Int), runE (fun l c => .ok (l ++ [leastC (colOf sh c)])) l xs = .ok (l ++ xs.map fun c => leastC (colOf sh c)) := by
      intro xs
      induction xs with
      | nil => intro l; simp [runE]
      | cons c r ih => intro l; unfold runE; dsimp only; rw [ih]; simp
    rw [er] at h4
    obtain ⟨h4, s, hs, _, rfl⟩ := h4
    refine ⟨s, ?_⟩
    unfold c_narrowest_1
    have hg := gRng1_n (n := m) (by have := S.m3; omega)
    rw [rngD_range] at hg
    simp [hix, hhd, hg]
    simpa using h4
  obtain ⟨s, h1⟩ := h1
  simp [pf_narrowest, pfP, env0, mm_narrowest, h1]
  unfold tupI; rw [List.map_map]
end Law

namespace Law
open PySem L2 Evl Pd
theorem runE_ok {T S : Type} (f : S → T → S) (s : S) (xs : List T) : runE (fun s x => .ok (f s x)) s xs = .ok (xs.foldl f s) := by
  induction xs generalizing s with
  | nil => rfl
  | cons x r ih => unfold runE; dsimp only; rw [ih]; rfl
theorem foldl_filter {T : Type} (p : T → Bool) (l : List T) (xs : List T) : xs.foldl (fun l w => if p w = true then l ++ [w] else l) l = l ++ xs.filter p := by
  induction xs generalizing l with
  | nil => simp
  | cons x r ih =>
    rw [List.foldl_cons, ih, List.filter_cons]
    cases p x <;> simp
theorem OI_inj {a b : Option Int} (h : OI a = OI b) : a = b := by
  cases a <;> cases b <;> first | rfl | (cases h; rfl) | cases h
theorem OIs_inj {a b : List (Option Int)} (h : OIs a = OIs b) : a = b := by
  unfold OIs at h
  injection h with h
  exact (List.map_inj_right fun x y e => OI_inj e).mp h
theorem plain_OI (o : Option Int) : plain (OI o) = true := by cases o <;> rfl
theorem plain_OIs (l : List (Option Int)) : plain (OIs l) = true := plain_lst fun x hx => by obtain ⟨o, _, rfl⟩ := List.mem_map.mp hx; exact plain_OI o
theorem gNe_OIs (a b : List (Option Int)) : gNe (OIs a) (OIs b) = some (.bool (!decide (a = b))) := by
  rw [gNe_of (nice_OIs a) (nice_OIs b), eqv_enc (fun x y e => OIs_inj e) plain_OIs]
def encB : Option (List (Option Int)) → PyData
  | none => .none
  | some l => OIs l
theorem gNe_B (a : List (Option Int)) (b : Option (List (Option Int))) : gNe (OIs a) (encB b) = some (.bool (!decide (some a = b))) := by
  cases b with
  | none =>
    show gNe (OIs a) .none = _
    rw [gNe_of (nice_OIs a) (nice_none 0)]
    unfold OIs
    simp [PyData.eqv]
  | some l =>
    show gNe (OIs a) (OIs l) = _
    rw [gNe_OIs]
    simp
/-! ### the steps of a column -/
def isStep (l : List (List Int)) (w : Int) : Bool := !decide (linesC l w = linesC l (w - 1))
def stepsC (l : List (List Int)) : List Int := leastC l :: (rngI (leastC l + 1) (mostC l - leastC l).toNat).filter (isStep l)
theorem least1 (l : List (List Int)) : 1 ≤ leastC l := mxL_le (List.mem_cons_self ..)
theorem Col.least_le {l : List (List Int)} (C : Col l) : leastC l ≤ 1000 := by
  have h : leastC l ∈ 1 :: l.flatten := mxL_mem (by simp)
  rcases List.mem_cons.mp h with h | h
  · omega
  · obtain ⟨t, ht, hx⟩ := List.mem_flatten.mp h
    exact (C.pos t ht _ hx).2
theorem sum_le {t : List Int} {k : Int} (h : ∀ x ∈ t, x ≤ k) : t.sum ≤ t.length * k := by
  induction t with
  | nil => simp
  | cons x r ih =>
    have h1 := ih fun y hy => h y (List.mem_cons_of_mem _ hy)
    have h2 := h x (List.mem_cons_self ..)
    rw [List.sum_cons, List.length_cons]
    have : ((r.length + 1 : Nat) : Int) * k = r.length * k + k := by rw [Int.natCast_add, Int.add_mul]; simp
    omega
theorem Col.most_le {l : List (List Int)} (C : Col l) : mostC l ≤ 1001000 := by
  have h : mostC l ∈ 1 :: l.map extent := mxL_mem (by simp)
  rcases List.mem_cons.mp h with h | h
  · omega
  · obtain ⟨t, ht, hx⟩ := List.mem_map.mp h
    have h1 := sum_le (t := t) (k := 1000) fun x hx => (C.pos t ht x hx).2
    have h2 := C.len t ht
    rw [← hx]; unfold extent
    omega
theorem sum_ge {t : List Int} (h : ∀ x ∈ t, 1 ≤ x) {x : Int} (hx : x ∈ t) : x + t.length - 1 ≤ t.sum := by
  induction t with
  | nil => nomatch hx
  | cons y r ih =>
    have hy := h y (List.mem_cons_self ..)
    have hl : (r.length : Int) ≤ r.sum := by
      clear ih hx
      induction r with
      | nil => simp
      | cons z q ih2 =>
        have := h z (by simp)
        have := ih2 fun u hu => h u (by rcases List.mem_cons.mp hu with rfl | hu <;> simp_all)
        rw [List.sum_cons, List.length_cons]; omega
    rw [List.sum_cons, List.length_cons]
    rcases List.mem_cons.mp hx with rfl | hx
    · omega
    · have := ih (fun u hu => h u (List.mem_cons_of_mem _ hu)) hx
      omega
theorem Col.least_most {l : List (List Int)} (C : Col l) : leastC l ≤ mostC l := by
  have h : leastC l ∈ 1 :: l.flatten := mxL_mem (by simp)
  rcases List.mem_cons.mp h with h | h
  · rw [h]; exact mxL_le (List.mem_cons_self ..)
  · obtain ⟨t, ht, hx⟩ := List.mem_flatten.mp h
    have h1 := sum_ge (fun x hx => (C.pos t ht x hx).1) hx
    have h2 : extent t ≤ mostC l := mxL_le (List.mem_cons_of_mem _ (List.mem_map.mpr ⟨t, ht, rfl⟩))
    unfold extent at h2
    have : 1 ≤ (t.length : Int) := by cases t with
      | nil => nomatch hx
      | cons => simp; omega
    omega
theorem pf_line_steps_ev {m : Nat} {sh : List (List (List Int))} (S : Sheet m sh) {c : Nat} (hc : c < m) : pf_line_steps [tupTT sh, .int (c : Int)] = some (tupI (stepsC (colOf sh c))) := by
  have C := S.col hc
  have hn := pf_narrowest_ev S
  have hl := pf_lines_at_ev S hc
  have hw := pf_widest_text_ev S hc
  have a1 := C.least_le
  have a2 := C.most_le
  have a3 := least1 (colOf sh c)
  have a4 := C.least_most
  have hix : gIx (tupI ((List.range m).map fun c => leastC (colOf sh c))) (.int (c : Int)) = some (.int (leastC (colOf sh c))) := by
    rw [gIx_T (by simpa using hc)]
    simp [lenAt, hc]
  have hloop : ∃ s, c_line_steps_1 [.va (tupTT sh), .va (.int (c : Int)), .ow [.int (leastC (colOf sh c))], .un] = some (.nx, [.va (tupTT sh), .va (.int (c : Int)), .ow ((stepsC (colOf sh c)).map .int), s]) := by
    obtain ⟨e', h4⟩ := forL_runI (g := tgName 3) (fb := b_line_steps_1) PyData.int (fun n (l : List Int) e => ∃ s, Jk s ∧ l.length ≤ n + 1 ∧ e = [.va (tupTT sh), .va (.int (c : Int)), .ow (l.map .int), s]) (fun l w => .ok (if isStep (colOf sh c) w = true then l ++ [w] else l)) (rngI (leastC (colOf sh c) + 1) (mostC (colOf sh c) - leastC (colOf sh c)).toNat) 0 [leastC (colOf sh c)] [.va (tupTT sh), .va (.int (c : Int)), .ow [.int (leastC (colOf sh c))], .un]
      ⟨_, jk_un, by simp, rfl⟩
      (by
        rintro j l e w hw ⟨s, hs, hle, rfl⟩
        have hj := (List.getElem?_eq_some_iff.mp hw).1
        rw [rngI_len] at hj
        have hll : l.length < 16777216 := by omega
        refine ⟨[.va (tupTT sh), .va (.int (c : Int)), .ow (l.map .int), .va (.int w)], [.va (tupTT sh), .va (.int (c : Int)), .ow ((if isStep (colOf sh c) w = true then l ++ [w] else l).map .int), .va (.int w)], ?_, ?_, _, jk_va _, ?_, rfl⟩
        · rcases hs with rfl | ⟨d, rfl⟩ <;> simp
        · by_cases hq : linesC (colOf sh c) w = linesC (colOf sh c) (w - 1)
          · simp [b_line_steps_1, hl, gNe_OIs, isStep, hq]
          · simp [b_line_steps_1, hl, gNe_OIs, isStep, hq, gAppend, hll]
        · split
          · simp; omega
          · omega)
    rw [runE_ok, foldl_filter] at h4
    obtain ⟨h4, s, _, _, rfl⟩ := h4
    refine ⟨s, ?_⟩
    unfold c_line_steps_1
    have hg : gRng2 [.int (leastC (colOf sh c) + 1), .int (mostC (colOf sh c) + 1)] = some ((rngI (leastC (colOf sh c) + 1) (mostC (colOf sh c) - leastC (colOf sh c)).toNat).map PyData.int) := by
      rw [gRng2_i (by omega) (by omega) (by omega) (by omega), rngD_I]
      congr 3
      omega
    have h0 : atI [PyData.int (leastC (colOf sh c))] 0 = some (.int (leastC (colOf sh c))) := rfl
    simp [h0, hw, hg]
    exact h4
  obtain ⟨s, hloop⟩ := hloop
  simp [pf_line_steps, pfP, env0, mm_line_steps, hn, hix, hloop]
  rfl
end Law

namespace Law
open PySem L2 Evl Pd
def nonE (t : List Int) : Bool := !t.isEmpty
theorem law_steps_2_ev {m : Nat} {sh : List (List (List Int))} (S : Sheet m sh) {c : Nat} (hc : c < m) (x1 : Sl) : c__law_steps_2 [.va (tupTT sh), x1, .va (txts (colOf sh c)), .un, .un, .un, .un, .un, .un, .un, .un] = some (lstI (((colOf sh c).filter nonE).map mxL), [.va (tupTT sh), x1, .va (txts (colOf sh c)), .un, .un, .un, .un, .un, .un, .un, .un]) := by
  have C := S.col hc
  unfold c__law_steps_2
  rw [fLc_pure (T := List Int) (xs := colOf sh c) (enc := tupI) (e1 := [.va (tupTT sh), x1, .va (txts (colOf sh c)), .un, .un, .un, .un, .un, .un, .un, .un]) (e0 := [.va (tupTT sh), x1, .va (txts (colOf sh c)), .un, .un, .un, .un, .un, .un, .un, .un]) (by simp)
    (fun e => ∃ s, Jk s ∧ e = [.va (tupTT sh), x1, .va (txts (colOf sh c)), .un, .un, .un, .un, .un, .un, .un, s]) nonE (fun t => .int (mxL t)) ⟨_, jk_un, rfl⟩ (by rintro e ⟨s, hs, rfl⟩; simp) (by have := C.rows; omega)
    (by
      rintro t e hr ⟨s, hs, rfl⟩
      by_cases ht : t = []
      · subst ht
        simp [nonE, jk_va]
      · have hm := gMax1_TT ht
        have he : t.isEmpty = false := by cases t with
          | nil => exact absurd rfl ht
          | cons => rfl
        simp [nonE, he, hm, jk_va])]
  unfold lstI; rw [List.map_map]; rfl
theorem law_steps_3_ev {m : Nat} {sh : List (List (List Int))} (S : Sheet m sh) {c : Nat} (hc : c < m) (x1 x3 : Sl) : c__law_steps_3 [.va (tupTT sh), x1, .va (txts (colOf sh c)), x3, .un, .un, .un, .un, .un, .un, .un] = some (lstI (((colOf sh c).filter nonE).map extent), [.va (tupTT sh), x1, .va (txts (colOf sh c)), x3, .un, .un, .un, .un, .un, .un, .un]) := by
  have C := S.col hc
  unfold c__law_steps_3
  rw [fLc_pure (T := List Int) (xs := colOf sh c) (enc := tupI) (e1 := [.va (tupTT sh), x1, .va (txts (colOf sh c)), x3, .un, .un, .un, .un, .un, .un, .un]) (e0 := [.va (tupTT sh), x1, .va (txts (colOf sh c)), x3, .un, .un, .un, .un, .un, .un, .un]) (by simp)
    (fun e => ∃ s, Jk s ∧ e = [.va (tupTT sh), x1, .va (txts (colOf sh c)), x3, .un, .un, .un, .un, .un, .un, s]) nonE (fun t => .int (extent t)) ⟨_, jk_un, rfl⟩ (by rintro e ⟨s, hs, rfl⟩; simp) (by have := C.rows; omega)
    (by
      rintro t e hr ⟨s, hs, rfl⟩
      by_cases ht : t = []
      · subst ht
        simp [nonE, jk_va]
      · have he : t.isEmpty = false := by cases t with
          | nil => exact absurd rfl ht
          | cons => rfl
        simp [nonE, he, extent, jk_va])]
  unfold lstI; rw [List.map_map]; rfl
theorem law_least (l : List (List Int)) : mxL (1 :: (l.filter nonE).map mxL) = leastC l := by
  unfold leastC
  refine mxL_same (by simp) (by simp) (fun x hx => ?_) fun y hy => ?_
  · rcases List.mem_cons.mp hx with rfl | hx
    · exact ⟨_, List.mem_cons_self .., Int.le_refl _⟩
    · obtain ⟨t, ht, rfl⟩ := List.mem_map.mp hx
      obtain ⟨h1, h2⟩ := List.mem_filter.mp ht
      have hne : t ≠ [] := fun e => by rw [e] at h2; cases h2
      exact ⟨_, List.mem_cons_of_mem _ (List.mem_flatten.mpr ⟨t, h1, mxL_mem hne⟩), Int.le_refl _⟩
  · rcases List.mem_cons.mp hy with rfl | hy
    · exact ⟨_, List.mem_cons_self .., Int.le_refl _⟩
    · obtain ⟨t, ht, hx⟩ := List.mem_flatten.mp hy
      have hne : nonE t = true := by cases t with
        | nil => nomatch hx
        | cons => rfl
      exact ⟨_, List.mem_cons_of_mem _ (List.mem_map.mpr ⟨t, List.mem_filter.mpr ⟨ht, hne⟩, rfl⟩), mxL_le hx⟩
theorem law_most (l : List (List Int)) : mxL (1 :: (l.filter nonE).map extent) = mostC l := by
  unfold mostC
  refine mxL_same (by simp) (by simp) (fun x hx => ?_) fun y hy => ?_
  · rcases List.mem_cons.mp hx with rfl | hx
    · exact ⟨_, List.mem_cons_self .., Int.le_refl _⟩
    · obtain ⟨t, ht, rfl⟩ := List.mem_map.mp hx
      exact ⟨_, List.mem_cons_of_mem _ (List.mem_map.mpr ⟨t, (List.mem_filter.mp ht).1, rfl⟩), Int.le_refl _⟩
  · rcases List.mem_cons.mp hy with rfl | hy
    · exact ⟨_, List.mem_cons_self .., Int.le_refl _⟩
    · obtain ⟨t, ht, rfl⟩ := List.mem_map.mp hy
      by_cases hne : nonE t = true
      · exact ⟨_, List.mem_cons_of_mem _ (List.mem_map.mpr ⟨t, List.mem_filter.mpr ⟨ht, hne⟩, rfl⟩), Int.le_refl _⟩
      · have : t = [] := by cases t with
          | nil => rfl
          | cons => exact absurd rfl hne
        subst this
        exact ⟨_, List.mem_cons_self .., by unfold extent; simp⟩
/-- the law's own walk -/
def lsStep (l : List (List Int)) (s : List Int × Option (List (Option Int))) (w : Int) : List Int × Option (List (Option Int)) := (if some (linesC l w) = s.2 then s.1 else s.1 ++ [w], some (linesC l w))
theorem lsFold (l : List (List Int)) (n : Nat) (lo : Int) (f : List Int) : ((rngI lo n).foldl (lsStep l) (f, some (linesC l (lo - 1)))).1 = f ++ (rngI lo n).filter (isStep l) := by
  induction n generalizing lo f with
  | zero => simp [rngI]
  | succ n ih =>
    rw [rngI_succ, List.foldl_cons, List.filter_cons]
    have e : lsStep l (f, some (linesC l (lo - 1))) lo = (if isStep l lo = true then f ++ [lo] else f, some (linesC l (lo + 1 - 1))) := by
      unfold lsStep isStep
      rw [show lo + 1 - 1 = lo by omega]
      by_cases h : linesC l lo = linesC l (lo - 1) <;> simp [h]
    rw [e, ih]
    cases isStep l lo <;> simp
theorem lsAll (l : List (List Int)) (C : Col l) : ((rngI (leastC l) (mostC l + 1 - leastC l).toNat).foldl (lsStep l) ([], none)).1 = stepsC l := by
  have h := C.least_most
  obtain ⟨n, hn⟩ : ∃ n : Nat, (mostC l + 1 - leastC l).toNat = n + 1 := ⟨(mostC l - leastC l).toNat, by omega⟩
  rw [hn, rngI_succ, List.foldl_cons]
  have e : lsStep l ([], none) (leastC l) = ([leastC l], some (linesC l (leastC l + 1 - 1))) := by
    unfold lsStep
    rw [show leastC l + 1 - 1 = leastC l by omega]
    simp
  rw [e, lsFold]
  unfold stepsC
  rw [show (mostC l - leastC l).toNat = n by omega]; rfl
theorem encB_some (l : List (Option Int)) : encB (some l) = OIs l := rfl
theorem gMul_1 (w : Int) (b : Bool) : gMul (.list [.int w]) (.int (if b = true then 1 else 0)) = some (.list (if b = true then [.int w] else [])) := by
  cases b <;> rfl
theorem pf__law_steps_ev {m : Nat} {sh : List (List (List Int))} (S : Sheet m sh) {c : Nat} (hc : c < m) : pf__law_steps [tupTT sh, .int (c : Int)] = some (lstI (stepsC (colOf sh c))) := by
  have C := S.col hc
  have h1 := c__law_steps_1_ev S hc
  have h2 := law_steps_2_ev S hc (.va (.int (c : Int)))
  have h3 := law_steps_3_ev S hc (.va (.int (c : Int))) (.va (.int (leastC (colOf sh c))))
  have a1 := C.least_le
  have a2 := C.most_le
  have a3 := least1 (colOf sh c)
  have a4 := C.least_most
  have hg := lsAll _ C
  generalize hL : colOf sh c = L at *
  have h5 : ∀ (w : Int) (x1 x3 x4 x5 x6 x8 : Sl), c__law_steps_5 [.va (tupTT sh), x1, .va (txts L), x3, x4, x5, x6, .va (.int w), x8, .un, .un] = some (OIs (linesC L w), [.va (tupTT sh), x1, .va (txts L), x3, x4, x5, x6, .va (.int w), x8, .un, .un]) := by
    intro w x1 x3 x4 x5 x6 x8
    unfold c__law_steps_5
    rw [fLc_map (T := List Int) (xs := L) (enc := tupI) (e1 := [.va (tupTT sh), x1, .va (txts L), x3, x4, x5, x6, .va (.int w), x8, .un, .un]) (e0 := [.va (tupTT sh), x1, .va (txts L), x3, x4, x5, x6, .va (.int w), x8, .un, .un]) (by simp)
      (fun e => ∃ s, Jk s ∧ e = [.va (tupTT sh), x1, .va (txts L), x3, x4, x5, x6, .va (.int w), x8, .un, s]) (fun t => OI (tlines t w)) ⟨_, jk_un, rfl⟩ (by rintro e ⟨s, hs, rfl⟩; simp) (by have := C.rows; omega)
      (by
        rintro t e hr ⟨s, hs, rfl⟩
        simp [pf__law_lines_ev, jk_va])]
    unfold OIs linesC
    rw [List.map_map]; rfl
  obtain ⟨q1, hq1⟩ : ∃ q, q = (L.filter nonE).map mxL := ⟨_, rfl⟩
  obtain ⟨q2, hq2⟩ : ∃ q, q = (L.filter nonE).map extent := ⟨_, rfl⟩
  have z1 : q1.length ≤ 16777215 := by rw [hq1, List.length_map]; have := List.length_filter_le nonE L; have := C.rows; omega
  have z2 : q2.length ≤ 16777215 := by rw [hq2, List.length_map]; have := List.length_filter_le nonE L; have := C.rows; omega
  have m1 : q1.foldl max 1 = leastC L := by have := law_least L; rw [← hq1] at this; exact this
  have m2 : q2.foldl max 1 = mostC L := by have := law_most L; rw [← hq2] at this; exact this
  rw [← hq1] at h2
  rw [← hq2] at h3
  have g1 := gMax1_l 1 q1
  have g2 := gMax1_l 1 q2
  rw [List.map_cons, m1] at g1
  rw [List.map_cons, m2] at g2
  have hloop : ∃ s6 s7 s8, c__law_steps_4 [.va (tupTT sh), .va (.int (c : Int)), .va (txts L), .va (.int (leastC L)), .va (.int (mostC L)), .va (.list []), .va .none, .un, .un, .un, .un] = some (.nx, [.va (tupTT sh), .va (.int (c : Int)), .va (txts L), .va (.int (leastC L)), .va (.int (mostC L)), .va (lstI (stepsC L)), s6, s7, s8, .un, .un]) := by
    obtain ⟨e', h4⟩ := forL_runI (g := tgName 7) (fb := b__law_steps_4) PyData.int (fun n (s : List Int × Option (List (Option Int))) e => ∃ s7 s8, Jk s7 ∧ Jk s8 ∧ s.1.length ≤ n ∧ e = [.va (tupTT sh), .va (.int (c : Int)), .va (txts L), .va (.int (leastC L)), .va (.int (mostC L)), .va (lstI s.1), .va (encB s.2), s7, s8, .un, .un]) (fun s w => .ok (lsStep L s w)) (rngI (leastC L) (mostC L + 1 - leastC L).toNat) 0 ([], none) [.va (tupTT sh), .va (.int (c : Int)), .va (txts L), .va (.int (leastC L)), .va (.int (mostC L)), .va (.list []), .va .none, .un, .un, .un, .un]
      ⟨_, _, jk_un, jk_un, Nat.le_refl _, rfl⟩
      (by
        rintro j ⟨f, b⟩ e w hw ⟨s7, s8, hs7, hs8, hle, rfl⟩
        have hj := (List.getElem?_eq_some_iff.mp hw).1
        rw [rngI_len] at hj
        dsimp only at hle
        have hll : f.length ≤ 16777215 := by omega
        have hll0 : f.length ≤ 16777216 := by omega
        refine ⟨[.va (tupTT sh), .va (.int (c : Int)), .va (txts L), .va (.int (leastC L)), .va (.int (mostC L)), .va (lstI f), .va (encB b), .va (.int w), s8, .un, .un], [.va (tupTT sh), .va (.int (c : Int)), .va (txts L), .va (.int (leastC L)), .va (.int (mostC L)), .va (lstI (lsStep L (f, b) w).1), .va (encB (lsStep L (f, b) w).2), .va (.int w), .va (OIs (linesC L w)), .un, .un], ?_, ?_, _, _, jk_va _, jk_va _, ?_, rfl⟩
        · rcases hs7 with rfl | ⟨d, rfl⟩ <;> rcases hs8 with rfl | ⟨d, rfl⟩ <;> simp
        · by_cases hq : some (linesC L w) = b
          · subst hq
            rcases hs8 with rfl | ⟨d, rfl⟩ <;> simp [b__law_steps_4, h5, gNe_OIs, lsStep, lstI, hll0, encB_some]
          · rcases hs8 with rfl | ⟨d, rfl⟩ <;> simp [b__law_steps_4, h5, gNe_B, hq, lsStep, lstI, hll, encB_some]
        · unfold lsStep
          dsimp only
          split
          · omega
          · simp; omega)
    rw [runE_ok] at h4
    obtain ⟨h4, s7, s8, _, _, _, rfl⟩ := h4
    refine ⟨.va (encB ((rngI (leastC L) (mostC L + 1 - leastC L).toNat).foldl (lsStep L) ([], none)).2), s7, s8, ?_⟩
    unfold c__law_steps_4
    have hgr : gRng2 [.int (leastC L), .int (mostC L + 1)] = some ((rngI (leastC L) (mostC L + 1 - leastC L).toNat).map PyData.int) := by
      rw [gRng2_i (by omega) (by omega) (by omega) (by omega), rngD_I]
    simp [hgr]
    rw [hg] at h4
    exact h4
  obtain ⟨s6, s7, s8, hloop⟩ := hloop
  unfold lstI at h2 h3
  simp [pf__law_steps, pfP, env0, mm__law_steps, h1, h2, h3, hloop, z1, z2, Nat.add_comm 1, g1, g2]
end Law

namespace Law
open PySem L2 Evl Pd
/-! ### heights -/
def hKv (l : List (List Int)) (st : List Int) : List (PyData × PyData) := st.map fun w => (.int w, OIs (linesC l w))
theorem putD_new {acc : List (PyData × PyData)} {w : Int} {v : PyData} (h : ∀ kv ∈ acc, ∃ u : Int, kv.1 = .int u ∧ u ≠ w) : putD acc (.int w) v = some (acc ++ [(.int w, v)]) := by
  unfold putD keyD
  dsimp only
  rw [if_neg]
  intro hq
  obtain ⟨kv, hkv, e⟩ := List.any_eq_true.mp hq
  obtain ⟨u, e1, e2⟩ := h kv hkv
  rw [e1] at e
  have e' : some (Sum.inl u : Key) = some (Sum.inl w) := by simpa using e
  cases e'
  exact e2 rfl
theorem pf_heights_by_ev {m : Nat} {sh : List (List (List Int))} (S : Sheet m sh) {c : Nat} (hc : c < m) {st : List Int} (hz : st.length ≤ 16777215) (nd : st.Nodup) : pf_heights_by [tupTT sh, .int (c : Int), lstI st] = some (.dict (hKv (colOf sh c) st)) := by
  have hl := pf_lines_at_ev S hc
  have key : ∀ (xs done : List Int) (s : Sl), Jk s → done ++ xs = st → ∃ s', dcL [3] (tgName 3) fYes (fV 3) (mA pf_lines_at (fCons (fV 0) (fCons (fV 1) (fCons (fV 3) fNil)))) (xs.map PyData.int) (hKv (colOf sh c) done) [.va (tupTT sh), .va (.int (c : Int)), .va (lstI st), s] = some (hKv (colOf sh c) st, [.va (tupTT sh), .va (.int (c : Int)), .va (lstI st), s']) := by
    intro xs
    induction xs with
    | nil => intro done s _ e; rw [List.append_nil] at e; subst e; exact ⟨s, rfl⟩
    | cons x r ih =>
      intro done s hs e
      obtain ⟨s', h⟩ := ih (done ++ [x]) (.va (.int x)) (jk_va _) (by rw [← e]; simp)
      refine ⟨s', ?_⟩
      rw [List.map_cons]
      unfold dcL
      have hx : x ∉ done := by
        rw [← e] at nd
        have := (List.nodup_append.mp nd).2.2
        intro hq
        exact this x hq x (List.mem_cons_self ..) rfl
      have hput : putD (hKv (colOf sh c) done) (.int x) (OIs (linesC (colOf sh c) x)) = some (hKv (colOf sh c) (done ++ [x])) := by
        rw [putD_new]
        · unfold hKv; simp
        · intro kv hkv
          obtain ⟨u, hu, rfl⟩ := List.mem_map.mp hkv
          exact ⟨u, rfl, fun z => hx (z ▸ hu)⟩
      have hlen : (hKv (colOf sh c) done).length < 16777216 := by
        unfold hKv; rw [List.length_map]
        have := congrArg List.length e
        simp at this; omega
      have e1 : tgName 3 (PyData.int x) (wipeE [.va (tupTT sh), .va (.int (c : Int)), .va (lstI st), s] [3]) = some [.va (tupTT sh), .va (.int (c : Int)), .va (lstI st), .va (.int x)] := by simp
      rw [e1]
      simp only [fYes_ap, fV_ap, mA_ap, fCons_ap, fNil_ap, List.getElem?_cons_zero, List.getElem?_cons_succ, hl, mlift_s, hput, hlen, decide_true, if_true]
      exact h
  obtain ⟨s', h⟩ := key st [] .un jk_un rfl
  have h1 : c_heights_by_1 [.va (tupTT sh), .va (.int (c : Int)), .va (lstI st), .un] = some (.dict (hKv (colOf sh c) st), [.va (tupTT sh), .va (.int (c : Int)), .va (lstI st), .un]) := by
    unfold c_heights_by_1 fDc
    simp only [mbind_ap, mI_ap, fV_ap, List.getElem?_cons_zero, List.getElem?_cons_succ, gSeq_L, mlift_s]
    rw [show hKv (colOf sh c) [] = [] from rfl] at h
    rw [h]
    simp
  simp [pf_heights_by, pfP, env0, mm_heights_by, h1]
theorem dget_h {l : List (List Int)} {st : List Int} {w : Int} (h : w ∈ st) : dget (hKv l st) (.int w) = some (OIs (linesC l w)) := by
  unfold dget keyD
  dsimp only
  induction st with
  | nil => nomatch h
  | cons x r ih =>
    unfold hKv
    rw [List.map_cons, List.find?_cons]
    by_cases hx : x = w
    · subst hx; simp
    · have hw : w ∈ r := by rcases List.mem_cons.mp h with e | e; exact absurd e.symm hx; exact e
      have : decide ((match (PyData.int x) with
        | PyData.int i => some (Sum.inl i : Key)
        | PyData.str x => some (Sum.inr x)
        | _ => none) = some (Sum.inl w)) = false := by
        rw [decide_eq_false_iff_not]; intro e; cases e; exact hx rfl
      dsimp only at this ⊢
      rw [this]
      exact ih hw
theorem gIx_d (kvs : List (PyData × PyData)) (k : PyData) : gIx (.dict kvs) k = dget kvs k := by cases k <;> rfl
/-! ### all_lines -/
def rowF (ws : List Int) (row : List (List Int)) : Int := mxL ((rowL ws row).map OIv)
def Fs (sh : List (List (List Int))) (ws : List Int) : Int := (sh.map (rowF ws)).sum
theorem rowL_range {m : Nat} {ws : List Int} {row : List (List Int)} (h1 : row.length = m) (h2 : ws.length = m) : rowL ws row = (List.range m).map fun c => tlines (row.getD c []) (ws.getD c 0) := by
  refine List.ext_getElem (by rw [rowL_len h1 h2]; simp) fun i hi hi2 => ?_
  have hm : i < m := by simpa using hi2
  have l1 : i < row.length := by omega
  have l2 : i < ws.length := by omega
  simp only [rowL, List.getElem_map, List.getElem_zip, List.getElem_range]
  simp [List.getD, l1, l2]
theorem tlines_some {t : List Int} {w : Int} (h : ∀ x ∈ t, x ≤ w) : tlines t w = some (max 1 (lnFold t w)) := by
  unfold tlines
  rw [if_neg]
  intro hq
  obtain ⟨x, hx, e⟩ := List.any_eq_true.mp hq
  have := h x hx
  have : w < x := by simpa using e
  omega
/-- every text fits -/
def Fits (m : Nat) (sh : List (List (List Int))) (ws : List Int) : Prop := ws.length = m ∧ ∀ c, c < m → leastC (colOf sh c) ≤ ws.getD c 0
theorem Fits.le {m : Nat} {sh : List (List (List Int))} {ws : List Int} (S : Sheet m sh) (h : Fits m sh ws) {row : List (List Int)} (hr : row ∈ sh) {c : Nat} (hc : c < m) : ∀ x ∈ row.getD c [], x ≤ ws.getD c 0 := fun x hx => by
  have h1 := h.2 c hc
  have : x ≤ leastC (colOf sh c) := mxL_le (List.mem_cons_of_mem _ (List.mem_flatten.mpr ⟨row.getD c [], List.mem_map.mpr ⟨row, hr, rfl⟩, hx⟩))
  omega
theorem Fits.some {m : Nat} {sh : List (List (List Int))} {ws : List Int} (S : Sheet m sh) (h : Fits m sh ws) {row : List (List Int)} (hr : row ∈ sh) : (rowL ws row).any Option.isNone = false := by
  rw [rowL_range (S.wid row hr) h.1, List.any_eq_false]
  intro o ho
  obtain ⟨c, hc, rfl⟩ := List.mem_map.mp ho
  have hc' := List.mem_range.mp hc
  rw [tlines_some (h.le S hr hc')]
  simp
theorem rowLines_fits {m : Nat} {sh : List (List (List Int))} {ws : List Int} (S : Sheet m sh) (h : Fits m sh ws) : rowLines ws sh = .ok (sh.map (rowF ws)) := by
  unfold rowLines
  have key : ∀ (xs : List (List (List Int))) (acc : List Int), (∀ r ∈ xs, r ∈ sh) → runE (rlStep ws) acc xs = .ok (acc ++ xs.map (rowF ws)) := by
    intro xs
    induction xs with
    | nil => intro acc _; simp [runE]
    | cons r q ih =>
      intro acc hx
      have hs := h.some S (hx r (List.mem_cons_self ..))
      have st : rlStep ws acc r = .ok (acc ++ [rowF ws r]) := by unfold rlStep rowMax; rw [hs]; rfl
      unfold runE
      rw [st]
      dsimp only
      rw [ih _ fun z hz => hx z (List.mem_cons_of_mem _ hz)]
      simp
  exact key sh [] fun _ h => h
def hD (sh : List (List (List Int))) (sts : List (List Int)) : PyData := .list (sts.zipIdx.map fun p => .dict (hKv (colOf sh p.2) p.1))
/-- one of the steps in each column -/
def Among (sts : List (List Int)) (ws : List Int) : Prop := ws.length = sts.length ∧ ∀ c, c < sts.length → ws.getD c 0 ∈ sts.getD c []
theorem pf_all_lines_ev {m : Nat} {sh : List (List (List Int))} (S : Sheet m sh) {sts : List (List Int)} (hm : sts.length = m) {ws : List Int} (hf : Fits m sh ws) (ha : Among sts ws) : pf_all_lines [hD sh sts, tupI ws] = some (.int (Fs sh ws)) := by
  have hlw : ws.length = m := hf.1
  obtain ⟨ls, hls⟩ : ∃ ls, ls = (List.range m).map fun c => OIs (linesC (colOf sh c) (ws.getD c 0)) := ⟨_, rfl⟩
  have h1 : c_all_lines_1 [.va (hD sh sts), .va (tupI ws), .un, .un, .un, .un] = some (.list ls, [.va (hD sh sts), .va (tupI ws), .un, .un, .un, .un]) := by
    unfold c_all_lines_1
    rw [fLc_map (T := Int × Nat) (xs := ws.zipIdx) (enc := fun p => .tuple [.int (p.2 : Nat), .int p.1]) (e1 := [.va (hD sh sts), .va (tupI ws), .un, .un, .un, .un]) (e0 := [.va (hD sh sts), .va (tupI ws), .un, .un, .un, .un]) (by simp)
      (fun e => ∃ s3 s4, Jk s3 ∧ Jk s4 ∧ e = [.va (hD sh sts), .va (tupI ws), .un, s3, s4, .un]) (fun p => OIs (linesC (colOf sh p.2) p.1)) ⟨_, _, jk_un, jk_un, rfl⟩ (by rintro e ⟨s3, s4, hs3, hs4, rfl⟩; simp) (by have := S.m3; simp; omega)
      (by
        rintro ⟨w, c⟩ e hi ⟨s3, s4, hs3, hs4, rfl⟩
        obtain ⟨i, hi, e1⟩ := List.mem_iff_getElem.mp hi
        have hi' : i < ws.length := by simpa using hi
        simp at e1
        obtain ⟨e1, e2⟩ := e1
        subst e2
        have hci : i < sts.length := by omega
        have q1 : gIx (hD sh sts) (.int (i : Int)) = some (.dict (hKv (colOf sh i) (sts.getD i []))) := by
          unfold hD
          rw [gIx_l]
          refine Pd.atI_nat ?_
          rw [List.getElem?_map, List.getElem?_zipIdx, List.getElem?_eq_getElem hci]
          simp [List.getD, hci]
        have q2 : gIx (.dict (hKv (colOf sh i) (sts.getD i []))) (.int w) = some (OIs (linesC (colOf sh i) w)) := by
          rw [gIx_d]
          refine dget_h ?_
          have := ha.2 i hci
          have e3 : ws.getD i 0 = w := by simp [List.getD, hi', e1]
          rw [e3] at this
          exact this
        refine ⟨[.va (hD sh sts), .va (tupI ws), .un, .va (.int (i : Int)), .va (.int w), .un], ?_, [.va (hD sh sts), .va (tupI ws), .un, .va (.int (i : Int)), .va (.int w), .un], ?_, _, _, jk_va _, jk_va _, rfl⟩
        · rcases hs3 with rfl | ⟨d, rfl⟩ <;> rcases hs4 with rfl | ⟨d, rfl⟩ <;> simp
        · generalize sts.getD i [] = st at q1 q2
          simp [q1, q2])]
    rw [hls]
    congr 3
    refine List.ext_getElem (by simp [hlw]) fun i hi hi2 => ?_
    have : i < ws.length := by simpa using hi
    simp [List.getD, this]
  have hseq : seqsOf ls = some ((List.range m).map fun c => (linesC (colOf sh c) (ws.getD c 0)).map OI) := by
    rw [hls]
    generalize List.range m = cs
    induction cs with
    | nil => rfl
    | cons c r ih => 
      rw [List.map_cons, List.map_cons]
      unfold seqsOf
      rw [ih]; rfl
  have hne : ls ≠ [] := by
    rw [hls]
    have := S.m1
    intro e
    have := congrArg List.length e
    simp at this; omega
  have hl3 : ls.length ≤ 3 := by rw [hls]; simp; exact S.m3
  have hz : zipSD ((List.range m).map fun c => (linesC (colOf sh c) (ws.getD c 0)).map OI) = sh.map fun row => tupI ((rowL ws row).map OIv) := by
    have hlen : leastN ((List.range m).map fun c => (linesC (colOf sh c) (ws.getD c 0)).map OI) = sh.length := by
      have hne2 : ((List.range m).map fun c => (linesC (colOf sh c) (ws.getD c 0)).map OI) ≠ [] := by
        intro e
        have := congrArg List.length e
        have := S.m1
        simp at *; omega
      obtain ⟨r, hr, e⟩ := leastN_eq hne2
      obtain ⟨c, _, rfl⟩ := List.mem_map.mp hr
      rw [e]; simp [linesC, colOf]
    refine List.ext_getElem? fun i => ?_
    rcases Nat.lt_or_ge i sh.length with hi | hi
    · rw [List.getElem?_map, List.getElem?_eq_getElem hi]
      have hi2 : i < (zipSD ((List.range m).map fun c => (linesC (colOf sh c) (ws.getD c 0)).map OI)).length := by rw [zipSD_len, hlen]; exact hi
      obtain ⟨_, e⟩ := zipSD_get (List.getElem?_eq_getElem hi2)
      rw [List.getElem?_eq_getElem hi2, e]
      have hrow := List.getElem_mem hi
      simp only [Option.map_some]
      congr 1
      unfold tupI
      congr 1
      rw [rowL_range (S.wid _ hrow) hlw, List.map_map, List.map_map, List.map_map]
      refine List.map_congr_left fun c hc => ?_
      have hc' := List.mem_range.mp hc
      have ht := tlines_some (hf.le S hrow hc')
      simp only [Function.comp]
      rw [ht]
      simp [linesC, colOf, List.getD, hi]
      have hcl : c < sh[i].length := by rw [S.wid _ hrow]; exact hc'
      have hcw : c < ws.length := by omega
      simp [List.getD, hcl, hcw] at ht ⊢
      rw [ht]; rfl
    · rw [List.getElem?_eq_none (by rw [zipSD_len, hlen]; exact hi), List.getElem?_eq_none (by simpa using hi)]
  have h2 : c_all_lines_2 [.va (hD sh sts), .va (tupI ws), .va (.list ls), .un, .un, .un] = some (lstI (sh.map (rowF ws)), [.va (hD sh sts), .va (tupI ws), .va (.list ls), .un, .un, .un]) := by
    have hgz : gZipS (.list ls) = some (sh.map fun row => tupI ((rowL ws row).map OIv)) := by
      unfold gZipS
      rw [gSeq_l]
      cases ls with
      | nil => exact absurd rfl hne
      | cons a r =>
        dsimp only
        rw [if_pos (by simp at hl3; omega), hseq, ← hz]; rfl
    unfold c_all_lines_2
    rw [fLc_map (T := List (List Int)) (xs := sh) (enc := fun row => tupI ((rowL ws row).map OIv)) (e1 := [.va (hD sh sts), .va (tupI ws), .va (.list ls), .un, .un, .un]) (e0 := [.va (hD sh sts), .va (tupI ws), .va (.list ls), .un, .un, .un]) (by simp [hgz])
      (fun e => ∃ s, Jk s ∧ e = [.va (hD sh sts), .va (tupI ws), .va (.list ls), .un, .un, s]) (fun row => .int (rowF ws row)) ⟨_, jk_un, rfl⟩ (by rintro e ⟨s, hs, rfl⟩; simp) (by have := S.rows; omega)
      (by
        rintro row e hr ⟨s, hs, rfl⟩
        have hne := rowL_ne (S.wid row hr) hlw S.m1
        have hmx := gMax1_TT (xs := (rowL ws row).map OIv) (by simpa using hne)
        have e3 : rowF ws row = mxL ((rowL ws row).map OIv) := rfl
        rw [e3]
        generalize (rowL ws row).map OIv = q at hmx
        simp [hmx, jk_va])]
    unfold lstI; rw [List.map_map]; rfl
  have hz : ls.length ≤ 16777216 := by omega
  simp [pf_all_lines, pfP, env0, mm_all_lines, h1, h2, Fs]
end Law

namespace Law
open PySem L2 Evl Pd
theorem cutD_from (xs : List PyData) (k : Nat) : cutD xs (some (k : Int)) none = xs.drop k := by
  unfold cutD
  rw [HT.sIx_nat, HT.sIx_none]
  rcases Nat.le_total k xs.length with h | h
  · rw [Nat.min_eq_left h]
    exact List.take_of_length_le (by simp)
  · rw [Nat.min_eq_right h, List.drop_length, List.drop_of_length_le h]; simp
def sD (sts : List (List Int)) : PyData := .list (sts.map lstI)
@[simp] theorem gSeq_sD (sts : List (List Int)) : gSeq (sD sts) = some (sts.map lstI) := rfl
@[simp] theorem gLen_sD (sts : List (List Int)) : gLen (sD sts) = some (.int sts.length) := by unfold sD; simp
theorem gIx_sD {sts : List (List Int)} {c : Nat} (h : c < sts.length) : gIx (sD sts) (.int (c : Int)) = some (lstI (sts.getD c [])) := by
  unfold sD; rw [gIx_l]
  refine atI_map lstI ?_
  rw [List.getElem?_eq_getElem h]; simp [List.getD, h]
def tups (l : List (List Int)) : PyData := .list (l.map tupI)
@[simp] theorem gSeq_tups (l : List (List Int)) : gSeq (tups l) = some (l.map tupI) := rfl
/-- one column more, at most room wide with what must follow -/
def gwStep (sts : List (List Int)) (add : Nat → Int) (room : Int) (found : List (List Int)) (c : Nat) : List (List Int) :=
  (found.map fun p => ((sts.getD c []).filter fun s => decide (p.sum + s + add c ≤ room)).map fun s => p ++ [s]).flatten
def gwN (sts : List (List Int)) (add : Nat → Int) (room : Int) (n : Nat) : List (List Int) := (List.range n).foldl (gwStep sts add room) [[]]
theorem gwN_succ (sts : List (List Int)) (add : Nat → Int) (room : Int) (n : Nat) : gwN sts add room (n + 1) = gwStep sts add room (gwN sts add room n) n := by
  unfold gwN; rw [List.range_succ, List.foldl_append]; rfl
theorem gwN_len {sts : List (List Int)} {add : Nat → Int} {room : Int} : ∀ (n : Nat) (p : List Int), p ∈ gwN sts add room n → p.length = n
  | 0, p, h => by
    have : p = [] := by simpa [gwN] using h
    rw [this]; rfl
  | n + 1, p, h => by
    rw [gwN_succ] at h
    obtain ⟨l, hl, hp⟩ := List.mem_flatten.mp h
    obtain ⟨q, hq, rfl⟩ := List.mem_map.mp hl
    obtain ⟨s, _, rfl⟩ := List.mem_map.mp hp
    have := gwN_len n q hq
    simp [this]
def restMin (sts : List (List Int)) (c : Nat) : Int := ((sts.drop (c + 1)).map mnL).sum
theorem pf_begun_ev {sts : List (List Int)} {room : Int} (hm : sts.length ≤ 3) (h1 : 1 ≤ sts.length) (hne : ∀ l ∈ sts, l ≠ []) (hB : ∀ n, n < sts.length → (gwN sts (restMin sts) room n).length ≤ 4000) :
    pf_begun [sD sts, .int room] = some (tups (gwN sts (restMin sts) room (sts.length - 1))) := by
  have h2 : ∀ (c : Nat) (x2 x4 x5 x6 : Sl), c < sts.length → c_begun_2 [.va (sD sts), .va (.int room), x2, .va (.int (c : Int)), x4, .un, .un, .un] = some (lstI ((sts.drop (c + 1)).map mnL), [.va (sD sts), .va (.int room), x2, .va (.int (c : Int)), x4, .un, .un, .un]) := by
    intro c x2 x4 x5 x6 hc
    have hsl : gSl (sD sts) (some ((c : Int) + 1)) none = some (.list ((sts.drop (c + 1)).map lstI)) := by
      unfold sD
      rw [gSl_l]
      have : ((c : Int) + 1) = ((c + 1 : Nat) : Int) := by omega
      rw [this, cutD_from, List.map_drop]
    unfold c_begun_2
    rw [fLc_map (T := List Int) (xs := sts.drop (c + 1)) (enc := lstI) (e1 := [.va (sD sts), .va (.int room), x2, .va (.int (c : Int)), x4, .un, .un, .un]) (e0 := [.va (sD sts), .va (.int room), x2, .va (.int (c : Int)), x4, .un, .un, .un]) (by simp [hsl])
      (fun e => ∃ s, Jk s ∧ e = [.va (sD sts), .va (.int room), x2, .va (.int (c : Int)), x4, .un, .un, s]) (fun l => .int (mnL l)) ⟨_, jk_un, rfl⟩ (by rintro e ⟨s, hs, rfl⟩; simp) (by simp; omega)
      (by
        rintro l e hl ⟨s, hs, rfl⟩
        have := gMin1_LL (hne l (List.mem_of_mem_drop hl))
        simp [this, jk_va])]
    unfold lstI; rw [List.map_map]; rfl
  have h3 : ∀ (c : Nat) (f : List (List Int)) , c < sts.length → f = gwN sts (restMin sts) room c → (gwN sts (restMin sts) room (c + 1)).length ≤ 4000 → c_begun_3 [.va (sD sts), .va (.int room), .va (tups f), .va (.int (c : Int)), .va (.int (restMin sts c)), .un, .un, .un] = some (tups (gwN sts (restMin sts) room (c + 1)), [.va (sD sts), .va (.int room), .va (tups f), .va (.int (c : Int)), .va (.int (restMin sts c)), .un, .un, .un]) := by
    intro c f hc hf hlen
    have hix := gIx_sD hc
    have e1 : (f.map fun p => ((sts.getD c []).filter fun s => decide (p.sum + s + restMin sts c ≤ room)).map fun s => tupI (p ++ [s])).flatten = (gwN sts (restMin sts) room (c + 1)).map tupI := by
      rw [gwN_succ, ← hf]
      unfold gwStep
      rw [List.map_flatten, List.map_map]
      congr 1
      refine List.map_congr_left fun p _ => ?_
      simp only [Function.comp, List.map_map]
      rfl
    unfold c_begun_3
    rw [fLc2_pure (T := List Int) (U := Int) (xs := f) (enc := tupI) (e1 := [.va (sD sts), .va (.int room), .va (tups f), .va (.int (c : Int)), .va (.int (restMin sts c)), .un, .un, .un]) (e0 := [.va (sD sts), .va (.int room), .va (tups f), .va (.int (c : Int)), .va (.int (restMin sts c)), .un, .un, .un]) (by simp) PyData.int (fun _ => sts.getD c [])
      (fun e => ∃ s s2, Jk s ∧ Jk s2 ∧ e = [.va (sD sts), .va (.int room), .va (tups f), .va (.int (c : Int)), .va (.int (restMin sts c)), s, s2, .un]) (fun p e => ∃ s2, Jk s2 ∧ e = [.va (sD sts), .va (.int room), .va (tups f), .va (.int (c : Int)), .va (.int (restMin sts c)), .va (tupI p), s2, .un]) (fun p s => decide (p.sum + s + restMin sts c ≤ room)) (fun p s => tupI (p ++ [s])) ⟨_, _, jk_un, jk_un, rfl⟩
      (by rintro e ⟨s, s2, hs, hs2, rfl⟩; simp) (by rw [e1, List.length_map]; omega)
      (by
        rintro t e hr ⟨s, s2, hs, hs2, rfl⟩
        generalize sts.getD c [] = st at hix
        simp [hix, jk_un])
      (by
        rintro p u e hp hu ⟨s, hs, rfl⟩
        have hl : p.length ≤ 16777215 := by
          have := gwN_len c p (hf ▸ hp); omega
        by_cases hq : p.sum + u + restMin sts c ≤ room
        · refine ⟨[.va (sD sts), .va (.int room), .va (tups f), .va (.int (c : Int)), .va (.int (restMin sts c)), .va (tupI p), .va (.int u), .un], [.va (sD sts), .va (.int room), .va (tups f), .va (.int (c : Int)), .va (.int (restMin sts c)), .va (tupI p), .va (.int u), .un], ?_, ?_, [.va (sD sts), .va (.int room), .va (tups f), .va (.int (c : Int)), .va (.int (restMin sts c)), .va (tupI p), .va (.int u), .un], ?_, _, jk_va _, rfl⟩
          · rcases hs with rfl | ⟨d, rfl⟩ <;> simp
          · simp [hq]
          · simp [hq, hl, tupI]
        · refine ⟨[.va (sD sts), .va (.int room), .va (tups f), .va (.int (c : Int)), .va (.int (restMin sts c)), .va (tupI p), .va (.int u), .un], [.va (sD sts), .va (.int room), .va (tups f), .va (.int (c : Int)), .va (.int (restMin sts c)), .va (tupI p), .va (.int u), .un], ?_, ?_, [.va (sD sts), .va (.int room), .va (tups f), .va (.int (c : Int)), .va (.int (restMin sts c)), .va (tupI p), .va (.int u), .un], ?_, _, jk_va _, rfl⟩
          · rcases hs with rfl | ⟨d, rfl⟩ <;> simp
          · simp [hq]
          · simp [hq])
      (by
        rintro t e ht ⟨s, hs, rfl⟩
        exact ⟨_, s, jk_va _, hs, rfl⟩)]
    rw [e1]; rfl
  have hloop : ∃ s3 s4, c_begun_1 [.va (sD sts), .va (.int room), .va (.list [.tuple []]), .un, .un, .un, .un, .un] = some (.nx, [.va (sD sts), .va (.int room), .va (tups (gwN sts (restMin sts) room (sts.length - 1))), s3, s4, .un, .un, .un]) := by
    obtain ⟨e', h4⟩ := forL_runI (g := tgName 3) (fb := b_begun_1) (fun c : Nat => .int (c : Int)) (fun n (f : List (List Int)) e => ∃ s3 s4, Jk s3 ∧ Jk s4 ∧ f = gwN sts (restMin sts) room n ∧ e = [.va (sD sts), .va (.int room), .va (tups f), s3, s4, .un, .un, .un]) (fun f c => .ok (gwStep sts (restMin sts) room f c)) (List.range (sts.length - 1)) 0 [[]] [.va (sD sts), .va (.int room), .va (.list [.tuple []]), .un, .un, .un, .un, .un]
      ⟨_, _, jk_un, jk_un, rfl, rfl⟩
      (by
        rintro j f e c hcj ⟨s3, s4, hs3, hs4, hf, rfl⟩
        obtain ⟨q1, q2⟩ := List.getElem?_eq_some_iff.mp hcj
        simp at q1 q2
        subst q2
        rw [Nat.zero_add] at hf
        have hj : j < sts.length := by omega
        have hb := hB (j + 1) (by omega)
        have a3 := h3 j f hj hf hb
        have hsum : restMin sts j = ((sts.drop (j + 1)).map mnL).sum := rfl
        refine ⟨[.va (sD sts), .va (.int room), .va (tups f), .va (.int (j : Int)), s4, .un, .un, .un], [.va (sD sts), .va (.int room), .va (tups (gwN sts (restMin sts) room (j + 1))), .va (.int (j : Int)), .va (.int (restMin sts j)), .un, .un, .un], ?_, ?_, .va (.int (j : Int)), .va (.int (restMin sts j)), jk_va _, jk_va _, ?_, ?_⟩
        · rcases hs3 with rfl | ⟨d, rfl⟩ <;> simp
        · have a2 := h2 j (.va (tups f)) s4 .un .un hj
          obtain ⟨ms, hms⟩ : ∃ ms, (sts.drop (j + 1)).map mnL = ms := ⟨_, rfl⟩
          rw [hms] at a2 hsum
          rcases hs4 with rfl | ⟨d, rfl⟩ <;> simp [b_begun_1, a2, ← hsum, a3]
        · rw [Nat.zero_add, gwN_succ, ← hf]
        · rw [gwN_succ, ← hf])
    rw [runE_ok] at h4
    obtain ⟨h4, s3, s4, _, _, _, rfl⟩ := h4
    refine ⟨s3, s4, ?_⟩
    have hg := gRng1_n (n := sts.length - 1) (by omega)
    rw [rngD_range] at hg
    have e2 : ((sts.length : Int) - 1) = ((sts.length - 1 : Nat) : Int) := by omega
    unfold c_begun_1
    simp [e2, hg]
    exact h4
  obtain ⟨s3, s4, hloop⟩ := hloop
  simp [pf_begun, pfP, env0, mm_begun, hloop]
end Law

namespace Law
open PySem L2 Evl Pd
def mkD (p : Int × List Int) : PyData := .tuple [.int p.1, tupI p.2]
def oD : Option (Int × List Int) → PyData
  | none => .none
  | some x => mkD x
@[simp] theorem isNon_oD (b : Option (Int × List Int)) : isNon (oD b) = b.isNone := by cases b <;> rfl
theorem gIx_mkD (p : Int × List Int) : gIx (mkD p) (.int 0) = some (.int p.1) := rfl
def lastOf (lst : List Int) (room : Int) (p : List Int) : List Int := lst.filter fun s => decide (p.sum + s ≤ room)
def fewOf (sh : List (List (List Int))) (lst : List Int) (room : Int) (p : List Int) : Int := Fs sh (p ++ [(lastOf lst room p).getLastD 0])
def pickOf (sh : List (List (List Int))) (lst : List Int) (room : Int) (p : List Int) : Int := ((lastOf lst room p).filter fun s => decide (Fs sh (p ++ [s]) = fewOf sh lst room p)).headD 0
def bwStep (sh : List (List (List Int))) (lst : List Int) (room : Int) (b : Option (Int × List Int)) (p : List Int) : Option (Int × List Int) :=
  if (b.isNone || decide (fewOf sh lst room p < (b.getD (0, [])).1)) = true then some (fewOf sh lst room p, p ++ [pickOf sh lst room p]) else b
theorem getLast_ix {xs : List Int} (h : xs ≠ []) : gIx (lstI xs) (.int (-1)) = some (.int (xs.getLastD 0)) := by
  obtain ⟨i, l, rfl⟩ : ∃ i l, xs = i ++ [l] := ⟨xs.dropLast, xs.getLast h, (List.dropLast_concat_getLast h).symm⟩
  unfold lstI
  rw [gIx_l, List.map_append]
  exact Pd.atI_last.trans (by simp)
theorem head_ix {xs : List Int} (h : xs ≠ []) : gIx (lstI xs) (.int 0) = some (.int (xs.headD 0)) := by
  cases xs with
  | nil => exact absurd rfl h
  | cons x r => exact atI_map PyData.int (i := 0) rfl
theorem getLastD_mem {xs : List Int} (h : xs ≠ []) : xs.getLastD 0 ∈ xs := by
  obtain ⟨i, l, rfl⟩ : ∃ i l, xs = i ++ [l] := ⟨xs.dropLast, xs.getLast h, (List.dropLast_concat_getLast h).symm⟩
  simp
theorem bw_loop {m : Nat} {sh : List (List (List Int))} (S : Sheet m sh) {init : List (List Int)} {lst : List Int} {bg : List (List Int)} {room wide gap : Int} (hm : (init ++ [lst]).length = m) (hl : lst.length ≤ 16777215)
    (hb : pf_begun [sD (init ++ [lst]), .int room] = some (tups bg))
    (ok : ∀ p ∈ bg, lastOf lst room p ≠ [] ∧ ∀ s ∈ lastOf lst room p, Fits m sh (p ++ [s]) ∧ Among (init ++ [lst]) (p ++ [s])) :
    ∃ s8 s9 s10, c_best_widths_4 [.va (tupTT sh), .va (.int wide), .va (.int gap), .va (.int (m : Int)), .va (.int room), .va (sD (init ++ [lst])), .va (hD sh (init ++ [lst])), .va .none, .un, .un, .un, .un, .un] =
      some (.nx, [.va (tupTT sh), .va (.int wide), .va (.int gap), .va (.int (m : Int)), .va (.int room), .va (sD (init ++ [lst])), .va (hD sh (init ++ [lst])), .va (oD (bg.foldl (bwStep sh lst room) none)), s8, s9, s10, .un, .un]) := by
  have hlast : gIx (sD (init ++ [lst])) (.int (-1)) = some (lstI lst) := by
    unfold sD
    rw [gIx_l, List.map_append]
    exact Pd.atI_last
  have h5 : ∀ (p : List Int) (x7 x9 x10 : Sl), c_best_widths_5 [.va (tupTT sh), .va (.int wide), .va (.int gap), .va (.int (m : Int)), .va (.int room), .va (sD (init ++ [lst])), .va (hD sh (init ++ [lst])), x7, .va (tupI p), x9, x10, .un, .un] = some (lstI (lastOf lst room p), [.va (tupTT sh), .va (.int wide), .va (.int gap), .va (.int (m : Int)), .va (.int room), .va (sD (init ++ [lst])), .va (hD sh (init ++ [lst])), x7, .va (tupI p), x9, x10, .un, .un]) := by
    intro p x7 x9 x10
    unfold c_best_widths_5
    rw [fLc_pure (T := Int) (xs := lst) (enc := PyData.int) (e1 := [.va (tupTT sh), .va (.int wide), .va (.int gap), .va (.int (m : Int)), .va (.int room), .va (sD (init ++ [lst])), .va (hD sh (init ++ [lst])), x7, .va (tupI p), x9, x10, .un, .un]) (e0 := [.va (tupTT sh), .va (.int wide), .va (.int gap), .va (.int (m : Int)), .va (.int room), .va (sD (init ++ [lst])), .va (hD sh (init ++ [lst])), x7, .va (tupI p), x9, x10, .un, .un]) (by simp [hlast])
      (fun e => ∃ s, Jk s ∧ e = [.va (tupTT sh), .va (.int wide), .va (.int gap), .va (.int (m : Int)), .va (.int room), .va (sD (init ++ [lst])), .va (hD sh (init ++ [lst])), x7, .va (tupI p), x9, x10, .un, s]) (fun s => decide (p.sum + s ≤ room)) PyData.int ⟨_, jk_un, rfl⟩ (by rintro e ⟨s, hs, rfl⟩; simp) (by omega)
      (by
        rintro u e hu ⟨s, hs, rfl⟩
        by_cases hq : p.sum + u ≤ room <;> simp [hq, jk_va])]
    rfl
  have hcat : ∀ (p : List Int) (u : Int), p.length ≤ 16777215 → (if (p.map PyData.int ++ [PyData.int u]).length ≤ 16777216 then some (PyData.tuple (p.map PyData.int ++ [PyData.int u])) else none) = some (tupI (p ++ [u])) := by
    intro p u h
    rw [if_pos (by simp; omega)]
    unfold tupI; simp
  have h6 : ∀ (p : List Int), p ∈ bg → p.length ≤ 16777215 → ∀ (x7 : Sl), c_best_widths_6 [.va (tupTT sh), .va (.int wide), .va (.int gap), .va (.int (m : Int)), .va (.int room), .va (sD (init ++ [lst])), .va (hD sh (init ++ [lst])), x7, .va (tupI p), .va (lstI (lastOf lst room p)), .va (.int (fewOf sh lst room p)), .un, .un] = some (lstI ((lastOf lst room p).filter fun s => decide (Fs sh (p ++ [s]) = fewOf sh lst room p)), [.va (tupTT sh), .va (.int wide), .va (.int gap), .va (.int (m : Int)), .va (.int room), .va (sD (init ++ [lst])), .va (hD sh (init ++ [lst])), x7, .va (tupI p), .va (lstI (lastOf lst room p)), .va (.int (fewOf sh lst room p)), .un, .un]) := by
    intro p hp hpl x7
    unfold c_best_widths_6
    rw [fLc_pure (T := Int) (xs := lastOf lst room p) (enc := PyData.int) (e1 := [.va (tupTT sh), .va (.int wide), .va (.int gap), .va (.int (m : Int)), .va (.int room), .va (sD (init ++ [lst])), .va (hD sh (init ++ [lst])), x7, .va (tupI p), .va (lstI (lastOf lst room p)), .va (.int (fewOf sh lst room p)), .un, .un]) (e0 := [.va (tupTT sh), .va (.int wide), .va (.int gap), .va (.int (m : Int)), .va (.int room), .va (sD (init ++ [lst])), .va (hD sh (init ++ [lst])), x7, .va (tupI p), .va (lstI (lastOf lst room p)), .va (.int (fewOf sh lst room p)), .un, .un]) (by simp)
      (fun e => ∃ s, Jk s ∧ e = [.va (tupTT sh), .va (.int wide), .va (.int gap), .va (.int (m : Int)), .va (.int room), .va (sD (init ++ [lst])), .va (hD sh (init ++ [lst])), x7, .va (tupI p), .va (lstI (lastOf lst room p)), .va (.int (fewOf sh lst room p)), .un, s]) (fun s => decide (Fs sh (p ++ [s]) = fewOf sh lst room p)) PyData.int ⟨_, jk_un, rfl⟩ (by rintro e ⟨s, hs, rfl⟩; simp)
      (by have := List.length_filter_le (fun s => decide (p.sum + s ≤ room)) lst; unfold lastOf; omega)
      (by
        rintro u e hu ⟨s, hs, rfl⟩
        obtain ⟨f1, f2⟩ := (ok p hp).2 u hu
        have hal := pf_all_lines_ev S hm f1 f2
        have hc := hcat p u hpl
        generalize fewOf sh lst room p = F at *
        generalize lastOf lst room p = L at *
        refine ⟨[.va (tupTT sh), .va (.int wide), .va (.int gap), .va (.int (m : Int)), .va (.int room), .va (sD (init ++ [lst])), .va (hD sh (init ++ [lst])), x7, .va (tupI p), .va (lstI L), .va (.int F), .un, .va (.int u)], [.va (tupTT sh), .va (.int wide), .va (.int gap), .va (.int (m : Int)), .va (.int room), .va (sD (init ++ [lst])), .va (hD sh (init ++ [lst])), x7, .va (tupI p), .va (lstI L), .va (.int F), .un, .va (.int u)], ?_, ?_, ?_⟩
        · rcases hs with rfl | ⟨d, rfl⟩ <;> simp
        · simp only [mT_ap, m2_ap, mA_ap, fCons_ap, fNil_ap, fV_ap, mTup_ap, fStar_ap, List.getElem?_cons_zero, List.getElem?_cons_succ, gSeq_T, mlift_s, hc, hal, gEq_i, gB_b]
        · by_cases hq : Fs sh (p ++ [u]) = F <;> simp [hq, jk_va])]
    rfl
  have hcat2 : ∀ (p : List Int) (u : Int), PyData.tuple (p.map PyData.int ++ [PyData.int u]) = tupI (p ++ [u]) := fun p u => by unfold tupI; simp
  have hpl : ∀ p ∈ bg, p.length ≤ 16777215 := fun p hp => by
    obtain ⟨h1, h2⟩ := ok p hp
    have h3 := (h2 _ (getLastD_mem h1)).1.1
    have := S.m3
    simp at h3; omega
  obtain ⟨e', h4⟩ := forL_runI (g := tgName 8) (fb := b_best_widths_4) tupI (fun n (b : Option (Int × List Int)) e => ∃ s8 s9 s10, Jk s8 ∧ Jk s9 ∧ Jk s10 ∧ e = [.va (tupTT sh), .va (.int wide), .va (.int gap), .va (.int (m : Int)), .va (.int room), .va (sD (init ++ [lst])), .va (hD sh (init ++ [lst])), .va (oD b), s8, s9, s10, .un, .un]) (fun b p => .ok (bwStep sh lst room b p)) bg 0 none
    [.va (tupTT sh), .va (.int wide), .va (.int gap), .va (.int (m : Int)), .va (.int room), .va (sD (init ++ [lst])), .va (hD sh (init ++ [lst])), .va .none, .un, .un, .un, .un, .un]
    ⟨_, _, _, jk_un, jk_un, jk_un, rfl⟩
    (by
      rintro j b e p hpj ⟨s8, s9, s10, hs8, hs9, hs10, rfl⟩
      have hp := List.mem_of_getElem? hpj
      have hl := hpl p hp
      obtain ⟨g1, g2⟩ := ok p hp
      have gl := getLast_ix g1
      obtain ⟨f1, f2⟩ := g2 _ (getLastD_mem g1)
      have hal := pf_all_lines_ev S hm f1 f2
      have hfe : Fs sh (p ++ [(lastOf lst room p).getLastD 0]) = fewOf sh lst room p := rfl
      rw [hfe] at hal
      have hc6 := h6 p hp hl
      have hc5 := h5 p
      have hpne : ((lastOf lst room p).filter fun s => decide (Fs sh (p ++ [s]) = fewOf sh lst room p)) ≠ [] := List.ne_nil_of_mem (List.mem_filter.mpr ⟨getLastD_mem g1, by rw [hfe]; simp⟩)
      have hpk := head_ix hpne
      have hpd : ((lastOf lst room p).filter fun s => decide (Fs sh (p ++ [s]) = fewOf sh lst room p)).headD 0 = pickOf sh lst room p := rfl
      rw [hpd] at hpk
      generalize ((lastOf lst room p).filter fun s => decide (Fs sh (p ++ [s]) = fewOf sh lst room p)) = PL at hc6 hpk
      unfold bwStep
      generalize fewOf sh lst room p = F at *
      generalize pickOf sh lst room p = K at *
      generalize lastOf lst room p = L at *
      generalize L.getLastD 0 = G at *
      refine ⟨[.va (tupTT sh), .va (.int wide), .va (.int gap), .va (.int (m : Int)), .va (.int room), .va (sD (init ++ [lst])), .va (hD sh (init ++ [lst])), .va (oD b), .va (tupI p), s9, s10, .un, .un], ?_⟩
      have e1 : tgName 8 (tupI p) [.va (tupTT sh), .va (.int wide), .va (.int gap), .va (.int (m : Int)), .va (.int room), .va (sD (init ++ [lst])), .va (hD sh (init ++ [lst])), .va (oD b), s8, s9, s10, .un, .un] = some [.va (tupTT sh), .va (.int wide), .va (.int gap), .va (.int (m : Int)), .va (.int room), .va (sD (init ++ [lst])), .va (hD sh (init ++ [lst])), .va (oD b), .va (tupI p), s9, s10, .un, .un] := by
        rcases hs8 with rfl | ⟨d, rfl⟩ <;> simp
      by_cases hq : (b.isNone || decide (F < (b.getD (0, [])).1)) = true
      · refine ⟨[.va (tupTT sh), .va (.int wide), .va (.int gap), .va (.int (m : Int)), .va (.int room), .va (sD (init ++ [lst])), .va (hD sh (init ++ [lst])), .va (mkD (F, p ++ [K])), .va (tupI p), .va (lstI L), .va (.int F), .un, .un], e1, ?_, .va (tupI p), .va (lstI L), .va (.int F), jk_va _, jk_va _, jk_va _, ?_⟩
        · cases b with
          | none => rcases hs9 with rfl | ⟨d, rfl⟩ <;> rcases hs10 with rfl | ⟨d, rfl⟩ <;> simp [b_best_widths_4, hc5, gl, hl, hcat2, hal, hc6, hpk, mkD]
          | some x =>
            have hx : F < x.1 := by simpa using hq
            have hox : oD (some x) = mkD x := rfl
            rcases hs9 with rfl | ⟨d, rfl⟩ <;> rcases hs10 with rfl | ⟨d, rfl⟩ <;> simp [b_best_widths_4, hc5, gl, hl, hcat2, hal, hc6, hpk, hox, gIx_mkD, hx] <;> simp [mkD]
        · rw [if_pos hq]; rfl
      · refine ⟨[.va (tupTT sh), .va (.int wide), .va (.int gap), .va (.int (m : Int)), .va (.int room), .va (sD (init ++ [lst])), .va (hD sh (init ++ [lst])), .va (oD b), .va (tupI p), .va (lstI L), .va (.int F), .un, .un], e1, ?_, .va (tupI p), .va (lstI L), .va (.int F), jk_va _, jk_va _, jk_va _, ?_⟩
        · cases b with
          | none => simp at hq
          | some x =>
            have hx : ¬ F < x.1 := by simpa using hq
            have hox : oD (some x) = mkD x := rfl
            have hnn : isNon (mkD x) = false := rfl
            rcases hs9 with rfl | ⟨d, rfl⟩ <;> rcases hs10 with rfl | ⟨d, rfl⟩ <;> simp [b_best_widths_4, hc5, gl, hl, hcat2, hal, hox, hnn, gIx_mkD, hx]
        · rw [if_neg hq])
  rw [runE_ok] at h4
  obtain ⟨h4, s8, s9, s10, _, _, _, rfl⟩ := h4
  refine ⟨s8, s9, s10, ?_⟩
  unfold c_best_widths_4
  simp [hb]
  exact h4
end Law

namespace Law
open PySem L2 Evl Pd
/-! ### what the walks over columns find -/
theorem gwN_succ_mem {sts : List (List Int)} {add : Nat → Int} {room : Int} {n : Nat} {p : List Int} : p ∈ gwN sts add room (n + 1) ↔ ∃ q s, p = q ++ [s] ∧ q ∈ gwN sts add room n ∧ s ∈ sts.getD n [] ∧ q.sum + s + add n ≤ room := by
  rw [gwN_succ]
  unfold gwStep
  constructor
  · intro h
    obtain ⟨l, hl, hp⟩ := List.mem_flatten.mp h
    obtain ⟨q, hq, rfl⟩ := List.mem_map.mp hl
    obtain ⟨s, hs, rfl⟩ := List.mem_map.mp hp
    obtain ⟨h1, h2⟩ := List.mem_filter.mp hs
    exact ⟨q, s, rfl, hq, h1, by simpa using h2⟩
  · rintro ⟨q, s, rfl, hq, hs, h⟩
    exact List.mem_flatten.mpr ⟨_, List.mem_map.mpr ⟨q, hq, rfl⟩, List.mem_map.mpr ⟨s, List.mem_filter.mpr ⟨hs, by simpa using h⟩, rfl⟩⟩
theorem getD_app_lt {q : List Int} {s : Int} {c : Nat} (h : c < q.length) : (q ++ [s]).getD c 0 = q.getD c 0 := by simp [List.getD, List.getElem?_append_left h]
theorem getD_app_eq {q : List Int} {s : Int} : (q ++ [s]).getD q.length 0 = s := by simp [List.getD]
theorem gwN_in {sts : List (List Int)} {add : Nat → Int} {room : Int} : ∀ {n : Nat} {p : List Int}, p ∈ gwN sts add room n → p.length = n ∧ ∀ c, c < n → p.getD c 0 ∈ sts.getD c []
  | 0, p, h => ⟨gwN_len 0 p h, fun c hc => absurd hc (Nat.not_lt_zero _)⟩
  | n + 1, p, h => by
    obtain ⟨q, s, rfl, hq, hs, _⟩ := gwN_succ_mem.mp h
    obtain ⟨h1, h2⟩ := gwN_in hq
    refine ⟨by simp [h1], fun c hc => ?_⟩
    rcases Nat.lt_or_ge c n with g | g
    · rw [getD_app_lt (by omega)]; exact h2 c g
    · have : c = n := by omega
      subst this
      rw [← h1, getD_app_eq, h1]; exact hs
/-- the steps of every column -/
def allSts (sh : List (List (List Int))) (m : Nat) : List (List Int) := (List.range m).map fun c => stepsC (colOf sh c)
def capSts (sh : List (List (List Int))) (m : Nat) (room : Int) : List (List Int) := (List.range m).map fun c => (stepsC (colOf sh c)).filter fun s => decide (s ≤ room)
theorem allSts_at {sh : List (List (List Int))} {m c : Nat} (h : c < m) : (allSts sh m).getD c [] = stepsC (colOf sh c) := by simp [allSts, List.getD, h]
theorem capSts_at {sh : List (List (List Int))} {m c : Nat} {room : Int} (h : c < m) : (capSts sh m room).getD c [] = (stepsC (colOf sh c)).filter fun s => decide (s ≤ room) := by simp [capSts, List.getD, h]
theorem stepsC_ge {l : List (List Int)} {s : Int} (h : s ∈ stepsC l) : leastC l ≤ s := by
  unfold stepsC at h
  rcases List.mem_cons.mp h with rfl | h
  · exact Int.le_refl _
  · have := mem_rngI.mp (List.mem_filter.mp h).1
    omega
theorem stepsC_len {l : List (List Int)} (C : Col l) : (stepsC l).length ≤ 2000000 := by
  unfold stepsC
  have := List.length_filter_le (isStep l) (rngI (leastC l + 1) (mostC l - leastC l).toNat)
  rw [rngI_len] at this
  have := C.most_le
  have := least1 l
  rw [List.length_cons]; omega
theorem rngI_sorted (lo : Int) (n : Nat) : (rngI lo n).Pairwise (· < ·) := by
  induction n generalizing lo with
  | zero => simp [rngI]
  | succ n ih =>
    rw [rngI_succ]
    refine List.pairwise_cons.mpr ⟨fun x hx => ?_, ih _⟩
    have := mem_rngI.mp hx
    omega
theorem stepsC_sorted (l : List (List Int)) : (stepsC l).Pairwise (· < ·) := by
  unfold stepsC
  refine List.pairwise_cons.mpr ⟨fun x hx => ?_, List.Pairwise.filter _ (rngI_sorted _ _)⟩
  have := mem_rngI.mp (List.mem_filter.mp hx).1
  omega
theorem sorted_nodup {l : List Int} (h : l.Pairwise (· < ·)) : l.Nodup := h.imp fun a => Int.ne_of_lt a
theorem mulOk_r {i j : Int} (h1 : -1000000 ≤ j) (h2 : j ≤ 1000000) : mulOk i j = true := by
  unfold mulOk
  simp; omega
theorem gMul_i {i j : Int} (h1 : -1000000 ≤ j) (h2 : j ≤ 1000000) : gMul (.int i) (.int j) = some (.int (i * j)) := by
  show (if mulOk i j = true then some (PyData.int (i * j)) else none) = _
  rw [mulOk_r h1 h2]; rfl
def lstsD (ls : List (List Int)) : PyData := sD ls
theorem bw_1 {m : Nat} {sh : List (List (List Int))} (S : Sheet m sh) (wide gap room : Int) : c_best_widths_1 [.va (tupTT sh), .va (.int wide), .va (.int gap), .va (.int (m : Int)), .va (.int room), .un, .un, .un, .un, .un, .un, .un, .un] =
    some (sD (capSts sh m room), [.va (tupTT sh), .va (.int wide), .va (.int gap), .va (.int (m : Int)), .va (.int room), .un, .un, .un, .un, .un, .un, .un, .un]) := by
  have hg := gRng1_n (n := m) (by have := S.m3; omega)
  rw [rngD_range] at hg
  unfold c_best_widths_1
  rw [fLc_map (T := Nat) (xs := List.range m) (enc := fun c : Nat => .int (c : Int)) (e1 := [.va (tupTT sh), .va (.int wide), .va (.int gap), .va (.int (m : Int)), .va (.int room), .un, .un, .un, .un, .un, .un, .un, .un]) (e0 := [.va (tupTT sh), .va (.int wide), .va (.int gap), .va (.int (m : Int)), .va (.int room), .un, .un, .un, .un, .un, .un, .un, .un]) (by simp [hg])
    (fun e => ∃ s, Jk s ∧ e = [.va (tupTT sh), .va (.int wide), .va (.int gap), .va (.int (m : Int)), .va (.int room), .un, .un, .un, .un, .un, .un, s, .un]) (fun c => lstI ((stepsC (colOf sh c)).filter fun s => decide (s ≤ room))) ⟨_, jk_un, rfl⟩ (by rintro e ⟨s, hs, rfl⟩; simp) (by have := S.m3; simp; omega)
    (by
      rintro c e hc ⟨s, hs, rfl⟩
      have hc' := List.mem_range.mp hc
      have C := S.col hc'
      have hls := pf_line_steps_ev S hc'
      refine ⟨[.va (tupTT sh), .va (.int wide), .va (.int gap), .va (.int (m : Int)), .va (.int room), .un, .un, .un, .un, .un, .un, .va (.int (c : Int)), .un], ?_, [.va (tupTT sh), .va (.int wide), .va (.int gap), .va (.int (m : Int)), .va (.int room), .un, .un, .un, .un, .un, .un, .va (.int (c : Int)), .un], ?_, _, jk_va _, rfl⟩
      · rcases hs with rfl | ⟨d, rfl⟩ <;> simp
      · unfold c_best_widths_2
        have hlen := stepsC_len C
        generalize stepsC (colOf sh c) = st at hls hlen
        rw [fLc_pure (T := Int) (xs := st) (enc := PyData.int) (e1 := [.va (tupTT sh), .va (.int wide), .va (.int gap), .va (.int (m : Int)), .va (.int room), .un, .un, .un, .un, .un, .un, .va (.int (c : Int)), .un]) (e0 := [.va (tupTT sh), .va (.int wide), .va (.int gap), .va (.int (m : Int)), .va (.int room), .un, .un, .un, .un, .un, .un, .va (.int (c : Int)), .un]) (by simp [hls])
          (fun e => ∃ s, Jk s ∧ e = [.va (tupTT sh), .va (.int wide), .va (.int gap), .va (.int (m : Int)), .va (.int room), .un, .un, .un, .un, .un, .un, .va (.int (c : Int)), s]) (fun s => decide (s ≤ room)) PyData.int ⟨_, jk_un, rfl⟩ (by rintro e ⟨s, hs, rfl⟩; simp) (by omega)
          (by
            rintro u e hu ⟨s, hs, rfl⟩
            by_cases hq : u ≤ room <;> simp [hq, jk_va])]
        rfl)]
  unfold sD capSts
  rw [List.map_map]; rfl
theorem bw_3 {m : Nat} {sh : List (List (List Int))} (S : Sheet m sh) (wide gap room : Int) : c_best_widths_3 [.va (tupTT sh), .va (.int wide), .va (.int gap), .va (.int (m : Int)), .va (.int room), .va (sD (capSts sh m room)), .un, .un, .un, .un, .un, .un, .un] =
    some (hD sh (capSts sh m room), [.va (tupTT sh), .va (.int wide), .va (.int gap), .va (.int (m : Int)), .va (.int room), .va (sD (capSts sh m room)), .un, .un, .un, .un, .un, .un, .un]) := by
  have hg := gRng1_n (n := m) (by have := S.m3; omega)
  rw [rngD_range] at hg
  have hlen : (capSts sh m room).length = m := by simp [capSts]
  unfold c_best_widths_3
  rw [fLc_map (T := Nat) (xs := List.range m) (enc := fun c : Nat => .int (c : Int)) (e1 := [.va (tupTT sh), .va (.int wide), .va (.int gap), .va (.int (m : Int)), .va (.int room), .va (sD (capSts sh m room)), .un, .un, .un, .un, .un, .un, .un]) (e0 := [.va (tupTT sh), .va (.int wide), .va (.int gap), .va (.int (m : Int)), .va (.int room), .va (sD (capSts sh m room)), .un, .un, .un, .un, .un, .un, .un]) (by simp [hg])
    (fun e => ∃ s, Jk s ∧ e = [.va (tupTT sh), .va (.int wide), .va (.int gap), .va (.int (m : Int)), .va (.int room), .va (sD (capSts sh m room)), .un, .un, .un, .un, .un, s, .un]) (fun c => .dict (hKv (colOf sh c) ((capSts sh m room).getD c []))) ⟨_, jk_un, rfl⟩ (by rintro e ⟨s, hs, rfl⟩; simp) (by have := S.m3; simp; omega)
    (by
      rintro c e hc ⟨s, hs, rfl⟩
      have hc' := List.mem_range.mp hc
      have C := S.col hc'
      have hix := gIx_sD (sts := capSts sh m room) (c := c) (by rw [hlen]; exact hc')
      have hh := pf_heights_by_ev S hc' (st := (capSts sh m room).getD c []) (by
          rw [capSts_at hc']
          have := List.length_filter_le (fun s => decide (s ≤ room)) (stepsC (colOf sh c))
          have := stepsC_len C
          omega) (by
          rw [capSts_at hc']
          exact sorted_nodup (List.Pairwise.filter _ (stepsC_sorted _)))
      generalize (capSts sh m room).getD c [] = st at hix hh
      simp [hix, hh, jk_va])]
  have e : ((List.range m).map fun c => PyData.dict (hKv (colOf sh c) ((capSts sh m room).getD c []))) = (capSts sh m room).zipIdx.map fun p => PyData.dict (hKv (colOf sh p.2) p.1) := by
    refine List.ext_getElem (by simp [hlen]) fun i hi hi2 => ?_
    have : i < m := by simpa using hi
    simp [List.getD, hlen, this]
  rw [e]; rfl
def sumLeast (sh : List (List (List Int))) (m : Nat) : Int := ((List.range m).map fun c => leastC (colOf sh c)).sum
theorem pf_best_widths_none {m : Nat} {sh : List (List (List Int))} (S : Sheet m sh) (wide gap : Int) (h : wide - gap * ((m : Int) - 1) < sumLeast sh m) : pf_best_widths [tupTT sh, .int wide, .int gap] = some .none := by
  obtain ⟨hd, hdm, hix⟩ := gIx_TT0 S.ne
  have hhd : hd.length = m := S.wid hd hdm
  have hn := pf_narrowest_ev S
  have hs : gSum (tupI ((List.range m).map fun c => leastC (colOf sh c))) = some (.int (sumLeast sh m)) := gSum_T _
  generalize (tupI ((List.range m).map fun c => leastC (colOf sh c))) = N at hn hs
  have hmul := gMul_i (i := gap) (j := (m : Int) - 1) (by omega) (by have := S.m3; omega)
  simp [pf_best_widths, pfP, env0, mm_best_widths, hix, hhd, hmul, hn, hs, h]
theorem pf_best_widths_some {m : Nat} {sh : List (List (List Int))} (S : Sheet m sh) (wide gap room : Int) (hroom : room = wide - gap * ((m : Int) - 1)) (h : ¬ room < sumLeast sh m) {init : List (List Int)} {lst : List Int} (hil : capSts sh m room = init ++ [lst]) {bg : List (List Int)}
    (hb : pf_begun [sD (init ++ [lst]), .int room] = some (tups bg))
    (ok : ∀ p ∈ bg, lastOf lst room p ≠ [] ∧ ∀ s ∈ lastOf lst room p, Fits m sh (p ++ [s]) ∧ Among (init ++ [lst]) (p ++ [s])) (hl : lst.length ≤ 16777215) :
    pf_best_widths [tupTT sh, .int wide, .int gap] = some (oD (bg.foldl (bwStep sh lst room) none)) := by
  obtain ⟨hd, hdm, hix⟩ := gIx_TT0 S.ne
  have hhd : hd.length = m := S.wid hd hdm
  have hn := pf_narrowest_ev S
  have hs : gSum (tupI ((List.range m).map fun c => leastC (colOf sh c))) = some (.int (sumLeast sh m)) := gSum_T _
  generalize (tupI ((List.range m).map fun c => leastC (colOf sh c))) = N at hn hs
  have hmul := gMul_i (i := gap) (j := (m : Int) - 1) (by omega) (by have := S.m3; omega)
  have h1 := bw_1 S wide gap room
  have h3 := bw_3 S wide gap room
  have hlen : (capSts sh m room).length = m := by simp [capSts]
  rw [hil] at h1 h3 hlen
  obtain ⟨s8, s9, s10, h4⟩ := bw_loop (wide := wide) (gap := gap) S hlen hl hb ok
  have hsub : gSub (.int wide) (.int (gap * ((m : Int) - 1))) = some (.int room) := by rw [gSub_i, hroom]
  generalize List.foldl (bwStep sh lst room) none bg = res at h4
  refine pfP_rt (e := [.va (tupTT sh), .va (.int wide), .va (.int gap), .va (.int (m : Int)), .va (.int room), .va (sD (init ++ [lst])), .va (hD sh (init ++ [lst])), .va (oD res), s8, s9, s10, .un, .un]) rfl ?_
  rw [mm_best_widths]
  refine fSeq_nx (e1 := [.va (tupTT sh), .va (.int wide), .va (.int gap), .va (.int (m : Int)), .un, .un, .un, .un, .un, .un, .un, .un, .un]) (by simp [env0, hix, hhd]) ?_
  refine fSeq_nx (e1 := [.va (tupTT sh), .va (.int wide), .va (.int gap), .va (.int (m : Int)), .va (.int room), .un, .un, .un, .un, .un, .un, .un, .un]) ?_ ?_
  · simp [hmul, -gSub_i, hsub, gSub_i (m : Int) 1]
  refine fSeq_nx (e1 := [.va (tupTT sh), .va (.int wide), .va (.int gap), .va (.int (m : Int)), .va (.int room), .un, .un, .un, .un, .un, .un, .un, .un]) (by simp [hn, hs, h]) ?_
  refine fSeq_nx (e1 := [.va (tupTT sh), .va (.int wide), .va (.int gap), .va (.int (m : Int)), .va (.int room), .va (sD (init ++ [lst])), .un, .un, .un, .un, .un, .un, .un]) (by simp [h1]) ?_
  refine fSeq_nx (e1 := [.va (tupTT sh), .va (.int wide), .va (.int gap), .va (.int (m : Int)), .va (.int room), .va (sD (init ++ [lst])), .va (hD sh (init ++ [lst])), .un, .un, .un, .un, .un, .un]) (by simp [h3]) ?_
  refine fSeq_nx (e1 := [.va (tupTT sh), .va (.int wide), .va (.int gap), .va (.int (m : Int)), .va (.int room), .va (sD (init ++ [lst])), .va (hD sh (init ++ [lst])), .va .none, .un, .un, .un, .un, .un]) (by simp) ?_
  refine fSeq_nx h4 ?_
  simp
end Law

namespace Law
open PySem L2 Evl Pd
def z0 : Nat → Int := fun _ => 0
def widen (room : Int) (st : List Int) (p : List Int) : List (List Int) := (st.filter fun s => decide (p.sum + s ≤ room)).map fun s => p ++ [s]
theorem gwStep_z0 {sts : List (List Int)} {room : Int} {f : List (List Int)} {c : Nat} : gwStep sts z0 room f c = (f.map (widen room (sts.getD c []))).flatten := by
  unfold gwStep widen z0
  simp
theorem len_take_flatten {l : List (List (List Int))} (n : Nat) : (l.take n).flatten.length ≤ l.flatten.length := by
  have : l.flatten = (l.take n).flatten ++ (l.drop n).flatten := by rw [← List.flatten_append, List.take_append_drop]
  rw [this, List.length_append]; omega
/-- one column of the law's own walk -/
theorem lb_inner {sh : List (List (List Int))} {sts : List (List Int)} {room : Int} {f : List (List Int)} {st : List Int} (hz : (f.map (widen room st)).flatten.length ≤ 16777216) (hf : ∀ p ∈ f, p.length ≤ 1000) (hst : st.length ≤ 16777215) (x6 : Sl) (hx6 : Jk x6) :
    ∃ s6, Jk s6 ∧ c__law_best_2 [.va (tupTT sh), .va (sD sts), .va (.int room), .va (tups f), .va (lstI st), .ow [], x6, .un, .un] = some (.nx, [.va (tupTT sh), .va (sD sts), .va (.int room), .va (tups f), .va (lstI st), .ow (((f.map (widen room st)).flatten).map tupI), s6, .un, .un]) := by
  obtain ⟨e', h4⟩ := forL_runI (g := tgName 6) (fb := b__law_best_2) tupI (fun n (w : List (List Int)) e => ∃ s6, Jk s6 ∧ w = ((f.map (widen room st)).take n).flatten ∧ e = [.va (tupTT sh), .va (sD sts), .va (.int room), .va (tups f), .va (lstI st), .ow (w.map tupI), s6, .un, .un]) (fun w p => .ok (w ++ widen room st p)) f 0 []
    [.va (tupTT sh), .va (sD sts), .va (.int room), .va (tups f), .va (lstI st), .ow [], x6, .un, .un]
    ⟨_, hx6, rfl, rfl⟩
    (by
      rintro j w e p hpj ⟨s6, hs6, hw, rfl⟩
      have hp := List.mem_of_getElem? hpj
      have hpl := hf p hp
      obtain ⟨hj, hje⟩ := List.getElem?_eq_some_iff.mp hpj
      rw [Nat.zero_add] at hw
      have hnext : ((f.map (widen room st)).take (j + 1)).flatten = w ++ widen room st p := by
        rw [hw, List.take_add_one, List.flatten_append]
        congr 1
        rw [List.getElem?_map, hpj]
        simp
      have hc : c__law_best_3 [.va (tupTT sh), .va (sD sts), .va (.int room), .va (tups f), .va (lstI st), .ow (w.map tupI), .va (tupI p), .un, .un] = some (.list ((widen room st p).map tupI), [.va (tupTT sh), .va (sD sts), .va (.int room), .va (tups f), .va (lstI st), .ow (w.map tupI), .va (tupI p), .un, .un]) := by
        unfold c__law_best_3
        rw [fLc_pure (T := Int) (xs := st) (enc := PyData.int) (e1 := [.va (tupTT sh), .va (sD sts), .va (.int room), .va (tups f), .va (lstI st), .ow (w.map tupI), .va (tupI p), .un, .un]) (e0 := [.va (tupTT sh), .va (sD sts), .va (.int room), .va (tups f), .va (lstI st), .ow (w.map tupI), .va (tupI p), .un, .un]) (by simp)
          (fun e => ∃ s, Jk s ∧ e = [.va (tupTT sh), .va (sD sts), .va (.int room), .va (tups f), .va (lstI st), .ow (w.map tupI), .va (tupI p), .un, s]) (fun s => decide (p.sum + s ≤ room)) (fun s => tupI (p ++ [s])) ⟨_, jk_un, rfl⟩ (by rintro e ⟨s, hs, rfl⟩; simp) (by omega)
          (by
            rintro u e hu ⟨s, hs, rfl⟩
            have hl2 : p.length ≤ 16777215 := by omega
            refine ⟨[.va (tupTT sh), .va (sD sts), .va (.int room), .va (tups f), .va (lstI st), .ow (w.map tupI), .va (tupI p), .un, .va (.int u)], [.va (tupTT sh), .va (sD sts), .va (.int room), .va (tups f), .va (lstI st), .ow (w.map tupI), .va (tupI p), .un, .va (.int u)], ?_, ?_, [.va (tupTT sh), .va (sD sts), .va (.int room), .va (tups f), .va (lstI st), .ow (w.map tupI), .va (tupI p), .un, .va (.int u)], ?_, _, jk_va _, rfl⟩
            · rcases hs with rfl | ⟨d, rfl⟩ <;> simp
            · by_cases hq : p.sum + u ≤ room <;> simp [hq]
            · by_cases hq : p.sum + u ≤ room
              · simp [hq, hl2, tupI]
              · simp [hq])]
        unfold widen
        rw [List.map_map]; rfl
      have hlen : (w.map tupI).length + ((widen room st p).map tupI).length ≤ 16777216 := by
        have := len_take_flatten (l := f.map (widen room st)) (j + 1)
        rw [hnext, List.length_append] at this
        rw [List.length_map, List.length_map]; omega
      have hext := gExtend_1 hlen
      generalize widen room st p = W at *
      refine ⟨[.va (tupTT sh), .va (sD sts), .va (.int room), .va (tups f), .va (lstI st), .ow (w.map tupI), .va (tupI p), .un, .un], [.va (tupTT sh), .va (sD sts), .va (.int room), .va (tups f), .va (lstI st), .ow ((w ++ W).map tupI), .va (tupI p), .un, .un], ?_, ?_, .va (tupI p), jk_va _, ?_, rfl⟩
      · rcases hs6 with rfl | ⟨d, rfl⟩ <;> simp
      · simp [b__law_best_2, hc, hext]
      · rw [Nat.zero_add]; exact hnext.symm)
  have er : ∀ (xs : List (List Int)) (w : List (List Int)), xs.foldl (fun w p => w ++ widen room st p) w = w ++ (xs.map (widen room st)).flatten := by
    intro xs
    induction xs with
    | nil => intro w; simp
    | cons x r ih => intro w; rw [List.foldl_cons, ih]; simp
  rw [runE_ok, er, List.nil_append] at h4
  obtain ⟨h4, s6, hs6, _, rfl⟩ := h4
  refine ⟨s6, hs6, ?_⟩
  generalize (f.map (widen room st)).flatten = FF at *
  unfold c__law_best_2
  simp
  exact h4
theorem lb_outer {sh : List (List (List Int))} {sts : List (List Int)} {room : Int} (hm : sts.length ≤ 3) (hB : ∀ n, n ≤ sts.length → (gwN sts z0 room n).length ≤ 4000) (hst : ∀ l ∈ sts, l.length ≤ 16777215) :
    ∃ s4 s5 s6, Jk s4 ∧ c__law_best_1 [.va (tupTT sh), .va (sD sts), .va (.int room), .va (.list [.tuple []]), .un, .un, .un, .un, .un] = some (.nx, [.va (tupTT sh), .va (sD sts), .va (.int room), .va (tups (gwN sts z0 room sts.length)), s4, s5, s6, .un, .un]) := by
  obtain ⟨e', h4⟩ := forL_runI (g := tgName 4) (fb := b__law_best_1) lstI (fun n (f : List (List Int)) e => ∃ s4 s5 s6, Jk s4 ∧ Jk s5 ∧ Jk s6 ∧ f = gwN sts z0 room n ∧ e = [.va (tupTT sh), .va (sD sts), .va (.int room), .va (tups f), s4, s5, s6, .un, .un]) (fun f st => .ok ((f.map (widen room st)).flatten)) sts 0 [[]]
    [.va (tupTT sh), .va (sD sts), .va (.int room), .va (.list [.tuple []]), .un, .un, .un, .un, .un]
    ⟨_, _, _, jk_un, jk_un, jk_un, rfl, rfl⟩
    (by
      rintro j f e st hsj ⟨s4, s5, s6, hs4, hs5, hs6, hf, rfl⟩
      obtain ⟨hj, hje⟩ := List.getElem?_eq_some_iff.mp hsj
      rw [Nat.zero_add] at hf
      have hnext : (f.map (widen room st)).flatten = gwN sts z0 room (j + 1) := by
        rw [gwN_succ, gwStep_z0, ← hf]
        have : sts.getD j [] = st := by simp [List.getD, hsj]
        rw [this]
      have hb := hB (j + 1) (by omega)
      obtain ⟨s6', hs6', hin⟩ := lb_inner (sh := sh) (sts := sts) (room := room) (f := f) (st := st) (by rw [hnext]; omega) (fun p hp => by have := gwN_len j p (hf ▸ hp); omega) (hst st (List.mem_of_getElem? hsj)) s6 hs6
      rw [hnext] at hin
      generalize hW : gwN sts z0 room (j + 1) = W at *
      refine ⟨[.va (tupTT sh), .va (sD sts), .va (.int room), .va (tups f), .va (lstI st), s5, s6, .un, .un], [.va (tupTT sh), .va (sD sts), .va (.int room), .va (tups W), .va (lstI st), .va (tups W), s6', .un, .un], ?_, ?_, .va (lstI st), .va (tups W), s6', jk_va _, jk_va _, hs6', ?_, ?_⟩
      · rcases hs4 with rfl | ⟨d, rfl⟩ <;> simp
      · unfold b__law_best_1
        refine fSeq_nx (e1 := [.va (tupTT sh), .va (sD sts), .va (.int room), .va (tups f), .va (lstI st), .ow [], s6, .un, .un]) ?_ (fSeq_nx hin ?_)
        · rcases hs5 with rfl | ⟨d, rfl⟩ <;> simp
        · simp [tups]
      · rw [Nat.zero_add, hnext, hW]
      · rw [hnext])
  rw [runE_ok] at h4
  obtain ⟨h4, s4, s5, s6, hs4, _, _, hf, rfl⟩ := h4
  refine ⟨s4, s5, s6, hs4, ?_⟩
  rw [Nat.zero_add] at hf
  rw [hf] at h4
  generalize gwN sts z0 room sts.length = FF at *
  unfold c__law_best_1
  simp
  exact h4
end Law

namespace Law
open PySem L2 Evl Pd
theorem alikeAll_ints : ∀ u v : List Int, PySem.W.alikeAll (u.map .int) (v.map .int) = true
  | [], _ => by simp [PySem.W.alikeAll]
  | _ :: _, [] => by simp [PySem.W.alikeAll]
  | x :: u, y :: v => by simp [PySem.W.alikeAll, PySem.W.alike, alikeAll_ints u v]
theorem alike_T (u v : List Int) : PySem.W.alike (tupI u) (tupI v) = true := by
  unfold tupI; simp only [PySem.W.alike]; exact alikeAll_ints u v
theorem dataLt_T (u v : List Int) : PySem.W.dataLt (tupI u) (tupI v) = decide (u < v) := by
  unfold tupI
  rw [PySem.W.dataLt_tuple]
  exact PySem.W.dataLt_ints u v
def mlt (a b : Int × List Int) : Bool := decide (a.1 < b.1 ∨ (a.1 = b.1 ∧ a.2 < b.2))
theorem dataLt_mkD (a b : Int × List Int) : PySem.W.dataLt (mkD a) (mkD b) = mlt a b := by
  unfold mkD
  rw [PySem.W.dataLt_pair (by simp [PySem.W.alike]) (alike_T _ _), PySem.W.dataLt_int, dataLt_T, eqv_enc (fun x y e => tupI_inj e) plain_tupI]
  have e : PyData.eqv (.int a.1) (.int b.1) = decide (a.1 = b.1) := by simp only [PyData.eqv]; rfl
  rw [e]
  unfold mlt
  by_cases h1 : a.1 = b.1
  · by_cases h2 : a.2 = b.2
    · have : ¬ b.2 < b.2 := List.lt_irrefl _
      simp [h1, h2, this]
    · simp [h1, h2]
  · simp [h1]
theorem alike_mkD (a b : Int × List Int) : PySem.W.alike (mkD a) (mkD b) = true := by
  unfold mkD
  simp [PySem.W.alike, PySem.W.alikeAll, alike_T]
theorem nice_mkD (a : Int × List Int) : Nice (mkD a) 2 := nice_tup (k := 1) fun x hx => by
  rcases List.mem_cons.mp hx with rfl | hx
  · exact nice_int _ _
  · rw [List.mem_singleton.mp hx]; exact nice_tupI _
theorem bestOk_mkD (l : List (Int × List Int)) : bestOk (l.map mkD) = true := by
  unfold bestOk alikeAllB
  obtain ⟨h1, h2⟩ := nice_all (xs := l.map mkD) (k := 2) fun x hx => by obtain ⟨a, _, rfl⟩ := List.mem_map.mp hx; exact nice_mkD a
  have h3 : ∀ a, isNon (mkD a) = false := fun a => rfl
  simp [h1, alike_mkD, h3]
  omega
def minM (x : Int × List Int) (xs : List (Int × List Int)) : Int × List Int := xs.foldl (fun a y => if mlt y a = true then y else a) x
theorem minD_mkD (x : Int × List Int) (xs : List (Int × List Int)) : PySem.W.minD (mkD x) (xs.map mkD) = mkD (minM x xs) := by
  unfold PySem.W.minD minM
  induction xs generalizing x with
  | nil => rfl
  | cons y r ih =>
    rw [List.map_cons, List.foldl_cons, List.foldl_cons, ← ih, dataLt_mkD]
    cases mlt y x <;> rfl
theorem gMin1_mkD (x : Int × List Int) (xs : List (Int × List Int)) : gMin1 (.list ((x :: xs).map mkD)) = some (mkD (minM x xs)) := by
  have h := bestOk_mkD (x :: xs)
  rw [List.map_cons] at h ⊢
  unfold gMin1 gBest
  dsimp only
  rw [h, if_pos rfl, minD_mkD]
/-- the law's answer -/
def lawBest (sh : List (List (List Int))) (A : List (List Int)) : Option (Int × List Int) := match A.map fun p => (Fs sh p, p) with
  | [] => none
  | x :: xs => some (minM x xs)
theorem pf__law_best_ev {m : Nat} {sh : List (List (List Int))} (S : Sheet m sh) {room : Int} (hB : ∀ n, n ≤ m → (gwN (allSts sh m) z0 room n).length ≤ 4000) : pf__law_best [tupTT sh, sD (allSts sh m), .int room] = some (oD (lawBest sh (gwN (allSts sh m) z0 room m))) := by
  have hlen : (allSts sh m).length = m := by simp [allSts]
  obtain ⟨s4, s5, s6, hs4, hl⟩ := lb_outer (sh := sh) (sts := allSts sh m) (room := room) (by rw [hlen]; exact S.m3) (by rw [hlen]; exact hB) (fun l hl => by
    obtain ⟨c, hc, rfl⟩ := List.mem_map.mp hl
    have := stepsC_len (S.col (List.mem_range.mp hc)); omega)
  rw [hlen] at hl
  have hin : ∀ p ∈ gwN (allSts sh m) z0 room m, Fits m sh p := fun p hp => by
    obtain ⟨h1, h2⟩ := gwN_in hp
    exact ⟨h1, fun c hc => stepsC_ge (by rw [← allSts_at hc]; exact h2 c hc)⟩
  have hA := hB m (Nat.le_refl _)
  generalize gwN (allSts sh m) z0 room m = A at *
  generalize sD (allSts sh m) = D at *
  have h4 : c__law_best_4 [.va (tupTT sh), .va D, .va (.int room), .va (tups A), s4, s5, s6, .un, .un] = some (.list ((A.map fun p => (Fs sh p, p)).map mkD), [.va (tupTT sh), .va D, .va (.int room), .va (tups A), s4, s5, s6, .un, .un]) := by
    unfold c__law_best_4
    rw [fLc_map (T := List Int) (xs := A) (enc := tupI) (e1 := [.va (tupTT sh), .va D, .va (.int room), .va (tups A), s4, s5, s6, .un, .un]) (e0 := [.va (tupTT sh), .va D, .va (.int room), .va (tups A), s4, s5, s6, .un, .un]) (by simp)
      (fun e => ∃ s, Jk s ∧ e = [.va (tupTT sh), .va D, .va (.int room), .va (tups A), s, s5, s6, .un, .un]) (fun p => mkD (Fs sh p, p)) ⟨_, hs4, rfl⟩ (by rintro e ⟨s, hs, rfl⟩; rcases hs4 with rfl | ⟨d, rfl⟩ <;> simp) (by omega)
      (by
        rintro p e hp ⟨s, hs, rfl⟩
        have hf := hin p hp
        have hr := pf__law_row_lines_ev S hf.1
        have hd : rowsD p sh = tupI (sh.map (rowF p)) := by unfold rowsD; rw [rowLines_fits S hf]
        rw [hd] at hr
        have hsum : gSum (tupI (sh.map (rowF p))) = some (.int (Fs sh p)) := gSum_T _
        generalize tupI (sh.map (rowF p)) = R at hr hsum
        simp [hr, hsum, jk_va, mkD])]
    rw [List.map_map]; rfl
  have hmin : (mIte (mT gB (m2 gNe (fV 7) (mLst fNil))) (m1 gMin1 (fV 7)) (mret .none)) [.va (tupTT sh), .va D, .va (.int room), .va (tups A), s4, s5, s6, .va (.list ((A.map fun p => (Fs sh p, p)).map mkD)), .un] = some (oD (lawBest sh A), [.va (tupTT sh), .va D, .va (.int room), .va (tups A), s4, s5, s6, .va (.list ((A.map fun p => (Fs sh p, p)).map mkD)), .un]) := by
    have hni : Nice (.list ((A.map fun p => (Fs sh p, p)).map mkD)) 3 := nice_lst (k := 2) fun x hx => by obtain ⟨a, _, rfl⟩ := List.mem_map.mp hx; exact nice_mkD a
    unfold lawBest
    generalize (A.map fun p => (Fs sh p, p)) = Q at *
    have hne := gNe_of hni nice_l0
    rw [eqv_l0] at hne
    cases Q with
    | nil => simp [gNe_l00, oD]
    | cons x xs =>
      have hg := gMin1_mkD x xs
      rw [List.map_cons] at hg hne ⊢
      simp [hne, hg, oD]
  refine pfP_rt (e := [.va (tupTT sh), .va D, .va (.int room), .va (tups A), s4, s5, s6, .va (.list ((A.map fun p => (Fs sh p, p)).map mkD)), .un]) rfl ?_
  rw [mm__law_best]
  refine fSeq_nx (e1 := [.va (tupTT sh), .va D, .va (.int room), .va (.list [.tuple []]), .un, .un, .un, .un, .un]) (by simp [env0]) (fSeq_nx hl ?_)
  refine fSeq_nx (e1 := [.va (tupTT sh), .va D, .va (.int room), .va (tups A), s4, s5, s6, .va (.list ((A.map fun p => (Fs sh p, p)).map mkD)), .un]) ?_ ?_
  · rw [fSet_ap, h4]; simp
  · rw [fRet_ap, hmin]
end Law

namespace Law
open PySem L2 Evl Pd
/-! ### wider columns never take more lines -/
theorem ln_mono {w w' : Int} (hw : w ≤ w') : ∀ (xs : List Int), (∀ x ∈ xs, 1 ≤ x) → ∀ (m r m' r' : Int), r ≤ w + 1 → (m' < m ∨ (m' = m ∧ r ≤ r')) → (xs.foldl (lnStep w') (m', r')).1 ≤ (xs.foldl (lnStep w) (m, r)).1
  | [], _, m, r, m', r', _, h => by show m' ≤ m; omega
  | x :: xs, hx, m, r, m', r', hr, h => by
    have h1 := hx x (List.mem_cons_self ..)
    have ih := ln_mono hw xs fun y hy => hx y (List.mem_cons_of_mem _ hy)
    rw [List.foldl_cons, List.foldl_cons]
    unfold lnStep
    dsimp only
    by_cases a : r < x + 1 <;> by_cases b : r' < x + 1
    · rw [if_pos a, if_pos b]; exact ih _ _ _ _ (by omega) (by omega)
    · rw [if_pos a, if_neg b]; exact ih _ _ _ _ (by omega) (by omega)
    · rw [if_neg a, if_pos b]; exact ih _ _ _ _ (by omega) (by omega)
    · rw [if_neg a, if_neg b]; exact ih _ _ _ _ (by omega) (by omega)
theorem lnFold_mono {w w' : Int} (hw : w ≤ w') (h0 : 0 ≤ w) {xs : List Int} (h : ∀ x ∈ xs, 1 ≤ x) : lnFold xs w' ≤ lnFold xs w := ln_mono hw xs h 0 (-1) 0 (-1) (by omega) (.inr ⟨rfl, Int.le_refl _⟩)
theorem mxL_mono {T : Type} {l : List T} {f g : T → Int} (hl : l ≠ []) (h : ∀ c ∈ l, f c ≤ g c) : mxL (l.map f) ≤ mxL (l.map g) := by
  have h1 : mxL (l.map f) ∈ l.map f := mxL_mem (by simpa using hl)
  obtain ⟨c, hc, e⟩ := List.mem_map.mp h1
  have h2 : g c ≤ mxL (l.map g) := mxL_le (List.mem_map.mpr ⟨c, hc, rfl⟩)
  have := h c hc
  omega
theorem sum_mono {T : Type} {l : List T} {f g : T → Int} (h : ∀ c ∈ l, f c ≤ g c) : (l.map f).sum ≤ (l.map g).sum := by
  induction l with
  | nil => simp
  | cons x r ih =>
    have := h x (List.mem_cons_self ..)
    have := ih fun y hy => h y (List.mem_cons_of_mem _ hy)
    simp only [List.map_cons, List.sum_cons]; omega
theorem rowF_fits {m : Nat} {sh : List (List (List Int))} (S : Sheet m sh) {ws : List Int} (h : Fits m sh ws) {row : List (List Int)} (hr : row ∈ sh) : rowF ws row = mxL ((List.range m).map fun c => max 1 (lnFold (row.getD c []) (ws.getD c 0))) := by
  unfold rowF
  rw [rowL_range (S.wid row hr) h.1, List.map_map]
  congr 1
  refine List.map_congr_left fun c hc => ?_
  simp only [Function.comp]
  rw [tlines_some (h.le S hr (List.mem_range.mp hc))]; rfl
theorem Fs_mono {m : Nat} {sh : List (List (List Int))} (S : Sheet m sh) {u v : List Int} (hu : Fits m sh u) (hv : Fits m sh v) (h : ∀ c, c < m → u.getD c 0 ≤ v.getD c 0) : Fs sh v ≤ Fs sh u := by
  unfold Fs
  refine sum_mono fun row hr => ?_
  rw [rowF_fits S hu hr, rowF_fits S hv hr]
  have hm := S.m1
  refine mxL_mono (fun e => by have := congrArg List.length e; simp at this; omega) fun c hc => ?_
  have hc' := List.mem_range.mp hc
  have h1 : 0 ≤ u.getD c 0 := by have := hu.2 c hc'; have := least1 (colOf sh c); omega
  have h2 : ∀ x ∈ row.getD c [], 1 ≤ x := fun x hx => by
    have hl : c < row.length := by rw [S.wid row hr]; exact hc'
    have : row.getD c [] = row[c] := by simp [List.getD, hl]
    rw [this] at hx
    exact (S.pos row hr _ (List.getElem_mem hl) x hx).1
  have := lnFold_mono (h c hc') h1 h2
  omega
/-! ### the order of rows of numbers -/
theorem ltri : ∀ u v : List Int, u < v ∨ u = v ∨ v < u
  | [], [] => .inr (.inl rfl)
  | [], _ :: _ => .inl (List.nil_lt_cons _ _)
  | _ :: _, [] => .inr (.inr (List.nil_lt_cons _ _))
  | x :: u, y :: v => by
    rw [List.cons_lt_cons_iff, List.cons_lt_cons_iff, List.cons.injEq]
    rcases Int.lt_trichotomy x y with h | h | h
    · exact .inl (.inl h)
    · rcases ltri u v with g | g | g
      · exact .inl (.inr ⟨h, g⟩)
      · exact .inr (.inl ⟨h, g⟩)
      · exact .inr (.inr (.inr ⟨h.symm, g⟩))
    · exact .inr (.inr (.inl h))
theorem lt_app : ∀ {p q : List Int} (a b : List Int), p.length = q.length → p < q → p ++ a < q ++ b
  | [], [], _, _, _, h => absurd h (List.lt_irrefl _)
  | [], _ :: _, _, _, h, _ => by simp at h
  | _ :: _, [], _, _, h, _ => by simp at h
  | x :: p, y :: q, a, b, hl, h => by
    rw [List.cons_lt_cons_iff] at h
    rw [List.cons_append, List.cons_append, List.cons_lt_cons_iff]
    rcases h with h | ⟨h1, h2⟩
    · exact .inl h
    · exact .inr ⟨h1, lt_app a b (by simpa using hl) h2⟩
theorem app_lt : ∀ {p : List Int} {a b : Int}, a < b → p ++ [a] < p ++ [b]
  | [], a, b, h => by show [a] < [b]; rw [List.cons_lt_cons_iff]; exact .inl h
  | x :: p, a, b, h => by
    rw [List.cons_append, List.cons_append, List.cons_lt_cons_iff]
    exact .inr ⟨rfl, app_lt h⟩
theorem ltr {u v w : List Int} (h1 : u < v) (h2 : v < w) : u < w := List.lt_trans h1 h2
def Mlt (a b : Int × List Int) : Prop := a.1 < b.1 ∨ (a.1 = b.1 ∧ a.2 < b.2)
theorem mlt_iff {a b : Int × List Int} : mlt a b = true ↔ Mlt a b := by unfold mlt Mlt; simp
theorem Mlt.trans {a b c : Int × List Int} (h1 : Mlt a b) (h2 : Mlt b c) : Mlt a c := by
  unfold Mlt at *
  rcases h1 with h1 | ⟨h1, g1⟩ <;> rcases h2 with h2 | ⟨h2, g2⟩
  · left; omega
  · left; omega
  · left; omega
  · right; exact ⟨h1.trans h2, ltr g1 g2⟩
theorem Mlt.irrefl (a : Int × List Int) : ¬ Mlt a a := by
  rintro (h | ⟨_, h⟩)
  · omega
  · exact List.lt_irrefl _ h
theorem Mlt.tri (a b : Int × List Int) : Mlt a b ∨ a = b ∨ Mlt b a := by
  unfold Mlt
  rcases Int.lt_trichotomy a.1 b.1 with h | h | h
  · exact .inl (.inl h)
  · rcases ltri a.2 b.2 with g | g | g
    · exact .inl (.inr ⟨h, g⟩)
    · exact .inr (.inl (Prod.ext h g))
    · exact .inr (.inr (.inr ⟨h.symm, g⟩))
  · exact .inr (.inr (.inl h))
/-- the least one -/
theorem minM_least (x : Int × List Int) (xs : List (Int × List Int)) : minM x xs ∈ x :: xs ∧ ∀ y ∈ x :: xs, y = minM x xs ∨ Mlt (minM x xs) y := by
  unfold minM
  induction xs generalizing x with
  | nil => exact ⟨List.mem_cons_self .., fun y hy => .inl (by simpa using hy)⟩
  | cons z r ih =>
    rw [List.foldl_cons]
    by_cases h : mlt z x = true
    · rw [if_pos h]
      obtain ⟨h1, h2⟩ := ih z
      refine ⟨List.mem_cons_of_mem _ h1, fun y hy => ?_⟩
      rcases List.mem_cons.mp hy with rfl | hy
      · right
        rcases h2 z (List.mem_cons_self ..) with e | e
        · rw [← e]; exact mlt_iff.mp h
        · exact e.trans (mlt_iff.mp h)
      · exact h2 y hy
    · rw [if_neg h]
      obtain ⟨h1, h2⟩ := ih x
      refine ⟨?_, fun y hy => ?_⟩
      · rcases List.mem_cons.mp h1 with e | e
        · rw [e]; exact List.mem_cons_self ..
        · exact List.mem_cons_of_mem _ (List.mem_cons_of_mem _ e)
      · rcases List.mem_cons.mp hy with rfl | hy
        · exact h2 y (List.mem_cons_self ..)
        · rcases List.mem_cons.mp hy with rfl | hy
          · have hn : ¬ Mlt y x := fun q => h (mlt_iff.mpr q)
            rcases h2 x (List.mem_cons_self ..) with e | e
            · rw [← e]
              rcases Mlt.tri y x with q | q | q
              · exact absurd q hn
              · exact .inl q
              · exact .inr q
            · rcases Mlt.tri y x with q | q | q
              · exact absurd q hn
              · rw [q]; exact .inr e
              · exact .inr (e.trans q)
          · exact h2 y (List.mem_cons_of_mem _ hy)
end Law

namespace Law
open PySem L2 Evl Pd
/-- the least mark among those that begin with what has been looked at -/
def Good (sh : List (List (List Int))) (lst : List Int) (room : Int) (done : List (List Int)) : Option (Int × List Int) → Prop
  | none => done = []
  | some b => (∃ p ∈ done, ∃ s ∈ lastOf lst room p, b = (Fs sh (p ++ [s]), p ++ [s])) ∧ ∀ q ∈ done, ∀ t ∈ lastOf lst room q, (Fs sh (q ++ [t]), q ++ [t]) = b ∨ Mlt b (Fs sh (q ++ [t]), q ++ [t])
theorem lastOf_sorted {lst : List Int} (h : lst.Pairwise (· < ·)) (room : Int) (p : List Int) : (lastOf lst room p).Pairwise (· < ·) := List.Pairwise.filter _ h
theorem getLastD_max {l : List Int} (h : l.Pairwise (· < ·)) {t : Int} (ht : t ∈ l) : t ≤ l.getLastD 0 := by
  have hne := List.ne_nil_of_mem ht
  obtain ⟨i, z, rfl⟩ : ∃ i z, l = i ++ [z] := ⟨l.dropLast, l.getLast hne, (List.dropLast_concat_getLast hne).symm⟩
  have e : (i ++ [z]).getLastD 0 = z := by simp
  rw [e]
  rcases List.mem_append.mp ht with ht | ht
  · exact Int.le_of_lt ((List.pairwise_append.mp h).2.2 t ht z (List.mem_singleton.mpr rfl))
  · rw [List.mem_singleton.mp ht]; exact Int.le_refl _
theorem headD_min {l : List Int} (h : l.Pairwise (· < ·)) {t : Int} (ht : t ∈ l) : l.headD 0 ≤ t ∧ l.headD 0 ∈ l := by
  cases l with
  | nil => nomatch ht
  | cons x r =>
    refine ⟨?_, List.mem_cons_self ..⟩
    rcases List.mem_cons.mp ht with rfl | ht
    · exact Int.le_refl _
    · exact Int.le_of_lt ((List.pairwise_cons.mp h).1 t ht)
theorem few_le {m : Nat} {sh : List (List (List Int))} (S : Sheet m sh) {lst : List Int} (hs : lst.Pairwise (· < ·)) {room : Int} {p : List Int} (hp : p.length + 1 = m) (ok : ∀ s ∈ lastOf lst room p, Fits m sh (p ++ [s])) {t : Int} (ht : t ∈ lastOf lst room p) : fewOf sh lst room p ≤ Fs sh (p ++ [t]) := by
  have hne := List.ne_nil_of_mem ht
  have hmax := getLastD_max (lastOf_sorted hs room p) ht
  unfold fewOf
  refine Fs_mono S (ok t ht) (ok _ (getLastD_mem hne)) fun c hc => ?_
  rcases Nat.lt_or_ge c p.length with h | h
  · rw [getD_app_lt h, getD_app_lt h]; exact Int.le_refl _
  · have : c = p.length := by omega
    subst this
    rw [getD_app_eq, getD_app_eq]; exact hmax
theorem pick_spec {sh : List (List (List Int))} {lst : List Int} (hs : lst.Pairwise (· < ·)) {room : Int} {p : List Int} (hne : lastOf lst room p ≠ []) :
    pickOf sh lst room p ∈ lastOf lst room p ∧ Fs sh (p ++ [pickOf sh lst room p]) = fewOf sh lst room p ∧ ∀ t ∈ lastOf lst room p, Fs sh (p ++ [t]) = fewOf sh lst room p → pickOf sh lst room p ≤ t := by
  have hfl : (lastOf lst room p).getLastD 0 ∈ (lastOf lst room p).filter fun s => decide (Fs sh (p ++ [s]) = fewOf sh lst room p) := List.mem_filter.mpr ⟨getLastD_mem hne, by unfold fewOf; simp⟩
  have hsf : ((lastOf lst room p).filter fun s => decide (Fs sh (p ++ [s]) = fewOf sh lst room p)).Pairwise (· < ·) := List.Pairwise.filter _ (lastOf_sorted hs room p)
  obtain ⟨_, h2⟩ := headD_min hsf hfl
  have h3 := List.mem_filter.mp h2
  refine ⟨h3.1, of_decide_eq_true h3.2, fun t ht e => ?_⟩
  exact (headD_min hsf (List.mem_filter.mpr ⟨ht, by simpa using e⟩)).1
theorem good_step {m : Nat} {sh : List (List (List Int))} (S : Sheet m sh) {lst : List Int} (hs : lst.Pairwise (· < ·)) {room : Int} {done : List (List Int)} {p : List Int} {b : Option (Int × List Int)} (g : Good sh lst room done b) (hp : p.length + 1 = m) (hne : lastOf lst room p ≠ []) (ok : ∀ s ∈ lastOf lst room p, Fits m sh (p ++ [s]))
    (hd : ∀ q ∈ done, q.length = p.length ∧ q < p) : Good sh lst room (done ++ [p]) (bwStep sh lst room b p) := by
  obtain ⟨k1, k2, k3⟩ := pick_spec (sh := sh) hs hne
  have hnew : ∀ t ∈ lastOf lst room p, (Fs sh (p ++ [t]), p ++ [t]) = (fewOf sh lst room p, p ++ [pickOf sh lst room p]) ∨ Mlt (fewOf sh lst room p, p ++ [pickOf sh lst room p]) (Fs sh (p ++ [t]), p ++ [t]) := fun t ht => by
    have h1 := few_le S hs hp ok ht
    rcases Int.lt_or_eq_of_le h1 with h1 | h1
    · exact .inr (.inl h1)
    · have h2 := k3 t ht h1.symm
      rcases Int.lt_or_eq_of_le h2 with h2 | h2
      · exact .inr (.inr ⟨h1, app_lt h2⟩)
      · left; rw [h2, h1, ← h2]
  have hnewb : Good sh lst room (done ++ [p]) (some (fewOf sh lst room p, p ++ [pickOf sh lst room p])) ∨ ¬ (∀ q ∈ done, ∀ t ∈ lastOf lst room q, Mlt (fewOf sh lst room p, p ++ [pickOf sh lst room p]) (Fs sh (q ++ [t]), q ++ [t])) := by
    by_cases hall : ∀ q ∈ done, ∀ t ∈ lastOf lst room q, Mlt (fewOf sh lst room p, p ++ [pickOf sh lst room p]) (Fs sh (q ++ [t]), q ++ [t])
    · left
      refine ⟨⟨p, by simp, _, k1, by rw [k2]⟩, fun q hq t ht => ?_⟩
      rcases List.mem_append.mp hq with hq | hq
      · exact .inr (hall q hq t ht)
      · rw [List.mem_singleton.mp hq] at ht ⊢; exact hnew t ht
    · exact .inr hall
  unfold bwStep
  cases b with
  | none =>
    rw [if_pos (by rfl)]
    have hdn : done = [] := g
    subst hdn
    rcases hnewb with h | h
    · exact h
    · exact absurd (fun q hq => nomatch hq) h
  | some b =>
    obtain ⟨⟨p0, hp0, s0, hs0, hb⟩, hall⟩ := g
    by_cases hlt : fewOf sh lst room p < b.1
    · rw [if_pos (by simpa using hlt)]
      rcases hnewb with h | h
      · exact h
      · refine absurd (fun q hq t ht => ?_) h
        rcases hall q hq t ht with e | e
        · rw [e]; exact .inl hlt
        · rcases e with e | ⟨e, _⟩
          · exact .inl (by show fewOf sh lst room p < _; have e' : b.1 < Fs sh (q ++ [t]) := e; exact Int.lt_trans hlt e')
          · exact .inl (by show fewOf sh lst room p < _; have e' : b.1 = Fs sh (q ++ [t]) := e; rw [← e']; exact hlt)
    · rw [if_neg (by simpa using hlt)]
      refine ⟨⟨p0, by simp [hp0], s0, hs0, hb⟩, fun q hq t ht => ?_⟩
      rcases List.mem_append.mp hq with hq | hq
      · exact hall q hq t ht
      · rw [List.mem_singleton.mp hq] at ht ⊢
        right
        have h1 := few_le S hs hp ok ht
        have h2 : b.1 ≤ Fs sh (p ++ [t]) := by omega
        rcases Int.lt_or_eq_of_le h2 with h2 | h2
        · exact .inl h2
        · refine .inr ⟨h2, ?_⟩
          obtain ⟨g1, g2⟩ := hd p0 hp0
          rw [hb]
          exact lt_app _ _ g1 g2
theorem good_all {m : Nat} {sh : List (List (List Int))} (S : Sheet m sh) {lst : List Int} (hs : lst.Pairwise (· < ·)) {room : Int} : ∀ (bg done : List (List Int)) (b : Option (Int × List Int)), Good sh lst room done b → (done ++ bg).Pairwise (· < ·) → (∀ q ∈ done ++ bg, q.length + 1 = m) →
    (∀ p ∈ bg, lastOf lst room p ≠ [] ∧ ∀ s ∈ lastOf lst room p, Fits m sh (p ++ [s])) → Good sh lst room (done ++ bg) (bg.foldl (bwStep sh lst room) b)
  | [], done, b, g, _, _, _ => by rw [List.append_nil]; exact g
  | p :: bg, done, b, g, hpw, hln, ok => by
    rw [List.foldl_cons]
    have e : done ++ p :: bg = (done ++ [p]) ++ bg := by simp
    rw [e] at hpw hln ⊢
    refine good_all S hs bg (done ++ [p]) _ (good_step S hs g (hln p (by simp)) (ok p (List.mem_cons_self ..)).1 (ok p (List.mem_cons_self ..)).2 fun q hq => ⟨?_, ?_⟩) hpw hln fun q hq => ok q (List.mem_cons_of_mem _ hq)
    · have h1 := hln q (by simp [hq]); have h2 := hln p (by simp); omega
    · exact (List.pairwise_append.mp (List.pairwise_append.mp hpw).1).2.2 q hq p (List.mem_singleton.mpr rfl)
/-- both give the same -/
theorem best_same {m : Nat} {sh : List (List (List Int))} (S : Sheet m sh) {lst : List Int} (hs : lst.Pairwise (· < ·)) {room : Int} {bg A : List (List Int)} (hpw : bg.Pairwise (· < ·)) (hln : ∀ q ∈ bg, q.length + 1 = m) (ok : ∀ p ∈ bg, lastOf lst room p ≠ [] ∧ ∀ s ∈ lastOf lst room p, Fits m sh (p ++ [s]))
    (hA : ∀ v, v ∈ A ↔ ∃ p ∈ bg, ∃ s ∈ lastOf lst room p, v = p ++ [s]) : bg.foldl (bwStep sh lst room) none = lawBest sh A := by
  have g := good_all S hs bg [] none rfl (by simpa using hpw) (by simpa using hln) ok
  rw [List.nil_append] at g
  unfold lawBest
  cases hb : bg.foldl (bwStep sh lst room) none with
  | none =>
    rw [hb] at g
    have hbg : bg = [] := g
    subst hbg
    have : A = [] := List.eq_nil_iff_forall_not_mem.mpr fun v hv => by
      obtain ⟨p, hp, _⟩ := (hA v).mp hv
      nomatch hp
    rw [this]; rfl
  | some b =>
    rw [hb] at g
    obtain ⟨⟨p, hp, s, hsl, e⟩, hall⟩ := g
    have hmem : b ∈ A.map fun p => (Fs sh p, p) := by
      rw [e]
      exact List.mem_map.mpr ⟨p ++ [s], (hA _).mpr ⟨p, hp, s, hsl, rfl⟩, rfl⟩
    cases hQ : A.map fun p => (Fs sh p, p) with
    | nil => rw [hQ] at hmem; nomatch hmem
    | cons x xs =>
      dsimp only
      obtain ⟨h1, h2⟩ := minM_least x xs
      rw [← hQ] at h1 h2
      obtain ⟨v, hv, ev⟩ := List.mem_map.mp h1
      obtain ⟨q, hq, t, ht, rfl⟩ := (hA v).mp hv
      congr 1
      rcases hall q hq t ht with e2 | e2
      · rw [← ev]; exact e2.symm
      · rcases h2 b hmem with e3 | e3
        · exact e3
        · have e2' : Mlt b (minM x xs) := by rw [← ev]; exact e2
          exact absurd (e2'.trans e3) (Mlt.irrefl _)
end Law

namespace Law
open PySem L2 Evl Pd
/-! ### how many -/
def prodN (sts : List (List Int)) : Nat → Nat
  | 0 => 1
  | n + 1 => prodN sts n * (sts.getD n []).length
theorem flat_le {T U : Type} {l : List T} {f : T → List U} {k : Nat} (h : ∀ x ∈ l, (f x).length ≤ k) : (l.map f).flatten.length ≤ l.length * k := by
  induction l with
  | nil => simp
  | cons x r ih =>
    have h1 := h x (List.mem_cons_self ..)
    have h2 := ih fun y hy => h y (List.mem_cons_of_mem _ hy)
    rw [List.map_cons, List.flatten_cons, List.length_append, List.length_cons, Nat.succ_mul]; omega
theorem gwN_count (sts : List (List Int)) (add : Nat → Int) (room : Int) : ∀ n, (gwN sts add room n).length ≤ prodN sts n
  | 0 => by simp [gwN, prodN]
  | n + 1 => by
    rw [gwN_succ]
    unfold gwStep prodN
    refine Nat.le_trans (flat_le (k := (sts.getD n []).length) fun p hp => ?_) (Nat.mul_le_mul_right _ (gwN_count sts add room n))
    rw [List.length_map]
    exact List.length_filter_le _ _
theorem prodN_mono {a b : List (List Int)} (h : ∀ c, (a.getD c []).length ≤ (b.getD c []).length) : ∀ n, prodN a n ≤ prodN b n
  | 0 => Nat.le_refl _
  | n + 1 => Nat.mul_le_mul (prodN_mono h n) (h n)
/-! ### sorted -/
theorem gwN_sorted {sts : List (List Int)} (add : Nat → Int) (room : Int) (h : ∀ c, (sts.getD c []).Pairwise (· < ·)) : ∀ n, (gwN sts add room n).Pairwise (· < ·)
  | 0 => by simp [gwN]
  | n + 1 => by
    rw [gwN_succ]
    unfold gwStep
    rw [List.pairwise_flatten]
    refine ⟨fun l hl => ?_, ?_⟩
    · obtain ⟨p, hp, rfl⟩ := List.mem_map.mp hl
      rw [List.pairwise_map]
      exact (List.Pairwise.filter _ (h n)).imp fun hab => app_lt hab
    · rw [List.pairwise_map]
      refine (gwN_sorted add room h n).imp_of_mem fun {p q} hp hq hpq => ?_
      intro x hx y hy
      obtain ⟨a, _, rfl⟩ := List.mem_map.mp hx
      obtain ⟨b, _, rfl⟩ := List.mem_map.mp hy
      exact lt_app _ _ ((gwN_len n p hp).trans (gwN_len n q hq).symm) hpq
/-! ### what is in them -/
theorem sum_app (p : List Int) (s : Int) : (p ++ [s]).sum = p.sum + s := by simp
theorem snoc {v : List Int} {n : Nat} (h : v.length = n + 1) : ∃ p s, v = p ++ [s] ∧ p.length = n := by
  have hne : v ≠ [] := fun e => by rw [e] at h; simp at h
  refine ⟨v.dropLast, v.getLast hne, (List.dropLast_concat_getLast hne).symm, by simp [h]⟩
theorem sum_nn {v : List Int} (h : ∀ x ∈ v, 0 ≤ x) : 0 ≤ v.sum := by
  induction v with
  | nil => simp
  | cons x r ih =>
    have := h x (List.mem_cons_self ..)
    have := ih fun y hy => h y (List.mem_cons_of_mem _ hy)
    rw [List.sum_cons]; omega
theorem elt_le {v : List Int} (h : ∀ x ∈ v, 0 ≤ x) {x : Int} (hx : x ∈ v) : x ≤ v.sum := by
  induction v with
  | nil => nomatch hx
  | cons y r ih =>
    have h1 := h y (List.mem_cons_self ..)
    have h2 := sum_nn fun z hz => h z (List.mem_cons_of_mem _ hz)
    rw [List.sum_cons]
    rcases List.mem_cons.mp hx with rfl | hx
    · omega
    · have := ih (fun z hz => h z (List.mem_cons_of_mem _ hz)) hx; omega
theorem getD_mem {v : List Int} {c : Nat} (h : c < v.length) : v.getD c 0 ∈ v := by
  have : v.getD c 0 = v[c] := by simp [List.getD, h]
  rw [this]; exact List.getElem_mem h
theorem A_mem {m : Nat} {sh : List (List (List Int))} {room : Int} : ∀ {n : Nat}, n ≤ m → ∀ {v : List Int}, v ∈ gwN (allSts sh m) z0 room n ↔ v.length = n ∧ (∀ c, c < n → v.getD c 0 ∈ stepsC (colOf sh c)) ∧ (n = 0 ∨ v.sum ≤ room)
  | 0, _, v => by
    have : gwN (allSts sh m) z0 room 0 = [[]] := rfl
    rw [this]
    constructor
    · intro h
      have : v = [] := by simpa using h
      subst this
      exact ⟨rfl, fun c hc => absurd hc (Nat.not_lt_zero _), .inl rfl⟩
    · rintro ⟨h, _⟩
      simpa using h
  | n + 1, hn, v => by
    have ih := fun (v : List Int) => A_mem (sh := sh) (room := room) (m := m) (n := n) (by omega) (v := v)
    rw [gwN_succ_mem]
    constructor
    · rintro ⟨q, s, rfl, hq, hs, h⟩
      obtain ⟨h1, h2, _⟩ := (ih _).mp hq
      rw [allSts_at (by omega)] at hs
      refine ⟨by simp [h1], fun c hc => ?_, .inr (by rw [sum_app]; simpa [z0] using h)⟩
      rcases Nat.lt_or_ge c n with g | g
      · rw [getD_app_lt (by omega)]; exact h2 c g
      · have : c = n := by omega
        subst this
        rw [← h1, getD_app_eq, h1]; exact hs
    · rintro ⟨h1, h2, h3⟩
      obtain ⟨q, s, rfl, hl⟩ := snoc h1
      have hs : s ∈ stepsC (colOf sh n) := by have := h2 n (by omega); rw [← hl, getD_app_eq, hl] at this; exact this
      have hsum : q.sum + s ≤ room := by rw [← sum_app]; exact h3.resolve_left (by omega)
      have hs1 := stepsC_ge hs
      have := least1 (colOf sh n)
      refine ⟨q, s, rfl, (ih _).mpr ⟨hl, fun c hc => ?_, .inr (by omega)⟩, by rw [allSts_at (by omega)]; exact hs, by simpa [z0] using hsum⟩
      have := h2 c (by omega)
      rw [getD_app_lt (by omega)] at this; exact this
/-- the least widths behind column c -/
theorem cap_least {m : Nat} {sh : List (List (List Int))} {room : Int} {c : Nat} (hc : c < m) (h : leastC (colOf sh c) ≤ room) : leastC (colOf sh c) ∈ (capSts sh m room).getD c [] ∧ mnL ((capSts sh m room).getD c []) = leastC (colOf sh c) := by
  rw [capSts_at hc]
  have h1 : leastC (colOf sh c) ∈ (stepsC (colOf sh c)).filter fun s => decide (s ≤ room) := List.mem_filter.mpr ⟨by unfold stepsC; exact List.mem_cons_self .., by simpa using h⟩
  exact ⟨h1, mnL_eq h1 fun y hy => stepsC_ge (List.mem_filter.mp hy).1⟩
theorem restMin_step {m : Nat} {sh : List (List (List Int))} {room : Int} {c : Nat} (hc : c + 1 < m) (h : leastC (colOf sh (c + 1)) ≤ room) : restMin (capSts sh m room) c = leastC (colOf sh (c + 1)) + restMin (capSts sh m room) (c + 1) := by
  have hlen : (capSts sh m room).length = m := by simp [capSts]
  unfold restMin
  have hi : c + 1 < (capSts sh m room).length := by omega
  rw [List.drop_eq_getElem_cons hi, List.map_cons, List.sum_cons]
  congr 1
  have := (cap_least hc h).2
  have e : (capSts sh m room).getD (c + 1) [] = (capSts sh m room)[c + 1] := by simp [List.getD, hi]
  rw [e] at this; exact this
theorem restMin_end {m : Nat} {sh : List (List (List Int))} {room : Int} {c : Nat} (hc : c + 1 = m) : restMin (capSts sh m room) c = 0 := by
  have hlen : (capSts sh m room).length = m := by simp [capSts]
  unfold restMin
  rw [List.drop_of_length_le (by omega)]; rfl
theorem bg_mem {m : Nat} {sh : List (List (List Int))} {room : Int} (hr : ∀ c, c < m → leastC (colOf sh c) ≤ room) : ∀ {n : Nat}, n ≤ m → ∀ {v : List Int}, v ∈ gwN (capSts sh m room) (restMin (capSts sh m room)) room n ↔ v.length = n ∧ (∀ c, c < n → v.getD c 0 ∈ stepsC (colOf sh c) ∧ v.getD c 0 ≤ room) ∧ (n = 0 ∨ v.sum + restMin (capSts sh m room) (n - 1) ≤ room)
  | 0, _, v => by
    have : gwN (capSts sh m room) (restMin (capSts sh m room)) room 0 = [[]] := rfl
    rw [this]
    constructor
    · intro h
      have : v = [] := by simpa using h
      subst this
      exact ⟨rfl, fun c hc => absurd hc (Nat.not_lt_zero _), .inl rfl⟩
    · rintro ⟨h, _⟩
      simpa using h
  | n + 1, hn, v => by
    have ih := fun (v : List Int) => bg_mem hr (n := n) (by omega) (v := v)
    rw [gwN_succ_mem]
    constructor
    · rintro ⟨q, s, rfl, hq, hs, h⟩
      obtain ⟨h1, h2, _⟩ := (ih _).mp hq
      rw [capSts_at (by omega)] at hs
      obtain ⟨hs1, hs2⟩ := List.mem_filter.mp hs
      refine ⟨by simp [h1], fun c hc => ?_, .inr (by rw [sum_app]; exact h)⟩
      rcases Nat.lt_or_ge c n with g | g
      · rw [getD_app_lt (by omega)]; exact h2 c g
      · have : c = n := by omega
        subst this
        rw [← h1, getD_app_eq, h1]; exact ⟨hs1, by simpa using hs2⟩
    · rintro ⟨h1, h2, h3⟩
      obtain ⟨q, s, rfl, hl⟩ := snoc h1
      have hs : s ∈ stepsC (colOf sh n) ∧ s ≤ room := by have := h2 n (by omega); rw [← hl, getD_app_eq, hl] at this; exact this
      have hsum : q.sum + s + restMin (capSts sh m room) n ≤ room := by
        have := h3.resolve_left (by omega)
        rw [sum_app] at this; exact this
      have hs1 := stepsC_ge hs.1
      refine ⟨q, s, rfl, (ih _).mpr ⟨hl, fun c hc => ?_, ?_⟩, by rw [capSts_at (by omega)]; exact List.mem_filter.mpr ⟨hs.1, by simpa using hs.2⟩, hsum⟩
      · have := h2 c (by omega)
        rw [getD_app_lt (by omega)] at this; exact this
      · rcases Nat.eq_zero_or_pos n with h0 | h0
        · exact .inl h0
        · right
          have := restMin_step (sh := sh) (room := room) (m := m) (c := n - 1) (by omega) (hr (n - 1 + 1) (by omega))
          rw [show n - 1 + 1 = n by omega] at this
          omega
/-! ### best_widths is the law's best -/
theorem least_cap {m : Nat} {sh : List (List (List Int))} {room : Int} (h : sumLeast sh m ≤ room) : ∀ c, c < m → leastC (colOf sh c) ≤ room := fun c hc => by
  have : leastC (colOf sh c) ≤ sumLeast sh m := elt_le (fun x hx => by obtain ⟨d, _, rfl⟩ := List.mem_map.mp hx; have := least1 (colOf sh d); omega) (List.mem_map.mpr ⟨c, List.mem_range.mpr hc, rfl⟩)
  omega
theorem best_ev {m : Nat} {sh : List (List (List Int))} (S : Sheet m sh) (wide gap : Int) (hB : ∀ n, n ≤ m → prodN (allSts sh m) n ≤ 4000) :
    pf_best_widths [tupTT sh, .int wide, .int gap] = some (oD (lawBest sh (gwN (allSts sh m) z0 (wide - gap * ((m : Int) - 1)) m))) := by
  obtain ⟨room, hroom⟩ : ∃ room, room = wide - gap * ((m : Int) - 1) := ⟨_, rfl⟩
  rw [← hroom]
  have hm1 := S.m1
  have hm3 := S.m3
  have hpos : ∀ {v : List Int}, v.length = m → (∀ c, c < m → v.getD c 0 ∈ stepsC (colOf sh c)) → ∀ x ∈ v, 1 ≤ x := fun {v} hl hv x hx => by
    obtain ⟨c, hc, e⟩ := List.mem_iff_getElem.mp hx
    have := stepsC_ge (hv c (by omega))
    have := least1 (colOf sh c)
    have e2 : v.getD c 0 = x := by simp [List.getD, hc, e]
    omega
  by_cases hs : room < sumLeast sh m
  · rw [pf_best_widths_none S wide gap (by rw [← hroom]; exact hs)]
    have : gwN (allSts sh m) z0 room m = [] := List.eq_nil_iff_forall_not_mem.mpr fun v hv => by
      obtain ⟨h1, h2, h3⟩ := (A_mem (Nat.le_refl m)).mp hv
      have h3 := h3.resolve_left (by omega)
      have e : v = (List.range m).map fun c => v.getD c 0 := List.ext_getElem (by simp [h1]) fun i hi hi2 => by simp [List.getD, hi]
      have : sumLeast sh m ≤ v.sum := by
        rw [e]
        exact sum_mono fun c hc => stepsC_ge (h2 c (List.mem_range.mp hc))
      omega
    rw [this]; rfl
  · have hr := least_cap (sh := sh) (m := m) (room := room) (by omega)
    have hlen : (capSts sh m room).length = m := by simp [capSts]
    have hne : capSts sh m room ≠ [] := fun e => by rw [e] at hlen; simp at hlen; omega
    obtain ⟨init, lst, hil⟩ : ∃ init lst, capSts sh m room = init ++ [lst] := ⟨_, _, (List.dropLast_concat_getLast hne).symm⟩
    have hinit : init.length = m - 1 := by have := hlen; rw [hil] at this; simp at this; omega
    have hlst : lst = (stepsC (colOf sh (m - 1))).filter fun s => decide (s ≤ room) := by
      rw [← capSts_at (room := room) (show m - 1 < m by omega), hil]
      simp [List.getD, ← hinit]
    have hsort : ∀ c, ((capSts sh m room).getD c []).Pairwise (· < ·) := fun c => by
      rcases Nat.lt_or_ge c m with h | h
      · rw [capSts_at h]; exact List.Pairwise.filter _ (stepsC_sorted _)
      · have : (capSts sh m room).getD c [] = [] := by simp [List.getD, hlen, h]
        rw [this]; exact List.Pairwise.nil
    have hpm : ∀ n, n ≤ m → prodN (capSts sh m room) n ≤ 4000 := fun n hn => by
      refine Nat.le_trans (prodN_mono (fun c => ?_) n) (hB n hn)
      rcases Nat.lt_or_ge c m with h | h
      · rw [capSts_at h, allSts_at h]; exact List.length_filter_le _ _
      · have : (capSts sh m room).getD c [] = [] := by simp [List.getD, hlen, h]
        rw [this]; exact Nat.zero_le _
    have hb := pf_begun_ev (sts := capSts sh m room) (room := room) (by omega) (by omega) (fun l hl => by
      obtain ⟨c, hc, e⟩ := List.mem_iff_getElem.mp hl
      have h1 := (cap_least (room := room) (show c < m by omega) (hr c (by omega))).1
      have e2 : (capSts sh m room).getD c [] = l := by simp [List.getD, hc, e]
      rw [e2] at h1
      exact List.ne_nil_of_mem h1) (fun n hn => Nat.le_trans (gwN_count _ _ _ n) (hpm n (by omega)))
    rw [hlen] at hb
    have hbg := fun (v : List Int) => bg_mem hr (n := m - 1) (by omega) (v := v)
    have hbs := gwN_sorted (restMin (capSts sh m room)) room hsort (m - 1)
    obtain ⟨bg, hbgd⟩ : ∃ bg, gwN (capSts sh m room) (restMin (capSts sh m room)) room (m - 1) = bg := ⟨_, rfl⟩
    rw [hbgd] at hb hbs
    simp only [hbgd] at hbg
    have hlm : leastC (colOf sh (m - 1)) ∈ lst := by
      have := (cap_least (room := room) (show m - 1 < m by omega) (hr _ (by omega))).1
      rw [capSts_at (by omega), ← hlst] at this; exact this
    have hfull : ∀ p ∈ bg, ∀ s ∈ lastOf lst room p, (p ++ [s]).length = m ∧ (∀ c, c < m → (p ++ [s]).getD c 0 ∈ (capSts sh m room).getD c []) ∧ (p ++ [s]).sum ≤ room := fun p hp s hs => by
      obtain ⟨h1, h2, _⟩ := (hbg p).mp hp
      obtain ⟨g1, g2⟩ := List.mem_filter.mp hs
      refine ⟨by simp [h1]; omega, fun c hc => ?_, by rw [sum_app]; simpa using g2⟩
      rw [capSts_at hc]
      rcases Nat.lt_or_ge c (m - 1) with h | h
      · rw [getD_app_lt (by omega)]
        exact List.mem_filter.mpr ⟨(h2 c h).1, by simpa using (h2 c h).2⟩
      · have : c = p.length := by omega
        subst this
        rw [getD_app_eq, h1, ← hlst]; exact g1
    have ok : ∀ p ∈ bg, lastOf lst room p ≠ [] ∧ ∀ s ∈ lastOf lst room p, Fits m sh (p ++ [s]) ∧ Among (init ++ [lst]) (p ++ [s]) := fun p hp => by
      obtain ⟨h1, h2, h3⟩ := (hbg p).mp hp
      refine ⟨?_, fun s hs => ?_⟩
      · refine List.ne_nil_of_mem (a := leastC (colOf sh (m - 1))) (List.mem_filter.mpr ⟨hlm, ?_⟩)
        have : p.sum + leastC (colOf sh (m - 1)) ≤ room := by
          rcases h3 with h0 | h3
          · have : p = [] := List.eq_nil_of_length_eq_zero (by omega)
            subst this
            have := hr (m - 1) (by omega)
            simpa using this
          · rcases Nat.eq_zero_or_pos (m - 1) with h0 | h0
            · have : p = [] := List.eq_nil_of_length_eq_zero (by omega)
              subst this
              have := hr (m - 1) (by omega)
              simpa using this
            · have e1 := restMin_step (sh := sh) (room := room) (m := m) (c := m - 1 - 1) (by omega) (hr (m - 1 - 1 + 1) (by omega))
              have e2 := restMin_end (sh := sh) (room := room) (m := m) (c := m - 1) (by omega)
              rw [show m - 1 - 1 + 1 = m - 1 by omega, e2] at e1
              omega
        simpa using this
      · obtain ⟨g1, g2, g3⟩ := hfull p hp s hs
        refine ⟨⟨g1, fun c hc => ?_⟩, ⟨by rw [← hil, hlen]; exact g1, fun c hc => ?_⟩⟩
        · have := g2 c hc
          rw [capSts_at hc] at this
          exact stepsC_ge (List.mem_filter.mp this).1
        · rw [← hil] at hc ⊢
          exact g2 c (by omega)
    rw [pf_best_widths_some S wide gap room hroom hs hil (by rw [← hil]; exact hb) ok (by
      rw [hlst]
      have := List.length_filter_le (fun s => decide (s ≤ room)) (stepsC (colOf sh (m - 1)))
      have := stepsC_len (S.col (show m - 1 < m by omega))
      omega)]
    congr 2
    refine best_same S (by rw [hlst]; exact List.Pairwise.filter _ (stepsC_sorted _)) hbs (fun q hq => by have := ((hbg q).mp hq).1; omega) (fun p hp => ⟨(ok p hp).1, fun s hs => ((ok p hp).2 s hs).1⟩) fun v => ?_
    rw [A_mem (Nat.le_refl m)]
    constructor
    · rintro ⟨h1, h2, h3⟩
      have h3 := h3.resolve_left (by omega)
      have hp1 := hpos h1 h2
      obtain ⟨p, s, rfl, hl⟩ := snoc (n := m - 1) (by omega : v.length = m - 1 + 1)
      have hs' : s ∈ stepsC (colOf sh (m - 1)) := by
        have := h2 (m - 1) (by omega)
        rw [← hl, getD_app_eq, hl] at this; exact this
      have hsum : p.sum + s ≤ room := by rw [← sum_app]; exact h3
      have hps : 0 ≤ p.sum := sum_nn fun x hx => by have := hp1 x (by simp [hx]); omega
      refine ⟨p, (hbg p).mpr ⟨hl, fun c hc => ?_, ?_⟩, s, List.mem_filter.mpr ⟨?_, by simpa using hsum⟩, rfl⟩
      · have h4 := h2 c (by omega)
        rw [getD_app_lt (by omega)] at h4
        refine ⟨h4, ?_⟩
        have h5 : p.getD c 0 ≤ p.sum := elt_le (fun x hx => by have := hp1 x (by simp [hx]); omega) (getD_mem (by omega))
        have := hp1 s (by simp)
        omega
      · rcases Nat.eq_zero_or_pos (m - 1) with h0 | h0
        · exact .inl h0
        · right
          have e1 := restMin_step (sh := sh) (room := room) (m := m) (c := m - 1 - 1) (by omega) (hr (m - 1 - 1 + 1) (by omega))
          have e2 := restMin_end (sh := sh) (room := room) (m := m) (c := m - 1) (by omega)
          rw [show m - 1 - 1 + 1 = m - 1 by omega, e2] at e1
          have := stepsC_ge hs'
          omega
      · rw [hlst]
        exact List.mem_filter.mpr ⟨hs', by simp; omega⟩
    · rintro ⟨p, hp, s, hs, rfl⟩
      obtain ⟨g1, g2, g3⟩ := hfull p hp s hs
      refine ⟨g1, fun c hc => ?_, .inr g3⟩
      have := g2 c hc
      rw [capSts_at hc] at this
      exact (List.mem_filter.mp this).1
end Law

namespace Law
open PySem L2 Evl Pd
/-! ### a list cut into parts -/
def partsN (n k : Nat) : Nat := (n - 1) / k + 1
theorem gRng3_ev {n k : Nat} (hn : 1 ≤ n) (hn2 : n ≤ 1000000) (hk : 1 ≤ k) (hk2 : k ≤ 1000000) : gRng3 [.int 0, .int (n : Int), .int (k : Int)] = some ((List.range (partsN n k)).map fun i => PyData.int ((i * k : Nat) : Int)) := by
  have hsz : Builtin.Range.rangeSize 0 (n : Int) (k : Int) = ((partsN n k : Nat) : Int) := by
    unfold Builtin.Range.rangeSize partsN
    rw [if_pos (by omega), if_pos (by omega)]
    have : ((n : Int) - 0 - 1) = ((n - 1 : Nat) : Int) := by omega
    rw [this]
    simp
  have hp : partsN n k ≤ 1000000 := by
    unfold partsN
    have := Nat.div_le_self (n - 1) k
    omega
  have hsm : Builtin.Range.small 0 (n : Int) (k : Int) = true := by
    unfold Builtin.Range.small Builtin.Range.rangeFitsLong
    rw [hsz, if_pos (by omega)]
    simp
    omega
  have hrg : rgN 0 (n : Int) (k : Int) = partsN n k := by unfold rgN; rw [hsz]; simp
  show (if _ then some (stpD 0 (k : Int) (rgN 0 (n : Int) (k : Int))) else none) = _
  rw [if_pos]
  · rw [hrg]
    unfold stpD
    simp
  · rw [hsm, hrg, hsz]
    simp
    omega
theorem cutD_nat (xs : List PyData) (a b : Nat) : cutD xs (some (a : Int)) (some (b : Int)) = (xs.drop a).take (b - a) := by
  unfold cutD
  rw [HT.sIx_nat, HT.sIx_nat]
  refine List.ext_getElem? fun i => ?_
  rw [List.getElem?_take, List.getElem?_take, List.getElem?_drop, List.getElem?_drop]
  by_cases h : a ≤ xs.length
  · rw [show min a xs.length = a by omega]
    by_cases h1 : i < b - a
    · rw [if_pos h1]
      by_cases h2 : i < min b xs.length - a
      · rw [if_pos h2]
      · rw [if_neg h2, List.getElem?_eq_none (by omega)]
    · rw [if_neg h1, if_neg (by omega)]
  · rw [show min a xs.length = xs.length by omega, if_neg (by omega)]
    split
    · rw [List.getElem?_eq_none (by omega)]
    · rfl
def cutL (xs : List Int) (k : Nat) : List (List Int) := (List.range (partsN xs.length k)).map fun i => (xs.drop (i * k)).take k
def rowsT (l : List (List Int)) : PyData := .tuple (l.map tupI)
@[simp] theorem gSeq_rowsT (l : List (List Int)) : gSeq (rowsT l) = some (l.map tupI) := rfl
theorem cut_slice (xs : List Int) (i k : Nat) : cutD (xs.map PyData.int) (some ((i * k : Nat) : Int)) (some (((i * k : Nat) : Int) + (k : Int))) = ((xs.drop (i * k)).take k).map PyData.int := by
  have : (((i * k : Nat) : Int) + (k : Int)) = ((i * k + k : Nat) : Int) := by omega
  rw [this, cutD_nat, List.map_take, List.map_drop]
  congr 1; omega
theorem pf_cut_evT {xs : List Int} {k : Nat} (h1 : xs ≠ []) (h2 : xs.length ≤ 1000) (hk : 1 ≤ k) (hk2 : k ≤ 1000000) (b : Bool) : pf_cut [if b then tupI xs else lstI xs, .int (k : Int)] = some (rowsT (cutL xs k)) := by
  have hl : 1 ≤ xs.length := by cases xs with
    | nil => exact absurd rfl h1
    | cons => simp
  have hg := gRng3_ev (n := xs.length) (k := k) hl (by omega) hk hk2
  have hp : partsN xs.length k ≤ 1000000 := by
    unfold partsN
    have := Nat.div_le_self (xs.length - 1) k
    omega
  obtain ⟨X, hX, hlen, hsl⟩ : ∃ X, (if b then tupI xs else lstI xs) = X ∧ gLen X = some (.int xs.length) ∧ ∀ i : Nat, ∃ Y, gSl X (some ((i * k : Nat) : Int)) (some (((i * k : Nat) : Int) + (k : Int))) = some Y ∧ gTuple Y = some (tupI ((xs.drop (i * k)).take k)) := by
    cases b with
    | true =>
      refine ⟨_, rfl, gLen_T xs, fun i => ⟨tupI ((xs.drop (i * k)).take k), ?_, rfl⟩⟩
      show gSl (tupI xs) _ _ = _
      unfold tupI
      rw [gSl_t, cut_slice]
    | false =>
      refine ⟨_, rfl, gLen_L xs, fun i => ⟨lstI ((xs.drop (i * k)).take k), ?_, rfl⟩⟩
      show gSl (lstI xs) _ _ = _
      unfold lstI
      rw [gSl_l, cut_slice]
  rw [hX]
  have h : c_cut_1 [.va X, .va (.int (k : Int)), .un] = some (.list ((cutL xs k).map tupI), [.va X, .va (.int (k : Int)), .un]) := by
    unfold c_cut_1
    rw [fLc_map (T := Nat) (xs := List.range (partsN xs.length k)) (enc := fun i => PyData.int ((i * k : Nat) : Int)) (e1 := [.va X, .va (.int (k : Int)), .un]) (e0 := [.va X, .va (.int (k : Int)), .un])
      (by rw [mIA_ap]; simp only [fCons_ap, fNil_ap, mret_ap, m1_ap, fV_ap, List.getElem?_cons_zero, List.getElem?_cons_succ, hlen, mlift_s, hg])
      (fun e => ∃ s, Jk s ∧ e = [.va X, .va (.int (k : Int)), s]) (fun i => tupI ((xs.drop (i * k)).take k)) ⟨_, jk_un, rfl⟩ (by rintro e ⟨s, hs, rfl⟩; simp) (by simp; omega)
      (by
        rintro i e hi ⟨s, hs, rfl⟩
        obtain ⟨Y, hy, ht⟩ := hsl i
        generalize ((i * k : Nat) : Int) = ik at hy ⊢
        generalize tupI ((xs.drop (i * k)).take k) = Z at ht ⊢
        simp [hy, ht, jk_va])]
    unfold cutL
    rw [List.map_map]; rfl
  refine pfP_rt (e := [.va X, .va (.int (k : Int)), .un]) rfl ?_
  rw [mm_cut, fRet_ap, m1_ap]
  show (match (match c_cut_1 [.va X, .va (.int (k : Int)), .un] with | some (x, e1) => mlift (gTuple x) e1 | none => none) with | some (x, e1) => some (Fl.rt x, e1) | none => none) = _
  rw [h]
  simp [rowsT]
theorem pf_cut_T {xs : List Int} {k : Nat} (h1 : xs ≠ []) (h2 : xs.length ≤ 1000) (hk : 1 ≤ k) (hk2 : k ≤ 1000000) : pf_cut [tupI xs, .int (k : Int)] = some (rowsT (cutL xs k)) := pf_cut_evT h1 h2 hk hk2 true
theorem pf_cut_L {xs : List Int} {k : Nat} (h1 : xs ≠ []) (h2 : xs.length ≤ 1000) (hk : 1 ≤ k) (hk2 : k ≤ 1000000) : pf_cut [lstI xs, .int (k : Int)] = some (rowsT (cutL xs k)) := pf_cut_evT h1 h2 hk hk2 false
end Law

namespace Law
open PySem L2 Evl Pd
structure Ent (xs : List Int) : Prop where
  ne : xs ≠ []
  len : xs.length ≤ 60
structure Kk (k : Nat) : Prop where
  ge : 1 ≤ k
  le : k ≤ 1000
theorem Ent.l1 {xs : List Int} (h : Ent xs) : 1 ≤ xs.length := by
  have := h.ne
  cases xs with
  | nil => exact absurd rfl this
  | cons => simp
theorem parts_le (n k : Nat) (h : 1 ≤ n) : partsN n k ≤ n := by
  unfold partsN
  have := Nat.div_le_self (n - 1) k
  omega
theorem part_ne {xs : List Int} {k : Nat} (h : xs ≠ []) (hk : 1 ≤ k) : ∀ l ∈ cutL xs k, l ≠ [] := fun l hl => by
  obtain ⟨i, hi, rfl⟩ := List.mem_map.mp hl
  have hi' := List.mem_range.mp hi
  unfold partsN at hi'
  have h1 : i * k ≤ ((xs.length - 1) / k) * k := Nat.mul_le_mul_right _ (by omega)
  have h2 := Nat.div_mul_le_self (xs.length - 1) k
  have h3 : 1 ≤ xs.length := by cases xs with
    | nil => exact absurd rfl h
    | cons => simp
  intro e
  have := congrArg List.length e
  simp at this
  omega
def wds (xs : List Int) (k : Nat) : List Int := (cutL xs k).map mxL
def widthV (xs : List Int) (k : Nat) (gap : Int) : Int := (wds xs k).sum + gap * (((wds xs k).length : Int) - 1)
theorem cutL_len (xs : List Int) (k : Nat) : (cutL xs k).length = partsN xs.length k := by simp [cutL]
theorem wds_len (xs : List Int) (k : Nat) : (wds xs k).length = partsN xs.length k := by simp [wds, cutL]
theorem pf_widths_ev {xs : List Int} {k : Nat} (h : Ent xs) (hk : Kk k) : pf_widths [tupI xs, .int (k : Int)] = some (tupI (wds xs k)) := by
  have hc := pf_cut_T (k := k) h.ne (by have := h.len; omega) hk.ge (by have := hk.le; omega)
  have hl : (cutL xs k).length ≤ 60 := by rw [cutL_len]; have := parts_le xs.length k h.l1; have := h.len; omega
  have hne := part_ne (k := k) h.ne hk.ge
  have hw : wds xs k = (cutL xs k).map mxL := rfl
  rw [hw]
  generalize cutL xs k = L at *
  have h1 : c_widths_1 [.va (tupI xs), .va (.int (k : Int)), .un] = some (lstI (L.map mxL), [.va (tupI xs), .va (.int (k : Int)), .un]) := by
    unfold c_widths_1
    rw [fLc_map (T := List Int) (xs := L) (enc := tupI) (e1 := [.va (tupI xs), .va (.int (k : Int)), .un]) (e0 := [.va (tupI xs), .va (.int (k : Int)), .un]) (by simp [hc])
      (fun e => ∃ s, Jk s ∧ e = [.va (tupI xs), .va (.int (k : Int)), s]) (fun l => .int (mxL l)) ⟨_, jk_un, rfl⟩ (by rintro e ⟨s, hs, rfl⟩; simp) (by omega)
      (by
        rintro l e hl ⟨s, hs, rfl⟩
        have := gMax1_TT (hne l hl)
        simp [this, jk_va])]
    unfold lstI; rw [List.map_map]; rfl
  simp [pf_widths, pfP, env0, mm_widths, h1]
theorem pf_width_ev {xs : List Int} {k : Nat} (h : Ent xs) (hk : Kk k) (gap : Int) : pf_width [tupI xs, .int (k : Int), .int gap] = some (.int (widthV xs k gap)) := by
  have hw := pf_widths_ev h hk
  have hl : (wds xs k).length ≤ 60 := by rw [wds_len]; have := parts_le xs.length k h.l1; have := h.len; omega
  have hmul := gMul_i (i := gap) (j := ((wds xs k).length : Int) - 1) (by omega) (by omega)
  unfold widthV
  generalize wds xs k = W at *
  simp [pf_width, pfP, env0, mm_width, hw, hmul]
theorem pf__law_wide_ev {xs : List Int} {k : Nat} (h : Ent xs) (hk : Kk k) (gap : Int) (b : Bool) : pf__law_wide [if b then tupI xs else lstI xs, .int (k : Int), .int gap] = some (.int (widthV xs k gap)) := by
  have hg := gRng3_ev (n := xs.length) (k := k) h.l1 (by have := h.len; omega) hk.ge (by have := hk.le; omega)
  have hpl := parts_le xs.length k h.l1
  have hxl := h.len
  have hne := part_ne (k := k) h.ne hk.ge
  obtain ⟨X, hX, hlen, hsl⟩ : ∃ X, (if b then tupI xs else lstI xs) = X ∧ gLen X = some (.int xs.length) ∧ ∀ i : Nat, i < partsN xs.length k → ∃ Y, gSl X (some ((i * k : Nat) : Int)) (some (((i * k : Nat) : Int) + (k : Int))) = some Y ∧ gMax1 Y = some (.int (mxL ((xs.drop (i * k)).take k))) := by
    cases b with
    | true =>
      refine ⟨_, rfl, gLen_T xs, fun i hi => ⟨tupI ((xs.drop (i * k)).take k), ?_, gMax1_TT (hne _ (List.mem_map.mpr ⟨i, List.mem_range.mpr hi, rfl⟩))⟩⟩
      show gSl (tupI xs) _ _ = _
      unfold tupI
      rw [gSl_t, cut_slice]
    | false =>
      refine ⟨_, rfl, gLen_L xs, fun i hi => ⟨lstI ((xs.drop (i * k)).take k), ?_, gMax1_LL (hne _ (List.mem_map.mpr ⟨i, List.mem_range.mpr hi, rfl⟩))⟩⟩
      show gSl (lstI xs) _ _ = _
      unfold lstI
      rw [gSl_l, cut_slice]
  rw [hX]
  have hloop : ∃ s5, c__law_wide_1 [.va X, .va (.int (k : Int)), .va (.int gap), .va (.int 0), .va (.int 0), .un] = some (.nx, [.va X, .va (.int (k : Int)), .va (.int gap), .va (.int (wds xs k).sum), .va (.int ((wds xs k).length : Nat)), s5]) := by
    obtain ⟨e', h4⟩ := forL_runI (g := tgName 5) (fb := b__law_wide_1) (fun i : Nat => PyData.int ((i * k : Nat) : Int)) (fun n (s : Int × Int) e => ∃ s5, Jk s5 ∧ s = (((List.range n).map fun i => mxL ((xs.drop (i * k)).take k)).sum, (n : Int)) ∧ e = [.va X, .va (.int (k : Int)), .va (.int gap), .va (.int s.1), .va (.int s.2), s5]) (fun s i => .ok (s.1 + mxL ((xs.drop (i * k)).take k), s.2 + 1)) (List.range (partsN xs.length k)) 0 (0, 0)
      [.va X, .va (.int (k : Int)), .va (.int gap), .va (.int 0), .va (.int 0), .un]
      ⟨_, jk_un, rfl, rfl⟩
      (by
        rintro j ⟨a, c⟩ e i hij ⟨s5, hs5, hs, rfl⟩
        obtain ⟨q1, q2⟩ := List.getElem?_eq_some_iff.mp hij
        simp at q1 q2
        subst q2
        obtain ⟨Y, hy, hm⟩ := hsl j q1
        have hsum : ((List.range (j + 1)).map fun i => mxL ((xs.drop (i * k)).take k)).sum = ((List.range j).map fun i => mxL ((xs.drop (i * k)).take k)).sum + mxL ((xs.drop (j * k)).take k) := by
          rw [List.range_succ, List.map_append, List.sum_append]; simp
        rw [Nat.zero_add] at hs
        generalize mxL ((xs.drop (j * k)).take k) = M at *
        generalize hik : ((j * k : Nat) : Int) = ik at *
        refine ⟨[.va X, .va (.int (k : Int)), .va (.int gap), .va (.int a), .va (.int c), .va (.int ik)], [.va X, .va (.int (k : Int)), .va (.int gap), .va (.int (a + M)), .va (.int (c + 1)), .va (.int ik)], ?_, ?_, .va (.int ik), jk_va _, ?_, rfl⟩
        · rcases hs5 with rfl | ⟨d, rfl⟩ <;> simp
        · simp [b__law_wide_1, hy, hm]
        · cases hs
          rw [Nat.zero_add, hsum]
          simp)
    have er : ∀ (l : List Nat) (s : Int × Int), runE (fun (s : Int × Int) i => (.ok (s.1 + mxL ((xs.drop (i * k)).take k), s.2 + 1) : Except PyData (Int × Int))) s l = .ok (l.foldl (fun s i => (s.1 + mxL ((xs.drop (i * k)).take k), s.2 + 1)) s) := fun l s => runE_ok (fun s i => (s.1 + mxL ((xs.drop (i * k)).take k), s.2 + 1)) s l
    rw [er] at h4
    obtain ⟨h4, s5, _, hs, rfl⟩ := h4
    refine ⟨s5, ?_⟩
    rw [hs, Nat.zero_add, List.length_range] at h4
    have e1 : (wds xs k).sum = ((List.range (partsN xs.length k)).map fun i => mxL ((xs.drop (i * k)).take k)).sum := by
      unfold wds cutL; rw [List.map_map]; rfl
    rw [e1, wds_len]
    unfold c__law_wide_1
    rw [fFor_ap, mIA_ap]
    simp only [fCons_ap, fNil_ap, mret_ap, m1_ap, fV_ap, List.getElem?_cons_zero, List.getElem?_cons_succ, hlen, mlift_s, hg]
    exact h4
  obtain ⟨s5, hloop⟩ := hloop
  have hl : (wds xs k).length ≤ 60 := by rw [wds_len]; omega
  have hmul := gMul_i (i := gap) (j := ((wds xs k).length : Int) - 1) (by omega) (by omega)
  unfold widthV
  generalize wds xs k = W at *
  refine pfP_rt (e := [.va X, .va (.int (k : Int)), .va (.int gap), .va (.int W.sum), .va (.int (W.length : Nat)), s5]) rfl ?_
  rw [mm__law_wide]
  refine fSeq_nx (e1 := [.va X, .va (.int (k : Int)), .va (.int gap), .va (.int 0), .va (.int 0), .un]) (by simp [env0]) (fSeq_nx hloop ?_)
  simp [hmul]
end Law

namespace Law
open PySem L2 Evl Pd
/-! ### numbers cut into lots -/
theorem rngI_get (lo : Int) (n i : Nat) : (rngI lo n)[i]? = if i < n then some (lo + (i : Int)) else none := by
  unfold rngI
  rw [List.getElem?_map]
  by_cases h : i < n
  · rw [if_pos h, List.getElem?_range h]; rfl
  · rw [if_neg h, List.getElem?_eq_none (by simpa using h)]; rfl
theorem rng_part (n a k : Nat) : ((rngI 0 n).drop a).take k = rngI (a : Int) (min n (a + k) - a) := by
  refine List.ext_getElem? fun i => ?_
  rw [List.getElem?_take, List.getElem?_drop, rngI_get, rngI_get]
  by_cases h1 : i < k
  · rw [if_pos h1]
    by_cases h2 : a + i < n
    · rw [if_pos h2, if_pos (by omega)]
      congr 1; omega
    · rw [if_neg h2, if_neg (by omega)]
  · rw [if_neg h1, if_neg (by omega)]
def lots (n k : Nat) : List (List Int) := cutL (rngI 0 n) k
theorem lots_eq (n k : Nat) : lots n k = (List.range (partsN n k)).map fun i => rngI ((i * k : Nat) : Int) (min n (i * k + k) - i * k) := by
  unfold lots cutL
  rw [rngI_len]
  exact List.map_congr_left fun i _ => rng_part n (i * k) k
theorem rgD_I (a b : Int) : rgD a b = (rngI a (b - a).toNat).map PyData.int := by unfold rgD rngI; rw [List.map_map]; rfl
theorem rgOk_of {a b : Int} (h1 : 0 ≤ a) (h2 : a ≤ 1000000) (h3 : 0 ≤ b) (h4 : b ≤ 1000000) : rgOk a b = true := by
  unfold rgOk; simp; omega
theorem pf_columns_ev {xs : List Int} {k : Nat} (h : Ent xs) (hk : Kk k) : pf_columns [tupI xs, .int (k : Int)] = some (rowsT (lots xs.length k)) := by
  have hx := h.len
  have h1 := h.l1
  have hc := pf_cut_L (xs := rngI 0 xs.length) (k := k) (fun e => by have := congrArg List.length e; rw [rngI_len] at this; exact h.ne (by simpa using this)) (by rw [rngI_len]; omega) hk.ge (by have := hk.le; omega)
  have hr := rgOk_of (a := 0) (b := (xs.length : Int)) (by omega) (by omega) (by omega) (by omega)
  have hd : PyData.list (rgD 0 (xs.length : Int)) = lstI (rngI 0 xs.length) := by rw [rgD_I]; unfold lstI; simp
  have hq : mLstRg (mRg1 (m1 gLen (fV 0))) [.va (tupI xs), .va (.int (k : Int))] = some (lstI (rngI 0 xs.length), [.va (tupI xs), .va (.int (k : Int))]) := by
    rw [mLstRg_ap, mRg1_ap, m1_ap, fV_ap]
    simp only [List.getElem?_cons_zero, gLen_T, mlift_s, gInt_i, Option.map_some, hr, if_true, hd]
  refine pfP_rt (e := [.va (tupI xs), .va (.int (k : Int))]) rfl ?_
  rw [mm_columns, fRet_ap, mA_ap, fCons_ap]
  have e0 : env0 2 [tupI xs, .int (k : Int)] = [.va (tupI xs), .va (.int (k : Int))] := rfl
  rw [e0, hq]
  simp only [fCons_ap, fNil_ap, fV_ap, List.getElem?_cons_zero, List.getElem?_cons_succ, hc, mlift_s]
  rfl
theorem lots_mem {n k : Nat} {l : List Int} (h : l ∈ lots n k) : ∀ x ∈ l, 0 ≤ x ∧ x < n := fun x hx => by
  obtain ⟨i, _, rfl⟩ := List.mem_map.mp h
  have := mem_rngI.mp (List.mem_of_mem_drop (List.mem_of_mem_take hx))
  omega
theorem lots_len {n k : Nat} {l : List Int} (h : l ∈ lots n k) : l.length ≤ n := by
  obtain ⟨i, _, rfl⟩ := List.mem_map.mp h
  rw [List.length_take, List.length_drop, rngI_len]; omega
theorem lots_count (n k : Nat) : (lots n k).length = partsN n k := by unfold lots; rw [cutL_len, rngI_len]
/-! page_rows -/
/-- the lots' items at place i, of those that have one -/
def rowAt (L : List (List Int)) (i : Nat) : List Int := (L.filter fun l => decide (i < l.length)).map fun l => l.getD i 0
def pageRows (L : List (List Int)) : List (List Int) := (List.range (L.headD []).length).map (rowAt L)
theorem gIx_rowsT0 {L : List (List Int)} (h : L ≠ []) : gIx (rowsT L) (.int 0) = some (tupI (L.headD [])) := by
  cases L with
  | nil => exact absurd rfl h
  | cons a r => unfold rowsT; rw [gIx_t]; exact atI_map tupI (i := 0) rfl
theorem gIx_Ti {l : List Int} {i : Nat} (h : i < l.length) : gIx (tupI l) (.int (i : Int)) = some (.int (l.getD i 0)) := gIx_T h
theorem pf_page_rows_ev {xs : List Int} {k : Nat} (h : Ent xs) (hk : Kk k) : pf_page_rows [tupI xs, .int (k : Int)] = some (rowsT (pageRows (lots xs.length k))) := by
  have hc := pf_columns_ev h hk
  have hne : lots xs.length k ≠ [] := fun e => by have := congrArg List.length e; rw [lots_count] at this; unfold partsN at this; simp at this
  have hcnt : (lots xs.length k).length ≤ 60 := by rw [lots_count]; have := parts_le xs.length k h.l1; have := h.len; omega
  have hln : ∀ l ∈ lots xs.length k, l.length ≤ 60 := fun l hl => Nat.le_trans (lots_len hl) h.len
  generalize lots xs.length k = L at *
  have hix := gIx_rowsT0 hne
  have hhl : (L.headD []).length ≤ 60 := by cases L with
    | nil => exact absurd rfl hne
    | cons a r => exact hln a (List.mem_cons_self ..)
  have h2 : ∀ i : Nat, c_page_rows_2 [.va (tupI xs), .va (.int (k : Int)), .va (rowsT L), .va (.int (i : Int)), .un] = some (lstI (rowAt L i), [.va (tupI xs), .va (.int (k : Int)), .va (rowsT L), .va (.int (i : Int)), .un]) := by
    intro i
    unfold c_page_rows_2
    rw [fLc_pure (T := List Int) (xs := L) (enc := tupI) (e1 := [.va (tupI xs), .va (.int (k : Int)), .va (rowsT L), .va (.int (i : Int)), .un]) (e0 := [.va (tupI xs), .va (.int (k : Int)), .va (rowsT L), .va (.int (i : Int)), .un]) (by simp)
      (fun e => ∃ s, Jk s ∧ e = [.va (tupI xs), .va (.int (k : Int)), .va (rowsT L), .va (.int (i : Int)), s]) (fun l => decide (i < l.length)) (fun l => .int (l.getD i 0)) ⟨_, jk_un, rfl⟩ (by rintro e ⟨s, hs, rfl⟩; simp) (by omega)
      (by
        rintro l e hl ⟨s, hs, rfl⟩
        by_cases hq : i < l.length
        · have hi := gIx_Ti hq
          generalize l.getD i 0 = z at hi ⊢
          simp [hq, hi, jk_va]
        · simp [hq, jk_va])]
    unfold lstI rowAt; rw [List.map_map]; rfl
  have hg := gRng1_n (n := (L.headD []).length) (by omega)
  rw [rngD_range] at hg
  unfold pageRows
  generalize L.headD [] = H at *
  have h1 : c_page_rows_1 [.va (tupI xs), .va (.int (k : Int)), .va (rowsT L), .un, .un] = some (.list (((List.range H.length).map (rowAt L)).map tupI), [.va (tupI xs), .va (.int (k : Int)), .va (rowsT L), .un, .un]) := by
    unfold c_page_rows_1
    rw [fLc_map (T := Nat) (xs := List.range H.length) (enc := fun i : Nat => PyData.int (i : Int)) (e1 := [.va (tupI xs), .va (.int (k : Int)), .va (rowsT L), .un, .un]) (e0 := [.va (tupI xs), .va (.int (k : Int)), .va (rowsT L), .un, .un]) (by simp [hix, hg])
      (fun e => ∃ s, Jk s ∧ e = [.va (tupI xs), .va (.int (k : Int)), .va (rowsT L), s, .un]) (fun i => tupI (rowAt L i)) ⟨_, jk_un, rfl⟩ (by rintro e ⟨s, hs, rfl⟩; simp) (by simp; omega)
      (by
        rintro i e hi ⟨s, hs, rfl⟩
        have := h2 i
        generalize rowAt L i = Z at this ⊢
        rcases hs with rfl | ⟨d, rfl⟩ <;> simp [this, jk_va])]
    rw [List.map_map]; rfl
  generalize (List.range H.length).map (rowAt L) = Q at *
  refine pfP_rt (e := [.va (tupI xs), .va (.int (k : Int)), .va (rowsT L), .un, .un]) rfl ?_
  rw [mm_page_rows]
  have e0 : env0 5 [tupI xs, .int (k : Int)] = [.va (tupI xs), .va (.int (k : Int)), .un, .un, .un] := rfl
  rw [e0]
  refine fSeq_nx (e1 := [.va (tupI xs), .va (.int (k : Int)), .va (rowsT L), .un, .un]) (by simp [hc]) ?_
  rw [fRet_ap, m1_ap, h1]
  simp only [gTuple_l, mlift_s]
  rfl
end Law

namespace Law
open PySem L2 Evl Pd
/-! ### the first number of lines that fits -/
def fwL (xs : List Int) (wide gap : Int) : List Int := (rngI 1 xs.length).filter fun l => decide (widthV xs l.toNat gap ≤ wide)
def fwV (xs : List Int) (wide gap : Int) : Option Int := (fwL xs wide gap).head?
theorem head_OI {l : List Int} : (mIte (mT gB (m2 gNe (fV 3) (mLst fNil))) (m2 gIx (fV 3) (mret (.int 0))) (mret .none)) = (mIte (mT gB (m2 gNe (fV 3) (mLst fNil))) (m2 gIx (fV 3) (mret (.int 0))) (mret .none)) := rfl
theorem pf_first_within_ev {xs : List Int} (h : Ent xs) (wide gap : Int) : pf_first_within [tupI xs, .int wide, .int gap] = some (OI (fwV xs wide gap)) := by
  have hl := h.len
  have hg : gRng2 [.int 1, .int ((xs.length : Int) + 1)] = some ((rngI 1 xs.length).map PyData.int) := by
    rw [gRng2_i (by omega) (by omega) (by omega) (by omega), rngD_I]
    congr 3; omega
  have h1 : c_first_within_1 [.va (tupI xs), .va (.int wide), .va (.int gap), .un, .un] = some (lstI (fwL xs wide gap), [.va (tupI xs), .va (.int wide), .va (.int gap), .un, .un]) := by
    unfold c_first_within_1
    rw [fLc_pure (T := Int) (xs := rngI 1 xs.length) (enc := PyData.int) (e1 := [.va (tupI xs), .va (.int wide), .va (.int gap), .un, .un]) (e0 := [.va (tupI xs), .va (.int wide), .va (.int gap), .un, .un]) (by simp [hg])
      (fun e => ∃ s, Jk s ∧ e = [.va (tupI xs), .va (.int wide), .va (.int gap), .un, s]) (fun l => decide (widthV xs l.toNat gap ≤ wide)) PyData.int ⟨_, jk_un, rfl⟩ (by rintro e ⟨s, hs, rfl⟩; simp) (by rw [rngI_len]; omega)
      (by
        rintro l e hlm ⟨s, hs, rfl⟩
        have hb := mem_rngI.mp hlm
        have hw := pf_width_ev h (k := l.toNat) ⟨by omega, by omega⟩ gap
        rw [show ((l.toNat : Nat) : Int) = l by omega] at hw
        generalize widthV xs l.toNat gap = W at hw ⊢
        by_cases hq : W ≤ wide <;> simp [hw, hq, jk_va])]
    rfl
  unfold fwV
  generalize fwL xs wide gap = F at *
  refine pfP_rt (e := [.va (tupI xs), .va (.int wide), .va (.int gap), .va (lstI F), .un]) rfl ?_
  rw [mm_first_within]
  refine fSeq_nx (e1 := [.va (tupI xs), .va (.int wide), .va (.int gap), .va (lstI F), .un]) (by simp [env0, h1]) ?_
  cases F with
  | nil => simp [OI]
  | cons a r =>
    have hi := head_ix (xs := a :: r) (by simp)
    have e1 : (a :: r).headD 0 = a := rfl
    rw [e1] at hi
    simp [hi, OI]
theorem pf__law_first_within_ev {xs : List Int} (h : Ent xs) (wide gap : Int) (b : Bool) : pf__law_first_within [if b then tupI xs else lstI xs, .int wide, .int gap] = some (OI (fwV xs wide gap)) := by
  have hl := h.len
  have hg : gRng2 [.int 1, .int ((xs.length : Int) + 1)] = some ((rngI 1 xs.length).map PyData.int) := by
    rw [gRng2_i (by omega) (by omega) (by omega) (by omega), rngD_I]
    congr 3; omega
  have hww := fun (k : Nat) (hk : Kk k) => pf__law_wide_ev h hk gap b
  have hlen : gLen (if b then tupI xs else lstI xs) = some (.int xs.length) := by cases b <;> simp
  generalize (if b then tupI xs else lstI xs) = X at *
  have h1 : c__law_first_within_1 [.va X, .va (.int wide), .va (.int gap), .un, .un] = some (lstI (fwL xs wide gap), [.va X, .va (.int wide), .va (.int gap), .un, .un]) := by
    unfold c__law_first_within_1
    rw [fLc_pure (T := Int) (xs := rngI 1 xs.length) (enc := PyData.int) (e1 := [.va X, .va (.int wide), .va (.int gap), .un, .un]) (e0 := [.va X, .va (.int wide), .va (.int gap), .un, .un]) (by simp [hg, hlen])
      (fun e => ∃ s, Jk s ∧ e = [.va X, .va (.int wide), .va (.int gap), .un, s]) (fun l => decide (widthV xs l.toNat gap ≤ wide)) PyData.int ⟨_, jk_un, rfl⟩ (by rintro e ⟨s, hs, rfl⟩; simp) (by rw [rngI_len]; omega)
      (by
        rintro l e hlm ⟨s, hs, rfl⟩
        have hb := mem_rngI.mp hlm
        have hw := hww l.toNat ⟨by omega, by omega⟩
        rw [show ((l.toNat : Nat) : Int) = l by omega] at hw
        generalize widthV xs l.toNat gap = W at hw ⊢
        by_cases hq : W ≤ wide <;> simp [hw, hq, jk_va])]
    rfl
  unfold fwV
  generalize fwL xs wide gap = F at *
  refine pfP_rt (e := [.va X, .va (.int wide), .va (.int gap), .va (lstI F), .un]) rfl ?_
  rw [mm__law_first_within]
  refine fSeq_nx (e1 := [.va X, .va (.int wide), .va (.int gap), .va (lstI F), .un]) (by simp [env0, h1]) ?_
  cases F with
  | nil => simp [OI]
  | cons a r =>
    have hi := head_ix (xs := a :: r) (by simp)
    have e1 : (a :: r).headD 0 = a := rfl
    rw [e1] at hi
    simp [hi, OI]
/-! ### the falling order -/
def negs (xs : List Int) : List (Int × Int) := xs.zipIdx.map fun p => (0 - p.1, (p.2 : Int))
def pD (p : Int × Int) : PyData := .tuple [.int p.1, .int p.2]
def pLe (p q : Int × Int) : Bool := decide (p.1 < q.1 ∨ (p.1 = q.1 ∧ p.2 ≤ q.2))
def sortedN (xs : List Int) : List (Int × Int) := (negs xs).mergeSort pLe
theorem nice_pD (p : Int × Int) : Nice (pD p) 1 := nice_tup (k := 0) fun x hx => by
  rcases List.mem_cons.mp hx with rfl | hx
  · exact nice_int _ _
  · rw [List.mem_singleton.mp hx]; exact nice_int _ _
theorem alike_pD (p q : Int × Int) : PySem.W.alike (pD p) (pD q) = true := by
  unfold pD; simp [PySem.W.alike, PySem.W.alikeAll]
theorem gSorted_pD {l : List (Int × Int)} (hz : l.length ≤ 16777216) : gSorted (.list (l.map pD)) = some (.list ((l.mergeSort pLe).map pD)) := by
  have hok : sortOk (l.map pD) = true := by
    unfold sortOk
    obtain ⟨h1, h2⟩ := nice_all (xs := l.map pD) (k := 1) fun x hx => by obtain ⟨a, _, rfl⟩ := List.mem_map.mp hx; exact nice_pD a
    have h3 : ∀ p, (pD p).depth ≤ 60 := fun p => Nat.le_trans (nice_pD p).2 (by decide)
    have h4 : ((l.map pD).all fun x => (l.map pD).all fun y => PySem.W.alike x y) = true := by
      rw [List.all_map]
      simp [alike_pD]
    have h5 : ((l.map pD).all fun d => decide (d.depth ≤ 60)) = true := by
      rw [List.all_map]; simp [h3]
    rw [h1, h4, h5, List.all_map]
    simp [szOk, pD, hz]
  unfold gSorted
  dsimp only
  rw [hok, if_pos rfl]
  congr 2
  have hle : ∀ p q : Int × Int, PySem.W.dataLe false id (pD p) (pD q) = pLe p q := fun p q => by
    have := congrFun (congrFun (PySem.W.dataLe_ii (β := Int × Int) (·.1) (·.2)) p) q
    exact this
  rw [← List.map_mergeSort (f := pD) (r := pLe) (s := PySem.W.dataLe false id)]
  intro a _ b _
  exact (hle a b).symm
end Law

namespace Law
open PySem L2 Evl Pd
def ordL (xs : List Int) : List Int := (sortedN xs).map (·.2)
def fallL (xs : List Int) : List Int := (ordL xs).map fun i => lenAt xs i.toNat
theorem negs_len (xs : List Int) : (negs xs).length = xs.length := by simp [negs]
theorem sortedN_len (xs : List Int) : (sortedN xs).length = xs.length := by unfold sortedN; rw [List.length_mergeSort, negs_len]
theorem ordL_len (xs : List Int) : (ordL xs).length = xs.length := by unfold ordL; rw [List.length_map, sortedN_len]
theorem fallL_len (xs : List Int) : (fallL xs).length = xs.length := by unfold fallL; rw [List.length_map, ordL_len]
theorem sortedN_mem {xs : List Int} {p : Int × Int} (h : p ∈ sortedN xs) : ∃ i, i < xs.length ∧ p = (0 - lenAt xs i, (i : Int)) := by
  unfold sortedN at h
  have h := (List.mergeSort_perm (negs xs) pLe).mem_iff.mp h
  obtain ⟨⟨x, i⟩, hx, rfl⟩ := List.mem_map.mp h
  obtain ⟨j, hj, e⟩ := List.mem_iff_getElem.mp hx
  simp at e hj
  obtain ⟨e1, e2⟩ := e
  subst e2
  exact ⟨j, hj, by simp [lenAt, List.getD, hj, e1]⟩
theorem ordL_mem {xs : List Int} {i : Int} (h : i ∈ ordL xs) : ∃ j : Nat, j < xs.length ∧ i = (j : Int) := by
  obtain ⟨p, hp, rfl⟩ := List.mem_map.mp h
  obtain ⟨j, hj, rfl⟩ := sortedN_mem hp
  exact ⟨j, hj, rfl⟩
theorem pf_best_order_ev {xs : List Int} (h : Ent xs) : pf_best_order [tupI xs] = some (tupI (ordL xs)) := by
  have hl := h.len
  have h2 : c_best_order_2 [.va (tupI xs), .un, .un, .un] = some (.list ((negs xs).map pD), [.va (tupI xs), .un, .un, .un]) := by
    unfold c_best_order_2
    rw [fLc_map (T := Int × Nat) (xs := xs.zipIdx) (enc := fun p => .tuple [.int (p.2 : Nat), .int p.1]) (e1 := [.va (tupI xs), .un, .un, .un]) (e0 := [.va (tupI xs), .un, .un, .un]) (by simp)
      (fun e => ∃ s2 s3, Jk s2 ∧ Jk s3 ∧ e = [.va (tupI xs), .un, s2, s3]) (fun p => pD (0 - p.1, (p.2 : Int))) ⟨_, _, jk_un, jk_un, rfl⟩ (by rintro e ⟨s2, s3, hs2, hs3, rfl⟩; simp) (by simp; omega)
      (by
        rintro ⟨x, i⟩ e hi ⟨s2, s3, hs2, hs3, rfl⟩
        simp [jk_va, pD])]
    unfold negs
    rw [List.map_map]; rfl
  have hs := gSorted_pD (l := negs xs) (by rw [negs_len]; omega)
  have hsl := sortedN_len xs
  have ho : ordL xs = (sortedN xs).map (·.2) := rfl
  rw [show (negs xs).mergeSort pLe = sortedN xs from rfl] at hs
  rw [ho]
  generalize sortedN xs = Q at *
  generalize negs xs = N at *
  have h1 : c_best_order_1 [.va (tupI xs), .un, .un, .un] = some (lstI (Q.map (·.2)), [.va (tupI xs), .un, .un, .un]) := by
    unfold c_best_order_1
    rw [fLc_map (T := Int × Int) (xs := Q) (enc := pD) (e1 := [.va (tupI xs), .un, .un, .un]) (e0 := [.va (tupI xs), .un, .un, .un]) (by rw [mI_ap, m1_ap, h2]; simp only [hs, mlift_s, gSeq_l])
      (fun e => ∃ s1 s2, Jk s1 ∧ Jk s2 ∧ e = [.va (tupI xs), s1, s2, .un]) (fun p => .int p.2) ⟨_, _, jk_un, jk_un, rfl⟩ (by rintro e ⟨s2, s3, hs2, hs3, rfl⟩; simp) (by omega)
      (by
        rintro ⟨x, i⟩ e hi ⟨s2, s3, hs2, hs3, rfl⟩
        simp [jk_va, pD])]
    unfold lstI; rw [List.map_map]; rfl
  refine pfP_rt (e := [.va (tupI xs), .un, .un, .un]) rfl ?_
  rw [mm_best_order, fRet_ap, m1_ap]
  have e0 : env0 4 [tupI xs] = [.va (tupI xs), .un, .un, .un] := rfl
  rw [e0, h1]
  simp only [gTuple_L, mlift_s]
theorem pf_in_order_ev {xs : List Int} (h : Ent xs) : pf_in_order [tupI xs] = some (tupI (fallL xs)) := by
  have hl := h.len
  have hb := pf_best_order_ev h
  have hm := fun (i : Int) (hi : i ∈ ordL xs) => ordL_mem hi
  have hol := ordL_len xs
  unfold fallL
  generalize ordL xs = O at *
  have h1 : c_in_order_1 [.va (tupI xs), .un] = some (lstI (O.map fun i => lenAt xs i.toNat), [.va (tupI xs), .un]) := by
    unfold c_in_order_1
    rw [fLc_map (T := Int) (xs := O) (enc := PyData.int) (e1 := [.va (tupI xs), .un]) (e0 := [.va (tupI xs), .un]) (by simp [hb])
      (fun e => ∃ s, Jk s ∧ e = [.va (tupI xs), s]) (fun i => .int (lenAt xs i.toNat)) ⟨_, jk_un, rfl⟩ (by rintro e ⟨s, hs, rfl⟩; simp) (by omega)
      (by
        rintro i e hi ⟨s, hs, rfl⟩
        obtain ⟨j, hj, rfl⟩ := hm i hi
        have := gIx_T hj
        rw [Int.toNat_natCast]
        simp [this, jk_va])]
    unfold lstI; rw [List.map_map]; rfl
  refine pfP_rt (e := [.va (tupI xs), .un]) rfl ?_
  rw [mm_in_order, fRet_ap, m1_ap]
  have e0 : env0 2 [tupI xs] = [.va (tupI xs), .un] := rfl
  rw [e0, h1]
  simp only [gTuple_L, mlift_s]
theorem fall_ent {xs : List Int} (h : Ent xs) : Ent (fallL xs) := ⟨fun e => by have h2 := fallL_len xs; rw [e, List.length_nil] at h2; have h3 := h.l1; omega, by rw [fallL_len]; exact h.len⟩
theorem pf_least_width_ev {xs : List Int} (h : Ent xs) {k : Nat} (hk : Kk k) (gap : Int) : pf_least_width [tupI xs, .int (k : Int), .int gap] = some (.int (widthV (fallL xs) k gap)) := by
  have h1 := pf_in_order_ev h
  have h2 := pf_width_ev (fall_ent h) hk gap
  generalize widthV (fallL xs) k gap = W at *
  generalize tupI (fallL xs) = F at *
  refine pfP_rt (e := [.va (tupI xs), .va (.int (k : Int)), .va (.int gap)]) rfl ?_
  rw [mm_least_width]
  simp [env0, h1, h2]
theorem pf_fewest_lines_ev {xs : List Int} (h : Ent xs) (wide gap : Int) : pf_fewest_lines [tupI xs, .int wide, .int gap] = some (OI (fwV xs wide gap)) := by
  have h1 := pf_first_within_ev h wide gap
  refine pfP_rt (e := [.va (tupI xs), .va (.int wide), .va (.int gap)]) rfl ?_
  rw [mm_fewest_lines]
  simp [env0, h1]
theorem pf_fewest_by_order_ev {xs : List Int} (h : Ent xs) (wide gap : Int) : pf_fewest_by_order [tupI xs, .int wide, .int gap] = some (OI (fwV (fallL xs) wide gap)) := by
  have h1 := pf_in_order_ev h
  have h2 := pf_first_within_ev (fall_ent h) wide gap
  generalize fwV (fallL xs) wide gap = W at *
  generalize tupI (fallL xs) = F at *
  refine pfP_rt (e := [.va (tupI xs), .va (.int wide), .va (.int gap)]) rfl ?_
  rw [mm_fewest_by_order]
  simp [env0, h1, h2]
/-- the gain -/
def gainD (a b : Option Int) : PyData := match a, b with
  | some x, some y => .int (x - y)
  | _, _ => .none
theorem pf_gain_of_order_ev {xs : List Int} (h : Ent xs) (wide gap : Int) : pf_gain_of_order [tupI xs, .int wide, .int gap] = some (gainD (fwV xs wide gap) (fwV (fallL xs) wide gap)) := by
  have h1 := pf_fewest_lines_ev h wide gap
  have h2 := pf_fewest_by_order_ev h wide gap
  generalize fwV xs wide gap = A at *
  generalize fwV (fallL xs) wide gap = B at *
  refine pfP_rt (e := [.va (tupI xs), .va (.int wide), .va (.int gap), .va (OI A), .va (OI B)]) rfl ?_
  rw [mm_gain_of_order]
  refine fSeq_nx (e1 := [.va (tupI xs), .va (.int wide), .va (.int gap), .va (OI A), .va (OI B)]) (by simp [env0, h1, h2]) ?_
  cases A <;> cases B <;> simp [OI, gainD]
end Law

namespace Law
open PySem L2 Evl Pd
theorem fall_neg (xs : List Int) : fallL xs = (sortedN xs).map fun p => - p.1 := by
  unfold fallL ordL
  rw [List.map_map]
  refine List.map_congr_left fun p hp => ?_
  obtain ⟨i, hi, rfl⟩ := sortedN_mem hp
  simp
theorem negs_neg (xs : List Int) : (negs xs).map (fun p => - p.1) = xs := by
  unfold negs
  rw [List.map_map]
  refine List.ext_getElem (by simp) fun i hi hi2 => by simp
theorem fall_perm (xs : List Int) : (fallL xs).Perm xs := by
  rw [fall_neg]
  have := (List.mergeSort_perm (negs xs) pLe).map fun p => - p.1
  rw [negs_neg] at this
  exact this
theorem fall_sorted (xs : List Int) : (fallL xs).Pairwise (· ≥ ·) := by
  rw [fall_neg, List.pairwise_map]
  have h := List.pairwise_mergeSort (le := pLe) (fun a b c h1 h2 => by unfold pLe at *; simp at *; omega) (fun a b => by unfold pLe; simp; omega) (negs xs)
  refine h.imp fun {a b} hab => ?_
  unfold pLe at hab
  simp at hab
  show - a.1 ≥ - b.1
  omega
theorem desc_unique : ∀ {u v : List Int}, u.Pairwise (· ≥ ·) → v.Pairwise (· ≥ ·) → u.Perm v → u = v
  | [], v, _, _, h => (List.nil_perm.mp h).symm ▸ rfl
  | a :: u, v, hu, hv, h => by
    cases v with
    | nil => exact absurd h.length_eq (by simp)
    | cons b v =>
      have hab : a = b := by
        have h1 : a ∈ b :: v := h.mem_iff.mp (List.mem_cons_self ..)
        have h2 : b ∈ a :: u := h.mem_iff.mpr (List.mem_cons_self ..)
        have g1 : a ≤ b := by
          rcases List.mem_cons.mp h1 with e | e
          · omega
          · exact (List.pairwise_cons.mp hv).1 a e
        have g2 : b ≤ a := by
          rcases List.mem_cons.mp h2 with e | e
          · omega
          · exact (List.pairwise_cons.mp hu).1 b e
        omega
      subst hab
      rw [desc_unique (List.pairwise_cons.mp hu).2 (List.pairwise_cons.mp hv).2 (List.Perm.cons_inv h)]
theorem fall_of_perm {xs ys : List Int} (h : xs.Perm ys) : fallL xs = fallL ys := desc_unique (fall_sorted xs) (fall_sorted ys) ((fall_perm xs).trans (h.trans (fall_perm ys).symm))
end Law

namespace Law
open PySem L2 Evl Pd
def cnt (t : Int) (l : List Int) : Nat := l.countP fun x => decide (t ≤ x)
theorem steps_sum (x : Int) (hx : 0 ≤ x) : ∀ T : Nat, ((List.range T).map fun t : Nat => if (t : Int) + 1 ≤ x then (1 : Int) else 0).sum = min x T
  | 0 => by simp; omega
  | T + 1 => by
    rw [List.range_succ, List.map_append, List.sum_append, steps_sum x hx T]
    simp only [List.map_cons, List.map_nil, List.sum_cons, List.sum_nil]
    split <;> omega
theorem sum_add {T : Type} (l : List T) (f g : T → Int) : (l.map fun t => f t + g t).sum = (l.map f).sum + (l.map g).sum := by
  induction l with
  | nil => simp
  | cons x r ih => simp only [List.map_cons, List.sum_cons, ih]; omega
theorem layers (T : Nat) : ∀ l : List Int, (∀ x ∈ l, 0 ≤ x ∧ x ≤ T) → l.sum = ((List.range T).map fun t : Nat => ((cnt ((t : Int) + 1) l : Nat) : Int)).sum
  | [], _ => by
    simp only [cnt, List.countP_nil, List.sum_nil]
    induction T with
    | zero => rfl
    | succ n ih => rw [List.range_succ, List.map_append, List.sum_append, ← ih fun x hx => nomatch hx]; rfl
  | x :: l, h => by
    have hx := h x (List.mem_cons_self ..)
    have ih := layers T l fun y hy => h y (List.mem_cons_of_mem _ hy)
    have e : (fun t : Nat => ((cnt ((t : Int) + 1) (x :: l) : Nat) : Int)) = fun t : Nat => (if (t : Int) + 1 ≤ x then (1 : Int) else 0) + ((cnt ((t : Int) + 1) l : Nat) : Int) := by
      funext t
      unfold cnt
      rw [List.countP_cons]
      by_cases q : (t : Int) + 1 ≤ x <;> simp [q] <;> omega
    rw [List.sum_cons, e, sum_add, steps_sum x hx.1, ← ih]
    omega
theorem flat_take (xs : List Int) (k : Nat) : ∀ m, ((List.range m).map fun i => (xs.drop (i * k)).take k).flatten = xs.take (m * k)
  | 0 => by simp
  | m + 1 => by
    rw [List.range_succ, List.map_append, List.flatten_append, flat_take xs k m]
    simp only [List.map_cons, List.map_nil, List.flatten_cons, List.flatten_nil, List.append_nil]
    rw [Nat.succ_mul, List.take_add]
theorem cutL_flat {xs : List Int} {k : Nat} (hk : 1 ≤ k) (h1 : 1 ≤ xs.length) : (cutL xs k).flatten = xs := by
  unfold cutL
  rw [flat_take]
  refine List.take_of_length_le ?_
  unfold partsN
  have := Nat.div_add_mod (xs.length - 1) k
  have := Nat.mod_lt (xs.length - 1) (show 0 < k by omega)
  rw [Nat.succ_mul, Nat.mul_comm]; omega
theorem cnt_flat (t : Int) (k : Nat) : ∀ L : List (List Int), (∀ l ∈ L, l.length ≤ k ∧ l ≠ []) → cnt t L.flatten ≤ cnt t (L.map mxL) * k
  | [], _ => by simp [cnt]
  | l :: L, h => by
    have ih := cnt_flat t k L fun a ha => h a (List.mem_cons_of_mem _ ha)
    obtain ⟨h1, h2⟩ := h l (List.mem_cons_self ..)
    have e1 : cnt t (l :: L).flatten = cnt t l + cnt t L.flatten := by unfold cnt; rw [List.flatten_cons, List.countP_append]
    have e2 : cnt t ((l :: L).map mxL) = cnt t (L.map mxL) + if t ≤ mxL l then 1 else 0 := by unfold cnt; rw [List.map_cons, List.countP_cons]; simp
    rw [e1, e2, Nat.add_mul]
    by_cases q : t ≤ mxL l
    · rw [if_pos q]
      have : cnt t l ≤ l.length := List.countP_le_length
      omega
    · rw [if_neg q]
      have : cnt t l = 0 := by
        unfold cnt
        rw [List.countP_eq_zero]
        intro x hx hq
        have := mxL_le hx
        have : t ≤ x := by simpa using hq
        omega
      omega
theorem desc_cnt (t : Int) : ∀ (w : List Int), w.Pairwise (· ≥ ·) → ∀ i (hi : i < w.length), i < cnt t w ↔ t ≤ w[i]
  | [], _, i, hi => by simp at hi
  | x :: w, h, i, hi => by
    obtain ⟨h1, h2⟩ := List.pairwise_cons.mp h
    have e : cnt t (x :: w) = cnt t w + if t ≤ x then 1 else 0 := by unfold cnt; rw [List.countP_cons]; simp
    rw [e]
    cases i with
    | zero =>
      show 0 < _ ↔ t ≤ x
      by_cases q : t ≤ x
      · simp [q]
      · have : cnt t w = 0 := by
          unfold cnt
          rw [List.countP_eq_zero]
          intro y hy hq
          have := h1 y hy
          have : t ≤ y := by simpa using hq
          omega
        rw [this]; simp [q]
    | succ j =>
      have hj : j < w.length := by simpa using hi
      have ih := desc_cnt t w h2 j hj
      show j + 1 < _ ↔ t ≤ w[j]
      by_cases q : t ≤ x
      · rw [if_pos q, ← ih]; omega
      · rw [if_neg q]
        have hy := h1 _ (List.getElem_mem hj)
        constructor
        · intro hq
          exact ih.mp (by omega)
        · intro hq; omega
theorem cutL_part {xs : List Int} {k : Nat} (h : xs ≠ []) (hk : 1 ≤ k) : ∀ l ∈ cutL xs k, l.length ≤ k ∧ l ≠ [] := fun l hl => by
  refine ⟨?_, part_ne h hk l hl⟩
  obtain ⟨i, _, rfl⟩ := List.mem_map.mp hl
  rw [List.length_take]; omega
/-- the first of each part is the greatest, in a falling row -/
theorem wds_desc {u : List Int} {k : Nat} (hu : u.Pairwise (· ≥ ·)) (h : u ≠ []) (hk : 1 ≤ k) {j : Nat} (hj : j < (wds u k).length) : ∃ h2 : j * k < u.length, (wds u k)[j] = u[j * k] := by
  have hj' : j < partsN u.length k := by rw [wds_len] at hj; exact hj
  have h2 : j * k < u.length := by
    unfold partsN at hj'
    have h1 : j * k ≤ ((u.length - 1) / k) * k := Nat.mul_le_mul_right _ (by omega)
    have h2 := Nat.div_mul_le_self (u.length - 1) k
    have h3 : 1 ≤ u.length := by cases u with
      | nil => exact absurd rfl h
      | cons => simp
    omega
  refine ⟨h2, ?_⟩
  have e : (wds u k)[j] = mxL ((u.drop (j * k)).take k) := by simp [wds, cutL]
  rw [e]
  obtain ⟨k', rfl⟩ : ∃ k', k = k' + 1 := ⟨k - 1, by omega⟩
  rw [List.drop_eq_getElem_cons h2, List.take_succ_cons]
  refine mxL_eq (List.mem_cons_self ..) fun y hy => ?_
  rcases List.mem_cons.mp hy with rfl | hy
  · exact Int.le_refl _
  · have hy2 := List.mem_of_mem_take hy
    obtain ⟨i, hi, e⟩ := List.mem_iff_getElem.mp hy2
    rw [List.getElem_drop] at e
    rw [← e]
    have hp := List.pairwise_iff_getElem.mp hu (j * (k' + 1)) (j * (k' + 1) + 1 + i) h2 (by rw [List.length_drop] at hi; omega) (by omega)
    exact hp
theorem wds_sorted {u : List Int} {k : Nat} (hu : u.Pairwise (· ≥ ·)) (h : u ≠ []) (hk : 1 ≤ k) : (wds u k).Pairwise (· ≥ ·) := by
  refine List.pairwise_iff_getElem.mpr fun i j hi hj hij => ?_
  obtain ⟨h1, e1⟩ := wds_desc hu h hk hi
  obtain ⟨h2, e2⟩ := wds_desc hu h hk hj
  rw [e1, e2]
  have : i * k < j * k := Nat.mul_lt_mul_of_pos_right hij (by omega)
  exact List.pairwise_iff_getElem.mp hu _ _ h1 h2 this
/-- for each threshold the falling row has the fewest parts that reach it -/
theorem wds_cnt {u ys : List Int} {k : Nat} (hu : u.Pairwise (· ≥ ·)) (h : u ≠ []) (hk : 1 ≤ k) (hp : u.Perm ys) (t : Int) : cnt t (wds u k) ≤ cnt t (wds ys k) := by
  rcases Nat.eq_zero_or_pos (cnt t (wds u k)) with h0 | h0
  · omega
  · have hN : cnt t (wds u k) ≤ (wds u k).length := List.countP_le_length
    have hj : cnt t (wds u k) - 1 < (wds u k).length := by omega
    have h1 := (desc_cnt t (wds u k) (wds_sorted hu h hk) _ hj).mp (by omega)
    obtain ⟨h2, e⟩ := wds_desc hu h hk hj
    rw [e] at h1
    have h3 := (desc_cnt t u hu _ h2).mpr h1
    have hy : ys ≠ [] := fun z => by rw [z] at hp; exact h (List.perm_nil.mp hp)
    have hy1 : 1 ≤ ys.length := by cases ys with
      | nil => exact absurd rfl hy
      | cons => simp
    have h4 := cnt_flat t k (cutL ys k) (cutL_part hy hk)
    rw [cutL_flat hk hy1] at h4
    have h5 : cnt t u = cnt t ys := hp.countP_eq _
    have h6 : (cnt t (wds u k) - 1) * k < cnt t (wds ys k) * k := by
      have : cnt t ((cutL ys k).map mxL) = cnt t (wds ys k) := rfl
      rw [this] at h4
      omega
    have := Nat.lt_of_mul_lt_mul_right h6
    omega
theorem wds_range {xs : List Int} {k T : Nat} (h : xs ≠ []) (hk : 1 ≤ k) (hx : ∀ x ∈ xs, 0 ≤ x ∧ x ≤ T) : ∀ x ∈ wds xs k, 0 ≤ x ∧ x ≤ T := fun x hxm => by
  obtain ⟨l, hl, rfl⟩ := List.mem_map.mp hxm
  have hm := mxL_mem (part_ne h hk l hl)
  obtain ⟨i, _, rfl⟩ := List.mem_map.mp hl
  exact hx _ (List.mem_of_mem_drop (List.mem_of_mem_take hm))
theorem width_least {xs : List Int} {k : Nat} (h : xs ≠ []) (hk : 1 ≤ k) (hx : ∀ x ∈ xs, 0 ≤ x ∧ x ≤ 1000) (gap : Int) : widthV (fallL xs) k gap ≤ widthV xs k gap := by
  have hp := fall_perm xs
  have hf : fallL xs ≠ [] := fun e => by rw [e] at hp; exact h (List.nil_perm.mp hp)
  have hfx : ∀ x ∈ fallL xs, 0 ≤ x ∧ x ≤ 1000 := fun x hxm => hx x (hp.mem_iff.mp hxm)
  have hs : (wds (fallL xs) k).sum ≤ (wds xs k).sum := by
    rw [layers 1000 _ (wds_range hf hk hfx), layers 1000 _ (wds_range h hk hx)]
    refine sum_mono fun t _ => ?_
    have := wds_cnt (fall_sorted xs) hf hk hp ((t : Int) + 1)
    omega
  unfold widthV
  rw [wds_len, wds_len, fallL_len]
  omega
end Law

namespace Law
open PySem L2 Evl Pd
/-! ### _law_alike of a datum and itself -/
def prD (q : PyData) : PyData := .tuple [q, q]
def muA (e : Pd.Env) : Nat := match (e[(3 : Nat)]? : Option Sl) with
  | some (Sl.va (PyData.int a)) => 16777217 - a.toNat
  | _ => 0
theorem nice_kids {xs : List PyData} {k : Nat} (h : PyData.canLayAll0 xs = true) (hd : PyData.depthAll xs ≤ k) : ∀ x ∈ xs, Nice x k := by
  induction xs with
  | nil => intro x hx; nomatch hx
  | cons y r ih =>
    simp only [PyData.canLayAll0, Bool.and_eq_true] at h
    simp only [PyData.depthAll] at hd
    intro x hx
    rcases List.mem_cons.mp hx with rfl | hx
    · exact ⟨h.1, by omega⟩
    · exact ih h.2 (by omega) x hx
theorem zip_self (xs : List PyData) : zipD xs xs = xs.map prD := by
  unfold zipD
  induction xs with
  | nil => rfl
  | cons x r ih => rw [List.zip_cons_cons, List.map_cons, List.map_cons, ih]; rfl
def RA (d : PyData) (e : Pd.Env) : Prop := ∃ (qs : List PyData) (a : Nat) (s4 s5 : Sl), Jk s4 ∧ Jk s5 ∧ e = [.va d, .va d, .ow (qs.map prD), .va (.int (a : Int)), s4, s5] ∧ a ≤ qs.length ∧ (∀ q ∈ qs, Nice q 60) ∧ a + nodesAll (qs.drop a) ≤ 16777216
theorem alike_body (d : PyData) (e : Pd.Env) (h : RA d e) : ∃ b e1, (mT gB (m2 (gCmp fLt) (fV 3) (m1 gLen (fR 2)))) e = some (b, e1) ∧ (b = false → RA d e1) ∧ (b = true → ∃ e2, b__law_alike_1 e1 = some (.nx, e2) ∧ RA d e2 ∧ muA e2 < muA e) := by
  obtain ⟨qs, a, s4, s5, hs4, hs5, rfl, ha, hq, hn⟩ := h
  refine ⟨decide (a < qs.length), [.va d, .va d, .ow (qs.map prD), .va (.int (a : Int)), s4, s5], by simp, fun _ => ⟨qs, a, s4, s5, hs4, hs5, rfl, ha, hq, hn⟩, fun hb => ?_⟩
  have hlt : a < qs.length := by simpa using hb
  obtain ⟨x, hx⟩ : ∃ x, qs[a]? = some x := ⟨_, List.getElem?_eq_getElem hlt⟩
  have hxm := List.mem_of_getElem? hx
  obtain ⟨hlay, hdep⟩ := hq x hxm
  have hix : gIx (.list (qs.map prD)) (.int (a : Int)) = some (prD x) := by
    rw [gIx_l]; exact Pd.atI_nat (by rw [List.getElem?_map, hx]; rfl)
  have hdrop : qs.drop a = x :: qs.drop (a + 1) := by
    obtain ⟨h1, h2⟩ := List.getElem?_eq_some_iff.mp hx
    rw [List.drop_eq_getElem_cons h1, h2]
  have hW : nodesAll (qs.drop a) = nodes x + nodesAll (qs.drop (a + 1)) := by rw [hdrop]; rfl
  have hlen : qs.length ≤ a + nodesAll (qs.drop a) := by
    have := len_nodes (qs.drop a)
    rw [List.length_drop] at this; omega
  have leaf : ∀ s4' s5', Jk s4' → Jk s5' → nodes x = 1 → RA d [.va d, .va d, .ow (qs.map prD), .va (.int ((a : Int) + 1)), s4', s5'] := fun s4' s5' j4 j5 h1 =>
    ⟨qs, a + 1, s4', s5', j4, j5, by simp, hlt, hq, by omega⟩
  have mu : ∀ (ps : List PyData) (s4' s5' : Sl), muA [.va d, .va d, .ow ps, .va (.int ((a : Int) + 1)), s4', s5'] < muA [.va d, .va d, .ow (qs.map prD), .va (.int (a : Int)), s4, s5] := fun ps s4' s5' => by
    show 16777217 - ((a : Int) + 1).toNat < 16777217 - (a : Int).toNat
    omega
  have e1 : (fAsg (m2o 2 gIx (fV 3)) (tgTup 2 (tgCons (tgName 4) (tgCons (tgName 5) tgNil)))) [.va d, .va d, .ow (qs.map prD), .va (.int (a : Int)), s4, s5] = some (.nx, [.va d, .va d, .ow (qs.map prD), .va (.int (a : Int)), .va x, .va x]) := by
    generalize qs.map prD = P at hix ⊢
    rcases hs4 with rfl | ⟨d4, rfl⟩ <;> rcases hs5 with rfl | ⟨d5, rfl⟩ <;> simp [hix, prD]
  have e2 : ∀ P : List PyData, (fAug 3 (fun i j => i + j) (mret (.int 1))) [.va d, .va d, .ow P, .va (.int (a : Int)), .va x, .va x] = some (.nx, [.va d, .va d, .ow P, .va (.int ((a : Int) + 1)), .va x, .va x]) := fun P => by simp
  have kids : ∀ cs : List PyData, (∀ c ∈ cs, Nice c 60) → nodes x = nodesAll cs + 1 → RA d [.va d, .va d, .ow ((qs ++ cs).map prD), .va (.int ((a : Int) + 1)), .va x, .va x] ∧ (qs.map prD).length + (cs.map prD).length ≤ 16777216 := fun cs hcs h1 => by
    have e3 : (qs ++ cs).drop (a + 1) = qs.drop (a + 1) ++ cs := by rw [List.drop_append_of_le_length (by omega)]
    have e4 : nodesAll ((qs ++ cs).drop (a + 1)) = nodesAll (qs.drop (a + 1)) + nodesAll cs := by rw [e3, nodesAll_app]
    refine ⟨⟨qs ++ cs, a + 1, .va x, .va x, jk_va _, jk_va _, by simp, by simp; omega, fun q hqm => ?_, by omega⟩, ?_⟩
    · rcases List.mem_append.mp hqm with h | h
      · exact hq q h
      · exact hcs q h
    · have l1 := len_nodes (qs.drop (a + 1))
      have l2 := len_nodes cs
      rw [List.length_drop] at l1
      rw [List.length_map, List.length_map]
      omega
  have gtb : ∀ b : Bool, gTru (.bool b) = some b := fun _ => rfl
  have gnb : ∀ a b : Bool, gNe (.bool a) (.bool b) = some (.bool (!(a == b))) := fun a b => by
    rw [gNe_of (nice_bool a 0) (nice_bool b 0)]; simp [PyData.eqv]
  have hnx : gNe x x = some (.bool false) := by
    rw [gNe_of (j := 60) (k := 60) ⟨hlay, hdep⟩ ⟨hlay, hdep⟩, eqv_self x hlay]; rfl
  have go : ∀ (P : List PyData) (rest : M Fl), b__law_alike_1 = fSeq (fAsg (m2o 2 gIx (fV 3)) (tgTup 2 (tgCons (tgName 4) (tgCons (tgName 5) tgNil)))) (fSeq (fAug 3 (fun i j => i + j) (mret (.int 1))) rest) → rest [Sl.va d, .va d, .ow (qs.map prD), .va (.int ((a : Int) + 1)), .va x, .va x] = some (.nx, [.va d, .va d, .ow P, .va (.int ((a : Int) + 1)), .va x, .va x]) → RA d [.va d, .va d, .ow P, .va (.int ((a : Int) + 1)), .va x, .va x] →
      ∃ e2, b__law_alike_1 [.va d, .va d, .ow (qs.map prD), .va (.int (a : Int)), s4, s5] = some (.nx, e2) ∧ RA d e2 ∧ muA e2 < muA [.va d, .va d, .ow (qs.map prD), .va (.int (a : Int)), s4, s5] := fun P rest hr h1 h2 =>
    ⟨_, by rw [hr]; exact fSeq_nx e1 (fSeq_nx (e2 _) h1), h2, mu P _ _⟩
  cases x with
  | list xs =>
    have hl : PyData.canLayAll0 xs = true := by simpa [PyData.canLay0] using hlay
    obtain ⟨k1, k2⟩ := kids xs (nice_kids hl (by simp [PyData.depth] at hdep; omega)) (by simp [nodes])
    have hext := gExtend_1 k2
    have hz : gZip [.list xs, .list xs] = some (xs.map prD) := by show some (zipD xs xs) = _; rw [zip_self]
    have hap : (qs ++ xs).map prD = qs.map prD ++ xs.map prD := by simp
    rw [hap] at k1
    generalize qs.map prD = Q at *
    generalize xs.map prD = Z at *
    refine go (Q ++ Z) _ rfl ?_ k1
    simp [hlay, isiB, gtb, gnb, hz, hext]
  | tuple xs =>
    have hl : PyData.canLayAll0 xs = true := by simpa [PyData.canLay0] using hlay
    obtain ⟨k1, k2⟩ := kids xs (nice_kids hl (by simp [PyData.depth] at hdep; omega)) (by simp [nodes])
    have hext := gExtend_1 k2
    have hz : gZip [.tuple xs, .tuple xs] = some (xs.map prD) := by show some (zipD xs xs) = _; rw [zip_self]
    have hap : (qs ++ xs).map prD = qs.map prD ++ xs.map prD := by simp
    rw [hap] at k1
    generalize qs.map prD = Q at *
    generalize xs.map prD = Z at *
    refine go (Q ++ Z) _ rfl ?_ k1
    simp [hlay, isiB, gtb, gnb, hz, hext]
  | none =>
    refine go _ _ rfl ?_ (leaf _ _ (jk_va _) (jk_va _) rfl)
    simp [hlay, isiB, gtb, gnb]
  | bool b =>
    refine go _ _ rfl ?_ (leaf _ _ (jk_va _) (jk_va _) rfl)
    have : gIsN (.bool b) .none = some (.bool false) := rfl
    simp [hlay, isiB, gtb, gnb, hnx, this]
  | int i =>
    refine go _ _ rfl ?_ (leaf _ _ (jk_va _) (jk_va _) rfl)
    simp [hlay, isiB, gtb, gnb, hnx]
  | str z =>
    refine go _ _ rfl ?_ (leaf _ _ (jk_va _) (jk_va _) rfl)
    have : gIsN (.str z) .none = some (.bool false) := rfl
    simp [hlay, isiB, gtb, gnb, hnx, this]
  | dict kvs => simp [PyData.canLay0] at hlay
theorem alike_self {d : PyData} (h : Nice d 60) (hn : nodes d ≤ 16777216) : pf__law_alike [d, d] = some (.bool true) := by
  obtain ⟨e', h1, qs, a, s4, s5, _, _, rfl, _⟩ := fWhile_inv (fc := mT gB (m2 (gCmp fLt) (fV 3) (m1 gLen (fR 2)))) (fb := b__law_alike_1) (RA d) muA (RA d) (e := [.va d, .va d, .ow [prD d], .va (.int 0), .un, .un])
    ⟨[d], 0, .un, .un, jk_un, jk_un, rfl, by simp, fun q hq => by rw [List.mem_singleton.mp hq]; exact h, by simp [nodesAll]; exact hn⟩ (alike_body d)
  refine pfP_rt (e := [.va d, .va d, .ow (qs.map prD), .va (.int (a : Int)), s4, s5]) rfl ?_
  rw [mm__law_alike]
  refine fSeq_nx (e1 := [.va d, .va d, .ow [prD d], .va (.int 0), .un, .un]) (by simp [env0, prD]) (fSeq_nx h1 ?_)
  simp
end Law

namespace Law
open PySem L2 Evl Pd
def bagD (b0 b1 b2 : Int) (cells : List Int) : List PyData := [.int b0, .int b1, .int b2, lstI cells]
/-- a bag as it should be -/
def WB (bs : List PyData) : Prop := ∃ b0 b1 b2 cells, bs = bagD b0 b1 b2 cells ∧ 0 ≤ b0 ∧ cells.length ≤ 63
theorem gMul_big {i j : Int} (h : mulOk i j = true) : gMul (.int i) (.int j) = some (.int (i * j)) := by
  show (if mulOk i j = true then some (PyData.int (i * j)) else none) = _
  rw [h]; rfl
theorem mulOk_l {i j : Int} (h1 : -(2 ^ 64) < i) (h2 : i < 2 ^ 64) : mulOk i j = true := by unfold mulOk; simp; omega
theorem mulOk_rr {i j : Int} (h1 : -(2 ^ 64) < j) (h2 : j < 2 ^ 64) : mulOk i j = true := by unfold mulOk; simp; omega
theorem gMod_i {i j : Int} (h : 0 < j) : gMod (.int i) (.int j) = some (.int (i % j)) := by
  show (if decide (0 < j) = true then some (PyData.int (i % j)) else none) = _
  rw [decide_eq_true h]; rfl
theorem gFdiv_i {i j : Int} (h : 0 < j) (h2 : j < 1073741824) : gFdiv (.int i) (.int j) = some (.int (i / j)) := by
  show (if (decide (0 < j) && decide (j < 1073741824)) = true then some (PyData.int (i / j)) else none) = _
  rw [decide_eq_true h, decide_eq_true h2]; rfl
theorem cutD_ints (cells : List Int) (lo hi : Option Int) : ∃ ys : List Int, cutD (cells.map PyData.int) lo hi = ys.map PyData.int ∧ ys.length ≤ cells.length := by
  unfold cutD
  refine ⟨(cells.drop (HT.sIx (cells.map PyData.int).length 0 lo)).take (HT.sIx (cells.map PyData.int).length (cells.map PyData.int).length hi - HT.sIx (cells.map PyData.int).length 0 lo), ?_, ?_⟩
  · rw [List.map_take, List.map_drop]
  · rw [List.length_take, List.length_drop]; omega
theorem pfB_rt {n np : Nat} {m : M Fl} {bs ds bs' : List PyData} {d : PyData} {r : List Sl} (hl : ds.length + 1 = np) (h : m (envB n bs ds) = some (.rt d, .bg bs' :: r)) : pfB n np m bs ds = some (d, bs') := by
  unfold pfB; rw [if_pos hl, h]; rfl
theorem first0 (ys : List Int) : ∃ c : Int, atI (ys.map PyData.int ++ [.int 0]) 0 = some (.int c) := by
  cases ys with
  | nil => exact ⟨0, Pd.atI_nat (i := 0) rfl⟩
  | cons y r => exact ⟨y, Pd.atI_nat (i := 0) rfl⟩
theorem bag0 (b0 b1 b2 : Int) (cells : List Int) : atI (bagD b0 b1 b2 cells) 0 = some (.int b0) := rfl
theorem bag1 (b0 b1 b2 : Int) (cells : List Int) : atI (bagD b0 b1 b2 cells) 1 = some (.int b1) := rfl
theorem bag2 (b0 b1 b2 : Int) (cells : List Int) : atI (bagD b0 b1 b2 cells) 2 = some (.int b2) := rfl
theorem bag3 (b0 b1 b2 : Int) (cells : List Int) : atI (bagD b0 b1 b2 cells) 3 = some (lstI cells) := rfl
theorem set0 (b0 b1 b2 x : Int) (cells : List Int) : setAt (bagD b0 b1 b2 cells) (.int 0) (.int x) = some (bagD x b1 b2 cells) := rfl
theorem set1 (b0 b1 b2 x : Int) (cells : List Int) : setAt (bagD b0 b1 b2 cells) (.int 1) (.int x) = some (bagD b0 x b2 cells) := rfl
theorem set2 (b0 b1 b2 x : Int) (cells : List Int) : setAt (bagD b0 b1 b2 cells) (.int 2) (.int x) = some (bagD b0 b1 x cells) := rfl
theorem pow18 : gPow (.int 10) (.int 18) = some (.int 1000000000000000000) := rfl
theorem jk_ap {s : Sl} (h : Jk s) : s = .un ∨ ∃ d, s = .va d := h
/-- stirring with the cell c -/
theorem stir (b0 b1 b2 : Int) (cells : List Int) (c : Int) (many : Int) : ∃ st : Int,
    (fSet 3 (m2 gAdd (m2 gAdd (m2 gMul (m2o 0 gIx (mret (.int 1))) (mret (.int 48271))) (m2 gMod (mA gInt1 (fCons (fV 2) fNil)) (mret (.int 2147483647)))) (m2 gMul (mret (.int 7919)) (m2o 0 gIx (mret (.int 2)))))) [.bg (bagD b0 b1 b2 cells), .va (.int many), .va (.int c), .un, .un, .un, .un] = some (.nx, [.bg (bagD b0 b1 b2 cells), .va (.int many), .va (.int c), .va (.int st), .un, .un, .un]) ∧
    (fSetIt 0 (mret (.int 1)) (m2 gMod (mA gInt1 (fCons (fV 3) fNil)) (mret (.int 2147483647)))) [.bg (bagD b0 b1 b2 cells), .va (.int many), .va (.int c), .va (.int st), .un, .un, .un] = some (.nx, [.bg (bagD b0 (st % 2147483647) b2 cells), .va (.int many), .va (.int c), .va (.int st), .un, .un, .un]) := by
  have g1 : gMul (.int b1) (.int 48271) = some (.int (b1 * 48271)) := gMul_big (mulOk_rr (by omega) (by omega))
  have g2 : gMod (.int c) (.int 2147483647) = some (.int (c % 2147483647)) := gMod_i (by omega)
  have g3 : gMul (.int 7919) (.int b2) = some (.int (7919 * b2)) := gMul_big (mulOk_l (by omega) (by omega))
  refine ⟨b1 * 48271 + c % 2147483647 + 7919 * b2, ?_, ?_⟩
  · simp [bag1, bag2, g1, g2, g3]
  · generalize b1 * 48271 + c % 2147483647 + 7919 * b2 = z
    have g4 : gMod (.int z) (.int 2147483647) = some (.int (z % 2147483647)) := gMod_i (by omega)
    simp [g4, set1]
/-- drawing: the first step stirs the bag if it holds no number -/
theorem take_first (b0 b1 b2 : Int) (cells : List Int) (hb : 0 ≤ b0) (hc : cells.length ≤ 63) (many : Int) : ∃ b0' b1' b2' s2 s3, Jk s2 ∧ Jk s3 ∧ 0 ≤ b0' ∧
    (mIte (mT gB (m2 gEq (m2o 0 gIx (mret (.int 0))) (mret (.int 0)))) (fSeq (fSet 2 (m2 gIx (m2 gAdd (mSl gSl (m2o 0 gIx (mret (.int 3))) (mPart (m2o 0 gIx (mret (.int 2)))) mNoPart) (mLst (fCons (mret (.int 0)) fNil))) (mret (.int 0)))) (fSeq (fAugIt 0 (fun i j => i + j) (mret (.int 2)) (mret (.int 1))) (fSeq (mIte (mT gB (m2 (gCmp fGe) (fV 2) (m2 gPow (mret (.int 10)) (mret (.int 18))))) (fSetIt 0 (mret (.int 0)) (fV 2)) fNx) (fSeq (fSet 3 (m2 gAdd (m2 gAdd (m2 gMul (m2o 0 gIx (mret (.int 1))) (mret (.int 48271))) (m2 gMod (mA gInt1 (fCons (fV 2) fNil)) (mret (.int 2147483647)))) (m2 gMul (mret (.int 7919)) (m2o 0 gIx (mret (.int 2)))))) (fSetIt 0 (mret (.int 1)) (m2 gMod (mA gInt1 (fCons (fV 3) fNil)) (mret (.int 2147483647)))))))) fNx)
      [.bg (bagD b0 b1 b2 cells), .va (.int many), .un, .un, .un, .un, .un] = some (.nx, [.bg (bagD b0' b1' b2' cells), .va (.int many), s2, s3, .un, .un, .un]) := by
  by_cases h0 : b0 = 0
  · subst h0
    obtain ⟨ys, hy, hyl⟩ := cutD_ints cells (some b2) none
    obtain ⟨c, hcc⟩ := first0 ys
    have hlen : (ys.map PyData.int).length + 1 ≤ 16777216 := by rw [List.length_map]; omega
    have hsl : gSl (lstI cells) (some b2) none = some (.list (ys.map PyData.int)) := by unfold lstI; rw [gSl_l, hy]
    have hadd : gAdd (.list (ys.map PyData.int)) (.list [.int 0]) = some (.list (ys.map PyData.int ++ [.int 0])) := by rw [gAdd_l, if_pos (by simpa using hlen)]
    generalize ys.map PyData.int = Y at *
    have s1 : (fSet 2 (m2 gIx (m2 gAdd (mSl gSl (m2o 0 gIx (mret (.int 3))) (mPart (m2o 0 gIx (mret (.int 2)))) mNoPart) (mLst (fCons (mret (.int 0)) fNil))) (mret (.int 0)))) [.bg (bagD 0 b1 b2 cells), .va (.int many), .un, .un, .un, .un, .un] = some (.nx, [.bg (bagD 0 b1 b2 cells), .va (.int many), .va (.int c), .un, .un, .un, .un]) := by
      simp [bag3, bag2, hsl, -gAdd_l, hadd, hcc]
    have s2 : (fAugIt 0 (fun i j => i + j) (mret (.int 2)) (mret (.int 1))) [.bg (bagD 0 b1 b2 cells), .va (.int many), .va (.int c), .un, .un, .un, .un] = some (.nx, [.bg (bagD 0 b1 (b2 + 1) cells), .va (.int many), .va (.int c), .un, .un, .un, .un]) := by
      simp [bag2, set2]
    have s0 : (mT gB (m2 gEq (m2o 0 gIx (mret (.int 0))) (mret (.int 0)))) [.bg (bagD 0 b1 b2 cells), .va (.int many), .un, .un, .un, .un, .un] = some (true, [.bg (bagD 0 b1 b2 cells), .va (.int many), .un, .un, .un, .un, .un]) := by simp [bag0]
    by_cases hbig : (1000000000000000000 : Int) ≤ c
    · obtain ⟨st, s4, s5⟩ := stir c b1 (b2 + 1) cells c many
      refine ⟨c, st % 2147483647, b2 + 1, .va (.int c), .va (.int st), jk_va _, jk_va _, by omega, ?_⟩
      rw [mIte_ap, s0]
      refine fSeq_nx s1 (fSeq_nx s2 (fSeq_nx (e1 := [.bg (bagD c b1 (b2 + 1) cells), .va (.int many), .va (.int c), .un, .un, .un, .un]) ?_ (fSeq_nx s4 s5)))
      simp [pow18, hbig, set0]
    · obtain ⟨st, s4, s5⟩ := stir 0 b1 (b2 + 1) cells c many
      refine ⟨0, st % 2147483647, b2 + 1, .va (.int c), .va (.int st), jk_va _, jk_va _, by omega, ?_⟩
      rw [mIte_ap, s0]
      refine fSeq_nx s1 (fSeq_nx s2 (fSeq_nx (e1 := [.bg (bagD 0 b1 (b2 + 1) cells), .va (.int many), .va (.int c), .un, .un, .un, .un]) ?_ (fSeq_nx s4 s5)))
      simp [pow18, hbig]
  · refine ⟨b0, b1, b2, .un, .un, jk_un, jk_un, hb, ?_⟩
    simp [bag0, h0]
/-- a drawn number -/
theorem take_ev {bs : List PyData} (W : WB bs) {many : Int} (h1 : 1 ≤ many) (h2 : many < 1073741824) : ∃ r bs', pf__law_take bs [.int many] = some (.int r, bs') ∧ 0 ≤ r ∧ r < many ∧ WB bs' := by
  obtain ⟨b0, b1, b2, cells, rfl, hb, hc⟩ := W
  obtain ⟨b0', b1', b2', s2, s3, j2, j3, hb', e1⟩ := take_first b0 b1 b2 cells hb hc many
  have gm : ∀ z : Int, gMod (.int z) (.int many) = some (.int (z % many)) := fun z => gMod_i (by omega)
  have gd : ∀ z : Int, gFdiv (.int z) (.int many) = some (.int (z / many)) := fun z => gFdiv_i (by omega) h2
  have m1 : ∀ z : Int, 0 ≤ z % many := fun z => Int.emod_nonneg _ (by omega)
  have m2' : ∀ z : Int, z % many < many := fun z => Int.emod_lt_of_pos _ (by omega)
  have d0 : 0 ≤ b0' / many := Int.ediv_nonneg hb' (by omega)
  by_cases h0 : 0 < b0'
  · refine ⟨b0' % many, bagD (b0' / many) b1' b2' cells, pfB_rt (r := [.va (.int many), s2, s3, .va (.int (b0' % many)), .un, .un]) rfl ?_, m1 _, m2' _, ⟨_, _, _, _, rfl, d0, hc⟩⟩
    show m__law_take [.bg (bagD b0 b1 b2 cells), .va (.int many), .un, .un, .un, .un, .un] = _
    rw [mm__law_take]
    refine fSeq_nx e1 (fSeq_rt ?_)
    rw [mIte_ap]
    have s0 : (mT gB (m2 (gCmp fGt) (m2o 0 gIx (mret (.int 0))) (mret (.int 0)))) [.bg (bagD b0' b1' b2' cells), .va (.int many), s2, s3, .un, .un, .un] = some (true, [.bg (bagD b0' b1' b2' cells), .va (.int many), s2, s3, .un, .un, .un]) := by simp [bag0, h0]
    rw [s0]
    refine fSeq_nx (e1 := [.bg (bagD b0' b1' b2' cells), .va (.int many), s2, s3, .va (.int (b0' % many)), .un, .un]) (by simp [bag0, gm]) (fSeq_nx (e1 := [.bg (bagD (b0' / many) b1' b2' cells), .va (.int many), s2, s3, .va (.int (b0' % many)), .un, .un]) (by simp [bag0, gd, set0]) (by simp))
  · generalize hx : (b1' + 1) * 39373 % 1000000007 = x
    have hx1 : 0 ≤ x := by rw [← hx]; exact Int.emod_nonneg _ (by omega)
    have hx2 : x < 1000000007 := by rw [← hx]; exact Int.emod_lt_of_pos _ (by omega)
    have g1 : gMul (.int (b1' + 1)) (.int 39373) = some (.int ((b1' + 1) * 39373)) := gMul_big (mulOk_rr (by omega) (by omega))
    have g2 : ∀ z : Int, gMod (.int z) (.int 1000000007) = some (.int (z % 1000000007)) := fun z => gMod_i (by omega)
    have g3 : gMul (.int x) (.int x) = some (.int (x * x)) := gMul_big (mulOk_l (by omega) (by omega))
    have g4 : ∀ z : Int, gMod (.int z) (.int 998244353) = some (.int (z % 998244353)) := fun z => gMod_i (by omega)
    have g5 : ∀ z : Int, gMul (.int z) (.int 30011) = some (.int (z * 30011)) := fun z => gMul_big (mulOk_rr (by omega) (by omega))
    have g6 : ∀ z : Int, gFdiv (.int z) (.int 7) = some (.int (z / 7)) := fun z => gFdiv_i (by omega) (by omega)
    refine ⟨_, bagD b0' b1' b2' cells, pfB_rt (r := [.va (.int many), s2, s3, .un, .va (.int x), .va (.int (x * x % 998244353 * 30011 % 998244353))]) rfl ?_, m1 (x * x % 998244353 * 30011 % 998244353 / 7), m2' _, ⟨_, _, _, _, rfl, hb', hc⟩⟩
    show m__law_take [.bg (bagD b0 b1 b2 cells), .va (.int many), .un, .un, .un, .un, .un] = _
    rw [mm__law_take]
    refine fSeq_nx e1 (fSeq_nx (e1 := [.bg (bagD b0' b1' b2' cells), .va (.int many), s2, s3, .un, .un, .un]) (by simp [bag0, h0]) ?_)
    refine fSeq_nx (e1 := [.bg (bagD b0' b1' b2' cells), .va (.int many), s2, s3, .un, .va (.int x), .un]) (by simp [bag1, g1, g2, hx]) ?_
    refine fSeq_nx (e1 := [.bg (bagD b0' b1' b2' cells), .va (.int many), s2, s3, .un, .va (.int x), .va (.int (x * x % 998244353 * 30011 % 998244353))]) (by simp [g3, g4, g5]) ?_
    simp [g6, gm]
end Law

/-! ### comprehensions whose names stay within, draws -/
namespace Pd
open PySem L2 Evl
variable {T : Type}
theorem set_same {e : Env} {v : Nat} {s : Sl} (h : e[v]? = some s) : e.set v s = e := by
  obtain ⟨h1, h2⟩ := List.getElem?_eq_some_iff.mp h
  subst h2; exact List.set_getElem_self h1
theorem setE_jk {e : Env} {v : Nat} {s t : Sl} (h : e[v]? = some s) (j : Jk s) : setE e v t = some (e.set v t) := by
  rw [setE_ap, h]; rcases j with rfl | ⟨d, rfl⟩ <;> rfl
theorem restE_jk {e e2 : Env} {v : Nat} {vs : List Nat} {s : Sl} (h : e[v]? = some s) (j : Jk s) : restE e e2 (v :: vs) = (restE e e2 vs).set v s := by
  rw [restE_cons, h]; rcases j with rfl | ⟨d, rfl⟩ <;> rfl
theorem fLc_one {v : Nat} {fi : M (List PyData)} {ft : M Bool} {fe : M PyData} {e e1 : Env} {xs : List T} {enc : T → PyData} {s1 : Sl} (p : T → Bool) (val : T → PyData) (hi : fi e = some (xs.map enc, e1)) (hv : e1[v]? = some s1) (j1 : Jk s1) (hz : xs.length ≤ 16777216)
    (h : ∀ x ∈ xs, ft (e1.set v (.va (enc x))) = some (p x, e1.set v (.va (enc x))) ∧ (p x = true → fe (e1.set v (.va (enc x))) = some (val x, e1.set v (.va (enc x))))) : fLc [v] fi (tgName v) ft fe e = some (.list ((xs.filter p).map val), e1) := by
  have hlt : v < e1.length := (List.getElem?_eq_some_iff.mp hv).1
  refine fLc_pure hi (fun e => ∃ s, e = e1.set v s) p val ⟨s1, (set_same hv).symm⟩ ?_ hz ?_
  · rintro e' ⟨s, rfl⟩
    rw [restE_jk hv j1, restE_nil]
    rw [List.set_set, set_same hv]
  · rintro x e2 hx ⟨s, rfl⟩
    obtain ⟨h1, h2⟩ := h x hx
    refine ⟨e1.set v (.va (enc x)), e1.set v (.va (enc x)), ?_, h1, e1.set v (.va (enc x)), ?_, ⟨_, rfl⟩⟩
    · rw [wipeE_cons, wipeE_nil, List.set_set, tgName_ap, setE_jk (s := .un) (by rw [List.getElem?_set_self hlt]) jk_un, List.set_set]
    · cases q : p x with
      | true => rw [if_pos rfl]; exact h2 q
      | false => rw [if_neg (by decide)]
/-- without a test -/
theorem fLc_one1 {v : Nat} {fi : M (List PyData)} {fe : M PyData} {e e1 : Env} {xs : List T} {enc : T → PyData} {s1 : Sl} (val : T → PyData) (hi : fi e = some (xs.map enc, e1)) (hv : e1[v]? = some s1) (j1 : Jk s1) (hz : xs.length ≤ 16777216)
    (h : ∀ x ∈ xs, fe (e1.set v (.va (enc x))) = some (val x, e1.set v (.va (enc x)))) : fLc [v] fi (tgName v) fYes fe e = some (.list (xs.map val), e1) := by
  have := fLc_one (ft := fYes) (fun _ => true) val hi hv j1 hz fun x hx => ⟨rfl, fun _ => h x hx⟩
  rw [this, List.filter_eq_self.mpr fun _ _ => rfl]
/-- two names -/
theorem fLc_two {u v : Nat} {fi : M (List PyData)} {ft : M Bool} {fe : M PyData} {e e1 : Env} {xs : List T} {a b : T → PyData} {s1 s2 : Sl} (p : T → Bool) (val : T → PyData) (hi : fi e = some (xs.map fun x => PyData.tuple [a x, b x], e1)) (hu : e1[u]? = some s1) (hv : e1[v]? = some s2) (j1 : Jk s1) (j2 : Jk s2) (huv : u ≠ v) (hz : xs.length ≤ 16777216)
    (h : ∀ x ∈ xs, ft ((e1.set u (.va (a x))).set v (.va (b x))) = some (p x, (e1.set u (.va (a x))).set v (.va (b x))) ∧ (p x = true → fe ((e1.set u (.va (a x))).set v (.va (b x))) = some (val x, (e1.set u (.va (a x))).set v (.va (b x))))) : fLc [u, v] fi (tgTup 2 (tgCons (tgName u) (tgCons (tgName v) tgNil))) ft fe e = some (.list ((xs.filter p).map val), e1) := by
  have hlu : u < e1.length := (List.getElem?_eq_some_iff.mp hu).1
  have hlv : v < e1.length := (List.getElem?_eq_some_iff.mp hv).1
  have key : ∀ (x y x2 y2 : Sl), (((e1.set u x).set v y).set u x2).set v y2 = (e1.set u x2).set v y2 := fun x y x2 y2 => by
    rw [List.set_comm _ _ (Ne.symm huv), List.set_set, List.set_set]
  refine fLc_pure hi (fun e => ∃ s t, e = (e1.set u s).set v t) p val ⟨s1, s2, by rw [set_same hu, set_same hv]⟩ ?_ hz ?_
  · rintro e' ⟨s, t, rfl⟩
    rw [restE_jk hu j1, restE_jk hv j2, restE_nil]
    rw [List.set_set, List.set_comm _ _ (Ne.symm huv), List.set_set, set_same hu, set_same hv]
  · rintro x e2 hx ⟨s, t, rfl⟩
    obtain ⟨h1, h2⟩ := h x hx
    refine ⟨_, _, ?_, h1, (e1.set u (.va (a x))).set v (.va (b x)), ?_, ⟨_, _, rfl⟩⟩
    · have w : wipeE ((e1.set u s).set v t) [u, v] = (e1.set u .un).set v .un := by
        rw [wipeE_cons, wipeE_cons, wipeE_nil, List.set_set, List.set_comm _ _ (Ne.symm huv), List.set_set]
      rw [w, tgTup_ap, if_pos (show ([a x, b x] : List PyData).length = 2 from rfl), tgCons_ap, tgName_ap, setE_jk (s := .un) (by rw [List.getElem?_set_ne (Ne.symm huv), List.getElem?_set_self hlu]) jk_un]
      try dsimp only
      rw [List.set_comm _ _ (Ne.symm huv), List.set_set, tgCons_ap, tgName_ap, setE_jk (s := .un) (by rw [List.getElem?_set_self (by simpa using hlv)]) jk_un]
      try dsimp only
      rw [tgNil_ap, List.set_set]
    · cases q : p x with
      | true => rw [if_pos rfl]; exact h2 q
      | false => rw [if_neg (by decide)]
theorem fLc_two1 {u v : Nat} {fi : M (List PyData)} {fe : M PyData} {e e1 : Env} {xs : List T} {a b : T → PyData} {s1 s2 : Sl} (val : T → PyData) (hi : fi e = some (xs.map fun x => PyData.tuple [a x, b x], e1)) (hu : e1[u]? = some s1) (hv : e1[v]? = some s2) (j1 : Jk s1) (j2 : Jk s2) (huv : u ≠ v) (hz : xs.length ≤ 16777216)
    (h : ∀ x ∈ xs, fe ((e1.set u (.va (a x))).set v (.va (b x))) = some (val x, (e1.set u (.va (a x))).set v (.va (b x)))) : fLc [u, v] fi (tgTup 2 (tgCons (tgName u) (tgCons (tgName v) tgNil))) fYes fe e = some (.list (xs.map val), e1) := by
  have := fLc_two (ft := fYes) (fun _ => true) val hi hu hv j1 j2 huv hz fun x hx => ⟨rfl, fun _ => h x hx⟩
  rw [this, List.filter_eq_self.mpr fun _ _ => rfl]
/-- drawing many: the bag stays a bag (B), each is as told (P) -/
theorem fLc_draw {v : Nat} {fi : M (List PyData)} {fe : M PyData} {e : Env} {ds : List PyData} {bs : List PyData} {r : Env} {s1 : Sl} (B : List PyData → Prop) (P : PyData → Prop) (hi : fi e = some (ds, .bg bs :: r)) (hB : B bs) (hv : r[v]? = some s1) (j1 : Jk s1) (hz : ds.length ≤ 16777216)
    (h : ∀ d ∈ ds, ∀ bs, B bs → ∃ y bs', fe (.bg bs :: r.set v (.va d)) = some (y, .bg bs' :: r.set v (.va d)) ∧ P y ∧ B bs') : ∃ ys bs', fLc [v + 1] fi (tgName (v + 1)) fYes fe e = some (.list ys, .bg bs' :: r) ∧ ys.length = ds.length ∧ (∀ y ∈ ys, P y) ∧ B bs' := by
  have hlt : v < r.length := (List.getElem?_eq_some_iff.mp hv).1
  obtain ⟨ys, e', h1, h2, h3, bs', s, h4, rfl⟩ := lcL_rel (vs := [v + 1]) (fg := tgName (v + 1)) (fe := fe) (fun e => ∃ bs s, B bs ∧ e = .bg bs :: r.set v s) (fun _ y => P y) ds (.bg bs :: r) ⟨bs, s1, hB, by rw [set_same hv]⟩ (by
    rintro d e hd ⟨bs, s, hb, rfl⟩
    obtain ⟨y, bs', e1, e2, e3⟩ := h d hd bs hb
    refine ⟨.bg bs :: r.set v (.va d), y, _, ?_, e1, e2, ⟨bs', _, e3, rfl⟩⟩
    rw [wipeE_cons, wipeE_nil, List.set_cons_succ, List.set_set, tgName_ap, setE_jk (s := .un) (by rw [List.getElem?_cons_succ, List.getElem?_set_self hlt]) jk_un, List.set_cons_succ, List.set_set])
  refine ⟨ys, bs', ?_, h2, fun y hy => (h3 y hy).elim fun _ q => q.2, h4⟩
  rw [fLc_ap, hi]
  dsimp only
  rw [h1]
  dsimp only
  rw [if_pos (by omega), restE_jk (s := s1) (by rw [List.getElem?_cons_succ, hv]) j1, restE_nil, List.set_cons_succ, List.set_set, set_same hv]
/-- data that are whole numbers -/
theorem ints_of {P : Int → Prop} : ∀ {ys : List PyData}, (∀ y ∈ ys, ∃ i : Int, y = .int i ∧ P i) → ∃ xs : List Int, ys = xs.map .int ∧ ∀ x ∈ xs, P x
  | [], _ => ⟨[], rfl, fun _ h => nomatch h⟩
  | y :: r, h => by
    obtain ⟨i, rfl, hi⟩ := h y (List.mem_cons_self ..)
    obtain ⟨xs, rfl, hx⟩ := ints_of (ys := r) fun z hz => h z (List.mem_cons_of_mem _ hz)
    exact ⟨i :: xs, rfl, fun x hm => (List.mem_cons.mp hm).elim (fun q => q ▸ hi) (hx x)⟩
theorem encs_of {T : Type} {enc : T → PyData} {P : T → Prop} : ∀ {ys : List PyData}, (∀ y ∈ ys, ∃ t : T, y = enc t ∧ P t) → ∃ xs : List T, ys = xs.map enc ∧ ∀ x ∈ xs, P x
  | [], _ => ⟨[], rfl, fun _ h => nomatch h⟩
  | y :: r, h => by
    obtain ⟨i, rfl, hi⟩ := h y (List.mem_cons_self ..)
    obtain ⟨xs, rfl, hx⟩ := encs_of (ys := r) fun z hz => h z (List.mem_cons_of_mem _ hz)
    exact ⟨i :: xs, rfl, fun x hm => (List.mem_cons.mp hm).elim (fun q => q ▸ hi) (hx x)⟩
theorem mCallB_of {i : Nat} {pf : List PyData → List PyData → Option (PyData × List PyData)} {fr : M (List PyData)} {e e1 e2 : Env} {b0 bs bs' ds : List PyData} {d : PyData} (h0 : owOf e i = some b0) (h1 : fr e = some (ds, e1)) (h2 : owOf e1 i = some bs) (h3 : pf bs ds = some (d, bs')) (h4 : putOw e1 i bs' = e2) : mCallB i pf fr e = some (d, e2) := by
  rw [mCallB_ap, h0]; dsimp only; rw [h1]; dsimp only; rw [h2]; dsimp only; rw [h3]; dsimp only; rw [h4]
theorem fCons_of {fa : M PyData} {fr : M (List PyData)} {e e1 e2 : Env} {d : PyData} {ds : List PyData} (h1 : fa e = some (d, e1)) (h2 : fr e1 = some (ds, e2)) : fCons fa fr e = some (d :: ds, e2) := by
  rw [fCons_ap, h1]; dsimp only; rw [h2]
theorem fCons1 {fa : M PyData} {e e1 : Env} {d : PyData} (h1 : fa e = some (d, e1)) : fCons fa fNil e = some ([d], e1) := fCons_of h1 rfl
theorem fDrop_of {fa : M PyData} {e e1 : Env} {d : PyData} (h : fa e = some (d, e1)) : fDrop fa e = some (.nx, e1) := by rw [fDrop_ap, h]
theorem m1_of {g : PyData → Option PyData} {fa : M PyData} {e e1 : Env} {d x : PyData} (h : fa e = some (d, e1)) (h2 : g d = some x) : m1 g fa e = some (x, e1) := by rw [m1_ap, h]; dsimp only; rw [h2]; rfl
theorem m2_of {g : PyData → PyData → Option PyData} {fa fb : M PyData} {e e1 e2 : Env} {d d2 x : PyData} (h : fa e = some (d, e1)) (h1 : fb e1 = some (d2, e2)) (h2 : g d d2 = some x) : m2 g fa fb e = some (x, e2) := by rw [m2_ap, h]; dsimp only; rw [h1]; dsimp only; rw [h2]; rfl
theorem mA_of {g : List PyData → Option PyData} {fr : M (List PyData)} {e e1 : Env} {ds : List PyData} {x : PyData} (h : fr e = some (ds, e1)) (h2 : g ds = some x) : mA g fr e = some (x, e1) := by rw [mA_ap, h]; dsimp only; rw [h2]; rfl
theorem fSet_of {i : Nat} {fa : M PyData} {e e1 e2 : Env} {d : PyData} (h : fa e = some (d, e1)) (h2 : setE e1 i (.va d) = some e2) : fSet i fa e = some (.nx, e2) := by rw [fSet_ap, h]; dsimp only; rw [h2]
theorem fAsg_of {fa : M PyData} {g : PyData → Env → Option Env} {e e1 e2 : Env} {d : PyData} (h : fa e = some (d, e1)) (h2 : g d e1 = some e2) : fAsg fa g e = some (.nx, e2) := by rw [fAsg_ap, h]; dsimp only; rw [h2]
theorem fRet_of {fa : M PyData} {e e1 : Env} {d : PyData} (h : fa e = some (d, e1)) : fRet fa e = some (.rt d, e1) := by rw [fRet_ap, h]
theorem mIte_t {α : Type} {c : M Bool} {f g : M α} {e e1 : Env} {r : Option (α × Env)} (h : c e = some (true, e1)) (h2 : f e1 = r) : mIte c f g e = r := by rw [mIte_ap, h]; exact h2
theorem mIte_f {α : Type} {c : M Bool} {f g : M α} {e e1 : Env} {r : Option (α × Env)} (h : c e = some (false, e1)) (h2 : g e1 = r) : mIte c f g e = r := by rw [mIte_ap, h]; exact h2
theorem mT_of {g : PyData → Option Bool} {f : M PyData} {e e1 : Env} {d : PyData} {b : Bool} (h : f e = some (d, e1)) (h2 : g d = some b) : mT g f e = some (b, e1) := by rw [mT_ap, h]; dsimp only; rw [h2]; rfl
theorem mNot_of {f : M Bool} {e e1 : Env} {b : Bool} (h : f e = some (b, e1)) : mNot f e = some (!b, e1) := by rw [mNot_ap, h]
theorem fPar_of {i j : Nat} {o1 o2 : Bool} {fa fb : M PyData} {e e1 e2 e3 e4 : Env} {x y : PyData} {s1 s2 : Sl} (h1 : fa e = some (x, e1)) (h2 : fb e1 = some (y, e2)) (h3 : slV o1 x = some s1) (h4 : slV o2 y = some s2) (h5 : setE e2 i s1 = some e3) (h6 : setE e3 j s2 = some e4) : fPar i j o1 o2 fa fb e = some (.nx, e4) := by
  rw [fPar_ap, h1]; dsimp only; rw [h2]; dsimp only; rw [h3, h4]; dsimp only; rw [h5]; dsimp only; rw [h6]
theorem mTup_of {fr : M (List PyData)} {e e1 : Env} {ds : List PyData} (h : fr e = some (ds, e1)) (h2 : ds.length ≤ 16777216) : mTup fr e = some (.tuple ds, e1) := by rw [mTup_ap, h]; dsimp only; rw [if_pos h2]; rfl
theorem mLst_of {fr : M (List PyData)} {e e1 : Env} {ds : List PyData} (h : fr e = some (ds, e1)) (h2 : ds.length ≤ 16777216) : mLst fr e = some (.list ds, e1) := by rw [mLst_ap, h]; dsimp only; rw [if_pos h2]; rfl
end Pd

namespace Law
open PySem L2 Evl Pd
/-! ### drawing one, drawing an order -/
theorem wb_mk {b0 b1 b2 : Int} {cells : List Int} (h1 : 0 ≤ b0) (h2 : cells.length ≤ 63) : WB (bagD b0 b1 b2 cells) := ⟨_, _, _, _, rfl, h1, h2⟩
theorem gLen_seq {d : PyData} {xs : List PyData} (h : gSeq d = some xs) (hd : d = .list xs ∨ d = .tuple xs) : gLen d = some (.int xs.length) := by
  rcases hd with rfl | rfl <;> simp
theorem some_ev {bs : List PyData} (W : WB bs) {d : PyData} {xs : List PyData} (hd : d = .list xs ∨ d = .tuple xs) (h1 : xs ≠ []) (h2 : xs.length ≤ 1000000) : ∃ x bs', pf__law_some bs [d] = some (x, bs') ∧ x ∈ xs ∧ WB bs' := by
  have hl : 1 ≤ xs.length := by cases xs with | nil => exact absurd rfl h1 | cons => simp
  obtain ⟨r, bs', ht, r0, r1, W'⟩ := take_ev W (many := (xs.length : Int)) (by omega) (by omega)
  obtain ⟨j, rfl⟩ : ∃ j : Nat, r = (j : Int) := ⟨r.toNat, by omega⟩
  have hj : j < xs.length := by omega
  have hlen : gLen d = some (.int xs.length) := by rcases hd with rfl | rfl <;> simp
  have hix : gIx d (.int (j : Int)) = some xs[j] := by
    rcases hd with rfl | rfl
    · rw [gIx_l]; exact Pd.atI_nat (List.getElem?_eq_getElem hj)
    · rw [gIx_t]; exact Pd.atI_nat (List.getElem?_eq_getElem hj)
  refine ⟨xs[j], bs', pfB_rt (r := [.va d]) rfl ?_, List.getElem_mem hj, W'⟩
  show m__law_some [.bg bs, .va d] = _
  rw [mm__law_some]
  generalize xs[j] = x at hix
  simp [hlen, ht, hix]
theorem erase_map {T U : Type} (f : T → U) (l : List T) (j : Nat) : (l.map f).eraseIdx j = (l.eraseIdx j).map f := by
  rw [List.eraseIdx_eq_take_drop_succ, List.eraseIdx_eq_take_drop_succ, List.map_append, List.map_take, List.map_drop]
theorem erase_perm {T : Type} {l : List T} {j : Nat} (h : j < l.length) : (l[j] :: l.eraseIdx j).Perm l := by
  rw [List.eraseIdx_eq_take_drop_succ]
  have e : l = l.take j ++ l[j] :: l.drop (j + 1) := by rw [← List.drop_eq_getElem_cons h, List.take_append_drop]
  have p : (l.take j ++ l[j] :: l.drop (j + 1)).Perm (l[j] :: (l.take j ++ l.drop (j + 1))) := List.perm_middle
  rw [← e] at p
  exact p.symm
theorem gPopAt_n {l : List PyData} {j : Nat} (h : j < l.length) (h2 : l.length ≤ 1000000) : gPopAt l [.int (j : Int)] = some (l[j], l.eraseIdx j) := by
  have hs : seqIndex? (j : Int) l.length = some j := by
    unfold seqIndex?
    simp
    omega
  have h3 : decide (-(2 ^ 63) ≤ (j : Int)) = true := decide_eq_true (by omega)
  have h4 : decide ((j : Int) < 2 ^ 63) = true := decide_eq_true (by omega)
  unfold gPopAt
  dsimp only
  rw [h3, h4, if_pos (by rfl), hs]
  dsimp only
  rw [List.getElem?_eq_getElem h]
def muL (e : Pd.Env) : Nat := match (e[(2 : Nat)]? : Option Sl) with
  | some (Sl.ow l) => l.length
  | _ => 0
end Law

namespace Law
open PySem L2 Evl Pd
theorem mixed_ev {T : Type} {enc : T → PyData} {k : Nat} (hk : k ≤ 60) (hn : ∀ t, Nice (enc t) k) {bs : List PyData} (W : WB bs) {xs : List T} (hl : xs.length ≤ 1000000) {d : PyData} (hd : gList d = some (.list (xs.map enc))) :
    ∃ (ys : List T) (bs' : List PyData), pf__law_mixed bs [d] = some (.list (ys.map enc), bs') ∧ ys.Perm xs ∧ WB bs' := by
  let R : Pd.Env → Prop := fun e => ∃ (bs : List PyData) (left found : List T), WB bs ∧ (left ++ found).Perm xs ∧ e = [.bg bs, .va d, .ow (left.map enc), .ow (found.map enc)]
  let P : Pd.Env → Prop := fun e => ∃ (bs : List PyData) (found : List T), WB bs ∧ found.Perm xs ∧ e = [.bg bs, .va d, .ow [], .ow (found.map enc)]
  have loop : ∃ e', c__law_mixed_1 [.bg bs, .va d, .ow (xs.map enc), .ow []] = some (.nx, e') ∧ P e' := by
    unfold c__law_mixed_1
    refine fWhile_inv R muL P ⟨bs, xs, [], W, by simp, rfl⟩ ?_
    rintro e ⟨bs, left, found, W, hp, rfl⟩
    have hne : gNe (.list (left.map enc)) (.list []) = some (.bool (!left.isEmpty)) := by
      rw [gNe_of (nice_lst (k := k) fun x hx => by obtain ⟨t, _, rfl⟩ := List.mem_map.mp hx; exact hn t) nice_l0 (by omega), eqv_l0, List.isEmpty_map]
    refine ⟨!left.isEmpty, _, by simp [hne]; rfl, fun hb => ?_, fun hb => ?_⟩
    · have : left = [] := by simpa using hb
      subst this
      exact ⟨bs, found, W, hp, rfl⟩
    · have hl0 : left ≠ [] := by simpa using hb
      have hl1 : 1 ≤ left.length := by cases left with | nil => exact absurd rfl hl0 | cons => simp
      have hlen := hp.length_eq
      rw [List.length_append] at hlen
      obtain ⟨r, bs', ht, r0, r1, W'⟩ := take_ev W (many := (left.length : Int)) (by omega) (by omega)
      obtain ⟨j, rfl⟩ : ∃ j : Nat, r = (j : Int) := ⟨r.toNat, by omega⟩
      have hj : j < left.length := by omega
      have hpop : gPopAt (left.map enc) [.int (j : Int)] = some (enc left[j], (left.eraseIdx j).map enc) := by
        rw [gPopAt_n (by simpa using hj) (by simp; omega), erase_map]
        simp
      have happ : gAppend (found.map enc) [enc left[j]] = some (.none, (found ++ [left[j]]).map enc) := by
        rw [gAppend_1 (by simp; omega)]; simp
      refine ⟨[.bg bs', .va d, .ow ((left.eraseIdx j).map enc), .ow ((found ++ [left[j]]).map enc)], ?_, ⟨bs', _, _, W', ?_, rfl⟩, ?_⟩
      · unfold b__law_mixed_1
        have hlm : gLen (.list (left.map enc)) = some (.int (left.length : Int)) := by simp
        generalize left[j] = x at *
        exact fDrop_of (mCallB_of rfl (fCons1 (mCallB_of rfl (fCons1 (mCallB_of rfl (fCons1 (m1_of rfl hlm)) rfl ht rfl)) rfl hpop rfl)) rfl happ rfl)
      · have p1 := erase_perm hj
        have p2 : (left.eraseIdx j ++ (found ++ [left[j]])).Perm (left[j] :: left.eraseIdx j ++ found) := by
          rw [← List.append_assoc]
          exact (List.perm_append_singleton _ _).trans (by simp)
        exact p2.trans ((p1.append_right found).trans hp)
      · show ((left.eraseIdx j).map enc).length < (left.map enc).length
        simp [List.length_eraseIdx, hj]; omega
  obtain ⟨e', h1, bs', found, W', hp, rfl⟩ := loop
  refine ⟨found, bs', pfB_rt (r := [.va d, .ow [], .va (.list (found.map enc))]) rfl ?_, hp, W'⟩
  show m__law_mixed [.bg bs, .va d, .un, .un] = _
  rw [mm__law_mixed]
  refine fSeq_nx (e1 := [.bg bs, .va d, .ow (xs.map enc), .ow []]) (by simp [hd]) (fSeq_nx h1 ?_)
  simp
end Law

namespace Law
open PySem L2 Evl Pd
/-! ### the law's own columns -/
theorem k2 {e : Pd.Env} {n k : Nat} (e1 : e[1]? = some (.va (.int (n : Int)))) (e5 : e[5]? = some (.va (.int (k : Int)))) (e19 : e[19]? = some .un) (hn : 1 ≤ n) (hn2 : n ≤ 1000) (hk : Kk k) :
    c__law_are_columns_2 e = some (.list ((lots n k).map tupI), e) := by
  have hp := parts_le n k hn
  have hk1 := hk.ge
  have hk2 := hk.le
  unfold c__law_are_columns_2
  rw [fLc_one1 (T := Nat) (xs := List.range (partsN n k)) (enc := fun i => PyData.int ((i * k : Nat) : Int)) (fun i => tupI (rngI ((i * k : Nat) : Int) (min n (i * k + k) - i * k))) (by
      have := gRng3_ev (n := n) (k := k) hn (by omega) hk1 (by omega)
      simp [e1, e5, this]) e19 jk_un (by simp; omega) fun i hi => ?_]
  · rw [lots_eq, List.map_map]; rfl
  · have hi' := List.mem_range.mp hi
    have hik : i * k ≤ 1000 := by
      unfold partsN at hi'
      have := Nat.div_mul_le_self (n - 1) k
      have h2 : i * k ≤ (n - 1) / k * k := Nat.mul_le_mul_right _ (by omega)
      omega
    have hr := rgOk_of (a := ((i * k : Nat) : Int)) (b := min (n : Int) (((i * k : Nat) : Int) + (k : Int))) (by omega) (by omega) (by omega) (by omega)
    have hd : PyData.tuple (rgD ((i * k : Nat) : Int) (min (n : Int) (((i * k : Nat) : Int) + (k : Int)))) = tupI (rngI ((i * k : Nat) : Int) (min n (i * k + k) - i * k)) := by
      rw [rgD_I]; unfold tupI
      rw [show (min (n : Int) (((i * k : Nat) : Int) + (k : Int)) - ((i * k : Nat) : Int)).toNat = min n (i * k + k) - i * k by omega]
    have hl : 19 < e.length := (List.getElem?_eq_some_iff.mp e19).1
    rw [mTupRg_ap, mRg2_ap, fV_ap, List.getElem?_set_self hl]
    dsimp only
    rw [mA_ap, fCons_ap, fV_ap, List.getElem?_set_ne (by decide), e1]
    dsimp only
    rw [fCons_ap, m2_ap, fV_ap, List.getElem?_set_self hl]
    dsimp only
    rw [fV_ap, List.getElem?_set_ne (by decide), e5]
    simp only [gAdd_i, mlift_s, fNil_ap, gMin2_i, gInt_i, hr, if_true, hd]
theorem k4 {e : Pd.Env} {xs : List Int} {l : List Int} (e3 : e[3]? = some (.va (tupI xs))) (e20 : e[20]? = some (.va (tupI l))) {s : Sl} (e21 : e[21]? = some s) (js : Jk s) (hl : ∀ x ∈ l, 0 ≤ x ∧ x < xs.length) (hz : l.length ≤ 1000) :
    c__law_are_columns_4 e = some (lstI (l.map fun i => lenAt xs i.toNat), e) := by
  unfold c__law_are_columns_4
  have hlt : 21 < e.length := (List.getElem?_eq_some_iff.mp e21).1
  rw [fLc_one1 (T := Int) (xs := l) (enc := PyData.int) (fun i => .int (lenAt xs i.toNat)) (by simp [e20]) e21 js (by omega) fun i hi => ?_]
  · unfold lstI; rw [List.map_map]; rfl
  · obtain ⟨j, rfl⟩ : ∃ j : Nat, i = (j : Int) := ⟨i.toNat, by have := (hl i hi).1; omega⟩
    have hj : j < xs.length := by have := (hl _ hi).2; omega
    have hix := gIx_T hj
    rw [Int.toNat_natCast]
    refine m2_of (d := tupI xs) (d2 := .int (j : Int)) (e1 := e.set 21 (.va (.int (j : Int)))) ?_ ?_ hix
    · rw [fV_ap, List.getElem?_set_ne (by decide), e3]
    · rw [fV_ap, List.getElem?_set_self hlt]
theorem k3 {e : Pd.Env} {xs : List Int} {L : List (List Int)} (e3 : e[3]? = some (.va (tupI xs))) (e7 : e[7]? = some (.va (rowsT L))) (e20 : e[20]? = some .un) (e21 : e[21]? = some .un) (hl : ∀ l ∈ L, l ≠ [] ∧ l.length ≤ 1000 ∧ ∀ x ∈ l, 0 ≤ x ∧ x < xs.length) (hz : L.length ≤ 1000) :
    c__law_are_columns_3 e = some (lstI (L.map fun l => mxL (l.map fun i => lenAt xs i.toNat)), e) := by
  unfold c__law_are_columns_3
  have hlt : 20 < e.length := (List.getElem?_eq_some_iff.mp e20).1
  rw [fLc_one1 (T := List Int) (xs := L) (enc := tupI) (fun l => .int (mxL (l.map fun i => lenAt xs i.toNat))) (by simp [e7]) e20 jk_un (by omega) fun l hlm => ?_]
  · unfold lstI; rw [List.map_map]; rfl
  · obtain ⟨h1, h2, h3⟩ := hl l hlm
    have := k4 (e := e.set 20 (.va (tupI l))) (xs := xs) (l := l) (s := .un) (by rw [List.getElem?_set_ne (by decide), e3]) (by rw [List.getElem?_set_self hlt]) (by rw [List.getElem?_set_ne (by decide), e21]) jk_un h3 h2
    exact m1_of this (gMax1_LL (by simpa using h1))
theorem k6 {e : Pd.Env} {L : List (List Int)} {i : Nat} (e7 : e[7]? = some (.va (rowsT L))) (e22 : e[22]? = some (.va (.int (i : Int)))) (e20 : e[20]? = some .un) (hz : L.length ≤ 1000) :
    c__law_are_columns_6 e = some (lstI (rowAt L i), e) := by
  unfold c__law_are_columns_6
  have hlt : 20 < e.length := (List.getElem?_eq_some_iff.mp e20).1
  rw [fLc_one (T := List Int) (xs := L) (enc := tupI) (fun l => decide (i < l.length)) (fun l => .int (l.getD i 0)) (by simp [e7]) e20 jk_un (by omega) fun l hlm => ⟨?_, fun hq => ?_⟩]
  · unfold lstI rowAt; rw [List.map_map]; rfl
  · refine mT_of (d := .bool (decide (i < l.length))) (e1 := e.set 20 (.va (tupI l))) (m2_of (d := .int (i : Int)) (d2 := .int (l.length : Int)) (e1 := e.set 20 (.va (tupI l))) ?_ (m1_of (d := tupI l) ?_ (gLen_T l)) (by simp)) rfl
    · rw [fV_ap, List.getElem?_set_ne (by decide), e22]
    · rw [fV_ap, List.getElem?_set_self hlt]
  · refine m2_of (d := tupI l) (d2 := .int (i : Int)) (e1 := e.set 20 (.va (tupI l))) ?_ ?_ (gIx_Ti (by simpa using hq))
    · rw [fV_ap, List.getElem?_set_self hlt]
    · rw [fV_ap, List.getElem?_set_ne (by decide), e22]
theorem k5 {e : Pd.Env} {L : List (List Int)} (hne : L ≠ []) (e7 : e[7]? = some (.va (rowsT L))) (e22 : e[22]? = some .un) (e20 : e[20]? = some .un) (hz : L.length ≤ 1000) (hh : (L.headD []).length ≤ 1000) :
    c__law_are_columns_5 e = some (.list ((pageRows L).map tupI), e) := by
  unfold c__law_are_columns_5
  have hlt : 22 < e.length := (List.getElem?_eq_some_iff.mp e22).1
  have hg := gRng1_n (n := (L.headD []).length) (by omega)
  rw [rngD_range] at hg
  have hix := gIx_rowsT0 hne
  rw [fLc_one1 (T := Nat) (xs := List.range (L.headD []).length) (enc := fun i : Nat => PyData.int (i : Int)) (fun i => tupI (rowAt L i)) (by
      generalize L.headD [] = H at *
      simp [e7, hix, hg]) e22 jk_un (by rw [List.length_range]; omega) fun i hi => ?_]
  · unfold pageRows; rw [List.map_map]; rfl
  · have := k6 (e := e.set 22 (.va (.int (i : Int)))) (L := L) (i := i) (by rw [List.getElem?_set_ne (by decide), e7]) (by rw [List.getElem?_set_self hlt]) (by rw [List.getElem?_set_ne (by decide), e20]) hz
    exact m1_of this (gTuple_L _)
theorem k8 {e : Pd.Env} {xs : List Int} (e3 : e[3]? = some (.va (tupI xs))) (e21 : e[21]? = some .un) {s : Sl} (e18 : e[18]? = some s) (js : Jk s) (hz : xs.length ≤ 1000) :
    c__law_are_columns_8 e = some (.list ((negs xs).map pD), e) := by
  unfold c__law_are_columns_8
  have hl1 : 21 < e.length := (List.getElem?_eq_some_iff.mp e21).1
  have hl2 : 18 < e.length := (List.getElem?_eq_some_iff.mp e18).1
  rw [fLc_two1 (T := Int × Nat) (xs := xs.zipIdx) (a := fun p => .int (p.2 : Nat)) (b := fun p => .int p.1) (fun p => pD (0 - p.1, (p.2 : Int))) (by simp [e3]) e21 e18 jk_un js (by decide) (by simp; omega) fun p hp => ?_]
  · unfold negs; rw [List.map_map]; rfl
  · refine mTup_of (fCons_of (e1 := (e.set 21 (.va (.int (p.2 : Nat)))).set 18 (.va (.int p.1))) (m2_of rfl ?_ (gSub_i 0 p.1)) (fCons1 ?_)) (by simp)
    · rw [fV_ap, List.getElem?_set_self (by simpa using hl2)]
    · rw [fV_ap, List.getElem?_set_ne (by decide), List.getElem?_set_self hl1]
theorem k7 {e : Pd.Env} {xs : List Int} (e3 : e[3]? = some (.va (tupI xs))) (e21 : e[21]? = some .un) {s : Sl} (e18 : e[18]? = some s) (js : Jk s) (e23 : e[23]? = some .un) (hz : xs.length ≤ 1000) :
    c__law_are_columns_7 e = some (lstI (ordL xs), e) := by
  have h8 := k8 e3 e21 e18 js hz
  have hs := gSorted_pD (l := negs xs) (by rw [negs_len]; omega)
  have hsl := sortedN_len xs
  have ho : ordL xs = (sortedN xs).map (·.2) := rfl
  rw [show (negs xs).mergeSort pLe = sortedN xs from rfl] at hs
  rw [ho]
  generalize sortedN xs = Q at *
  generalize negs xs = N at *
  have hlt : 23 < e.length := (List.getElem?_eq_some_iff.mp e23).1
  unfold c__law_are_columns_7
  rw [fLc_one1 (T := Int × Int) (xs := Q) (enc := pD) (fun p => .int p.2) (by rw [mI_ap, m1_ap, h8]; simp only [hs, mlift_s, gSeq_l]) e23 jk_un (by omega) fun p hp => ?_]
  · unfold lstI; rw [List.map_map]; rfl
  · refine m2_of (d := pD p) (d2 := .int 1) (e1 := e.set 23 (.va (pD p))) ?_ rfl rfl
    rw [fV_ap, List.getElem?_set_self hlt]
theorem k9 {e : Pd.Env} {xs O : List Int} (e3 : e[3]? = some (.va (tupI xs))) (e10 : e[10]? = some (.va (lstI O))) (e21 : e[21]? = some .un) (hO : ∀ i ∈ O, ∃ j : Nat, j < xs.length ∧ i = (j : Int)) (hz : O.length ≤ 1000) :
    c__law_are_columns_9 e = some (lstI (O.map fun i => lenAt xs i.toNat), e) := by
  unfold c__law_are_columns_9
  have hlt : 21 < e.length := (List.getElem?_eq_some_iff.mp e21).1
  rw [fLc_one1 (T := Int) (xs := O) (enc := PyData.int) (fun i => .int (lenAt xs i.toNat)) (by simp [e10]) e21 jk_un (by omega) fun i hi => ?_]
  · unfold lstI; rw [List.map_map]; rfl
  · obtain ⟨j, hj, rfl⟩ := hO i hi
    have hix := gIx_T hj
    rw [Int.toNat_natCast]
    refine m2_of (d := tupI xs) (d2 := .int (j : Int)) (e1 := e.set 21 (.va (.int (j : Int)))) ?_ ?_ hix
    · rw [fV_ap, List.getElem?_set_ne (by decide), e3]
    · rw [fV_ap, List.getElem?_set_self hlt]
/-- the extents are the widths of the parts -/
theorem ext_wds {xs : List Int} {k : Nat} : (lots xs.length k).map (fun l => mxL (l.map fun i => lenAt xs i.toNat)) = wds xs k := by
  unfold wds lots cutL
  rw [List.map_map, List.map_map, rngI_len]
  refine List.map_congr_left fun i _ => ?_
  show mxL _ = mxL _
  congr 1
  show List.map _ (List.take k (List.drop (i * k) (rngI 0 xs.length))) = List.take k (List.drop (i * k) xs)
  rw [rng_part]
  refine List.ext_getElem ?_ fun j h1 h2 => ?_
  · rw [List.length_map, rngI_len, List.length_take, List.length_drop]; omega
  · rw [List.length_map, rngI_len] at h1
    rw [List.getElem_map, List.getElem_take, List.getElem_drop]
    have : (rngI ((i * k : Nat) : Int) (min xs.length (i * k + k) - i * k))[j]? = some (((i * k : Nat) : Int) + (j : Int)) := by rw [rngI_get, if_pos h1]
    rw [List.getElem?_eq_getElem (by rw [rngI_len]; exact h1)] at this
    rw [Option.some.inj this]
    rw [show (((i * k : Nat) : Int) + (j : Int)).toNat = i * k + j by omega]
    rw [List.length_take, List.length_drop] at h2
    unfold lenAt
    simp [List.getD, show i * k + j < xs.length by omega]
end Law

namespace Law
open PySem L2 Evl Pd
/-! ### the law's judgement of columns -/
theorem fAndV_t {fa fb : M PyData} {e e1 : Pd.Env} {r : Option (PyData × Pd.Env)} (h : fa e = some (.bool true, e1)) (h2 : fb e1 = r) : fAndV fa fb e = r := by
  unfold fAndV; rw [mbind_ap, mT_of h (gB_b true)]; exact h2
theorem fAndV_f {fa fb : M PyData} {e e1 : Pd.Env} (h : fa e = some (.bool false, e1)) : fAndV fa fb e = some (.bool false, e1) := by
  unfold fAndV; rw [mbind_ap, mT_of h (gB_b false)]; rfl
theorem fOrV_t {fa fb : M PyData} {e e1 : Pd.Env} (h : fa e = some (.bool true, e1)) : fOrV fa fb e = some (.bool true, e1) := by
  unfold fOrV; rw [mbind_ap, mT_of h (gB_b true)]; rfl
theorem fOrV_f {fa fb : M PyData} {e e1 : Pd.Env} {r : Option (PyData × Pd.Env)} (h : fa e = some (.bool false, e1)) (h2 : fb e1 = r) : fOrV fa fb e = r := by
  unfold fOrV; rw [mbind_ap, mT_of h (gB_b false)]; exact h2
theorem nice_rowsT (L : List (List Int)) : Nice (rowsT L) 2 := nice_tup fun x hx => by obtain ⟨l, _, rfl⟩ := List.mem_map.mp hx; exact nice_tupI l
theorem nodes_rowsT {L : List (List Int)} {m : Nat} (h : ∀ l ∈ L, l.length ≤ m) : nodes (rowsT L) ≤ L.length * (m + 1) + 1 := by
  have := nodesAll_le (xs := L.map tupI) (k := m + 1) fun x hx => by obtain ⟨l, hl, rfl⟩ := List.mem_map.mp hx; rw [nodes_tupI]; have := h l hl; omega
  rw [List.length_map] at this
  show nodesAll (L.map tupI) + 1 ≤ _
  omega
/-- a list of like data is alike -/
theorem alike_list {ds : List PyData} (h : ∀ d ∈ ds, Nice d 50) (hn : nodesAll ds ≤ 16000000) : pf__law_alike [.list ds, .list ds] = some (.bool true) :=
  alike_self (nice_up (nice_lst h) (by omega)) (by show nodesAll ds + 1 ≤ _; omega)
theorem not_alike {fa : M PyData} {e : Pd.Env} {d : PyData} {r : Option (Fl × Pd.Env)} (h : fa e = some (.bool true, e)) : mIte (mNot (mT gTru fa)) (fRet (mret (.bool false))) fNx e = some (.nx, e) :=
  mIte_f (mNot_of (mT_of h (show gTru (.bool true) = some true from rfl))) rfl
theorem nodes_OI (o : Option Int) : nodes (OI o) = 1 := by cases o <;> simp [OI, nodes]
theorem nice_gain (a b : Option Int) (k : Nat) : Nice (gainD a b) k := by
  cases a with | none => exact nice_none k | some i => cases b with | none => exact nice_none k | some j => exact nice_int _ k
theorem nodes_gain (a b : Option Int) : nodes (gainD a b) = 1 := by
  cases a with | none => rfl | some i => cases b <;> rfl
/-- by the falling row it is never more -/
theorem fw_best {xs : List Int} (h : Ent xs) (hx : ∀ x ∈ xs, 0 ≤ x ∧ x ≤ 1000) (wide gap : Int) {t : Int} (ht : fwV xs wide gap = some t) : ∃ b, fwV (fallL xs) wide gap = some b ∧ b ≤ t := by
  have h1 : t ∈ fwL xs wide gap := List.mem_of_mem_head? ht
  obtain ⟨h2, h3⟩ := List.mem_filter.mp h1
  have h4 := mem_rngI.mp h2
  have h3 : widthV xs t.toNat gap ≤ wide := by simpa using h3
  have h5 := width_least h.ne (k := t.toNat) (by omega) hx gap
  have h6 : t ∈ fwL (fallL xs) wide gap := List.mem_filter.mpr ⟨by rw [fallL_len]; exact h2, by simpa using Int.le_trans h5 h3⟩
  cases q : fwL (fallL xs) wide gap with
  | nil => rw [q] at h6; nomatch h6
  | cons b r =>
    refine ⟨b, by unfold fwV; rw [q]; rfl, ?_⟩
    have hs : (fwL (fallL xs) wide gap).Pairwise (· < ·) := List.Pairwise.filter _ (by
      unfold rngI
      rw [List.pairwise_map]
      exact List.pairwise_lt_range.imp fun h => by omega)
    rw [q] at hs h6
    rcases List.mem_cons.mp h6 with rfl | h7
    · exact Int.le_refl _
    · exact Int.le_of_lt ((List.pairwise_cons.mp hs).1 t h7)
theorem columns_true {bs : List PyData} (W : WB bs) : ∃ bs', pf__law_are_columns bs [] = some (.bool true, bs') ∧ WB bs' := by
  obtain ⟨r1, bs1, t1, a1, b1, W1⟩ := take_ev W (many := 60) (by decide) (by decide)
  obtain ⟨n, hn⟩ : ∃ n : Nat, 1 + r1 = (n : Int) := ⟨(1 + r1).toNat, by omega⟩
  have hn1 : 1 ≤ n := by omega
  have hn2 : n ≤ 60 := by omega
  obtain ⟨mD, bs2, t2, a2, W2⟩ := some_ev W1 (d := .list [.int 3, .int 20, .int 99]) (.inl rfl) (by simp) (by simp)
  obtain ⟨m, rfl, hm1, hm2⟩ : ∃ m : Int, mD = .int m ∧ 1 ≤ m ∧ m ≤ 99 := by
    simp only [List.mem_cons, List.not_mem_nil, or_false] at a2
    rcases a2 with rfl | rfl | rfl
    · exact ⟨3, rfl, by decide, by decide⟩
    · exact ⟨20, rfl, by decide, by decide⟩
    · exact ⟨99, rfl, by decide, by decide⟩
  have hr1 := gRng1_n (n := n) (by omega)
  rw [rngD_range] at hr1
  obtain ⟨ysD, bs3, c1, hlen, hP, W3⟩ := fLc_draw (v := 17) (ds := (List.range n).map fun i : Nat => PyData.int (i : Int)) (e := [.bg bs2, .va (.int (n : Int)), .va (.int m), .un, .un, .un, .un, .un, .un, .un, .un, .un, .un, .un, .un, .un, .un, .un, .un, .un, .un, .un, .un, .un]) (r := [.va (.int (n : Int)), .va (.int m), .un, .un, .un, .un, .un, .un, .un, .un, .un, .un, .un, .un, .un, .un, .un, .un, .un, .un, .un, .un, .un]) (fe := m2 gAdd (mret (.int 1)) (mCallB 0 pf__law_take (fCons (fV 2) fNil))) (fi := mIA gRng1 (fCons (fV 1) fNil)) (s1 := .un) WB (fun y => ∃ i : Int, y = .int i ∧ 1 ≤ i ∧ i ≤ 99) (by simp [hr1]) W2 rfl jk_un (by simp; omega) (by
    intro d hd bs W
    obtain ⟨r, bs', t, ra, rb, W'⟩ := take_ev W (many := m) hm1 (by omega)
    exact ⟨.int (1 + r), bs', m2_of rfl (mCallB_of rfl (fCons1 rfl) rfl t rfl) (gAdd_i _ _), ⟨_, rfl, by omega, by omega⟩, W'⟩)
  obtain ⟨xs, rfl, hxr⟩ := ints_of hP
  have hxl : xs.length = n := by simpa using hlen
  have E : Ent xs := ⟨fun e => by rw [e] at hxl; simp at hxl; omega, by omega⟩
  obtain ⟨gap, bs4, t4, a4, b4, W4⟩ := take_ev W3 (many := 10) (by decide) (by decide)
  obtain ⟨r5, bs5, t5, a5, b5, W5⟩ := take_ev W4 (many := 60) (by decide) (by decide)
  obtain ⟨k, hk⟩ : ∃ k : Nat, 1 + r5 = (k : Int) := ⟨(1 + r5).toNat, by omega⟩
  have hK : Kk k := ⟨by omega, by omega⟩
  obtain ⟨r6, bs6, t6, a6, b6, W6⟩ := take_ev W5 (many := 99) (by decide) (by decide)
  obtain ⟨wide, hw⟩ : ∃ w : Int, 1 + r6 = w := ⟨_, rfl⟩
  have hx1000 : ∀ x ∈ xs, 0 ≤ x ∧ x ≤ 1000 := fun x hx => by have := hxr x hx; omega
  obtain ⟨ys, bs7, t7, hperm, W7⟩ := mixed_ev (enc := PyData.int) (k := 0) (by omega) (fun i => nice_int i 0) W6 (xs := xs) (by omega) (d := lstI xs) (gList_l _)
  have hyl := hperm.length_eq
  have Ey : Ent ys := ⟨fun e => E.ne (by rw [e] at hperm; exact List.Perm.eq_nil (hperm.symm)), by have := E.len; omega⟩
  have hfall : fallL ys = fallL xs := fall_of_perm hperm
  have hy1000 : ∀ x ∈ ys, 0 ≤ x ∧ x ≤ 1000 := fun x hx => hx1000 x (hperm.mem_iff.mp hx)
  have hwl := width_least Ey.ne hK.ge hy1000 gap
  rw [hfall] at hwl
  -- the parts
  have hcnt : (lots n k).length ≤ 60 := by rw [lots_count]; have := parts_le n k hn1; omega
  have hlln : ∀ l ∈ lots n k, l.length ≤ 60 := fun l hl => Nat.le_trans (lots_len hl) hn2
  have hlne : ∀ l ∈ lots n k, l ≠ [] := part_ne (fun e => by have := congrArg List.length e; rw [rngI_len] at this; simp at this; omega) hK.ge
  have hlne0 : lots n k ≠ [] := fun e => by have := congrArg List.length e; rw [lots_count] at this; unfold partsN at this; simp at this
  have hhd : ((lots n k).headD []).length ≤ 60 := by
    cases q : lots n k with
    | nil => exact absurd q hlne0
    | cons a r => exact hlln a (by rw [q]; exact List.mem_cons_self ..)
  have hpr1 : (pageRows (lots n k)).length ≤ 60 := by unfold pageRows; rw [List.length_map, List.length_range]; exact hhd
  have hpr2 : ∀ l ∈ pageRows (lots n k), l.length ≤ 60 := fun l hl => by
    obtain ⟨i, _, rfl⟩ := List.mem_map.mp hl
    unfold rowAt
    rw [List.length_map]
    exact Nat.le_trans (List.length_filter_le _ _) hcnt
  have q2 := k2 (e := [.bg bs6, .va (.int (n : Int)), .va (.int m), .va (tupI xs), .va (.int gap), .va (.int (k : Int)), .va (.int wide), .un, .un, .un, .un, .un, .un, .un, .un, .un, .un, .un, .un, .un, .un, .un, .un, .un]) (n := n) (k := k) rfl rfl rfl hn1 (by omega) hK
  have q3 := k3 (e := [.bg bs6, .va (.int (n : Int)), .va (.int m), .va (tupI xs), .va (.int gap), .va (.int (k : Int)), .va (.int wide), .va (rowsT (lots n k)), .un, .un, .un, .un, .un, .un, .un, .un, .un, .un, .un, .un, .un, .un, .un, .un]) (xs := xs) (L := lots n k) rfl rfl rfl rfl (fun l hl => ⟨hlne l hl, by have := hlln l hl; omega, fun x hx => by have := lots_mem hl x hx; omega⟩) (by omega)
  have hew := ext_wds (xs := xs) (k := k)
  rw [hxl] at hew
  rw [hew] at q3
  have q5 := k5 (e := [.bg bs6, .va (.int (n : Int)), .va (.int m), .va (tupI xs), .va (.int gap), .va (.int (k : Int)), .va (.int wide), .va (rowsT (lots n k)), .va (tupI (wds xs k)), .un, .un, .un, .un, .un, .un, .un, .un, .un, .un, .un, .un, .un, .un, .un]) (L := lots n k) hlne0 rfl rfl rfl (by omega) (by omega)
  have q7 := k7 (e := [.bg bs6, .va (.int (n : Int)), .va (.int m), .va (tupI xs), .va (.int gap), .va (.int (k : Int)), .va (.int wide), .va (rowsT (lots n k)), .va (tupI (wds xs k)), .va (rowsT (pageRows (lots n k))), .un, .un, .un, .un, .un, .un, .un, .un, .un, .un, .un, .un, .un, .un]) (xs := xs) rfl rfl (s := .un) rfl jk_un rfl (by omega)
  have hol := ordL_len xs
  have q9 := k9 (e := [.bg bs6, .va (.int (n : Int)), .va (.int m), .va (tupI xs), .va (.int gap), .va (.int (k : Int)), .va (.int wide), .va (rowsT (lots n k)), .va (tupI (wds xs k)), .va (rowsT (pageRows (lots n k))), .va (lstI (ordL xs)), .un, .un, .un, .un, .un, .un, .un, .un, .un, .un, .un, .un, .un]) (xs := xs) (O := ordL xs) rfl rfl rfl (fun i hi => ordL_mem hi) (by omega)
  -- the program
  have f1 := pf_columns_ev E hK
  have f2 := pf_widths_ev E hK
  have f3 := pf_page_rows_ev E hK
  rw [hxl] at f1 f3
  have f4 := pf_best_order_ev E
  have f5 := pf_width_ev E hK gap
  have f6 : pf__law_wide [tupI xs, .int (k : Int), .int gap] = _ := pf__law_wide_ev E hK gap true
  have Ef := fall_ent E
  have f7 : pf__law_wide [lstI (fallL xs), .int (k : Int), .int gap] = _ := pf__law_wide_ev Ef hK gap false
  have f8 := pf_least_width_ev E hK gap
  have f9 := pf_least_width_ev Ey hK gap
  rw [hfall] at f9
  have f10 := pf_width_ev Ey hK gap
  have f11 : pf__law_first_within [tupI xs, .int wide, .int gap] = _ := pf__law_first_within_ev E wide gap true
  have f12 : pf__law_first_within [lstI (fallL xs), .int wide, .int gap] = _ := pf__law_first_within_ev Ef wide gap false
  have f13 := pf_fewest_lines_ev E wide gap
  have f14 := pf_fewest_by_order_ev E wide gap
  have f15 := pf_gain_of_order_ev E wide gap
  -- alike
  have al1 := alike_list (ds := [rowsT (lots n k), tupI (wds xs k), rowsT (pageRows (lots n k))]) (fun d hd => by
      simp only [List.mem_cons, List.not_mem_nil, or_false] at hd
      rcases hd with rfl | rfl | rfl
      · exact nice_up (nice_rowsT _) (by omega)
      · exact nice_up (nice_tupI _) (by omega)
      · exact nice_up (nice_rowsT _) (by omega)) (by
      have n1 := nodes_rowsT hlln
      have n2 := nodes_rowsT hpr2
      have n3 := nodes_tupI (wds xs k)
      have n4 : (wds xs k).length ≤ 60 := by rw [wds_len, hxl]; have := parts_le n k hn1; omega
      have n5 : (lots n k).length * (60 + 1) ≤ 60 * 61 := Nat.mul_le_mul hcnt (by omega)
      have n6 : (pageRows (lots n k)).length * (60 + 1) ≤ 60 * 61 := Nat.mul_le_mul hpr1 (by omega)
      simp only [nodesAll]
      omega)
  have al2 := alike_list (ds := [tupI (ordL xs), .int (widthV xs k gap)]) (fun d hd => by
      simp only [List.mem_cons, List.not_mem_nil, or_false] at hd
      rcases hd with rfl | rfl
      · exact nice_up (nice_tupI _) (by omega)
      · exact nice_int _ _) (by
      have n3 := nodes_tupI (ordL xs)
      simp only [nodesAll, nodes]
      omega)
  have al3 := alike_list (ds := [.int (widthV (fallL xs) k gap), .int (widthV (fallL xs) k gap)]) (fun d hd => by
      simp only [List.mem_cons, List.not_mem_nil, or_false] at hd
      rcases hd with rfl | rfl <;> exact nice_int _ _) (by simp only [nodesAll, nodes]; omega)
  have al4 := alike_list (ds := [OI (fwV xs wide gap), OI (fwV (fallL xs) wide gap), gainD (fwV xs wide gap) (fwV (fallL xs) wide gap)]) (fun d hd => by
      simp only [List.mem_cons, List.not_mem_nil, or_false] at hd
      rcases hd with rfl | rfl | rfl
      · exact nice_up (nice_OI _) (by omega)
      · exact nice_up (nice_OI _) (by omega)
      · exact nice_gain _ _ _) (by simp only [nodesAll, nodes_OI, nodes_gain]; omega)
  have hfb := fun t => fw_best E hx1000 wide gap (t := t)
  refine ⟨bs7, pfB_rt (r := ([.bg bs7, .va (.int (n : Int)), .va (.int m), .va (tupI xs), .va (.int gap), .va (.int (k : Int)), .va (.int wide), .va (rowsT (lots n k)), .va (tupI (wds xs k)), .va (rowsT (pageRows (lots n k))), .va (lstI (ordL xs)), .va (lstI (fallL xs)), .va (.int (widthV (fallL xs) k gap)), .va (tupI ys), .va (OI (fwV xs wide gap)), .va (OI (fwV (fallL xs) wide gap)), .va (.list [OI (fwV xs wide gap), OI (fwV (fallL xs) wide gap), gainD (fwV xs wide gap) (fwV (fallL xs) wide gap)]), .va (.list [OI (fwV xs wide gap), OI (fwV (fallL xs) wide gap), gainD (fwV xs wide gap) (fwV (fallL xs) wide gap)]), .un, .un, .un, .un, .un, .un] : Pd.Env).tail) rfl ?_, W7⟩
  show m__law_are_columns [.bg bs, .un, .un, .un, .un, .un, .un, .un, .un, .un, .un, .un, .un, .un, .un, .un, .un, .un, .un, .un, .un, .un, .un, .un] = _
  rw [mm__law_are_columns]
  refine fSeq_nx (e1 := [.bg bs1, .va (.int (n : Int)), .un, .un, .un, .un, .un, .un, .un, .un, .un, .un, .un, .un, .un, .un, .un, .un, .un, .un, .un, .un, .un, .un]) (fSet_of (m2_of rfl (mCallB_of rfl (fCons1 rfl) rfl t1 rfl) (by rw [gAdd_i, hn])) rfl) ?_
  refine fSeq_nx (e1 := [.bg bs2, .va (.int (n : Int)), .va (.int m), .un, .un, .un, .un, .un, .un, .un, .un, .un, .un, .un, .un, .un, .un, .un, .un, .un, .un, .un, .un, .un]) (fSet_of (mCallB_of rfl (fCons1 (mLst_of rfl (by simp))) rfl t2 rfl) rfl) ?_
  refine fSeq_nx (e1 := [.bg bs4, .va (.int (n : Int)), .va (.int m), .va (tupI xs), .va (.int gap), .un, .un, .un, .un, .un, .un, .un, .un, .un, .un, .un, .un, .un, .un, .un, .un, .un, .un, .un]) (fAsg_of (mTup_of (fCons_of (m1_of c1 (gTuple_L xs)) (fCons1 (mCallB_of rfl (fCons1 rfl) rfl t4 rfl))) (by simp)) rfl) ?_
  refine fSeq_nx (e1 := [.bg bs6, .va (.int (n : Int)), .va (.int m), .va (tupI xs), .va (.int gap), .va (.int (k : Int)), .va (.int wide), .un, .un, .un, .un, .un, .un, .un, .un, .un, .un, .un, .un, .un, .un, .un, .un, .un]) (fAsg_of (mTup_of (fCons_of (m2_of rfl (mCallB_of rfl (fCons1 rfl) rfl t5 rfl) (by rw [gAdd_i, hk])) (fCons1 (m2_of rfl (mCallB_of rfl (fCons1 rfl) rfl t6 rfl) (by rw [gAdd_i, hw])))) (by simp)) rfl) ?_
  refine fSeq_nx (e1 := [.bg bs6, .va (.int (n : Int)), .va (.int m), .va (tupI xs), .va (.int gap), .va (.int (k : Int)), .va (.int wide), .va (rowsT (lots n k)), .un, .un, .un, .un, .un, .un, .un, .un, .un, .un, .un, .un, .un, .un, .un, .un]) (fSet_of (m1_of q2 (gTuple_l _)) rfl) ?_
  refine fSeq_nx (e1 := [.bg bs6, .va (.int (n : Int)), .va (.int m), .va (tupI xs), .va (.int gap), .va (.int (k : Int)), .va (.int wide), .va (rowsT (lots n k)), .va (tupI (wds xs k)), .un, .un, .un, .un, .un, .un, .un, .un, .un, .un, .un, .un, .un, .un, .un]) (fSet_of (m1_of q3 (gTuple_L _)) rfl) ?_
  refine fSeq_nx (e1 := [.bg bs6, .va (.int (n : Int)), .va (.int m), .va (tupI xs), .va (.int gap), .va (.int (k : Int)), .va (.int wide), .va (rowsT (lots n k)), .va (tupI (wds xs k)), .va (rowsT (pageRows (lots n k))), .un, .un, .un, .un, .un, .un, .un, .un, .un, .un, .un, .un, .un, .un]) (fSet_of (m1_of q5 (gTuple_l _)) rfl) ?_
  refine fSeq_nx (e1 := [.bg bs6, .va (.int (n : Int)), .va (.int m), .va (tupI xs), .va (.int gap), .va (.int (k : Int)), .va (.int wide), .va (rowsT (lots n k)), .va (tupI (wds xs k)), .va (rowsT (pageRows (lots n k))), .un, .un, .un, .un, .un, .un, .un, .un, .un, .un, .un, .un, .un, .un]) (not_alike (d := .none) (r := none) (mA_of (fCons_of (mLst_of (fCons_of (mA_of rfl f1) (fCons_of (mA_of rfl f2) (fCons1 (mA_of rfl f3)))) (by simp)) (fCons1 (mLst_of rfl (by simp)))) al1)) ?_
  refine fSeq_nx (e1 := [.bg bs6, .va (.int (n : Int)), .va (.int m), .va (tupI xs), .va (.int gap), .va (.int (k : Int)), .va (.int wide), .va (rowsT (lots n k)), .va (tupI (wds xs k)), .va (rowsT (pageRows (lots n k))), .va (lstI (ordL xs)), .un, .un, .un, .un, .un, .un, .un, .un, .un, .un, .un, .un, .un]) (fSet_of q7 rfl) ?_
  refine fSeq_nx (e1 := [.bg bs6, .va (.int (n : Int)), .va (.int m), .va (tupI xs), .va (.int gap), .va (.int (k : Int)), .va (.int wide), .va (rowsT (lots n k)), .va (tupI (wds xs k)), .va (rowsT (pageRows (lots n k))), .va (lstI (ordL xs)), .va (lstI (fallL xs)), .un, .un, .un, .un, .un, .un, .un, .un, .un, .un, .un, .un]) (fSet_of q9 rfl) ?_
  refine fSeq_nx (e1 := [.bg bs6, .va (.int (n : Int)), .va (.int m), .va (tupI xs), .va (.int gap), .va (.int (k : Int)), .va (.int wide), .va (rowsT (lots n k)), .va (tupI (wds xs k)), .va (rowsT (pageRows (lots n k))), .va (lstI (ordL xs)), .va (lstI (fallL xs)), .un, .un, .un, .un, .un, .un, .un, .un, .un, .un, .un, .un]) (not_alike (d := .none) (r := none) (mA_of (fCons_of (mLst_of (fCons_of (mA_of rfl f4) (fCons1 (mA_of rfl f5))) (by simp)) (fCons1 (mLst_of (fCons_of (m1_of rfl (gTuple_L _)) (fCons1 (mA_of rfl f6))) (by simp)))) al2)) ?_
  refine fSeq_nx (e1 := [.bg bs7, .va (.int (n : Int)), .va (.int m), .va (tupI xs), .va (.int gap), .va (.int (k : Int)), .va (.int wide), .va (rowsT (lots n k)), .va (tupI (wds xs k)), .va (rowsT (pageRows (lots n k))), .va (lstI (ordL xs)), .va (lstI (fallL xs)), .va (.int (widthV (fallL xs) k gap)), .va (tupI ys), .un, .un, .un, .un, .un, .un, .un, .un, .un, .un]) (fPar_of (mA_of rfl f7) (m1_of (mCallB_of rfl (fCons1 (m1_of rfl (gList_T xs))) rfl t7 rfl) (gTuple_L ys)) (slV_f _) (slV_f _) rfl rfl) ?_
  refine fSeq_nx (e1 := [.bg bs7, .va (.int (n : Int)), .va (.int m), .va (tupI xs), .va (.int gap), .va (.int (k : Int)), .va (.int wide), .va (rowsT (lots n k)), .va (tupI (wds xs k)), .va (rowsT (pageRows (lots n k))), .va (lstI (ordL xs)), .va (lstI (fallL xs)), .va (.int (widthV (fallL xs) k gap)), .va (tupI ys), .un, .un, .un, .un, .un, .un, .un, .un, .un, .un]) (not_alike (d := .none) (r := none) (mA_of (fCons_of (mLst_of (fCons_of (mA_of rfl f8) (fCons1 (mA_of rfl f9))) (by simp)) (fCons1 (mLst_of rfl (by simp)))) al3)) ?_
  refine fSeq_nx (e1 := [.bg bs7, .va (.int (n : Int)), .va (.int m), .va (tupI xs), .va (.int gap), .va (.int (k : Int)), .va (.int wide), .va (rowsT (lots n k)), .va (tupI (wds xs k)), .va (rowsT (pageRows (lots n k))), .va (lstI (ordL xs)), .va (lstI (fallL xs)), .va (.int (widthV (fallL xs) k gap)), .va (tupI ys), .un, .un, .un, .un, .un, .un, .un, .un, .un, .un]) (mIte_f (mT_of (m2_of (mA_of rfl f10) rfl (gLt_i _ _)) (by rw [decide_eq_false (by omega)]; rfl)) rfl) ?_
  refine fSeq_nx (e1 := [.bg bs7, .va (.int (n : Int)), .va (.int m), .va (tupI xs), .va (.int gap), .va (.int (k : Int)), .va (.int wide), .va (rowsT (lots n k)), .va (tupI (wds xs k)), .va (rowsT (pageRows (lots n k))), .va (lstI (ordL xs)), .va (lstI (fallL xs)), .va (.int (widthV (fallL xs) k gap)), .va (tupI ys), .va (OI (fwV xs wide gap)), .va (OI (fwV (fallL xs) wide gap)), .un, .un, .un, .un, .un, .un, .un, .un]) (fPar_of (mA_of rfl f11) (mA_of rfl f12) (slV_f _) (slV_f _) rfl rfl) ?_
  generalize fwV xs wide gap = A at *
  generalize fwV (fallL xs) wide gap = Bb at *
  refine fSeq_nx (e1 := [.bg bs7, .va (.int (n : Int)), .va (.int m), .va (tupI xs), .va (.int gap), .va (.int (k : Int)), .va (.int wide), .va (rowsT (lots n k)), .va (tupI (wds xs k)), .va (rowsT (pageRows (lots n k))), .va (lstI (ordL xs)), .va (lstI (fallL xs)), .va (.int (widthV (fallL xs) k gap)), .va (tupI ys), .va (OI (A)), .va (OI (Bb)), .va (.list [OI (A), OI (Bb), gainD (A) (Bb)]), .un, .un, .un, .un, .un, .un, .un]) ?_ ?_
  · cases A <;> cases Bb <;> simp [OI, gainD]
  refine fSeq_nx (e1 := [.bg bs7, .va (.int (n : Int)), .va (.int m), .va (tupI xs), .va (.int gap), .va (.int (k : Int)), .va (.int wide), .va (rowsT (lots n k)), .va (tupI (wds xs k)), .va (rowsT (pageRows (lots n k))), .va (lstI (ordL xs)), .va (lstI (fallL xs)), .va (.int (widthV (fallL xs) k gap)), .va (tupI ys), .va (OI (A)), .va (OI (Bb)), .va (.list [OI (A), OI (Bb), gainD (A) (Bb)]), .va (.list [OI (A), OI (Bb), gainD (A) (Bb)]), .un, .un, .un, .un, .un, .un]) (fSet_of (mLst_of (fCons_of (mA_of rfl f13) (fCons_of (mA_of rfl f14) (fCons1 (mA_of rfl f15)))) (by simp)) rfl) ?_
  refine fRet_of (fAndV_t (mA_of rfl al4) ?_)
  cases A with
  | none => exact fOrV_t (m2_of rfl rfl rfl)
  | some t =>
    obtain ⟨b, rfl, hbt⟩ := hfb t rfl
    refine fOrV_f (m2_of rfl rfl rfl) (fAndV_t (m2_of rfl rfl rfl) (m2_of rfl rfl ?_))
    show gCmp fLe (.int b) (.int t) = _
    rw [gLe_i, decide_eq_true hbt]
end Law

/-! ### each form, from what its parts come to (the kernel never looks into a g) -/
namespace Pd
open PySem L2 Evl
variable {T : Type}
theorem fV_of {i : Nat} {e : Env} {d : PyData} (h : e[i]? = some (.va d)) : fV i e = some (d, e) := by rw [fV_ap, h]
theorem fR_of {i : Nat} {e : Env} {ds : List PyData} (h : e[i]? = some (.ow ds)) : fR i e = some (.list ds, e) := by rw [fR_ap, h]
theorem mI_of {g : PyData → Option (List PyData)} {fa : M PyData} {e e1 : Env} {d : PyData} {ds : List PyData} (h : fa e = some (d, e1)) (h2 : g d = some ds) : mI g fa e = some (ds, e1) := by rw [mI_ap, h]; dsimp only; rw [h2]; rfl
theorem mIA_of {g : List PyData → Option (List PyData)} {fr : M (List PyData)} {e e1 : Env} {xs : List PyData} {ds : List PyData} (h : fr e = some (xs, e1)) (h2 : g xs = some ds) : mIA g fr e = some (ds, e1) := by rw [mIA_ap, h]; dsimp only; rw [h2]; rfl
theorem fFor_of {fi : M (List PyData)} {g : PyData → Env → Option Env} {fb : M Fl} {e e1 : Env} {ds : List PyData} {r : Option (Fl × Env)} (h : fi e = some (ds, e1)) (h2 : forL g fb ds e1 = r) : fFor fi g fb e = r := by rw [fFor_ap, h]; exact h2
theorem fSetL_of {i : Nat} {fa : M PyData} {e e1 e2 : Env} {ds : List PyData} (h : fa e = some (.list ds, e1)) (h2 : setE e1 i (.ow ds) = some e2) : fSetL i fa e = some (.nx, e2) := by rw [fSetL_ap, h]; dsimp only; rw [h2]
theorem mPart_of {fa : M PyData} {e e1 : Env} {i : Int} (h : fa e = some (.int i, e1)) : mPart fa e = some (some i, e1) := by rw [mPart_ap, h]; rfl
theorem mSl_of {g : PyData → Option Int → Option Int → Option PyData} {fa : M PyData} {fl fh : M (Option Int)} {e e1 e2 e3 : Env} {x y : PyData} {l h : Option Int} (h1 : fa e = some (x, e1)) (h2 : fl e1 = some (l, e2)) (h3 : fh e2 = some (h, e3)) (h4 : g x l h = some y) : mSl g fa fl fh e = some (y, e3) := by
  rw [mSl_ap, h1]; dsimp only; rw [h2]; dsimp only; rw [h3]; dsimp only; rw [h4]; rfl
theorem m2o_of {i : Nat} {g : PyData → PyData → Option PyData} {fb : M PyData} {e e1 : Env} {b0 bs : List PyData} {y x : PyData} (h0 : owOf e i = some b0) (h1 : fb e = some (y, e1)) (h2 : owOf e1 i = some bs) (h3 : g (.list bs) y = some x) : m2o i g fb e = some (x, e1) := by
  unfold m2o; rw [h0]; dsimp only; rw [h1]; dsimp only; rw [h2]; dsimp only; rw [h3]; rfl
theorem fSetIt_of {i : Nat} {fi fe : M PyData} {e e0 e1 e2 : Env} {x y : PyData} {b0 bs bs' : List PyData} (h1 : fe e = some (x, e0)) (h2 : owOf e0 i = some b0) (h3 : fi e0 = some (y, e1)) (h4 : owOf e1 i = some bs) (h5 : setAt bs y x = some bs') (h6 : putOw e1 i bs' = e2) : fSetIt i fi fe e = some (.nx, e2) := by
  rw [fSetIt_ap, h1]; dsimp only; rw [h2]; dsimp only; rw [h3]; dsimp only; rw [h4]; dsimp only; rw [h5]; dsimp only; rw [h6]
theorem fAug_of {i : Nat} {f : Int → Int → Int} {fe : M PyData} {e e1 e2 : Env} {a b : Int} (h0 : e[i]? = some (.va (.int a))) (h1 : fe e = some (.int b, e1)) (h2 : setE e1 i (.va (.int (f a b))) = some e2) : fAug i f fe e = some (.nx, e2) := by
  rw [fAug_ap, h0]; dsimp only; rw [h1]; dsimp only; rw [gIp_i]; dsimp only; rw [h2]
theorem mAnd_t {f g : M Bool} {e e1 : Env} {r : Option (Bool × Env)} (h : f e = some (true, e1)) (h2 : g e1 = r) : mAnd f g e = r := by rw [mAnd_ap, h]; exact h2
theorem mAnd_f {f g : M Bool} {e e1 : Env} (h : f e = some (false, e1)) : mAnd f g e = some (false, e1) := by rw [mAnd_ap, h]; rfl
theorem mOr_t {f g : M Bool} {e e1 : Env} (h : f e = some (true, e1)) : mOr f g e = some (true, e1) := by rw [mOr_ap, h]; rfl
theorem mOr_f {f g : M Bool} {e e1 : Env} {r : Option (Bool × Env)} (h : f e = some (false, e1)) (h2 : g e1 = r) : mOr f g e = r := by rw [mOr_ap, h]; exact h2
theorem fRetF_of {fa : M PyData} {e e1 : Env} {ds : List PyData} (h : fa e = some (.list ds, e1)) : fRetF fa e = some (.rf ds, e1) := by rw [fRetF_ap, h]
theorem mVal_of {f : M Bool} {e e1 : Env} {b : Bool} (h : f e = some (b, e1)) : mVal f e = some (.bool b, e1) := by rw [mVal_ap, h]
theorem mLstRg_of {fr : M (Int × Int)} {e e1 : Env} {a b : Int} (h : fr e = some ((a, b), e1)) (h2 : rgOk a b = true) : mLstRg fr e = some (.list (rgD a b), e1) := by
  unfold mLstRg mbind; rw [h]; dsimp only; rw [h2]; rfl
theorem mTupRg_of {fr : M (Int × Int)} {e e1 : Env} {a b : Int} (h : fr e = some ((a, b), e1)) (h2 : rgOk a b = true) : mTupRg fr e = some (.tuple (rgD a b), e1) := by
  unfold mTupRg mbind; rw [h]; dsimp only; rw [h2]; rfl
theorem mRg1_of {fa : M PyData} {e e1 : Env} {b : Int} (h : fa e = some (.int b, e1)) : mRg1 fa e = some ((0, b), e1) := by rw [mRg1_ap, h]; rfl
theorem mRg2_of {fa fb : M PyData} {e e1 e2 : Env} {a b : Int} (h : fa e = some (.int a, e1)) (h2 : fb e1 = some (.int b, e2)) : mRg2 fa fb e = some ((a, b), e2) := by rw [mRg2_ap, h]; dsimp only; rw [h2]; rfl
theorem fStar_of {fa : M PyData} {fr : M (List PyData)} {e e1 e2 : Env} {x : PyData} {xs ys : List PyData} (h : fa e = some (x, e1)) (h1 : gSeq x = some xs) (h2 : fr e1 = some (ys, e2)) : fStar fa fr e = some (xs ++ ys, e2) := by
  rw [fStar_ap, h]; dsimp only; rw [h1]; dsimp only [mlift_s]; rw [h2]
theorem mIsi_of {t : Ty6} {fa : M PyData} {e e1 : Env} {d : PyData} {r : Option (PyData × Env)} (h : fa e = some (d, e1)) (h2 : mIsi t (mret d) e1 = r) : mIsi t fa e = r := by rw [← h2, mIsi_ap, mIsi_ap, h]; rfl
theorem pfL_rf {n np : Nat} {m : M Fl} {ds xs : List PyData} {e : Env} (hl : ds.length = np) (h : m (env0 n ds) = some (.rf xs, e)) : pfL n np m ds = some (.list xs) := by
  unfold pfL; rw [if_pos hl, h]
theorem pfP_nx {n np : Nat} {m : M Fl} {ds : List PyData} {e : Env} (hl : ds.length = np) (h : m (env0 n ds) = some (.nx, e)) : pfP n np m ds = some .none := by
  unfold pfP; rw [if_pos hl, h]
end Pd

namespace Law
open PySem L2 Evl Pd
/-! ### a drawn sheet -/
theorem setE_any {e : Pd.Env} {v : Nat} {s t : Sl} (h : e[v]? = some s) (j : ∀ b, s ≠ .bg b) : setE e v t = some (e.set v t) := by
  rw [setE_ap, h]
  cases s with
  | bg b => exact absurd rfl (j b)
  | _ => rfl
def Txt (t : List Int) : Prop := t.length ≤ 6 ∧ ∀ x ∈ t, 1 ≤ x ∧ x ≤ 12
/-- drawing many, the bag anywhere -/
theorem fLc_drawE {v : Nat} {fi : M (List PyData)} {fe : M PyData} {e : Pd.Env} {ds : List PyData} {bs : List PyData} {s1 : Sl} (E : List PyData → Pd.Env) (B : List PyData → Prop) (P : PyData → Prop) (hi : fi e = some (ds, E bs)) (hB : B bs) (hv : ∀ bs, (E bs)[v]? = some s1) (j1 : Jk s1) (hz : ds.length ≤ 16777216)
    (h : ∀ d ∈ ds, ∀ bs, B bs → ∃ y bs', fe ((E bs).set v (.va d)) = some (y, (E bs').set v (.va d)) ∧ P y ∧ B bs') : ∃ ys bs', fLc [v] fi (tgName v) fYes fe e = some (.list ys, E bs') ∧ ys.length = ds.length ∧ (∀ y ∈ ys, P y) ∧ B bs' := by
  have hlt : ∀ bs, v < (E bs).length := fun bs => (List.getElem?_eq_some_iff.mp (hv bs)).1
  obtain ⟨ys, e', h1, h2, h3, bs', s, h4, rfl⟩ := lcL_rel (vs := [v]) (fg := tgName v) (fe := fe) (fun e => ∃ bs s, B bs ∧ e = (E bs).set v s) (fun _ y => P y) ds (E bs) ⟨bs, s1, hB, by rw [set_same (hv bs)]⟩ (by
    rintro d e hd ⟨bs, s, hb, rfl⟩
    obtain ⟨y, bs', e1, e2, e3⟩ := h d hd bs hb
    refine ⟨(E bs).set v (.va d), y, _, ?_, e1, e2, ⟨bs', _, e3, rfl⟩⟩
    rw [wipeE_cons, wipeE_nil, List.set_set, tgName_ap, setE_jk (s := .un) (by rw [List.getElem?_set_self (hlt bs)]) jk_un, List.set_set])
  refine ⟨ys, bs', ?_, h2, fun y hy => (h3 y hy).elim fun _ q => q.2, h4⟩
  rw [fLc_ap, hi]
  dsimp only
  rw [h1]
  dsimp only
  rw [if_pos (by omega), restE_jk (s := s1) (hv bs) j1, restE_nil, List.set_set, set_same (hv bs')]
/-- a loop that counts -/
theorem forL_cnt {g : PyData → Pd.Env → Option Pd.Env} {fb : M Fl} (R : Nat → Pd.Env → Prop) : ∀ (ds : List PyData) (n : Nat) (e : Pd.Env), R n e →
    (∀ k d e, n ≤ k → k < n + ds.length → d ∈ ds → R k e → ∃ e1 e2, g d e = some e1 ∧ fb e1 = some (.nx, e2) ∧ R (k + 1) e2) → ∃ e', forL g fb ds e = some (.nx, e') ∧ R (n + ds.length) e'
  | [], n, e, hr, _ => ⟨e, rfl, hr⟩
  | x :: xs, n, e, hr, h => by
    obtain ⟨e1, e2, h1, h2, h3⟩ := h n x e (Nat.le_refl _) (by simp) (List.mem_cons_self ..) hr
    obtain ⟨e', h4, h5⟩ := forL_cnt R xs (n + 1) e2 h3 fun k y e hk hk2 hy => h k y e (by omega) (by simp; omega) (List.mem_cons_of_mem _ hy)
    refine ⟨e', ?_, by rw [List.length_cons, Nat.add_comm xs.length 1, ← Nat.add_assoc]; exact h5⟩
    unfold forL
    rw [h1]; dsimp only; rw [h2]; exact h4
theorem one_of {xs : List Int} {y : PyData} (h : y ∈ xs.map PyData.int) : ∃ i ∈ xs, y = .int i := by
  obtain ⟨i, hi, rfl⟩ := List.mem_map.mp h; exact ⟨i, hi, rfl⟩
theorem text_draw {bs : List PyData} (W : WB bs) {m : Int} (hm1 : 1 ≤ m) (hm2 : m ≤ 12) (x1 x3 x4 x5 x6 : Sl) : ∃ t bs', c__law_sheet_3 [.bg bs, x1, .va (.int m), x3, x4, x5, x6, .un] = some (lstI t, [.bg bs', x1, .va (.int m), x3, x4, x5, x6, .un]) ∧ Txt t ∧ WB bs' := by
  obtain ⟨y, bs1, t1, hy, W1⟩ := some_ev W (d := lstI [0, 1, 2, 3, 6]) (.inl rfl) (by simp) (by simp)
  obtain ⟨i, hi, rfl⟩ := one_of hy
  have hi' : 0 ≤ i ∧ i ≤ 6 := by
    simp only [List.mem_cons, List.not_mem_nil, or_false] at hi
    omega
  obtain ⟨n, rfl⟩ : ∃ n : Nat, i = (n : Int) := ⟨i.toNat, by omega⟩
  have hg := gRng1_n (n := n) (by omega)
  rw [rngD_range] at hg
  obtain ⟨ys, bs2, c, hl, hP, W2⟩ := fLc_drawE (v := 7) (ds := (List.range n).map fun i : Nat => PyData.int (i : Int)) (bs := bs1) (s1 := .un) (e := [.bg bs, x1, .va (.int m), x3, x4, x5, x6, .un])
    (fi := (mIA gRng1 (fCons (mCallB 0 pf__law_some (fCons (mLst (fCons (mret (.int 0)) (fCons (mret (.int 1)) (fCons (mret (.int 2)) (fCons (mret (.int 3)) (fCons (mret (.int 6)) fNil)))))) fNil)) fNil)))
    (fe := (m2 gAdd (mret (.int 1)) (mCallB 0 pf__law_take (fCons (fV 2) fNil)))) (fun bs => [.bg bs, x1, .va (.int m), x3, x4, x5, x6, .un]) WB (fun y => ∃ i : Int, y = .int i ∧ 1 ≤ i ∧ i ≤ 12) (by
      exact mIA_of (fCons1 (mCallB_of rfl (fCons1 (mLst_of rfl (by simp))) rfl t1 rfl)) hg) W1 (fun _ => rfl) jk_un (by simp; omega) (by
      intro d hd bs W
      obtain ⟨r, bs', t, ra, rb, W'⟩ := take_ev W (many := m) hm1 (by omega)
      exact ⟨.int (1 + r), bs', m2_of rfl (mCallB_of rfl (fCons1 rfl) rfl t rfl) (gAdd_i _ _), ⟨_, rfl, by omega, by omega⟩, W'⟩)
  obtain ⟨t, rfl, ht⟩ := ints_of hP
  refine ⟨t, bs2, c, ⟨?_, ht⟩, W2⟩
  have : t.length = n := by simpa using hl
  omega
theorem row_draw {bs : List PyData} (W : WB bs) {m : Int} (hm1 : 1 ≤ m) (hm2 : m ≤ 12) {a : Nat} (ha : a ≤ 3) (x3 x4 s6 : Sl) (j6 : Jk s6) : ∃ (row : List (List Int)) (bs' : List PyData) (s6' : Sl), c__law_sheet_2 [.bg bs, .va (.int (a : Int)), .va (.int m), x3, x4, .ow [], s6, .un] = some (.nx, [.bg bs', .va (.int (a : Int)), .va (.int m), x3, x4, .ow (row.map tupI), s6', .un]) ∧ Jk s6' ∧ row.length = a ∧ (∀ t ∈ row, Txt t) ∧ WB bs' := by
  have hg := gRng1_n (n := a) (by omega)
  rw [rngD_range] at hg
  obtain ⟨e', h1, bs', row, s6', j6', W', hl, hp, rfl⟩ := forL_cnt (g := tgName 6) (fb := b__law_sheet_2) (fun n e => ∃ (bs : List PyData) (row : List (List Int)) (s6 : Sl), Jk s6 ∧ WB bs ∧ row.length = n ∧ (∀ t ∈ row, Txt t) ∧ e = [.bg bs, .va (.int (a : Int)), .va (.int m), x3, x4, .ow (row.map tupI), s6, .un])
    ((List.range a).map fun i : Nat => PyData.int (i : Int)) 0 [.bg bs, .va (.int (a : Int)), .va (.int m), x3, x4, .ow [], s6, .un] ⟨bs, [], s6, j6, W, rfl, (fun t ht => nomatch ht), rfl⟩ (by
    rintro n d e h0 hn hd ⟨bs, row, s6, j6, W, hl, hp, rfl⟩
    obtain ⟨t, bs', c, ht, W'⟩ := text_draw W hm1 hm2 (.va (.int (a : Int))) x3 x4 (.ow (row.map tupI)) (.va d)
    rw [List.length_map, List.length_range] at hn
    have happ : gAppend (row.map tupI) [tupI t] = some (.none, (row ++ [t]).map tupI) := by
      rw [gAppend_1 (by rw [List.length_map]; omega)]; simp
    refine ⟨_, _, setE_jk (v := 6) (s := s6) rfl j6, fDrop_of (mCallB_of (e2 := [.bg bs', .va (.int (a : Int)), .va (.int m), x3, x4, .ow ((row ++ [t]).map tupI), .va d, .un]) rfl (fCons1 (m1_of c (gTuple_L t))) rfl happ rfl), ⟨bs', row ++ [t], .va d, jk_va _, W', by simp [hl], fun q hq => ?_, rfl⟩⟩
    rcases List.mem_append.mp hq with h | h
    · exact hp q h
    · rw [List.mem_singleton.mp h]; exact ht)
  refine ⟨row, bs', s6', ?_, j6', by simpa using hl, hp, W'⟩
  unfold c__law_sheet_2
  exact fFor_of (mIA_of (fCons1 rfl) hg) h1
theorem rows_draw {bs : List PyData} (W : WB bs) {m : Int} (hm1 : 1 ≤ m) (hm2 : m ≤ 12) {a : Nat} (ha : a ≤ 3) : ∃ (sh : List (List (List Int))) (bs' : List PyData) (s4 s5 s6 : Sl), c__law_sheet_1 [.bg bs, .va (.int (a : Int)), .va (.int m), .ow [], .un, .un, .un, .un] = some (.nx, [.bg bs', .va (.int (a : Int)), .va (.int m), .ow (sh.map rowT), s4, s5, s6, .un]) ∧ 1 ≤ sh.length ∧ sh.length ≤ 20 ∧ (∀ row ∈ sh, row.length = a ∧ ∀ t ∈ row, Txt t) ∧ WB bs' := by
  obtain ⟨r, bs1, t1, ra, rb, W1⟩ := take_ev W (many := 20) (by decide) (by decide)
  obtain ⟨n, hn⟩ : ∃ n : Nat, 1 + r = (n : Int) := ⟨(1 + r).toNat, by omega⟩
  have hg := gRng1_n (n := n) (by omega)
  rw [rngD_range] at hg
  obtain ⟨e', h1, bs', sh, s4, s5, s6, j4, j5, j6, W', hl, hp, rfl⟩ := forL_cnt (g := tgName 4) (fb := b__law_sheet_1) (fun n e => ∃ (bs : List PyData) (sh : List (List (List Int))) (s4 s5 s6 : Sl), Jk s4 ∧ (∀ b, s5 ≠ .bg b) ∧ Jk s6 ∧ WB bs ∧ sh.length = n ∧ (∀ row ∈ sh, row.length = a ∧ ∀ t ∈ row, Txt t) ∧ e = [.bg bs, .va (.int (a : Int)), .va (.int m), .ow (sh.map rowT), s4, s5, s6, .un])
    ((List.range n).map fun i : Nat => PyData.int (i : Int)) 0 [.bg bs1, .va (.int (a : Int)), .va (.int m), .ow [], .un, .un, .un, .un] ⟨bs1, [], .un, .un, .un, jk_un, (fun b h => by cases h), jk_un, W1, rfl, (fun t ht => nomatch ht), rfl⟩ (by
    rintro k d e h0 hk hd ⟨bs, sh, s4, s5, s6, j4, j5, j6, W, hl, hp, rfl⟩
    obtain ⟨row, bs2, s6', c, j6', hrl, hrt, W2⟩ := row_draw W hm1 hm2 ha (.ow (sh.map rowT)) (.va d) s6 j6
    rw [List.length_map, List.length_range] at hk
    have happ : gAppend (sh.map rowT) [rowT row] = some (.none, (sh ++ [row]).map rowT) := by
      rw [gAppend_1 (by rw [List.length_map]; omega)]; simp
    refine ⟨_, [.bg bs2, .va (.int (a : Int)), .va (.int m), .ow ((sh ++ [row]).map rowT), .va d, .ow (row.map tupI), s6', .un], setE_jk (v := 4) (s := s4) rfl j4, ?_, ⟨bs2, sh ++ [row], _, _, _, jk_va _, (fun b h => by cases h), j6', W2, by simp [hl], fun q hq => ?_, rfl⟩⟩
    · unfold b__law_sheet_1
      refine fSeq_nx (e1 := [.bg bs, .va (.int (a : Int)), .va (.int m), .ow (sh.map rowT), .va d, .ow [], s6, .un]) ?_ (fSeq_nx c (fDrop_of (mCallB_of rfl (fCons1 (m1_of rfl rfl)) rfl happ rfl)))
      exact fSetL_of (e := [.bg bs, .va (.int (a : Int)), .va (.int m), .ow (sh.map rowT), .va d, s5, s6, .un]) (mLst_of rfl (by simp)) (setE_any (s := s5) rfl j5)
    · rcases List.mem_append.mp hq with h | h
      · exact hp q h
      · rw [List.mem_singleton.mp h]; exact ⟨hrl, hrt⟩)
  have hsl : sh.length = n := by simpa using hl
  refine ⟨sh, bs', s4, s5, s6, ?_, by omega, by omega, hp, W'⟩
  unfold c__law_sheet_1
  exact fFor_of (mIA_of (fCons1 (m2_of rfl (mCallB_of rfl (fCons1 rfl) rfl t1 rfl) (by rw [gAdd_i, hn]))) hg) h1
theorem gIx_l0 (x : PyData) (xs : List PyData) : gIx (.list (x :: xs)) (.int 0) = some x := by rw [gIx_l]; exact Pd.atI_nat (i := 0) rfl
theorem setAt_0 (x d : PyData) (xs : List PyData) : setAt (x :: xs) (.int 0) d = some (d :: xs) := by
  unfold setAt ixN
  simp
  first | done | omega
def Tx2 (t : List Int) : Prop := t.length ≤ 6 ∧ ∀ x ∈ t, 1 ≤ x ∧ x ≤ 99
theorem sheet_ev {bs : List PyData} (W : WB bs) : ∃ (m : Nat) (sh : List (List (List Int))) (bs' : List PyData), pf__law_sheet bs [] = some (tupTT sh, bs') ∧ Sheet m sh ∧ WB bs' := by
  obtain ⟨r1, bs1, t1, a1, b1, W1⟩ := take_ev W (many := 3) (by decide) (by decide)
  obtain ⟨a, ha⟩ : ∃ n : Nat, 1 + r1 = (n : Int) := ⟨(1 + r1).toNat, by omega⟩
  obtain ⟨mD, bs2, t2, a2, W2⟩ := some_ev W1 (d := .list [.int 2, .int 5, .int 12]) (.inl rfl) (by simp) (by simp)
  obtain ⟨m, rfl, hm1, hm2⟩ : ∃ m : Int, mD = .int m ∧ 1 ≤ m ∧ m ≤ 12 := by
    simp only [List.mem_cons, List.not_mem_nil, or_false] at a2
    rcases a2 with rfl | rfl | rfl
    · exact ⟨2, rfl, by decide, by decide⟩
    · exact ⟨5, rfl, by decide, by decide⟩
    · exact ⟨12, rfl, by decide, by decide⟩
  obtain ⟨sh, bs3, s4, s5, s6, c, l1, l2, hp, W3⟩ := rows_draw W2 hm1 hm2 (a := a) (by omega)
  obtain ⟨r4, bs4, t4, a4, b4, W4⟩ := take_ev W3 (many := 6) (by decide) (by decide)
  have mk : ∀ sh : List (List (List Int)), 1 ≤ sh.length → sh.length ≤ 20 → (∀ row ∈ sh, row.length = a ∧ ∀ t ∈ row, Tx2 t) → Sheet a sh := fun sh h1 h2 h3 => {
    ne := fun e => by rw [e] at h1; simp at h1
    m1 := by omega
    wid := fun row hr => (h3 row hr).1
    len := fun row hr t ht => by have := ((h3 row hr).2 t ht).1; omega
    pos := fun row hr t ht x hx => by have := ((h3 row hr).2 t ht).2 x hx; omega
    rows := by omega
    m3 := by omega }
  have hp2 : ∀ row ∈ sh, row.length = a ∧ ∀ t ∈ row, Tx2 t := fun row hr => ⟨(hp row hr).1, fun t ht => ⟨((hp row hr).2 t ht).1, fun x hx => by have := ((hp row hr).2 t ht).2 x hx; omega⟩⟩
  have go : ∀ sh2 : List (List (List Int)), (mIte (mT gB (m2 gEq (mCallB 0 pf__law_take (fCons (mret (.int 6)) fNil)) (mret (.int 0)))) (fSetIt 3 (mret (.int 0)) (m2 gAdd (mTup (fCons (mTup (fCons (mret (.int 60)) (fCons (mret (.int 60)) (fCons (mret (.int 99)) fNil)))) fNil)) (mSl gSl (m2o 3 gIx (mret (.int 0))) (mPart (mret (.int 1))) mNoPart))) fNx)
        [.bg bs3, .va (.int (a : Int)), .va (.int m), .ow (sh.map rowT), s4, s5, s6, .un] = some (.nx, [.bg bs4, .va (.int (a : Int)), .va (.int m), .ow (sh2.map rowT), s4, s5, s6, .un]) → pf__law_sheet bs [] = some (tupTT sh2, bs4) := fun sh2 h => by
    refine pfB_rt (r := [.va (.int (a : Int)), .va (.int m), .ow (sh2.map rowT), s4, s5, s6, .un]) rfl ?_
    show m__law_sheet [.bg bs, .un, .un, .un, .un, .un, .un, .un] = _
    rw [mm__law_sheet]
    refine fSeq_nx (e1 := [.bg bs2, .va (.int (a : Int)), .va (.int m), .un, .un, .un, .un, .un]) (fAsg_of (mTup_of (fCons_of (m2_of rfl (mCallB_of rfl (fCons1 rfl) rfl t1 rfl) (by rw [gAdd_i, ha])) (fCons1 (mCallB_of rfl (fCons1 (mLst_of rfl (by simp))) rfl t2 rfl))) (by simp)) rfl) ?_
    refine fSeq_nx (e1 := [.bg bs2, .va (.int (a : Int)), .va (.int m), .ow [], .un, .un, .un, .un]) (by simp) (fSeq_nx c (fSeq_nx h ?_))
    exact fRet_of (m1_of rfl rfl)
  have hcond : (mT gB (m2 gEq (mCallB 0 pf__law_take (fCons (mret (.int 6)) fNil)) (mret (.int 0)))) [.bg bs3, .va (.int (a : Int)), .va (.int m), .ow (sh.map rowT), s4, s5, s6, .un] = some (decide (r4 = 0), [.bg bs4, .va (.int (a : Int)), .va (.int m), .ow (sh.map rowT), s4, s5, s6, .un]) :=
    mT_of (m2_of (mCallB_of rfl (fCons1 rfl) rfl t4 rfl) rfl (gEq_i _ _)) rfl
  by_cases h0 : r4 = 0
  · rw [decide_eq_true h0] at hcond
    obtain ⟨row, rest, rfl⟩ : ∃ row rest, sh = row :: rest := by cases sh with | nil => simp at l1 | cons a b => exact ⟨a, b, rfl⟩
    have hrow := hp2 row (List.mem_cons_self ..)
    refine ⟨a, ([60, 60, 99] :: row.drop 1) :: rest, bs4, go _ (mIte_t hcond ?_), mk _ (by simp) (by simpa using l2) ?_, W4⟩
    · have e1 : gAdd (.tuple [.tuple [.int 60, .int 60, .int 99]]) (.tuple ((row.map tupI).drop 1)) = some (rowT ([60, 60, 99] :: row.drop 1)) := by
        have hl : row.length ≤ 3 := by have := hrow.1; omega
        rw [gAdd_t, if_pos (by simp; omega)]
        unfold rowT
        rw [List.map_cons, List.map_drop]
        rfl
      have e2 : gSl (rowT row) (some 1) none = some (.tuple ((row.map tupI).drop 1)) := by
        unfold rowT
        have := cutD_from (row.map tupI) 1
        rw [gSl_t]
        rw [show (some (1 : Int)) = some ((1 : Nat) : Int) from rfl, this]
      exact fSetIt_of (m2_of rfl (mSl_of (m2o_of rfl rfl rfl (gIx_l0 _ _)) (mPart_of rfl) rfl e2) e1) rfl rfl rfl (setAt_0 _ _ _) rfl
    · intro q hq
      rcases List.mem_cons.mp hq with rfl | hq
      · refine ⟨?_, fun t ht => ?_⟩
        · have := hrow.1
          simp; omega
        · rcases List.mem_cons.mp ht with rfl | ht
          · refine ⟨by simp, fun x hx => ?_⟩
            simp only [List.mem_cons, List.not_mem_nil, or_false] at hx
            omega
          · exact hrow.2 t (List.mem_of_mem_drop ht)
      · exact hp2 q (List.mem_cons_of_mem _ hq)
  · rw [decide_eq_false h0] at hcond
    exact ⟨a, sh, bs4, go sh (mIte_f hcond rfl), mk sh l1 l2 hp2, W4⟩
end Law

namespace Law
open PySem L2 Evl Pd
/-! ### the bag of a script -/
theorem bag_ev (ns : List Int) : ∃ cells : List Int, pf__law_bag [scrD ns] = some (.list (bagD 0 1234567891 0 cells)) ∧ cells.length ≤ 63 := by
  obtain ⟨ys, hy, hyl⟩ := cutD_ints ns none (some 63)
  have hl63 : ys.length ≤ 63 := by
    have e : cutD (ns.map PyData.int) none (some 63) = cutD (ns.map PyData.int) (some ((0 : Nat) : Int)) (some ((63 : Nat) : Int)) := by
      unfold cutD; simp [HT.sIx]
    rw [e, cutD_nat] at hy
    have := congrArg List.length hy
    simp at this
    omega
  have hs : gSl (scrD ns) none (some 63) = some (.list (ys.map PyData.int)) := by
    rw [← hy]; unfold scrD gSl; rfl
  refine ⟨ys.map fun i => (i.natAbs : Int), ?_, by rw [List.length_map]; exact hl63⟩
  refine pfL_rf (e := [.va (scrD ns), .un]) rfl ?_
  rw [mm__law_bag]
  have h1 : c__law_bag_1 [.va (scrD ns), .un] = some (lstI (ys.map fun i => (i.natAbs : Int)), [.va (scrD ns), .un]) := by
    unfold c__law_bag_1
    rw [fLc_one1 (T := Int) (xs := ys) (enc := PyData.int) (fun i => .int (i.natAbs : Int)) (mI_of (mSl_of rfl rfl (mPart_of rfl) hs) rfl) rfl jk_un (by omega) fun i hi => mA_of (fCons1 rfl) (gAbs_i i)]
    unfold lstI; rw [List.map_map]; rfl
  exact fRetF_of (mLst_of (fCons_of rfl (fCons_of rfl (fCons_of rfl (fCons1 h1)))) (by simp [bagD]))
end Law

namespace Law
open PySem L2 Evl Pd
/-! ### the law is true -/
theorem columns_1 {bs : List PyData} (W : WB bs) (e : List PyData → Pd.Env) (h1 : ∀ bs, owOf (e bs) 1 = some bs) (h2 : ∀ bs bs', putOw (e bs) 1 bs' = e bs') : ∃ bs', mNot (mT gTru (mCallB 1 pf__law_are_columns fNil)) (e bs) = some (false, e bs') ∧ WB bs' := by
  obtain ⟨bs', h, W'⟩ := columns_true W
  exact ⟨bs', mNot_of (mT_of (mCallB_of (h1 _) rfl (h1 _) h (h2 _ _)) (show gTru (.bool true) = some true from rfl)), W'⟩
theorem nodes_lstI (xs : List Int) : nodes (lstI xs) = xs.length + 1 := by
  have := nodes_tupI xs
  unfold tupI at this; unfold lstI
  simpa [nodes] using this
theorem nice_rowsD (ws : List Int) (sh : List (List (List Int))) : Nice (rowsD ws sh) 1 := by
  unfold rowsD; split
  · exact nice_tupI _
  · exact nice_none 1
theorem nice_sumD (ws : List Int) (sh : List (List (List Int))) : Nice (sumD ws sh) 1 := by
  unfold sumD; split
  · exact nice_int _ _
  · exact nice_none 1
theorem runE_rl_len {ws : List Int} : ∀ {sh : List (List (List Int))} {l r : List Int}, runE (rlStep ws) l sh = .ok r → r.length = l.length + sh.length
  | [], l, r, h => by cases h; rfl
  | row :: sh, l, r, h => by
    unfold runE at h
    cases q : rlStep ws l row with
    | ok s =>
      rw [q] at h
      have := runE_rl_len h
      have h2 : s.length = l.length + 1 := by
        unfold rlStep at q
        split at q
        · cases q
        · cases q; simp
      rw [this, h2, List.length_cons]; omega
    | error d => rw [q] at h; cases h
theorem nodes_rowsD {m : Nat} {sh : List (List (List Int))} (S : Sheet m sh) (ws : List Int) : nodes (rowsD ws sh) ≤ 1001 := by
  unfold rowsD
  cases q : rowLines ws sh with
  | ok l =>
    have := runE_rl_len q
    have := S.rows
    show nodes (tupI l) ≤ _
    rw [nodes_tupI]; simp at *; omega
  | error d => show (1 : Nat) ≤ _; omega
theorem nodes_sumD (ws : List Int) (sh : List (List (List Int))) : nodes (sumD ws sh) = 1 := by
  unfold sumD; split <;> rfl
theorem law_best_nodes {m : Nat} {sh : List (List (List Int))} {room : Int} : Nice (oD (lawBest sh (gwN (allSts sh m) z0 room m))) 2 ∧ nodes (oD (lawBest sh (gwN (allSts sh m) z0 room m))) ≤ m + 3 := by
  unfold lawBest
  cases q : (gwN (allSts sh m) z0 room m).map (fun p => (Fs sh p, p)) with
  | nil => exact ⟨nice_none 2, by show (1 : Nat) ≤ _; omega⟩
  | cons x xs =>
    have h := (minM_least x xs).1
    rw [← q] at h
    obtain ⟨p, hp, hpe⟩ := List.mem_map.mp h
    have hl := gwN_len m p hp
    dsimp only
    rw [← hpe]
    refine ⟨nice_tup (k := 1) fun y hy => ?_, ?_⟩
    · simp only [List.mem_cons, List.not_mem_nil, or_false] at hy
      rcases hy with rfl | rfl
      · exact nice_int _ _
      · exact nice_tupI _
    · have := nodes_tupI p
      show nodesAll [.int _, tupI p] + 1 ≤ _
      simp only [nodesAll, nodes]
      omega
theorem prod_le {sh : List (List (List Int))} {m : Nat} (h1 : 1 ≤ m) (h3 : m ≤ 3) {a b c : Nat} (ha : a = (stepsC (colOf sh 0)).length) (hb : b = (stepsC (colOf sh (m - 1))).length) (hc : c = (stepsC (colOf sh (m / 2))).length) (h : a * b * c ≤ 4000) : ∀ n, n ≤ m → prodN (allSts sh m) n ≤ 4000 := by
  have pos : ∀ l : List (List Int), 1 ≤ (stepsC l).length := fun l => by unfold stepsC; simp
  have at' : ∀ c, c < m → ((allSts sh m).getD c []).length = (stepsC (colOf sh c)).length := fun c hc => by rw [allSts_at hc]
  have pa := pos (colOf sh 0)
  have hb1 : 1 ≤ b := by rw [hb]; exact pos _
  have hc1 : 1 ≤ c := by rw [hc]; exact pos _
  have ha1 : 1 ≤ a := by rw [ha]; exact pa
  have hab : a * b ≤ 4000 := Nat.le_trans (Nat.le_mul_of_pos_right _ hc1) h
  have ha4 : a ≤ 4000 := Nat.le_trans (Nat.le_mul_of_pos_right _ hb1) hab
  have hac : a * c ≤ 4000 := Nat.le_trans (Nat.mul_le_mul_right c (Nat.le_mul_of_pos_right _ hb1)) h
  intro n hn
  rcases (show n = 0 ∨ n = 1 ∨ n = 2 ∨ n = 3 by omega) with rfl | rfl | rfl | rfl
  · show (1 : Nat) ≤ _; omega
  · show 1 * ((allSts sh m).getD 0 []).length ≤ _
    rw [at' 0 (by omega), ← ha]; omega
  · show 1 * ((allSts sh m).getD 0 []).length * ((allSts sh m).getD 1 []).length ≤ _
    rw [at' 0 (by omega), at' 1 (by omega), ← ha, Nat.one_mul]
    rcases (show m = 2 ∨ m = 3 by omega) with rfl | rfl
    · rw [← hb]; exact hab
    · rw [← hc]; exact hac
  · have : m = 3 := by omega
    subst this
    show 1 * ((allSts sh 3).getD 0 []).length * ((allSts sh 3).getD 1 []).length * ((allSts sh 3).getD 2 []).length ≤ _
    rw [at' 0 (by omega), at' 1 (by omega), at' 2 (by omega), ← ha, Nat.one_mul, ← hb, ← hc, Nat.mul_right_comm]
    exact h
theorem law_true (ns : List Int) (hl : ns.length ≤ 63) : pf_law [scrD ns] = some (.bool true) := by
  obtain ⟨cells, hbag, hc63⟩ := bag_ev ns
  have W0 : WB (bagD 0 1234567891 0 cells) := wb_mk (by decide) hc63
  obtain ⟨bs1, cc1, W1⟩ := columns_1 W0 (fun bs => [.va (scrD ns), .ow bs, .un, .un, .un, .un, .un, .un, .un, .un, .un, .un, .un, .un]) (fun _ => rfl) (fun _ _ => rfl)
  obtain ⟨bs2, cc2, W2⟩ := columns_1 W1 (fun bs => [.va (scrD ns), .ow bs, .un, .un, .un, .un, .un, .un, .un, .un, .un, .un, .un, .un]) (fun _ => rfl) (fun _ _ => rfl)
  obtain ⟨m, sh, bs3, hsh, S, W3⟩ := sheet_ev W2
  obtain ⟨gap, bs4, t4, a4, b4, W4⟩ := take_ev W3 (many := 10) (by decide) (by decide)
  obtain ⟨r5, bs5, t5, a5, b5, W5⟩ := take_ev W4 (many := 99) (by decide) (by decide)
  obtain ⟨wide, hw⟩ : ∃ w : Int, 1 + r5 = w := ⟨_, rfl⟩
  have hm1 := S.m1
  have hm3 := S.m3
  obtain ⟨hd, hdm, hix⟩ := gIx_TT0 S.ne
  have hhd : hd.length = m := S.wid hd hdm
  have hlen : gLen (rowT hd) = some (.int (m : Int)) := by unfold rowT; rw [gLen_t, List.length_map, hhd]
  have hg := gRng1_n (n := m) (by omega)
  rw [rngD_range] at hg
  obtain ⟨ysD, bs6, c1, hyl, hP, W6⟩ := fLc_drawE (v := 12) (ds := (List.range m).map fun i : Nat => PyData.int (i : Int)) (bs := bs5) (s1 := .un) (e := [.va (scrD ns), .ow bs5, .va (tupTT sh), .va (.int gap), .va (.int wide), .va (.int (m : Int)), .un, .un, .un, .un, .un, .un, .un, .un]) (fi := (mIA gRng1 (fCons (fV 5) fNil))) (fe := (m2 gAdd (mret (.int 1)) (mCallB 1 pf__law_take (fCons (mret (.int 99)) fNil)))) (fun bs => [.va (scrD ns), .ow bs, .va (tupTT sh), .va (.int gap), .va (.int wide), .va (.int (m : Int)), .un, .un, .un, .un, .un, .un, .un, .un]) WB (fun y => ∃ i : Int, y = .int i ∧ 1 ≤ i ∧ i ≤ 99) (mIA_of (fCons1 rfl) hg) W5 (fun _ => rfl) jk_un (by rw [List.length_map, List.length_range]; omega) (by
    intro d hd bs W
    obtain ⟨r, bs', t, ra, rb, W'⟩ := take_ev W (many := 99) (by decide) (by decide)
    exact ⟨.int (1 + r), bs', m2_of rfl (mCallB_of rfl (fCons1 rfl) rfl t rfl) (gAdd_i _ _), ⟨_, rfl, by omega, by omega⟩, W'⟩)
  obtain ⟨ws, rfl, hws⟩ := ints_of hP
  have hwl : ws.length = m := by simpa using hyl
  have f1 := pf__law_row_lines_ev S hwl
  have f2 := pf_row_lines_ev S hwl
  have f3 := pf_sheet_lines_ev S hwl
  have hsum : (mIte (mT gB (m2 gIsN (fV 7) (mret .none))) (mret .none) (m1 gSum (fV 7))) [.va (scrD ns), .ow bs6, .va (tupTT sh), .va (.int gap), .va (.int wide), .va (.int (m : Int)), .va (tupI ws), .va (rowsD ws sh), .un, .un, .un, .un, .un, .un] = some (sumD ws sh, [.va (scrD ns), .ow bs6, .va (tupTT sh), .va (.int gap), .va (.int wide), .va (.int (m : Int)), .va (tupI ws), .va (rowsD ws sh), .un, .un, .un, .un, .un, .un]) := by
    unfold sumD rowsD
    cases rowLines ws sh with
    | ok l => exact mIte_f (mT_of (m2_of rfl rfl rfl) rfl) (m1_of rfl (gSum_T l))
    | error d => exact mIte_t (mT_of (m2_of rfl rfl rfl) rfl) rfl
  have al1 := alike_list (ds := [rowsD ws sh, sumD ws sh]) (fun d hd => by
      simp only [List.mem_cons, List.not_mem_nil, or_false] at hd
      rcases hd with rfl | rfl
      · exact nice_up (nice_rowsD _ _) (by omega)
      · exact nice_up (nice_sumD _ _) (by omega)) (by
      have := nodes_rowsD S ws
      have := nodes_sumD ws sh
      simp only [nodesAll]; omega)
  -- the steps
  have hst : ∀ c ∈ List.range m, nodes (tupI (stepsC (colOf sh c))) ≤ 2000001 := fun c hc => by
    rw [nodes_tupI]; have := stepsC_len (S.col (List.mem_range.mp hc)); omega
  have q2 : c_law_2 [.va (scrD ns), .ow bs6, .va (tupTT sh), .va (.int gap), .va (.int wide), .va (.int (m : Int)), .va (tupI ws), .va (rowsD ws sh), .un, .un, .un, .un, .un, .un] = some (sD (allSts sh m), [.va (scrD ns), .ow bs6, .va (tupTT sh), .va (.int gap), .va (.int wide), .va (.int (m : Int)), .va (tupI ws), .va (rowsD ws sh), .un, .un, .un, .un, .un, .un]) := by
    unfold c_law_2
    rw [fLc_one1 (T := Nat) (xs := List.range m) (enc := fun i : Nat => PyData.int (i : Int)) (fun c => lstI (stepsC (colOf sh c))) (mIA_of (fCons1 rfl) hg) rfl jk_un (by rw [List.length_range]; omega) fun c hc => mA_of (fCons_of rfl (fCons1 rfl)) (pf__law_steps_ev S (List.mem_range.mp hc))]
    unfold sD allSts; rw [List.map_map]; rfl
  have q3 : c_law_3 [.va (scrD ns), .ow bs6, .va (tupTT sh), .va (.int gap), .va (.int wide), .va (.int (m : Int)), .va (tupI ws), .va (rowsD ws sh), .va (sD (allSts sh m)), .un, .un, .un, .un, .un] = some (.list ((List.range m).map fun c => tupI (stepsC (colOf sh c))), [.va (scrD ns), .ow bs6, .va (tupTT sh), .va (.int gap), .va (.int wide), .va (.int (m : Int)), .va (tupI ws), .va (rowsD ws sh), .va (sD (allSts sh m)), .un, .un, .un, .un, .un]) := by
    unfold c_law_3
    rw [fLc_one1 (T := Nat) (xs := List.range m) (enc := fun i : Nat => PyData.int (i : Int)) (fun c => tupI (stepsC (colOf sh c))) (mIA_of (fCons1 rfl) hg) rfl jk_un (by rw [List.length_range]; omega) fun c hc => mA_of (fCons_of rfl (fCons1 rfl)) (pf_line_steps_ev S (List.mem_range.mp hc))]
  have hsd : sD (allSts sh m) = .list ((List.range m).map fun c => lstI (stepsC (colOf sh c))) := by unfold sD allSts; rw [List.map_map]; rfl
  have q4 : c_law_4 [.va (scrD ns), .ow bs6, .va (tupTT sh), .va (.int gap), .va (.int wide), .va (.int (m : Int)), .va (tupI ws), .va (rowsD ws sh), .va (sD (allSts sh m)), .un, .un, .un, .un, .un] = some (.list ((List.range m).map fun c => tupI (stepsC (colOf sh c))), [.va (scrD ns), .ow bs6, .va (tupTT sh), .va (.int gap), .va (.int wide), .va (.int (m : Int)), .va (tupI ws), .va (rowsD ws sh), .va (sD (allSts sh m)), .un, .un, .un, .un, .un]) := by
    unfold c_law_4
    rw [fLc_one1 (T := Nat) (xs := List.range m) (enc := fun c : Nat => lstI (stepsC (colOf sh c))) (fun c => tupI (stepsC (colOf sh c))) (mI_of (d := sD (allSts sh m)) rfl (by rw [hsd]; rfl)) rfl jk_un (by rw [List.length_range]; omega) fun c hc => m1_of rfl (gTuple_L _)]
  have q5 : c_law_5 [.va (scrD ns), .ow bs6, .va (tupTT sh), .va (.int gap), .va (.int wide), .va (.int (m : Int)), .va (tupI ws), .va (rowsD ws sh), .va (sD (allSts sh m)), .un, .un, .un, .un, .un] = some (lstI ((List.range m).map fun c => leastC (colOf sh c)), [.va (scrD ns), .ow bs6, .va (tupTT sh), .va (.int gap), .va (.int wide), .va (.int (m : Int)), .va (tupI ws), .va (rowsD ws sh), .va (sD (allSts sh m)), .un, .un, .un, .un, .un]) := by
    unfold c_law_5
    rw [fLc_one1 (T := Nat) (xs := List.range m) (enc := fun c : Nat => lstI (stepsC (colOf sh c))) (fun c => .int (leastC (colOf sh c))) (mI_of (d := sD (allSts sh m)) rfl (by rw [hsd]; rfl)) rfl jk_un (by rw [List.length_range]; omega) fun c hc => m2_of rfl rfl (gIx_l0 _ _)]
    unfold lstI; rw [List.map_map]; rfl
  have al2 := alike_list (ds := (List.range m).map fun c => tupI (stepsC (colOf sh c))) (fun d hd => by
      obtain ⟨c, _, rfl⟩ := List.mem_map.mp hd
      exact nice_up (nice_tupI _) (by omega)) (by
      have := nodesAll_le (xs := (List.range m).map fun c => tupI (stepsC (colOf sh c))) (k := 2000001) fun x hx => by obtain ⟨c, hc, rfl⟩ := List.mem_map.mp hx; exact hst c hc
      rw [List.length_map, List.length_range] at this
      have h2 : m * 2000001 ≤ 3 * 2000001 := Nat.mul_le_mul_right _ hm3
      omega)
  have f4 := pf_narrowest_ev S
  have al3 := alike_self (d := tupI ((List.range m).map fun c => leastC (colOf sh c))) (nice_up (nice_tupI _) (by omega)) (by rw [nodes_tupI, List.length_map, List.length_range]; omega)
  -- the first text
  obtain ⟨t0, ht0m, hix2⟩ : ∃ t0 ∈ hd, gIx (rowT hd) (.int 0) = some (tupI t0) := by
    cases hd with
    | nil => simp at hhd; omega
    | cons a r => exact ⟨a, List.mem_cons_self .., by unfold rowT; rw [gIx_t]; exact Pd.atI_nat (i := 0) rfl⟩
  have ht1 := S.len hd hdm t0 ht0m
  have ht2 := S.pos hd hdm t0 ht0m
  obtain ⟨w0, hw0⟩ : ∃ w0, gIx (tupI ws) (.int 0) = some (.int w0) := by
    cases ws with
    | nil => simp at hwl; omega
    | cons a r => exact ⟨a, by unfold tupI; rw [gIx_t]; exact Pd.atI_nat (i := 0) rfl⟩
  have f5 := pf__law_lines_ev t0 w0
  obtain ⟨told, f6, hq⟩ : ∃ told, pf_laid [tupI t0, .int w0] = some told ∧ ∀ e : Pd.Env, e[10]? = some (.va told) → (mIte (mT gB (m2 gIsN (fV 10) (mret .none))) (mret .none) (mA gMax2 (fCons (mret (.int 1)) (fCons (m1 gLen (fV 10)) fNil)))) e = some (OI (tlines t0 w0), e) := by
    rcases pf_laid_ev t0 w0 (by omega) (fun x hx => by have := ht2 x hx; omega) with ⟨h1, h2⟩ | ⟨l, h1, h2, h3⟩
    · exact ⟨_, h2, fun e he => by rw [h1]; exact mIte_t (mT_of (m2_of (fV_of he) rfl rfl) rfl) rfl⟩
    · exact ⟨_, h3, fun e he => by rw [h2]; exact mIte_f (mT_of (m2_of (fV_of he) rfl rfl) rfl) (mA_of (fCons_of rfl (fCons1 (m1_of (fV_of he) (gLen_t _)))) (by rw [gMax2_i, List.length_map]; rfl))⟩
  have al4 := alike_self (d := OI (tlines t0 w0)) (nice_up (nice_OI _) (by omega)) (by rw [nodes_OI]; omega)
  obtain ⟨room, hroom⟩ : ∃ room, room = wide - gap * ((m : Int) - 1) := ⟨_, rfl⟩
  have hmul := gMul_i (i := gap) (j := (m : Int) - 1) (by omega) (by omega)
  -- the product
  have hsl : (allSts sh m).length = m := by simp [allSts]
  have hx0 : gIx (sD (allSts sh m)) (.int 0) = some (lstI (stepsC (colOf sh 0))) := by
    have := gIx_sD (sts := allSts sh m) (c := 0) (by omega)
    rw [allSts_at (by omega)] at this; exact this
  have hx1 : gIx (sD (allSts sh m)) (.int (-1)) = some (lstI (stepsC (colOf sh (m - 1)))) := by
    rw [hsd, gIx_l]
    obtain ⟨k, rfl⟩ : ∃ k, m = k + 1 := ⟨m - 1, by omega⟩
    rw [List.range_succ, List.map_append]
    exact atI_last
  have hx2 : gIx (sD (allSts sh m)) (.int ((m : Int) / 2)) = some (lstI (stepsC (colOf sh (m / 2)))) := by
    have := gIx_sD (sts := allSts sh m) (c := m / 2) (by omega)
    rw [allSts_at (by omega)] at this; exact this
  have hdv : gFdiv (.int (m : Int)) (.int 2) = some (.int ((m : Int) / 2)) := gFdiv_i (by omega) (by omega)
  have ln : ∀ c, c < m → (stepsC (colOf sh c)).length ≤ 2000000 := fun c hc => stepsC_len (S.col hc)
  have ln0 := ln 0 (by omega)
  have ln1 := ln (m - 1) (by omega)
  have ln2 := ln (m / 2) (by omega)
  have hcond := fun A B C hA hB hC => prod_le (sh := sh) hm1 hm3 (a := A) (b := B) (c := C) hA hB hC
  obtain ⟨A, hA⟩ : ∃ A, A = (stepsC (colOf sh 0)).length := ⟨_, rfl⟩
  obtain ⟨B, hB⟩ : ∃ B, B = (stepsC (colOf sh (m - 1))).length := ⟨_, rfl⟩
  obtain ⟨C, hC⟩ : ∃ C, C = (stepsC (colOf sh (m / 2))).length := ⟨_, rfl⟩
  have hl0 : gLen (lstI (stepsC (colOf sh 0))) = some (.int (A : Int)) := by rw [gLen_L, hA]
  have hl1 : gLen (lstI (stepsC (colOf sh (m - 1)))) = some (.int (B : Int)) := by rw [gLen_L, hB]
  have hl2 : gLen (lstI (stepsC (colOf sh (m / 2)))) = some (.int (C : Int)) := by rw [gLen_L, hC]
  have g1 : gMul (.int (A : Int)) (.int (B : Int)) = some (.int ((A : Int) * (B : Int))) := gMul_big (mulOk_rr (by omega) (by omega))
  have g2 : gMul (.int ((A : Int) * (B : Int))) (.int (C : Int)) = some (.int ((A : Int) * (B : Int) * (C : Int))) := gMul_big (mulOk_rr (by omega) (by omega))
  have hprod : (mT gB (m2 (gCmp fGt) (m2 gMul (m2 gMul (m1 gLen (m2 gIx (fV 8) (mret (.int 0)))) (m1 gLen (m2 gIx (fV 8) (m1 gNeg (mret (.int 1)))))) (m1 gLen (m2 gIx (fV 8) (m2 gFdiv (fV 5) (mret (.int 2)))))) (mret (.int 4000)))) [.va (scrD ns), .ow bs6, .va (tupTT sh), .va (.int gap), .va (.int wide), .va (.int (m : Int)), .va (tupI ws), .va (rowsD ws sh), .va (sD (allSts sh m)), .va (tupI t0), .va told, .va (.int room), .un, .un] = some (decide ((4000 : Int) < (A : Int) * (B : Int) * (C : Int)), [.va (scrD ns), .ow bs6, .va (tupTT sh), .va (.int gap), .va (.int wide), .va (.int (m : Int)), .va (tupI ws), .va (rowsD ws sh), .va (sD (allSts sh m)), .va (tupI t0), .va told, .va (.int room), .un, .un]) :=
    mT_of (m2_of (m2_of (m2_of (m1_of (m2_of rfl rfl hx0) hl0) (m1_of (m2_of rfl (m1_of rfl (gNeg_i 1)) hx1) hl1) g1) (m1_of (m2_of rfl (m2_of rfl rfl hdv) hx2) hl2) g2) rfl (gGt_i _ _)) rfl
  have start : ∀ r : Option (Fl × Pd.Env), (fSeq (mIte (mT gB (m2 (gCmp fGt) (m2 gMul (m2 gMul (m1 gLen (m2 gIx (fV 8) (mret (.int 0)))) (m1 gLen (m2 gIx (fV 8) (m1 gNeg (mret (.int 1)))))) (m1 gLen (m2 gIx (fV 8) (m2 gFdiv (fV 5) (mret (.int 2)))))) (mret (.int 4000)))) (fRet (mret (.bool true))) fNx) (fRet (mA pf__law_alike (fCons (mA pf_best_widths (fCons (fV 2) (fCons (fV 4) (fCons (fV 3) fNil)))) (fCons (mA pf__law_best (fCons (fV 2) (fCons (fV 8) (fCons (fV 11) fNil)))) fNil))))) [.va (scrD ns), .ow bs6, .va (tupTT sh), .va (.int gap), .va (.int wide), .va (.int (m : Int)), .va (tupI ws), .va (rowsD ws sh), .va (sD (allSts sh m)), .va (tupI t0), .va told, .va (.int room), .un, .un] = r →
      m_law [.va (scrD ns), .un, .un, .un, .un, .un, .un, .un, .un, .un, .un, .un, .un, .un] = r := fun r hr => by
    rw [mm_law]
    refine fSeq_nx (e1 := [.va (scrD ns), .ow (bagD 0 1234567891 0 cells), .un, .un, .un, .un, .un, .un, .un, .un, .un, .un, .un, .un]) (fSetL_of (mA_of (fCons1 rfl) hbag) rfl) ?_
    refine fSeq_nx (e1 := [.va (scrD ns), .ow bs2, .un, .un, .un, .un, .un, .un, .un, .un, .un, .un, .un, .un]) (mIte_f (mOr_f cc1 cc2) rfl) ?_
    refine fSeq_nx (e1 := [.va (scrD ns), .ow bs5, .va (tupTT sh), .va (.int gap), .va (.int wide), .un, .un, .un, .un, .un, .un, .un, .un, .un]) (fAsg_of (mTup_of (fCons_of (mCallB_of rfl rfl rfl hsh rfl) (fCons_of (mCallB_of rfl (fCons1 rfl) rfl t4 rfl) (fCons1 (m2_of rfl (mCallB_of rfl (fCons1 rfl) rfl t5 rfl) (by rw [gAdd_i, hw]))))) (by simp)) rfl) ?_
    refine fSeq_nx (e1 := [.va (scrD ns), .ow bs5, .va (tupTT sh), .va (.int gap), .va (.int wide), .va (.int (m : Int)), .un, .un, .un, .un, .un, .un, .un, .un]) (fSet_of (m1_of (m2_of rfl rfl hix) hlen) rfl) ?_
    refine fSeq_nx (e1 := [.va (scrD ns), .ow bs6, .va (tupTT sh), .va (.int gap), .va (.int wide), .va (.int (m : Int)), .va (tupI ws), .un, .un, .un, .un, .un, .un, .un]) (fSet_of (m1_of c1 (gTuple_L ws)) rfl) ?_
    refine fSeq_nx (e1 := [.va (scrD ns), .ow bs6, .va (tupTT sh), .va (.int gap), .va (.int wide), .va (.int (m : Int)), .va (tupI ws), .va (rowsD ws sh), .un, .un, .un, .un, .un, .un]) (fSet_of (mA_of (fCons_of rfl (fCons1 rfl)) f1) rfl) ?_
    refine fSeq_nx (e1 := [.va (scrD ns), .ow bs6, .va (tupTT sh), .va (.int gap), .va (.int wide), .va (.int (m : Int)), .va (tupI ws), .va (rowsD ws sh), .un, .un, .un, .un, .un, .un]) (not_alike (d := .none) (r := none) (mA_of (fCons_of (mLst_of (fCons_of (mA_of (fCons_of rfl (fCons1 rfl)) f2) (fCons1 (mA_of (fCons_of rfl (fCons1 rfl)) f3))) (by simp)) (fCons1 (mLst_of (fCons_of rfl (fCons1 hsum)) (by simp)))) al1)) ?_
    refine fSeq_nx (e1 := [.va (scrD ns), .ow bs6, .va (tupTT sh), .va (.int gap), .va (.int wide), .va (.int (m : Int)), .va (tupI ws), .va (rowsD ws sh), .va (sD (allSts sh m)), .un, .un, .un, .un, .un]) (fSet_of q2 rfl) ?_
    refine fSeq_nx (e1 := [.va (scrD ns), .ow bs6, .va (tupTT sh), .va (.int gap), .va (.int wide), .va (.int (m : Int)), .va (tupI ws), .va (rowsD ws sh), .va (sD (allSts sh m)), .un, .un, .un, .un, .un]) (not_alike (d := .none) (r := none) (mA_of (fCons_of q3 (fCons1 q4)) al2)) ?_
    refine fSeq_nx (e1 := [.va (scrD ns), .ow bs6, .va (tupTT sh), .va (.int gap), .va (.int wide), .va (.int (m : Int)), .va (tupI ws), .va (rowsD ws sh), .va (sD (allSts sh m)), .un, .un, .un, .un, .un]) (not_alike (d := .none) (r := none) (mA_of (fCons_of (mA_of (fCons1 rfl) f4) (fCons1 (m1_of q5 (gTuple_L _)))) al3)) ?_
    refine fSeq_nx (e1 := [.va (scrD ns), .ow bs6, .va (tupTT sh), .va (.int gap), .va (.int wide), .va (.int (m : Int)), .va (tupI ws), .va (rowsD ws sh), .va (sD (allSts sh m)), .va (tupI t0), .un, .un, .un, .un]) (fSet_of (m2_of (m2_of rfl rfl hix) rfl hix2) rfl) ?_
    refine fSeq_nx (e1 := [.va (scrD ns), .ow bs6, .va (tupTT sh), .va (.int gap), .va (.int wide), .va (.int (m : Int)), .va (tupI ws), .va (rowsD ws sh), .va (sD (allSts sh m)), .va (tupI t0), .va told, .un, .un, .un]) (fSet_of (mA_of (fCons_of rfl (fCons1 (m2_of rfl rfl hw0))) f6) rfl) ?_
    refine fSeq_nx (e1 := [.va (scrD ns), .ow bs6, .va (tupTT sh), .va (.int gap), .va (.int wide), .va (.int (m : Int)), .va (tupI ws), .va (rowsD ws sh), .va (sD (allSts sh m)), .va (tupI t0), .va told, .un, .un, .un]) (not_alike (d := .none) (r := none) (mA_of (fCons_of (hq _ rfl) (fCons1 (mA_of (fCons_of rfl (fCons1 (m2_of rfl rfl hw0))) f5))) al4)) ?_
    refine fSeq_nx (e1 := [.va (scrD ns), .ow bs6, .va (tupTT sh), .va (.int gap), .va (.int wide), .va (.int (m : Int)), .va (tupI ws), .va (rowsD ws sh), .va (sD (allSts sh m)), .va (tupI t0), .va told, .va (.int room), .un, .un]) (fSet_of (m2_of rfl (m2_of rfl (m2_of rfl rfl (gSub_i _ _)) hmul) (by rw [gSub_i, hroom])) rfl) ?_
    exact hr
  by_cases hbig : (4000 : Int) < (A : Int) * (B : Int) * (C : Int)
  · rw [decide_eq_true hbig] at hprod
    exact pfP_rt rfl (start _ (fSeq_rt (mIte_t hprod rfl)))
  · rw [decide_eq_false hbig] at hprod
    have hle : A * B * C ≤ 4000 := by
      have h2 : (A : Int) * (B : Int) * (C : Int) ≤ 4000 := by omega
      exact_mod_cast h2
    have hP := hcond A B C hA hB hC hle
    have f7 := best_ev S wide gap hP
    have f8 := pf__law_best_ev S (room := room) fun n hn => Nat.le_trans (gwN_count _ _ _ n) (hP n hn)
    rw [← hroom] at f7
    obtain ⟨n1, n2⟩ := law_best_nodes (m := m) (sh := sh) (room := room)
    have al5 := alike_self (d := oD (lawBest sh (gwN (allSts sh m) z0 room m))) (nice_up n1 (by omega)) (by omega)
    exact pfP_rt rfl (start _ (fSeq_nx (mIte_f hprod rfl) (fRet_of (mA_of (fCons_of (mA_of (fCons_of rfl (fCons_of rfl (fCons1 rfl))) f7) (fCons1 (mA_of (fCons_of rfl (fCons_of rfl (fCons1 rfl))) f8))) al5))))
end Law

/-! ### the head: where each def stands, that the built-in names are free. Printed by wip/gen.py. -/
namespace Law
open PySem PySem.Spec PyProof.Rows L2 Pd
def dd__law_bag : He.DefD := ⟨("_law_bag", none), "_law_bag", "_law_bag", defArgs st__law_bag, defBody st__law_bag, defScope st__law_bag, [], []⟩
def dd__law_lines : He.DefD := ⟨("_law_lines", none), "_law_lines", "_law_lines", defArgs st__law_lines, defBody st__law_lines, defScope st__law_lines, [], []⟩
def dd__law_row_lines : He.DefD := ⟨("_law_row_lines", none), "_law_row_lines", "_law_row_lines", defArgs st__law_row_lines, defBody st__law_row_lines, defScope st__law_row_lines, [], []⟩
def dd_cells_in : He.DefD := ⟨("cells_in", none), "cells_in", "cells_in", defArgs st_cells_in, defBody st_cells_in, defScope st_cells_in, [], []⟩
def dd_laid : He.DefD := ⟨("laid", none), "laid", "laid", defArgs st_laid, defBody st_laid, defScope st_laid, [], []⟩
def dd__law_alike : He.DefD := ⟨("_law_alike", none), "_law_alike", "_law_alike", defArgs st__law_alike, defBody st__law_alike, defScope st__law_alike, [], []⟩
def dd__law_take : He.DefD := ⟨("_law_take", none), "_law_take", "_law_take", defArgs st__law_take, defBody st__law_take, defScope st__law_take, [], []⟩
def dd__law_some : He.DefD := ⟨("_law_some", none), "_law_some", "_law_some", defArgs st__law_some, defBody st__law_some, defScope st__law_some, [], []⟩
def dd__law_sheet : He.DefD := ⟨("_law_sheet", none), "_law_sheet", "_law_sheet", defArgs st__law_sheet, defBody st__law_sheet, defScope st__law_sheet, [], []⟩
def dd__law_steps : He.DefD := ⟨("_law_steps", none), "_law_steps", "_law_steps", defArgs st__law_steps, defBody st__law_steps, defScope st__law_steps, [], []⟩
def dd_begun : He.DefD := ⟨("begun", none), "begun", "begun", defArgs st_begun, defBody st_begun, defScope st_begun, [], []⟩
def dd_text_lines : He.DefD := ⟨("text_lines", none), "text_lines", "text_lines", defArgs st_text_lines, defBody st_text_lines, defScope st_text_lines, [], []⟩
def dd_texts_of : He.DefD := ⟨("texts_of", none), "texts_of", "texts_of", defArgs st_texts_of, defBody st_texts_of, defScope st_texts_of, [], []⟩
def dd_lines_at : He.DefD := ⟨("lines_at", none), "lines_at", "lines_at", defArgs st_lines_at, defBody st_lines_at, defScope st_lines_at, [], []⟩
def dd_heights_by : He.DefD := ⟨("heights_by", none), "heights_by", "heights_by", defArgs st_heights_by, defBody st_heights_by, defScope st_heights_by, [], []⟩
def dd_all_lines : He.DefD := ⟨("all_lines", none), "all_lines", "all_lines", defArgs st_all_lines, defBody st_all_lines, defScope st_all_lines, [], []⟩
def dd_narrowest : He.DefD := ⟨("narrowest", none), "narrowest", "narrowest", defArgs st_narrowest, defBody st_narrowest, defScope st_narrowest, [], []⟩
def dd_widest_text : He.DefD := ⟨("widest_text", none), "widest_text", "widest_text", defArgs st_widest_text, defBody st_widest_text, defScope st_widest_text, [], []⟩
def dd_line_steps : He.DefD := ⟨("line_steps", none), "line_steps", "line_steps", defArgs st_line_steps, defBody st_line_steps, defScope st_line_steps, [], []⟩
def dd_best_widths : He.DefD := ⟨("best_widths", none), "best_widths", "best_widths", defArgs st_best_widths, defBody st_best_widths, defScope st_best_widths, [], []⟩
def dd__law_best : He.DefD := ⟨("_law_best", none), "_law_best", "_law_best", defArgs st__law_best, defBody st__law_best, defScope st__law_best, [], []⟩
def dd__law_wide : He.DefD := ⟨("_law_wide", none), "_law_wide", "_law_wide", defArgs st__law_wide, defBody st__law_wide, defScope st__law_wide, [], []⟩
def dd_cut : He.DefD := ⟨("cut", none), "cut", "cut", defArgs st_cut, defBody st_cut, defScope st_cut, [], []⟩
def dd_widths : He.DefD := ⟨("widths", none), "widths", "widths", defArgs st_widths, defBody st_widths, defScope st_widths, [], []⟩
def dd_width : He.DefD := ⟨("width", none), "width", "width", defArgs st_width, defBody st_width, defScope st_width, [], []⟩
def dd__law_first_within : He.DefD := ⟨("_law_first_within", none), "_law_first_within", "_law_first_within", defArgs st__law_first_within, defBody st__law_first_within, defScope st__law_first_within, [], []⟩
def dd_first_within : He.DefD := ⟨("first_within", none), "first_within", "first_within", defArgs st_first_within, defBody st_first_within, defScope st_first_within, [], []⟩
def dd_fewest_lines : He.DefD := ⟨("fewest_lines", none), "fewest_lines", "fewest_lines", defArgs st_fewest_lines, defBody st_fewest_lines, defScope st_fewest_lines, [], []⟩
def dd_best_order : He.DefD := ⟨("best_order", none), "best_order", "best_order", defArgs st_best_order, defBody st_best_order, defScope st_best_order, [], []⟩
def dd_in_order : He.DefD := ⟨("in_order", none), "in_order", "in_order", defArgs st_in_order, defBody st_in_order, defScope st_in_order, [], []⟩
def dd_fewest_by_order : He.DefD := ⟨("fewest_by_order", none), "fewest_by_order", "fewest_by_order", defArgs st_fewest_by_order, defBody st_fewest_by_order, defScope st_fewest_by_order, [], []⟩
def dd_gain_of_order : He.DefD := ⟨("gain_of_order", none), "gain_of_order", "gain_of_order", defArgs st_gain_of_order, defBody st_gain_of_order, defScope st_gain_of_order, [], []⟩
def dd__law_mixed : He.DefD := ⟨("_law_mixed", none), "_law_mixed", "_law_mixed", defArgs st__law_mixed, defBody st__law_mixed, defScope st__law_mixed, [], []⟩
def dd_columns : He.DefD := ⟨("columns", none), "columns", "columns", defArgs st_columns, defBody st_columns, defScope st_columns, [], []⟩
def dd_page_rows : He.DefD := ⟨("page_rows", none), "page_rows", "page_rows", defArgs st_page_rows, defBody st_page_rows, defScope st_page_rows, [], []⟩
def dd_least_width : He.DefD := ⟨("least_width", none), "least_width", "least_width", defArgs st_least_width, defBody st_least_width, defScope st_least_width, [], []⟩
def dd__law_are_columns : He.DefD := ⟨("_law_are_columns", none), "_law_are_columns", "_law_are_columns", defArgs st__law_are_columns, defBody st__law_are_columns, defScope st__law_are_columns, [], []⟩
def dd_row_lines : He.DefD := ⟨("row_lines", none), "row_lines", "row_lines", defArgs st_row_lines, defBody st_row_lines, defScope st_row_lines, [], []⟩
def dd_sheet_lines : He.DefD := ⟨("sheet_lines", none), "sheet_lines", "sheet_lines", defArgs st_sheet_lines, defBody st_sheet_lines, defScope st_sheet_lines, [], []⟩
def dd_law : He.DefD := ⟨("law", none), "law", "law", defArgs st_law, defBody st_law, defScope st_law, [], []⟩
def fn : List He.DefD := [dd__law_bag, dd__law_lines, dd__law_row_lines, dd_cells_in, dd_laid, dd__law_alike, dd__law_take, dd__law_some, dd__law_sheet, dd__law_steps, dd_begun, dd_text_lines, dd_texts_of, dd_lines_at, dd_heights_by, dd_all_lines, dd_narrowest, dd_widest_text, dd_line_steps, dd_best_widths, dd__law_best, dd__law_wide, dd_cut, dd_widths, dd_width, dd__law_first_within, dd_first_within, dd_fewest_lines, dd_best_order, dd_in_order, dd_fewest_by_order, dd_gain_of_order, dd__law_mixed, dd_columns, dd_page_rows, dd_least_width, dd__law_are_columns, dd_row_lines, dd_sheet_lines, dd_law]
def fa : List He.Fa := [.glo "_law_bag", .glo "_law_lines", .glo "_law_row_lines", .glo "cells_in", .glo "laid", .glo "_law_alike", .glo "_law_take", .glo "_law_some", .glo "_law_sheet", .glo "_law_steps", .glo "begun", .glo "text_lines", .glo "texts_of", .glo "lines_at", .glo "heights_by", .glo "all_lines", .glo "narrowest", .glo "widest_text", .glo "line_steps", .glo "best_widths", .glo "_law_best", .glo "_law_wide", .glo "cut", .glo "widths", .glo "width", .glo "_law_first_within", .glo "first_within", .glo "fewest_lines", .glo "best_order", .glo "in_order", .glo "fewest_by_order", .glo "gain_of_order", .glo "_law_mixed", .glo "columns", .glo "page_rows", .glo "least_width", .glo "_law_are_columns", .glo "row_lines", .glo "sheet_lines", .glo "law", .free "len", .free "sum", .free "max", .free "min", .free "abs", .free "int", .free "str", .free "bool", .free "list", .free "tuple", .free "dict", .free "range", .free "zip", .free "enumerate", .free "sorted", .free "isinstance"]
abbrev R : PySem.W.OpenRow := PySem.W.OpenLaw.row PySem.Challenge.rw_dotbooks_k31_whole_sixty_entries_in_colu
abbrev hk : PySem.W.Hook := He.hookD 4 fa fn
def ob (s : PySem.W.SharedT) : He.AlD := He.obsDG 4 fa fn (HandSHeadRun.getT s)
theorem ob_eq (s : PySem.W.SharedT) : ob s = hk.obs s.abs := He.obsDG_eq (HandSHeadRun.getT_eq s)
abbrev loose : List PySem.Str := (["cells_in", "laid", "text_lines", "row_lines", "sheet_lines", "texts_of", "narrowest", "lines_at", "widest_text", "line_steps", "heights_by", "begun"] : List PySem.Str) ++ (["all_lines", "best_widths", "cut", "columns", "widths", "width", "first_within", "fewest_lines", "page_rows", "best_order", "in_order", "least_width"] : List PySem.Str) ++ (["fewest_by_order", "gain_of_order", "_law_bag", "_law_take", "_law_some", "_law_mixed", "_law_alike", "_law_wide", "_law_first_within", "_law_lines", "_law_row_lines", "_law_steps"] : List PySem.Str) ++ (["_law_best", "_law_are_columns", "_law_sheet"] : List PySem.Str)
theorem run (w : World) : HandSHeadRun.RunEq R (PySem.W.view R.prog [43]) hk ob 3520 loose w := by
  intro os
  kernel_rfl
theorem facts {P : Program} {w : World} {K : PySem.W.Frag} {h : Heap} {mg : Str → Option Value} {f : Addr} (X : K.In h) (G : h.Ns mainGlobals mg) (hfa : mg ("law" : Str) = some (.ref f)) (c : He.SaysD fa fn K) :
    ∃ fd : FuncData, (∀ (s : Shared) (v : Value), BindsTo s fd ⟨[v], []⟩ [("script", v)]) ∧ ∀ base : Heap, K.In base → base.Ns mainGlobals mg → FnOk P w K mg base CX0 8 f fd ["script"] (spP K pf_law) := by
  have B : Blt mg := ⟨He.free_ok X G (c.fact 40 (f := .free "len") rfl), He.free_ok X G (c.fact 41 (f := .free "sum") rfl), He.free_ok X G (c.fact 42 (f := .free "max") rfl), He.free_ok X G (c.fact 43 (f := .free "min") rfl), He.free_ok X G (c.fact 44 (f := .free "abs") rfl), He.free_ok X G (c.fact 45 (f := .free "int") rfl), He.free_ok X G (c.fact 46 (f := .free "str") rfl), He.free_ok X G (c.fact 47 (f := .free "bool") rfl), He.free_ok X G (c.fact 48 (f := .free "list") rfl), He.free_ok X G (c.fact 49 (f := .free "tuple") rfl), He.free_ok X G (c.fact 50 (f := .free "dict") rfl), He.free_ok X G (c.fact 51 (f := .free "range") rfl), He.free_ok X G (c.fact 52 (f := .free "zip") rfl), He.free_ok X G (c.fact 53 (f := .free "enumerate") rfl), He.free_ok X G (c.fact 54 (f := .free "sorted") rfl), He.free_ok X G (c.fact 55 (f := .free "isinstance") rfl)⟩
  obtain ⟨fd__law_bag, F__law_bag⟩ := c.def_ 0 (d := dd__law_bag) rfl
  obtain ⟨fd__law_lines, F__law_lines⟩ := c.def_ 1 (d := dd__law_lines) rfl
  obtain ⟨fd__law_row_lines, F__law_row_lines⟩ := c.def_ 2 (d := dd__law_row_lines) rfl
  obtain ⟨fd_cells_in, F_cells_in⟩ := c.def_ 3 (d := dd_cells_in) rfl
  obtain ⟨fd_laid, F_laid⟩ := c.def_ 4 (d := dd_laid) rfl
  obtain ⟨fd__law_alike, F__law_alike⟩ := c.def_ 5 (d := dd__law_alike) rfl
  obtain ⟨fd__law_take, F__law_take⟩ := c.def_ 6 (d := dd__law_take) rfl
  obtain ⟨fd__law_some, F__law_some⟩ := c.def_ 7 (d := dd__law_some) rfl
  obtain ⟨fd__law_sheet, F__law_sheet⟩ := c.def_ 8 (d := dd__law_sheet) rfl
  obtain ⟨fd__law_steps, F__law_steps⟩ := c.def_ 9 (d := dd__law_steps) rfl
  obtain ⟨fd_begun, F_begun⟩ := c.def_ 10 (d := dd_begun) rfl
  obtain ⟨fd_text_lines, F_text_lines⟩ := c.def_ 11 (d := dd_text_lines) rfl
  obtain ⟨fd_texts_of, F_texts_of⟩ := c.def_ 12 (d := dd_texts_of) rfl
  obtain ⟨fd_lines_at, F_lines_at⟩ := c.def_ 13 (d := dd_lines_at) rfl
  obtain ⟨fd_heights_by, F_heights_by⟩ := c.def_ 14 (d := dd_heights_by) rfl
  obtain ⟨fd_all_lines, F_all_lines⟩ := c.def_ 15 (d := dd_all_lines) rfl
  obtain ⟨fd_narrowest, F_narrowest⟩ := c.def_ 16 (d := dd_narrowest) rfl
  obtain ⟨fd_widest_text, F_widest_text⟩ := c.def_ 17 (d := dd_widest_text) rfl
  obtain ⟨fd_line_steps, F_line_steps⟩ := c.def_ 18 (d := dd_line_steps) rfl
  obtain ⟨fd_best_widths, F_best_widths⟩ := c.def_ 19 (d := dd_best_widths) rfl
  obtain ⟨fd__law_best, F__law_best⟩ := c.def_ 20 (d := dd__law_best) rfl
  obtain ⟨fd__law_wide, F__law_wide⟩ := c.def_ 21 (d := dd__law_wide) rfl
  obtain ⟨fd_cut, F_cut⟩ := c.def_ 22 (d := dd_cut) rfl
  obtain ⟨fd_widths, F_widths⟩ := c.def_ 23 (d := dd_widths) rfl
  obtain ⟨fd_width, F_width⟩ := c.def_ 24 (d := dd_width) rfl
  obtain ⟨fd__law_first_within, F__law_first_within⟩ := c.def_ 25 (d := dd__law_first_within) rfl
  obtain ⟨fd_first_within, F_first_within⟩ := c.def_ 26 (d := dd_first_within) rfl
  obtain ⟨fd_fewest_lines, F_fewest_lines⟩ := c.def_ 27 (d := dd_fewest_lines) rfl
  obtain ⟨fd_best_order, F_best_order⟩ := c.def_ 28 (d := dd_best_order) rfl
  obtain ⟨fd_in_order, F_in_order⟩ := c.def_ 29 (d := dd_in_order) rfl
  obtain ⟨fd_fewest_by_order, F_fewest_by_order⟩ := c.def_ 30 (d := dd_fewest_by_order) rfl
  obtain ⟨fd_gain_of_order, F_gain_of_order⟩ := c.def_ 31 (d := dd_gain_of_order) rfl
  obtain ⟨fd__law_mixed, F__law_mixed⟩ := c.def_ 32 (d := dd__law_mixed) rfl
  obtain ⟨fd_columns, F_columns⟩ := c.def_ 33 (d := dd_columns) rfl
  obtain ⟨fd_page_rows, F_page_rows⟩ := c.def_ 34 (d := dd_page_rows) rfl
  obtain ⟨fd_least_width, F_least_width⟩ := c.def_ 35 (d := dd_least_width) rfl
  obtain ⟨fd__law_are_columns, F__law_are_columns⟩ := c.def_ 36 (d := dd__law_are_columns) rfl
  obtain ⟨fd_row_lines, F_row_lines⟩ := c.def_ 37 (d := dd_row_lines) rfl
  obtain ⟨fd_sheet_lines, F_sheet_lines⟩ := c.def_ 38 (d := dd_sheet_lines) rfl
  obtain ⟨fd_law, F_law⟩ := c.def_ 39 (d := dd_law) rfl
  have e := hfa.symm.trans (He.glo_ok X G (c.fact 39 (f := .glo "law") rfl))
  cases e
  have b := FunD.bindsA (ps := ["script"]) F_law fun _ _ _ _ _ _ us hl => match us, hl with | [_], _ => rfl
  refine ⟨fd_law, fun s v => b s [v] rfl, fun base _ _ => ?_⟩
  have C__law_bag := cal__law_bag (P := P) (w := w) (base := base) B F__law_bag (He.glo_ok X G (c.fact 0 (f := .glo "_law_bag") rfl))
  have C__law_lines := cal__law_lines (P := P) (w := w) (base := base) B F__law_lines (He.glo_ok X G (c.fact 1 (f := .glo "_law_lines") rfl))
  have C__law_row_lines := cal__law_row_lines (P := P) (w := w) (base := base) B C__law_lines F__law_row_lines (He.glo_ok X G (c.fact 2 (f := .glo "_law_row_lines") rfl))
  have C_cells_in := cal_cells_in (P := P) (w := w) (base := base) B F_cells_in (He.glo_ok X G (c.fact 3 (f := .glo "cells_in") rfl))
  have C_laid := cal_laid (P := P) (w := w) (base := base) B C_cells_in F_laid (He.glo_ok X G (c.fact 4 (f := .glo "laid") rfl))
  have C__law_alike := cal__law_alike (P := P) (w := w) (base := base) B F__law_alike (He.glo_ok X G (c.fact 5 (f := .glo "_law_alike") rfl))
  have C__law_take := cal__law_take (P := P) (w := w) (base := base) B F__law_take (He.glo_ok X G (c.fact 6 (f := .glo "_law_take") rfl))
  have C__law_some := cal__law_some (P := P) (w := w) (base := base) B C__law_take F__law_some (He.glo_ok X G (c.fact 7 (f := .glo "_law_some") rfl))
  have C__law_sheet := cal__law_sheet (P := P) (w := w) (base := base) B C__law_some C__law_take F__law_sheet (He.glo_ok X G (c.fact 8 (f := .glo "_law_sheet") rfl))
  have C__law_steps := cal__law_steps (P := P) (w := w) (base := base) B C__law_lines F__law_steps (He.glo_ok X G (c.fact 9 (f := .glo "_law_steps") rfl))
  have C_begun := cal_begun (P := P) (w := w) (base := base) B F_begun (He.glo_ok X G (c.fact 10 (f := .glo "begun") rfl))
  have C_text_lines := cal_text_lines (P := P) (w := w) (base := base) B C_laid F_text_lines (He.glo_ok X G (c.fact 11 (f := .glo "text_lines") rfl))
  have C_texts_of := cal_texts_of (P := P) (w := w) (base := base) B F_texts_of (He.glo_ok X G (c.fact 12 (f := .glo "texts_of") rfl))
  have C_lines_at := cal_lines_at (P := P) (w := w) (base := base) B C_text_lines C_texts_of F_lines_at (He.glo_ok X G (c.fact 13 (f := .glo "lines_at") rfl))
  have C_heights_by := cal_heights_by (P := P) (w := w) (base := base) B C_lines_at F_heights_by (He.glo_ok X G (c.fact 14 (f := .glo "heights_by") rfl))
  have C_all_lines := cal_all_lines (P := P) (w := w) (base := base) B F_all_lines (He.glo_ok X G (c.fact 15 (f := .glo "all_lines") rfl))
  have C_narrowest := cal_narrowest (P := P) (w := w) (base := base) B C_texts_of F_narrowest (He.glo_ok X G (c.fact 16 (f := .glo "narrowest") rfl))
  have C_widest_text := cal_widest_text (P := P) (w := w) (base := base) B C_texts_of F_widest_text (He.glo_ok X G (c.fact 17 (f := .glo "widest_text") rfl))
  have C_line_steps := cal_line_steps (P := P) (w := w) (base := base) B C_narrowest C_widest_text C_lines_at F_line_steps (He.glo_ok X G (c.fact 18 (f := .glo "line_steps") rfl))
  have C_best_widths := cal_best_widths (P := P) (w := w) (base := base) B C_begun C_heights_by C_all_lines C_narrowest C_line_steps F_best_widths (He.glo_ok X G (c.fact 19 (f := .glo "best_widths") rfl))
  have C__law_best := cal__law_best (P := P) (w := w) (base := base) B C__law_row_lines F__law_best (He.glo_ok X G (c.fact 20 (f := .glo "_law_best") rfl))
  have C__law_wide := cal__law_wide (P := P) (w := w) (base := base) B F__law_wide (He.glo_ok X G (c.fact 21 (f := .glo "_law_wide") rfl))
  have C_cut := cal_cut (P := P) (w := w) (base := base) B F_cut (He.glo_ok X G (c.fact 22 (f := .glo "cut") rfl))
  have C_widths := cal_widths (P := P) (w := w) (base := base) B C_cut F_widths (He.glo_ok X G (c.fact 23 (f := .glo "widths") rfl))
  have C_width := cal_width (P := P) (w := w) (base := base) B C_widths F_width (He.glo_ok X G (c.fact 24 (f := .glo "width") rfl))
  have C__law_first_within := cal__law_first_within (P := P) (w := w) (base := base) B C__law_wide F__law_first_within (He.glo_ok X G (c.fact 25 (f := .glo "_law_first_within") rfl))
  have C_first_within := cal_first_within (P := P) (w := w) (base := base) B C_width F_first_within (He.glo_ok X G (c.fact 26 (f := .glo "first_within") rfl))
  have C_fewest_lines := cal_fewest_lines (P := P) (w := w) (base := base) B C_first_within F_fewest_lines (He.glo_ok X G (c.fact 27 (f := .glo "fewest_lines") rfl))
  have C_best_order := cal_best_order (P := P) (w := w) (base := base) B F_best_order (He.glo_ok X G (c.fact 28 (f := .glo "best_order") rfl))
  have C_in_order := cal_in_order (P := P) (w := w) (base := base) B C_best_order F_in_order (He.glo_ok X G (c.fact 29 (f := .glo "in_order") rfl))
  have C_fewest_by_order := cal_fewest_by_order (P := P) (w := w) (base := base) B C_first_within C_in_order F_fewest_by_order (He.glo_ok X G (c.fact 30 (f := .glo "fewest_by_order") rfl))
  have C_gain_of_order := cal_gain_of_order (P := P) (w := w) (base := base) B C_fewest_lines C_fewest_by_order F_gain_of_order (He.glo_ok X G (c.fact 31 (f := .glo "gain_of_order") rfl))
  have C__law_mixed := cal__law_mixed (P := P) (w := w) (base := base) B C__law_take F__law_mixed (He.glo_ok X G (c.fact 32 (f := .glo "_law_mixed") rfl))
  have C_columns := cal_columns (P := P) (w := w) (base := base) B C_cut F_columns (He.glo_ok X G (c.fact 33 (f := .glo "columns") rfl))
  have C_page_rows := cal_page_rows (P := P) (w := w) (base := base) B C_columns F_page_rows (He.glo_ok X G (c.fact 34 (f := .glo "page_rows") rfl))
  have C_least_width := cal_least_width (P := P) (w := w) (base := base) B C_width C_in_order F_least_width (He.glo_ok X G (c.fact 35 (f := .glo "least_width") rfl))
  have C__law_are_columns := cal__law_are_columns (P := P) (w := w) (base := base) B C__law_some C__law_take C__law_alike C__law_wide C_width C__law_first_within C_fewest_lines C_fewest_by_order C_gain_of_order C__law_mixed C_columns C_widths C_page_rows C_best_order C_least_width F__law_are_columns (He.glo_ok X G (c.fact 36 (f := .glo "_law_are_columns") rfl))
  have C_row_lines := cal_row_lines (P := P) (w := w) (base := base) B C_text_lines F_row_lines (He.glo_ok X G (c.fact 37 (f := .glo "row_lines") rfl))
  have C_sheet_lines := cal_sheet_lines (P := P) (w := w) (base := base) B C_row_lines F_sheet_lines (He.glo_ok X G (c.fact 38 (f := .glo "sheet_lines") rfl))
  exact ok_law B C__law_bag C__law_row_lines C_laid C__law_alike C__law_sheet C__law_take C__law_steps C_best_widths C__law_best C__law_are_columns C_narrowest C__law_lines C_row_lines C_sheet_lines C_line_steps F_law
end Law
open PySem PySem.W PySem.Calls PyProof.Rows
theorem PySem.Challenge.cw_dotbooks_k31_whole_sixty_entries_in_colu_holds : PySem.Challenge.rw_dotbooks_k31_whole_sixty_entries_in_colu.Holds := by
  w_on; o_law
  refine HandSHeadRun.head_any (r := OpenLaw.row PySem.Challenge.rw_dotbooks_k31_whole_sixty_entries_in_colu) (q := view (OpenLaw.row PySem.Challenge.rw_dotbooks_k31_whole_sixty_entries_in_colu).prog [43]) (H := Law.hk) (ob := Law.ob) (M := 3520) (loose := Law.loose) (d := HandSHeadRun.topDef (OpenLaw.row PySem.Challenge.rw_dotbooks_k31_whole_sixty_entries_in_colu).prog 43) (kwd := []) Law.ob_eq
    (by kernel_rfl) (fun s => by kernel_rfl) Law.run (by kernel_rfl) (by kernel_rfl) (by kernel_rfl) (by rfl) (by first | assumption | decide +kernel) (by decide +kernel) ⟨rfl, rfl, rfl, rfl, rfl, by decide +kernel⟩ ?hw ?hc
  case hw => w_witness2
  case hc =>
    refine L2.walk_ofE (l := PySem.Challenge.rw_dotbooks_k31_whole_sixty_entries_in_colu) (n := 63) (k := 8) (x := "script") (CX := L2.CX0) rfl (by decide) (by kernel_rfl) ⟨rfl, by decide, by decide⟩ ?F (fun _ _ _ _ z => z)
    intro w mg fa h Y G hmg0
    obtain ⟨K, KX, c⟩ := Y
    have hmg : mg ("law" : PySem.Str) = some (.ref fa) := by
      have e : (HandSHeadRun.topDef (OpenLaw.row PySem.Challenge.rw_dotbooks_k31_whole_sixty_entries_in_colu).prog 43).name = ("law" : PySem.Str) := by kernel_rfl
      rw [← e]
      exact hmg0
    obtain ⟨fd, hb, hF⟩ := Law.facts (P := (PySem.Challenge.rw_dotbooks_k31_whole_sixty_entries_in_colu).prog) (w := w) KX G hmg c
    exact ⟨K, fd, Pd.spP K Law.pf_law, KX, hb, fun H a ns hl _ hS => Pd.law_start hS (Law.law_true ns hl), hF⟩

