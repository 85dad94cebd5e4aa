import PyProof.Rows.All
import HandS.ForMost
import HandS.Walk
import HandS.Zip
import HandS.ForExc
import HandS.CallSlots
import HandS.IsInst
import HandS.TupAny
import HandS.Style
import KE.DataCmp
import KE.DataMinMax
import KE.SortData
import KE.SortLaws
import HandS.RaiseMore
import HandS.TupMul
import HandS.Sort
import HandS.StrMore
import HandS.Iter
import KE.GoesEnum
import HandS.HeadHook4
import HandS.HeadEnd
import HandS.Head2
import HandS.Conv
import KE.KDictSum
import KE.KDictCopyH
import PyProof.CollectStr
import HandS.More
import HandS.WordsDict
import HandS.TupLen
import PyProof.EqAt
import HandS.Deep
import HandS.SetFor
import HandS.DictComp
import HandS.Dict
import KE.KDictPairs
import HandS.Small
import HandS.TupSets
import PySem.Challenge.RW_orchardrows_k77_whole_rims_round_places
import HandS.HeadWalk
set_option Elab.async false
set_option linter.all false
set_option maxRecDepth 100000
set_option maxHeartbeats 4000000
/-! Mi: own data, own evaluator, and what the model does by it -/
namespace Mi
open PySem PySem.Spec PyProof.Rows L2

/-! ### data -/
inductive D where
  | non | bl (b : Bool) | int (i : Int) | str (x : Str)
  | tup (ds : List D) | ktup (ds : List D) | lst (ds : List D) | rol (ds : List D) | dct (t : Bool) (ks vs : List D)
  | loc (n : Nat) | fn (n : Nat)
/-- an object that defs change, known to several of them: a list -/
inductive MO where
  | lst (ds : List D)
  | dead
abbrev Mh := List MO
inductive Cel where
  | no | sh (d : D) | ol (ds : List D) | od (t : Bool) (ks vs : List D)
abbrev En := List Cel
/-- an exception: its class's number, its limit -/
structure Exn where
  k : Nat
  lim : Option Int
inductive Rs (α : Type) where
  | ok (a : α) (m : Mh) | er (x : Exn) (m : Mh) | no
abbrev Ev := En → Mh → Rs D
abbrev Bv := En → Mh → Rs Bool

structure Cn where
  K : PySem.W.Frag
  fa : Nat → Option Addr
  ca : Nat → Option Addr

def keyD : Key → D
  | .inl i => .int i
  | .inr x => .str x
def keyOk : Key → Prop
  | .inl _ => True
  | .inr x => PySem.PyData.strOk x = true

/-- a tuple known to have no dict of its own -/
def SqN (K : PySem.W.Frag) (H : Hp) (a : Addr) (xs : List V) : Prop :=
  (∃ o : Obj, H a = some (.frz o (.tup xs)) ∧ o.dict = none) ∨
    ∃ (o : Obj) (its : Array Value) (n : Nat), K.lookup a = some o ∧ o.cls = .type "tuple" ∧ o.data = .seq its n ∧ its.size ≤ sizeLine ∧ Vals xs its.toList ∧ o.dict = none
theorem SqN.t {K : PySem.W.Frag} {H : Hp} {a : Addr} {xs : List V} (h : SqN K H a xs) : SqT K H a xs := by
  rcases h with ⟨o, h, _⟩ | ⟨o, its, n, h1, h2, h3, h4, h5, _⟩
  · exact .inl (.inr ⟨o, h⟩)
  · exact .inr ⟨o, its, n, h1, h2, h3, h4, h5⟩
mutual
inductive Dq (c : Cn) (am : List Addr) (H : Hp) : V → D → Prop
  | non : Dq c am H .non .non
  | bl (b : Bool) : Dq c am H (.bl b) (.bl b)
  | int (i : Int) : Dq c am H (.int i) (.int i)
  | str (x : Str) : PySem.PyData.strOk x = true → Dq c am H (.str x) (.str x)
  | tup {a : Addr} {xs : List V} {ds : List D} : H a = some (.tup xs) → DqAll c am H xs ds → Dq c am H (.ref a) (.tup ds)
  | ktup {a : Addr} {xs : List V} {ds : List D} : SqN c.K H a xs → DqAll c am H xs ds → Dq c am H (.ref a) (.ktup ds)
  | lst {a : Addr} {xs : List V} {ds : List D} : H a = some (.lst xs) → DqAll c am H xs ds → Dq c am H (.ref a) (.lst ds)
  | rol {a : Addr} {xs : List V} {ds : List D} : SqL c.K H a xs → DqAll c am H xs ds → Dq c am H (.ref a) (.rol ds)
  | dk {a : Addr} {fo : Obj} {kvs : List (Key × V)} {ds : List D} : H a = some (.frz fo (.dK kvs)) → (∀ p ∈ kvs, keyOk p.1) → DqAll c am H (kvs.map (·.2)) ds → Dq c am H (.ref a) (.dct false (kvs.map fun p => keyD p.1) ds)
  | dt {a : Addr} {fo : Obj} {kvs : List (List Key × V)} {ds : List D} : H a = some (.frz fo (.dT kvs)) → (∀ p ∈ kvs, ∀ k ∈ p.1, keyOk k) → DqAll c am H (kvs.map (·.2)) ds → Dq c am H (.ref a) (.dct true (kvs.map fun p => .tup (p.1.map keyD)) ds)
  | loc {a : Addr} {n : Nat} : am[n]? = some a → Dq c am H (.ref a) (.loc n)
  | fn {a : Addr} {n : Nat} : c.fa n = some a → Dq c am H (.ref a) (.fn n)
inductive DqAll (c : Cn) (am : List Addr) (H : Hp) : List V → List D → Prop
  | nil : DqAll c am H [] []
  | cons {v : V} {vs : List V} {d : D} {ds : List D} : Dq c am H v d → DqAll c am H vs ds → DqAll c am H (v :: vs) (d :: ds)
end

/-- H' knows all that H knows -/
def Le (H H' : Hp) : Prop := ∀ a o, H a = some o → H' a = some o
theorem Le.refl (H : Hp) : Le H H := fun _ _ h => h
theorem Le.trans {H H1 H2 : Hp} (a : Le H H1) (b : Le H1 H2) : Le H H2 := fun x o h => b x o (a x o h)
theorem Le.new {H : Hp} {p : Addr} {o : HO} (h : H p = none) : Le H (upd H p o) := fun a u e => by
  rw [upd_ne (ne_of_none e h)]; exact e
theorem Le.rd {H H' : Hp} (e : Le H H') {a : Addr} {u : HO} (h : Rd H a u) : Rd H' a u := by
  rcases h with h | ⟨o, h⟩
  · exact .inl (e a _ h)
  · exact .inr ⟨o, e a _ h⟩
theorem Le.seqL {K : PySem.W.Frag} {H H' : Hp} (e : Le H H') {a : Addr} {xs : List V} (h : SqL K H a xs) : SqL K H' a xs := by
  rcases h with h | h
  · exact .inl (e.rd h)
  · exact .inr h
theorem Le.seqT {K : PySem.W.Frag} {H H' : Hp} (e : Le H H') {a : Addr} {xs : List V} (h : SqT K H a xs) : SqT K H' a xs := by
  rcases h with h | h
  · exact .inl (e.rd h)
  · exact .inr h
theorem Le.seqN {K : PySem.W.Frag} {H H' : Hp} (e : Le H H') {a : Addr} {xs : List V} (h : SqN K H a xs) : SqN K H' a xs := by
  rcases h with ⟨o, h, h2⟩ | h
  · exact .inl ⟨o, e _ _ h, h2⟩
  · exact .inr h
/-- am' goes on from am -/
def Go (am am' : List Addr) : Prop := ∀ (n : Nat) (a : Addr), am[n]? = some a → am'[n]? = some a
theorem Go.refl (am : List Addr) : Go am am := fun _ _ h => h
theorem Go.trans {a b d : List Addr} (x : Go a b) (y : Go b d) : Go a d := fun n z h => y n z (x n z h)

section
variable {c : Cn} {am am' : List Addr} {H H' : Hp}
mutual
theorem Dq.mono (g : Go am am') (e : Le H H') : ∀ (d : D) (v : V), Dq c am H v d → Dq c am' H' v d
  | .non, _, h => by cases h; exact .non
  | .bl _, _, h => by cases h; exact .bl _
  | .int _, _, h => by cases h; exact .int _
  | .str _, _, h => by cases h with | str _ k => exact .str _ k
  | .tup ds, _, h => by cases h with | tup s r => exact .tup (e _ _ s) (DqAll.mono g e ds _ r)
  | .ktup ds, _, h => by cases h with | ktup s r => exact .ktup (e.seqN s) (DqAll.mono g e ds _ r)
  | .lst ds, _, h => by cases h with | lst s r => exact .lst (e _ _ s) (DqAll.mono g e ds _ r)
  | .rol ds, _, h => by cases h with | rol s r => exact .rol (e.seqL s) (DqAll.mono g e ds _ r)
  | .dct t ks vs, _, h => by
    cases h with
    | dk s k r => exact .dk (e _ _ s) k (DqAll.mono g e vs _ r)
    | dt s k r => exact .dt (e _ _ s) k (DqAll.mono g e vs _ r)
  | .loc _, _, h => by cases h with | loc q => exact .loc (g _ _ q)
  | .fn _, _, h => by cases h with | fn q => exact .fn q
theorem DqAll.mono (g : Go am am') (e : Le H H') : ∀ (ds : List D) (vs : List V), DqAll c am H vs ds → DqAll c am' H' vs ds
  | [], _, h => by cases h; exact .nil
  | d :: ds, _, h => by cases h with | cons r rs => exact .cons (Dq.mono g e d _ r) (DqAll.mono g e ds _ rs)
end
theorem Dq.up {d : D} {v : V} (h : Dq c am H v d) (g : Go am am') (e : Le H H') : Dq c am' H' v d := Dq.mono g e d v h
theorem DqAll.up {ds : List D} {vs : List V} (h : DqAll c am H vs ds) (g : Go am am') (e : Le H H') : DqAll c am' H' vs ds := DqAll.mono g e ds vs h
theorem DqAll.length {vs : List V} : ∀ {ds : List D}, DqAll c am H vs ds → vs.length = ds.length := by
  induction vs with
  | nil => intro ds h; cases h; rfl
  | cons v vs ih => intro ds h; cases h with | cons r rs => simp only [List.length_cons, ih rs]
theorem DqAll.append {vs ws : List V} : ∀ {ds es : List D}, DqAll c am H vs ds → DqAll c am H ws es → DqAll c am H (vs ++ ws) (ds ++ es) := by
  induction vs with
  | nil => intro ds es h k; cases h; exact k
  | cons v vs ih => intro ds es h k; cases h with | cons r rs => exact .cons r (ih rs k)
theorem DqAll.one {v : V} {d : D} (h : Dq c am H v d) : DqAll c am H [v] [d] := .cons h .nil
theorem DqAll.get {vs : List V} : ∀ {ds : List D} {i : Nat} {v : V}, DqAll c am H vs ds → vs[i]? = some v → ∃ d, ds[i]? = some d ∧ Dq c am H v d := by
  induction vs with
  | nil => intro ds i v _ e; simp at e
  | cons w vs ih =>
    intro ds i v h e
    cases h with
    | cons r rs =>
      cases i with
      | zero => simp only [List.getElem?_cons_zero, Option.some.injEq] at e; subst e; exact ⟨_, rfl, r⟩
      | succ i => rw [List.getElem?_cons_succ] at e; obtain ⟨d, h1, h2⟩ := ih rs e; exact ⟨d, by rw [List.getElem?_cons_succ]; exact h1, h2⟩
theorem DqAll.get' {vs : List V} : ∀ {ds : List D} {i : Nat} {d : D}, DqAll c am H vs ds → ds[i]? = some d → ∃ v, vs[i]? = some v ∧ Dq c am H v d := by
  induction vs with
  | nil => intro ds i v h e; cases h; simp at e
  | cons w vs ih =>
    intro ds i v h e
    cases h with
    | cons r rs =>
      cases i with
      | zero => simp only [List.getElem?_cons_zero, Option.some.injEq] at e; subst e; exact ⟨_, rfl, r⟩
      | succ i => rw [List.getElem?_cons_succ] at e; obtain ⟨d, h1, h2⟩ := ih rs e; exact ⟨d, by rw [List.getElem?_cons_succ]; exact h1, h2⟩
theorem DqAll.take {vs : List V} : ∀ {ds : List D} (n : Nat), DqAll c am H vs ds → DqAll c am H (vs.take n) (ds.take n) := by
  induction vs with
  | nil => intro ds n h; cases h; simp; exact .nil
  | cons w vs ih =>
    intro ds n h
    cases h with
    | cons r rs => cases n with
      | zero => exact .nil
      | succ n => exact .cons r (ih n rs)
theorem DqAll.drop {vs : List V} : ∀ {ds : List D} (n : Nat), DqAll c am H vs ds → DqAll c am H (vs.drop n) (ds.drop n) := by
  induction vs with
  | nil => intro ds n h; cases h; simp; exact .nil
  | cons w vs ih =>
    intro ds n h
    cases h with
    | cons r rs => cases n with
      | zero => exact .cons r rs
      | succ n => exact ih n rs
theorem DqAll.reverse {vs : List V} : ∀ {ds : List D}, DqAll c am H vs ds → DqAll c am H vs.reverse ds.reverse := by
  induction vs with
  | nil => intro ds h; cases h; exact .nil
  | cons w vs ih => intro ds h; cases h with | cons r rs => rw [List.reverse_cons, List.reverse_cons]; exact (ih rs).append (.one r)
theorem DqAll.set {v : V} {d : D} (q : Dq c am H v d) {vs : List V} : ∀ {ds : List D} (n : Nat), DqAll c am H vs ds → DqAll c am H (vs.set n v) (ds.set n d) := by
  induction vs with
  | nil => intro ds n h; cases h; exact .nil
  | cons w vs ih =>
    intro ds n h
    cases h with
    | cons r rs => cases n with
      | zero => exact .cons q rs
      | succ n => exact .cons r (ih n rs)
theorem DqAll.repl {v : V} {d : D} (q : Dq c am H v d) : ∀ n : Nat, DqAll c am H (List.replicate n v) (List.replicate n d)
  | 0 => .nil
  | n + 1 => .cons q (DqAll.repl q n)
end

/-! ### slots and the whole relation -/
def SlotOk (c : Cn) (F : Hp) (am : List Addr) (Hk H : Hp) : Option V → Cel → Prop
  | _, .no => True
  | v, .sh d => ∃ x, v = some x ∧ Dq c am Hk x d
  | v, .ol ds => ∃ a xs, v = some (.ref a) ∧ Hk a = none ∧ F a = none ∧ a ∉ am ∧ H a = some (.lst xs) ∧ DqAll c am Hk xs ds
  | v, .od t ks ds => ∃ a, v = some (.ref a) ∧ Hk a = none ∧ F a = none ∧ a ∉ am ∧
      ((t = false ∧ ∃ kvs : List (Key × V), H a = some (.dK kvs) ∧ (∀ p ∈ kvs, keyOk p.1) ∧ ks = kvs.map (fun p => keyD p.1) ∧ DqAll c am Hk (kvs.map (·.2)) ds) ∨
       (t = true ∧ ∃ kvs : List (List Key × V), H a = some (.dT kvs) ∧ (∀ p ∈ kvs, ∀ k ∈ p.1, keyOk k) ∧ ks = kvs.map (fun p => .tup (p.1.map keyD)) ∧ DqAll c am Hk (kvs.map (·.2)) ds))
def Cel.own : Cel → Bool
  | .ol _ => true
  | .od _ _ _ => true
  | _ => false
def MoOk (c : Cn) (am : List Addr) (Hk H : Hp) (a : Addr) : MO → Prop
  | .lst ds => Hk a = none ∧ ∃ xs, H a = some (.lst xs) ∧ DqAll c am Hk xs ds
  | .dead => ∃ u, H a = some u ∧ Hk a = some u
/-- slot i is the owner of a -/
def Owns (σ : L2.St) (env : En) (i : Nat) (a : Addr) : Prop := σ[i]? = some (some (.ref a)) ∧ ∃ s, env[i]? = some s ∧ s.own = true

structure Rl (c : Cn) (F : Hp) (am : List Addr) (Hk H : Hp) (σ : L2.St) (env : En) (mh : Mh) : Prop where
  known : Le Hk H
  frame : ∀ (a : Addr) (o : HO), F a = some o → H a = some o ∧ Hk a = none ∧ a ∉ am
  len : env.length = σ.length
  slot : ∀ (i : Nat) (s : Cel), env[i]? = some s → SlotOk c F am Hk H (σ[i]?.join) s
  sep : ∀ (i j : Nat) (a : Addr), Owns σ env i a → Owns σ env j a → i = j
  nd : am.Nodup
  mlen : mh.length = am.length
  mo : ∀ (n : Nat) (a : Addr) (o : MO), am[n]? = some a → mh[n]? = some o → MoOk c am Hk H a o
  tups : ∀ (a : Addr) (xs : List V), H a = some (.tup xs) → Hk a = some (.tup xs)

section
variable {c : Cn} {F : Hp} {am am' : List Addr} {Hk Hk' H H' : Hp} {σ : L2.St} {env : En} {mh mh' : Mh}
theorem SlotOk.up {v : Option V} {s : Cel} (h : SlotOk c F am Hk H v s) (e : Le Hk Hk') (hH : ∀ a o, s.own = true → v = some (.ref a) → H a = some o → H' a = some o ∧ Hk' a = none) : SlotOk c F am Hk' H' v s := by
  cases s with
  | no => trivial
  | sh d => obtain ⟨x, e1, q⟩ := h; exact ⟨x, e1, q.up (Go.refl _) e⟩
  | ol ds =>
    obtain ⟨a, xs, e1, e2, e3, e4, e5, q⟩ := h
    obtain ⟨k1, k2⟩ := hH a _ rfl e1 e5
    exact ⟨a, xs, e1, k2, e3, e4, k1, q.up (Go.refl _) e⟩
  | od t ks ds =>
    obtain ⟨a, e1, e2, e3, e4, q⟩ := h
    rcases q with ⟨et, kvs, e5, e6, e7, q⟩ | ⟨et, kvs, e5, e6, e7, q⟩
    · obtain ⟨k1, k2⟩ := hH a _ rfl e1 e5
      exact ⟨a, e1, k2, e3, e4, .inl ⟨et, kvs, k1, e6, e7, q.up (Go.refl _) e⟩⟩
    · obtain ⟨k1, k2⟩ := hH a _ rfl e1 e5
      exact ⟨a, e1, k2, e3, e4, .inr ⟨et, kvs, k1, e6, e7, q.up (Go.refl _) e⟩⟩
theorem SlotOk.there {v : Option V} {s : Cel} (h : SlotOk c F am Hk H v s) (ho : s.own = true) : ∃ a o, v = some (.ref a) ∧ H a = some o ∧ Hk a = none ∧ a ∉ am ∧ F a = none := by
  cases s with
  | no => cases ho
  | sh d => cases ho
  | ol ds => obtain ⟨a, xs, e1, e2, e3, e4, e5, q⟩ := h; exact ⟨a, _, e1, e5, e2, e4, e3⟩
  | od t ks ds =>
    obtain ⟨a, e1, e2, e3, e4, q⟩ := h
    rcases q with ⟨et, kvs, e5, _⟩ | ⟨et, kvs, e5, _⟩
    · exact ⟨a, _, e1, e5, e2, e4, e3⟩
    · exact ⟨a, _, e1, e5, e2, e4, e3⟩
theorem MoOk.up {a : Addr} {o : MO} (h : MoOk c am Hk H a o) (e : Le Hk Hk') (hH : ∀ u, H a = some u → H' a = some u ∧ (Hk a = none → Hk' a = none)) : MoOk c am Hk' H' a o := by
  cases o with
  | lst ds => obtain ⟨e0, xs, e1, q⟩ := h; exact ⟨(hH _ e1).2 e0, xs, (hH _ e1).1, q.up (Go.refl _) e⟩
  | dead => obtain ⟨u, e1, e2⟩ := h; exact ⟨u, (hH _ e1).1, e _ _ e2⟩
theorem MoOk.there {a : Addr} {o : MO} (h : MoOk c am Hk H a o) : ∃ u, H a = some u := by
  cases o with
  | lst ds => obtain ⟨_, xs, e1, _⟩ := h; exact ⟨_, e1⟩
  | dead => obtain ⟨u, e1, _⟩ := h; exact ⟨_, e1⟩
/-- a new object, known -/
theorem Rl.alloc {p : Addr} {o : HO} (R : Rl c F am Hk H σ env mh) (hp : H p = none) : Rl c F am (upd Hk p o) (upd H p o) σ env mh := by
  have hk : Hk p = none := by
    cases q : Hk p with
    | none => rfl
    | some u => rw [R.known p u q] at hp; cases hp
  have le : Le Hk (upd Hk p o) := Le.new hk
  refine ⟨fun a u e => ?_, fun a u e => ?_, R.len, fun i s e => ?_, R.sep, R.nd, R.mlen, fun n a u e1 e2 => ?_, fun a xs e => ?_⟩
  · by_cases z : a = p
    · subst z; rw [upd_same] at e ⊢; exact e
    · rw [upd_ne z] at e ⊢; exact R.known a u e
  · obtain ⟨h1, h2, h3⟩ := R.frame a u e
    have z : a ≠ p := ne_of_none h1 hp
    rw [upd_ne z, upd_ne z]; exact ⟨h1, h2, h3⟩
  · refine (R.slot i s e).up le fun a u ho ev h => ?_
    have z : a ≠ p := ne_of_none h hp
    obtain ⟨a', o', e1, e2, e3, _⟩ := (R.slot i s e).there ho
    rw [ev] at e1; cases e1
    rw [upd_ne z, upd_ne z]; exact ⟨h, e3⟩
  · have h2 := R.mo n a u e1 e2
    obtain ⟨w, hw⟩ := h2.there
    have z : a ≠ p := ne_of_none hw hp
    exact h2.up le fun u' h => by rw [upd_ne z, upd_ne z]; exact ⟨h, fun h => h⟩
  · by_cases z : a = p
    · subst z; rw [upd_same] at e ⊢; exact e
    · rw [upd_ne z] at e ⊢; exact R.tups a xs e
theorem Rl.hk_none {p : Addr} (R : Rl c F am Hk H σ env mh) (hp : H p = none) : Hk p = none := by
  cases q : Hk p with
  | none => rfl
  | some u => rw [R.known p u q] at hp; cases hp
theorem Rl.f_none {p : Addr} (R : Rl c F am Hk H σ env mh) (hp : H p = none) : F p = none := by
  cases q : F p with
  | none => rfl
  | some u => rw [(R.frame p u q).1] at hp; cases hp
theorem Rl.am_not {p : Addr} (R : Rl c F am Hk H σ env mh) (hp : H p = none) : p ∉ am := fun hm => by
  obtain ⟨n, hn⟩ := List.getElem?_of_mem hm
  have hl : n < mh.length := by rw [R.mlen]; exact (List.getElem?_eq_some_iff.mp hn).1
  obtain ⟨w, hw⟩ := (R.mo n p _ hn (List.getElem?_eq_getElem hl)).there
  rw [hp] at hw; cases hw
theorem Rl.old_not {p : Addr} (R : Rl c F am Hk H σ env mh) (hp : H p = none) (i : Nat) : ¬ Owns σ env i p := fun ⟨h1, s, h2, h3⟩ => by
  obtain ⟨a, o, e1, e2, _⟩ := (R.slot i s h2).there h3
  rw [h1] at e1; cases e1
  rw [hp] at e2; cases e2
end
end Mi

set_option Elab.async false
set_option linter.all false
set_option maxRecDepth 100000
set_option maxHeartbeats 4000000
namespace Mi
open PySem PySem.Spec PyProof.Rows L2

def Rs.bind {α β : Type} (r : Rs α) (f : α → Mh → Rs β) : Rs β :=
  match r with
  | .ok a m => f a m
  | .er x m => .er x m
  | .no => .no
def LIM : Nat := 1000000
theorem LIM_le : LIM ≤ sizeLine := by rw [sizeLine_eq]; decide

/-- what stands for an exception -/
def ExIs (c : Cn) (x : Exn) (cls : Value) (dd : Option Addr) (H : Hp) : Prop :=
  (∃ C, c.ca x.k = some C ∧ cls = .ref C) ∧ match x.lim with
    | none => dd = none
    | some i => ∃ d, dd = some d ∧ H d = some (.xd [(("limit" : Str), .int i)])

section
variable (c : Cn) (W : WX) (F : Hp) (am : List Addr) (Hk : Hp) (σ : L2.St) (env : En) {α β : Type} (rel : List Addr → Hp → β → α → Prop)
/-- what is wanted behind an evaluation that comes to r -/
def GP (r : Rs α) (Q : β → Hp → Prop) : Prop :=
  match r with
  | .ok d mh' => ∀ v am' Hk' H', Go am am' → Le Hk Hk' → Rl c F am' Hk' H' σ env mh' → rel am' Hk' v d → Q v H'
  | .er x mh' => ∀ cls dd am' Hk' H', Go am am' → Le Hk Hk' → Rl c F am' Hk' H' σ env mh' → ExIs c x cls dd H' → W cls dd σ H'
  | .no => False
end
section
variable {c : Cn} {W : WX} {F : Hp} {am am' : List Addr} {Hk Hk' H H' : Hp} {σ : L2.St} {env : En} {mh mh' : Mh} {α β γ δ : Type} {rel1 : List Addr → Hp → β → α → Prop} {rel2 : List Addr → Hp → δ → γ → Prop}
theorem GP.later {r : Rs α} {Q : β → Hp → Prop} (h : GP c W F am Hk σ env rel1 r Q) (g : Go am am') (e : Le Hk Hk') : GP c W F am' Hk' σ env rel1 r Q := by
  cases r with
  | ok d m => exact fun v am2 Hk2 H2 g2 e2 R q => h v am2 Hk2 H2 (g.trans g2) (e.trans e2) R q
  | er x m => exact fun cls dd am2 Hk2 H2 g2 e2 R q => h cls dd am2 Hk2 H2 (g.trans g2) (e.trans e2) R q
  | no => exact h
theorem GP.step {r : Rs α} {f : α → Mh → Rs γ} {Q : δ → Hp → Prop} {K : β → Hp → Prop} (h : GP c W F am Hk σ env rel2 (r.bind f) Q)
    (k : ∀ d mh1, r = .ok d mh1 → ∀ v am1 Hk1 H1, Go am am1 → Le Hk Hk1 → Rl c F am1 Hk1 H1 σ env mh1 → rel1 am1 Hk1 v d → GP c W F am1 Hk1 σ env rel2 (f d mh1) Q → K v H1) : GP c W F am Hk σ env rel1 r K := by
  cases r with
  | ok d m =>
    intro v am1 Hk1 H1 g e R q
    exact k d m rfl v am1 Hk1 H1 g e R q (GP.later (r := f d m) h g e)
  | er x m => exact h
  | no => exact h
end

abbrev relD (c : Cn) : List Addr → Hp → V → D → Prop := fun am H v d => Dq c am H v d
abbrev relB : List Addr → Hp → Bool → Bool → Prop := fun _ _ b b' => b = b'
abbrev relA (c : Cn) : List Addr → Hp → List V → List D → Prop := fun am H v d => DqAll c am H v d
abbrev Av := En → Mh → Rs (List D)
structure SE (c : Cn) (W : WX) (X : Cx) (e : Expr) (m : Ev) : Prop where
  ex : ∃ t : TE, PE X e t ∧ ∀ F am Hk H σ env mh Q, Rl c F am Hk H σ env mh → GP c W F am Hk σ env (relD c) (m env mh) Q → t σ H Q
structure ST (c : Cn) (W : WX) (X : Cx) (e : Expr) (m : Bv) : Prop where
  ex : ∃ t : TT, PT X e t ∧ ∀ F am Hk H σ env mh Q, Rl c F am Hk H σ env mh → GP c W F am Hk σ env relB (m env mh) Q → t σ H Q
structure SA (c : Cn) (W : WX) (X : Cx) (es : List Expr) (m : Av) : Prop where
  ex : ∃ t : TA, PA X es t ∧ ∀ F am Hk H σ env mh Q, Rl c F am Hk H σ env mh → GP c W F am Hk σ env (relA c) (m env mh) Q → t σ H Q

section
variable {c : Cn} {W : WX} {X : Cx}
/-! ### names, constants -/
def mVar (i : Nat) : Ev := fun env mh => match env[i]? with
  | some (.sh d) => .ok d mh
  | _ => .no
theorem se_var (i : Nat) {x : Str} {pos : Pos} (hN : X.N[i]? = some x := by rfl) (hv : Vis X.env.scope x := by first | exact Or.inl rfl | exact Or.inr (Or.inl rfl) | exact Or.inr (Or.inr rfl)) (hd : (x == ("__debug__" : Str)) = false := by decide)
    (hcd : (x == ("__classdict__" : Str)) = false := by decide) : SE c W X (.Name x pos) (mVar i) := by
  refine ⟨_, pe_var hN hv hd hcd, fun F am Hk H σ env mh Q R h => ?_⟩
  unfold mVar at h
  split at h
  · rename_i d e
    obtain ⟨v, e1, q⟩ := R.slot i _ e
    refine ⟨v, ?_, h v am Hk H (Go.refl _) (Le.refl _) R q⟩
    cases z : σ[i]? with
    | none => rw [z] at e1; cases e1
    | some u => rw [z] at e1; rw [show u = some v from e1]
  · exact h.elim
def mC (d : D) : Ev := fun _ mh => .ok d mh
theorem se_of_c {e : Expr} {v : V} {d : D} (h : PE X e (tC v)) (q : ∀ am H, Dq c am H v d) : SE c W X e (mC d) :=
  ⟨_, h, fun F am Hk H σ env mh Q R g => g v am Hk H (Go.refl _) (Le.refl _) R (q am Hk)⟩
theorem se_int {i : Int} {j : Nat} {pos : Pos} : SE c W X (.Constant (.int i) j pos) (mC (.int i)) := se_of_c pe_int fun _ _ => .int i
theorem se_bl {b : Bool} {j : Nat} {pos : Pos} : SE c W X (.Constant (.bool b) j pos) (mC (.bl b)) := se_of_c pe_bl fun _ _ => .bl b
theorem se_non {j : Nat} {pos : Pos} : SE c W X (.Constant .none j pos) (mC .non) := se_of_c pe_non fun _ _ => .non
theorem se_str {x : Str} {j : Nat} {pos : Pos} (h : PySem.PyData.strOk x = true := by decide +kernel) : SE c W X (.Constant (.str x) j pos) (mC (.str x)) := se_of_c pe_str fun _ _ => .str x h
/-- a constant of the module -/
theorem se_glob {x : Str} {pos : Pos} {u : Value} {v : V} {d : D} (hm : X.mg x = some u) (r : RelV v u) (q : ∀ am H, Dq c am H v d) (hg : Gl X x := by rfl) (hd : (x == ("__debug__" : Str)) = false := by decide) : SE c W X (.Name x pos) (mC d) :=
  se_of_c (pe_glob hg hm r hd) q

/-! ### argument lists -/
def mNil : Av := fun _ mh => .ok [] mh
def mCons (m : Ev) (ms : Av) : Av := fun env mh => (m env mh).bind fun d mh1 => (ms env mh1).bind fun ds mh2 => .ok (d :: ds) mh2
theorem sa_nil : SA c W X [] mNil := ⟨_, pa_nil, fun F am Hk H σ env mh Q R h => h [] am Hk H (Go.refl _) (Le.refl _) R .nil⟩
theorem sa_cons {e : Expr} {es : List Expr} {m : Ev} {ms : Av} (he : SE c W X e m) (hs : SA c W X es ms) (h0 : starEach (e :: es) X.env = (false, eval e X.env) :: starEach es X.env := by rfl) : SA c W X (e :: es) (mCons m ms) := by
  obtain ⟨t, p, k⟩ := he
  obtain ⟨ts, ps, ks⟩ := hs
  refine ⟨_, pa_cons p ps h0, fun F am Hk H σ env mh Q R h => ?_⟩
  refine k F am Hk H σ env mh _ R (GP.step h fun d mh1 er v am1 Hk1 H1 g1 e1 R1 q1 h1 => ?_)
  refine ks F am1 Hk1 H1 σ env mh1 _ R1 (GP.step h1 fun ds mh2 _ vs am2 Hk2 H2 g2 e2 R2 q2 h2 => ?_)
  exact h2 (v :: vs) am2 Hk2 H2 (Go.refl _) (Le.refl _) R2 (.cons (q1.up g2 e2) q2)

/-! ### what an operation on values does -/
/-- r serves f -/
def R2Ok (c : Cn) (r : R2) (f : D → D → Option D) : Prop := ∀ F am Hk H σ env mh x y dx dy d (Q : VK), Rl c F am Hk H σ env mh → Dq c am Hk x dx → Dq c am Hk y dy → f dx dy = some d →
  (∀ v Hk' H', Le Hk Hk' → Rl c F am Hk' H' σ env mh → Dq c am Hk' v d → Q v H') → r x y H Q
def RAOk (c : Cn) (r : List V → Hp → VK → Prop) (f : List D → Option D) : Prop := ∀ F am Hk H σ env mh vs ds d (Q : VK), Rl c F am Hk H σ env mh → DqAll c am Hk vs ds → f ds = some d →
  (∀ v Hk' H', Le Hk Hk' → Rl c F am Hk' H' σ env mh → Dq c am Hk' v d → Q v H') → r vs H Q
def RMOk (c : Cn) (T : String) (r : V → List V → Hp → VK → Prop) (f : D → List D → Option D) : Prop := ∀ F am Hk H σ env mh x vs dx ds d (Q : VK), Rl c F am Hk H σ env mh → Dq c am Hk x dx → DqAll c am Hk vs ds → f dx ds = some d →
  (∀ v Hk' H', Le Hk Hk' → Rl c F am Hk' H' σ env mh → Dq c am Hk' v d → Q v H') → r x vs H Q
def lift {α : Type} (o : Option α) (mh : Mh) : Rs α := match o with
  | some d => .ok d mh
  | none => .no
theorem lift_ok {α : Type} {o : Option α} {mh : Mh} {W : WX} {F : Hp} {am : List Addr} {Hk : Hp} {σ : L2.St} {env : En} {β : Type} {rel : List Addr → Hp → β → α → Prop} {Q : β → Hp → Prop} (h : GP c W F am Hk σ env rel (lift o mh) Q) :
    ∃ d, o = some d ∧ ∀ v am' Hk' H', Go am am' → Le Hk Hk' → Rl c F am' Hk' H' σ env mh → rel am' Hk' v d → Q v H' := by
  cases o with
  | none => exact h.elim
  | some d => exact ⟨d, rfl, h⟩
def m2 (f : D → D → Option D) (ma mb : Ev) : Ev := fun env mh => (ma env mh).bind fun x mh1 => (mb env mh1).bind fun y mh2 => lift (f x y) mh2
theorem op2_ok {r : R2} {f : D → D → Option D} (hr : R2Ok c r f) {a b : Expr} {ma mb : Ev} {ta tb : TE}
    (ka : ∀ F am Hk H σ env mh Q, Rl c F am Hk H σ env mh → GP c W F am Hk σ env (relD c) (ma env mh) Q → ta σ H Q)
    (kb : ∀ F am Hk H σ env mh Q, Rl c F am Hk H σ env mh → GP c W F am Hk σ env (relD c) (mb env mh) Q → tb σ H Q) :
    ∀ F am Hk H σ env mh Q, Rl c F am Hk H σ env mh → GP c W F am Hk σ env (relD c) (m2 f ma mb env mh) Q → tOp r ta tb σ H Q := by
  intro F am Hk H σ env mh Q R h
  refine ka F am Hk H σ env mh _ R (GP.step h fun d mh1 er v am1 Hk1 H1 g1 e1 R1 q1 h1 => ?_)
  refine kb F am1 Hk1 H1 σ env mh1 _ R1 (GP.step h1 fun d2 mh2 _ v2 am2 Hk2 H2 g2 e2 R2 q2 h2 => ?_)
  obtain ⟨z, ez, hz⟩ := lift_ok h2
  exact hr F am2 Hk2 H2 σ env mh2 v v2 d d2 z Q R2 (q1.up g2 e2) q2 ez fun v' Hk' H' le R' q' => hz v' am2 Hk' H' (Go.refl _) le R' q'
theorem se_op {op : Operator} {r : R2} {f : D → D → Option D} {a b : Expr} {ma mb : Ev} {pos : Pos} (ho : OpR X (binaryOp op) r) (hr : R2Ok c r f) (ha : SE c W X a ma) (hb : SE c W X b mb) : SE c W X (.BinOp a op b pos) (m2 f ma mb) := by
  obtain ⟨ta, pa, ka⟩ := ha
  obtain ⟨tb, pb, kb⟩ := hb
  exact ⟨_, pe_op ho pa pb, op2_ok (a := a) (b := b) hr ka kb⟩
theorem se_cmp {op : CmpOp} {r : R2} {f : D → D → Option D} {a b : Expr} {ma mb : Ev} {pos : Pos} (ho : OpR X (compareOp op) r) (hr : R2Ok c r f) (ha : SE c W X a ma) (hb : SE c W X b mb) (hm : behindInMarks op b = false := by rfl) : SE c W X (.Compare a [op] [b] pos) (m2 f ma mb) := by
  obtain ⟨ta, pa, ka⟩ := ha
  obtain ⟨tb, pb, kb⟩ := hb
  exact ⟨_, pe_cmpR ho pa pb hm, op2_ok (a := a) (b := b) hr ka kb⟩
/-- a value as a test -/
def mT (m : Ev) : Bv := fun env mh => (m env mh).bind fun d mh1 => match d with
  | .bl b => .ok b mh1
  | _ => .no
theorem st_of {m : Ev} {te : TE} {tt : TT} (k : ∀ F am Hk H σ env mh Q, Rl c F am Hk H σ env mh → GP c W F am Hk σ env (relD c) (m env mh) Q → te σ H Q) (ht : ∀ σ H Q, te σ H (fun x H' => ∃ b, x = .bl b ∧ Q b H') → tt σ H Q) :
    ∀ F am Hk H σ env mh Q, Rl c F am Hk H σ env mh → GP c W F am Hk σ env relB (mT m env mh) Q → tt σ H Q := by
  intro F am Hk H σ env mh Q R h
  refine ht σ H Q (k F am Hk H σ env mh _ R (GP.step h fun d mh1 er v am1 Hk1 H1 g1 e1 R1 q1 h1 => ?_))
  cases d <;> first | exact h1.elim | skip
  cases q1
  exact ⟨_, rfl, h1 _ am1 Hk1 H1 (Go.refl _) (Le.refl _) R1 rfl⟩
theorem st_cmp {op : CmpOp} {r : R2} {f : D → D → Option D} {a b : Expr} {ma mb : Ev} {pos : Pos} (ho : OpR X (compareOp op) r) (hr : R2Ok c r f) (ha : SE c W X a ma) (hb : SE c W X b mb) (hm : behindInMarks op b = false := by rfl) : ST c W X (.Compare a [op] [b] pos) (mT (m2 f ma mb)) := by
  obtain ⟨ta, pa, ka⟩ := ha
  obtain ⟨tb, pb, kb⟩ := hb
  exact ⟨_, pt_cmpR ho pa pb hm, st_of (op2_ok (a := a) (b := b) hr ka kb) fun _ _ _ h => h⟩
theorem st_val {e : Expr} {m : Ev} (h : SE c W X e m) (he : ∀ whole, isTrue e X.env whole = (do let v ← whole; standAt e.pos; holding [v] (truthy v)) := by intro _; rfl) : ST c W X e (mT m) := by
  obtain ⟨t, p, k⟩ := h
  exact ⟨_, pt_val p he, st_of k fun _ _ _ h => h⟩
/-! and, or, not, if -/
structure SW (c : Cn) (W : WX) (X : Cx) (e : Expr) (m : Bv) : Prop where
  ex : ∃ t : TT, PW X e t ∧ ∀ F am Hk H σ env mh Q, Rl c F am Hk H σ env mh → GP c W F am Hk σ env relB (m env mh) Q → t σ H Q
theorem SW.st {e : Expr} {m : Bv} (h : SW c W X e m) : ST c W X e m := by
  obtain ⟨t, p, k⟩ := h
  exact ⟨t, p.pt, k⟩
def mAnd (a b : Bv) : Bv := fun env mh => (a env mh).bind fun x mh1 => if x = true then b env mh1 else .ok false mh1
def mOr (a b : Bv) : Bv := fun env mh => (a env mh).bind fun x mh1 => if x = true then .ok true mh1 else b env mh1
def mNot (a : Bv) : Bv := fun env mh => (a env mh).bind fun x mh1 => .ok (!x) mh1
theorem sw_and1 {a : Expr} {m : Bv} {pos : Pos} (h : ST c W X a m) : SW c W X (.BoolOp .And [a] pos) m := by
  obtain ⟨t, p, k⟩ := h
  exact ⟨t, pw_and1 p, k⟩
theorem sw_or1 {a : Expr} {m : Bv} {pos : Pos} (h : ST c W X a m) : SW c W X (.BoolOp .Or [a] pos) m := by
  obtain ⟨t, p, k⟩ := h
  exact ⟨t, pw_or1 p, k⟩
theorem sw_and {a b : Expr} {rest : List Expr} {ma mb : Bv} {pos : Pos} (ha : ST c W X a ma) (hb : SW c W X (.BoolOp .And (b :: rest) pos) mb) : SW c W X (.BoolOp .And (a :: b :: rest) pos) (mAnd ma mb) := by
  obtain ⟨ta, pa, ka⟩ := ha
  obtain ⟨tb, pb, kb⟩ := hb
  refine ⟨_, pw_and pa pb, fun F am Hk H σ env mh Q R h => ?_⟩
  refine ka F am Hk H σ env mh _ R (GP.step h fun d mh1 er v am1 Hk1 H1 g1 e1 R1 q1 h1 => ?_)
  rw [show v = d from q1]
  cases d with
  | true => exact kb F am1 Hk1 H1 σ env mh1 _ R1 h1
  | false => exact h1 false am1 Hk1 H1 (Go.refl _) (Le.refl _) R1 rfl
theorem sw_or {a b : Expr} {rest : List Expr} {ma mb : Bv} {pos : Pos} (ha : ST c W X a ma) (hb : SW c W X (.BoolOp .Or (b :: rest) pos) mb) : SW c W X (.BoolOp .Or (a :: b :: rest) pos) (mOr ma mb) := by
  obtain ⟨ta, pa, ka⟩ := ha
  obtain ⟨tb, pb, kb⟩ := hb
  refine ⟨_, pw_or pa pb, fun F am Hk H σ env mh Q R h => ?_⟩
  refine ka F am Hk H σ env mh _ R (GP.step h fun d mh1 er v am1 Hk1 H1 g1 e1 R1 q1 h1 => ?_)
  rw [show v = d from q1]
  cases d with
  | true => exact h1 true am1 Hk1 H1 (Go.refl _) (Le.refl _) R1 rfl
  | false => exact kb F am1 Hk1 H1 σ env mh1 _ R1 h1
theorem st_not {a : Expr} {m : Bv} {pos : Pos} (ha : ST c W X a m) : ST c W X (.UnaryOp .Not a pos) (mNot m) := by
  obtain ⟨ta, pa, ka⟩ := ha
  refine ⟨_, pt_not pa, fun F am Hk H σ env mh Q R h => ?_⟩
  refine ka F am Hk H σ env mh _ R (GP.step h fun d mh1 er v am1 Hk1 H1 g1 e1 R1 q1 h1 => ?_)
  rw [show v = d from q1]
  exact h1 _ am1 Hk1 H1 (Go.refl _) (Le.refl _) R1 rfl
/-- as values -/
def mAndV (a b : Ev) : Ev := fun env mh => (a env mh).bind fun x mh1 => match x with
  | .bl true => b env mh1
  | .bl false => .ok (.bl false) mh1
  | _ => .no
def mOrV (a b : Ev) : Ev := fun env mh => (a env mh).bind fun x mh1 => match x with
  | .bl false => b env mh1
  | .bl true => .ok (.bl true) mh1
  | _ => .no
def mNotV (a : Ev) : Ev := fun env mh => (a env mh).bind fun x mh1 => match x with
  | .bl b => .ok (.bl (!b)) mh1
  | _ => .no
theorem se_one {op : BoolOp} {a : Expr} {m : Ev} {pos : Pos} (h : SE c W X a m) : SE c W X (.BoolOp op [a] pos) m := by
  obtain ⟨t, p, k⟩ := h
  exact ⟨t, pe_one p, k⟩
theorem se_and {a b : Expr} {rest : List Expr} {ma mb : Ev} {pos : Pos} (ha : SE c W X a ma) (hb : SE c W X (.BoolOp .And (b :: rest) pos) mb) : SE c W X (.BoolOp .And (a :: b :: rest) pos) (mAndV ma mb) := by
  obtain ⟨ta, pa, ka⟩ := ha
  obtain ⟨tb, pb, kb⟩ := hb
  refine ⟨_, pe_and pa pb, fun F am Hk H σ env mh Q R h => ?_⟩
  refine ka F am Hk H σ env mh _ R (GP.step h fun d mh1 er v am1 Hk1 H1 g1 e1 R1 q1 h1 => ?_)
  cases d <;> first | exact h1.elim | skip
  rename_i bb
  cases q1
  cases bb with
  | true => exact ⟨true, rfl, kb F am1 Hk1 H1 σ env mh1 _ R1 h1⟩
  | false => exact ⟨false, rfl, h1 _ am1 Hk1 H1 (Go.refl _) (Le.refl _) R1 (.bl false)⟩
theorem se_or {a b : Expr} {rest : List Expr} {ma mb : Ev} {pos : Pos} (ha : SE c W X a ma) (hb : SE c W X (.BoolOp .Or (b :: rest) pos) mb) : SE c W X (.BoolOp .Or (a :: b :: rest) pos) (mOrV ma mb) := by
  obtain ⟨ta, pa, ka⟩ := ha
  obtain ⟨tb, pb, kb⟩ := hb
  refine ⟨_, pe_or pa pb, fun F am Hk H σ env mh Q R h => ?_⟩
  refine ka F am Hk H σ env mh _ R (GP.step h fun d mh1 er v am1 Hk1 H1 g1 e1 R1 q1 h1 => ?_)
  cases d <;> first | exact h1.elim | skip
  rename_i bb
  cases q1
  cases bb with
  | true => exact ⟨true, rfl, h1 _ am1 Hk1 H1 (Go.refl _) (Le.refl _) R1 (.bl true)⟩
  | false => exact ⟨false, rfl, kb F am1 Hk1 H1 σ env mh1 _ R1 h1⟩
theorem se_not {a : Expr} {ma : Ev} {pos : Pos} (ha : SE c W X a ma) : SE c W X (.UnaryOp .Not a pos) (mNotV ma) := by
  obtain ⟨ta, pa, ka⟩ := ha
  refine ⟨_, pe_not pa, fun F am Hk H σ env mh Q R h => ?_⟩
  refine ka F am Hk H σ env mh _ R (GP.step h fun d mh1 er v am1 Hk1 H1 g1 e1 R1 q1 h1 => ?_)
  cases d <;> first | exact h1.elim | skip
  cases q1
  exact ⟨_, rfl, h1 _ am1 Hk1 H1 (Go.refl _) (Le.refl _) R1 (.bl _)⟩
def mIf (t : Bv) (a b : Ev) : Ev := fun env mh => (t env mh).bind fun x mh1 => if x = true then a env mh1 else b env mh1
theorem se_if {q a b : Expr} {mt : Bv} {ma mb : Ev} {pos : Pos} (ht : ST c W X q mt) (ha : SE c W X a ma) (hb : SE c W X b mb) : SE c W X (.IfExp q a b pos) (mIf mt ma mb) := by
  obtain ⟨tt, pt, kt⟩ := ht
  obtain ⟨ta, pa, ka⟩ := ha
  obtain ⟨tb, pb, kb⟩ := hb
  refine ⟨_, pe_ifExp pt pa pb, fun F am Hk H σ env mh Q R h => ?_⟩
  refine kt F am Hk H σ env mh _ R (GP.step h fun d mh1 er v am1 Hk1 H1 g1 e1 R1 q1 h1 => ?_)
  rw [show v = d from q1]
  cases d with
  | true => exact ka F am1 Hk1 H1 σ env mh1 _ R1 h1
  | false => exact kb F am1 Hk1 H1 σ env mh1 _ R1 h1

/-! ### displays -/
theorem new_ok {F : Hp} {am : List Addr} {Hk H : Hp} {σ : L2.St} {env : En} {mh : Mh} {Q : VK} {d : D} {o : HO} (R : Rl c F am Hk H σ env mh)
    (q : ∀ p, H p = none → Dq c am (upd Hk p o) (.ref p) d)
    (h : ∀ v Hk' H', Le Hk Hk' → Rl c F am Hk' H' σ env mh → Dq c am Hk' v d → Q v H') : ∀ p, H p = none → Q (.ref p) (upd H p o) := fun p hp =>
  h (.ref p) _ _ (Le.new (R.hk_none hp)) (R.alloc hp) (q p hp)
theorem dq_tup {am : List Addr} {H : Hp} {p : Addr} {xs : List V} {ds : List D} (hp : H p = none) (q : DqAll c am H xs ds) : Dq c am (upd H p (.tup xs)) (.ref p) (.tup ds) :=
  .tup upd_same (q.up (Go.refl _) (Le.new hp))
theorem dq_lst {am : List Addr} {H : Hp} {p : Addr} {xs : List V} {ds : List D} (hp : H p = none) (q : DqAll c am H xs ds) : Dq c am (upd H p (.lst xs)) (.ref p) (.lst ds) :=
  .lst upd_same (q.up (Go.refl _) (Le.new hp))
def mTup (ms : Av) : Ev := fun env mh => (ms env mh).bind fun ds mh1 => if ds.length ≤ LIM then .ok (.tup ds) mh1 else .no
def mLst (ms : Av) : Ev := fun env mh => (ms env mh).bind fun ds mh1 => if ds.length ≤ LIM then .ok (.lst ds) mh1 else .no
theorem se_tup {es : List Expr} {ms : Av} {k : Nat} {pos : Pos} (h : SA c W X es ms) : SE c W X (.Tuple es k pos) (mTup ms) := by
  obtain ⟨t, p, k⟩ := h
  refine ⟨_, pe_tup p, fun F am Hk H σ env mh Q R h => ?_⟩
  refine k F am Hk H σ env mh _ R (GP.step h fun ds mh1 _ vs am1 Hk1 H1 g1 e1 R1 q1 h1 => ?_)
  by_cases hl : ds.length ≤ LIM
  · rw [if_pos hl] at h1
    refine ⟨by rw [q1.length]; exact Nat.le_trans hl LIM_le, new_ok R1 (fun p hp => dq_tup (R1.hk_none hp) q1) fun v Hk' H' le R' q' => h1 v am1 Hk' H' (Go.refl _) le R' q'⟩
  · rw [if_neg hl] at h1; exact h1.elim
theorem se_lst {es : List Expr} {ms : Av} {pos : Pos} (h : SA c W X es ms) : SE c W X (.List es pos) (mLst ms) := by
  obtain ⟨t, p, k⟩ := h
  refine ⟨_, pe_lst p, fun F am Hk H σ env mh Q R h => ?_⟩
  refine k F am Hk H σ env mh _ R (GP.step h fun ds mh1 _ vs am1 Hk1 H1 g1 e1 R1 q1 h1 => ?_)
  by_cases hl : ds.length ≤ LIM
  · rw [if_pos hl] at h1
    refine ⟨by rw [q1.length]; exact Nat.le_trans hl LIM_le, new_ok R1 (fun p hp => dq_lst (R1.hk_none hp) q1) fun v Hk' H' le R' q' => h1 v am1 Hk' H' (Go.refl _) le R' q'⟩
  · rw [if_neg hl] at h1; exact h1.elim

/-! ### built-ins by name -/
def mB (f : List D → Option D) (ms : Av) : Ev := fun env mh => (ms env mh).bind fun ds mh1 => lift (f ds) mh1
theorem tcb_ok {r : List V → Hp → VK → Prop} {f : List D → Option D} (hr : RAOk c r f) {ms : Av} {t : TA}
    (k : ∀ F am Hk H σ env mh Q, Rl c F am Hk H σ env mh → GP c W F am Hk σ env (relA c) (ms env mh) Q → t σ H Q) :
    ∀ F am Hk H σ env mh Q, Rl c F am Hk H σ env mh → GP c W F am Hk σ env (relD c) (mB f ms env mh) Q → tCB r t σ H Q := by
  intro F am Hk H σ env mh Q R h
  refine k F am Hk H σ env mh _ R (GP.step h fun ds mh1 _ vs am1 Hk1 H1 g1 e1 R1 q1 h1 => ?_)
  obtain ⟨z, ez, hz⟩ := lift_ok h1
  exact hr F am1 Hk1 H1 σ env mh1 vs ds z Q R1 q1 ez fun v' Hk' H' le R' q' => hz v' am1 Hk' H' (Go.refl _) le R' q'
theorem se_callB {id : String} {r : List V → Hp → VK → Prop} {f : List D → Option D} {x : Str} {e : Expr} {es : List Expr} {ms : Av} {p pos : Pos} (hc : CallR X (.builtin id) r) (hr : RAOk c r f) (hm : X.mg x = none) (hv : bootBuiltins x = some (.builtin id)) (ha : SA c W X (e :: es) ms)
    (hg : Gl X x := by rfl) (hn : x ≠ "__name__" := by decide) (hdb : (x == ("__debug__" : Str)) = false := by decide)
    (he : starEach (e :: es) X.env = (false, eval e X.env) :: starEach es X.env := by rfl) (hpl : (backTo pos (starEach es X.env)).any (·.1) = false := by rfl) : SE c W X (.Call (.Name x p) (e :: es) [] pos) (mB f ms) := by
  obtain ⟨t, pa, k⟩ := ha
  exact ⟨_, pe_callB hc hg hm hv pa hn hdb he hpl, tcb_ok hr k⟩
theorem se_callTy {T : String} {r : List V → Hp → VK → Prop} {f : List D → Option D} {x : Str} {e : Expr} {es : List Expr} {ms : Av} {p pos : Pos} (hc : CallR X (.type T) r) (hr : RAOk c r f) (hm : X.mg x = none) (hv : bootBuiltins x = some (.type T)) (ha : SA c W X (e :: es) ms)
    (hg : Gl X x := by rfl) (hn : x ≠ "__name__" := by decide) (hdb : (x == ("__debug__" : Str)) = false := by decide)
    (he : starEach (e :: es) X.env = (false, eval e X.env) :: starEach es X.env := by rfl) (hpl : (backTo pos (starEach es X.env)).any (·.1) = false := by rfl) : SE c W X (.Call (.Name x p) (e :: es) [] pos) (mB f ms) := by
  obtain ⟨t, pa, k⟩ := ha
  exact ⟨_, pe_callTy hc hg hm hv pa hn hdb he hpl, tcb_ok hr k⟩
end
end Mi

set_option Elab.async false
set_option linter.all false
set_option maxRecDepth 100000
set_option maxHeartbeats 400000
namespace Mi
open PySem PySem.Spec PyProof.Rows L2

/-! ### data as the library's data -/
mutual
def D.plain : D → Bool
  | .tup ds => plains ds
  | .ktup ds => plains ds
  | .lst ds => plains ds
  | .rol _ => false
  | .dct _ _ _ => false
  | .loc _ => false
  | .fn _ => false
  | _ => true
def plains : List D → Bool
  | [] => true
  | d :: ds => d.plain && plains ds
end
mutual
def D.dep : D → Nat
  | .tup ds => deps ds + 1
  | .ktup ds => deps ds + 1
  | .lst ds => deps ds + 1
  | _ => 0
def deps : List D → Nat
  | [] => 0
  | d :: ds => max d.dep (deps ds)
end
mutual
def D.py : D → PyData
  | .non => .none
  | .bl b => .bool b
  | .int i => .int i
  | .str x => .str x
  | .tup ds => .tuple (pys ds)
  | .ktup ds => .tuple (pys ds)
  | .lst ds => .list (pys ds)
  | .rol _ => .dict []
  | .dct _ _ _ => .dict []
  | .loc _ => .dict []
  | .fn _ => .dict []
def pys : List D → List PyData
  | [] => []
  | d :: ds => d.py :: pys ds
end
def D.fine (d : D) : Bool := d.plain && decide (d.dep ≤ 64)
def eqv (a b : D) : Bool := PyData.eqv a.py b.py
theorem pys_map : ∀ ds : List D, pys ds = ds.map D.py
  | [] => rfl
  | d :: ds => by rw [pys, pys_map ds]; rfl

section
variable {c : Cn} {am : List Addr} {H : Hp}
mutual
theorem Dq.dp : ∀ (d : D) (v : V), d.plain = true → Dq c am H v d → Dp c.K H v d.py ∧ d.py.canLay0 = true ∧ d.py.depth = d.dep
  | .non, _, _, h => by cases h; exact ⟨.non, by simp [D.py, PyData.canLay0], by simp [D.py, PyData.depth, D.dep]⟩
  | .bl _, _, _, h => by cases h; exact ⟨.bl _, by simp [D.py, PyData.canLay0], by simp [D.py, PyData.depth, D.dep]⟩
  | .int _, _, _, h => by cases h; exact ⟨.int _, by simp [D.py, PyData.canLay0], by simp [D.py, PyData.depth, D.dep]⟩
  | .str _, _, _, h => by cases h with | str _ k => exact ⟨.str _, by simp [D.py, PyData.canLay0, k], by simp [D.py, PyData.depth, D.dep]⟩
  | .tup ds, _, p, h => by
    cases h with
    | tup s r =>
      obtain ⟨h1, h2, h3⟩ := DqAll.dp ds _ (by simpa [D.plain] using p) r
      exact ⟨by rw [D.py]; exact .tup (.of s) h1, by simp [D.py, PyData.canLay0, h2], by simp [D.py, PyData.depth, D.dep, h3]⟩
  | .ktup ds, _, p, h => by
    cases h with
    | ktup s r =>
      obtain ⟨h1, h2, h3⟩ := DqAll.dp ds _ (by simpa [D.plain] using p) r
      exact ⟨by rw [D.py]; exact .tup s.t h1, by simp [D.py, PyData.canLay0, h2], by simp [D.py, PyData.depth, D.dep, h3]⟩
  | .lst ds, _, p, h => by
    cases h with
    | lst s r =>
      obtain ⟨h1, h2, h3⟩ := DqAll.dp ds _ (by simpa [D.plain] using p) r
      exact ⟨by rw [D.py]; exact .lst (.of s) h1, by simp [D.py, PyData.canLay0, h2], by simp [D.py, PyData.depth, D.dep, h3]⟩
  | .rol _, _, p, _ => by simp [D.plain] at p
  | .dct _ _ _, _, p, _ => by simp [D.plain] at p
  | .loc _, _, p, _ => by simp [D.plain] at p
  | .fn _, _, p, _ => by simp [D.plain] at p
theorem DqAll.dp : ∀ (ds : List D) (vs : List V), plains ds = true → DqAll c am H vs ds → DpAll c.K H vs (pys ds) ∧ PyData.canLayAll0 (pys ds) = true ∧ PyData.depthAll (pys ds) = deps ds
  | [], _, _, h => by cases h; exact ⟨.nil, by simp [pys, PyData.canLayAll0], by simp [pys, PyData.depthAll, deps]⟩
  | d :: ds, _, p, h => by
    cases h with
    | cons r rs =>
      have p' : d.plain = true ∧ plains ds = true := by simpa [plains] using p
      obtain ⟨h1, h2, h3⟩ := Dq.dp d _ p'.1 r
      obtain ⟨k1, k2, k3⟩ := DqAll.dp ds _ p'.2 rs
      exact ⟨by rw [pys]; exact .cons h1 k1, by simp [pys, PyData.canLayAll0, h2, k2], by simp [pys, PyData.depthAll, deps, h3, k3]⟩
end
theorem fine_of {d : D} (h : d.fine = true) : d.plain = true ∧ d.dep ≤ 64 := by
  simpa [D.fine] using h
theorem Dq.shaped {d : D} {v : V} (h : d.fine = true) (q : Dq c am H v d) : Dp c.K H v d.py ∧ SeqAt.shaped d.py = true := by
  obtain ⟨p, l⟩ := fine_of h
  obtain ⟨h1, h2, h3⟩ := Dq.dp d v p q
  exact ⟨h1, by show (d.py.canLay0 && decide (d.py.depth ≤ 64)) = true; rw [h2, h3, decide_eq_true l]; rfl⟩
end

/-! ### == and != -/
def dEq (a b : D) : Option D := if a.fine && b.fine then some (.bl (eqv a b)) else none
def dNe (a b : D) : Option D := if a.fine && b.fine then some (.bl (!eqv a b)) else none
section
variable {c : Cn}
theorem r_eq : R2Ok c (rEqD c.K) dEq := by
  intro F am Hk H σ env mh x y dx dy d Q R qx qy e h
  unfold dEq at e
  split at e
  · rename_i hf
    have hf' : dx.fine = true ∧ dy.fine = true := by simpa using hf
    obtain ⟨p1, s1⟩ := (qx.up (Go.refl _) R.known).shaped hf'.1
    obtain ⟨p2, s2⟩ := (qy.up (Go.refl _) R.known).shaped hf'.2
    cases e
    exact ⟨_, _, p1, p2, s1, s2, h _ Hk H (Le.refl _) R (.bl _)⟩
  · cases e
theorem r_ne : R2Ok c (rNeD c.K) dNe := by
  intro F am Hk H σ env mh x y dx dy d Q R qx qy e h
  unfold dNe at e
  split at e
  · rename_i hf
    have hf' : dx.fine = true ∧ dy.fine = true := by simpa using hf
    obtain ⟨p1, s1⟩ := (qx.up (Go.refl _) R.known).shaped hf'.1
    obtain ⟨p2, s2⟩ := (qy.up (Go.refl _) R.known).shaped hf'.2
    cases e
    exact ⟨_, _, p1, p2, s1, s2, h _ Hk H (Le.refl _) R (.bl _)⟩
  · cases e
end

/-! ### in -/
def rInS (K : PySem.W.Frag) (neg : Bool) : R2 := fun x y H Q => ∃ d ds, Dp K H x d ∧ (Dp K H y (.list ds) ∨ Dp K H y (.tuple ds)) ∧ SeqAt.shaped d = true ∧ SeqAt.shaped (.list ds) = true ∧
  Q (.bl (if neg then !(ds.any fun z => PyData.eqv z d) else ds.any fun z => PyData.eqv z d)) H
section
variable {X : Cx}
theorem op_inS (hu : X.A.units + 65 < cLine) : OpR X (compareOp .In) (rInS X.K false) := by
  intro pins s σ H x y v u Q I rx ry h
  obtain ⟨d, ds, hd, he, sd, se, q⟩ := h
  obtain ⟨as, r1⟩ := Dp.reads I d x v hd rx
  rcases he with he | he
  · obtain ⟨bs, r2⟩ := Dp.reads I (.list ds) y u he ry
    exact SeqAt.in_list_reads r2 r1 (SeqAt.canLay_of_shaped se) (SeqAt.canLay_of_shaped sd) (room_in_shaped sd hu) ⟨.bl _, H, I, rfl, q⟩
  · obtain ⟨bs, r2⟩ := Dp.reads I (.tuple ds) y u he ry
    exact SeqAt.in_tuple_reads r2 r1 (SeqAt.canLay_of_shaped se) (SeqAt.canLay_of_shaped sd) (room_in_shaped sd hu) ⟨.bl _, H, I, rfl, q⟩
theorem op_notInS (hu : X.A.units + 65 < cLine) : OpR X (compareOp .NotIn) (rInS X.K true) := by
  intro pins s σ H x y v u Q I rx ry h
  obtain ⟨d, ds, hd, he, sd, se, q⟩ := h
  obtain ⟨as, r1⟩ := Dp.reads I d x v hd rx
  rcases he with he | he
  · obtain ⟨bs, r2⟩ := Dp.reads I (.list ds) y u he ry
    exact SeqAt.notIn_list_reads r2 r1 (SeqAt.canLay_of_shaped se) (SeqAt.canLay_of_shaped sd) (room_in_shaped sd hu) ⟨.bl _, H, I, rfl, q⟩
  · obtain ⟨bs, r2⟩ := Dp.reads I (.tuple ds) y u he ry
    exact SeqAt.notIn_tuple_reads r2 r1 (SeqAt.canLay_of_shaped se) (SeqAt.canLay_of_shaped sd) (room_in_shaped sd hu) ⟨.bl _, H, I, rfl, q⟩
end
def inStr (x y : Str) : Bool := !(Builtin.Str.occurrences y x 0 y.length 1).isEmpty
/-- keys of dicts -/
def isKey : D → Bool
  | .int _ => true
  | .str _ => true
  | _ => false
def hasD (x : D) (ds : List D) : Bool := ds.any fun z => eqv z x
def dInB (x y : D) : Option Bool := match y with
  | .ktup ds => if x.fine && (D.ktup ds).fine then some (hasD x ds) else none
  | .lst ds => if x.fine && (D.lst ds).fine then some (hasD x ds) else none
  | .tup ds => if x.fine && (D.tup ds).fine then some (hasD x ds) else none
  | .str t => match x with
    | .str z => some (inStr z t)
    | _ => none
  | _ => none
def dIn (x y : D) : Option D := (dInB x y).map D.bl
def dNotIn (x y : D) : Option D := (dInB x y).map fun b => D.bl (!b)
def rInAll (K : PySem.W.Frag) (neg : Bool) : R2 := fun x y H Q => rInS K neg x y H Q ∨ ∃ i j, x = .str i ∧ y = .str j ∧ Q (.bl (if neg then !(inStr i j) else inStr i j)) H
section
variable {X : Cx} {c : Cn}
theorem op_inA (hu : X.A.units + 65 < cLine) : OpR X (compareOp .In) (rInAll X.K false) :=
  (op_inS hu).or (show OpR X (compareOp .In) (fun x y H Q => ∃ i j, x = .str i ∧ y = .str j ∧ Q (.bl (inStr i j)) H) from op_in_str)
theorem op_notInA (hu : X.A.units + 65 < cLine) : OpR X (compareOp .NotIn) (rInAll X.K true) :=
  (op_notInS hu).or (show OpR X (compareOp .NotIn) (fun x y H Q => ∃ i j, x = .str i ∧ y = .str j ∧ Q (.bl (!(inStr i j))) H) from op_notin_str)
theorem any_pys (x : D) : ∀ ds : List D, ((pys ds).any fun z => PyData.eqv z x.py) = hasD x ds
  | [] => rfl
  | d :: ds => by rw [pys, List.any_cons, any_pys x ds]; rfl
theorem r_inAll (neg : Bool) {f : D → D → Option D} (hf : ∀ x y, f x y = (dInB x y).map fun b => D.bl (if neg then !b else b)) : R2Ok c (rInAll c.K neg) f := by
  intro F am Hk H σ env mh x y dx dy d Q R qx qy e h
  rw [hf] at e
  cases hb : dInB dx dy with
  | none => rw [hb] at e; cases e
  | some b =>
    rw [hb] at e
    have e' : D.bl (if neg then !b else b) = d := Option.some.inj e
    have h' : Q (.bl (if neg then !b else b)) H := h _ Hk H (Le.refl _) R (by rw [← e']; exact .bl _)
    cases dy with
    | lst ds =>
      unfold dInB at hb
      simp only at hb
      by_cases hh : (dx.fine && (D.lst ds).fine) = true
      · rw [if_pos hh] at hb
        cases hb
        have hh' : dx.fine = true ∧ (D.lst ds).fine = true := by simpa only [Bool.and_eq_true] using hh
        obtain ⟨p1, s1⟩ := (qx.up (Go.refl _) R.known).shaped hh'.1
        obtain ⟨p2, s2⟩ := (qy.up (Go.refl _) R.known).shaped hh'.2
        rw [D.py] at p2 s2
        refine .inl ⟨_, _, p1, .inl p2, s1, s2, ?_⟩
        rw [any_pys]
        exact h'
      · rw [if_neg hh] at hb; cases hb
    | ktup ds =>
      unfold dInB at hb
      simp only at hb
      by_cases hh : (dx.fine && (D.ktup ds).fine) = true
      · rw [if_pos hh] at hb
        cases hb
        have hh' : dx.fine = true ∧ (D.ktup ds).fine = true := by simpa only [Bool.and_eq_true] using hh
        obtain ⟨p1, s1⟩ := (qx.up (Go.refl _) R.known).shaped hh'.1
        obtain ⟨p2, s2⟩ := (qy.up (Go.refl _) R.known).shaped hh'.2
        rw [D.py] at p2 s2
        refine .inl ⟨_, _, p1, .inr p2, s1, s2, ?_⟩
        rw [any_pys]
        exact h'
      · rw [if_neg hh] at hb; cases hb
    | tup ds =>
      unfold dInB at hb
      simp only at hb
      by_cases hh : (dx.fine && (D.tup ds).fine) = true
      · rw [if_pos hh] at hb
        cases hb
        have hh' : dx.fine = true ∧ (D.tup ds).fine = true := by simpa only [Bool.and_eq_true] using hh
        obtain ⟨p1, s1⟩ := (qx.up (Go.refl _) R.known).shaped hh'.1
        obtain ⟨p2, s2⟩ := (qy.up (Go.refl _) R.known).shaped hh'.2
        rw [D.py] at p2 s2
        refine .inl ⟨_, _, p1, .inr p2, s1, s2, ?_⟩
        rw [any_pys]
        exact h'
      · rw [if_neg hh] at hb; cases hb
    | str t =>
      cases dx <;> first | (cases hb; done) | skip
      cases qx
      cases qy
      cases hb
      exact .inr ⟨_, _, rfl, rfl, h'⟩
    | _ => cases hb
theorem r_in : R2Ok c (rInAll c.K false) dIn := r_inAll false fun _ _ => rfl
theorem r_notIn : R2Ok c (rInAll c.K true) dNotIn := r_inAll true fun _ _ => rfl
end

/-! ### order -/
def lt (a b : D) : Bool := PySem.W.dataLt a.py b.py
/-- alike, not None -/
def D.isNon : D → Bool
  | .non => true
  | _ => false
def ord (a b : D) : Bool := a.fine && b.fine && PySem.W.alike a.py b.py && !a.isNon
def dLt (a b : D) : Option D := if ord a b then some (.bl (lt a b)) else none
def dGt (a b : D) : Option D := if ord a b then some (.bl (lt b a)) else none
def dLe (a b : D) : Option D := if ord a b then some (.bl (!lt b a)) else none
def dGe (a b : D) : Option D := if ord a b then some (.bl (!lt a b)) else none
def rOrd (K : PySem.W.Frag) (g : PyData → PyData → Bool) : R2 := fun x y H Q => ∃ p q, Dp K H x p ∧ Dp K H y q ∧ PySem.W.alike p q = true ∧ p ≠ .none ∧ p.depth ≤ 64 ∧ Q (.bl (g p q)) H
section
variable {X : Cx} {c : Cn}
theorem min_room {A : Nat} {a b : Nat} (hu : A + 65 < cLine) (h : a ≤ 64) : A + min a b < cLine := by omega
theorem op_ltA (hu : X.A.units + 65 < cLine) : OpR X (compareOp .Lt) (rOrd X.K fun a b => PySem.W.dataLt a b) := by
  intro pins s σ H x y v u Q I rx ry h
  obtain ⟨d, e, hd, he, al, nn, dp, q⟩ := h
  obtain ⟨as, r1⟩ := Dp.reads I d x v hd rx
  obtain ⟨bs, r2⟩ := Dp.reads I e y u he ry
  exact PySem.W.lt_data r1 r2 al nn (min_room hu dp) ⟨.bl _, H, I, rfl, q⟩
theorem op_gtA (hu : X.A.units + 65 < cLine) : OpR X (compareOp .Gt) (rOrd X.K fun a b => PySem.W.dataLt b a) := by
  intro pins s σ H x y v u Q I rx ry h
  obtain ⟨d, e, hd, he, al, nn, dp, q⟩ := h
  obtain ⟨as, r1⟩ := Dp.reads I d x v hd rx
  obtain ⟨bs, r2⟩ := Dp.reads I e y u he ry
  exact PySem.W.gt_data r1 r2 al nn (min_room hu dp) ⟨.bl _, H, I, rfl, q⟩
theorem op_leA (hu : X.A.units + 65 < cLine) : OpR X (compareOp .LtE) (rOrd X.K fun a b => !PySem.W.dataLt b a) := by
  intro pins s σ H x y v u Q I rx ry h
  obtain ⟨d, e, hd, he, al, nn, dp, q⟩ := h
  obtain ⟨as, r1⟩ := Dp.reads I d x v hd rx
  obtain ⟨bs, r2⟩ := Dp.reads I e y u he ry
  exact PySem.W.le_data r1 r2 al nn (min_room hu dp) ⟨.bl _, H, I, rfl, q⟩
theorem op_geA (hu : X.A.units + 65 < cLine) : OpR X (compareOp .GtE) (rOrd X.K fun a b => !PySem.W.dataLt a b) := by
  intro pins s σ H x y v u Q I rx ry h
  obtain ⟨d, e, hd, he, al, nn, dp, q⟩ := h
  obtain ⟨as, r1⟩ := Dp.reads I d x v hd rx
  obtain ⟨bs, r2⟩ := Dp.reads I e y u he ry
  exact PySem.W.ge_data r1 r2 al nn (min_room hu dp) ⟨.bl _, H, I, rfl, q⟩
theorem py_none : ∀ {d : D}, (!d.isNon) = true → d.py ≠ .none
  | .non, h => by cases h
  | .bl _, _ => by rw [D.py]; exact fun q => nomatch q
  | .int _, _ => by rw [D.py]; exact fun q => nomatch q
  | .str _, _ => by rw [D.py]; exact fun q => nomatch q
  | .tup _, _ => by rw [D.py]; exact fun q => nomatch q
  | .ktup _, _ => by rw [D.py]; exact fun q => nomatch q
  | .lst _, _ => by rw [D.py]; exact fun q => nomatch q
  | .rol _, _ => by rw [D.py]; exact fun q => nomatch q
  | .dct _ _ _, _ => by rw [D.py]; exact fun q => nomatch q
  | .loc _, _ => by rw [D.py]; exact fun q => nomatch q
  | .fn _, _ => by rw [D.py]; exact fun q => nomatch q
theorem r_ord {g : PyData → PyData → Bool} {f : D → D → Option D} (hf : ∀ a b, f a b = if ord a b then some (.bl (g a.py b.py)) else none) : R2Ok c (rOrd c.K g) f := by
  intro F am Hk H σ env mh x y dx dy d Q R qx qy e h
  rw [hf] at e
  by_cases hh : ord dx dy = true
  · rw [if_pos hh] at e
    unfold ord at hh
    rw [Bool.and_eq_true, Bool.and_eq_true, Bool.and_eq_true] at hh
    obtain ⟨⟨⟨f1, f2⟩, al⟩, nn⟩ := hh
    obtain ⟨p, l⟩ := fine_of f1
    obtain ⟨p2, _⟩ := fine_of f2
    obtain ⟨h1, h2, h3⟩ := Dq.dp dx x p (qx.up (Go.refl _) R.known)
    obtain ⟨k1, k2, k3⟩ := Dq.dp dy y p2 (qy.up (Go.refl _) R.known)
    cases e
    exact ⟨_, _, h1, k1, al, py_none nn, by rw [h3]; exact l, h _ Hk H (Le.refl _) R (.bl _)⟩
  · rw [if_neg hh] at e; cases e
theorem r_lt : R2Ok c (rOrd c.K fun a b => PySem.W.dataLt a b) dLt := r_ord fun _ _ => rfl
theorem r_gt : R2Ok c (rOrd c.K fun a b => PySem.W.dataLt b a) dGt := r_ord fun _ _ => rfl
theorem r_le : R2Ok c (rOrd c.K fun a b => !PySem.W.dataLt b a) dLe := r_ord fun _ _ => rfl
theorem r_ge : R2Ok c (rOrd c.K fun a b => !PySem.W.dataLt a b) dGe := r_ord fun _ _ => rfl
end

/-! ### is -/
def dIsN (a b : D) : Option D := match b with
  | .non => some (.bl a.isNon)
  | .bl k => match a with
    | .bl j => some (.bl (decide (j = k)))
    | _ => none
  | _ => none
def dNotN (a b : D) : Option D := match b with
  | .non => some (.bl (!a.isNon))
  | .bl k => match a with
    | .bl j => some (.bl (!decide (j = k)))
    | _ => none
  | _ => none
section
variable {X : Cx} {c : Cn}
def rIsA : R2 := fun x y H Q => (y = .non ∧ Q (.bl (decide (x = .non))) H) ∨ rIsB x y H Q
def rNotA : R2 := fun x y H Q => (y = .non ∧ Q (.bl (!decide (x = .non))) H) ∨ rNotB x y H Q
theorem op_isA : OpR X (compareOp .Is) rIsA := op_isN.or op_isBl
theorem op_notA : OpR X (compareOp .IsNot) rNotA := op_notN.or op_notBl
theorem is_non {am : List Addr} {H : Hp} {x : V} {d : D} (q : Dq c am H x d) : decide (x = V.non) = d.isNon := by
  cases q <;> simp [D.isNon]
theorem r_is : R2Ok c rIsA dIsN := by
  intro F am Hk H σ env mh x y dx dy d Q R qx qy e h
  cases dy <;> first | (simp [dIsN] at e; done) | skip
  · cases qy
    simp only [dIsN, Option.some.injEq] at e
    subst e
    refine .inl ⟨rfl, ?_⟩
    rw [is_non qx]
    exact h _ Hk H (Le.refl _) R (.bl _)
  · cases dx <;> first | (simp [dIsN] at e; done) | skip
    cases qx
    cases qy
    cases e
    exact .inr ⟨_, _, rfl, rfl, h _ Hk H (Le.refl _) R (.bl _)⟩
theorem r_isnot : R2Ok c rNotA dNotN := by
  intro F am Hk H σ env mh x y dx dy d Q R qx qy e h
  cases dy <;> first | (simp [dNotN] at e; done) | skip
  · cases qy
    simp only [dNotN, Option.some.injEq] at e
    subst e
    refine .inl ⟨rfl, ?_⟩
    rw [is_non qx]
    exact h _ Hk H (Le.refl _) R (.bl _)
  · cases dx <;> first | (simp [dNotN] at e; done) | skip
    cases qx
    cases qy
    cases e
    exact .inr ⟨_, _, rfl, rfl, h _ Hk H (Le.refl _) R (.bl _)⟩
end
end Mi

set_option Elab.async false
set_option linter.all false
set_option maxRecDepth 100000
set_option maxHeartbeats 400000
namespace Mi
open PySem PySem.Spec PyProof.Rows L2
set_option maxHeartbeats 4000000
theorem tuple_mulSame (l : Addr) (items : Array Value) (n : Nat) (dd : Option Addr) (sl : Array (Option Value)) (x : Int) (u : Tok) (c0 : (decide (x < -(2 ^ 63)) || decide (x ≥ 2 ^ 63)) = false) (c1 : (items.isEmpty || x == 1) = true) :
    Meets (Builtin.«tuple.__mul__» ⟨[.ref l, .int x u], []⟩) (fun _ R s => s.heap.get? l = some { cls := .type "tuple", dict := dd, data := .seq items n, slots := sl } ∧ R (.ok (.ret (Value.ref l))) s) :=
  .of_wp fun prog w A R s h => by
    obtain ⟨hp, g, d, tk, os⟩ := s
    obtain ⟨hl, h⟩ := h
    have f1 := AutoSeq1.idx_int
    wp_walk using wpAny_loadPart' hl
    repeat (first
      | (refine wpAny_ite_false (decide_eq_false (by rw [c0]; exact Bool.false_ne_true)) ?_; wp_walk using wpAny_loadPart' hl)
      | (refine wpAny_ite_true (decide_eq_true c1) ?_; wp_walk using wpAny_loadPart' hl))
    all_goals first | exact ⟨_, rfl, h⟩ | skip
theorem tuple_mulNone (l : Addr) (items : Array Value) (n : Nat) (dd : Option Addr) (sl : Array (Option Value)) (x : Int) (u : Tok) (c0 : (decide (x < -(2 ^ 63)) || decide (x ≥ 2 ^ 63)) = false) (c1 : (items.isEmpty || x == 1) = false) (c2 : (decide (x ≤ 0) || items.isEmpty) = true) :
    Meets (Builtin.«tuple.__mul__» ⟨[.ref l, .int x u], []⟩) (fun _ R s => s.heap.get? l = some { cls := .type "tuple", dict := dd, data := .seq items n, slots := sl } ∧
      R (.ok (.ret (Value.ref s.heap.objs.size))) { s with heap := s.heap.push { cls := Value.type "tuple", data := Data.seq #[] }, toks := s.toks }) :=
  .of_wp fun prog w A R s h => by
    obtain ⟨hp, g, d, tk, os⟩ := s
    obtain ⟨hl, h⟩ := h
    have f1 := AutoSeq1.idx_int
    wp_walk using wpAny_loadPart' hl
    repeat (first
      | (refine wpAny_ite_false (decide_eq_false (by rw [c0]; exact Bool.false_ne_true)) ?_; wp_walk using wpAny_loadPart' hl)
      | (refine wpAny_ite_false (decide_eq_false (by rw [c1]; exact Bool.false_ne_true)) ?_; wp_walk using wpAny_loadPart' hl)
      | (refine wpAny_ite_true (decide_eq_true c2) ?_; wp_walk using wpAny_loadPart' hl))
    all_goals first | exact ⟨_, rfl, h⟩ | skip

def rRepE (K : PySem.W.Frag) : R2 := fun x y H Q => ∃ l k xs, x = .ref l ∧ y = .int k ∧ SqT K H l xs ∧ -(2 ^ 62) ≤ k ∧ k ≤ 1000 ∧ xs.length ≤ 1000 ∧ ((xs = [] ∨ k = 1) → Q (.ref l) H) ∧ (¬(xs = [] ∨ k = 1) → k ≤ 0 ∧ ∀ p, H p = none → Q (.ref p) (upd H p (.tup [])))
section
variable {X : Cx}
theorem op_repE : OpR X (binaryOp .Mult) (rRepE X.K) := by
  intro pins s σ H x y v u Q I rx ry h
  obtain ⟨l, k, xs, rfl, rfl, hT, h1, h2, hz, q1, q2⟩ := h
  cases rx
  obtain ⟨t, rfl⟩ := ry
  obtain ⟨its, r, ⟨⟨cls, dd, data, sl⟩, ho, hc, n, hd⟩, hs⟩ := I.tuple hT
  simp only at hc hd
  subst hc hd
  have hle : its.length = xs.length := r.length.symm
  have c0 : (decide (k < -(2 ^ 63)) || decide (k ≥ 2 ^ 63)) = false := by
    rw [decide_eq_false (by omega), decide_eq_false (by omega)] <;> rfl
  have he : its.toArray.isEmpty = decide (xs = []) := by
    cases its with
    | nil =>
      have : xs = [] := List.eq_nil_of_length_eq_zero hle.symm
      rw [decide_eq_true this]; rfl
    | cons a b =>
      have : xs ≠ [] := fun e => by rw [e] at hle; cases hle
      rw [decide_eq_false this]; rfl
  by_cases hh : xs = [] ∨ k = 1
  · have c1 : (its.toArray.isEmpty || k == 1) = true := by
      rw [he]
      rcases hh with hh | hh
      · rw [decide_eq_true hh]; rfl
      · rw [hh]; simp
    exact wpAny_binaryOp_repeat_ref (T := "tuple") (U := "int") (by decide) ⟨_, ho, rfl⟩ (fun s' => typeIs_int s' k t) noFill_tuple_mul F.fills_int_mul F.slot_int_rmul repeat_tuple F.slot_int_index.lookup
      (call_meets F.slot_int_rmul (typeIs_int s k t) F.entry_int_rmul (F.args_int_rmul_2 _ _) (int_rmul_tuple k t l its.toArray n dd sl)
        ⟨ho, rfl, ⟨_, ho, rfl⟩, call_meets F.slot_tuple_mul ⟨_, ho, rfl⟩ F.entry_tuple_mul (F.args_tuple_mul_2 _ _) (tuple_mulSame l its.toArray n dd sl k t c0 c1) ⟨ho, .ref l, H, I, rfl, q1 hh⟩⟩)
  · obtain ⟨k0, q2⟩ := q2 hh
    have hne : ¬ xs = [] := fun e => hh (.inl e)
    have hk1 : ¬ k = 1 := fun e => hh (.inr e)
    have c1 : (its.toArray.isEmpty || k == 1) = false := by
      rw [he, decide_eq_false hne, Bool.false_or]
      exact beq_eq_false_iff_ne.mpr hk1
    have c2 : (decide (k ≤ 0) || its.toArray.isEmpty) = true := by rw [decide_eq_true k0]; rfl
    refine wpAny_binaryOp_repeat_ref (T := "tuple") (U := "int") (by decide) ⟨_, ho, rfl⟩ (fun s' => typeIs_int s' k t) noFill_tuple_mul F.fills_int_mul F.slot_int_rmul repeat_tuple F.slot_int_index.lookup
      (call_meets F.slot_int_rmul (typeIs_int s k t) F.entry_int_rmul (F.args_int_rmul_2 _ _) (int_rmul_tuple k t l its.toArray n dd sl)
        ⟨ho, rfl, ⟨_, ho, rfl⟩, call_meets F.slot_tuple_mul ⟨_, ho, rfl⟩ F.entry_tuple_mul (F.args_tuple_mul_2 _ _) (tuple_mulNone l its.toArray n dd sl k t c0 c1 c2) ⟨ho, ?_⟩⟩)
    refine ⟨.ref s.heap.objs.size, _, I.laid (t' := s.toks) (o := .tup []) (fun b ob q => Heap.get?_push_of_some _ q) (Nat.le_refl _) ?_, rfl, q2 _ (I.hok.fresh (Nat.le_refl _))⟩
    exact ⟨by rw [sizeLine_eq]; simp, [], .nil, IsTup.new _ _⟩
end
section
variable {X : Cx} {c : Cn}

/-! ### arithmetic -/
theorem strOk_append {x y : Str} (hx : PySem.PyData.strOk x = true) (hy : PySem.PyData.strOk y = true) : PySem.PyData.strOk (x ++ y) = true := by
  have e : (x ++ y).cps = x.cps ++ y.cps := rfl
  unfold PySem.PyData.strOk at *
  rw [e, Array.all_append, hx, hy]
  rfl
def dAdd : D → D → Option D
  | .int i, .int j => some (.int (i + j))
  | .str x, .str y => if x.length + y.length ≤ LIM then some (.str (x ++ y)) else none
  | .tup xs, .tup ys => if xs.length + ys.length ≤ LIM then some (.tup (xs ++ ys)) else none
  | .lst xs, .lst ys => if xs.length + ys.length ≤ LIM then some (.lst (xs ++ ys)) else none
  | .ktup xs, .tup ys => if xs.length + ys.length ≤ LIM then (if ys.isEmpty && !xs.isEmpty then some (.ktup xs) else some (.tup (xs ++ ys))) else none
  | .tup xs, .ktup ys => if xs.length + ys.length ≤ LIM then (if xs.isEmpty then some (.ktup ys) else some (.tup (xs ++ ys))) else none
  | _, _ => none
def rAddI : R2 := rI0 fun i j => .int (i + j)
def rAddS : R2 := fun x y H Q => ∃ i j, x = .str i ∧ y = .str j ∧ i.length + j.length ≤ sizeLine ∧ Q (.str (i ++ j)) H
def rAddA (K : PySem.W.Frag) : R2 := fun x y H Q => rAddI x y H Q ∨ rAddS x y H Q ∨ rCatA K x y H Q ∨ rCat x y H Q
theorem op_addA : OpR X (binaryOp .Add) (rAddA X.K) := OpR.or (show OpR X (binaryOp .Add) rAddI from op_add) (OpR.or (show OpR X (binaryOp .Add) rAddS from op_add_str) (op_catA.or op_cat))
theorem r_add : R2Ok c (rAddA c.K) dAdd := by
  intro F am Hk H σ env mh x y dx dy d Q R qx qy e h
  cases dx with
  | int i =>
    cases dy <;> first | (cases e; done) | skip
    cases qx; cases qy; cases e
    exact .inl ⟨_, _, rfl, rfl, h _ Hk H (Le.refl _) R (.int _)⟩
  | str z =>
    cases dy <;> first | (cases e; done) | skip
    rename_i z2
    cases qx with | str _ k1 =>
    cases qy with | str _ k2 =>
    simp only [dAdd] at e
    by_cases hl : z.length + z2.length ≤ LIM
    · rw [if_pos hl] at e
      cases e
      exact .inr (.inl ⟨_, _, rfl, rfl, Nat.le_trans hl LIM_le, h _ Hk H (Le.refl _) R (.str _ (strOk_append k1 k2))⟩)
    · rw [if_neg hl] at e; cases e
  | tup xs =>
    cases dy <;> first | (cases e; done) | skip
    · rename_i ys
      cases qx with | tup s1 q1 =>
      cases qy with | tup s2 q2 =>
      simp only [dAdd] at e
      by_cases hl : xs.length + ys.length ≤ LIM
      · rw [if_pos hl] at e
        cases e
        refine .inr (.inr (.inl ⟨_, _, _, _, rfl, rfl, SqT.of (R.known _ _ s1), SqT.of (R.known _ _ s2), by rw [q1.length, q2.length]; exact Nat.le_trans hl LIM_le, ?_⟩))
        rename_i b1 vs1 b2 vs2
        refine ⟨fun z => ?_, fun _ z => ?_, fun _ _ => ?_⟩
        · subst z
          have e0 : xs = [] := by cases q1; rfl
          subst e0
          exact h _ Hk H (Le.refl _) R (.tup s2 q2)
        · subst z
          have e0 : ys = [] := by cases q2; rfl
          subst e0
          exact h _ Hk H (Le.refl _) R (by rw [List.append_nil]; exact .tup s1 q1)
        · exact new_ok R (fun p hp => dq_tup (R.hk_none hp) (q1.append q2)) h
      · rw [if_neg hl] at e; cases e
    · rename_i ys
      cases qx with | tup s1 q1 =>
      cases qy with | ktup s2 q2 =>
      simp only [dAdd] at e
      by_cases hl : xs.length + ys.length ≤ LIM
      case neg => rw [if_neg hl] at e; cases e
      rw [if_pos hl] at e
      refine .inr (.inr (.inl ⟨_, _, _, _, rfl, rfl, SqT.of (R.known _ _ s1), R.known.seqT s2.t, by rw [q1.length, q2.length]; exact Nat.le_trans hl LIM_le, ?_⟩))
      refine ⟨fun z => ?_, fun hx z => ?_, fun hx _ => ?_⟩
      · subst z
        have e0 : xs = [] := by cases q1; rfl
        subst e0
        cases e
        exact h _ Hk H (Le.refl _) R (.ktup s2 q2)
      · have e0 : xs.isEmpty = false := by cases q1 <;> first | rfl | exact absurd rfl hx
        rw [e0, if_neg (by simp)] at e
        cases e
        subst z
        have e1 : ys = [] := by cases q2; rfl
        subst e1
        exact h _ Hk H (Le.refl _) R (by rw [List.append_nil]; exact .tup s1 q1)
      · have e0 : xs.isEmpty = false := by cases q1 <;> first | rfl | exact absurd rfl hx
        rw [e0, if_neg (by simp)] at e
        cases e
        exact new_ok R (fun p hp => dq_tup (R.hk_none hp) (q1.append q2)) h
  | ktup xs =>
    cases dy <;> first | (cases e; done) | skip
    rename_i ys
    cases qx with | ktup s1 q1 =>
    cases qy with | tup s2 q2 =>
    simp only [dAdd] at e
    by_cases hl : xs.length + ys.length ≤ LIM
    case neg => rw [if_neg hl] at e; cases e
    rw [if_pos hl] at e
    refine .inr (.inr (.inl ⟨_, _, _, _, rfl, rfl, R.known.seqT s1.t, SqT.of (R.known _ _ s2), by rw [q1.length, q2.length]; exact Nat.le_trans hl LIM_le, ?_⟩))
    refine ⟨fun z => ?_, fun hx z => ?_, fun hx hy => ?_⟩
    · subst z
      have e0 : xs = [] := by cases q1; rfl
      subst e0
      simp only [List.isEmpty_nil, Bool.not_true, Bool.and_false, Bool.false_eq_true, if_false] at e
      cases e
      exact h _ Hk H (Le.refl _) R (.tup s2 q2)
    · have e0 : xs.isEmpty = false := by cases q1 <;> first | rfl | exact absurd rfl hx
      subst z
      have e1 : ys = [] := by cases q2; rfl
      subst e1
      rw [e0, if_pos (by simp)] at e
      cases e
      exact h _ Hk H (Le.refl _) R (.ktup s1 q1)
    · have e0 : ys.isEmpty = false := by cases q2 <;> first | rfl | exact absurd rfl hy
      rw [e0, if_neg (by simp)] at e
      cases e
      exact new_ok R (fun p hp => dq_tup (R.hk_none hp) (q1.append q2)) h
  | lst xs =>
    cases dy <;> first | (cases e; done) | skip
    rename_i ys
    cases qx with | lst s1 q1 =>
    cases qy with | lst s2 q2 =>
    simp only [dAdd] at e
    by_cases hl : xs.length + ys.length ≤ LIM
    · rw [if_pos hl] at e
      cases e
      refine .inr (.inr (.inr ⟨_, _, _, _, rfl, rfl, R.known _ _ s1, R.known _ _ s2, by rw [q1.length, q2.length]; exact Nat.le_trans hl LIM_le, ?_⟩))
      exact new_ok R (fun p hp => dq_lst (R.hk_none hp) (q1.append q2)) h
    · rw [if_neg hl] at e; cases e
  | _ => cases e
def dSub : D → D → Option D
  | .int i, .int j => some (.int (i - j))
  | _, _ => none
theorem r_sub : R2Ok c (rI0 fun i j => .int (i - j)) dSub := by
  intro F am Hk H σ env mh x y dx dy d Q R qx qy e h
  cases dx <;> first | (cases e; done) | skip
  cases dy <;> first | (cases e; done) | skip
  cases qx; cases qy; cases e
  exact ⟨_, _, rfl, rfl, h _ Hk H (Le.refl _) R (.int _)⟩
def small64i (i : Int) : Bool := decide (-(2 ^ 64) < i ∧ i < 2 ^ 64)
theorem strOk_rep {z : Str} (hz : PySem.PyData.strOk z = true) : ∀ n : Nat, ((List.replicate n z.cps).foldl (· ++ ·) #[]).all (· < 0x110000) = true := by
  intro n
  have gen : ∀ (n : Nat) (acc : Array Nat), acc.all (· < 0x110000) = true → ((List.replicate n z.cps).foldl (· ++ ·) acc).all (· < 0x110000) = true := by
    intro n
    induction n with
    | zero => intro acc h; exact h
    | succ n ih =>
      intro acc h
      rw [List.replicate_succ, List.foldl_cons]
      refine ih _ ?_
      rw [Array.all_append, h]
      exact hz
  exact gen n #[] (by simp)
def repStr (z : Str) (n : Nat) : Str := ⟨(List.replicate n z.cps).foldl (· ++ ·) #[]⟩
theorem repStr_length (z : Str) (n : Nat) : (repStr z n).length = n * z.length := by
  have gen : ∀ (n : Nat) (acc : Array Nat), ((List.replicate n z.cps).foldl (· ++ ·) acc).size = acc.size + n * z.cps.size := by
    intro n
    induction n with
    | zero => intro acc; simp
    | succ n ih =>
      intro acc
      rw [List.replicate_succ, List.foldl_cons, ih, Array.size_append, Nat.succ_mul]
      omega
  show ((List.replicate n z.cps).foldl (· ++ ·) #[]).size = n * z.cps.size
  rw [gen]
  simp
def dMul : D → D → Option D
  | .int i, .int j => if small64i i || small64i j then some (.int (i * j)) else none
  | .lst xs, .int k => if xs.length * k.toNat ≤ LIM && decide (-(2 ^ 63) ≤ k ∧ k < 2 ^ 63) then some (.lst (List.replicate k.toNat xs).flatten) else none
  | .str z, .int k => if z.length * k.toNat ≤ LIM && decide (0 ≤ k ∧ k < 1000) then some (.str (repStr z k.toNat)) else none
  | .tup xs, .int k => if -(2 ^ 62) ≤ k ∧ k ≤ 1000 ∧ xs.length ≤ 1000 then some (.tup (List.replicate k.toNat xs).flatten) else none
  | _, _ => none
def rMulS : R2 := fun x y H Q => ∃ z k, x = .str z ∧ y = .int k ∧ 0 ≤ k ∧ k < 1000 ∧ z.length * k.toNat ≤ LIM ∧ Q (.str (repStr z k.toNat)) H
theorem op_mulS : OpR X (binaryOp .Mult) rMulS := by
  intro pins s σ H x y v u Q I rx ry h
  obtain ⟨z, k, rfl, rfl, h0, h1, hl, q⟩ := h
  obtain ⟨t, rfl⟩ := rx
  obtain ⟨t', rfl⟩ := ry
  have hlim : LIM = 1000000 := rfl
  refine PySem.P.mul_str ?_ ?_ ?_ ?_
  · rw [decide_eq_false (show ¬ k < -(2 ^ 63) by omega), decide_eq_false (show ¬ k ≥ 2 ^ 63 by omega)]; rfl
  · intro hk _ hgt
    have hkp : (0 : Int) < k := by omega
    have h3 : ((2 ^ 63 - 1) / k) < (z.length : Int) := hgt
    have h4 : (2 ^ 63 - 1 : Int) < z.length * k := (Int.ediv_lt_iff_lt_mul hkp).mp h3
    have h5 : ((z.length * k.toNat : Nat) : Int) = z.length * k := by rw [Int.natCast_mul, Int.toNat_of_nonneg h0]
    omega
  · intro _ _
    have := LIM_le
    exact decide_eq_false (by omega)
  · by_cases hk : k < 1
    · have hk0 : k = 0 := by omega
      subst hk0
      rw [if_pos hk]
      exact ⟨by show (0 : Nat) ≤ sizeLine; exact Nat.zero_le _, .str (repStr z 0), H, I.tok _, ⟨_, rfl⟩, q⟩
    · rw [if_neg hk]
      by_cases h2 : (k == 1 || z.length == 0) = true
      · rw [if_pos h2]
        have e : repStr z k.toNat = z := by
          have gen : ∀ n : Nat, z.length = 0 → (List.replicate n z.cps).foldl (· ++ ·) (#[] : Array Nat) = #[] := by
            intro n hz
            have hz' : z.cps = #[] := Array.eq_empty_of_size_eq_zero hz
            induction n with
            | zero => rfl
            | succ n ih => rw [List.replicate_succ, List.foldl_cons, hz']; rw [hz'] at ih; exact ih
          rcases (Bool.or_eq_true _ _).mp h2 with h2 | h2
          · have hk1 : k = 1 := by simpa using h2
            subst hk1
            show repStr z 1 = z
            unfold repStr
            rw [show List.replicate 1 z.cps = [z.cps] from rfl, List.foldl_cons, List.foldl_nil, Array.empty_append]
          · have hz : z.length = 0 := by simpa using h2
            unfold repStr
            rw [gen _ hz]
            have hz' : z.cps = #[] := Array.eq_empty_of_size_eq_zero hz
            cases z
            simp only at hz'
            rw [hz']
        rw [e] at q
        exact ⟨.str z, H, I, ⟨_, rfl⟩, q⟩
      · rw [if_neg h2]
        refine ⟨?_, .str (repStr z k.toNat), H, I.tok _, ⟨_, rfl⟩, q⟩
        show (repStr z k.toNat).length ≤ sizeLine
        rw [repStr_length]
        have := LIM_le
        rw [Nat.mul_comm]
        omega
def rMulA (K : PySem.W.Frag) : R2 := fun x y H Q => rI CMul (fun i j => .int (i * j)) x y H Q ∨ rRep x y H Q ∨ rMulS x y H Q ∨ rRepT K x y H Q ∨ rRepE K x y H Q
theorem op_mulA : OpR X (binaryOp .Mult) (rMulA X.K) := op_mul.or (op_rep.or (op_mulS.or (op_repT.or op_repE)))
theorem DqAll.flat {am : List Addr} {H : Hp} {vs : List V} {ds : List D} (q : DqAll c am H vs ds) : ∀ n : Nat, DqAll c am H (List.replicate n vs).flatten (List.replicate n ds).flatten
  | 0 => .nil
  | n + 1 => by rw [List.replicate_succ, List.replicate_succ, List.flatten_cons, List.flatten_cons]; exact q.append (DqAll.flat q n)
theorem r_mul : R2Ok c (rMulA c.K) dMul := by
  intro F am Hk H σ env mh x y dx dy d Q R qx qy e h
  cases dx with
  | int i =>
    cases dy <;> first | (cases e; done) | skip
    rename_i j
    cases qx; cases qy
    simp only [dMul] at e
    by_cases hl : (small64i i || small64i j) = true
    · rw [if_pos hl] at e
      cases e
      refine .inl ⟨_, _, rfl, rfl, ?_, h _ Hk H (Le.refl _) R (.int _)⟩
      rcases (Bool.or_eq_true _ _).mp hl with hl | hl
      · exact .inl (of_decide_eq_true hl)
      · exact .inr (of_decide_eq_true hl)
    · rw [if_neg hl] at e; cases e
  | lst xs =>
    cases dy <;> first | (cases e; done) | skip
    rename_i k
    cases qx with | lst s1 q1 =>
    cases qy
    simp only [dMul] at e
    by_cases hl : (decide (xs.length * k.toNat ≤ LIM) && decide (-(2 ^ 63) ≤ k ∧ k < 2 ^ 63)) = true
    · rw [if_pos hl] at e
      cases e
      have hl' := (Bool.and_eq_true _ _).mp hl
      have l1 := of_decide_eq_true hl'.1
      have l2 := of_decide_eq_true hl'.2
      refine .inr (.inl ⟨_, _, _, rfl, rfl, R.known _ _ s1, l2.1, l2.2, by rw [q1.length]; exact Nat.le_trans l1 LIM_le, ?_⟩)
      exact new_ok R (fun p hp => dq_lst (R.hk_none hp) (q1.flat _)) h
    · rw [if_neg hl] at e; cases e
  | str z =>
    cases dy <;> first | (cases e; done) | skip
    rename_i k
    cases qx with | str _ k1 =>
    cases qy
    simp only [dMul] at e
    by_cases hl : (decide (z.length * k.toNat ≤ LIM) && decide (0 ≤ k ∧ k < 1000)) = true
    · rw [if_pos hl] at e
      cases e
      have hl' := (Bool.and_eq_true _ _).mp hl
      have l1 := of_decide_eq_true hl'.1
      have l2 := of_decide_eq_true hl'.2
      exact .inr (.inr (.inl ⟨_, _, rfl, rfl, l2.1, l2.2, l1, h _ Hk H (Le.refl _) R (.str _ (strOk_rep k1 _))⟩))
    · rw [if_neg hl] at e; cases e
  | tup xs =>
    cases dy <;> first | (cases e; done) | skip
    rename_i k
    cases qx with | tup s1 q1 =>
    cases qy
    simp only [dMul] at e
    by_cases hl : -(2 ^ 62) ≤ k ∧ k ≤ 1000 ∧ xs.length ≤ 1000
    · rw [if_pos hl] at e
      cases e
      obtain ⟨l1, l2, l3⟩ := hl
      rename_i a vs
      have hv := q1.length
      by_cases hh : vs = [] ∨ k ≤ 1
      · refine .inr (.inr (.inr (.inr ⟨_, _, _, rfl, rfl, SqT.of (R.known _ _ s1), l1, l2, by rw [hv]; exact l3, fun h1 => ?_, fun h1 => ?_⟩)))
        · refine h _ Hk H (Le.refl _) R ?_
          have e2 : (List.replicate k.toNat xs).flatten = xs := by
            rcases h1 with h1 | h1
            · subst h1
              cases q1
              have : ∀ n : Nat, (List.replicate n ([] : List D)).flatten = [] := fun n => by
                induction n with
                | zero => rfl
                | succ n ih => rw [List.replicate_succ, List.flatten_cons, ih]; rfl
              exact this _
            · subst h1
              show (List.replicate 1 xs).flatten = xs
              simp
          rw [e2]
          exact .tup s1 q1
        · have hk1 : ¬ k = 1 := fun z => h1 (.inr z)
          have hvn : ¬ vs = [] := fun z => h1 (.inl z)
          have hk0 : k ≤ 0 := by
            have := hh.resolve_left hvn
            omega
          refine ⟨hk0, ?_⟩
          have e3 : k.toNat = 0 := by omega
          rw [e3] at h
          exact new_ok R (fun p hp => dq_tup (R.hk_none hp) .nil) h
      · refine .inr (.inr (.inr (.inl ⟨_, _, _, rfl, rfl, SqT.of (R.known _ _ s1), fun z => hh (.inl z), by omega, l2, by rw [hv]; exact l3, ?_⟩)))
        exact new_ok R (fun p hp => dq_tup (R.hk_none hp) (q1.flat _)) h
    · rw [if_neg hl] at e; cases e
  | _ => cases e
def dFdiv : D → D → Option D
  | .int i, .int j => if 0 < j ∧ j < 1073741824 then some (.int (i / j)) else none
  | _, _ => none
theorem r_fdiv : R2Ok c (rI CDiv fun i j => .int (i / j)) dFdiv := by
  intro F am Hk H σ env mh x y dx dy d Q R qx qy e h
  cases dx <;> first | (cases e; done) | skip
  cases dy <;> first | (cases e; done) | skip
  cases qx; cases qy
  simp only [dFdiv] at e
  split at e
  · rename_i hh; cases e
    exact ⟨_, _, rfl, rfl, hh, h _ Hk H (Le.refl _) R (.int _)⟩
  · cases e
def dMod : D → D → Option D
  | .int i, .int j => if 0 < j then some (.int (i % j)) else none
  | _, _ => none
theorem r_mod : R2Ok c (rI (fun _ j => 0 < j) fun i j => .int (i % j)) dMod := by
  intro F am Hk H σ env mh x y dx dy d Q R qx qy e h
  cases dx <;> first | (cases e; done) | skip
  cases dy <;> first | (cases e; done) | skip
  cases qx; cases qy
  simp only [dMod] at e
  split at e
  · rename_i hh; cases e
    exact ⟨_, _, rfl, rfl, hh, h _ Hk H (Le.refl _) R (.int _)⟩
  · cases e
def dPow : D → D → Option D
  | .int i, .int j => if 0 ≤ j ∧ j ≤ 1000000 ∧ i.natAbs < 2 ^ 64 then some (.int (i ^ j.toNat)) else none
  | _, _ => none
theorem r_pow : R2Ok c (rI CPow fun i j => .int (i ^ j.toNat)) dPow := by
  intro F am Hk H σ env mh x y dx dy d Q R qx qy e h
  cases dx <;> first | (cases e; done) | skip
  cases dy <;> first | (cases e; done) | skip
  cases qx; cases qy
  simp only [dPow] at e
  split at e
  · rename_i hh; cases e
    exact ⟨_, _, rfl, rfl, hh, h _ Hk H (Le.refl _) R (.int _)⟩
  · cases e
/-- one value -/
def R1Ok (c : Cn) (r : V → Hp → VK → Prop) (f : D → Option D) : Prop := ∀ F am Hk H σ env mh x dx d (Q : VK), Rl c F am Hk H σ env mh → Dq c am Hk x dx → f dx = some d →
  (∀ v Hk' H', Le Hk Hk' → Rl c F am Hk' H' σ env mh → Dq c am Hk' v d → Q v H') → r x H Q
def m1 (f : D → Option D) (ma : Ev) : Ev := fun env mh => (ma env mh).bind fun x mh1 => lift (f x) mh1
theorem op1_ok {W : WX} {r : V → Hp → VK → Prop} {f : D → Option D} (hr : R1Ok c r f) {ma : Ev} {ta : TE}
    (ka : ∀ F am Hk H σ env mh Q, Rl c F am Hk H σ env mh → GP c W F am Hk σ env (relD c) (ma env mh) Q → ta σ H Q) :
    ∀ F am Hk H σ env mh Q, Rl c F am Hk H σ env mh → GP c W F am Hk σ env (relD c) (m1 f ma env mh) Q → ta σ H fun x H1 => r x H1 Q := by
  intro F am Hk H σ env mh Q R h
  refine ka F am Hk H σ env mh _ R (GP.step h fun d mh1 er v am1 Hk1 H1 g1 e1 R1 q1 h1 => ?_)
  obtain ⟨z, ez, hz⟩ := lift_ok h1
  exact hr F am1 Hk1 H1 σ env mh1 v d z Q R1 q1 ez fun v' Hk' H' le R' q' => hz v' am1 Hk' H' (Go.refl _) le R' q'
def dNeg : D → Option D
  | .int i => some (.int (-i))
  | _ => none
theorem r_neg : R1Ok c (rU fun i => .int (-i)) dNeg := by
  intro F am Hk H σ env mh x dx d Q R qx e h
  cases dx <;> first | (cases e; done) | skip
  cases qx; cases e
  exact ⟨_, rfl, h _ Hk H (Le.refl _) R (.int _)⟩
theorem se_neg {W : WX} {a : Expr} {ma : Ev} {pos : Pos} (ha : SE c W X a ma) : SE c W X (.UnaryOp .USub a pos) (m1 dNeg ma) := by
  obtain ⟨ta, pa, ka⟩ := ha
  exact ⟨_, pe_un un_neg pa, op1_ok r_neg ka⟩
/-- chains of two comparisons -/
def chK (g : D → D → Option D) (md : Ev) (env : En) (y k : D) (mh3 : Mh) : Rs D := match k with
  | .bl true => (md env mh3).bind fun z mh4 => lift (g y z) mh4
  | .bl false => .ok (.bl false) mh3
  | _ => .no
def mChain (f g : D → D → Option D) (ma mb md : Ev) : Ev := fun env mh => (ma env mh).bind fun x mh1 => (mb env mh1).bind fun y mh2 => (lift (f x y) mh2).bind fun k mh3 => chK g md env y k mh3
theorem chain_ok {W : WX} {r r' : R2} {f g : D → D → Option D} (hr : R2Ok c r f) (hr' : R2Ok c r' g) {ma mb md : Ev} {ta tb td : TE}
    (ka : ∀ F am Hk H σ env mh Q, Rl c F am Hk H σ env mh → GP c W F am Hk σ env (relD c) (ma env mh) Q → ta σ H Q)
    (kb : ∀ F am Hk H σ env mh Q, Rl c F am Hk H σ env mh → GP c W F am Hk σ env (relD c) (mb env mh) Q → tb σ H Q)
    (kd : ∀ F am Hk H σ env mh Q, Rl c F am Hk H σ env mh → GP c W F am Hk σ env (relD c) (md env mh) Q → td σ H Q) :
    ∀ F am Hk H σ env mh Q, Rl c F am Hk H σ env mh → GP c W F am Hk σ env (relD c) (mChain f g ma mb md env mh) Q → tChain r r' ta tb td σ H Q := by
  intro F am Hk H σ env mh Q R h
  refine ka F am Hk H σ env mh _ R (GP.step h fun d mh1 er v am1 Hk1 H1 g1 e1 R1 q1 h1 => ?_)
  refine kb F am1 Hk1 H1 σ env mh1 _ R1 (GP.step h1 fun d2 mh2 er2 v2 am2 Hk2 H2 g2 e2 R2 q2 h2 => ?_)
  cases hz : f d d2 with
  | none => rw [hz] at h2; exact h2.elim
  | some z =>
    rw [hz] at h2
    refine hr F am2 Hk2 H2 σ env mh2 v v2 d d2 z _ R2 (q1.up g2 e2) q2 hz fun v' Hk3 H3 le R3 q3 => ?_
    have h3 : GP c W F am2 Hk3 σ env (relD c) (chK g md env d2 z mh2) Q := GP.later (r := chK g md env d2 z mh2) h2 (Go.refl _) le
    cases z <;> first | exact h3.elim | skip
    rename_i bb
    cases q3
    refine ⟨bb, rfl, ?_⟩
    cases bb with
    | true =>
      rw [if_pos rfl]
      refine kd F am2 Hk3 H3 σ env mh2 _ R3 (GP.step h3 fun d4 mh4 er4 v4 am4 Hk4 H4 g4 e4 R4 q4 h4 => ?_)
      obtain ⟨w, ew, hw⟩ := lift_ok h4
      exact hr' F am4 Hk4 H4 σ env mh4 v2 v4 d2 d4 w Q R4 (q2.up g4 (le.trans e4)) q4 ew fun v' Hk' H' le R' q' => hw v' am4 Hk' H' (Go.refl _) le R' q'
    | false =>
      rw [if_neg Bool.false_ne_true]
      exact h3 _ am2 Hk3 H3 (Go.refl _) (Le.refl _) R3 (.bl false)
theorem se_chain {W : WX} {op op' : CmpOp} {r r' : R2} {f g : D → D → Option D} {a b d : Expr} {ma mb md : Ev} {pos : Pos} (ho : OpR X (compareOp op) r) (hr : R2Ok c r f) (ho' : OpR X (compareOp op') r') (hr' : R2Ok c r' g) (ha : SE c W X a ma) (hb : SE c W X b mb) (hd : SE c W X d md)
    (hm : lastMarks [op, op'] [b, d] = false := by with_unfolding_all rfl) : SE c W X (.Compare a [op, op'] [b, d] pos) (mChain f g ma mb md) := by
  obtain ⟨ta, pa, ka⟩ := ha
  obtain ⟨tb, pb, kb⟩ := hb
  obtain ⟨td, pd, kd⟩ := hd
  exact ⟨_, pe_chain ho ho' pa pb pd hm, chain_ok hr hr' ka kb kd⟩
theorem st_chain {W : WX} {op op' : CmpOp} {r r' : R2} {f g : D → D → Option D} {a b d : Expr} {ma mb md : Ev} {pos : Pos} (ho : OpR X (compareOp op) r) (hr : R2Ok c r f) (ho' : OpR X (compareOp op') r') (hr' : R2Ok c r' g) (ha : SE c W X a ma) (hb : SE c W X b mb) (hd : SE c W X d md)
    (hm : lastMarks [op, op'] [b, d] = false := by with_unfolding_all rfl) : ST c W X (.Compare a [op, op'] [b, d] pos) (mT (mChain f g ma mb md)) := by
  obtain ⟨ta, pa, ka⟩ := ha
  obtain ⟨tb, pb, kb⟩ := hb
  obtain ⟨td, pd, kd⟩ := hd
  exact ⟨_, pt_chain ho ho' pa pb pd hm, st_of (chain_ok hr hr' ka kb kd) fun _ _ _ h => h⟩
end
end Mi

set_option Elab.async false
set_option linter.all false
set_option maxRecDepth 100000
set_option maxHeartbeats 400000
namespace Mi
open PySem PySem.Spec PyProof.Rows L2

/-! ### items -/
def chr1 (n : Nat) : Str := ⟨#[n]⟩
def dIx (mh : Mh) : D → D → Option D
  | .lst ds, .int i => atI ds i
  | .tup ds, .int i => atI ds i
  | .ktup ds, .int i => atI ds i
  | .str z, .int i => if z.length ≤ LIM then (atI z.cps.toList i).map fun ch => .str (chr1 ch) else none
  | .loc n, .int i => match mh[n]? with
    | some (.lst ds) => atI ds i
    | _ => none
  | _, _ => none
def mIx (ma mb : Ev) : Ev := fun env mh => (ma env mh).bind fun x mh1 => (mb env mh1).bind fun y mh2 => lift (dIx mh2 x y) mh2
section
variable {X : Cx} {c : Cn}
theorem DqAll.atI {am : List Addr} {H : Hp} {vs : List V} {ds : List D} {i : Int} {d : D} (q : DqAll c am H vs ds) (h : atI ds i = some d) : ∃ v, L2.atI vs i = some v ∧ Dq c am H v d := by
  unfold L2.atI at h ⊢
  rw [q.length]
  cases hi : ixN ds.length i with
  | none => rw [hi] at h; cases h
  | some j =>
    rw [hi] at h
    obtain ⟨v, h1, h2⟩ := q.get' (i := j) h
    exact ⟨v, h1, h2⟩
theorem strOk_get {z : Str} (hz : PySem.PyData.strOk z = true) {i : Int} {ch : Nat} (h : atI z.cps.toList i = some ch) : PySem.PyData.strOk (chr1 ch) = true := by
  obtain ⟨j, _, h2, h3, _⟩ := atI_get h
  have hm : ch ∈ z.cps := by
    have := List.mem_of_getElem? h2
    simpa using this
  unfold PySem.PyData.strOk at *
  rw [Array.all_eq_true_iff_forall_mem] at hz
  have := hz ch hm
  simpa [chr1] using this
theorem se_ix {W : WX} {a b : Expr} {ma mb : Ev} {pos : Pos} (hK : X.K = c.K) (ha : SE c W X a ma) (hb : SE c W X b mb) (hs : PlainIx b := by exact fun _ _ => rfl) : SE c W X (.Subscript a b pos) (mIx ma mb) := by
  obtain ⟨ta, pa, ka⟩ := ha
  obtain ⟨tb, pb, kb⟩ := hb
  refine ⟨_, pe_ix ix_seq pa pb hs, fun F am Hk H σ env mh Q R h => ?_⟩
  refine ka F am Hk H σ env mh _ R (GP.step h fun dx mh1 er x am1 Hk1 H1 g1 e1 R1 q1 h1 => ?_)
  refine kb F am1 Hk1 H1 σ env mh1 _ R1 (GP.step h1 fun dy mh2 er2 y am2 Hk2 H2 g2 e2 R2 q2 h2 => ?_)
  obtain ⟨z, ez, hz⟩ := lift_ok h2
  have qx := q1.up g2 e2
  rw [hK]
  cases dx with
  | lst ds =>
    cases dy <;> first | (cases ez; done) | skip
    cases qx with | lst s1 qs =>
    cases q2
    obtain ⟨v, hv, qv⟩ := qs.atI ez
    exact .inl ⟨_, _, _, v, rfl, rfl, .of (R2.known _ _ s1), hv, hz v am2 Hk2 H2 (Go.refl _) (Le.refl _) R2 qv⟩
  | tup ds =>
    cases dy <;> first | (cases ez; done) | skip
    cases qx with | tup s1 qs =>
    cases q2
    obtain ⟨v, hv, qv⟩ := qs.atI ez
    exact .inr (.inl ⟨_, _, _, v, rfl, rfl, .of (R2.known _ _ s1), hv, hz v am2 Hk2 H2 (Go.refl _) (Le.refl _) R2 qv⟩)
  | ktup ds =>
    cases dy <;> first | (cases ez; done) | skip
    cases qx with | ktup s1 qs =>
    cases q2
    obtain ⟨v, hv, qv⟩ := qs.atI ez
    exact .inr (.inl ⟨_, _, _, v, rfl, rfl, R2.known.seqT s1.t, hv, hz v am2 Hk2 H2 (Go.refl _) (Le.refl _) R2 qv⟩)
  | str t =>
    cases dy <;> first | (cases ez; done) | skip
    rename_i i
    cases qx with | str _ k1 =>
    cases q2
    simp only [dIx] at ez
    by_cases hl : t.length ≤ LIM
    · rw [if_pos hl] at ez
      cases hc : atI t.cps.toList i with
      | none => rw [hc] at ez; cases ez
      | some ch =>
        rw [hc] at ez
        cases ez
        exact .inr (.inr ⟨_, _, ch, rfl, rfl, Nat.le_trans hl LIM_le, hc, hz _ am2 Hk2 H2 (Go.refl _) (Le.refl _) R2 (.str _ (strOk_get k1 hc))⟩)
    · rw [if_neg hl] at ez; cases ez
  | loc n =>
    cases dy <;> first | (cases ez; done) | skip
    cases qx with | loc s1 =>
    cases q2
    simp only [dIx] at ez
    cases hm : mh2[n]? with
    | none => rw [hm] at ez; cases ez
    | some o =>
      rw [hm] at ez
      cases o with
      | lst ds =>
        obtain ⟨_, xs, hx, qs⟩ := R2.mo _ _ _ s1 hm
        obtain ⟨v, hv, qv⟩ := qs.atI ez
        exact .inl ⟨_, _, _, v, rfl, rfl, .of hx, hv, hz v am2 Hk2 H2 (Go.refl _) (Le.refl _) R2 qv⟩
      | dead => cases ez
  | _ => cases ez

/-! ### slices -/
structure SO (c : Cn) (W : WX) (X : Cx) (e : Option Expr) (m : En → Mh → Rs (Option Int)) : Prop where
  ex : ∃ t : TO, PO X e t ∧ ∀ F am Hk H σ env mh (Q : Option Int → Hp → Prop), Rl c F am Hk H σ env mh → GP c W F am Hk σ env (fun _ _ (a b : Option Int) => a = b) (m env mh) Q → t σ H Q
def mNo : En → Mh → Rs (Option Int) := fun _ mh => .ok none mh
def mSo (m : Ev) : En → Mh → Rs (Option Int) := fun env mh => (m env mh).bind fun d mh1 => match d with
  | .int i => .ok (some i) mh1
  | _ => .no
theorem so_none {W : WX} : SO c W X none mNo := ⟨_, po_none, fun F am Hk H σ env mh Q R h => h none am Hk H (Go.refl _) (Le.refl _) R rfl⟩
theorem so_some {W : WX} {e : Expr} {m : Ev} (he : SE c W X e m) : SO c W X (some e) (mSo m) := by
  obtain ⟨t, p, k⟩ := he
  refine ⟨_, po_some p, fun F am Hk H σ env mh Q R h => ?_⟩
  refine k F am Hk H σ env mh _ R (GP.step h fun d mh1 er v am1 Hk1 H1 g1 e1 R1 q1 h1 => ?_)
  cases d <;> first | exact h1.elim | skip
  cases q1
  exact ⟨_, rfl, h1 _ am1 Hk1 H1 (Go.refl _) (Le.refl _) R1 rfl⟩
def cutD {α : Type} (xs : List α) (lo hi : Option Int) : List α := (xs.drop (HT.sIx xs.length 0 lo)).take (HT.sIx xs.length xs.length hi - HT.sIx xs.length 0 lo)
def dSl (x : D) (lo hi : Option Int) : Option D := match x with
  | .lst ds => some (.lst (cutD ds lo hi))
  | .tup ds => some (.tup (cutD ds lo hi))
  | .str z => if z.length ≤ LIM then some (.str (cutS z lo hi)) else none
  | .ktup ds => if HT.sIx ds.length 0 lo = 0 ∧ HT.sIx ds.length ds.length hi = ds.length then some (.ktup ds) else some (.tup (cutD ds lo hi))
  | _ => none
def mSl (ma : Ev) (ml mu : En → Mh → Rs (Option Int)) : Ev := fun env mh => (ma env mh).bind fun x mh1 => (ml env mh1).bind fun lo mh2 => (mu env mh2).bind fun hi mh3 => lift (dSl x lo hi) mh3
def rSlAll (K : PySem.W.Frag) : V → Option Int → Option Int → Hp → VK → Prop := fun x lo hi H Q => rSlL K x lo hi H Q ∨ rSlA K x lo hi H Q ∨ rSlS x lo hi H Q
theorem sl_all : SlR X (rSlAll X.K) := sl_list.or (sl_tupA.or sl_str)
theorem strOk_cut {z : Str} (hz : PySem.PyData.strOk z = true) (lo hi : Option Int) : PySem.PyData.strOk (cutS z lo hi) = true := by
  unfold PySem.PyData.strOk at *
  rw [Array.all_eq_true_iff_forall_mem] at *
  intro ch hm
  refine hz ch ?_
  have h1 : ch ∈ ((z.cps.toList.drop (HT.sIx z.length 0 lo)).take (HT.sIx z.length z.length hi - HT.sIx z.length 0 lo)) := by simpa [cutS] using hm
  have h2 := List.mem_of_mem_drop (List.mem_of_mem_take h1)
  simpa using h2
theorem se_slice {W : WX} {e : Expr} {lo hi : Option Expr} {me : Ev} {ml mu : En → Mh → Rs (Option Int)} {p2 pos : Pos} (hK : X.K = c.K) (he : SE c W X e me) (hl : SO c W X lo ml) (hu : SO c W X hi mu) : SE c W X (.Subscript e (.Slice lo hi none p2) pos) (mSl me ml mu) := by
  obtain ⟨te, pe, ke⟩ := he
  obtain ⟨tl, pl, kl⟩ := hl
  obtain ⟨tu, pu, ku⟩ := hu
  refine ⟨_, pe_slice sl_all pe pl pu, fun F am Hk H σ env mh Q R h => ?_⟩
  refine ke F am Hk H σ env mh _ R (GP.step h fun dx mh1 er x am1 Hk1 H1 g1 e1 R1 q1 h1 => ?_)
  refine kl F am1 Hk1 H1 σ env mh1 _ R1 (GP.step h1 fun l mh2 er2 l' am2 Hk2 H2 g2 e2 R2 q2 h2 => ?_)
  refine ku F am2 Hk2 H2 σ env mh2 _ R2 (GP.step h2 fun u mh3 er3 u' am3 Hk3 H3 g3 e3 R3 q3 h3 => ?_)
  obtain ⟨z, ez, hz⟩ := lift_ok h3
  cases q2
  cases q3
  have qx := (q1.up g2 e2).up g3 e3
  rw [hK]
  cases dx with
  | lst ds =>
    cases qx with | lst s1 qs =>
    cases ez
    refine .inl ⟨_, _, rfl, .of (R3.known _ _ s1), new_ok R3 (fun p hp => dq_lst (R3.hk_none hp) ?_) fun v Hk' H' le R' q' => hz v am3 Hk' H' (Go.refl _) le R' q'⟩
    unfold cutV cutD
    rw [qs.length]
    exact (qs.drop _).take _
  | tup ds =>
    cases qx with | tup s1 qs =>
    cases ez
    rename_i a xs
    have el := qs.length
    refine .inr (.inl ⟨_, _, rfl, .of (R3.known _ _ s1), fun hh => ?_, fun hh => ?_⟩)
    · refine hz _ am3 Hk3 H3 (Go.refl _) (Le.refl _) R3 ?_
      have e0 : cutD ds l u = ds := by
        unfold cutD
        rw [← el, hh.1, hh.2, List.drop_zero, Nat.sub_zero, el, List.take_length]
      rw [e0]
      exact .tup s1 qs
    · refine new_ok R3 (fun p hp => dq_tup (R3.hk_none hp) ?_) fun v Hk' H' le R' q' => hz v am3 Hk' H' (Go.refl _) le R' q'
      unfold cutV cutD
      rw [el]
      exact (qs.drop _).take _
  | ktup ds =>
    cases qx with | ktup s1 qs =>
    simp only [dSl] at ez
    have el := qs.length
    refine .inr (.inl ⟨_, _, rfl, R3.known.seqT s1.t, fun hh => ?_, fun hh => ?_⟩)
    · rw [el] at hh
      rw [if_pos hh] at ez
      cases ez
      exact hz _ am3 Hk3 H3 (Go.refl _) (Le.refl _) R3 (.ktup s1 qs)
    · rw [el] at hh
      rw [if_neg hh] at ez
      cases ez
      refine new_ok R3 (fun p hp => dq_tup (R3.hk_none hp) ?_) fun v Hk' H' le R' q' => hz v am3 Hk' H' (Go.refl _) le R' q'
      unfold cutV cutD
      rw [el]
      exact (qs.drop _).take _
  | str t =>
    cases qx with | str _ k1 =>
    simp only [dSl] at ez
    by_cases hl : t.length ≤ LIM
    · rw [if_pos hl] at ez
      cases ez
      exact .inr (.inr ⟨_, rfl, Nat.le_trans hl LIM_le, hz _ am3 Hk3 H3 (Go.refl _) (Le.refl _) R3 (.str _ (strOk_cut k1 _ _))⟩)
    · rw [if_neg hl] at ez; cases ez
  | _ => cases ez

/-! ### built-ins -/
theorem ra_one {r : List V → Hp → VK → Prop} {f : D → Option D} (h : R1Ok c (fun x => r [x]) f) : RAOk c r (fun ds => match ds with | [d] => f d | _ => none) := by
  intro F am Hk H σ env mh vs ds d Q R q e k
  cases q with
  | nil => cases e
  | cons q1 qs =>
    cases qs with
    | nil => exact h F am Hk H σ env mh _ _ d Q R q1 e k
    | cons _ _ => cases e
def dLen : D → Option D
  | .lst ds => some (.int ds.length)
  | .tup ds => some (.int ds.length)
  | .ktup ds => some (.int ds.length)
  | .rol ds => some (.int ds.length)
  | .str z => if z.length ≤ LIM then some (.int z.length) else none
  | _ => none
abbrev rLen (K : PySem.W.Frag) : List V → Hp → VK → Prop := fun xs H Q => ∃ x n, xs = [x] ∧ LenV K x H n ∧ Q (.int (n : Int)) H
abbrev fOne (f : D → Option D) : List D → Option D := fun ds => match ds with | [d] => f d | _ => none
theorem r_len : RAOk c (rLen c.K) (fOne dLen) := ra_one (by
  intro F am Hk H σ env mh x dx d Q R qx e h
  cases dx with
  | lst ds =>
    cases qx with | lst s1 qs =>
    cases e
    exact ⟨_, _, rfl, .inl ⟨_, .of (R.known _ _ s1), rfl⟩, by rw [qs.length]; exact h _ Hk H (Le.refl _) R (.int _)⟩
  | rol ds =>
    cases qx with | rol s1 qs =>
    cases e
    exact ⟨_, _, rfl, .inl ⟨_, R.known.seqL s1, rfl⟩, by rw [qs.length]; exact h _ Hk H (Le.refl _) R (.int _)⟩
  | ktup ds =>
    cases qx with | ktup s1 qs =>
    cases e
    exact ⟨_, _, rfl, .inr ⟨_, R.known.seqT s1.t, rfl⟩, by rw [qs.length]; exact h _ Hk H (Le.refl _) R (.int _)⟩
  | tup ds =>
    cases qx with | tup s1 qs =>
    cases e
    exact ⟨_, _, rfl, .inr ⟨_, .of (R.known _ _ s1), rfl⟩, by rw [qs.length]; exact h _ Hk H (Le.refl _) R (.int _)⟩
  | str t =>
    cases qx
    simp only [dLen] at e
    by_cases hl : t.length ≤ LIM
    · rw [if_pos hl] at e
      cases e
      exact ⟨_, _, rfl, ⟨Nat.le_trans hl LIM_le, rfl⟩, h _ Hk H (Le.refl _) R (.int _)⟩
    · rw [if_neg hl] at e; cases e
  | _ => cases e)
def dAbs : D → Option D
  | .int i => some (.int (if i < 0 then -i else i))
  | _ => none
abbrev rAbs : List V → Hp → VK → Prop := fun xs H Q => ∃ i, xs = [.int i] ∧ Q (.int (if i < 0 then -i else i)) H
theorem r_abs : RAOk c rAbs (fOne dAbs) := ra_one (by
  intro F am Hk H σ env mh x dx d Q R qx e h
  cases dx <;> first | (cases e; done) | skip
  cases qx; cases e
  exact ⟨_, rfl, h _ Hk H (Le.refl _) R (.int _)⟩)
def dInt : D → Option D
  | .int i => some (.int i)
  | .bl k => some (.int (if k then 1 else 0))
  | _ => none
abbrev rInt : List V → Hp → VK → Prop := fun xs H Q => (∃ i, xs = [.int i] ∧ Q (.int i) H) ∨ ∃ k, xs = [.bl k] ∧ Q (.int (if k then 1 else 0)) H
theorem r_int : RAOk c rInt (fOne dInt) := ra_one (by
  intro F am Hk H σ env mh x dx d Q R qx e h
  cases dx <;> first | (cases e; done) | skip
  · cases qx; cases e
    exact .inr ⟨_, rfl, h _ Hk H (Le.refl _) R (.int _)⟩
  · cases qx; cases e
    exact .inl ⟨_, rfl, h _ Hk H (Le.refl _) R (.int _)⟩)
def dStr : D → Option D
  | .str i => some (.str i)
  | _ => none
abbrev rStr : List V → Hp → VK → Prop := fun xs H Q => ∃ a, xs = [.str a] ∧ Q (.str a) H
theorem r_str : RAOk c rStr (fOne dStr) := ra_one (by
  intro F am Hk H σ env mh x dx d Q R qx e h
  cases dx <;> first | (cases e; done) | skip
  cases qx with | str _ k =>
  cases e
  exact ⟨_, rfl, h _ Hk H (Le.refl _) R (.str _ k)⟩)
def dTuple : D → Option D
  | .lst ds => some (.tup ds)
  | .tup ds => some (.tup ds)
  | .ktup ds => some (.ktup ds)
  | _ => none
abbrev rTuple (K : PySem.W.Frag) : List V → Hp → VK → Prop := fun xs H Q => ∃ p ys, xs = [.ref p] ∧ ((SqL K H p ys ∧ ∀ l, H l = none → Q (.ref l) (upd H l (.tup ys))) ∨ (SqT K H p ys ∧ Q (.ref p) H))
theorem r_tuple : RAOk c (rTuple c.K) (fOne dTuple) := ra_one (by
  intro F am Hk H σ env mh x dx d Q R qx e h
  cases dx <;> first | (cases e; done) | skip
  · cases qx with | tup s1 qs =>
    cases e
    exact ⟨_, _, rfl, .inr ⟨.of (R.known _ _ s1), h _ Hk H (Le.refl _) R (.tup s1 qs)⟩⟩
  · cases qx with | ktup s1 qs =>
    cases e
    exact ⟨_, _, rfl, .inr ⟨R.known.seqT s1.t, h _ Hk H (Le.refl _) R (.ktup s1 qs)⟩⟩
  · cases qx with | lst s1 qs =>
    cases e
    exact ⟨_, _, rfl, .inl ⟨.of (R.known _ _ s1), new_ok R (fun p hp => dq_tup (R.hk_none hp) qs) h⟩⟩)
def dList : D → Option D
  | .lst ds => some (.lst ds)
  | .tup ds => some (.lst ds)
  | .ktup ds => some (.lst ds)
  | .rol ds => some (.lst ds)
  | _ => none
abbrev rList (K : PySem.W.Frag) : List V → Hp → VK → Prop := fun xs H Q => ∃ p ys, xs = [.ref p] ∧ (SqL K H p ys ∨ SqT K H p ys) ∧ ∀ l, H l = none → Q (.ref l) (upd H l (.lst ys))
theorem r_list : RAOk c (rList c.K) (fOne dList) := ra_one (by
  intro F am Hk H σ env mh x dx d Q R qx e h
  cases dx <;> first | (cases e; done) | skip
  · cases qx with | tup s1 qs =>
    cases e
    exact ⟨_, _, rfl, .inr (.of (R.known _ _ s1)), new_ok R (fun p hp => dq_lst (R.hk_none hp) qs) h⟩
  · cases qx with | ktup s1 qs =>
    cases e
    exact ⟨_, _, rfl, .inr (R.known.seqT s1.t), new_ok R (fun p hp => dq_lst (R.hk_none hp) qs) h⟩
  · cases qx with | lst s1 qs =>
    cases e
    exact ⟨_, _, rfl, .inl (.of (R.known _ _ s1)), new_ok R (fun p hp => dq_lst (R.hk_none hp) qs) h⟩
  · cases qx with | rol s1 qs =>
    cases e
    exact ⟨_, _, rfl, .inl (R.known.seqL s1), new_ok R (fun p hp => dq_lst (R.hk_none hp) qs) h⟩)
/-- lists of bools, of ints, of texts -/
def blsOf : List D → Option (List Bool)
  | [] => some []
  | .bl b :: ds => (blsOf ds).map (b :: ·)
  | _ :: _ => none
def intsOf : List D → Option (List Int)
  | [] => some []
  | .int b :: ds => (intsOf ds).map (b :: ·)
  | _ :: _ => none
def strsOf : List D → Option (List Str)
  | [] => some []
  | .str b :: ds => (strsOf ds).map (b :: ·)
  | _ :: _ => none
theorem blsOf_q {am : List Addr} {H : Hp} : ∀ {ds : List D} {vs : List V} {bs : List Bool}, DqAll c am H vs ds → blsOf ds = some bs → vs = bs.map V.bl := by
  intro ds
  induction ds with
  | nil => intro vs bs q e; cases q; cases e; rfl
  | cons d ds ih =>
    intro vs bs q e
    cases d <;> first | (cases e; done) | skip
    cases q with
    | cons q1 qs =>
      cases q1
      simp only [blsOf] at e
      cases h : blsOf ds with
      | none => rw [h] at e; cases e
      | some bs' => rw [h] at e; cases e; rw [ih qs h]; rfl
theorem intsOf_q {am : List Addr} {H : Hp} : ∀ {ds : List D} {vs : List V} {bs : List Int}, DqAll c am H vs ds → intsOf ds = some bs → vs = bs.map V.int := by
  intro ds
  induction ds with
  | nil => intro vs bs q e; cases q; cases e; rfl
  | cons d ds ih =>
    intro vs bs q e
    cases d <;> first | (cases e; done) | skip
    cases q with
    | cons q1 qs =>
      cases q1
      simp only [intsOf] at e
      cases h : intsOf ds with
      | none => rw [h] at e; cases e
      | some bs' => rw [h] at e; cases e; rw [ih qs h]; rfl
theorem strsOf_q {am : List Addr} {H : Hp} : ∀ {ds : List D} {vs : List V} {bs : List Str}, DqAll c am H vs ds → strsOf ds = some bs → vs = bs.map V.str ∧ ∀ x ∈ bs, PySem.PyData.strOk x = true := by
  intro ds
  induction ds with
  | nil => intro vs bs q e; cases q; cases e; exact ⟨rfl, fun _ h => nomatch h⟩
  | cons d ds ih =>
    intro vs bs q e
    cases d <;> first | (cases e; done) | skip
    cases q with
    | cons q1 qs =>
      cases q1 with
      | str _ k =>
        simp only [strsOf] at e
        cases h : strsOf ds with
        | none => rw [h] at e; cases e
        | some bs' =>
          rw [h] at e; cases e
          obtain ⟨e1, e2⟩ := ih qs h
          rw [e1]
          refine ⟨rfl, fun x hx => ?_⟩
          rcases List.mem_cons.mp hx with rfl | hx
          · exact k
          · exact e2 x hx
def dAll : D → Option D
  | .lst ds => (blsOf ds).map fun bs => .bl (bs.all id)
  | _ => none
def dAny : D → Option D
  | .lst ds => (blsOf ds).map fun bs => .bl (bs.any id)
  | _ => none
def dSum : D → Option D
  | .lst ds => (intsOf ds).map fun bs => .int bs.sum
  | _ => none
theorem r_all : RAOk c (rAll c.K) (fOne dAll) := ra_one (by
  intro F am Hk H σ env mh x dx d Q R qx e h
  cases dx <;> first | (cases e; done) | skip
  rename_i ds
  cases qx with | lst s1 qs =>
  simp only [dAll] at e
  cases hb : blsOf ds with
  | none => rw [hb] at e; cases e
  | some bs =>
    rw [hb] at e; cases e
    exact ⟨_, bs, rfl, .of (by rw [← blsOf_q qs hb]; exact R.known _ _ s1), h _ Hk H (Le.refl _) R (.bl _)⟩)
theorem r_any : RAOk c (rAny c.K) (fOne dAny) := ra_one (by
  intro F am Hk H σ env mh x dx d Q R qx e h
  cases dx <;> first | (cases e; done) | skip
  rename_i ds
  cases qx with | lst s1 qs =>
  simp only [dAny] at e
  cases hb : blsOf ds with
  | none => rw [hb] at e; cases e
  | some bs =>
    rw [hb] at e; cases e
    exact ⟨_, bs, rfl, .of (by rw [← blsOf_q qs hb]; exact R.known _ _ s1), h _ Hk H (Le.refl _) R (.bl _)⟩)
theorem r_sum : RAOk c (rSum c.K) (fOne dSum) := ra_one (by
  intro F am Hk H σ env mh x dx d Q R qx e h
  cases dx <;> first | (cases e; done) | skip
  rename_i ds
  cases qx with | lst s1 qs =>
  simp only [dSum] at e
  cases hb : intsOf ds with
  | none => rw [hb] at e; cases e
  | some bs =>
    rw [hb] at e; cases e
    exact ⟨_, bs, rfl, .of (by rw [← intsOf_q qs hb]; exact R.known _ _ s1), h _ Hk H (Le.refl _) R (.int _)⟩)
def maxI : List Int → Int
  | [] => 0
  | [x] => x
  | x :: r => if maxI r ≤ x then x else maxI r
def minI : List Int → Int
  | [] => 0
  | [x] => x
  | x :: r => if x ≤ minI r then x else minI r
theorem maxI_spec : ∀ (x : Int) (r : List Int), maxI (x :: r) ∈ x :: r ∧ ∀ y ∈ x :: r, y ≤ maxI (x :: r) := by
  intro x r
  induction r generalizing x with
  | nil => simp [maxI]
  | cons z r ih =>
    obtain ⟨h1, h2⟩ := ih z
    unfold maxI
    split
    · rename_i h
      refine ⟨List.mem_cons_self, fun y hy => ?_⟩
      rcases List.mem_cons.mp hy with rfl | hy
      · exact Int.le_refl _
      · exact Int.le_trans (h2 y hy) h
    · rename_i h
      refine ⟨List.mem_cons_of_mem _ h1, fun y hy => ?_⟩
      rcases List.mem_cons.mp hy with rfl | hy
      · omega
      · exact h2 y hy
theorem minI_spec : ∀ (x : Int) (r : List Int), minI (x :: r) ∈ x :: r ∧ ∀ y ∈ x :: r, minI (x :: r) ≤ y := by
  intro x r
  induction r generalizing x with
  | nil => simp [minI]
  | cons z r ih =>
    obtain ⟨h1, h2⟩ := ih z
    unfold minI
    split
    · rename_i h
      refine ⟨List.mem_cons_self, fun y hy => ?_⟩
      rcases List.mem_cons.mp hy with rfl | hy
      · exact Int.le_refl _
      · exact Int.le_trans h (h2 y hy)
    · rename_i h
      refine ⟨List.mem_cons_of_mem _ h1, fun y hy => ?_⟩
      rcases List.mem_cons.mp hy with rfl | hy
      · omega
      · exact h2 y hy
theorem maxI_uniq {x : Int} {r : List Int} {m : Int} (hm : m ∈ x :: r) (h : ∀ y, y ∈ x :: r → y ≤ m) : m = maxI (x :: r) := by
  obtain ⟨h1, h2⟩ := maxI_spec x r
  exact Int.le_antisymm (h2 m hm) (h _ h1)
theorem minI_uniq {x : Int} {r : List Int} {m : Int} (hm : m ∈ x :: r) (h : ∀ y, y ∈ x :: r → m ≤ y) : m = minI (x :: r) := by
  obtain ⟨h1, h2⟩ := minI_spec x r
  exact Int.le_antisymm (h _ h1) (h2 m hm)
/-- of a list of ints that is not empty, of two ints -/
def dMax : List D → Option D
  | [.lst ds] => match intsOf ds with
    | some (x :: r) => some (.int (maxI (x :: r)))
    | _ => none
  | [.int i, .int j] => some (.int (if j > i then j else i))
  | _ => none
def dMin : List D → Option D
  | [.lst ds] => match intsOf ds with
    | some (x :: r) => some (.int (minI (x :: r)))
    | _ => none
  | [.int i, .int j] => some (.int (if j < i then j else i))
  | _ => none
def rMaxA (K : PySem.W.Frag) : List V → Hp → VK → Prop := fun xs H Q => rMax K xs H Q ∨ ∃ i j, xs = [.int i, .int j] ∧ Q (.int (if j > i then j else i)) H
def rMinA (K : PySem.W.Frag) : List V → Hp → VK → Prop := fun xs H Q => rMin K xs H Q ∨ ∃ i j, xs = [.int i, .int j] ∧ Q (.int (if j < i then j else i)) H
theorem call_maxA (hc : X.calm = true) : CallR X (.builtin "max") (rMaxA X.K) := (cr_max hc).or (call_max2 hc)
theorem call_minA (hc : X.calm = true) : CallR X (.builtin "min") (rMinA X.K) := (cr_min hc).or (call_min2 hc)
theorem r_max : RAOk c (rMaxA c.K) dMax := by
  intro F am Hk H σ env mh vs ds d Q R q e h
  match ds, e with
  | [.lst es], e =>
    simp only [dMax] at e
    cases q with | cons q1 qs =>
    cases qs
    cases q1 with | lst s1 qs =>
    cases hb : intsOf es with
    | none => rw [hb] at e; cases e
    | some bs =>
      rw [hb] at e
      cases bs with
      | nil => cases e
      | cons x r =>
        cases e
        refine .inl ⟨_, x :: r, rfl, .of (by rw [← intsOf_q qs hb]; exact R.known _ _ s1), by simp, fun m hm hy => ?_⟩
        rw [maxI_uniq hm hy]
        exact h _ Hk H (Le.refl _) R (.int _)
  | [.int i, .int j], e =>
    cases e
    cases q with | cons q1 qs =>
    cases qs with | cons q2 qs =>
    cases qs
    cases q1
    cases q2
    exact .inr ⟨_, _, rfl, h _ Hk H (Le.refl _) R (.int _)⟩
theorem r_min : RAOk c (rMinA c.K) dMin := by
  intro F am Hk H σ env mh vs ds d Q R q e h
  match ds, e with
  | [.lst es], e =>
    simp only [dMin] at e
    cases q with | cons q1 qs =>
    cases qs
    cases q1 with | lst s1 qs =>
    cases hb : intsOf es with
    | none => rw [hb] at e; cases e
    | some bs =>
      rw [hb] at e
      cases bs with
      | nil => cases e
      | cons x r =>
        cases e
        refine .inl ⟨_, x :: r, rfl, .of (by rw [← intsOf_q qs hb]; exact R.known _ _ s1), by simp, fun m hm hy => ?_⟩
        rw [minI_uniq hm hy]
        exact h _ Hk H (Le.refl _) R (.int _)
  | [.int i, .int j], e =>
    cases e
    cases q with | cons q1 qs =>
    cases qs with | cons q2 qs =>
    cases qs
    cases q1
    cases q2
    exact .inr ⟨_, _, rfl, h _ Hk H (Le.refl _) R (.int _)⟩
end
end Mi

set_option Elab.async false
set_option linter.all false
set_option maxRecDepth 100000
set_option maxHeartbeats 400000
namespace Mi
open PySem PySem.Spec PyProof.Rows L2
/-! ### calls of defs -/
structure Gb (c : Cn) (am : List Addr) (Hk H : Hp) (mh : Mh) : Prop where
  known : Le Hk H
  nd : am.Nodup
  mlen : mh.length = am.length
  mo : ∀ (n : Nat) (a : Addr) (o : MO), am[n]? = some a → mh[n]? = some o → MoOk c am Hk H a o
  tups : ∀ (a : Addr) (xs : List V), H a = some (.tup xs) → Hk a = some (.tup xs)
/-- what is neither known nor shared stays so -/
def Fr0 (am : List Addr) (Hk H : Hp) (am' : List Addr) (Hk' H' : Hp) : Prop := ∀ a o, H a = some o → Hk a = none → a ∉ am → H' a = some o ∧ Hk' a = none ∧ a ∉ am'
def spD (c : Cn) (np : Nat) (call : List D → Mh → Rs D) : Sp := fun vs H Q E => ∃ am Hk ds mh, Gb c am Hk H mh ∧ DqAll c am Hk vs ds ∧ ds.length = np ∧
  match call ds mh with
  | .ok d mh' => ∀ v am' Hk' H', Go am am' → Le Hk Hk' → Gb c am' Hk' H' mh' → Fr0 am Hk H am' Hk' H' → Dq c am' Hk' v d → Q v H'
  | .er x mh' => ∀ cls dd am' Hk' H', Go am am' → Le Hk Hk' → Gb c am' Hk' H' mh' → Fr0 am Hk H am' Hk' H' → ExIs c x cls dd H' → E cls dd H'
  | .no => False
theorem spD_len {c : Cn} {np : Nat} {call : List D → Mh → Rs D} : ∀ vs H Q E, spD c np call vs H Q E → vs.length = np := fun vs H Q E h => by
  obtain ⟨am, Hk, ds, mh, _, q, l, _⟩ := h
  rw [q.length, l]
section
variable {c : Cn} {F : Hp} {am am' : List Addr} {Hk Hk' H H' : Hp} {σ : L2.St} {env : En} {mh mh' : Mh}
theorem Rl.gb (R : Rl c F am Hk H σ env mh) : Gb c am Hk H mh := ⟨R.known, R.nd, R.mlen, R.mo, R.tups⟩
theorem SlotOk.go {v : Option V} {s : Cel} (h : SlotOk c F am Hk H v s) (g : Go am am') (e : Le Hk Hk') (hH : ∀ a o, H a = some o → Hk a = none → a ∉ am → H' a = some o ∧ Hk' a = none ∧ a ∉ am') : SlotOk c F am' Hk' H' v s := by
  cases s with
  | no => trivial
  | sh d => obtain ⟨x, e1, q⟩ := h; exact ⟨x, e1, q.up g e⟩
  | ol ds =>
    obtain ⟨a, xs, e1, e2, e3, e4, e5, q⟩ := h
    obtain ⟨k1, k2, k3⟩ := hH a _ e5 e2 e4
    exact ⟨a, xs, e1, k2, e3, k3, k1, q.up g e⟩
  | od t ks ds =>
    obtain ⟨a, e1, e2, e3, e4, q⟩ := h
    rcases q with ⟨et, kvs, e5, e6, e7, q⟩ | ⟨et, kvs, e5, e6, e7, q⟩
    · obtain ⟨k1, k2, k3⟩ := hH a _ e5 e2 e4
      exact ⟨a, e1, k2, e3, k3, .inl ⟨et, kvs, k1, e6, e7, q.up g e⟩⟩
    · obtain ⟨k1, k2, k3⟩ := hH a _ e5 e2 e4
      exact ⟨a, e1, k2, e3, k3, .inr ⟨et, kvs, k1, e6, e7, q.up g e⟩⟩
/-- behind something that kept all that is unknown -/
theorem Rl.after (R : Rl c F am Hk H σ env mh) (g : Go am am') (e : Le Hk Hk') (B : Gb c am' Hk' H' mh') (f : Fr0 am Hk H am' Hk' H') : Rl c F am' Hk' H' σ env mh' where
  known := B.known
  frame := fun a o h => by obtain ⟨h1, h2, h3⟩ := R.frame a o h; exact f a o h1 h2 h3
  len := R.len
  slot := fun i s h => (R.slot i s h).go g e f
  sep := R.sep
  nd := B.nd
  mlen := B.mlen
  mo := B.mo
  tups := B.tups
end
section
variable {X : Cx} {c : Cn}
def mCall (np : Nat) (call : List D → Mh → Rs D) (ms : Av) : Ev := fun env mh => (ms env mh).bind fun ds mh1 => if ds.length = np then call ds mh1 else .no
theorem call_ok {W : WX} {np : Nat} {call : List D → Mh → Rs D} {ms : Av} {t : TA}
    (k : ∀ F am Hk H σ env mh Q, Rl c F am Hk H σ env mh → GP c W F am Hk σ env (relA c) (ms env mh) Q → t σ H Q) :
    ∀ F am Hk H σ env mh Q, Rl c F am Hk H σ env mh → GP c W F am Hk σ env (relD c) (mCall np call ms env mh) Q → tCallS (spD c np call) (WE W) t σ H Q := by
  intro F am Hk H σ env mh Q R h
  refine k F am Hk H σ env mh _ R (GP.step h fun ds mh1 er vs am1 Hk1 H1 g1 e1 R1 q1 h1 => ?_)
  by_cases hl : ds.length = np
  · rw [if_pos hl] at h1
    refine ⟨am1, Hk1, ds, mh1, R1.gb, q1, hl, ?_⟩
    cases hc : call ds mh1 with
    | ok d mh2 =>
      rw [hc] at h1
      exact fun v am2 Hk2 H2 g2 e2 B f q => h1 v am2 Hk2 H2 g2 e2 (R1.after g2 e2 B f) q
    | er x mh2 =>
      rw [hc] at h1
      exact fun cls dd am2 Hk2 H2 g2 e2 B f q => h1 cls dd am2 Hk2 H2 g2 e2 (R1.after g2 e2 B f) q
    | no => rw [hc] at h1; exact h1
  · rw [if_neg hl] at h1; exact h1.elim
theorem se_call {W : WX} {k : Nat} {f : Addr} {fd : FuncData} {ps : List Str} {call : List D → Mh → Rs D} {x : Str} {e : Expr} {es : List Expr} {ms : Av} {p pos : Pos} {np : Nat}
    (Fn : FnOk X.prog X.w X.K X.mg X.base (L2.CX X.prog X.w) k f fd ps (spD c np call)) (hr : Room k X.A) (hm : X.mg x = some (.ref f)) (hk : PySem.W.keepIn X.K (.ref f) = true) (hb : Binds X.K fd ps []) (tk : Takes X W) (ha : SA c W X (e :: es) ms)
    (hg : Gl X x := by rfl) (hdb : (x == ("__debug__" : Str)) = false := by decide) (he : starEach (e :: es) X.env = (false, eval e X.env) :: starEach es X.env := by rfl) (hpl : (backTo pos (starEach es X.env)).any (·.1) = false := by rfl) :
    SE c W X (.Call (.Name x p) (e :: es) [] pos) (mCall np call ms) := by
  obtain ⟨t, pa, ka⟩ := ha
  exact ⟨_, pe_callS Fn hr hg hm hk hb (fun σ => passAt tk σ) pa hdb he hpl, call_ok ka⟩

/-! ### isinstance -/
def tyName : D → Option String
  | .non => some "NoneType"
  | .bl _ => some "bool"
  | .int _ => some "int"
  | .str _ => some "str"
  | .tup _ => some "tuple"
  | .ktup _ => some "tuple"
  | .lst _ => some "list"
  | .rol _ => some "list"
  | .dct _ _ _ => some "dict"
  | _ => none
def dIsi (T : String) (d : D) : Option D := (tyName d).bind fun t => (kitB t T).map D.bl
theorem tyx_t {K : PySem.W.Frag} {H : Hp} {a : Addr} {xs : List V} (h : SqT K H a xs) : TyX K H (.ref a) (.type "tuple") := by
  rcases h with (h | ⟨o, h⟩) | ⟨o, its, n, h, hc, _⟩
  · exact .base (.tup h)
  · exact .fTuple h
  · exact .kTuple h hc
theorem tyx_l {K : PySem.W.Frag} {H : Hp} {a : Addr} {xs : List V} (h : SqL K H a xs) : TyX K H (.ref a) (.type "list") := by
  rcases h with (h | ⟨o, h⟩) | ⟨o, its, n, h, hc, _⟩
  · exact .base (.lst h)
  · exact .base (.frz h)
  · exact .kList h hc
theorem tyx_of {am : List Addr} {H : Hp} {v : V} {d : D} {t : String} (q : Dq c am H v d) (h : tyName d = some t) (hd : ∀ t ks vs, d ≠ .dct t ks vs) : TyX c.K H v (.type t) := by
  cases q with
  | non => cases h; exact .base .non
  | bl b => cases h; exact .base (.bl b)
  | int i => cases h; exact .base (.int i)
  | str x _ => cases h; exact .base (.str x)
  | tup s _ => cases h; exact .base (.tup s)
  | ktup s _ => cases h; exact tyx_t s.t
  | lst s _ => cases h; exact .base (.lst s)
  | rol s _ => cases h; exact tyx_l s
  | dk _ _ _ => exact absurd rfl (hd _ _ _)
  | dt _ _ _ => exact absurd rfl (hd _ _ _)
  | loc _ => cases h
  | fn _ => cases h
def D.isDct : D → Bool
  | .dct _ _ _ => true
  | _ => false
def mIsi (T : String) (m : Ev) : Ev := fun env mh => (m env mh).bind fun d mh1 => if d.isDct then .no else lift (dIsi T d) mh1
theorem se_isi {W : WX} {T : String} {x : Str} {e : Expr} {m : Ev} {p p2 pos : Pos} (hK : X.K = c.K) (hmi : X.mg "isinstance" = none) (hm : X.mg x = none) (hv : bootBuiltins x = some (.type T)) (ha : SE c W X e m)
    (hgi : Gl X "isinstance" := by rfl) (hg : Gl X x := by rfl) (hn : x ≠ "__name__" := by decide) (hdb : (x == ("__debug__" : Str)) = false := by decide)
    (he : starEach [e, .Name x p2] X.env = (false, eval e X.env) :: starEach [.Name x p2] X.env := by rfl) (he2 : starEach [.Name x p2] X.env = (false, eval (.Name x p2) X.env) :: starEach [] X.env := by rfl) (hpl : (backTo pos (starEach [.Name x p2] X.env)).any (·.1) = false := by rfl) :
    SE c W X (.Call (.Name "isinstance" p) [e, .Name x p2] [] pos) (mIsi T m) := by
  obtain ⟨t, pa, ka⟩ := ha
  refine ⟨_, pe_callB call_isi hgi hmi boot_isinstance (pa_cons pa (pa_cons (pe_bltn hg hm hv (v := .ty T) rfl hn hdb) pa_nil he2) he) (he := he) (hpl := hpl), fun F am Hk H σ env mh Q R h => ?_⟩
  refine ka F am Hk H σ env mh _ R (GP.step h fun d mh1 er v am1 Hk1 H1 g1 e1 R1 q1 h1 => ?_)
  by_cases hd : d.isDct = true
  · rw [if_pos hd] at h1; exact h1.elim
  · rw [if_neg hd] at h1
    obtain ⟨z, ez, hz⟩ := lift_ok h1
    unfold dIsi at ez
    cases ht : tyName d with
    | none => rw [ht] at ez; cases ez
    | some t' =>
      rw [ht] at ez
      simp only [Option.bind_some] at ez
      cases hb : kitB t' T with
      | none => rw [hb] at ez; cases ez
      | some b =>
        rw [hb] at ez
        cases ez
        refine ⟨v, .ty T, .type t', .type T, b, rfl, .ty T, ?_, kit_ty hb, hz _ am1 Hk1 H1 (Go.refl _) (Le.refl _) R1 (.bl b)⟩
        rw [hK]
        exact tyx_of (q1.up (Go.refl _) R1.known) ht (fun t ks vs e => by subst e; exact hd rfl)

/-! ### texts joined, counted -/
abbrev rJoin (K : PySem.W.Frag) : V → List V → Hp → VK → Prop := fun x xs H Q => ∃ a p, ∃ ys : List Str, x = .str a ∧ xs = [.ref p] ∧ (SqL K H p (ys.map V.str) ∨ SqT K H p (ys.map V.str)) ∧
    (ys.map (·.length)).sum + ys.length * a.length ≤ 16777216 ∧ Q (.str (Txt.join a ys)) H
def dJoin (a : D) (l : D) : Option D := match a, l with
  | .str z, .lst ds => (strsOf ds).bind fun ys => if (ys.map (·.length)).sum + ys.length * z.length ≤ LIM then some (.str (Txt.join z ys)) else none
  | .str z, .tup ds => (strsOf ds).bind fun ys => if (ys.map (·.length)).sum + ys.length * z.length ≤ LIM then some (.str (Txt.join z ys)) else none
  | _, _ => none
theorem strOk_join {z : Str} (hz : PySem.PyData.strOk z = true) : ∀ ys : List Str, (∀ x ∈ ys, PySem.PyData.strOk x = true) → PySem.PyData.strOk (Txt.join z ys) = true := by
  intro ys h
  have gen : ∀ (l : List Str) (acc : Array Nat), acc.all (· < 0x110000) = true → (∀ x ∈ l, PySem.PyData.strOk x = true) → (l.foldl (fun acc p => acc ++ z.cps ++ p.cps) acc).all (· < 0x110000) = true := by
    intro l
    induction l with
    | nil => intro acc ha _; exact ha
    | cons y r ih =>
      intro acc ha hl
      rw [List.foldl_cons]
      refine ih _ ?_ fun x hx => hl x (List.mem_cons_of_mem _ hx)
      have hy : y.cps.all (· < 0x110000) = true := hl y List.mem_cons_self
      have hz' : z.cps.all (· < 0x110000) = true := hz
      rw [Array.all_append, Array.all_append, ha, hz', hy]
      rfl
  refine gen (ys.drop 1) _ ?_ fun x hx => h x (List.mem_of_mem_drop hx)
  cases ys with
  | nil => exact (by decide +kernel : PySem.PyData.strOk Str.empty = true)
  | cons y r => exact h y List.mem_cons_self
/-- a method of a built-in type, its receiver looked at first -/
def mMeth (chk : D → Bool) (f : D → List D → Option D) (mo : Ev) (ms : Av) : Ev := fun env mh => (mo env mh).bind fun dx mh1 => if chk dx then (ms env mh1).bind fun ds mh2 => lift (f dx ds) mh2 else .no
theorem meth_ok {W : WX} {T : String} {r : V → List V → Hp → VK → Prop} {chk : D → Bool} {f : D → List D → Option D} (hK : X.K = c.K) (hr : RMOk c T r f) (ht : ∀ am H v d, chk d = true → Dq c am H v d → tyV c.K T v H) {mo : Ev} {ms : Av} {to : TE} {ta : TA}
    (ko : ∀ F am Hk H σ env mh Q, Rl c F am Hk H σ env mh → GP c W F am Hk σ env (relD c) (mo env mh) Q → to σ H Q)
    (ka : ∀ F am Hk H σ env mh Q, Rl c F am Hk H σ env mh → GP c W F am Hk σ env (relA c) (ms env mh) Q → ta σ H Q) :
    ∀ F am Hk H σ env mh Q, Rl c F am Hk H σ env mh → GP c W F am Hk σ env (relD c) (mMeth chk f mo ms env mh) Q → tBM X.K T r to ta σ H Q := by
  intro F am Hk H σ env mh Q R h
  refine ko F am Hk H σ env mh _ R (GP.step h fun dx mh1 er x am1 Hk1 H1 g1 e1 R1 q1 h1 => ?_)
  by_cases hc : chk dx = true
  · rw [if_pos hc] at h1
    refine ⟨by rw [hK]; exact ht am1 H1 x dx hc (q1.up (Go.refl _) R1.known), ?_⟩
    refine ka F am1 Hk1 H1 σ env mh1 _ R1 (GP.step h1 fun ds mh2 er2 vs am2 Hk2 H2 g2 e2 R2 q2 h2 => ?_)
    obtain ⟨w, ew, hw⟩ := lift_ok h2
    exact hr F am2 Hk2 H2 σ env mh2 x vs dx ds w Q R2 (q1.up g2 e2) q2 ew fun v' Hk' H' le R' q' => hw v' am2 Hk' H' (Go.refl _) le R' q'
  · rw [if_neg hc] at h1; exact h1.elim
theorem se_meth {W : WX} {T name : String} {id : String} {r : V → List V → Hp → VK → Prop} {chk : D → Bool} {f : D → List D → Option D} {o e : Expr} {es : List Expr} {mo : Ev} {ms : Av} {apos cpos : Pos} (hK : X.K = c.K)
    (pa : PlainAttrs T) (slot : PySem.Slot T name id) (hty : typeOf (.builtin id) = pure (.type "method_descriptor")) (hm : MtR X id r) (hr : RMOk c T r f) (ht : ∀ am H v d, chk d = true → Dq c am H v d → tyV c.K T v H)
    (ho : SE c W X o mo) (ha : SA c W X (e :: es) ms)
    (hbase : attributeBase o name X.env (eval o X.env) = eval o X.env := by rfl)
    (hfew : ((backTo cpos (starEach (e :: es) X.env)).all (fun x => !x.1) && (backToKw cpos (keywordEach [] X.env)).all (fun x => x.1.isSome)
      && decide ((e :: es).length + ([] : List Keyword).length + (if ([] : List Keyword).isEmpty then 0 else 1) < 30)) = true := by rfl)
    (hline : (apos.endLine == cpos.line) = true := by rfl) (hs : starEach (e :: es) X.env = (false, eval e X.env) :: starEach es X.env := by rfl) (hplain : (backTo cpos (starEach es X.env)).any (·.1) = false := by rfl) :
    SE c W X (.Call (.Attribute o name apos) (e :: es) [] cpos) (mMeth chk f mo ms) := by
  obtain ⟨to, po, ko⟩ := ho
  obtain ⟨ta, pa', ka⟩ := ha
  exact ⟨_, pe_bm pa slot hty hm po pa' hbase hfew hline hs hplain, meth_ok hK hr ht ko ka⟩
def D.isStr : D → Bool
  | .str _ => true
  | _ => false
theorem ty_str {am : List Addr} {H : Hp} {v : V} {d : D} (h : d.isStr = true) (q : Dq c am H v d) : tyV c.K "str" v H := by
  cases q <;> first | (cases h; done) | skip
  rfl
def D.isLst : D → Bool
  | .lst _ => true
  | _ => false
theorem ty_lst {am : List Addr} {H : Hp} {v : V} {d : D} (h : d.isLst = true) (q : Dq c am H v d) : tyV c.K "list" v H := by
  cases q <;> first | (cases h; done) | skip
  rename_i s _
  exact .inl ⟨rfl, _, .of s⟩
theorem r_join : RMOk c "str" (rJoin c.K) (fun o ds => match ds with | [d] => dJoin o d | _ => none) := by
  intro F am Hk H σ env mh x vs dx ds d Q R qx qs e h
  cases dx <;> first | (cases ds <;> first | (cases e; done) | (rename_i a b; cases b <;> first | (cases e; done) | (cases a <;> cases e; done))) | skip
  rename_i z
  cases qx with | str _ kz =>
  cases qs with
  | nil => cases e
  | cons q1 qs =>
    cases qs with
    | cons _ _ => cases e
    | nil =>
      rename_i y dy
      have core : ∀ ds vs, DqAll c am Hk vs ds → ((strsOf ds).bind fun ys => if (ys.map (·.length)).sum + ys.length * z.length ≤ LIM then some (D.str (Txt.join z ys)) else none) = some d →
          ∃ ys : List Str, vs = ys.map V.str ∧ (ys.map (·.length)).sum + ys.length * z.length ≤ 16777216 ∧ Q (.str (Txt.join z ys)) H := by
        intro ds vs qs ew
        cases hs : strsOf ds with
        | none => rw [hs] at ew; cases ew
        | some ys =>
          rw [hs] at ew
          simp only [Option.bind_some] at ew
          obtain ⟨ev, ok⟩ := strsOf_q qs hs
          by_cases hl : (ys.map (·.length)).sum + ys.length * z.length ≤ LIM
          · rw [if_pos hl] at ew
            cases ew
            exact ⟨ys, ev, Nat.le_trans hl (by decide), h _ Hk H (Le.refl _) R (.str _ (strOk_join kz ys ok))⟩
          · rw [if_neg hl] at ew; cases ew
      cases dy with
      | lst ds =>
        cases q1 with | lst s1 qs =>
        obtain ⟨ys, ev, hl, hq⟩ := core ds _ qs e
        exact ⟨_, _, ys, rfl, rfl, .inl (.of (by rw [← ev]; exact R.known _ _ s1)), hl, hq⟩
      | tup ds =>
        cases q1 with | tup s1 qs =>
        obtain ⟨ys, ev, hl, hq⟩ := core ds _ qs e
        refine ⟨_, _, ys, rfl, rfl, .inr ?_, hl, hq⟩
        rw [← ev]
        exact .of (R.known _ _ s1)
      | _ => cases e
theorem mt_joinA : MtR X "str.join" (rJoin X.K) := by
  exact mt_join
theorem se_join {W : WX} {o e : Expr} {mo : Ev} {ms : Av} {apos cpos : Pos} (hK : X.K = c.K) (ho : SE c W X o mo) (ha : SA c W X [e] ms)
    (hbase : attributeBase o "join" X.env (eval o X.env) = eval o X.env := by rfl) (hfew : ((backTo cpos (starEach [e] X.env)).all (fun x => !x.1) && (backToKw cpos (keywordEach [] X.env)).all (fun x => x.1.isSome)
      && decide ([e].length + ([] : List Keyword).length + (if ([] : List Keyword).isEmpty then 0 else 1) < 30)) = true := by rfl) (hline : (apos.endLine == cpos.line) = true := by rfl)
    (hs : starEach [e] X.env = (false, eval e X.env) :: starEach [] X.env := by rfl) : SE c W X (.Call (.Attribute o "join" apos) [e] [] cpos) (mMeth D.isStr (fun o ds => match ds with | [d] => dJoin o d | _ => none) mo ms) :=
  se_meth hK PySem.F.plainAttrs_str PySem.F.slot_str_join PySem.F.type_str_join mt_joinA (by rw [hK]; exact r_join) (fun _ _ _ _ h q => ty_str h q) ho ha hbase hfew hline hs
/-! ### order of lists: sorted -/
def insD (x : D) : List D → List D
  | [] => [x]
  | y :: r => if lt y x then y :: insD x r else x :: y :: r
/-- stable -/
def sortD : List D → List D
  | [] => []
  | x :: r => insD x (sortD r)
end
end Mi

set_option Elab.async false
set_option linter.all false
set_option maxRecDepth 100000
set_option maxHeartbeats 400000
namespace Mi
open PySem PySem.Spec PyProof.Rows L2
/-! ### a slot is set -/
section
variable {c : Cn} {F : Hp} {am am' : List Addr} {Hk Hk' H H' : Hp} {σ σ' : L2.St} {env env' : En} {mh mh' : Mh}
theorem Rl.setSh {i : Nat} {v : V} {d : D} (R : Rl c F am Hk H σ env mh) (q : Dq c am Hk v d) (hi : i < env.length) : Rl c F am Hk H (σ.set i (some v)) (env.set i (.sh d)) mh := by
  have hs : i < σ.length := by rw [← R.len]; exact hi
  refine ⟨R.known, R.frame, by rw [List.length_set, List.length_set]; exact R.len, fun j s e => ?_, fun j k a h1 h2 => ?_, R.nd, R.mlen, R.mo, R.tups⟩
  · by_cases z : j = i
    · subst z
      rw [List.getElem?_set_self hi] at e
      cases e
      rw [List.getElem?_set_self hs]
      exact ⟨v, rfl, q⟩
    · rw [List.getElem?_set_ne (Ne.symm z)] at e ⊢
      exact R.slot j s e
  · have back : ∀ j, Owns (σ.set i (some v)) (env.set i (.sh d)) j a → Owns σ env j a := by
      rintro j ⟨e1, s, e2, e3⟩
      by_cases z : j = i
      · subst z
        rw [List.getElem?_set_self hi] at e2
        cases e2
        cases e3
      · rw [List.getElem?_set_ne (Ne.symm z)] at e1 e2
        exact ⟨e1, s, e2, e3⟩
    exact R.sep j k a (back j h1) (back k h2)
end
/-! ### targets -/
structure SG (c : Cn) (X : Cx) (tg : Expr) (t : D → En → Option En) (js : List Nat) : Prop where
  ex : ∃ g : TG, PG X tg g ∧ ∀ F am Hk H σ env mh v d env' (Q : L2.St → Hp → Prop), Rl c F am Hk H σ env mh → Dq c am Hk v d → t d env = some env' →
    (∀ σ', Rl c F am Hk H σ' env' mh → σ'.length = σ.length → (∀ i, i ∉ js → σ'[i]? = σ[i]?) → Q σ' H) → g v σ H Q
  keep : ∀ (d : D) (env env' : En), t d env = some env' → ∀ (i : Nat), i ∉ js → env'[i]? = env[i]?
structure SGs (c : Cn) (X : Cx) (tgs : List Expr) (n : Nat) (t : List D → En → Option En) (js : List Nat) : Prop where
  ex : ∃ g : TGs, PGs X tgs g ∧ ∀ F am Hk H σ env mh vs ds env' (Q : L2.St → Hp → Prop), Rl c F am Hk H σ env mh → DqAll c am Hk vs ds → ds.length = n → t ds env = some env' →
    (∀ σ', Rl c F am Hk H σ' env' mh → σ'.length = σ.length → (∀ i, i ∉ js → σ'[i]? = σ[i]?) → Q σ' H) → g vs σ H Q
  keep : ∀ (d : List D) (env env' : En), t d env = some env' → ∀ (i : Nat), i ∉ js → env'[i]? = env[i]?
def gSet (i : Nat) (d : D) (env : En) : Option En := if i < env.length then some (env.set i (.sh d)) else none
def gsNil : List D → En → Option En := fun _ env => some env
def gsCons (t : D → En → Option En) (u : List D → En → Option En) : List D → En → Option En := fun ds env => match ds with
  | d :: r => (t d env).bind fun env1 => u r env1
  | [] => none
def gTupD (n : Nat) (u : List D → En → Option En) (d : D) (env : En) : Option En := match d with
  | .ktup ds => if ds.length = n then u ds env else none
  | .tup ds => if ds.length = n then u ds env else none
  | _ => none
section
variable {c : Cn} {X : Cx}
theorem sg_name {i : Nat} {x : Str} {pos : Pos} (hN : X.N.Nodup) (hi : X.N[i]? = some x := by rfl) (hx : Loc X.env.scope x := by first | exact Or.inl rfl | exact Or.inr rfl)
    (hf : X.fn x = true ∨ X.env.scope.names.lookup x = some .local := by first | exact .inl rfl | exact .inr rfl) : SG c X (.Name x pos) (gSet i) [i] := by
  refine ⟨⟨_, pg_name hN hi hx hf, fun F am Hk H σ env mh v d env' Q R q e h => ?_⟩, fun d env env' e j hj => ?_⟩
  case refine_2 =>
    unfold gSet at e
    split at e
    · cases e
      rw [List.getElem?_set_ne]
      intro z
      subst z
      exact hj (by simp)
    · cases e
  unfold gSet at e
  split at e
  · rename_i hl
    cases e
    refine h _ (R.setSh q hl) (List.length_set ..) fun j hj => ?_
    rw [List.getElem?_set_ne]
    intro z
    subst z
    exact hj (by simp)
  · cases e
theorem sgs_nil : SGs c X [] 0 gsNil [] := by
  refine ⟨⟨_, pgs_nil, fun F am Hk H σ env mh vs ds env' Q R q hl e h => ?_⟩, fun d env env' e j hj => by cases e; rfl⟩
  cases e
  have e0 : vs = [] := by
    have := q.length
    rw [hl] at this
    exact List.length_eq_zero_iff.mp this
  exact ⟨e0, h σ R rfl fun _ _ => rfl⟩
theorem sgs_cons {e : Expr} {es : List Expr} {n : Nat} {t : D → En → Option En} {u : List D → En → Option En} {js ks : List Nat} (h1 : SG c X e t js) (h2 : SGs c X es n u ks)
    (hs : (assignEach (e :: es) X.env).map (·.2) = assign e X.env :: (assignEach es X.env).map (·.2) := by rfl) : SGs c X (e :: es) (n + 1) (gsCons t u) (js ++ ks) := by
  obtain ⟨⟨g, pg, kg⟩, kp⟩ := h1
  obtain ⟨⟨gs, pgs, kgs⟩, kps⟩ := h2
  refine ⟨⟨_, pgs_cons pg pgs hs, fun F am Hk H σ env mh vs ds env' Q R q hl e h => ?_⟩, fun d env env' e j hj => ?_⟩
  case refine_2 =>
    cases d with
    | nil => cases e
    | cons d r =>
      simp only [gsCons] at e
      cases h1 : t d env with
      | none => rw [h1] at e; cases e
      | some env1 =>
        rw [h1] at e
        simp only [Option.bind_some] at e
        rw [kps r env1 env' e j fun z => hj (List.mem_append_right _ z), kp d env env1 h1 j fun z => hj (List.mem_append_left _ z)]
  cases q with
  | nil => cases hl
  | cons q1 qs =>
    rename_i v vs d ds
    simp only [gsCons] at e
    cases h1 : t d env with
    | none => rw [h1] at e; cases e
    | some env1 =>
      rw [h1] at e
      simp only [Option.bind_some] at e
      refine ⟨v, vs, rfl, kg F am Hk H σ env mh v d env1 _ R q1 h1 fun σ1 R1 l1 k1 => ?_⟩
      refine kgs F am Hk H σ1 env1 mh vs ds env' _ R1 qs (by simpa using hl) e fun σ2 R2 l2 k2 => ?_
      refine h σ2 R2 (l2.trans l1) fun i hi => ?_
      rw [k2 i fun z => hi (List.mem_append_right _ z), k1 i fun z => hi (List.mem_append_left _ z)]
theorem sg_tup {es : List Expr} {k : Nat} {pos : Pos} {n : Nat} {u : List D → En → Option En} {js : List Nat} (hK : X.K = c.K) (hc : X.calm = true) (h : SGs c X es n u js)
    (hn : (assignEach es X.env).length = n := by rfl) (hst : (assignEach es X.env).findIdx? (·.1) = none := by rfl) : SG c X (.Tuple es k pos) (gTupD n u) js := by
  obtain ⟨⟨g, pg, kg⟩, kp⟩ := h
  refine ⟨⟨_, pg_tup hc pg hn hst, fun F am Hk H σ env mh v d env' Q R q e h => ?_⟩, fun d env env' e j hj => ?_⟩
  case refine_2 =>
    cases d <;> first | (cases e; done) | skip
    · rename_i ds
      simp only [gTupD] at e
      split at e
      · exact kp ds env env' e j hj
      · cases e
    · rename_i ds
      simp only [gTupD] at e
      split at e
      · exact kp ds env env' e j hj
      · cases e
  cases d <;> first | (cases e; done) | skip
  · rename_i ds
    simp only [gTupD] at e
    by_cases hl : ds.length = n
    · rw [if_pos hl] at e
      cases q with | tup s1 qs =>
      exact ⟨_, _, rfl, .of (R.known _ _ s1), by rw [qs.length, hl], kg F am Hk H σ env mh _ ds env' _ R qs hl e h⟩
    · rw [if_neg hl] at e; cases e
  · rename_i ds
    simp only [gTupD] at e
    by_cases hl : ds.length = n
    · rw [if_pos hl] at e
      cases q with | ktup s1 qs =>
      refine ⟨_, _, rfl, ?_, by rw [qs.length, hl], kg F am Hk H σ env mh _ ds env' _ R qs hl e h⟩
      rw [hK]
      exact R.known.seqT s1.t
    · rw [if_neg hl] at e; cases e
end
/-! ### what is walked -/
/-- at turn i of items comes x -/
def YIs (c : Cn) (am : List Addr) (items : List D) (Hk : Hp) (i : Nat) (H2 : Hp) (x : V) (H3 : Hp) : Prop :=
  (H3 = H2 ∧ ∃ d, items[i]? = some d ∧ Dq c am Hk x d) ∨
  (∃ T p q dp dq, x = .ref T ∧ H2 T = none ∧ H3 = upd H2 T (.tup [p, q]) ∧ items[i]? = some (.tup [dp, dq]) ∧ Dq c am Hk p dp ∧ Dq c am Hk q dq) ∨
  ∃ (T : Addr) (ks : List Key), x = .ref T ∧ H3 = H2 ∧ H2 T = some (.tup (ks.map kV)) ∧ (∀ k ∈ ks, keyOk k) ∧ items[i]? = some (.tup (ks.map keyD))
theorem dqAll_keys {am : List Addr} {H : Hp} : ∀ {ks : List Key}, (∀ k ∈ ks, keyOk k) → DqAll c am H (ks.map kV) (ks.map keyD)
  | [], _ => .nil
  | k :: ks, h => by
    refine .cons ?_ (dqAll_keys fun z hz => h z (List.mem_cons_of_mem _ hz))
    have hk := h k List.mem_cons_self
    cases k with
    | inl i => exact .int i
    | inr x => exact .str x hk
/-- the item at hand -/
theorem YIs.item {c : Cn} {F : Hp} {am am2 : List Addr} {items : List D} {Hk Hk2 H2 H3 : Hp} {σ : L2.St} {env : En} {mh : Mh} {i : Nat} {x : V} (hlt : i < items.length) (h : YIs c am items Hk i H2 x H3) (R2 : Rl c F am2 Hk2 H2 σ env mh) (g : Go am am2) (e : Le Hk Hk2) :
    ∃ Hk3, Le Hk2 Hk3 ∧ Rl c F am2 Hk3 H3 σ env mh ∧ Dq c am2 Hk3 x items[i] := by
  rcases h with ⟨rfl, d, h3, h4⟩ | ⟨T, p, q, dp, dq, rfl, hT, rfl, h3, h4, h5⟩ | ⟨T, ks, rfl, rfl, hT, hk, h3⟩
  · rw [List.getElem?_eq_getElem hlt] at h3
    cases h3
    exact ⟨Hk2, Le.refl _, R2, h4.up g e⟩
  · rw [List.getElem?_eq_getElem hlt] at h3
    have e3 := Option.some.inj h3
    rw [e3]
    exact ⟨_, Le.new (R2.hk_none hT), R2.alloc hT, dq_tup (R2.hk_none hT) (.cons (h4.up g e) (.cons (h5.up g e) .nil))⟩
  · rw [List.getElem?_eq_getElem hlt] at h3
    have e3 := Option.some.inj h3
    rw [e3]
    exact ⟨Hk2, Le.refl _, R2, .tup (R2.tups _ _ hT) (dqAll_keys hk)⟩
abbrev Iv := En → Mh → Rs (List D)
def IPs (c : Cn) (W : WX) (F : Hp) (am : List Addr) (Hk : Hp) (σ : L2.St) (env : En) (r : Rs (List D)) (R : It → Hp → Prop) : Prop := match r with
  | .ok items mh' => ∀ J am' Hk' H' G Y, Go am am' → Le Hk Hk' → Rl c F am' Hk' H' σ env mh' → Walk J items.length G Y → (∀ H2, Le Hk' H2 → G H2) →
      (∀ i H2 x H3, i < items.length → Le Hk' H2 → Y i H2 x H3 → YIs c am' items Hk' i H2 x H3) → R J H'
  | .er x mh' => ∀ cls dd am' Hk' H', Go am am' → Le Hk Hk' → Rl c F am' Hk' H' σ env mh' → ExIs c x cls dd H' → W cls dd σ H'
  | .no => False
structure SI (c : Cn) (W : WX) (X : Cx) (tg iter : Expr) (m : Iv) : Prop where
  ex : ∃ wi : TI, PI X tg iter wi ∧ ∀ F am Hk H σ env mh R, Rl c F am Hk H σ env mh → IPs c W F am Hk σ env (m env mh) R → wi σ H R
theorem IPs.later {c : Cn} {W : WX} {F : Hp} {am am' : List Addr} {Hk Hk' : Hp} {σ : L2.St} {env : En} {r : Rs (List D)} {R : It → Hp → Prop} (h : IPs c W F am Hk σ env r R) (g : Go am am') (e : Le Hk Hk') : IPs c W F am' Hk' σ env r R := by
  cases r with
  | ok d m => exact fun J am2 Hk2 H2 G Y g2 e2 R w a b => h J am2 Hk2 H2 G Y (g.trans g2) (e.trans e2) R w a b
  | er x m => exact fun cls dd am2 Hk2 H2 g2 e2 R q => h cls dd am2 Hk2 H2 (g.trans g2) (e.trans e2) R q
  | no => exact h
section
variable {c : Cn} {W : WX} {F : Hp} {am : List Addr} {Hk H : Hp} {σ : L2.St} {env : En} {mh : Mh} {α β : Type} {rel1 : List Addr → Hp → β → α → Prop}
theorem IPs.step {r : Rs α} {f : α → Mh → Rs (List D)} {Q : It → Hp → Prop} {K : β → Hp → Prop} (h : IPs c W F am Hk σ env (r.bind f) Q)
    (k : ∀ d mh1, r = .ok d mh1 → ∀ v am1 Hk1 H1, Go am am1 → Le Hk Hk1 → Rl c F am1 Hk1 H1 σ env mh1 → rel1 am1 Hk1 v d → IPs c W F am1 Hk1 σ env (f d mh1) Q → K v H1) : GP c W F am Hk σ env rel1 r K := by
  cases r with
  | ok d m =>
    intro v am1 Hk1 H1 g e R q
    exact k d m rfl v am1 Hk1 H1 g e R q (IPs.later (r := f d m) h g e)
  | er x m => exact h
  | no => exact h
end
theorem pi_orW {X : Cx} {tg iter : Expr} {w1 w2 : TI} (h1 : PI X tg iter w1) (h2 : PI X tg iter w2) : PI X tg iter (fun σ H R => w1 σ H R ∨ w2 σ H R) :=
  ⟨fun pins s σ H R I h => h.elim (h1.run pins s σ H R I) (h2.run pins s σ H R I)⟩
def signsD (z : Str) : List D := z.cps.toList.map fun ch => .str (chr1 ch)
def itemsD : D → Option (List D)
  | .lst ds => some ds
  | .tup ds => some ds
  | .ktup ds => some ds
  | .rol ds => some ds
  | .str z => some (signsD z)
  | _ => none
def mIter (m : Ev) : Iv := fun env mh => (m env mh).bind fun d mh1 => lift (itemsD d) mh1
section
variable {c : Cn} {X : Cx} {W : WX}
theorem ips_ok {F : Hp} {am : List Addr} {Hk : Hp} {σ : L2.St} {env : En} {o : Option (List D)} {mh : Mh} {R : It → Hp → Prop} (h : IPs c W F am Hk σ env (lift o mh) R) :
    ∃ ds, o = some ds ∧ IPs c W F am Hk σ env (.ok ds mh) R := by
  cases o with
  | none => exact h.elim
  | some ds => exact ⟨ds, rfl, h⟩
theorem strOk_sign {z : Str} (hz : PySem.PyData.strOk z = true) {ch : Nat} (h : ch ∈ z.cps.toList) : PySem.PyData.strOk (chr1 ch) = true := by
  unfold PySem.PyData.strOk at *
  rw [Array.all_eq_true_iff_forall_mem] at hz
  have := hz ch (by simpa using h)
  simpa [chr1] using this
theorem si_val {tg iter : Expr} {m : Ev} (hK : X.K = c.K) (h : SE c W X iter m) : SI c W X tg iter (mIter m) := by
  obtain ⟨t, p, k⟩ := h
  refine ⟨_, pi_orW (pi_list p) (pi_orW (pi_tup p) (pi_str p)), fun F am Hk H σ env mh R Rl0 h => ?_⟩
  have onList : ∀ d mh1, m env mh = .ok d mh1 → (∀ ds, d = .lst ds ∨ d = .rol ds → True) → ((∃ ds, d = .lst ds) ∨ (∃ ds, d = .rol ds)) → iList X.K t σ H R := by
    intro d mh1 em _ hd
    refine k F am Hk H σ env mh _ Rl0 (IPs.step h fun d' mh1' er v am1 Hk1 H1 g1 e1 R1 q1 h1 => ?_)
    rw [em] at er
    cases er
    obtain ⟨ds, e, hi⟩ := ips_ok h1
    rcases hd with ⟨es, rfl⟩ | ⟨es, rfl⟩
    · cases e
      cases q1 with | lst s1 qs =>
      rename_i a xs
      refine ⟨a, rfl, ⟨xs, .of (R1.known _ _ s1)⟩, ?_⟩
      refine hi (Itl X.K a) am1 Hk1 H1 (fun H => SqL X.K H a xs) (YAt xs) (Go.refl _) (Le.refl _) R1 (by rw [← qs.length]; exact walk_list) (fun H2 le => .of (le _ _ s1)) fun i H2 x H3 _ le y => ?_
      obtain ⟨e3, hx⟩ := y
      obtain ⟨d, h3, h4⟩ := qs.get hx
      exact .inl ⟨e3, d, h3, h4⟩
    · cases e
      cases q1 with | rol s1 qs =>
      rename_i a xs
      rw [hK]
      refine ⟨a, rfl, ⟨xs, R1.known.seqL s1⟩, ?_⟩
      refine hi (Itl c.K a) am1 Hk1 H1 (fun H => SqL c.K H a xs) (YAt xs) (Go.refl _) (Le.refl _) R1 (by rw [← qs.length]; exact walk_list) (fun H2 le => le.seqL s1) fun i H2 x H3 _ le y => ?_
      obtain ⟨e3, hx⟩ := y
      obtain ⟨d, h3, h4⟩ := qs.get hx
      exact .inl ⟨e3, d, h3, h4⟩
  cases em : m env mh with
  | no => unfold mIter at h; rw [em] at h; exact h.elim
  | er x mh1 =>
    refine .inl (k F am Hk H σ env mh _ Rl0 (IPs.step h fun d' mh1' er v am1 Hk1 H1 g1 e1 R1 q1 h1 => ?_))
    rw [em] at er
    cases er
  | ok d mh1 =>
    cases d with
    | lst es => exact .inl (onList _ _ em (fun _ _ => trivial) (.inl ⟨es, rfl⟩))
    | rol es => exact .inl (onList _ _ em (fun _ _ => trivial) (.inr ⟨es, rfl⟩))
    | tup es =>
      refine .inr (.inl (k F am Hk H σ env mh _ Rl0 (IPs.step h fun d' mh1' er v am1 Hk1 H1 g1 e1 R1 q1 h1 => ?_)))
      rw [em] at er
      cases er
      obtain ⟨ds, e, hi⟩ := ips_ok h1
      cases e
      cases q1 with | tup s1 qs =>
      rename_i a xs
      rw [hK]
      refine ⟨a, rfl, ⟨xs, .of (R1.known _ _ s1)⟩, ?_⟩
      refine hi (Itt c.K a) am1 Hk1 H1 (fun H => SqT c.K H a xs) (YAt xs) (Go.refl _) (Le.refl _) R1 (by rw [← qs.length]; exact walk_tup) (fun H2 le => .of (le _ _ s1)) fun i H2 x H3 _ le y => ?_
      obtain ⟨e3, hx⟩ := y
      obtain ⟨d, h3, h4⟩ := qs.get hx
      exact .inl ⟨e3, d, h3, h4⟩
    | ktup es =>
      refine .inr (.inl (k F am Hk H σ env mh _ Rl0 (IPs.step h fun d' mh1' er v am1 Hk1 H1 g1 e1 R1 q1 h1 => ?_)))
      rw [em] at er
      cases er
      obtain ⟨ds, e, hi⟩ := ips_ok h1
      cases e
      cases q1 with | ktup s1 qs =>
      rename_i a xs
      rw [hK]
      refine ⟨a, rfl, ⟨xs, R1.known.seqT s1.t⟩, ?_⟩
      refine hi (Itt c.K a) am1 Hk1 H1 (fun H => SqT c.K H a xs) (YAt xs) (Go.refl _) (Le.refl _) R1 (by rw [← qs.length]; exact walk_tup) (fun H2 le => le.seqT s1.t) fun i H2 x H3 _ le y => ?_
      obtain ⟨e3, hx⟩ := y
      obtain ⟨d, h3, h4⟩ := qs.get hx
      exact .inl ⟨e3, d, h3, h4⟩
    | str z =>
      refine .inr (.inr (k F am Hk H σ env mh _ Rl0 (IPs.step h fun d' mh1' er v am1 Hk1 H1 g1 e1 R1 q1 h1 => ?_)))
      rw [em] at er
      cases er
      obtain ⟨ds, e, hi⟩ := ips_ok h1
      cases e
      cases q1 with | str _ kz =>
      refine ⟨z, rfl, ?_⟩
      have hl : (signsD z).length = z.cps.size := by simp [signsD]
      refine hi (Its z) am1 Hk1 H1 _ _ (Go.refl _) (Le.refl _) R1 (by rw [hl]; exact walk_str) (fun H2 le => trivial) fun i H2 x H3 _ le y => ?_
      obtain ⟨e3, ch, hx, e4⟩ := y
      subst e4
      have hx' : z.cps.toList[i]? = some ch := by simpa using hx
      refine .inl ⟨e3, .str (chr1 ch), ?_, .str _ (strOk_sign kz (List.mem_of_getElem? hx'))⟩
      unfold signsD
      rw [List.getElem?_map, hx']
      rfl
    | _ =>
      refine .inl (k F am Hk H σ env mh _ Rl0 (IPs.step h fun d' mh1' er v am1 Hk1 H1 g1 e1 R1 q1 h1 => ?_))
      rw [em] at er
      cases er
      obtain ⟨ds, e, hi⟩ := ips_ok h1
      cases e
/-- range(n), range(i, j), range(i, j, -1) -/
def rngD (lo : Int) (n : Nat) : List D := (List.range n).map fun (k : Nat) => .int (lo + k)
def rngDown (lo : Int) (n : Nat) : List D := (List.range n).map fun (k : Nat) => .int (lo + k * -1)
def dRng1 : List D → Option (List D)
  | [.int j] => if j ≤ LIM ∧ -(2 ^ 62) ≤ j then some (rngD 0 j.toNat) else none
  | _ => none
def dRng2 : List D → Option (List D)
  | [.int i, .int j] => if j - i ≤ LIM ∧ (-(2 ^ 62) ≤ i ∧ i < 2 ^ 62 ∧ -(2 ^ 62) ≤ j ∧ j < 2 ^ 62) then some (rngD i (j - i).toNat) else none
  | _ => none
def dRng3 : List D → Option (List D)
  | [.int i, .int j, .int k] => if k = -1 ∧ i - j ≤ LIM ∧ (-(2 ^ 62) ≤ i ∧ i < 2 ^ 62 ∧ -(2 ^ 62) ≤ j ∧ j < 2 ^ 62) then some (rngDown i (i - j).toNat) else none
  | _ => none
def mRng (f : List D → Option (List D)) (ms : Av) : Iv := fun env mh => (ms env mh).bind fun ds mh1 => lift (f ds) mh1
theorem rng_go {F : Hp} {am : List Addr} {Hk H : Hp} {σ : L2.St} {env : En} {mh : Mh} {R : It → Hp → Prop} {lo : Int} {n : Nat} (R1 : Rl c F am Hk H σ env mh) (hi : IPs c W F am Hk σ env (.ok (rngD lo n) mh) R) : R (Itr lo n) H := by
  have hl : (rngD lo n).length = n := by simp [rngD]
  refine hi (Itr lo n) am Hk H _ _ (Go.refl _) (Le.refl _) R1 (by rw [hl]; exact walk_range) (fun _ _ => trivial) fun i H2 x H3 hlt le y => ?_
  obtain ⟨e3, e4⟩ := y
  subst e4
  refine .inl ⟨e3, .int (lo + i), ?_, .int _⟩
  unfold rngD
  rw [List.getElem?_map, List.getElem?_range (by rw [hl] at hlt; exact hlt)]
  rfl
theorem si_range1 {tg a : Expr} {ms : Av} {p pos : Pos} (hm : X.mg "range" = none) (ha : SA c W X [a] ms) (hg : Gl X "range" := by rfl) (hs : starEach [a] X.env = [(false, eval a X.env)] := by rfl) : SI c W X tg (.Call (.Name "range" p) [a] [] pos) (mRng dRng1 ms) := by
  obtain ⟨t, pa, k⟩ := ha
  refine ⟨_, pi_range1 hg hm pa hs, fun F am Hk H σ env mh R Rl0 h => ?_⟩
  refine k F am Hk H σ env mh _ Rl0 (IPs.step h fun ds mh1 er vs am1 Hk1 H1 g1 e1 R1 q1 h1 => ?_)
  obtain ⟨es, e, hi⟩ := ips_ok h1
  have hlim : (LIM : Int) = 1000000 := rfl
  unfold dRng1 at e
  split at e
  · split at e
    · rename_i j hh
      cases e
      cases q1 with | cons qj qs =>
      cases qs
      cases qj
      exact ⟨j, rfl, hh.2, by omega, rng_go R1 hi⟩
    · cases e
  · cases e
theorem si_range2 {tg a b : Expr} {ms : Av} {p pos : Pos} (hm : X.mg "range" = none) (ha : SA c W X [a, b] ms) (hg : Gl X "range" := by rfl) (hs : starEach [a, b] X.env = [(false, eval a X.env), (false, eval b X.env)] := by rfl)
    (hs2 : starEach [b] X.env = [(false, eval b X.env)] := by rfl) : SI c W X tg (.Call (.Name "range" p) [a, b] [] pos) (mRng dRng2 ms) := by
  obtain ⟨t, pa, k⟩ := ha
  refine ⟨_, pi_range2 hg hm pa hs hs2, fun F am Hk H σ env mh R Rl0 h => ?_⟩
  refine k F am Hk H σ env mh _ Rl0 (IPs.step h fun ds mh1 er vs am1 Hk1 H1 g1 e1 R1 q1 h1 => ?_)
  obtain ⟨es, e, hi⟩ := ips_ok h1
  unfold dRng2 at e
  split at e
  · split at e
    · rename_i i j hh
      cases e
      cases q1 with | cons qi qs =>
      cases qs with | cons qj qs =>
      cases qs
      cases qi
      cases qj
      exact ⟨i, j, rfl, hh.2, rng_go R1 hi⟩
    · cases e
  · cases e
theorem si_range3 {tg a b d : Expr} {ms : Av} {p pos : Pos} (hm : X.mg "range" = none) (ha : SA c W X [a, b, d] ms) (hg : Gl X "range" := by rfl) (hs : starEach [a, b, d] X.env = (false, eval a X.env) :: starEach [b, d] X.env := by rfl)
    (hpl : (backTo pos (starEach [b, d] X.env)).any (·.1) = false := by rfl) : SI c W X tg (.Call (.Name "range" p) [a, b, d] [] pos) (mRng dRng3 ms) := by
  obtain ⟨t, pa, k⟩ := ha
  refine ⟨_, pi_range3 hg hm pa hs hpl, fun F am Hk H σ env mh R Rl0 h => ?_⟩
  refine k F am Hk H σ env mh _ Rl0 (IPs.step h fun ds mh1 er vs am1 Hk1 H1 g1 e1 R1 q1 h1 => ?_)
  obtain ⟨es, e, hi⟩ := ips_ok h1
  unfold dRng3 at e
  split at e
  · split at e
    · rename_i i j k hh
      obtain ⟨rfl, hl, h1, h2, h3, h4⟩ := hh
      cases e
      cases q1 with | cons qi qs =>
      cases qs with | cons qj qs =>
      cases qs with | cons qk qs =>
      cases qs
      cases qi
      cases qj
      cases qk
      refine ⟨i, j, -1, (i - j).toNat, rfl, .neg h1 h2 h3 h4, ?_⟩
      have hl : (rngDown i (i - j).toNat).length = (i - j).toNat := by simp [rngDown]
      refine hi (Itc i (-1) (i - j).toNat) am1 Hk1 H1 _ _ (Go.refl _) (Le.refl _) R1 (by rw [hl]; exact walk_rangeC) (fun _ _ => trivial) fun m H2 x H3 hlt le y => ?_
      obtain ⟨e3, e4⟩ := y
      subst e4
      refine .inl ⟨e3, .int (i + (m : Nat) * -1), ?_, .int _⟩
      unfold rngDown
      rw [List.getElem?_map, List.getElem?_range (by rw [hl] at hlt; exact hlt)]
      rfl
    · cases e
  · cases e

/-! ### list comprehensions -/
def Cel.isOwn (s : Option Cel) : Bool := match s with
  | some s => s.own
  | none => false
def wipeE (env : En) : List Nat → En
  | [] => env
  | v :: vs => (wipeE env vs).set v .no
def noOwn (env : En) (vs : List Nat) : Bool := vs.all fun v => !Cel.isOwn env[v]?
def noEr {α : Type} (r : Rs α) : Rs α := match r with
  | .er _ _ => .no
  | r => r
def compGo (t : D → En → Option En) (tst : Bv) (elt : Ev) (env : En) : List D → Mh → Rs (List D)
  | [], mh => .ok [] mh
  | d :: r, mh => match t d env with
    | none => .no
    | some env1 => (noEr (tst env1 mh)).bind fun b mh1 => if b = true then (noEr (elt env1 mh1)).bind fun x mh2 => (compGo t tst elt env r mh2).bind fun xs mh3 => .ok (x :: xs) mh3 else compGo t tst elt env r mh1
abbrev Cv := En → Mh → Rs Cel
def mCompC (vs : List Nat) (src : Iv) (t : D → En → Option En) (tst : Bv) (elt : Ev) : Cv := fun env mh => (src env mh).bind fun ds mh1 => if noOwn env vs && decide (ds.length ≤ LIM) then (compGo t tst elt (wipeE env vs) ds mh1).bind fun xs mh2 => .ok (.ol xs) mh2 else .no
def tt : Bv := fun _ mh => .ok true mh
end
section
variable {c : Cn} {F : Hp} {am am' : List Addr} {Hk Hk' H H' : Hp} {σ σ' : L2.St} {env env' : En} {mh mh' : Mh}
theorem wipeE_length (env : En) : ∀ vs : List Nat, (wipeE env vs).length = env.length
  | [] => rfl
  | v :: vs => by unfold wipeE; rw [List.length_set, wipeE_length env vs]
theorem wipeE_out {i : Nat} : ∀ {vs : List Nat}, i ∉ vs → (wipeE env vs)[i]? = env[i]?
  | [], _ => rfl
  | v :: vs, h => by
    unfold wipeE
    rw [List.getElem?_set_ne (fun z => h (by simp [z]))]
    exact wipeE_out fun z => h (List.mem_cons_of_mem _ z)
theorem wipeE_in {i : Nat} {s : Cel} : ∀ {vs : List Nat}, i ∈ vs → (wipeE env vs)[i]? = some s → s = .no
  | v :: vs, h, e => by
    unfold wipeE at e
    by_cases z : i = v
    · subst z
      rw [List.getElem?_set] at e
      split at e
      · split at e
        · exact (Option.some.inj e).symm
        · cases e
      · rename_i k; exact absurd rfl k
    · rw [List.getElem?_set_ne (Ne.symm z)] at e
      exact wipeE_in ((List.mem_cons.mp h).resolve_left z) e
theorem noOwn_of {vs : List Nat} (h : noOwn env vs = true) {i : Nat} {s : Cel} (hi : i ∈ vs) (e : env[i]? = some s) : s.own = false := by
  unfold noOwn at h
  have := List.all_eq_true.mp h i hi
  rw [e] at this
  simpa [Cel.isOwn] using this
theorem Rl.wiped {vs : List Nat} (R : Rl c F am Hk H σ env mh) : Rl c F am Hk H (wipe σ vs) (wipeE env vs) mh := by
  refine ⟨R.known, R.frame, by rw [wipeE_length, wipe_length]; exact R.len, fun i s e => ?_, fun j k a h1 h2 => ?_, R.nd, R.mlen, R.mo, R.tups⟩
  · by_cases hi : i ∈ vs
    · rw [wipeE_in hi e]; trivial
    · rw [wipeE_out hi] at e
      rw [wipe_out hi]
      exact R.slot i s e
  · have back : ∀ j, Owns (wipe σ vs) (wipeE env vs) j a → Owns σ env j a := by
      rintro j ⟨e1, s, e2, e3⟩
      by_cases hi : j ∈ vs
      · rw [wipeE_in hi e2] at e3; cases e3
      · rw [wipeE_out hi] at e2
        rw [wipe_out hi] at e1
        exact ⟨e1, s, e2, e3⟩
    exact R.sep j k a (back j h1) (back k h2)
theorem Rl.unwipe {vs : List Nat} (R0 : Rl c F am Hk H σ env mh) (hn : noOwn env vs = true) (R : Rl c F am' Hk' H' (wipe σ vs) (wipeE env vs) mh') (g : Go am am') (e : Le Hk Hk') : Rl c F am' Hk' H' σ env mh' := by
  refine ⟨R.known, R.frame, R0.len, fun i s h => ?_, R0.sep, R.nd, R.mlen, R.mo, R.tups⟩
  by_cases hi : i ∈ vs
  · have ho := noOwn_of hn hi h
    have h0 := R0.slot i s h
    cases s with
    | no => trivial
    | sh d => obtain ⟨x, e1, q⟩ := h0; exact ⟨x, e1, q.up g e⟩
    | ol _ => cases ho
    | od _ _ => cases ho
  · have h1 := R.slot i s (by rw [wipeE_out hi]; exact h)
    rw [wipe_out hi] at h1
    exact h1
theorem Rl.unset {σw σ2 : L2.St} {ew env1 : En} {mh6 : Mh} {vs : List Nat} (R3 : Rl c F am Hk H σw ew mh) (R6 : Rl c F am' Hk' H' σ2 env1 mh6) (g : Go am am') (e : Le Hk Hk') (h : ∀ i, i ∉ vs → σ2[i]? = σw[i]? ∧ env1[i]? = ew[i]?)
    (ho : ∀ i s, i ∈ vs → ew[i]? = some s → s.own = false) : Rl c F am' Hk' H' σw ew mh6 := by
  refine ⟨R6.known, R6.frame, R3.len, fun i s h1 => ?_, R3.sep, R6.nd, R6.mlen, R6.mo, R6.tups⟩
  by_cases hi : i ∈ vs
  · have hs := ho i s hi h1
    have h0 := R3.slot i s h1
    cases s with
    | no => trivial
    | sh d => obtain ⟨x, e1, q⟩ := h0; exact ⟨x, e1, q.up g e⟩
    | ol _ => cases hs
    | od _ _ => cases hs
  · obtain ⟨k1, k2⟩ := h i hi
    have h0 := R6.slot i s (by rw [k2]; exact h1)
    rw [k1] at h0
    exact h0
theorem Rl.unset' {F3 : Hp} {σw σ2 : L2.St} {ew env1 : En} {mh6 : Mh} {vs : List Nat} (R3 : Rl c F3 am Hk H σw ew mh) (R6 : Rl c F am' Hk' H' σ2 env1 mh6) (g : Go am am') (e : Le Hk Hk') (h : ∀ i, i ∉ vs → σ2[i]? = σw[i]? ∧ env1[i]? = ew[i]?)
    (ho : ∀ i s, i ∈ vs → ew[i]? = some s → s.own = false) : Rl c F am' Hk' H' σw ew mh6 := by
  refine ⟨R6.known, R6.frame, R3.len, fun i s h1 => ?_, R3.sep, R6.nd, R6.mlen, R6.mo, R6.tups⟩
  by_cases hi : i ∈ vs
  · have hs := ho i s hi h1
    have h0 := R3.slot i s h1
    cases s with
    | no => trivial
    | sh d => obtain ⟨x, e1, q⟩ := h0; exact ⟨x, e1, q.up g e⟩
    | ol _ => cases hs
    | od _ _ => cases hs
  · obtain ⟨k1, k2⟩ := h i hi
    have h0 := R6.slot i s (by rw [k2]; exact h1)
    rw [k1] at h0
    exact h0
theorem wipe_ext : ∀ {vs : List Nat} {σ σ' : L2.St}, σ'.length = σ.length → (∀ i, i ∉ vs → σ'[i]? = σ[i]?) → wipe σ' vs = wipe σ vs := by
  intro vs σ σ' hl h
  refine List.ext_getElem? fun i => ?_
  by_cases hi : i ∈ vs
  · have inn : ∀ (vs : List Nat) (σ : L2.St), i ∈ vs → (wipe σ vs)[i]? = if i < σ.length then some none else none := by
      intro vs σ
      induction vs with
      | nil => intro h; cases h
      | cons v vs ih =>
        intro hm
        unfold wipe
        by_cases z : i = v
        · subst z
          rw [List.getElem?_set]
          simp only [if_true, wipe_length]
        · rw [List.getElem?_set_ne (Ne.symm z)]
          exact ih ((List.mem_cons.mp hm).resolve_left z)
    rw [inn vs σ' hi, inn vs σ hi, hl]
  · rw [wipe_out hi, wipe_out hi]
    exact h i hi
end
section
variable {c : Cn} {F : Hp} {am am' : List Addr} {Hk Hk' H H' : Hp} {σ σ' : L2.St} {env env' : En} {mh mh' : Mh} {p : Addr} {o o' : HO}
/-- an object put aside: it is kept as it is -/
def noTup : HO → Prop
  | .tup _ => False
  | _ => True
theorem Rl.stash (R : Rl c F am Hk H σ env mh) (hp : H p = none) (hnt : noTup o := by exact trivial) : Rl c (upd F p o) am Hk (upd H p o) σ env mh := by
  have hk := R.hk_none hp
  have hm := R.am_not hp
  refine ⟨fun a u e => ?_, fun a u e => ?_, R.len, fun i s e => ?_, R.sep, R.nd, R.mlen, fun n a u e1 e2 => ?_, fun a xs e => ?_⟩
  · rw [upd_ne (ne_of_none (R.known a u e) hp)]; exact R.known a u e
  · by_cases z : a = p
    · subst z; rw [upd_same] at e ⊢; exact ⟨e, hk, hm⟩
    · rw [upd_ne z] at e ⊢; exact R.frame a u e
  · have h0 := R.slot i s e
    cases s with
    | no => trivial
    | sh d => exact h0
    | ol ds =>
      obtain ⟨a, xs, e1, e2, e3, e4, e5, q⟩ := h0
      have z : a ≠ p := ne_of_none e5 hp
      exact ⟨a, xs, e1, e2, by rw [upd_ne z]; exact e3, e4, by rw [upd_ne z]; exact e5, q⟩
    | od t ks ds =>
      obtain ⟨a, e1, e2, e3, e4, q⟩ := h0
      rcases q with ⟨et, kvs, e5, e6, e7, q⟩ | ⟨et, kvs, e5, e6, e7, q⟩
      · have z : a ≠ p := ne_of_none e5 hp
        exact ⟨a, e1, e2, by rw [upd_ne z]; exact e3, e4, .inl ⟨et, kvs, by rw [upd_ne z]; exact e5, e6, e7, q⟩⟩
      · have z : a ≠ p := ne_of_none e5 hp
        exact ⟨a, e1, e2, by rw [upd_ne z]; exact e3, e4, .inr ⟨et, kvs, by rw [upd_ne z]; exact e5, e6, e7, q⟩⟩
  · refine (R.mo n a u e1 e2).up (Le.refl _) fun u' h => ?_
    rw [upd_ne (ne_of_none h hp)]; exact ⟨h, fun h => h⟩
  · by_cases z : a = p
    · subst z
      rw [upd_same] at e
      cases e
      exact hnt.elim
    · rw [upd_ne z] at e; exact R.tups a xs e
theorem Rl.restash (R : Rl c (upd F p o) am Hk H σ env mh) (hnt : noTup o' := by exact trivial) : Rl c (upd F p o') am Hk (upd H p o') σ env mh := by
  obtain ⟨hp, hk, hm⟩ := R.frame p o upd_same
  refine ⟨fun a u e => ?_, fun a u e => ?_, R.len, fun i s e => ?_, R.sep, R.nd, R.mlen, fun n a u e1 e2 => ?_, fun a xs e => ?_⟩
  · have z : a ≠ p := ne_of_none e hk
    rw [upd_ne z]; exact R.known a u e
  · by_cases z : a = p
    · subst z; rw [upd_same] at e ⊢; exact ⟨e, hk, hm⟩
    · rw [upd_ne z] at e ⊢; exact R.frame a u (by rw [upd_ne z]; exact e)
  · have h0 := R.slot i s e
    cases s with
    | no => trivial
    | sh d => exact h0
    | ol ds =>
      obtain ⟨a, xs, e1, e2, e3, e4, e5, q⟩ := h0
      have z : a ≠ p := fun z => by subst z; rw [upd_same] at e3; cases e3
      rw [upd_ne z] at e3
      exact ⟨a, xs, e1, e2, by rw [upd_ne z]; exact e3, e4, by rw [upd_ne z]; exact e5, q⟩
    | od t ks ds =>
      obtain ⟨a, e1, e2, e3, e4, q⟩ := h0
      have z : a ≠ p := fun z => by subst z; rw [upd_same] at e3; cases e3
      rw [upd_ne z] at e3
      rcases q with ⟨et, kvs, e5, e6, e7, q⟩ | ⟨et, kvs, e5, e6, e7, q⟩
      · exact ⟨a, e1, e2, by rw [upd_ne z]; exact e3, e4, .inl ⟨et, kvs, by rw [upd_ne z]; exact e5, e6, e7, q⟩⟩
      · exact ⟨a, e1, e2, by rw [upd_ne z]; exact e3, e4, .inr ⟨et, kvs, by rw [upd_ne z]; exact e5, e6, e7, q⟩⟩
  · have z : a ≠ p := fun z => by subst z; exact hm (List.mem_of_getElem? e1)
    refine (R.mo n a u e1 e2).up (Le.refl _) fun u' h => ?_
    rw [upd_ne z]; exact ⟨h, fun h => h⟩
  · by_cases z : a = p
    · subst z
      rw [upd_same] at e
      cases e
      exact hnt.elim
    · rw [upd_ne z] at e; exact R.tups a xs e
theorem Rl.adopt (R : Rl c (upd F p o) am Hk H σ env mh) (hF : F p = none) : Rl c F am (upd Hk p o) H σ env mh := by
  obtain ⟨hp, hk, hm⟩ := R.frame p o upd_same
  have le : Le Hk (upd Hk p o) := Le.new hk
  refine ⟨fun a u e => ?_, fun a u e => ?_, R.len, fun i s e => ?_, R.sep, R.nd, R.mlen, fun n a u e1 e2 => ?_, fun a xs e => ?_⟩
  · by_cases z : a = p
    · subst z; rw [upd_same] at e; rw [hp]; exact e
    · rw [upd_ne z] at e; exact R.known a u e
  · have z : a ≠ p := ne_of_none e hF
    obtain ⟨h1, h2, h3⟩ := R.frame a u (by rw [upd_ne z]; exact e)
    exact ⟨h1, by rw [upd_ne z]; exact h2, h3⟩
  · have h0 := R.slot i s e
    cases s with
    | no => trivial
    | sh d => obtain ⟨x, e1, q⟩ := h0; exact ⟨x, e1, q.up (Go.refl _) le⟩
    | ol ds =>
      obtain ⟨a, xs, e1, e2, e3, e4, e5, q⟩ := h0
      have z : a ≠ p := fun z => by subst z; rw [upd_same] at e3; cases e3
      rw [upd_ne z] at e3
      exact ⟨a, xs, e1, by rw [upd_ne z]; exact e2, e3, e4, e5, q.up (Go.refl _) le⟩
    | od t ks ds =>
      obtain ⟨a, e1, e2, e3, e4, q⟩ := h0
      have z : a ≠ p := fun z => by subst z; rw [upd_same] at e3; cases e3
      rw [upd_ne z] at e3
      rcases q with ⟨et, kvs, e5, e6, e7, q⟩ | ⟨et, kvs, e5, e6, e7, q⟩
      · exact ⟨a, e1, by rw [upd_ne z]; exact e2, e3, e4, .inl ⟨et, kvs, e5, e6, e7, q.up (Go.refl _) le⟩⟩
      · exact ⟨a, e1, by rw [upd_ne z]; exact e2, e3, e4, .inr ⟨et, kvs, e5, e6, e7, q.up (Go.refl _) le⟩⟩
  · have z : a ≠ p := fun z => by subst z; exact hm (List.mem_of_getElem? e1)
    exact (R.mo n a u e1 e2).up le fun _ h => ⟨h, fun h => by rw [upd_ne z]; exact h⟩
  · exact le _ _ (R.tups a xs e)
theorem Rl.adoptF (R : Rl c (upd F p o) am Hk H σ env mh) (hF : F p = none) (hnt : noTup o' := by exact trivial) : Rl c F am (upd Hk p o') (upd H p o') σ env mh := by
  have R1 := (R.restash (o' := o') (hnt := hnt)).adopt hF
  exact R1
end
/-! ### the readings as such -/
def cE (c : Cn) (W : WX) (m : Ev) : TE := fun σ H Q => ∃ F am Hk env mh, Rl c F am Hk H σ env mh ∧ GP c W F am Hk σ env (relD c) (m env mh) Q
def cT (c : Cn) (W : WX) (m : Bv) : TT := fun σ H Q => ∃ F am Hk env mh, Rl c F am Hk H σ env mh ∧ GP c W F am Hk σ env relB (m env mh) Q
def cG (c : Cn) (t : D → En → Option En) (js : List Nat) : TG := fun v σ H Q => ∃ F am Hk env mh d env', Rl c F am Hk H σ env mh ∧ Dq c am Hk v d ∧ t d env = some env' ∧
  ∀ σ', Rl c F am Hk H σ' env' mh → σ'.length = σ.length → (∀ i, i ∉ js → σ'[i]? = σ[i]?) → Q σ' H
section
variable {c : Cn} {X : Cx} {W : WX}
theorem SE.pe {e : Expr} {m : Ev} (h : SE c W X e m) : PE X e (cE c W m) := by
  obtain ⟨t, p, k⟩ := h
  exact ⟨fun pins s σ H Q I ⟨F, am, Hk, env, mh, R, g⟩ => p.run pins s σ H Q I (k F am Hk H σ env mh Q R g)⟩
theorem ST.pt {e : Expr} {m : Bv} (h : ST c W X e m) : PT X e (cT c W m) := by
  obtain ⟨t, p, k⟩ := h
  exact ⟨fun pins s σ H Q I ⟨F, am, Hk, env, mh, R, g⟩ => p.run pins s σ H Q I (k F am Hk H σ env mh Q R g)⟩
theorem SG.pg {e : Expr} {t : D → En → Option En} {js : List Nat} (h : SG c X e t js) : PG X e (cG c t js) := by
  obtain ⟨⟨g, p, k⟩, _⟩ := h
  exact ⟨fun pins s σ H v u Q I r ⟨F, am, Hk, env, mh, d, env', R, q, e, hh⟩ => p.run pins s σ H v u Q I r (k F am Hk H σ env mh v d env' Q R q e hh)⟩
structure SIf (c : Cn) (X : Cx) (ifs : List Expr) (m : Bv) : Prop where
  pt : PTs X ifs (cT c (fun _ _ _ _ => False) m)
theorem sif_nil : SIf c X [] tt := ⟨⟨fun pins s σ H Q I ⟨F, am, Hk, env, mh, R, g⟩ => pts_nil.run pins s σ H Q I (g true am Hk H (Go.refl _) (Le.refl _) R rfl)⟩⟩
theorem sif_one {e : Expr} {m : Bv} (h : ST c (fun _ _ _ _ => False) X e m) : SIf c X [e] m := ⟨pts_one h.pt⟩
abbrev W0 : WX := fun _ _ _ _ => False
/-! ### cells: shared, or new and one's own -/
def CelAt (c : Cn) (F F' : Hp) (am : List Addr) (Hk : Hp) (v : V) : Cel → Prop
  | .no => False
  | .sh d => F' = F ∧ Dq c am Hk v d
  | .ol ds => ∃ p xs, v = .ref p ∧ F p = none ∧ F' = upd F p (.lst xs) ∧ DqAll c am Hk xs ds
  | .od t ks ds => ∃ p, v = .ref p ∧ F p = none ∧
      ((t = false ∧ ∃ kvs : List (Key × V), F' = upd F p (.dK kvs) ∧ (∀ q ∈ kvs, keyOk q.1) ∧ ks = kvs.map (fun q => keyD q.1) ∧ DqAll c am Hk (kvs.map (·.2)) ds) ∨
       (t = true ∧ ∃ kvs : List (List Key × V), F' = upd F p (.dT kvs) ∧ (∀ q ∈ kvs, ∀ k ∈ q.1, keyOk k) ∧ ks = kvs.map (fun q => .tup (q.1.map keyD)) ∧ DqAll c am Hk (kvs.map (·.2)) ds))
def CP (c : Cn) (W : WX) (F : Hp) (am : List Addr) (Hk : Hp) (σ : L2.St) (env : En) (r : Rs Cel) (Q : VK) : Prop := match r with
  | .ok cel mh' => ∀ v F' am' Hk' H', Go am am' → Le Hk Hk' → Rl c F' am' Hk' H' σ env mh' → CelAt c F F' am' Hk' v cel → Q v H'
  | .er x mh' => ∀ cls dd am' Hk' H', Go am am' → Le Hk Hk' → Rl c F am' Hk' H' σ env mh' → ExIs c x cls dd H' → W cls dd σ H'
  | .no => False
structure SC (c : Cn) (W : WX) (X : Cx) (e : Expr) (m : Cv) : Prop where
  ex : ∃ t : TE, PE X e t ∧ ∀ F am Hk H σ env mh Q, Rl c F am Hk H σ env mh → CP c W F am Hk σ env (m env mh) Q → t σ H Q
theorem CP.later {F : Hp} {am am' : List Addr} {Hk Hk' : Hp} {σ : L2.St} {env : En} {r : Rs Cel} {Q : VK} (h : CP c W F am Hk σ env r Q) (g : Go am am') (e : Le Hk Hk') : CP c W F am' Hk' σ env r Q := by
  cases r with
  | ok d m => exact fun v F2 am2 Hk2 H2 g2 e2 R q => h v F2 am2 Hk2 H2 (g.trans g2) (e.trans e2) R q
  | er x m => exact fun cls dd am2 Hk2 H2 g2 e2 R q => h cls dd am2 Hk2 H2 (g.trans g2) (e.trans e2) R q
  | no => exact h
theorem CP.step {F : Hp} {am : List Addr} {Hk : Hp} {σ : L2.St} {env : En} {α β : Type} {rel1 : List Addr → Hp → β → α → Prop} {r : Rs α} {f : α → Mh → Rs Cel} {Q : VK} {K : β → Hp → Prop} (h : CP c W F am Hk σ env (r.bind f) Q)
    (k : ∀ d mh1, r = .ok d mh1 → ∀ v am1 Hk1 H1, Go am am1 → Le Hk Hk1 → Rl c F am1 Hk1 H1 σ env mh1 → rel1 am1 Hk1 v d → CP c W F am1 Hk1 σ env (f d mh1) Q → K v H1) : GP c W F am Hk σ env rel1 r K := by
  cases r with
  | ok d m =>
    intro v am1 Hk1 H1 g e R q
    exact k d m rfl v am1 Hk1 H1 g e R q (CP.later (r := f d m) h g e)
  | er x m => exact h
  | no => exact h
theorem CP.walk {F : Hp} {am : List Addr} {Hk : Hp} {σ : L2.St} {env : En} {r : Rs (List D)} {f : List D → Mh → Rs Cel} {Q : VK} {K : It → Hp → Prop} (h : CP c W F am Hk σ env (r.bind f) Q)
    (k : ∀ ds mh1 J am1 Hk1 H1 G Y, r = .ok ds mh1 → Go am am1 → Le Hk Hk1 → Rl c F am1 Hk1 H1 σ env mh1 → Walk J ds.length G Y → (∀ H2, Le Hk1 H2 → G H2) →
      (∀ i H2 x H3, i < ds.length → Le Hk1 H2 → Y i H2 x H3 → YIs c am1 ds Hk1 i H2 x H3) → CP c W F am1 Hk1 σ env (f ds mh1) Q → K J H1) : IPs c W F am Hk σ env r K := by
  cases r with
  | ok ds m => exact fun J am1 Hk1 H1 G Y g e R w a b => k ds m J am1 Hk1 H1 G Y rfl g e R w a b (CP.later (r := f ds m) h g e)
  | er x m => exact h
  | no => exact h
def Cel.d : Cel → Option D
  | .no => none
  | .sh d => some d
  | .ol ds => some (.lst ds)
  | .od t ks vs => some (.dct t ks vs)
/-- a new thing, shared from now on -/
def mFz (m : Cv) : Ev := fun env mh => (m env mh).bind fun cel mh1 => lift cel.d mh1
theorem pe_fin {e : Expr} {t : TE} (h : PE X e t) : PE X e (fun σ H Q => t σ H fun v H1 => Q v H1 ∨ ∃ d u, H1 d = some u ∧ Mut (some u) ∧ ∀ od, Q v (upd H1 d (.frz od u))) := by
  refine ⟨fun pins s σ H Q I hw => thn (h.run pins s σ H _ I hw) fun v s1 ⟨x, H1, I1, r, q⟩ => ?_⟩
  rcases q with q | ⟨d, u, hd, mu, q⟩
  · exact ⟨x, H1, I1, r, q⟩
  · obtain ⟨od, I2⟩ := I1.lock hd mu
    exact ⟨x, _, I2, r, q od⟩
theorem SC.se {e : Expr} {m : Cv} (h : SC c W X e m) : SE c W X e (mFz m) := by
  obtain ⟨t, p, k⟩ := h
  refine ⟨_, pe_fin p, fun F am Hk H σ env mh Q R h => ?_⟩
  refine k F am Hk H σ env mh _ R ?_
  unfold mFz at h
  cases hm : m env mh with
  | ok cel mh1 =>
    rw [hm] at h
    intro v F' am' Hk' H' g e' R' q
    obtain ⟨d, ed, hd⟩ := lift_ok h
    cases cel with
    | no => exact q.elim
    | sh d' =>
      obtain ⟨rfl, q⟩ := q
      cases ed
      exact .inl (hd v am' Hk' H' g e' R' q)
    | ol ds =>
      obtain ⟨p, xs, rfl, hF, rfl, q⟩ := q
      cases ed
      have hk := (R'.frame p _ upd_same).2.1
      exact .inl (hd _ am' _ H' g (e'.trans (Le.new hk)) (R'.adopt hF) (.lst upd_same (q.up (Go.refl _) (Le.new hk))))
    | od t ks vs =>
      obtain ⟨p, rfl, hF, q⟩ := q
      cases ed
      rcases q with ⟨rfl, kvs, rfl, ok, rfl, q⟩ | ⟨rfl, kvs, rfl, ok, rfl, q⟩
      · have hk := (R'.frame p _ upd_same).2.1
        exact .inr ⟨p, _, (R'.frame p _ upd_same).1, trivial, fun od => hd _ am' _ _ g (e'.trans (Le.new hk)) (R'.adoptF hF) (.dk upd_same ok (q.up (Go.refl _) (Le.new hk)))⟩
      · have hk := (R'.frame p _ upd_same).2.1
        exact .inr ⟨p, _, (R'.frame p _ upd_same).1, trivial, fun od => hd _ am' _ _ g (e'.trans (Le.new hk)) (R'.adoptF hF) (.dt upd_same ok (q.up (Go.refl _) (Le.new hk)))⟩
  | er x mh1 => rw [hm] at h; exact h
  | no => rw [hm] at h; exact h.elim
theorem GP.walk {F : Hp} {am : List Addr} {Hk : Hp} {σ : L2.St} {env : En} {α β : Type} {rel : List Addr → Hp → β → α → Prop} {r : Rs (List D)} {f : List D → Mh → Rs α} {Q : β → Hp → Prop} {K : It → Hp → Prop} (h : GP c W F am Hk σ env rel (r.bind f) Q)
    (k : ∀ ds mh1 J am1 Hk1 H1 G Y, r = .ok ds mh1 → Go am am1 → Le Hk Hk1 → Rl c F am1 Hk1 H1 σ env mh1 → Walk J ds.length G Y → (∀ H2, Le Hk1 H2 → G H2) →
      (∀ i H2 x H3, i < ds.length → Le Hk1 H2 → Y i H2 x H3 → YIs c am1 ds Hk1 i H2 x H3) → GP c W F am1 Hk1 σ env rel (f ds mh1) Q → K J H1) : IPs c W F am Hk σ env r K := by
  cases r with
  | ok ds m => exact fun J am1 Hk1 H1 G Y g e R w a b => k ds m J am1 Hk1 H1 G Y rfl g e R w a b (GP.later (r := f ds m) h g e)
  | er x m => exact h
  | no => exact h
theorem noEr_ok {α : Type} {r : Rs α} {a : α} {m : Mh} (h : noEr r = .ok a m) : r = .ok a m := by
  cases r with
  | ok a m => exact h
  | er _ _ => cases h
  | no => cases h
theorem bind_ok {α β : Type} {r : Rs α} {f : α → Mh → Rs β} {b : β} {m : Mh} (h : r.bind f = .ok b m) : ∃ a m1, r = .ok a m1 ∧ f a m1 = .ok b m := by
  cases r with
  | ok a m => exact ⟨a, m, rfl, h⟩
  | er _ _ => cases h
  | no => cases h
theorem compGo_er {t : D → En → Option En} {tst : Bv} {elt : Ev} {env : En} {x : Exn} {m : Mh} : ∀ (ds : List D) (mh : Mh), compGo t tst elt env ds mh ≠ .er x m := by
  intro ds
  induction ds with
  | nil => intro mh h; cases h
  | cons d r ih =>
    intro mh h
    unfold compGo at h
    split at h
    · cases h
    · rename_i env1 _
      cases h1 : tst env1 mh with
      | ok b mh1 =>
        rw [h1] at h
        cases b with
        | true =>
          simp only [noEr, Rs.bind, if_true] at h
          cases h2 : elt env1 mh1 with
          | ok y mh2 =>
            rw [h2] at h
            simp only [noEr, Rs.bind] at h
            cases h3 : compGo t tst elt env r mh2 with
            | ok _ _ => rw [h3] at h; cases h
            | er _ _ => exact ih mh2 (by rw [h3] at h ⊢; exact h)
            | no => rw [h3] at h; cases h
          | er _ _ => rw [h2] at h; cases h
          | no => rw [h2] at h; cases h
        | false =>
          simp only [noEr, Rs.bind] at h
          exact ih mh1 (by simpa using h)
      | er _ _ => rw [h1] at h; cases h
      | no => rw [h1] at h; cases h
/-- where r is told, only that is wanted -/
theorem gp_of {F : Hp} {am : List Addr} {Hk : Hp} {σ : L2.St} {env : En} {α β : Type} {rel : List Addr → Hp → β → α → Prop} {r : Rs α} {d : α} {m : Mh} {Q : β → Hp → Prop} (e : r = .ok d m)
    (h : ∀ v am' Hk' H', Go am am' → Le Hk Hk' → Rl c F am' Hk' H' σ env m → rel am' Hk' v d → Q v H') : GP c W F am Hk σ env rel r Q := by
  subst e; exact h
theorem lc_ok {own : List (Str × Nat)} {wi : TI} {src : Iv} {t : D → En → Option En} {js : List Nat} {tst : Bv} {me : Ev} (hkp : ∀ (d : D) (env env' : En), t d env = some env' → ∀ (i : Nat), i ∉ js → env'[i]? = env[i]?)
    (ki : ∀ F am Hk H σ env mh R, Rl c F am Hk H σ env mh → IPs c W F am Hk σ env (src env mh) R → wi σ H R) (hjs : ∀ j ∈ js, j ∈ own.map (·.2)) :
    ∀ F am Hk H σ env mh Q, Rl c F am Hk H σ env mh → CP c W F am Hk σ env (mCompC (own.map (·.2)) src t tst me env mh) Q → tLc wi (cG c t js) (cT c (fun _ _ _ _ => False) tst) (cE c W0 me) (own.map (·.2)) σ H Q := by
  intro F am Hk H σ env mh Q R h
  refine ki F am Hk H σ env mh _ R (CP.walk h fun ds mh1 J am1 Hk1 H1 G Y er g1 e1 R1 w hG hY h1 => ?_)
  by_cases hno : (noOwn env (own.map (·.2)) && decide (ds.length ≤ LIM)) = true
  case neg => rw [if_neg hno] at h1; exact h1.elim
  rw [if_pos hno] at h1
  have hno' := (Bool.and_eq_true _ _).mp hno
  have hlim := of_decide_eq_true hno'.2
  cases hcg : compGo t tst me (wipeE env (own.map (·.2))) ds mh1 with
  | no => rw [hcg] at h1; exact h1.elim
  | er x m => exact absurd hcg (compGo_er ds mh1)
  | ok xs mhE =>
  rw [hcg] at h1
  intro D hD
  have hFD : F D = none := R1.f_none hD
  refine lc_it w (fun i H' => ∃ am2 Hk2 mh2 acc ds', Go am1 am2 ∧ Le Hk1 Hk2 ∧ Rl c (upd F D (.lst acc)) am2 Hk2 H' (wipe σ (own.map (·.2))) (wipeE env (own.map (·.2))) mh2 ∧ DqAll c am2 Hk2 acc ds' ∧ acc.length ≤ i ∧
      ∃ rest, compGo t tst me (wipeE env (own.map (·.2))) (ds.drop i) mh2 = .ok rest mhE ∧ xs = ds' ++ rest)
    ⟨am1, Hk1, mh1, [], [], Go.refl _, Le.refl _, (R1.wiped).stash hD, .nil, Nat.le_refl _, xs, by rw [List.drop_zero]; exact hcg, rfl⟩
    (fun i H' _ ⟨am2, Hk2, mh2, acc, ds', g2, e2, R2, _⟩ => hG H' (e2.trans R2.known)) (fun i x H' H3 hlt hP hy => ?_) (fun H' hP => ?_)
  · obtain ⟨am2, Hk2, mh2, acc, ds', g2, e2, R2, qa, hl, rest, hr, hx⟩ := hP
    have hdr : ds.drop i = ds[i] :: ds.drop (i + 1) := List.drop_eq_getElem_cons hlt
    rw [hdr] at hr
    unfold compGo at hr
    cases hte : t ds[i] (wipeE env (own.map (·.2))) with
    | none => rw [hte] at hr; cases hr
    | some env1 =>
    rw [hte] at hr
    obtain ⟨b, mh3, hb, hr⟩ := bind_ok hr
    have hb := noEr_ok hb
    -- the item
    have item : ∃ Hk3, Le Hk2 Hk3 ∧ Rl c (upd F D (.lst acc)) am2 Hk3 H3 (wipe σ (own.map (·.2))) (wipeE env (own.map (·.2))) mh2 ∧ Dq c am2 Hk3 x ds[i] := by
      exact (hY i H' x H3 hlt (e2.trans R2.known) hy).item hlt R2 g2 e2
    obtain ⟨Hk3, e3, R3, q3⟩ := item
    refine ⟨_, am2, Hk3, _, mh2, ds[i], env1, R3, q3, hte, fun σ2 R4 l4 k4 => ?_⟩
    refine ⟨wipe_ext (by rw [l4, wipe_length]) fun j hj => ?_, ?_⟩
    · rw [k4 j fun z => hj (hjs j z), wipe_out hj]
    refine ⟨_, am2, Hk3, env1, mh2, R4, gp_of hb fun b' am5 Hk5 H5 g5 e5 R5 eb => ?_⟩
    rw [show b' = b from eb]
    -- back to the block's slots
    have back : ∀ {am6 : List Addr} {Hk6 H6 : Hp} {mh6 : Mh}, Go am2 am6 → Le Hk3 Hk6 → Rl c (upd F D (.lst acc)) am6 Hk6 H6 σ2 env1 mh6 → Rl c (upd F D (.lst acc)) am6 Hk6 H6 (wipe σ (own.map (·.2))) (wipeE env (own.map (·.2))) mh6 := by
      intro am6 Hk6 H6 mh6 g6 e6 R6
      exact R3.unset (vs := own.map (·.2)) R6 g6 e6 (fun i hi => ⟨k4 i fun z => hi (hjs i z), hkp _ _ _ hte i fun z => hi (hjs i z)⟩) fun i s' hi he' => by rw [wipeE_in hi he']; rfl
    cases b with
    | true =>
      rw [if_pos rfl] at hr ⊢
      obtain ⟨y, mh4, hy4, hr⟩ := bind_ok hr
      have hy4 := noEr_ok hy4
      obtain ⟨ys, mh7, hy7, hr⟩ := bind_ok hr
      cases hr
      refine ⟨_, am5, Hk5, env1, mh3, R5, gp_of hy4 fun v am6 Hk6 H6 g6 e6 R6 q6 => ?_⟩
      obtain ⟨hD6, _, _⟩ := R6.frame D _ upd_same
      refine ⟨acc, hD6, by rw [sizeLine_eq]; have : LIM = 1000000 := rfl; omega, am6, Hk6, mh4, acc ++ [v], ds' ++ [y], g2.trans (g5.trans g6), e2.trans (e3.trans (e5.trans e6)), (back (g5.trans g6) (e5.trans e6) R6).restash, ?_, by simp; omega, ys, hy7, by rw [hx]; simp⟩
      exact (qa.up (g5.trans g6) (e3.trans (e5.trans e6))).append (.one q6)
    | false =>
      rw [if_neg Bool.false_ne_true] at hr ⊢
      exact ⟨am5, Hk5, mh3, acc, ds', g2.trans g5, e2.trans (e3.trans e5), back g5 e5 R5, qa.up g5 (e3.trans e5), by omega, rest, hr, hx⟩
  · obtain ⟨am2, Hk2, mh2, acc, ds', g2, e2, R2, qa, hl, rest, hr, hx⟩ := hP
    rw [List.drop_length] at hr
    cases hr
    have R3 : Rl c (upd F D (.lst acc)) am2 Hk2 H' σ env mhE := by
      have R5 := (R1.stash hD (o := HO.lst []))
      exact R5.unset' (vs := own.map (·.2)) R2 g2 e2 (fun i hi => ⟨wipe_out hi, wipeE_out hi⟩) fun i s' hi he' => noOwn_of hno'.1 hi he'
    refine h1 (.ref D) (upd F D (.lst acc)) am2 Hk2 H' g2 e2 R3 ⟨D, acc, rfl, hFD, rfl, ?_⟩
    rw [hx, List.append_nil]
    exact qa
theorem sc_lc {elt tg iter : Expr} {ifs : List Expr} {scope : Scope} {own : List (Str × Nat)} {pos : Pos} {src : Iv} {t : D → En → Option En} {js : List Nat} {tst : Bv} {me : Ev} (hc : X.calm = true) (hN : X.N.Nodup) (hi : SI c W X tg iter src) (ok : BlkOk X.N X.env.scope scope own)
    (hg : ∀ (s : Shared) (H : Hp) (C : Addr) (cl : List (Str × Addr)) (fp : List Addr), SG c (X.blk s H scope (compEnvC scope cl C X.env) fp) tg t js)
    (ht : ∀ (s : Shared) (H : Hp) (C : Addr) (cl : List (Str × Addr)) (fp : List Addr), SIf c (X.blk s H scope (compEnvC scope cl C X.env) fp) ifs tst)
    (he : ∀ (s : Shared) (H : Hp) (C : Addr) (cl : List (Str × Addr)) (fp : List Addr), SE c W0 (X.blk s H scope (compEnvC scope cl C X.env) fp) elt me)
    (hjs : ∀ j ∈ js, j ∈ own.map (·.2)) (hs : ∀ x, foldedSetIterable iter X.env x = pure x := by intro _; rfl) :
    SC c W X (.ListComp elt [⟨tg, iter, ifs, 0⟩] scope pos) (mCompC (own.map (·.2)) src t tst me) := by
  obtain ⟨wi, pi, ki⟩ := hi
  refine ⟨_, pe_lc hc hN pi ok (fun s H C cl fp => (hg s H C cl fp).pg) (fun s H C cl fp => (ht s H C cl fp).pt) (fun s H C cl fp => (he s H C cl fp).pe) hs, lc_ok (own := own) (hg X.s_0 X.H_0 0 [] []).keep ki hjs⟩
theorem se_lc {elt tg iter : Expr} {ifs : List Expr} {scope : Scope} {own : List (Str × Nat)} {pos : Pos} {src : Iv} {t : D → En → Option En} {js : List Nat} {tst : Bv} {me : Ev} (hc : X.calm = true) (hN : X.N.Nodup) (hi : SI c W X tg iter src) (ok : BlkOk X.N X.env.scope scope own)
    (hg : ∀ (s : Shared) (H : Hp) (C : Addr) (cl : List (Str × Addr)) (fp : List Addr), SG c (X.blk s H scope (compEnvC scope cl C X.env) fp) tg t js)
    (ht : ∀ (s : Shared) (H : Hp) (C : Addr) (cl : List (Str × Addr)) (fp : List Addr), SIf c (X.blk s H scope (compEnvC scope cl C X.env) fp) ifs tst)
    (he : ∀ (s : Shared) (H : Hp) (C : Addr) (cl : List (Str × Addr)) (fp : List Addr), SE c W0 (X.blk s H scope (compEnvC scope cl C X.env) fp) elt me)
    (hjs : ∀ j ∈ js, j ∈ own.map (·.2)) (hs : ∀ x, foldedSetIterable iter X.env x = pure x := by intro _; rfl) :
    SE c W X (.ListComp elt [⟨tg, iter, ifs, 0⟩] scope pos) (mFz (mCompC (own.map (·.2)) src t tst me)) := (sc_lc hc hN hi ok hg ht he hjs hs).se
end
end Mi

set_option Elab.async false
set_option linter.all false
set_option maxRecDepth 100000
set_option maxHeartbeats 400000
namespace Mi
open PySem PySem.Spec PyProof.Rows L2
section
variable {c : Cn} {X : Cx} {W : WX}
def mSh (m : Ev) : Cv := fun env mh => (m env mh).bind fun d mh1 => .ok (.sh d) mh1
theorem SE.sc {e : Expr} {m : Ev} (h : SE c W X e m) : SC c W X e (mSh m) := by
  obtain ⟨t, p, k⟩ := h
  refine ⟨t, p, fun F am Hk H σ env mh Q R h => ?_⟩
  exact k F am Hk H σ env mh Q R (CP.step h fun d mh1 er v am1 Hk1 H1 g1 e1 R1 q1 h1 => h1 v F am1 Hk1 H1 (Go.refl _) (Le.refl _) R1 ⟨rfl, q1⟩)
/-- a new list, stashed -/
theorem newC_ol {F : Hp} {am : List Addr} {Hk H : Hp} {σ : L2.St} {env : En} {mh : Mh} {Q : VK} {xs : List V} {ds : List D} (R : Rl c F am Hk H σ env mh) (q : DqAll c am Hk xs ds) (h : CP c W F am Hk σ env (.ok (.ol ds) mh) Q) :
    ∀ p, H p = none → Q (.ref p) (upd H p (.lst xs)) := fun p hp =>
  h (.ref p) _ am Hk _ (Go.refl _) (Le.refl _) (R.stash hp) ⟨p, xs, rfl, R.f_none hp, rfl, q⟩
def mLstC (ms : Av) : Cv := fun env mh => (ms env mh).bind fun ds mh1 => if ds.length ≤ LIM then .ok (.ol ds) mh1 else .no
theorem sc_lst {es : List Expr} {ms : Av} {pos : Pos} (h : SA c W X es ms) : SC c W X (.List es pos) (mLstC ms) := by
  obtain ⟨t, p, k⟩ := h
  refine ⟨_, pe_lst p, fun F am Hk H σ env mh Q R h => ?_⟩
  refine k F am Hk H σ env mh _ R (CP.step h fun ds mh1 er vs am1 Hk1 H1 g1 e1 R1 q1 h1 => ?_)
  by_cases hl : ds.length ≤ LIM
  · rw [if_pos hl] at h1
    exact ⟨by rw [q1.length]; exact Nat.le_trans hl LIM_le, newC_ol R1 q1 h1⟩
  · rw [if_neg hl] at h1; exact h1.elim
/-- a list times an int, list + list: new -/
def dRepC : D → D → Option Cel
  | .lst xs, .int k => if xs.length * k.toNat ≤ LIM && decide (-(2 ^ 63) ≤ k ∧ k < 2 ^ 63) then some (.ol (List.replicate k.toNat xs).flatten) else none
  | _, _ => none
def m2C (f : D → D → Option Cel) (ma mb : Ev) : Cv := fun env mh => (ma env mh).bind fun x mh1 => (mb env mh1).bind fun y mh2 => lift (f x y) mh2
theorem liftC_ok {F : Hp} {am : List Addr} {Hk : Hp} {σ : L2.St} {env : En} {o : Option Cel} {mh : Mh} {Q : VK} (h : CP c W F am Hk σ env (lift o mh) Q) : ∃ d, o = some d ∧ CP c W F am Hk σ env (.ok d mh) Q := by
  cases o with
  | none => exact h.elim
  | some d => exact ⟨d, rfl, h⟩
theorem sc_rep {a b : Expr} {ma mb : Ev} {pos : Pos} (ha : SE c W X a ma) (hb : SE c W X b mb) : SC c W X (.BinOp a .Mult b pos) (m2C dRepC ma mb) := by
  obtain ⟨ta, pa, ka⟩ := ha
  obtain ⟨tb, pb, kb⟩ := hb
  refine ⟨_, pe_op op_rep pa pb, fun F am Hk H σ env mh Q R h => ?_⟩
  refine ka F am Hk H σ env mh _ R (CP.step h fun dx mh1 er x am1 Hk1 H1 g1 e1 R1 q1 h1 => ?_)
  refine kb F am1 Hk1 H1 σ env mh1 _ R1 (CP.step h1 fun dy mh2 er2 y am2 Hk2 H2 g2 e2 R2 q2 h2 => ?_)
  obtain ⟨z, ez, hz⟩ := liftC_ok h2
  have qx := q1.up g2 e2
  unfold dRepC at ez
  split at ez
  · rename_i xs k
    cases qx with | lst s1 qs =>
    cases q2
    by_cases hl : (decide (xs.length * k.toNat ≤ LIM) && decide (-(2 ^ 63) ≤ k ∧ k < 2 ^ 63)) = true
    · rw [if_pos hl] at ez
      cases ez
      have hl' := (Bool.and_eq_true _ _).mp hl
      have l1 := of_decide_eq_true hl'.1
      have l2 := of_decide_eq_true hl'.2
      exact ⟨_, _, _, rfl, rfl, R2.known _ _ s1, l2.1, l2.2, by rw [qs.length]; exact Nat.le_trans l1 LIM_le, newC_ol R2 (qs.flat _) hz⟩
    · rw [if_neg hl] at ez; cases ez
  · cases ez
end
section
variable {c : Cn} {F F' : Hp} {am am' : List Addr} {Hk Hk' H H' : Hp} {σ σ' : L2.St} {env env' : En} {mh mh' : Mh} {p : Addr} {o o' : HO}
/-- a stashed object becomes a slot's own -/
theorem Rl.setCel {i : Nat} {v : V} {cel : Cel} (R : Rl c F' am Hk H σ env mh) (q : CelAt c F F' am Hk v cel) (hi : i < env.length) : Rl c F am Hk H (σ.set i (some v)) (env.set i cel) mh := by
  have hs : i < σ.length := by rw [← R.len]; exact hi
  -- the frame of F'
  have ho : ∀ a, cel.own = true → v = .ref a → (∃ o, F' a = some o) ∧ F a = none := by
    intro a h e
    cases cel with
    | no => cases h
    | sh d => cases h
    | ol ds => obtain ⟨p, xs, rfl, h1, rfl, _⟩ := q; cases e; exact ⟨⟨_, upd_same⟩, h1⟩
    | od t ks ds =>
      obtain ⟨p, rfl, h1, q⟩ := q
      cases e
      rcases q with ⟨et, kvs, rfl, _⟩ | ⟨et, kvs, rfl, _⟩ <;> exact ⟨⟨_, upd_same⟩, h1⟩
  have hF : ∀ a u, F a = some u → F' a = some u := by
    intro a u e
    cases cel with
    | no => exact q.elim
    | sh d => rw [q.1]; exact e
    | ol ds => obtain ⟨p, xs, rfl, h1, rfl, _⟩ := q; rw [upd_ne (ne_of_none e h1)]; exact e
    | od t ks ds =>
      obtain ⟨p, rfl, h1, q⟩ := q
      rcases q with ⟨et, kvs, rfl, _⟩ | ⟨et, kvs, rfl, _⟩ <;> (rw [upd_ne (ne_of_none e h1)]; exact e)
  have hF0 : ∀ a, F' a = none → F a = none := fun a e => by
    cases z : F a with
    | none => rfl
    | some u => rw [hF a u z] at e; cases e
  have low : ∀ {w : Option V} {s : Cel}, SlotOk c F' am Hk H w s → SlotOk c F am Hk H w s := by
    intro w s h0
    cases s with
    | no => trivial
    | sh d => exact h0
    | ol ds => obtain ⟨a, xs, e1, e2, e3, e4, e5, q⟩ := h0; exact ⟨a, xs, e1, e2, hF0 a e3, e4, e5, q⟩
    | od t ks ds => obtain ⟨a, e1, e2, e3, e4, q⟩ := h0; exact ⟨a, e1, e2, hF0 a e3, e4, q⟩
  refine ⟨R.known, fun a u e => R.frame a u (hF a u e), by rw [List.length_set, List.length_set]; exact R.len, fun j s e => ?_, fun j k a h1 h2 => ?_, R.nd, R.mlen, R.mo, R.tups⟩
  · by_cases z : j = i
    · subst z
      rw [List.getElem?_set_self hi] at e
      cases e
      rw [List.getElem?_set_self hs]
      cases cel with
      | no => trivial
      | sh d => exact ⟨v, rfl, q.2⟩
      | ol ds =>
        obtain ⟨p, xs, rfl, h1, rfl, qs⟩ := q
        obtain ⟨f1, f2, f3⟩ := R.frame p _ upd_same
        exact ⟨p, xs, rfl, f2, h1, f3, f1, qs⟩
      | od t ks ds =>
        obtain ⟨p, rfl, h1, q⟩ := q
        rcases q with ⟨et, kvs, rfl, k1, k2, qs⟩ | ⟨et, kvs, rfl, k1, k2, qs⟩
        · obtain ⟨f1, f2, f3⟩ := R.frame p _ upd_same
          exact ⟨p, rfl, f2, h1, f3, .inl ⟨et, kvs, f1, k1, k2, qs⟩⟩
        · obtain ⟨f1, f2, f3⟩ := R.frame p _ upd_same
          exact ⟨p, rfl, f2, h1, f3, .inr ⟨et, kvs, f1, k1, k2, qs⟩⟩
    · rw [List.getElem?_set_ne (Ne.symm z)] at e ⊢
      exact low (R.slot j s e)
  · have back : ∀ j, j ≠ i → Owns (σ.set i (some v)) (env.set i cel) j a → Owns σ env j a ∧ F' a = none := by
      rintro j z ⟨e1, s, e2, e3⟩
      rw [List.getElem?_set_ne (Ne.symm z)] at e1 e2
      refine ⟨⟨e1, s, e2, e3⟩, ?_⟩
      obtain ⟨a', o, k1, _, _, _, k5⟩ := (R.slot j s e2).there e3
      rw [e1] at k1
      cases k1
      exact k5
    have at_i : Owns (σ.set i (some v)) (env.set i cel) i a → ∃ o, F' a = some o := by
      rintro ⟨e1, s, e2, e3⟩
      rw [List.getElem?_set_self hi] at e2
      rw [List.getElem?_set_self hs] at e1
      cases e2
      cases e1
      exact (ho a e3 rfl).1
    by_cases zj : j = i
    · by_cases zk : k = i
      · rw [zj, zk]
      · subst zj
        obtain ⟨o, ho⟩ := at_i h1
        have := (back k zk h2).2
        rw [ho] at this; cases this
    · by_cases zk : k = i
      · subst zk
        obtain ⟨o, ho⟩ := at_i h2
        have := (back j zj h1).2
        rw [ho] at this; cases this
      · exact R.sep j k a (back j zj h1).1 (back k zk h2).1
/-- a slot's own object is changed -/
theorem Rl.write {i : Nat} {a : Addr} {cel : Cel} {s : Cel} (R : Rl c F am Hk H σ env mh) (hs : env[i]? = some s) (hso : s.own = true) (hv : σ[i]? = some (some (.ref a)))
    (hq : SlotOk c F am Hk (upd H a o') (some (.ref a)) cel) (hc : cel.own = true) (hnt : noTup o' := by exact trivial) : Rl c F am Hk (upd H a o') σ (env.set i cel) mh := by
  obtain ⟨a', oa, k1, k2, k3, k4, k5⟩ := (R.slot i s hs).there hso
  rw [hv] at k1
  cases k1
  have hi : i < env.length := (List.getElem?_eq_some_iff.mp hs).1
  have own : ∀ j b, Owns σ (env.set i cel) j b → Owns σ env j b := by
    rintro j b ⟨e1, s', e2, e3⟩
    by_cases z : j = i
    · subst z; exact ⟨e1, s, hs, hso⟩
    · rw [List.getElem?_set_ne (Ne.symm z)] at e2; exact ⟨e1, s', e2, e3⟩
  refine ⟨fun b u e => ?_, fun b u e => ?_, by rw [List.length_set]; exact R.len, fun j s' e => ?_, fun j k b h1 h2 => R.sep j k b (own j b h1) (own k b h2), R.nd, R.mlen, fun n b u e1 e2 => ?_, fun b xs e => ?_⟩
  · rw [upd_ne (ne_of_none e k3)]; exact R.known b u e
  · rw [upd_ne (ne_of_none e k5)]; exact R.frame b u e
  · by_cases z : j = i
    · subst z
      rw [List.getElem?_set_self hi] at e
      cases e
      rw [hv]
      exact hq
    · rw [List.getElem?_set_ne (Ne.symm z)] at e
      refine (R.slot j s' e).up (Le.refl _) fun b u ho' ev h => ?_
      have hb : b ≠ a := fun zz => by
        subst zz
        have o1 : Owns σ env j b := ⟨by
          cases w : σ[j]? with
          | none => rw [w] at ev; cases ev
          | some ww => rw [w] at ev; rw [show ww = some (.ref b) from ev], s', e, ho'⟩
        exact z (R.sep j i b o1 ⟨hv, s, hs, hso⟩)
      rw [upd_ne hb]
      refine ⟨h, ?_⟩
      obtain ⟨b', ob, j1, _, j3, _⟩ := (R.slot j s' e).there ho'
      rw [ev] at j1
      cases j1
      exact j3
  · have hb : b ≠ a := fun zz => by subst zz; exact k4 (List.mem_of_getElem? e1)
    exact (R.mo n b u e1 e2).up (Le.refl _) fun u' h => by rw [upd_ne hb]; exact ⟨h, fun h => h⟩
  · by_cases z : b = a
    · subst z
      rw [upd_same] at e
      cases e
      exact hnt.elim
    · rw [upd_ne z] at e; exact R.tups b xs e
/-- a slot's own object is shared from now on -/
theorem Rl.freezeG {i : Nat} {a : Addr} {s : Cel} {d : D} (R : Rl c F am Hk H σ env mh) (hs : env[i]? = some s) (hso : s.own = true) (hv : σ[i]? = some (some (.ref a))) (hq : Dq c am (upd Hk a o') (.ref a) d) (hnt : noTup o' := by exact trivial) :
    Le Hk (upd Hk a o') ∧ Rl c F am (upd Hk a o') (upd H a o') σ (env.set i (.sh d)) mh := by
  obtain ⟨a', oa, k1, k2, k3, k4, k5⟩ := (R.slot i s hs).there hso
  rw [hv] at k1
  cases k1
  have hi : i < env.length := (List.getElem?_eq_some_iff.mp hs).1
  have le : Le Hk (upd Hk a o') := Le.new k3
  have own : ∀ j b, Owns σ (env.set i (.sh d)) j b → Owns σ env j b ∧ b ≠ a := by
    rintro j b ⟨e1, s', e2, e3⟩
    by_cases z : j = i
    · subst z
      rw [List.getElem?_set_self hi] at e2
      cases e2
      cases e3
    · rw [List.getElem?_set_ne (Ne.symm z)] at e2
      have o1 : Owns σ env j b := ⟨e1, s', e2, e3⟩
      exact ⟨o1, fun zz => by subst zz; exact z (R.sep j i b o1 ⟨hv, s, hs, hso⟩)⟩
  refine ⟨le, fun b u e => ?_, fun b u e => ?_, by rw [List.length_set]; exact R.len, fun j s' e => ?_, fun j k b h1 h2 => R.sep j k b (own j b h1).1 (own k b h2).1, R.nd, R.mlen, fun n b u e1 e2 => ?_, fun b xs e => ?_⟩
  · by_cases z : b = a
    · subst z; rw [upd_same] at e ⊢; exact e
    · rw [upd_ne z] at e ⊢; exact R.known b u e
  · have z : b ≠ a := ne_of_none e k5
    obtain ⟨h1, h2, h3⟩ := R.frame b u e
    exact ⟨by rw [upd_ne z]; exact h1, by rw [upd_ne z]; exact h2, h3⟩
  · by_cases z : j = i
    · subst z
      rw [List.getElem?_set_self hi] at e
      cases e
      rw [hv]
      exact ⟨_, rfl, hq⟩
    · rw [List.getElem?_set_ne (Ne.symm z)] at e
      refine (R.slot j s' e).up le fun b u ho' ev h => ?_
      have ow : Owns σ (env.set i (.sh d)) j b := ⟨by
        cases w : σ[j]? with
        | none => rw [w] at ev; cases ev
        | some ww => rw [w] at ev; rw [show ww = some (.ref b) from ev], s', by rw [List.getElem?_set_ne (Ne.symm z)]; exact e, ho'⟩
      rw [upd_ne (own j b ow).2, upd_ne (own j b ow).2]
      refine ⟨h, ?_⟩
      obtain ⟨b', ob, j1, _, j3, _⟩ := (R.slot j s' e).there ho'
      rw [ev] at j1
      cases j1
      exact j3
  · have hb : b ≠ a := fun zz => by subst zz; exact k4 (List.mem_of_getElem? e1)
    exact (R.mo n b u e1 e2).up le fun u' h => by rw [upd_ne hb, upd_ne hb]; exact ⟨h, fun h => h⟩
  · by_cases z : b = a
    · subst z
      rw [upd_same] at e
      cases e
      exact hnt.elim
    · rw [upd_ne z] at e ⊢; exact R.tups b xs e
theorem upd_id {p : Addr} {o : HO} (h : H p = some o) : upd H p o = H := by
  funext a
  by_cases z : a = p
  · subst z; rw [upd_same, h]
  · rw [upd_ne z]
/-- lists as they stand, dicts locked for good -/
theorem Rl.freeze {i : Nat} {s : Cel} {d : D} (R : Rl c F am Hk H σ env mh) (hs : env[i]? = some s) (hso : s.own = true) (hd : s.d = some d) :
    (∃ Hk', Le Hk Hk' ∧ Rl c F am Hk' H σ (env.set i (.sh d)) mh) ∨ ∃ a u, H a = some u ∧ Mut (some u) ∧ ∀ od, ∃ Hk', Le Hk Hk' ∧ Rl c F am Hk' (upd H a (.frz od u)) σ (env.set i (.sh d)) mh := by
  obtain ⟨a, oa, k1, k2, k3, k4, k5⟩ := (R.slot i s hs).there hso
  have hv : σ[i]? = some (some (.ref a)) := by
    cases w : σ[i]? with
    | none => rw [w] at k1; cases k1
    | some ww => rw [w] at k1; rw [show ww = some (.ref a) from k1]
  have h0 := R.slot i s hs
  rw [hv] at h0
  cases s with
  | no => cases hso
  | sh _ => cases hso
  | ol ds =>
    obtain ⟨a', xs, e1, _, _, _, e5, q⟩ := h0
    cases e1
    cases hd
    obtain ⟨le, R'⟩ := R.freezeG (o' := .lst xs) (d := .lst ds) hs hso hv (.lst upd_same (q.up (Go.refl _) (Le.new k3)))
    rw [upd_id e5] at R'
    exact .inl ⟨_, le, R'⟩
  | od t ks ds =>
    obtain ⟨a', e1, _, _, _, q⟩ := h0
    cases e1
    cases hd
    rcases q with ⟨rfl, kvs, e5, e6, rfl, q⟩ | ⟨rfl, kvs, e5, e6, rfl, q⟩
    · exact .inr ⟨a, _, e5, trivial, fun od => ⟨_, R.freezeG (o' := .frz od (.dK kvs)) hs hso hv (.dk upd_same e6 (q.up (Go.refl _) (Le.new k3)))⟩⟩
    · exact .inr ⟨a, _, e5, trivial, fun od => ⟨_, R.freezeG (o' := .frz od (.dT kvs)) hs hso hv (.dt upd_same e6 (q.up (Go.refl _) (Le.new k3)))⟩⟩
end

/-! ### statements -/
inductive Rz where
  | nx (e : En) (m : Mh) | rt (d : D) (m : Mh) | ct (e : En) (m : Mh) | bk (e : En) (m : Mh) | er (x : Exn) (m : Mh) | no
abbrev Sv := En → Mh → Rz
def SP (c : Cn) (W : WX) (F : Hp) (am : List Addr) (Hk : Hp) (n : Nat) (r : Rz) (Dn : Ends) : Prop := match r with
  | .nx env' mh' => ∀ σ' am' Hk' H', Go am am' → Le Hk Hk' → Rl c F am' Hk' H' σ' env' mh' → σ'.length = n → Dn.nx σ' H'
  | .ct env' mh' => ∀ σ' am' Hk' H', Go am am' → Le Hk Hk' → Rl c F am' Hk' H' σ' env' mh' → σ'.length = n → Dn.ct σ' H'
  | .bk env' mh' => ∀ σ' am' Hk' H', Go am am' → Le Hk Hk' → Rl c F am' Hk' H' σ' env' mh' → σ'.length = n → Dn.bk σ' H'
  | .rt d mh' => ∀ v σ' env' am' Hk' H', Go am am' → Le Hk Hk' → Rl c F am' Hk' H' σ' env' mh' → Dq c am' Hk' v d → Dn.rt v H'
  | .er x mh' => ∀ cls dd σ' env' am' Hk' H', Go am am' → Le Hk Hk' → Rl c F am' Hk' H' σ' env' mh' → ExIs c x cls dd H' → W cls dd σ' H'
  | .no => False
theorem SP.later {c : Cn} {W : WX} {F : Hp} {am am' : List Addr} {Hk Hk' : Hp} {n : Nat} {r : Rz} {Dn : Ends} (h : SP c W F am Hk n r Dn) (g : Go am am') (e : Le Hk Hk') : SP c W F am' Hk' n r Dn := by
  cases r with
  | nx d m => exact fun σ2 am2 Hk2 H2 g2 e2 R q => h σ2 am2 Hk2 H2 (g.trans g2) (e.trans e2) R q
  | ct d m => exact fun σ2 am2 Hk2 H2 g2 e2 R q => h σ2 am2 Hk2 H2 (g.trans g2) (e.trans e2) R q
  | bk d m => exact fun σ2 am2 Hk2 H2 g2 e2 R q => h σ2 am2 Hk2 H2 (g.trans g2) (e.trans e2) R q
  | rt d m => exact fun v σ2 env2 am2 Hk2 H2 g2 e2 R q => h v σ2 env2 am2 Hk2 H2 (g.trans g2) (e.trans e2) R q
  | er x m => exact fun cls dd σ2 env2 am2 Hk2 H2 g2 e2 R q => h cls dd σ2 env2 am2 Hk2 H2 (g.trans g2) (e.trans e2) R q
  | no => exact h
structure SS (c : Cn) (W : WX) (X : Cx) (st : Stmt) (m : Sv) : Prop where
  ex : ∃ t : TS, PS X st t ∧ ∀ F am Hk H σ env mh Dn, Rl c F am Hk H σ env mh → SP c W F am Hk σ.length (m env mh) Dn → t Dn σ H
structure SSs (c : Cn) (W : WX) (X : Cx) (st : List Stmt) (m : Sv) : Prop where
  ex : ∃ t : TS, PSs X st t ∧ ∀ F am Hk H σ env mh Dn, Rl c F am Hk H σ env mh → SP c W F am Hk σ.length (m env mh) Dn → t Dn σ H
def Rs.bindS {α : Type} (r : Rs α) (f : α → Mh → Rz) : Rz := match r with
  | .ok a m => f a m
  | .er x m => .er x m
  | .no => .no
section
variable {c : Cn} {X : Cx} {W : WX}
theorem SP.step {F : Hp} {am : List Addr} {Hk : Hp} {σ : L2.St} {env : En} {α β : Type} {rel1 : List Addr → Hp → β → α → Prop} {r : Rs α} {f : α → Mh → Rz} {n : Nat} {Dn : Ends} {K : β → Hp → Prop} (h : SP c W F am Hk n (r.bindS f) Dn)
    (k : ∀ d mh1, r = .ok d mh1 → ∀ v am1 Hk1 H1, Go am am1 → Le Hk Hk1 → Rl c F am1 Hk1 H1 σ env mh1 → rel1 am1 Hk1 v d → SP c W F am1 Hk1 n (f d mh1) Dn → K v H1) : GP c W F am Hk σ env rel1 r K := by
  cases r with
  | ok d m =>
    intro v am1 Hk1 H1 g e R q
    exact k d m rfl v am1 Hk1 H1 g e R q (SP.later (r := f d m) h g e)
  | er x m => exact fun cls dd am' Hk' H' g e R q => h cls dd σ env am' Hk' H' g e R q
  | no => exact h
theorem SP.cel {F : Hp} {am : List Addr} {Hk : Hp} {σ : L2.St} {env : En} {r : Rs Cel} {f : Cel → Mh → Rz} {n : Nat} {Dn : Ends} {K : VK} (h : SP c W F am Hk n (r.bindS f) Dn)
    (k : ∀ d mh1, r = .ok d mh1 → ∀ v F1 am1 Hk1 H1, Go am am1 → Le Hk Hk1 → Rl c F1 am1 Hk1 H1 σ env mh1 → CelAt c F F1 am1 Hk1 v d → SP c W F am1 Hk1 n (f d mh1) Dn → K v H1) : CP c W F am Hk σ env r K := by
  cases r with
  | ok d m =>
    intro v F1 am1 Hk1 H1 g e R q
    exact k d m rfl v F1 am1 Hk1 H1 g e R q (SP.later (r := f d m) h g e)
  | er x m => exact fun cls dd am' Hk' H' g e R q => h cls dd σ env am' Hk' H' g e R q
  | no => exact h
/-! blocks -/
def mSkip : Sv := fun env mh => .nx env mh
def mSeq (a b : Sv) : Sv := fun env mh => match a env mh with
  | .nx e m => b e m
  | r => r
theorem sss_nil : SSs c W X [] mSkip := ⟨_, pss_nil, fun F am Hk H σ env mh Dn R h => h σ am Hk H (Go.refl _) (Le.refl _) R rfl⟩
theorem sss_one {st : Stmt} {m : Sv} (h : SS c W X st m) : SSs c W X [st] m := by
  obtain ⟨t, p, k⟩ := h
  exact ⟨_, pss_one p, k⟩
theorem sss_cons {st : Stmt} {rest : List Stmt} {a b : Sv} (h1 : SS c W X st a) (h2 : SSs c W X rest b) : SSs c W X (st :: rest) (mSeq a b) := by
  obtain ⟨t, p, k⟩ := h1
  obtain ⟨u, q, l⟩ := h2
  refine ⟨_, pss_cons p q, fun F am Hk H σ env mh Dn R h => ?_⟩
  refine k F am Hk H σ env mh _ R ?_
  unfold mSeq at h
  cases ha : a env mh with
  | nx e m =>
    rw [ha] at h
    intro σ' am' Hk' H' g e' R' hl
    refine l F am' Hk' H' σ' e m Dn R' ?_
    rw [hl]
    exact SP.later (r := b e m) h g e'
  | rt d m => rw [ha] at h; exact h
  | ct d m => rw [ha] at h; exact h
  | bk d m => rw [ha] at h; exact h
  | er d m => rw [ha] at h; exact h
  | no => rw [ha] at h; exact h
theorem ss_pass {pos : Pos} : SS c W X (.Pass pos) mSkip := ⟨_, ps_pass, fun F am Hk H σ env mh Dn R h => h σ am Hk H (Go.refl _) (Le.refl _) R rfl⟩
def mCont : Sv := fun env mh => .ct env mh
theorem ss_cont {pos : Pos} : SS c W X (.Continue pos) mCont := ⟨_, ps_continue, fun F am Hk H σ env mh Dn R h => h σ am Hk H (Go.refl _) (Le.refl _) R rfl⟩
def mRet (m : Ev) : Sv := fun env mh => (m env mh).bindS fun d mh1 => .rt d mh1
theorem ss_ret {e : Expr} {m : Ev} {pos : Pos} (he : SE c W X e m) : SS c W X (.Return (some e) pos) (mRet m) := by
  obtain ⟨t, p, k⟩ := he
  refine ⟨_, ps_ret p, fun F am Hk H σ env mh Dn R h => ?_⟩
  exact k F am Hk H σ env mh _ R (SP.step h fun d mh1 er v am1 Hk1 H1 g1 e1 R1 q1 h1 => h1 v σ env am1 Hk1 H1 (Go.refl _) (Le.refl _) R1 q1)
def mRetN : Sv := fun _ mh => .rt .non mh
theorem ss_retN {pos : Pos} : SS c W X (.Return none pos) mRetN := ⟨_, ps_retN, fun F am Hk H σ env mh Dn R h => h _ σ env am Hk H (Go.refl _) (Le.refl _) R .non⟩
def mDrop (m : Ev) : Sv := fun env mh => (m env mh).bindS fun _ mh1 => .nx env mh1
theorem ss_expr {e : Expr} {m : Ev} {pos : Pos} (he : SE c W X e m) (hs : swapsWith e none pos.line X.env = pure false := by rfl) : SS c W X (.Expr e pos) (mDrop m) := by
  obtain ⟨t, p, k⟩ := he
  refine ⟨_, ps_expr p hs, fun F am Hk H σ env mh Dn R h => ?_⟩
  exact k F am Hk H σ env mh _ R (SP.step h fun d mh1 er v am1 Hk1 H1 g1 e1 R1 q1 h1 => h1 σ am1 Hk1 H1 (Go.refl _) (Le.refl _) R1 rfl)
def mIfS (t : Bv) (a b : Sv) : Sv := fun env mh => (t env mh).bindS fun k mh1 => if k = true then a env mh1 else b env mh1
theorem ss_if {q : Expr} {a b : List Stmt} {mt : Bv} {ma mb : Sv} {pos : Pos} (hq : ST c W X q mt) (ha : SSs c W X a ma) (hb : SSs c W X b mb) : SS c W X (.If q a b pos) (mIfS mt ma mb) := by
  obtain ⟨tt, pt, kt⟩ := hq
  obtain ⟨ta, pa, ka⟩ := ha
  obtain ⟨tb, pb, kb⟩ := hb
  refine ⟨_, ps_if pt pa pb, fun F am Hk H σ env mh Dn R h => ?_⟩
  refine kt F am Hk H σ env mh _ R (SP.step h fun d mh1 er v am1 Hk1 H1 g1 e1 R1 q1 h1 => ?_)
  rw [show v = d from q1]
  cases d with
  | true => exact ka F am1 Hk1 H1 σ env mh1 Dn R1 h1
  | false => exact kb F am1 Hk1 H1 σ env mh1 Dn R1 h1
/-! name = value -/
def mSet (i : Nat) (m : Cv) : Sv := fun env mh => (m env mh).bindS fun cel mh1 => if i < env.length then .nx (env.set i cel) mh1 else .no
theorem set_ok {i : Nat} {m : Cv} {te : TE} (k : ∀ F am Hk H σ env mh Q, Rl c F am Hk H σ env mh → CP c W F am Hk σ env (m env mh) Q → te σ H Q) :
    ∀ F am Hk H σ env mh Dn, Rl c F am Hk H σ env mh → SP c W F am Hk σ.length (mSet i m env mh) Dn → tAsg te (gName i) Dn σ H := by
  intro F am Hk H σ env mh Dn R h
  refine k F am Hk H σ env mh _ R (SP.cel h fun cel mh1 er v F1 am1 Hk1 H1 g1 e1 R1 q1 h1 => ?_)
  by_cases hi : i < env.length
  · rw [if_pos hi] at h1
    exact h1 _ am1 Hk1 H1 (Go.refl _) (Le.refl _) (R1.setCel q1 hi) (List.length_set ..)
  · rw [if_neg hi] at h1; exact h1.elim
theorem ss_set {i : Nat} {x : Str} {e : Expr} {m : Cv} {pos pos' : Pos} (hN : X.N.Nodup) (he : SC c W X e m) (hi : X.N[i]? = some x := by rfl) (hx : Loc X.env.scope x := by first | exact Or.inl rfl | exact Or.inr rfl) (hs : swapsWith e (some (.Name x pos')) pos.line X.env = pure false := by rfl)
    (hf : X.fn x = true ∨ X.env.scope.names.lookup x = some .local := by first | exact .inl rfl | exact .inr rfl) : SS c W X (.Assign [.Name x pos'] e pos) (mSet i m) := by
  obtain ⟨t, p, k⟩ := he
  exact ⟨_, ps_set hN hi hx p hs hf, set_ok k⟩
/-! if .. : a freeze ahead -/
def mFrz (i : Nat) (m : Sv) : Sv := fun env mh => match env[i]? with
  | some s => match s.own with
    | true => match s.d with
      | some d => m (env.set i (.sh d)) mh
      | none => .no
    | false => m env mh
  | none => .no
theorem ps_fin {st : Stmt} {t : TS} (h : PS X st t) : PS X st (fun D σ H => t D σ H ∨ ∃ d u, H d = some u ∧ Mut (some u) ∧ ∀ od, t D σ (upd H d (.frz od u))) := by
  refine ⟨fun pins s σ H D I hw => ?_⟩
  rcases hw with hw | ⟨d, u, hd, mu, hw⟩
  · exact h.run pins s σ H D I hw
  · obtain ⟨od, I1⟩ := I.lock hd mu
    exact h.run pins s σ _ D I1 (hw od)
theorem ss_frz {i : Nat} {st : Stmt} {m : Sv} (h : SS c W X st m) : SS c W X st (mFrz i m) := by
  obtain ⟨t, p, k⟩ := h
  refine ⟨_, ps_fin p, fun F am Hk H σ env mh Dn R h => ?_⟩
  unfold mFrz at h
  cases he : env[i]? with
  | none => rw [he] at h; exact h.elim
  | some s =>
    rw [he] at h
    simp only at h
    cases ho : s.own with
    | false => rw [ho] at h; exact .inl (k F am Hk H σ env mh Dn R h)
    | true =>
      rw [ho] at h
      simp only at h
      cases hd : s.d with
      | none => rw [hd] at h; exact h.elim
      | some d =>
        rw [hd] at h
        rcases R.freeze he ho hd with ⟨Hk', le, R'⟩ | ⟨a, u, e1, mu, hf⟩
        · exact .inl (k F am Hk' H σ _ mh Dn R' (SP.later h (Go.refl _) le))
        · refine .inr ⟨a, u, e1, mu, fun od => ?_⟩
          obtain ⟨Hk', le, R'⟩ := hf od
          exact k F am Hk' _ σ _ mh Dn R' (SP.later h (Go.refl _) le)
end
end Mi

set_option Elab.async false
set_option linter.all false
set_option maxRecDepth 100000
set_option maxHeartbeats 400000
namespace Mi
open PySem PySem.Spec PyProof.Rows L2
section
variable {c : Cn} {X : Cx} {W : WX}
/-! ### for, while -/
def forGo (t : D → En → Option En) (body : Sv) : List D → En → Mh → Rz
  | [], env, mh => .nx env mh
  | d :: r, env, mh => match t d env with
    | none => .no
    | some env1 => match body env1 mh with
      | .nx e m => forGo t body r e m
      | .ct e m => forGo t body r e m
      | .bk e m => .nx e m
      | .rt d m => .rt d m
      | .er x m => .er x m
      | .no => .no
def mFor (src : Iv) (t : D → En → Option En) (body : Sv) : Sv := fun env mh => (src env mh).bindS fun ds mh1 => forGo t body ds env mh1
theorem SP.walk {F : Hp} {am : List Addr} {Hk : Hp} {σ : L2.St} {env : En} {r : Rs (List D)} {f : List D → Mh → Rz} {n : Nat} {Dn : Ends} {K : It → Hp → Prop} (h : SP c W F am Hk n (r.bindS f) Dn)
    (k : ∀ ds mh1 J am1 Hk1 H1 G Y, r = .ok ds mh1 → Go am am1 → Le Hk Hk1 → Rl c F am1 Hk1 H1 σ env mh1 → Walk J ds.length G Y → (∀ H2, Le Hk1 H2 → G H2) →
      (∀ i H2 x H3, i < ds.length → Le Hk1 H2 → Y i H2 x H3 → YIs c am1 ds Hk1 i H2 x H3) → SP c W F am1 Hk1 n (f ds mh1) Dn → K J H1) : IPs c W F am Hk σ env r K := by
  cases r with
  | ok ds m => exact fun J am1 Hk1 H1 G Y g e R w a b => k ds m J am1 Hk1 H1 G Y rfl g e R w a b (SP.later (r := f ds m) h g e)
  | er x m => exact fun cls dd am' Hk' H' g e R q => h cls dd σ env am' Hk' H' g e R q
  | no => exact h
theorem ss_for {tg iter : Expr} {body : List Stmt} {src : Iv} {t : D → En → Option En} {js : List Nat} {mb : Sv} {pos : Pos} (hp : PassesOwn (model X.prog X.w) X.A X.env X.xe) (hc : X.calm = true) (hi : SI c W X tg iter src) (hg : SG c X tg t js) (hb : SSs c W X body mb)
    (hs : ∀ x, foldedSetIterable iter X.env x = pure x := by intro _; rfl) : SS c W X (.For tg iter body [] pos) (mFor src t mb) := by
  obtain ⟨wi, pi, ki⟩ := hi
  obtain ⟨⟨g, pg, kg⟩, _⟩ := hg
  obtain ⟨tb, pb, kb⟩ := hb
  refine ⟨_, ps_for hp hc pi pg pb hs, fun F am Hk H σ env mh Dn R h => ?_⟩
  refine ki F am Hk H σ env mh _ R (SP.walk h fun ds mh1 J am1 Hk1 H1 G Y er g1 e1 R1 w hG hY h1 => ?_)
  refine for_it w (fun i σ' H' => ∃ am2 Hk2 env2 mh2, Go am1 am2 ∧ Le Hk1 Hk2 ∧ Rl c F am2 Hk2 H' σ' env2 mh2 ∧ σ'.length = σ.length ∧ SP c W F am2 Hk2 σ.length (forGo t mb (ds.drop i) env2 mh2) Dn)
    ⟨am1, Hk1, env, mh1, Go.refl _, Le.refl _, R1, rfl, by rw [List.drop_zero]; exact h1⟩
    (fun i σ' H' _ ⟨am2, Hk2, env2, mh2, g2, e2, R2, _⟩ => hG H' (e2.trans R2.known)) (fun i x σ' H' H3 hlt hP hy => ?_) (fun σ' H' hP => ?_)
  · obtain ⟨am2, Hk2, env2, mh2, g2, e2, R2, hl, hS⟩ := hP
    have hdr : ds.drop i = ds[i] :: ds.drop (i + 1) := List.drop_eq_getElem_cons hlt
    rw [hdr] at hS
    unfold forGo at hS
    cases hte : t ds[i] env2 with
    | none => rw [hte] at hS; exact hS.elim
    | some env1 =>
    rw [hte] at hS
    have item : ∃ Hk3, Le Hk2 Hk3 ∧ Rl c F am2 Hk3 H3 σ' env2 mh2 ∧ Dq c am2 Hk3 x ds[i] := by
      exact (hY i H' x H3 hlt (e2.trans R2.known) hy).item hlt R2 g2 e2
    obtain ⟨Hk3, e3, R3, q3⟩ := item
    refine kg F am2 Hk3 H3 σ' env2 mh2 x ds[i] env1 _ R3 q3 hte fun σ2 R4 l4 k4 => ?_
    refine kb F am2 Hk3 H3 σ2 env1 mh2 _ R4 ?_
    rw [l4, hl]
    simp only at hS
    cases hm : mb env1 mh2 with
    | nx e m =>
      rw [hm] at hS
      exact fun σ5 am5 Hk5 H5 g5 e5 R5 l5 => ⟨am5, Hk5, e, m, g2.trans g5, e2.trans (e3.trans e5), R5, l5, SP.later hS g5 (e3.trans e5)⟩
    | ct e m =>
      rw [hm] at hS
      exact fun σ5 am5 Hk5 H5 g5 e5 R5 l5 => ⟨am5, Hk5, e, m, g2.trans g5, e2.trans (e3.trans e5), R5, l5, SP.later hS g5 (e3.trans e5)⟩
    | bk e m => rw [hm] at hS; exact SP.later (r := .nx e m) hS (Go.refl _) e3
    | rt d m => rw [hm] at hS; exact SP.later (r := .rt d m) hS (Go.refl _) e3
    | er d m => rw [hm] at hS; exact SP.later (r := .er d m) hS (Go.refl _) e3
    | no => rw [hm] at hS; exact hS
  · obtain ⟨am2, Hk2, env2, mh2, g2, e2, R2, hl, hS⟩ := hP
    rw [List.drop_length] at hS
    exact hS σ' am2 Hk2 H' (Go.refl _) (Le.refl _) R2 hl
def whileGo (t : Bv) (body : Sv) : Nat → En → Mh → Rz
  | 0, _, _ => .no
  | n + 1, env, mh => (t env mh).bindS fun k mh1 => if k = true then (match body env mh1 with
      | .nx e m => whileGo t body n e m
      | .ct e m => whileGo t body n e m
      | .bk e m => .nx e m
      | .rt d m => .rt d m
      | .er x m => .er x m
      | .no => .no) else .nx env mh1
def FUEL : Nat := 1000000
def mWhile (t : Bv) (body : Sv) : Sv := fun env mh => whileGo t body FUEL env mh
theorem ss_while {q : Expr} {body : List Stmt} {mt : Bv} {mb : Sv} {pos : Pos} (hp : PassesOwn (model X.prog X.w) X.A X.env X.xe) (hq : ST c W X q mt) (hb : SSs c W X body mb) : SS c W X (.While q body [] pos) (mWhile mt mb) := by
  obtain ⟨tt, pt, kt⟩ := hq
  obtain ⟨tb, pb, kb⟩ := hb
  refine ⟨_, ps_while hp pt pb, fun F am Hk H σ env mh Dn R h => ?_⟩
  refine ⟨fun m σ' H' => ∃ am2 Hk2 env2 mh2, Rl c F am2 Hk2 H' σ' env2 mh2 ∧ σ'.length = σ.length ∧ SP c W F am2 Hk2 σ.length (whileGo mt mb m env2 mh2) Dn, ⟨FUEL, am, Hk, env, mh, R, rfl, h⟩, fun m σ' H' hP => ?_⟩
  obtain ⟨am2, Hk2, env2, mh2, R2, hl, hS⟩ := hP
  cases m with
  | zero => exact hS.elim
  | succ m =>
    unfold whileGo at hS
    refine kt F am2 Hk2 H' σ' env2 mh2 _ R2 (SP.step hS fun d mh3 er v am3 Hk3 H3 g3 e3 R3 q3 h3 => ?_)
    rw [show v = d from q3]
    cases d with
    | false => exact h3 σ' am3 Hk3 H3 (Go.refl _) (Le.refl _) R3 hl
    | true =>
      rw [if_pos rfl] at h3 ⊢
      refine ⟨fun σ5 H5 => ∃ am5 Hk5 env5 mh5, Rl c F am5 Hk5 H5 σ5 env5 mh5 ∧ σ5.length = σ.length ∧ SP c W F am5 Hk5 σ.length (whileGo mt mb m env5 mh5) Dn, fun σ5 H5 h5 => ⟨m, Nat.lt_succ_self _, h5⟩, ?_⟩
      refine kb F am3 Hk3 H3 σ' env2 mh3 _ R3 ?_
      rw [hl]
      cases hm : mb env2 mh3 with
      | nx e mm =>
        rw [hm] at h3
        exact fun σ5 am5 Hk5 H5 g5 e5 R5 l5 => ⟨am5, Hk5, e, mm, R5, l5, SP.later h3 g5 e5⟩
      | ct e mm =>
        rw [hm] at h3
        exact fun σ5 am5 Hk5 H5 g5 e5 R5 l5 => ⟨am5, Hk5, e, mm, R5, l5, SP.later h3 g5 e5⟩
      | bk e mm => rw [hm] at h3; exact h3
      | rt d mm => rw [hm] at h3; exact h3
      | er d mm => rw [hm] at h3; exact h3
      | no => rw [hm] at h3; exact h3

/-! ### own lists changed -/
theorem own_at {F : Hp} {am : List Addr} {Hk H : Hp} {σ : L2.St} {env : En} {mh : Mh} {i : Nat} {ds : List D} (R : Rl c F am Hk H σ env mh) (he : env[i]? = some (.ol ds)) :
    ∃ a xs, σ[i]? = some (some (.ref a)) ∧ H a = some (.lst xs) ∧ DqAll c am Hk xs ds ∧ Hk a = none ∧ F a = none ∧ a ∉ am := by
  obtain ⟨a, xs, e1, e2, e3, e4, e5, q⟩ := R.slot i _ he
  refine ⟨a, xs, ?_, e5, q, e2, e3, e4⟩
  cases w : σ[i]? with
  | none => rw [w] at e1; cases e1
  | some ww => rw [w] at e1; rw [show ww = some (.ref a) from e1]
theorem own_put {F : Hp} {am : List Addr} {Hk H : Hp} {σ : L2.St} {env : En} {mh : Mh} {i : Nat} {ds es : List D} {a : Addr} {ys : List V} (R : Rl c F am Hk H σ env mh) (he : env[i]? = some (.ol ds)) (hv : σ[i]? = some (some (.ref a))) (q : DqAll c am Hk ys es) :
    Rl c F am Hk (upd H a (.lst ys)) σ (env.set i (.ol es)) mh := by
  obtain ⟨a', xs, e1, e2, e3, e4, e5, e6⟩ := own_at R he
  rw [hv] at e1
  cases e1
  exact R.write he rfl hv ⟨a, ys, rfl, e4, e5, e6, upd_same, q⟩ rfl
def mApp (i : Nat) (m : Ev) : Sv := fun env mh => match env[i]? with
  | some (.ol ds) => (m env mh).bindS fun d mh1 => if ds.length < LIM then .nx (env.set i (.ol (ds ++ [d]))) mh1 else .no
  | _ => .no
theorem ss_app {i : Nat} {x : Str} {e : Expr} {m : Ev} {p apos cpos pos : Pos} (hK : X.K = c.K) (he : SE c W X e m) (hN : X.N[i]? = some x := by rfl) (hv : Vis X.env.scope x := by first | exact Or.inl rfl | exact Or.inr (Or.inl rfl) | exact Or.inr (Or.inr rfl)) (hd : (x == ("__debug__" : Str)) = false := by decide)
    (hcd : (x == ("__classdict__" : Str)) = false := by decide)
    (hbase : attributeBase (.Name x p) "append" X.env (eval (.Name x p) X.env) = eval (.Name x p) X.env := by rfl)
    (hfew : ((backTo cpos (starEach [e] X.env)).all (fun x => !x.1) && (backToKw cpos (keywordEach [] X.env)).all (fun x => x.1.isSome)
      && decide ([e].length + ([] : List Keyword).length + (if ([] : List Keyword).isEmpty then 0 else 1) < 30)) = true := by rfl)
    (hline : (apos.endLine == cpos.line) = true := by rfl) (hs : starEach [e] X.env = (false, eval e X.env) :: starEach [] X.env := by rfl) (hplain : (backTo cpos (starEach [] X.env)).any (·.1) = false := by rfl) :
    SS c W X (.Expr (.Call (.Attribute (.Name x p) "append" apos) [e] [] cpos) pos) (mApp i m) := by
  obtain ⟨t, pe, k⟩ := he
  refine ⟨_, ps_expr (pe_bm PySem.F.plainAttrs_list PySem.F.slot_list_append PySem.F.type_list_append mt_append (pe_var hN hv hd hcd) (pa_cons pe pa_nil hs) hbase hfew hline hs hplain), fun F am Hk H σ env mh Dn R h => ?_⟩
  unfold mApp at h
  cases hi : env[i]? with
  | none => rw [hi] at h; exact h.elim
  | some s =>
    rw [hi] at h
    cases s with
    | ol ds =>
      simp only at h
      obtain ⟨a, xs, e1, e2, e3, _⟩ := own_at R hi
      refine ⟨_, e1, .inl ⟨rfl, _, .of e2⟩, ?_⟩
      refine k F am Hk H σ env mh _ R (SP.step h fun d mh1 er v am1 Hk1 H1 g1 le R1 q1 h1 => ?_)
      by_cases hl : ds.length < LIM
      · rw [if_pos hl] at h1
        obtain ⟨a', xs', e1', e2', e3', _⟩ := own_at R1 hi
        rw [e1] at e1'
        cases e1'
        refine ⟨a, xs', v, rfl, rfl, e2', by rw [e3'.length]; exact Nat.lt_of_lt_of_le hl LIM_le, ?_⟩
        exact h1 σ am1 Hk1 _ (Go.refl _) (Le.refl _) (own_put R1 hi e1 (e3'.append (.one q1))) rfl
      · rw [if_neg hl] at h1; exact h1.elim
    | _ => exact h.elim
/-- target = name.pop() -/
def mPop (i : Nat) (t : D → En → Option En) : Sv := fun env mh => match env[i]? with
  | some (.ol ds) => match ds[ds.length - 1]? with
    | some d => match t d (env.set i (.ol ds.dropLast)) with
      | some env1 => .nx env1 mh
      | none => .no
    | none => .no
  | _ => .no
theorem ss_pop {i : Nat} {x : Str} {tg : Expr} {t : D → En → Option En} {js : List Nat} {p apos cpos pos : Pos} (hg : SG c X tg t js) (hN : X.N[i]? = some x := by rfl) (hv : Vis X.env.scope x := by first | exact Or.inl rfl | exact Or.inr (Or.inl rfl) | exact Or.inr (Or.inr rfl)) (hd : (x == ("__debug__" : Str)) = false := by decide)
    (hcd : (x == ("__classdict__" : Str)) = false := by decide)
    (hbase : attributeBase (.Name x p) "pop" X.env (eval (.Name x p) X.env) = eval (.Name x p) X.env := by rfl) (hline : (apos.endLine == cpos.line) = true := by rfl)
    (hs : swapsWithSole [tg] (.Call (.Attribute (.Name x p) "pop" apos) [] [] cpos) pos.line X.env = pure false := by rfl) (hw : swappedStores [tg] (.Call (.Attribute (.Name x p) "pop" apos) [] [] cpos) X.env = pure none := by rfl)
    (h1 : (assignEach [tg] X.env).map (·.2) = [assign tg X.env] := by rfl) :
    SS c W X (.Assign [tg] (.Call (.Attribute (.Name x p) "pop" apos) [] [] cpos) pos) (mPop i t) := by
  obtain ⟨⟨g, pg, kg⟩, _⟩ := hg
  refine ⟨_, ps_asg (pe_bm0 PySem.F.plainAttrs_list PySem.F.slot_list_pop PySem.F.type_list_pop mt_pop (pe_var hN hv hd hcd) hbase hline) pg hs hw h1, fun F am Hk H σ env mh Dn R h => ?_⟩
  unfold mPop at h
  cases hi : env[i]? with
  | none => rw [hi] at h; exact h.elim
  | some s =>
    rw [hi] at h
    cases s with
    | ol ds =>
      simp only at h
      obtain ⟨a, xs, e1, e2, e3, _⟩ := own_at R hi
      cases hl : ds[ds.length - 1]? with
      | none => rw [hl] at h; exact h.elim
      | some d =>
        rw [hl] at h
        simp only at h
        cases ht : t d (env.set i (.ol ds.dropLast)) with
        | none => rw [ht] at h; exact h.elim
        | some env1 =>
          rw [ht] at h
          obtain ⟨v, hv1, hv2⟩ := e3.get' hl
          refine ⟨_, e1, .inl ⟨rfl, _, .of e2⟩, a, xs, v, rfl, rfl, e2, by rw [e3.length]; exact hv1, ?_⟩
          have R2 := own_put (ys := xs.dropLast) (es := ds.dropLast) R hi e1 (by rw [List.dropLast_eq_take, List.dropLast_eq_take, e3.length]; exact e3.take _)
          exact kg F am Hk _ σ _ mh v d env1 _ R2 hv2 ht fun σ' R' l' _ => h σ' am Hk _ (Go.refl _) (Le.refl _) R' l'
    | _ => exact h.elim
/-- name[index] = value -/
def okTgt : Option Cel → Bool
  | some (.ol _) => true
  | some (.sh (.loc _)) => true
  | _ => false
def mSetIx (i : Nat) (ix m : Ev) : Sv := fun env mh => (m env mh).bindS fun d mh1 => if okTgt env[i]? = true then (ix env mh1).bindS fun k mh2 => match k with
  | .int k => match env[i]? with
    | some (.ol ds) => match ixN ds.length k with
      | some j => .nx (env.set i (.ol (ds.set j d))) mh2
      | none => .no
    | some (.sh (.loc n)) => match mh2[n]? with
      | some (.lst ds) => match ixN ds.length k with
        | some j => .nx env (mh2.set n (.lst (ds.set j d)))
        | none => .no
      | _ => .no
    | _ => .no
  | _ => .no
  else .no
theorem Rl.writeMo {F : Hp} {am : List Addr} {Hk H : Hp} {σ : L2.St} {env : En} {mh : Mh} {n : Nat} {a : Addr} {ds es : List D} {ys : List V} (R : Rl c F am Hk H σ env mh) (ha : am[n]? = some a) (hm : mh[n]? = some (.lst ds)) (q : DqAll c am Hk ys es) :
    Rl c F am Hk (upd H a (.lst ys)) σ env (mh.set n (.lst es)) := by
  obtain ⟨hk, xs, hx, _⟩ := R.mo n a _ ha hm
  have hn : n < mh.length := (List.getElem?_eq_some_iff.mp hm).1
  refine ⟨fun b u e => ?_, fun b u e => ?_, R.len, fun j s e => ?_, R.sep, R.nd, by rw [List.length_set]; exact R.mlen, fun k b o e1 e2 => ?_, fun b xs e => ?_⟩
  · rw [upd_ne (ne_of_none e hk)]; exact R.known b u e
  · obtain ⟨h1, h2, h3⟩ := R.frame b u e
    have z : b ≠ a := fun zz => by subst zz; exact h3 (List.mem_of_getElem? ha)
    rw [upd_ne z]; exact ⟨h1, h2, h3⟩
  · refine (R.slot j s e).up (Le.refl _) fun b u ho ev h => ?_
    obtain ⟨b', ob, j1, _, j3, j4, _⟩ := (R.slot j s e).there ho
    rw [ev] at j1
    cases j1
    have z : b ≠ a := fun zz => by subst zz; exact j4 (List.mem_of_getElem? ha)
    rw [upd_ne z]; exact ⟨h, j3⟩
  · by_cases z : k = n
    · subst z
      rw [ha] at e1
      cases e1
      rw [List.getElem?_set_self hn] at e2
      cases e2
      exact ⟨hk, ys, upd_same, q⟩
    · rw [List.getElem?_set_ne (Ne.symm z)] at e2
      have zb : b ≠ a := fun zz => by
        subst zz
        exact z ((List.getElem?_inj (by exact (List.getElem?_eq_some_iff.mp e1).1) R.nd).mp (e1.trans ha.symm))
      exact (R.mo k b o e1 e2).up (Le.refl _) fun u' h => by rw [upd_ne zb]; exact ⟨h, fun h => h⟩
  · by_cases z : b = a
    · subst z
      rw [upd_same] at e
      cases e
    · rw [upd_ne z] at e; exact R.tups b xs e
theorem ss_setIx {i : Nat} {x : Str} {ei e : Expr} {mi m : Ev} {p spos pos : Pos} (hi : SE c W X ei mi) (he : SE c W X e m) (hN : X.N[i]? = some x := by rfl) (hv : Vis X.env.scope x := by first | exact Or.inl rfl | exact Or.inr (Or.inl rfl) | exact Or.inr (Or.inr rfl)) (hd : (x == ("__debug__" : Str)) = false := by decide)
    (hcd : (x == ("__classdict__" : Str)) = false := by decide)
    (ha : ∀ v, assign (.Subscript (.Name x p) ei spos) X.env v = (do
      let ov ← holding [v] (eval (.Name x p) X.env)
      let iv ← holding [v, ov] (eval ei X.env)
      standAt spos
      holding [v, ov, iv] (setItem ov iv v)
      release [v, ov, iv] []) := by intro _; rfl)
    (hs : swapsWithSole [.Subscript (.Name x p) ei spos] e pos.line X.env = pure false := by rfl) (hw : swappedStores [.Subscript (.Name x p) ei spos] e X.env = pure none := by rfl)
    (h1 : (assignEach [.Subscript (.Name x p) ei spos] X.env).map (·.2) = [assign (.Subscript (.Name x p) ei spos) X.env] := by rfl) :
    SS c W X (.Assign [.Subscript (.Name x p) ei spos] e pos) (mSetIx i mi m) := by
  obtain ⟨ti, pi, ki⟩ := hi
  obtain ⟨te, pe, ke⟩ := he
  refine ⟨_, ps_asg pe (pg_sub (pe_var hN hv hd hcd) pi set_list ha) hs hw h1, fun F am Hk H σ env mh Dn R h => ?_⟩
  refine ke F am Hk H σ env mh _ R (SP.step h fun d mh1 er v am1 Hk1 H1 g1 e1 R1 q1 h1 => ?_)
  -- the name's value: own, or shared with others
  have val : ∀ s, env[i]? = some s → (∃ ds, s = .ol ds) ∨ (∃ n, s = .sh (.loc n)) → ∃ a, σ[i]? = some (some (.ref a)) := by
    intro s hs hh
    rcases hh with ⟨ds, rfl⟩ | ⟨n, rfl⟩
    · obtain ⟨a, xs, k1, _⟩ := own_at R1 hs
      exact ⟨a, k1⟩
    · obtain ⟨y, k1, k2⟩ := R1.slot i _ hs
      cases k2 with | loc k2 =>
      rename_i a
      refine ⟨a, ?_⟩
      cases w : σ[i]? with
      | none => rw [w] at k1; cases k1
      | some ww => rw [w] at k1; rw [show ww = some (.ref a) from k1]
  by_cases hok : okTgt env[i]? = true
  case neg => rw [if_neg hok] at h1; exact h1.elim
  rw [if_pos hok] at h1
  have go : (∃ a, σ[i]? = some (some (.ref a))) → gSub (tVar i) ti rSetL v σ H1 Dn.nx := by
    rintro ⟨a, ea⟩
    refine ⟨_, ea, ?_⟩
    refine ki F am1 Hk1 H1 σ env mh1 _ R1 (SP.step h1 fun dk mh2 er2 vk am2 Hk2 H2 g2 e2 R2 q2 h2 => ?_)
    cases dk with
    | int k =>
      cases q2
      simp only at h2
      cases hs : env[i]? with
      | none => rw [hs] at h2; exact h2.elim
      | some s =>
        rw [hs] at h2
        cases s with
        | ol ds =>
          simp only at h2
          obtain ⟨a', xs, k1, k2, k3, _⟩ := own_at R2 hs
          rw [ea] at k1
          cases k1
          cases hj : ixN ds.length k with
          | none => rw [hj] at h2; exact h2.elim
          | some j =>
            rw [hj] at h2
            refine ⟨a, xs, k, j, rfl, rfl, k2, by rw [k3.length]; exact hj, ?_⟩
            exact h2 σ am2 Hk2 _ (Go.refl _) (Le.refl _) (own_put R2 hs ea (k3.set (q1.up g2 e2) j)) rfl
        | sh d' =>
          cases d' with
          | loc n =>
            simp only at h2
            obtain ⟨y, k1, k2⟩ := R2.slot i _ hs
            rw [ea] at k1
            cases k1
            cases k2 with | loc k2 =>
            cases hm : mh2[n]? with
            | none => rw [hm] at h2; exact h2.elim
            | some o =>
              rw [hm] at h2
              cases o with
              | lst ds =>
                simp only at h2
                obtain ⟨hk, xs, hx, qs⟩ := R2.mo n a _ k2 hm
                cases hj : ixN ds.length k with
                | none => rw [hj] at h2; exact h2.elim
                | some j =>
                  rw [hj] at h2
                  refine ⟨a, xs, k, j, rfl, rfl, hx, by rw [qs.length]; exact hj, ?_⟩
                  exact h2 σ am2 Hk2 _ (Go.refl _) (Le.refl _) (R2.writeMo k2 hm (qs.set (q1.up g2 e2) j)) rfl
              | dead => exact h2.elim
          | _ => exact h2.elim
        | _ => exact h2.elim
    | _ => exact h2.elim
  cases hs : env[i]? with
  | none => rw [hs] at hok; cases hok
  | some s =>
    rw [hs] at hok
    refine go (val s hs ?_)
    cases s with
    | ol ds => exact .inl ⟨ds, rfl⟩
    | sh d =>
      cases d <;> first | (cases hok; done) | skip
      exact .inr ⟨_, rfl⟩
    | _ => cases hok
/-! ### targets of an assignment; += of a list; raise -/
def mAsg (t : D → En → Option En) (m : Ev) : Sv := fun env mh => (m env mh).bindS fun d mh1 => match t d env with
  | some env1 => .nx env1 mh1
  | none => .no
theorem ss_asg {tg e : Expr} {t : D → En → Option En} {js : List Nat} {m : Ev} {pos : Pos} (hg : SG c X tg t js) (he : SE c W X e m) (hs : swapsWithSole [tg] e pos.line X.env = pure false := by rfl) (hw : swappedStores [tg] e X.env = pure none := by rfl)
    (h1 : (assignEach [tg] X.env).map (·.2) = [assign tg X.env] := by rfl) : SS c W X (.Assign [tg] e pos) (mAsg t m) := by
  obtain ⟨⟨g, pg, kg⟩, _⟩ := hg
  obtain ⟨te, pe, ke⟩ := he
  refine ⟨_, ps_asg pe pg hs hw h1, fun F am Hk H σ env mh Dn R h => ?_⟩
  refine ke F am Hk H σ env mh _ R (SP.step h fun d mh1 er v am1 Hk1 H1 g1 e1 R1 q1 h1 => ?_)
  cases ht : t d env with
  | none => rw [ht] at h1; exact h1.elim
  | some env1 =>
    rw [ht] at h1
    exact kg F am1 Hk1 H1 σ env mh1 v d env1 _ R1 q1 ht fun σ' R' l' _ => h1 σ' am1 Hk1 H1 (Go.refl _) (Le.refl _) R' l'
/-- a, b = e, f: plain local names -/
def mPar (i j : Nat) (ma mb : Cv) : Sv := fun env mh => (ma env mh).bindS fun ca mh1 => (mb env mh1).bindS fun cb mh2 => if i < env.length ∧ j < env.length then .nx ((env.set i ca).set j cb) mh2 else .no
theorem CelAt.up {F F' : Hp} {am am' : List Addr} {Hk Hk' : Hp} {v : V} {cel : Cel} (h : CelAt c F F' am Hk v cel) (g : Go am am') (e : Le Hk Hk') : CelAt c F F' am' Hk' v cel := by
  cases cel with
  | no => exact h
  | sh d => exact ⟨h.1, h.2.up g e⟩
  | ol ds => obtain ⟨p, xs, h1, h2, h3, q⟩ := h; exact ⟨p, xs, h1, h2, h3, q.up g e⟩
  | od t ks ds =>
    obtain ⟨p, h1, h2, q⟩ := h
    rcases q with ⟨et, kvs, h3, h4, h5, q⟩ | ⟨et, kvs, h3, h4, h5, q⟩
    · exact ⟨p, h1, h2, .inl ⟨et, kvs, h3, h4, h5, q.up g e⟩⟩
    · exact ⟨p, h1, h2, .inr ⟨et, kvs, h3, h4, h5, q.up g e⟩⟩
theorem SP.cel2 {F F0 : Hp} {am : List Addr} {Hk : Hp} {σ : L2.St} {env : En} {r : Rs Cel} {f : Cel → Mh → Rz} {n : Nat} {Dn : Ends} {K : VK} (h : SP c W F0 am Hk n (r.bindS f) Dn) (low : ∀ am H Hk mh, Rl c F am Hk H σ env mh → ∃ σ' env', Rl c F0 am Hk H σ' env' mh)
    (k : ∀ d mh1, r = .ok d mh1 → ∀ v F1 am1 Hk1 H1, Go am am1 → Le Hk Hk1 → Rl c F1 am1 Hk1 H1 σ env mh1 → CelAt c F F1 am1 Hk1 v d → SP c W F0 am1 Hk1 n (f d mh1) Dn → K v H1)
    (hW : ∀ x mh1, r = .er x mh1 → False) : CP c W F am Hk σ env r K := by
  cases r with
  | ok d m =>
    intro v F1 am1 Hk1 H1 g e R q
    exact k d m rfl v F1 am1 Hk1 H1 g e R q (SP.later (r := f d m) h g e)
  | er x m => exact (hW x m rfl).elim
  | no => exact h
/-- errors within b are not served -/
def mPar' (i j : Nat) (ma mb : Cv) : Sv := mPar i j ma fun env mh => noEr (mb env mh)
theorem ss_par {i j : Nat} {x y : Str} {a b : Expr} {ma mb : Cv} {px py pt pos : Pos} {kt k2 : Nat} {pt2 : Pos} (hc : X.calm = true) (hN : X.N.Nodup) (ha : SC c W X a ma) (hb : SC c W X b mb) (hij : i ≠ j := by decide) (hi : X.N[i]? = some x := by rfl) (hj : X.N[j]? = some y := by rfl)
    (hx : X.env.scope.names.lookup x = some .local := by rfl) (hy : X.env.scope.names.lookup y = some .local := by rfl)
    (hw : swappedStores [.Tuple [.Name x px, .Name y py] kt pt] (.Tuple [a, b] k2 pt2) X.env = pure (some [x, y]) := by rfl)
    (hs : swapsWithSole [.Tuple [.Name x px, .Name y py] kt pt] (.Tuple [a, b] k2 pt2) pos.line X.env = pure false := by rfl)
    (h1 : starEach [a, b] X.env = (false, eval a X.env) :: starEach [b] X.env := by rfl) (h2 : starEach [b] X.env = (false, eval b X.env) :: starEach [] X.env := by rfl) :
    SS c W X (.Assign [.Tuple [.Name x px, .Name y py] kt pt] (.Tuple [a, b] k2 pt2) pos) (mPar' i j ma mb) := by
  obtain ⟨ta, pa, ka⟩ := ha
  obtain ⟨tb, pb, kb⟩ := hb
  refine ⟨_, ps_par hc hN hi hj hij hx hy (pa_cons pa (pa_cons pb pa_nil h2) h1) hw hs, fun F am Hk H σ env mh Dn R h => ?_⟩
  refine ka F am Hk H σ env mh _ R (SP.cel h fun ca mh1 er v F1 am1 Hk1 H1 g1 e1 R1 q1 h1 => ?_)
  replace h1 : SP c W F am1 Hk1 σ.length ((noEr (mb env mh1)).bindS fun cb mh2 => if i < env.length ∧ j < env.length then Rz.nx ((env.set i ca).set j cb) mh2 else .no) Dn := h1
  cases hm : mb env mh1 with
  | no => rw [hm] at h1; exact h1.elim
  | er x m => rw [hm] at h1; exact h1.elim
  | ok cb mh2 =>
    rw [hm] at h1
    refine kb F1 am1 Hk1 H1 σ env mh1 _ R1 ?_
    rw [hm]
    intro w F2 am2 Hk2 H2 g2 e2 R2 q2
    have h2 : SP c W F am2 Hk2 σ.length (if i < env.length ∧ j < env.length then Rz.nx ((env.set i ca).set j cb) mh2 else .no) Dn := SP.later h1 g2 e2
    by_cases hl : i < env.length ∧ j < env.length
    · rw [if_pos hl] at h2
      refine ⟨v, w, rfl, ?_⟩
      have R3 := R2.setCel q2 hl.2
      have R4 := R3.setCel (q1.up g2 e2) (i := i) (by rw [List.length_set]; exact hl.1)
      rw [List.set_comm _ _ (Ne.symm hij), List.set_comm _ _ (Ne.symm hij)] at R4
      exact h2 _ am2 Hk2 H2 (Go.refl _) (Le.refl _) R4 (by rw [List.length_set, List.length_set])
    · rw [if_neg hl] at h2; exact h2.elim
def mAugL (i : Nat) (m : Ev) : Sv := fun env mh => match env[i]? with
  | some (.ol ds) => (m env mh).bindS fun d mh1 => match d with
    | .lst es => if ds.length + es.length ≤ LIM then .nx (env.set i (.ol (ds ++ es))) mh1 else .no
    | _ => .no
  | _ => .no
theorem ss_augL {i : Nat} {x : Str} {e : Expr} {m : Ev} {pos' pos : Pos} (hN : X.N.Nodup) (he : SE c W X e m) (hi : X.N[i]? = some x := by rfl) (hx : Loc X.env.scope x := by first | exact Or.inl rfl | exact Or.inr rfl)
    (hf : X.fn x = true ∨ X.env.scope.names.lookup x = some .local := by first | exact .inl rfl | exact .inr rfl) : SS c W X (.AugAssign (.Name x pos') .Add e pos) (mAugL i m) := by
  obtain ⟨t, pe, k⟩ := he
  refine ⟨_, ps_aug hN hi hx pe (show PIp X .Add rExt2 from iop_ext) hf, fun F am Hk H σ env mh Dn R h => ?_⟩
  unfold mAugL at h
  cases hs : env[i]? with
  | none => rw [hs] at h; exact h.elim
  | some s =>
    rw [hs] at h
    cases s with
    | ol ds =>
      simp only at h
      obtain ⟨a, xs, e1, e2, e3, _⟩ := own_at R hs
      refine ⟨_, e1, ?_⟩
      refine k F am Hk H σ env mh _ R (SP.step h fun d mh1 er v am1 Hk1 H1 g1 le R1 q1 h1 => ?_)
      cases d with
      | lst es =>
        simp only at h1
        by_cases hl : ds.length + es.length ≤ LIM
        · rw [if_pos hl] at h1
          cases q1 with | lst s1 qs =>
          obtain ⟨a', xs', e1', e2', e3', _⟩ := own_at R1 hs
          rw [e1] at e1'
          cases e1'
          refine ⟨a, _, xs', _, rfl, rfl, e2', R1.known _ _ s1, by rw [e3'.length, qs.length]; exact Nat.le_trans hl LIM_le, ?_⟩
          have R2 := own_put R1 hs e1 (e3'.append qs)
          have eσ : σ.set i (some (.ref a)) = σ := by
            refine List.ext_getElem? fun j => ?_
            by_cases z : j = i
            · subst z
              rw [List.getElem?_set_self (List.getElem?_eq_some_iff.mp e1).1, e1]
            · rw [List.getElem?_set_ne (Ne.symm z)]
          show Dn.nx (σ.set i (some (.ref a))) _
          rw [eσ]
          exact h1 σ am1 Hk1 _ (Go.refl _) (Le.refl _) R2 rfl
        · rw [if_neg hl] at h1; exact h1.elim
      | _ => exact h1.elim
    | _ => exact h.elim
def mRaise (k : Nat) : Sv := fun _ mh => .er ⟨k, none⟩ mh
theorem ss_raise {e : Expr} {C : Addr} {k : Nat} {pos : Pos} (hc : X.calm = true) (tk : Takes X W) (hC : c.ca k = some C) (he : PMk X e (fun _ H Q => Q (.ref C) none H)) : SS c W X (.Raise (some e) none pos) (mRaise k) := by
  refine ⟨_, ps_raise hc tk he, fun F am Hk H σ env mh Dn R h => ?_⟩
  exact h (.ref C) none σ env am Hk H (Go.refl _) (Le.refl _) R ⟨⟨C, hC, rfl⟩, rfl⟩
end
end Mi

set_option Elab.async false
set_option linter.all false
set_option maxRecDepth 100000
set_option maxHeartbeats 400000
namespace Mi
open PySem PySem.Spec PyProof.Rows L2
abbrev CallT := Nat → List D → Mh → Rs D
def env0 (ds : List D) (n : Nat) : En := ds.map .sh ++ List.replicate (n - ds.length) .no
def runF (n : Nat) (body : Sv) (ds : List D) (mh : Mh) : Rs D := match body (env0 ds n) mh with
  | .nx _ m => .ok .non m
  | .rt d m => .ok d m
  | .er x m => .er x m
  | _ => .no
open Classical in
noncomputable def hid (am : List Addr) (Hk H : Hp) : Hp := fun a => if Hk a = none ∧ a ∉ am then H a else none
abbrev WofE (E : XK) : WX := fun cls d _ H => E cls d H
theorem Rl.start {c : Cn} {am : List Addr} {Hk H : Hp} {mh : Mh} {vs : List V} {ds : List D} (N : List Str) (B : Gb c am Hk H mh) (q : DqAll c am Hk vs ds) : Rl c (hid am Hk H) am Hk H (L2.start N vs) (env0 ds N.length) mh := by
  have hl := q.length
  refine ⟨B.known, fun a o e => ?_, by simp [env0, L2.start, hl], fun i s e => ?_, fun i j a h1 h2 => ?_, B.nd, B.mlen, B.mo, B.tups⟩
  · unfold hid at e
    split at e
    · rename_i h; exact ⟨e, h.1, h.2⟩
    · cases e
  · by_cases hi : i < ds.length
    · unfold env0 at e
      rw [List.getElem?_append_left (by rw [List.length_map]; exact hi), List.getElem?_map, List.getElem?_eq_getElem hi] at e
      cases e
      obtain ⟨v, h1, h2⟩ := q.get' (List.getElem?_eq_getElem hi)
      refine ⟨v, ?_, h2⟩
      unfold L2.start
      rw [List.getElem?_append_left (by rw [List.length_map, hl]; exact hi), List.getElem?_map, h1]
      rfl
    · unfold env0 at e
      rw [List.getElem?_append_right (by rw [List.length_map]; omega), List.getElem?_replicate] at e
      split at e
      · cases e; trivial
      · cases e
  · obtain ⟨_, s, e, ho⟩ := h1
    exfalso
    unfold env0 at e
    by_cases hi : i < ds.length
    · rw [List.getElem?_append_left (by rw [List.length_map]; exact hi), List.getElem?_map, List.getElem?_eq_getElem hi] at e
      cases e; cases ho
    · rw [List.getElem?_append_right (by rw [List.length_map]; omega), List.getElem?_replicate] at e
      split at e
      · cases e; cases ho
      · cases e
theorem Rl.fr0 {c : Cn} {am am' : List Addr} {Hk H Hk' H' : Hp} {σ : L2.St} {env : En} {mh : Mh} (R : Rl c (hid am Hk H) am' Hk' H' σ env mh) : Fr0 am Hk H am' Hk' H' := fun a o h1 h2 h3 => by
  refine R.frame a o ?_
  unfold hid
  rw [if_pos ⟨h2, h3⟩]
  exact h1
section
variable {P : Program} {w : World} {K : PySem.W.Frag} {mg : Str → Option Value} {base : Heap} {c : Cn}
/-- the context of a def's body -/
abbrev bodyX (P : Program) (w : World) (K : PySem.W.Frag) (mg : Str → Option Value) (base : Heap) (N : List Str) (qual : Str) (st : Stmt) (f : Addr) (cdv : Value) (A : Around) (outer : List Env) (s : Shared) (H : Hp) (E : XK) : Cx :=
  cxOf (L2.CX P w) P w K mg base N qual (defScope st) f cdv A outer s H E
theorem fn_ok {x qual : Str} {st : Stmt} {f : Addr} {fd : FuncData} {N ps : List Str} {k : Nat} {body : Sv} (Fn : Fun K x qual st f fd) (S : FnScope N ps (defScope st))
    (hb : ∀ (cdv : Value) (A : Around) (outer : List Env) (s : Shared) (H : Hp) (E : XK), Room k (A.deeper (envOfC qual (defScope st) s.heap.objs.size f cdv)) →
      SSs c (WofE E) (bodyX P w K mg base N qual st f cdv A outer s H E) (defBody st) body) :
    FnOk P w K mg base (L2.CX P w) (k + 1) f fd ps (spD c ps.length (runF N.length body)) := by
  refine Fn.okX S spD_len fun cdv A outer s H vs Q E hr h => ?_
  obtain ⟨am, Hk, ds, mh, B, q, hl, h⟩ := h
  obtain ⟨t, p, kk⟩ := hb cdv A outer s H E hr
  refine ⟨t, p, kk (hid am Hk H) am Hk H _ (env0 ds N.length) mh _ (Rl.start N B q) ?_⟩
  unfold runF at h
  cases hm : body (env0 ds N.length) mh with
  | nx e m => rw [hm] at h; exact fun σ' am' Hk' H' g e' R' _ => h _ am' Hk' H' g e' R'.gb R'.fr0 .non
  | rt d m => rw [hm] at h; exact fun v σ' env' am' Hk' H' g e' R' q' => h v am' Hk' H' g e' R'.gb R'.fr0 q'
  | er x m => rw [hm] at h; exact fun cls dd σ' env' am' Hk' H' g e' R' q' => h cls dd am' Hk' H' g e' R'.gb R'.fr0 q'
  | ct e m => rw [hm] at h; exact h.elim
  | bk e m => rw [hm] at h; exact h.elim
  | no => rw [hm] at h; exact h.elim
/-- nothing is promised -/
theorem fn_none {f : Addr} {fd : FuncData} {ps : List Str} {k np : Nat} {call : List D → Mh → Rs D} (h : ∀ ds mh, call ds mh = .no) (hn : np = ps.length) : FnOk P w K mg base (L2.CX P w) k f fd ps (spD c np call) :=
  ⟨fun vs H Q E hs => by rw [spD_len vs H Q E hs, hn], fun A outer s H args us vs Q E hr he hb hv hs => by
    obtain ⟨am, Hk, ds, mh, _, _, _, hs⟩ := hs
    rw [h] at hs
    exact hs.elim⟩
/-- a def of the text as the whole proof knows it -/
structure DefOk (K : PySem.W.Frag) (mg : Str → Option Value) (x : Str) (st : Stmt) (ps : List Str) (f : Addr) (fd : FuncData) : Prop where
  fn : Fun K x x st f fd
  gl : mg x = some (.ref f)
  bd : Binds K fd ps []
end
section
variable {X : Cx} {c : Cn} {W : WX}
theorem se_callD {k np : Nat} {f : Addr} {fd : FuncData} {ps : List Str} {st : Stmt} {call : List D → Mh → Rs D} {x : Str} {e : Expr} {es : List Expr} {ms : Av} {p pos : Pos}
    (Dk : DefOk X.K X.mg x st ps f fd) (Fn : FnOk X.prog X.w X.K X.mg X.base (L2.CX X.prog X.w) k f fd ps (spD c np call)) (hr : Room k X.A) (tk : Takes X W) (ha : SA c W X (e :: es) ms)
    (hg : Gl X x := by rfl) (hdb : (x == ("__debug__" : Str)) = false := by decide) (he : starEach (e :: es) X.env = (false, eval e X.env) :: starEach es X.env := by rfl) (hpl : (backTo pos (starEach es X.env)).any (·.1) = false := by rfl) :
    SE c W X (.Call (.Name x p) (e :: es) [] pos) (mCall np call ms) := se_call Fn hr Dk.gl Dk.fn.kp Dk.bd tk ha hg hdb he hpl
end
theorem hu64 {k : Nat} {A : Around} (hr : Room k A) : A.units + 64 < cLine := hr.units
theorem hu65 {k : Nat} {A : Around} (hr : Room k A) : A.units + 65 < cLine := by have := hr.un; omega
section
variable {X : Cx} {c : Cn} {W : WX}
def mNever : Sv := fun _ _ => .no
theorem ss_never {st : Stmt} : SS c W X st mNever := ⟨_, ps_never, fun F am Hk H σ env mh Dn R h => h.elim⟩
/-- a constant of the module as the whole proof knows it -/
def GOk (K : PySem.W.Frag) (mg : Str → Option Value) (x : Str) (d : D) : Prop := ∃ u v, mg x = some u ∧ RelV v u ∧ ∀ (c : Cn) am H, c.K = K → Dq c am H v d
theorem se_globE {x : Str} {pos : Pos} {d : D} (h : GOk X.K X.mg x d) (hK : c.K = X.K := by rfl) (hg : Gl X x := by rfl) (hd : (x == ("__debug__" : Str)) = false := by decide) : SE c W X (.Name x pos) (mC d) := by
  obtain ⟨u, v, h1, h2, h3⟩ := h
  exact se_glob h1 h2 (fun am H => h3 c am H hK) hg hd
theorem ss_setLc {i : Nat} {y : Str} {py : Pos} {elt tg iter : Expr} {ifs : List Expr} {scope : Scope} {own : List (Str × Nat)} {pos spos : Pos} {src : Iv} {t : D → En → Option En} {js : List Nat} {tst : Bv} {me : Ev} (hc : X.calm = true) (hN : X.N.Nodup) (hi : SI c W X tg iter src) (ok : BlkOk X.N X.env.scope scope own)
    (hg : ∀ (s : Shared) (H : Hp) (C : Addr) (cl : List (Str × Addr)) (fp : List Addr), SG c (X.blk s H scope (compEnvC scope cl C X.env) fp) tg t js)
    (ht : ∀ (s : Shared) (H : Hp) (C : Addr) (cl : List (Str × Addr)) (fp : List Addr), SIf c (X.blk s H scope (compEnvC scope cl C X.env) fp) ifs tst)
    (he : ∀ (s : Shared) (H : Hp) (C : Addr) (cl : List (Str × Addr)) (fp : List Addr), SE c W0 (X.blk s H scope (compEnvC scope cl C X.env) fp) elt me)
    (hjs : ∀ j ∈ js, j ∈ own.map (·.2)) (hy : X.N[i]? = some y := by rfl) (hyl : X.env.scope.names.lookup y = some .local := by rfl) (hk : X.env.scope.kind = .function := by rfl) (hl : (py.line == pos.line) = true := by rfl)
    (ha : (scope.names.any fun (n, k) => n == y && (k == .local || k == .cell)) = false := by rfl) (hs : ∀ x, foldedSetIterable iter X.env x = pure x := by intro _; rfl) :
    SS c W X (.Assign [.Name y py] (.ListComp elt [⟨tg, iter, ifs, 0⟩] scope pos) spos) (mSet i (mCompC (own.map (·.2)) src t tst me)) := by
  obtain ⟨wi, pi, ki⟩ := hi
  refine ⟨_, ps_setLc hc hN hy hyl (sw_true hk hyl hl ha) pi ok (fun s H C cl fp => (hg s H C cl fp).pg) (fun s H C cl fp => (ht s H C cl fp).pt) (fun s H C cl fp => (he s H C cl fp).pe) hs, ?_⟩
  exact set_ok (lc_ok (own := own) (hg X.s_0 X.H_0 0 [] []).keep ki hjs)
end
theorem takes0W {X : Cx} : Takes X (fun _ _ _ _ => False) := fun u s' ⟨a, B, sI, pins, σ, H, cls, d, _, _, _, _, _, _, _, _, h⟩ => h.elim
end Mi

set_option Elab.async false
set_option linter.all false
set_option maxRecDepth 100000
set_option maxHeartbeats 400000
namespace Mi
open PySem PySem.Spec PyProof.Rows L2
section
variable {X : Cx} {c : Cn} {W : WX}
theorem sss_never {sts : List Stmt} : SSs c W X sts mNever := ⟨_, pss_never, fun F am Hk H σ env mh Dn R h => h.elim⟩
theorem blkOk_nest {N : List Str} {scope0 sc0 scope : Scope} {own : List (Str × Nat)} {cl : List (Str × Addr)} {C : Addr} {env : Env} (he : env.scope = sc0) (h : blkC N (relS scope0 sc0) scope own = true) : BlkOk N (compEnvC scope0 cl C env).scope scope own := by
  subst he
  exact blkOk_by h

/-! ### looking at what is one's own -/
/-- operations on values that give a bool and leave the heap -/
def R2Sc (c : Cn) (r : R2) (f : D → D → Option D) : Prop := ∀ am H x y dx dy d (Q : VK), Dq c am H x dx → Dq c am H y dy → f dx dy = some d → (∀ b, d = .bl b → Q (.bl b) H) → r x y H Q
theorem s_eq : R2Sc c (rEqD c.K) dEq := by
  intro am H x y dx dy d Q qx qy e h
  unfold dEq at e
  by_cases hf : (dx.fine && dy.fine) = true
  · rw [if_pos hf] at e
    have hf' : dx.fine = true ∧ dy.fine = true := by simpa only [Bool.and_eq_true] using hf
    obtain ⟨p1, s1⟩ := qx.shaped hf'.1
    obtain ⟨p2, s2⟩ := qy.shaped hf'.2
    cases e
    exact ⟨_, _, p1, p2, s1, s2, h _ rfl⟩
  · rw [if_neg hf] at e; cases e
theorem s_ne : R2Sc c (rNeD c.K) dNe := by
  intro am H x y dx dy d Q qx qy e h
  unfold dNe at e
  by_cases hf : (dx.fine && dy.fine) = true
  · rw [if_pos hf] at e
    have hf' : dx.fine = true ∧ dy.fine = true := by simpa only [Bool.and_eq_true] using hf
    obtain ⟨p1, s1⟩ := qx.shaped hf'.1
    obtain ⟨p2, s2⟩ := qy.shaped hf'.2
    cases e
    exact ⟨_, _, p1, p2, s1, s2, h _ rfl⟩
  · rw [if_neg hf] at e; cases e
theorem s_inAll (neg : Bool) {f : D → D → Option D} (hf : ∀ x y, f x y = (dInB x y).map fun b => D.bl (if neg then !b else b)) : R2Sc c (rInAll c.K neg) f := by
  intro am H x y dx dy d Q qx qy e h
  rw [hf] at e
  cases hb : dInB dx dy with
  | none => rw [hb] at e; cases e
  | some b =>
    rw [hb] at e
    have e' : D.bl (if neg then !b else b) = d := Option.some.inj e
    have h' : Q (.bl (if neg then !b else b)) H := h _ e'.symm
    cases dy with
    | lst ds =>
      unfold dInB at hb
      simp only at hb
      by_cases hh : (dx.fine && (D.lst ds).fine) = true
      · rw [if_pos hh] at hb
        cases hb
        have hh' : dx.fine = true ∧ (D.lst ds).fine = true := by simpa only [Bool.and_eq_true] using hh
        obtain ⟨p1, s1⟩ := qx.shaped hh'.1
        obtain ⟨p2, s2⟩ := qy.shaped hh'.2
        rw [D.py] at p2 s2
        refine .inl ⟨_, _, p1, .inl p2, s1, s2, ?_⟩
        rw [any_pys]
        exact h'
      · rw [if_neg hh] at hb; cases hb
    | ktup ds =>
      unfold dInB at hb
      simp only at hb
      by_cases hh : (dx.fine && (D.ktup ds).fine) = true
      · rw [if_pos hh] at hb
        cases hb
        have hh' : dx.fine = true ∧ (D.ktup ds).fine = true := by simpa only [Bool.and_eq_true] using hh
        obtain ⟨p1, s1⟩ := qx.shaped hh'.1
        obtain ⟨p2, s2⟩ := qy.shaped hh'.2
        rw [D.py] at p2 s2
        refine .inl ⟨_, _, p1, .inr p2, s1, s2, ?_⟩
        rw [any_pys]
        exact h'
      · rw [if_neg hh] at hb; cases hb
    | tup ds =>
      unfold dInB at hb
      simp only at hb
      by_cases hh : (dx.fine && (D.tup ds).fine) = true
      · rw [if_pos hh] at hb
        cases hb
        have hh' : dx.fine = true ∧ (D.tup ds).fine = true := by simpa only [Bool.and_eq_true] using hh
        obtain ⟨p1, s1⟩ := qx.shaped hh'.1
        obtain ⟨p2, s2⟩ := qy.shaped hh'.2
        rw [D.py] at p2 s2
        refine .inl ⟨_, _, p1, .inr p2, s1, s2, ?_⟩
        rw [any_pys]
        exact h'
      · rw [if_neg hh] at hb; cases hb
    | str t =>
      cases dx <;> first | (cases hb; done) | skip
      cases qx
      cases qy
      cases hb
      exact .inr ⟨_, _, rfl, rfl, h'⟩
    | _ => cases hb
theorem s_in : R2Sc c (rInAll c.K false) dIn := s_inAll false fun _ _ => rfl
theorem s_notIn : R2Sc c (rInAll c.K true) dNotIn := s_inAll true fun _ _ => rfl
def onlyBl (o : Option D) (mh : Mh) : Rs D := match o with
  | some (.bl b) => .ok (.bl b) mh
  | _ => .no
/-- own op e -/
def mOL (f : D → D → Option D) (i : Nat) (m : Ev) : Ev := fun env mh => match env[i]? with
  | some (.ol ds) => (m env mh).bind fun y mh1 => onlyBl (f (.lst ds) y) mh1
  | _ => .no
/-- e op own -/
def mOR (f : D → D → Option D) (i : Nat) (m : Ev) : Ev := fun env mh => (m env mh).bind fun y mh1 => match env[i]? with
  | some (.ol ds) => onlyBl (f y (.lst ds)) mh1
  | _ => .no
theorem onlyBl_ok {F : Hp} {am : List Addr} {Hk : Hp} {σ : L2.St} {env : En} {o : Option D} {mh : Mh} {Q : VK} (h : GP c W F am Hk σ env (relD c) (onlyBl o mh) Q) :
    ∃ b, o = some (.bl b) ∧ GP c W F am Hk σ env (relD c) (.ok (.bl b) mh) Q := by
  unfold onlyBl at h
  split at h
  · exact ⟨_, rfl, h⟩
  · exact h.elim
theorem ol_ok {r : R2} {f : D → D → Option D} (hr : R2Sc c r f) {i : Nat} {m : Ev} {tb : TE} (kb : ∀ F am Hk H σ env mh Q, Rl c F am Hk H σ env mh → GP c W F am Hk σ env (relD c) (m env mh) Q → tb σ H Q) :
    ∀ F am Hk H σ env mh Q, Rl c F am Hk H σ env mh → GP c W F am Hk σ env (relD c) (mOL f i m env mh) Q → tOp r (tVar i) tb σ H Q := by
  intro F am Hk H σ env mh Q R h
  unfold mOL at h
  cases hs : env[i]? with
  | none => rw [hs] at h; exact h.elim
  | some s =>
    rw [hs] at h
    cases s with
    | ol ds =>
      simp only at h
      obtain ⟨a, xs, e1, e2, e3, _⟩ := own_at R hs
      refine ⟨_, e1, kb F am Hk H σ env mh _ R (GP.step h fun dy mh1 er y am1 Hk1 H1 g1 le1 R1 q1 h1 => ?_)⟩
      obtain ⟨b, eb, hb⟩ := onlyBl_ok h1
      obtain ⟨a', xs', e1', e2', e3', _⟩ := own_at R1 hs
      rw [e1] at e1'
      cases e1'
      exact hr am1 H1 _ y _ dy _ Q (.lst e2' (e3'.up (Go.refl _) R1.known)) (q1.up (Go.refl _) R1.known) eb fun b' e => by
        cases e
        exact hb _ am1 Hk1 H1 (Go.refl _) (Le.refl _) R1 (.bl _)
    | _ => exact h.elim
theorem or_ok {r : R2} {f : D → D → Option D} (hr : R2Sc c r f) {i : Nat} {m : Ev} {tb : TE} (kb : ∀ F am Hk H σ env mh Q, Rl c F am Hk H σ env mh → GP c W F am Hk σ env (relD c) (m env mh) Q → tb σ H Q) :
    ∀ F am Hk H σ env mh Q, Rl c F am Hk H σ env mh → GP c W F am Hk σ env (relD c) (mOR f i m env mh) Q → tOp r tb (tVar i) σ H Q := by
  intro F am Hk H σ env mh Q R h
  refine kb F am Hk H σ env mh _ R (GP.step h fun dy mh1 er y am1 Hk1 H1 g1 le1 R1 q1 h1 => ?_)
  cases hs : env[i]? with
  | none => rw [hs] at h1; exact h1.elim
  | some s =>
    rw [hs] at h1
    cases s with
    | ol ds =>
      simp only at h1
      obtain ⟨a, xs, e1, e2, e3, _⟩ := own_at R1 hs
      refine ⟨_, e1, ?_⟩
      obtain ⟨b, eb, hb⟩ := onlyBl_ok h1
      exact hr am1 H1 y _ dy _ _ Q (q1.up (Go.refl _) R1.known) (.lst e2 (e3.up (Go.refl _) R1.known)) eb fun b' e => by
        cases e
        exact hb _ am1 Hk1 H1 (Go.refl _) (Le.refl _) R1 (.bl _)
    | _ => exact h1.elim
theorem se_cmpOL {op : CmpOp} {r : R2} {f : D → D → Option D} {i : Nat} {x : Str} {p : Pos} {b : Expr} {mb : Ev} {pos : Pos} (ho : OpR X (compareOp op) r) (hr : R2Sc c r f) (hb : SE c W X b mb) (hN : X.N[i]? = some x := by rfl) (hv : Vis X.env.scope x := by first | exact Or.inl rfl | exact Or.inr (Or.inl rfl) | exact Or.inr (Or.inr rfl))
    (hd : (x == ("__debug__" : Str)) = false := by decide) (hcd : (x == ("__classdict__" : Str)) = false := by decide) (hm : behindInMarks op b = false := by rfl) : SE c W X (.Compare (.Name x p) [op] [b] pos) (mOL f i mb) := by
  obtain ⟨tb, pb, kb⟩ := hb
  exact ⟨_, pe_cmpR ho (pe_var hN hv hd hcd) pb hm, ol_ok hr kb⟩
theorem st_cmpOL {op : CmpOp} {r : R2} {f : D → D → Option D} {i : Nat} {x : Str} {p : Pos} {b : Expr} {mb : Ev} {pos : Pos} (ho : OpR X (compareOp op) r) (hr : R2Sc c r f) (hb : SE c W X b mb) (hN : X.N[i]? = some x := by rfl) (hv : Vis X.env.scope x := by first | exact Or.inl rfl | exact Or.inr (Or.inl rfl) | exact Or.inr (Or.inr rfl))
    (hd : (x == ("__debug__" : Str)) = false := by decide) (hcd : (x == ("__classdict__" : Str)) = false := by decide) (hm : behindInMarks op b = false := by rfl) : ST c W X (.Compare (.Name x p) [op] [b] pos) (mT (mOL f i mb)) := by
  obtain ⟨tb, pb, kb⟩ := hb
  exact ⟨_, pt_cmpR ho (pe_var hN hv hd hcd) pb hm, st_of (ol_ok hr kb) fun _ _ _ h => h⟩
theorem se_cmpOR {op : CmpOp} {r : R2} {f : D → D → Option D} {i : Nat} {x : Str} {p : Pos} {a : Expr} {ma : Ev} {pos : Pos} (ho : OpR X (compareOp op) r) (hr : R2Sc c r f) (ha : SE c W X a ma) (hN : X.N[i]? = some x := by rfl) (hv : Vis X.env.scope x := by first | exact Or.inl rfl | exact Or.inr (Or.inl rfl) | exact Or.inr (Or.inr rfl))
    (hd : (x == ("__debug__" : Str)) = false := by decide) (hcd : (x == ("__classdict__" : Str)) = false := by decide) (hm : behindInMarks op (.Name x p) = false := by rfl) : SE c W X (.Compare a [op] [.Name x p] pos) (mOR f i ma) := by
  obtain ⟨ta, pa, ka⟩ := ha
  exact ⟨_, pe_cmpR ho pa (pe_var hN hv hd hcd) hm, or_ok hr ka⟩
theorem st_cmpOR {op : CmpOp} {r : R2} {f : D → D → Option D} {i : Nat} {x : Str} {p : Pos} {a : Expr} {ma : Ev} {pos : Pos} (ho : OpR X (compareOp op) r) (hr : R2Sc c r f) (ha : SE c W X a ma) (hN : X.N[i]? = some x := by rfl) (hv : Vis X.env.scope x := by first | exact Or.inl rfl | exact Or.inr (Or.inl rfl) | exact Or.inr (Or.inr rfl))
    (hd : (x == ("__debug__" : Str)) = false := by decide) (hcd : (x == ("__classdict__" : Str)) = false := by decide) (hm : behindInMarks op (.Name x p) = false := by rfl) : ST c W X (.Compare a [op] [.Name x p] pos) (mT (mOR f i ma)) := by
  obtain ⟨ta, pa, ka⟩ := ha
  exact ⟨_, pt_cmpR ho pa (pe_var hN hv hd hcd) hm, st_of (or_ok hr ka) fun _ _ _ h => h⟩
/-- own[e] -/
def mIxO (i : Nat) (m : Ev) : Ev := fun env mh => match env[i]? with
  | some (.ol ds) => (m env mh).bind fun y mh1 => match y with
    | .int k => lift (atI ds k) mh1
    | _ => .no
  | _ => .no
theorem se_ixO {i : Nat} {x : Str} {p : Pos} {b : Expr} {mb : Ev} {pos : Pos} (hb : SE c W X b mb) (hN : X.N[i]? = some x := by rfl) (hv : Vis X.env.scope x := by first | exact Or.inl rfl | exact Or.inr (Or.inl rfl) | exact Or.inr (Or.inr rfl))
    (hd : (x == ("__debug__" : Str)) = false := by decide) (hcd : (x == ("__classdict__" : Str)) = false := by decide) (hs : PlainIx b := by exact fun _ _ => rfl) : SE c W X (.Subscript (.Name x p) b pos) (mIxO i mb) := by
  obtain ⟨tb, pb, kb⟩ := hb
  refine ⟨_, pe_ix ix_list (pe_var hN hv hd hcd) pb hs, fun F am Hk H σ env mh Q R h => ?_⟩
  unfold mIxO at h
  cases hs : env[i]? with
  | none => rw [hs] at h; exact h.elim
  | some s =>
    rw [hs] at h
    cases s with
    | ol ds =>
      simp only at h
      obtain ⟨a, xs, e1, e2, e3, _⟩ := own_at R hs
      refine ⟨_, e1, kb F am Hk H σ env mh _ R (GP.step h fun dy mh1 er y am1 Hk1 H1 g1 le1 R1 q1 h1 => ?_)⟩
      cases dy with
      | int k =>
        cases q1
        obtain ⟨z, ez, hz⟩ := lift_ok h1
        obtain ⟨a', xs', e1', e2', e3', _⟩ := own_at R1 hs
        rw [e1] at e1'
        cases e1'
        obtain ⟨v, hv1, hv2⟩ := e3'.atI ez
        exact ⟨a, xs', k, v, rfl, rfl, .of e2', hv1, hz v am1 Hk1 H1 (Go.refl _) (Le.refl _) R1 hv2⟩
      | _ => exact h1.elim
    | _ => exact h.elim
/-- len(own) -/
def mLenO (i : Nat) : Ev := fun env mh => match env[i]? with
  | some (.ol ds) => .ok (.int ds.length) mh
  | _ => .no
theorem se_lenO {i : Nat} {x : Str} {p p2 pos : Pos} (hm : X.mg "len" = none) (hN : X.N[i]? = some x := by rfl) (hv : Vis X.env.scope x := by first | exact Or.inl rfl | exact Or.inr (Or.inl rfl) | exact Or.inr (Or.inr rfl))
    (hd : (x == ("__debug__" : Str)) = false := by decide) (hcd : (x == ("__classdict__" : Str)) = false := by decide) (hg : Gl X "len" := by rfl)
    (he : starEach [.Name x p2] X.env = (false, eval (.Name x p2) X.env) :: starEach [] X.env := by rfl) (hpl : (backTo pos (starEach [] X.env)).any (·.1) = false := by rfl) : SE c W X (.Call (.Name "len" p) [.Name x p2] [] pos) (mLenO i) := by
  refine ⟨_, pe_callB call_len hg hm PySem.boot_len (pa_cons (pe_var hN hv hd hcd) pa_nil he) (he := he) (hpl := hpl), fun F am Hk H σ env mh Q R h => ?_⟩
  unfold mLenO at h
  cases hs : env[i]? with
  | none => rw [hs] at h; exact h.elim
  | some s =>
    rw [hs] at h
    cases s with
    | ol ds =>
      simp only at h
      obtain ⟨a, xs, e1, e2, e3, _⟩ := own_at R hs
      exact ⟨_, e1, _, xs.length, rfl, .inl ⟨xs, .of e2, rfl⟩, h _ am Hk H (Go.refl _) (Le.refl _) R (by rw [e3.length]; exact .int _)⟩
    | _ => exact h.elim

/-! ### dicts -/
def keyOf : D → Option Key
  | .int i => some (.inl i)
  | .str x => some (.inr x)
  | _ => none
def keysOf : List D → Option (List Key)
  | [] => some []
  | d :: ds => (keyOf d).bind fun k => (keysOf ds).map (k :: ·)
def keyT : D → Option (List Key)
  | .tup ds => keysOf ds
  | _ => none
theorem keyOf_keyD (k : Key) : keyOf (keyD k) = some k := by cases k <;> rfl
theorem keysOf_map : ∀ ks : List Key, keysOf (ks.map keyD) = some ks
  | [] => rfl
  | k :: ks => by simp [keysOf, keyOf_keyD, keysOf_map ks]
theorem keyOf_q {am : List Addr} {H : Hp} {v : V} {d : D} {k : Key} (q : Dq c am H v d) (h : keyOf d = some k) : v = kV k ∧ keyOk k ∧ d = keyD k := by
  cases q <;> first | (cases h; done) | skip
  · cases h; exact ⟨rfl, trivial, rfl⟩
  · rename_i kk; cases h; exact ⟨rfl, kk, rfl⟩
theorem keysOf_q {am : List Addr} {H : Hp} : ∀ {ds : List D} {vs : List V} {ks : List Key}, DqAll c am H vs ds → keysOf ds = some ks → vs = ks.map kV ∧ (∀ k ∈ ks, keyOk k) ∧ ds = ks.map keyD := by
  intro ds
  induction ds with
  | nil => intro vs ks q h; cases q; cases h; exact ⟨rfl, fun _ h => (nomatch h), rfl⟩
  | cons d ds ih =>
    intro vs ks q h
    cases q with | cons q1 qs =>
    simp only [keysOf] at h
    cases h1 : keyOf d with
    | none => rw [h1] at h; cases h
    | some k =>
      rw [h1] at h
      simp only [Option.bind_some] at h
      cases h2 : keysOf ds with
      | none => rw [h2] at h; cases h
      | some ks' =>
        rw [h2] at h
        cases h
        obtain ⟨a1, a2, a3⟩ := keyOf_q q1 h1
        obtain ⟨b1, b2, b3⟩ := ih qs h2
        refine ⟨by rw [a1, b1]; rfl, fun z hz => ?_, by rw [a3, b3]; rfl⟩
        rcases List.mem_cons.mp hz with rfl | hz
        · exact a2
        · exact b2 z hz
/-- what stands under a key: keys as they are decoded -/
def dLook {κ : Type} [DecidableEq κ] (f : D → Option κ) (k : κ) : List D → List D → Option D
  | x :: ks, v :: vs => if f x = some k then some v else dLook f k ks vs
  | _, _ => none
def dPut {κ : Type} [DecidableEq κ] (f : D → Option κ) (k : κ) (kd d : D) : List D → List D → List D × List D
  | x :: ks, v :: vs => if f x = some k then (x :: ks, d :: vs) else let r := dPut f k kd d ks vs; (x :: r.1, v :: r.2)
  | _, _ => ([kd], [d])
theorem look_ok {κ : Type} [DecidableEq κ] {f : D → Option κ} {g : κ → D} (hfg : ∀ k, f (g k) = some k) {am : List Addr} {H : Hp} {k : κ} : ∀ {kvs : List (κ × V)} {vs : List D}, DqAll c am H (kvs.map (·.2)) vs →
    (∀ d, dLook f k (kvs.map fun p => g p.1) vs = some d → ∃ v, valV kvs k = some v ∧ Dq c am H v d) ∧ (dLook f k (kvs.map fun p => g p.1) vs = none → valV kvs k = none) := by
  intro kvs
  induction kvs with
  | nil => intro vs q; cases q; exact ⟨fun d h => (nomatch h), fun _ => rfl⟩
  | cons p r ih =>
    intro vs q
    cases q with | cons q1 qs =>
    simp only [List.map_cons, dLook, hfg, Option.some.injEq]
    by_cases e : p.1 = k
    · rw [if_pos e]
      exact ⟨fun d h => by cases h; exact ⟨_, valV_pos e, q1⟩, fun h => by cases h⟩
    · rw [if_neg e, valV_neg e]
      exact ih qs
theorem put_ok {κ : Type} [DecidableEq κ] {f : D → Option κ} {g : κ → D} (hfg : ∀ k, f (g k) = some k) {am : List Addr} {H : Hp} {k : κ} {v : V} {d : D} (qv : Dq c am H v d) : ∀ {kvs : List (κ × V)} {vs : List D}, (kvs.map (·.1)).Nodup → DqAll c am H (kvs.map (·.2)) vs →
    (dPut f k (g k) d (kvs.map fun p => g p.1) vs).1 = (putK kvs k v).map (fun p => g p.1) ∧ DqAll c am H ((putK kvs k v).map (·.2)) (dPut f k (g k) d (kvs.map fun p => g p.1) vs).2 := by
  intro kvs
  induction kvs with
  | nil =>
    intro vs _ q
    cases q
    exact ⟨rfl, .one qv⟩
  | cons p r ih =>
    intro vs nd q
    cases q with | cons q1 qs =>
    rw [List.map_cons, List.nodup_cons] at nd
    simp only [List.map_cons, dPut, hfg, Option.some.injEq]
    by_cases e : p.1 = k
    · rw [if_pos e]
      have hnone : ∀ z ∈ r, z.1 ≠ k := fun z hz ez => nd.1 (by rw [e, ← ez]; exact List.mem_map_of_mem hz)
      have hmap : r.map (fun kv => if kv.1 = k then (kv.1, v) else kv) = r := by
        have : ∀ l : List (κ × V), (∀ z ∈ l, z.1 ≠ k) → l.map (fun kv => if kv.1 = k then (kv.1, v) else kv) = l := by
          intro l
          induction l with
          | nil => intro _; rfl
          | cons z l ih2 =>
            intro hl
            rw [List.map_cons, if_neg (hl z List.mem_cons_self), ih2 fun y hy => hl y (List.mem_cons_of_mem _ hy)]
        exact this r hnone
      have hput : putK (p :: r) k v = (p.1, v) :: r := by
        unfold putK
        rw [if_pos (by rw [List.any_cons, decide_eq_true e]; rfl), List.map_cons, if_pos e, hmap]
      rw [hput]
      exact ⟨rfl, .cons qv qs⟩
    · rw [if_neg e]
      have hput : putK (p :: r) k v = p :: putK r k v := by
        unfold putK
        rw [List.any_cons, decide_eq_false e, Bool.false_or]
        by_cases ha : (r.any fun kv => decide (kv.1 = k)) = true
        · rw [if_pos ha, if_pos ha, List.map_cons, if_neg e]
        · rw [if_neg ha, if_neg ha]; rfl
      rw [hput]
      obtain ⟨h1, h2⟩ := ih (vs := _) nd.2 qs
      exact ⟨by rw [List.map_cons, ← h1], .cons q1 h2⟩
end
end Mi

set_option Elab.async false
set_option linter.all false
set_option maxRecDepth 100000
set_option maxHeartbeats 1000000
namespace Mi
open PySem PySem.Spec PyProof.Rows L2
/-! ### zip and enumerate over lists, tuples, texts, in any mix -/
inductive Sq where
  | l (a : Addr) | t (a : Addr) | s (x : Str)
def Sq.v : Sq → V
  | .l a => .ref a
  | .t a => .ref a
  | .s x => .str x
def Sq.is (K : PySem.W.Frag) (H : Hp) : Sq → List V → Prop
  | .l a, xs => SqL K H a xs
  | .t a, xs => SqT K H a xs
  | .s x, xs => xs = x.cps.toList.map fun ch => V.str (chr1 ch)
def Sq.tn : Sq → Addr → Nat → Heap → Prop
  | .l a, it, i, h => h.IsListIter it a i
  | .t a, it, i, h => h.IsTupleIter it a i
  | .s x, it, i, h => ∃ t, h.IsStrIter it (strIterType x) x t i
def Sq.fp : Sq → List Addr
  | .l a => [a]
  | .t a => [a]
  | .s _ => []
theorem vals_get' {xs : List V} {its : List Value} (rv : Vals xs its) {j : Nat} {v : Value} (h : its[j]? = some v) : ∃ x, xs[j]? = some x ∧ RelV x v := by
  have hj := (List.getElem?_eq_some_iff.mp h).1
  have hl := rv.length
  have hx : xs[j]? = some xs[j] := List.getElem?_eq_getElem (by omega)
  obtain ⟨u, h1, h2⟩ := rv.get hx
  rw [h] at h1
  cases h1
  exact ⟨_, hx, h2⟩
section
variable {X : Cx} {pins : List (Addr × Obj)} {σ : L2.St} {H : Hp} {s : Shared}
theorem Sq.inj {q : Sq} {xs ys : List V} (I : Inv X pins σ H s) (h : q.is X.K H xs) (h' : q.is X.K H ys) : xs = ys := by
  cases q with
  | l a => exact I.list_inj h h'
  | t a => exact I.tuple_inj h h'
  | s x => exact Eq.trans h (Eq.symm h')
theorem Sq.keep {q : Sq} {it : Addr} {i : Nat} {h h' : Heap} (st : q.tn it i h) (k : ∀ o, h.get? it = some o → h'.get? it = some o) : q.tn it i h' := by
  cases q with
  | l a => exact st.at k
  | t a => exact st.at k
  | s x => obtain ⟨t, o, ho, r⟩ := st; exact ⟨t, o, k o ho, r⟩
theorem Sq.obj {q : Sq} {it : Addr} {i : Nat} {h : Heap} (st : q.tn it i h) : ∃ o, h.get? it = some o ∧ ∀ v, o.data ≠ .cell v := by
  cases q with
  | l a => obtain ⟨o, ho, _, hd⟩ := st; exact ⟨o, ho, fun v z => by rw [hd] at z; cases z⟩
  | t a => obtain ⟨o, ho, _, hd⟩ := st; exact ⟨o, ho, fun v z => by rw [hd] at z; cases z⟩
  | s x => obtain ⟨t, o, ho, _, hd⟩ := st; exact ⟨o, ho, fun v z => by rw [hd] at z; cases z⟩
theorem Sq.draws {q : Sq} {xs : List V} (I : Inv X pins σ H s) (hi : q.is X.K H xs) {A : Around} (hh : A.handled = none) {it : Addr} (ne : it ∉ q.fp) {i : Nat} (st : q.tn it i s.heap) :
    ∃ P St, Draws X.prog X.w A it (it :: q.fp) xs.length P St ∧ St i s.heap ∧ (∀ j h, St j h → q.tn it j h) ∧ (∀ j v, P j v → ∃ x, xs[j]? = some x ∧ RelV x v) := by
  cases q with
  | l a =>
    obtain ⟨its, rv, p, _⟩ := I.list hi
    have D := Draws.list (prog := X.prog) (w := X.w) hh it a (fun e => ne (by rw [e]; exact List.mem_singleton.mpr rfl)) its.toArray
    rw [List.size_toArray, ← rv.length] at D
    refine ⟨_, _, D, ⟨st, p.isList⟩, fun j h z => z.1, fun j v hv => ?_⟩
    have hv' : its[j]? = some v := by simpa using hv
    exact vals_get' rv hv'
  | t a =>
    obtain ⟨its, rv, p, _⟩ := I.tuple hi
    have D := Draws.tuple (prog := X.prog) (w := X.w) hh it a (fun e => ne (by rw [e]; exact List.mem_singleton.mpr rfl)) its.toArray
    rw [List.size_toArray, ← rv.length] at D
    refine ⟨_, _, D, ⟨st, p⟩, fun j h z => z.1, fun j v hv => ?_⟩
    have hv' : its[j]? = some v := by simpa using hv
    exact vals_get' rv hv'
  | s x =>
    obtain ⟨t, st⟩ := st
    have D := Draws.text (prog := X.prog) (w := X.w) hh it x t
    have hl : xs.length = x.cps.size := by rw [show xs = x.cps.toList.map fun ch => V.str (chr1 ch) from hi]; simp
    rw [← hl] at D
    refine ⟨_, _, D, st, fun j h z => ⟨t, z⟩, fun j v hv => ?_⟩
    obtain ⟨ch, u, h1, rfl⟩ := hv
    refine ⟨.str (chr1 ch), ?_, ⟨u, rfl⟩⟩
    rw [show xs = x.cps.toList.map fun ch => V.str (chr1 ch) from hi, List.getElem?_map, show x.cps.toList[j]? = some ch by simpa using h1]
    rfl
/-- how such a thing begins -/
theorem Sq.begins {q : Sq} {xs : List V} (I : Inv X pins σ H s) (hi : q.is X.K H xs) {u : Value} (r : RelV q.v u) :
    ∃ o B, Begins u o B ∧ B s.heap ∧ (∀ b ∈ q.fp, b < s.heap.objs.size) ∧ ∀ h it, h.get? it = some o → q.tn it 0 h := by
  cases q with
  | l a =>
    cases r
    obtain ⟨its, rv, p, _⟩ := I.list hi
    refine ⟨_, _, begins_list a its.toArray, p.isList, fun b hb => ?_, fun h it e => ⟨_, e, rfl, rfl⟩⟩
    rw [List.mem_singleton.mp hb]; exact p.lt
  | t a =>
    cases r
    obtain ⟨its, rv, p, _⟩ := I.tuple hi
    refine ⟨_, _, begins_tuple a its.toArray, p, fun b hb => ?_, fun h it e => ⟨_, e, rfl, rfl⟩⟩
    obtain ⟨o, ho, _⟩ := id p
    rw [List.mem_singleton.mp hb]; exact Heap.lt_size ho
  | s x =>
    obtain ⟨t, rfl⟩ := r
    exact ⟨_, fun _ => True, begins_text x t, trivial, (fun b hb => nomatch hb), fun h it e => ⟨t, _, e, rfl, rfl⟩⟩
end
def ItzG (K : PySem.W.Frag) (a b : Sq) : It :=
  ⟨fun i H => ∃ (xs ys : List V) (x y : V), a.is K H xs ∧ b.is K H ys ∧ xs[i]? = some x ∧ ys[i]? = some y,
    fun i H v H' => ∃ T x y, v = .ref T ∧ H T = none ∧ H' = upd H T (.tup [x, y]) ∧ (∀ xs, a.is K H xs → xs[i]? = some x) ∧ ∀ ys, b.is K H ys → ys[i]? = some y,
    fun i H => ∃ xs ys : List V, a.is K H xs ∧ b.is K H ys ∧ i ≤ xs.length ∧ i ≤ ys.length ∧ (i = xs.length ∨ i = ys.length)⟩
theorem turn_zipG {P : Program} {w : World} {K : PySem.W.Frag} {elts : List Expr} {kk : Nat} {tpos : Pos} {a b : Sq} {N : Addr} (ha : ∀ z ∈ a.fp, z < N) (hb : ∀ z ∈ b.fp, z < N) :
    Turn P w K (.Tuple elts kk tpos) (ItzG K a b) [N + 4, N + 2, N + 3, N, N + 1] (N + 4) (fun i h => IsZip h (N + 4) (N + 2) (N + 3) .none ∧ IsPair h (N + 2) (.ref N) (.ref (N + 1)) ∧ (∃ x y, IsPair h (N + 3) x y) ∧ a.tn N i h ∧ b.tn (N + 1) i h) where
  mem := by simp
  obj := fun i h st c hc => by
    obtain ⟨hz, hTI, ⟨x, y, hTO⟩, h1, h2⟩ := st
    have e' : c = N + 4 ∨ c = N + 2 ∨ c = N + 3 ∨ c = N ∨ c = N + 1 := by simpa using hc
    rcases e' with q | q | q | q | q
    · rw [q]; exact ⟨_, hz, fun v q => nomatch q⟩
    · rw [q]; exact ⟨_, hTI, fun v q => nomatch q⟩
    · rw [q]; exact ⟨_, hTO, fun v q => nomatch q⟩
    · rw [q]; exact Sq.obj h1
    · rw [q]; exact Sq.obj h2
  keep := fun i h h' st k => by
    obtain ⟨hz, hTI, ⟨x, y, hTO⟩, h1, h2⟩ := st
    exact ⟨k (N + 4) (by simp) _ hz, k (N + 2) (by simp) _ hTI, ⟨x, y, k (N + 3) (by simp) _ hTO⟩, Sq.keep h1 fun o q => k N (by simp) o q, Sq.keep h2 fun o q => k (N + 1) (by simp) o q⟩
  item := by
    intro X hP hw hK hc i pins s σ H E I hf st hg
    subst hP hw hK
    obtain ⟨hz, hTI, ⟨x0, y0, hTO⟩, h1, h2⟩ := st
    obtain ⟨xs, ys, x, y, hqx, hqy, hx, hy⟩ := hg
    have S := zip_sep2 ha hb
    obtain ⟨P1, S1, D1, s1, t1, p1⟩ := Sq.draws I hqx (A := X.A.in1) (I.ok.hd hc) (it := N) (fun z => Nat.lt_irrefl _ (ha _ z)) h1
    obtain ⟨P2, S2, D2, s2, t2, p2⟩ := Sq.draws I hqy (A := X.A.in1) (I.ok.hd hc) (it := N + 1) (fun z => by have := hb _ z; exact absurd this (Nat.not_lt_of_le (Nat.le_add_right _ _))) h2
    have hzl : N + 4 < s.heap.objs.size := Heap.lt_size hz
    refine wpAny_pyNext_zipD2_item S D1 D2 hz hTI hTO s1 s2 (List.getElem?_eq_some_iff.mp hx).1 (List.getElem?_eq_some_iff.mp hy).1 fun u u2 h' tk r1 r2 z' TO' n1 n2 hT hsz hk => ?_
    obtain ⟨x', hx', ru⟩ := p1 _ _ r1
    obtain ⟨y', hy', ru2⟩ := p2 _ _ r2
    rw [hx] at hx'
    cases hx'
    rw [hy] at hy'
    cases hy'
    refine ⟨_, rfl, wpAny_letOwnedTupleGo_zip (s := { s with heap := h', toks := tk }) z' fun h'' z'' sb => ?_⟩
    have hT2 : h''.get? s.heap.objs.size = some { cls := .type "tuple", data := .seq #[u, u2] } := (sb.2 _ (Nat.ne_of_gt hzl)).trans hT
    have new : ObjOk X.prog X.w (upd H s.heap.objs.size (.tup [x, y])) h'' s.heap.objs.size (.tup [x, y]) :=
      ⟨by show 2 ≤ sizeLine; decide, [u, u2], .cons ru (.cons ru2 .nil), ⟨_, hT2, rfl, _, rfl⟩⟩
    have I1 : Inv X pins σ (upd H s.heap.objs.size (.tup [x, y])) { s with heap := h'', toks := tk } :=
      I.turnedNew (t' := tk) (ch := [N + 4, N + 2, N + 3, N, N + 1]) (fun c o hb q => (sb.2 c (fun q' => hb (by simp [q']))).trans (hk c o (fun q' => hb (by simp [q'])) (fun q' => hb (by simp [q'])) (fun q' => hb (by simp [q'])) (fun q' => hb (by simp [q'])) q)) hf (Nat.le_refl _) new
    refine ⟨.ref s.heap.objs.size, _, I1, rfl, ⟨_, x, y, rfl, I.hok.fresh (Nat.le_refl _), rfl, fun l hl => by rw [Sq.inj I hl hqx]; exact hx, fun l hl => by rw [Sq.inj I hl hqy]; exact hy⟩, ⟨z'', ?_, ⟨u, u2, ?_⟩, ?_, ?_⟩, fun c hcm => ?_⟩
    · exact (sb.2 _ S.TIz).trans (hk _ _ S.TIz S.TITO S.TIi1 S.TIi2 hTI)
    · exact (sb.2 _ S.TOz).trans TO'
    · exact Sq.keep (t1 _ _ n1) fun o q => (sb.2 _ (Ne.symm S.zi1)).trans q
    · exact Sq.keep (t2 _ _ n2) fun o q => (sb.2 _ (Ne.symm S.zi2)).trans q
    · have hlt : c < s.heap.objs.size := by
        have e' : c = N + 4 ∨ c = N + 2 ∨ c = N + 3 ∨ c = N ∨ c = N + 1 := by simpa using hcm
        have : (c : Nat) ≤ N + 4 := by rcases e' with q | q | q | q | q <;> (rw [q]; first | exact Nat.le_refl _ | exact Nat.add_le_add_left (by decide) _ | exact Nat.le_add_right _ _)
        exact Nat.lt_of_le_of_lt this hzl
      rw [upd_ne (Nat.ne_of_lt hlt)]
      exact (hf c hcm).1
  done := by
    intro X hP hw hK hc i pins s σ H E I hf st hg
    subst hP hw hK
    obtain ⟨hz, hTI, ⟨x0, y0, hTO⟩, h1, h2⟩ := st
    obtain ⟨xs, ys, hqx, hqy, l1, l2, hend⟩ := hg
    have S := zip_sep2 ha hb
    obtain ⟨P1, S1, D1, s1, t1, p1⟩ := Sq.draws I hqx (A := X.A.in1) (I.ok.hd hc) (it := N) (fun z => Nat.lt_irrefl _ (ha _ z)) h1
    obtain ⟨P2, S2, D2, s2, t2, p2⟩ := Sq.draws I hqy (A := X.A.in1) (I.ok.hd hc) (it := N + 1) (fun z => by have := hb _ z; exact absurd this (Nat.not_lt_of_le (Nat.le_add_right _ _))) h2
    exact wpAny_pyNext_zipD2_end S D1 D2 hz hTI hTO s1 s2 l1 l2 hend fun h' tk hk => ⟨rfl, I.turnedL (t' := tk) (ch := [N + 4, N + 2, N + 3, N, N + 1]) (fun c o hb q =>
      hk c o (fun q' => hb (by simp [q'])) (fun q' => hb (by simp [q'])) (fun q' => hb (by simp [q'])) (fun q' => hb (by simp [q'])) q) hf⟩
  self := fun A i s Q E st h => wpAny_pyIter_zip st.1 h
def ItEn (K : PySem.W.Frag) (a : Sq) : It :=
  ⟨fun i H => ∃ (xs : List V) (x : V), a.is K H xs ∧ xs[i]? = some x, fun i H v H' => ∃ T x, v = .ref T ∧ H T = none ∧ H' = upd H T (.tup [.int (i : Nat), x]) ∧ ∀ xs, a.is K H xs → xs[i]? = some x, fun i H => ∃ xs : List V, a.is K H xs ∧ xs.length = i⟩
theorem turn_enumG {P : Program} {w : World} {K : PySem.W.Frag} {elts : List Expr} {kk : Nat} {tpos : Pos} {a : Sq} {N : Addr} (ha : ∀ z ∈ a.fp, z < N) :
    Turn P w K (.Tuple elts kk tpos) (ItEn K a) [N + 1, N] (N + 1) (fun i h => (∃ old, IsEnum h (N + 1) N ((i : Nat) : Int) old) ∧ a.tn N i h) where
  mem := by simp
  obj := fun i h st b hb => by
    obtain ⟨⟨old, he⟩, h1⟩ := st
    have e' : b = N + 1 ∨ b = N := by simpa using hb
    rcases e' with z | z
    · rw [z]; exact ⟨_, he, fun v q => nomatch q⟩
    · rw [z]; exact Sq.obj h1
  keep := fun i h h' st k => let ⟨⟨old, he⟩, hi⟩ := st; ⟨⟨old, k (N + 1) (by simp) _ he⟩, Sq.keep hi fun o q => k N (by simp) o q⟩
  item := by
    intro X hP hw hK hc i pins s σ H E I hf st hg
    subst hP hw hK
    obtain ⟨⟨old, he⟩, hit⟩ := st
    obtain ⟨xs, x, hq, hx⟩ := hg
    obtain ⟨P1, S1, D1, s1, t1, p1⟩ := Sq.draws I hq (A := X.A.in1) (I.ok.hd hc) (it := N) (fun z => Nat.lt_irrefl _ (ha _ z)) hit
    have hne : N + 1 ≠ N := Nat.succ_ne_self N
    have hel : N + 1 < s.heap.objs.size := Heap.lt_size he
    have hil : N < s.heap.objs.size := Nat.lt_of_succ_lt hel
    refine wpAny_pyNext_enum_itemD D1 he s1 (List.getElem?_eq_some_iff.mp hx).1 hne (notIn_new (j := 1) (i := 0) ha (by omega)) fun u h' tk r1 ho hit' hT hsz hk => ?_
    obtain ⟨x', hx', ru⟩ := p1 _ _ r1
    rw [hx] at hx'
    cases hx'
    refine ⟨_, rfl, wpAny_letOwnedTupleGo_enum (s := { s with heap := h', toks := tk + 1 }) ho fun h'' he' sb => ?_⟩
    have hT2 : h''.get? s.heap.objs.size = some { cls := .type "tuple", data := .seq #[.int i tk, u] } := (sb.2 _ (Nat.ne_of_gt hel)).trans hT
    have new : ObjOk X.prog X.w (upd H s.heap.objs.size (.tup [.int (i : Nat), x])) h'' s.heap.objs.size (.tup [.int (i : Nat), x]) :=
      ⟨by show 2 ≤ sizeLine; decide, [.int i tk, u], .cons ⟨_, rfl⟩ (.cons ru .nil), ⟨_, hT2, rfl, _, rfl⟩⟩
    have I1 : Inv X pins σ (upd H s.heap.objs.size (.tup [.int (i : Nat), x])) { s with heap := h'', toks := tk + 1 } :=
      I.turnedNew (ch := [N + 1, N]) (fun b ob hb q => (sb.2 b (fun z => hb (by simp [z]))).trans (hk b ob (fun z => hb (by simp [z])) (fun z => hb (by simp [z])) q)) hf (Nat.le_refl _) new
    refine ⟨.ref s.heap.objs.size, _, I1, rfl, ⟨_, x, rfl, I.hok.fresh (Nat.le_refl _), rfl, fun ys hy => by rw [Sq.inj I hy hq]; exact hx⟩, ⟨⟨u, ?_⟩, Sq.keep (t1 _ _ hit') fun o q => (sb.2 N (Ne.symm hne)).trans q⟩, fun b hb => ?_⟩
    · have e1 : ((i + 1 : Nat) : Int) = (i : Int) + 1 := by omega
      rw [e1]; exact he'
    · have hb' : b < s.heap.objs.size := by
        have e' : b = N + 1 ∨ b = N := by simpa using hb
        rcases e' with z | z
        · rw [z]; exact hel
        · rw [z]; exact hil
      rw [upd_ne (Nat.ne_of_lt hb')]
      exact (hf b hb).1
  done := by
    intro X hP hw hK hc i pins s σ H E I hf st hg
    subst hP hw hK
    obtain ⟨⟨old, he⟩, hit⟩ := st
    obtain ⟨xs, hq, hx⟩ := hg
    obtain ⟨P1, S1, D1, s1, t1, p1⟩ := Sq.draws I hq (A := X.A.in1) (I.ok.hd hc) (it := N) (fun z => Nat.lt_irrefl _ (ha _ z)) hit
    obtain ⟨f0, f1, f2, f3, f4, f5⟩ := hf N (by simp)
    rw [← hx] at s1
    exact wpAny_pyNext_enum_endD D1 he s1 fun h' eb => ⟨rfl, I.turned (t' := s.toks) (fun b o hb q => eb b o hb q) f0 f1 f3 f4 f5⟩
  self := fun A i s Q E st h => let ⟨⟨_, he⟩, _⟩ := st; wpAny_pyIter_enum he h
set_option maxHeartbeats 2000000 in
theorem meets_enumerate_new1 {v : Value} {o : Obj} {B : Heap → Prop} (Bg : Begins v o B) :
    Meets (Builtin.«enumerate.__new__» ⟨[.type "enumerate", v], []⟩) (fun _ R s => B s.heap ∧
      R (.ok (.ret (.ref (s.heap.push o).objs.size))) { s with heap := (s.heap.push o).push { cls := .type "enumerate", data := .fields #[.none, .bool false, .ref s.heap.objs.size, rawInt 0, .none, .none] } }) :=
  .of_wp fun prog w A R s h => by
    obtain ⟨hp, g, d, tk, os⟩ := s; obtain ⟨h1, h⟩ := h
    have hsub := sub_enumerate
    have q1 : ∀ {A' : Around} {E : Value → Shared → Prop} {Q : Value → Shared → Prop}, Q (.ref hp.objs.size) ⟨hp.push o, g, d, tk, os⟩ → wpAny (model prog w) A' (pyIter v) Q E ⟨hp, g, d, tk, os⟩ :=
      fun q => Bg.iter prog w _ _ ⟨hp, g, d, tk, os⟩ _ h1 q
    wp_walk using q1
    refine wpAny_stack_any fun st => wpAny_pure ?_
    split
    · rename_i c _ _ _ _ _
      cases (c == Value.type "enumerate")
      · wp_walk using q1
        exact ⟨_, rfl, h⟩
      · wp_walk using q1
        exact ⟨_, rfl, h⟩
    · wp_walk using q1
      exact ⟨_, rfl, h⟩
theorem enum_begins1 {prog : Program} {w : World} {A : Around} {E : Value → Shared → Prop} {s : Shared} {v : Value} {o : Obj} {B : Heap → Prop} {Q : Value → Shared → Prop} (Bg : Begins v o B) (h1 : B s.heap)
    (h : ∀ h', IsEnum h' (s.heap.objs.size + 1) s.heap.objs.size 0 .none → h'.get? s.heap.objs.size = some o → h'.objs.size = s.heap.objs.size + 2 →
      (∀ b o, s.heap.get? b = some o → h'.get? b = some o) → Q (.ref (s.heap.objs.size + 1)) { s with heap := h' }) :
    wpAny (model prog w) A (call (.type "enumerate") [v]) Q E s := by
  refine callType_new F.called_enumerate (by decide) (F.typeCall_enumerate_1 _) (F.newCall_enumerate_1 _) (fun obj => F.args_object_init_2 obj _) F.entry_enumerate_new
    (meets_enumerate_new1 Bg) ⟨h1, ?_⟩
  have hz : (s.heap.push o).objs.size = s.heap.objs.size + 1 := Heap.size_push ..
  show _ ∧ _
  rw [hz]
  have he : IsEnum ((s.heap.push o).push { cls := .type "enumerate", data := .fields #[.none, .bool false, .ref s.heap.objs.size, rawInt 0, .none, .none] }) (s.heap.objs.size + 1) s.heap.objs.size 0 .none := by
    have := Heap.get?_push_size (s.heap.push o) (o := { cls := .type "enumerate", data := .fields #[.none, .bool false, .ref s.heap.objs.size, rawInt 0, .none, .none] }) rfl
    rw [hz] at this; exact this
  refine ⟨⟨_, he, rfl⟩, h _ he (Heap.get?_push_of_some _ (Heap.get?_push_size _ Bg.free)) (by rw [Heap.size_push, hz]) fun b o x => Heap.get?_push_of_some _ (Heap.get?_push_of_some _ x)⟩
def iEnumG (K : PySem.W.Frag) (ta : TA) : TI := fun σ H R => ta σ H fun vs H1 => ∃ (a : Sq) (xs : List V), vs = [a.v] ∧ a.is K H1 xs ∧ R (ItEn K a) H1
def iZipG (K : PySem.W.Frag) (ta : TA) : TI := fun σ H R => ta σ H fun vs H1 => ∃ (a b : Sq) (xs ys : List V), vs = [a.v, b.v] ∧ a.is K H1 xs ∧ b.is K H1 ys ∧ R (ItzG K a b) H1
theorem pi_enumG {X : Cx} {e : Expr} {ta : TA} {p pos tpos : Pos} {elts : List Expr} {kk : Nat} (hg : Gl X "enumerate") (hm : X.mg "enumerate" = none) (ha : PA X [e] ta) (hs : starEach [e] X.env = [(false, eval e X.env)] := by rfl) :
    PI X (.Tuple elts kk tpos) (.Call (.Name "enumerate" p) [e] [] pos) (iEnumG X.K ta) := by
  refine ⟨fun pins s σ H R I h => ?_⟩
  refine Call_ (ld_blt I hg hm boot_enumerate (PyProof.Rows.callWith_type1 (thn (ha.run pos pins s σ H _ I h) fun us s1 ⟨vs, H1, I1, r1, q1⟩ => ?_) hs rfl))
  obtain ⟨a, xs, ex, hq, q⟩ := q1
  subst ex
  cases r1 with
  | cons r rr =>
    cases rr
    obtain ⟨o, B, Bg, hB, hfp, htn⟩ := Sq.begins I1 hq r
    refine enum_begins1 Bg hB fun h' he hit hsz hk => wpAny_pyIter_enum he ?_
    have I2 : Inv X pins σ H1 { s1 with heap := h' } := I1.kept (t' := s1.toks) hk
    refine ⟨s1.heap.objs.size + 1, [s1.heap.objs.size + 1, s1.heap.objs.size], _, _, H1, rfl, I2, turn_enumG hfp, ⟨⟨.none, he⟩, htn _ _ hit⟩, fun b hb => ?_, q⟩
    have e' : b = s1.heap.objs.size + 1 ∨ b = s1.heap.objs.size := by simpa using hb
    have hle : s1.heap.objs.size ≤ b := by
      rcases e' with z | z
      · rw [z]; exact Nat.le_add_right _ _
      · rw [z]; exact Nat.le_refl _
    exact I1.fpOk hle (I1.hok.fresh hle)
theorem pi_zipG {X : Cx} {e e2 : Expr} {ta : TA} {p pos tpos : Pos} {elts : List Expr} {kk : Nat} (hg : Gl X "zip") (hm : X.mg "zip" = none) (ha : PA X [e, e2] ta)
    (hs : starEach [e, e2] X.env = (false, eval e X.env) :: starEach [e2] X.env := by rfl) (hpl : (backTo pos (starEach [e2] X.env)).any (·.1) = false := by rfl) :
    PI X (.Tuple elts kk tpos) (.Call (.Name "zip" p) [e, e2] [] pos) (iZipG X.K ta) := by
  refine ⟨fun pins s σ H R I h => ?_⟩
  refine Call_ (ld_blt I hg hm PyProof.Rows.boot_zip (PyProof.Rows.callWith_type1 (thn (ha.run pos pins s σ H _ I h) fun us s1 ⟨vs, H1, I1, r1, q1⟩ => ?_) hs hpl))
  obtain ⟨a, b, xs, ys, ex, hqx, hqy, q⟩ := q1
  subst ex
  cases r1 with
  | cons r rr =>
    cases rr with
    | cons r' rr =>
      cases rr
      obtain ⟨o1, B1, Bg1, hB1, hfp1, htn1⟩ := Sq.begins I1 hqx r
      obtain ⟨o2, B2, Bg2, hB2, hfp2, htn2⟩ := Sq.begins I1 hqy r'
      refine zip_begins2 Bg1 Bg2 hB1 hB2 fun h' hz hTI hTO g1 g2 hsz hk => wpAny_pyIter_zip hz ?_
      have I2 : Inv X pins σ H1 { s1 with heap := h' } := I1.kept (t' := s1.toks) hk
      refine ⟨s1.heap.objs.size + 4, [s1.heap.objs.size + 4, s1.heap.objs.size + 2, s1.heap.objs.size + 3, s1.heap.objs.size, s1.heap.objs.size + 1], _, _, H1, rfl, I2, turn_zipG hfp1 hfp2, ⟨hz, hTI, ⟨_, _, hTO⟩, htn1 _ _ g1, htn2 _ _ g2⟩, fun c hcm => ?_, q⟩
      have e' : c = s1.heap.objs.size + 4 ∨ c = s1.heap.objs.size + 2 ∨ c = s1.heap.objs.size + 3 ∨ c = s1.heap.objs.size ∨ c = s1.heap.objs.size + 1 := by simpa using hcm
      have hle : s1.heap.objs.size ≤ c := by
        rcases e' with z | z | z | z | z
        · rw [z]; exact Nat.le_add_right _ _
        · rw [z]; exact Nat.le_add_right _ _
        · rw [z]; exact Nat.le_add_right _ _
        · rw [z]; exact Nat.le_refl _
        · rw [z]; exact Nat.le_add_right _ _
      exact I1.fpOk hle (I1.hok.fresh hle)
end Mi

set_option Elab.async false
set_option linter.all false
set_option maxRecDepth 100000
set_option maxHeartbeats 1000000
namespace Mi
open PySem PySem.Spec PyProof.Rows L2
section
variable {c : Cn} {X : Cx} {W : WX}
theorem dqAll_chars {am : List Addr} {H : Hp} : ∀ (cs : List Nat), (∀ ch ∈ cs, PySem.PyData.strOk (chr1 ch) = true) → DqAll c am H (cs.map fun ch => V.str (chr1 ch)) (cs.map fun ch => .str (chr1 ch))
  | [], _ => .nil
  | ch :: cs, h => .cons (.str _ (h ch List.mem_cons_self)) (dqAll_chars cs fun y hy => h y (List.mem_cons_of_mem _ hy))
theorem sq_of {am : List Addr} {Hk : Hp} {v : V} {d : D} {ds : List D} (q : Dq c am Hk v d) (e : itemsD d = some ds) : ∃ (a : Sq) (xs : List V), v = a.v ∧ (∀ H', Le Hk H' → a.is c.K H' xs) ∧ DqAll c am Hk xs ds := by
  cases q <;> first | (cases e; done) | skip
  · rename_i z kz
    cases e
    exact ⟨.s z, _, rfl, fun _ _ => rfl, dqAll_chars _ fun ch h => strOk_sign kz h⟩
  · rename_i a xs ds s1 qs
    cases e
    exact ⟨.t a, xs, rfl, fun H' le => .of (le _ _ s1), qs⟩
  · rename_i a xs ds s1 qs
    cases e
    exact ⟨.t a, xs, rfl, fun H' le => le.seqT s1.t, qs⟩
  · rename_i a xs ds s1 qs
    cases e
    exact ⟨.l a, xs, rfl, fun H' le => .of (le _ _ s1), qs⟩
  · rename_i a xs ds s1 qs
    cases e
    exact ⟨.l a, xs, rfl, fun H' le => le.seqL s1, qs⟩
def enD (ds : List D) : List D := ds.zipIdx.map fun p => .tup [.int (p.2 : Nat), p.1]
def zipD (a b : List D) : List D := List.zipWith (fun x y => .tup [x, y]) a b
def dEnum : List D → Option (List D)
  | [d] => (itemsD d).map enD
  | _ => none
def dZip : List D → Option (List D)
  | [d, e] => (itemsD d).bind fun a => (itemsD e).map fun b => zipD a b
  | _ => none
theorem si_enum {elts : List Expr} {kk : Nat} {tpos : Pos} {e : Expr} {ms : Av} {p pos : Pos} (hK : X.K = c.K) (hm : X.mg "enumerate" = none) (ha : SA c W X [e] ms) (hg : Gl X "enumerate" := by rfl) (hs : starEach [e] X.env = [(false, eval e X.env)] := by rfl) :
    SI c W X (.Tuple elts kk tpos) (.Call (.Name "enumerate" p) [e] [] pos) (mRng dEnum ms) := by
  obtain ⟨t, pt, k⟩ := ha
  refine ⟨_, pi_enumG hg hm pt hs, fun F am Hk H σ env mh R Rl0 h => ?_⟩
  refine k F am Hk H σ env mh _ Rl0 (IPs.step h fun ds mh1 er vs am1 Hk1 H1 g1 e1 R1 q1 h1 => ?_)
  obtain ⟨items, e2, hi⟩ := ips_ok h1
  match ds, q1, e2 with
  | [d], q1, e2 =>
    cases q1 with | cons qd qn =>
    cases qn
    cases hd : itemsD d with
    | none => simp only [dEnum, hd] at e2; cases e2
    | some ds =>
      simp only [dEnum, hd] at e2
      cases e2
      obtain ⟨a, xs, rfl, his, qs⟩ := sq_of qd hd
      refine ⟨a, xs, rfl, by rw [hK]; exact his _ R1.known, ?_⟩
      refine hi (ItEn X.K a) am1 Hk1 H1 (fun H => a.is X.K H xs) (fun i H2 x H3 => ∃ T y, x = .ref T ∧ H2 T = none ∧ H3 = upd H2 T (.tup [.int (i : Nat), y]) ∧ xs[i]? = some y) (Go.refl _) (Le.refl _) R1 ⟨fun i H hlt g => ?_, fun H g => ?_, fun i H x H' hlt g y => ?_⟩ (fun H2 le => by rw [hK]; exact his _ le) fun i H2 x H3 hlt le y => ?_
      · have hx : i < xs.length := by rw [qs.length]; simpa [enD] using hlt
        exact ⟨xs, xs[i], g, List.getElem?_eq_getElem hx⟩
      · exact ⟨xs, g, by rw [qs.length]; simp [enD]⟩
      · obtain ⟨T, z, e1, e2, e3, e4⟩ := y
        exact ⟨T, z, e1, e2, e3, e4 xs g⟩
      · obtain ⟨T, z, e1, e2, e3, e4⟩ := y
        obtain ⟨dz, h3, h4⟩ := qs.get e4
        refine .inr (.inl ⟨T, _, _, .int (i : Nat), dz, e1, e2, e3, ?_, .int _, h4⟩)
        simp [enD, List.getElem?_zipIdx, h3]
  | [], q1, e2 => cases e2
  | _ :: _ :: _, q1, e2 => cases e2
theorem si_zip {elts : List Expr} {kk : Nat} {tpos : Pos} {e e2 : Expr} {ms : Av} {p pos : Pos} (hK : X.K = c.K) (hm : X.mg "zip" = none) (ha : SA c W X [e, e2] ms) (hg : Gl X "zip" := by rfl)
    (hs : starEach [e, e2] X.env = (false, eval e X.env) :: starEach [e2] X.env := by rfl) (hpl : (backTo pos (starEach [e2] X.env)).any (·.1) = false := by rfl) :
    SI c W X (.Tuple elts kk tpos) (.Call (.Name "zip" p) [e, e2] [] pos) (mRng dZip ms) := by
  obtain ⟨t, pt, k⟩ := ha
  refine ⟨_, pi_zipG hg hm pt hs hpl, fun F am Hk H σ env mh R Rl0 h => ?_⟩
  refine k F am Hk H σ env mh _ Rl0 (IPs.step h fun ds mh1 er vs am1 Hk1 H1 g1 e1 R1 q1 h1 => ?_)
  obtain ⟨items, e2, hi⟩ := ips_ok h1
  match ds, q1, e2 with
  | [d, d'], q1, e2 =>
    cases q1 with | cons qd qn =>
    cases qn with | cons qd' qn =>
    cases qn
    cases hd : itemsD d with
    | none => simp only [dZip, hd] at e2; cases e2
    | some ds =>
      cases hd' : itemsD d' with
      | none => simp only [dZip, hd, hd'] at e2; cases e2
      | some ds' =>
        simp only [dZip, hd, hd'] at e2
        cases e2
        obtain ⟨a, xs, rfl, his, qs⟩ := sq_of qd hd
        obtain ⟨b, ys, rfl, his', qs'⟩ := sq_of qd' hd'
        have hl : (zipD ds ds').length = min xs.length ys.length := by simp [zipD, qs.length, qs'.length]
        refine ⟨a, b, xs, ys, rfl, by rw [hK]; exact his _ R1.known, by rw [hK]; exact his' _ R1.known, ?_⟩
        refine hi (ItzG X.K a b) am1 Hk1 H1 (fun H => a.is X.K H xs ∧ b.is X.K H ys) (fun i H2 x H3 => ∃ T y z, x = .ref T ∧ H2 T = none ∧ H3 = upd H2 T (.tup [y, z]) ∧ xs[i]? = some y ∧ ys[i]? = some z) (Go.refl _) (Le.refl _) R1 ⟨fun i H hlt g => ?_, fun H g => ?_, fun i H x H' hlt g y => ?_⟩ (fun H2 le => by rw [hK]; exact ⟨his _ le, his' _ le⟩) fun i H2 x H3 hlt le y => ?_
        · rw [hl] at hlt
          exact ⟨xs, ys, xs[i], ys[i], g.1, g.2, List.getElem?_eq_getElem (by omega), List.getElem?_eq_getElem (by omega)⟩
        · rw [hl]
          exact ⟨xs, ys, g.1, g.2, by omega, by omega, by omega⟩
        · obtain ⟨T, y, z, e1, e2, e3, e4, e5⟩ := y
          exact ⟨T, y, z, e1, e2, e3, e4 xs g.1, e5 ys g.2⟩
        · obtain ⟨T, y, z, e1, e2, e3, e4, e5⟩ := y
          obtain ⟨dy, h3, h4⟩ := qs.get e4
          obtain ⟨dz, h5, h6⟩ := qs'.get e5
          refine .inr (.inl ⟨T, y, z, dy, dz, e1, e2, e3, ?_, h4, h6⟩)
          simp [zipD, List.getElem?_zipWith, h3, h5]
  | [], q1, e2 => cases e2
  | [_], q1, e2 => cases e2
  | _ :: _ :: _ :: _, q1, e2 => cases e2
/-! ### a name's own list is given up once it is set -/
def frzE (i : Nat) (env : En) : Option En := match env[i]? with
  | some s => match s.own with
    | true => s.d.map fun d => env.set i (.sh d)
    | false => some env
  | none => none
def mFzA (i : Nat) (m : Sv) : Sv := fun env mh => match m env mh with
  | .nx e mh1 => match frzE i e with
    | some e' => .nx e' mh1
    | none => .no
  | r => r
theorem ps_finA {st : Stmt} {t : TS} (h : PS X st t) : PS X st (fun D σ H => t { D with nx := fun σ' H' => D.nx σ' H' ∨ ∃ d u, H' d = some u ∧ Mut (some u) ∧ ∀ od, D.nx σ' (upd H' d (.frz od u)) } σ H) := by
  refine ⟨fun pins s σ H D I hw => ?_⟩
  refine thn (h.run pins s σ H _ I hw) fun f s1 q => ?_
  cases f with
  | next =>
    obtain ⟨σ', H', I2, q⟩ := q
    rcases q with q | ⟨d, u, hd, mu, q⟩
    · exact ⟨σ', H', I2, q⟩
    · obtain ⟨od, I3⟩ := I2.lock hd mu
      exact ⟨σ', _, I3, q od⟩
  | brk => exact q
  | cont => exact q
  | ret v => exact q
theorem ss_fzA {i : Nat} {st : Stmt} {m : Sv} (h : SS c W X st m) : SS c W X st (mFzA i m) := by
  obtain ⟨t, p, k⟩ := h
  refine ⟨_, ps_finA p, fun F am Hk H σ env mh Dn R h => k F am Hk H σ env mh _ R ?_⟩
  unfold mFzA at h
  cases hm : m env mh with
  | nx e mh1 =>
    rw [hm] at h
    simp only at h
    cases hf : frzE i e with
    | none => rw [hf] at h; exact h.elim
    | some e' =>
      rw [hf] at h
      unfold frzE at hf
      cases he : e[i]? with
      | none => rw [he] at hf; cases hf
      | some s =>
        rw [he] at hf
        simp only at hf
        cases ho : s.own with
        | false =>
          rw [ho] at hf
          cases hf
          exact fun σ' am' Hk' H' g le R' hl => .inl (h σ' am' Hk' H' g le R' hl)
        | true =>
          rw [ho] at hf
          simp only at hf
          cases hd : s.d with
          | none => rw [hd] at hf; cases hf
          | some d =>
            rw [hd] at hf
            cases hf
            intro σ' am' Hk' H' g le R' hl
            rcases R'.freeze he ho hd with ⟨Hk'', le', R''⟩ | ⟨a, u, e1, mu, hf⟩
            · exact .inl (h σ' am' Hk'' H' g (le.trans le') R'' hl)
            · refine .inr ⟨a, u, e1, mu, fun od => ?_⟩
              obtain ⟨Hk'', le', R''⟩ := hf od
              exact h σ' am' Hk'' _ g (le.trans le') R'' hl
  | rt d m1 => rw [hm] at h; exact h
  | ct d m1 => rw [hm] at h; exact h
  | bk d m1 => rw [hm] at h; exact h
  | er d m1 => rw [hm] at h; exact h
  | no => rw [hm] at h; exact h
end
end Mi

set_option Elab.async false
set_option linter.all false
set_option maxRecDepth 100000
set_option maxHeartbeats 1000000
namespace Mi
open PySem PySem.Spec PyProof.Rows L2
/-! ### written constants -/
mutual
def chk (K : PySem.W.Frag) : D → Value → Bool
  | .int i, .int j _ => decide (j = i)
  | .str z, .str y _ => decide (y = z) && PySem.PyData.strOk z
  | .ktup ds, .ref a => (match K.lookup a with
    | some ⟨.type c, none, .seq its _, _⟩ => decide (c = "tuple") && (decide (its.size ≤ LIM) && chkL K ds its.toList)
    | _ => false)
  | _, _ => false
def chkL (K : PySem.W.Frag) : List D → List Value → Bool
  | [], [] => true
  | d :: ds, u :: us => chk K d u && chkL K ds us
  | _, _ => false
end
theorem bools {a b : Bool} (h : (a && b) = true) : a = true ∧ b = true := Bool.and_eq_true_iff.mp h
mutual
theorem chk_ok {K : PySem.W.Frag} : ∀ (d : D) (u : Value), chk K d u = true → ∃ v, RelV v u ∧ ∀ (c : Cn) am H, c.K = K → Dq c am H v d
  | .int i, .int j t, h => by
    simp only [chk, decide_eq_true_eq] at h
    subst h
    exact ⟨.int j, ⟨t, rfl⟩, fun c am H _ => .int j⟩
  | .str z, .str y t, h => by
    simp only [chk] at h
    obtain ⟨h1, h2⟩ := bools h
    have h1 := of_decide_eq_true h1
    subst h1
    exact ⟨.str y, ⟨t, rfl⟩, fun c am H _ => .str y h2⟩
  | .ktup ds, .ref a, h => by
    simp only [chk] at h
    cases q : K.lookup a with
    | none => rw [q] at h; cases h
    | some o =>
      obtain ⟨oc, od, dt, osl⟩ := o
      rw [q] at h
      cases od with
      | some _ => cases oc <;> cases dt <;> cases h
      | none =>
      cases oc with
      | type c =>
        cases dt with
        | seq its n =>
          obtain ⟨h1, h2⟩ := bools h
          obtain ⟨h2, h3⟩ := bools h2
          have h1 := of_decide_eq_true h1
          have h2 := of_decide_eq_true h2
          subst h1
          obtain ⟨vs, hv, hd⟩ := chkL_ok ds its.toList h3
          exact ⟨.ref a, rfl, fun c am H e => .ktup (.inr ⟨_, its, n, by rw [e]; exact q, rfl, rfl, Nat.le_trans h2 LIM_le, hv, rfl⟩) (hd c am H e)⟩
        | _ => cases h
      | _ => cases h
  | .non, u, h => by simp [chk] at h
  | .bl b, u, h => by simp [chk] at h
  | .tup _, u, h => by simp [chk] at h
  | .lst _, u, h => by simp [chk] at h
  | .rol _, u, h => by simp [chk] at h
  | .dct _ _ _, u, h => by simp [chk] at h
  | .loc _, u, h => by simp [chk] at h
  | .fn _, u, h => by simp [chk] at h
theorem chkL_ok {K : PySem.W.Frag} : ∀ (ds : List D) (us : List Value), chkL K ds us = true → ∃ vs, Vals vs us ∧ ∀ (c : Cn) am H, c.K = K → DqAll c am H vs ds
  | [], [], h => ⟨[], .nil, fun _ _ _ _ => .nil⟩
  | d :: ds, u :: us, h => by
    simp only [chkL] at h
    obtain ⟨h1, h2⟩ := bools h
    obtain ⟨v, r, q⟩ := chk_ok d u h1
    obtain ⟨vs, rs, qs⟩ := chkL_ok ds us h2
    exact ⟨v :: vs, .cons r rs, fun c am H e => .cons (q c am H e) (qs c am H e)⟩
  | [], _ :: _, h => by simp [chkL] at h
  | _ :: _, [], h => by simp [chkL] at h
end
def conB (x : Str) (d : D) (K : PySem.W.Frag) : Bool := match PySem.W.nsIn K mainGlobals x with
  | some (some u) => chk K d u
  | _ => false
theorem gok_of {K : PySem.W.Frag} {h : Heap} {mg : Str → Option Value} (X : K.In h) (G : h.Ns mainGlobals mg) {x : Str} {d : D} (e : conB x d K = true) : GOk K mg x d := by
  unfold conB at e
  cases q : PySem.W.nsIn K mainGlobals x with
  | none => rw [q] at e; cases e
  | some r =>
    cases r with
    | none => rw [q] at e; cases e
    | some u =>
      rw [q] at e
      obtain ⟨v, r, hd⟩ := chk_ok d u e
      exact ⟨u, v, PySem.W.mg_of X G q, r, hd⟩
/-! ### a written dict with text keys -/
structure KdOk (K : PySem.W.Frag) (w : World) (mg : Str → Option Value) (x : Str) (kvs : List (Str × D)) : Prop where
  ex : ∃ (d : Addr) (es : Array DictEntry) (n : Nat), mg x = some (.ref d) ∧ KDict K w d es n ∧ ∀ z, (kvs.lookup z = none → PySem.W.nsIn K d z = some none) ∧ ∀ dv, kvs.lookup z = some dv → ∃ u v, PySem.W.nsIn K d z = some (some u) ∧ RelV v u ∧ ∀ (c : Cn) am H, c.K = K → Dq c am H v dv
  keys : ∀ d, mg x = some (.ref d) → He.dicW K d = some (He.keysIn w.params (kvs.map (·.1)))
def kdB (x : Str) (kvs : List (Str × D)) (K : PySem.W.Frag) : Bool := kvs.all fun p => match PySem.W.nsIn K (He.ga K x) p.1 with
  | some (some u) => chk K p.2 u
  | _ => false
theorem nsIn_not {K : PySem.W.Frag} {a : Addr} {P : Params} {ks : List Str} (h : He.dicW K a = some (He.keysIn P ks)) {z : Str} (hz : z ∉ ks) : PySem.W.nsIn K a z = some none := by
  unfold He.dicW at h
  unfold PySem.W.nsIn
  cases q : K.lookup a with
  | none => rw [q] at h; cases h
  | some o =>
    obtain ⟨oc, od, dt, osl⟩ := o
    rw [q] at h
    cases oc with
    | type c =>
      cases od with
      | none =>
        cases dt with
        | dict es n =>
          simp only at h
          split at h
          · have h1 : es.toList.map He.keyOf = He.keysIn P ks := Option.some.inj h
            have key : ∀ e ∈ es.toList, ∃ x t, e.key = .str x t ∧ x ∈ ks := fun e he => by
              have m : He.keyOf e ∈ es.toList.map He.keyOf := List.mem_map_of_mem he
              rw [h1] at m
              obtain ⟨k, hk, ek⟩ := List.mem_map.mp m
              unfold He.keyOf at ek
              split at ek
              · rename_i x t ex
                have := Option.some.inj ek
                exact ⟨x, t, ex, by rw [← (Prod.mk.inj this).1]; exact hk⟩
              · cases ek
            have f1 : es.toList.find? (·.key.isStr z) = none := by
              rw [List.find?_eq_none]
              intro e he
              obtain ⟨x, t, ex, hx⟩ := key e he
              rw [ex]
              intro hs
              have : x = z := by simpa [Value.isStr] using hs
              exact hz (this ▸ hx)
            have f2 : es.toList.any (·.refKey) = false := by
              rw [List.any_eq_false]
              intro e he
              obtain ⟨x, t, ex, hx⟩ := key e he
              unfold DictEntry.refKey
              rw [ex]
              simp
            simp only [f1, f2]
            rfl
          · cases h
        | _ => cases h
      | some d => cases dt <;> cases h
    | _ => cases od <;> cases dt <;> cases h
theorem lookup_keys {κ β : Type} [BEq κ] [LawfulBEq κ] {z : κ} : ∀ {kvs : List (κ × β)}, (kvs.lookup z = none → z ∉ kvs.map (·.1)) ∧ ∀ d, kvs.lookup z = some d → (z, d) ∈ kvs
  | [] => ⟨(fun _ h => nomatch h), (fun _ h => nomatch h)⟩
  | (k, v) :: r => by
    have ih := lookup_keys (z := z) (kvs := r)
    rw [List.lookup_cons]
    cases e : z == k with
    | true =>
      have e' : z = k := eq_of_beq e
      exact ⟨(fun h => by cases h), (fun d h => by cases h; rw [e']; exact List.mem_cons_self)⟩
    | false =>
      have e' : z ≠ k := fun h => by rw [h] at e; simp at e
      refine ⟨fun h m => ?_, fun d h => List.mem_cons_of_mem _ (ih.2 d h)⟩
      rcases List.mem_cons.mp m with h1 | h1
      · exact e' h1
      · exact ih.1 h h1
theorem kdOk_of {K : PySem.W.Frag} {w : World} {h : Heap} {mg : Str → Option Value} (X : K.In h) (G : h.Ns mainGlobals mg) {x : Str} {kvs : List (Str × D)} (g : (He.Fa.glo x).ok K = true) (t : He.dicW K (He.ga K x) = some (He.keysIn w.params (kvs.map (·.1)))) (e : kdB x kvs K = true) : KdOk K w mg x kvs := by
  obtain ⟨es, n, kd⟩ := He.dicW_ok t
  refine ⟨⟨He.ga K x, es, n, He.glo_ok X G g, kd, fun z => ⟨fun hn => nsIn_not t (lookup_keys.1 hn), fun dv hd => ?_⟩⟩, fun d hd => by
    rw [He.glo_ok X G g] at hd
    cases hd
    exact t⟩
  have m := List.all_eq_true.mp e _ (lookup_keys.2 dv hd)
  simp only at m
  cases q : PySem.W.nsIn K (He.ga K x) z with
  | none => rw [q] at m; cases m
  | some r =>
    cases r with
    | none => rw [q] at m; cases m
    | some u =>
      rw [q] at m
      obtain ⟨v, r, hq⟩ := chk_ok dv u m
      exact ⟨u, v, rfl, r, hq⟩
def fInKd (neg : Bool) (kvs : List (Str × D)) : D → Option D
  | .str z => some (.bl (if neg then (kvs.lookup z).isNone else (kvs.lookup z).isSome))
  | _ => none
section
variable {c : Cn} {X : Cx} {W : WX}
theorem kdIn_ok {x : Str} {kvs : List (Str × D)} {e : Expr} {m : Ev} {neg : Bool} {te : TE} {u : Value} {d : Addr} {r : R2}
    (k : ∀ F am Hk H σ env mh Q, Rl c F am Hk H σ env mh → GP c W F am Hk σ env (relD c) (m env mh) Q → te σ H Q)
    (hr : ∀ z H (Q : VK), Q (.bl (if neg then (kvs.lookup z).isNone else (kvs.lookup z).isSome)) H → r (.str z) (.ref d) H Q) :
    ∀ F am Hk H σ env mh Q, Rl c F am Hk H σ env mh → GP c W F am Hk σ env (relD c) (m1 (fInKd neg kvs) m env mh) Q → tOp r te (tC (.ref d)) σ H Q := by
  intro F am Hk H σ env mh Q R h
  refine k F am Hk H σ env mh _ R (GP.step h fun dx mh1 er v am1 Hk1 H1 g1 e1 R1 q1 h1 => ?_)
  cases dx with
  | str z =>
    cases q1
    exact hr z H1 Q (h1 _ am1 Hk1 H1 (Go.refl _) (Le.refl _) R1 (.bl _))
  | _ => exact h1.elim
theorem kd_r {x : Str} {kvs : List (Str × D)} (h : KdOk X.K X.w X.mg x kvs) (neg : Bool) : ∃ (d : Addr) (r : R2), X.mg x = some (.ref d) ∧ OpR X (compareOp (if neg then .NotIn else .In)) r ∧ ∀ z H (Q : VK), Q (.bl (if neg then (kvs.lookup z).isNone else (kvs.lookup z).isSome)) H → r (.str z) (.ref d) H Q := by
  obtain ⟨d, es, n, hm, kd, hk⟩ := h.ex
  have key : ∀ z, ∃ r : Option Value, PySem.W.nsIn X.K d z = some r ∧ r.isSome = (kvs.lookup z).isSome := fun z => by
    cases e : kvs.lookup z with
    | none => exact ⟨none, (hk z).1 e, rfl⟩
    | some dv =>
      obtain ⟨u, v, h1, _⟩ := (hk z).2 dv e
      exact ⟨some u, h1, rfl⟩
  cases neg with
  | false =>
    refine ⟨d, _, hm, op_in_kd kd, fun z H Q q => ?_⟩
    obtain ⟨r, h1, h2⟩ := key z
    exact ⟨z, r, rfl, rfl, h1, by rw [h2]; exact q⟩
  | true =>
    refine ⟨d, _, hm, op_notIn_kd kd, fun z H Q q => ?_⟩
    obtain ⟨r, h1, h2⟩ := key z
    refine ⟨z, r, rfl, rfl, h1, ?_⟩
    rw [h2]
    have : (!(kvs.lookup z).isSome) = (kvs.lookup z).isNone := by cases kvs.lookup z <;> rfl
    rw [this]
    exact q
theorem se_inKd {x : Str} {kvs : List (Str × D)} {a : Expr} {ma : Ev} {p pos : Pos} (neg : Bool) (h : KdOk X.K X.w X.mg x kvs) (ha : SE c W X a ma) (hg : Gl X x := by rfl) (hd : (x == ("__debug__" : Str)) = false := by decide) (hm : behindInMarks (if neg then CmpOp.NotIn else .In) (.Name x p) = false := by rfl) :
    SE c W X (.Compare a [if neg then .NotIn else .In] [.Name x p] pos) (m1 (fInKd neg kvs) ma) := by
  obtain ⟨ta, pa, ka⟩ := ha
  obtain ⟨d, r, e1, e2, e3⟩ := kd_r h neg
  exact ⟨_, pe_cmpR e2 pa (pe_glob (v := .ref d) hg e1 rfl hd) hm, kdIn_ok (x := x) (e := a) (u := .none) ka e3⟩
theorem st_inKd {x : Str} {kvs : List (Str × D)} {a : Expr} {ma : Ev} {p pos : Pos} (neg : Bool) (h : KdOk X.K X.w X.mg x kvs) (ha : SE c W X a ma) (hg : Gl X x := by rfl) (hd : (x == ("__debug__" : Str)) = false := by decide) (hm : behindInMarks (if neg then CmpOp.NotIn else .In) (.Name x p) = false := by rfl) :
    ST c W X (.Compare a [if neg then .NotIn else .In] [.Name x p] pos) (mT (m1 (fInKd neg kvs) ma)) := by
  obtain ⟨ta, pa, ka⟩ := ha
  obtain ⟨d, r, e1, e2, e3⟩ := kd_r h neg
  exact ⟨_, pt_cmpR e2 pa (pe_glob (v := .ref d) hg e1 rfl hd) hm, st_of (kdIn_ok (x := x) (e := a) (u := .none) ka e3) fun _ _ _ h => h⟩
end
/-! ### the head -/
theorem defOk_of {K : PySem.W.Frag} {h : Heap} {mg : Str → Option Value} (X : K.In h) (G : h.Ns mainGlobals mg) {x : Str} {st : Stmt} {ps : List Str} {fd : FuncData} (g : (He.Fa.glo x).ok K = true)
    (F : FunD K x x (defArgs st) (defBody st) (defScope st) [] [] (He.ga K x) fd)
    (b : ∀ (kV doc pm : Value) (an : Option Addr) (cdv ct : Value) (us : List Value), us.length = ps.length → bindArgs (PySem.W.fnOf x x (defArgs st) (defBody st) (defScope st) .none kV doc pm an cdv ct) ⟨us, []⟩ = pure (ps.zip us)) :
    DefOk K mg x st ps (He.ga K x) fd := by
  refine ⟨⟨?_, F.kp⟩, He.glo_ok X G g, F.bindsN b⟩
  obtain ⟨oc, od, dV, kV, doc, pm, an, cdv, ct, osl, e, lk, hcd, hD, _⟩ := F.ex
  rcases hD with ⟨_, rfl⟩ | ⟨e', _⟩
  · exact ⟨oc, od, kV, doc, pm, an, cdv, ct, osl, e, lk, hcd⟩
  · exact absurd rfl e'
theorem tabW {fa : List He.Fa} {fn : List He.DefD} {ts : List He.Tab} {w : World} {K : PySem.W.Frag} (c : He.SaysT fa fn ts w K) (i : Nat) {t : He.Tab} (h : ts[i]? = some t) : He.dicW K (t.1 K) = some (He.keysIn w.params t.2) := by
  have e : ts.map (fun t => He.dicW K (t.1 K)) = ts.map fun t => some (He.keysIn w.params t.2) := congrArg (fun z : He.AlT => z.2) c
  have e2 : (ts.map fun t => He.dicW K (t.1 K))[i]? = (ts.map fun t => some (He.keysIn w.params t.2))[i]? := by rw [e]
  rw [List.getElem?_map, List.getElem?_map, h] at e2
  exact Option.some.inj e2
theorem walk_ofW {l : PySem.W.OpenLaw} {n k : Nat} {q : Program} {loose : List Str} {XP : (Str → Option Value) → Heap → Prop} {YP : World → Heap → Prop} {d : DefRec} {CX : World → CXT} {x : Str}
    (hn : l.most = some n) (hn2 : n ≤ sizeLine) (hdf : d.params.defaults = []) (hr : Room k callerA)
    (F : ∀ (w : World) (mg : Str → Option Value) (fa : Addr) (h : Heap), YP w h → h.Ns mainGlobals mg → mg d.name = some (.ref fa) →
      ∃ (K : PySem.W.Frag) (fd : FuncData) (sp : Sp), K.In h ∧ (∀ (s : Shared) (u : Value), BindsTo s fd ⟨[u], []⟩ [(x, u)]) ∧
        (∀ (H : Hp) (a : Addr) (ns : List Int), ns.length ≤ n → Only H → SqL K H a (ns.map V.int) → sp [.ref a] H (fun v _ => v = .bl true) fun _ _ _ => False) ∧
        ∀ base : Heap, K.In base → base.Ns mainGlobals mg → FnOk l.prog w K mg base (CX w) k fa fd [x] sp)
    (hCX : ∀ (w : World) (H : Hp) (s : Shared) (e : Value) (s' : Shared), CX w [] H s (fun _ _ _ => False) e s' → False) :
    PySem.W.WalkO q loose XP YP l.row.toRowW d [] (fun f vs => PySem.call f vs) := by
  refine Att.attach_call hn hdf fun w s₀ s₁ mg mb fa o pm cd doc a vs ns G Y ho hd hcd hmg hobj hints hlen hg => ?_
  obtain ⟨K, fd, sp, KX, hb, hsp, hF⟩ := F w mg fa _ Y G.T.g hmg
  exact law_call KX G.T.g G.T.b G.T.builtins G.T.nolimit hg hobj hints (Nat.le_trans hlen hn2) hr hF hb (fun H hO hS => hsp H a ns hlen hO hS) fun H e s' => hCX w H s₁ e s'
theorem dqAll_ints {c : Cn} {am : List Addr} {H : Hp} : ∀ ns : List Int, DqAll c am H (ns.map V.int) (ns.map D.int)
  | [] => .nil
  | n :: ns => .cons (.int n) (dqAll_ints ns)
theorem sp_start {c : Cn} {call : List D → Mh → Rs D} {H : Hp} {a : Addr} {ns : List Int} {E : XK} (hS : SqL c.K H a (ns.map V.int)) {mh : Mh} (h : call [.rol (ns.map D.int)] [] = .ok (.bl true) mh) : spD c 1 call [.ref a] H (fun v _ => v = .bl true) E := by
  refine ⟨[], H, _, [], ⟨Le.refl _, List.nodup_nil, rfl, fun n a o h => (by cases h), fun a xs h => h⟩, .one (.rol hS (dqAll_ints ns)), rfl, ?_⟩
  rw [h]
  intro v am' Hk' H' _ _ _ _ q
  cases q
  rfl
end Mi

set_option Elab.async false
set_option linter.all false
set_option maxRecDepth 100000
set_option maxHeartbeats 1000000
namespace Mi
open PySem PySem.Spec PyProof.Rows L2
theorem go_snoc (am : List Addr) (p : Addr) : Go am (am ++ [p]) := fun n a e => by
  rw [List.getElem?_append_left (List.getElem?_eq_some_iff.mp e).1]; exact e
section
variable {c : Cn} {F : Hp} {am : List Addr} {Hk H : Hp} {σ : L2.St} {env : En} {mh : Mh}
/-- a new list that is shared from now on -/
theorem Rl.newLoc {p : Addr} {xs : List V} {ds : List D} (R : Rl c F am Hk H σ env mh) (hp : H p = none) (q : DqAll c am Hk xs ds) : Rl c F (am ++ [p]) Hk (upd H p (.lst xs)) σ env (mh ++ [.lst ds]) := by
  have hk := R.hk_none hp
  have hf := R.f_none hp
  have ha := R.am_not hp
  have g := go_snoc am p
  have ne : ∀ {a : Addr} {o : HO}, H a = some o → a ≠ p := fun e => ne_of_none e hp
  refine ⟨fun a u e => ?_, fun a u e => ?_, R.len, fun i s e => ?_, R.sep, ?_, by simp [R.mlen], fun n a u e1 e2 => ?_, fun a xs' e => ?_⟩
  · rw [upd_ne (ne (R.known a u e))]; exact R.known a u e
  · obtain ⟨h1, h2, h3⟩ := R.frame a u e
    rw [upd_ne (ne h1)]
    exact ⟨h1, h2, fun m => by
      rcases List.mem_append.mp m with m | m
      · exact h3 m
      · exact ne h1 (List.mem_singleton.mp m)⟩
  · refine (R.slot i s e).go g (Le.refl _) fun a o h1 h2 h3 => ?_
    rw [upd_ne (ne h1)]
    exact ⟨h1, h2, fun m => by
      rcases List.mem_append.mp m with m | m
      · exact h3 m
      · exact ne h1 (List.mem_singleton.mp m)⟩
  · rw [List.nodup_append]
    exact ⟨R.nd, by simp, fun a h1 b h2 e => ha (by rw [← List.mem_singleton.mp h2, ← e]; exact h1)⟩
  · by_cases hn : n < am.length
    · rw [List.getElem?_append_left hn] at e1
      rw [List.getElem?_append_left (by rw [R.mlen]; exact hn)] at e2
      have h2 := R.mo n a u e1 e2
      obtain ⟨w, hw⟩ := h2.there
      have h3 := h2.up (H' := upd H p (.lst xs)) (Le.refl _) fun u' h => by rw [upd_ne (ne h)]; exact ⟨h, fun h => h⟩
      cases u with
      | lst es =>
        obtain ⟨h1, ys, e3, q'⟩ := h3
        exact ⟨h1, ys, e3, q'.up g (Le.refl _)⟩
      | dead => exact h3
    · have hlen : n = am.length := by
        have := (List.getElem?_eq_some_iff.mp e1).1
        rw [List.length_append, List.length_singleton] at this
        omega
      subst hlen
      rw [List.getElem?_append_right (Nat.le_refl _), Nat.sub_self] at e1
      rw [List.getElem?_append_right (by rw [R.mlen]; exact Nat.le_refl _), R.mlen, Nat.sub_self] at e2
      cases e1
      cases e2
      exact ⟨hk, xs, upd_same, q.up g (Le.refl _)⟩
  · by_cases z : a = p
    · subst z
      rw [upd_same] at e
      cases e
    · rw [upd_ne z] at e; exact R.tups a xs' e
end
section
variable {c : Cn} {X : Cx} {W : WX}
/-- return [..]: a list that the caller and its calls change -/
def mRetLoc (ms : Av) : Sv := fun env mh => (ms env mh).bindS fun ds mh1 => if ds.length ≤ LIM then .rt (.loc mh1.length) (mh1 ++ [.lst ds]) else .no
theorem ss_retLoc {es : List Expr} {ms : Av} {lpos pos : Pos} (h : SA c W X es ms) : SS c W X (.Return (some (.List es lpos)) pos) (mRetLoc ms) := by
  obtain ⟨t, p, k⟩ := h
  refine ⟨_, ps_ret (pe_lst p), fun F am Hk H σ env mh Dn R h => ?_⟩
  refine k F am Hk H σ env mh _ R (SP.step h fun ds mh1 er vs am1 Hk1 H1 g1 e1 R1 q1 h1 => ?_)
  by_cases hl : ds.length ≤ LIM
  · rw [if_pos hl] at h1
    refine ⟨by rw [q1.length]; exact Nat.le_trans hl LIM_le, fun p hp => ?_⟩
    refine h1 (.ref p) σ env (am1 ++ [p]) Hk1 _ (go_snoc _ _) (Le.refl _) (R1.newLoc hp q1) (.loc ?_)
    rw [List.getElem?_append_right (by rw [R1.mlen]; exact Nat.le_refl _), R1.mlen, Nat.sub_self]
    rfl
  · rw [if_neg hl] at h1; exact h1.elim
end
end Mi

set_option Elab.async false
set_option linter.all false
set_option maxRecDepth 100000
set_option maxHeartbeats 1000000
namespace Mi
open PySem PySem.Spec PyProof.Rows L2
theorem lc_itH {J : It} {n : Nat} {G : Hp → Prop} {Y : Nat → Hp → V → Hp → Prop} (w : Walk J n G Y) {g : TG} {tt : TT} {te : TE} {vs : List Nat} {σ : L2.St} {H0 : Hp} {D : Addr} {Qd : Hp → Prop} (Pv : Nat → Hp → Prop) (h0 : Pv 0 H0) (hG : ∀ i H, i ≤ n → Pv i H → G H)
    (hs : ∀ i x H H', i < n → Pv i H → Y i H x H' → g x (wipe σ vs) H' fun σ2 H2 => wipe σ2 vs = wipe σ vs ∧ tt σ2 H2 fun b H3 =>
      if b = true then te σ2 H3 fun y H4 => ∃ acc, H4 D = some (.lst acc) ∧ acc.length < sizeLine ∧ Pv (i + 1) (upd H4 D (.lst (acc ++ [y]))) else Pv (i + 1) H3) (hd : ∀ H, Pv n H → Qd H) :
    ∃ W : Nat → Nat → Hp → Prop, (∃ m, W 0 m H0) ∧ ∀ i m H, W i m H →
      (J.stop i H ∧ Qd H) ∨ (J.go i H ∧ ∃ Nx : Hp → Prop, (∀ H', Nx H' → ∃ m', m' < m ∧ W (i + 1) m' H') ∧ ∀ x H', J.yld i H x H' → g x (wipe σ vs) H' fun σ2 H2 => wipe σ2 vs = wipe σ vs ∧ tt σ2 H2 fun b H3 =>
        if b = true then te σ2 H3 fun y H4 => ∃ acc, H4 D = some (.lst acc) ∧ acc.length < sizeLine ∧ Nx (upd H4 D (.lst (acc ++ [y]))) else Nx H3) := by
  refine ⟨fun i m H => m = n - i ∧ i ≤ n ∧ Pv i H, ⟨n, by simp, Nat.zero_le _, h0⟩, ?_⟩
  rintro i m H ⟨rfl, hi, p⟩
  have q := hG i H hi p
  by_cases hlt : i < n
  · refine .inr ⟨w.goes i H hlt q, Pv (i + 1), fun H' p' => ⟨n - (i + 1), by omega, rfl, hlt, p'⟩, fun x H' y => hs i x H H' hlt p (w.yields i H x H' hlt q y)⟩
  · have e : i = n := by omega
    subst e
    exact .inl ⟨w.stops H q, hd H p⟩
section
variable {c : Cn} {X : Cx}
/-- one comprehension loop that grows the list at D -/
theorem lc_run {vs js : List Nat} {t : D → En → Option En} {tst : Bv} {me : Ev} (hkp : ∀ (d : D) (env env' : En), t d env = some env' → ∀ (i : Nat), i ∉ js → env'[i]? = env[i]?) (hjs : ∀ j ∈ js, j ∈ vs)
    {F : Hp} {Dl : Addr} {acc0 : List V} {am : List Addr} {Hk H : Hp} {σ : L2.St} {env : En} {mh mhE : Mh} {ds ds0 xs : List D} {J : It} {G : Hp → Prop} {Y : Nat → Hp → V → Hp → Prop} {Nx : Hp → Prop}
    (w : Walk J ds.length G Y) (hG : ∀ H2, Le Hk H2 → G H2) (hY : ∀ i H2 x H3, i < ds.length → Le Hk H2 → Y i H2 x H3 → YIs c am ds Hk i H2 x H3)
    (R1 : Rl c (upd F Dl (.lst acc0)) am Hk H (wipe σ vs) (wipeE env vs) mh) (qa0 : DqAll c am Hk acc0 ds0) (hcg : compGo t tst me (wipeE env vs) ds mh = .ok xs mhE) (hlen : ds0.length + xs.length ≤ LIM)
    (hN : ∀ acc am2 Hk2 H2, Go am am2 → Le Hk Hk2 → Rl c (upd F Dl (.lst acc)) am2 Hk2 H2 (wipe σ vs) (wipeE env vs) mhE → DqAll c am2 Hk2 acc (ds0 ++ xs) → Nx H2) :
    ∃ W : Nat → Nat → Hp → Prop, (∃ m, W 0 m H) ∧ ∀ i m H, W i m H →
      (J.stop i H ∧ Nx H) ∨ (J.go i H ∧ ∃ N1 : Hp → Prop, (∀ H', N1 H' → ∃ m', m' < m ∧ W (i + 1) m' H') ∧ ∀ x H', J.yld i H x H' → cG c t js x (wipe σ vs) H' fun σ2 H2 => wipe σ2 vs = wipe σ vs ∧ cT c (fun _ _ _ _ => False) tst σ2 H2 fun b H3 =>
        if b = true then cE c W0 me σ2 H3 fun y H4 => ∃ acc, H4 Dl = some (.lst acc) ∧ acc.length < sizeLine ∧ N1 (upd H4 Dl (.lst (acc ++ [y]))) else N1 H3) := by
  refine lc_itH w (fun i H' => ∃ am2 Hk2 mh2 acc ds', Go am am2 ∧ Le Hk Hk2 ∧ Rl c (upd F Dl (.lst acc)) am2 Hk2 H' (wipe σ vs) (wipeE env vs) mh2 ∧ DqAll c am2 Hk2 acc (ds0 ++ ds') ∧
      ∃ rest, compGo t tst me (wipeE env vs) (ds.drop i) mh2 = .ok rest mhE ∧ xs = ds' ++ rest)
    ⟨am, Hk, mh, acc0, [], Go.refl _, Le.refl _, R1, by rw [List.append_nil]; exact qa0, xs, by rw [List.drop_zero]; exact hcg, rfl⟩
    (fun i H' _ ⟨am2, Hk2, mh2, acc, ds', g2, e2, R2, _⟩ => hG H' (e2.trans R2.known)) (fun i x H' H3 hlt hP hy => ?_) (fun H' hP => ?_)
  · obtain ⟨am2, Hk2, mh2, acc, ds', g2, e2, R2, qa, rest, hr, hx⟩ := hP
    have hdr : ds.drop i = ds[i] :: ds.drop (i + 1) := List.drop_eq_getElem_cons hlt
    rw [hdr] at hr
    unfold compGo at hr
    cases hte : t ds[i] (wipeE env vs) with
    | none => rw [hte] at hr; cases hr
    | some env1 =>
    rw [hte] at hr
    obtain ⟨b, mh3, hb, hr⟩ := bind_ok hr
    have hb := noEr_ok hb
    have item : ∃ Hk3, Le Hk2 Hk3 ∧ Rl c (upd F Dl (.lst acc)) am2 Hk3 H3 (wipe σ vs) (wipeE env vs) mh2 ∧ Dq c am2 Hk3 x ds[i] := by
      exact (hY i H' x H3 hlt (e2.trans R2.known) hy).item hlt R2 g2 e2
    obtain ⟨Hk3, e3, R3, q3⟩ := item
    refine ⟨_, am2, Hk3, _, mh2, ds[i], env1, R3, q3, hte, fun σ2 R4 l4 k4 => ?_⟩
    refine ⟨wipe_ext (by rw [l4, wipe_length]) fun j hj => ?_, ?_⟩
    · rw [k4 j fun z => hj (hjs j z), wipe_out hj]
    refine ⟨_, am2, Hk3, env1, mh2, R4, gp_of hb fun b' am5 Hk5 H5 g5 e5 R5 eb => ?_⟩
    rw [show b' = b from eb]
    have back : ∀ {am6 : List Addr} {Hk6 H6 : Hp} {mh6 : Mh}, Go am2 am6 → Le Hk3 Hk6 → Rl c (upd F Dl (.lst acc)) am6 Hk6 H6 σ2 env1 mh6 → Rl c (upd F Dl (.lst acc)) am6 Hk6 H6 (wipe σ vs) (wipeE env vs) mh6 := by
      intro am6 Hk6 H6 mh6 g6 e6 R6
      exact R3.unset (vs := vs) R6 g6 e6 (fun i hi => ⟨k4 i fun z => hi (hjs i z), hkp _ _ _ hte i fun z => hi (hjs i z)⟩) fun i s' hi he' => by rw [wipeE_in hi he']; rfl
    cases b with
    | true =>
      rw [if_pos rfl] at hr ⊢
      obtain ⟨y, mh4, hy4, hr⟩ := bind_ok hr
      have hy4 := noEr_ok hy4
      obtain ⟨ys, mh7, hy7, hr⟩ := bind_ok hr
      cases hr
      refine ⟨_, am5, Hk5, env1, mh3, R5, gp_of hy4 fun v am6 Hk6 H6 g6 e6 R6 q6 => ?_⟩
      obtain ⟨hD6, _, _⟩ := R6.frame Dl _ upd_same
      have hl := qa.length
      refine ⟨acc, hD6, by rw [sizeLine_eq]; have : LIM = 1000000 := rfl; rw [hx] at hlen; simp at hlen hl; omega, am6, Hk6, mh4, acc ++ [v], ds' ++ [y], g2.trans (g5.trans g6), e2.trans (e3.trans (e5.trans e6)), (back (g5.trans g6) (e5.trans e6) R6).restash, ?_, ys, hy7, by rw [hx]; simp⟩
      rw [← List.append_assoc]
      exact (qa.up (g5.trans g6) (e3.trans (e5.trans e6))).append (.one q6)
    | false =>
      rw [if_neg Bool.false_ne_true] at hr ⊢
      exact ⟨am5, Hk5, mh3, acc, ds', g2.trans g5, e2.trans (e3.trans e5), back g5 e5 R5, qa.up g5 (e3.trans e5), rest, hr, hx⟩
  · obtain ⟨am2, Hk2, mh2, acc, ds', g2, e2, R2, qa, rest, hr, hx⟩ := hP
    rw [List.drop_length] at hr
    cases hr
    rw [List.append_nil] at hx
    subst hx
    exact hN acc am2 Hk2 H' g2 e2 R2 qa
def compGo2 (vs1 : List Nat) (t : D → En → Option En) (tst : Bv) (src1 : Iv) (t1 : D → En → Option En) (tst1 : Bv) (elt : Ev) (env : En) : List D → Mh → Rs (List D)
  | [], mh => .ok [] mh
  | d :: r, mh => match t d env with
    | none => .no
    | some env1 => (noEr (tst env1 mh)).bind fun b mh1 => if b = true then (noEr (src1 env1 mh1)).bind fun es mh2 => (noEr (compGo t1 tst1 elt (wipeE env1 vs1) es mh2)).bind fun ys mh3 =>
        (compGo2 vs1 t tst src1 t1 tst1 elt env r mh3).bind fun zs mh4 => .ok (ys ++ zs) mh4 else compGo2 vs1 t tst src1 t1 tst1 elt env r mh1
def mCompC2 (vs vs1 : List Nat) (src : Iv) (t : D → En → Option En) (tst : Bv) (src1 : Iv) (t1 : D → En → Option En) (tst1 : Bv) (elt : Ev) : Cv := fun env mh => (src env mh).bind fun ds mh1 => if noOwn env vs = true then
  (noEr (compGo2 vs1 t tst src1 t1 tst1 elt (wipeE env vs) ds mh1)).bind fun xs mh2 => if xs.length ≤ LIM then .ok (.ol xs) mh2 else .no else .no
variable {W : WX}
theorem lc2_ok {own : List (Str × Nat)} {vs1 : List Nat} {wi wi1 : TI} {src src1 : Iv} {t t1 : D → En → Option En} {js js1 : List Nat} {tst tst1 : Bv} {me : Ev}
    (hkp : ∀ (d : D) (env env' : En), t d env = some env' → ∀ (i : Nat), i ∉ js → env'[i]? = env[i]?) (hkp1 : ∀ (d : D) (env env' : En), t1 d env = some env' → ∀ (i : Nat), i ∉ js1 → env'[i]? = env[i]?)
    (ki : ∀ F am Hk H σ env mh R, Rl c F am Hk H σ env mh → IPs c W F am Hk σ env (src env mh) R → wi σ H R) (ki1 : ∀ F am Hk H σ env mh R, Rl c F am Hk H σ env mh → IPs c W0 F am Hk σ env (src1 env mh) R → wi1 σ H R)
    (hjs : ∀ j ∈ js, j ∈ own.map (·.2)) (hjs1 : ∀ j ∈ js1, j ∈ vs1) (hv1 : ∀ j ∈ vs1, j ∈ own.map (·.2)) :
    ∀ F am Hk H σ env mh Q, Rl c F am Hk H σ env mh → CP c W F am Hk σ env (mCompC2 (own.map (·.2)) vs1 src t tst src1 t1 tst1 me env mh) Q →
      tLc2 wi (cG c t js) (cT c (fun _ _ _ _ => False) tst) wi1 (cG c t1 js1) (cT c (fun _ _ _ _ => False) tst1) (cE c W0 me) (own.map (·.2)) vs1 σ H Q := by
  intro F am Hk H σ env mh Q R h
  refine ki F am Hk H σ env mh _ R (CP.walk h fun ds mh1 J am1 Hk1 H1 G Y er g1 e1 R1 w hG hY h1 => ?_)
  by_cases hno : noOwn env (own.map (·.2)) = true
  case neg => rw [if_neg hno] at h1; exact h1.elim
  rw [if_pos hno] at h1
  cases hcg : compGo2 vs1 t tst src1 t1 tst1 me (wipeE env (own.map (·.2))) ds mh1 with
  | no => rw [hcg] at h1; exact h1.elim
  | er x m => rw [hcg] at h1; exact h1.elim
  | ok xs mhE =>
  rw [hcg] at h1
  simp only [noEr, Rs.bind] at h1
  by_cases hlim : xs.length ≤ LIM
  case neg => rw [if_neg hlim] at h1; exact h1.elim
  rw [if_pos hlim] at h1
  intro Dl hD
  have hFD : F Dl = none := R1.f_none hD
  refine (show ∃ W : Nat → Nat → Hp → Prop, _ from ?_)
  let Pv : Nat → Hp → Prop := fun i H' => ∃ am2 Hk2 mh2 acc ds', Go am1 am2 ∧ Le Hk1 Hk2 ∧ Rl c (upd F Dl (.lst acc)) am2 Hk2 H' (wipe σ (own.map (·.2))) (wipeE env (own.map (·.2))) mh2 ∧ DqAll c am2 Hk2 acc ds' ∧
      ∃ rest, compGo2 vs1 t tst src1 t1 tst1 me (wipeE env (own.map (·.2))) (ds.drop i) mh2 = .ok rest mhE ∧ xs = ds' ++ rest
  refine ⟨fun i m H' => m = ds.length - i ∧ i ≤ ds.length ∧ Pv i H', ⟨ds.length, by simp, Nat.zero_le _, am1, Hk1, mh1, [], [], Go.refl _, Le.refl _, (R1.wiped).stash hD, .nil, xs, by rw [List.drop_zero]; exact hcg, rfl⟩, ?_⟩
  rintro i m H' ⟨rfl, hi, hP⟩
  have hGH : G H' := by
    obtain ⟨am2, Hk2, mh2, acc, ds', g2, e2, R2, _⟩ := hP
    exact hG H' (e2.trans R2.known)
  by_cases hlt : i < ds.length
  · refine .inr ⟨w.goes i H' hlt hGH, Pv (i + 1), fun H2 p' => ⟨ds.length - (i + 1), by omega, rfl, hlt, p'⟩, fun x H3 hy => ?_⟩
    have hy := w.yields i H' x H3 hlt hGH hy
    obtain ⟨am2, Hk2, mh2, acc, ds', g2, e2, R2, qa, rest, hr, hx⟩ := hP
    have hdr : ds.drop i = ds[i] :: ds.drop (i + 1) := List.drop_eq_getElem_cons hlt
    rw [hdr] at hr
    unfold compGo2 at hr
    cases hte : t ds[i] (wipeE env (own.map (·.2))) with
    | none => rw [hte] at hr; cases hr
    | some env1 =>
    rw [hte] at hr
    obtain ⟨b, mh3, hb, hr⟩ := bind_ok hr
    have hb := noEr_ok hb
    have item : ∃ Hk3, Le Hk2 Hk3 ∧ Rl c (upd F Dl (.lst acc)) am2 Hk3 H3 (wipe σ (own.map (·.2))) (wipeE env (own.map (·.2))) mh2 ∧ Dq c am2 Hk3 x ds[i] := by
      exact (hY i H' x H3 hlt (e2.trans R2.known) hy).item hlt R2 g2 e2
    obtain ⟨Hk3, e3, R3, q3⟩ := item
    refine ⟨_, am2, Hk3, _, mh2, ds[i], env1, R3, q3, hte, fun σ2 R4 l4 k4 => ?_⟩
    refine ⟨wipe_ext (by rw [l4, wipe_length]) fun j hj => ?_, ?_⟩
    · rw [k4 j fun z => hj (hjs j z), wipe_out hj]
    refine ⟨_, am2, Hk3, env1, mh2, R4, gp_of hb fun b' am5 Hk5 H5 g5 e5 R5 eb => ?_⟩
    rw [show b' = b from eb]
    have back : ∀ {acc' : List V} {am6 : List Addr} {Hk6 H6 : Hp} {mh6 : Mh}, Go am2 am6 → Le Hk3 Hk6 → Rl c (upd F Dl (.lst acc')) am6 Hk6 H6 (wipe σ2 vs1) (wipeE env1 vs1) mh6 → Rl c (upd F Dl (.lst acc')) am6 Hk6 H6 (wipe σ (own.map (·.2))) (wipeE env (own.map (·.2))) mh6 := by
      intro acc' am6 Hk6 H6 mh6 g6 e6 R6
      refine R3.unset' (vs := own.map (·.2)) R6 g6 e6 (fun i hi => ?_) fun i s' hi he' => by rw [wipeE_in hi he']; rfl
      have hi1 : i ∉ vs1 := fun z => hi (hv1 i z)
      rw [wipe_out hi1, wipeE_out hi1]
      exact ⟨k4 i fun z => hi (hjs i z), hkp _ _ _ hte i fun z => hi (hjs i z)⟩
    cases b with
    | true =>
      rw [if_pos rfl] at hr ⊢
      obtain ⟨es, mh4, hs4, hr⟩ := bind_ok hr
      have hs4 := noEr_ok hs4
      obtain ⟨ys, mh5, hc5, hr⟩ := bind_ok hr
      have hc5 := noEr_ok hc5
      obtain ⟨zs, mh7, hz7, hr⟩ := bind_ok hr
      cases hr
      refine ki1 _ am5 Hk5 H5 σ2 env1 mh3 _ R5 ?_
      rw [hs4]
      intro J1 am6 Hk6 H6 G1 Y1 g6 e6 R6 w1 hG1 hY1
      refine lc_run (vs := vs1) (js := js1) hkp1 hjs1 w1 hG1 hY1 R6.wiped (qa.up (g5.trans g6) (e3.trans (e5.trans e6))) hc5 ?_ fun acc2 am7 Hk7 H7 g7 e7 R7 q7 => ?_
      · rw [hx] at hlim
        simp only [List.length_append] at hlim
        omega
      · exact ⟨am7, Hk7, mh5, acc2, ds' ++ ys, g2.trans (g5.trans (g6.trans g7)), e2.trans (e3.trans (e5.trans (e6.trans e7))), back (g5.trans (g6.trans g7)) (e5.trans (e6.trans e7)) R7, q7, zs, hz7, by rw [hx, List.append_assoc]⟩
    | false =>
      rw [if_neg Bool.false_ne_true] at hr ⊢
      refine ⟨am5, Hk5, mh3, acc, ds', g2.trans g5, e2.trans (e3.trans e5), ?_, qa.up g5 (e3.trans e5), rest, hr, hx⟩
      exact R3.unset (vs := own.map (·.2)) R5 g5 e5 (fun i hi => ⟨k4 i fun z => hi (hjs i z), hkp _ _ _ hte i fun z => hi (hjs i z)⟩) fun i s' hi he' => by rw [wipeE_in hi he']; rfl
  · have e : i = ds.length := by omega
    subst e
    refine .inl ⟨w.stops H' hGH, ?_⟩
    obtain ⟨am2, Hk2, mh2, acc, ds', g2, e2, R2, qa, rest, hr, hx⟩ := hP
    rw [List.drop_length] at hr
    cases hr
    have R3 : Rl c (upd F Dl (.lst acc)) am2 Hk2 H' σ env mhE := by
      have R5 := (R1.stash hD (o := HO.lst []))
      exact R5.unset' (vs := own.map (·.2)) R2 g2 e2 (fun i hi => ⟨wipe_out hi, wipeE_out hi⟩) fun i s' hi he' => noOwn_of hno hi he'
    refine h1 (.ref Dl) (upd F Dl (.lst acc)) am2 Hk2 H' g2 e2 R3 ⟨Dl, acc, rfl, hFD, rfl, ?_⟩
    rw [hx, List.append_nil]
    exact qa
end
section
variable {c : Cn} {X : Cx} {W : WX}
theorem SI.pi1 {tg iter : Expr} {src : Iv} (h : SI c W X tg iter src) : ∃ wi, PI X tg iter wi ∧ ∀ F am Hk H σ env mh R, Rl c F am Hk H σ env mh → IPs c W F am Hk σ env (src env mh) R → wi σ H R := h.ex
/-- an inner source as one reading for all blocks -/
def cI (c : Cn) (src : Iv) : TI := fun σ H R => ∃ F am Hk env mh, Rl c F am Hk H σ env mh ∧ IPs c W0 F am Hk σ env (src env mh) R
theorem SI.pi {tg iter : Expr} {src : Iv} (h : SI c W0 X tg iter src) : PI X tg iter (cI c src) := by
  obtain ⟨wi, p, k⟩ := h
  exact ⟨fun pins s σ H R I ⟨F, am, Hk, env, mh, Rl0, g⟩ => p.run pins s σ H R I (k F am Hk H σ env mh R Rl0 g)⟩
theorem sc_lc2 {elt tg iter tg1 iter1 : Expr} {ifs ifs1 : List Expr} {scope : Scope} {own : List (Str × Nat)} {vs1 : List Nat} {pos : Pos} {src src1 : Iv} {t t1 : D → En → Option En} {js js1 : List Nat} {tst tst1 : Bv} {me : Ev} (hc : X.calm = true) (hN : X.N.Nodup) (hi : SI c W X tg iter src) (ok : BlkOk X.N X.env.scope scope own)
    (hg : ∀ (s : Shared) (H : Hp) (C : Addr) (cl : List (Str × Addr)) (fp : List Addr), SG c (X.blk s H scope (compEnvC scope cl C X.env) fp) tg t js)
    (ht : ∀ (s : Shared) (H : Hp) (C : Addr) (cl : List (Str × Addr)) (fp : List Addr), SIf c (X.blk s H scope (compEnvC scope cl C X.env) fp) ifs tst)
    (hi1 : ∀ (s : Shared) (H : Hp) (C : Addr) (cl : List (Str × Addr)) (fp : List Addr), SI c W0 (X.blk s H scope (compEnvC scope cl C X.env) fp) tg1 iter1 src1)
    (hg1 : ∀ (s : Shared) (H : Hp) (C : Addr) (cl : List (Str × Addr)) (fp : List Addr), SG c (X.blk s H scope (compEnvC scope cl C X.env) fp) tg1 t1 js1)
    (ht1 : ∀ (s : Shared) (H : Hp) (C : Addr) (cl : List (Str × Addr)) (fp : List Addr), SIf c (X.blk s H scope (compEnvC scope cl C X.env) fp) ifs1 tst1)
    (he : ∀ (s : Shared) (H : Hp) (C : Addr) (cl : List (Str × Addr)) (fp : List Addr), SE c W0 (X.blk s H scope (compEnvC scope cl C X.env) fp) elt me)
    (hjs : ∀ j ∈ js, j ∈ own.map (·.2)) (hjs1 : ∀ j ∈ js1, j ∈ vs1) (hv1 : ∀ j ∈ vs1, j ∈ own.map (·.2)) (hs : ∀ x, foldedSetIterable iter X.env x = pure x := by intro _; rfl) (hs1 : ∀ env x, foldedSetIterable iter1 env x = pure x := by intro _ _; rfl) :
    SC c W X (.ListComp elt [⟨tg, iter, ifs, 0⟩, ⟨tg1, iter1, ifs1, 0⟩] scope pos) (mCompC2 (own.map (·.2)) vs1 src t tst src1 t1 tst1 me) := by
  obtain ⟨wi, pi, ki⟩ := hi
  refine ⟨_, pe_lc2 hc hN pi ok hv1 (fun s H C cl fp => (hg s H C cl fp).pg) (fun s H C cl fp => (ht s H C cl fp).pt) (fun s H C cl fp => (hi1 s H C cl fp).pi) (fun s H C cl fp => (hg1 s H C cl fp).pg) (fun s H C cl fp => (ht1 s H C cl fp).pt) (fun s H C cl fp => (he s H C cl fp).pe) hs hs1,
    lc2_ok (own := own) (hg X.s_0 X.H_0 0 [] []).keep (hg1 X.s_0 X.H_0 0 [] []).keep ki (fun F am Hk H σ env mh R R0 g => ⟨F, am, Hk, env, mh, R0, g⟩) hjs hjs1 hv1⟩
theorem ss_setLc2 {i : Nat} {y : Str} {py : Pos} {elt tg iter tg1 iter1 : Expr} {ifs ifs1 : List Expr} {scope : Scope} {own : List (Str × Nat)} {vs1 : List Nat} {pos spos : Pos} {src src1 : Iv} {t t1 : D → En → Option En} {js js1 : List Nat} {tst tst1 : Bv} {me : Ev} (hc : X.calm = true) (hN : X.N.Nodup) (hi : SI c W X tg iter src) (ok : BlkOk X.N X.env.scope scope own)
    (hg : ∀ (s : Shared) (H : Hp) (C : Addr) (cl : List (Str × Addr)) (fp : List Addr), SG c (X.blk s H scope (compEnvC scope cl C X.env) fp) tg t js)
    (ht : ∀ (s : Shared) (H : Hp) (C : Addr) (cl : List (Str × Addr)) (fp : List Addr), SIf c (X.blk s H scope (compEnvC scope cl C X.env) fp) ifs tst)
    (hi1 : ∀ (s : Shared) (H : Hp) (C : Addr) (cl : List (Str × Addr)) (fp : List Addr), SI c W0 (X.blk s H scope (compEnvC scope cl C X.env) fp) tg1 iter1 src1)
    (hg1 : ∀ (s : Shared) (H : Hp) (C : Addr) (cl : List (Str × Addr)) (fp : List Addr), SG c (X.blk s H scope (compEnvC scope cl C X.env) fp) tg1 t1 js1)
    (ht1 : ∀ (s : Shared) (H : Hp) (C : Addr) (cl : List (Str × Addr)) (fp : List Addr), SIf c (X.blk s H scope (compEnvC scope cl C X.env) fp) ifs1 tst1)
    (he : ∀ (s : Shared) (H : Hp) (C : Addr) (cl : List (Str × Addr)) (fp : List Addr), SE c W0 (X.blk s H scope (compEnvC scope cl C X.env) fp) elt me)
    (hjs : ∀ j ∈ js, j ∈ own.map (·.2)) (hjs1 : ∀ j ∈ js1, j ∈ vs1) (hv1 : ∀ j ∈ vs1, j ∈ own.map (·.2)) (hy : X.N[i]? = some y := by rfl) (hyl : X.env.scope.names.lookup y = some .local := by rfl)
    (hsw : swapsWith (.ListComp elt [⟨tg, iter, ifs, 0⟩, ⟨tg1, iter1, ifs1, 0⟩] scope pos) (some (.Name y py)) spos.line X.env = pure true := by rfl) (hs : ∀ x, foldedSetIterable iter X.env x = pure x := by intro _; rfl) (hs1 : ∀ env x, foldedSetIterable iter1 env x = pure x := by intro _ _; rfl) :
    SS c W X (.Assign [.Name y py] (.ListComp elt [⟨tg, iter, ifs, 0⟩, ⟨tg1, iter1, ifs1, 0⟩] scope pos) spos) (mSet i (mCompC2 (own.map (·.2)) vs1 src t tst src1 t1 tst1 me)) := by
  obtain ⟨wi, pi, ki⟩ := hi
  refine ⟨_, ps_setLc2 hc hN hy hyl hsw pi ok hv1 (fun s H C cl fp => (hg s H C cl fp).pg) (fun s H C cl fp => (ht s H C cl fp).pt) (fun s H C cl fp => (hi1 s H C cl fp).pi) (fun s H C cl fp => (hg1 s H C cl fp).pg) (fun s H C cl fp => (ht1 s H C cl fp).pt) (fun s H C cl fp => (he s H C cl fp).pe) hs hs1, set_ok ?_⟩
  exact lc2_ok (own := own) (hg X.s_0 X.H_0 0 [] []).keep (hg1 X.s_0 X.H_0 0 [] []).keep ki (fun F am Hk H σ env mh R R0 g => ⟨F, am, Hk, env, mh, R0, g⟩) hjs hjs1 hv1
end
end Mi

set_option Elab.async false
set_option linter.all false
set_option maxRecDepth 100000
set_option maxHeartbeats 1000000
namespace Mi
open PySem PySem.Spec PyProof.Rows L2
/-! max, min of a tuple of ints -/
theorem readsInts {h : Heap} : ∀ {ns : List Int} {us : List Value}, Vals (ns.map V.int) us → ReadsAll h us (ns.map PyData.int) []
  | [], _, .nil => .nil
  | n :: ns, _, .cons r t => by
    obtain ⟨k, rfl⟩ := r
    exact .cons (as := []) (bs := []) (.int n k) (readsInts t)
theorem depthInts : ∀ ns : List Int, PyData.depthAll (ns.map PyData.int) = 0
  | [] => by simp [PyData.depthAll]
  | n :: ns => by simp [PyData.depthAll, PyData.depth, depthInts ns]
theorem alikeInts (ns : List Int) : PySem.W.AlikeAll (ns.map PyData.int) := by
  constructor
  · intro x hx y hy
    obtain ⟨a, _, rfl⟩ := List.mem_map.mp hx
    obtain ⟨b, _, rfl⟩ := List.mem_map.mp hy
    simp [PySem.W.alike]
  · intro x hx e
    obtain ⟨a, _, rfl⟩ := List.mem_map.mp hx
    cases e
theorem fold_max : ∀ (r : List Int) (n : Int), r.foldl max n ∈ n :: r ∧ ∀ y ∈ n :: r, y ≤ r.foldl max n
  | [], n => by simp
  | z :: r, n => by
    obtain ⟨h1, h2⟩ := fold_max r (max n z)
    rw [List.foldl_cons]
    refine ⟨?_, fun y hy => ?_⟩
    · rcases List.mem_cons.mp h1 with e | h1
      · rw [e]
        by_cases hz : n ≤ z
        · rw [Int.max_eq_right hz]; simp
        · rw [Int.max_eq_left (by omega)]; simp
      · exact List.mem_cons_of_mem _ (List.mem_cons_of_mem _ h1)
    · have h3 := h2 (max n z) List.mem_cons_self
      rcases List.mem_cons.mp hy with rfl | hy
      · exact Int.le_trans (Int.le_max_left _ _) h3
      rcases List.mem_cons.mp hy with rfl | hy
      · exact Int.le_trans (Int.le_max_right _ _) h3
      · exact h2 y (List.mem_cons_of_mem _ hy)
theorem fold_min : ∀ (r : List Int) (n : Int), r.foldl min n ∈ n :: r ∧ ∀ y ∈ n :: r, r.foldl min n ≤ y
  | [], n => by simp
  | z :: r, n => by
    obtain ⟨h1, h2⟩ := fold_min r (min n z)
    rw [List.foldl_cons]
    refine ⟨?_, fun y hy => ?_⟩
    · rcases List.mem_cons.mp h1 with e | h1
      · rw [e]
        by_cases hz : n ≤ z
        · rw [Int.min_eq_left hz]; simp
        · rw [Int.min_eq_right (by omega)]; simp
      · exact List.mem_cons_of_mem _ (List.mem_cons_of_mem _ h1)
    · have h3 := h2 (min n z) List.mem_cons_self
      rcases List.mem_cons.mp hy with rfl | hy
      · exact Int.le_trans h3 (Int.min_le_left _ _)
      rcases List.mem_cons.mp hy with rfl | hy
      · exact Int.le_trans h3 (Int.min_le_right _ _)
      · exact h2 y (List.mem_cons_of_mem _ hy)
def rMaxT (K : PySem.W.Frag) : List V → Hp → VK → Prop := fun xs H Q => ∃ (p : Addr) (n : Int) (r : List Int), xs = [.ref p] ∧ SqT K H p ((n :: r).map V.int) ∧ Q (.int (maxI (n :: r))) H
def rMinT (K : PySem.W.Frag) : List V → Hp → VK → Prop := fun xs H Q => ∃ (p : Addr) (n : Int) (r : List Int), xs = [.ref p] ∧ SqT K H p ((n :: r).map V.int) ∧ Q (.int (minI (n :: r))) H
section
variable {X : Cx} {c : Cn}
theorem call_maxT (hc : X.calm = true) (hu : X.A.units + 64 < cLine) : CallR X (.builtin "max") (rMaxT X.K) := by
  intro pins s σ H vs us Q I r h
  obtain ⟨p, n, ns, rfl, hs, q⟩ := h
  obtain ⟨its, rv, ht, _⟩ := I.tuple hs
  rw [Vals.ref1 r]
  refine PySem.W.max_tuple_data (x := .int n) (xs := ns.map .int) (as := []) (I.ok.hd hc) ht (readsInts rv) (alikeInts (n :: ns)) (by rw [show (PyData.int n :: ns.map PyData.int) = (n :: ns).map PyData.int from rfl, depthInts]; omega) fun i v h' tk bs hv hr hk => ?_
  rw [PySem.W.maxD_ints] at hr
  have e : ns.foldl max n = maxI (n :: ns) := maxI_uniq (fold_max ns n).1 (fold_max ns n).2
  rw [e] at hr
  cases hr
  exact ⟨.int _, H, I.kept hk, ⟨_, rfl⟩, q⟩
theorem call_minT (hc : X.calm = true) (hu : X.A.units + 64 < cLine) : CallR X (.builtin "min") (rMinT X.K) := by
  intro pins s σ H vs us Q I r h
  obtain ⟨p, n, ns, rfl, hs, q⟩ := h
  obtain ⟨its, rv, ht, _⟩ := I.tuple hs
  rw [Vals.ref1 r]
  refine PySem.W.min_tuple_data (x := .int n) (xs := ns.map .int) (as := []) (I.ok.hd hc) ht (readsInts rv) (alikeInts (n :: ns)) (by rw [show (PyData.int n :: ns.map PyData.int) = (n :: ns).map PyData.int from rfl, depthInts]; omega) fun i v h' tk bs hv hr hk => ?_
  rw [PySem.W.minD_ints] at hr
  have e : ns.foldl min n = minI (n :: ns) := minI_uniq (fold_min ns n).1 (fold_min ns n).2
  rw [e] at hr
  cases hr
  exact ⟨.int _, H, I.kept hk, ⟨_, rfl⟩, q⟩
def dMaxA (ds : List D) : Option D := match ds with
  | [.tup es] => match intsOf es with
    | some (x :: r) => some (.int (maxI (x :: r)))
    | _ => none
  | ds => dMax ds
def dMinA (ds : List D) : Option D := match ds with
  | [.tup es] => match intsOf es with
    | some (x :: r) => some (.int (minI (x :: r)))
    | _ => none
  | ds => dMin ds
theorem call_maxB (hc : X.calm = true) (hu : X.A.units + 64 < cLine) : CallR X (.builtin "max") (fun xs H Q => rMaxA X.K xs H Q ∨ rMaxT X.K xs H Q) := (call_maxA hc).or (call_maxT hc hu)
theorem call_minB (hc : X.calm = true) (hu : X.A.units + 64 < cLine) : CallR X (.builtin "min") (fun xs H Q => rMinA X.K xs H Q ∨ rMinT X.K xs H Q) := (call_minA hc).or (call_minT hc hu)
theorem r_maxB : RAOk c (fun xs H Q => rMaxA c.K xs H Q ∨ rMaxT c.K xs H Q) dMaxA := by
  intro F am Hk H σ env mh vs ds d Q R q e h
  unfold dMaxA at e
  split at e
  · rename_i es
    cases q with | cons q1 qs =>
    cases qs
    cases q1 with | tup s1 qs =>
    cases hb : intsOf es with
    | none => rw [hb] at e; cases e
    | some bs =>
      rw [hb] at e
      cases bs with
      | nil => cases e
      | cons x r =>
        cases e
        exact .inr ⟨_, x, r, rfl, .of (by rw [← intsOf_q qs hb]; exact R.known _ _ s1), h _ Hk H (Le.refl _) R (.int _)⟩
  · exact .inl (r_max F am Hk H σ env mh vs _ d Q R q e h)
theorem r_minB : RAOk c (fun xs H Q => rMinA c.K xs H Q ∨ rMinT c.K xs H Q) dMinA := by
  intro F am Hk H σ env mh vs ds d Q R q e h
  unfold dMinA at e
  split at e
  · rename_i es
    cases q with | cons q1 qs =>
    cases qs
    cases q1 with | tup s1 qs =>
    cases hb : intsOf es with
    | none => rw [hb] at e; cases e
    | some bs =>
      rw [hb] at e
      cases bs with
      | nil => cases e
      | cons x r =>
        cases e
        exact .inr ⟨_, x, r, rfl, .of (by rw [← intsOf_q qs hb]; exact R.known _ _ s1), h _ Hk H (Le.refl _) R (.int _)⟩
  · exact .inl (r_min F am Hk H σ env mh vs _ d Q R q e h)
end
end Mi

set_option Elab.async false
set_option linter.all false
set_option maxRecDepth 100000
set_option maxHeartbeats 1000000
namespace Mi
open PySem PySem.Spec PyProof.Rows L2
/-! ### a written dict asked by its key -/
def fIxKd (kvs : List (Str × D)) : D → Option D
  | .str z => kvs.lookup z
  | _ => none
section
variable {c : Cn} {X : Cx} {W : WX}
theorem se_ixKd {x : Str} {kvs : List (Str × D)} {a : Expr} {ma : Ev} {p pos : Pos} (hK : X.K = c.K) (h : KdOk X.K X.w X.mg x kvs) (ha : SE c W X a ma) (hg : Gl X x := by rfl) (hd : (x == ("__debug__" : Str)) = false := by decide) (hs : PlainIx a := by exact fun _ _ => rfl) :
    SE c W X (.Subscript (.Name x p) a pos) (m1 (fIxKd kvs) ma) := by
  obtain ⟨ta, pa, ka⟩ := ha
  obtain ⟨d, es, n, hm, kd, hk⟩ := h.ex
  refine ⟨_, pe_ix ix_kdict (pe_glob (v := .ref d) hg hm rfl hd) pa hs, fun F am Hk H σ env mh Q R h => ?_⟩
  refine ka F am Hk H σ env mh _ R (GP.step h fun dx mh1 er v am1 Hk1 H1 g1 e1 R1 q1 h1 => ?_)
  cases dx with
  | str z =>
    cases q1
    obtain ⟨w, ew, hw⟩ := lift_ok h1
    obtain ⟨u, v, h2, rv, hq⟩ := (hk z).2 w ew
    exact ⟨d, z, v, rfl, rfl, ⟨es, n, u, kd.at_, kd.lit, h2, rv⟩, hw v am1 Hk1 H1 (Go.refl _) (Le.refl _) R1 (hq c am1 Hk1 hK.symm)⟩
  | _ => exact h1.elim
/-! ### {..}: written dicts, their keys ints and texts -/
structure SPr (c : Cn) (W : WX) (X : Cx) (pos : Pos) (keys : List (Option Expr)) (vals : List Expr) (ks : List Key) (m : Av) : Prop where
  ex : ∃ trs : List (TE × TE), PPs X pos keys vals trs ∧ ∀ F am Hk H σ env mh (Q : List (V × V) → Hp → Prop), Rl c F am Hk H σ env mh →
    GP c W F am Hk σ env (fun am H (ps : List (V × V)) ds => ∃ vs, ps = List.zipWith (fun k v => (kV k, v)) ks vs ∧ vs.length = ks.length ∧ DqAll c am H vs ds) (m env mh) Q → tPairs trs σ H Q
theorem spr_nil {pos : Pos} : SPr c W X pos [] [] [] mNil := ⟨[], pps_nil, fun F am Hk H σ env mh Q R h => h [] am Hk H (Go.refl _) (Le.refl _) R ⟨[], rfl, rfl, .nil⟩⟩
theorem spr_cons {pos : Pos} {k : Key} {ke v : Expr} {keys : List (Option Expr)} {vals : List Expr} {ks : List Key} {mk : Ev} {m : Ev} {ms : Av} (hkk : SE c W X ke mk) (hk : ∀ env mh, mk env mh = .ok (keyD k) mh) (hv : SE c W X v m) (hr : SPr c W X pos keys vals ks ms) :
    SPr c W X pos (some ke :: keys) (v :: vals) (k :: ks) (mCons m ms) := by
  obtain ⟨tk, pk, kk⟩ := hkk
  obtain ⟨tv, pv, kv⟩ := hv
  obtain ⟨trs, pr, kr⟩ := hr
  refine ⟨_, pps_cons pk pv pr, fun F am Hk H σ env mh Q R h => ?_⟩
  refine kk F am Hk H σ env mh _ R ?_
  rw [hk]
  intro kv' am0 Hk0 H0 g0 e0 R0 q0
  obtain ⟨ek, _, _⟩ := keyOf_q q0 (keyOf_keyD k)
  subst ek
  refine kv F am0 Hk0 H0 σ env mh _ R0 (GP.step (GP.later h g0 e0) fun d mh1 er x am1 Hk1 H1 g1 e1 R1 q1 h1 => ?_)
  refine kr F am1 Hk1 H1 σ env mh1 _ R1 (GP.step h1 fun ds mh2 er2 ps am2 Hk2 H2 g2 e2 R2 q2 h2 => ?_)
  obtain ⟨vs, rfl, hl, qs⟩ := q2
  exact h2 _ am2 Hk2 H2 (Go.refl _) (Le.refl _) R2 ⟨x :: vs, rfl, by rw [List.length_cons, List.length_cons, hl], .cons (q1.up g2 e2) qs⟩
theorem merge_nodup : ∀ (more kvs : List (Key × V)), (more.map (·.1)).Nodup → (∀ p ∈ more, ∀ q ∈ kvs, q.1 ≠ p.1) → mergeK kvs more = kvs ++ more
  | [], kvs, _, _ => by show kvs = _; rw [List.append_nil]
  | p :: r, kvs, nd, h => by
    rw [List.map_cons, List.nodup_cons] at nd
    have hn : valV kvs p.1 = none := by
      cases e : valV kvs p.1 with
      | none => rfl
      | some x =>
        have := valV_any p.1 kvs
        rw [e] at this
        obtain ⟨q, hq, he⟩ := List.any_eq_true.mp this
        exact absurd (of_decide_eq_true he) (h p List.mem_cons_self q hq)
    show mergeK (putK kvs p.1 p.2) r = _
    rw [putK_new _ hn, merge_nodup r _ nd.2 fun p' hp' q hq => ?_, List.append_assoc]
    · rfl
    · rcases List.mem_append.mp hq with hq | hq
      · exact h p' (List.mem_cons_of_mem _ hp') q hq
      · rw [List.mem_singleton.mp hq]
        exact fun e => nd.1 (by rw [e]; exact List.mem_map_of_mem hp')
def mDisp (ks : List Key) (ms : Av) : Cv := fun env mh => (ms env mh).bind fun ds mh1 => .ok (.od false (ks.map keyD) ds) mh1
theorem noTup_dK {kvs : List (Key × V)} : noTup (.dK kvs) := trivial
theorem Rl.unstash {F : Hp} {am : List Addr} {Hk H : Hp} {σ : L2.St} {env : En} {mh : Mh} {p : Addr} {o o' : HO} (R : Rl c (upd F p o) am Hk H σ env mh) (hnt : noTup o' := by exact trivial) : Rl c (upd F p o') am Hk (upd H p o') σ env mh := R.restash (hnt := hnt)
theorem zip_pairs : ∀ (ks : List Key) (vs : List V), vs.length = ks.length → List.zipWith (fun k v => (kV k, v)) ks vs = (ks.zip vs).map fun kv => (kV kv.1, kv.2)
  | [], _, _ => by simp
  | k :: ks, [], h => by cases h
  | k :: ks, v :: vs, h => by simp [zip_pairs ks vs (by simpa using h)]
theorem sc_disp {pos : Pos} {keys : List (Option Expr)} {vals : List Expr} {ks : List Key} {ms : Av} (h : SPr c W X pos keys vals ks ms) (hok : ∀ k ∈ ks, keyOk k) (hnd : ks.Nodup) (h15 : ks.length ≤ 15 := by decide) (hall : keys.all (·.isSome) = true := by rfl) (hl : keys.length = vals.length := by rfl) (h0 : keys ≠ [] := by exact (fun h => nomatch h)) (hk15 : keys.length ≤ 15 := by decide) :
    SC c W X (.Dict keys vals pos) (mDisp ks ms) := by
  obtain ⟨trs, p, k⟩ := h
  refine ⟨_, pe_disp p hall hl h0 hk15, fun F am Hk H σ env mh Q R h => fun D hD => ?_⟩
  have hF := R.f_none hD
  have R0 := R.stash (o := .dK []) hD
  unfold mDisp at h
  refine k (upd F D (.dK [])) am Hk _ σ env mh _ R0 ?_
  cases hm : ms env mh with
  | no => rw [hm] at h; exact h.elim
  | er x m =>
    rw [hm] at h
    intro cls dd am' Hk' H' g e R' q
    have hlow : Rl c F am' Hk' H' σ env m := by
      refine ⟨R'.known, fun a u ea => R'.frame a u (by rw [upd_ne (ne_of_none ea hF)]; exact ea), R'.len, fun i s es => ?_, R'.sep, R'.nd, R'.mlen, R'.mo, R'.tups⟩
      have h0 := R'.slot i s es
      have low : ∀ a, upd F D (.dK []) a = none → F a = none := fun a ea => by
        by_cases z : a = D
        · subst z; exact hF
        · rw [upd_ne z] at ea; exact ea
      cases s with
      | no => trivial
      | sh d => exact h0
      | ol ds => obtain ⟨a, xs, e1, e2, e3, e4, e5, q⟩ := h0; exact ⟨a, xs, e1, e2, low a e3, e4, e5, q⟩
      | od t ks ds => obtain ⟨a, e1, e2, e3, e4, q⟩ := h0; exact ⟨a, e1, e2, low a e3, e4, q⟩
    exact h cls dd am' Hk' H' g e hlow q
  | ok ds mh1 =>
    rw [hm] at h
    intro ps am1 Hk1 H1 g1 e1 R1 q1
    obtain ⟨vs, rfl, hlen, qs⟩ := q1
    refine ⟨(R1.frame D _ upd_same).1, ks.zip vs, zip_pairs ks vs hlen, by rw [List.length_zip]; omega, ?_⟩
    have e1' : (ks.zip vs).map (·.1) = ks := by rw [List.map_fst_zip]; omega
    have e2' : (ks.zip vs).map (·.2) = vs := by rw [List.map_snd_zip]; omega
    rw [merge_nodup _ _ (by rw [e1']; exact hnd) (fun _ _ q hq => by cases hq), List.nil_append]
    refine h _ _ am1 Hk1 _ g1 e1 R1.restash ⟨D, rfl, hF, .inl ⟨rfl, ks.zip vs, rfl, fun q hq => hok _ (by rw [← e1']; exact List.mem_map_of_mem hq), ?_, by rw [e2']; exact qs⟩⟩
    show ks.map keyD = _
    conv => lhs; rw [← e1', List.map_map]
    rfl
end
end Mi

set_option Elab.async false
set_option linter.all false
set_option maxRecDepth 100000
set_option maxHeartbeats 1000000
namespace Mi
open PySem PySem.Spec PyProof.Rows L2
/-! ### dicts as they stand: shared, or a name's own -/
def DctAt (c : Cn) (am : List Addr) (Hk H : Hp) (a : Addr) (t : Bool) (ks vs : List D) : Prop :=
  (t = false ∧ ∃ kvs : List (Key × V), Rd H a (.dK kvs) ∧ (∀ p ∈ kvs, keyOk p.1) ∧ ks = kvs.map (fun p => keyD p.1) ∧ DqAll c am Hk (kvs.map (·.2)) vs) ∨
  (t = true ∧ ∃ kvs : List (List Key × V), Rd H a (.dT kvs) ∧ (∀ p ∈ kvs, ∀ k ∈ p.1, keyOk k) ∧ ks = kvs.map (fun p => .tup (p.1.map keyD)) ∧ DqAll c am Hk (kvs.map (·.2)) vs)
def dFind (t : Bool) (ks vs : List D) (y : D) : Option (Option D) := match t with
  | false => (keyOf y).map fun k => dLook keyOf k ks vs
  | true => (keyT y).map fun k => dLook keyT k ks vs
theorem keyT_tup (k : List Key) : keyT (.tup (k.map keyD)) = some k := keysOf_map k
section
variable {c : Cn} {X : Cx} {W : WX} {F : Hp} {am : List Addr} {Hk H : Hp} {σ : L2.St} {env : En} {mh : Mh}
theorem DctAt.get {a : Addr} {t : Bool} {ks vs : List D} {y : V} {dy : D} {o : Option D} (h : DctAt c am Hk H a t ks vs) (q : Dq c am Hk y dy) (le : Le Hk H) (e : dFind t ks vs dy = some o) :
    ∃ ov : Option V, DGet H a y ov ∧ (∀ d, o = some d → ∃ v, ov = some v ∧ Dq c am Hk v d) ∧ (o = none → ov = none) := by
  rcases h with ⟨rfl, kvs, hr, ok, rfl, qs⟩ | ⟨rfl, kvs, hr, ok, rfl, qs⟩
  · simp only [dFind] at e
    cases hk : keyOf dy with
    | none => rw [hk] at e; cases e
    | some k =>
      rw [hk] at e
      cases e
      obtain ⟨rfl, _, _⟩ := keyOf_q q hk
      obtain ⟨h1, h2⟩ := look_ok (f := keyOf) (g := keyD) (k := k) keyOf_keyD qs
      exact ⟨valV kvs k, .inl ⟨kvs, k, hr, rfl, rfl⟩, h1, h2⟩
  · simp only [dFind] at e
    cases hk : keyT dy with
    | none => rw [hk] at e; cases e
    | some k =>
      rw [hk] at e
      cases e
      cases dy <;> first | (cases hk; done) | skip
      cases q with | tup s1 qk =>
      obtain ⟨rfl, _, _⟩ := keysOf_q qk hk
      obtain ⟨h1, h2⟩ := look_ok (f := keyT) (g := fun k => .tup (k.map keyD)) (k := k) keyT_tup qs
      exact ⟨valV kvs k, .inr ⟨kvs, k, _, hr, rfl, le _ _ s1, rfl⟩, h1, h2⟩
theorem Dq.dct {a : V} {t : Bool} {ks vs : List D} (q : Dq c am Hk a (.dct t ks vs)) (le : Le Hk H) : ∃ p, a = .ref p ∧ DctAt c am Hk H p t ks vs := by
  cases q with
  | dk s k r => exact ⟨_, rfl, .inl ⟨rfl, _, .inr ⟨_, le _ _ s⟩, k, rfl, r⟩⟩
  | dt s k r => exact ⟨_, rfl, .inr ⟨rfl, _, .inr ⟨_, le _ _ s⟩, k, rfl, r⟩⟩
/-- the dict in slot i -/
def dctV (env : En) (i : Nat) : Option (Bool × List D × List D) := match env[i]? with
  | some (.sh (.dct t ks vs)) => some (t, ks, vs)
  | some (.od t ks vs) => some (t, ks, vs)
  | _ => none
theorem Rl.dctV {i : Nat} {t : Bool} {ks vs : List D} (R : Rl c F am Hk H σ env mh) (h : dctV env i = some (t, ks, vs)) : ∃ a, σ[i]? = some (some (.ref a)) ∧ DctAt c am Hk H a t ks vs := by
  have at_ : ∀ {a : Addr}, σ[i]?.join = some (.ref a) → σ[i]? = some (some (.ref a)) := fun {a} e => by
    cases w : σ[i]? with
    | none => rw [w] at e; cases e
    | some ww => rw [w] at e; rw [show ww = some (.ref a) from e]
  unfold Mi.dctV at h
  cases he : env[i]? with
  | none => rw [he] at h; cases h
  | some s =>
    rw [he] at h
    have hs := R.slot i s he
    cases s with
    | sh d =>
      cases d <;> first | (cases h; done) | skip
      cases h
      obtain ⟨x, e1, q⟩ := hs
      obtain ⟨p, rfl, hd⟩ := q.dct R.known
      exact ⟨p, at_ e1, hd⟩
    | od t' ks' vs' =>
      cases h
      obtain ⟨a, e1, _, _, _, q⟩ := hs
      refine ⟨a, at_ e1, ?_⟩
      rcases q with ⟨e2, kvs, e3, e4, e5, q⟩ | ⟨e2, kvs, e3, e4, e5, q⟩
      · exact .inl ⟨e2, kvs, .inl e3, e4, e5, q⟩
      · exact .inr ⟨e2, kvs, .inl e3, e4, e5, q⟩
    | _ => cases h
/-! d[k] -/
theorem ix_dct (hu : X.A.units + 1 < cLine) : IxR X (fun x y H Q => ∃ a v, x = .ref a ∧ DGet H a y (some v) ∧ Q v H) := by
  intro value slice pins s σ H x y v u Q I rx ry h hs
  obtain ⟨a, r, rfl, g, q⟩ := h
  obtain rfl : v = Value.ref a := rx
  exact tail_any (dict_typeIs I g) slot_dict_getitem.lookup (d_getItem hu I g ry fun w' s3 I3 rw' => ⟨r, H, I3, rw', q⟩) hs
def dIxD : D → D → Option D
  | .dct t ks vs, y => (dFind t ks vs y).bind id
  | _, _ => none
def mIxV (i : Nat) (mb : Ev) : Ev := fun env mh => match dctV env i with
  | some (t, ks, vs) => (mb env mh).bind fun y mh1 => lift ((dFind t ks vs y).bind id) mh1
  | none => .no
theorem bind_id {α : Type} {o : Option (Option α)} {a : α} (h : o.bind id = some a) : o = some (some a) := by
  cases o with
  | none => cases h
  | some o => rw [show o = some a from h]
theorem se_ixD {a b : Expr} {ma mb : Ev} {pos : Pos} (hu : X.A.units + 64 < cLine) (ha : SE c W X a ma) (hb : SE c W X b mb) (hs : PlainIx b := by exact fun _ _ => rfl) : SE c W X (.Subscript a b pos) (m2 dIxD ma mb) := by
  obtain ⟨ta, pa, ka⟩ := ha
  obtain ⟨tb, pb, kb⟩ := hb
  refine ⟨_, pe_ix (ix_dct (by omega)) pa pb hs, op2_ok (a := a) (b := b) ?_ ka kb⟩
  intro F am Hk H σ env mh x y dx dy d Q R qx qy e h
  cases dx <;> first | (cases e; done) | skip
  obtain ⟨p, rfl, hd⟩ := qx.dct R.known
  obtain ⟨ov, g, h1, _⟩ := hd.get qy R.known (bind_id e)
  obtain ⟨v, rfl, qv⟩ := h1 _ rfl
  exact ⟨p, v, rfl, g, h v Hk H (Le.refl _) R qv⟩
theorem se_ixV {i : Nat} {x : Str} {p : Pos} {b : Expr} {mb : Ev} {pos : Pos} (hu : X.A.units + 64 < cLine) (hb : SE c W X b mb) (hN : X.N[i]? = some x := by rfl) (hv : Vis X.env.scope x := by first | exact Or.inl rfl | exact Or.inr (Or.inl rfl) | exact Or.inr (Or.inr rfl))
    (hd : (x == ("__debug__" : Str)) = false := by decide) (hcd : (x == ("__classdict__" : Str)) = false := by decide) (hs : PlainIx b := by exact fun _ _ => rfl) : SE c W X (.Subscript (.Name x p) b pos) (mIxV i mb) := by
  obtain ⟨tb, pb, kb⟩ := hb
  refine ⟨_, pe_ix (ix_dct (by omega)) (pe_var hN hv hd hcd) pb hs, fun F am Hk H σ env mh Q R h => ?_⟩
  unfold mIxV at h
  cases hd : dctV env i with
  | none => rw [hd] at h; exact h.elim
  | some z =>
    obtain ⟨t, ks, vs⟩ := z
    rw [hd] at h
    obtain ⟨a, e1, _⟩ := R.dctV hd
    refine ⟨_, e1, kb F am Hk H σ env mh _ R (GP.step h fun dy mh1 er y am1 Hk1 H1 g1 le1 R1 q1 h1 => ?_)⟩
    obtain ⟨z, ez, hz⟩ := lift_ok h1
    obtain ⟨a', e1', ha'⟩ := R1.dctV hd
    rw [e1] at e1'
    cases e1'
    obtain ⟨ov, g, h1', _⟩ := ha'.get q1 R1.known (bind_id ez)
    obtain ⟨v, rfl, qv⟩ := h1' _ rfl
    exact ⟨a, v, rfl, g, hz v am1 Hk1 H1 (Go.refl _) (Le.refl _) R1 qv⟩
/-! k in d, k not in d -/
def inV (neg : Bool) (o : Option D) : D := .bl (if neg then o.isNone else o.isSome)
def dInD (neg : Bool) (y x : D) : Option D := match x with
  | .dct t ks vs => (dFind t ks vs y).map (inV neg)
  | _ => none
def mInV (neg : Bool) (i : Nat) (ma : Ev) : Ev := fun env mh => (ma env mh).bind fun y mh1 => match dctV env i with
  | some (t, ks, vs) => lift ((dFind t ks vs y).map (inV neg)) mh1
  | none => .no
theorem op_inD (neg : Bool) (hu : X.A.units + 1 < cLine) : OpR X (compareOp (if neg then .NotIn else .In)) (fun y x H Q => ∃ a ov, x = .ref a ∧ DGet H a y ov ∧ Q (.bl (if neg then ov.isNone else ov.isSome)) H) := by
  intro pins s σ H y x v u Q I ry rx h
  obtain ⟨a, ov, rfl, g, q⟩ := h
  obtain rfl : u = Value.ref a := rx
  cases neg with
  | true => exact d_notIn hu I g ry fun s3 I3 => ⟨.bl (!ov.isSome), H, I3, rfl, by cases ov <;> exact q⟩
  | false => exact d_in hu I g ry fun s3 I3 => ⟨.bl ov.isSome, H, I3, rfl, q⟩
theorem inV_eq {neg : Bool} {o : Option D} {ov : Option V} (h1 : ∀ d, o = some d → ∃ v, ov = some v ∧ Dq c am Hk v d) (h2 : o = none → ov = none) : inV neg o = .bl (if neg then ov.isNone else ov.isSome) := by
  cases o with
  | none => rw [h2 rfl]; rfl
  | some d => obtain ⟨v, e, _⟩ := h1 d rfl; rw [e]; rfl
theorem inD_ok {a b : Expr} {ma mb : Ev} (neg : Bool) {ta tb : TE}
    (ka : ∀ F am Hk H σ env mh Q, Rl c F am Hk H σ env mh → GP c W F am Hk σ env (relD c) (ma env mh) Q → ta σ H Q)
    (kb : ∀ F am Hk H σ env mh Q, Rl c F am Hk H σ env mh → GP c W F am Hk σ env (relD c) (mb env mh) Q → tb σ H Q) :
    ∀ F am Hk H σ env mh Q, Rl c F am Hk H σ env mh → GP c W F am Hk σ env (relD c) (m2 (dInD neg) ma mb env mh) Q → tOp (fun y x H Q => ∃ a ov, x = .ref a ∧ DGet H a y ov ∧ Q (.bl (if neg then ov.isNone else ov.isSome)) H) ta tb σ H Q := by
  refine op2_ok (a := a) (b := b) ?_ ka kb
  intro F am Hk H σ env mh y x dy dx d Q R qy qx e h
  cases dx <;> first | (cases e; done) | skip
  rename_i t ks vs
  simp only [dInD] at e
  cases hf : dFind t ks vs dy with
  | none => rw [hf] at e; cases e
  | some o =>
    rw [hf] at e
    cases e
    obtain ⟨p, rfl, hd⟩ := qx.dct R.known
    obtain ⟨ov, g, h1, h2⟩ := hd.get qy R.known hf
    exact ⟨p, ov, rfl, g, h _ Hk H (Le.refl _) R (by rw [inV_eq h1 h2]; exact .bl _)⟩
theorem inVar_ok {i : Nat} {ma : Ev} (neg : Bool) {ta : TE}
    (ka : ∀ F am Hk H σ env mh Q, Rl c F am Hk H σ env mh → GP c W F am Hk σ env (relD c) (ma env mh) Q → ta σ H Q) :
    ∀ F am Hk H σ env mh Q, Rl c F am Hk H σ env mh → GP c W F am Hk σ env (relD c) (mInV neg i ma env mh) Q → tOp (fun y x H Q => ∃ a ov, x = .ref a ∧ DGet H a y ov ∧ Q (.bl (if neg then ov.isNone else ov.isSome)) H) ta (tVar i) σ H Q := by
  intro F am Hk H σ env mh Q R h
  refine ka F am Hk H σ env mh _ R (GP.step h fun dy mh1 er y am1 Hk1 H1 g1 le1 R1 q1 h1 => ?_)
  cases hd : dctV env i with
  | none => rw [hd] at h1; exact h1.elim
  | some z =>
    obtain ⟨t, ks, vs⟩ := z
    rw [hd] at h1
    simp only at h1
    obtain ⟨a, e1, ha⟩ := R1.dctV hd
    obtain ⟨z, ez, hz⟩ := lift_ok h1
    cases hf : dFind t ks vs dy with
    | none => rw [hf] at ez; cases ez
    | some o =>
      rw [hf] at ez
      cases ez
      obtain ⟨ov, g, h1', h2⟩ := ha.get q1 R1.known hf
      exact ⟨_, e1, a, ov, rfl, g, hz _ am1 Hk1 H1 (Go.refl _) (Le.refl _) R1 (by rw [inV_eq h1' h2]; exact .bl _)⟩
theorem se_inD {a b : Expr} {ma mb : Ev} {pos : Pos} (neg : Bool) (hu : X.A.units + 64 < cLine) (ha : SE c W X a ma) (hb : SE c W X b mb) (hm : behindInMarks (if neg then CmpOp.NotIn else .In) b = false := by rfl) : SE c W X (.Compare a [if neg then .NotIn else .In] [b] pos) (m2 (dInD neg) ma mb) := by
  obtain ⟨ta, pa, ka⟩ := ha
  obtain ⟨tb, pb, kb⟩ := hb
  exact ⟨_, pe_cmpR (op_inD neg (by omega)) pa pb hm, inD_ok (a := a) (b := b) neg ka kb⟩
theorem st_inD {a b : Expr} {ma mb : Ev} {pos : Pos} (neg : Bool) (hu : X.A.units + 64 < cLine) (ha : SE c W X a ma) (hb : SE c W X b mb) (hm : behindInMarks (if neg then CmpOp.NotIn else .In) b = false := by rfl) : ST c W X (.Compare a [if neg then .NotIn else .In] [b] pos) (mT (m2 (dInD neg) ma mb)) := by
  obtain ⟨ta, pa, ka⟩ := ha
  obtain ⟨tb, pb, kb⟩ := hb
  exact ⟨_, pt_cmpR (op_inD neg (by omega)) pa pb hm, st_of (inD_ok (a := a) (b := b) neg ka kb) fun _ _ _ h => h⟩
theorem se_inV {a : Expr} {i : Nat} {x : Str} {ma : Ev} {p pos : Pos} (neg : Bool) (hu : X.A.units + 64 < cLine) (ha : SE c W X a ma) (hN : X.N[i]? = some x := by rfl) (hv : Vis X.env.scope x := by first | exact Or.inl rfl | exact Or.inr (Or.inl rfl) | exact Or.inr (Or.inr rfl))
    (hd : (x == ("__debug__" : Str)) = false := by decide) (hcd : (x == ("__classdict__" : Str)) = false := by decide) (hm : behindInMarks (if neg then CmpOp.NotIn else .In) (.Name x p) = false := by rfl) : SE c W X (.Compare a [if neg then .NotIn else .In] [.Name x p] pos) (mInV neg i ma) := by
  obtain ⟨ta, pa, ka⟩ := ha
  exact ⟨_, pe_cmpR (op_inD neg (by omega)) pa (pe_var hN hv hd hcd) hm, inVar_ok neg ka⟩
theorem st_inV {a : Expr} {i : Nat} {x : Str} {ma : Ev} {p pos : Pos} (neg : Bool) (hu : X.A.units + 64 < cLine) (ha : SE c W X a ma) (hN : X.N[i]? = some x := by rfl) (hv : Vis X.env.scope x := by first | exact Or.inl rfl | exact Or.inr (Or.inl rfl) | exact Or.inr (Or.inr rfl))
    (hd : (x == ("__debug__" : Str)) = false := by decide) (hcd : (x == ("__classdict__" : Str)) = false := by decide) (hm : behindInMarks (if neg then CmpOp.NotIn else .In) (.Name x p) = false := by rfl) : ST c W X (.Compare a [if neg then .NotIn else .In] [.Name x p] pos) (mT (mInV neg i ma)) := by
  obtain ⟨ta, pa, ka⟩ := ha
  exact ⟨_, pt_cmpR (op_inD neg (by omega)) pa (pe_var hN hv hd hcd) hm, st_of (inVar_ok neg ka) fun _ _ _ h => h⟩
end
end Mi
namespace Mi
open PySem PySem.Spec PyProof.Rows L2
section
variable {c : Cn} {X : Cx} {W : WX}
def keyOkB : Key → Bool
  | .inl _ => true
  | .inr x => PySem.PyData.strOk x
theorem keyOk_of {k : Key} (h : keyOkB k = true) : keyOk k := by
  cases k with
  | inl i => trivial
  | inr x => exact h
theorem sc_dispB {pos : Pos} {keys : List (Option Expr)} {vals : List Expr} {ks : List Key} {ms : Av} (h : SPr c W X pos keys vals ks ms) (hok : (ks.all keyOkB && decide ks.Nodup && decide (ks.length ≤ 15)) = true := by decide +kernel) (hall : keys.all (·.isSome) = true := by rfl) (hl : keys.length = vals.length := by rfl) (h0 : keys ≠ [] := by exact (fun h => nomatch h)) (hk15 : keys.length ≤ 15 := by decide) :
    SC c W X (.Dict keys vals pos) (mDisp ks ms) := by
  obtain ⟨h12, h3⟩ := bools hok
  obtain ⟨h1, h2⟩ := bools h12
  exact sc_disp h (fun k hk => keyOk_of (List.all_eq_true.mp h1 k hk)) (of_decide_eq_true h2) (of_decide_eq_true h3) hall hl h0 hk15
end
end Mi

set_option Elab.async false
set_option linter.all false
set_option maxRecDepth 100000
set_option maxHeartbeats 1000000
namespace Mi
open PySem PySem.Calls PySem.Spec PyProof.Rows PyProof.V L2
open PySem.W (AllAlike Sortable EachIs dataLe sortingHeap sortingHeap_old list_sort_vals sortVals_data sortVals_length each_map bound_map dataKind)
/-! ### sorted, over whatever can be walked -/
section
variable {prog : Program} {w : World} {A : Around} {E : Value → Shared → Prop} {s : Shared} {β : Type} {bs : List β} {enc : β → PyData} {R : Value → β → Prop}
theorem sorted_gen {v : Value} {Q : Value → Shared → Prop}
    (hcol : ∀ (E' : Value → Shared → Prop) (Q' : List Value → Shared → Prop), (∀ (h' : Heap) (tk : Nat) (us : List Value), (∀ b o, s.heap.get? b = some o → h'.get? b = some o) → EachIs R us bs → Q' us { s with heap := h', toks := tk }) → wpAny (model prog w) A.in1 (collect v) Q' E' s)
    (hR : ∀ u b, R u b → ∃ as, Reads s.heap u (enc b) as) (hal : AllAlike (bs.map enc)) (hk : Sortable (bs.map enc)) (hL : bs.length ≤ sizeLine) (hu : ∀ b, b ∈ bs → A.units + 2 + (enc b).depth < cLine)
    (h : ∀ (h' : Heap) (tk : Nat) (h'' : Heap) (out : List Value), (∀ b o, s.heap.get? b = some o → h'.get? b = some o) → (∀ b o, h'.get? b = some o → h''.get? b = some o) → (∃ e, h''.get? h'.objs.size = some (seqObj "list" (List.toArray out) e)) → EachIs R out (bs.mergeSort (dataLe false enc)) → Q (.ref h'.objs.size) { s with heap := h'', toks := tk }) :
    wpAny (model prog w) A (call (.builtin "sorted") [v]) Q E s := by
  refine call_function_entry kind_sorted plain_sorted entry_sorted (args_sorted1 _) ?_
  unfold Builtin.«sorted»
  refine wpAny_bind (m := checkCount "sorted" 1 1 _) (wpAny_pure ?_)
  refine wpAny_bind (hcol _ _ fun h' tk us keep er => ?_)
  refine wpAny_bind (wpAny_newList ?_ (by rw [er.length]; exact hL))
  have ho : (h'.push { cls := .type "list", data := .seq us.toArray }).get? h'.objs.size = some (seqObj "list" us.toArray 0) := Heap.get?_push_size _ rfl
  have old : ∀ b o, h'.get? b = some o → b ≠ h'.objs.size := fun b o e => Nat.ne_of_lt (Heap.lt_size e)
  have er' : EachIs (fun v b => ∃ as, Reads (sortingHeap (h'.push { cls := .type "list", data := .seq us.toArray }) h'.objs.size us) v (enc b) as) us bs := er.mono fun u b r => by
    obtain ⟨as, hr⟩ := hR u b r
    exact ⟨as, PyProof.Rows.Reads.keeps (fun c o e => sortingHeap_old (old c o (keep c o e)) (Heap.get?_push_of_some _ (keep c o e))) hr⟩
  refine wpAny_bind (wpAny_holding (wpAny_mono (Q := fun _ s' => Q (.ref h'.objs.size) s') ?_ (fun _ s' x => wpAny_pure ⟨_, rfl, x⟩) fun _ _ e => e))
  refine wpAny_call_entry slot_list_sort ⟨_, ho, rfl⟩ entry_list_sort (list_sort_vals (κ := dataKind (sortingHeap (h'.push { cls := .type "list", data := .seq us.toArray }) h'.objs.size us) (bs.map enc)) ho
    (PySem.W.SortsAt.data (s := { s with heap := sortingHeap (h'.push { cls := .type "list", data := .seq us.toArray }) h'.objs.size us, toks := tk }) (each_map (R := fun v d => ∃ as, Reads (sortingHeap (h'.push { cls := .type "list", data := .seq us.toArray }) h'.objs.size us) v d as) enc er') hal hk (bound_map hu)) (by rw [er.length]; exact hL) ⟨.none, rfl, ?_⟩) (args_list_sort _)
  refine h h' tk _ _ keep (fun b o e => ?_) (sortedHeap_at ho) (sortVals_data false er er' hal)
  have e1 := Heap.get?_push_of_some { cls := .type "list", data := .seq us.toArray } e
  rw [sortedHeap_old (old b o e) (Heap.lt_size e1)]
  exact e1
end

/-- what stands for the items ds when x is walked -/
def CollR (X : Cx) (H : Hp) (x : V) (T : V → D → Prop) (ds : List D) : Prop := ∀ (pins : List (Addr × Obj)) (σ : L2.St) (s : Shared) (u : Value) (A : Around) (E : Value → Shared → Prop) (Q' : List Value → Shared → Prop), Inv X pins σ H s → RelV x u → A.handled = none →
  (∀ (h' : Heap) (tk : Nat) (us : List Value), (∀ b o, s.heap.get? b = some o → h'.get? b = some o) → EachIs (fun u d => ∃ y, RelV y u ∧ T y d) us ds → Q' us { s with heap := h', toks := tk }) → wpAny (model X.prog X.w) A (collect u) Q' E s
theorem each_vals {T : V → D → Prop} : ∀ {xs : List V} {us : List Value} {ds : List D}, Vals xs us → EachIs T xs ds → EachIs (fun u d => ∃ y, RelV y u ∧ T y d) us ds
  | _, _, _, .nil, .nil => .nil
  | _, _, _, .cons r rs, .cons t ts => .cons ⟨_, r, t⟩ (each_vals rs ts)
theorem each_back {T : V → D → Prop} : ∀ {us : List Value} {ds : List D}, EachIs (fun u d => ∃ y, RelV y u ∧ T y d) us ds → ∃ xs, Vals xs us ∧ EachIs T xs ds
  | _, _, .nil => ⟨[], .nil, .nil⟩
  | _, _, .cons ⟨y, r, t⟩ h => by
    obtain ⟨xs, a, b⟩ := each_back h
    exact ⟨y :: xs, .cons r a, .cons t b⟩
section
variable {X : Cx} {H : Hp} {T : V → D → Prop} {ds : List D}
theorem coll_list {a : Addr} {xs : List V} (hq : SqL X.K H a xs) (t : EachIs T xs ds) : CollR X H (.ref a) T ds := by
  intro pins σ s u A E Q' I rx hh h
  cases rx
  obtain ⟨its, r, pl, hz⟩ := I.list hq
  obtain ⟨o, ho, hc, n, hd⟩ := pl.isList
  have hl := r.length
  exact wpAny_collect_seq a (.inl rfl) ho hc hd (fun h' kp => h h' s.toks _ kp (by simpa using each_vals r t)) (by rw [List.size_toArray]; omega)
theorem coll_tup {a : Addr} {xs : List V} (hq : SqT X.K H a xs) (t : EachIs T xs ds) : CollR X H (.ref a) T ds := by
  intro pins σ s u A E Q' I rx hh h
  cases rx
  obtain ⟨its, r, pl, hz⟩ := I.tuple hq
  obtain ⟨o, ho, hc, n, hd⟩ := pl
  have hl := r.length
  exact wpAny_collect_seq a (.inr rfl) ho hc hd (fun h' kp => h h' s.toks _ kp (by simpa using each_vals r t)) (by rw [List.size_toArray]; omega)
theorem coll_str {z : Str} (hz : z.length ≤ sizeLine) (t : EachIs T (z.cps.toList.map fun ch => V.str (chr1 ch)) ds) : CollR X H (.str z) T ds := by
  intro pins σ s u A E Q' I rx hh h
  obtain ⟨tk, rfl⟩ := rx
  refine wpAny_collect_str hh z tk (fun s' acc kp e1 e2 e3 hacc => ?_) hz
  have hv : Vals (z.cps.toList.map fun ch => V.str (chr1 ch)) acc.toList := by
    have hl : acc.toList.length = z.cps.toList.length := by rw [Array.length_toList, Array.length_toList]; exact hacc.1
    have hg : ∀ (j : Nat) (v : Value), acc.toList[j]? = some v → ∃ c u, z.cps.toList[j]? = some c ∧ v = .str (chr1 c) u := fun j v e => by
      obtain ⟨c, u, h1, h2⟩ := hacc.2 j v (by rw [← Array.getElem?_toList]; exact e)
      exact ⟨c, u, by rw [Array.getElem?_toList]; exact h1, h2⟩
    have gen : ∀ (us : List Value) (cs : List Nat), us.length = cs.length → (∀ (j : Nat) (v : Value), us[j]? = some v → ∃ c u, cs[j]? = some c ∧ v = .str (chr1 c) u) → Vals (cs.map fun ch => V.str (chr1 ch)) us := by
      intro us
      induction us with
      | nil => intro cs hl _; cases cs with | nil => exact .nil | cons _ _ => cases hl
      | cons u us ih =>
        intro cs hl hg
        cases cs with
        | nil => cases hl
        | cons c cs =>
          obtain ⟨c', tk, h1, h2⟩ := hg 0 u rfl
          cases h1
          exact .cons ⟨tk, h2⟩ (ih cs (by simpa using hl) fun j v e => hg (j + 1) v (by simpa using e))
    exact gen _ _ hl hg
  have hs : s' = { s with heap := s'.heap, toks := s'.toks } := by
    obtain ⟨a1, a2, a3, a4, a5⟩ := s'
    simp only at e1 e2 e3
    subst e1 e2 e3
    rfl
  rw [hs]
  exact h _ _ _ kp (each_vals hv t)
theorem coll_dK {a : Addr} {kvs : List (Key × V)} (hd : Rd H a (.dK kvs)) (t : EachIs T (kvs.map fun kv => kV kv.1) ds) : CollR X H (.ref a) T ds := by
  intro pins σ s u A E Q' I rx hh h
  cases rx
  obtain ⟨z, lo, vs, rel, dd⟩ := dk_rd I.hok hd
  obtain ⟨ep, hat⟩ := dd.dictAt
  have ek : (kvs.map fun kv => kV kv.1) = vs.map fun p => kV p.1 := by
    have e := congrArg (List.map kV) rel.keys
    rw [List.map_map, List.map_map] at e
    exact e
  refine PySem.W.kdu_collect (PySem.W.kdl_dict (knd := mixKind X.prog X.w) (kvs := vs) (ep := ep) lo) hh hat (by rw [← rel.length]; exact z) fun h' tk acc hk hacc => ?_
  have hv : Vals (vs.map fun p => kV p.1) acc.toList := keys_at (by rw [Array.length_toList]; exact hacc.1) fun j v e => hacc.2 j v (by rw [← Array.getElem?_toList]; exact e)
  rw [ek] at t
  exact h _ _ _ hk (each_vals hv t)
theorem coll_dT {a : Addr} {kvs : List (List Key × V)} (hd : Rd H a (.dT kvs)) (t : ∀ b, ∀ p ∈ kvs, H b = some (.tup (p.1.map kV)) → T (.ref b) (.tup (p.1.map keyD))) (hds : ds = kvs.map fun p => .tup (p.1.map keyD)) : CollR X H (.ref a) T ds := by
  intro pins σ s u A E Q' I rx hh h
  cases rx
  obtain ⟨z, hs, ks, pr, o, es, ep, ho, hx, hdt, he, hn⟩ := (show ObjOk X.prog X.w H s.heap a (.dT kvs) from hd.ok I.hok)
  have l1 : es.size = ks.length := size_of_entries he
  have l2 : kvs.length = ks.length := Paired.length pr
  refine PySem.W.kdu_collect (kdl_raw hs hx hdt) hh ho (by omega) fun h' tk acc' kp it => ?_
  have ea : acc'.toList = ks.map fun x => Value.ref x.2.1 := by
    have hl : acc'.toList.length = ks.length := by rw [Array.length_toList, it.1]; exact l1
    apply List.ext_getElem?
    intro j
    rw [List.getElem?_map]
    cases hj : acc'.toList[j]? with
    | none =>
      have h1 := List.getElem?_eq_none_iff.mp hj
      rw [List.getElem?_eq_none (by omega)]
      all_goals rfl
    | some v =>
      obtain ⟨en, hen, hv⟩ := it.2 j v (by rw [← Array.getElem?_toList]; exact hj)
      have qe := entry_at he j
      rw [hen] at qe
      cases hb : ks[j]? with
      | none =>
        rw [hb] at qe
        exact nomatch (show some en = none from qe)
      | some b =>
        rw [hb] at qe
        have e2 : en = entryOfKey (tupleKind (mixKind X.prog X.w)) b := Option.some.inj qe
        rw [hv, e2]
        all_goals rfl
  refine h _ _ _ kp ?_
  rw [ea, hds]
  have gen : ∀ {l : List (List Key × V)} {m : List (List Key × Addr × Value)}, KT H l m → (∀ b, ∀ p ∈ l, H b = some (.tup (p.1.map kV)) → T (.ref b) (.tup (p.1.map keyD))) → EachIs (fun u d => ∃ y, RelV y u ∧ T y d) (m.map fun x => Value.ref x.2.1) (l.map fun p => .tup (p.1.map keyD)) := by
    intro l m q
    induction q with
    | nil => intro _; exact .nil
    | @cons p q ps qs hq tl ih =>
      intro t
      exact .cons ⟨.ref q.2.1, rfl, t _ p List.mem_cons_self hq.2.1⟩ (ih fun b p hp => t b p (List.mem_cons_of_mem _ hp))
  exact gen pr t
end
def rSortedD (X : Cx) : List V → Hp → VK → Prop := fun vs H Q => ∃ (x : V) (T : V → D → Prop) (ds : List D), vs = [x] ∧ CollR X H x T ds ∧ (∀ y d, T y d → Dp X.K H y d.py) ∧ AllAlike (ds.map D.py) ∧ Sortable (ds.map D.py) ∧ ds.length ≤ sizeLine ∧ (∀ d ∈ ds, d.py.depth ≤ 8) ∧
  ∀ ys p, H p = none → EachIs T ys (ds.mergeSort (dataLe false D.py)) → Q (.ref p) (upd H p (.lst ys))
theorem in1_handled {A : Around} : A.in1.handled = A.handled := rfl
theorem cr_sortedD {X : Cx} (hc : X.calm = true) (hu : X.A.units + 64 < cLine) : CallR X (.builtin "sorted") (rSortedD X) := by
  intro pins s σ H vs us Q I r h
  obtain ⟨x, T, ds, rfl, hcol, hdp, hal, hk, hL, hdep, q⟩ := h
  obtain ⟨u, rfl, rx⟩ := vals1 r
  refine sorted_gen (bs := ds) (enc := D.py) (R := fun u d => ∃ y, RelV y u ∧ T y d) (fun E' Q' hq => hcol pins σ s u _ E' Q' I rx (I.ok.hd hc) hq) (fun u d ⟨y, ry, t⟩ => ?_) hal hk hL (fun d hd => by have := hdep d hd; omega) fun h' tk h'' out k1 k2 hD he => ?_
  · exact Dp.reads I _ _ _ (hdp y d t) ry
  · obtain ⟨ys, rv, te⟩ := each_back he
    obtain ⟨e, hD⟩ := hD
    have I1 : Inv X pins σ H { s with heap := h', toks := tk } := I.kept (t' := tk) k1
    refine ⟨.ref h'.objs.size, upd H h'.objs.size (.lst ys), I1.laid (t' := tk) k2 (Nat.le_refl _) ?_, rfl, q ys _ (I1.hok.fresh (Nat.le_refl _)) te⟩
    refine ⟨?_, out, e, rv, hD⟩
    rw [te.length, List.length_mergeSort]
    exact hL
/-! the function -/
def leD (a b : D) : Bool := !lt b a
def isTupI : D → Bool
  | .tup (_ :: _) => true
  | .ktup (_ :: _) => true
  | _ => false
def isTupA : D → Bool
  | .tup _ => true
  | .ktup _ => true
  | .non => true
  | _ => false
def sortable (ds : List D) : Bool := decide (ds.length ≤ LIM) && (ds.all fun d => d.plain && decide (d.dep ≤ 8)) && (ds.all fun a => ds.all fun b => PySem.W.alike a.py b.py) && (ds.all isTupI || ds.all fun d => !isTupA d)
def itemsA : D → Option (List D)
  | .dct _ ks _ => some ks
  | d => itemsD d
def dSorted (d : D) : Option D := (itemsA d).bind fun ds => if sortable ds then some (.lst (ds.mergeSort leD)) else none
theorem each_dq {c : Cn} {am : List Addr} {H : Hp} : ∀ {xs : List V} {ds : List D}, DqAll c am H xs ds → EachIs (fun y d => Dq c am H y d) xs ds
  | _, _, .nil => .nil
  | _, _, .cons q qs => .cons q (each_dq qs)
theorem dq_each {c : Cn} {am : List Addr} {H : Hp} : ∀ {xs : List V} {ds : List D}, EachIs (fun y d => Dq c am H y d) xs ds → DqAll c am H xs ds
  | _, _, .nil => .nil
  | _, _, .cons q qs => .cons q (dq_each qs)
theorem leD_eq : (dataLe false D.py : D → D → Bool) = leD := rfl
mutual
theorem py_dep : ∀ (d : D), d.plain = true → d.py.depth = d.dep
  | .non, _ => by simp [D.py, PyData.depth, D.dep]
  | .bl _, _ => by simp [D.py, PyData.depth, D.dep]
  | .int _, _ => by simp [D.py, PyData.depth, D.dep]
  | .str _, _ => by simp [D.py, PyData.depth, D.dep]
  | .tup ds, h => by simp [D.py, PyData.depth, D.dep, pys_dep ds (by simpa [D.plain] using h)]
  | .ktup ds, h => by simp [D.py, PyData.depth, D.dep, pys_dep ds (by simpa [D.plain] using h)]
  | .lst ds, h => by simp [D.py, PyData.depth, D.dep, pys_dep ds (by simpa [D.plain] using h)]
  | .rol _, h => by simp [D.plain] at h
  | .dct _ _ _, h => by simp [D.plain] at h
  | .loc _, h => by simp [D.plain] at h
  | .fn _, h => by simp [D.plain] at h
theorem pys_dep : ∀ (ds : List D), plains ds = true → PyData.depthAll (pys ds) = deps ds
  | [], _ => by simp [pys, PyData.depthAll, deps]
  | d :: ds, h => by
    have p : d.plain = true ∧ plains ds = true := by simpa [plains] using h
    simp [pys, PyData.depthAll, deps, py_dep d p.1, pys_dep ds p.2]
end
theorem sortable_of {ds : List D} (h : sortable ds = true) : ds.length ≤ LIM ∧ (∀ d ∈ ds, d.plain = true ∧ d.dep ≤ 8) ∧ AllAlike (ds.map D.py) ∧ Sortable (ds.map D.py) := by
  unfold sortable at h
  obtain ⟨h1, h4⟩ := bools h
  obtain ⟨h1, h3⟩ := bools h1
  obtain ⟨h1, h2⟩ := bools h1
  refine ⟨of_decide_eq_true h1, fun d hd => ?_, fun x hx y hy => ?_, ?_⟩
  · obtain ⟨a, b⟩ := bools (List.all_eq_true.mp h2 d hd)
    exact ⟨a, of_decide_eq_true b⟩
  · obtain ⟨a, ha, rfl⟩ := List.mem_map.mp hx
    obtain ⟨b, hb, rfl⟩ := List.mem_map.mp hy
    exact List.all_eq_true.mp (List.all_eq_true.mp h3 a ha) b hb
  · rcases (Bool.or_eq_true _ _).mp h4 with h4 | h4
    · refine .inl fun x hx => ?_
      obtain ⟨a, ha, rfl⟩ := List.mem_map.mp hx
      have := List.all_eq_true.mp h4 a ha
      unfold isTupI at this
      split at this
      · rename_i y r; exact ⟨y.py, pys r, by rw [D.py, pys]⟩
      · rename_i y r; exact ⟨y.py, pys r, by rw [D.py, pys]⟩
      · cases this
    · refine .inr fun x hx => ?_
      obtain ⟨a, ha, rfl⟩ := List.mem_map.mp hx
      have hn := List.all_eq_true.mp h4 a ha
      cases a <;> first | (cases hn; done) | (rw [D.py]; exact ⟨fun q => (nomatch q), fun xs q => (nomatch q)⟩)
theorem each_and {c : Cn} {am : List Addr} {H : Hp} : ∀ {xs : List V} {ds : List D}, DqAll c am H xs ds → (∀ d ∈ ds, d.plain = true ∧ d.dep ≤ 8) → EachIs (fun y d => Dq c am H y d ∧ d.plain = true) xs ds
  | _, _, .nil, _ => .nil
  | _, _, .cons q qs, h => .cons ⟨q, (h _ List.mem_cons_self).1⟩ (each_and qs fun d hd => h d (List.mem_cons_of_mem _ hd))
theorem and_each {c : Cn} {am : List Addr} {H : Hp} : ∀ {xs : List V} {ds : List D}, EachIs (fun y d => Dq c am H y d ∧ d.plain = true) xs ds → DqAll c am H xs ds
  | _, _, .nil => .nil
  | _, _, .cons q qs => .cons q.1 (and_each qs)
theorem r_sorted {X : Cx} {c : Cn} (hK : X.K = c.K) : RAOk c (rSortedD X) (fOne dSorted) := ra_one (by
  intro F am Hk H σ env mh x dx d Q R qx e h
  unfold dSorted at e
  cases hi : itemsA dx with
  | none => rw [hi] at e; cases e
  | some ds =>
    rw [hi] at e
    simp only [Option.bind_some] at e
    by_cases hs : sortable ds = true
    case neg => rw [if_neg hs] at e; cases e
    rw [if_pos hs] at e
    cases e
    obtain ⟨h1, h2, h3, h4⟩ := sortable_of hs
    have hcol : CollR X H x (fun y d => Dq c am Hk y d ∧ d.plain = true) ds := by
      cases qx with
      | non => cases hi
      | bl _ => cases hi
      | int _ => cases hi
      | str z kz =>
        cases hi
        refine coll_str ?_ (each_and (dqAll_chars _ fun ch hc => strOk_sign kz hc) h2)
        have : z.cps.size ≤ LIM := by simpa [signsD] using h1
        exact Nat.le_trans this LIM_le
      | tup s q => cases hi; exact coll_tup (.of (R.known _ _ s)) (each_and q h2)
      | ktup s q => cases hi; exact coll_tup (by rw [hK]; exact R.known.seqT s.t) (each_and q h2)
      | lst s q => cases hi; exact coll_list (.of (R.known _ _ s)) (each_and q h2)
      | rol s q => cases hi; exact coll_list (by rw [hK]; exact R.known.seqL s) (each_and q h2)
      | @dk a fo kvs vs s k q =>
        cases hi
        refine coll_dK (.inr ⟨fo, R.known _ _ s⟩) ?_
        have e1 : (kvs.map fun kv => kV kv.1) = (kvs.map (·.1)).map kV := by rw [List.map_map]; rfl
        have e2 : (kvs.map fun p => keyD p.1) = (kvs.map (·.1)).map keyD := by rw [List.map_map]; rfl
        rw [e1, e2]
        rw [e2] at h2
        exact each_and (dqAll_keys fun k' hk' => by
          obtain ⟨p, hp, rfl⟩ := List.mem_map.mp hk'
          exact k p hp) h2
      | @dt a fo kvs vs s k q =>
        cases hi
        exact coll_dT (.inr ⟨fo, R.known _ _ s⟩) (fun b p hp hb => ⟨.tup (R.tups _ _ hb) (dqAll_keys (k p hp)), (h2 _ (List.mem_map_of_mem hp)).1⟩) rfl
      | loc _ => cases hi
      | fn _ => cases hi
    refine ⟨x, _, ds, rfl, hcol, fun y d ⟨q, p⟩ => ?_, h3, h4, Nat.le_trans h1 LIM_le, fun d hd => ?_, fun ys p hp te => ?_⟩
    · rw [hK]
      exact (Dq.dp d y p (q.up (Go.refl _) R.known)).1
    · rw [py_dep d (h2 d hd).1]
      exact (h2 d hd).2
    · exact new_ok R (fun p hp => dq_lst (R.hk_none hp) (and_each te)) h p hp)
end Mi

set_option Elab.async false
set_option linter.all false
set_option maxRecDepth 100000
set_option maxHeartbeats 1000000
namespace Mi
open PySem PySem.Spec PyProof.Rows L2
/-! ### lists within lists that are changed in place -/
section
variable {c : Cn} {X : Cx} {W : WX}
theorem new_loc {F : Hp} {am : List Addr} {Hk H : Hp} {σ : L2.St} {env : En} {mh : Mh} {Q : VK} {xs : List V} {ds : List D} (R : Rl c F am Hk H σ env mh) (q : DqAll c am Hk xs ds) (h : GP c W F am Hk σ env (relD c) (.ok (.loc mh.length) (mh ++ [.lst ds])) Q) : ∀ p, H p = none → Q (.ref p) (upd H p (.lst xs)) := fun p hp => by
  refine h (.ref p) (am ++ [p]) Hk _ (go_snoc _ _) (Le.refl _) (R.newLoc hp q) (.loc ?_)
  rw [List.getElem?_append_right (by rw [R.mlen]; exact Nat.le_refl _), R.mlen, Nat.sub_self]
  rfl
/-- [..] -/
def mLstLoc (ms : Av) : Ev := fun env mh => (ms env mh).bind fun ds mh1 => if ds.length ≤ LIM then .ok (.loc mh1.length) (mh1 ++ [.lst ds]) else .no
theorem se_lstLoc {es : List Expr} {ms : Av} {pos : Pos} (h : SA c W X es ms) : SE c W X (.List es pos) (mLstLoc ms) := by
  obtain ⟨t, p, k⟩ := h
  refine ⟨_, pe_lst p, fun F am Hk H σ env mh Q R h => ?_⟩
  refine k F am Hk H σ env mh _ R (GP.step h fun ds mh1 er vs am1 Hk1 H1 g1 e1 R1 q1 h1 => ?_)
  by_cases hl : ds.length ≤ LIM
  · rw [if_pos hl] at h1
    exact ⟨by rw [q1.length]; exact Nat.le_trans hl LIM_le, new_loc R1 q1 h1⟩
  · rw [if_neg hl] at h1; exact h1.elim
/-- list(..) -/
def lstOf : List D → Option (List D)
  | [.lst ds] => some ds
  | [.tup ds] => some ds
  | _ => none
def mListLoc (ms : Av) : Ev := fun env mh => (ms env mh).bind fun ds mh1 => match lstOf ds with
  | some es => .ok (.loc mh1.length) (mh1 ++ [.lst es])
  | none => .no
theorem se_listLoc {e : Expr} {ms : Av} {p pos : Pos} (hm : X.mg "list" = none) (ha : SA c W X [e] ms) (hg : Gl X "list" := by rfl) (he : starEach [e] X.env = (false, eval e X.env) :: starEach [] X.env := by rfl) (hpl : (backTo pos (starEach [] X.env)).any (·.1) = false := by rfl) : SE c W X (.Call (.Name "list" p) [e] [] pos) (mListLoc ms) := by
  obtain ⟨t, pa, k⟩ := ha
  refine ⟨_, pe_callTy call_list_of hg hm boot_list pa (by decide) (by decide) he hpl, fun F am Hk H σ env mh Q R h => ?_⟩
  refine k F am Hk H σ env mh _ R (GP.step h fun ds mh1 er vs am1 Hk1 H1 g1 e1 R1 q1 h1 => ?_)
  match ds, q1, h1 with
  | [.lst es], q1, h1 =>
    cases q1 with | cons qa qr =>
    cases qr
    cases qa with | lst s1 qs =>
    exact ⟨_, _, rfl, .inl (.of (R1.known _ _ s1)), new_loc R1 qs h1⟩
  | [.tup es], q1, h1 =>
    cases q1 with | cons qa qr =>
    cases qr
    cases qa with | tup s1 qs =>
    exact ⟨_, _, rfl, .inr (.of (R1.known _ _ s1)), new_loc R1 qs h1⟩
/-- e.append(v), e a list that stands within another -/
def mAppL (mo m : Ev) : Sv := fun env mh => (mo env mh).bindS fun o mh1 => match o with
  | .loc n => match mh1[n]? with
    | some (.lst _) => (m env mh1).bindS fun d mh2 => match mh2[n]? with
      | some (.lst ds) => if ds.length < LIM then .nx env (mh2.set n (.lst (ds ++ [d]))) else .no
      | _ => .no
    | _ => .no
  | _ => .no
theorem ss_appL {o e : Expr} {mo m : Ev} {apos cpos pos : Pos} (ho : SE c W X o mo) (he : SE c W X e m)
    (hbase : attributeBase o "append" X.env (eval o X.env) = eval o X.env := by rfl)
    (hfew : ((backTo cpos (starEach [e] X.env)).all (fun x => !x.1) && (backToKw cpos (keywordEach [] X.env)).all (fun x => x.1.isSome)
      && decide ([e].length + ([] : List Keyword).length + (if ([] : List Keyword).isEmpty then 0 else 1) < 30)) = true := by rfl)
    (hline : (apos.endLine == cpos.line) = true := by rfl) (hs : starEach [e] X.env = (false, eval e X.env) :: starEach [] X.env := by rfl) (hplain : (backTo cpos (starEach [] X.env)).any (·.1) = false := by rfl) :
    SS c W X (.Expr (.Call (.Attribute o "append" apos) [e] [] cpos) pos) (mAppL mo m) := by
  obtain ⟨to, po, ko⟩ := ho
  obtain ⟨t, pe, k⟩ := he
  refine ⟨_, ps_expr (pe_bm PySem.F.plainAttrs_list PySem.F.slot_list_append PySem.F.type_list_append mt_append po (pa_cons pe pa_nil hs) hbase hfew hline hs hplain), fun F am Hk H σ env mh Dn R h => ?_⟩
  refine ko F am Hk H σ env mh _ R (SP.step h fun dx mh1 er x am1 Hk1 H1 g1 e1 R1 q1 h1 => ?_)
  cases dx with
  | loc n =>
    simp only at h1
    cases q1 with | loc q1 =>
    rename_i a
    cases hm : mh1[n]? with
    | none => rw [hm] at h1; exact h1.elim
    | some o1 =>
      rw [hm] at h1
      cases o1 with
      | dead => exact h1.elim
      | lst ds1 =>
        simp only at h1
        obtain ⟨_, xs1, hx1, _⟩ := R1.mo n a _ q1 hm
        refine ⟨.inl ⟨rfl, _, .of hx1⟩, ?_⟩
        refine k F am1 Hk1 H1 σ env mh1 _ R1 (SP.step h1 fun d mh2 er2 v am2 Hk2 H2 g2 e2 R2 q2 h2 => ?_)
        have qa := g2 _ _ q1
        cases hm2 : mh2[n]? with
        | none => rw [hm2] at h2; exact h2.elim
        | some o2 =>
          rw [hm2] at h2
          cases o2 with
          | dead => exact h2.elim
          | lst ds =>
            simp only at h2
            by_cases hl : ds.length < LIM
            · rw [if_pos hl] at h2
              obtain ⟨hk, xs, hx, qs⟩ := R2.mo n a _ qa hm2
              refine ⟨a, xs, v, rfl, rfl, hx, by rw [qs.length]; exact Nat.lt_of_lt_of_le hl LIM_le, ?_⟩
              exact h2 σ am2 Hk2 _ (Go.refl _) (Le.refl _) (R2.writeMo qa hm2 (qs.append (.one q2))) rfl
            · rw [if_neg hl] at h2; exact h2.elim
  | _ => exact h1.elim
/-- e[i] = v, e a list that stands within another -/
def mSetIxL (mo ix m : Ev) : Sv := fun env mh => (m env mh).bindS fun d mh1 => (mo env mh1).bindS fun o mh2 => match o with
  | .loc n => (ix env mh2).bindS fun k mh3 => match k with
    | .int k => match mh3[n]? with
      | some (.lst ds) => match ixN ds.length k with
        | some j => .nx env (mh3.set n (.lst (ds.set j d)))
        | none => .no
      | _ => .no
    | _ => .no
  | _ => .no
theorem ss_setIxL {o ei e : Expr} {mo mi m : Ev} {spos pos : Pos} (ho : SE c W X o mo) (hi : SE c W X ei mi) (he : SE c W X e m)
    (ha : ∀ v, assign (.Subscript o ei spos) X.env v = (do
      let ov ← holding [v] (eval o X.env)
      let iv ← holding [v, ov] (eval ei X.env)
      standAt spos
      holding [v, ov, iv] (setItem ov iv v)
      release [v, ov, iv] []) := by intro _; rfl)
    (hs : swapsWithSole [.Subscript o ei spos] e pos.line X.env = pure false := by rfl) (hw : swappedStores [.Subscript o ei spos] e X.env = pure none := by rfl)
    (h1 : (assignEach [.Subscript o ei spos] X.env).map (·.2) = [assign (.Subscript o ei spos) X.env] := by rfl) :
    SS c W X (.Assign [.Subscript o ei spos] e pos) (mSetIxL mo mi m) := by
  obtain ⟨to, po, ko⟩ := ho
  obtain ⟨ti, pi, ki⟩ := hi
  obtain ⟨te, pe, ke⟩ := he
  refine ⟨_, ps_asg pe (pg_sub po pi set_list ha) hs hw h1, fun F am Hk H σ env mh Dn R h => ?_⟩
  refine ke F am Hk H σ env mh _ R (SP.step h fun d mh1 er v am1 Hk1 H1 g1 e1 R1 q1 h1 => ?_)
  refine ko F am1 Hk1 H1 σ env mh1 _ R1 (SP.step h1 fun dx mh2 er2 x am2 Hk2 H2 g2 e2 R2 q2 h2 => ?_)
  cases dx with
  | loc n =>
    simp only at h2
    cases q2 with | loc q2 =>
    rename_i a
    refine ki F am2 Hk2 H2 σ env mh2 _ R2 (SP.step h2 fun dk mh3 er3 vk am3 Hk3 H3 g3 e3 R3 q3 h3 => ?_)
    cases dk with
    | int k =>
      cases q3
      simp only at h3
      have qa := g3 _ _ q2
      cases hm : mh3[n]? with
      | none => rw [hm] at h3; exact h3.elim
      | some o =>
        rw [hm] at h3
        cases o with
        | dead => exact h3.elim
        | lst ds =>
          simp only at h3
          obtain ⟨hk, xs, hx, qs⟩ := R3.mo n a _ qa hm
          cases hj : ixN ds.length k with
          | none => rw [hj] at h3; exact h3.elim
          | some j =>
            rw [hj] at h3
            refine ⟨a, xs, k, j, rfl, rfl, hx, by rw [qs.length]; exact hj, ?_⟩
            exact h3 σ am3 Hk3 _ (Go.refl _) (Le.refl _) (R3.writeMo qa hm (qs.set ((q1.up g2 e2).up g3 e3) j)) rfl
    | _ => exact h3.elim
  | _ => exact h2.elim
/-! built-ins that read such a list -/
def RAOkM (c : Cn) (r : List V → Hp → VK → Prop) (f : Mh → List D → Option D) : Prop := ∀ F am Hk H σ env mh vs ds d (Q : VK), Rl c F am Hk H σ env mh → DqAll c am Hk vs ds → f mh ds = some d →
  (∀ v Hk' H', Le Hk Hk' → Rl c F am Hk' H' σ env mh → Dq c am Hk' v d → Q v H') → r vs H Q
def mBM (f : Mh → List D → Option D) (ms : Av) : Ev := fun env mh => (ms env mh).bind fun ds mh1 => lift (f mh1 ds) mh1
theorem tcbM_ok {r : List V → Hp → VK → Prop} {f : Mh → List D → Option D} (hr : RAOkM c r f) {ms : Av} {t : TA}
    (k : ∀ F am Hk H σ env mh Q, Rl c F am Hk H σ env mh → GP c W F am Hk σ env (relA c) (ms env mh) Q → t σ H Q) :
    ∀ F am Hk H σ env mh Q, Rl c F am Hk H σ env mh → GP c W F am Hk σ env (relD c) (mBM f ms env mh) Q → tCB r t σ H Q := by
  intro F am Hk H σ env mh Q R h
  refine k F am Hk H σ env mh _ R (GP.step h fun ds mh1 er vs am1 Hk1 H1 g1 e1 R1 q1 h1 => ?_)
  obtain ⟨z, ez, hz⟩ := lift_ok h1
  exact hr F am1 Hk1 H1 σ env mh1 vs ds z Q R1 q1 ez fun v' Hk' H' le R' q' => hz v' am1 Hk' H' (Go.refl _) le R' q'
theorem se_callBM {id : String} {r : List V → Hp → VK → Prop} {f : Mh → List D → Option D} {x : Str} {e : Expr} {es : List Expr} {ms : Av} {p pos : Pos} (hc : CallR X (.builtin id) r) (hr : RAOkM c r f) (hm : X.mg x = none) (hv : bootBuiltins x = some (.builtin id)) (ha : SA c W X (e :: es) ms)
    (hg : Gl X x := by rfl) (hn : x ≠ "__name__" := by decide) (hdb : (x == ("__debug__" : Str)) = false := by decide)
    (he : starEach (e :: es) X.env = (false, eval e X.env) :: starEach es X.env := by rfl) (hpl : (backTo pos (starEach es X.env)).any (·.1) = false := by rfl) : SE c W X (.Call (.Name x p) (e :: es) [] pos) (mBM f ms) := by
  obtain ⟨t, pa, k⟩ := ha
  exact ⟨_, pe_callB hc hg hm hv pa hn hdb he hpl, tcbM_ok hr k⟩
theorem se_callTyM {T : String} {r : List V → Hp → VK → Prop} {f : Mh → List D → Option D} {x : Str} {e : Expr} {es : List Expr} {ms : Av} {p pos : Pos} (hc : CallR X (.type T) r) (hr : RAOkM c r f) (hm : X.mg x = none) (hv : bootBuiltins x = some (.type T)) (ha : SA c W X (e :: es) ms)
    (hg : Gl X x := by rfl) (hn : x ≠ "__name__" := by decide) (hdb : (x == ("__debug__" : Str)) = false := by decide)
    (he : starEach (e :: es) X.env = (false, eval e X.env) :: starEach es X.env := by rfl) (hpl : (backTo pos (starEach es X.env)).any (·.1) = false := by rfl) : SE c W X (.Call (.Name x p) (e :: es) [] pos) (mBM f ms) := by
  obtain ⟨t, pa, k⟩ := ha
  exact ⟨_, pe_callTy hc hg hm hv pa hn hdb he hpl, tcbM_ok hr k⟩
/-- what stands at such a list -/
def locL (mh : Mh) : D → Option (List D)
  | .loc n => match mh[n]? with
    | some (.lst ds) => some ds
    | _ => none
  | _ => none
theorem locL_at {F : Hp} {am : List Addr} {Hk H : Hp} {σ : L2.St} {env : En} {mh : Mh} {x : V} {d : D} {ds : List D} (R : Rl c F am Hk H σ env mh) (q : Dq c am Hk x d) (h : locL mh d = some ds) : ∃ a xs, x = .ref a ∧ H a = some (.lst xs) ∧ DqAll c am Hk xs ds := by
  cases d <;> first | (cases h; done) | skip
  rename_i n
  cases q with | loc q =>
  simp only [locL] at h
  cases hm : mh[n]? with
  | none => rw [hm] at h; cases h
  | some o =>
    rw [hm] at h
    cases o with
    | dead => cases h
    | lst es =>
      cases h
      obtain ⟨_, xs, hx, qs⟩ := R.mo n _ _ q hm
      exact ⟨_, xs, rfl, hx, qs⟩
def dTupleM (mh : Mh) (ds : List D) : Option D := match ds with
  | [d] => match locL mh d with
    | some es => some (.tup es)
    | none => dTuple d
  | _ => none
def dLenM (mh : Mh) (ds : List D) : Option D := match ds with
  | [d] => match locL mh d with
    | some es => some (.int es.length)
    | none => dLen d
  | _ => none
theorem r_tupleM : RAOkM c (rTuple c.K) dTupleM := by
  intro F am Hk H σ env mh vs ds d Q R q e h
  match ds, q, e with
  | [dx], q, e =>
    cases hl : locL mh dx with
    | none =>
      simp only [dTupleM, hl] at e
      exact r_tuple F am Hk H σ env mh vs [dx] d Q R q e h
    | some es =>
      simp only [dTupleM, hl] at e
      cases e
      cases q with | cons q1 qs =>
      cases qs
      obtain ⟨a, xs, rfl, hx, qs⟩ := locL_at R q1 hl
      exact ⟨_, _, rfl, .inl ⟨.of hx, new_ok R (fun p hp => dq_tup (R.hk_none hp) qs) h⟩⟩
theorem r_lenM : RAOkM c (rLen c.K) dLenM := by
  intro F am Hk H σ env mh vs ds d Q R q e h
  match ds, q, e with
  | [dx], q, e =>
    cases hl : locL mh dx with
    | none =>
      simp only [dLenM, hl] at e
      exact r_len F am Hk H σ env mh vs [dx] d Q R q e h
    | some es =>
      simp only [dLenM, hl] at e
      cases e
      cases q with | cons q1 qs =>
      cases qs
      obtain ⟨a, xs, rfl, hx, qs⟩ := locL_at R q1 hl
      exact ⟨_, _, rfl, .inl ⟨_, .of hx, rfl⟩, by rw [qs.length]; exact h _ Hk H (Le.refl _) R (.int _)⟩
end
end Mi

set_option Elab.async false
set_option linter.all false
set_option maxRecDepth 100000
set_option maxHeartbeats 1000000
namespace Mi
open PySem PySem.Spec PyProof.Rows L2
section
variable {c : Cn} {X : Cx} {W : WX}
/-! ### list(range(..)) -/
def mLr1 (m : Ev) : Cv := fun env mh => (m env mh).bind fun d mh1 => lift ((dRng1 [d]).map .ol) mh1
def mLr2 (ma mb : Ev) : Cv := fun env mh => (ma env mh).bind fun d mh1 => (mb env mh1).bind fun e mh2 => lift ((dRng2 [d, e]).map .ol) mh2
theorem dqAll_rg {am : List Addr} {H : Hp} {a b : Int} : DqAll c am H (rgV a b) (rngD a (b - a).toNat) := by
  have gen : ∀ l : List Nat, DqAll c am H (l.map fun i => V.int (a + (i : Nat))) (l.map fun (k : Nat) => .int (a + k)) := by
    intro l
    induction l with
    | nil => exact .nil
    | cons k l ih => exact .cons (.int _) ih
  exact gen _
theorem sc_lr1 {a : Expr} {m : Ev} {p pos p2 pos2 : Pos} (hc : X.calm = true) (hm : X.mg "list" = none) (hm2 : X.mg "range" = none) (ha : SE c W X a m) (hg : Gl X "list" := by rfl) (hg2 : Gl X "range" := by rfl)
    (na : starEach [a] X.env = (false, eval a X.env) :: starEach [] X.env := by rfl) (nb : starEach [.Call (.Name "range" p2) [a] [] pos2] X.env = (false, eval (.Call (.Name "range" p2) [a] [] pos2) X.env) :: starEach [] X.env := by rfl) :
    SC c W X (.Call (.Name "list" p) [.Call (.Name "range" p2) [a] [] pos2] [] pos) (mLr1 m) := by
  obtain ⟨t, pt, k⟩ := ha
  refine ⟨_, pe_listRg hc hg hm (prg_1 hg2 hm2 pt na) nb, fun F am Hk H σ env mh Q R h => ?_⟩
  refine k F am Hk H σ env mh _ R (CP.step h fun d mh1 er v am1 Hk1 H1 g1 e1 R1 q1 h1 => ?_)
  obtain ⟨z, ez, hz⟩ := liftC_ok h1
  cases d <;> first | (cases ez; done) | skip
  rename_i j
  cases q1
  simp only [dRng1] at ez
  by_cases hl : j ≤ (LIM : Int) ∧ -(2 ^ 62) ≤ j
  · rw [if_pos hl] at ez
    cases ez
    have hlim : (LIM : Int) = 1000000 := rfl
    refine ⟨j, rfl, ⟨by omega, by omega, by omega, by omega, by omega⟩, ?_⟩
    have q : DqAll c am1 Hk1 (rgV 0 j) (rngD 0 j.toNat) := by
      have := dqAll_rg (c := c) (am := am1) (H := Hk1) (a := 0) (b := j)
      rw [Int.sub_zero] at this
      exact this
    exact newC_ol R1 q hz
  · rw [if_neg hl] at ez; cases ez
theorem sc_lr2 {a b : Expr} {ma mb : Ev} {p pos p2 pos2 : Pos} (hc : X.calm = true) (hm : X.mg "list" = none) (hm2 : X.mg "range" = none) (ha : SE c W X a ma) (hb : SE c W X b mb) (hg : Gl X "list" := by rfl) (hg2 : Gl X "range" := by rfl)
    (na : starEach [a, b] X.env = (false, eval a X.env) :: starEach [b] X.env := by rfl) (nb : starEach [b] X.env = (false, eval b X.env) :: starEach [] X.env := by rfl) (hp : (backTo pos2 (starEach [b] X.env)).any (·.1) = false := by rfl)
    (nc : starEach [.Call (.Name "range" p2) [a, b] [] pos2] X.env = (false, eval (.Call (.Name "range" p2) [a, b] [] pos2) X.env) :: starEach [] X.env := by rfl) :
    SC c W X (.Call (.Name "list" p) [.Call (.Name "range" p2) [a, b] [] pos2] [] pos) (mLr2 ma mb) := by
  obtain ⟨t, pt, k⟩ := ha
  obtain ⟨t2, pt2, k2⟩ := hb
  refine ⟨_, pe_listRg hc hg hm (prg_2 hg2 hm2 pt pt2 na nb hp) nc, fun F am Hk H σ env mh Q R h => ?_⟩
  refine k F am Hk H σ env mh _ R (CP.step h fun d mh1 er v am1 Hk1 H1 g1 e1 R1 q1 h1 => ?_)
  refine k2 F am1 Hk1 H1 σ env mh1 _ R1 (CP.step h1 fun d2 mh2 er2 v2 am2 Hk2 H2 g2 e2 R2 q2 h2 => ?_)
  obtain ⟨z, ez, hz⟩ := liftC_ok h2
  cases d <;> first | (cases ez; done) | skip
  cases d2 <;> first | (cases ez; done) | skip
  rename_i i j
  cases q1
  cases q2
  simp only [dRng2] at ez
  by_cases hl : j - i ≤ (LIM : Int) ∧ (-(2 ^ 62) ≤ i ∧ i < 2 ^ 62 ∧ -(2 ^ 62) ≤ j ∧ j < 2 ^ 62)
  · rw [if_pos hl] at ez
    cases ez
    have hlim : (LIM : Int) = 1000000 := rfl
    exact ⟨i, j, rfl, rfl, ⟨hl.2.1, hl.2.2.1, hl.2.2.2.1, hl.2.2.2.2, by omega⟩, newC_ol R2 dqAll_rg hz⟩
  · rw [if_neg hl] at ez; cases ez
/-! ### xs[::-1] -/
def dRev : D → Option Cel
  | .lst ds => some (.ol ds.reverse)
  | _ => none
def mRev (m : Ev) : Cv := fun env mh => (m env mh).bind fun d mh1 => lift (dRev d) mh1
theorem sc_rev {e : Expr} {m : Ev} {k : Nat} {p1 p2 p3 pos : Pos} (hK : X.K = c.K) (he : SE c W X e m) : SC c W X (.Subscript e (.Slice none none (some (.UnaryOp .USub (.Constant (.int 1) k p1) p2)) p3) pos) (mRev m) := by
  obtain ⟨t, pt, kk⟩ := he
  refine ⟨_, pe_revL pt, fun F am Hk H σ env mh Q R h => ?_⟩
  refine kk F am Hk H σ env mh _ R (CP.step h fun d mh1 er v am1 Hk1 H1 g1 e1 R1 q1 h1 => ?_)
  obtain ⟨z, ez, hz⟩ := liftC_ok h1
  cases d <;> first | (cases ez; done) | skip
  cases ez
  cases q1 with | lst s qs =>
  exact ⟨_, _, rfl, .of (R1.known _ _ s), newC_ol R1 qs.reverse hz⟩
/-! ### own dicts -/
def mNewD (t : Bool) : Cv := fun _ mh => .ok (.od t [] []) mh
theorem sc_newK {pos : Pos} : SC c W X (.Dict [] [] pos) (mNewD false) := ⟨_, pe_dnewK, fun F am Hk H σ env mh Q R h p hp => h (.ref p) _ am Hk _ (Go.refl _) (Le.refl _) (R.stash hp) ⟨p, rfl, R.f_none hp, .inl ⟨rfl, [], rfl, (fun _ h => nomatch h), rfl, .nil⟩⟩⟩
theorem sc_newT {pos : Pos} : SC c W X (.Dict [] [] pos) (mNewD true) := ⟨_, pe_dnewT, fun F am Hk H σ env mh Q R h p hp => h (.ref p) _ am Hk _ (Go.refl _) (Le.refl _) (R.stash hp) ⟨p, rfl, R.f_none hp, .inr ⟨rfl, [], rfl, (fun _ h => nomatch h), rfl, .nil⟩⟩⟩
/-- the dict behind d[k] = v -/
def dPutL {κ : Type} [DecidableEq κ] (f : D → Option κ) (k : κ) (kd d : D) (ks vs : List D) : List D × List D :=
  if (ks.any fun x => decide (f x = some k)) = true then (ks, List.zipWith (fun x v => if f x = some k then d else v) ks vs) else (ks ++ [kd], vs ++ [d])
def dPutD (t : Bool) (ks vs : List D) (k v : D) : Option (List D × List D) := match t with
  | false => (keyOf k).map fun kk => dPutL keyOf kk k v ks vs
  | true => (keyT k).map fun kk => dPutL keyT kk k v ks vs
theorem putL_ok {κ : Type} [DecidableEq κ] {f : D → Option κ} {g : κ → D} (hfg : ∀ k, f (g k) = some k) {am : List Addr} {H : Hp} {k : κ} {v : V} {d : D} (qv : Dq c am H v d) {kvs : List (κ × V)} {vs : List D} (q : DqAll c am H (kvs.map (·.2)) vs) :
    (dPutL f k (g k) d (kvs.map fun p => g p.1) vs).1 = (putK kvs k v).map (fun p => g p.1) ∧ DqAll c am H ((putK kvs k v).map (·.2)) (dPutL f k (g k) d (kvs.map fun p => g p.1) vs).2 := by
  have ha : ((kvs.map fun p => g p.1).any fun x => decide (f x = some k)) = kvs.any fun kv => decide (kv.1 = k) := by
    rw [List.any_map]
    congr 1
    funext p
    simp [hfg]
  unfold dPutL putK
  rw [ha]
  by_cases hh : (kvs.any fun kv => decide (kv.1 = k)) = true
  · rw [if_pos hh, if_pos hh]
    refine ⟨?_, ?_⟩
    · rw [List.map_map]
      refine List.map_congr_left fun p _ => ?_
      simp only [Function.comp_apply]
      split
      · rfl
      · rfl
    · have gen : ∀ (l : List (κ × V)) (vs : List D), DqAll c am H (l.map (·.2)) vs → DqAll c am H ((l.map fun kv => if kv.1 = k then (kv.1, v) else kv).map (·.2)) (List.zipWith (fun x v => if f x = some k then d else v) (l.map fun p => g p.1) vs) := by
        intro l
        induction l with
        | nil => intro vs q; cases q; exact .nil
        | cons p l ih =>
          intro vs q
          cases q with | cons q1 qs =>
          simp only [List.map_cons, List.zipWith_cons_cons, hfg, Option.some.injEq]
          refine .cons ?_ (ih _ qs)
          by_cases e : p.1 = k
          · rw [if_pos e, if_pos e]; exact qv
          · rw [if_neg e, if_neg e]; exact q1
      exact gen kvs vs q
  · rw [if_neg hh, if_neg hh]
    refine ⟨by rw [List.map_append]; rfl, ?_⟩
    rw [List.map_append]
    exact q.append (.one qv)
def mPutV (i : Nat) (mk m : Ev) : Sv := fun env mh => (m env mh).bindS fun d mh1 => match env[i]? with
  | some (.od t ks vs) => (mk env mh1).bindS fun k mh2 => if ks.length < LIM then (match dPutD t ks vs k d with
      | some r => .nx (env.set i (.od t r.1 r.2)) mh2
      | none => .no) else .no
  | _ => .no
theorem od_at {F : Hp} {am : List Addr} {Hk H : Hp} {σ : L2.St} {env : En} {mh : Mh} {i : Nat} {t : Bool} {ks vs : List D} (R : Rl c F am Hk H σ env mh) (he : env[i]? = some (.od t ks vs)) : ∃ a, σ[i]? = some (some (.ref a)) ∧ Hk a = none ∧ F a = none ∧ a ∉ am ∧
      ((t = false ∧ ∃ kvs : List (Key × V), H a = some (.dK kvs) ∧ (∀ p ∈ kvs, keyOk p.1) ∧ ks = kvs.map (fun p => keyD p.1) ∧ DqAll c am Hk (kvs.map (·.2)) vs) ∨
       (t = true ∧ ∃ kvs : List (List Key × V), H a = some (.dT kvs) ∧ (∀ p ∈ kvs, ∀ k ∈ p.1, keyOk k) ∧ ks = kvs.map (fun p => .tup (p.1.map keyD)) ∧ DqAll c am Hk (kvs.map (·.2)) vs)) := by
  obtain ⟨a, e1, e2, e3, e4, q⟩ := R.slot i _ he
  refine ⟨a, ?_, e2, e3, e4, q⟩
  cases w : σ[i]? with
  | none => rw [w] at e1; cases e1
  | some ww => rw [w] at e1; rw [show ww = some (.ref a) from e1]
theorem mem_putK {κ : Type} [DecidableEq κ] {kvs : List (κ × V)} {k : κ} {v : V} {p : κ × V} (h : p ∈ putK kvs k v) : p.1 = k ∨ ∃ q ∈ kvs, q.1 = p.1 := by
  unfold putK at h
  split at h
  · obtain ⟨q, hq, e⟩ := List.mem_map.mp h
    right
    refine ⟨q, hq, ?_⟩
    split at e <;> (subst e; rfl)
  · rcases List.mem_append.mp h with h | h
    · exact .inr ⟨p, h, rfl⟩
    · rw [List.mem_singleton.mp h]; exact .inl rfl
theorem ss_putV {i : Nat} {x : Str} {ek e : Expr} {mk m : Ev} {p pos' pos : Pos} (hu : X.A.units + 64 < cLine) (hk : SE c W X ek mk) (he : SE c W X e m) (hN : X.N[i]? = some x := by rfl) (hv : Vis X.env.scope x := by first | exact Or.inl rfl | exact Or.inr (Or.inl rfl) | exact Or.inr (Or.inr rfl))
    (hd : (x == ("__debug__" : Str)) = false := by decide) (hcd : (x == ("__classdict__" : Str)) = false := by decide) (hs : swapsWith e (some (.Subscript (.Name x p) ek pos')) pos.line X.env = pure false := by rfl) :
    SS c W X (.Assign [.Subscript (.Name x p) ek pos'] e pos) (mPutV i mk m) := by
  obtain ⟨tk, pk, kk⟩ := hk
  obtain ⟨te, pe, ke⟩ := he
  refine ⟨_, ps_dput (by omega) (pe_var hN hv hd hcd) pk pe hs, fun F am Hk H σ env mh Dn R h => ?_⟩
  refine ke F am Hk H σ env mh _ R (SP.step h fun d mh1 er v am1 Hk1 H1 g1 e1 R1 q1 h1 => ?_)
  cases hi : env[i]? with
  | none => rw [hi] at h1; exact h1.elim
  | some s =>
    rw [hi] at h1
    cases s with
    | od t ks vs =>
      simp only at h1
      obtain ⟨a, ea, _⟩ := od_at R1 hi
      refine ⟨_, ea, ?_⟩
      refine kk F am1 Hk1 H1 σ env mh1 _ R1 (SP.step h1 fun dk mh2 er2 vk am2 Hk2 H2 g2 e2 R2 q2 h2 => ?_)
      obtain ⟨a', ea', hka, hfa, haa, hh⟩ := od_at R2 hi
      rw [ea] at ea'
      cases ea'
      by_cases hl : ks.length < LIM
      case neg => rw [if_neg hl] at h2; exact h2.elim
      rw [if_pos hl] at h2
      have hLs := Nat.lt_of_lt_of_le hl LIM_le
      have qd := q1.up g2 e2
      rcases hh with ⟨rfl, kvs, hH, ok, rfl, qs⟩ | ⟨rfl, kvs, hH, ok, rfl, qs⟩
      · simp only [dPutD] at h2
        cases hkk : keyOf dk with
        | none => rw [hkk] at h2; exact h2.elim
        | some kk' =>
          rw [hkk] at h2
          obtain ⟨rfl, okk, rfl⟩ := keyOf_q q2 hkk
          obtain ⟨p1, p2⟩ := putL_ok (f := keyOf) (g := keyD) keyOf_keyD (k := kk') qd qs
          simp only [Option.map_some] at h2
          refine ⟨a, _, rfl, .inl ⟨kvs, kk', hH, rfl, by simpa using hLs, rfl⟩, ?_⟩
          refine h2 σ am2 Hk2 _ (Go.refl _) (Le.refl _) (R2.write hi rfl ea ⟨a, rfl, hka, hfa, haa, .inl ⟨rfl, _, upd_same, fun p hp => ?_, p1, p2⟩⟩ rfl) rfl
          rcases mem_putK hp with e | ⟨q, hq, e⟩
          · rw [e]; exact okk
          · rw [← e]; exact ok q hq
      · simp only [dPutD] at h2
        cases hkk : keyT dk with
        | none => rw [hkk] at h2; exact h2.elim
        | some kk' =>
          rw [hkk] at h2
          cases dk <;> first | (cases hkk; done) | skip
          cases q2 with | tup s1 qk =>
          obtain ⟨rfl, okk, rfl⟩ := keysOf_q qk hkk
          obtain ⟨p1, p2⟩ := putL_ok (f := keyT) (g := fun k => .tup (k.map keyD)) keyT_tup (k := kk') qd qs
          simp only [Option.map_some] at h2
          refine ⟨a, _, rfl, .inr ⟨kvs, kk', _, hH, rfl, R2.known _ _ s1, by simpa using hLs, rfl⟩, ?_⟩
          refine h2 σ am2 Hk2 _ (Go.refl _) (Le.refl _) (R2.write hi rfl ea ⟨a, rfl, hka, hfa, haa, .inr ⟨rfl, _, upd_same, fun p hp k hk => ?_, p1, p2⟩⟩ rfl) rfl
          rcases mem_putK hp with e | ⟨q, hq, e⟩
          · rw [e] at hk; exact okk k hk
          · rw [← e] at hk; exact ok q hq k hk
    | _ => exact h1.elim
/-! d.get(k, x) -/
def mGetV (i : Nat) (mk mx : Ev) : Ev := fun env mh => match dctV env i with
  | some (t, ks, vs) => (mk env mh).bind fun k mh1 => (mx env mh1).bind fun x mh2 => lift ((dFind t ks vs k).map fun o => o.getD x) mh2
  | none => .no
theorem DctAt.isD {am : List Addr} {Hk H : Hp} {a : Addr} {t : Bool} {ks vs : List D} (h : DctAt c am Hk H a t ks vs) : IsD H a := by
  rcases h with ⟨_, kvs, hr, _⟩ | ⟨_, kvs, hr, _⟩
  · exact .inl ⟨kvs, hr⟩
  · exact .inr ⟨kvs, hr⟩
theorem se_getV {i : Nat} {x : Str} {ek ex : Expr} {mk mx : Ev} {p apos cpos : Pos} (hu : X.A.units + 64 < cLine) (hk : SE c W X ek mk) (hx : SE c W X ex mx) (hN : X.N[i]? = some x := by rfl) (hv : Vis X.env.scope x := by first | exact Or.inl rfl | exact Or.inr (Or.inl rfl) | exact Or.inr (Or.inr rfl))
    (hd : (x == ("__debug__" : Str)) = false := by decide) (hcd : (x == ("__classdict__" : Str)) = false := by decide) (m : M2 X (.Name x p) "get" apos ek ex cpos := by exact ⟨rfl, rfl, rfl, rfl⟩) : SE c W X (.Call (.Attribute (.Name x p) "get" apos) [ek, ex] [] cpos) (mGetV i mk mx) := by
  obtain ⟨tk, pk, kk⟩ := hk
  obtain ⟨tx, px, kx⟩ := hx
  refine ⟨_, pe_dget2 (by omega) (pe_var hN hv hd hcd) pk px m, fun F am Hk H σ env mh Q R h => ?_⟩
  unfold mGetV at h
  cases hd : dctV env i with
  | none => rw [hd] at h; exact h.elim
  | some z =>
    obtain ⟨t, ks, vs⟩ := z
    rw [hd] at h
    obtain ⟨a, ea, ha⟩ := R.dctV hd
    refine ⟨_, ea, a, rfl, ha.isD, kk F am Hk H σ env mh _ R (GP.step h fun dk mh1 er vk am1 Hk1 H1 g1 le1 R1 q1 h1 => ?_)⟩
    refine kx F am1 Hk1 H1 σ env mh1 _ R1 (GP.step h1 fun dx mh2 er2 vx am2 Hk2 H2 g2 le2 R2 q2 h2 => ?_)
    obtain ⟨a', ea', ha'⟩ := R2.dctV hd
    rw [ea] at ea'
    cases ea'
    obtain ⟨w, ew, hw⟩ := lift_ok h2
    cases hf : dFind t ks vs dk with
    | none => rw [hf] at ew; cases ew
    | some o =>
      rw [hf] at ew
      cases ew
      obtain ⟨ov, g, h3, h4⟩ := ha'.get (q1.up g2 le2) R2.known hf
      refine ⟨ov, g, hw _ am2 Hk2 H2 (Go.refl _) (Le.refl _) R2 ?_⟩
      cases o with
      | none => rw [h4 rfl]; exact q2
      | some d => obtain ⟨v, rfl, q⟩ := h3 d rfl; exact q
/-! walks of a dict -/
def keysD : D → Option (List D)
  | .dct _ ks _ => some ks
  | _ => none
def mIterD (m : Ev) : Iv := fun env mh => (m env mh).bind fun d mh1 => lift (keysD d) mh1
theorem si_keys {tg iter : Expr} {m : Ev} (h : SE c W X iter m) : SI c W X tg iter (mIterD m) := by
  obtain ⟨t, p, k⟩ := h
  refine ⟨_, pi_keys p, fun F am Hk H σ env mh R Rl0 h => ?_⟩
  refine k F am Hk H σ env mh _ Rl0 (IPs.step h fun d mh1 er v am1 Hk1 H1 g1 e1 R1 q1 h1 => ?_)
  obtain ⟨ds, e, hi⟩ := ips_ok h1
  cases d <;> first | (cases e; done) | skip
  cases e
  cases q1 with
  | @dk a fo kvs _ s ok qs =>
    refine ⟨a, fo, rfl, .inl ⟨kvs, R1.known _ _ s, ?_⟩⟩
    refine hi (Itk a fo kvs) am1 Hk1 H1 (fun H => H a = some (.frz fo (.dK kvs))) (fun i H x H' => H' = H ∧ ∃ k v, kvs[i]? = some (k, v) ∧ x = kV k) (Go.refl _) (Le.refl _) R1 ?_ (fun H2 le => le _ _ s) fun i H2 x H3 hlt le y => ?_
    · have := walk_keys (d := a) (o := fo) (kvs := kvs)
      rw [List.length_map]
      exact this
    · obtain ⟨e3, k, v, hx, rfl⟩ := y
      refine .inl ⟨e3, keyD k, by rw [List.getElem?_map, hx]; rfl, ?_⟩
      have hk := ok _ (List.mem_of_getElem? hx)
      cases k with
      | inl i => exact .int i
      | inr z => exact .str z hk
  | @dt a fo kvs _ s ok qs =>
    refine ⟨a, fo, rfl, .inr ⟨kvs, R1.known _ _ s, ?_⟩⟩
    refine hi (Itkt a fo kvs) am1 Hk1 H1 (fun H => H a = some (.frz fo (.dT kvs))) (fun i H x H' => H' = H ∧ ∃ (k : List Key) (v : V) (q : Addr), kvs[i]? = some (k, v) ∧ x = .ref q ∧ H q = some (.tup (k.map kV))) (Go.refl _) (Le.refl _) R1 ?_ (fun H2 le => le _ _ s) fun i H2 x H3 hlt le y => ?_
    · have := walk_keysT (d := a) (o := fo) (kvs := kvs)
      rw [List.length_map]
      exact this
    · obtain ⟨e3, k, v, b, hx, rfl, hb⟩ := y
      exact .inr (.inr ⟨b, k, rfl, e3, hb, ok _ (List.mem_of_getElem? hx), by rw [List.getElem?_map, hx]; rfl⟩)
end
end Mi

set_option Elab.async false
set_option linter.all false
set_option maxRecDepth 100000
set_option maxHeartbeats 1000000
namespace L2
open PySem PySem.Spec PyProof.Rows
section
variable {X : Cx} {pos : Pos}
/-- (a, b, ..) = (x, y, ..), the pair itself is not tracked; stored in order -/
def tParO (n : Nat) (u : TGs) (ta : TA) : TS := fun D σ H => ta σ H fun vs H1 => vs.length = n ∧ u vs σ H1 D.nx
theorem ps_parO {ts es : List Expr} {n : Nat} {u : TGs} {ta : TA} {pt : Pos} {kt k2 pt2} (hc : X.calm = true) (hu : PGs X ts u) (ha : PA X es ta) (hz : n ≤ 100)
    (hn : (assignEach ts X.env).length = n := by rfl) (hst : (assignEach ts X.env).findIdx? (·.1) = none := by rfl)
    (hw : swappedStores [.Tuple ts kt pt] (.Tuple es k2 pt2) X.env = pure none := by rfl)
    (hs : swapsWithSole [.Tuple ts kt pt] (.Tuple es k2 pt2) pos.line X.env = pure false := by rfl)
    (h1 : (assignEach [.Tuple ts kt pt] X.env).map (·.2) = [assign (.Tuple ts kt pt) X.env] := by rfl) :
    PS X (.Assign [.Tuple ts kt pt] (.Tuple es k2 pt2) pos) (tParO n u ta) := by
  refine ⟨fun pins s σ H D I h => ?_⟩
  refine wpAny_Assign_stores (Tuple_ (thn (ha.run _ pins s σ H _ I h) fun us s1 ⟨vs, H1, I1, r1, hl, q1⟩ => ?_)) hs hw
  have hlu : us.length = n := by rw [← r1.length]; exact hl
  refine wpAny_newObj_type ?_ (by show us.toArray.size ≤ sizeLine; rw [List.size_toArray, hlu]; exact Nat.le_trans hz (by decide))
  have I2 : Inv X pins σ H1 { s1 with heap := s1.heap.push { cls := .type "tuple", data := .seq us.toArray } } := I1.kept (t' := s1.toks) fun b o e => Heap.get?_push_of_some _ e
  rw [h1]
  show wpAny _ _ (assign (.Tuple ts kt pt) X.env (.ref s1.heap.objs.size)) _ _ _
  refine assign_Tuple_tuple (items := us.toArray) (I2.ok.hd hc) (IsTup.new s1.heap _) (by rw [hn, List.size_toArray, hlu]) hst fun h' hx => ?_
  have I3 := I2.kept (h' := h') (t' := s1.toks) fun b o e => hx b o (Nat.ne_of_lt (Heap.lt_size e)) e
  exact thn (hu.run pins _ σ H1 vs _ D.nx I3 (by simpa using r1) q1) fun _ s' q => q
/-- three plain local names: stored from the right -/
def tPar3R (i j k : Nat) (ta : TA) : TS := fun D σ H => ta σ H fun vs H1 => ∃ v w u, vs = [v, w, u] ∧ D.nx (((σ.set k (some u)).set j (some w)).set i (some v)) H1
theorem ps_par3R {i j k : Nat} {x y z : Str} {a b d : Expr} {ta : TA} {px py pz pt : Pos} {kt k2 pt2} (hc : X.calm = true) (hN : X.N.Nodup) (hi : X.N[i]? = some x) (hj : X.N[j]? = some y) (hk : X.N[k]? = some z)
    (hx : X.env.scope.names.lookup x = some .local) (hy : X.env.scope.names.lookup y = some .local) (hzl : X.env.scope.names.lookup z = some .local) (ha : PA X [a, b, d] ta)
    (hw : swappedStores [.Tuple [.Name x px, .Name y py, .Name z pz] kt pt] (.Tuple [a, b, d] k2 pt2) X.env = pure (some [x, y, z]))
    (hs : swapsWithSole [.Tuple [.Name x px, .Name y py, .Name z pz] kt pt] (.Tuple [a, b, d] k2 pt2) pos.line X.env = pure false := by rfl) :
    PS X (.Assign [.Tuple [.Name x px, .Name y py, .Name z pz] kt pt] (.Tuple [a, b, d] k2 pt2) pos) (tPar3R i j k ta) := by
  refine ⟨fun pins s σ H D I h => ?_⟩
  rw [exec_Assign_arm]
  refine wpAny_bind (wpAny_standAt ?_)
  rw [hs]
  refine wpAny_bind (wpAny_pure ?_)
  rw [if_neg (by decide)]
  refine wpAny_bind (Tuple_ (thn (ha.run _ pins s σ H _ I h) fun us s1 ⟨vs, H1, I1, r1, q1⟩ => ?_))
  obtain ⟨v, w, t, e1, q1⟩ := q1
  subst e1
  obtain ⟨u1, u2, u3, rfl, rv, rw', rt⟩ : ∃ u1 u2 u3, us = [u1, u2, u3] ∧ RelV v u1 ∧ RelV w u2 ∧ RelV t u3 := by
    cases r1 with
    | cons p q =>
      cases q with
      | cons p' q' =>
        cases q' with
        | cons p'' q'' =>
          cases q''
          exact ⟨_, _, _, rfl, p, p', p''⟩
  refine wpAny_newObj_type ?_ (by show 3 ≤ sizeLine; decide)
  have I2 : Inv X pins σ H1 { s1 with heap := s1.heap.push { cls := .type "tuple", data := .seq [u1, u2, u3].toArray } } := I1.kept (t' := s1.toks) fun b o e => Heap.get?_push_of_some _ e
  rw [hw]
  refine wpAny_bind (wpAny_pure ?_)
  show wpAny (model X.prog X.w) X.A (do rule "assign.swapped-stores"; let items ← unpackItems (.ref s1.heap.objs.size) 3 none; assignInOrder [fun v => bindName X.env z v, fun v => bindName X.env y v, fun v => bindName X.env x v] items.reverse; pure Flow.next) _ _ _
  refine wpAny_bind (wpAny_rule (wpAny_bind (unpackItems_tuple (items := #[u1, u2, u3]) (I.ok.hd hc) (IsTup.new s1.heap _) fun h' hx' => ?_)))
  have I3 := I2.kept (h' := h') (t' := s1.toks) fun b o e => hx' b o (Nat.ne_of_lt (Heap.lt_size e)) e
  show wpAny _ _ (assignInOrder [fun v => bindName X.env z v, fun v => bindName X.env y v, fun v => bindName X.env x v] [u3, u2, u1] >>= fun _ => pure Flow.next) _ _ _
  refine wpAny_bind (assignInOrder_cons (wpAny_bindName (store_ok I3 hN hk (.inl hzl) rt (fun s2 I4 => ?_) (.inr hzl))))
  refine assignInOrder_cons (wpAny_bindName (store_ok I4 hN hj (.inl hy) rw' (fun s3 I5 => ?_) (.inr hy)))
  refine assignInOrder_cons (wpAny_bindName (store_ok I5 hN hi (.inl hx) rv (fun s4 I6 => assignInOrder_nil (wpAny_pure ?_)) (.inr hx)))
  exact ⟨_, H1, I6, q1⟩
end
end L2
namespace Mi
open PySem PySem.Spec PyProof.Rows L2
section
variable {c : Cn} {X : Cx} {W : WX}
/-! several values, each shared or one's own -/
abbrev Cvs := En → Mh → Rs (List Cel)
def mcNil : Cvs := fun _ mh => .ok [] mh
def mcCons (m : Cv) (r : Cvs) : Cvs := fun env mh => (noEr (m env mh)).bind fun cel mh1 => (noEr (r env mh1)).bind fun cs mh2 => .ok (cel :: cs) mh2
def CelsAt (c : Cn) : Hp → Hp → List Addr → Hp → List V → List Cel → Prop
  | F, F', _, _, [], [] => F' = F
  | F, F', am, Hk, v :: vs, cel :: cs => ∃ Fm, CelAt c F Fm am Hk v cel ∧ CelsAt c Fm F' am Hk vs cs
  | _, _, _, _, _, _ => False
def CPs (c : Cn) (F : Hp) (am : List Addr) (Hk : Hp) (σ : L2.St) (env : En) (r : Rs (List Cel)) (Q : List V → Hp → Prop) : Prop := match r with
  | .ok cs mh' => ∀ vs F' am' Hk' H', Go am am' → Le Hk Hk' → Rl c F' am' Hk' H' σ env mh' → CelsAt c F F' am' Hk' vs cs → Q vs H'
  | _ => False
structure SCs (c : Cn) (W : WX) (X : Cx) (es : List Expr) (n : Nat) (m : Cvs) : Prop where
  ex : ∃ t : TA, PA X es t ∧ ∀ F am Hk H σ env mh Q, Rl c F am Hk H σ env mh → CPs c F am Hk σ env (m env mh) Q → t σ H Q
  len : ∀ env mh cs mh1, m env mh = .ok cs mh1 → cs.length = n
theorem CelsAt.length {F F' : Hp} {am : List Addr} {Hk : Hp} : ∀ {vs : List V} {cs : List Cel}, CelsAt c F F' am Hk vs cs → vs.length = cs.length
  | [], [], _ => rfl
  | _ :: _, _ :: _, ⟨_, _, h⟩ => by rw [List.length_cons, List.length_cons, CelsAt.length h]
  | [], _ :: _, h => h.elim
  | _ :: _, [], h => h.elim
theorem scs_nil : SCs c W X [] 0 mcNil := ⟨⟨_, pa_nil, fun F am Hk H σ env mh Q R h => h [] F am Hk H (Go.refl _) (Le.refl _) R rfl⟩, fun env mh cs mh1 e => by cases e; rfl⟩
theorem scs_cons {e : Expr} {es : List Expr} {n : Nat} {m : Cv} {r : Cvs} (h1 : SC c W X e m) (h2 : SCs c W X es n r) (hs : starEach (e :: es) X.env = (false, eval e X.env) :: starEach es X.env := by rfl) : SCs c W X (e :: es) (n + 1) (mcCons m r) := by
  obtain ⟨ta, pa, ka⟩ := h1
  obtain ⟨⟨tb, pb, kb⟩, hl⟩ := h2
  refine ⟨⟨_, pa_cons pa pb hs, fun F am Hk H σ env mh Q R h => ?_⟩, fun env mh cs mh1 e => ?_⟩
  · unfold mcCons at h
    cases hm : m env mh with
    | no => rw [hm] at h; exact h.elim
    | er x m1 => rw [hm] at h; exact h.elim
    | ok ca mh1 =>
      rw [hm] at h
      refine ka F am Hk H σ env mh _ R ?_
      rw [hm]
      intro v F1 am1 Hk1 H1 g1 e1 R1 q1
      cases hr : r env mh1 with
      | no => simp only [noEr, Rs.bind, hr] at h; exact h.elim
      | er x m2 => simp only [noEr, Rs.bind, hr] at h; exact h.elim
      | ok cs mh2 =>
        simp only [noEr, Rs.bind, hr] at h
        refine kb F1 am1 Hk1 H1 σ env mh1 _ R1 ?_
        rw [hr]
        intro vs F2 am2 Hk2 H2 g2 e2 R2 q2
        exact h (v :: vs) F2 am2 Hk2 H2 (g1.trans g2) (e1.trans e2) R2 ⟨F1, q1.up g2 e2, q2⟩
  · unfold mcCons at e
    cases hm : m env mh with
    | no => rw [hm] at e; cases e
    | er x m1 => rw [hm] at e; cases e
    | ok ca mh1 =>
      cases hr : r env mh1 with
      | no => simp only [noEr, Rs.bind, hm, hr] at e; cases e
      | er x m2 => simp only [noEr, Rs.bind, hm, hr] at e; cases e
      | ok cs mh2 =>
        simp only [noEr, Rs.bind, hm, hr] at e
        cases e
        rw [List.length_cons, hl _ _ _ _ hr]
/-! plain names take them -/
def setsV : List Nat → List V → L2.St → L2.St
  | j :: js, v :: vs, σ => (setsV js vs σ).set j (some v)
  | _, _, σ => σ
def setsC : List Nat → List Cel → En → En
  | j :: js, v :: vs, env => (setsC js vs env).set j v
  | _, _, env => env
theorem setsV_len : ∀ (js : List Nat) (vs : List V) (σ : L2.St), (setsV js vs σ).length = σ.length
  | [], _, _ => by simp [setsV]
  | _ :: _, [], _ => rfl
  | j :: js, v :: vs, σ => by simp only [setsV, List.length_set]; exact setsV_len js vs σ
theorem setsC_len : ∀ (js : List Nat) (vs : List Cel) (env : En), (setsC js vs env).length = env.length
  | [], _, _ => by simp [setsC]
  | _ :: _, [], _ => rfl
  | j :: js, v :: vs, env => by simp only [setsC, List.length_set]; exact setsC_len js vs env
theorem Rl.setsCel {am : List Addr} {Hk H : Hp} {σ : L2.St} {env : En} {mh : Mh} : ∀ {js : List Nat} {F F' : Hp} {vs : List V} {cs : List Cel}, Rl c F' am Hk H σ env mh → CelsAt c F F' am Hk vs cs → (∀ j ∈ js, j < env.length) → vs.length = js.length → Rl c F am Hk H (setsV js vs σ) (setsC js cs env) mh
  | [], F, F', vs, cs, R, q, h, hl => by
    match vs, cs, q, hl with
    | [], [], q, _ => cases q; exact R
  | j :: js, F, F', [], cs, R, q, h, hl => by cases hl
  | j :: js, F, F', v :: vs, [], R, q, h, hl => q.elim
  | j :: js, F, F', v :: vs, cel :: cs, R, ⟨Fm, q1, q2⟩, h, hl => by
    have R1 := Rl.setsCel R q2 (fun i hi => h i (List.mem_cons_of_mem _ hi)) (by simpa using hl)
    exact R1.setCel q1 (by rw [setsC_len]; exact h j List.mem_cons_self)
/-- errors within are not served -/
def mParN (js : List Nat) (m : Cvs) : Sv := fun env mh => (noEr (m env mh)).bindS fun cs mh1 => if js.all (· < env.length) = true then .nx (setsC js cs env) mh1 else .no
/-- in order -/
def gNames : List Nat → TGs
  | [] => gNil
  | j :: js => gCons (gName j) (gNames js)
theorem gNames_ok : ∀ (js : List Nat) (vs : List V) (σ : L2.St) (H : Hp) (Q : L2.St → Hp → Prop), js.Nodup → vs.length = js.length → Q (setsV js vs σ) H → gNames js vs σ H Q
  | [], vs, σ, H, Q, _, hl, h => by
    match vs, hl with
    | [], _ => exact ⟨rfl, h⟩
  | j :: js, [], σ, H, Q, _, hl, h => by cases hl
  | j :: js, v :: vs, σ, H, Q, hn, hl, h => by
    refine ⟨v, vs, rfl, gNames_ok js vs _ H Q (List.nodup_cons.mp hn).2 (by simpa using hl) ?_⟩
    have hj := (List.nodup_cons.mp hn).1
    have key : ∀ (js : List Nat) (vs : List V) (σ : L2.St), j ∉ js → setsV js vs (σ.set j (some v)) = (setsV js vs σ).set j (some v) := by
      intro js
      induction js with
      | nil => intro vs σ _; cases vs <;> rfl
      | cons i js ih =>
        intro vs σ hj
        cases vs with
        | nil => rfl
        | cons w vs =>
          simp only [setsV]
          rw [ih vs σ fun h => hj (List.mem_cons_of_mem _ h), List.set_comm _ _ fun e => hj (by subst e; exact List.mem_cons_self)]
    rw [key js vs σ hj]
    exact h
theorem pgs_names_nil : PGs X [] (gNames []) := pgs_nil
theorem pgs_names_cons {x : Str} {px : Pos} {es : List Expr} {j : Nat} {js : List Nat} (hN : X.N.Nodup) (h : PGs X es (gNames js)) (hi : X.N[j]? = some x := by rfl) (hx : Loc X.env.scope x := by first | exact Or.inl rfl | exact Or.inr rfl)
    (hf : X.fn x = true ∨ X.env.scope.names.lookup x = some .local := by first | exact .inl rfl | exact .inr rfl)
    (hs : (assignEach (.Name x px :: es) X.env).map (·.2) = assign (.Name x px) X.env :: (assignEach es X.env).map (·.2) := by rfl) : PGs X (.Name x px :: es) (gNames (j :: js)) :=
  pgs_cons (pg_name hN hi hx hf) h hs
theorem parN_run {js : List Nat} {m : Cvs} {F : Hp} {am : List Addr} {Hk : Hp} {H : Hp} {σ : L2.St} {env : En} {mh : Mh} {Dn : Ends} {es : List Expr} {t : TA} {n : Nat} (hn : js.length = n)
    (k : ∀ F am Hk H σ env mh Q, Rl c F am Hk H σ env mh → CPs c F am Hk σ env (m env mh) Q → t σ H Q) (hl : ∀ env mh cs mh1, m env mh = .ok cs mh1 → cs.length = n)
    (R : Rl c F am Hk H σ env mh) (h : SP c W F am Hk σ.length (mParN js m env mh) Dn) : t σ H fun vs H1 => vs.length = n ∧ Dn.nx (setsV js vs σ) H1 := by
  unfold mParN at h
  cases hm : m env mh with
  | no => rw [hm] at h; exact h.elim
  | er x m1 => rw [hm] at h; exact h.elim
  | ok cs mh1 =>
    simp only [noEr, Rs.bindS, hm] at h
    refine k F am Hk H σ env mh _ R ?_
    rw [hm]
    intro vs F1 am1 Hk1 H1 g1 e1 R1 q1
    have hvl : vs.length = n := by rw [q1.length]; exact hl _ _ _ _ hm
    split at h
    · rename_i ha
      have ha' : ∀ j ∈ js, j < env.length := fun j hj => by simpa using List.all_eq_true.mp ha j hj
      have R2 := R1.setsCel q1 ha' (by rw [hvl, hn])
      exact ⟨hvl, h _ am1 Hk1 H1 g1 e1 R2 (setsV_len ..)⟩
    · exact h.elim
theorem ss_parO {js : List Nat} {n : Nat} {ts es : List Expr} {m : Cvs} {pt pos : Pos} {kt k2 : Nat} {pt2 : Pos} (hc : X.calm = true) (hu : PGs X ts (gNames js)) (he : SCs c W X es n m) (hd : js.Nodup := by decide) (hz : n ≤ 100 := by decide) (hjn : js.length = n := by rfl)
    (hn : (assignEach ts X.env).length = n := by rfl) (hst : (assignEach ts X.env).findIdx? (·.1) = none := by rfl)
    (hw : swappedStores [.Tuple ts kt pt] (.Tuple es k2 pt2) X.env = pure none := by rfl)
    (hs : swapsWithSole [.Tuple ts kt pt] (.Tuple es k2 pt2) pos.line X.env = pure false := by rfl)
    (h1 : (assignEach [.Tuple ts kt pt] X.env).map (·.2) = [assign (.Tuple ts kt pt) X.env] := by rfl) :
    SS c W X (.Assign [.Tuple ts kt pt] (.Tuple es k2 pt2) pos) (mParN js m) := by
  obtain ⟨⟨t, pa, k⟩, hl⟩ := he
  refine ⟨_, ps_parO hc hu pa hz hn hst hw hs h1, fun F am Hk H σ env mh Dn R h => ?_⟩
  have := parN_run (es := es) hjn k hl R h
  unfold tParO
  refine k F am Hk H σ env mh _ R ?_
  unfold mParN at h
  cases hm : m env mh with
  | no => rw [hm] at h; exact h.elim
  | er x m1 => rw [hm] at h; exact h.elim
  | ok cs mh1 =>
    simp only [noEr, Rs.bindS, hm] at h
    intro vs F1 am1 Hk1 H1 g1 e1 R1 q1
    have hvl : vs.length = n := by rw [q1.length]; exact hl _ _ _ _ hm
    split at h
    · rename_i ha
      have ha' : ∀ j ∈ js, j < env.length := fun j hj => by simpa using List.all_eq_true.mp ha j hj
      have R2 := R1.setsCel q1 ha' (by rw [hvl, hjn])
      exact ⟨hvl, gNames_ok js vs σ H1 _ hd (by rw [hvl, hjn]) (h _ am1 Hk1 H1 g1 e1 R2 (setsV_len ..))⟩
    · exact h.elim
theorem ss_par3 {i j l : Nat} {x y z : Str} {a b d : Expr} {m : Cvs} {px py pz pt pos : Pos} {kt k2 : Nat} {pt2 : Pos} (hc : X.calm = true) (hN : X.N.Nodup) (he : SCs c W X [a, b, d] 3 m) (hi : X.N[i]? = some x := by rfl) (hj : X.N[j]? = some y := by rfl) (hk : X.N[l]? = some z := by rfl)
    (hx : X.env.scope.names.lookup x = some .local := by rfl) (hy : X.env.scope.names.lookup y = some .local := by rfl) (hzl : X.env.scope.names.lookup z = some .local := by rfl)
    (hw : swappedStores [.Tuple [.Name x px, .Name y py, .Name z pz] kt pt] (.Tuple [a, b, d] k2 pt2) X.env = pure (some [x, y, z]) := by rfl)
    (hs : swapsWithSole [.Tuple [.Name x px, .Name y py, .Name z pz] kt pt] (.Tuple [a, b, d] k2 pt2) pos.line X.env = pure false := by rfl) :
    SS c W X (.Assign [.Tuple [.Name x px, .Name y py, .Name z pz] kt pt] (.Tuple [a, b, d] k2 pt2) pos) (mParN [i, j, l] m) := by
  obtain ⟨⟨t, pa, k⟩, hl⟩ := he
  refine ⟨_, ps_par3R hc hN hi hj hk hx hy hzl pa hw hs, fun F am Hk H σ env mh Dn R h => ?_⟩
  unfold tPar3R
  refine k F am Hk H σ env mh _ R ?_
  unfold mParN at h
  cases hm : m env mh with
  | no => rw [hm] at h; exact h.elim
  | er x m1 => rw [hm] at h; exact h.elim
  | ok cs mh1 =>
    simp only [noEr, Rs.bindS, hm] at h
    intro vs F1 am1 Hk1 H1 g1 e1 R1 q1
    have hvl : vs.length = 3 := by rw [q1.length]; exact hl _ _ _ _ hm
    split at h
    · rename_i ha
      have ha' : ∀ q ∈ [i, j, l], q < env.length := fun q hq => by simpa using List.all_eq_true.mp ha q hq
      have R2 := R1.setsCel q1 ha' (by rw [hvl]; rfl)
      match vs, hvl with
      | [v, w, u], _ => exact ⟨v, w, u, rfl, h _ am1 Hk1 H1 g1 e1 R2 (by simp only [List.length_set])⟩
    · exact h.elim
end
end Mi

set_option Elab.async false
set_option linter.all false
set_option maxRecDepth 100000
set_option maxHeartbeats 1000000
namespace Mi
open PySem PySem.Spec PyProof.Rows PyProof.V L2
open PySem.W (EachIs)
/-! ### sorted(D): D a written dict of the module -/
theorem coll_kd {X : Cx} {H : Hp} {T : V → D → Prop} {d : Addr} {es : Array DictEntry} {n : Nat} {ks : List Str} (kd : KDict X.K X.w d es n) (hk : es.toList.map He.keyOf = He.keysIn X.w.params ks) (hz : ks.length ≤ sizeLine) (t : ∀ k ∈ ks, T (.str k) (.str k)) : CollR X H (.ref d) T (ks.map .str) := by
  intro pins σ s u A E Q' I rx hh h
  cases rx
  have ho := I.kIn _ _ kd.at_
  have hl : es.size = ks.length := by
    have := congrArg List.length hk
    simpa [He.keysIn] using this
  refine PySem.W.kdu_collect (kdl_raw (es := es) (ep := n) kd.low ⟨rfl, rfl, rfl⟩ rfl) hh ho (by omega) fun h' tk acc kp it => ?_
  refine h _ _ _ kp ?_
  have hal : acc.toList.length = ks.length := by rw [Array.length_toList, it.1]; exact hl
  have hat : ∀ (j : Nat) (v : Value) (k : Str), acc.toList[j]? = some v → ks[j]? = some k → ∃ t, v = .str k t := fun j v k e hkj => by
    obtain ⟨en, hen, hv⟩ := it.2 j v (by rw [← Array.getElem?_toList]; exact e)
    have e1 : (es.toList.map He.keyOf)[j]? = some (He.keyOf en) := by rw [List.getElem?_map, Array.getElem?_toList, hen]; rfl
    rw [hk, He.keysIn, List.getElem?_map, hkj] at e1
    have e2 := Option.some.inj e1
    unfold He.keyOf at e2
    split at e2
    · rename_i x tt ex
      have := Option.some.inj e2
      exact ⟨tt, by rw [hv, ex, (Prod.mk.inj this).1]⟩
    · cases e2
  clear it ho hk hl
  have gen : ∀ (us : List Value) (ks : List Str), us.length = ks.length → (∀ k ∈ ks, T (.str k) (.str k)) → (∀ (j : Nat) (v : Value) (k : Str), us[j]? = some v → ks[j]? = some k → ∃ t, v = .str k t) → EachIs (fun u d => ∃ y, RelV y u ∧ T y d) us (ks.map .str) := by
    intro us
    induction us with
    | nil => intro ks hl _ _; cases ks with | nil => exact .nil | cons _ _ => cases hl
    | cons u us ih =>
      intro ks hl ht hg
      cases ks with
      | nil => cases hl
      | cons k ks =>
        obtain ⟨tk, e⟩ := hg 0 u k rfl rfl
        exact .cons ⟨.str k, ⟨tk, e⟩, ht k List.mem_cons_self⟩ (ih ks (by simpa using hl) (fun k' hk' => ht k' (List.mem_cons_of_mem _ hk')) fun j v k' e1 e2 => hg (j + 1) v k' (by simpa using e1) (by simpa using e2))
  exact gen _ _ hal t hat
section
variable {c : Cn} {X : Cx} {W : WX}
def mSortKd (kvs : List (Str × D)) : Ev := fun _ mh => lift (dSorted (.lst (kvs.map fun p => .str p.1))) mh
theorem se_sortedKd {x : Str} {kvs : List (Str × D)} {p p2 pos : Pos} (hK : X.K = c.K) (hcalm : X.calm = true) (hu : X.A.units + 64 < cLine) (h : KdOk X.K X.w X.mg x kvs) (hm : X.mg "sorted" = none)
    (hg : Gl X x := by rfl) (hd : (x == ("__debug__" : Str)) = false := by decide) (hg2 : Gl X "sorted" := by rfl)
    (hok : (kvs.map (·.1)).all (fun k => PySem.PyData.strOk k) = true := by decide +kernel)
    (he : starEach [.Name x p] X.env = (false, eval (.Name x p) X.env) :: starEach [] X.env := by rfl) (hpl : (backTo pos (starEach [] X.env)).any (·.1) = false := by rfl) :
    SE c W X (.Call (.Name "sorted" p2) [.Name x p] [] pos) (mSortKd kvs) := by
  obtain ⟨d, es, n, hm', kd, _⟩ := h.ex
  have hk : es.toList.map He.keyOf = He.keysIn X.w.params (kvs.map (·.1)) := by
    have := h.keys d hm'
    unfold He.dicW at this
    rw [kd.at_] at this
    simp only at this
    split at this
    · exact Option.some.inj this
    · cases this
  refine ⟨_, pe_callB (cr_sortedD hcalm hu) hg2 hm PyProof.Rows.boot_sorted (pa_cons (pe_glob (v := .ref d) hg hm' rfl hd) pa_nil he) (by decide) (by decide) he hpl, fun F am Hk H σ env mh Q R hh => ?_⟩
  show rSortedD X [.ref d] H Q
  unfold mSortKd at hh
  obtain ⟨z, ez, hz⟩ := lift_ok hh
  unfold dSorted at ez
  have e0 : (kvs.map fun p => D.str p.1) = (kvs.map (·.1)).map .str := by rw [List.map_map]; rfl
  rw [e0] at ez
  simp only [itemsA, itemsD, Option.bind_some] at ez
  by_cases hs : sortable ((kvs.map (·.1)).map .str) = true
  case neg => rw [if_neg hs] at ez; cases ez
  rw [if_pos hs] at ez
  cases ez
  obtain ⟨h1, h2, h3, h4⟩ := sortable_of hs
  have hcol : CollR X H (.ref d) (fun y d => Dq c am Hk y d ∧ d.plain = true) ((kvs.map (·.1)).map .str) :=
    coll_kd kd hk (Nat.le_trans (by rw [List.length_map] at h1; exact h1) LIM_le) fun k hk' => ⟨.str k (List.all_eq_true.mp hok k hk'), (h2 _ (List.mem_map_of_mem hk')).1⟩
  refine ⟨_, _, _, rfl, hcol, fun y d ⟨q, p⟩ => ?_, h3, h4, Nat.le_trans h1 LIM_le, fun d hd => ?_, fun ys p hp te => ?_⟩
  · rw [hK]
    exact (Dq.dp d y p (q.up (Go.refl _) R.known)).1
  · rw [py_dep d (h2 d hd).1]
    exact (h2 d hd).2
  · exact new_ok R (fun p hp => dq_lst (R.hk_none hp) (and_each te)) (fun v Hk' H' le R' q' => hz v am Hk' H' (Go.refl _) le R' q') p hp
end
end Mi

set_option Elab.async false
set_option linter.all false
set_option maxRecDepth 100000
namespace Mi
open PySem L2
/-! ### what an evaluation comes to -/
def Rs.S {α : Type} (r : Rs α) (P : α → Mh → Prop) : Prop := match r with
  | .ok a m => P a m
  | _ => False
def Rz.S (r : Rz) (N : En → Mh → Prop) (T : D → Mh → Prop) (C : En → Mh → Prop) : Prop := match r with
  | .nx e m => N e m
  | .rt d m => T d m
  | .ct e m => C e m
  | _ => False
theorem S_ok {α : Type} {a : α} {m : Mh} {P : α → Mh → Prop} : (Rs.ok a m).S P = P a m := rfl
theorem S_bind {α β : Type} {r : Rs α} {f : α → Mh → Rs β} {P : β → Mh → Prop} : (r.bind f).S P = r.S fun a m => (f a m).S P := by cases r <;> rfl
theorem S_bindS {α : Type} {r : Rs α} {f : α → Mh → Rz} {N T C} : (r.bindS f).S N T C = r.S fun a m => (f a m).S N T C := by cases r <;> rfl
theorem S_noEr {α : Type} {r : Rs α} {P : α → Mh → Prop} : (noEr r).S P = r.S P := by cases r <;> rfl
theorem S_ite {α : Type} {c : Prop} [Decidable c] {a b : Rs α} {P : α → Mh → Prop} : (if c then a else b).S P = if c then a.S P else b.S P := by split <;> rfl
theorem S_iteS {c : Prop} [Decidable c] {a b : Rz} {N T C} : (if c then a else b).S N T C = if c then a.S N T C else b.S N T C := by split <;> rfl
theorem S_nx {e : En} {m : Mh} {N T C} : (Rz.nx e m).S N T C = N e m := rfl
theorem S_rt {e : D} {m : Mh} {N T C} : (Rz.rt e m).S N T C = T e m := rfl
theorem S_ct {e : En} {m : Mh} {N T C} : (Rz.ct e m).S N T C = C e m := rfl
theorem S_seq {a b : Sv} {env : En} {mh : Mh} {N T C} : (mSeq a b env mh).S N T C = (a env mh).S (fun e m => (b e m).S N T C) T C := by
  unfold mSeq; cases a env mh <;> rfl
theorem S_runF {n : Nat} {b : Sv} {ds : List D} {mh : Mh} {P} (h : (b (env0 ds n) mh).S (fun _ m => P .non m) P (fun _ _ => False)) : (runF n b ds mh).S P := by
  unfold runF
  cases hb : b (env0 ds n) mh <;> rw [hb] at h <;> first | exact h | exact h.elim
theorem S_fzA {i : Nat} {m : Sv} {env : En} {mh : Mh} {N T C} (h : (m env mh).S (fun e m => ∃ e', frzE i e = some e' ∧ N e' m) T C) : (mFzA i m env mh).S N T C := by
  unfold mFzA
  cases hm : m env mh <;> rw [hm] at h <;> first | exact h.elim | skip
  · obtain ⟨e', h1, h2⟩ := h
    simp only [h1]
    exact h2
  · exact h
  · exact h
theorem Rs.S.mono {α : Type} {r : Rs α} {P Q : α → Mh → Prop} (h : r.S P) (k : ∀ a m, P a m → Q a m) : r.S Q := by
  cases r <;> first | exact k _ _ h | exact h.elim
theorem Rz.S.mono {r : Rz} {N T C N' T' C'} (h : r.S N T C) (k1 : ∀ a m, N a m → N' a m) (k2 : ∀ a m, T a m → T' a m) (k3 : ∀ a m, C a m → C' a m) : r.S N' T' C' := by
  cases r <;> first | exact k1 _ _ h | exact k2 _ _ h | exact k3 _ _ h | exact h.elim
theorem eq_of_S {α : Type} {r : Rs α} {x : α} {y : Mh} (h : r.S fun a m => a = x ∧ m = y) : r = .ok x y := by
  cases r with
  | ok a m => obtain ⟨rfl, rfl⟩ := h; rfl
  | _ => exact h.elim
theorem S_of_eq {α : Type} {r : Rs α} {x : α} {y : Mh} {P : α → Mh → Prop} (e : r = .ok x y) (h : P x y) : r.S P := by rw [e]; exact h
/-! loops -/
theorem S_compGo {t : D → En → Option En} {tst : Bv} {elt : Ev} {env : En} (I : Nat → List D → Mh → Prop) : ∀ (ds : List D) {P : List D → Mh → Prop} (j : Nat) (acc : List D) (mh : Mh), I j acc mh →
    (∀ i d acc m, ds[i]? = some d → I (j + i) acc m → ∃ env1, t d env = some env1 ∧ (tst env1 m).S fun b m1 => if b = true then (elt env1 m1).S fun y m2 => I (j + i + 1) (acc ++ [y]) m2 else I (j + i + 1) acc m1) →
    (∀ xs m, I (j + ds.length) (acc ++ xs) m → P xs m) → (compGo t tst elt env ds mh).S P := by
  intro ds
  induction ds with
  | nil => intro P j acc mh h0 _ hd; exact hd [] mh (by rw [List.append_nil]; exact h0)
  | cons d r ih =>
    intro P j acc mh h0 hs hd
    obtain ⟨env1, h1, h2⟩ := hs 0 d acc mh rfl h0
    unfold compGo
    simp only [h1, S_bind, S_noEr]
    refine h2.mono fun b m1 h3 => ?_
    have hs' : ∀ i d' acc m, r[i]? = some d' → I (j + 1 + i) acc m → ∃ env1, t d' env = some env1 ∧ (tst env1 m).S fun b m1 => if b = true then (elt env1 m1).S fun y m2 => I (j + 1 + i + 1) (acc ++ [y]) m2 else I (j + 1 + i + 1) acc m1 := fun i d' acc m e hI => by
      have := hs (i + 1) d' acc m (by simpa using e) (by rw [show j + (i + 1) = j + 1 + i by omega]; exact hI)
      rw [show j + (i + 1) + 1 = j + 1 + i + 1 by omega] at this
      exact this
    cases b with
    | true =>
      rw [if_pos rfl] at h3
      simp only [if_true, S_bind, S_noEr]
      refine h3.mono fun y m2 h4 => ?_
      refine ih (j + 1) (acc ++ [y]) m2 h4 hs' fun xs m hx => ?_
      simp only [S_ok]
      refine hd (y :: xs) m ?_
      rw [List.length_cons, show j + (r.length + 1) = j + 1 + r.length by omega]
      simpa using hx
    | false =>
      rw [if_neg Bool.false_ne_true] at h3
      simp only [Bool.false_eq_true, if_false]
      refine ih (j + 1) acc m1 h3 hs' fun xs m hx => hd xs m ?_
      rw [List.length_cons, show j + (r.length + 1) = j + 1 + r.length by omega]
      exact hx
/-- a comprehension that leaves what is shared -/
theorem compGo_pure {t : D → En → Option En} {tst : Bv} {elt : Ev} {env : En} (p : D → Bool) (f : D → D) {mh : Mh} : ∀ (ds : List D), (∀ d ∈ ds, ∃ env1, t d env = some env1 ∧ tst env1 mh = .ok (p d) mh ∧ (p d = true → elt env1 mh = .ok (f d) mh)) →
    compGo t tst elt env ds mh = .ok ((ds.filter p).map f) mh
  | [], _ => rfl
  | d :: r, h => by
    obtain ⟨env1, h1, h2, h3⟩ := h d List.mem_cons_self
    have ih := compGo_pure (elt := elt) p f r fun d' hd => h d' (List.mem_cons_of_mem _ hd)
    unfold compGo
    simp only [h1, h2, noEr, Rs.bind]
    cases hp : p d with
    | true => simp only [if_true, h3 hp, ih, List.filter_cons, hp, List.map_cons]
    | false => simp only [Bool.false_eq_true, if_false, ih, List.filter_cons, hp]
theorem S_comp {vs : List Nat} {src : Iv} {t : D → En → Option En} {tst : Bv} {elt : Ev} {env : En} {mh : Mh} {P : Cel → Mh → Prop} (h : (src env mh).S fun ds m1 => noOwn env vs = true ∧ ds.length ≤ LIM ∧ (compGo t tst elt (wipeE env vs) ds m1).S fun xs m2 => P (.ol xs) m2) : (mCompC vs src t tst elt env mh).S P := by
  unfold mCompC
  rw [S_bind]
  refine h.mono fun ds m1 ⟨h1, h2, h3⟩ => ?_
  rw [if_pos (by rw [h1, decide_eq_true h2]; rfl), S_bind]
  exact h3.mono fun xs m2 h4 => h4
theorem S_fz {m : Cv} {env : En} {mh : Mh} {P : D → Mh → Prop} (h : (m env mh).S fun cel m1 => ∃ d, cel.d = some d ∧ P d m1) : (mFz m env mh).S P := by
  unfold mFz
  rw [S_bind]
  refine h.mono fun cel m1 ⟨d, e, hd⟩ => ?_
  rw [e]
  exact hd
theorem S_fzComp {vs : List Nat} {src : Iv} {t : D → En → Option En} {tst : Bv} {elt : Ev} {env : En} {mh : Mh} {P : D → Mh → Prop} (h : (src env mh).S fun ds m1 => noOwn env vs = true ∧ ds.length ≤ LIM ∧ (compGo t tst elt (wipeE env vs) ds m1).S fun xs m2 => P (.lst xs) m2) : (mFz (mCompC vs src t tst elt) env mh).S P :=
  S_fz (S_comp (h.mono fun ds m1 ⟨h1, h2, h3⟩ => ⟨h1, h2, h3.mono fun xs m2 h4 => ⟨_, rfl, h4⟩⟩))
theorem fzComp_pure {vs : List Nat} {src : Iv} {t : D → En → Option En} {tst : Bv} {elt : Ev} {env : En} {mh : Mh} {ds : List D} (p : D → Bool) (f : D → D) (h1 : src env mh = .ok ds mh) (h2 : noOwn env vs = true) (h3 : ds.length ≤ LIM)
    (h4 : ∀ d ∈ ds, ∃ env1, t d (wipeE env vs) = some env1 ∧ tst env1 mh = .ok (p d) mh ∧ (p d = true → elt env1 mh = .ok (f d) mh)) : mFz (mCompC vs src t tst elt) env mh = .ok (.lst ((ds.filter p).map f)) mh := by
  unfold mFz mCompC
  simp only [h1, Rs.bind, h2, decide_eq_true h3, Bool.and_self, if_true, compGo_pure p f ds h4]
  rfl
theorem S_forGo {t : D → En → Option En} {body : Sv} (I : Nat → En → Mh → Prop) {N : En → Mh → Prop} {T : D → Mh → Prop} {C : En → Mh → Prop} : ∀ (ds : List D) (j : Nat) (env : En) (mh : Mh), I j env mh →
    (∀ i d e m, ds[i]? = some d → I (j + i) e m → ∃ env1, t d e = some env1 ∧ (body env1 m).S (I (j + i + 1)) T (I (j + i + 1))) →
    (∀ e m, I (j + ds.length) e m → N e m) → (forGo t body ds env mh).S N T C := by
  intro ds
  induction ds with
  | nil => intro j env mh h0 _ hd; exact hd _ _ h0
  | cons d r ih =>
    intro j env mh h0 hs hd
    obtain ⟨env1, h1, h2⟩ := hs 0 d env mh rfl h0
    unfold forGo
    simp only [h1]
    have hs' : ∀ i d' e m, r[i]? = some d' → I (j + 1 + i) e m → ∃ env1, t d' e = some env1 ∧ (body env1 m).S (I (j + 1 + i + 1)) T (I (j + 1 + i + 1)) := fun i d' e m e1 hI => by
      have := hs (i + 1) d' e m (by simpa using e1) (by rw [show j + (i + 1) = j + 1 + i by omega]; exact hI)
      rw [show j + (i + 1) + 1 = j + 1 + i + 1 by omega] at this
      exact this
    have hd' : ∀ e m, I (j + 1 + r.length) e m → N e m := fun e m hI => hd e m (by rw [List.length_cons, show j + (r.length + 1) = j + 1 + r.length by omega]; exact hI)
    cases hb : body env1 mh <;> rw [hb] at h2 <;> first | exact h2.elim | skip
    · exact ih (j + 1) _ _ h2 hs' hd'
    · exact h2
    · exact ih (j + 1) _ _ h2 hs' hd'
theorem S_for {src : Iv} {t : D → En → Option En} {body : Sv} {env : En} {mh : Mh} {N T C} (h : (src env mh).S fun ds m1 => (forGo t body ds env m1).S N T C) : (mFor src t body env mh).S N T C := by
  unfold mFor; rw [S_bindS]; exact h
end Mi

set_option Elab.async false
set_option linter.all false
set_option maxRecDepth 100000
namespace Mi
open PySem L2
section
variable {env : En} {mh : Mh} {P : D → Mh → Prop} {PB : Bool → Mh → Prop} {PA : List D → Mh → Prop} {PC : Cel → Mh → Prop} {N C : En → Mh → Prop} {T : D → Mh → Prop} {a b d : Ev} {x : D}
@[simp] theorem S_okS {α : Type} {a : α} {m : Mh} {P : α → Mh → Prop} : (Rs.ok a m).S P = P a m := rfl
@[simp] theorem S_no {α : Type} {P : α → Mh → Prop} : (Rs.no : Rs α).S P = False := rfl
@[simp] theorem S_rtS {e : D} {m : Mh} : (Rz.rt e m).S N T C = T e m := rfl
@[simp] theorem S_nxS {e : En} {m : Mh} : (Rz.nx e m).S N T C = N e m := rfl
@[simp] theorem S_noS : (Rz.no).S N T C = False := rfl
@[simp] theorem S_lift {α : Type} {o : Option α} {P : α → Mh → Prop} : (lift o mh).S P = match o with | some d => P d mh | none => False := by cases o <;> rfl
@[simp] theorem S_var {i : Nat} : (mVar i env mh).S P = match env[i]? with | some s => (match s with | .sh d => P d mh | _ => False) | none => False := by
  unfold mVar
  cases env[i]? with
  | none => rfl
  | some s => cases s <;> rfl
@[simp] theorem S_C : (mC x env mh).S P = P x mh := rfl
@[simp] theorem S_m2 {f : D → D → Option D} : (m2 f a b env mh).S P = (a env mh).S fun x m1 => (b env m1).S fun y m2 => (lift (f x y) m2).S P := by simp only [m2, S_bind]
@[simp] theorem S_m1 {f : D → Option D} : (m1 f a env mh).S P = (a env mh).S fun x m1 => (lift (f x) m1).S P := by simp only [m1, S_bind]
@[simp] theorem S_ix : (mIx a b env mh).S P = (a env mh).S fun x m1 => (b env m1).S fun y m2 => (lift (dIx m2 x y) m2).S P := by simp only [mIx, S_bind]
@[simp] theorem S_nil : (mNil env mh).S PA = PA [] mh := rfl
@[simp] theorem S_cons {ms : Av} : (mCons a ms env mh).S PA = (a env mh).S fun d m1 => (ms env m1).S fun ds m2 => PA (d :: ds) m2 := by simp only [mCons, S_bind, S_okS]
@[simp] theorem S_tup {ms : Av} : (mTup ms env mh).S P = (ms env mh).S fun ds m1 => if ds.length ≤ LIM then P (.tup ds) m1 else False := by
  simp only [mTup, S_bind]; congr; funext ds m1; split <;> rfl
@[simp] theorem S_lst {ms : Av} : (mLst ms env mh).S P = (ms env mh).S fun ds m1 => if ds.length ≤ LIM then P (.lst ds) m1 else False := by
  simp only [mLst, S_bind]; congr; funext ds m1; split <;> rfl
@[simp] theorem S_lstC {ms : Av} : (mLstC ms env mh).S PC = (ms env mh).S fun ds m1 => if ds.length ≤ LIM then PC (.ol ds) m1 else False := by
  simp only [mLstC, S_bind]; congr; funext ds m1; split <;> rfl
@[simp] theorem S_sh : (mSh a env mh).S PC = (a env mh).S fun d m1 => PC (.sh d) m1 := by simp only [mSh, S_bind, S_okS]
@[simp] theorem S_mB {f : List D → Option D} {ms : Av} : (mB f ms env mh).S P = (ms env mh).S fun ds m1 => (lift (f ds) m1).S P := by simp only [mB, S_bind]
@[simp] theorem S_call {np : Nat} {call : List D → Mh → Rs D} {ms : Av} : (mCall np call ms env mh).S P = (ms env mh).S fun ds m1 => if ds.length = np then (call ds m1).S P else False := by
  simp only [mCall, S_bind]; congr; funext ds m1; split <;> rfl
@[simp] theorem S_isi {t : String} : (mIsi t a env mh).S P = (a env mh).S fun d m1 => if d.isDct = true then False else (lift (dIsi t d) m1).S P := by
  simp only [mIsi, S_bind]; congr; funext ds m1; split <;> rfl
@[simp] theorem S_T : (mT a env mh).S PB = (a env mh).S fun d m1 => match d with | .bl b => PB b m1 | _ => False := by
  simp only [mT, S_bind]; congr; funext d m1; cases d <;> rfl
@[simp] theorem S_and {p q : Bv} : (mAnd p q env mh).S PB = (p env mh).S fun x m1 => if x = true then (q env m1).S PB else PB false m1 := by
  simp only [mAnd, S_bind]; congr; funext d m1; split <;> rfl
@[simp] theorem S_or {p q : Bv} : (mOr p q env mh).S PB = (p env mh).S fun x m1 => if x = true then PB true m1 else (q env m1).S PB := by
  simp only [mOr, S_bind]; congr; funext d m1; split <;> rfl
@[simp] theorem S_not {p : Bv} : (mNot p env mh).S PB = (p env mh).S fun x m1 => PB (!x) m1 := by simp only [mNot, S_bind, S_okS]
@[simp] theorem S_andV : (mAndV a b env mh).S P = (a env mh).S fun x m1 => match x with | .bl k => (if k = true then (b env m1).S P else P (.bl false) m1) | _ => False := by
  simp only [mAndV, S_bind]; congr; funext d m1; cases d <;> first | rfl | (rename_i k; cases k <;> rfl)
@[simp] theorem S_orV : (mOrV a b env mh).S P = (a env mh).S fun x m1 => match x with | .bl k => (if k = true then P (.bl true) m1 else (b env m1).S P) | _ => False := by
  simp only [mOrV, S_bind]; congr; funext d m1; cases d <;> first | rfl | (rename_i k; cases k <;> rfl)
@[simp] theorem S_notV : (mNotV a env mh).S P = (a env mh).S fun x m1 => match x with | .bl k => P (.bl (!k)) m1 | _ => False := by
  simp only [mNotV, S_bind]; congr; funext d m1; cases d <;> rfl
@[simp] theorem S_if {t : Bv} : (mIf t a b env mh).S P = (t env mh).S fun x m1 => if x = true then (a env m1).S P else (b env m1).S P := by
  simp only [mIf, S_bind]; congr; funext d m1; split <;> rfl
@[simp] theorem S_chain {f g : D → D → Option D} : (mChain f g a b d env mh).S P = (a env mh).S fun x m1 => (b env m1).S fun y m2 => (lift (f x y) m2).S fun k m3 => match k with | .bl k => (if k = true then (d env m3).S fun z m4 => (lift (g y z) m4).S P else P (.bl false) m3) | _ => False := by
  simp only [mChain, S_bind]; congr; funext x m1; congr; funext y m2; congr; funext k m3
  unfold chK
  cases k <;> first | rfl | (rename_i k; cases k <;> simp [S_bind])
@[simp] theorem S_meth {chk : D → Bool} {f : D → List D → Option D} {ms : Av} : (mMeth chk f a ms env mh).S P = (a env mh).S fun x m1 => if chk x = true then (ms env m1).S fun ds m2 => (lift (f x ds) m2).S P else False := by
  simp only [mMeth, S_bind]; congr; funext d m1; split <;> simp [S_bind, *]
@[simp] theorem S_Ino : (mNo env mh).S (fun o m => PB o.isSome m) = PB false mh := rfl
@[simp] theorem S_sl {l u : En → Mh → Rs (Option Int)} : (mSl a l u env mh).S P = (a env mh).S fun x m1 => (l env m1).S fun lo m2 => (u env m2).S fun hi m3 => (lift (dSl x lo hi) m3).S P := by simp only [mSl, S_bind]
@[simp] theorem S_mNo {P : Option Int → Mh → Prop} : (mNo env mh).S P = P none mh := rfl
@[simp] theorem S_mSo {P : Option Int → Mh → Prop} : (mSo a env mh).S P = (a env mh).S fun d m1 => match d with | .int i => P (some i) m1 | _ => False := by
  simp only [mSo, S_bind]; congr; funext d m1; cases d <;> rfl
@[simp] theorem S_tt : (tt env mh).S PB = PB true mh := rfl
@[simp] theorem S_iter : (mIter a env mh).S PA = (a env mh).S fun d m1 => (lift (itemsD d) m1).S PA := by simp only [mIter, S_bind]
@[simp] theorem S_rng {f : List D → Option (List D)} {ms : Av} : (mRng f ms env mh).S PA = (ms env mh).S fun ds m1 => (lift (f ds) m1).S PA := by simp only [mRng, S_bind]
/-! statements -/
@[simp] theorem S_seqS {p q : Sv} : (mSeq p q env mh).S N T C = (p env mh).S (fun e m => (q e m).S N T C) T C := S_seq
@[simp] theorem S_skip : (mSkip env mh).S N T C = N env mh := rfl
@[simp] theorem S_cont : (mCont env mh).S N T C = C env mh := rfl
@[simp] theorem S_never : (mNever env mh).S N T C = False := rfl
@[simp] theorem S_ret : (mRet a env mh).S N T C = (a env mh).S T := by simp only [mRet, S_bindS, S_rtS]
@[simp] theorem S_retN : (mRetN env mh).S N T C = T .non mh := rfl
@[simp] theorem S_drop : (mDrop a env mh).S N T C = (a env mh).S fun _ m => N env m := by simp only [mDrop, S_bindS, S_nxS]
@[simp] theorem S_ifS {t : Bv} {p q : Sv} : (mIfS t p q env mh).S N T C = (t env mh).S fun k m => if k = true then (p env m).S N T C else (q env m).S N T C := by
  simp only [mIfS, S_bindS]; congr; funext k m; split <;> rfl
@[simp] theorem S_set {i : Nat} {m : Cv} : (mSet i m env mh).S N T C = (m env mh).S fun cel m1 => if i < env.length then N (env.set i cel) m1 else False := by
  simp only [mSet, S_bindS]; congr; funext k m; split <;> rfl
@[simp] theorem S_asg {t : D → En → Option En} : (mAsg t a env mh).S N T C = (a env mh).S fun d m1 => match t d env with | some e1 => N e1 m1 | none => False := by
  simp only [mAsg, S_bindS]; congr; funext d m; cases t d env <;> rfl
@[simp] theorem S_par {i j : Nat} {m n : Cv} : (mPar' i j m n env mh).S N T C = (m env mh).S fun ca m1 => (n env m1).S fun cb m2 => if i < env.length ∧ j < env.length then N ((env.set i ca).set j cb) m2 else False := by
  simp only [mPar', mPar, S_bindS, S_noEr]; congr; funext ca m1; congr; funext cb m2; split <;> rfl
@[simp] theorem S_app {i : Nat} : (mApp i a env mh).S N T C = match env[i]? with | some (.ol ds) => (a env mh).S fun d m1 => (if ds.length < LIM then N (env.set i (.ol (ds ++ [d]))) m1 else False) | _ => False := by
  unfold mApp
  cases env[i]? with
  | none => rfl
  | some s =>
    cases s <;> first | rfl | skip
    simp only [S_bindS]; congr; funext d m1; split <;> rfl
@[simp] theorem S_retLoc {ms : Av} : (mRetLoc ms env mh).S N T C = (ms env mh).S fun ds m1 => if ds.length ≤ LIM then T (.loc m1.length) (m1 ++ [.lst ds]) else False := by
  simp only [mRetLoc, S_bindS]; congr; funext ds m1; split <;> rfl
@[simp] theorem S_frz {i : Nat} {p : Sv} : (mFrz i p env mh).S N T C = match env[i]? with | some s => (match s.own with | true => (match s.d with | some d => (p (env.set i (.sh d)) mh).S N T C | none => False) | false => (p env mh).S N T C) | none => False := by
  unfold mFrz
  cases env[i]? with
  | none => rfl
  | some s =>
    simp only
    cases s.own with
    | true => simp only; cases s.d <;> rfl
    | false => rfl
end
/-! ### operators at values -/
@[simp] theorem fine_int {i : Int} : (D.int i).fine = true := by simp [D.fine, D.plain, D.dep]
@[simp] theorem fine_str {i : Str} : (D.str i).fine = true := by simp [D.fine, D.plain, D.dep]
@[simp] theorem fine_bl {i : Bool} : (D.bl i).fine = true := by simp [D.fine, D.plain, D.dep]
@[simp] theorem fine_non : (D.non).fine = true := by simp [D.fine, D.plain, D.dep]
@[simp] theorem eqv_int {i j : Int} : eqv (.int i) (.int j) = decide (i = j) := by simp [eqv, D.py, PyData.eqv]; rfl
@[simp] theorem eqv_str {i j : Str} : eqv (.str i) (.str j) = decide (i = j) := by
  simp only [eqv, D.py, PyData.eqv]
  by_cases h : i = j
  · subst h; simp
  · rw [decide_eq_false h]; simpa using h
@[simp] theorem eqv_bl {i j : Bool} : eqv (.bl i) (.bl j) = (i == j) := by simp [eqv, D.py, PyData.eqv]
@[simp] theorem dEq_int {i j : Int} : dEq (.int i) (.int j) = some (.bl (decide (i = j))) := by simp [dEq]
@[simp] theorem dNe_int {i j : Int} : dNe (.int i) (.int j) = some (.bl (!decide (i = j))) := by simp [dNe]
@[simp] theorem dEq_str {i j : Str} : dEq (.str i) (.str j) = some (.bl (decide (i = j))) := by simp [dEq]
@[simp] theorem dNe_str {i j : Str} : dNe (.str i) (.str j) = some (.bl (!decide (i = j))) := by simp [dNe]
@[simp] theorem dNe_bl {i j : Bool} : dNe (.bl i) (.bl j) = some (.bl (!(i == j))) := by simp [dNe]
@[simp] theorem dEq_bl {i j : Bool} : dEq (.bl i) (.bl j) = some (.bl (i == j)) := by simp [dEq]
theorem lt_int' {i j : Int} : lt (.int i) (.int j) = decide (i < j) := by simp only [lt, D.py]; exact PySem.W.dataLt_int i j
theorem ord_int {i j : Int} : ord (.int i) (.int j) = true := by simp [ord, D.py, PySem.W.alike, D.isNon]
@[simp] theorem dLt_int {i j : Int} : dLt (.int i) (.int j) = some (.bl (decide (i < j))) := by simp [dLt, ord_int, lt_int']
@[simp] theorem dGt_int {i j : Int} : dGt (.int i) (.int j) = some (.bl (decide (j < i))) := by simp [dGt, ord_int, lt_int']
@[simp] theorem dLe_int {i j : Int} : dLe (.int i) (.int j) = some (.bl (decide (i ≤ j))) := by
  simp only [dLe, ord_int, lt_int', if_true]
  congr 2
  by_cases h : i ≤ j
  · rw [decide_eq_true h, decide_eq_false (by omega)]; rfl
  · rw [decide_eq_false h, decide_eq_true (by omega)]; rfl
@[simp] theorem dGe_int {i j : Int} : dGe (.int i) (.int j) = some (.bl (decide (j ≤ i))) := by
  simp only [dGe, ord_int, lt_int', if_true]
  congr 2
  by_cases h : j ≤ i
  · rw [decide_eq_true h, decide_eq_false (by omega)]; rfl
  · rw [decide_eq_false h, decide_eq_true (by omega)]; rfl
@[simp] theorem dAdd_int {i j : Int} : dAdd (.int i) (.int j) = some (.int (i + j)) := rfl
@[simp] theorem dSub_int {i j : Int} : dSub (.int i) (.int j) = some (.int (i - j)) := rfl
section
variable {b : Bool} {i : Int} {z : Str} {ds : List D}
@[simp] theorem isi_int_non : dIsi "int" .non = some (.bl false) := by first | rfl | decide +kernel
@[simp] theorem isi_int_bl : dIsi "int" (.bl b) = some (.bl true) := by first | rfl | decide +kernel
@[simp] theorem isi_int_int : dIsi "int" (.int i) = some (.bl true) := by first | rfl | decide +kernel
@[simp] theorem isi_int_str : dIsi "int" (.str z) = some (.bl false) := by first | rfl | decide +kernel
@[simp] theorem isi_int_tup : dIsi "int" (.tup ds) = some (.bl false) := by first | rfl | decide +kernel
@[simp] theorem isi_int_ktup : dIsi "int" (.ktup ds) = some (.bl false) := by first | rfl | decide +kernel
@[simp] theorem isi_int_lst : dIsi "int" (.lst ds) = some (.bl false) := by first | rfl | decide +kernel
@[simp] theorem isi_int_rol : dIsi "int" (.rol ds) = some (.bl false) := by first | rfl | decide +kernel
@[simp] theorem isi_bool_non : dIsi "bool" .non = some (.bl false) := by first | rfl | decide +kernel
@[simp] theorem isi_bool_bl : dIsi "bool" (.bl b) = some (.bl true) := by first | rfl | decide +kernel
@[simp] theorem isi_bool_int : dIsi "bool" (.int i) = some (.bl false) := by first | rfl | decide +kernel
@[simp] theorem isi_bool_str : dIsi "bool" (.str z) = some (.bl false) := by first | rfl | decide +kernel
@[simp] theorem isi_bool_tup : dIsi "bool" (.tup ds) = some (.bl false) := by first | rfl | decide +kernel
@[simp] theorem isi_bool_ktup : dIsi "bool" (.ktup ds) = some (.bl false) := by first | rfl | decide +kernel
@[simp] theorem isi_bool_lst : dIsi "bool" (.lst ds) = some (.bl false) := by first | rfl | decide +kernel
@[simp] theorem isi_bool_rol : dIsi "bool" (.rol ds) = some (.bl false) := by first | rfl | decide +kernel
@[simp] theorem isi_str_non : dIsi "str" .non = some (.bl false) := by first | rfl | decide +kernel
@[simp] theorem isi_str_bl : dIsi "str" (.bl b) = some (.bl false) := by first | rfl | decide +kernel
@[simp] theorem isi_str_int : dIsi "str" (.int i) = some (.bl false) := by first | rfl | decide +kernel
@[simp] theorem isi_str_str : dIsi "str" (.str z) = some (.bl true) := by first | rfl | decide +kernel
@[simp] theorem isi_str_tup : dIsi "str" (.tup ds) = some (.bl false) := by first | rfl | decide +kernel
@[simp] theorem isi_str_ktup : dIsi "str" (.ktup ds) = some (.bl false) := by first | rfl | decide +kernel
@[simp] theorem isi_str_lst : dIsi "str" (.lst ds) = some (.bl false) := by first | rfl | decide +kernel
@[simp] theorem isi_str_rol : dIsi "str" (.rol ds) = some (.bl false) := by first | rfl | decide +kernel
@[simp] theorem isi_tuple_non : dIsi "tuple" .non = some (.bl false) := by first | rfl | decide +kernel
@[simp] theorem isi_tuple_bl : dIsi "tuple" (.bl b) = some (.bl false) := by first | rfl | decide +kernel
@[simp] theorem isi_tuple_int : dIsi "tuple" (.int i) = some (.bl false) := by first | rfl | decide +kernel
@[simp] theorem isi_tuple_str : dIsi "tuple" (.str z) = some (.bl false) := by first | rfl | decide +kernel
@[simp] theorem isi_tuple_tup : dIsi "tuple" (.tup ds) = some (.bl true) := by first | rfl | decide +kernel
@[simp] theorem isi_tuple_ktup : dIsi "tuple" (.ktup ds) = some (.bl true) := by first | rfl | decide +kernel
@[simp] theorem isi_tuple_lst : dIsi "tuple" (.lst ds) = some (.bl false) := by first | rfl | decide +kernel
@[simp] theorem isi_tuple_rol : dIsi "tuple" (.rol ds) = some (.bl false) := by first | rfl | decide +kernel
@[simp] theorem dct_non : D.isDct .non = false := rfl
@[simp] theorem dct_bl : D.isDct (.bl b) = false := rfl
@[simp] theorem dct_int : D.isDct (.int i) = false := rfl
@[simp] theorem dct_str : D.isDct (.str z) = false := rfl
@[simp] theorem dct_tup : D.isDct (.tup ds) = false := rfl
@[simp] theorem dct_ktup : D.isDct (.ktup ds) = false := rfl
@[simp] theorem dct_lst : D.isDct (.lst ds) = false := rfl
@[simp] theorem dct_rol : D.isDct (.rol ds) = false := rfl
end
end Mi

set_option Elab.async false
set_option linter.all false
set_option maxRecDepth 100000
namespace Mi
open PySem L2
@[simp] theorem gSet_S {i : Nat} {d : D} {env : En} : gSet i d env = if i < env.length then some (env.set i (.sh d)) else none := rfl
@[simp] theorem gTup_S {n : Nat} {u : List D → En → Option En} {ds : List D} {env : En} : gTupD n u (.tup ds) env = if ds.length = n then u ds env else none := rfl
@[simp] theorem gTup_K {n : Nat} {u : List D → En → Option En} {ds : List D} {env : En} : gTupD n u (.ktup ds) env = if ds.length = n then u ds env else none := rfl
@[simp] theorem gsCons_S {t : D → En → Option En} {u : List D → En → Option En} {d : D} {r : List D} {env : En} : gsCons t u (d :: r) env = (t d env).bind fun e => u r e := rfl
@[simp] theorem gsNil_S {ds : List D} {env : En} : gsNil ds env = some env := rfl
theorem S_eqs {α : Type} {r : Rs α} {x : α} {y : Mh} (h : r.S fun a m => a = x ∧ m = y) : r = .ok x y := eq_of_S h
/-- a comprehension over told items that leaves what is shared -/
theorem S_fzMap {α : Type} (xs : List α) (c : α → D) (p : α → Bool) (f : α → D) {vs : List Nat} {src : Iv} {t : D → En → Option En} {tst : Bv} {elt : Ev} {env : En} {mh : Mh} {P : D → Mh → Prop}
    (h1 : (src env mh).S fun ds m1 => ds = xs.map c ∧ m1 = mh) (h2 : noOwn env vs = true) (h3 : xs.length ≤ LIM)
    (h4 : ∀ x ∈ xs, ∃ env1, t (c x) (wipeE env vs) = some env1 ∧ (tst env1 mh).S (fun b m => b = p x ∧ m = mh) ∧ (p x = true → (elt env1 mh).S fun y m => y = f x ∧ m = mh)) (hP : P (.lst ((xs.filter p).map f)) mh) : (mFz (mCompC vs src t tst elt) env mh).S P := by
  have key : ∀ xs : List α, (∀ x ∈ xs, ∃ env1, t (c x) (wipeE env vs) = some env1 ∧ (tst env1 mh).S (fun b m => b = p x ∧ m = mh) ∧ (p x = true → (elt env1 mh).S fun y m => y = f x ∧ m = mh)) → compGo t tst elt (wipeE env vs) (xs.map c) mh = .ok ((xs.filter p).map f) mh := by
    intro xs
    induction xs with
    | nil => intro _; rfl
    | cons x r ih =>
      intro h
      obtain ⟨env1, a1, a2, a3⟩ := h x List.mem_cons_self
      have ih := ih fun y hy => h y (List.mem_cons_of_mem _ hy)
      rw [List.map_cons]
      unfold compGo
      simp only [a1, S_eqs a2, noEr, Rs.bind]
      cases hp : p x with
      | true => simp only [if_true, S_eqs (a3 hp), ih, List.filter_cons, hp, List.map_cons]
      | false => simp only [Bool.false_eq_true, if_false, ih, List.filter_cons, hp]
  refine S_fzComp (h1.mono fun ds m1 ⟨e1, e2⟩ => ?_)
  subst e1
  subst e2
  refine ⟨h2, by rw [List.length_map]; exact h3, ?_⟩
  rw [key xs h4]
  exact hP
/-- the same, no test -/
theorem S_fzAll {α : Type} (xs : List α) (c : α → D) (f : α → D) {vs : List Nat} {src : Iv} {t : D → En → Option En} {elt : Ev} {env : En} {mh : Mh} {P : D → Mh → Prop}
    (h1 : (src env mh).S fun ds m1 => ds = xs.map c ∧ m1 = mh) (h2 : noOwn env vs = true) (h3 : xs.length ≤ LIM)
    (h4 : ∀ x ∈ xs, ∃ env1, t (c x) (wipeE env vs) = some env1 ∧ (elt env1 mh).S fun y m => y = f x ∧ m = mh) (hP : P (.lst (xs.map f)) mh) : (mFz (mCompC vs src t tt elt) env mh).S P :=
  S_fzMap xs c (fun _ => true) f h1 h2 h3 (fun x hx => let ⟨e, a, b⟩ := h4 x hx; ⟨e, a, ⟨rfl, rfl⟩, fun _ => b⟩) (by rw [List.filter_eq_self.mpr fun _ _ => rfl]; exact hP)
theorem S_fz2Map {α β : Type} (xs : List α) (c : α → D) (ys : α → List β) (c1 : α → β → D) (f : α → β → D) {vs vs1 : List Nat} {src src1 : Iv} {t t1 : D → En → Option En} {elt : Ev} {env : En} {mh : Mh} {P : D → Mh → Prop}
    (h1 : (src env mh).S fun ds m1 => ds = xs.map c ∧ m1 = mh) (h2 : noOwn env vs = true)
    (h4 : ∀ x ∈ xs, ∃ env1, t (c x) (wipeE env vs) = some env1 ∧ ((src1 env1 mh).S fun ds m => ds = (ys x).map (c1 x) ∧ m = mh) ∧ ∀ y ∈ ys x, ∃ env2, t1 (c1 x y) (wipeE env1 vs1) = some env2 ∧ (elt env2 mh).S fun z m => z = f x y ∧ m = mh)
    (hl : (xs.flatMap fun x => (ys x).map (f x)).length ≤ LIM) (hP : P (.lst (xs.flatMap fun x => (ys x).map (f x))) mh) : (mFz (mCompC2 vs vs1 src t tt src1 t1 tt elt) env mh).S P := by
  have key1 : ∀ (env2 : En) (x : α) (ys : List β), (∀ y ∈ ys, ∃ env3, t1 (c1 x y) env2 = some env3 ∧ (elt env3 mh).S fun z m => z = f x y ∧ m = mh) → compGo t1 tt elt env2 (ys.map (c1 x)) mh = .ok (ys.map (f x)) mh := by
    intro env2 x ys
    induction ys with
    | nil => intro _; rfl
    | cons y r ih =>
      intro h
      obtain ⟨env3, a1, a2⟩ := h y List.mem_cons_self
      rw [List.map_cons]
      unfold compGo
      have a4 : ∀ e, tt e mh = .ok true mh := fun _ => rfl
      simp only [a1, a4, noEr, Rs.bind, if_true, S_eqs a2, ih fun z hz => h z (List.mem_cons_of_mem _ hz), List.map_cons]
  have key : ∀ xs : List α, (∀ x ∈ xs, ∃ env1, t (c x) (wipeE env vs) = some env1 ∧ ((src1 env1 mh).S fun ds m => ds = (ys x).map (c1 x) ∧ m = mh) ∧ ∀ y ∈ ys x, ∃ env2, t1 (c1 x y) (wipeE env1 vs1) = some env2 ∧ (elt env2 mh).S fun z m => z = f x y ∧ m = mh) →
      compGo2 vs1 t tt src1 t1 tt elt (wipeE env vs) (xs.map c) mh = .ok (xs.flatMap fun x => (ys x).map (f x)) mh := by
    intro xs
    induction xs with
    | nil => intro _; rfl
    | cons x r ih =>
      intro h
      obtain ⟨env1, a1, a2, a3⟩ := h x List.mem_cons_self
      have ih := ih fun y hy => h y (List.mem_cons_of_mem _ hy)
      rw [List.map_cons]
      unfold compGo2
      have a4 : ∀ e, tt e mh = .ok true mh := fun _ => rfl
      have k1 := key1 (wipeE env1 vs1) x (ys x) a3
      simp only [a1, a4, noEr, Rs.bind, if_true, S_eqs a2, List.flatMap_cons, k1, ih]
  unfold mFz mCompC2
  simp only [S_bind]
  refine h1.mono fun ds m1 ⟨e1, e2⟩ => ?_
  subst e1
  subst e2
  rw [if_pos h2, key xs h4]
  simp only [noEr, Rs.bind, if_pos hl]
  exact hP
@[simp] theorem blsOf_map {α : Type} (g : α → Bool) : ∀ xs : List α, blsOf (xs.map fun x => .bl (g x)) = some (xs.map g)
  | [] => rfl
  | x :: r => by simp [blsOf, blsOf_map g r]
@[simp] theorem intsOf_map {α : Type} (g : α → Int) : ∀ xs : List α, intsOf (xs.map fun x => .int (g x)) = some (xs.map g)
  | [] => rfl
  | x :: r => by simp [intsOf, intsOf_map g r]
@[simp] theorem strsOf_map {α : Type} (g : α → Str) : ∀ xs : List α, strsOf (xs.map fun x => .str (g x)) = some (xs.map g)
  | [] => rfl
  | x :: r => by simp [strsOf, strsOf_map g r]
theorem dAll_map {α : Type} (g : α → Bool) (xs : List α) : dAll (.lst (xs.map fun x => .bl (g x))) = some (.bl (xs.all g)) := by
  simp [dAll, List.all_map, Function.comp_def]
theorem LIM_eq : LIM = 1000000 := rfl
/-! subscripts -/
theorem atI_nat' {α : Type} {l : List α} {i : Nat} {x : α} (h : l[i]? = some x) : atI l (i : Int) = some x := by
  have hi : i < l.length := (List.getElem?_eq_some_iff.mp h).1
  unfold atI ixN
  rw [if_pos (Int.natCast_nonneg i), if_pos (by omega)]
  exact h
end Mi

set_option Elab.async false
set_option linter.all false
set_option maxRecDepth 100000
set_option maxHeartbeats 1000000
namespace Mi
open PySem L2
def leaf : D → Bool
  | .non => true
  | .bl _ => true
  | .int _ => true
  | .str _ => true
  | .tup _ => true
  | .lst _ => true
  | _ => false
def scal : D → Bool
  | .non => true
  | .bl _ => true
  | .int _ => true
  | .str _ => true
  | _ => false
def whole : D → Bool
  | .int _ => true
  | _ => false
def wholeIn (lo hi : Int) : D → Bool
  | .int i => decide (lo ≤ i) && decide (i ≤ hi)
  | _ => false
def tupOf (lo hi : Int) : D → Bool
  | .tup ds => decide (lo ≤ ds.length) && decide ((ds.length : Int) ≤ hi)
  | .ktup ds => decide (lo ≤ ds.length) && decide ((ds.length : Int) ≤ hi)
  | _ => false
/-- a sign of a plot -/
def okCh (c : Nat) : Prop := c = 46 ∨ (97 ≤ c ∧ c ≤ 104)
def inK (ks : Str) (c : Nat) : Prop := c = 46 ∨ c ∈ ks.cps.toList
def RowK (w : Nat) (ks : Str) (r : Str) : Prop := r.cps.size = w ∧ ∀ c ∈ r.cps.toList, inK ks c
structure PlotOk (rows : List Str) (w : Nat) : Prop where
  h1 : 1 ≤ rows.length
  h2 : rows.length ≤ 12
  w1 : 1 ≤ w
  w2 : w ≤ 12
  row : ∀ r ∈ rows, r.cps.size = w
  ch : ∀ r ∈ rows, ∀ c ∈ r.cps.toList, okCh c
abbrev plotD (rows : List Str) : D := .tup (rows.map .str)
theorem in_kinds {c : Nat} (h1 : 97 ≤ c) (h2 : c ≤ 104) : inStr (chr1 c) "abcdefgh" = true := by
  have : ∀ k : Fin 8, inStr (chr1 (97 + k.val)) "abcdefgh" = true := by decide +kernel
  have h := this ⟨c - 97, by omega⟩
  simp only at h
  rw [show 97 + (c - 97) = c by omega] at h
  exact h
theorem chr_bare (c : Nat) : decide (chr1 c = ".") = decide (c = 46) := by
  by_cases h : c = 46
  · subst h; rfl
  · rw [decide_eq_false h, decide_eq_false]
    intro e
    have h2 : (#[c] : Array Nat) = #[46] := congrArg Str.cps e
    exact h (by simpa using h2)
def places (h w : Nat) : List (Nat × Nat) := (List.range h).flatMap fun r => (List.range w).map fun c => (r, c)
def plD (p : Nat × Nat) : D := .tup [.int (p.1 : Nat), .int (p.2 : Nat)]
theorem rng_map (n : Nat) : rngD 0 n = (List.range n).map fun (k : Nat) => D.int (k : Nat) := by simp [rngD]
theorem len_places (h w : Nat) : (places h w).length = h * w := by
  unfold places
  rw [List.length_flatMap]
  simp only [List.length_map, List.length_range]
  induction h with
  | zero => simp
  | succ n ih => rw [List.range_succ, List.map_append, List.sum_append, ih, Nat.succ_mul]; simp
def rowAt (rows : List Str) (r : Nat) : Str := rows.getD r ⟨#[]⟩
def sgn (rows : List Str) (p : Nat × Nat) : Nat := (rowAt rows p.1).cps.toList.getD p.2 0
theorem sgn_of {rows : List Str} {p : Nat × Nat} {r : Str} {ch : Nat} (hr : rows[p.1]? = some r) (hc : r.cps.toList[p.2]? = some ch) : sgn rows p = ch := by
  unfold sgn rowAt
  simp only [List.getD_eq_getElem?_getD, hr, Option.getD_some, hc]
def bare (rows : List Str) (p : Nat × Nat) : Bool := decide (sgn rows p = 46)
theorem mem_places {h w : Nat} {p : Nat × Nat} : p ∈ places h w ↔ p.1 < h ∧ p.2 < w := by
  unfold places
  simp only [List.mem_flatMap, List.mem_range, List.mem_map]
  constructor
  · rintro ⟨r, hr, c, hc, rfl⟩; exact ⟨hr, hc⟩
  · rintro ⟨h1, h2⟩; exact ⟨p.1, h1, p.2, h2, rfl⟩
theorem ixPlot {rows : List Str} {m : Mh} {r : Nat} (hr : r < rows.length) : dIx m (plotD rows) (.int (r : Nat)) = some (.str (rowAt rows r)) := by
  show atI (rows.map D.str) _ = _
  exact atI_nat' (by rw [List.getElem?_map, List.getElem?_eq_getElem hr]; simp [rowAt, hr])
theorem ixRow {rows : List Str} {w : Nat} (O : PlotOk rows w) {m : Mh} {r c : Nat} (hr : r < rows.length) (hc : c < w) : dIx m (.str (rowAt rows r)) (.int (c : Nat)) = some (.str (chr1 (sgn rows (r, c)))) := by
  have e : rowAt rows r = rows[r] := by simp [rowAt, hr]
  have hl : (rows[r]).cps.size = w := O.row _ (List.getElem_mem hr)
  have hw := O.w2
  have h2 : (rows[r]).length ≤ LIM := by show (rows[r]).cps.size ≤ LIM; rw [LIM_eq]; omega
  unfold sgn
  rw [e]
  simp only [dIx, if_pos h2]
  rw [atI_nat' (i := c) (x := (rows[r]).cps.toList.getD c 0) (by rw [List.getElem?_eq_getElem (by simpa [hl] using hc)]; simp [hl, hc])]
  rfl
def treesOf (rows : List Str) (w : Nat) : List (Nat × Nat) := (places rows.length w).filter fun p => !bare rows p
structure FitsP (rows : List Str) (w : Nat) (vs : List D) : Prop where
  len : vs.length = rows.length
  row : ∀ (i : Nat) (r : Str), rows[i]? = some r → ∃ ds : List D, vs[i]? = some (.tup ds) ∧ ds.length = w ∧ (∀ y ∈ ds, wholeIn 0 9 y = true) ∧ ∀ (c ch : Nat) (y : D), r.cps.toList[c]? = some ch → ds[c]? = some y → (ch = 46 ↔ y = .int 0)
def FitsV (rows : List Str) (w : Nat) (v : D) : Prop := ∃ vs, v = .tup vs ∧ FitsP rows w vs
structure NearOk (v : D) : Prop where
  lf : leaf v = true
  rows : ∀ vs, v = .tup vs → ∀ x ∈ vs, leaf x = true ∧ ∀ ds, x = .tup ds → ∀ y ∈ ds, scal y = true
theorem leaf_scal {v : D} (h : scal v = true) : leaf v = true := by cases v <;> first | rfl | (cases h; done)
def items : D → List D
  | .tup ds => ds
  | _ => []
theorem tup_items {w : Nat} {x : D} (hl : leaf x = true) (h : tupOf w w x = true) : x = .tup (items x) ∧ (items x).length = w := by
  cases x <;> first | (cases hl; done) | (cases h; done) | skip
  simp [tupOf] at h
  exact ⟨rfl, by show _ = _; simp only [items]; omega⟩
theorem sum_len {w : Nat} : ∀ (vs : List D), (∀ x ∈ vs, (items x).length = w) → (vs.flatMap items).length = vs.length * w
  | [], _ => by simp
  | x :: r, h => by
    rw [List.flatMap_cons, List.length_append, h x List.mem_cons_self, sum_len r fun y hy => h y (List.mem_cons_of_mem _ hy), List.length_cons, Nat.succ_mul]
    omega
def toI : D → Int
  | .int k => k
  | _ => 0
def entI (vs : List D) (p : Nat × Nat) : Int := toI ((items (vs[p.1]?.getD .non))[p.2]?.getD .non)
def BoolIs (d : D) (p : Prop) : Prop := ∃ b, d = .bl b ∧ (b = true ↔ p)
theorem BoolIs.no {p : Prop} (h : ¬p) : BoolIs (.bl false) p := ⟨false, rfl, by simpa using h⟩
theorem BoolIs.of {b : Bool} {p : Prop} (h : b = true ↔ p) : BoolIs (.bl b) p := ⟨b, rfl, h⟩
def SunP (v : D) : Prop := ∃ (s : Str) (h : Int), v = .tup [.str s, .int h] ∧ (s = "N" ∨ s = "E" ∨ s = "S" ∨ s = "W") ∧ 1 ≤ h ∧ h ≤ 9
structure SunNear (v : D) : Prop where
  lf : leaf v = true
  el : ∀ vs, v = .tup vs → ∀ y ∈ vs, scal y = true ∨ y = .tup [.str "N"]
theorem leaf_el {y : D} (h : scal y = true ∨ y = .tup [.str "N"]) : leaf y = true := by
  rcases h with h | rfl
  · exact leaf_scal h
  · rfl
noncomputable def dec (p : Prop) : Bool := @decide p (Classical.propDecidable p)
theorem dec_true {p : Prop} : dec p = true ↔ p := by unfold dec; exact @decide_eq_true_iff p (Classical.propDecidable p)
theorem BoolIs.eq {d : D} {p : Prop} (h : BoolIs d p) : d = .bl (dec p) := by
  obtain ⟨b, rfl, e⟩ := h
  congr 1
  rw [Bool.eq_iff_iff, e, dec_true]
theorem eq_of_B {r : Rs D} {p : Prop} {mh : Mh} (h : r.S fun d m => m = mh ∧ BoolIs d p) : r = .ok (.bl (dec p)) mh := eq_of_S (h.mono fun d m ⟨e, b⟩ => ⟨b.eq, e⟩)
abbrev hsD (hs : List (List Int)) : D := .tup (hs.map fun r => .tup (r.map .int))
structure HsOk (rows : List Str) (w : Nat) (hs : List (List Int)) : Prop where
  len : hs.length = rows.length
  row : ∀ (i : Nat) (r : Str), rows[i]? = some r → ∃ ds : List Int, hs[i]? = some ds ∧ ds.length = w ∧ (∀ y ∈ ds, 0 ≤ y ∧ y ≤ 9) ∧ ∀ (c ch : Nat) (y : Int), r.cps.toList[c]? = some ch → ds[c]? = some y → (ch = 46 ↔ y = 0)
theorem fits_iff {rows : List Str} {w : Nat} {hs : List (List Int)} : FitsV rows w (hsD hs) ↔ HsOk rows w hs := by
  constructor
  · rintro ⟨vs, e, F⟩
    cases e
    refine ⟨by simpa using F.len, fun i r hr => ?_⟩
    obtain ⟨ds, e1, e2, e3, e4⟩ := F.row i r hr
    rw [List.getElem?_map] at e1
    cases hi : hs[i]? with
    | none => rw [hi] at e1; cases e1
    | some es =>
      rw [hi] at e1
      cases e1
      refine ⟨es, rfl, by simpa using e2, fun y hy => ?_, fun c ch y h1 h2 => ?_⟩
      · have := e3 (.int y) (List.mem_map_of_mem hy)
        simpa [wholeIn] using this
      · have := e4 c ch (.int y) h1 (by rw [List.getElem?_map, h2]; rfl)
        rw [this]
        exact ⟨fun h => by cases h; rfl, fun h => by rw [h]⟩
  · rintro F
    refine ⟨_, rfl, by simpa using F.len, fun i r hr => ?_⟩
    obtain ⟨ds, e1, e2, e3, e4⟩ := F.row i r hr
    refine ⟨ds.map .int, by rw [List.getElem?_map, e1]; rfl, by simpa using e2, fun y hy => ?_, fun c ch y h1 h2 => ?_⟩
    · obtain ⟨z, hz, rfl⟩ := List.mem_map.mp hy
      simpa [wholeIn] using e3 z hz
    · rw [List.getElem?_map] at h2
      cases hc : ds[c]? with
      | none => rw [hc] at h2; cases h2
      | some z =>
        rw [hc] at h2
        cases h2
        rw [e4 c ch z h1 hc]
        exact ⟨fun h => by rw [h], fun h => by cases h; rfl⟩
theorem near_hs (hs : List (List Int)) : NearOk (hsD hs) := by
  refine ⟨rfl, fun vs e x hx => ?_⟩
  cases e
  obtain ⟨r, _, rfl⟩ := List.mem_map.mp hx
  refine ⟨rfl, fun ds e y hy => ?_⟩
  cases e
  obtain ⟨z, _, rfl⟩ := List.mem_map.mp hy
  rfl
def evD (rows : List Str) (k : Int) : D := .tup (rows.map fun r => .tup (r.cps.toList.map fun ch => .int (if ch = 46 then 0 else k)))
theorem row_size {rows : List Str} {w : Nat} (O : PlotOk rows w) {r : Str} (hr : r ∈ rows) : r.cps.toList.length ≤ LIM := by
  have h1 := O.row r hr
  have h2 := O.w2
  rw [Array.length_toList, LIM_eq]
  omega
theorem rows_size {rows : List Str} {w : Nat} (O : PlotOk rows w) : rows.length ≤ LIM := by have := O.h2; rw [LIM_eq]; omega
def gr (hs : List (List Int)) (m : Int) : List (List Int) := hs.map fun r => r.map fun x => if 0 < x then x + m else 0
theorem hs_size {rows : List Str} {w : Nat} (O : PlotOk rows w) {hs : List (List Int)} (F : HsOk rows w hs) : hs.length ≤ LIM ∧ ∀ r ∈ hs, r.length = w ∧ r.length ≤ LIM := by
  have h2 := O.h2
  have hw := O.w2
  refine ⟨by rw [F.len, LIM_eq]; omega, fun r hr => ?_⟩
  obtain ⟨i, hi⟩ := List.getElem?_of_mem hr
  have hil : i < rows.length := by rw [← F.len]; exact (List.getElem?_eq_some_iff.mp hi).1
  obtain ⟨ds, e1, e2, _⟩ := F.row i _ (List.getElem?_eq_getElem hil)
  rw [hi] at e1
  cases e1
  exact ⟨e2, by rw [e2, LIM_eq]; omega⟩
def hI (hs : List (List Int)) (p : Nat × Nat) : Int := ((hs[p.1]?.getD [])[p.2]?.getD 0)
def top (hs : List (List Int)) : Int := maxI (hs.map maxI)
theorem maxA_row {r : List Int} (h : r ≠ []) : dMaxA [.tup (r.map .int)] = some (.int (maxI r)) := by
  cases r with
  | nil => exact absurd rfl h
  | cons x r => simp [dMaxA, intsOf_map (fun x : Int => x), intsOf]
theorem maxA_lst {r : List Int} (h : r ≠ []) : dMaxA [.lst (r.map .int)] = some (.int (maxI r)) := by
  cases r with
  | nil => exact absurd rfl h
  | cons x r => simp [dMaxA, dMax, intsOf_map (fun x : Int => x), intsOf]
theorem hs_ix {rows : List Str} {w : Nat} {hs : List (List Int)} (F : HsOk rows w hs) {mh : Mh} {p : Nat × Nat} (h1 : p.1 < rows.length) (h2 : p.2 < w) :
    ∃ ds : List Int, dIx mh (hsD hs) (.int (p.1 : Nat)) = some (.tup (ds.map .int)) ∧ dIx mh (.tup (ds.map .int)) (.int (p.2 : Nat)) = some (.int (hI hs p)) := by
  obtain ⟨ds, e1, e2, _⟩ := F.row p.1 _ (List.getElem?_eq_getElem h1)
  have hc : ds[p.2]? = some ds[p.2] := List.getElem?_eq_getElem (by omega)
  refine ⟨ds, atI_nat' (by rw [List.getElem?_map, e1]; rfl), atI_nat' ?_⟩
  rw [List.getElem?_map, hc]
  simp [hI, e1, hc]
theorem tops_S {rows : List Str} {w : Nat} (O : PlotOk rows w) {hs : List (List Int)} (F : HsOk rows w hs) {env : En} {mh : Mh} {i j : Nat} {P : D → Mh → Prop} (hi : env[i]? = some (.sh (hsD hs))) (hj : j < env.length) (hne : noOwn env [j] = true) (hP : P (.lst ((hs.map maxI).map .int)) mh) :
    (mFz (mCompC [j] (mIter (mVar i)) (gSet j) tt (mB dMaxA (mCons (mVar j) mNil))) env mh).S P := by
  obtain ⟨s1, s2⟩ := hs_size O F
  have hw := O.w1
  refine S_fzAll hs (fun r => .tup (r.map .int)) (fun r => .int (maxI r)) ?_ hne s1 (fun r hr => ⟨(env.set j .no).set j (.sh (.tup (r.map .int))), ?_, ?_⟩) ?_
  · simp [hi, itemsD]
  · simp [wipeE, hj]
  · have hr0 : r ≠ [] := fun e => by have := (s2 r hr).1; rw [e] at this; simp at this; omega
    simp [hj, maxA_row hr0]
  · have e : (hs.map fun r => D.int (maxI r)) = (hs.map maxI).map .int := by rw [List.map_map]; rfl
    rw [e]
    exact hP
theorem tops_max {rows : List Str} {w : Nat} (O : PlotOk rows w) {hs : List (List Int)} (F : HsOk rows w hs) : dMaxA [.lst ((hs.map maxI).map .int)] = some (.int (top hs)) := by
  refine maxA_lst fun e => ?_
  have h1 := O.h1
  have h2 := F.len
  have h3 : hs = [] := by simpa using e
  rw [h3] at h2
  simp at h2
  omega
def tallOf (rows : List Str) (w : Nat) (hs : List (List Int)) : List (Nat × Nat) := (treesOf rows w).filter fun p => decide (hI hs p = top hs)
theorem len_trees {rows : List Str} {w : Nat} (O : PlotOk rows w) : (treesOf rows w).length ≤ LIM := by
  have h : (treesOf rows w).length ≤ (places rows.length w).length := List.length_filter_le _ _
  have h2 : (places rows.length w).length ≤ 144 := by rw [len_places]; exact Nat.mul_le_mul O.h2 O.w2
  rw [LIM_eq]; omega
theorem mem_trees {rows : List Str} {w : Nat} {p : Nat × Nat} (h : p ∈ treesOf rows w) : p.1 < rows.length ∧ p.2 < w := mem_places.mp (List.mem_filter.mp h).1
def sm : Nat → D → Bool
  | 0, _ => false
  | k + 1, d => match d with
    | .non => true
    | .bl _ => true
    | .int _ => true
    | .str _ => true
    | .tup ds => decide (ds.length ≤ LIM) && ds.all (sm k)
    | _ => false
def Cup (m : Mh) : Prop := ∃ (a b : Int) (rest : Mh), m = .lst [.int a, .int b] :: rest
theorem setLoc {i : Nat} {ix m : Ev} {env : En} {mh : Mh} {N : En → Mh → Prop} {T : D → Mh → Prop} {C : En → Mh → Prop} {n : Nat} (he : env[i]? = some (.sh (.loc n))) (h : (m env mh).S fun d m1 => (ix env m1).S fun k m2 => ∃ (kk : Int) (ds : List D) (j : Nat), k = .int kk ∧ m2[n]? = some (.lst ds) ∧ ixN ds.length kk = some j ∧ N env (m2.set n (.lst (ds.set j d)))) : (mSetIx i ix m env mh).S N T C := by
  unfold mSetIx
  rw [S_bindS]
  refine h.mono fun d m1 h1 => ?_
  rw [if_pos (by rw [he]; rfl), S_bindS]
  refine h1.mono fun k m2 ⟨kk, ds, j, e1, e2, e3, h2⟩ => ?_
  subst e1
  simp only [he, e2, e3]
  exact h2
theorem join_chars (cs : List Nat) : (Txt.join "" (cs.map chr1)).cps.toList = cs := by
  have gen : ∀ (l : List Nat) (acc : Array Nat), ((l.map chr1).foldl (fun acc p => acc ++ ("" : Str).cps ++ p.cps) acc).toList = acc.toList ++ l := by
    intro l
    induction l with
    | nil => intro acc; simp
    | cons c r ih =>
      intro acc
      rw [List.map_cons, List.foldl_cons, ih]
      have e0 : ("" : Str).cps = #[] := rfl
      simp [chr1, e0]
  cases cs with
  | nil => rfl
  | cons c r => exact gen r #[c]
theorem range_get {n i : Nat} {f : Nat → D} {d : D} (h : ((List.range n).map f)[i]? = some d) : i < n ∧ d = f i := by
  rw [List.getElem?_map] at h
  by_cases hi : i < n
  · rw [List.getElem?_range hi] at h
    cases h
    exact ⟨hi, rfl⟩
  · rw [List.getElem?_eq_none (by simpa using hi)] at h
    cases h
def RowIs (w : Nat) (r : Str) : Prop := r.cps.size = w ∧ ∀ c ∈ r.cps.toList, okCh c
def HRow (w : Nat) (r : Str) (ds : List Int) : Prop := ds.length = w ∧ (∀ y ∈ ds, 0 ≤ y ∧ y ≤ 9) ∧ ∀ (c ch : Nat) (y : Int), r.cps.toList[c]? = some ch → ds[c]? = some y → (ch = 46 ↔ y = 0)
def InvIn (r : Str) (j : Nat) (acc : List D) (m : Mh) : Prop := Cup m ∧ ∃ ds : List Int, acc = ds.map .int ∧ ds.length = j ∧ (∀ y ∈ ds, 0 ≤ y ∧ y ≤ 9) ∧ ∀ (c ch : Nat) (y : Int), r.cps.toList[c]? = some ch → ds[c]? = some y → (ch = 46 ↔ y = 0)
theorem scal_fine {y : D} (h : scal y = true) : y.plain = true ∧ y.dep = 0 := by
  cases y <;> first | (cases h; done) | exact ⟨by simp [D.plain], by simp [D.dep]⟩
theorem lst_fine : ∀ {xs : List D}, (∀ y ∈ xs, scal y = true) → plains xs = true ∧ deps xs = 0
  | [], _ => ⟨by simp [plains], by simp [deps]⟩
  | x :: r, h => by
    obtain ⟨a, b⟩ := scal_fine (h x List.mem_cons_self)
    obtain ⟨c, d⟩ := lst_fine fun y hy => h y (List.mem_cons_of_mem _ hy)
    exact ⟨by simp [plains, a, c], by simp [deps, b, d]⟩
theorem dNe_nil {xs : List D} (h : ∀ y ∈ xs, scal y = true) : dNe (.lst xs) (.lst []) = some (.bl (!xs.isEmpty)) := by
  obtain ⟨a, b⟩ := lst_fine h
  have f1 : (D.lst xs).fine = true := by simp [D.fine, D.plain, D.dep, a, b]
  have f2 : (D.lst []).fine = true := by simp [D.fine, D.plain, D.dep, plains, deps]
  simp only [dNe, f1, f2, Bool.and_self, if_true]
  cases xs with
  | nil => simp [eqv, D.py, pys, PyData.eqv, PyData.eqvAll]
  | cons x r => simp [eqv, D.py, pys, PyData.eqv, PyData.eqvAll]
def RowFits (w : Nat) (r : Str) (x : D) : Prop := ∃ ds : List D, x = .tup ds ∧ ds.length = w ∧ (∀ y ∈ ds, wholeIn 0 9 y = true) ∧ ∀ (c ch : Nat) (y : D), r.cps.toList[c]? = some ch → ds[c]? = some y → (ch = 46 ↔ y = .int 0)
theorem fits_row {rows : List Str} {w : Nat} {vs : List D} (F : FitsV rows w (.tup vs)) {i : Nat} {r : Str} {x : D} (hr : rows[i]? = some r) (hx : vs[i]? = some x) : RowFits w r x := by
  obtain ⟨vs', e, F⟩ := F
  cases e
  obtain ⟨ds, e1, e2⟩ := F.row i r hr
  rw [hx] at e1
  cases e1
  exact ⟨ds, rfl, e2⟩
theorem zip_items : ∀ (l : List Nat) (ds : List D), zipD (l.map fun ch => .str (chr1 ch)) ds = (l.zip ds).map fun p => .tup [.str (chr1 p.1), p.2]
  | [], _ => by simp [zipD]
  | _ :: _, [] => by simp [zipD]
  | a :: l, d :: ds => by
    have ih := zip_items l ds
    unfold zipD at ih ⊢
    simp [ih]
theorem whole_int {y : D} (h : wholeIn 0 9 y = true) : y = .int (toI y) := by
  cases y <;> first | (cases h; done) | rfl
theorem seq_step {a b : Sv} {env : En} {mh : Mh} {N1 N : En → Mh → Prop} {T : D → Mh → Prop} {C : En → Mh → Prop} (h1 : (a env mh).S N1 T C) (h2 : ∀ e m, N1 e m → (b e m).S N T C) : (mSeq a b env mh).S N T C := by
  rw [S_seqS]
  exact h1.mono h2 (fun _ _ h => h) fun _ _ h => h
def Post : D → Mh → Prop := fun d m => d = .bl true ∧ Cup m
theorem top_ge {hs : List (List Int)} {i : Nat} {ds : List Int} {c : Nat} {y : Int} (h1 : hs[i]? = some ds) (h2 : ds[c]? = some y) : y ≤ top hs := by
  have hds : ds ≠ [] := fun e => by rw [e] at h2; simp at h2
  have hm : maxI ds ∈ hs.map maxI := List.mem_map_of_mem (List.mem_of_getElem? h1)
  have a1 : y ≤ maxI ds := by
    cases ds with
    | nil => exact absurd rfl hds
    | cons x r => exact (maxI_spec x r).2 y (List.mem_of_getElem? h2)
  have a2 : maxI ds ≤ top hs := by
    unfold top
    cases hq : hs.map maxI with
    | nil => rw [hq] at hm; cases hm
    | cons x r => rw [hq] at hm; exact (maxI_spec x r).2 _ hm
  omega
theorem top_mem {hs : List (List Int)} (h0 : hs ≠ []) (hr : ∀ r ∈ hs, r ≠ []) : ∃ (i : Nat) (ds : List Int) (c : Nat), hs[i]? = some ds ∧ ds[c]? = some (top hs) := by
  have hm : top hs ∈ hs.map maxI := by
    unfold top
    cases hq : hs.map maxI with
    | nil => exact absurd (List.map_eq_nil_iff.mp hq) h0
    | cons x r => exact (maxI_spec x r).1
  obtain ⟨ds, hds, e⟩ := List.mem_map.mp hm
  obtain ⟨i, hi⟩ := List.getElem?_of_mem hds
  have : maxI ds ∈ ds := by
    cases hq : ds with
    | nil => exact absurd hq (hr ds hds)
    | cons x r => exact (maxI_spec x r).1
  obtain ⟨c, hc⟩ := List.getElem?_of_mem this
  exact ⟨i, ds, c, hi, by rw [hc, e]⟩
theorem tree_iff {rows : List Str} {w : Nat} {p : Nat × Nat} : p ∈ treesOf rows w ↔ (p.1 < rows.length ∧ p.2 < w) ∧ sgn rows p ≠ 46 := by
  unfold treesOf
  rw [List.mem_filter, mem_places]
  simp [bare]
theorem gr_fits {rows : List Str} {w : Nat} (O : PlotOk rows w) {hs : List (List Int)} (F : HsOk rows w hs) {g : Int} (g0 : 0 ≤ g) : HsOk rows w (gr hs g) ↔ (treesOf rows w = [] ∨ top hs + g < 10) := by
  obtain ⟨_, s2⟩ := hs_size O F
  have hw := O.w1
  have h0 : hs ≠ [] := fun e => by have := F.len; have := O.h1; rw [e] at F; have := F.len; simp at this; omega
  have hr0 : ∀ r ∈ hs, r ≠ [] := fun r hr e => by have := (s2 r hr).1; rw [e] at this; simp at this; omega
  constructor
  · intro G
    by_cases ht : treesOf rows w = []
    · exact .inl ht
    right
    obtain ⟨i, ds, c, hi, hc⟩ := top_mem h0 hr0
    have hil : i < rows.length := by rw [← F.len]; exact (List.getElem?_eq_some_iff.mp hi).1
    obtain ⟨ds', e1, e2, e3, e4⟩ := F.row i _ (List.getElem?_eq_getElem hil)
    rw [hi] at e1
    cases e1
    obtain ⟨es, f1, f2, f3, f4⟩ := G.row i _ (List.getElem?_eq_getElem hil)
    have f5 : es = ds.map fun x => if 0 < x then x + g else 0 := by
      unfold gr at f1
      rw [List.getElem?_map, hi] at f1
      cases f1
      rfl
    by_cases htop : 0 < top hs
    · have : es[c]? = some (top hs + g) := by rw [f5, List.getElem?_map, hc]; simp [htop]
      have := (f3 _ (List.mem_of_getElem? this)).2
      omega
    · obtain ⟨p, r, hp⟩ := List.exists_cons_of_ne_nil ht
      have hpm : p ∈ treesOf rows w := by rw [hp]; exact List.mem_cons_self
      obtain ⟨⟨p1, p2⟩, p3⟩ := tree_iff.mp hpm
      obtain ⟨es', q1, q2, q3, q4⟩ := F.row p.1 _ (List.getElem?_eq_getElem p1)
      have hy : es'[p.2]? = some es'[p.2] := List.getElem?_eq_getElem (by omega)
      have hle := top_ge q1 hy
      have hge := (q3 _ (List.mem_of_getElem? hy)).1
      have hl : (rows[p.1]).cps.size = w := O.row _ (List.getElem_mem p1)
      have hcl : p.2 < (rows[p.1]).cps.toList.length := by rw [Array.length_toList, hl]; exact p2
      have h46 := q4 p.2 _ _ (List.getElem?_eq_getElem hcl) hy
      have : sgn rows p = (rows[p.1]).cps.toList[p.2] := sgn_of (List.getElem?_eq_getElem p1) (List.getElem?_eq_getElem hcl)
      rw [← this] at h46
      exact absurd (h46.mpr (by omega)) p3
  · intro hor
    refine ⟨by simp [gr, F.len], fun i r hr => ?_⟩
    obtain ⟨ds, e1, e2, e3, e4⟩ := F.row i r hr
    refine ⟨ds.map fun x => if 0 < x then x + g else 0, by simp [gr, e1], by simp [e2], fun y hy => ?_, fun c ch y h1 h2 => ?_⟩
    · obtain ⟨x, hx, rfl⟩ := List.mem_map.mp hy
      have hxb := e3 x hx
      by_cases h : 0 < x
      · simp only [h, if_true]
        rcases hor with ht | ht
        · exfalso
          obtain ⟨c, hc⟩ := List.getElem?_of_mem hx
          have hil := (List.getElem?_eq_some_iff.mp hr).1
          have hcw : c < w := by rw [← e2]; exact (List.getElem?_eq_some_iff.mp hc).1
          have hl : r.cps.size = w := O.row _ (List.mem_of_getElem? hr)
          have hcl : c < r.cps.toList.length := by rw [Array.length_toList, hl]; exact hcw
          have h46 := e4 c _ x (List.getElem?_eq_getElem hcl) hc
          have hsg : sgn rows (i, c) = r.cps.toList[c] := sgn_of hr (List.getElem?_eq_getElem hcl)
          have : (i, c) ∈ treesOf rows w := tree_iff.mpr ⟨⟨hil, hcw⟩, fun e => by rw [hsg] at e; have := h46.mp e; omega⟩
          rw [ht] at this
          cases this
        · obtain ⟨c, hc⟩ := List.getElem?_of_mem hx
          have := top_ge e1 hc
          omega
      · simp only [h, if_false]; omega
    · rw [List.getElem?_map] at h2
      cases hc : ds[c]? with
      | none => rw [hc] at h2; cases h2
      | some x =>
        rw [hc] at h2
        cases h2
        rw [e4 c ch x h1 hc]
        have := e3 x (List.mem_of_getElem? hc)
        show x = 0 ↔ (if 0 < x then x + g else 0) = 0
        by_cases h : 0 < x
        · rw [if_pos h]; omega
        · rw [if_neg h]; exact ⟨fun _ => rfl, fun _ => by omega⟩
theorem far_count : ∀ h : Fin 9, ∀ f : Fin 9, ((List.range 9).filter fun (k : Nat) => decide (0 < ((h.val : Int) + 1) - ((f.val : Int) + 1) * ((k : Int) + 1))).length = ((h.val : Int) / ((f.val : Int) + 1)).toNat := by decide +kernel
theorem seqK {a b : Sv} {env : En} {mh : Mh} {N : En → Mh → Prop} {T : D → Mh → Prop} {C : En → Mh → Prop} (h : ∀ K : En → Mh → Prop, (∀ e m, (b e m).S N T C → K e m) → (a env mh).S K T C) : (mSeq a b env mh).S N T C := by
  rw [S_seqS]
  exact h _ fun _ _ h => h
theorem sm_tup {k : Nat} {ds : List D} (h1 : ds.length ≤ LIM) (h2 : ∀ d ∈ ds, sm k d = true) : sm (k + 1) (.tup ds) = true := by
  simp only [sm, Bool.and_eq_true, decide_eq_true_eq, List.all_eq_true]
  exact ⟨h1, h2⟩
theorem sm_ev {rows : List Str} {w : Nat} (O : PlotOk rows w) {h : Int} {k : Nat} : sm (k + 3) (evD rows h) = true := by
  refine sm_tup (by rw [List.length_map]; exact rows_size O) fun d hd => ?_
  obtain ⟨r, hr, rfl⟩ := List.mem_map.mp hd
  refine sm_tup (by rw [List.length_map]; exact row_size O hr) fun d hd => ?_
  obtain ⟨c, _, rfl⟩ := List.mem_map.mp hd
  rfl
theorem sm_hs {rows : List Str} {w : Nat} (O : PlotOk rows w) {hs : List (List Int)} (F : HsOk rows w hs) {g : Int} {k : Nat} : sm (k + 3) (hsD (gr hs g)) = true := by
  obtain ⟨s1, s2⟩ := hs_size O F
  refine sm_tup (by simpa [gr] using s1) fun d hd => ?_
  obtain ⟨r, hr, rfl⟩ := List.mem_map.mp hd
  obtain ⟨r0, hr0, rfl⟩ := List.mem_map.mp hr
  refine sm_tup (by simpa using (s2 r0 hr0).2) fun d hd => ?_
  obtain ⟨c, _, rfl⟩ := List.mem_map.mp hd
  rfl
theorem sm_pl {ps : List (Nat × Nat)} (h : ps.length ≤ LIM) {k : Nat} : sm (k + 3) (.tup (ps.map plD)) = true := by
  refine sm_tup (by rw [List.length_map]; exact h) fun d hd => ?_
  obtain ⟨p, _, rfl⟩ := List.mem_map.mp hd
  rfl
theorem len_tall {rows : List Str} {w : Nat} (O : PlotOk rows w) {hs : List (List Int)} : (tallOf rows w hs).length ≤ LIM := Nat.le_trans (List.length_filter_le _ _) (len_trees O)
theorem pls_fine : ∀ ps : List (Nat × Nat), plains (ps.map plD) = true ∧ deps (ps.map plD) ≤ 1
  | [] => ⟨by simp [plains], by simp [deps]⟩
  | p :: r => by
    obtain ⟨a, b⟩ := pls_fine r
    exact ⟨by simp [plains, plD, D.plain, a], by simp [deps, plD, D.dep]; omega⟩
theorem dEq_nil_pl (ps : List (Nat × Nat)) : dEq (.lst (ps.map plD)) (.lst []) = some (.bl (decide (ps = []))) := by
  obtain ⟨a, b⟩ := pls_fine ps
  have f1 : (D.lst (ps.map plD)).fine = true := by simp [D.fine, D.plain, D.dep, a]; omega
  have f2 : (D.lst []).fine = true := by simp [D.fine, D.plain, D.dep, plains, deps]
  simp only [dEq, f1, f2, Bool.and_self, if_true]
  cases ps with
  | nil => simp [eqv, D.py, pys, PyData.eqv, PyData.eqvAll]
  | cons x r => simp [eqv, D.py, pys, PyData.eqv, PyData.eqvAll]
theorem far_eq {h f : Int} (h1 : 1 ≤ h) (h9 : h ≤ 9) (f1 : 1 ≤ f) (f9 : f ≤ 9) : ((((List.range 9).filter fun (k : Nat) => decide (0 < h - f * (1 + (k : Int)))).length : Nat) : Int) = (h - 1) / f := by
  obtain ⟨a, ea⟩ := Int.eq_ofNat_of_zero_le (show 0 ≤ h - 1 by omega)
  obtain ⟨b, eb⟩ := Int.eq_ofNat_of_zero_le (show 0 ≤ f - 1 by omega)
  have ea' : h = (a : Int) + 1 := by omega
  have eb' : f = (b : Int) + 1 := by omega
  subst ea'
  subst eb'
  have := far_count ⟨a, by omega⟩ ⟨b, by omega⟩
  simp only at this
  have e : ∀ k : Nat, (1 + (k : Int)) = (k : Int) + 1 := fun k => by omega
  simp only [e]
  rw [this]
  rw [show (a : Int) + 1 - 1 = a by omega]
  exact Int.toNat_of_nonneg (Int.ediv_nonneg (by omega) (by omega))
theorem cut_mem {α : Type} {xs : List α} {lo hi : Option Int} {x : α} (h : x ∈ cutD xs lo hi) : x ∈ xs := List.mem_of_mem_drop (List.mem_of_mem_take h)
theorem cut_len {α : Type} {xs : List α} {lo hi : Option Int} : (cutD xs lo hi).length ≤ xs.length := by
  unfold cutD
  rw [List.length_take, List.length_drop]
  omega
def RowNear (x : D) : Prop := leaf x = true ∧ ∀ es, x = .tup es → ∀ y ∈ es, scal y = true
theorem near_tup {ds : List D} (h : ∀ x ∈ ds, RowNear x) : NearOk (.tup ds) := ⟨rfl, fun vs e x hx => by cases e; exact h x hx⟩
theorem near_leaf {v : D} (h : leaf v = true) (h2 : ∀ vs, v ≠ .tup vs) : NearOk v := ⟨h, fun vs e => absurd e (h2 vs)⟩
theorem row_near (r : List Int) : RowNear (.tup (r.map .int)) := ⟨rfl, fun es e y hy => by
  cases e
  obtain ⟨z, _, rfl⟩ := List.mem_map.mp hy
  rfl⟩
theorem rows_near {hs : List (List Int)} {x : D} (h : x ∈ hs.map fun r => D.tup (r.map .int)) : RowNear x := by
  obtain ⟨r, _, rfl⟩ := List.mem_map.mp h
  exact row_near r

end Mi

set_option Elab.async false
set_option linter.all false
set_option maxRecDepth 100000
set_option maxHeartbeats 1000000
namespace Mi
open PySem L2
@[simp] theorem own_ol {ds : List D} : Cel.own (.ol ds) = true := rfl
@[simp] theorem own_sh {d : D} : Cel.own (.sh d) = false := rfl
@[simp] theorem own_od {t : Bool} {ks vs : List D} : Cel.own (.od t ks vs) = true := rfl
@[simp] theorem own_no : Cel.own .no = false := rfl
@[simp] theorem d_ol {ds : List D} : Cel.d (.ol ds) = some (.lst ds) := rfl
@[simp] theorem d_sh {d : D} : Cel.d (.sh d) = some d := rfl
@[simp] theorem d_od {t : Bool} {ks vs : List D} : Cel.d (.od t ks vs) = some (.dct t ks vs) := rfl
/-! loops while -/
theorem S_whileGo {t : Bv} {body : Sv} {N : En → Mh → Prop} {T : D → Mh → Prop} {C : En → Mh → Prop} (I : Nat → En → Mh → Prop)
    (hs : ∀ k e m, I k e m → (t e m).S fun b m1 => if b = true then ∃ k', k' < k ∧ (body e m1).S (I k') T (I k') else N e m1) : ∀ (n k : Nat) (env : En) (mh : Mh), k < n → I k env mh → (whileGo t body n env mh).S N T C := by
  intro n
  induction n with
  | zero => intro k env mh h; omega
  | succ n ih =>
    intro k env mh hk h0
    unfold whileGo
    rw [S_bindS]
    refine (hs k env mh h0).mono fun b m1 h1 => ?_
    cases b with
    | false =>
      rw [if_neg Bool.false_ne_true] at h1
      simpa using h1
    | true =>
      rw [if_pos rfl] at h1
      obtain ⟨k', hk', h2⟩ := h1
      rw [if_pos rfl]
      cases hb : body env m1 <;> rw [hb] at h2 <;> first | exact h2.elim | skip
      · exact ih k' _ _ (by omega) h2
      · exact h2
      · exact ih k' _ _ (by omega) h2
theorem S_while {t : Bv} {body : Sv} {env : En} {mh : Mh} {N : En → Mh → Prop} {T : D → Mh → Prop} {C : En → Mh → Prop} (I : Nat → En → Mh → Prop) (k : Nat) (hk : k < 1000000) (h0 : I k env mh)
    (hs : ∀ k e m, I k e m → (t e m).S fun b m1 => if b = true then ∃ k', k' < k ∧ (body e m1).S (I k') T (I k') else N e m1) : (mWhile t body env mh).S N T C :=
  S_whileGo I hs FUEL k env mh hk h0
/-! places -/
theorem plD_eq (r c : Nat) : D.tup [.int (r : Nat), .int (c : Nat)] = plD (r, c) := rfl
@[simp] theorem ix0 {m : Mh} {p : Nat × Nat} : dIx m (plD p) (.int 0) = some (.int (p.1 : Nat)) := rfl
@[simp] theorem ix1 {m : Mh} {p : Nat × Nat} : dIx m (plD p) (.int 1) = some (.int (p.2 : Nat)) := rfl
@[simp] theorem ix20 {m : Mh} {a b : D} : dIx m (.tup [a, b]) (.int 0) = some a := rfl
@[simp] theorem ix21 {m : Mh} {a b : D} : dIx m (.tup [a, b]) (.int 1) = some b := rfl
@[simp] theorem ix30 {m : Mh} {a b c : D} : dIx m (.tup [a, b, c]) (.int 0) = some a := rfl
@[simp] theorem ix31 {m : Mh} {a b c : D} : dIx m (.tup [a, b, c]) (.int 1) = some b := rfl
@[simp] theorem ix32 {m : Mh} {a b c : D} : dIx m (.tup [a, b, c]) (.int 2) = some c := rfl
theorem dNe_nil_pl (ps : List (Nat × Nat)) : dNe (.lst (ps.map plD)) (.lst []) = some (.bl (!decide (ps = []))) := by
  obtain ⟨a, b⟩ := pls_fine ps
  have f1 : (D.lst (ps.map plD)).fine = true := by simp [D.fine, D.plain, D.dep, a]; omega
  have f2 : (D.lst []).fine = true := by simp [D.fine, D.plain, D.dep, plains, deps]
  simp only [dNe, f1, f2, Bool.and_self, if_true]
  cases ps with
  | nil => simp [eqv, D.py, pys, PyData.eqv, PyData.eqvAll]
  | cons x r => simp [eqv, D.py, pys, PyData.eqv, PyData.eqvAll]
theorem maxA_ints {x : Int} {r : List Int} : dMaxA [.lst ((x :: r).map .int)] = some (.int (maxI (x :: r))) := maxA_lst (by simp)
theorem atI_get' {α : Type} {l : List α} {i : Nat} (h : i < l.length) : atI l (i : Int) = some l[i] := atI_nat' (List.getElem?_eq_getElem h)
/-- the first row of a plot -/
theorem row0 {rows : List Str} {w : Nat} (O : PlotOk rows w) : ∃ r0 : Str, (∀ m, dIx m (plotD rows) (.int 0) = some (.str r0)) ∧ r0.length = w := by
  have h1 := O.h1
  obtain ⟨r0, hr0⟩ : ∃ r0, rows[0]? = some r0 := ⟨_, List.getElem?_eq_getElem (by omega)⟩
  exact ⟨r0, fun m => atI_nat' (i := 0) (by rw [List.getElem?_map, hr0]; rfl), O.row r0 (List.mem_of_getElem? hr0)⟩
theorem len_plot {rows : List Str} {w : Nat} (O : PlotOk rows w) : dLen (plotD rows) = some (.int (rows.length : Nat)) := by simp [dLen]
theorem len_row {w : Nat} {r0 : Str} (h : r0.length = w) (hw : w ≤ 12) : dLen (.str r0) = some (.int (w : Nat)) := by
  simp only [dLen, h, LIM_eq]
  rw [if_pos (by omega)]
theorem dRng1_n {n : Nat} (h : n ≤ 1000000) : dRng1 [.int (n : Nat)] = some ((List.range n).map fun (k : Nat) => D.int (k : Nat)) := by
  have : (n : Int) ≤ 1000000 ∧ -4611686018427387904 ≤ (n : Int) := by omega
  simp [dRng1, LIM_eq, this, rng_map]

@[simp] theorem S_fzDisp {ks : List Key} {ms : Av} {env : En} {mh : Mh} {P : D → Mh → Prop} : (mFz (mDisp ks ms) env mh).S P = (ms env mh).S fun ds m => P (.dct false (ks.map keyD) ds) m := by
  unfold mFz mDisp
  rw [S_bind, S_bind]
  rfl
@[simp] theorem S_disp {ks : List Key} {ms : Av} {env : En} {mh : Mh} {P : Cel → Mh → Prop} : (mDisp ks ms env mh).S P = (ms env mh).S fun ds m => P (.od false (ks.map keyD) ds) m := by
  unfold mDisp
  rw [S_bind]
  rfl
/-- comprehensions, the side conditions by themselves -/
theorem fzMap {α : Type} (xs : List α) (c : α → D) (p : α → Bool) (f : α → D) {vs : List Nat} {src : Iv} {t : D → En → Option En} {tst : Bv} {elt : Ev} {env : En} {mh : Mh} {P : D → Mh → Prop}
    (h1 : (src env mh).S fun ds m1 => ds = xs.map c ∧ m1 = mh) (h3 : xs.length ≤ 1000000)
    (h4 : ∀ x ∈ xs, ∃ env1, t (c x) (wipeE env vs) = some env1 ∧ (tst env1 mh).S (fun b m => b = p x ∧ m = mh) ∧ (p x = true → (elt env1 mh).S fun y m => y = f x ∧ m = mh)) (hP : P (.lst ((xs.filter p).map f)) mh) (h2 : noOwn env vs = true := by rfl) : (mFz (mCompC vs src t tst elt) env mh).S P :=
  S_fzMap xs c p f h1 h2 h3 h4 hP
theorem fzAll {α : Type} (xs : List α) (c : α → D) (f : α → D) {vs : List Nat} {src : Iv} {t : D → En → Option En} {elt : Ev} {env : En} {mh : Mh} {P : D → Mh → Prop}
    (h1 : (src env mh).S fun ds m1 => ds = xs.map c ∧ m1 = mh) (h3 : xs.length ≤ 1000000)
    (h4 : ∀ x ∈ xs, ∃ env1, t (c x) (wipeE env vs) = some env1 ∧ (elt env1 mh).S fun y m => y = f x ∧ m = mh) (hP : P (.lst (xs.map f)) mh) (h2 : noOwn env vs = true := by rfl) : (mFz (mCompC vs src t tt elt) env mh).S P :=
  S_fzAll xs c f h1 h2 h3 h4 hP
/-- the same, the list is a name's own -/
theorem olMap {α : Type} (xs : List α) (c : α → D) (p : α → Bool) (f : α → D) {vs : List Nat} {src : Iv} {t : D → En → Option En} {tst : Bv} {elt : Ev} {env : En} {mh : Mh} {P : Cel → Mh → Prop}
    (h1 : (src env mh).S fun ds m1 => ds = xs.map c ∧ m1 = mh) (h3 : xs.length ≤ 1000000)
    (h4 : ∀ x ∈ xs, ∃ env1, t (c x) (wipeE env vs) = some env1 ∧ (tst env1 mh).S (fun b m => b = p x ∧ m = mh) ∧ (p x = true → (elt env1 mh).S fun y m => y = f x ∧ m = mh)) (hP : P (.ol ((xs.filter p).map f)) mh) (h2 : noOwn env vs = true := by rfl) : (mCompC vs src t tst elt env mh).S P := by
  refine S_comp (h1.mono fun ds m1 ⟨e1, e2⟩ => ?_)
  subst e1
  subst e2
  refine ⟨h2, by rw [List.length_map]; exact h3, ?_⟩
  have key : ∀ xs : List α, (∀ x ∈ xs, ∃ env1, t (c x) (wipeE env vs) = some env1 ∧ (tst env1 m1).S (fun b m => b = p x ∧ m = m1) ∧ (p x = true → (elt env1 m1).S fun y m => y = f x ∧ m = m1)) → compGo t tst elt (wipeE env vs) (xs.map c) m1 = .ok ((xs.filter p).map f) m1 := by
    intro xs
    induction xs with
    | nil => intro _; rfl
    | cons x r ih =>
      intro h
      obtain ⟨env1, a1, a2, a3⟩ := h x List.mem_cons_self
      have ih := ih fun y hy => h y (List.mem_cons_of_mem _ hy)
      rw [List.map_cons]
      unfold compGo
      simp only [a1, S_eqs a2, noEr, Rs.bind]
      cases hp : p x with
      | true => simp only [if_true, S_eqs (a3 hp), ih, List.filter_cons, hp, List.map_cons]
      | false => simp only [Bool.false_eq_true, if_false, ih, List.filter_cons, hp]
  rw [key xs h4]
  exact hP
theorem olAll {α : Type} (xs : List α) (c : α → D) (f : α → D) {vs : List Nat} {src : Iv} {t : D → En → Option En} {elt : Ev} {env : En} {mh : Mh} {P : Cel → Mh → Prop}
    (h1 : (src env mh).S fun ds m1 => ds = xs.map c ∧ m1 = mh) (h3 : xs.length ≤ 1000000)
    (h4 : ∀ x ∈ xs, ∃ env1, t (c x) (wipeE env vs) = some env1 ∧ (elt env1 mh).S fun y m => y = f x ∧ m = mh) (hP : P (.ol (xs.map f)) mh) (h2 : noOwn env vs = true := by rfl) : (mCompC vs src t tt elt env mh).S P :=
  olMap xs c (fun _ => true) f h1 h3 (fun x hx => let ⟨e, a, b⟩ := h4 x hx; ⟨e, a, ⟨rfl, rfl⟩, fun _ => b⟩) (by rw [List.filter_eq_self.mpr fun _ _ => rfl]; exact hP) h2
theorem enD_range {n : Nat} {g : Nat → D} : enD ((List.range n).map g) = (List.range n).map fun (i : Nat) => .tup [.int (i : Nat), g i] := by
  refine List.ext_getElem? fun i => ?_
  simp only [enD, List.getElem?_map, List.getElem?_zipIdx]
  by_cases h : i < n
  · simp [List.getElem?_range h]
  · simp [List.getElem?_eq_none (show (List.range n).length ≤ i by simp; omega)]
theorem small_of {f : Int} (h1 : -1000000000 ≤ f) (h2 : f ≤ 1000000000) : small64i f = true := by simp [small64i]; omega
theorem maxI_le {x y : Int} {r r' : List Int} (h : ∀ z ∈ x :: r, ∃ z' ∈ y :: r', z ≤ z') : maxI (x :: r) ≤ maxI (y :: r') := by
  obtain ⟨a, b⟩ := maxI_spec x r
  obtain ⟨z', hz, hle⟩ := h _ a
  exact Int.le_trans hle ((maxI_spec y r').2 z' hz)
theorem maxI_eq {x y : Int} {r r' : List Int} (h : ∀ z ∈ x :: r, ∃ z' ∈ y :: r', z ≤ z') (h' : ∀ z ∈ y :: r', ∃ z' ∈ x :: r, z ≤ z') : maxI (x :: r) = maxI (y :: r') := Int.le_antisymm (maxI_le h) (maxI_le h')
theorem le_maxI {k x : Int} {r : List Int} : k ≤ maxI (x :: r) ↔ ∃ z ∈ x :: r, k ≤ z := by
  obtain ⟨a, b⟩ := maxI_spec x r
  exact ⟨fun h => ⟨_, a, h⟩, fun ⟨z, hz, h⟩ => Int.le_trans h (b z hz)⟩

/-! loops over told items -/
theorem forMap {α : Type} (xs : List α) (c : α → D) {t : D → En → Option En} {body : Sv} (I : Nat → En → Mh → Prop) {N : En → Mh → Prop} {T : D → Mh → Prop} {C : En → Mh → Prop} {env : En} {mh : Mh} (h0 : I 0 env mh)
    (hs : ∀ i x e m, xs[i]? = some x → I i e m → ∃ env1, t (c x) e = some env1 ∧ (body env1 m).S (I (i + 1)) T (I (i + 1))) (hd : ∀ e m, I xs.length e m → N e m) : (forGo t body (xs.map c) env mh).S N T C := by
  refine S_forGo I _ 0 env mh h0 (fun i d e m hd hI => ?_) (fun e m hI => hd e m (by rw [List.length_map, Nat.zero_add] at hI; exact hI))
  rw [Nat.zero_add] at hI ⊢
  rw [List.getElem?_map] at hd
  cases hx : xs[i]? with
  | none => rw [hx] at hd; cases hd
  | some x =>
    rw [hx] at hd
    cases hd
    exact hs i x e m hx hI
theorem forRange (n : Nat) {t : D → En → Option En} {body : Sv} (I : Nat → En → Mh → Prop) {N : En → Mh → Prop} {T : D → Mh → Prop} {C : En → Mh → Prop} {env : En} {mh : Mh} (h0 : I 0 env mh)
    (hs : ∀ i e m, i < n → I i e m → ∃ env1, t (.int (i : Nat)) e = some env1 ∧ (body env1 m).S (I (i + 1)) T (I (i + 1))) (hd : ∀ e m, I n e m → N e m) : (forGo t body ((List.range n).map fun (k : Nat) => D.int (k : Nat)) env mh).S N T C := by
  refine forMap (List.range n) (fun (k : Nat) => D.int (k : Nat)) I h0 (fun i x e m hx hI => ?_) (fun e m hI => hd e m (by rw [List.length_range] at hI; exact hI))
  have hi : i < n := by have := (List.getElem?_eq_some_iff.mp hx).1; simpa using this
  rw [List.getElem?_range hi] at hx
  cases hx
  exact hs i e m hi hI
theorem compMap {α : Type} (xs : List α) (c : α → D) {t : D → En → Option En} {tst : Bv} {elt : Ev} {env : En} (I : Nat → List D → Mh → Prop) {P : List D → Mh → Prop} {mh : Mh} (h0 : I 0 [] mh)
    (hs : ∀ i x acc m, xs[i]? = some x → I i acc m → ∃ env1, t (c x) env = some env1 ∧ (tst env1 m).S fun b m1 => if b = true then (elt env1 m1).S fun y m2 => I (i + 1) (acc ++ [y]) m2 else I (i + 1) acc m1)
    (hd : ∀ ds m, I xs.length ds m → P ds m) : (compGo t tst elt env (xs.map c) mh).S P := by
  refine S_compGo I _ 0 [] mh h0 (fun i d acc m hd hI => ?_) (fun ds m hI => hd ds m (by rw [List.length_map, Nat.zero_add, List.nil_append] at hI; exact hI))
  rw [Nat.zero_add] at hI ⊢
  rw [List.getElem?_map] at hd
  cases hx : xs[i]? with
  | none => rw [hx] at hd; cases hd
  | some x =>
    rw [hx] at hd
    cases hd
    exact hs i x acc m hx hI

theorem dRng2_n {a b : Int} (h : b - a ≤ 1000000) (ha : -1000000 ≤ a) (ha' : a ≤ 1000000) (hb : -1000000 ≤ b) : dRng2 [.int a, .int b] = some ((List.range (b - a).toNat).map fun (k : Nat) => D.int (a + (k : Int))) := by
  have h' : b - a ≤ (LIM : Int) ∧ (-(2 ^ 62) ≤ a ∧ a < 2 ^ 62 ∧ -(2 ^ 62) ≤ b ∧ b < 2 ^ 62) := by rw [LIM_eq]; omega
  simp only [dRng2]
  rw [if_pos h']
  rfl
theorem dAdd_lst {xs ys : List D} (h : xs.length + ys.length ≤ 1000000) : dAdd (.lst xs) (.lst ys) = some (.lst (xs ++ ys)) := by
  have h' : xs.length + ys.length ≤ LIM := h
  simp only [dAdd, if_pos h']
theorem dAdd_tup {xs ys : List D} (h : xs.length + ys.length ≤ 1000000) : dAdd (.tup xs) (.tup ys) = some (.tup (xs ++ ys)) := by
  have h' : xs.length + ys.length ≤ LIM := h
  simp only [dAdd, if_pos h']
theorem dMul_tup {xs : List D} {k : Nat} (h : k ≤ 1000) (hx : xs.length ≤ 1000) : dMul (.tup xs) (.int (k : Nat)) = some (.tup (List.replicate k xs).flatten) := by
  simp only [dMul]
  rw [if_pos (by omega), Int.toNat_natCast]

/-- two loops, the list is a name's own -/
theorem S_2 {α β : Type} (xs : List α) (c : α → D) (ys : α → List β) (c1 : α → β → D) (f : α → β → D) {vs vs1 : List Nat} {src src1 : Iv} {t t1 : D → En → Option En} {elt : Ev} {env : En} {mh : Mh} {P : Cel → Mh → Prop}
    (h1 : (src env mh).S fun ds m1 => ds = xs.map c ∧ m1 = mh) (h2 : noOwn env vs = true)
    (h4 : ∀ x ∈ xs, ∃ env1, t (c x) (wipeE env vs) = some env1 ∧ ((src1 env1 mh).S fun ds m => ds = (ys x).map (c1 x) ∧ m = mh) ∧ ∀ y ∈ ys x, ∃ env2, t1 (c1 x y) (wipeE env1 vs1) = some env2 ∧ (elt env2 mh).S fun z m => z = f x y ∧ m = mh)
    (hl : (xs.flatMap fun x => (ys x).map (f x)).length ≤ LIM) (hP : P (.ol (xs.flatMap fun x => (ys x).map (f x))) mh) : (mCompC2 vs vs1 src t tt src1 t1 tt elt env mh).S P := by
  have key1 : ∀ (env2 : En) (x : α) (ys : List β), (∀ y ∈ ys, ∃ env3, t1 (c1 x y) env2 = some env3 ∧ (elt env3 mh).S fun z m => z = f x y ∧ m = mh) → compGo t1 tt elt env2 (ys.map (c1 x)) mh = .ok (ys.map (f x)) mh := by
    intro env2 x ys
    induction ys with
    | nil => intro _; rfl
    | cons y r ih =>
      intro h
      obtain ⟨env3, a1, a2⟩ := h y List.mem_cons_self
      rw [List.map_cons]
      unfold compGo
      have a4 : ∀ e, tt e mh = .ok true mh := fun _ => rfl
      simp only [a1, a4, noEr, Rs.bind, if_true, S_eqs a2, ih fun z hz => h z (List.mem_cons_of_mem _ hz), List.map_cons]
  have key : ∀ xs : List α, (∀ x ∈ xs, ∃ env1, t (c x) (wipeE env vs) = some env1 ∧ ((src1 env1 mh).S fun ds m => ds = (ys x).map (c1 x) ∧ m = mh) ∧ ∀ y ∈ ys x, ∃ env2, t1 (c1 x y) (wipeE env1 vs1) = some env2 ∧ (elt env2 mh).S fun z m => z = f x y ∧ m = mh) →
      compGo2 vs1 t tt src1 t1 tt elt (wipeE env vs) (xs.map c) mh = .ok (xs.flatMap fun x => (ys x).map (f x)) mh := by
    intro xs
    induction xs with
    | nil => intro _; rfl
    | cons x r ih =>
      intro h
      obtain ⟨env1, a1, a2, a3⟩ := h x List.mem_cons_self
      have ih := ih fun y hy => h y (List.mem_cons_of_mem _ hy)
      rw [List.map_cons]
      unfold compGo2
      have a4 : ∀ e, tt e mh = .ok true mh := fun _ => rfl
      have k1 := key1 (wipeE env1 vs1) x (ys x) a3
      simp only [a1, a4, noEr, Rs.bind, if_true, S_eqs a2, List.flatMap_cons, k1, ih]
  unfold mCompC2
  simp only [S_bind]
  refine h1.mono fun ds m1 ⟨e1, e2⟩ => ?_
  subst e1
  subst e2
  rw [if_pos h2, key xs h4]
  simp only [noEr, Rs.bind, if_pos hl]
  exact hP
end Mi

set_option Elab.async false
set_option linter.all false
set_option maxRecDepth 100000
set_option maxHeartbeats 1000000
namespace Mi
open PySem L2
/-! ### equality and order of places -/
theorem fine_pl {p : Nat × Nat} : (plD p).fine = true := rfl
theorem eqv_pl {a b : Nat × Nat} : eqv (plD a) (plD b) = decide (a = b) := by
  have h1 := eqv_int (i := (a.1 : Int)) (j := (b.1 : Int))
  have h2 := eqv_int (i := (a.2 : Int)) (j := (b.2 : Int))
  simp only [eqv, D.py] at h1 h2
  have e : eqv (plD a) (plD b) = (decide ((a.1 : Int) = b.1) && (decide ((a.2 : Int) = b.2) && true)) := by
    simp only [eqv, plD, D.py, pys, PyData.eqv, PyData.eqvAll, h1, h2]
    rfl
  rw [e]
  obtain ⟨a1, a2⟩ := a
  obtain ⟨b1, b2⟩ := b
  by_cases h : a1 = b1 <;> by_cases h' : a2 = b2 <;> simp [h, h'] <;> omega
theorem fine_lst {ds : List D} (p : plains ds = true) (h : deps ds ≤ 63) : (D.lst ds).fine = true := by simp [D.fine, D.plain, D.dep, p]; omega
theorem fine_tup {ds : List D} (p : plains ds = true) (h : deps ds ≤ 63) : (D.tup ds).fine = true := by simp [D.fine, D.plain, D.dep, p]; omega
theorem pls_fine2 (ps : List (Nat × Nat)) : (D.lst (ps.map plD)).fine = true ∧ (D.tup (ps.map plD)).fine = true := by
  obtain ⟨a, b⟩ := pls_fine ps
  exact ⟨fine_lst a (by omega), fine_tup a (by omega)⟩
theorem hasD_pl (p : Nat × Nat) : ∀ ps : List (Nat × Nat), hasD (plD p) (ps.map plD) = decide (p ∈ ps)
  | [] => by simp [hasD]
  | q :: r => by
    have ih := hasD_pl p r
    unfold hasD at ih ⊢
    rw [List.map_cons, List.any_cons, ih, eqv_pl]
    by_cases h : p = q
    · subst h; simp
    · have h' : ¬ q = p := fun e => h e.symm
      simp [h, h']
@[simp] theorem dIn_pl {p : Nat × Nat} {ps : List (Nat × Nat)} : dIn (plD p) (.lst (ps.map plD)) = some (.bl (decide (p ∈ ps))) := by
  simp [dIn, dInB, fine_pl, (pls_fine2 ps).1, hasD_pl]
@[simp] theorem dIn_plT {p : Nat × Nat} {ps : List (Nat × Nat)} : dIn (plD p) (.tup (ps.map plD)) = some (.bl (decide (p ∈ ps))) := by
  simp [dIn, dInB, fine_pl, (pls_fine2 ps).2, hasD_pl]
@[simp] theorem dNotIn_pl {p : Nat × Nat} {ps : List (Nat × Nat)} : dNotIn (plD p) (.lst (ps.map plD)) = some (.bl (!decide (p ∈ ps))) := by
  simp [dNotIn, dInB, fine_pl, (pls_fine2 ps).1, hasD_pl]
@[simp] theorem dNotIn_plT {p : Nat × Nat} {ps : List (Nat × Nat)} : dNotIn (plD p) (.tup (ps.map plD)) = some (.bl (!decide (p ∈ ps))) := by
  simp [dNotIn, dInB, fine_pl, (pls_fine2 ps).2, hasD_pl]
@[simp] theorem dEq_pl {a b : Nat × Nat} : dEq (plD a) (plD b) = some (.bl (decide (a = b))) := by simp [dEq, fine_pl, eqv_pl]
@[simp] theorem dNe_pl {a b : Nat × Nat} : dNe (plD a) (plD b) = some (.bl (!decide (a = b))) := by simp [dNe, fine_pl, eqv_pl]
def ltP (a b : Nat × Nat) : Bool := decide (a.1 < b.1 ∨ (a.1 = b.1 ∧ a.2 < b.2))
theorem lt_pl {a b : Nat × Nat} : lt (plD a) (plD b) = ltP a b := by
  have h := PySem.W.dataLt_ii (a.1 : Int) a.2 b.1 b.2
  unfold lt plD ltP
  simp only [D.py, pys]
  rw [h]
  refine decide_eq_decide.mpr ?_
  omega
theorem alike_pl {a b : Nat × Nat} : PySem.W.alike (plD a).py (plD b).py = true := rfl
theorem ord_pl {a b : Nat × Nat} : ord (plD a) (plD b) = true := by unfold ord; rw [fine_pl, fine_pl, alike_pl]; rfl
@[simp] theorem dLt_pl {a b : Nat × Nat} : dLt (plD a) (plD b) = some (.bl (ltP a b)) := by simp [dLt, ord_pl, lt_pl]
@[simp] theorem dGt_pl {a b : Nat × Nat} : dGt (plD a) (plD b) = some (.bl (ltP b a)) := by simp [dGt, ord_pl, lt_pl]
theorem ltP_irrefl {a : Nat × Nat} : ltP a a = false := by simp [ltP]
theorem ltP_trans {a b c : Nat × Nat} (h1 : ltP a b = true) (h2 : ltP b c = true) : ltP a c = true := by
  simp only [ltP, decide_eq_true_eq] at *
  omega
theorem ltP_tri (a b : Nat × Nat) : ltP a b = true ∨ a = b ∨ ltP b a = true := by
  obtain ⟨a1, a2⟩ := a
  obtain ⟨b1, b2⟩ := b
  simp only [ltP, decide_eq_true_eq, Prod.mk.injEq]
  omega
/-! ### sorting, of what has a strict order -/
structure Ord (α : Type) where
  ltb : α → α → Bool
  irrefl : ∀ a, ltb a a = false
  trans : ∀ a b c, ltb a b = true → ltb b c = true → ltb a c = true
  tri : ∀ a b, ltb a b = true ∨ a = b ∨ ltb b a = true
def Ord.le {α : Type} (o : Ord α) (a b : α) : Bool := !o.ltb b a
theorem Ord.le_iff {α : Type} (o : Ord α) {a b : α} : o.le a b = true ↔ (o.ltb a b = true ∨ a = b) := by
  unfold Ord.le
  constructor
  · intro h
    rcases o.tri a b with h1 | h1 | h1
    · exact .inl h1
    · exact .inr h1
    · rw [h1] at h; cases h
  · rintro (h | rfl)
    · cases hb : o.ltb b a with
      | false => rfl
      | true => have := o.trans a b a h hb; rw [o.irrefl] at this; cases this
    · rw [o.irrefl]; rfl
theorem Ord.pw {α : Type} (o : Ord α) (xs : List α) : (xs.mergeSort o.le).Pairwise fun a b => o.le a b = true := by
  refine List.pairwise_mergeSort (fun a b c h1 h2 => ?_) (fun a b => ?_) xs
  · rw [o.le_iff] at h1 h2 ⊢
    rcases h1 with h1 | rfl
    · rcases h2 with h2 | rfl
      · exact .inl (o.trans _ _ _ h1 h2)
      · exact .inl h1
    · exact h2
  · rw [Bool.or_eq_true, o.le_iff, o.le_iff]
    rcases o.tri a b with h | h | h
    · exact .inl (.inl h)
    · exact .inl (.inr h)
    · exact .inr (.inl h)
theorem Ord.sorted {α : Type} (o : Ord α) {xs ys : List α} (p : xs.Perm ys) (h : ys.Pairwise fun a b => o.le a b = true) : xs.mergeSort o.le = ys := by
  refine List.Perm.eq_of_pairwise (le := fun a b => o.le a b = true) (fun a b _ _ h1 h2 => ?_) (o.pw xs) h ((List.mergeSort_perm xs o.le).trans p)
  rw [o.le_iff] at h1 h2
  rcases h1 with h1 | h1
  · rcases h2 with h2 | h2
    · have := o.trans _ _ _ h1 h2; rw [o.irrefl] at this; cases this
    · exact h2.symm
  · exact h1
/-- the same members, none twice, the one rising -/
theorem Ord.sorted_of {α : Type} (o : Ord α) {xs ys : List α} (hx : xs.Nodup) (h : ys.Pairwise fun a b => o.ltb a b = true) (hm : ∀ a, a ∈ xs ↔ a ∈ ys) : xs.mergeSort o.le = ys := by
  have hy : ys.Nodup := h.imp fun {a b} hab e => by subst e; rw [o.irrefl] at hab; cases hab
  exact o.sorted ((List.perm_ext_iff_of_nodup hx hy).mpr hm) (h.imp fun {a b} hab => o.le_iff.mpr (.inl hab))
def ordP : Ord (Nat × Nat) := ⟨ltP, fun _ => ltP_irrefl, fun _ _ _ => ltP_trans, ltP_tri⟩
def ordI : Ord Int := ⟨fun a b => decide (a < b), fun a => by simp, fun a b c h1 h2 => by simp at *; omega, fun a b => by simp; omega⟩
def ordN : Ord Nat := ⟨fun a b => decide (a < b), fun a => by simp, fun a b c h1 h2 => by simp at *; omega, fun a b => by simp; omega⟩
def Ord.pair {α β : Type} (o : Ord α) (u : Ord β) [DecidableEq α] : Ord (α × β) where
  ltb a b := o.ltb a.1 b.1 || (decide (a.1 = b.1) && u.ltb a.2 b.2)
  irrefl a := by simp [o.irrefl, u.irrefl]
  trans a b c h1 h2 := by
    simp only [Bool.or_eq_true, Bool.and_eq_true, decide_eq_true_eq] at *
    rcases h1 with h1 | ⟨e1, h1⟩
    · rcases h2 with h2 | ⟨e2, h2⟩
      · exact .inl (o.trans _ _ _ h1 h2)
      · rw [← e2]; exact .inl h1
    · rcases h2 with h2 | ⟨e2, h2⟩
      · rw [e1]; exact .inl h2
      · exact .inr ⟨e1.trans e2, u.trans _ _ _ h1 h2⟩
  tri a b := by
    obtain ⟨a1, a2⟩ := a
    obtain ⟨b1, b2⟩ := b
    simp only [Bool.or_eq_true, Bool.and_eq_true, decide_eq_true_eq, Prod.mk.injEq]
    rcases o.tri a1 b1 with h | h | h
    · exact .inl (.inl h)
    · rcases u.tri a2 b2 with h' | h' | h'
      · exact .inl (.inr ⟨h, h'⟩)
      · exact .inr (.inl ⟨h, h'⟩)
      · exact .inr (.inr (.inr ⟨h.symm, h'⟩))
    · exact .inr (.inr (.inl h))
/-- sorted(..) of things told by an order -/
theorem dSorted_of {α : Type} (o : Ord α) (enc : α → D) (hlt : ∀ a b, lt (enc a) (enc b) = o.ltb a b) {d : D} {xs : List α} (hi : itemsA d = some (xs.map enc)) (hs : sortable (xs.map enc) = true) : dSorted d = some (.lst ((xs.mergeSort o.le).map enc)) := by
  unfold dSorted
  rw [hi]
  simp only [Option.bind_some, if_pos hs]
  rw [PySem.W.sort_maps (s := leD) enc (fun a _ b _ => by unfold Ord.le leD; rw [hlt])]
theorem sortable_pl {ps : List (Nat × Nat)} (h : ps.length ≤ 1000000) : sortable (ps.map plD) = true := by
  unfold sortable
  have h1 : decide ((ps.map plD).length ≤ LIM) = true := decide_eq_true (by rw [List.length_map]; exact h)
  have h2 : ((ps.map plD).all fun d => d.plain && decide (d.dep ≤ 8)) = true := by
    rw [List.all_map]; exact List.all_eq_true.mpr fun p _ => rfl
  have h3 : ((ps.map plD).all fun a => (ps.map plD).all fun b => PySem.W.alike a.py b.py) = true := by
    rw [List.all_map]
    refine List.all_eq_true.mpr fun p _ => ?_
    simp only [Function.comp_apply, List.all_map]
    exact List.all_eq_true.mpr fun q _ => rfl
  have h4 : ((ps.map plD).all isTupI) = true := by
    rw [List.all_map]; exact List.all_eq_true.mpr fun p _ => rfl
  rw [h1, h2, h3, h4]
  rfl
theorem dSorted_pl {ps : List (Nat × Nat)} (h : ps.length ≤ 1000000) : dSorted (.lst (ps.map plD)) = some (.lst ((ps.mergeSort ordP.le).map plD)) := dSorted_of ordP plD (fun _ _ => lt_pl) rfl (sortable_pl h)
theorem dSorted_plT {ps : List (Nat × Nat)} (h : ps.length ≤ 1000000) : dSorted (.tup (ps.map plD)) = some (.lst ((ps.mergeSort ordP.le).map plD)) := dSorted_of ordP plD (fun _ _ => lt_pl) rfl (sortable_pl h)
/-! the places rise -/
theorem places_rise (h w : Nat) : (places h w).Pairwise fun a b => ltP a b = true := by
  unfold places
  induction h with
  | zero => exact List.Pairwise.nil
  | succ n ih =>
    rw [List.range_succ, List.flatMap_append, List.flatMap_singleton, List.pairwise_append]
    refine ⟨ih, ?_, fun a ha b hb => ?_⟩
    · rw [List.pairwise_map]
      refine List.Pairwise.imp (R := fun a b => a < b) (fun {a b} hab => ?_) List.pairwise_lt_range
      simp [ltP, hab]
    · obtain ⟨c, _, rfl⟩ := List.mem_map.mp hb
      obtain ⟨r, hr, ha⟩ := List.mem_flatMap.mp ha
      obtain ⟨c', _, rfl⟩ := List.mem_map.mp ha
      have := List.mem_range.mp hr
      simp only [ltP, decide_eq_true_eq]
      omega
theorem rise_nodup {ps : List (Nat × Nat)} (h : ps.Pairwise fun a b => ltP a b = true) : ps.Nodup := h.imp fun {a b} hab e => by subst e; rw [ltP_irrefl] at hab; cases hab
theorem filter_rise (h w : Nat) (f : Nat × Nat → Bool) : ((places h w).filter f).Pairwise fun a b => ltP a b = true := (places_rise h w).filter f
theorem trees_rise (rows : List Str) (w : Nat) : (treesOf rows w).Pairwise fun a b => ltP a b = true := filter_rise _ _ _
/-- pairs of places -/
def ppD (x : (Nat × Nat) × (Nat × Nat)) : D := .tup [plD x.1, plD x.2]
def ordPP : Ord ((Nat × Nat) × (Nat × Nat)) := ordP.pair ordP
theorem lt_pp {a b : (Nat × Nat) × (Nat × Nat)} : lt (ppD a) (ppD b) = ordPP.ltb a b := by
  have h := PySem.W.dataLt_pair (x := (plD a.1).py) (y := (plD a.2).py) (x' := (plD b.1).py) (y' := (plD b.2).py) rfl rfl
  have e1 : PyData.eqv (plD a.1).py (plD b.1).py = decide (a.1 = b.1) := eqv_pl
  have e2 : PyData.eqv (plD a.2).py (plD b.2).py = decide (a.2 = b.2) := eqv_pl
  have l1 : PySem.W.dataLt (plD a.1).py (plD b.1).py = ltP a.1 b.1 := lt_pl
  have l2 : PySem.W.dataLt (plD a.2).py (plD b.2).py = ltP a.2 b.2 := lt_pl
  rw [e1, e2, l1, l2] at h
  unfold lt ppD
  simp only [D.py, pys] at h ⊢
  rw [h]
  show _ = (ltP a.1 b.1 || (decide (a.1 = b.1) && ltP a.2 b.2))
  by_cases h1 : a.1 = b.1
  · rw [h1, ltP_irrefl]
    simp only [decide_true, if_true, Bool.false_or, Bool.true_and]
    by_cases h2 : a.2 = b.2
    · rw [h2, ltP_irrefl]; simp
    · simp [h2]
  · simp [h1]
theorem sortable_pp {ps : List ((Nat × Nat) × (Nat × Nat))} (h : ps.length ≤ 1000000) : sortable (ps.map ppD) = true := by
  unfold sortable
  have h1 : decide ((ps.map ppD).length ≤ LIM) = true := decide_eq_true (by rw [List.length_map]; exact h)
  have h2 : ((ps.map ppD).all fun d => d.plain && decide (d.dep ≤ 8)) = true := by
    rw [List.all_map]; exact List.all_eq_true.mpr fun p _ => rfl
  have h3 : ((ps.map ppD).all fun a => (ps.map ppD).all fun b => PySem.W.alike a.py b.py) = true := by
    rw [List.all_map]
    refine List.all_eq_true.mpr fun p _ => ?_
    simp only [Function.comp_apply, List.all_map]
    exact List.all_eq_true.mpr fun q _ => rfl
  have h4 : ((ps.map ppD).all isTupI) = true := by
    rw [List.all_map]; exact List.all_eq_true.mpr fun p _ => rfl
  rw [h1, h2, h3, h4]
  rfl
theorem dSorted_pp {ps : List ((Nat × Nat) × (Nat × Nat))} (h : ps.length ≤ 1000000) : dSorted (.lst (ps.map ppD)) = some (.lst ((ps.mergeSort ordPP.le).map ppD)) := dSorted_of ordPP ppD (fun _ _ => lt_pp) rfl (sortable_pp h)
/-! combinators of the wider library -/
section
variable {env : En} {mh : Mh} {P : D → Mh → Prop} {PC : Cel → Mh → Prop} {N C : En → Mh → Prop} {T : D → Mh → Prop} {a b d : Ev}
@[simp] theorem S_lstLoc {ms : Av} : (mLstLoc ms env mh).S P = (ms env mh).S fun ds m1 => if ds.length ≤ LIM then P (.loc m1.length) (m1 ++ [.lst ds]) else False := by
  simp only [mLstLoc, S_bind]; congr; funext ds m1; split <;> rfl
@[simp] theorem S_listLoc {ms : Av} : (mListLoc ms env mh).S P = (ms env mh).S fun ds m1 => match lstOf ds with | some es => P (.loc m1.length) (m1 ++ [.lst es]) | none => False := by
  simp only [mListLoc, S_bind]; congr; funext ds m1; split <;> simp_all
@[simp] theorem S_mBM {f : Mh → List D → Option D} {ms : Av} : (mBM f ms env mh).S P = (ms env mh).S fun ds m1 => (lift (f m1 ds) m1).S P := by simp only [mBM, S_bind]
@[simp] theorem S_lr1 : (mLr1 a env mh).S PC = (a env mh).S fun d m1 => match dRng1 [d] with | some ds => PC (.ol ds) m1 | none => False := by
  simp only [mLr1, S_bind, S_lift]; congr; funext d m1; (try (cases dRng1 [d] <;> rfl))
@[simp] theorem S_lr2 : (mLr2 a b env mh).S PC = (a env mh).S fun d m1 => (b env m1).S fun e m2 => match dRng2 [d, e] with | some ds => PC (.ol ds) m2 | none => False := by
  simp only [mLr2, S_bind, S_lift]; congr; funext d m1; congr; funext e m2; (try (cases dRng2 [d, e] <;> rfl))
@[simp] theorem S_fzLr1 : (mFz (mLr1 a) env mh).S P = (a env mh).S fun d m1 => match dRng1 [d] with | some ds => P (.lst ds) m1 | none => False := by
  unfold mFz
  rw [S_bind, S_lr1]; congr; (try (funext d m1; cases dRng1 [d] <;> rfl))
@[simp] theorem S_fzLr2 : (mFz (mLr2 a b) env mh).S P = (a env mh).S fun d m1 => (b env m1).S fun e m2 => match dRng2 [d, e] with | some ds => P (.lst ds) m2 | none => False := by
  unfold mFz
  rw [S_bind, S_lr2]; congr
@[simp] theorem S_rev : (mRev a env mh).S PC = (a env mh).S fun d m1 => match dRev d with | some cel => PC cel m1 | none => False := by
  simp only [mRev, S_bind, S_lift]; congr; funext d m1; cases dRev d <;> rfl
@[simp] theorem S_fzRev : (mFz (mRev a) env mh).S P = (a env mh).S fun d m1 => match d with | .lst ds => P (.lst ds.reverse) m1 | _ => False := by
  unfold mFz
  rw [S_bind, S_rev]; congr; funext d m1; cases d <;> rfl
@[simp] theorem S_newD {t : Bool} : (mNewD t env mh).S PC = PC (.od t [] []) mh := rfl
@[simp] theorem S_putV {i : Nat} : (mPutV i a b env mh).S N T C = (b env mh).S fun d m1 => match env[i]? with | some (.od t ks vs) => (a env m1).S fun k m2 => (if ks.length < LIM then (match dPutD t ks vs k d with | some r => N (env.set i (.od t r.1 r.2)) m2 | none => False) else False) | _ => False := by
  simp only [mPutV, S_bindS]; congr; funext d m1
  cases env[i]? with
  | none => rfl
  | some s =>
    cases s <;> first | rfl | skip
    simp only [S_bindS]; congr; funext k m2
    split
    · split <;> simp_all
    · rfl
@[simp] theorem S_ixV {i : Nat} : (mIxV i a env mh).S P = match dctV env i with | some (t, ks, vs) => (a env mh).S fun y m1 => (match (dFind t ks vs y).bind id with | some d => P d m1 | none => False) | none => False := by
  unfold mIxV
  cases dctV env i with
  | none => rfl
  | some z => obtain ⟨t, ks, vs⟩ := z; simp only [S_bind, S_lift]; congr; funext y m1; cases (dFind t ks vs y).bind id <;> rfl
@[simp] theorem S_inV {neg : Bool} {i : Nat} : (mInV neg i a env mh).S P = (a env mh).S fun y m1 => match dctV env i with | some (t, ks, vs) => (match (dFind t ks vs y).map (inV neg) with | some d => P d m1 | none => False) | none => False := by
  simp only [mInV, S_bind]; congr; funext y m1
  cases dctV env i with
  | none => rfl
  | some z => obtain ⟨t, ks, vs⟩ := z; simp only [S_lift]; cases (dFind t ks vs y).map (inV neg) <;> rfl
@[simp] theorem S_getV {i : Nat} : (mGetV i a b env mh).S P = match dctV env i with | some (t, ks, vs) => (a env mh).S fun k m1 => (b env m1).S fun x m2 => (match (dFind t ks vs k).map fun o => o.getD x with | some d => P d m2 | none => False) | none => False := by
  unfold mGetV
  cases dctV env i with
  | none => rfl
  | some z => obtain ⟨t, ks, vs⟩ := z; simp only [S_bind, S_lift]; congr; funext k m1; congr; funext x m2; cases (dFind t ks vs k).map (fun o => o.getD x) <;> rfl
@[simp] theorem S_iterD {PA : List D → Mh → Prop} : (mIterD a env mh).S PA = (a env mh).S fun d m1 => match keysD d with | some ds => PA ds m1 | none => False := by
  simp only [mIterD, S_bind, S_lift]; congr; funext d m1; cases keysD d <;> rfl
@[simp] theorem S_augL {i : Nat} : (mAugL i a env mh).S N T C = match env[i]? with | some (.ol ds) => (a env mh).S fun d m1 => (match d with | .lst es => (if ds.length + es.length ≤ LIM then N (env.set i (.ol (ds ++ es))) m1 else False) | _ => False) | _ => False := by
  unfold mAugL
  cases env[i]? with
  | none => rfl
  | some s =>
    cases s <;> first | rfl | skip
    simp only [S_bindS]; congr; funext d m1
    cases d <;> first | rfl | (simp only [S_iteS]; rfl)
@[simp] theorem S_ixO {i : Nat} : (mIxO i a env mh).S P = match env[i]? with | some (.ol ds) => (a env mh).S fun y m1 => (match y with | .int k => (match atI ds k with | some d => P d m1 | none => False) | _ => False) | _ => False := by
  unfold mIxO
  cases env[i]? with
  | none => rfl
  | some s =>
    cases s <;> first | rfl | skip
    simp only [S_bind]; congr; funext d m1
    cases d <;> first | rfl | (rename_i k; simp only [S_lift]; cases atI _ k <;> rfl)
@[simp] theorem S_lenO {i : Nat} : (mLenO i env mh).S P = match env[i]? with | some (.ol ds) => P (.int ds.length) mh | _ => False := by
  unfold mLenO
  cases env[i]? with
  | none => rfl
  | some s => cases s <;> rfl
@[simp] theorem S_onlyBl {o : Option D} : (onlyBl o mh).S P = match o with | some (.bl b) => P (.bl b) mh | _ => False := by
  unfold onlyBl
  split <;> simp_all
@[simp] theorem S_OL {f : D → D → Option D} {i : Nat} : (mOL f i a env mh).S P = match env[i]? with | some (.ol ds) => (a env mh).S fun y m1 => (match f (.lst ds) y with | some (.bl b) => P (.bl b) m1 | _ => False) | _ => False := by
  unfold mOL
  cases env[i]? with
  | none => rfl
  | some s =>
    cases s <;> first | rfl | skip
    simp only [S_bind, S_onlyBl]
@[simp] theorem S_OR {f : D → D → Option D} {i : Nat} : (mOR f i a env mh).S P = (a env mh).S fun y m1 => match env[i]? with | some (.ol ds) => (match f y (.lst ds) with | some (.bl b) => P (.bl b) m1 | _ => False) | _ => False := by
  simp only [mOR, S_bind]; congr; funext y m1
  cases env[i]? with
  | none => rfl
  | some s => cases s <;> first | rfl | simp only [S_onlyBl]
@[simp] theorem S_pop {i : Nat} {t : D → En → Option En} : (mPop i t env mh).S N T C = match env[i]? with | some (.ol ds) => (match ds[ds.length - 1]? with | some d => (match t d (env.set i (.ol ds.dropLast)) with | some e1 => N e1 mh | none => False) | none => False) | _ => False := by
  unfold mPop
  cases env[i]? with
  | none => rfl
  | some s =>
    cases s <;> first | rfl | skip
    rename_i ds
    simp only
    cases ds[ds.length - 1]? with
    | none => rfl
    | some d => simp only; cases t d (env.set i (.ol ds.dropLast)) <;> rfl
@[simp] theorem S_setIxL {o : Ev} : (mSetIxL o b a env mh).S N T C = (a env mh).S fun d m1 => (o env m1).S fun o m2 => match o with | .loc n => ((b env m2).S fun k m3 => match k with | .int k => (match m3[n]? with | some (.lst ds) => (match ixN ds.length k with | some j => N env (m3.set n (.lst (ds.set j d))) | none => False) | _ => False) | _ => False) | _ => False := by
  simp only [mSetIxL, S_bindS]; congr; funext d m1; congr; funext o m2
  cases o <;> first | rfl | skip
  rename_i n
  simp only [S_bindS]; congr; funext k m3
  cases k <;> first | rfl | skip
  rename_i k
  simp only
  cases m3[n]? with
  | none => rfl
  | some o =>
    cases o with
    | dead => rfl
    | lst ds => simp only; cases ixN ds.length k <;> rfl
@[simp] theorem S_appL {o : Ev} : (mAppL o a env mh).S N T C = (o env mh).S fun o m1 => match o with | .loc n => (match m1[n]? with | some (.lst _) => ((a env m1).S fun d m2 => match m2[n]? with | some (.lst ds) => (if ds.length < LIM then N env (m2.set n (.lst (ds ++ [d]))) else False) | _ => False) | _ => False) | _ => False := by
  simp only [mAppL, S_bindS]; congr; funext o m1
  cases o <;> first | rfl | skip
  rename_i n
  simp only
  cases m1[n]? with
  | none => rfl
  | some o =>
    cases o with
    | dead => rfl
    | lst ds =>
      simp only [S_bindS]; congr; funext d m2
      cases m2[n]? with
      | none => rfl
      | some o =>
        cases o with
        | dead => rfl
        | lst ds => simp only [S_iteS]; rfl
end
/-! lists within a list -/
def rowMO (r : List Int) : MO := .lst (r.map .int)
def locsD (L n : Nat) : D := .lst ((List.range n).map fun (i : Nat) => .loc (L + i))
theorem ixN_nat {n i : Nat} (h : i < n) : ixN n (i : Int) = some i := by
  unfold ixN
  rw [if_pos (Int.natCast_nonneg i), if_pos (by omega)]
  rfl
theorem loc_row {m0 : Mh} {hs : List (List Int)} {i : Nat} (h : i < hs.length) : (m0 ++ hs.map rowMO)[m0.length + i]? = some (.lst ((hs[i]).map .int)) := by
  rw [List.getElem?_append_right (by omega), List.getElem?_map]
  simp [h, rowMO]
theorem locs_ix {m : Mh} {L n i : Nat} (h : i < n) : dIx m (locsD L n) (.int (i : Nat)) = some (.loc (L + i)) := atI_nat' (by simp [h])
theorem loc_ix {m0 : Mh} {hs : List (List Int)} {i j : Nat} (h : i < hs.length) (h2 : j < (hs[i]).length) : dIx (m0 ++ hs.map rowMO) (.loc (m0.length + i)) (.int (j : Nat)) = some (.int (hs[i])[j]) := by
  simp only [dIx, loc_row h]
  exact atI_nat' (by simp [h2])
def bump (hs : List (List Int)) (p : Nat × Nat) (k : Int) : List (List Int) := hs.set p.1 ((hs[p.1]?.getD []).set p.2 (hI hs p + k))
theorem bump_self {hs : List (List Int)} {p : Nat × Nat} {k : Int} (h1 : p.1 < hs.length) (h2 : p.2 < (hs[p.1]).length) : hI (bump hs p k) p = hI hs p + k := by
  unfold bump
  simp [hI, h1, h2]
theorem bump_other {hs : List (List Int)} {p q : Nat × Nat} {k : Int} (hne : q ≠ p) : hI (bump hs p k) q = hI hs q := by
  unfold bump
  by_cases h : q.1 = p.1
  · have h' : ¬ p.2 = q.2 := fun e => hne (Prod.ext h e.symm)
    by_cases hl : p.1 < hs.length
    · simp [hI, h, hl, List.getElem?_set, h']
    · simp [hI, h, hl]
  · have h' : ¬ p.1 = q.1 := fun e => h e.symm
    simp [hI, List.getElem?_set, h']
theorem bump_zero {hs : List (List Int)} {p : Nat × Nat} (h1 : p.1 < hs.length) (h2 : p.2 < (hs[p.1]).length) : bump hs p 0 = hs := by
  unfold bump
  have e : hI hs p = hs[p.1][p.2] := by simp [hI, h1, h2]
  rw [e, Int.add_zero, List.getElem?_eq_getElem h1, Option.getD_some, List.set_getElem_self, List.set_getElem_self]
theorem bump_set {m0 : Mh} {hs : List (List Int)} {p : Nat × Nat} {k : Int} (h1 : p.1 < hs.length) (h2 : p.2 < (hs[p.1]).length) :
    (m0 ++ (bump hs p k).map rowMO).set (m0.length + p.1) (.lst ((((hs[p.1]).set p.2 (hI hs p + k)).map .int).set p.2 (.int (hI hs p + k + 1)))) = m0 ++ (bump hs p (k + 1)).map rowMO := by
  unfold bump
  rw [List.set_append_right _ _ (by omega), List.map_set, List.map_set, Nat.add_sub_cancel_left, List.set_set, List.getElem?_eq_getElem h1, Option.getD_some]
  congr 2
  unfold rowMO
  rw [List.map_set, List.map_set, List.set_set, Int.add_assoc]
theorem bump_row {hs : List (List Int)} {p : Nat × Nat} {k : Int} (h1 : p.1 < hs.length) : (bump hs p k)[p.1]'(by unfold bump; rw [List.length_set]; exact h1) = (hs[p.1]).set p.2 (hI hs p + k) := by
  unfold bump
  simp [h1]
theorem bump_len {hs : List (List Int)} {p : Nat × Nat} {k : Int} : (bump hs p k).length = hs.length := by unfold bump; rw [List.length_set]
theorem bump_ok {rows : List Str} {w : Nat} {hs : List (List Int)} (O : PlotOk rows w) (F : HsOk rows w hs) {p : Nat × Nat} (h1 : p.1 < rows.length) (h2 : p.2 < w) (ht : sgn rows p ≠ 46) {k : Int} (hp : 1 ≤ hI hs p) (k0 : 0 ≤ k) (k9 : hI hs p + k ≤ 9) : HsOk rows w (bump hs p k) := by
  have hl := F.len
  refine ⟨by rw [bump_len]; exact hl, fun i r hr => ?_⟩
  obtain ⟨ds, e1, e2, e3, e4⟩ := F.row i r hr
  by_cases hi : i = p.1
  · subst hi
    have hp1 : p.1 < hs.length := by omega
    refine ⟨ds.set p.2 (hI hs p + k), ?_, by rw [List.length_set]; exact e2, fun y hy => ?_, fun c ch y hc hy => ?_⟩
    · unfold bump
      rw [List.getElem?_set_self hp1, e1]
      rfl
    · rcases List.mem_or_eq_of_mem_set hy with hy | rfl
      · exact e3 y hy
      · omega
    · by_cases hcp : c = p.2
      · subst hcp
        rw [List.getElem?_set_self (by omega)] at hy
        cases hy
        have : sgn rows p = ch := sgn_of hr hc
        rw [this] at ht
        exact ⟨fun h => absurd h ht, fun h => by omega⟩
      · rw [List.getElem?_set_ne (Ne.symm hcp)] at hy
        exact e4 c ch y hc hy
  · refine ⟨ds, ?_, e2, e3, e4⟩
    unfold bump
    rw [List.getElem?_set_ne (Ne.symm hi)]
    exact e1
end Mi

set_option Elab.async false
set_option linter.all false
set_option maxRecDepth 100000
set_option maxHeartbeats 1000000
namespace Mi
open PySem L2
/-! ### statements over the new combinators -/
section
variable {env : En} {mh : Mh} {N : En → Mh → Prop} {T : D → Mh → Prop} {C : En → Mh → Prop} {P : D → Mh → Prop}
@[simp] theorem S_mcNil {P : List Cel → Mh → Prop} : (mcNil env mh).S P = P [] mh := rfl
@[simp] theorem S_mcCons {m : Cv} {r : Cvs} {P : List Cel → Mh → Prop} : (mcCons m r env mh).S P = (m env mh).S fun a m1 => (r env m1).S fun b m2 => P (a :: b) m2 := by
  simp only [mcCons, S_bind, S_noEr]; rfl
@[simp] theorem S_parN {js : List Nat} {m : Cvs} : (mParN js m env mh).S N T C = (m env mh).S fun cs m1 => if js.all (· < env.length) = true then N (setsC js cs env) m1 else False := by
  simp only [mParN, S_bindS, S_noEr]; congr; funext cs m1; rw [S_iteS]; rfl
@[simp] theorem setsC_nil {cs : List Cel} : setsC [] cs env = env := by cases cs <;> rfl
@[simp] theorem setsC_cons {j : Nat} {js : List Nat} {a : Cel} {cs : List Cel} : setsC (j :: js) (a :: cs) env = (setsC js cs env).set j a := rfl
@[simp] theorem S_sortKd {kvs : List (Str × D)} : (mSortKd kvs env mh).S P = match dSorted (.lst (kvs.map fun p => .str p.1)) with | some d => P d mh | none => False := by
  simp only [mSortKd, S_lift]
  cases dSorted (.lst (kvs.map fun p => .str p.1)) <;> rfl
end
/-! ### dicts, their keys told by an injection -/
def KeyEnc {α : Type} (t : Bool) (enc : α → D) : Prop := match t with
  | false => ∃ kk : α → Key, (∀ a, keyOf (enc a) = some (kk a)) ∧ ∀ a b, kk a = kk b → a = b
  | true => ∃ kk : α → List Key, (∀ a, keyT (enc a) = some (kk a)) ∧ ∀ a b, kk a = kk b → a = b
theorem keyEnc_str : KeyEnc false D.str := ⟨.inr, fun _ => rfl, fun a b h => by cases h; rfl⟩
theorem keyEnc_int : KeyEnc false D.int := ⟨.inl, fun _ => rfl, fun a b h => by cases h; rfl⟩
theorem keyEnc_pl : KeyEnc true plD := ⟨fun p => [.inl p.1, .inl p.2], fun _ => rfl, fun a b h => by
  injection h with h1 h2
  injection h2 with h2 h3
  injection h1 with h1
  injection h2 with h2
  exact Prod.ext (by omega) (by omega)⟩
section
variable {α κ : Type} [DecidableEq κ] [DecidableEq α] {f : D → Option κ} {enc : α → D} {kk : α → κ}
theorem look_map (h1 : ∀ a, f (enc a) = some (kk a)) (h2 : ∀ a b, kk a = kk b → a = b) (v : α → D) (a : α) : ∀ xs : List α, dLook f (kk a) (xs.map enc) (xs.map v) = if a ∈ xs then some (v a) else none
  | [] => rfl
  | x :: r => by
    simp only [List.map_cons, dLook, h1]
    by_cases e : a = x
    · subst e
      simp
    · have e' : ¬ kk x = kk a := fun h => e (h2 _ _ h).symm
      simp [e, e', look_map h1 h2 v a r]
theorem put_map (h1 : ∀ a, f (enc a) = some (kk a)) (h2 : ∀ a b, kk a = kk b → a = b) (v : α → D) (d : D) (a : α) (xs : List α) : dPutL f (kk a) (enc a) d (xs.map enc) (xs.map v) = if a ∈ xs then (xs.map enc, xs.map fun x => if x = a then d else v x) else ((xs ++ [a]).map enc, xs.map v ++ [d]) := by
  have ha : ((xs.map enc).any fun x => decide (f x = some (kk a))) = decide (a ∈ xs) := by
    rw [List.any_map, Bool.eq_iff_iff]
    simp only [List.any_eq_true, Function.comp_apply, h1, decide_eq_true_eq]
    constructor
    · rintro ⟨x, hx, e⟩
      injection e with e
      rw [← h2 _ _ e]; exact hx
    · intro h; exact ⟨a, h, rfl⟩
  unfold dPutL
  rw [ha]
  by_cases h : a ∈ xs
  · simp only [h, decide_true, if_true]
    congr 1
    refine List.ext_getElem (by simp) fun i i1 i2 => ?_
    simp only [List.getElem_zipWith, List.getElem_map, h1]
    by_cases e : xs[i]'(by simpa using i2) = a
    · simp [e]
    · have : ¬ kk (xs[i]'(by simpa using i2)) = kk a := fun h => e (h2 _ _ h)
      simp [e, this]
  · simp [h]
end
theorem dFind_map {α : Type} [DecidableEq α] {t : Bool} {enc : α → D} (K : KeyEnc t enc) (xs : List α) (v : α → D) (a : α) : dFind t (xs.map enc) (xs.map v) (enc a) = some (if a ∈ xs then some (v a) else none) := by
  cases t with
  | false =>
    obtain ⟨kk, h1, h2⟩ := K
    simp only [dFind, h1, Option.map_some, look_map h1 h2]
  | true =>
    obtain ⟨kk, h1, h2⟩ := K
    simp only [dFind, h1, Option.map_some, look_map h1 h2]
theorem dPut_map {α : Type} [DecidableEq α] {t : Bool} {enc : α → D} (K : KeyEnc t enc) (xs : List α) (v : α → D) (a : α) (d : D) : dPutD t (xs.map enc) (xs.map v) (enc a) d = some (if a ∈ xs then (xs.map enc, xs.map fun x => if x = a then d else v x) else ((xs ++ [a]).map enc, xs.map v ++ [d])) := by
  cases t with
  | false =>
    obtain ⟨kk, h1, h2⟩ := K
    simp only [dPutD, h1, Option.map_some, put_map h1 h2]
  | true =>
    obtain ⟨kk, h1, h2⟩ := K
    simp only [dPutD, h1, Option.map_some, put_map h1 h2]
theorem dPut_new {α : Type} [DecidableEq α] {t : Bool} {enc : α → D} (K : KeyEnc t enc) {xs : List α} {v : α → D} {a : α} (h : a ∉ xs) : dPutD t (xs.map enc) (xs.map v) (enc a) (v a) = some ((xs ++ [a]).map enc, (xs ++ [a]).map v) := by
  rw [dPut_map K, if_neg h]
  simp
theorem dFind_mem {α : Type} [DecidableEq α] {t : Bool} {enc : α → D} (K : KeyEnc t enc) {xs : List α} {v : α → D} {a : α} (h : a ∈ xs) : dFind t (xs.map enc) (xs.map v) (enc a) = some (some (v a)) := by
  rw [dFind_map K, if_pos h]
end Mi

set_option Elab.async false
set_option linter.all false
set_option maxRecDepth 100000
set_option maxHeartbeats 1000000
namespace Mi
open PySem PySem.Spec PyProof.Rows PyProof.V L2
open PySem.W (AlikeAll maxD minD dataLt)
/-! ### max, min over whatever can be told apart -/

theorem max_two_data {prog : Program} {w : World} {A : Around} {E : Value → Shared → Prop} {s : Shared} {a b : Value} {p q : PyData} {as : List Addr} {Q : Value → Shared → Prop} (hh : A.handled = none) (hr : ReadsAll s.heap [a, b] [p, q] as) (ha : AlikeAll [p, q]) (hu : A.units + 1 + PyData.depthAll [p, q] < cLine)
    (h : ∀ h' tk, (∀ c o, s.heap.get? c = some o → h'.get? c = some o) → Q (if dataLt p q then b else a) { s with heap := h', toks := tk }) :
    wpAny (model prog w) A (call (.builtin "max") [a, b]) Q E s := by
  have hname : (toString "max" ++ toString ".loop" : String) = "max.loop" := by decide
  refine call_function_tree F.kind_max F.plain_max F.entry_max (F.args_max2 _ _) ?_
  show wpAny _ A.in1 (Builtin.Builtins.bindParams "max" ["key", "default"] 0 ⟨[], []⟩ >>= _) _ _ s
  refine wpAny_bind (wpAny_of_eq (show Builtin.Builtins.bindParams "max" ["key", "default"] 0 ⟨[], []⟩ = pure [none, none] from rfl) ?_)
  show wpAny _ A.in1 (newTuple [a, b] >>= _) _ _ s
  refine wpAny_bind (wpAny_newObj_type ?_)
  have hr1 : ReadsAll (s.heap.push { cls := .type "tuple", data := .seq #[a, b] }) [a, b] [p, q] as := PyProof.Rows.ReadsAll.keeps (fun c o e => Heap.get?_push_of_some _ e) hr
  have hT : (s.heap.push { cls := .type "tuple", data := .seq #[a, b] }).IsTuple s.heap.objs.size #[a, b] := ⟨_, Heap.get?_push_size _ rfl, rfl, 0, rfl⟩
  refine wpAny_bind (PySem.W.iter_tupleW (A := A.in1) (s := { s with heap := s.heap.push { cls := .type "tuple", data := .seq #[a, b] } }) hh hT fun s₂ e W st hfp hw hk => ?_)
  refine wpAny_bind (wpAny_newObj_type ?_)
  have hSf : s₂.heap.objs.size ∉ [(s.heap.push { cls := .type "tuple", data := .seq #[a, b] }).objs.size, s.heap.objs.size] := fun hm => Nat.lt_irrefl _ (hfp _ hm)
  rw [hname]
  refine wpAny_pure ⟨plainId_quiet F.plain_max_loop _, codeAny_max_loop_firstH W _ hw _ (PySem.W.cmpIn_gt (A := A.in1) (s := { s with heap := s.heap.push { cls := .type "tuple", data := .seq #[a, b] } }) (vs := #[a, b]) hr1 ha (by show A.units + 1 + _ < _; exact hu)) s₂.heap.objs.size hSf (fresh_in hk) _ (by show 0 < 2; decide) (fun b o e => Heap.get?_push_of_some _ (hk b o e)) (W.frame 0 s₂ _ s₂.toks st (Nat.le_refl _) fun b _ o e => Heap.get?_push_of_some _ e) (Heap.get?_push_size _ rfl) fun v s' hP hm => ?_⟩
  obtain ⟨h', tk, rfl, hk'⟩ := PySem.W.moved_old e rfl (Moved.drop_new (tk := s₂.toks) hm (Nat.le_refl _))
  have hv : v = if dataLt p q then b else a := by
    have hP' : #[a, b][argBest (fun i j => dataLt ([p, q].getD j .none) ([p, q].getD i .none)) 1]? = some v := hP
    by_cases hb : dataLt p q = true
    · rw [if_pos hb]
      have : argBest (fun i j => dataLt ([p, q].getD j .none) ([p, q].getD i .none)) 1 = 1 := if_pos hb
      rw [this] at hP'
      exact (Option.some.inj hP').symm
    · rw [if_neg hb]
      have : argBest (fun i j => dataLt ([p, q].getD j .none) ([p, q].getD i .none)) 1 = 0 := if_neg hb
      rw [this] at hP'
      exact (Option.some.inj hP').symm
  rw [hv]
  exact h h' tk fun c o e => hk' c o (Heap.get?_push_of_some _ e)
def rmaxL (X : Cx) : List V → Hp → VK → Prop := fun vs H Q =>
  (∃ (a : Addr) (xs : List V) (x : PyData) (r : List PyData), vs = [.ref a] ∧ SqL X.K H a xs ∧ DpAll X.K H xs (x :: r) ∧ AlikeAll (x :: r) ∧ PyData.depthAll (x :: r) ≤ 8 ∧ ∀ (i : Nat) (v : V), xs[i]? = some v → (x :: r)[i]? = some (maxD x r) → Q v H) ∨
  (∃ (y z : V) (p q : PyData), vs = [y, z] ∧ Dp X.K H y p ∧ Dp X.K H z q ∧ AlikeAll [p, q] ∧ PyData.depthAll [p, q] ≤ 8 ∧ Q (if dataLt p q then z else y) H)
theorem call_maxL {X : Cx} (hc : X.calm = true) (hu : X.A.units + 64 < cLine) : CallR X (.builtin "max") (rmaxL X) := by
  intro pins s σ H vs us Q I r h
  rcases h with ⟨a, xs, x, rr, rfl, hs, hd, al, dp, q⟩ | ⟨y, z, p, q', rfl, h1, h2, al, dp, q⟩
  · obtain ⟨its, rv, hl, _⟩ := I.list hs
    rw [Vals.ref1 r]
    obtain ⟨as, ra⟩ := Dp.readsAll I _ _ _ hd rv
    refine PySem.W.max_list_data (I.ok.hd hc) hl.isList (by simpa using ra) al (by omega) fun i v h' tk bs hv hr hk => ?_
    obtain ⟨bs', rd, hi, _, _⟩ := PySem.W.readsAll_at ra i v (by simpa using hv)
    have e := (Reads.unique (PySem.W.reads_keeps hk rd) _ _ hr).1
    have hlen := rv.length
    have hvi : i < its.length := (List.getElem?_eq_some_iff.mp (show its[i]? = some v by simpa using hv)).1
    obtain ⟨y, hy, ry⟩ : ∃ y, xs[i]? = some y ∧ RelV y v := by
      have gen : ∀ (i : Nat) (xs : List V) (us : List Value), Vals xs us → us[i]? = some v → ∃ y, xs[i]? = some y ∧ RelV y v := by
        intro i
        induction i with
        | zero => intro xs us rv hv; cases rv with | nil => cases hv | cons r _ => cases hv; exact ⟨_, rfl, r⟩
        | succ i ih => intro xs us rv hv; cases rv with | nil => cases hv | cons r rs => exact ih _ _ rs hv
      exact gen i xs its rv (by simpa using hv)
    refine ⟨y, H, I.kept hk, ry, q i y hy ?_⟩
    rw [← e, List.getD_eq_getElem?_getD, List.getElem?_eq_getElem hi]
    rfl
  · obtain ⟨u, v, rfl, ru, rv⟩ := vals2 r
    obtain ⟨as, ra⟩ := Dp.readsAll I _ _ _ (.cons h1 (.cons h2 .nil)) (.cons ru (.cons rv .nil))
    refine max_two_data (I.ok.hd hc) ra al (by omega) fun h' tk hk => ?_
    by_cases hb : dataLt p q' = true
    · rw [if_pos hb] at q ⊢
      exact ⟨z, H, I.kept hk, rv, q⟩
    · rw [if_neg hb] at q ⊢
      exact ⟨y, H, I.kept hk, ru, q⟩

theorem min_two_data {prog : Program} {w : World} {A : Around} {E : Value → Shared → Prop} {s : Shared} {a b : Value} {p q : PyData} {as : List Addr} {Q : Value → Shared → Prop} (hh : A.handled = none) (hr : ReadsAll s.heap [a, b] [p, q] as) (ha : AlikeAll [p, q]) (hu : A.units + 1 + PyData.depthAll [p, q] < cLine)
    (h : ∀ h' tk, (∀ c o, s.heap.get? c = some o → h'.get? c = some o) → Q (if (fun a b => dataLt b a) p q then b else a) { s with heap := h', toks := tk }) :
    wpAny (model prog w) A (call (.builtin "min") [a, b]) Q E s := by
  have hname : (toString "min" ++ toString ".loop" : String) = "min.loop" := by decide
  refine call_function_tree F.kind_min F.plain_min F.entry_min (F.args_min2 _ _) ?_
  show wpAny _ A.in1 (Builtin.Builtins.bindParams "min" ["key", "default"] 0 ⟨[], []⟩ >>= _) _ _ s
  refine wpAny_bind (wpAny_of_eq (show Builtin.Builtins.bindParams "min" ["key", "default"] 0 ⟨[], []⟩ = pure [none, none] from rfl) ?_)
  show wpAny _ A.in1 (newTuple [a, b] >>= _) _ _ s
  refine wpAny_bind (wpAny_newObj_type ?_)
  have hr1 : ReadsAll (s.heap.push { cls := .type "tuple", data := .seq #[a, b] }) [a, b] [p, q] as := PyProof.Rows.ReadsAll.keeps (fun c o e => Heap.get?_push_of_some _ e) hr
  have hT : (s.heap.push { cls := .type "tuple", data := .seq #[a, b] }).IsTuple s.heap.objs.size #[a, b] := ⟨_, Heap.get?_push_size _ rfl, rfl, 0, rfl⟩
  refine wpAny_bind (PySem.W.iter_tupleW (A := A.in1) (s := { s with heap := s.heap.push { cls := .type "tuple", data := .seq #[a, b] } }) hh hT fun s₂ e W st hfp hw hk => ?_)
  refine wpAny_bind (wpAny_newObj_type ?_)
  have hSf : s₂.heap.objs.size ∉ [(s.heap.push { cls := .type "tuple", data := .seq #[a, b] }).objs.size, s.heap.objs.size] := fun hm => Nat.lt_irrefl _ (hfp _ hm)
  rw [hname]
  refine wpAny_pure ⟨plainId_quiet F.plain_min_loop _, codeAny_min_loop_firstH W _ hw _ (PySem.W.cmpIn_lt (A := A.in1) (s := { s with heap := s.heap.push { cls := .type "tuple", data := .seq #[a, b] } }) (vs := #[a, b]) hr1 ha (by show A.units + 1 + _ < _; exact hu)) s₂.heap.objs.size hSf (fresh_in hk) _ (by show 0 < 2; decide) (fun b o e => Heap.get?_push_of_some _ (hk b o e)) (W.frame 0 s₂ _ s₂.toks st (Nat.le_refl _) fun b _ o e => Heap.get?_push_of_some _ e) (Heap.get?_push_size _ rfl) fun v s' hP hm => ?_⟩
  obtain ⟨h', tk, rfl, hk'⟩ := PySem.W.moved_old e rfl (Moved.drop_new (tk := s₂.toks) hm (Nat.le_refl _))
  have hv : v = if (fun a b => dataLt b a) p q then b else a := by
    have hP' : #[a, b][argBest (fun i j => dataLt ([p, q].getD i .none) ([p, q].getD j .none)) 1]? = some v := hP
    by_cases hb : (fun a b => dataLt b a) p q = true
    · rw [if_pos hb]
      have : argBest (fun i j => dataLt ([p, q].getD i .none) ([p, q].getD j .none)) 1 = 1 := if_pos hb
      rw [this] at hP'
      exact (Option.some.inj hP').symm
    · rw [if_neg hb]
      have : argBest (fun i j => dataLt ([p, q].getD i .none) ([p, q].getD j .none)) 1 = 0 := if_neg hb
      rw [this] at hP'
      exact (Option.some.inj hP').symm
  rw [hv]
  exact h h' tk fun c o e => hk' c o (Heap.get?_push_of_some _ e)
def rminL (X : Cx) : List V → Hp → VK → Prop := fun vs H Q =>
  (∃ (a : Addr) (xs : List V) (x : PyData) (r : List PyData), vs = [.ref a] ∧ SqL X.K H a xs ∧ DpAll X.K H xs (x :: r) ∧ AlikeAll (x :: r) ∧ PyData.depthAll (x :: r) ≤ 8 ∧ ∀ (i : Nat) (v : V), xs[i]? = some v → (x :: r)[i]? = some (minD x r) → Q v H) ∨
  (∃ (y z : V) (p q : PyData), vs = [y, z] ∧ Dp X.K H y p ∧ Dp X.K H z q ∧ AlikeAll [p, q] ∧ PyData.depthAll [p, q] ≤ 8 ∧ Q (if (fun a b => dataLt b a) p q then z else y) H)
theorem call_minL {X : Cx} (hc : X.calm = true) (hu : X.A.units + 64 < cLine) : CallR X (.builtin "min") (rminL X) := by
  intro pins s σ H vs us Q I r h
  rcases h with ⟨a, xs, x, rr, rfl, hs, hd, al, dp, q⟩ | ⟨y, z, p, q', rfl, h1, h2, al, dp, q⟩
  · obtain ⟨its, rv, hl, _⟩ := I.list hs
    rw [Vals.ref1 r]
    obtain ⟨as, ra⟩ := Dp.readsAll I _ _ _ hd rv
    refine PySem.W.min_list_data (I.ok.hd hc) hl.isList (by simpa using ra) al (by omega) fun i v h' tk bs hv hr hk => ?_
    obtain ⟨bs', rd, hi, _, _⟩ := PySem.W.readsAll_at ra i v (by simpa using hv)
    have e := (Reads.unique (PySem.W.reads_keeps hk rd) _ _ hr).1
    have hlen := rv.length
    have hvi : i < its.length := (List.getElem?_eq_some_iff.mp (show its[i]? = some v by simpa using hv)).1
    obtain ⟨y, hy, ry⟩ : ∃ y, xs[i]? = some y ∧ RelV y v := by
      have gen : ∀ (i : Nat) (xs : List V) (us : List Value), Vals xs us → us[i]? = some v → ∃ y, xs[i]? = some y ∧ RelV y v := by
        intro i
        induction i with
        | zero => intro xs us rv hv; cases rv with | nil => cases hv | cons r _ => cases hv; exact ⟨_, rfl, r⟩
        | succ i ih => intro xs us rv hv; cases rv with | nil => cases hv | cons r rs => exact ih _ _ rs hv
      exact gen i xs its rv (by simpa using hv)
    refine ⟨y, H, I.kept hk, ry, q i y hy ?_⟩
    rw [← e, List.getD_eq_getElem?_getD, List.getElem?_eq_getElem hi]
    rfl
  · obtain ⟨u, v, rfl, ru, rv⟩ := vals2 r
    obtain ⟨as, ra⟩ := Dp.readsAll I _ _ _ (.cons h1 (.cons h2 .nil)) (.cons ru (.cons rv .nil))
    refine min_two_data (I.ok.hd hc) ra al (by omega) fun h' tk hk => ?_
    by_cases hb : (fun a b => dataLt b a) p q' = true
    · rw [if_pos hb] at q ⊢
      exact ⟨z, H, I.kept hk, rv, q⟩
    · rw [if_neg hb] at q ⊢
      exact ⟨y, H, I.kept hk, ru, q⟩

/-! the functions -/
mutual
def D.inj : D → Bool
  | .non => true
  | .bl _ => true
  | .int _ => true
  | .str _ => true
  | .tup ds => injs ds
  | .lst ds => injs ds
  | _ => false
def injs : List D → Bool
  | [] => true
  | d :: ds => d.inj && injs ds
end
mutual
theorem py_inj : ∀ (a b : D), a.inj = true → b.inj = true → a.py = b.py → a = b
  | .non, b, _, hb, e => by cases b <;> first | (simp [D.inj] at hb; done) | simp_all [D.py]
  | .bl _, b, _, hb, e => by cases b <;> first | (simp [D.inj] at hb; done) | simp_all [D.py]
  | .int _, b, _, hb, e => by cases b <;> first | (simp [D.inj] at hb; done) | simp_all [D.py]
  | .str _, b, _, hb, e => by cases b <;> first | (simp [D.inj] at hb; done) | simp_all [D.py]
  | .tup ds, .tup es, ha, hb, e => by
    simp only [D.py, D.inj] at e ha hb
    injection e with e
    rw [pys_inj ds es ha hb e]
  | .lst ds, .lst es, ha, hb, e => by
    simp only [D.py, D.inj] at e ha hb
    injection e with e
    rw [pys_inj ds es ha hb e]
  | .tup _, .lst _, _, _, e => by simp [D.py] at e
  | .lst _, .tup _, _, _, e => by simp [D.py] at e
  | .tup _, .non, _, _, e => by simp [D.py] at e
  | .tup _, .bl _, _, _, e => by simp [D.py] at e
  | .tup _, .int _, _, _, e => by simp [D.py] at e
  | .tup _, .str _, _, _, e => by simp [D.py] at e
  | .lst _, .non, _, _, e => by simp [D.py] at e
  | .lst _, .bl _, _, _, e => by simp [D.py] at e
  | .lst _, .int _, _, _, e => by simp [D.py] at e
  | .lst _, .str _, _, _, e => by simp [D.py] at e
  | .ktup _, _, ha, _, _ => by simp [D.inj] at ha
  | .rol _, _, ha, _, _ => by simp [D.inj] at ha
  | .dct _ _ _, _, ha, _, _ => by simp [D.inj] at ha
  | .loc _, _, ha, _, _ => by simp [D.inj] at ha
  | .fn _, _, ha, _, _ => by simp [D.inj] at ha
  | .tup _, .ktup _, _, hb, _ => by simp [D.inj] at hb
  | .tup _, .rol _, _, hb, _ => by simp [D.inj] at hb
  | .tup _, .dct _ _ _, _, hb, _ => by simp [D.inj] at hb
  | .tup _, .loc _, _, hb, _ => by simp [D.inj] at hb
  | .tup _, .fn _, _, hb, _ => by simp [D.inj] at hb
  | .lst _, .ktup _, _, hb, _ => by simp [D.inj] at hb
  | .lst _, .rol _, _, hb, _ => by simp [D.inj] at hb
  | .lst _, .dct _ _ _, _, hb, _ => by simp [D.inj] at hb
  | .lst _, .loc _, _, hb, _ => by simp [D.inj] at hb
  | .lst _, .fn _, _, hb, _ => by simp [D.inj] at hb
theorem pys_inj : ∀ (as bs : List D), injs as = true → injs bs = true → pys as = pys bs → as = bs
  | [], [], _, _, _ => rfl
  | [], _ :: _, _, _, e => by simp [pys] at e
  | _ :: _, [], _, _, e => by simp [pys] at e
  | a :: as, b :: bs, ha, hb, e => by
    simp only [pys, injs, Bool.and_eq_true] at e ha hb
    injection e with e1 e2
    rw [py_inj a b ha.1 hb.1 e1, pys_inj as bs ha.2 hb.2 e2]
end
def okM (ds : List D) : Bool := (ds.all fun d => d.inj && d.plain && decide (d.dep ≤ 8) && !d.isNon) && ds.all fun a => ds.all fun b => PySem.W.alike a.py b.py
def foldMax (x : D) (r : List D) : D := r.foldl (fun a y => if lt a y then y else a) x
def foldMin (x : D) (r : List D) : D := r.foldl (fun a y => if lt y a then y else a) x
theorem foldMax_py (r : List D) : ∀ x, (foldMax x r).py = maxD x.py (r.map D.py) := by
  induction r with
  | nil => intro x; rfl
  | cons y r ih =>
    intro x
    show (foldMax (if lt x y then y else x) r).py = maxD (if dataLt x.py y.py then y.py else x.py) (r.map D.py)
    rw [ih]
    unfold lt
    split <;> rfl
theorem foldMin_py (r : List D) : ∀ x, (foldMin x r).py = minD x.py (r.map D.py) := by
  induction r with
  | nil => intro x; rfl
  | cons y r ih =>
    intro x
    show (foldMin (if lt y x then y else x) r).py = minD (if dataLt y.py x.py then y.py else x.py) (r.map D.py)
    rw [ih]
    unfold lt
    split <;> rfl
theorem foldMax_mem (r : List D) : ∀ x, foldMax x r ∈ x :: r := by
  induction r with
  | nil => intro x; exact List.mem_cons_self
  | cons y r ih =>
    intro x
    show foldMax (if lt x y then y else x) r ∈ _
    have := ih (if lt x y then y else x)
    rcases List.mem_cons.mp this with h | h
    · rw [h]; split <;> simp
    · exact List.mem_cons_of_mem _ (List.mem_cons_of_mem _ h)
theorem foldMin_mem (r : List D) : ∀ x, foldMin x r ∈ x :: r := by
  induction r with
  | nil => intro x; exact List.mem_cons_self
  | cons y r ih =>
    intro x
    show foldMin (if lt y x then y else x) r ∈ _
    have := ih (if lt y x then y else x)
    rcases List.mem_cons.mp this with h | h
    · rw [h]; split <;> simp
    · exact List.mem_cons_of_mem _ (List.mem_cons_of_mem _ h)
theorem okM_of {ds : List D} (h : okM ds = true) : (∀ d ∈ ds, d.inj = true ∧ d.plain = true ∧ d.dep ≤ 8 ∧ d.py ≠ .none) ∧ AlikeAll (ds.map D.py) := by
  unfold okM at h
  rw [Bool.and_eq_true] at h
  obtain ⟨h1, h2⟩ := h
  have h1 : ∀ d ∈ ds, d.inj = true ∧ d.plain = true ∧ d.dep ≤ 8 ∧ d.py ≠ .none := fun d hd => by
    have := List.all_eq_true.mp h1 d hd
    simp only [Bool.and_eq_true, decide_eq_true_eq] at this
    exact ⟨this.1.1.1, this.1.1.2, this.1.2, py_none this.2⟩
  refine ⟨h1, fun x hx y hy => ?_, fun x hx => ?_⟩
  · obtain ⟨a, ha, rfl⟩ := List.mem_map.mp hx
    obtain ⟨b, hb, rfl⟩ := List.mem_map.mp hy
    exact List.all_eq_true.mp (List.all_eq_true.mp h2 a ha) b hb
  · obtain ⟨a, ha, rfl⟩ := List.mem_map.mp hx
    exact (h1 a ha).2.2.2
theorem plains_of {ds : List D} (h : ∀ d ∈ ds, d.inj = true ∧ d.plain = true ∧ d.dep ≤ 8 ∧ d.py ≠ .none) : plains ds = true ∧ deps ds ≤ 8 := by
  induction ds with
  | nil => exact ⟨rfl, by simp [deps]⟩
  | cons d ds ih =>
    obtain ⟨a, b⟩ := ih fun e he => h e (List.mem_cons_of_mem _ he)
    obtain ⟨_, p, q, _⟩ := h d List.mem_cons_self
    exact ⟨by simp [plains, p, a], by simp only [deps]; omega⟩

def dMaxL (ds : List D) : Option D := match ds with
  | [.lst (x :: r)] => if okM (x :: r) then some (foldMax x r) else none
  | [a, b] => if okM [a, b] then some (foldMax a [b]) else none
  | _ => none
theorem r_MaxL {X : Cx} {c : Cn} (hK : X.K = c.K) : RAOk c (rmaxL X) dMaxL := by
  intro F am Hk H σ env mh vs ds d Q R q e h
  unfold dMaxL at e
  split at e
  · rename_i x r
    cases q with | cons q1 qs =>
    cases qs
    cases q1 with | lst s1 qs =>
    by_cases ho : okM (x :: r) = true
    case neg => rw [if_neg ho] at e; cases e
    rw [if_pos ho] at e
    cases e
    obtain ⟨h1, h2⟩ := okM_of ho
    obtain ⟨p1, p2⟩ := plains_of h1
    obtain ⟨k1, k2, k3⟩ := DqAll.dp (x :: r) _ p1 (qs.up (Go.refl _) R.known)
    refine .inl ⟨_, _, x.py, r.map D.py, rfl, by rw [hK]; exact .of (R.known _ _ s1), ?_, h2, ?_, fun i v hv hi => ?_⟩
    · rw [hK]; rw [pys_map] at k1; exact k1
    · have : PyData.depthAll (pys (x :: r)) ≤ 8 := by rw [k3]; exact p2
      rw [pys_map] at this; exact this
    · rw [← foldMax_py, ← List.map_cons, List.getElem?_map] at hi
      obtain ⟨d', hd', e'⟩ : ∃ d', (x :: r)[i]? = some d' ∧ d'.py = (foldMax x r).py := by
        cases hx : (x :: r)[i]? with
        | none => rw [hx] at hi; cases hi
        | some d' => rw [hx] at hi; exact ⟨d', rfl, Option.some.inj hi⟩
      have ed := py_inj d' _ (h1 d' (List.mem_of_getElem? hd')).1 (h1 _ (foldMax_mem r x)).1 e'
      have qi : Dq c am Hk v d' := by
        have gen : ∀ (i : Nat) (xs : List V) (ds : List D), DqAll c am Hk xs ds → xs[i]? = some v → ds[i]? = some d' → Dq c am Hk v d' := by
          intro i
          induction i with
          | zero => intro xs ds q a b; cases q with | nil => cases a | cons q _ => cases a; cases b; exact q
          | succ i ih => intro xs ds q a b; cases q with | nil => cases a | cons _ q => exact ih _ _ q a b
        exact gen i _ _ qs hv hd'
      rw [ed] at qi
      exact h _ Hk H (Le.refl _) R qi
  · rename_i a b
    cases q with | cons q1 qs =>
    cases qs with | cons q2 qs =>
    cases qs
    by_cases ho : okM [a, b] = true
    case neg => rw [if_neg ho] at e; cases e
    rw [if_pos ho] at e
    cases e
    obtain ⟨h1, h2⟩ := okM_of ho
    obtain ⟨p1, p2⟩ := plains_of h1
    obtain ⟨k1, k2, k3⟩ := DqAll.dp [a, b] [_, _] p1 ((DqAll.cons q1 (.cons q2 .nil)).up (Go.refl _) R.known)
    cases k1 with | cons k1 kk =>
    cases kk with | cons kk1 _ =>
    refine .inr ⟨_, _, a.py, b.py, rfl, by rw [hK]; exact k1, by rw [hK]; exact kk1, h2, ?_, ?_⟩
    · have : PyData.depthAll (pys [a, b]) ≤ 8 := by rw [k3]; exact p2
      rw [pys_map] at this; exact this
    · have e : foldMax a [b] = if dataLt a.py b.py then b else a := rfl
      rw [e] at h
      split
      · rename_i hb; rw [if_pos hb] at h; exact h _ Hk H (Le.refl _) R q2
      · rename_i hb; rw [if_neg hb] at h; exact h _ Hk H (Le.refl _) R q1
  · cases e

def dMinL (ds : List D) : Option D := match ds with
  | [.lst (x :: r)] => if okM (x :: r) then some (foldMin x r) else none
  | [a, b] => if okM [a, b] then some (foldMin a [b]) else none
  | _ => none
theorem r_MinL {X : Cx} {c : Cn} (hK : X.K = c.K) : RAOk c (rminL X) dMinL := by
  intro F am Hk H σ env mh vs ds d Q R q e h
  unfold dMinL at e
  split at e
  · rename_i x r
    cases q with | cons q1 qs =>
    cases qs
    cases q1 with | lst s1 qs =>
    by_cases ho : okM (x :: r) = true
    case neg => rw [if_neg ho] at e; cases e
    rw [if_pos ho] at e
    cases e
    obtain ⟨h1, h2⟩ := okM_of ho
    obtain ⟨p1, p2⟩ := plains_of h1
    obtain ⟨k1, k2, k3⟩ := DqAll.dp (x :: r) _ p1 (qs.up (Go.refl _) R.known)
    refine .inl ⟨_, _, x.py, r.map D.py, rfl, by rw [hK]; exact .of (R.known _ _ s1), ?_, h2, ?_, fun i v hv hi => ?_⟩
    · rw [hK]; rw [pys_map] at k1; exact k1
    · have : PyData.depthAll (pys (x :: r)) ≤ 8 := by rw [k3]; exact p2
      rw [pys_map] at this; exact this
    · rw [← foldMin_py, ← List.map_cons, List.getElem?_map] at hi
      obtain ⟨d', hd', e'⟩ : ∃ d', (x :: r)[i]? = some d' ∧ d'.py = (foldMin x r).py := by
        cases hx : (x :: r)[i]? with
        | none => rw [hx] at hi; cases hi
        | some d' => rw [hx] at hi; exact ⟨d', rfl, Option.some.inj hi⟩
      have ed := py_inj d' _ (h1 d' (List.mem_of_getElem? hd')).1 (h1 _ (foldMin_mem r x)).1 e'
      have qi : Dq c am Hk v d' := by
        have gen : ∀ (i : Nat) (xs : List V) (ds : List D), DqAll c am Hk xs ds → xs[i]? = some v → ds[i]? = some d' → Dq c am Hk v d' := by
          intro i
          induction i with
          | zero => intro xs ds q a b; cases q with | nil => cases a | cons q _ => cases a; cases b; exact q
          | succ i ih => intro xs ds q a b; cases q with | nil => cases a | cons _ q => exact ih _ _ q a b
        exact gen i _ _ qs hv hd'
      rw [ed] at qi
      exact h _ Hk H (Le.refl _) R qi
  · rename_i a b
    cases q with | cons q1 qs =>
    cases qs with | cons q2 qs =>
    cases qs
    by_cases ho : okM [a, b] = true
    case neg => rw [if_neg ho] at e; cases e
    rw [if_pos ho] at e
    cases e
    obtain ⟨h1, h2⟩ := okM_of ho
    obtain ⟨p1, p2⟩ := plains_of h1
    obtain ⟨k1, k2, k3⟩ := DqAll.dp [a, b] [_, _] p1 ((DqAll.cons q1 (.cons q2 .nil)).up (Go.refl _) R.known)
    cases k1 with | cons k1 kk =>
    cases kk with | cons kk1 _ =>
    refine .inr ⟨_, _, a.py, b.py, rfl, by rw [hK]; exact k1, by rw [hK]; exact kk1, h2, ?_, ?_⟩
    · have : PyData.depthAll (pys [a, b]) ≤ 8 := by rw [k3]; exact p2
      rw [pys_map] at this; exact this
    · have e : foldMin a [b] = if (fun a b => dataLt b a) a.py b.py then b else a := rfl
      rw [e] at h
      split
      · rename_i hb; rw [if_pos hb] at h; exact h _ Hk H (Le.refl _) R q2
      · rename_i hb; rw [if_neg hb] at h; exact h _ Hk H (Le.refl _) R q1
  · cases e
end Mi

set_option Elab.async false
set_option linter.all false
set_option maxRecDepth 100000
set_option maxHeartbeats 1000000
namespace Mi
open PySem L2
/-! ### the greatest, the least, by an order -/
theorem foldMax_of {α : Type} (o : Ord α) (enc : α → D) (hlt : ∀ a b, lt (enc a) (enc b) = o.ltb a b) : ∀ (r : List α) (x : α), ∃ m, foldMax (enc x) (r.map enc) = enc m ∧ m ∈ x :: r ∧ ∀ y ∈ x :: r, o.ltb m y = false
  | [], x => ⟨x, rfl, List.mem_cons_self, fun y hy => by rw [List.mem_singleton.mp hy]; exact o.irrefl x⟩
  | z :: r, x => by
    have e : foldMax (enc x) ((z :: r).map enc) = foldMax (enc (if o.ltb x z then z else x)) (r.map enc) := by
      show foldMax (if lt (enc x) (enc z) then enc z else enc x) (r.map enc) = _
      rw [hlt]
      split <;> rfl
    obtain ⟨m, e1, e2, e3⟩ := foldMax_of o enc hlt r (if o.ltb x z then z else x)
    refine ⟨m, e.trans e1, ?_, fun y hy => ?_⟩
    · rcases List.mem_cons.mp e2 with h | h
      · rw [h]; split <;> simp
      · exact List.mem_cons_of_mem _ (List.mem_cons_of_mem _ h)
    · have hb := e3 _ List.mem_cons_self
      have key : ∀ u, (u = x ∨ u = z) → o.ltb m u = false := by
        intro u hu
        cases hc : o.ltb m u with
        | false => rfl
        | true =>
          exfalso
          by_cases hxz : o.ltb x z = true
          · rw [if_pos hxz] at hb
            rcases hu with rfl | rfl
            · rw [o.trans _ _ _ hc hxz] at hb; cases hb
            · rw [hc] at hb; cases hb
          · rw [if_neg hxz] at hb
            rcases hu with rfl | rfl
            · rw [hc] at hb; cases hb
            · rcases o.tri x u with h | h | h
              · exact hxz h
              · subst h; rw [hc] at hb; cases hb
              · rw [o.trans _ _ _ hc h] at hb; cases hb
      rcases List.mem_cons.mp hy with h | h
      · exact key y (.inl h)
      rcases List.mem_cons.mp h with h | h
      · exact key y (.inr h)
      · exact e3 y (List.mem_cons_of_mem _ h)
def Ord.flip {α : Type} (o : Ord α) : Ord α := ⟨fun a b => o.ltb b a, o.irrefl, fun a b c h1 h2 => o.trans _ _ _ h2 h1, fun a b => by
  rcases o.tri b a with h | h | h
  · exact .inl h
  · exact .inr (.inl h.symm)
  · exact .inr (.inr h)⟩
theorem foldMin_of {α : Type} (o : Ord α) (enc : α → D) (hlt : ∀ a b, lt (enc a) (enc b) = o.ltb a b) : ∀ (r : List α) (x : α), ∃ m, foldMin (enc x) (r.map enc) = enc m ∧ m ∈ x :: r ∧ ∀ y ∈ x :: r, o.ltb y m = false
  | [], x => ⟨x, rfl, List.mem_cons_self, fun y hy => by rw [List.mem_singleton.mp hy]; exact o.irrefl x⟩
  | z :: r, x => by
    have e : foldMin (enc x) ((z :: r).map enc) = foldMin (enc (if o.ltb z x then z else x)) (r.map enc) := by
      show foldMin (if lt (enc z) (enc x) then enc z else enc x) (r.map enc) = _
      rw [hlt]
      split <;> rfl
    obtain ⟨m, e1, e2, e3⟩ := foldMin_of o enc hlt r (if o.ltb z x then z else x)
    refine ⟨m, e.trans e1, ?_, fun y hy => ?_⟩
    · rcases List.mem_cons.mp e2 with h | h
      · rw [h]; split <;> simp
      · exact List.mem_cons_of_mem _ (List.mem_cons_of_mem _ h)
    · have hb := e3 _ List.mem_cons_self
      have key : ∀ u, (u = x ∨ u = z) → o.ltb u m = false := by
        intro u hu
        cases hc : o.ltb u m with
        | false => rfl
        | true =>
          exfalso
          by_cases hxz : o.ltb z x = true
          · rw [if_pos hxz] at hb
            rcases hu with rfl | rfl
            · rw [o.trans _ _ _ hxz hc] at hb; cases hb
            · rw [hc] at hb; cases hb
          · rw [if_neg hxz] at hb
            rcases hu with rfl | rfl
            · rw [hc] at hb; cases hb
            · rcases o.tri u x with h | h | h
              · exact hxz h
              · subst h; rw [hc] at hb; cases hb
              · rw [o.trans _ _ _ h hc] at hb; cases hb
      rcases List.mem_cons.mp hy with h | h
      · exact key y (.inl h)
      rcases List.mem_cons.mp h with h | h
      · exact key y (.inr h)
      · exact e3 y (List.mem_cons_of_mem _ h)
/-! a number with a place -/
def hpD (x : Int × (Nat × Nat)) : D := .tup [.int x.1, plD x.2]
def ordHP : Ord (Int × (Nat × Nat)) := ordI.pair ordP
theorem lt_hp {a b : Int × (Nat × Nat)} : lt (hpD a) (hpD b) = ordHP.ltb a b := by
  have h := PySem.W.dataLt_pair (x := (D.int a.1).py) (y := (plD a.2).py) (x' := (D.int b.1).py) (y' := (plD b.2).py) rfl rfl
  have e1 : PyData.eqv (D.int a.1).py (D.int b.1).py = decide (a.1 = b.1) := by
    simp only [D.py, PyData.eqv]
    exact Bool.eq_iff_iff.mpr (by simp)
  have e2 : PyData.eqv (plD a.2).py (plD b.2).py = decide (a.2 = b.2) := eqv_pl
  have l1 : PySem.W.dataLt (D.int a.1).py (D.int b.1).py = decide (a.1 < b.1) := PySem.W.dataLt_int ..
  have l2 : PySem.W.dataLt (plD a.2).py (plD b.2).py = ltP a.2 b.2 := lt_pl
  rw [e1, e2, l1, l2] at h
  unfold lt hpD
  simp only [D.py, pys] at h ⊢
  rw [h]
  show _ = (decide (a.1 < b.1) || (decide (a.1 = b.1) && ltP a.2 b.2))
  by_cases h1 : a.1 = b.1
  · rw [h1]
    simp only [decide_true, if_true, Int.lt_irrefl, decide_false, Bool.false_or, Bool.true_and]
    by_cases h2 : a.2 = b.2
    · rw [h2, ltP_irrefl]; simp
    · simp [h2]
  · simp [h1]
theorem okM_hp (xs : List (Int × (Nat × Nat))) : okM (xs.map hpD) = true := by
  unfold okM
  have h2 : ((xs.map hpD).all fun d => d.inj && d.plain && decide (d.dep ≤ 8) && !d.isNon) = true := by
    rw [List.all_map]; exact List.all_eq_true.mpr fun p _ => rfl
  have h3 : ((xs.map hpD).all fun a => (xs.map hpD).all fun b => PySem.W.alike a.py b.py) = true := by
    rw [List.all_map]
    refine List.all_eq_true.mpr fun p _ => ?_
    simp only [Function.comp_apply, List.all_map]
    exact List.all_eq_true.mpr fun q _ => rfl
  rw [h2, h3]
  rfl
theorem max_hp {x : Int × (Nat × Nat)} {r : List (Int × (Nat × Nat))} : ∃ m, dMaxL [.lst ((x :: r).map hpD)] = some (hpD m) ∧ m ∈ x :: r ∧ ∀ y ∈ x :: r, y.1 ≤ m.1 := by
  obtain ⟨m, e1, e2, e3⟩ := foldMax_of ordHP hpD (fun _ _ => lt_hp) r x
  refine ⟨m, ?_, e2, fun y hy => ?_⟩
  · have h := okM_hp (x :: r)
    rw [List.map_cons] at h ⊢
    simp only [dMaxL]
    rw [if_pos h, e1]
  · have := e3 y hy
    simp [ordHP, Ord.pair, ordI] at this
    omega
theorem min_hp {x : Int × (Nat × Nat)} {r : List (Int × (Nat × Nat))} : ∃ m, dMinL [.lst ((x :: r).map hpD)] = some (hpD m) ∧ m ∈ x :: r ∧ ∀ y ∈ x :: r, m.1 < y.1 ∨ (m.1 = y.1 ∧ ltP y.2 m.2 = false) := by
  obtain ⟨m, e1, e2, e3⟩ := foldMin_of ordHP hpD (fun _ _ => lt_hp) r x
  refine ⟨m, ?_, e2, fun y hy => ?_⟩
  · have h := okM_hp (x :: r)
    rw [List.map_cons] at h ⊢
    simp only [dMinL]
    rw [if_pos h, e1]
  · have := e3 y hy
    simp [ordHP, Ord.pair, ordI, ordP] at this
    by_cases h : m.1 < y.1
    · exact .inl h
    · have h' : y.1 = m.1 := by omega
      exact .inr ⟨h'.symm, this.2 h'⟩
@[simp] theorem hpD_0 {m : Mh} {x : Int × (Nat × Nat)} : dIx m (hpD x) (.int 0) = some (.int x.1) := rfl
@[simp] theorem hpD_1 {m : Mh} {x : Int × (Nat × Nat)} : dIx m (hpD x) (.int 1) = some (plD x.2) := rfl
theorem hpD_eq (k : Int) (p : Nat × Nat) : D.tup [.int k, plD p] = hpD (k, p) := rfl
end Mi
namespace Mi
open PySem L2
@[simp] theorem dNeg_int {i : Int} : dNeg (.int i) = some (.int (-i)) := rfl
theorem dNe_nilP {ds : List D} (p : plains ds = true) (h : deps ds ≤ 63) : dNe (.lst ds) (.lst []) = some (.bl (!decide (ds = []))) := by
  have f1 := fine_lst p h
  have f2 : (D.lst []).fine = true := by simp [D.fine, D.plain, D.dep, plains, deps]
  simp only [dNe, f1, f2, Bool.and_self, if_true]
  cases ds with
  | nil => simp [eqv, D.py, pys, PyData.eqv, PyData.eqvAll]
  | cons d r => simp [eqv, D.py, pys, PyData.eqv, PyData.eqvAll]
theorem plains_map {α : Type} (enc : α → D) (h : ∀ x, (enc x).plain = true ∧ (enc x).dep ≤ 63) : ∀ xs : List α, plains (xs.map enc) = true ∧ deps (xs.map enc) ≤ 63
  | [] => ⟨rfl, by simp [deps]⟩
  | x :: r => by
    obtain ⟨a, b⟩ := plains_map enc h r
    obtain ⟨c, d⟩ := h x
    exact ⟨by simp [plains, a, c], by simp only [List.map_cons, deps]; omega⟩
theorem dNe_nil_map {α : Type} (enc : α → D) (h : ∀ x, (enc x).plain = true ∧ (enc x).dep ≤ 63) (xs : List α) : dNe (.lst (xs.map enc)) (.lst []) = some (.bl (!decide (xs = []))) := by
  obtain ⟨a, b⟩ := plains_map enc h xs
  rw [dNe_nilP a b]
  simp
theorem hpD_plain (x : Int × (Nat × Nat)) : (hpD x).plain = true ∧ (hpD x).dep ≤ 63 := ⟨rfl, by show 2 ≤ 63; decide⟩
/-- the least of a rising list is its head -/
theorem head_min {L : List (Nat × Nat)} (hL : L.Pairwise fun a b => ltP a b = true) {q : Nat × Nat} (hq : q ∈ L) (hm : ∀ y ∈ L, ltP y q = false) : ∃ t, L = q :: t := by
  cases L with
  | nil => cases hq
  | cons h t =>
    rcases List.mem_cons.mp hq with rfl | hq
    · exact ⟨t, rfl⟩
    · have := (List.pairwise_cons.mp hL).1 q hq
      rw [hm h List.mem_cons_self] at this
      cases this
theorem foldl_last {α β : Type} (P : α → Bool) (f : α → β) (d : β) : ∀ xs : List α, xs.reverse.foldl (fun acc x => if P x = true then f x else acc) d = ((xs.filter P).head?.map f).getD d
  | [] => rfl
  | x :: r => by
    rw [List.reverse_cons, List.foldl_append, List.foldl_cons, List.foldl_nil, foldl_last P f d r, List.filter_cons]
    split <;> simp
theorem minA_lst {r : List Int} (h : r ≠ []) : dMinA [.lst (r.map .int)] = some (.int (minI r)) := by
  cases r with
  | nil => exact absurd rfl h
  | cons x r => simp [dMinA, dMin, intsOf_map (fun x : Int => x), intsOf]
end Mi
namespace Mi
open PySem L2
/-! texts in order -/
theorem str_ext {a b : Str} (h : a.cps.toList = b.cps.toList) : a = b := by
  obtain ⟨⟨a⟩⟩ := a
  obtain ⟨⟨b⟩⟩ := b
  cases h
  rfl
def ordS : Ord Str where
  ltb a b := decide (a.cps.toList < b.cps.toList)
  irrefl a := decide_eq_false (List.lt_irrefl _)
  trans a b c h1 h2 := decide_eq_true (List.lt_trans (of_decide_eq_true h1) (of_decide_eq_true h2))
  tri a b := by
    by_cases h1 : a.cps.toList < b.cps.toList
    · exact .inl (decide_eq_true h1)
    · by_cases h2 : b.cps.toList < a.cps.toList
      · exact .inr (.inr (decide_eq_true h2))
      · exact .inr (.inl (str_ext (List.le_antisymm (List.not_lt.mp h2) (List.not_lt.mp h1))))
theorem lt_str' {a b : Str} : lt (.str a) (.str b) = ordS.ltb a b := by
  unfold lt
  simp only [D.py]
  exact PySem.W.dataLt_str a b
theorem sortable_str {xs : List Str} (h : xs.length ≤ 1000000) : sortable (xs.map .str) = true := by
  unfold sortable
  have h1 : decide ((xs.map D.str).length ≤ LIM) = true := decide_eq_true (by rw [List.length_map]; exact h)
  have h2 : ((xs.map D.str).all fun d => d.plain && decide (d.dep ≤ 8)) = true := by
    rw [List.all_map]; exact List.all_eq_true.mpr fun p _ => rfl
  have h3 : ((xs.map D.str).all fun a => (xs.map D.str).all fun b => PySem.W.alike a.py b.py) = true := by
    rw [List.all_map]
    refine List.all_eq_true.mpr fun p _ => ?_
    simp only [Function.comp_apply, List.all_map]
    exact List.all_eq_true.mpr fun q _ => rfl
  have h4 : ((xs.map D.str).all fun d => !isTupA d) = true := by
    rw [List.all_map]; exact List.all_eq_true.mpr fun p _ => rfl
  rw [h1, h2, h3, h4]
  simp
theorem dSorted_str {xs : List Str} (h : xs.length ≤ 1000000) : dSorted (.lst (xs.map .str)) = some (.lst ((xs.mergeSort ordS.le).map .str)) := dSorted_of ordS .str (fun _ _ => lt_str') rfl (sortable_str h)
/-! one more of a list -/
theorem take_more {α : Type} {xs : List α} {i : Nat} {x : α} (hx : xs[i]? = some x) : xs.take (i + 1) = xs.take i ++ [x] := by rw [List.take_add_one, hx]; rfl
theorem take_nodup {α : Type} {xs : List α} (hn : xs.Nodup) {i : Nat} {x : α} (hx : xs[i]? = some x) : x ∉ xs.take i := by
  intro hm
  have h := take_more hx
  have h2 : (xs.take (i + 1)).Nodup := hn.sublist (List.take_sublist _ _)
  rw [h] at h2
  exact (List.nodup_append.mp h2).2.2 x hm x (List.mem_singleton.mpr rfl) rfl
end Mi

set_option Elab.async false
set_option linter.all false
set_option maxRecDepth 100000
set_option maxHeartbeats 1000000
namespace Mi
open PySem PySem.Spec PyProof.Rows PyProof.V L2
section
variable {c : Cn} {X : Cx} {W : WX}
/-! ### {k: v}: one key, an int or a text -/
def mDisp1 (mk mv : Ev) : Cv := fun env mh => (noEr (mk env mh)).bind fun k mh1 => (noEr (mv env mh1)).bind fun v mh2 => match keyOf k with
  | some _ => .ok (.od false [k] [v]) mh2
  | none => .no
theorem sc_disp1 {pos : Pos} {ke ve : Expr} {mk mv : Ev} (hk : SE c W X ke mk) (hv : SE c W X ve mv) : SC c W X (.Dict [some ke] [ve] pos) (mDisp1 mk mv) := by
  obtain ⟨tk, pk, kk⟩ := hk
  obtain ⟨tv, pv, kv⟩ := hv
  refine ⟨_, pe_disp (pps_cons pk pv pps_nil) rfl rfl (fun h => nomatch h) (by show 1 ≤ 15; decide), fun F am Hk H σ env mh Q R h => fun D hD => ?_⟩
  have hF := R.f_none hD
  have R0 := R.stash (o := .dK []) hD
  unfold mDisp1 at h
  cases hm : mk env mh with
  | no => rw [hm] at h; exact h.elim
  | er x m => rw [hm] at h; exact h.elim
  | ok d m1 =>
    simp only [noEr, Rs.bind, hm] at h
    refine kk (upd F D (.dK [])) am Hk _ σ env mh _ R0 ?_
    rw [hm]
    intro x am1 Hk1 H1 g1 e1 R1 q1
    cases hm2 : mv env m1 with
    | no => rw [hm2] at h; exact h.elim
    | er x m => rw [hm2] at h; exact h.elim
    | ok e m2 =>
      simp only [hm2] at h
      refine kv _ am1 Hk1 H1 σ env m1 _ R1 ?_
      rw [hm2]
      intro y am2 Hk2 H2 g2 e2 R2 q2
      cases hko : keyOf d with
      | none => rw [hko] at h; exact h.elim
      | some k =>
        rw [hko] at h
        obtain ⟨ek, ok, ed⟩ := keyOf_q q1 hko
        refine ⟨(R2.frame D _ upd_same).1, [(k, y)], by simp [ek], by simp, ?_⟩
        show Q (.ref D) (upd H2 D (.dK [(k, y)]))
        refine h _ _ am2 Hk2 _ (g1.trans g2) (e1.trans e2) R2.restash ⟨D, rfl, hF, .inl ⟨rfl, [(k, y)], rfl, fun q hq => by rw [List.mem_singleton.mp hq]; exact ok, by simp [ed], .cons q2 .nil⟩⟩
/-! ### a list of lists that are changed no more -/
def thawL : List D → Mh → Option (List D × Mh)
  | [], m => some ([], m)
  | .loc n :: r, m => match m[n]? with
    | some (.lst es) => (thawL r (m.set n .dead)).map fun p => (.lst es :: p.1, p.2)
    | _ => none
  | _ :: _, _ => none
def mThaw (m : Ev) : Ev := fun env mh => (m env mh).bind fun d mh1 => match d with
  | .lst ds => match thawL ds mh1 with
    | some p => .ok (.lst p.1) p.2
    | none => .no
  | _ => .no
theorem Rl.kill {F : Hp} {am : List Addr} {Hk H : Hp} {σ : L2.St} {env : En} {mh : Mh} {n : Nat} {a : Addr} {ds : List D} (R : Rl c F am Hk H σ env mh) (ha : am[n]? = some a) (hm : mh[n]? = some (.lst ds)) :
    ∃ xs, DqAll c am Hk xs ds ∧ Le Hk (upd Hk a (.lst xs)) ∧ Rl c F am (upd Hk a (.lst xs)) H σ env (mh.set n .dead) := by
  obtain ⟨hk, xs, hx, qs⟩ := R.mo n a _ ha hm
  have hn : n < mh.length := (List.getElem?_eq_some_iff.mp hm).1
  have le : Le Hk (upd Hk a (.lst xs)) := Le.new hk
  refine ⟨xs, qs, le, fun b u e => ?_, fun b u e => ?_, R.len, fun j s e => ?_, R.sep, R.nd, by rw [List.length_set]; exact R.mlen, fun k b o e1 e2 => ?_, fun b ys e => ?_⟩
  · by_cases z : b = a
    · subst z; rw [upd_same] at e; cases e; exact hx
    · rw [upd_ne z] at e; exact R.known b u e
  · obtain ⟨h1, h2, h3⟩ := R.frame b u e
    have z : b ≠ a := fun zz => by subst zz; exact h3 (List.mem_of_getElem? ha)
    exact ⟨h1, by rw [upd_ne z]; exact h2, h3⟩
  · refine (R.slot j s e).up le fun b u ho ev h => ?_
    obtain ⟨b', ob, j1, _, j3, j4, _⟩ := (R.slot j s e).there ho
    rw [ev] at j1
    cases j1
    have z : b ≠ a := fun zz => by subst zz; exact j4 (List.mem_of_getElem? ha)
    exact ⟨h, by rw [upd_ne z]; exact j3⟩
  · by_cases z : k = n
    · subst z
      rw [ha] at e1
      cases e1
      rw [List.getElem?_set_self hn] at e2
      cases e2
      exact ⟨_, hx, upd_same⟩
    · rw [List.getElem?_set_ne (Ne.symm z)] at e2
      have zb : b ≠ a := fun zz => by
        subst zz
        exact z ((List.getElem?_inj (by exact (List.getElem?_eq_some_iff.mp e1).1) R.nd).mp (e1.trans ha.symm))
      exact (R.mo k b o e1 e2).up le fun u' h => by rw [upd_ne zb]; exact ⟨h, fun h => h⟩
  · by_cases z : b = a
    · subst z; rw [hx] at e; cases e
    · rw [upd_ne z]; exact R.tups b ys e
theorem thaw_ok {F : Hp} {am : List Addr} {H : Hp} {σ : L2.St} {env : En} : ∀ {ds : List D} {Hk : Hp} {mh : Mh} {xs : List V} {p : List D × Mh}, Rl c F am Hk H σ env mh → DqAll c am Hk xs ds → thawL ds mh = some p → ∃ Hk', Le Hk Hk' ∧ Rl c F am Hk' H σ env p.2 ∧ DqAll c am Hk' xs p.1
  | [], Hk, mh, xs, p, R, q, e => by
    cases q
    cases e
    exact ⟨Hk, Le.refl _, R, .nil⟩
  | d :: ds, Hk, mh, xs, p, R, q, e => by
    cases q with | cons q1 qs =>
    cases d <;> first | (cases e; done) | skip
    rename_i n
    cases q1 with | loc ha =>
    unfold thawL at e
    cases hm : mh[n]? with
    | none => rw [hm] at e; cases e
    | some o =>
      rw [hm] at e
      cases o with
      | dead => cases e
      | lst es =>
        simp only at e
        cases ht : thawL ds (mh.set n .dead) with
        | none => rw [ht] at e; cases e
        | some p' =>
          rw [ht] at e
          cases e
          obtain ⟨ys, qy, le, R1⟩ := R.kill ha hm
          obtain ⟨Hk', le', R2, q2⟩ := thaw_ok R1 (qs.up (Go.refl _) le) ht
          refine ⟨Hk', le.trans le', R2, .cons (.lst (le' _ _ upd_same) (qy.up (Go.refl _) (le.trans le'))) q2⟩
theorem se_thaw {e : Expr} {m : Ev} (h : SE c W X e m) : SE c W X e (mThaw m) := by
  obtain ⟨t, p, k⟩ := h
  refine ⟨_, p, fun F am Hk H σ env mh Q R h => ?_⟩
  refine k F am Hk H σ env mh _ R (GP.step h fun d mh1 er v am1 Hk1 H1 g1 e1 R1 q1 h1 => ?_)
  cases d <;> first | exact h1.elim | skip
  rename_i ds
  simp only at h1
  cases ht : thawL ds mh1 with
  | none => rw [ht] at h1; exact h1.elim
  | some p =>
    rw [ht] at h1
    cases q1 with | lst s1 qs =>
    obtain ⟨Hk', le, R2, q2⟩ := thaw_ok R1 qs ht
    exact h1 _ am1 Hk' H1 (Go.refl _) le R2 (.lst (le _ _ s1) q2)
end
/-! ### xs.count(x) -/
def dCount (o : D) (ds : List D) : Option D := match o, ds with
  | .lst es, [d] => if plains es && decide (deps es ≤ 60) && d.plain then some (.int (es.countP (fun z => eqv z d) : Nat)) else none
  | .tup es, [d] => if plains es && decide (deps es ≤ 60) && d.plain then some (.int (es.countP (fun z => eqv z d) : Nat)) else none
  | _, _ => none
theorem countP_pys (d : D) : ∀ es : List D, (pys es).countP (fun z => PyData.eqv z d.py) = es.countP fun z => eqv z d
  | [] => rfl
  | x :: r => by rw [pys, List.countP_cons, List.countP_cons, countP_pys d r]; rfl

def rCntL (K : PySem.W.Frag) : V → List V → Hp → VK → Prop := fun x xs H Q => ∃ (a : Addr) (y : V) (d : PyData) (ds : List PyData), x = V.ref a ∧ xs = [y] ∧ Dp K H (V.ref a) (.list ds) ∧ Dp K H y d ∧ PyData.canLayAll0 ds = true ∧ d.canLay0 = true ∧ PyData.depthAll ds ≤ 60 ∧ Q (.int (ds.countP (fun z => PyData.eqv z d) : Nat)) H
theorem mt_cntL {X : Cx} (hu : X.A.units + 64 < cLine) : MtR X "list.count" (rCntL X.K) := by
  intro pins s σ H x xs v us Q I rx rxs h
  obtain ⟨a, y, d, ds, rfl, rfl, hl, hy, sl, sd, hdp, q⟩ := h
  cases rx
  cases rxs with
  | cons ry rt =>
    rename_i uy ut
    cases rt
    obtain ⟨bs, r1⟩ := Dp.reads I d y uy hy ry
    cases hl with
    | lst hs ha =>
      obtain ⟨its, rv, ⟨⟨cls, dd, data, sls⟩, n, ho, hc, hdn, hdt⟩, hlen⟩ := I.list hs
      simp only at hc hdt
      subst hc hdt
      obtain ⟨as, h4⟩ := Dp.readsAll I ds _ its ha rv
      have hmap : its.map (SeqAt.readOf s.heap) = ds := SeqAt.readsAll_map ds its as sl h4
      refine call_meets PySem.F.slot_list_count ⟨_, ho, rfl⟩ PySem.F.entry_list_count (PySem.F.args_list_count_2 _ _)
        (SeqAt.list_countAt a its.toArray n dd sls uy (fun u => PyData.eqv (SeqAt.readOf s.heap u) d)) ⟨ho, SeqAt.items_eqAt (vs := its.toArray) (show ReadsAll s.heap its.toArray.toList ds as from h4) r1 sl sd (by omega), ?_⟩
      have ec : its.toArray.toList.countP (fun u => PyData.eqv (SeqAt.readOf s.heap u) d) = ds.countP (fun z => PyData.eqv z d) := by
        rw [← hmap, List.countP_map]
        rfl
      refine ⟨.int (ds.countP (fun z => PyData.eqv z d) : Nat), H, I.tok _, ⟨s.toks, ?_⟩, q⟩
      show Value.int ((its.toArray.toList.countP _ : Nat) : Int) s.toks = Value.int _ s.toks
      rw [ec]
theorem r_cntL {c : Cn} : RMOk c "list" (rCntL c.K) (fun o ds => if o.isLst then dCount o ds else none) := by
  intro F am Hk H σ env mh x vs dx ds d Q R qx qs e h
  dsimp only at e
  split at e
  · rename_i hi
    cases dx <;> first | (cases hi; done) | skip
    rename_i es
    cases ds with
    | nil => cases e
    | cons d1 r =>
      cases r with
      | cons _ _ => cases e
      | nil =>
        simp only [dCount] at e
        split at e
        · rename_i hb
          cases e
          rw [Bool.and_eq_true, Bool.and_eq_true] at hb
          obtain ⟨⟨p1, p2⟩, p3⟩ := hb
          cases qs with | cons q1 qs =>
          cases qs
          cases qx with | lst s1 q2 =>
          obtain ⟨k1, k2, k3⟩ := DqAll.dp es _ p1 (q2.up (Go.refl _) R.known)
          obtain ⟨j1, j2, j3⟩ := Dq.dp d1 _ p3 (q1.up (Go.refl _) R.known)
          refine ⟨_, _, d1.py, pys es, rfl, rfl, .lst (.of (R.known _ _ s1)) k1, j1, k2, j2, by rw [k3]; exact of_decide_eq_true p2, ?_⟩
          rw [countP_pys]
          exact h _ Hk H (Le.refl _) R (.int _)
        · cases e
  · cases e
end Mi

set_option Elab.async false
set_option linter.all false
set_option maxRecDepth 100000
set_option maxHeartbeats 1000000
namespace Mi
open PySem PySem.Spec PyProof.Rows PyProof.V L2
/-! ### {k: v for ..}: keys ints or texts -/
def compGoD (t : D → En → Option En) (tst : Bv) (mk mv : Ev) (env : En) : List D → List D → List D → Mh → Rs (List D × List D)
  | [], ks, vs, mh => .ok (ks, vs) mh
  | d :: ds, ks, vs, mh => match t d env with
    | none => .no
    | some env1 => (noEr (tst env1 mh)).bind fun b mh1 => if b = true then (noEr (mk env1 mh1)).bind fun k mh2 => (noEr (mv env1 mh2)).bind fun v mh3 => match dPutD false ks vs k v with
        | some p => compGoD t tst mk mv env ds p.1 p.2 mh3
        | none => .no
      else compGoD t tst mk mv env ds ks vs mh1
def mCompD (vs : List Nat) (src : Iv) (t : D → En → Option En) (tst : Bv) (mk mv : Ev) : Cv := fun env mh => (src env mh).bind fun ds mh1 => if (noOwn env vs && decide (ds.length ≤ LIM)) = true then
    (match compGoD t tst mk mv (wipeE env vs) ds [] [] mh1 with
      | .ok p m => .ok (.od false p.1 p.2) m
      | _ => .no) else .no
section
variable {J : It} {n : Nat} {G : Hp → Prop} {Y : Nat → Hp → V → Hp → Prop}
theorem dc_it (w : Walk J n G Y) {g : TG} {tt : TT} {tk tv : TE} {vs : List Nat} {σ : L2.St} {H1 : Hp} {D : Addr} {Qd : Hp → Prop} (Pv : Nat → Hp → Prop) (h0 : Pv 0 (upd H1 D (.dK []))) (hG : ∀ i H, i ≤ n → Pv i H → G H)
    (hs : ∀ i x H H', i < n → Pv i H → Y i H x H' → g x (wipe σ vs) H' fun σ2 H2 => wipe σ2 vs = wipe σ vs ∧ tt σ2 H2 fun b H3 =>
      if b = true then tk σ2 H3 fun y H4 => tv σ2 H4 fun z H5 => ∃ kvs k, y = kV k ∧ H5 D = some (.dK kvs) ∧ kvs.length < sizeLine ∧ Pv (i + 1) (upd H5 D (.dK (putK kvs k z))) else Pv (i + 1) H3) (hd : ∀ H, Pv n H → Qd H) :
    ∃ W : Nat → Nat → Hp → Prop, (∃ m, W 0 m (upd H1 D (.dK []))) ∧ ∀ i m H, W i m H →
      (J.stop i H ∧ Qd H) ∨ (J.go i H ∧ ∃ Nx : Hp → Prop, (∀ H', Nx H' → ∃ m', m' < m ∧ W (i + 1) m' H') ∧ ∀ x H', J.yld i H x H' → g x (wipe σ vs) H' fun σ2 H2 => wipe σ2 vs = wipe σ vs ∧ tt σ2 H2 fun b H3 =>
        if b = true then tk σ2 H3 fun y H4 => tv σ2 H4 fun z H5 => ∃ kvs k, y = kV k ∧ H5 D = some (.dK kvs) ∧ kvs.length < sizeLine ∧ Nx (upd H5 D (.dK (putK kvs k z))) else Nx H3) := by
  refine ⟨fun i m H => m = n - i ∧ i ≤ n ∧ Pv i H, ⟨n, by simp, Nat.zero_le _, h0⟩, ?_⟩
  rintro i m H ⟨rfl, hi, p⟩
  have q := hG i H hi p
  by_cases hlt : i < n
  · exact .inr ⟨w.goes i H hlt q, Pv (i + 1), fun H' p' => ⟨n - (i + 1), by omega, rfl, hlt, p'⟩, fun x H' y => hs i x H H' hlt p (w.yields i H x H' hlt q y)⟩
  · have e : i = n := by omega
    subst e
    exact .inl ⟨w.stops H q, hd H p⟩
end
section
variable {c : Cn} {X : Cx} {W : WX}
theorem dc_ok {own : List (Str × Nat)} {wi : TI} {src : Iv} {t : D → En → Option En} {js : List Nat} {tst : Bv} {mk mv : Ev} (hkp : ∀ (d : D) (env env' : En), t d env = some env' → ∀ (i : Nat), i ∉ js → env'[i]? = env[i]?)
    (ki : ∀ F am Hk H σ env mh R, Rl c F am Hk H σ env mh → IPs c W F am Hk σ env (src env mh) R → wi σ H R) (hjs : ∀ j ∈ js, j ∈ own.map (·.2)) :
    ∀ F am Hk H σ env mh Q, Rl c F am Hk H σ env mh → CP c W F am Hk σ env (mCompD (own.map (·.2)) src t tst mk mv env mh) Q → tDc wi (cG c t js) (cT c (fun _ _ _ _ => False) tst) (cE c W0 mk) (cE c W0 mv) (own.map (·.2)) σ H Q := by
  intro F am Hk H σ env mh Q R h
  refine ki F am Hk H σ env mh _ R (CP.walk h fun ds mh1 J am1 Hk1 H1 G Y er g1 e1 R1 w hG hY h1 => ?_)
  by_cases hno : (noOwn env (own.map (·.2)) && decide (ds.length ≤ LIM)) = true
  case neg => rw [if_neg hno] at h1; exact h1.elim
  rw [if_pos hno] at h1
  have hno' := (Bool.and_eq_true _ _).mp hno
  have hlim := of_decide_eq_true hno'.2
  cases hcg : compGoD t tst mk mv (wipeE env (own.map (·.2))) ds [] [] mh1 with
  | no => rw [hcg] at h1; exact h1.elim
  | er x m => rw [hcg] at h1; exact h1.elim
  | ok p mhE =>
  rw [hcg] at h1
  intro D hD
  have hFD : F D = none := R1.f_none hD
  refine dc_it w (fun i H' => ∃ am2 Hk2 mh2 kvs ds', Go am1 am2 ∧ Le Hk1 Hk2 ∧ Rl c (upd F D (.dK kvs)) am2 Hk2 H' (wipe σ (own.map (·.2))) (wipeE env (own.map (·.2))) mh2 ∧ (∀ q ∈ kvs, keyOk q.1) ∧ DqAll c am2 Hk2 (kvs.map (·.2)) ds' ∧ kvs.length ≤ i ∧
      compGoD t tst mk mv (wipeE env (own.map (·.2))) (ds.drop i) (kvs.map fun q => keyD q.1) ds' mh2 = .ok p mhE)
    ⟨am1, Hk1, mh1, [], [], Go.refl _, Le.refl _, (R1.wiped).stash hD, (fun _ h => nomatch h), .nil, Nat.le_refl _, by rw [List.drop_zero]; exact hcg⟩
    (fun i H' _ ⟨am2, Hk2, mh2, kvs, ds', g2, e2, R2, _⟩ => hG H' (e2.trans R2.known)) (fun i x H' H3 hlt hP hy => ?_) (fun H' hP => ?_)
  · obtain ⟨am2, Hk2, mh2, kvs, ds', g2, e2, R2, ok, qa, hl, hr⟩ := hP
    have hdr : ds.drop i = ds[i] :: ds.drop (i + 1) := List.drop_eq_getElem_cons hlt
    rw [hdr] at hr
    unfold compGoD at hr
    cases hte : t ds[i] (wipeE env (own.map (·.2))) with
    | none => rw [hte] at hr; cases hr
    | some env1 =>
    rw [hte] at hr
    obtain ⟨b, mh3, hb, hr⟩ := bind_ok hr
    have hb := noEr_ok hb
    have item : ∃ Hk3, Le Hk2 Hk3 ∧ Rl c (upd F D (.dK kvs)) am2 Hk3 H3 (wipe σ (own.map (·.2))) (wipeE env (own.map (·.2))) mh2 ∧ Dq c am2 Hk3 x ds[i] := by
      exact (hY i H' x H3 hlt (e2.trans R2.known) hy).item hlt R2 g2 e2
    obtain ⟨Hk3, e3, R3, q3⟩ := item
    refine ⟨_, am2, Hk3, _, mh2, ds[i], env1, R3, q3, hte, fun σ2 R4 l4 k4 => ?_⟩
    refine ⟨wipe_ext (by rw [l4, wipe_length]) fun j hj => ?_, ?_⟩
    · rw [k4 j fun z => hj (hjs j z), wipe_out hj]
    refine ⟨_, am2, Hk3, env1, mh2, R4, gp_of hb fun b' am5 Hk5 H5 g5 e5 R5 eb => ?_⟩
    rw [show b' = b from eb]
    have back : ∀ {am6 : List Addr} {Hk6 H6 : Hp} {mh6 : Mh}, Go am2 am6 → Le Hk3 Hk6 → Rl c (upd F D (.dK kvs)) am6 Hk6 H6 σ2 env1 mh6 → Rl c (upd F D (.dK kvs)) am6 Hk6 H6 (wipe σ (own.map (·.2))) (wipeE env (own.map (·.2))) mh6 := by
      intro am6 Hk6 H6 mh6 g6 e6 R6
      exact R3.unset (vs := own.map (·.2)) R6 g6 e6 (fun i hi => ⟨k4 i fun z => hi (hjs i z), hkp _ _ _ hte i fun z => hi (hjs i z)⟩) fun i s' hi he' => by rw [wipeE_in hi he']; rfl
    cases b with
    | true =>
      rw [if_pos rfl] at hr ⊢
      obtain ⟨dk, mh4, hy4, hr⟩ := bind_ok hr
      have hy4 := noEr_ok hy4
      obtain ⟨dv, mh5, hy5, hr⟩ := bind_ok hr
      have hy5 := noEr_ok hy5
      cases hko : keyOf dk with
      | none => simp only [dPutD, hko, Option.map_none] at hr; cases hr
      | some k =>
      simp only [dPutD, hko, Option.map_some] at hr
      refine ⟨_, am5, Hk5, env1, mh3, R5, gp_of hy4 fun vk am6 Hk6 H6 g6 e6 R6 q6 => ?_⟩
      refine ⟨_, am6, Hk6, env1, mh4, R6, gp_of hy5 fun vv am7 Hk7 H7 g7 e7 R7 q7 => ?_⟩
      obtain ⟨ek, okk, ed⟩ := keyOf_q q6 hko
      obtain ⟨hD7, _, _⟩ := R7.frame D _ upd_same
      have gg := g5.trans (g6.trans g7)
      have ee := e5.trans (e6.trans e7)
      have qa' := qa.up gg (e3.trans ee)
      obtain ⟨p1, p2⟩ := putL_ok (f := keyOf) (g := keyD) keyOf_keyD (k := k) q7 qa'
      subst ed
      rw [p1] at hr
      refine ⟨kvs, k, ek, hD7, by rw [sizeLine_eq]; have : LIM = 1000000 := rfl; omega, am7, Hk7, mh5, putK kvs k vv, _, g2.trans gg, e2.trans (e3.trans ee), (back gg ee R7).restash, fun q hq => ?_, p2, ?_, hr⟩
      · rcases mem_putK hq with e | ⟨q', hq', e⟩
        · rw [e]; exact okk
        · rw [← e]; exact ok q' hq'
      · have := length_putK kvs k vv
        omega
    | false =>
      rw [if_neg Bool.false_ne_true] at hr ⊢
      exact ⟨am5, Hk5, mh3, kvs, ds', g2.trans g5, e2.trans (e3.trans e5), back g5 e5 R5, ok, qa.up g5 (e3.trans e5), by omega, hr⟩
  · obtain ⟨am2, Hk2, mh2, kvs, ds', g2, e2, R2, ok, qa, hl, hr⟩ := hP
    rw [List.drop_length] at hr
    cases hr
    have R3 : Rl c (upd F D (.dK kvs)) am2 Hk2 H' σ env mhE := by
      have R5 := (R1.stash hD (o := HO.dK []))
      exact R5.unset' (vs := own.map (·.2)) R2 g2 e2 (fun i hi => ⟨wipe_out hi, wipeE_out hi⟩) fun i s' hi he' => noOwn_of hno'.1 hi he'
    exact h1 (.ref D) (upd F D (.dK kvs)) am2 Hk2 H' g2 e2 R3 ⟨D, rfl, hFD, .inl ⟨rfl, kvs, rfl, ok, rfl, qa⟩⟩
theorem sc_dc {kx vx tg iter : Expr} {ifs : List Expr} {scope : Scope} {own : List (Str × Nat)} {pos : Pos} {src : Iv} {t : D → En → Option En} {js : List Nat} {tst : Bv} {mk mv : Ev} (hc : X.calm = true) (hN : X.N.Nodup) (hi : SI c W X tg iter src) (ok : BlkOk X.N X.env.scope scope own)
    (hg : ∀ (s : Shared) (H : Hp) (C : Addr) (cl : List (Str × Addr)) (fp : List Addr), SG c (X.blk s H scope (compEnvC scope cl C X.env) fp) tg t js)
    (ht : ∀ (s : Shared) (H : Hp) (C : Addr) (cl : List (Str × Addr)) (fp : List Addr), SIf c (X.blk s H scope (compEnvC scope cl C X.env) fp) ifs tst)
    (hk : ∀ (s : Shared) (H : Hp) (C : Addr) (cl : List (Str × Addr)) (fp : List Addr), SE c W0 (X.blk s H scope (compEnvC scope cl C X.env) fp) kx mk)
    (hv : ∀ (s : Shared) (H : Hp) (C : Addr) (cl : List (Str × Addr)) (fp : List Addr), SE c W0 (X.blk s H scope (compEnvC scope cl C X.env) fp) vx mv)
    (hjs : ∀ j ∈ js, j ∈ own.map (·.2)) (hs : ∀ x, foldedSetIterable iter X.env x = pure x := by intro _; rfl) :
    SC c W X (.DictComp kx vx [⟨tg, iter, ifs, 0⟩] scope pos) (mCompD (own.map (·.2)) src t tst mk mv) := by
  obtain ⟨wi, pi, ki⟩ := hi
  refine ⟨_, pe_dc hc hN pi ok (fun s H C cl fp => (hg s H C cl fp).pg) (fun s H C cl fp => (ht s H C cl fp).pt) (fun s H C cl fp => (hk s H C cl fp).pe) (fun s H C cl fp => (hv s H C cl fp).pe) hs, dc_ok (own := own) (hg X.s_0 X.H_0 0 [] []).keep ki hjs⟩
end
/-! ### xs.index(x) of a list -/
def dIndex (o : D) (ds : List D) : Option D := match o, ds with
  | .lst es, [d] => if plains es && decide (deps es ≤ 60) && d.plain then (es.findIdx? fun z => eqv z d).map fun j => .int (j : Nat) else none
  | _, _ => none
def rIdxL (K : PySem.W.Frag) : V → List V → Hp → VK → Prop := fun x xs H Q => ∃ (a : Addr) (y : V) (d : PyData) (ds : List PyData) (j : Nat), x = V.ref a ∧ xs = [y] ∧ Dp K H (V.ref a) (.list ds) ∧ Dp K H y d ∧ PyData.canLayAll0 ds = true ∧ d.canLay0 = true ∧ PyData.depthAll ds ≤ 60 ∧
  (∃ z, ds[j]? = some z ∧ PyData.eqv z d = true) ∧ (∀ (m : Nat) (z' : PyData), m < j → ds[m]? = some z' → PyData.eqv z' d = false) ∧ Q (.int (j : Nat)) H
theorem mt_idxL {X : Cx} (hu : X.A.units + 64 < cLine) : MtR X "list.index" (rIdxL X.K) := by
  intro pins s σ H x xs v us Q I rx rxs h
  obtain ⟨a, y, d, ds, j, rfl, rfl, hl, hy, hxs, sd, hdp, ⟨z, hz, hzj⟩, hno, q⟩ := h
  cases rx
  cases rxs with
  | cons ry rt =>
    rename_i uy ut
    cases rt
    obtain ⟨bs, r1⟩ := Dp.reads I d y uy hy ry
    cases hl with
    | lst hs ha =>
      obtain ⟨its, rv, ⟨⟨cls, dd, data, sls⟩, n, ho, hc, hdn, hdt⟩, hlen⟩ := I.list hs
      simp only at hc hdt
      subst hc hdt
      obtain ⟨as, h4⟩ := Dp.readsAll I ds _ its ha rv
      have hn : its.length = ds.length := SeqAt.ReadsAll.length ds its as h4
      have hmap : its.map (SeqAt.readOf s.heap) = ds := SeqAt.readsAll_map ds its as hxs h4
      have hvl := rv.length
      have hsl := sizeLine_eq
      obtain ⟨hjd, _⟩ := List.getElem?_eq_some_iff.mp hz
      have hjl : j < its.length := by omega
      have hj : j < its.toArray.size := by simpa using hjl
      have at_ : ∀ (m : Nat) (hm : m < its.toArray.size) (z' : PyData), ds[m]? = some z' → SeqAt.readOf s.heap its.toArray[m] = z' := by
        intro m hm z' hz'
        have hml : m < its.length := by simpa using hm
        rw [← hmap, List.getElem?_map, List.getElem?_eq_getElem hml] at hz'
        have e1 : SeqAt.readOf s.heap its[m] = z' := Option.some.inj (show some (SeqAt.readOf s.heap its[m]) = some z' from hz')
        simpa using e1
      refine call_meets PySem.F.slot_list_index ⟨_, ho, rfl⟩ PySem.F.entry_list_index (PySem.F.args_list_index_2 _ _)
        (SeqAt.list_indexAt a its.toArray n dd sls uy (fun u => PyData.eqv (SeqAt.readOf s.heap u) d) j hj (by omega) ?_ ?_) ⟨ho, SeqAt.items_eqAt (vs := its.toArray) (show ReadsAll s.heap its.toArray.toList ds as from h4) r1 hxs sd (by omega), ?_⟩
      · show PyData.eqv (SeqAt.readOf s.heap its.toArray[j]) d = true
        rw [at_ j hj z hz]
        exact hzj
      · intro m hm hmj
        have hmd : m < ds.length := by omega
        have hz' : ds[m]? = some ds[m] := List.getElem?_eq_getElem hmd
        show PyData.eqv (SeqAt.readOf s.heap its.toArray[m]) d = false
        rw [at_ m hm _ hz']
        exact hno m _ hmj hz'
      · exact ⟨.int (j : Nat), H, I.tok _, ⟨_, rfl⟩, q⟩
theorem r_idxL {c : Cn} : RMOk c "list" (rIdxL c.K) dIndex := by
  intro F am Hk H σ env mh x vs dx ds d Q R qx qs e h
  unfold dIndex at e
  split at e
  · rename_i es d1
    split at e
    · rename_i hb
      rw [Bool.and_eq_true, Bool.and_eq_true] at hb
      obtain ⟨⟨p1, p2⟩, p3⟩ := hb
      cases hf : es.findIdx? fun z => eqv z d1 with
      | none => rw [hf] at e; cases e
      | some j =>
        rw [hf] at e
        cases e
        cases qs with | cons q1 qs =>
        cases qs
        cases qx with | lst s1 q2 =>
        obtain ⟨k1, k2, k3⟩ := DqAll.dp es _ p1 (q2.up (Go.refl _) R.known)
        obtain ⟨j1, j2, j3⟩ := Dq.dp d1 _ p3 (q1.up (Go.refl _) R.known)
        obtain ⟨hj, hj1, hj2⟩ := List.findIdx?_eq_some_iff_getElem.mp hf
        refine ⟨_, _, d1.py, pys es, j, rfl, rfl, .lst (.of (R.known _ _ s1)) k1, j1, k2, j2, by rw [k3]; exact of_decide_eq_true p2, ⟨(es[j]).py, by rw [pys_map, List.getElem?_map, List.getElem?_eq_getElem hj]; rfl, hj1⟩, fun m z' hm hz => ?_, h _ Hk H (Le.refl _) R (.int _)⟩
        rw [pys_map, List.getElem?_map, List.getElem?_eq_getElem (Nat.lt_trans hm hj)] at hz
        cases hz
        have := hj2 m hm
        cases hq : eqv es[m] d1 with
        | false => exact hq
        | true => exact absurd hq this
    · cases e
  · cases e
end Mi

set_option Elab.async false
set_option linter.all false
set_option maxRecDepth 100000
set_option maxHeartbeats 1000000
namespace Mi
/-! ### boughs, in plain Lean -/
structure BO (b : List Nat) : Prop where
  len : b.length ≤ 39
  le : ∀ (i : Nat) (h : i < b.length), b[i] ≤ i
def downF (b : List Nat) : Nat → Nat → List Nat
  | 0, y => [y]
  | f + 1, y => if y = 0 then [0] else y :: downF b f (b.getD (y - 1) 0)
def down (b : List Nat) (y : Nat) : List Nat := downF b y y
theorem downF_eq {b : List Nat} (B : BO b) : ∀ (y f : Nat), y ≤ b.length → y ≤ f → downF b f y = down b y := by
  intro y
  induction y using Nat.strongRecOn with
  | _ y ih =>
    intro f hy hf
    match y, f, hy, hf with
    | 0, 0, _, _ => rfl
    | 0, f + 1, _, _ => rfl
    | y + 1, f + 1, hy, hf =>
      have hp : b.getD y 0 ≤ y := by
        rw [List.getD_eq_getElem?_getD, List.getElem?_eq_getElem (show y < b.length by omega)]
        exact B.le y (by omega)
      have e1 : downF b (f + 1) (y + 1) = (y + 1) :: downF b f (b.getD y 0) := by simp [downF]
      have e2 : down b (y + 1) = (y + 1) :: downF b y (b.getD y 0) := by simp [down, downF]
      rw [e1, e2, ih _ (by omega) f (by omega) (by omega), ih _ (by omega) y (by omega) hp]
@[simp] theorem down_zero (b : List Nat) : down b 0 = [0] := rfl
theorem down_succ {b : List Nat} (B : BO b) {y : Nat} (h : y < b.length) : down b (y + 1) = (y + 1) :: down b b[y] := by
  have e2 : down b (y + 1) = (y + 1) :: downF b y (b.getD y 0) := by simp [down, downF]
  have e : b.getD y 0 = b[y] := by rw [List.getD_eq_getElem?_getD, List.getElem?_eq_getElem h]; rfl
  rw [e2, e, downF_eq B _ _ (by have := B.le y h; omega) (B.le y h)]
theorem down_ind {b : List Nat} (B : BO b) {P : Nat → Prop} (h0 : P 0) (hs : ∀ (y : Nat) (h : y < b.length), P b[y] → P (y + 1)) : ∀ y, y ≤ b.length → P y := by
  intro y
  induction y using Nat.strongRecOn with
  | _ y ih =>
    intro hy
    match y, hy with
    | 0, _ => exact h0
    | y + 1, hy =>
      have := B.le y (by omega)
      exact hs y (by omega) (ih _ (by omega) (by omega))
theorem down_self {b : List Nat} (B : BO b) {y : Nat} (h : y ≤ b.length) : y ∈ down b y := by
  match y, h with
  | 0, _ => exact List.mem_cons_self
  | y + 1, h => rw [down_succ B (by omega)]; exact List.mem_cons_self
theorem down_le {b : List Nat} (B : BO b) : ∀ y, y ≤ b.length → ∀ z ∈ down b y, z ≤ y := by
  refine down_ind B (fun z hz => by simp at hz; omega) fun y h ih z hz => ?_
  rw [down_succ B h] at hz
  rcases List.mem_cons.mp hz with rfl | hz
  · omega
  · have := ih z hz
    have := B.le y h
    omega
theorem zero_down {b : List Nat} (B : BO b) : ∀ y, y ≤ b.length → 0 ∈ down b y := by
  refine down_ind B (by simp) fun y h ih => ?_
  rw [down_succ B h]
  exact List.mem_cons_of_mem _ ih
theorem down_sub {b : List Nat} (B : BO b) : ∀ y, y ≤ b.length → ∀ z ∈ down b y, ∀ u ∈ down b z, u ∈ down b y := by
  refine down_ind B (fun z hz u hu => by simp at hz; subst hz; exact hu) fun y h ih z hz u hu => ?_
  rw [down_succ B h] at hz
  rcases List.mem_cons.mp hz with rfl | hz
  · exact hu
  · rw [down_succ B h]
    exact List.mem_cons_of_mem _ (ih z hz u hu)
/-- what lies below and is not itself has a child -/
theorem down_child {b : List Nat} (B : BO b) : ∀ y, y ≤ b.length → ∀ z ∈ down b y, z = y ∨ z ∈ b := by
  refine down_ind B (fun z hz => by simp at hz; exact .inl hz) fun y h ih z hz => ?_
  rw [down_succ B h] at hz
  rcases List.mem_cons.mp hz with rfl | hz
  · exact .inl rfl
  · rcases ih z hz with rfl | h'
    · exact .inr (List.getElem_mem h)
    · exact .inr h'
theorem down_nodup {b : List Nat} (B : BO b) : ∀ y, y ≤ b.length → (down b y).Nodup := by
  refine down_ind B (by simp) fun y h ih => ?_
  rw [down_succ B h]
  refine List.nodup_cons.mpr ⟨fun hm => ?_, ih⟩
  have := B.le y h
  have := down_le B _ (by omega) _ hm
  omega
def nodes (b : List Nat) : List Nat := List.range (b.length + 1)
def tipsV (b : List Nat) : List Nat := (nodes b).filter fun y => !decide (y ∈ b)
def onV (b : List Nat) (x : Nat) : List Nat := (nodes b).filter fun y => decide (x ∈ down b y)
def wout (b : List Nat) (gone : List Nat) : List Nat := (nodes b).filter fun y => (down b y).all fun z => !decide (z ∈ gone)
def keptV (b : List Nat) (kept : List Nat) : List Nat := (kept.filter fun y => decide (0 < y)).map fun y => kept.idxOf (b.getD (y - 1) 0)
theorem mem_nodes {b : List Nat} {y : Nat} : y ∈ nodes b ↔ y ≤ b.length := by simp [nodes]; omega
theorem mem_wout {b gone : List Nat} {y : Nat} : y ∈ wout b gone ↔ y ≤ b.length ∧ ∀ z ∈ down b y, z ∉ gone := by
  simp [wout, mem_nodes]
theorem wout_rise (b gone : List Nat) : (wout b gone).Pairwise (· < ·) := List.Pairwise.filter _ List.pairwise_lt_range
theorem wout_down {b gone : List Nat} (B : BO b) {y z : Nat} (hy : y ∈ wout b gone) (hz : z ∈ down b y) : z ∈ wout b gone := by
  obtain ⟨h1, h2⟩ := mem_wout.mp hy
  have := down_le B _ h1 z hz
  exact mem_wout.mpr ⟨by omega, fun u hu => h2 u (down_sub B _ h1 z hz u hu)⟩
theorem wout_par {b gone : List Nat} (B : BO b) {y : Nat} (h : y < b.length) (hy : y + 1 ∈ wout b gone) : b[y] ∈ wout b gone := by
  refine wout_down B hy ?_
  rw [down_succ B h]
  exact List.mem_cons_of_mem _ (down_self B (by have := B.le y h; omega))
theorem wout_zero {b gone : List Nat} (h : 0 ∉ gone) : ∃ r, wout b gone = 0 :: r ∧ ∀ y ∈ r, 0 < y := by
  have e : wout b gone = 0 :: ((List.range b.length).map (· + 1)).filter fun y => (down b y).all fun z => !decide (z ∈ gone) := by
    unfold wout nodes
    rw [List.range_succ_eq_map, List.filter_cons]
    rw [if_pos (by simp [h])]
  refine ⟨_, e, fun y hy => ?_⟩
  obtain ⟨i, _, rfl⟩ := List.mem_map.mp (List.mem_filter.mp hy).1
  omega
theorem idx_lt {L : List Nat} (hL : L.Pairwise (· < ·)) {z : Nat} (hz : z ∈ L) {k : Nat} (hk : k < L.length) (h : z < L[k]) : L.idxOf z < k := by
  have h1 := List.idxOf_lt_length_iff.mpr hz
  apply Classical.byContradiction
  intro hc
  have hc : k ≤ L.idxOf z := by omega
  have e := List.getElem_idxOf h1
  rcases Nat.eq_or_lt_of_le hc with h2 | h2
  · simp only [h2] at h
    omega
  · have := List.pairwise_iff_getElem.mp hL k (L.idxOf z) hk h1 h2
    omega
theorem idx_get {L : List Nat} (hL : L.Pairwise (· < ·)) {k : Nat} (hk : k < L.length) : L.idxOf L[k] = k := by
  have hn : L.Nodup := hL.imp fun h => Nat.ne_of_lt h
  exact List.Nodup.idxOf_getElem hn k hk
/-- what is kept, counted anew -/
theorem kept_len {b gone : List Nat} (h : 0 ∉ gone) : (keptV b (wout b gone)).length + 1 = (wout b gone).length := by
  obtain ⟨r, e, hr⟩ := wout_zero (b := b) h
  unfold keptV
  rw [List.length_map, e]
  have : (0 :: r).filter (fun y => decide (0 < y)) = r := by
    rw [List.filter_cons, if_neg (by simp), List.filter_eq_self]
    exact fun y hy => decide_eq_true (hr y hy)
  rw [this, List.length_cons]
theorem kept_get {b gone : List Nat} (h : 0 ∉ gone) {j : Nat} (hj : j < (keptV b (wout b gone)).length) : ∃ (h1 : j + 1 < (wout b gone).length) (h2 : (wout b gone)[j + 1] - 1 < b.length), 0 < (wout b gone)[j + 1] ∧ (keptV b (wout b gone))[j] = (wout b gone).idxOf b[(wout b gone)[j + 1] - 1] := by
  have hl := kept_len (b := b) h
  have h1 : j + 1 < (wout b gone).length := by omega
  obtain ⟨r, e, hr⟩ := wout_zero (b := b) h
  have hm := List.getElem_mem h1
  have hle := (mem_wout.mp hm).1
  have e1 : (wout b gone)[j + 1] = r[j]'(by rw [e] at h1; simpa using h1) := by simp only [e, List.getElem_cons_succ]
  have hpos : 0 < (wout b gone)[j + 1] := by rw [e1]; exact hr _ (List.getElem_mem _)
  refine ⟨h1, by omega, hpos, ?_⟩
  have hf : (0 :: r).filter (fun y => decide (0 < y)) = r := by
    rw [List.filter_cons, if_neg (by simp), List.filter_eq_self]
    exact fun y hy => decide_eq_true (hr y hy)
  have e3 : keptV b (wout b gone) = r.map fun y => (wout b gone).idxOf (b.getD (y - 1) 0) := by
    unfold keptV
    conv => lhs; rw [e]
    rw [hf, ← e]
  have e2 : (keptV b (wout b gone))[j] = (wout b gone).idxOf (b.getD (r[j]'(by rw [e] at h1; simpa using h1) - 1) 0) := by
    simp only [e3, List.getElem_map]
  rw [e2, ← e1, List.getD_eq_getElem?_getD, List.getElem?_eq_getElem (by omega)]
  rfl
theorem kept_BO {b gone : List Nat} (B : BO b) (h : 0 ∉ gone) : BO (keptV b (wout b gone)) := by
  have hwl : (wout b gone).length ≤ b.length + 1 := Nat.le_trans (List.length_filter_le _ _) (by simp [nodes])
  have hl := kept_len (b := b) h
  have hbl := B.len
  refine ⟨by omega, fun j hj => ?_⟩
  obtain ⟨h1, h2, hp, e⟩ := kept_get h hj
  rw [e]
  have hm := List.getElem_mem h1
  have hpar : b[(wout b gone)[j + 1] - 1] ∈ wout b gone := wout_par B h2 (by rw [Nat.sub_add_cancel hp]; exact hm)
  have hlt : b[(wout b gone)[j + 1] - 1] < (wout b gone)[j + 1] := by have := B.le _ h2; omega
  have := idx_lt (wout_rise b gone) hpar h1 hlt
  omega
theorem kept_down {b gone : List Nat} (B : BO b) (h : 0 ∉ gone) : ∀ y, y ≤ b.length → y ∈ wout b gone → down (keptV b (wout b gone)) ((wout b gone).idxOf y) = (down b y).map (wout b gone).idxOf := by
  have B' := kept_BO B h
  refine down_ind B (fun _ => ?_) fun y hy ih hm => ?_
  · obtain ⟨r, e, _⟩ := wout_zero (b := b) h
    have : (wout b gone).idxOf 0 = 0 := by rw [e]; simp
    simp [this]
  · have hlt := List.idxOf_lt_length_iff.mpr hm
    have eg := List.getElem_idxOf hlt
    obtain ⟨r, e, _⟩ := wout_zero (b := b) h
    have hne : (wout b gone).idxOf (y + 1) ≠ 0 := by
      intro hz
      simp only [hz] at eg
      simp only [e, List.getElem_cons_zero] at eg
      omega
    obtain ⟨j, hj⟩ : ∃ j, (wout b gone).idxOf (y + 1) = j + 1 := ⟨(wout b gone).idxOf (y + 1) - 1, by omega⟩
    have hl := kept_len (b := b) h
    have hjl : j < (keptV b (wout b gone)).length := by omega
    obtain ⟨h1, h2, hp, e2⟩ := kept_get h hjl
    simp only [hj] at eg
    simp only [eg, Nat.add_sub_cancel] at e2
    rw [hj, down_succ B' hjl, down_succ B hy, List.map_cons, hj, e2, ih (wout_par B hy hm)]
end Mi

set_option Elab.async false
set_option linter.all false
set_option maxRecDepth 100000
set_option maxHeartbeats 1000000
namespace Mi
/-! ### heights, rounds -/
def hV (b : List Nat) (y : Nat) : Nat := (down b y).length - 1
theorem down_pos (b : List Nat) (y : Nat) : 1 ≤ (down b y).length := by
  unfold down
  cases y with
  | zero => simp [downF]
  | succ y => simp [downF]
@[simp] theorem hV_zero (b : List Nat) : hV b 0 = 0 := rfl
theorem hV_succ {b : List Nat} (B : BO b) {y : Nat} (h : y < b.length) : hV b (y + 1) = hV b b[y] + 1 := by
  unfold hV
  rw [down_succ B h, List.length_cons]
  have := down_pos b b[y]
  omega
def goneTips (b : List Nat) : List Nat := (tipsV b).filter fun y => decide (0 < y)
theorem mem_goneTips {b : List Nat} {y : Nat} : y ∈ goneTips b ↔ (y ≤ b.length ∧ y ∉ b) ∧ 0 < y := by
  simp only [goneTips, tipsV, List.mem_filter, mem_nodes, Bool.not_eq_true', decide_eq_false_iff_not, decide_eq_true_eq]
theorem zero_gone (b : List Nat) : 0 ∉ goneTips b := fun h => by have := mem_goneTips.mp h; omega
/-- those that are no tips are kept, and no others -/
theorem tipped_kept {b : List Nat} (B : BO b) : (nodes b).filter (fun y => !decide (y ∈ goneTips b)) = wout b (goneTips b) := by
  refine List.filter_congr fun y hy => ?_
  have hy := mem_nodes.mp hy
  rw [Bool.eq_iff_iff]
  simp only [Bool.not_eq_true', decide_eq_false_iff_not, List.all_eq_true]
  constructor
  · intro h z hz hg
    rcases down_child B y hy z hz with rfl | hb
    · exact h hg
    · exact (mem_goneTips.mp hg).1.2 hb
  · intro h
    exact h y (down_self B hy)
def tippedV (b : List Nat) : List Nat := keptV b (wout b (goneTips b))
theorem tipped_BO {b : List Nat} (B : BO b) : BO (tippedV b) := kept_BO B (zero_gone b)
def roundsV : Nat → List Nat → Nat
  | 0, _ => 0
  | n + 1, b => if b = [] then 0 else roundsV n (tippedV b) + 1
theorem mem_kept_tips {b : List Nat} (B : BO b) {y : Nat} : y ∈ wout b (goneTips b) ↔ y ≤ b.length ∧ (y ∈ b ∨ y = 0) := by
  rw [← tipped_kept B]
  simp only [List.mem_filter, mem_nodes, Bool.not_eq_true', decide_eq_false_iff_not, mem_goneTips]
  constructor
  · rintro ⟨h1, h2⟩
    refine ⟨h1, ?_⟩
    by_cases hb : y ∈ b
    · exact .inl hb
    · exact .inr (Nat.eq_zero_of_not_pos fun hp => h2 ⟨⟨h1, hb⟩, hp⟩)
  · rintro ⟨h1, h2⟩
    refine ⟨h1, fun ⟨⟨_, hb⟩, hp⟩ => ?_⟩
    rcases h2 with h | h
    · exact hb h
    · omega
/-- m is the greatest height -/
def Tall (b : List Nat) (m : Nat) : Prop := (∀ y, y ≤ b.length → hV b y ≤ m) ∧ ∃ y, y ≤ b.length ∧ hV b y = m
theorem tall_nil : Tall [] 0 := ⟨fun y h => by have : y = 0 := by simpa using h
                                               subst this; simp, 0, by simp, rfl⟩
theorem tall_pos {b : List Nat} (B : BO b) {m : Nat} (T : Tall b m) (h : b ≠ []) : 1 ≤ m := by
  have hl : 0 < b.length := List.length_pos_iff.mpr h
  have := T.1 1 (by omega)
  rw [hV_succ B hl] at this
  omega
theorem tall_tipped {b : List Nat} (B : BO b) {m : Nat} (T : Tall b (m + 1)) : Tall (tippedV b) m := by
  have hw := wout_rise b (goneTips b)
  have hl := kept_len (b := b) (zero_gone b)
  have key : ∀ y, y ≤ b.length → y ∈ wout b (goneTips b) → hV (tippedV b) ((wout b (goneTips b)).idxOf y) = hV b y := fun y hy hm => by
    unfold hV tippedV
    rw [kept_down B (zero_gone b) y hy hm, List.length_map]
  refine ⟨fun j hj => ?_, ?_⟩
  · have hj' : j < (wout b (goneTips b)).length := by unfold tippedV at hj; omega
    have hm := List.getElem_mem hj'
    obtain ⟨h1, h2⟩ := (mem_kept_tips B).mp hm
    have e := key _ h1 hm
    rw [idx_get hw hj'] at e
    rw [e]
    rcases h2 with hb | h0
    · obtain ⟨i, hi, ei⟩ := List.mem_iff_getElem.mp hb
      have := T.1 (i + 1) (by omega)
      rw [hV_succ B hi, ei] at this
      omega
    · rw [h0]; simp
  · obtain ⟨y, hy, ey⟩ := T.2
    match y, hy, ey with
    | 0, _, ey => simp at ey
    | y + 1, hy, ey =>
      have hyl : y < b.length := by omega
      have hm : b[y] ∈ wout b (goneTips b) := (mem_kept_tips B).mpr ⟨by have := B.le y hyl; omega, .inl (List.getElem_mem hyl)⟩
      have hlt := List.idxOf_lt_length_iff.mpr hm
      refine ⟨(wout b (goneTips b)).idxOf b[y], by unfold tippedV; omega, ?_⟩
      rw [key _ (by have := B.le y hyl; omega) hm]
      rw [hV_succ B hyl] at ey
      omega
theorem tall_zero {b : List Nat} (B : BO b) (T : Tall b 0) : b = [] := by
  apply Classical.byContradiction
  intro h
  have := tall_pos B T h
  omega
/-- k rounds: what is left -/
def leftV : Nat → List Nat → List Nat
  | 0, b => b
  | n + 1, b => leftV n (if b = [] then [] else tippedV b)
theorem hV_le {b : List Nat} (B : BO b) : ∀ y, y ≤ b.length → hV b y ≤ y := by
  refine down_ind B (by simp) fun y h ih => ?_
  rw [hV_succ B h]
  have := B.le y h
  omega
/-- after i rounds: as many taken as there were, up to the height -/
def roundI (i : Nat) (b : List Nat) : Nat × List Nat := match i with
  | 0 => (0, b)
  | i + 1 => let p := roundI i b; if p.2 = [] then p else (p.1 + 1, tippedV p.2)
theorem round_inv {b : List Nat} (B : BO b) {m : Nat} (T : Tall b m) : ∀ i, BO (roundI i b).2 ∧ ∃ k, (roundI i b).1 + k = m ∧ Tall (roundI i b).2 k ∧ (i ≤ m → (roundI i b).1 = i) := by
  intro i
  induction i with
  | zero => exact ⟨B, m, by simp [roundI], T, fun _ => rfl⟩
  | succ i ih =>
    obtain ⟨B1, k, e, T1, hi⟩ := ih
    simp only [roundI]
    by_cases hz : (roundI i b).2 = []
    · rw [if_pos hz]
      have hk : k = 0 := by
        rw [hz] at T1
        obtain ⟨y, hy, ey⟩ := T1.2
        have : y = 0 := by simpa using hy
        subst this
        simpa using ey.symm
      refine ⟨B1, k, e, T1, fun h => ?_⟩
      have := hi (by omega)
      omega
    · rw [if_neg hz]
      have hk := tall_pos B1 T1 hz
      obtain ⟨k', rfl⟩ : ∃ k', k = k' + 1 := ⟨k - 1, by omega⟩
      exact ⟨tipped_BO B1, k', by simp only; omega, tall_tipped B1 T1, fun h => by have := hi (by omega); simp only; omega⟩
theorem rounds_end {b : List Nat} (B : BO b) {m : Nat} (T : Tall b m) : (roundI b.length b).1 = m ∧ (roundI b.length b).2 = [] := by
  have hm : m ≤ b.length := by
    obtain ⟨y, hy, ey⟩ := T.2
    have := hV_le B y hy
    omega
  obtain ⟨B1, k, e, T1, _⟩ := round_inv B T b.length
  obtain ⟨B2, k2, e2, T2, h2⟩ := round_inv B T m
  have h2 := h2 (Nat.le_refl _)
  have hk2 : k2 = 0 := by omega
  subst hk2
  have hz := tall_zero B2 T2
  have stay : ∀ j, roundI (m + j) b = roundI m b := by
    intro j
    induction j with
    | zero => rfl
    | succ j ih =>
      show roundI (m + j + 1) b = _
      simp only [roundI, ih, hz, if_true]
  have := stay (b.length - m)
  rw [Nat.add_sub_cancel' hm] at this
  rw [this]
  exact ⟨h2, hz⟩
/-! ### grafts -/
def graftV (b : List Nat) (x : Nat) (o : List Nat) : List Nat := b ++ x :: o.map (· + (b.length + 1))
theorem graft_BO {b o : List Nat} {x : Nat} (B : BO b) (O : BO o) (hx : x ≤ b.length) (hl : b.length + o.length ≤ 38) : BO (graftV b x o) := by
  refine ⟨by simp [graftV]; omega, fun i h => ?_⟩
  unfold graftV at h ⊢
  by_cases h1 : i < b.length
  · rw [List.getElem_append_left h1]; exact B.le i h1
  · rw [List.getElem_append_right (by omega)]
    by_cases h2 : i = b.length
    · subst h2
      simp only [Nat.sub_self, List.getElem_cons_zero]
      exact hx
    · obtain ⟨k, hk⟩ : ∃ k, i - b.length = k + 1 := ⟨i - b.length - 1, by omega⟩
      have hko : k < o.length := by simp at h; omega
      simp only [hk, List.getElem_cons_succ, List.getElem_map]
      have := O.le k hko
      omega
theorem graft_low {b o : List Nat} {x : Nat} (B : BO b) (G : BO (graftV b x o)) : ∀ y, y ≤ b.length → down (graftV b x o) y = down b y := by
  refine down_ind B rfl fun y h ih => ?_
  have hl : y < (graftV b x o).length := by simp [graftV]; omega
  have e : (graftV b x o)[y] = b[y] := by
    have q : (graftV b x o)[y]? = some b[y] := by unfold graftV; rw [List.getElem?_append_left h, List.getElem?_eq_getElem h]
    rw [List.getElem?_eq_getElem hl] at q
    exact Option.some.inj q
  rw [down_succ G hl, down_succ B h, e, ih]
theorem graft_high {b o : List Nat} {x : Nat} (O : BO o) (G : BO (graftV b x o)) : ∀ k, k ≤ o.length → (b.length + 1) ∈ down (graftV b x o) (b.length + 1 + k) := by
  refine down_ind O (down_self G (by simp [graftV])) fun y h ih => ?_
  have hl : b.length + 1 + y < (graftV b x o).length := by simp [graftV]; omega
  have e : (graftV b x o)[b.length + 1 + y] = o[y] + (b.length + 1) := by
    have q : (graftV b x o)[b.length + 1 + y]? = some (o[y] + (b.length + 1)) := by
      unfold graftV
      rw [List.getElem?_append_right (by omega)]
      have hk : b.length + 1 + y - b.length = y + 1 := by omega
      rw [hk, List.getElem?_cons_succ, List.getElem?_map, List.getElem?_eq_getElem h]
      rfl
    rw [List.getElem?_eq_getElem hl] at q
    exact Option.some.inj q
  rw [show b.length + 1 + (y + 1) = (b.length + 1 + y) + 1 from rfl, down_succ G hl, e, show o[y] + (b.length + 1) = b.length + 1 + o[y] by omega]
  exact List.mem_cons_of_mem _ ih
theorem graft_prune {b o : List Nat} {x : Nat} (B : BO b) (O : BO o) (G : BO (graftV b x o)) : keptV (graftV b x o) (wout (graftV b x o) [b.length + 1]) = b := by
  have hL : (graftV b x o).length = b.length + 1 + o.length := by simp [graftV]; omega
  have hw : wout (graftV b x o) [b.length + 1] = List.range (b.length + 1) := by
    have e : nodes (graftV b x o) = List.range (b.length + 1) ++ (List.range (o.length + 1)).map fun k => b.length + 1 + k := by
      unfold nodes
      rw [hL, show b.length + 1 + o.length + 1 = (b.length + 1) + (o.length + 1) by omega, List.range_add]
    unfold wout
    rw [e, List.filter_append, List.filter_eq_self.mpr, List.filter_eq_nil_iff.mpr, List.append_nil]
    · intro y hy h
      obtain ⟨k, hk, rfl⟩ := List.mem_map.mp hy
      have hk := List.mem_range.mp hk
      have := List.all_eq_true.mp h _ (graft_high O G k (by omega))
      simp at this
    · intro y hy
      have hy := List.mem_range.mp hy
      rw [graft_low B G y (by omega), List.all_eq_true]
      intro z hz
      have := down_le B y (by omega) z hz
      simp
      omega
  unfold keptV
  rw [hw]
  have hf : (List.range (b.length + 1)).filter (fun y => decide (0 < y)) = (List.range b.length).map (· + 1) := by
    rw [List.range_succ_eq_map, List.filter_cons, if_neg (by simp), List.filter_eq_self.mpr]
    intro y hy
    obtain ⟨i, _, rfl⟩ := List.mem_map.mp hy
    simp
  rw [hf, List.map_map]
  refine List.ext_getElem (by simp) fun i h1 h2 => ?_
  have hi : i < b.length := h2
  simp only [List.getElem_map, List.getElem_range, Function.comp_apply, Nat.add_sub_cancel]
  have e : (graftV b x o).getD i 0 = b[i] := by
    rw [List.getD_eq_getElem?_getD]
    unfold graftV
    rw [List.getElem?_append_left hi, List.getElem?_eq_getElem hi]
    rfl
  rw [e]
  have hb := B.le i hi
  have := idx_get (L := List.range (b.length + 1)) List.pairwise_lt_range (k := b[i]) (by simp; omega)
  rw [List.getElem_range] at this
  exact this
end Mi

set_option Elab.async false
set_option linter.all false
set_option maxRecDepth 100000
set_option maxHeartbeats 1000000
namespace Mi
open PySem L2
section
variable {env : En} {mh : Mh} {N : En → Mh → Prop} {T : D → Mh → Prop} {C : En → Mh → Prop} {P : D → Mh → Prop} {PC : Cel → Mh → Prop} {a b : Ev}
@[simp] theorem S_disp1 : (mDisp1 a b env mh).S PC = (a env mh).S fun k m1 => (b env m1).S fun v m2 => match keyOf k with | some _ => PC (.od false [k] [v]) m2 | none => False := by
  simp only [mDisp1, S_bind, S_noEr]; congr; funext k m1; congr; funext v m2
  cases keyOf k <;> rfl
@[simp] theorem S_thaw : (mThaw a env mh).S P = (a env mh).S fun d m1 => match d with | .lst ds => (match thawL ds m1 with | some p => P (.lst p.1) p.2 | none => False) | _ => False := by
  simp only [mThaw, S_bind]; congr; funext d m1
  cases d <;> first | rfl | skip
  simp only
  rename_i ds
  cases thawL ds m1 <;> rfl
end
/-- lists that are changed no more: all of them -/
theorem thaw_all : ∀ (rows : List (List D)) (m0 : Mh), thawL ((List.range rows.length).map fun (i : Nat) => .loc (m0.length + i)) (m0 ++ rows.map .lst) = some (rows.map .lst, m0 ++ List.replicate rows.length .dead)
  | [], m0 => by simp [thawL]
  | r :: rows, m0 => by
    have e1 : ((List.range (r :: rows).length).map fun (i : Nat) => D.loc (m0.length + i)) = .loc m0.length :: (List.range rows.length).map fun (i : Nat) => .loc ((m0 ++ [MO.dead]).length + i) := by
      rw [List.length_cons, List.range_succ_eq_map, List.map_cons, List.map_map]
      congr 1
      refine List.map_congr_left fun i _ => ?_
      simp
      omega
    have e2 : (m0 ++ (r :: rows).map MO.lst)[m0.length]? = some (.lst r) := by rw [List.getElem?_append_right (Nat.le_refl _)]; simp
    have e3 : (m0 ++ (r :: rows).map MO.lst).set m0.length .dead = (m0 ++ [MO.dead]) ++ rows.map MO.lst := by
      rw [List.set_append_right _ _ (Nat.le_refl _)]; simp
    rw [e1]
    unfold thawL
    simp only [e2, e3, thaw_all rows (m0 ++ [MO.dead])]
    simp [List.replicate_succ]
/-- the source may leave something behind -/
theorem fzMapM {α : Type} (xs : List α) (c : α → D) (p : α → Bool) (f : α → D) (mh1 : Mh) {vs : List Nat} {src : Iv} {t : D → En → Option En} {tst : Bv} {elt : Ev} {env : En} {mh : Mh} {P : D → Mh → Prop}
    (h1 : (src env mh).S fun ds m1 => ds = xs.map c ∧ m1 = mh1) (h3 : xs.length ≤ 1000000)
    (h4 : ∀ x ∈ xs, ∃ env1, t (c x) (wipeE env vs) = some env1 ∧ (tst env1 mh1).S (fun b m => b = p x ∧ m = mh1) ∧ (p x = true → (elt env1 mh1).S fun y m => y = f x ∧ m = mh1)) (hP : P (.lst ((xs.filter p).map f)) mh1) (h2 : noOwn env vs = true := by rfl) : (mFz (mCompC vs src t tst elt) env mh).S P := by
  refine S_fzComp (h1.mono fun ds m1 ⟨e1, e2⟩ => ?_)
  subst e1
  subst e2
  refine ⟨h2, by rw [List.length_map]; exact h3, ?_⟩
  have key : ∀ xs : List α, (∀ x ∈ xs, ∃ env1, t (c x) (wipeE env vs) = some env1 ∧ (tst env1 m1).S (fun b m => b = p x ∧ m = m1) ∧ (p x = true → (elt env1 m1).S fun y m => y = f x ∧ m = m1)) → compGo t tst elt (wipeE env vs) (xs.map c) m1 = .ok ((xs.filter p).map f) m1 := by
    intro xs
    induction xs with
    | nil => intro _; rfl
    | cons x r ih =>
      intro h
      obtain ⟨env1, a1, a2, a3⟩ := h x List.mem_cons_self
      have ih := ih fun y hy => h y (List.mem_cons_of_mem _ hy)
      rw [List.map_cons]
      unfold compGo
      simp only [a1, S_eqs a2, noEr, Rs.bind]
      cases hp : p x with
      | true => simp only [if_true, S_eqs (a3 hp), ih, List.filter_cons, hp, List.map_cons]
      | false => simp only [Bool.false_eq_true, if_false, ih, List.filter_cons, hp]
  rw [key xs h4]
  exact hP
theorem enD_zip {α : Type} (f : α → D) (xs : List α) : enD (xs.map f) = xs.zipIdx.map fun p => .tup [.int (p.2 : Nat), f p.1] := by
  refine List.ext_getElem? fun i => ?_
  simp only [enD, List.getElem?_map, List.getElem?_zipIdx]
  cases xs[i]? <;> simp
theorem keyEnc_nat : KeyEnc false (fun n : Nat => D.int (n : Nat)) := ⟨fun n => .inl n, fun _ => rfl, fun a b h => by injection h with h; omega⟩
/-! numbers -/
def nD (xs : List Nat) : D := .lst (xs.map fun n => D.int (n : Nat))
theorem sortable_nat {xs : List Nat} (h : xs.length ≤ 1000000) : sortable (xs.map fun n => D.int (n : Nat)) = true := by
  unfold sortable
  have h1 : decide ((xs.map fun n => D.int (n : Nat)).length ≤ LIM) = true := decide_eq_true (by rw [List.length_map]; exact h)
  have h2 : ((xs.map fun n => D.int (n : Nat)).all fun d => d.plain && decide (d.dep ≤ 8)) = true := by
    rw [List.all_map]; exact List.all_eq_true.mpr fun p _ => rfl
  have h3 : ((xs.map fun n => D.int (n : Nat)).all fun a => (xs.map fun n => D.int (n : Nat)).all fun b => PySem.W.alike a.py b.py) = true := by
    rw [List.all_map]
    refine List.all_eq_true.mpr fun p _ => ?_
    simp only [Function.comp_apply, List.all_map]
    exact List.all_eq_true.mpr fun q _ => rfl
  have h4 : ((xs.map fun n => D.int (n : Nat)).all fun d => !isTupA d) = true := by
    rw [List.all_map]; exact List.all_eq_true.mpr fun p _ => rfl
  rw [h1, h2, h3, h4]
  simp
theorem lt_nat {a b : Nat} : lt (.int (a : Nat)) (.int (b : Nat)) = ordN.ltb a b := by
  rw [lt_int']
  show decide ((a : Int) < b) = decide (a < b)
  exact decide_eq_decide.mpr (by omega)
theorem dSorted_natA {d : D} {xs : List Nat} (hi : itemsA d = some (xs.map fun n => D.int (n : Nat))) (h : xs.length ≤ 1000000) : dSorted d = some (nD (xs.mergeSort ordN.le)) := dSorted_of ordN (fun n : Nat => D.int (n : Nat)) (fun _ _ => lt_nat) hi (sortable_nat h)
/-- {x: i for i, x in enumerate(xs)}, no x twice -/
theorem S_compD {α : Type} (xs : List α) (c : α → D) (kx vx : α → D) {vs : List Nat} {src : Iv} {t : D → En → Option En} {mk mv : Ev} {env : En} {mh : Mh} {PC : Cel → Mh → Prop} {β : Type} [DecidableEq β] {enc : β → D} (K : KeyEnc false enc) (key : α → β) (hk : ∀ x, kx x = enc (key x)) (hn : (xs.map key).Nodup)
    (h1 : (src env mh).S fun ds m1 => ds = xs.map c ∧ m1 = mh) (h3 : xs.length ≤ 1000000)
    (h4 : ∀ x ∈ xs, ∃ env1, t (c x) (wipeE env vs) = some env1 ∧ (mk env1 mh).S (fun y m => y = kx x ∧ m = mh) ∧ (mv env1 mh).S fun y m => y = vx x ∧ m = mh) (hP : PC (.od false (xs.map kx) (xs.map vx)) mh) (h2 : noOwn env vs = true := by rfl) : (mCompD vs src t tt mk mv env mh).S PC := by
  unfold mCompD
  rw [S_bind]
  refine h1.mono fun ds m1 ⟨e1, e2⟩ => ?_
  subst e1
  subst e2
  rw [if_pos (by rw [h2, List.length_map]; exact decide_eq_true h3)]
  have gen : ∀ (zs done : List α), (∀ x ∈ zs, ∃ env1, t (c x) (wipeE env vs) = some env1 ∧ (mk env1 m1).S (fun y m => y = kx x ∧ m = m1) ∧ (mv env1 m1).S fun y m => y = vx x ∧ m = m1) → ((done ++ zs).map key).Nodup →
      compGoD t tt mk mv (wipeE env vs) (zs.map c) (done.map kx) (done.map vx) m1 = .ok ((done ++ zs).map kx, (done ++ zs).map vx) m1 := by
    intro zs
    induction zs with
    | nil => intro done _ _; simp [compGoD]
    | cons x r ih =>
      intro done h hn
      obtain ⟨env1, a1, a2, a3⟩ := h x List.mem_cons_self
      rw [List.map_cons]
      unfold compGoD
      have ett : tt env1 m1 = .ok true m1 := rfl
      simp only [a1, ett, noEr, Rs.bind, if_true, S_eqs a2, S_eqs a3]
      have hnot : key x ∉ done.map key := by
        rw [List.map_append, List.map_cons] at hn
        intro hm
        exact (List.nodup_append.mp hn).2.2 _ hm _ List.mem_cons_self rfl
      have hput : dPutD false (done.map kx) (done.map vx) (kx x) (vx x) = some ((done ++ [x]).map kx, (done ++ [x]).map vx) := by
        obtain ⟨kk, k1, k2⟩ := K
        have hkx : keyOf (kx x) = some (kk (key x)) := by rw [hk]; exact k1 _
        simp only [dPutD, hkx, Option.map_some, dPutL]
        rw [if_neg]
        · simp
        · intro hany
          obtain ⟨y, hy, e⟩ := List.any_eq_true.mp hany
          obtain ⟨z, hz, rfl⟩ := List.mem_map.mp hy
          have e := of_decide_eq_true e
          rw [hk, k1] at e
          have := k2 _ _ (Option.some.inj e)
          exact hnot (List.mem_map.mpr ⟨z, hz, this⟩)
      simp only [hput]
      have := ih (done ++ [x]) (fun y hy => h y (List.mem_cons_of_mem _ hy)) (by rw [List.append_assoc]; exact hn)
      rw [this, List.append_assoc]
      rfl
  have := gen xs [] h4 (by simpa using hn)
  simp only [List.map_nil, List.nil_append] at this
  rw [this]
  exact hP
end Mi
namespace Mi
theorem set_range {α : Type} (k : Nat) (F : Nat → α) (x : Nat) (a : α) : ((List.range k).map F).set x a = (List.range k).map fun y => if y = x then a else F y := by
  refine List.ext_getElem (by simp) fun i h1 h2 => ?_
  simp only [List.length_set, List.length_map, List.length_range] at h1
  rw [List.getElem_set]
  simp only [List.getElem_map, List.getElem_range]
  by_cases h : x = i
  · subst h; simp
  · have : ¬ i = x := fun e => h e.symm
    simp [h, this]
end Mi
namespace Mi
open PySem L2
theorem dEq_nilP {ds : List D} (p : plains ds = true) (h : deps ds ≤ 63) : dEq (.lst ds) (.lst []) = some (.bl (decide (ds = []))) := by
  have f1 := fine_lst p h
  have f2 : (D.lst []).fine = true := by simp [D.fine, D.plain, D.dep, plains, deps]
  simp only [dEq, f1, f2, Bool.and_self, if_true]
  cases ds with
  | nil => simp [eqv, D.py, pys, PyData.eqv, PyData.eqvAll]
  | cons d r => simp [eqv, D.py, pys, PyData.eqv, PyData.eqvAll]
theorem nat_plain (n : Nat) : (D.int (n : Nat)).plain = true ∧ (D.int (n : Nat)).dep ≤ 63 := ⟨rfl, by show 0 ≤ 63; omega⟩
theorem dEq_nil_n (xs : List Nat) : dEq (nD xs) (.lst []) = some (.bl (decide (xs = []))) := by
  obtain ⟨a, b⟩ := plains_map (fun n : Nat => D.int (n : Nat)) nat_plain xs
  unfold nD
  rw [dEq_nilP a b]
  simp
theorem eqv_nat {a b : Nat} : eqv (.int (a : Nat)) (.int (b : Nat)) = decide (a = b) := by
  unfold eqv
  simp only [D.py, PyData.eqv]
  rw [Bool.eq_iff_iff]
  simp
  omega
theorem hasD_n (x : Nat) : ∀ xs : List Nat, hasD (.int (x : Nat)) (xs.map fun n => D.int (n : Nat)) = decide (x ∈ xs)
  | [] => by simp [hasD]
  | y :: r => by
    have ih := hasD_n x r
    unfold hasD at ih ⊢
    rw [List.map_cons, List.any_cons, ih, eqv_nat]
    by_cases h : x = y
    · subst h; simp
    · have h' : ¬ y = x := fun e => h e.symm
      simp [h, h']
theorem fine_n (xs : List Nat) : (D.lst (xs.map fun n => D.int (n : Nat))).fine = true ∧ (D.tup (xs.map fun n => D.int (n : Nat))).fine = true := by
  obtain ⟨a, b⟩ := plains_map (fun n : Nat => D.int (n : Nat)) nat_plain xs
  exact ⟨fine_lst a b, fine_tup a b⟩
theorem fine_nat (n : Nat) : (D.int (n : Nat)).fine = true := rfl
theorem dIn_n {x : Nat} {xs : List Nat} : dIn (.int (x : Nat)) (nD xs) = some (.bl (decide (x ∈ xs))) := by simp [dIn, dInB, nD, fine_nat, (fine_n xs).1, hasD_n]
theorem dNotIn_n {x : Nat} {xs : List Nat} : dNotIn (.int (x : Nat)) (nD xs) = some (.bl (!decide (x ∈ xs))) := by simp [dNotIn, dInB, nD, fine_nat, (fine_n xs).1, hasD_n]
theorem dIn_nT {x : Nat} {xs : List Nat} : dIn (.int (x : Nat)) (.tup (xs.map fun n => D.int (n : Nat))) = some (.bl (decide (x ∈ xs))) := by simp [dIn, dInB, fine_nat, (fine_n xs).2, hasD_n]
theorem dNotIn_nT {x : Nat} {xs : List Nat} : dNotIn (.int (x : Nat)) (.tup (xs.map fun n => D.int (n : Nat))) = some (.bl (!decide (x ∈ xs))) := by simp [dNotIn, dInB, fine_nat, (fine_n xs).2, hasD_n]
theorem growsV_nil {b : List Nat} {x : Nat} : ((b.zipIdx.filter fun p => decide (p.1 = x)).map fun p => p.2 + 1) = [] ↔ x ∉ b := by
  rw [List.map_eq_nil_iff, List.filter_eq_nil_iff]
  constructor
  · intro h hm
    obtain ⟨i, hi, e⟩ := List.mem_iff_getElem.mp hm
    exact h (b[i], i) (List.mem_zipIdx_iff_getElem?.mpr (List.getElem?_eq_getElem hi)) (by simp [e])
  · rintro h ⟨y, i⟩ hm hd
    have := List.mem_zipIdx_iff_getElem?.mp hm
    simp only [decide_eq_true_eq] at hd
    subst hd
    exact h (List.mem_of_getElem? this)
end Mi
namespace Mi
open PySem L2
theorem dIndex_n {kept : List Nat} {z : Nat} (h : z ∈ kept) : dIndex (nD kept) [.int (z : Nat)] = some (.int (kept.idxOf z : Nat)) := by
  obtain ⟨a, b⟩ := plains_map (fun n : Nat => D.int (n : Nat)) nat_plain kept
  have hd : ∀ xs : List Nat, deps (xs.map fun n => D.int (n : Nat)) = 0 := by
    intro xs
    induction xs with
    | nil => rfl
    | cons x r ih => simp only [List.map_cons, deps, ih]; rfl
  have hf : ∀ xs : List Nat, z ∈ xs → ((xs.map fun n => D.int (n : Nat)).findIdx? fun w => eqv w (.int (z : Nat))) = some (xs.idxOf z) := by
    intro xs
    induction xs with
    | nil => intro h; cases h
    | cons x r ih =>
      intro h
      rw [List.map_cons, List.findIdx?_cons, eqv_nat, List.idxOf_cons]
      by_cases e : x = z
      · subst e; simp
      · have hr : z ∈ r := by
          rcases List.mem_cons.mp h with h | h
          · exact absurd h.symm e
          · exact h
        have e' : (x == z) = false := by simp [e]
        simp [e, ih hr, e']
  unfold nD dIndex
  simp only [a, hd, hf kept h]
  simp [D.plain]
end Mi

set_option Elab.async false
set_option linter.all false
set_option maxRecDepth 100000
set_option maxHeartbeats 1000000
namespace Mi
open PySem PySem.Spec PyProof.Rows PyProof.V L2
/-! ### dict(pairs): a list of pairs, keys ints or texts -/
def pairKV : D → Option (D × D)
  | .tup [k, v] => some (k, v)
  | _ => none
theorem pairKV_some {d k v : D} (h : pairKV d = some (k, v)) : d = .tup [k, v] := by
  unfold pairKV at h
  split at h
  · cases h; rfl
  · cases h
def dictGo : List D → List D → List D → Option (List D × List D)
  | [], ks, vs => some (ks, vs)
  | d :: r, ks, vs => match pairKV d with
    | some kv => match dPutD false ks vs kv.1 kv.2 with
      | some p => dictGo r p.1 p.2
      | none => none
    | none => none
def mDictP (m : Ev) : Cv := fun env mh => (m env mh).bind fun d mh1 => match d with
  | .lst ds => if ds.length ≤ LIM then (match dictGo ds [] [] with
    | some p => .ok (.od false p.1 p.2) mh1
    | none => .no) else .no
  | _ => .no
section
variable {c : Cn} {X : Cx} {W : WX}
theorem dictGo_ok {am : List Addr} {Hk H : Hp} (le : Le Hk H) : ∀ {ds : List D} {xs : List V} {kvs : List (Key × V)} {vs : List D} {p : List D × List D}, DqAll c am Hk xs ds → (∀ q ∈ kvs, keyOk q.1) → DqAll c am Hk (kvs.map (·.2)) vs → dictGo ds (kvs.map fun q => keyD q.1) vs = some p →
    ∃ (ps : List Addr) (more : List (Key × V)), xs = ps.map V.ref ∧ Paired (fun p kv => SqT c.K H p [kV kv.1, kv.2]) ps more ∧ (∀ q ∈ mergeK kvs more, keyOk q.1) ∧ p.1 = (mergeK kvs more).map (fun q => keyD q.1) ∧ DqAll c am Hk ((mergeK kvs more).map (·.2)) p.2
  | [], xs, kvs, vs, p, q, ok, qv, e => by
    cases q
    cases e
    exact ⟨[], [], rfl, .nil, ok, rfl, qv⟩
  | d :: ds, xs, kvs, vs, p, q, ok, qv, e => by
    cases q with | cons q1 qs =>
    unfold dictGo at e
    cases hkv : pairKV d with
    | none => rw [hkv] at e; cases e
    | some kv =>
      obtain ⟨k, v⟩ := kv
      rw [hkv] at e
      have hd := pairKV_some hkv
      subst hd
      cases q1 with | tup s1 q2 =>
      cases q2 with | cons qk q2 =>
      cases q2 with | cons qv' q2 =>
      cases q2
      simp only [dPutD] at e
      cases hk : keyOf k with
      | none => rw [hk] at e; cases e
      | some kk =>
        rw [hk] at e
        simp only [Option.map_some] at e
        obtain ⟨ek, okk, ed⟩ := keyOf_q qk hk
        obtain ⟨p1, p2⟩ := putL_ok (f := keyOf) (g := keyD) keyOf_keyD (k := kk) qv' qv
        subst ed
        rw [p1] at e
        rename_i xk xv
        obtain ⟨ps, more, e1, e2, e3, e4, e5⟩ := dictGo_ok le qs (fun q hq => by
          rcases mem_putK hq with h | ⟨q', hq', h⟩
          · rw [h]; exact okk
          · rw [← h]; exact ok q' hq') p2 e
        subst ek
        exact ⟨_ :: ps, (kk, _) :: more, by rw [List.map_cons, e1], .cons (.of (le _ _ s1)) e2, e3, e4, e5⟩
theorem sc_dictP {x : Str} {e : Expr} {m : Ev} {p pos : Pos} (hx : x = "dict") (hK : X.K = c.K) (hcalm : X.calm = true) (hm : X.mg x = none) (hv : bootBuiltins x = some (.type "dict")) (he : SE c W X e m) (hg : Gl X x := by rfl) (hn : x ≠ "__name__" := by decide) (hdb : (x == ("__debug__" : Str)) = false := by decide)
    (hst : starEach [e] X.env = (false, eval e X.env) :: starEach [] X.env := by rfl) (hpl : (backTo pos (starEach [] X.env)).any (·.1) = false := by rfl) : SC c W X (.Call (.Name x p) [e] [] pos) (mDictP m) := by
  obtain ⟨t, pe, k⟩ := he
  refine ⟨_, pe_callTy (call_dictP hcalm) hg hm hv (pa_cons pe pa_nil hst) hn hdb hst hpl, fun F am Hk H σ env mh Q R h => ?_⟩
  refine k F am Hk H σ env mh _ R (CP.step h fun d mh1 er v am1 Hk1 H1 g1 e1 R1 q1 h1 => ?_)
  cases d <;> first | exact h1.elim | skip
  rename_i ds
  simp only at h1
  by_cases hl : ds.length ≤ LIM
  case neg => rw [if_neg hl] at h1; exact h1.elim
  rw [if_pos hl] at h1
  cases hgo : dictGo ds [] [] with
  | none => rw [hgo] at h1; exact h1.elim
  | some pr =>
    rw [hgo] at h1
    cases q1 with | lst s1 qs =>
    obtain ⟨ps, more, e1', e2, e3, e4, e5⟩ := dictGo_ok R1.known (kvs := []) (vs := []) qs (fun _ h => nomatch h) .nil hgo
    subst e1'
    refine ⟨_, ps, more, rfl, by rw [hK]; exact .of (R1.known _ _ s1), by rw [hK]; exact e2, fun a ha => ?_⟩
    refine h1 (.ref a) _ am1 Hk1 _ (Go.refl _) (Le.refl _) (R1.stash ha) ⟨a, rfl, R1.f_none ha, .inl ⟨rfl, mergeK [] more, rfl, e3, e4, e5⟩⟩
end
end Mi

set_option Elab.async false
set_option linter.all false
set_option maxRecDepth 100000
set_option maxHeartbeats 1000000
namespace Mi
open PySem PySem.Spec PyProof.Rows PyProof.V L2
/-! ### tuples that are known to have no dict of their own -/
section
variable {c : Cn} {X : Cx} {W : WX}
/-- tuple(xs): a new tuple, known -/
def rTupN (K : PySem.W.Frag) : List V → Hp → VK → Prop := fun xs H Q => ∃ p ys, xs = [.ref p] ∧ SqL K H p ys ∧ ∀ (l : Addr) (o : Obj), H l = none → o.dict = none → Q (.ref l) (upd H l (.frz o (.tup ys)))
theorem call_tupN : CallR X (.type "tuple") (rTupN X.K) := by
  intro pins s σ H xs us Q I r h
  obtain ⟨p, ys, rfl, hq, q⟩ := h
  obtain ⟨u, rfl, rx⟩ := vals1 r
  cases rx
  obtain ⟨its, r', pl, hz⟩ := I.list hq
  have hlen := r'.length
  refine call_tuple_list pl.isList (fun h' kp => ?_) (by simp only [List.size_toArray] <;> omega)
  have I1 : Inv X pins σ H { s with heap := h' } := I.kept (t' := s.toks) kp
  have I2 : Inv X pins σ (upd H h'.objs.size (.frz { cls := .type "tuple", data := .seq its.toArray } (.tup ys))) { s with heap := h'.push { cls := .type "tuple", data := .seq its.toArray } } :=
    I1.laid (t' := s.toks) (fun b o e => Heap.get?_push_of_some _ e) (Nat.le_refl _) (show ObjOk X.prog X.w _ _ _ (.frz _ (.tup ys)) from ⟨Heap.get?_push_size _ rfl, hz, its, r', IsTup.new _ _⟩)
  exact ⟨.ref h'.objs.size, _, I2, rfl, q _ _ (I1.hok.fresh (Nat.le_refl _)) rfl⟩
def dTupN : D → Option D
  | .lst ds => some (.ktup ds)
  | _ => none
theorem r_tupN : RAOk c (rTupN c.K) (fOne dTupN) := ra_one (by
  intro F am Hk H σ env mh x dx d Q R qx e h
  cases dx <;> first | (cases e; done) | skip
  cases qx with | lst s1 qs =>
  cases e
  refine ⟨_, _, rfl, .of (R.known _ _ s1), fun l o hl ho => ?_⟩
  exact h _ _ _ (Le.new (R.hk_none hl)) (R.alloc hl) (.ktup (.inl ⟨o, upd_same, ho⟩) (qs.up (Go.refl _) (Le.new (R.hk_none hl)))))
/-- the value is such a tuple -/
theorem seqN_is {pins : List (Addr × Obj)} {σ : L2.St} {H : Hp} {s : Shared} {p : Addr} {xs : List V} (I : Inv X pins σ H s) (h : SqN X.K H p xs) :
    s.TypeIs (.ref p) "tuple" ∧ ∃ ob, s.heap.get? p = some ob ∧ ob.dict = none := by
  obtain ⟨its, _, pl, _⟩ := I.tuple h.t
  obtain ⟨o', ho', hc', n', hd'⟩ := pl
  refine ⟨⟨o', ho', hc'⟩, ?_⟩
  rcases h with ⟨o, h, hn⟩ | ⟨o, its', n, h1, _, _, _, _, hn⟩
  · exact ⟨o, (show s.heap.get? p = some o ∧ _ from I.hok p _ h).1, hn⟩
  · exact ⟨o, I.kIn p o h1, hn⟩
/-- a method of such a tuple -/
def tBMT (K : PySem.W.Frag) (r : V → List V → Hp → VK → Prop) (to : TE) (t : TA) : TE := fun σ H Q => to σ H fun x H1 => (∃ p xs, x = .ref p ∧ SqN K H1 p xs) ∧ t σ H1 fun xs H2 => r x xs H2 Q
theorem pe_bmT {o e : Expr} {es : List Expr} {to : TE} {t : TA} {name : Str} {apos cpos : Pos} {id : String} {r : V → List V → Hp → VK → Prop} (slot : Slot "tuple" name id) (hty : typeOf (.builtin id) = pure (.type "method_descriptor")) (hm : MtR X id r) (ho : PE X o to) (ha : PA X (e :: es) t)
    (hbase : attributeBase o name X.env (eval o X.env) = eval o X.env := by rfl)
    (hfew : ((backTo cpos (starEach (e :: es) X.env)).all (fun x => !x.1) && (backToKw cpos (keywordEach [] X.env)).all (fun x => x.1.isSome)
      && decide ((e :: es).length + ([] : List Keyword).length + (if ([] : List Keyword).isEmpty then 0 else 1) < 30)) = true := by rfl)
    (hline : (apos.endLine == cpos.line) = true := by rfl) (hs : starEach (e :: es) X.env = (false, eval e X.env) :: starEach es X.env := by rfl) (hplain : (backTo cpos (starEach es X.env)).any (·.1) = false := by rfl) :
    PE X (.Call (.Attribute o name apos) (e :: es) [] cpos) (tBMT X.K r to t) := by
  refine ⟨fun pins s σ H Q I h => ?_⟩
  refine wpAny_Call_method_late hbase hfew hline rfl (thn (ho.run pins s σ H _ I h) fun v s1 ⟨x, H1, I1, r1, ty, q1⟩ => ?_)
  obtain ⟨p, ys, rfl, hN⟩ := ty
  obtain ⟨h1, ob, h2, h3⟩ := seqN_is I1 hN
  cases (show v = Value.ref p from r1)
  refine ⟨"tuple", id, PySem.F.plainAttrs_tuple, slot, hty, h1, fun a ea => by cases ea; exact ⟨ob, h2, h3⟩, ?_⟩
  have hA := ha.run cpos pins s1 σ H1 _ I1 q1
  rw [hs] at hA ⊢
  refine Calls.callWith_builtin (by show (false || (backTo cpos (starEach es X.env)).any (·.1)) = false; rw [hplain] <;> rfl) (Calls.evalArgs_plain ?_)
  exact thn hA fun us s2 ⟨vs, H2, I2, r2, q2⟩ => hm pins s2 σ H2 _ vs _ us Q I2 r1 r2 q2
def D.isK : D → Bool
  | .ktup _ => true
  | _ => false
theorem se_methT {name : Str} {id : String} {r : V → List V → Hp → VK → Prop} {f : D → List D → Option D} {o e : Expr} {es : List Expr} {mo : Ev} {ms : Av} {apos cpos : Pos} (hK : X.K = c.K)
    (slot : PySem.Slot "tuple" name id) (hty : typeOf (.builtin id) = pure (.type "method_descriptor")) (hm : MtR X id r) (hr : RMOk c "tuple" r f)
    (ho : SE c W X o mo) (ha : SA c W X (e :: es) ms)
    (hbase : attributeBase o name X.env (eval o X.env) = eval o X.env := by rfl)
    (hfew : ((backTo cpos (starEach (e :: es) X.env)).all (fun x => !x.1) && (backToKw cpos (keywordEach [] X.env)).all (fun x => x.1.isSome)
      && decide ((e :: es).length + ([] : List Keyword).length + (if ([] : List Keyword).isEmpty then 0 else 1) < 30)) = true := by rfl)
    (hline : (apos.endLine == cpos.line) = true := by rfl) (hs : starEach (e :: es) X.env = (false, eval e X.env) :: starEach es X.env := by rfl) (hplain : (backTo cpos (starEach es X.env)).any (·.1) = false := by rfl) :
    SE c W X (.Call (.Attribute o name apos) (e :: es) [] cpos) (mMeth D.isK f mo ms) := by
  obtain ⟨to, po, ko⟩ := ho
  obtain ⟨ta, pa', ka⟩ := ha
  refine ⟨_, pe_bmT slot hty hm po pa' hbase hfew hline hs hplain, ?_⟩
  intro F am Hk H σ env mh Q R h
  refine ko F am Hk H σ env mh _ R (GP.step h fun dx mh1 er x am1 Hk1 H1 g1 e1 R1 q1 h1 => ?_)
  by_cases hc : dx.isK = true
  · rw [if_pos hc] at h1
    refine ⟨?_, ?_⟩
    · rw [hK]
      cases dx <;> first | (cases hc; done) | skip
      cases q1 with | ktup s1 qs =>
      exact ⟨_, _, rfl, R1.known.seqN s1⟩
    · refine ka F am1 Hk1 H1 σ env mh1 _ R1 (GP.step h1 fun ds mh2 er2 vs am2 Hk2 H2 g2 e2 R2 q2 h2 => ?_)
      obtain ⟨w, ew, hw⟩ := lift_ok h2
      exact hr F am2 Hk2 H2 σ env mh2 x vs dx ds w Q R2 (q1.up g2 e2) q2 ew fun v' Hk' H' le R' q' => hw v' am2 Hk' H' (Go.refl _) le R' q'
  · rw [if_neg hc] at h1; exact h1.elim
def rCntT (K : PySem.W.Frag) : V → List V → Hp → VK → Prop := fun x xs H Q => ∃ (a : Addr) (y : V) (d : PyData) (ds : List PyData), x = V.ref a ∧ xs = [y] ∧ Dp K H (V.ref a) (.tuple ds) ∧ Dp K H y d ∧ PyData.canLayAll0 ds = true ∧ d.canLay0 = true ∧ PyData.depthAll ds ≤ 60 ∧ Q (.int (ds.countP (fun z => PyData.eqv z d) : Nat)) H
theorem mt_cntT (hu : X.A.units + 64 < cLine) : MtR X "tuple.count" (rCntT X.K) := by
  intro pins s σ H x xs v us Q I rx rxs h
  obtain ⟨a, y, d, ds, rfl, rfl, hl, hy, sl, sd, hdp, q⟩ := h
  cases rx
  cases rxs with
  | cons ry rt =>
    rename_i uy ut
    cases rt
    obtain ⟨bs, r1⟩ := Dp.reads I d y uy hy ry
    cases hl with
    | tup hs ha =>
      obtain ⟨its, rv, ⟨⟨cls, dd, data, sls⟩, ho, hc, n, hdt⟩, hlen⟩ := I.tuple hs
      simp only at hc hdt
      subst hc hdt
      obtain ⟨as, h4⟩ := Dp.readsAll I ds _ its ha rv
      have hmap : its.map (SeqAt.readOf s.heap) = ds := SeqAt.readsAll_map ds its as sl h4
      refine call_meets PySem.F.slot_tuple_count ⟨_, ho, rfl⟩ PySem.F.entry_tuple_count (PySem.F.args_tuple_count_2 _ _)
        (SeqAt.tuple_countAt a its.toArray n dd sls uy (fun u => PyData.eqv (SeqAt.readOf s.heap u) d)) ⟨ho, SeqAt.items_eqAt (vs := its.toArray) (show ReadsAll s.heap its.toArray.toList ds as from h4) r1 sl sd (by omega), ?_⟩
      have ec : its.toArray.toList.countP (fun u => PyData.eqv (SeqAt.readOf s.heap u) d) = ds.countP (fun z => PyData.eqv z d) := by
        rw [← hmap, List.countP_map]
        rfl
      refine ⟨.int (ds.countP (fun z => PyData.eqv z d) : Nat), H, I.tok _, ⟨s.toks, ?_⟩, q⟩
      show Value.int ((its.toArray.toList.countP _ : Nat) : Int) s.toks = Value.int _ s.toks
      rw [ec]
def dCountT (o : D) (ds : List D) : Option D := match o, ds with
  | .ktup es, [d] => if plains es && decide (deps es ≤ 60) && d.plain then some (.int (es.countP (fun z => eqv z d) : Nat)) else none
  | _, _ => none
theorem r_cntT : RMOk c "tuple" (rCntT c.K) dCountT := by
  intro F am Hk H σ env mh x vs dx ds d Q R qx qs e h
  cases dx <;> first | (cases e; done) | skip
  rename_i es
  cases ds with
  | nil => cases e
  | cons d1 r =>
    cases r with
    | cons _ _ => cases e
    | nil =>
      simp only [dCountT] at e
      split at e
      · rename_i hb
        cases e
        rw [Bool.and_eq_true, Bool.and_eq_true] at hb
        obtain ⟨⟨p1, p2⟩, p3⟩ := hb
        cases qs with | cons q1 qs =>
        cases qs
        cases qx with | ktup s1 q2 =>
        obtain ⟨k1, k2, k3⟩ := DqAll.dp es _ p1 (q2.up (Go.refl _) R.known)
        obtain ⟨j1, j2, j3⟩ := Dq.dp d1 _ p3 (q1.up (Go.refl _) R.known)
        refine ⟨_, _, d1.py, pys es, rfl, rfl, .tup (R.known.seqT s1.t) k1, j1, k2, j2, by rw [k3]; exact of_decide_eq_true p2, ?_⟩
        rw [countP_pys]
        exact h _ Hk H (Le.refl _) R (.int _)
      · cases e
end
end Mi

set_option Elab.async false
set_option linter.all false
set_option maxRecDepth 100000
set_option maxHeartbeats 1000000
namespace Mi
open PySem PySem.Spec PyProof.Rows PyProof.V L2
/-! ### dict(pairs): of a list or of a known tuple; keys ints, texts, or tuples of them -/
section
variable {X : Cx}
theorem pairs2 {pins : List (Addr × Obj)} {σ : L2.St} {H : Hp} {s : Shared} (I : Inv X pins σ H s) : ∀ {ps : List Addr} {kvs : List (V × V)}, Paired (fun p kv => SqT X.K H p [kv.1, kv.2]) ps kvs →
    ∃ vws : List (Value × Value), vws.length = ps.length ∧ VV kvs vws ∧ ∀ (j : Nat) (k v : Value), vws[j]? = some (k, v) → ∃ b, ps[j]? = some b ∧ IsTup s.heap b #[k, v]
  | _, _, .nil => ⟨[], rfl, .nil, fun j k v e => by simp at e⟩
  | _, _, .cons (a := p) (b := kv) h t => by
    obtain ⟨vws, hl, r, hp⟩ := pairs2 I t
    obtain ⟨its, rv, ht, _⟩ := I.tuple h
    obtain ⟨u, y, ei, ru, ry⟩ := vals2 rv
    subst ei
    refine ⟨(u, y) :: vws, by rw [List.length_cons, List.length_cons, hl], .cons ⟨ru, ry⟩ r, fun j k v e => ?_⟩
    cases j with
    | zero =>
      have e' : (u, y) = (k, v) := Option.some.inj e
      cases e'
      exact ⟨p, rfl, ht⟩
    | succ j =>
      obtain ⟨b, e1, e2⟩ := hp j k v (by simpa using e)
      exact ⟨b, by simpa using e1, e2⟩
theorem carries_at {P : Program} {w : World} : ∀ {vws : List (Value × Value)} {rs : List (Key × Value)}, Carries (mixKind P w) vws rs → ∀ (i : Nat) (key v : Value), vws[i]? = some (key, v) → ∃ k, rs[i]? = some (k, v) ∧ (mixKind P w).is k key = true
  | [], [], _, i, key, v, e => by simp at e
  | (key0, v0) :: vws, (k0, v1) :: rs, h, i, key, v, e => by
    obtain ⟨h1, h2, h3⟩ := h
    cases i with
    | zero =>
      have e' : (key0, v0) = (key, v) := Option.some.inj e
      cases e'
      subst h2
      exact ⟨k0, rfl, h1⟩
    | succ i =>
      obtain ⟨k, a, b⟩ := carries_at h3 i key v (by simpa using e)
      exact ⟨k, by simpa using a, b⟩
  | [], _ :: _, h, _, _, _, _ => h.elim
  | (_, _) :: _, [], h, _, _, _, _ => h.elim
theorem pair_items {h : Heap} {ps : List Addr} {vws : List (Value × Value)} (hl : vws.length = ps.length) (hp : ∀ (j : Nat) (k v : Value), vws[j]? = some (k, v) → ∃ b, ps[j]? = some b ∧ IsTup h b #[k, v]) :
    PairItems h (ps.map Value.ref).toArray (fun j => ps.getD j 0) vws := by
  refine ⟨by simp [hl], fun j k v e => ?_⟩
  obtain ⟨b, e1, e2⟩ := hp j k v e
  refine ⟨?_, ?_⟩
  · simp only [List.getElem?_toArray, List.getElem?_map, e1, Option.map_some, List.getD_eq_getElem?_getD, Option.getD_some]
  · simp only [List.getD_eq_getElem?_getD, e1, Option.getD_some]
    exact .inl e2
/-- what both sources give: how dict(a) runs -/
theorem dict_src {pins : List (Addr × Obj)} {σ : L2.St} {H : Hp} {s : Shared} (I : Inv X pins σ H s) {a : Addr} {ps : List Addr} {vws : List (Value × Value)} (hq : SqL X.K H a (ps.map V.ref) ∨ SqN X.K H a (ps.map V.ref)) (hl : vws.length = ps.length)
    (hp : ∀ (j : Nat) (k v : Value), vws[j]? = some (k, v) → ∃ b, ps[j]? = some b ∧ IsTup s.heap b #[k, v]) : ps.length ≤ sizeLine ∧
    ∃ (T : String) (fp : List Addr) (OK : Heap → Prop), PairArg X.prog X.w T a fp [] vws.length (PairRel vws) OK ∧ OK s.heap := by
  rcases hq with hq | hq
  · obtain ⟨its, rv, pl, hz⟩ := I.list hq
    have ei := refs_at rv
    subst ei
    rw [List.length_map] at hz
    obtain ⟨o, n, ho, hc, hd, hdat⟩ := pl
    exact ⟨hz, _, _, _, PairArg.list a (ps.map Value.ref).toArray (fun j => ps.getD j 0) vws, ⟨o, n, ho, hc, hd, hdat⟩, pair_items hl hp⟩
  · obtain ⟨h1, ob, h2, h3⟩ := seqN_is I hq
    obtain ⟨its, rv, ⟨o, ho, hc, n, hdat⟩, hz⟩ := I.tuple hq.t
    have ei := refs_at rv
    subst ei
    rw [List.length_map] at hz
    rw [h2] at ho
    cases ho
    exact ⟨hz, _, _, _, PairArg.tuple a (ps.map Value.ref).toArray (fun j => ps.getD j 0) vws, ⟨ob, n, h2, hc, h3, hdat⟩, pair_items hl hp⟩
theorem paired_map {α β γ : Type} {F : α → γ → Prop} {G : α → β → Prop} (g : β → γ) (h : ∀ a b, G a b → F a (g b)) : ∀ {l : List α} {m : List β}, Paired G l m → Paired F l (m.map g)
  | _, _, .nil => .nil
  | _, _, .cons r t => .cons (h _ _ r) (paired_map g h t)
def rDictK (K : PySem.W.Frag) : List V → Hp → VK → Prop := fun xs H Q => ∃ (a : Addr) (ps : List Addr) (kvs : List (Key × V)), xs = [.ref a] ∧ (SqL K H a (ps.map V.ref) ∨ SqN K H a (ps.map V.ref)) ∧ Paired (fun p kv => SqT K H p [kV kv.1, kv.2]) ps kvs ∧
  ∀ p, H p = none → Q (.ref p) (upd H p (.dK (mergeK [] kvs)))
theorem call_dictK (hcalm : X.calm = true) : CallR X (.type "dict") (rDictK X.K) := by
  intro pins s σ H xs us Q I r q
  obtain ⟨a, ps, kvs, ex, hq, hp, q⟩ := q
  subst ex
  obtain ⟨u, eu, rx⟩ := vals1 r
  subst eu
  cases rx
  obtain ⟨vws, hl, rel, hpr⟩ := pairs2 I (paired_map (F := fun p (kv : V × V) => SqT X.K H p [kv.1, kv.2]) (fun kv : Key × V => (kV kv.1, kv.2)) (fun _ _ h => h) hp)
  obtain ⟨rs, hcar, rel2⟩ := carries_of (P := X.prog) (w := X.w) rel
  obtain ⟨hz, T, fp, OK, PA, ok⟩ := dict_src I hq hl hpr
  have hlr : rs.length = vws.length := hcar.length
  refine PySem.call_dict_pairs (knd := mixKind X.prog X.w) (kvs := rs) PA (I.ok.hd hcalm) ok ⟨hlr, carries_at hcar⟩ (by rw [hl]; exact hz) fun h' tk hd' k => ?_
  have hm : (s.heap.objs.size == sysModules) = false := beq_eq_false_iff_ne.mpr (Nat.ne_of_gt I.big)
  have hlen : (mergeK [] kvs).length ≤ sizeLine := by
    refine Nat.le_trans (length_mergeK kvs []) ?_
    rw [List.length_nil, Nat.zero_add, rel2.length, hlr, hl]
    exact hz
  exact ⟨.ref s.heap.objs.size, upd H s.heap.objs.size (.dK (mergeK [] kvs)), I.laid (t' := tk) (fun b o e => k b o (fun h => nomatch h) e) (Nat.le_refl _) (show ObjOk X.prog X.w _ _ _ (.dK (mergeK [] kvs)) from ⟨hlen, hm, merged [] rs, KV.merge rel2 .nil, hd'⟩), rfl, q _ (I.hok.fresh (Nat.le_refl _))⟩
/-! keys that are tuples -/
def mergeT (kvs more : List (List Key × V)) : List (List Key × V) := more.foldl (fun acc kv => putK acc kv.1 kv.2) kvs
theorem length_mergeT : ∀ (more kvs : List (List Key × V)), (mergeT kvs more).length ≤ kvs.length + more.length
  | [], kvs => Nat.le_refl _
  | p :: r, kvs => by
    have h1 := length_mergeT r (putK kvs p.1 p.2)
    have h2 := length_putK kvs p.1 p.2
    show (mergeT (putK kvs p.1 p.2) r).length ≤ _
    rw [List.length_cons]
    omega
theorem KT.mergeT {H : Hp} : ∀ {more : List (List Key × V)} {rs : List (List Key × Addr × Value)} {kvs : List (List Key × V)} {xs : List (List Key × Addr × Value)}, KT H more rs → KT H kvs xs → KT H (Mi.mergeT kvs more) (storedAllH xs rs)
  | _, _, kvs, xs, .nil, h => h
  | _, _, kvs, xs, .cons (a := p) (b := q) r t, h => by
    obtain ⟨e1, e2, e3⟩ := r
    have h2 := h.put p.1 e2 e3
    have ih := KT.mergeT t h2
    rw [show storedAllH xs (q :: _) = storedAllH (storedH xs q.1 q.2.1 q.2.2) _ from rfl, ← e1]
    exact ih
theorem keysT {H : Hp} : ∀ {ps : List Addr} {kvs : List (List Key × V)}, Paired (fun p kv => ∃ b, SqT X.K H p [.ref b, kv.2] ∧ H b = some (.tup (kv.1.map kV))) ps kvs →
    ∃ bs : List Addr, Paired (fun p (bk : Addr × (List Key × V)) => SqT X.K H p [.ref bk.1, bk.2.2] ∧ H bk.1 = some (.tup (bk.2.1.map kV))) ps (bs.zip kvs) ∧ bs.length = kvs.length
  | _, _, .nil => ⟨[], .nil, rfl⟩
  | _, _, .cons ⟨b, h1, h2⟩ t => by
    obtain ⟨bs, h3, h4⟩ := keysT t
    exact ⟨b :: bs, .cons ⟨h1, h2⟩ h3, by rw [List.length_cons, List.length_cons, h4]⟩
theorem kt_of {H : Hp} : ∀ {ps : List Addr} {bk : List (Addr × (List Key × V))} {vws : List (Value × Value)}, Paired (fun p (bk : Addr × (List Key × V)) => SqT X.K H p [.ref bk.1, bk.2.2] ∧ H bk.1 = some (.tup (bk.2.1.map kV))) ps bk → VV (bk.map fun z => (V.ref z.1, z.2.2)) vws →
    ∃ rs : List (List Key × Addr × Value), KT H (bk.map (·.2)) rs ∧ rs.length = vws.length ∧ (∀ (i : Nat) (key v : Value), vws[i]? = some (key, v) → ∃ k b, rs[i]? = some (k, b, v) ∧ key = .ref b) ∧ ∀ x ∈ rs, H x.2.1 = some (.tup (x.1.map kV))
  | _, _, _, .nil, .nil => ⟨[], .nil, rfl, fun i key v e => by simp at e, fun x hx => nomatch hx⟩
  | _, _, _, .cons (b := z) h t, .cons (b := q) r rt => by
    obtain ⟨rs, h1, h2, h3, h4⟩ := kt_of t rt
    obtain ⟨r1, r2⟩ := r
    obtain ⟨qk, qv⟩ := q
    cases (show qk = Value.ref z.1 from r1)
    refine ⟨(z.2.1, z.1, qv) :: rs, .cons ⟨rfl, h.2, r2⟩ h1, by rw [List.length_cons, List.length_cons, h2], fun i key v e => ?_, fun x hx => ?_⟩
    · cases i with
      | zero =>
        have e' := Option.some.inj e
        cases e'
        exact ⟨_, _, rfl, rfl⟩
      | succ i =>
        obtain ⟨k, b, e1, e2⟩ := h3 i key v (by simpa using e)
        exact ⟨k, b, by simpa using e1, e2⟩
    · rcases List.mem_cons.mp hx with rfl | hx
      · exact h.2
      · exact h4 x hx
theorem zip_snd : ∀ {α β : Type} (as : List α) (bs : List β), as.length = bs.length → (as.zip bs).map (·.2) = bs
  | _, _, [], [], _ => rfl
  | _, _, a :: as, b :: bs, h => by simp [zip_snd as bs (by simpa using h)]
  | _, _, [], _ :: _, h => by cases h
  | _, _, _ :: _, [], h => by cases h
def rDictT (K : PySem.W.Frag) : List V → Hp → VK → Prop := fun xs H Q => ∃ (a : Addr) (ps : List Addr) (kvs : List (List Key × V)), xs = [.ref a] ∧ (SqL K H a (ps.map V.ref) ∨ SqN K H a (ps.map V.ref)) ∧ Paired (fun p kv => ∃ b, SqT K H p [.ref b, kv.2] ∧ H b = some (.tup (kv.1.map kV))) ps kvs ∧
  ∀ p, H p = none → Q (.ref p) (upd H p (.dT (mergeT [] kvs)))
theorem call_dictT (hcalm : X.calm = true) (hu : X.A.units + 64 < cLine) : CallR X (.type "dict") (rDictT X.K) := by
  intro pins s σ H xs us Q I r q
  obtain ⟨a, ps, kvs, ex, hq, hp, q⟩ := q
  subst ex
  obtain ⟨u, eu, rx⟩ := vals1 r
  subst eu
  cases rx
  obtain ⟨bs, hp2, hbl⟩ := keysT hp
  obtain ⟨vws, hl, rel, hpr⟩ := pairs2 I (paired_map (F := fun p (kv : V × V) => SqT X.K H p [kv.1, kv.2]) (fun z : Addr × (List Key × V) => (V.ref z.1, z.2.2)) (fun _ _ h => h.1) hp2)
  obtain ⟨rs, kt, hrl, hrel, hkeys⟩ := kt_of hp2 rel
  rw [zip_snd bs kvs hbl] at kt
  obtain ⟨hz, T, fp, OK, PA, ok⟩ := dict_src I hq hl hpr
  have stay : ∀ h' : Heap, (∀ b o, s.heap.get? b = some o → h'.get? b = some o) → ∀ x ∈ rs, (tupleKind (mixKind X.prog X.w)).is h' x.1 x.2.1 := fun h' k x hx => by
    obtain ⟨o, its, n, h1, h2, h3, h4⟩ := key_of I.hok (hkeys x hx)
    exact ⟨o, its, n, k _ _ h1, h2, h3, h4⟩
  refine PySem.call_dict_pairsH (knd := tupleKind (mixKind X.prog X.w)) (ps := rs) PA (I.ok.hd hcalm) (show X.A.units + 1 + 1 < cLine by omega) ok ⟨hrl, fun i key v e => hrel i key v e⟩ (fun h' k => stay h' fun b o e => k b o (Nat.ne_of_lt (Heap.lt_size e)) (fun h => nomatch h) e) (by rw [hl]; exact hz) fun h' tk hd' k => ?_
  have hm : (s.heap.objs.size == sysModules) = false := beq_eq_false_iff_ne.mpr (Nat.ne_of_gt I.big)
  have hlen : (mergeT [] kvs).length ≤ sizeLine := by
    refine Nat.le_trans (length_mergeT kvs []) ?_
    rw [List.length_nil, Nat.zero_add, Paired.length kt, hrl, hl]
    exact hz
  obtain ⟨o, es, ep, d1, d2, d3, d4, _, d6⟩ := hd'
  refine ⟨.ref s.heap.objs.size, upd H s.heap.objs.size (.dT (mergeT [] kvs)), I.laid (t' := tk) (fun b o e => k b o (fun h => nomatch h) e) (Nat.le_refl _) (show ObjOk X.prog X.w _ _ _ (.dT (mergeT [] kvs)) from ⟨hlen, hm, storedAllH [] rs, ?_, o, es, ep, d1, d2, d3, d4, d6⟩), rfl, q _ (I.hok.fresh (Nat.le_refl _))⟩
  have z := KT.mergeT kt (kvs := []) (xs := []) .nil
  exact z.keeps fun b ys eb => by rw [upd_ne (ne_of_none eb (I.hok.fresh (Nat.le_refl _)))]; exact eb
end
end Mi

set_option Elab.async false
set_option linter.all false
set_option maxRecDepth 100000
set_option maxHeartbeats 1000000
namespace Mi
open PySem PySem.Spec PyProof.Rows PyProof.V L2
/-! ### dict(pairs) as a value -/
def dictGoT (t : Bool) : List D → List D → List D → Option (List D × List D)
  | [], ks, vs => some (ks, vs)
  | d :: r, ks, vs => match pairKV d with
    | some kv => match dPutD t ks vs kv.1 kv.2 with
      | some p => dictGoT t r p.1 p.2
      | none => none
    | none => none
theorem dictGo_eq : ∀ (ds ks vs : List D), dictGo ds ks vs = dictGoT false ds ks vs
  | [], _, _ => rfl
  | d :: r, ks, vs => by
    unfold dictGo dictGoT
    cases pairKV d with
    | none => rfl
    | some kv =>
      simp only
      cases dPutD false ks vs kv.1 kv.2 with
      | none => rfl
      | some p => exact dictGo_eq r _ _
def pairsOf : D → Option (List D)
  | .lst ds => some ds
  | .ktup ds => some ds
  | _ => none
def mDictG (t : Bool) (m : Ev) : Cv := fun env mh => (m env mh).bind fun d mh1 => match pairsOf d with
  | some ds => if ds.length ≤ LIM then (match dictGoT t ds [] [] with
    | some p => .ok (.od t p.1 p.2) mh1
    | none => .no) else .no
  | none => .no
section
variable {c : Cn} {X : Cx} {W : WX}
theorem dictT_ok {am : List Addr} {Hk H : Hp} (le : Le Hk H) : ∀ {ds : List D} {xs : List V} {kvs : List (List Key × V)} {vs : List D} {p : List D × List D}, DqAll c am Hk xs ds → (∀ q ∈ kvs, ∀ k ∈ q.1, keyOk k) → DqAll c am Hk (kvs.map (·.2)) vs → dictGoT true ds (kvs.map fun q => .tup (q.1.map keyD)) vs = some p →
    ∃ (ps : List Addr) (more : List (List Key × V)), xs = ps.map V.ref ∧ Paired (fun p kv => ∃ b, SqT c.K H p [.ref b, kv.2] ∧ H b = some (.tup (kv.1.map kV))) ps more ∧ (∀ q ∈ mergeT kvs more, ∀ k ∈ q.1, keyOk k) ∧ p.1 = (mergeT kvs more).map (fun q => .tup (q.1.map keyD)) ∧ DqAll c am Hk ((mergeT kvs more).map (·.2)) p.2
  | [], xs, kvs, vs, p, q, ok, qv, e => by
    cases q
    cases e
    exact ⟨[], [], rfl, .nil, ok, rfl, qv⟩
  | d :: ds, xs, kvs, vs, p, q, ok, qv, e => by
    cases q with | cons q1 qs =>
    unfold dictGoT at e
    cases hkv : pairKV d with
    | none => rw [hkv] at e; cases e
    | some kv =>
      obtain ⟨k, v⟩ := kv
      rw [hkv] at e
      have hd := pairKV_some hkv
      subst hd
      cases q1 with | tup s1 q2 =>
      cases q2 with | cons qk q2 =>
      cases q2 with | cons qv' q2 =>
      cases q2
      simp only [dPutD] at e
      cases hk : keyT k with
      | none => rw [hk] at e; cases e
      | some kk =>
        rw [hk] at e
        simp only [Option.map_some] at e
        cases k <;> first | (cases hk; done) | skip
        rename_i es
        cases qk with | tup sk qk =>
        obtain ⟨ek, okk, ed⟩ := keysOf_q qk hk
        subst ed ek
        obtain ⟨p1, p2⟩ := putL_ok (f := keyT) (g := fun k : List Key => D.tup (k.map keyD)) keyT_tup (k := kk) qv' qv
        rw [p1] at e
        obtain ⟨ps, more, e1, e2, e3, e4, e5⟩ := dictT_ok le qs (fun q hq => by
          rcases mem_putK hq with h | ⟨q', hq', h⟩
          · rw [h]; exact okk
          · rw [← h]; exact ok q' hq') p2 e
        exact ⟨_ :: ps, (kk, _) :: more, by rw [List.map_cons, e1], .cons ⟨_, .of (le _ _ s1), le _ _ sk⟩ e2, e3, e4, e5⟩
theorem src_of {am : List Addr} {Hk H : Hp} {v : V} {d : D} {ds : List D} (q : Dq c am Hk v d) (le : Le Hk H) (h : pairsOf d = some ds) : ∃ a xs, v = .ref a ∧ (SqL c.K H a xs ∨ SqN c.K H a xs) ∧ DqAll c am Hk xs ds := by
  cases d <;> first | (cases h; done) | skip
  · cases h
    cases q with | ktup s1 qs =>
    exact ⟨_, _, rfl, .inr (le.seqN s1), qs⟩
  · cases h
    cases q with | lst s1 qs =>
    exact ⟨_, _, rfl, .inl (.of (le _ _ s1)), qs⟩
theorem sc_dictG {t : Bool} {x : Str} {e : Expr} {m : Ev} {p pos : Pos} (hx : x = "dict") (hK : X.K = c.K) (hcalm : X.calm = true) (hu : X.A.units + 64 < cLine) (hm : X.mg x = none) (hv : bootBuiltins x = some (.type "dict")) (he : SE c W X e m) (hg : Gl X x := by rfl) (hn : x ≠ "__name__" := by decide) (hdb : (x == ("__debug__" : Str)) = false := by decide)
    (hst : starEach [e] X.env = (false, eval e X.env) :: starEach [] X.env := by rfl) (hpl : (backTo pos (starEach [] X.env)).any (·.1) = false := by rfl) : SC c W X (.Call (.Name x p) [e] [] pos) (mDictG t m) := by
  obtain ⟨te, pe, k⟩ := he
  refine ⟨_, pe_callTy ((call_dictK hcalm).or (call_dictT hcalm hu)) hg hm hv (pa_cons pe pa_nil hst) hn hdb hst hpl, fun F am Hk H σ env mh Q R h => ?_⟩
  refine k F am Hk H σ env mh _ R (CP.step h fun d mh1 er v am1 Hk1 H1 g1 e1 R1 q1 h1 => ?_)
  cases hp : pairsOf d with
  | none => rw [hp] at h1; exact h1.elim
  | some ds =>
    rw [hp] at h1
    simp only at h1
    by_cases hl : ds.length ≤ LIM
    case neg => rw [if_neg hl] at h1; exact h1.elim
    rw [if_pos hl] at h1
    cases hgo : dictGoT t ds [] [] with
    | none => rw [hgo] at h1; exact h1.elim
    | some pr =>
      rw [hgo] at h1
      obtain ⟨a, xs, rfl, hsrc, qs⟩ := src_of q1 R1.known hp
      cases t with
      | false =>
        rw [← dictGo_eq] at hgo
        obtain ⟨ps, more, e1', e2, e3, e4, e5⟩ := dictGo_ok R1.known (kvs := []) (vs := []) qs (fun _ h => nomatch h) .nil hgo
        subst e1'
        refine .inl ⟨_, ps, more, rfl, by rw [hK]; exact hsrc, by rw [hK]; exact e2, fun a ha => ?_⟩
        exact h1 (.ref a) _ am1 Hk1 _ (Go.refl _) (Le.refl _) (R1.stash ha) ⟨a, rfl, R1.f_none ha, .inl ⟨rfl, mergeK [] more, rfl, e3, e4, e5⟩⟩
      | true =>
        obtain ⟨ps, more, e1', e2, e3, e4, e5⟩ := dictT_ok R1.known (kvs := []) (vs := []) qs (fun _ h => nomatch h) .nil hgo
        subst e1'
        refine .inr ⟨_, ps, more, rfl, by rw [hK]; exact hsrc, by rw [hK]; exact e2, fun a ha => ?_⟩
        exact h1 (.ref a) _ am1 Hk1 _ (Go.refl _) (Le.refl _) (R1.stash ha) ⟨a, rfl, R1.f_none ha, .inr ⟨rfl, mergeT [] more, rfl, e3, e4, e5⟩⟩
/-! ### len of a dict -/
def rLenD (K : PySem.W.Frag) : List V → Hp → VK → Prop := fun xs H Q => ∃ (p : Addr) (kvs : List (Key × V)), xs = [.ref p] ∧ Rd H p (.dK kvs) ∧ Q (.int (kvs.length : Nat)) H
theorem call_lenDk : CallR X (.builtin "len") (rLenD X.K) := by
  intro pins s σ H xs us Q I r h
  obtain ⟨p, kvs, rfl, hd, q⟩ := h
  obtain ⟨u, rfl, rx⟩ := vals1 r
  cases rx
  exact d_len I hd fun t s' I' => ⟨.int (kvs.length : Nat), H, I', ⟨t, rfl⟩, q⟩
def dLenD : D → Option D
  | .dct false ks _ => some (.int ks.length)
  | _ => none
theorem r_lenD : RAOk c (rLenD c.K) (fOne dLenD) := ra_one (by
  intro F am Hk H σ env mh x dx d Q R qx e h
  cases dx <;> first | (cases e; done) | skip
  rename_i t ks vs
  cases t with
  | true => cases e
  | false =>
    cases e
    cases qx with
    | dk s k q =>
      refine ⟨_, _, rfl, .inr ⟨_, R.known _ _ s⟩, ?_⟩
      rw [List.length_map] at h
      exact h _ Hk H (Le.refl _) R (.int _))
/-! ### a dict of lists that are changed no more -/
def mThawD (m : Ev) : Ev := fun env mh => (m env mh).bind fun d mh1 => match d with
  | .dct t ks vs => match thawL vs mh1 with
    | some p => .ok (.dct t ks p.1) p.2
    | none => .no
  | _ => .no
theorem se_thawD {e : Expr} {m : Ev} (h : SE c W X e m) : SE c W X e (mThawD m) := by
  obtain ⟨t, p, k⟩ := h
  refine ⟨_, p, fun F am Hk H σ env mh Q R h => ?_⟩
  refine k F am Hk H σ env mh _ R (GP.step h fun d mh1 er v am1 Hk1 H1 g1 e1 R1 q1 h1 => ?_)
  cases d <;> first | exact h1.elim | skip
  rename_i t ks vs
  simp only at h1
  cases ht : thawL vs mh1 with
  | none => rw [ht] at h1; exact h1.elim
  | some p =>
    rw [ht] at h1
    cases q1 with
    | dk s k qs =>
      obtain ⟨Hk', le, R2, q2⟩ := thaw_ok R1 qs ht
      exact h1 _ am1 Hk' H1 (Go.refl _) le R2 (.dk (le _ _ s) k q2)
    | dt s k qs =>
      obtain ⟨Hk', le, R2, q2⟩ := thaw_ok R1 qs ht
      exact h1 _ am1 Hk' H1 (Go.refl _) le R2 (.dt (le _ _ s) k q2)
/-! d.get(k, x), d any value -/
def mGetD (md mk mx : Ev) : Ev := fun env mh => (md env mh).bind fun d mh1 => match d with
  | .dct t ks vs => (mk env mh1).bind fun k mh2 => (mx env mh2).bind fun x mh3 => lift ((dFind t ks vs k).map fun o => o.getD x) mh3
  | _ => .no
theorem se_getD {ed ek ex : Expr} {md mk mx : Ev} {apos cpos : Pos} (hu : X.A.units + 64 < cLine) (hd : SE c W X ed md) (hk : SE c W X ek mk) (hx : SE c W X ex mx) (m : M2 X ed "get" apos ek ex cpos := by exact ⟨rfl, rfl, rfl, rfl⟩) : SE c W X (.Call (.Attribute ed "get" apos) [ek, ex] [] cpos) (mGetD md mk mx) := by
  obtain ⟨td, pd, kd⟩ := hd
  obtain ⟨tk, pk, kk⟩ := hk
  obtain ⟨tx, px, kx⟩ := hx
  refine ⟨_, pe_dget2 (by omega) pd pk px m, fun F am Hk H σ env mh Q R h => ?_⟩
  refine kd F am Hk H σ env mh _ R (GP.step h fun d mh1 er v am1 Hk1 H1 g1 e1 R1 q1 h1 => ?_)
  cases d <;> first | exact h1.elim | skip
  rename_i t ks vs
  obtain ⟨a, rfl, D1⟩ := q1.dct R1.known
  refine ⟨a, rfl, D1.isD, ?_⟩
  refine kk F am1 Hk1 H1 σ env mh1 _ R1 (GP.step h1 fun k mh2 er2 y am2 Hk2 H2 g2 e2 R2 q2 h2 => ?_)
  refine kx F am2 Hk2 H2 σ env mh2 _ R2 (GP.step h2 fun x mh3 er3 z am3 Hk3 H3 g3 e3 R3 q3 h3 => ?_)
  obtain ⟨w, ew, hw⟩ := lift_ok h3
  have q1' := (q1.up g2 e2).up g3 e3
  obtain ⟨a', ea, D3⟩ := q1'.dct R3.known
  cases ea
  cases hf : dFind t ks vs k with
  | none => rw [hf] at ew; cases ew
  | some o =>
    rw [hf] at ew
    cases ew
    obtain ⟨ov, hg, c1, c2⟩ := D3.get (q2.up g3 e3) R3.known hf
    refine ⟨ov, hg, ?_⟩
    cases o with
    | none =>
      rw [c2 rfl]
      exact hw z am3 Hk3 H3 (Go.refl _) (Le.refl _) R3 q3
    | some d' =>
      obtain ⟨v', ev, qv⟩ := c1 d' rfl
      rw [ev]
      exact hw v' am3 Hk3 H3 (Go.refl _) (Le.refl _) R3 qv
end
end Mi

set_option Elab.async false
set_option linter.all false
set_option maxRecDepth 100000
set_option maxHeartbeats 1000000
namespace Mi
/-! ### ways along branches, in plain Lean -/
theorem down_dec {b : List Nat} (B : BO b) : ∀ y, y ≤ b.length → (down b y).Pairwise (· > ·) := by
  refine down_ind B (by simp) fun y h ih => ?_
  rw [down_succ B h]
  have hle := B.le y h
  exact List.pairwise_cons.mpr ⟨fun z hz => by have := down_le B _ (by omega) z hz; omega, ih⟩
theorem down_split {b : List Nat} (B : BO b) : ∀ y, y ≤ b.length → ∀ z ∈ down b y, ∃ A, down b y = A ++ down b z := by
  refine down_ind B (fun z hz => by simp at hz; subst hz; exact ⟨[], rfl⟩) fun y h ih z hz => ?_
  rw [down_succ B h] at hz ⊢
  rcases List.mem_cons.mp hz with rfl | hz
  · exact ⟨[], by rw [down_succ B h]; rfl⟩
  · obtain ⟨A, hA⟩ := ih z hz
    exact ⟨(y + 1) :: A, by rw [hA]; rfl⟩
theorem down_hd {b : List Nat} (B : BO b) {y : Nat} (hy : y ≤ b.length) : ∃ t, down b y = y :: t := by
  match y, hy with
  | 0, _ => exact ⟨[], rfl⟩
  | y + 1, hy => exact ⟨_, down_succ B (by omega)⟩
theorem max_of {P : Nat → Prop} : ∀ n, (∃ k, k ≤ n ∧ P k) → (∀ k, P k → k ≤ n) → ∃ m, P m ∧ ∀ k, P k → k ≤ m := by
  intro n
  induction n with
  | zero =>
    rintro ⟨k, hk, pk⟩ h
    exact ⟨k, pk, fun j pj => by have := h j pj; omega⟩
  | succ n ih =>
    rintro ⟨k, hk, pk⟩ h
    rcases Classical.em (P (n + 1)) with c | c
    · exact ⟨n + 1, c, h⟩
    · have hne : ∀ j, P j → j ≤ n := fun j pj => by
        have h1 := h j pj
        have h2 : j ≠ n + 1 := fun e => c (e ▸ pj)
        omega
      exact ih ⟨k, hne k pk, pk⟩ hne
/-- two branches, what they have in common, and what each has above it -/
structure Way (b : List Nat) (x y : Nat) (A : List Nat) (m : Nat) (T C : List Nat) : Prop where
  dx : down b x = A ++ m :: T
  dy : down b y = C ++ m :: T
  dm : down b m = m :: T
  na : ∀ a ∈ A, a ∉ down b y
  nc : ∀ c ∈ C, c ∉ down b x
theorem Way.symm {b : List Nat} {x y m : Nat} {A T C : List Nat} (w : Way b x y A m T C) : Way b y x C m T A := ⟨w.dy, w.dx, w.dm, w.nc, w.na⟩
theorem way_ex {b : List Nat} (B : BO b) {x y : Nat} (hx : x ≤ b.length) (hy : y ≤ b.length) : ∃ A m T C, Way b x y A m T C := by
  obtain ⟨m, ⟨h1, h2⟩, hm⟩ := max_of (P := fun k => k ∈ down b x ∧ k ∈ down b y) x ⟨0, by omega, zero_down B x hx, zero_down B y hy⟩ fun k hk => down_le B x hx k hk.1
  have hmx := down_le B x hx m h1
  obtain ⟨A, hA⟩ := down_split B x hx m h1
  obtain ⟨C, hC⟩ := down_split B y hy m h2
  obtain ⟨T, hT⟩ := down_hd B (y := m) (by omega)
  have dA := down_dec B x hx
  have dC := down_dec B y hy
  rw [hA, hT] at dA
  rw [hC, hT] at dC
  refine ⟨A, m, T, C, by rw [hA, hT], by rw [hC, hT], hT, fun a ha hay => ?_, fun c hc hcx => ?_⟩
  · have h3 := (List.pairwise_append.mp dA).2.2 a ha m List.mem_cons_self
    have h4 := hm a ⟨by rw [hA]; exact List.mem_append_left _ ha, hay⟩
    omega
  · have h3 := (List.pairwise_append.mp dC).2.2 c hc m List.mem_cons_self
    have h4 := hm c ⟨hcx, by rw [hC]; exact List.mem_append_left _ hc⟩
    omega
def preLen : List Nat → List Nat → Nat
  | x :: r, y :: s => if x = y then preLen r s + 1 else 0
  | _, _ => 0
/-- the way as the law tells it -/
def wayL (b : List Nat) (x y : Nat) : List Nat :=
  let f := (down b x).reverse
  let s := (down b y).reverse
  (f.drop (preLen f s - 1)).reverse ++ s.drop (preLen f s)
theorem pre_app : ∀ (L r s : List Nat), preLen (L ++ r) (L ++ s) = L.length + preLen r s
  | [], r, s => by simp
  | x :: L, r, s => by
    simp only [List.cons_append, preLen, if_true, pre_app L r s, List.length_cons]
    omega
theorem pre_zero {r s : List Nat} (h : ∀ x ∈ r, x ∉ s) : preLen r s = 0 := by
  cases r with
  | nil => simp [preLen]
  | cons x r =>
    cases s with
    | nil => simp [preLen]
    | cons y s =>
      have : x ≠ y := fun e => h x List.mem_cons_self (by rw [e]; exact List.mem_cons_self)
      simp [preLen, this]
theorem pre_take : ∀ (f s : List Nat) (k : Nat), k < f.length → k < s.length → (f.take (k + 1) = s.take (k + 1) ↔ k < preLen f s)
  | [], s, k, h, _ => by simp at h
  | x :: f, [], k, _, h => by simp at h
  | x :: f, y :: s, 0, _, _ => by
    simp only [List.take_succ_cons, List.take_zero, preLen]
    by_cases h : x = y
    · simp [h]
    · simp [h]
  | x :: f, y :: s, k + 1, h1, h2 => by
    have ih := pre_take f s k (by simpa using h1) (by simpa using h2)
    rw [List.take_succ_cons, List.take_succ_cons]
    simp only [preLen]
    by_cases h : x = y
    · subst h
      simp only [List.cons.injEq, true_and, if_true]
      rw [ih]
      omega
    · simp [h]
theorem pre_le : ∀ (f s : List Nat), preLen f s ≤ min f.length s.length
  | [], s => by simp [preLen]
  | x :: f, [] => by simp [preLen]
  | x :: f, y :: s => by
    have := pre_le f s
    simp only [preLen]
    split
    · simp only [List.length_cons]; omega
    · omega
/-- how many starts are alike -/
theorem pre_count (f s : List Nat) : ((List.range (min f.length s.length)).filter fun k => decide (f.take (k + 1) = s.take (k + 1))).length = preLen f s := by
  have e : (List.range (min f.length s.length)).filter (fun k => decide (f.take (k + 1) = s.take (k + 1))) = (List.range (min f.length s.length)).filter fun k => decide (k < preLen f s) := by
    refine List.filter_congr fun k hk => ?_
    have hk := List.mem_range.mp hk
    exact decide_eq_decide.mpr (pre_take f s k (by omega) (by omega))
  have hl := pre_le f s
  rw [e]
  generalize min f.length s.length = N at hl
  generalize preLen f s = p at hl
  have key : ∀ N p : Nat, p ≤ N → ((List.range N).filter fun k => decide (k < p)).length = p := by
    intro N
    induction N with
    | zero => intro p h; have : p = 0 := by omega
              subst this; rfl
    | succ N ih =>
      intro p h
      rw [List.range_succ, List.filter_append, List.length_append, List.filter_cons, List.filter_nil]
      by_cases c : p ≤ N
      · rw [ih p c]
        have : ¬ N < p := by omega
        simp [this]
      · have e : p = N + 1 := by omega
        subst e
        have e2 : (List.range N).filter (fun k => decide (k < N + 1)) = (List.range N).filter fun k => decide (k < N) := by
          refine List.filter_congr fun k hk => ?_
          have := List.mem_range.mp hk
          exact decide_eq_decide.mpr (by omega)
        rw [e2, ih N (Nat.le_refl _)]
        simp
  exact key N p hl
theorem Way.eq {b : List Nat} {x y m : Nat} {A T C : List Nat} (w : Way b x y A m T C) : wayL b x y = A ++ m :: C.reverse := by
  have e1 : (down b x).reverse = (m :: T).reverse ++ A.reverse := by rw [w.dx, List.reverse_append]
  have e2 : (down b y).reverse = (m :: T).reverse ++ C.reverse := by rw [w.dy, List.reverse_append]
  have hd : preLen ((m :: T).reverse ++ A.reverse) ((m :: T).reverse ++ C.reverse) = T.length + 1 := by
    rw [pre_app, pre_zero (fun z hz hc => w.na z (List.mem_reverse.mp hz) (by rw [w.dy]; exact List.mem_append_left _ (List.mem_reverse.mp hc)))]
    simp
  unfold wayL
  simp only [e1, e2, hd, Nat.add_sub_cancel]
  rw [List.drop_append, List.drop_append]
  have e3 : (m :: T).reverse.drop T.length = [m] := by
    rw [List.reverse_cons, List.drop_append, List.drop_eq_nil_of_le (by simp)]
    simp
  have e4 : (m :: T).reverse.drop (T.length + 1) = [] := List.drop_eq_nil_of_le (by simp)
  rw [e3, e4]
  simp
theorem way_rev {b : List Nat} (B : BO b) {x y : Nat} (hx : x ≤ b.length) (hy : y ≤ b.length) : wayL b y x = (wayL b x y).reverse := by
  obtain ⟨A, m, T, C, w⟩ := way_ex B hx hy
  rw [w.eq, w.symm.eq]
  simp
theorem Way.nodup {b : List Nat} (B : BO b) {x y m : Nat} {A T C : List Nat} (hx : x ≤ b.length) (hy : y ≤ b.length) (w : Way b x y A m T C) : (wayL b x y).Nodup := by
  have n1 := down_nodup B x hx
  have n2 := down_nodup B y hy
  rw [w.dx] at n1
  rw [w.dy] at n2
  obtain ⟨a1, a2, a3⟩ := List.nodup_append.mp n1
  obtain ⟨c1, c2, c3⟩ := List.nodup_append.mp n2
  rw [w.eq]
  refine List.nodup_append.mpr ⟨a1, List.nodup_cons.mpr ⟨fun h => ?_, (List.reverse_perm C).nodup_iff.mpr c1⟩, fun a ha z hz e => ?_⟩
  · exact c3 m (List.mem_reverse.mp h) m List.mem_cons_self rfl
  · subst e
    rcases List.mem_cons.mp hz with rfl | hz
    · exact a3 a ha a List.mem_cons_self rfl
    · exact w.na a ha (by rw [w.dy]; exact List.mem_append_left _ (List.mem_reverse.mp hz))
theorem way_ends {b : List Nat} (B : BO b) {x y : Nat} (hx : x ≤ b.length) (hy : y ≤ b.length) : ∃ t, wayL b x y = x :: t := by
  obtain ⟨A, m, T, C, w⟩ := way_ex B hx hy
  obtain ⟨t, ht⟩ := down_hd B hx
  rw [w.eq]
  have := w.dx
  rw [ht] at this
  cases A with
  | nil => cases this; exact ⟨_, rfl⟩
  | cons a A => cases this; exact ⟨_, rfl⟩
/-! the greatest way, reckoned from above -/
/-- z lies on u, and the branch of u that leads there is k at least -/
def Up (b : List Nat) (k u z d : Nat) : Prop := z ≤ b.length ∧ ∃ A, down b z = A ++ down b u ∧ A.length + 1 = d ∧ (∀ a ∈ A, k ≤ a)
structure Deep (b : List Nat) (k : Nat) (deep : Nat → Nat) (best : Nat) : Prop where
  ex : ∀ u, u ≤ b.length → ∃ z, Up b k u z (deep u)
  le : ∀ u, u ≤ b.length → ∀ z d, Up b k u z d → d ≤ deep u
  bx : ∃ x y, x ≤ b.length ∧ y ≤ b.length ∧ (wayL b x y).length = best
  bl : ∀ x y A m T C, x ≤ b.length → y ≤ b.length → Way b x y A m T C → (∀ a ∈ A, k ≤ a) → (∀ c ∈ C, k ≤ c) → A.length + 1 + C.length ≤ best
theorem deep_start {b : List Nat} (B : BO b) : Deep b (b.length + 1) (fun _ => 1) 1 := by
  have nil_of : ∀ {A : List Nat} {z : Nat} {r : List Nat}, z ≤ b.length → down b z = A ++ r → (∀ a ∈ A, b.length + 1 ≤ a) → A = [] := by
    intro A z r hz e h
    cases A with
    | nil => rfl
    | cons a A =>
      have h1 := h a List.mem_cons_self
      have h2 := down_le B z hz a (by rw [e]; exact List.mem_append_left _ List.mem_cons_self)
      omega
  refine ⟨fun u hu => ⟨u, hu, [], rfl, rfl, fun _ h => nomatch h⟩, ?_, ⟨0, 0, by omega, by omega, by simp [wayL, preLen]⟩, ?_⟩
  · rintro u hu z d ⟨hz, A, e, hd, hA⟩
    have := nil_of hz e hA
    subst this
    simp at hd
    omega
  · intro x y A m T C hx hy w hA hC
    have e1 := nil_of hx w.dx hA
    have e2 := nil_of hy w.dy hC
    subst e1 e2
    simp
theorem deep_step {b : List Nat} (B : BO b) {i : Nat} (hi : i < b.length) {deep : Nat → Nat} {best : Nat} (D : Deep b (i + 2) deep best) :
    Deep b (i + 1) (fun u => if u = b[i] then max (deep b[i]) (deep (i + 1) + 1) else deep u) (max best (deep b[i] + deep (i + 1))) := by
  have hle := B.le i hi
  have hv : i + 1 ≤ b.length := by omega
  have hp : b[i] ≤ b.length := by omega
  have dv := down_succ B hi
  -- what lies above a branch, from its own child on
  have above : ∀ {z u : Nat} {A : List Nat}, z ≤ b.length → down b z = A ++ down b u → u ≤ b.length → ∀ a ∈ A, u < a := by
    intro z u A hz e hu a ha
    obtain ⟨t, ht⟩ := down_hd B hu
    have h := down_dec B z hz
    rw [e, ht] at h
    exact (List.pairwise_append.mp h).2.2 a ha u List.mem_cons_self
  -- the last of what lies above u grows on u
  have last : ∀ {z u : Nat} {A : List Nat} {a : Nat}, z ≤ b.length → u ≤ b.length → down b z = (A ++ [a]) ++ down b u → down b a = a :: down b u := by
    intro z u A a hz hu e
    have ha : a ∈ down b z := by rw [e]; simp
    obtain ⟨A', hA'⟩ := down_split B z hz a ha
    obtain ⟨t, ht⟩ := down_hd B (y := a) (by have := down_le B z hz a ha; omega)
    have hn := down_nodup B z hz
    rw [e] at hn hA'
    rw [ht] at hA' ⊢
    have h2 : A ++ (a :: down b u) = A' ++ (a :: t) := by simpa using hA'
    have n1 : a ∉ A := fun h => by
      have := (List.nodup_append.mp (List.nodup_append.mp hn).1).2.2 a h a (by simp)
      exact this rfl
    have n2 : a ∉ A' := fun h => by
      rw [hA'] at hn
      exact (List.nodup_append.mp hn).2.2 a h a List.mem_cons_self rfl
    have h3 := congrArg (List.idxOf a) h2
    rw [List.idxOf_append, List.idxOf_append, if_neg n1, if_neg n2] at h3
    simp at h3
    have h4 := List.append_inj h2 h3
    have := h4.2
    injection this with _ h5
    rw [h5]
  refine ⟨fun u hu => ?_, fun u hu z d hz => ?_, ?_, ?_⟩
  · by_cases c : u = b[i]
    · rw [if_pos c]
      subst c
      by_cases c2 : deep b[i] ≥ deep (i + 1) + 1
      · obtain ⟨z, h1, A, h2, h3, h4⟩ := D.ex _ hp
        exact ⟨z, h1, A, h2, by omega, fun a ha => by have := h4 a ha; omega⟩
      · obtain ⟨z, h1, A, h2, h3, h4⟩ := D.ex _ hv
        refine ⟨z, h1, A ++ [i + 1], by rw [h2, dv]; simp, by simp; omega, fun a ha => ?_⟩
        rcases List.mem_append.mp ha with ha | ha
        · have := h4 a ha; omega
        · simp at ha; omega
    · rw [if_neg c]
      obtain ⟨z, h1, A, h2, h3, h4⟩ := D.ex u hu
      exact ⟨z, h1, A, h2, h3, fun a ha => by have := h4 a ha; omega⟩
  · obtain ⟨h1, A, h2, h3, h4⟩ := hz
    -- either i + 1 is among A, or all are greater
    by_cases c : (i + 1) ∈ A
    · -- then it is the last of A, and u is its own branch
      have hl : A ≠ [] := fun e => by rw [e] at c; cases c
      obtain ⟨A', a, rfl⟩ : ∃ A' a, A = A' ++ [a] := ⟨A.dropLast, A.getLast hl, (List.dropLast_concat_getLast hl).symm⟩
      have hd := down_dec B z h1
      rw [h2] at hd
      have hd2 := (List.pairwise_append.mp (List.pairwise_append.mp hd).1).2.2
      have ea : a = i + 1 := by
        rcases List.mem_append.mp c with c | c
        · have h5 := hd2 (i + 1) c a (by simp)
          have h6 := h4 a (by simp)
          omega
        · simp at c; omega
      subst ea
      have hlast := last h1 hu h2
      rw [dv] at hlast
      injection hlast with _ h5
      have hu' : u = b[i] := by
        obtain ⟨t1, e1⟩ := down_hd B hp
        obtain ⟨t2, e2⟩ := down_hd B hu
        rw [e1, e2] at h5
        injection h5 with h5 _
        exact h5.symm
      rw [if_pos hu']
      have h6 := D.le (i + 1) hv z (A'.length + 1) ⟨h1, A', by rw [h2, hu', dv]; simp, rfl, fun x hx => by
        have := hd2 x hx (i + 1) (by simp)
        omega⟩
      simp at h3
      omega
    · have h5 := D.le u hu z d ⟨h1, A, h2, h3, fun a ha => by
        have := h4 a ha
        have : a ≠ i + 1 := fun e => c (e ▸ ha)
        omega⟩
      split
      · rename_i e
        subst e
        omega
      · exact h5
  · -- the greater one is a way's
    by_cases c : best ≥ deep b[i] + deep (i + 1)
    · obtain ⟨x, y, h1, h2, h3⟩ := D.bx
      exact ⟨x, y, h1, h2, by omega⟩
    · obtain ⟨x, x1, A, x2, x3, x4⟩ := D.ex _ hv
      obtain ⟨y, y1, C, y2, y3, y4⟩ := D.ex _ hp
      obtain ⟨T, hT⟩ := down_hd B hp
      have hA : ∀ a ∈ A ++ [i + 1], a ∉ down b y := fun a ha hy => by
        have hax : (i + 1) ∈ down b a := by
          rcases List.mem_append.mp ha with ha | ha
          · have hm : a ∈ down b x := by rw [x2]; exact List.mem_append_left _ ha
            have hal := down_le B x x1 a hm
            obtain ⟨A1, e1⟩ := down_split B x x1 a hm
            have hv' : (i + 1) ∈ down b x := by rw [x2, dv]; simp
            rw [e1] at hv'
            rcases List.mem_append.mp hv' with h | h
            · exfalso
              have hd := down_dec B x x1
              obtain ⟨t, ht⟩ := down_hd B (y := a) (by omega)
              rw [e1, ht] at hd
              have h5 := (List.pairwise_append.mp hd).2.2 (i + 1) h a List.mem_cons_self
              have h6 := above x1 x2 hv a ha
              omega
            · exact h
          · simp at ha
            subst ha
            rw [dv]
            exact List.mem_cons_self
        have h7 := down_sub B y y1 a hy (i + 1) hax
        rw [y2] at h7
        rcases List.mem_append.mp h7 with h7 | h7
        · have := y4 _ h7; omega
        · have := down_le B _ hp _ h7; omega
      have hC : ∀ c ∈ C, c ∉ down b x := fun c hc hx => by
        rw [x2, dv] at hx
        have hcv : c ∈ A ++ [i + 1] ∨ c ∈ down b b[i] := by
          rcases List.mem_append.mp hx with h | h
          · exact .inl (List.mem_append_left _ h)
          · rcases List.mem_cons.mp h with rfl | h
            · exact .inl (by simp)
            · exact .inr h
        rcases hcv with h | h
        · exact hA c h (by rw [y2]; exact List.mem_append_left _ hc)
        · have h8 := above y1 y2 hp c hc
          have h9 := down_le B _ hp _ h
          omega
      have w : Way b x y (A ++ [i + 1]) b[i] T C := ⟨by rw [x2, dv, hT]; simp, by rw [y2, hT], hT, hA, hC⟩
      refine ⟨x, y, x1, y1, ?_⟩
      rw [w.eq]
      simp
      omega
  · intro x y A m T C hx hy w hA hC
    have hm : m ≤ b.length := by
      have := down_le B x hx m (by rw [w.dx]; simp)
      omega
    -- a way with i + 1 on the side of x
    have one : ∀ (x y : Nat) (A C : List Nat), x ≤ b.length → y ≤ b.length → Way b x y A m T C → (∀ a ∈ A, i + 1 ≤ a) → (∀ c ∈ C, i + 1 ≤ c) → (i + 1) ∈ A → A.length + 1 + C.length ≤ deep b[i] + deep (i + 1) := by
      intro x y A C hx hy w hA hC c
      have hl : A ≠ [] := fun e => by rw [e] at c; cases c
      obtain ⟨A', a, rfl⟩ : ∃ A' a, A = A' ++ [a] := ⟨A.dropLast, A.getLast hl, (List.dropLast_concat_getLast hl).symm⟩
      have dx := w.dx
      rw [← w.dm] at dx
      have hd := down_dec B x hx
      rw [dx] at hd
      have hd2 := (List.pairwise_append.mp (List.pairwise_append.mp hd).1).2.2
      have ea : a = i + 1 := by
        rcases List.mem_append.mp c with c | c
        · have h5 := hd2 (i + 1) c a (by simp)
          have h6 := hA a (by simp)
          omega
        · simp at c; omega
      subst ea
      have hlast := last hx hm dx
      rw [dv] at hlast
      injection hlast with _ h5
      have hu' : m = b[i] := by
        obtain ⟨t1, e1⟩ := down_hd B hp
        obtain ⟨t2, e2⟩ := down_hd B hm
        rw [e1, e2] at h5
        injection h5 with h5 _
        exact h5.symm
      subst hu'
      have h6 := D.le (i + 1) hv x (A'.length + 1) ⟨hx, A', by rw [dx, dv]; simp, rfl, fun z hz => by
        have := hd2 z hz (i + 1) (by simp)
        omega⟩
      have h7 := D.le b[i] hp y (C.length + 1) ⟨hy, C, by rw [w.dy, ← w.dm], rfl, fun z hz => by
        have h8 := hC z hz
        have : z ≠ i + 1 := fun e => w.na (i + 1) (by simp) (by rw [w.dy, ← e]; exact List.mem_append_left _ hz)
        omega⟩
      simp
      omega
    by_cases c1 : (i + 1) ∈ A
    · have := one x y A C hx hy w hA hC c1
      omega
    · by_cases c2 : (i + 1) ∈ C
      · have := one y x C A hy hx w.symm hC hA c2
        omega
      · have h5 := D.bl x y A m T C hx hy w (fun a ha => by
          have := hA a ha
          have : a ≠ i + 1 := fun e => c1 (e ▸ ha)
          omega) (fun a ha => by
          have := hC a ha
          have : a ≠ i + 1 := fun e => c2 (e ▸ ha)
          omega)
        omega
/-- in the end: the greatest of all ways -/
theorem deep_end {b : List Nat} (B : BO b) {deep : Nat → Nat} {best : Nat} (D : Deep b 1 deep best) : (∃ x y, x ≤ b.length ∧ y ≤ b.length ∧ (wayL b x y).length = best) ∧ ∀ x y, x ≤ b.length → y ≤ b.length → (wayL b x y).length ≤ best := by
  refine ⟨D.bx, fun x y hx hy => ?_⟩
  obtain ⟨A, m, T, C, w⟩ := way_ex B hx hy
  have hd := down_dec B x hx
  have hd2 := down_dec B y hy
  rw [w.dx] at hd
  rw [w.dy] at hd2
  have h := D.bl x y A m T C hx hy w (fun a ha => by have := (List.pairwise_append.mp hd).2.2 a ha m List.mem_cons_self; omega) (fun a ha => by have := (List.pairwise_append.mp hd2).2.2 a ha m List.mem_cons_self; omega)
  rw [w.eq]
  simp
  omega
end Mi

set_option Elab.async false
set_option linter.all false
set_option maxRecDepth 100000
set_option maxHeartbeats 1000000
namespace Mi
open PySem L2
theorem cut_to {α : Type} {xs : List α} {k : Nat} : cutD xs none (some (k : Int)) = xs.take k := by
  unfold cutD
  rw [HT.sIx_none, HT.sIx_nat, List.drop_zero, Nat.sub_zero]
  rcases Nat.le_total k xs.length with h | h
  · rw [Nat.min_eq_left h]
  · rw [Nat.min_eq_right h, List.take_length, List.take_of_length_le h]
theorem cut_from {α : Type} {xs : List α} {k : Nat} : cutD xs (some (k : Int)) none = xs.drop k := by
  unfold cutD
  rw [HT.sIx_none, HT.sIx_nat]
  rcases Nat.le_total k xs.length with h | h
  · rw [Nat.min_eq_left h]
    exact List.take_of_length_le (by rw [List.length_drop]; exact Nat.le_refl _)
  · rw [Nat.min_eq_right h, List.drop_length, List.drop_eq_nil_of_le h, List.take_nil]
theorem sl_to {ds : List D} {k : Nat} : dSl (.lst ds) none (some (k : Int)) = some (.lst (ds.take k)) := by rw [← cut_to]; rfl
theorem sl_from {ds : List D} {k : Nat} : dSl (.lst ds) (some (k : Int)) none = some (.lst (ds.drop k)) := by rw [← cut_from]; rfl
theorem slT_to {ds : List D} {k : Nat} : dSl (.tup ds) none (some (k : Int)) = some (.tup (ds.take k)) := by rw [← cut_to]; rfl
theorem slT_from {ds : List D} {k : Nat} : dSl (.tup ds) (some (k : Int)) none = some (.tup (ds.drop k)) := by rw [← cut_from]; rfl
section
variable {env : En} {mh : Mh} {P : D → Mh → Prop} {PC : Cel → Mh → Prop} {a b d : Ev}
@[simp] theorem S_dictG {t : Bool} : (mDictG t a env mh).S PC = (a env mh).S fun d m1 => match pairsOf d with | some ds => (if ds.length ≤ LIM then (match dictGoT t ds [] [] with | some p => PC (.od t p.1 p.2) m1 | none => False) else False) | none => False := by
  unfold mDictG
  rw [S_bind]
  congr 1
  funext d m1
  cases pairsOf d with
  | none => rfl
  | some ds =>
    simp only
    split
    · cases dictGoT t ds [] [] <;> rfl
    · rfl
@[simp] theorem S_fzDictG {t : Bool} : (mFz (mDictG t a) env mh).S P = (a env mh).S fun d m1 => match pairsOf d with | some ds => (if ds.length ≤ LIM then (match dictGoT t ds [] [] with | some p => P (.dct t p.1 p.2) m1 | none => False) else False) | none => False := by
  unfold mFz
  rw [S_bind, S_dictG]
  congr 1
@[simp] theorem S_getD : (mGetD a b d env mh).S P = (a env mh).S fun x m1 => match x with | .dct t ks vs => ((b env m1).S fun k m2 => (d env m2).S fun z m3 => (match (dFind t ks vs k).map fun o => o.getD z with | some d => P d m3 | none => False)) | _ => False := by
  unfold mGetD
  rw [S_bind]
  congr 1
  funext x m1
  cases x <;> try rfl
  simp only [S_bind, S_lift]
  congr 1
  funext k m2
  congr 1
  funext z m3
  cases dFind _ _ _ k <;> rfl
@[simp] theorem S_m2C {f : D → D → Option Cel} : (m2C f a b env mh).S PC = (a env mh).S fun x m1 => (b env m1).S fun y m2 => match f x y with | some cel => PC cel m2 | none => False := by
  unfold m2C
  rw [S_bind]
  congr 1
  funext x m1
  rw [S_bind]
  congr 1
  funext y m2
  cases f x y <;> rfl
theorem setOl {i : Nat} {ix m : Ev} {N : En → Mh → Prop} {T : D → Mh → Prop} {C : En → Mh → Prop} {ds : List D} (he : env[i]? = some (.ol ds)) (h : (m env mh).S fun d m1 => (ix env m1).S fun k m2 => ∃ (kk : Int) (j : Nat), k = .int kk ∧ ixN ds.length kk = some j ∧ N (env.set i (.ol (ds.set j d))) m2) : (mSetIx i ix m env mh).S N T C := by
  unfold mSetIx
  rw [S_bindS]
  refine h.mono fun d m1 h1 => ?_
  rw [he, if_pos (show okTgt (some (Cel.ol ds)) = true from rfl), S_bindS]
  refine h1.mono fun k m2 ⟨kk, j, e1, e2, h2⟩ => ?_
  subst e1
  simp only [e2]
  exact h2
@[simp] theorem S_thawD : (mThawD a env mh).S P = (a env mh).S fun d m1 => match d with | .dct t ks vs => (match thawL vs m1 with | some p => P (.dct t ks p.1) p.2 | none => False) | _ => False := by
  unfold mThawD
  rw [S_bind]
  congr 1
  funext x m1
  cases x <;> try rfl
  rename_i t ks vs
  simp only
  cases thawL vs m1 with
  | none => rfl
  | some p => rfl
end
theorem dPut_fresh {β : Type} [DecidableEq β] {t : Bool} {enc : β → D} (K : KeyEnc t enc) {ks : List β} {vs : List D} {a : β} {d : D} (h : a ∉ ks) : dPutD t (ks.map enc) vs (enc a) d = some ((ks ++ [a]).map enc, vs ++ [d]) := by
  cases t with
  | false =>
    obtain ⟨kk, h1, h2⟩ := K
    simp only [dPutD, h1, Option.map_some]
    congr 1
    unfold dPutL
    rw [if_neg, List.map_append]
    · rfl
    · intro e
      obtain ⟨x, hx, hd⟩ := List.any_eq_true.mp e
      obtain ⟨y, hy, rfl⟩ := List.mem_map.mp hx
      have := of_decide_eq_true hd
      rw [h1] at this
      exact h (h2 y a (Option.some.inj this) ▸ hy)
  | true =>
    obtain ⟨kk, h1, h2⟩ := K
    simp only [dPutD, h1, Option.map_some]
    congr 1
    unfold dPutL
    rw [if_neg, List.map_append]
    · rfl
    · intro e
      obtain ⟨x, hx, hd⟩ := List.any_eq_true.mp e
      obtain ⟨y, hy, rfl⟩ := List.mem_map.mp hx
      have := of_decide_eq_true hd
      rw [h1] at this
      exact h (h2 y a (Option.some.inj this) ▸ hy)
theorem dictGo_map {α β : Type} [DecidableEq β] {t : Bool} {enc : β → D} (K : KeyEnc t enc) (key : α → β) (vx : α → D) : ∀ (xs ys : List α), ((ys ++ xs).map key).Nodup →
    dictGoT t (xs.map fun x => .tup [enc (key x), vx x]) ((ys.map key).map enc) (ys.map vx) = some (((ys ++ xs).map key).map enc, (ys ++ xs).map vx)
  | [], ys, _ => by simp [dictGoT]
  | x :: r, ys, h => by
    have hx : key x ∉ ys.map key := by
      rw [List.map_append, List.map_cons] at h
      intro hm
      exact (List.nodup_append.mp h).2.2 _ hm _ List.mem_cons_self rfl
    have ih := dictGo_map K key vx r (ys ++ [x]) (by rw [List.append_assoc]; exact h)
    rw [List.append_assoc] at ih
    rw [List.map_cons]
    unfold dictGoT
    simp only [pairKV, dPut_fresh K hx]
    simp only [List.map_append, List.map_cons, List.map_nil] at ih ⊢
    exact ih
theorem dictGo_nil {α β : Type} [DecidableEq β] {t : Bool} {enc : β → D} (K : KeyEnc t enc) (key : α → β) (vx : α → D) {xs : List α} (h : (xs.map key).Nodup) :
    dictGoT t (xs.map fun x => .tup [enc (key x), vx x]) [] [] = some ((xs.map key).map enc, xs.map vx) := dictGo_map K key vx xs [] h
theorem cup_app {m : Mh} (h : Cup m) (K : Nat) : Cup (m ++ List.replicate K .dead) := by
  obtain ⟨a, b, r, rfl⟩ := h
  exact ⟨a, b, _, rfl⟩
end Mi

set_option Elab.async false
set_option linter.all false
set_option maxRecDepth 100000
set_option maxHeartbeats 1000000
namespace Mi
open PySem L2
/-! ### orders of branches -/
def kidsV (b : List Nat) (y : Nat) : List Nat := ((List.range b.length).filter fun i => decide (b.getD i 0 = y)).map (· + 1)
theorem mem_kidsV {b : List Nat} {y z : Nat} : z ∈ kidsV b y ↔ ∃ h : z - 1 < b.length, 1 ≤ z ∧ b[z - 1] = y := by
  unfold kidsV
  simp only [List.mem_map, List.mem_filter, List.mem_range, decide_eq_true_eq]
  constructor
  · rintro ⟨i, ⟨h1, h2⟩, rfl⟩
    rw [List.getD_eq_getElem?_getD, List.getElem?_eq_getElem h1] at h2
    exact ⟨by simpa using h1, by omega, by simpa using h2⟩
  · rintro ⟨h, h1, h2⟩
    refine ⟨z - 1, ⟨h, ?_⟩, by omega⟩
    rw [List.getD_eq_getElem?_getD, List.getElem?_eq_getElem h]
    exact h2
theorem kidsV_gt {b : List Nat} (B : BO b) {y z : Nat} (h : z ∈ kidsV b y) : y < z ∧ z ≤ b.length := by
  obtain ⟨h1, h2, h3⟩ := mem_kidsV.mp h
  have := B.le _ h1
  omega
theorem kidsV_len {b : List Nat} {y : Nat} : (kidsV b y).length ≤ b.length := by
  unfold kidsV
  rw [List.length_map]
  exact Nat.le_trans (List.length_filter_le _ _) (by simp)
theorem kidsV_rise {b : List Nat} {y : Nat} : (kidsV b y).Pairwise (· < ·) := by
  unfold kidsV
  rw [List.pairwise_map]
  exact (List.Pairwise.filter _ List.pairwise_lt_range).imp fun h => by omega
def topN : List Nat → Nat
  | [] => 0
  | x :: r => max x (topN r)
theorem topN_ge : ∀ (vs : List Nat), ∀ x ∈ vs, x ≤ topN vs
  | [], x, h => by cases h
  | y :: r, x, h => by
    rcases List.mem_cons.mp h with rfl | h
    · exact Nat.le_max_left _ _
    · have := topN_ge r x h
      simp only [topN]
      omega
theorem topN_mem : ∀ (vs : List Nat), vs ≠ [] → topN vs ∈ vs
  | [], h => absurd rfl h
  | [x], _ => by simp [topN]
  | x :: y :: r, _ => by
    have ih := topN_mem (y :: r) (by simp)
    rcases Nat.le_total x (topN (y :: r)) with h | h
    · rw [show topN (x :: y :: r) = topN (y :: r) from Nat.max_eq_right h]
      exact List.mem_cons_of_mem _ ih
    · rw [show topN (x :: y :: r) = x from Nat.max_eq_left h]
      exact List.mem_cons_self
def stepO (vs : List Nat) : Nat := if vs = [] then 1 else topN vs + (if 1 < vs.count (topN vs) then 1 else 0)
def ordF (b : List Nat) : Nat → Nat → Nat
  | 0, _ => 1
  | f + 1, x => stepO ((kidsV b x).map (ordF b f))
def ordV (b : List Nat) (x : Nat) : Nat := ordF b (b.length + 1) x
theorem ord_more {b : List Nat} (B : BO b) : ∀ (f g x : Nat), b.length - x + 1 ≤ f → b.length - x + 1 ≤ g → ordF b f x = ordF b g x := by
  intro f
  induction f with
  | zero => intro g x h; omega
  | succ f ih =>
    intro g x h1 h2
    cases g with
    | zero => omega
    | succ g =>
      simp only [ordF]
      congr 1
      refine List.map_congr_left fun z hz => ?_
      have := kidsV_gt B hz
      exact ih g z (by omega) (by omega)
theorem ord_step {b : List Nat} (B : BO b) (x : Nat) : ordV b x = stepO ((kidsV b x).map (ordV b)) := by
  show stepO ((kidsV b x).map (ordF b b.length)) = _
  congr 1
  refine List.map_congr_left fun z hz => ?_
  have := kidsV_gt B hz
  exact ord_more B _ _ _ (by omega) (by omega)
theorem ordN_le {a b : Nat} : ordN.le a b = true ↔ a ≤ b := by
  unfold Ord.le ordN
  simp
/-- the last two of what is sorted -/
theorem sort_last {vs : List Nat} (h : vs ≠ []) : ∃ t, vs.mergeSort ordN.le = t ++ [topN vs] ∧ ((t = [] ∧ ¬ 1 < vs.count (topN vs)) ∨ ∃ t' q, t = t' ++ [q] ∧ (q = topN vs ↔ 1 < vs.count (topN vs))) := by
  have hp := List.mergeSort_perm vs ordN.le
  have hw := ordN.pw vs
  generalize vs.mergeSort ordN.le = s at hp hw
  have hs : s ≠ [] := fun e => by subst e; exact h hp.symm.eq_nil
  obtain ⟨t, m, rfl⟩ : ∃ t m, s = t ++ [m] := ⟨s.dropLast, s.getLast hs, (List.dropLast_concat_getLast hs).symm⟩
  have hm : m = topN vs := by
    have h1 := topN_ge vs m (hp.mem_iff.mp (by simp))
    have h2 := hp.mem_iff.mpr (topN_mem vs h)
    rcases List.mem_append.mp h2 with h2 | h2
    · have := ordN_le.mp ((List.pairwise_append.mp hw).2.2 _ h2 m (by simp))
      omega
    · simp at h2; exact h2.symm
  subst hm
  refine ⟨t, rfl, ?_⟩
  have hc : vs.count (topN vs) = t.count (topN vs) + 1 := by rw [← hp.count_eq]; simp
  by_cases ht : t = []
  · left
    subst ht
    exact ⟨rfl, by rw [hc]; simp⟩
  · right
    obtain ⟨t', q, rfl⟩ : ∃ t' q, t = t' ++ [q] := ⟨t.dropLast, t.getLast ht, (List.dropLast_concat_getLast ht).symm⟩
    refine ⟨t', q, rfl, ?_⟩
    rw [hc]
    constructor
    · intro e
      subst e
      have : 0 < (t' ++ [topN vs]).count (topN vs) := List.count_pos_iff.mpr (by simp)
      omega
    · intro h2
      have h3 : topN vs ∈ t' ++ [q] := List.count_pos_iff.mp (by omega)
      have hq := topN_ge vs q (hp.mem_iff.mp (by simp))
      rcases List.mem_append.mp h3 with h3 | h3
      · have := ordN_le.mp ((List.pairwise_append.mp (List.pairwise_append.mp hw).1).2.2 _ h3 q (by simp))
        omega
      · simp at h3; exact h3.symm
theorem topI {vs : List Nat} (h : vs ≠ []) : maxI (vs.map fun n => ((n : Nat) : Int)) = ((topN vs : Nat) : Int) := by
  obtain ⟨x, r, rfl⟩ : ∃ x r, vs = x :: r := by
    cases vs with
    | nil => exact absurd rfl h
    | cons x r => exact ⟨x, r, rfl⟩
  rw [List.map_cons]
  refine (maxI_uniq (m := ((topN (x :: r) : Nat) : Int)) ?_ ?_).symm
  · rw [← List.map_cons (f := fun n : Nat => (n : Int))]
    exact List.mem_map.mpr ⟨_, topN_mem _ (by simp), rfl⟩
  · intro y hy
    rw [← List.map_cons (f := fun n : Nat => (n : Int))] at hy
    obtain ⟨z, hz, rfl⟩ := List.mem_map.mp hy
    have := topN_ge _ z hz
    omega
theorem maxA_n {vs : List Nat} (h : vs ≠ []) : dMaxA [nD vs] = some (.int (topN vs : Nat)) := by
  have := maxA_lst (r := vs.map fun n => ((n : Nat) : Int)) (by simpa using h)
  rw [topI h, List.map_map] at this
  exact this
theorem atI_last2 {α : Type} (xs : List α) (u v : α) : atI (xs ++ [u, v]) (-2) = some u := by
  have : ixN (xs ++ [u, v]).length (-2) = some xs.length := by
    unfold ixN
    simp
    omega
  unfold atI
  rw [this]
  simp
theorem count_n {vs : List Nat} {m : Nat} (hl : vs.length ≤ 1000) : dCount (nD vs) [.int (m : Nat)] = some (.int (vs.count m : Nat)) := by
  have hp : plains (vs.map fun n => D.int (n : Nat)) = true ∧ deps (vs.map fun n => D.int (n : Nat)) = 0 := by
    clear hl
    induction vs with
    | nil => exact ⟨rfl, rfl⟩
    | cons x r ih => exact ⟨by simp [plains, ih.1, D.plain], by simp [deps, ih.2, D.dep]⟩
  have h2 : (decide (deps (vs.map fun n => D.int (n : Nat)) ≤ 60)) = true := by rw [hp.2]; rfl
  show (if (plains (vs.map fun n => D.int (n : Nat)) && decide (deps (vs.map fun n => D.int (n : Nat)) ≤ 60) && (D.int (m : Nat)).plain) = true then _ else _) = _
  rw [hp.1, h2]
  simp only [D.plain, Bool.and_self, if_true]
  congr 3
  rw [List.countP_map, List.count]
  congr 1
  funext n
  simp only [Function.comp_def, eqv_nat]
  rw [Bool.eq_iff_iff]
  simp
theorem countK_n {vs : List Nat} {m : Nat} : dCountT (.ktup (vs.map fun n => .int (n : Nat))) [.int (m : Nat)] = some (.int (vs.count m : Nat)) := by
  have hp : plains (vs.map fun n => D.int (n : Nat)) = true ∧ deps (vs.map fun n => D.int (n : Nat)) = 0 := by
    induction vs with
    | nil => exact ⟨rfl, rfl⟩
    | cons x r ih => exact ⟨by simp [plains, ih.1, D.plain], by simp [deps, ih.2, D.dep]⟩
  have h2 : (decide (deps (vs.map fun n => D.int (n : Nat)) ≤ 60)) = true := by rw [hp.2]; rfl
  show (if (plains (vs.map fun n => D.int (n : Nat)) && decide (deps (vs.map fun n => D.int (n : Nat)) ≤ 60) && (D.int (m : Nat)).plain) = true then _ else _) = _
  rw [hp.1, h2]
  simp only [D.plain, Bool.and_self, if_true]
  congr 3
  rw [List.countP_map, List.count]
  congr 1
  funext n
  simp only [Function.comp_def, eqv_nat]
  rw [Bool.eq_iff_iff]
  simp
theorem fine_K (xs : List Nat) : (D.ktup (xs.map fun n => D.int (n : Nat))).fine = true := (fine_n xs).2
theorem dIn_nK {x : Nat} {xs : List Nat} : dIn (.int (x : Nat)) (.ktup (xs.map fun n => D.int (n : Nat))) = some (.bl (decide (x ∈ xs))) := by
  have f1 := fine_nat x
  have f2 := fine_K xs
  simp only [dIn, dInB, f1, f2, Bool.and_self, if_true, Option.map_some, hasD_n]
theorem dNotIn_nK {x : Nat} {xs : List Nat} : dNotIn (.int (x : Nat)) (.ktup (xs.map fun n => D.int (n : Nat))) = some (.bl (!decide (x ∈ xs))) := by
  have f1 := fine_nat x
  have f2 := fine_K xs
  simp only [dNotIn, dInB, f1, f2, Bool.and_self, if_true, Option.map_some, hasD_n]
end Mi

set_option Elab.async false
set_option linter.all false
set_option maxRecDepth 100000
set_option maxHeartbeats 1000000
namespace Mi
open PySem PySem.Spec PyProof.Rows PyProof.V L2
/-! ### (a[i], b, ..) = (x, y, ..): targets that store into own dicts -/
abbrev Hv := D → En → Mh → Rs En
def HP (c : Cn) (F : Hp) (am : List Addr) (Hk : Hp) (n : Nat) (r : Rs En) (Q : L2.St → Hp → Prop) : Prop := match r with
  | .ok env' mh' => ∀ σ' am' Hk' H', Go am am' → Le Hk Hk' → Rl c F am' Hk' H' σ' env' mh' → σ'.length = n → Q σ' H'
  | _ => False
structure SH (c : Cn) (X : Cx) (tg : Expr) (t : Hv) : Prop where
  ex : ∃ g : TG, PG X tg g ∧ ∀ F am Hk H σ env mh v d (Q : L2.St → Hp → Prop), Rl c F am Hk H σ env mh → Dq c am Hk v d → HP c F am Hk σ.length (t d env mh) Q → g v σ H Q
structure SHs (c : Cn) (X : Cx) (tgs : List Expr) (n : Nat) (t : List D → En → Mh → Rs En) : Prop where
  ex : ∃ g : TGs, PGs X tgs g ∧ ∀ F am Hk H σ env mh vs ds (Q : L2.St → Hp → Prop), Rl c F am Hk H σ env mh → DqAll c am Hk vs ds → HP c F am Hk σ.length (t ds env mh) Q → g vs σ H Q
def hName (i : Nat) : Hv := fun d env mh => match gSet i d env with
  | some env1 => .ok env1 mh
  | none => .no
def hSub (i : Nat) (mk : Ev) : Hv := fun d env mh => match env[i]? with
  | some (.od t ks vs) => (noEr (mk env mh)).bind fun k mh1 => if ks.length < LIM then (match dPutD t ks vs k d with
      | some r => .ok (env.set i (.od t r.1 r.2)) mh1
      | none => .no) else .no
  | _ => .no
def hsNil : List D → En → Mh → Rs En := fun ds env mh => match ds with
  | [] => .ok env mh
  | _ => .no
def hsCons (t : Hv) (u : List D → En → Mh → Rs En) : List D → En → Mh → Rs En := fun ds env mh => match ds with
  | d :: r => (t d env mh).bind fun env1 mh1 => u r env1 mh1
  | [] => .no
section
variable {c : Cn} {X : Cx} {W : WX}
theorem sh_name {i : Nat} {x : Str} {pos : Pos} (h : SG c X (.Name x pos) (gSet i) [i]) : SH c X (.Name x pos) (hName i) := by
  obtain ⟨g, pg, k⟩ := h.ex
  refine ⟨g, pg, fun F am Hk H σ env mh v d Q R q h => ?_⟩
  unfold hName at h
  cases hg : gSet i d env with
  | none => rw [hg] at h; exact h.elim
  | some env1 =>
    rw [hg] at h
    exact k F am Hk H σ env mh v d env1 Q R q hg fun σ' R' hl _ => h σ' am Hk H (Go.refl _) (Le.refl _) R' hl
theorem sh_sub {i : Nat} {x : Str} {ek : Expr} {mk : Ev} {p pos : Pos} (hu : X.A.units + 64 < cLine) (hk : SE c W0 X ek mk) (hN : X.N[i]? = some x := by rfl) (hv : Vis X.env.scope x := by first | exact Or.inl rfl | exact Or.inr (Or.inl rfl) | exact Or.inr (Or.inr rfl))
    (hd : (x == ("__debug__" : Str)) = false := by decide) (hcd : (x == ("__classdict__" : Str)) = false := by decide)
    (ha : ∀ v, assign (.Subscript (.Name x p) ek pos) X.env v = (do
      let ov ← holding [v] (eval (.Name x p) X.env)
      let iv ← holding [v, ov] (eval ek X.env)
      standAt pos
      holding [v, ov, iv] (setItem ov iv v)
      release [v, ov, iv] []) := by intro _; rfl) : SH c X (.Subscript (.Name x p) ek pos) (hSub i mk) := by
  obtain ⟨tk, pk, kk⟩ := hk
  refine ⟨_, pg_sub (pe_var hN hv hd hcd) pk (set_dict (by omega)) ha, fun F am Hk H σ env mh v d Q R q h => ?_⟩
  unfold hSub at h
  cases hi : env[i]? with
  | none => rw [hi] at h; exact h.elim
  | some s =>
    rw [hi] at h
    cases s with
    | od t ks vs =>
      simp only at h
      obtain ⟨a, ea, _⟩ := od_at R hi
      refine ⟨_, ea, ?_⟩
      cases hm : mk env mh with
      | no => rw [hm] at h; exact h.elim
      | er y m1 => rw [hm] at h; exact h.elim
      | ok dk mh1 =>
        rw [hm] at h
        simp only [noEr, Rs.bind] at h
        refine kk F am Hk H σ env mh _ R (gp_of hm fun vk am2 Hk2 H2 g2 e2 R2 q2 => ?_)
        obtain ⟨a', ea', hka, hfa, haa, hh⟩ := od_at R2 hi
        rw [ea] at ea'
        cases ea'
        by_cases hl : ks.length < LIM
        case neg => rw [if_neg hl] at h; exact h.elim
        rw [if_pos hl] at h
        have hLs := Nat.lt_of_lt_of_le hl LIM_le
        have qd := q.up g2 e2
        rcases hh with ⟨rfl, kvs, hH, ok, rfl, qs⟩ | ⟨rfl, kvs, hH, ok, rfl, qs⟩
        · simp only [dPutD] at h
          cases hkk : keyOf dk with
          | none => rw [hkk] at h; exact h.elim
          | some kk' =>
            rw [hkk] at h
            obtain ⟨rfl, okk, rfl⟩ := keyOf_q q2 hkk
            obtain ⟨p1, p2⟩ := putL_ok (f := keyOf) (g := keyD) keyOf_keyD (k := kk') qd qs
            simp only [Option.map_some] at h
            refine ⟨a, _, rfl, .inl ⟨kvs, kk', hH, rfl, by simpa using hLs, rfl⟩, ?_⟩
            refine h σ am2 Hk2 _ g2 e2 (R2.write hi rfl ea ⟨a, rfl, hka, hfa, haa, .inl ⟨rfl, _, upd_same, fun p hp => ?_, p1, p2⟩⟩ rfl) rfl
            rcases mem_putK hp with e | ⟨q, hq, e⟩
            · rw [e]; exact okk
            · rw [← e]; exact ok q hq
        · simp only [dPutD] at h
          cases hkk : keyT dk with
          | none => rw [hkk] at h; exact h.elim
          | some kk' =>
            rw [hkk] at h
            cases dk <;> first | (cases hkk; done) | skip
            cases q2 with | tup s1 qk =>
            obtain ⟨rfl, okk, rfl⟩ := keysOf_q qk hkk
            obtain ⟨p1, p2⟩ := putL_ok (f := keyT) (g := fun k => .tup (k.map keyD)) keyT_tup (k := kk') qd qs
            simp only [Option.map_some] at h
            refine ⟨a, _, rfl, .inr ⟨kvs, kk', _, hH, rfl, R2.known _ _ s1, by simpa using hLs, rfl⟩, ?_⟩
            refine h σ am2 Hk2 _ g2 e2 (R2.write hi rfl ea ⟨a, rfl, hka, hfa, haa, .inr ⟨rfl, _, upd_same, fun p hp k hk => ?_, p1, p2⟩⟩ rfl) rfl
            rcases mem_putK hp with e | ⟨q, hq, e⟩
            · rw [e] at hk; exact okk k hk
            · rw [← e] at hk; exact ok q hq k hk
    | _ => exact h.elim
theorem shs_nil : SHs c X [] 0 hsNil := ⟨⟨_, pgs_nil, fun F am Hk H σ env mh vs ds Q R q h => by
  cases q with
  | nil => exact ⟨rfl, h σ am Hk H (Go.refl _) (Le.refl _) R rfl⟩
  | cons _ _ => exact h.elim⟩⟩
theorem shs_cons {e : Expr} {es : List Expr} {n : Nat} {t : Hv} {u : List D → En → Mh → Rs En} (h1 : SH c X e t) (h2 : SHs c X es n u)
    (hs : (assignEach (e :: es) X.env).map (·.2) = assign e X.env :: (assignEach es X.env).map (·.2) := by rfl) : SHs c X (e :: es) (n + 1) (hsCons t u) := by
  obtain ⟨g, pg, k⟩ := h1
  obtain ⟨gs, pgs, ks⟩ := h2
  refine ⟨_, pgs_cons pg pgs hs, fun F am Hk H σ env mh vs ds Q R q h => ?_⟩
  cases q with
  | nil => exact h.elim
  | cons q1 qs =>
    rename_i v vs d ds
    unfold hsCons at h
    simp only at h
    cases ht : t d env mh with
    | no => rw [ht] at h; exact h.elim
    | er y m1 => rw [ht] at h; exact h.elim
    | ok env1 mh1 =>
      rw [ht] at h
      simp only [Rs.bind] at h
      refine ⟨v, vs, rfl, ?_⟩
      refine k F am Hk H σ env mh v d _ R q1 ?_
      rw [ht]
      refine fun σ' am' Hk' H' g1 e1 R1 hl => ks F am' Hk' H' σ' env1 mh1 vs ds Q R1 (qs.up g1 e1) ?_
      cases hu : u ds env1 mh1 with
      | no => rw [hu] at h; exact h.elim
      | er y m1 => rw [hu] at h; exact h.elim
      | ok env2 mh2 =>
        rw [hu] at h
        exact fun σ2 am2 Hk2 H2 g2 e2 R2 hl2 => h σ2 am2 Hk2 H2 (g1.trans g2) (e1.trans e2) R2 (hl2.trans hl)
/-- all at once, then stored in order -/
def mAsgO (u : List D → En → Mh → Rs En) (n : Nat) (ms : Av) : Sv := fun env mh => (ms env mh).bindS fun ds mh1 => if ds.length = n then (match u ds env mh1 with
  | .ok env1 mh2 => .nx env1 mh2
  | _ => .no) else .no
theorem ss_asgO {n : Nat} {u : List D → En → Mh → Rs En} {ts es : List Expr} {ms : Av} {pt pos : Pos} {kt k2 : Nat} {pt2 : Pos} (hc : X.calm = true) (hu : SHs c X ts n u) (he : SA c W X es ms) (hz : n ≤ 100 := by decide)
    (hn : (assignEach ts X.env).length = n := by rfl) (hst : (assignEach ts X.env).findIdx? (·.1) = none := by rfl)
    (hw : swappedStores [.Tuple ts kt pt] (.Tuple es k2 pt2) X.env = pure none := by rfl)
    (hs : swapsWithSole [.Tuple ts kt pt] (.Tuple es k2 pt2) pos.line X.env = pure false := by rfl)
    (h1 : (assignEach [.Tuple ts kt pt] X.env).map (·.2) = [assign (.Tuple ts kt pt) X.env] := by rfl) :
    SS c W X (.Assign [.Tuple ts kt pt] (.Tuple es k2 pt2) pos) (mAsgO u n ms) := by
  obtain ⟨t, pa, k⟩ := he
  obtain ⟨g, pg, kg⟩ := hu
  refine ⟨_, ps_parO hc pg pa hz hn hst hw hs h1, fun F am Hk H σ env mh Dn R h => ?_⟩
  unfold tParO
  refine k F am Hk H σ env mh _ R (SP.step h fun ds mh1 er vs am1 Hk1 H1 g1 e1 R1 q1 h2 => ?_)
  by_cases hl : ds.length = n
  · rw [if_pos hl] at h2
    refine ⟨by rw [q1.length, hl], kg F am1 Hk1 H1 σ env mh1 vs ds _ R1 q1 ?_⟩
    cases hu : u ds env mh1 with
    | no => rw [hu] at h2; exact h2.elim
    | er y m1 => rw [hu] at h2; exact h2.elim
    | ok env2 mh2 =>
      rw [hu] at h2
      exact h2
  · rw [if_neg hl] at h2; exact h2.elim
end
/-! ### sorted(set(xs)): xs a list of pairs of small numbers -/
def natP : D → Option (Nat × Nat)
  | .tup [.int (.ofNat a), .int (.ofNat b)] => if a < 64 ∧ b < 64 then some (a, b) else none
  | _ => none
def natPs : List D → Option (List (Nat × Nat))
  | [] => some []
  | d :: ds => (natP d).bind fun p => (natPs ds).map (p :: ·)
theorem natP_some {d : D} {p : Nat × Nat} (h : natP d = some p) : d = plD p ∧ p.1 < 64 ∧ p.2 < 64 := by
  unfold natP at h
  split at h
  · split at h
    · cases h
      rename_i hh
      exact ⟨rfl, hh⟩
    · cases h
  · cases h
theorem natPs_some : ∀ {ds : List D} {ps : List (Nat × Nat)}, natPs ds = some ps → ds = ps.map plD ∧ ∀ p ∈ ps, p.1 < 64 ∧ p.2 < 64
  | [], ps, h => by cases h; exact ⟨rfl, fun _ h => nomatch h⟩
  | d :: ds, ps, h => by
    unfold natPs at h
    cases hp : natP d with
    | none => rw [hp] at h; cases h
    | some p =>
      rw [hp] at h
      simp only [Option.bind_some] at h
      cases hq : natPs ds with
      | none => rw [hq] at h; cases h
      | some qs =>
        rw [hq] at h
        cases h
        obtain ⟨e1, e2⟩ := natP_some hp
        obtain ⟨e3, e4⟩ := natPs_some hq
        refine ⟨by rw [e1, e3]; rfl, fun x hx => ?_⟩
        rcases List.mem_cons.mp hx with rfl | hx
        · exact e2
        · exact e4 x hx
theorem natPs_map : ∀ {ps : List (Nat × Nat)}, (∀ p ∈ ps, p.1 < 64 ∧ p.2 < 64) → natPs (ps.map plD) = some ps
  | [], _ => rfl
  | p :: ps, h => by
    have h1 := h p List.mem_cons_self
    have e : natP (plD p) = some p := by
      show (if p.1 < 64 ∧ p.2 < 64 then some (p.1, p.2) else none) = _
      rw [if_pos h1]
    rw [List.map_cons]
    unfold natPs
    rw [e, natPs_map fun q hq => h q (List.mem_cons_of_mem _ hq)]
    rfl
def ddup : List (Nat × Nat) → List (Nat × Nat)
  | [] => []
  | x :: r => if x ∈ r then ddup r else x :: ddup r
theorem mem_ddup {p : Nat × Nat} : ∀ {xs : List (Nat × Nat)}, p ∈ ddup xs ↔ p ∈ xs
  | [] => Iff.rfl
  | x :: r => by
    have ih := mem_ddup (p := p) (xs := r)
    unfold ddup
    split
    · rename_i h
      rw [ih, List.mem_cons]
      exact ⟨.inr, fun q => q.elim (fun e => e ▸ h) id⟩
    · rw [List.mem_cons, List.mem_cons, ih]
theorem nodup_ddup : ∀ (xs : List (Nat × Nat)), (ddup xs).Nodup
  | [] => List.nodup_nil
  | x :: r => by
    unfold ddup
    split
    · exact nodup_ddup r
    · rename_i h
      exact List.nodup_cons.mpr ⟨fun q => h (mem_ddup.mp q), nodup_ddup r⟩
def uniqP (ps : List (Nat × Nat)) : List (Nat × Nat) := (ddup ps).mergeSort ordP.le
def mSortSetP (m : Ev) : Ev := fun env mh => (m env mh).bind fun d mh1 => match d with
  | .lst ds => match natPs ds with
    | some ps => if ps.length < 64 then .ok (.lst ((uniqP ps).map plD)) mh1 else .no
    | none => .no
  | _ => .no
section
variable {c : Cn} {X : Cx} {W : WX}
theorem pairs_at {am : List Addr} {Hk H : Hp} (le : Le Hk H) : ∀ {ps : List (Nat × Nat)} {vs : List V}, DqAll c am Hk vs (ps.map plD) → ∃ as : List Addr, vs = as.map V.ref ∧ as.length = ps.length ∧ ∀ x ∈ as.zip ps, H x.1 = some (.tup [.int (x.2.1 : Nat), .int (x.2.2 : Nat)]) ∧ Hk x.1 = some (.tup [.int (x.2.1 : Nat), .int (x.2.2 : Nat)])
  | [], vs, q => by cases q; exact ⟨[], rfl, rfl, fun _ h => nomatch h⟩
  | p :: ps, vs, q => by
    cases q with | cons q1 qs =>
    obtain ⟨as, e1, e2, e3⟩ := pairs_at le qs
    cases q1 with | tup s1 q2 =>
    cases q2 with | cons qa q2 =>
    cases q2 with | cons qb q2 =>
    cases q2
    cases qa
    cases qb
    refine ⟨_ :: as, by rw [e1]; rfl, by rw [List.length_cons, List.length_cons, e2], fun x hx => ?_⟩
    rw [List.zip_cons_cons] at hx
    rcases List.mem_cons.mp hx with rfl | hx
    · exact ⟨le _ _ s1, s1⟩
    · exact e3 x hx
theorem uniqP_of {ps : List (Nat × Nat)} {L : List (Nat × Nat)} (hs : L.Pairwise fun a b => ltP a b = true) (hm : ∀ p, p ∈ L ↔ p ∈ ps) : uniqP ps = L := by
  unfold uniqP
  refine ordP.sorted_of (nodup_ddup _) hs fun a => ?_
  rw [mem_ddup, hm]
theorem sortSet_ok {am : List Addr} {Hk H : Hp} (le : Le Hk H) {ps : List (Nat × Nat)} {vs : List V} (q : DqAll c am Hk vs (ps.map plD)) (hb : ∀ p ∈ ps, p.1 < 64 ∧ p.2 < 64) :
    ∃ ks : List (Addr × List Int), vs = ks.map (fun p => V.ref p.1) ∧ ks.length = ps.length ∧ (∀ k ∈ ks, H k.1 = some (.tup (k.2.map V.int)) ∧ Hk k.1 = some (.tup (k.2.map V.int)) ∧ ∃ p ∈ ps, k.2 = [(p.1 : Int), (p.2 : Int)]) ∧ ∀ p ∈ ps, ∃ k ∈ ks, k.2 = [(p.1 : Int), (p.2 : Int)] := by
  obtain ⟨as, e1, e2, e3⟩ := pairs_at le q
  refine ⟨(as.zip ps).map fun x => (x.1, [(x.2.1 : Int), (x.2.2 : Int)]), ?_, by simp [e2], fun k hk => ?_, fun p hp => ?_⟩
  · rw [e1, List.map_map]
    have : as = (as.zip ps).map (·.1) := by rw [List.map_fst_zip]; omega
    conv => lhs; rw [this]
    rw [List.map_map]
    rfl
  · obtain ⟨x, hx, rfl⟩ := List.mem_map.mp hk
    obtain ⟨h1, h2⟩ := e3 x hx
    exact ⟨h1, h2, x.2, (List.of_mem_zip hx).2, rfl⟩
  · obtain ⟨i, hi, rfl⟩ := List.mem_iff_getElem.mp hp
    refine ⟨(as[i], [(ps[i].1 : Int), (ps[i].2 : Int)]), List.mem_map.mpr ⟨(as[i], ps[i]), ?_, rfl⟩, rfl⟩
    exact List.mem_iff_getElem.mpr ⟨i, by rw [List.length_zip]; omega, by rw [List.getElem_zip]⟩
theorem se_sortSetP {e : Expr} {m : Ev} {p p2 pos pos2 : Pos} (hK : X.K = c.K) (hcalm : X.calm = true) (hu : X.A.units + 64 < cLine) (hms : X.mg "sorted" = none) (hmt : X.mg "set" = none) (he : SE c W X e m)
    (hgs : Gl X "sorted" := by rfl) (hgt : Gl X "set" := by rfl)
    (hst : starEach [e] X.env = (false, eval e X.env) :: starEach [] X.env := by rfl) (hpl : (backTo pos2 (starEach [] X.env)).any (·.1) = false := by rfl)
    (hst2 : starEach [.Call (.Name "set" p2) [e] [] pos2] X.env = (false, eval (.Call (.Name "set" p2) [e] [] pos2) X.env) :: starEach [] X.env := by rfl) (hpl2 : (backTo pos (starEach [] X.env)).any (·.1) = false := by rfl) :
    SE c W X (.Call (.Name "sorted" p) [.Call (.Name "set" p2) [e] [] pos2] [] pos) (mSortSetP m) := by
  obtain ⟨t, pe, k⟩ := he
  refine ⟨_, pe_callB (cr_sortedT hcalm) hgs hms PyProof.Rows.boot_sorted (pa_cons (pe_callTy (cr_setOfT hcalm hu) hgt hmt (by decide +kernel) (pa_cons pe pa_nil hst) (by decide) (by decide) hst hpl) pa_nil hst2) (by decide) (by decide) hst2 hpl2, fun F am Hk H σ env mh Q R h => ?_⟩
  refine k F am Hk H σ env mh _ R (GP.step h fun d mh1 er v am1 Hk1 H1 g1 e1 R1 q1 h1 => ?_)
  cases d <;> first | exact h1.elim | skip
  rename_i ds
  simp only at h1
  cases hp : natPs ds with
  | none => rw [hp] at h1; exact h1.elim
  | some ps =>
    rw [hp] at h1
    simp only at h1
    by_cases hl : ps.length < 64
    case neg => rw [if_neg hl] at h1; exact h1.elim
    rw [if_pos hl] at h1
    obtain ⟨eds, hb⟩ := natPs_some hp
    subst eds
    cases q1 with | lst s1 qs =>
    rename_i a vs
    obtain ⟨ks, f1, f2, f3, f4⟩ := sortSet_ok R1.known qs hb
    subst f1
    refine ⟨a, ks, rfl, by rw [hK]; exact .of (R1.known _ _ s1), fun k hk => by rw [hK]; exact .of (f3 k hk).1, by omega, fun b L hb1 hL1 hL2 => ?_⟩
    have R2 := R1.alloc (o := SetTO X.prog X.w b L) hb1
    have hbk := R1.hk_none hb1
    refine ⟨b, L, 2, 64, rfl, upd_same, fun k hk => ?_, by decide, fun k hk => ?_, fun L' p hperm hnd hlen hpw hp1 => ?_⟩
    · rw [hK]
      refine .of ?_
      rw [upd_ne (ne_of_none (f3 k (hL1 k hk)).1 hb1)]
      exact (f3 k (hL1 k hk)).1
    · obtain ⟨q, hq, e⟩ := (f3 k (hL1 k hk)).2.2
      rw [e]
      have := hb q hq
      refine ⟨rfl, fun m hm => ?_⟩
      simp at hm
      rcases hm with rfl | rfl <;> omega
    · -- the list L' is what is told
      have dec : ∀ k ∈ L', ∃ q ∈ ps, k.2 = [(q.1 : Int), (q.2 : Int)] ∧ Hk1 k.1 = some (.tup (k.2.map V.int)) := fun k hk => by
        have h2 := f3 k (hL1 k (hperm.mem_iff.mp hk))
        obtain ⟨q, hq, e⟩ := h2.2.2
        exact ⟨q, hq, e, h2.2.1⟩
      let un : Addr × List Int → Nat × Nat := fun k => ((k.2.getD 0 0).toNat, (k.2.getD 1 0).toNat)
      have hun : ∀ k ∈ L', k.2 = [((un k).1 : Int), ((un k).2 : Int)] ∧ un k ∈ ps := fun k hk => by
        obtain ⟨q, hq, e, _⟩ := dec k hk
        have : un k = q := by
          show ((k.2.getD 0 0).toNat, (k.2.getD 1 0).toNat) = q
          rw [e]
          simp
        rw [this]
        exact ⟨e, hq⟩
      have hU : uniqP ps = L'.map un := by
        refine uniqP_of ?_ fun q => ?_
        · rw [List.pairwise_map]
          have hnd' : L'.Pairwise fun a b => a.2 ≠ b.2 := List.pairwise_map.mp hnd
          refine (hpw.and hnd').imp_of_mem fun {x y} hx hy hxy => ?_
          obtain ⟨hx1, hx2⟩ := hun x hx
          obtain ⟨hy1, hy2⟩ := hun y hy
          have bx := hb _ hx2
          have bY := hb _ hy2
          have h3 := hxy.1
          have h4 := hxy.2
          rw [hx1, hy1] at h3 h4
          rw [code_pair, code_pair] at h3
          unfold ltP
          refine decide_eq_true ?_
          by_cases e1 : (un x).1 = (un y).1
          · right
            refine ⟨e1, ?_⟩
            have : (un x).2 ≠ (un y).2 := fun e2 => h4 (by rw [e1, e2])
            omega
          · omega
        · rw [List.mem_map]
          constructor
          · rintro ⟨k, hk, rfl⟩
            exact (hun k hk).2
          · intro hq
            obtain ⟨k, hk, e⟩ := f4 q hq
            obtain ⟨k', hk', e'⟩ := List.mem_map.mp (hL2 k hk)
            have hk2 : k' ∈ L' := hperm.mem_iff.mpr hk'
            refine ⟨k', hk2, ?_⟩
            have h5 := (hun k' hk2).1
            rw [e', e] at h5
            simp at h5
            exact Prod.ext (by omega) (by omega)
      rw [hU] at h1
      have qL : DqAll c am1 (upd Hk1 b (SetTO X.prog X.w b L)) (L'.map fun q => V.ref q.1) ((L'.map un).map plD) := by
        have le2 : Le Hk1 (upd Hk1 b (SetTO X.prog X.w b L)) := Le.new hbk
        clear hU hpw hnd hperm hlen h1
        induction L' with
        | nil => exact .nil
        | cons k L' ih =>
          refine .cons ?_ (ih (fun x hx => dec x (List.mem_cons_of_mem _ hx)) fun x hx => hun x (List.mem_cons_of_mem _ hx))
          obtain ⟨q, hq, e, hH⟩ := dec k List.mem_cons_self
          have h6 := (hun k List.mem_cons_self).1
          rw [h6] at hH
          exact .tup (le2 _ _ hH) (.cons (.int _) (.cons (.int _) .nil))
      refine h1 (.ref p) am1 _ _ (Go.refl _) ?_ (R2.alloc hp1) (dq_lst (R2.hk_none hp1) qL)
      exact (Le.new hbk).trans (Le.new (R2.hk_none hp1))
end
@[simp] theorem S_sortSetP {env : En} {mh : Mh} {P : D → Mh → Prop} {a : Ev} : (mSortSetP a env mh).S P = (a env mh).S fun d m1 => match d with | .lst ds => (match natPs ds with | some ps => (if ps.length < 64 then P (.lst ((uniqP ps).map plD)) m1 else False) | none => False) | _ => False := by
  unfold mSortSetP
  rw [S_bind]
  congr 1
  funext d m1
  cases d <;> try rfl
  rename_i ds
  simp only
  cases natPs ds with
  | none => rfl
  | some ps =>
    simp only
    split <;> rfl
@[simp] theorem S_asgO {u : List D → En → Mh → Rs En} {n : Nat} {ms : Av} {env : En} {mh : Mh} {N C : En → Mh → Prop} {T : D → Mh → Prop} : (mAsgO u n ms env mh).S N T C = (ms env mh).S fun ds m1 => if ds.length = n then (u ds env m1).S N else False := by
  unfold mAsgO
  rw [S_bindS]
  congr 1
  funext ds m1
  split
  · cases u ds env m1 <;> rfl
  · rfl
@[simp] theorem S_hsNil {env : En} {mh : Mh} {N : En → Mh → Prop} : (hsNil [] env mh).S N = N env mh := rfl
@[simp] theorem S_hsCons {t : Hv} {u : List D → En → Mh → Rs En} {d : D} {r : List D} {env : En} {mh : Mh} {N : En → Mh → Prop} : (hsCons t u (d :: r) env mh).S N = (t d env mh).S fun e m => (u r e m).S N := by
  unfold hsCons
  rw [S_bind]
@[simp] theorem S_hName {i : Nat} {d : D} {env : En} {mh : Mh} {N : En → Mh → Prop} : (hName i d env mh).S N = if i < env.length then N (env.set i (.sh d)) mh else False := by
  unfold hName gSet
  by_cases h : i < env.length
  · rw [if_pos h, if_pos h]; rfl
  · rw [if_neg h, if_neg h]; rfl
@[simp] theorem S_hSub {i : Nat} {mk : Ev} {d : D} {env : En} {mh : Mh} {N : En → Mh → Prop} : (hSub i mk d env mh).S N = match env[i]? with | some (.od t ks vs) => ((mk env mh).S fun k m1 => if ks.length < LIM then (match dPutD t ks vs k d with | some r => N (env.set i (.od t r.1 r.2)) m1 | none => False) else False) | _ => False := by
  unfold hSub
  cases env[i]? with
  | none => rfl
  | some s =>
    cases s <;> try rfl
    rename_i t ks vs
    simp only
    rw [S_bind, S_noEr]
    congr 1
    funext k m1
    split
    · cases dPutD t ks vs k d <;> rfl
    · rfl
end Mi

set_option Elab.async false
set_option linter.all false
set_option maxRecDepth 100000
set_option maxHeartbeats 1000000
namespace Mi
open PySem L2
/-! ### parts: what is reached from a member along beside ones -/
section
variable {α : Type}
inductive Rch (ps : List α) (adj : α → α → Bool) (x : α) : α → Prop
  | refl : x ∈ ps → Rch ps adj x x
  | step {y z : α} : Rch ps adj x y → z ∈ ps → adj y z = true → Rch ps adj x z
variable {ps : List α} {adj : α → α → Bool}
theorem Rch.mem {x y : α} (h : Rch ps adj x y) : y ∈ ps := by cases h <;> assumption
theorem Rch.mem0 {x y : α} (h : Rch ps adj x y) : x ∈ ps := by
  induction h with
  | refl h => exact h
  | step _ _ _ ih => exact ih
theorem Rch.trans {x y z : α} (h : Rch ps adj x y) (h2 : Rch ps adj y z) : Rch ps adj x z := by
  induction h2 with
  | refl _ => exact h
  | step _ a b ih => exact ih.step a b
theorem Rch.one {x y : α} (hx : x ∈ ps) (hy : y ∈ ps) (h : adj x y = true) : Rch ps adj x y := (Rch.refl hx).step hy h
theorem Rch.symm (hs : ∀ a b, adj a b = true → adj b a = true) {x y : α} (h : Rch ps adj x y) : Rch ps adj y x := by
  induction h with
  | refl h => exact .refl h
  | step h1 a b ih => exact (Rch.one a h1.mem (hs _ _ b)).trans ih
noncomputable def reachB (ps : List α) (adj : α → α → Bool) (x y : α) : Bool := @decide (Rch ps adj x y) (Classical.propDecidable _)
theorem reachB_iff {x y : α} : reachB ps adj x y = true ↔ Rch ps adj x y := by unfold reachB; exact @decide_eq_true_iff _ (Classical.propDecidable _)
noncomputable def leastB (o : Ord α) (ps : List α) (adj : α → α → Bool) (x : α) : Bool := ps.all fun y => !(reachB ps adj x y && o.ltb y x)
theorem leastB_iff {o : Ord α} {x : α} : leastB o ps adj x = true ↔ ∀ y, Rch ps adj x y → o.ltb y x = false := by
  unfold leastB
  rw [List.all_eq_true]
  constructor
  · intro h y r
    have := h y r.mem
    rw [reachB_iff.mpr r] at this
    simpa using this
  · intro h y hy
    cases hr : reachB ps adj x y with
    | false => rfl
    | true => rw [h y (reachB_iff.mp hr)]; rfl
noncomputable def partOf (ps : List α) (adj : α → α → Bool) (x : α) : List α := ps.filter (reachB ps adj x)
theorem mem_partOf {x y : α} : y ∈ partOf ps adj x ↔ Rch ps adj x y := by
  unfold partOf
  rw [List.mem_filter, reachB_iff]
  exact ⟨fun h => h.2, fun h => ⟨h.mem, h⟩⟩
noncomputable def partsC (o : Ord α) (ps : List α) (adj : α → α → Bool) : List (List α) := (ps.filter (leastB o ps adj)).map (partOf ps adj)
theorem least_uniq {o : Ord α} (hs : ∀ a b, adj a b = true → adj b a = true) {x y : α} (hx : leastB o ps adj x = true) (hy : leastB o ps adj y = true) (r : Rch ps adj x y) : x = y := by
  have a := leastB_iff.mp hx y r
  have b := leastB_iff.mp hy x (r.symm hs)
  rcases o.tri x y with h | h | h
  · rw [h] at b; cases b
  · exact h
  · rw [h] at a; cases a
/-! labels -/
structure LabOk (o : Ord α) (ps : List α) (adj : α → α → Bool) (nm : α → α) : Prop where
  r : ∀ x ∈ ps, Rch ps adj x (nm x)
  le : ∀ x ∈ ps, o.ltb x (nm x) = false
theorem LabOk.put {o : Ord α} [DecidableEq α] {nm : α → α} (L : LabOk o ps adj nm) {x y : α} (hx : x ∈ ps) (hy : y ∈ ps) (ha : adj x y = true) (hlt : o.ltb (nm y) (nm x) = true) : LabOk o ps adj (fun z => if z = x then nm y else nm z) := by
  refine ⟨fun z hz => ?_, fun z hz => ?_⟩
  · show Rch ps adj z (if z = x then nm y else nm z)
    by_cases e : z = x
    · subst e; rw [if_pos rfl]; exact (Rch.one hz hy ha).trans (L.r y hy)
    · rw [if_neg e]; exact L.r z hz
  · show o.ltb z (if z = x then nm y else nm z) = false
    by_cases e : z = x
    · subst e
      rw [if_pos rfl]
      cases hc : o.ltb z (nm y) with
      | false => rfl
      | true => have := o.trans _ _ _ hc hlt; rw [L.le z hz] at this; cases this
    · rw [if_neg e]; exact L.le z hz
structure LabFin (o : Ord α) (ps : List α) (adj : α → α → Bool) (nm : α → α) : Prop extends LabOk o ps adj nm where
  st : ∀ x ∈ ps, ∀ y ∈ ps, adj x y = true → o.ltb (nm y) (nm x) = false
theorem LabFin.eq {o : Ord α} (hs : ∀ a b, adj a b = true → adj b a = true) {nm : α → α} (L : LabFin o ps adj nm) {x y : α} (r : Rch ps adj x y) : nm y = nm x := by
  induction r with
  | refl _ => rfl
  | @step y z r hz ha ih =>
    rw [← ih]
    have a := L.st y r.mem z hz ha
    have b := L.st z hz y r.mem (hs _ _ ha)
    rcases o.tri (nm y) (nm z) with h | h | h
    · rw [h] at b; cases b
    · exact h.symm
    · rw [h] at a; cases a
theorem LabFin.least {o : Ord α} (hs : ∀ a b, adj a b = true → adj b a = true) {nm : α → α} (L : LabFin o ps adj nm) {x : α} (hx : x ∈ ps) : leastB o ps adj (nm x) = true := by
  refine leastB_iff.mpr fun y r => ?_
  have e : nm y = nm x := L.eq hs ((L.r x hx).trans r)
  rw [← e]
  cases hc : o.ltb y (nm y) with
  | false => rfl
  | true => rw [L.le y r.mem] at hc; cases hc
theorem LabFin.self {o : Ord α} (hs : ∀ a b, adj a b = true → adj b a = true) {nm : α → α} (L : LabFin o ps adj nm) {x : α} (hx : x ∈ ps) (hl : leastB o ps adj x = true) : nm x = x := (least_uniq hs hl (L.least hs hx) (L.r x hx)).symm
theorem LabFin.mem {o : Ord α} (hs : ∀ a b, adj a b = true → adj b a = true) {nm : α → α} (L : LabFin o ps adj nm) (a : α) : a ∈ ps.map nm ↔ a ∈ ps.filter (leastB o ps adj) := by
  rw [List.mem_map, List.mem_filter]
  constructor
  · rintro ⟨x, hx, rfl⟩
    exact ⟨(L.r x hx).mem, L.least hs hx⟩
  · rintro ⟨h1, h2⟩
    exact ⟨a, h1, L.self hs h1 h2⟩
theorem LabFin.part [DecidableEq α] {o : Ord α} (hs : ∀ a b, adj a b = true → adj b a = true) {nm : α → α} (L : LabFin o ps adj nm) {x : α} (hx : x ∈ ps) (hl : leastB o ps adj x = true) : (ps.filter fun y => decide (nm y = x)) = partOf ps adj x := by
  unfold partOf
  refine List.filter_congr fun y hy => ?_
  rw [Bool.eq_iff_iff, decide_eq_true_iff, reachB_iff]
  constructor
  · intro e
    have := L.r y hy
    rw [e] at this
    exact this.symm hs
  · intro r
    rw [L.eq hs r]
    exact L.self hs hx hl
/-! flooding with a stack -/
structure FloodI (ps : List α) (adj : α → α → Bool) (s0 : α) (M0 met part line : List α) : Prop where
  nd : (part ++ line).Nodup
  mem : ∀ y, y ∈ met ↔ y ∈ M0 ∨ y ∈ part ∨ y ∈ line
  r : ∀ y, y ∈ part ∨ y ∈ line → Rch ps adj s0 y
  cl : ∀ h ∈ part, ∀ z ∈ ps, adj h z = true → z ∈ part ∨ z ∈ line
  st : s0 ∈ part ∨ s0 ∈ line
structure FloodJ (ps : List α) (adj : α → α → Bool) (s0 : α) (M0 : List α) (here : α) (don met part line : List α) : Prop where
  nd : (part ++ line).Nodup
  mem : ∀ y, y ∈ met ↔ y ∈ M0 ∨ y ∈ part ∨ y ∈ line
  r : ∀ y, y ∈ part ∨ y ∈ line → Rch ps adj s0 y
  cl : ∀ h ∈ part, h ≠ here → ∀ z ∈ ps, adj h z = true → z ∈ part ∨ z ∈ line
  st : s0 ∈ part ∨ s0 ∈ line
  hp : here ∈ part
  dn : ∀ z ∈ don, z ∈ ps → adj here z = true → z ∈ part ∨ z ∈ line
variable {s0 here z : α} {M0 don met part line : List α}
theorem FloodI.start (h : s0 ∈ ps) : FloodI ps adj s0 M0 (M0 ++ [s0]) [] [s0] :=
  ⟨by simp, fun y => by simp, fun y hy => by
    rcases hy with hy | hy
    · cases hy
    · rw [List.mem_singleton.mp hy]; exact .refl h, (fun h hh => nomatch hh), .inr (List.mem_singleton_self _)⟩
theorem FloodI.pop (F : FloodI ps adj s0 M0 met part (line ++ [here])) : FloodJ ps adj s0 M0 here [] met (part ++ [here]) line := by
  have sw : ∀ y, (y ∈ part ++ [here] ∨ y ∈ line) ↔ (y ∈ part ∨ y ∈ line ++ [here]) := fun y => by
    simp only [List.mem_append, List.mem_singleton]
    constructor
    · rintro ((h | h) | h)
      · exact .inl h
      · exact .inr (.inr h)
      · exact .inr (.inl h)
    · rintro (h | h | h)
      · exact .inl (.inl h)
      · exact .inr h
      · exact .inl (.inr h)
  refine ⟨?_, fun y => (F.mem y).trans ?_, fun y hy => F.r y ((sw y).mp hy), fun h hh hn z hz ha => (sw z).mpr (F.cl h ?_ z hz ha), (sw s0).mpr F.st, by simp, fun z hz => by cases hz⟩
  · have hp : (part ++ [here] ++ line).Perm (part ++ (line ++ [here])) := by
      rw [List.append_assoc]
      exact List.Perm.append_left part List.perm_append_comm
    exact hp.symm.nodup F.nd
  · rw [sw y]
  · rcases List.mem_append.mp hh with h | h
    · exact h
    · exact absurd (List.mem_singleton.mp h) hn
theorem FloodJ.add (F : FloodJ ps adj s0 M0 here don met part line) (hz : z ∈ ps) (hm : z ∉ met) (ha : adj here z = true) : FloodJ ps adj s0 M0 here (don ++ [z]) (met ++ [z]) part (line ++ [z]) := by
  have hn : z ∉ part ∧ z ∉ line := ⟨fun h => hm ((F.mem z).mpr (.inr (.inl h))), fun h => hm ((F.mem z).mpr (.inr (.inr h)))⟩
  have up : ∀ y, y ∈ part ∨ y ∈ line → y ∈ part ∨ y ∈ line ++ [z] := fun y h => h.imp id fun h => List.mem_append_left _ h
  refine ⟨?_, fun y => ?_, fun y hy => ?_, fun h hh hne w hw haw => up w (F.cl h hh hne w hw haw), up _ F.st, F.hp, fun w hw hwp haw => ?_⟩
  · rw [← List.append_assoc, List.nodup_append]
    refine ⟨F.nd, by simp, fun a h b hb e => ?_⟩
    have hb := List.mem_singleton.mp hb
    subst hb
    subst e
    rcases List.mem_append.mp h with h | h
    · exact hn.1 h
    · exact hn.2 h
  · rw [List.mem_append, F.mem y, List.mem_append, List.mem_singleton]
    constructor
    · rintro ((h | h | h) | h)
      · exact .inl h
      · exact .inr (.inl h)
      · exact .inr (.inr (.inl h))
      · exact .inr (.inr (.inr h))
    · rintro (h | h | h | h)
      · exact .inl (.inl h)
      · exact .inl (.inr (.inl h))
      · exact .inl (.inr (.inr h))
      · exact .inr h
  · rcases hy with hy | hy
    · exact F.r y (.inl hy)
    · rcases List.mem_append.mp hy with hy | hy
      · exact F.r y (.inr hy)
      · rw [List.mem_singleton.mp hy]
        exact (F.r here (.inl F.hp)).step hz ha
  · rcases List.mem_append.mp hw with hw | hw
    · exact up w (F.dn w hw hwp haw)
    · exact .inr (List.mem_append_right _ hw)
theorem FloodJ.skip (hM : ∀ y ∈ M0, ¬ Rch ps adj s0 y) (F : FloodJ ps adj s0 M0 here don met part line) (h : z ∈ ps → adj here z = true → z ∈ met) : FloodJ ps adj s0 M0 here (don ++ [z]) met part line := by
  refine ⟨F.nd, F.mem, F.r, F.cl, F.st, F.hp, fun w hw hwp haw => ?_⟩
  rcases List.mem_append.mp hw with hw | hw
  · exact F.dn w hw hwp haw
  · have hw := List.mem_singleton.mp hw
    subst hw
    rcases (F.mem w).mp (h hwp haw) with h1 | h1
    · exact absurd ((F.r here (.inl F.hp)).step hwp haw) (hM w h1)
    · exact h1
theorem FloodJ.done (F : FloodJ ps adj s0 M0 here don met part line) (h : ∀ z ∈ ps, adj here z = true → z ∈ don) : FloodI ps adj s0 M0 met part line := by
  classical
  refine ⟨F.nd, F.mem, F.r, fun x hx z hz ha => ?_, F.st⟩
  by_cases e : x = here
  · subst e; exact F.dn z (h z hz ha) hz ha
  · exact F.cl x hx e z hz ha
theorem FloodI.len (hp : ps.Nodup) (F : FloodI ps adj s0 M0 met part line) : part.length + line.length ≤ ps.length := by
  rw [← List.length_append]
  exact List.Nodup.length_le_of_subset F.nd fun y hy => (F.r y (List.mem_append.mp hy)).mem
theorem FloodI.all (F : FloodI ps adj s0 M0 met part []) (y : α) : y ∈ part ↔ Rch ps adj s0 y := by
  constructor
  · intro h; exact F.r y (.inl h)
  · intro h
    induction h with
    | refl _ => exact F.st.resolve_right (by simp)
    | step r hz ha ih => exact (F.cl _ ih _ hz ha).resolve_right (by simp)
theorem FloodI.part_eq {o : Ord α} (hr : ps.Pairwise fun a b => o.ltb a b = true) (F : FloodI ps adj s0 M0 met part []) : part.mergeSort o.le = partOf ps adj s0 := by
  refine o.sorted_of (by simpa using F.nd) (hr.filter _) fun a => ?_
  rw [F.all a]
  exact mem_partOf.symm
theorem FloodI.met_eq (F : FloodI ps adj s0 M0 met part []) (y : α) : y ∈ met ↔ y ∈ M0 ∨ Rch ps adj s0 y := by
  rw [F.mem y, F.all y]
  simp
structure OutI (o : Ord α) (ps : List α) (adj : α → α → Bool) (pre met : List α) (found : List (List α)) : Prop where
  mem : ∀ y, y ∈ met ↔ ∃ x ∈ pre, Rch ps adj x y
  fo : found = (pre.filter (leastB o ps adj)).map (partOf ps adj)
variable {o : Ord α} {pre post : List α} {found : List (List α)}
theorem OutI.old (hs : ∀ a b, adj a b = true → adj b a = true) (I : OutI o ps adj pre met found) (hr : ps.Pairwise fun a b => o.ltb a b = true) (e : ps = pre ++ s0 :: post) (h : s0 ∈ met) : OutI o ps adj (pre ++ [s0]) met found := by
  obtain ⟨x, hx, r⟩ := (I.mem s0).mp h
  refine ⟨fun y => ?_, ?_⟩
  · rw [I.mem y]
    constructor
    · rintro ⟨x, hx, r⟩; exact ⟨x, List.mem_append_left _ hx, r⟩
    · rintro ⟨x', hx', r'⟩
      rcases List.mem_append.mp hx' with hx' | hx'
      · exact ⟨x', hx', r'⟩
      · rw [List.mem_singleton.mp hx'] at r'
        exact ⟨x, hx, r.trans r'⟩
  · rw [I.fo, List.filter_append, List.filter_cons_of_neg, List.filter_nil, List.append_nil]
    intro hl
    have := leastB_iff.mp hl x (r.symm hs)
    rw [e] at hr
    rw [(List.pairwise_append.mp hr).2.2 x hx s0 (List.mem_cons_self ..)] at this
    cases this
theorem OutI.new (hs : ∀ a b, adj a b = true → adj b a = true) (I : OutI o ps adj pre met found) (hr : ps.Pairwise fun a b => o.ltb a b = true) (e : ps = pre ++ s0 :: post) (h : s0 ∉ met) (hm : ∀ y, y ∈ M0 ↔ y ∈ met ∨ Rch ps adj s0 y) : OutI o ps adj (pre ++ [s0]) M0 (found ++ [partOf ps adj s0]) := by
  have hsp : s0 ∈ ps := by rw [e]; simp
  refine ⟨fun y => ?_, ?_⟩
  · rw [hm, I.mem y]
    constructor
    · rintro (⟨x, hx, r⟩ | r)
      · exact ⟨x, List.mem_append_left _ hx, r⟩
      · exact ⟨s0, by simp, r⟩
    · rintro ⟨x', hx', r'⟩
      rcases List.mem_append.mp hx' with hx' | hx'
      · exact .inl ⟨x', hx', r'⟩
      · rw [List.mem_singleton.mp hx'] at r'
        exact .inr r'
  · rw [List.filter_append, List.filter_cons_of_pos, List.filter_nil, List.map_append, I.fo]
    · rfl
    · refine leastB_iff.mpr fun y r => ?_
      cases hc : o.ltb y s0 with
      | false => rfl
      | true =>
        exfalso
        refine h ((I.mem s0).mpr ⟨y, ?_, r.symm hs⟩)
        have hy := r.mem
        rw [e] at hy hr
        rcases List.mem_append.mp hy with h1 | h1
        · exact h1
        · rcases List.mem_cons.mp h1 with rfl | h1
          · rw [o.irrefl] at hc; cases hc
          · have := (List.pairwise_cons.mp (List.pairwise_append.mp hr).2.1).1 y h1
            have := o.trans _ _ _ this hc
            rw [o.irrefl] at this
            cases this
theorem OutI.no (hs : ∀ a b, adj a b = true → adj b a = true) (I : OutI o ps adj pre met found) (h : s0 ∉ met) : ∀ y ∈ met, ¬ Rch ps adj s0 y := fun y hy r => by
  obtain ⟨x, hx, r'⟩ := (I.mem y).mp hy
  exact h ((I.mem s0).mpr ⟨x, hx, r'.trans (r.symm hs)⟩)
theorem OutI.fin (I : OutI o ps adj ps met found) : found = partsC o ps adj := I.fo
/-- a part begins with its least -/
theorem part_head (hr : ps.Pairwise fun a b => o.ltb a b = true) {x : α} (hx : x ∈ ps) (hl : leastB o ps adj x = true) : ∃ t, partOf ps adj x = x :: t := by
  have hm : x ∈ partOf ps adj x := mem_partOf.mpr (.refl hx)
  have hp : (partOf ps adj x).Pairwise fun a b => o.ltb a b = true := hr.filter _
  cases hq : partOf ps adj x with
  | nil => rw [hq] at hm; cases hm
  | cons y t =>
    rw [hq] at hm hp
    have hy : y ∈ partOf ps adj x := by rw [hq]; simp
    rcases List.mem_cons.mp hm with rfl | h
    · exact ⟨t, rfl⟩
    · have a := (List.pairwise_cons.mp hp).1 x h
      rw [leastB_iff.mp hl y (mem_partOf.mp hy)] at a
      cases a
/-- the parts are all of it -/
theorem parts_flat [DecidableEq α] (hs : ∀ a b, adj a b = true → adj b a = true) (hr : ps.Pairwise fun a b => o.ltb a b = true) (wf : ∀ x ∈ ps, ∃ l, leastB o ps adj l = true ∧ Rch ps adj x l) : (partsC o ps adj).flatten.Perm ps := by
  have hn : ps.Nodup := hr.imp fun {a b} hab e => by subst e; rw [o.irrefl] at hab; cases hab
  refine (List.perm_ext_iff_of_nodup ?_ hn).mpr fun a => ?_
  · unfold List.Nodup
    rw [List.pairwise_flatten]
    unfold partsC
    refine ⟨fun l hl => ?_, ?_⟩
    · obtain ⟨x, _, rfl⟩ := List.mem_map.mp hl
      exact hn.filter _
    · rw [List.pairwise_map]
      refine List.Pairwise.imp_of_mem (fun {x y} hx hy hne => ?_) (hn.filter _)
      intro a ha b hb e
      subst e
      have r1 := mem_partOf.mp ha
      have r2 := mem_partOf.mp hb
      exact hne (least_uniq hs (List.mem_filter.mp hx).2 (List.mem_filter.mp hy).2 (r1.trans (r2.symm hs)))
  · rw [List.mem_flatten]
    unfold partsC
    constructor
    · rintro ⟨l, hl, ha⟩
      obtain ⟨x, _, rfl⟩ := List.mem_map.mp hl
      exact (mem_partOf.mp ha).mem
    · intro ha
      obtain ⟨l, h1, h2⟩ := wf a ha
      exact ⟨_, List.mem_map.mpr ⟨l, List.mem_filter.mpr ⟨h2.mem, h1⟩, rfl⟩, mem_partOf.mpr (h2.symm hs)⟩
/-- each reaches a least one -/
theorem least_ex (hr : ps.Pairwise fun a b => o.ltb a b = true) {x : α} (hx : x ∈ ps) : ∃ l, leastB o ps adj l = true ∧ Rch ps adj x l := by
  have hm : x ∈ partOf ps adj x := mem_partOf.mpr (.refl hx)
  have hp : (partOf ps adj x).Pairwise fun a b => o.ltb a b = true := hr.filter _
  cases hq : partOf ps adj x with
  | nil => rw [hq] at hm; cases hm
  | cons y t =>
    have hy : y ∈ partOf ps adj x := by rw [hq]; simp
    have r := mem_partOf.mp hy
    refine ⟨y, leastB_iff.mpr fun z rz => ?_, r⟩
    have hz : z ∈ partOf ps adj x := mem_partOf.mpr (r.trans rz)
    rw [hq] at hp hz
    rcases List.mem_cons.mp hz with rfl | h
    · exact o.irrefl _
    · have a := (List.pairwise_cons.mp hp).1 z h
      cases hc : o.ltb z y with
      | false => rfl
      | true => have := o.trans _ _ _ a hc; rw [o.irrefl] at this; cases this
end
/-! ### lists of places as tuples, sorted -/
def ptD (ps : List (Nat × Nat)) : D := .tup (ps.map plD)
theorem py_pt (ps : List (Nat × Nat)) : (ptD ps).py = .tuple (ps.map fun p => (plD p).py) := by
  unfold ptD
  simp only [D.py]
  rw [pys_map, List.map_map]
  rfl
theorem alike_pls : ∀ (xs ys : List (Nat × Nat)), PySem.W.alikeAll (xs.map fun p => (plD p).py) (ys.map fun p => (plD p).py) = true
  | [], [] => rfl
  | [], _ :: _ => rfl
  | _ :: _, [] => rfl
  | x :: xs, y :: ys => by rw [List.map_cons, List.map_cons, PySem.W.alikeAll, alike_pls xs ys]; rfl
theorem alike_pt (xs ys : List (Nat × Nat)) : PySem.W.alike (ptD xs).py (ptD ys).py = true := by
  rw [py_pt, py_pt]
  unfold PySem.W.alike
  exact alike_pls xs ys
theorem lt_pt_cons {x y : Nat × Nat} {xs ys : List (Nat × Nat)} (h : x ≠ y) : lt (ptD (x :: xs)) (ptD (y :: ys)) = ltP x y := by
  unfold lt
  rw [py_pt, py_pt, PySem.W.dataLt_tuple, List.map_cons, List.map_cons, PySem.W.dataLt_cons alike_pl]
  have e1 : PyData.eqv (plD x).py (plD y).py = decide (x = y) := eqv_pl
  rw [e1, decide_eq_false h, if_neg (by simp)]
  exact lt_pl
theorem pt_plain (ps : List (Nat × Nat)) : (ptD ps).plain = true ∧ (ptD ps).dep ≤ 8 := by
  obtain ⟨a, b⟩ := pls_fine ps
  unfold ptD
  exact ⟨by simp [D.plain, a], by simp [D.dep]; omega⟩
theorem sortable_pt {xs : List (List (Nat × Nat))} (h : xs.length ≤ 1000000) (hne : ∀ x ∈ xs, x ≠ []) : sortable (xs.map ptD) = true := by
  unfold sortable
  have h1 : decide ((xs.map ptD).length ≤ LIM) = true := decide_eq_true (by rw [List.length_map]; exact h)
  have h2 : ((xs.map ptD).all fun d => d.plain && decide (d.dep ≤ 8)) = true := by
    rw [List.all_map]
    refine List.all_eq_true.mpr fun p _ => ?_
    obtain ⟨a, b⟩ := pt_plain p
    simp [a, b]
  have h3 : ((xs.map ptD).all fun a => (xs.map ptD).all fun b => PySem.W.alike a.py b.py) = true := by
    rw [List.all_map]
    refine List.all_eq_true.mpr fun p _ => ?_
    simp only [Function.comp_apply, List.all_map]
    exact List.all_eq_true.mpr fun q _ => alike_pt p q
  have h4 : ((xs.map ptD).all isTupI) = true := by
    rw [List.all_map]
    refine List.all_eq_true.mpr fun p hp => ?_
    cases p with
    | nil => exact absurd rfl (hne _ hp)
    | cons _ _ => rfl
  rw [h1, h2, h3, h4]
  rfl
theorem dSorted_pt {xs : List (List (Nat × Nat))} (h : xs.length ≤ 1000000) (hne : ∀ x ∈ xs, x ≠ []) (hp : xs.Pairwise fun a b => ∃ x s y t, a = x :: s ∧ b = y :: t ∧ ltP x y = true) : dSorted (.lst (xs.map ptD)) = some (.lst (xs.map ptD)) := by
  unfold dSorted
  rw [show itemsA (.lst (xs.map ptD)) = some (xs.map ptD) from rfl]
  simp only [Option.bind_some, if_pos (sortable_pt h hne)]
  rw [List.mergeSort_of_pairwise]
  rw [List.pairwise_map]
  refine hp.imp fun {a b} ⟨x, s, y, t, e1, e2, hlt⟩ => ?_
  subst e1
  subst e2
  have hne : y ≠ x := fun e => by subst e; rw [ltP_irrefl] at hlt; cases hlt
  show (!lt (ptD (y :: t)) (ptD (x :: s))) = true
  rw [lt_pt_cons hne]
  cases hc : ltP y x with
  | false => rfl
  | true => have := ltP_trans hlt hc; rw [ltP_irrefl] at this; cases this
section
variable {ps : List (Nat × Nat)} {adj : Nat × Nat → Nat × Nat → Bool}
theorem parts_ne {x : List (Nat × Nat)} (h : x ∈ partsC ordP ps adj) : x ≠ [] := by
  obtain ⟨y, hy, rfl⟩ := List.mem_map.mp h
  intro e
  have hm := mem_partOf.mpr (Rch.refl (adj := adj) (List.mem_filter.mp hy).1)
  rw [e] at hm
  cases hm
theorem parts_rise (hr : ps.Pairwise fun a b => ltP a b = true) : (partsC ordP ps adj).Pairwise fun a b => ∃ x s y t, a = x :: s ∧ b = y :: t ∧ ltP x y = true := by
  unfold partsC
  rw [List.pairwise_map]
  refine List.Pairwise.imp_of_mem (fun {x y} hx hy hlt => ?_) (hr.filter _)
  obtain ⟨s, e1⟩ := part_head (o := ordP) hr (List.mem_filter.mp hx).1 (List.mem_filter.mp hx).2
  obtain ⟨t, e2⟩ := part_head (o := ordP) hr (List.mem_filter.mp hy).1 (List.mem_filter.mp hy).2
  exact ⟨x, s, y, t, e1, e2, hlt⟩
theorem parts_len : (partsC ordP ps adj).length ≤ ps.length := by
  unfold partsC
  rw [List.length_map]
  exact List.length_filter_le _ _
theorem dSorted_parts (hr : ps.Pairwise fun a b => ltP a b = true) (h : ps.length ≤ 1000000) : dSorted (.lst ((partsC ordP ps adj).map ptD)) = some (.lst ((partsC ordP ps adj).map ptD)) :=
  dSorted_pt (Nat.le_trans parts_len h) (fun _ h => parts_ne h) (parts_rise hr)
end
end Mi

set_option Elab.async false
set_option linter.all false
set_option maxRecDepth 100000
set_option maxHeartbeats 1000000
namespace Mi
open PySem L2
/-! ### comprehensions over two lists, the inner one sifted -/
theorem fz2MapF {α β : Type} (xs : List α) (c : α → D) (ys : α → List β) (c1 : α → β → D) (q : α → β → Bool) (f : α → β → D) {vs vs1 : List Nat} {src src1 : Iv} {t t1 : D → En → Option En} {tst1 : Bv} {elt : Ev} {env : En} {mh : Mh} {P : D → Mh → Prop}
    (h1 : (src env mh).S fun ds m1 => ds = xs.map c ∧ m1 = mh)
    (h4 : ∀ x ∈ xs, ∃ env1, t (c x) (wipeE env vs) = some env1 ∧ ((src1 env1 mh).S fun ds m => ds = (ys x).map (c1 x) ∧ m = mh) ∧ ∀ y ∈ ys x, ∃ env2, t1 (c1 x y) (wipeE env1 vs1) = some env2 ∧ (tst1 env2 mh).S (fun b m => b = q x y ∧ m = mh) ∧ (q x y = true → (elt env2 mh).S fun z m => z = f x y ∧ m = mh))
    (hl : (xs.flatMap fun x => ((ys x).filter (q x)).map (f x)).length ≤ LIM) (hP : P (.lst (xs.flatMap fun x => ((ys x).filter (q x)).map (f x))) mh) (h2 : noOwn env vs = true := by rfl) : (mFz (mCompC2 vs vs1 src t tt src1 t1 tst1 elt) env mh).S P := by
  have key1 : ∀ (env2 : En) (x : α) (ys : List β), (∀ y ∈ ys, ∃ env3, t1 (c1 x y) env2 = some env3 ∧ (tst1 env3 mh).S (fun b m => b = q x y ∧ m = mh) ∧ (q x y = true → (elt env3 mh).S fun z m => z = f x y ∧ m = mh)) → compGo t1 tst1 elt env2 (ys.map (c1 x)) mh = .ok ((ys.filter (q x)).map (f x)) mh := by
    intro env2 x ys
    induction ys with
    | nil => intro _; rfl
    | cons y r ih =>
      intro h
      obtain ⟨env3, a1, a2, a3⟩ := h y List.mem_cons_self
      have ih := ih fun z hz => h z (List.mem_cons_of_mem _ hz)
      rw [List.map_cons]
      unfold compGo
      cases hq : q x y with
      | true =>
        rw [hq] at a2
        rw [List.filter_cons_of_pos hq, List.map_cons]
        simp only [a1, S_eqs a2, noEr, Rs.bind, if_true, S_eqs (a3 hq), ih]
      | false =>
        rw [hq] at a2
        rw [List.filter_cons_of_neg (by rw [hq]; simp)]
        simp only [a1, S_eqs a2, noEr, Rs.bind, if_false, Bool.false_eq_true, ih]
  have key : ∀ xs : List α, (∀ x ∈ xs, ∃ env1, t (c x) (wipeE env vs) = some env1 ∧ ((src1 env1 mh).S fun ds m => ds = (ys x).map (c1 x) ∧ m = mh) ∧ ∀ y ∈ ys x, ∃ env2, t1 (c1 x y) (wipeE env1 vs1) = some env2 ∧ (tst1 env2 mh).S (fun b m => b = q x y ∧ m = mh) ∧ (q x y = true → (elt env2 mh).S fun z m => z = f x y ∧ m = mh)) →
      compGo2 vs1 t tt src1 t1 tst1 elt (wipeE env vs) (xs.map c) mh = .ok (xs.flatMap fun x => ((ys x).filter (q x)).map (f x)) mh := by
    intro xs
    induction xs with
    | nil => intro _; rfl
    | cons x r ih =>
      intro h
      obtain ⟨env1, a1, a2, a3⟩ := h x List.mem_cons_self
      have ih := ih fun y hy => h y (List.mem_cons_of_mem _ hy)
      rw [List.map_cons]
      unfold compGo2
      have a4 : ∀ e, tt e mh = .ok true mh := fun _ => rfl
      have k1 := key1 (wipeE env1 vs1) x (ys x) a3
      simp only [a1, a4, noEr, Rs.bind, if_true, S_eqs a2, List.flatMap_cons, k1, ih]
  unfold mFz mCompC2
  simp only [S_bind]
  refine h1.mono fun ds m1 ⟨e1, e2⟩ => ?_
  subst e1
  subst e2
  rw [if_pos h2, key xs h4]
  simp only [noEr, Rs.bind]
  rw [if_pos hl]
  exact hP
theorem zipD_map {α β : Type} (f : α → D) (g : β → D) (xs : List α) (ys : List β) : zipD (xs.map f) (ys.map g) = (xs.zip ys).map fun x => .tup [f x.1, g x.2] := by
  unfold zipD
  rw [List.zipWith_map, List.zip, List.map_zipWith]
theorem zip_next {α : Type} {R : α → α → Prop} : ∀ {xs : List α}, xs.Pairwise R → ∀ x ∈ xs.zip (xs.drop 1), R x.1 x.2
  | [], _, x, h => by cases h
  | [a], _, x, h => by cases h
  | a :: b :: r, hp, x, h => by
    simp only [List.drop_succ_cons, List.drop_zero, List.zip_cons_cons] at h
    rcases List.mem_cons.mp h with rfl | h
    · exact (List.pairwise_cons.mp hp).1 b List.mem_cons_self
    · exact zip_next (List.pairwise_cons.mp hp).2 x h
/-! ### places over sides -/
def piD (x : Int × Int) : D := .tup [.int x.1, .int x.2]
def inI (x : Int × Int) (ps : List (Nat × Nat)) : Bool := ps.any fun p => decide ((p.1 : Int) = x.1 ∧ (p.2 : Int) = x.2)
theorem eqv_pi {x : Int × Int} {p : Nat × Nat} : eqv (plD p) (piD x) = decide ((p.1 : Int) = x.1 ∧ (p.2 : Int) = x.2) := by
  have h1 := eqv_int (i := (p.1 : Int)) (j := x.1)
  have h2 := eqv_int (i := (p.2 : Int)) (j := x.2)
  simp only [eqv, D.py] at h1 h2
  have e : eqv (plD p) (piD x) = (decide ((p.1 : Int) = x.1) && (decide ((p.2 : Int) = x.2) && true)) := by
    simp only [eqv, plD, piD, D.py, pys, PyData.eqv, PyData.eqvAll, h1, h2]
    rfl
  rw [e]
  simp
theorem hasD_pi {x : Int × Int} {ps : List (Nat × Nat)} : hasD (piD x) (ps.map plD) = inI x ps := by
  unfold hasD inI
  rw [List.any_map]
  congr 1
  funext p
  exact eqv_pi
theorem fine_pi {x : Int × Int} : (piD x).fine = true := rfl
@[simp] theorem dNotIn_pi {x : Int × Int} {ps : List (Nat × Nat)} : dNotIn (piD x) (.lst (ps.map plD)) = some (.bl (!inI x ps)) := by
  simp [dNotIn, dInB, fine_pi, (pls_fine2 ps).1, hasD_pi]
@[simp] theorem dNotIn_piT {x : Int × Int} {ps : List (Nat × Nat)} : dNotIn (piD x) (.tup (ps.map plD)) = some (.bl (!inI x ps)) := by
  simp [dNotIn, dInB, fine_pi, (pls_fine2 ps).2, hasD_pi]
theorem inI_iff {x : Int × Int} {ps : List (Nat × Nat)} : inI x ps = true ↔ ∃ p ∈ ps, (p.1 : Int) = x.1 ∧ (p.2 : Int) = x.2 := by
  unfold inI
  simp only [List.any_eq_true, decide_eq_true_eq]
def stR (s : Nat) : Int := if s = 0 then -1 else if s = 2 then 1 else 0
def stC (s : Nat) : Int := if s = 1 then 1 else if s = 3 then -1 else 0
def overI (p : Nat × Nat) (s : Nat) : Int × Int := ((p.1 : Int) + stR s, (p.2 : Int) + stC s)
def overN (p : Nat × Nat) (s : Nat) : Nat × Nat := ((overI p s).1.toNat, (overI p s).2.toNat)
def inR (h w : Nat) (x : Int × Int) : Bool := decide ((0 ≤ x.1 ∧ x.1 < h) ∧ 0 ≤ x.2 ∧ x.2 < w)
def besV (h w : Nat) (p : Nat × Nat) : List (Nat × Nat) := ((List.range 4).filter fun s => inR h w (overI p s)).map (overN p)
theorem over_pl {h w : Nat} {p : Nat × Nat} {s : Nat} (hr : inR h w (overI p s) = true) : piD (overI p s) = plD (overN p s) := by
  unfold inR at hr
  have hr := of_decide_eq_true hr
  unfold piD plD overN
  rw [Int.toNat_of_nonneg hr.1.1, Int.toNat_of_nonneg hr.2.1]
/-- how many steps two places are apart -/
def farV (p q : Nat × Nat) : Int := (if (p.1 : Int) - q.1 < q.1 - p.1 then (q.1 : Int) - p.1 else p.1 - q.1) + (if (p.2 : Int) - q.2 < q.2 - p.2 then (q.2 : Int) - p.2 else p.2 - q.2)
def adjP (p q : Nat × Nat) : Bool := decide (farV p q = 1)
theorem farV_symm {p q : Nat × Nat} : farV p q = farV q p := by
  unfold farV
  split <;> split <;> (try split) <;> (try split) <;> omega
theorem adjP_symm {p q : Nat × Nat} : adjP p q = adjP q p := by unfold adjP; rw [farV_symm]
theorem over_far {p : Nat × Nat} {x : Nat × Nat} : adjP p x = true ↔ ∃ s, s < 4 ∧ (x.1 : Int) = (overI p s).1 ∧ (x.2 : Int) = (overI p s).2 := by
  unfold adjP
  rw [decide_eq_true_eq]
  constructor
  · intro h
    unfold farV at h
    have c : (x.1 + 1 = p.1 ∧ x.2 = p.2) ∨ (x.1 = p.1 ∧ x.2 = p.2 + 1) ∨ (x.1 = p.1 + 1 ∧ x.2 = p.2) ∨ (x.1 = p.1 ∧ x.2 + 1 = p.2) := by
      split at h <;> split at h <;> omega
    rcases c with c | c | c | c
    · exact ⟨0, by omega, by simp [overI, stR, stC]; omega, by simp [overI, stR, stC]; omega⟩
    · exact ⟨1, by omega, by simp [overI, stR, stC]; omega, by simp [overI, stR, stC]; omega⟩
    · exact ⟨2, by omega, by simp [overI, stR, stC]; omega, by simp [overI, stR, stC]; omega⟩
    · exact ⟨3, by omega, by simp [overI, stR, stC]; omega, by simp [overI, stR, stC]; omega⟩
  · rintro ⟨s, hs, e1, e2⟩
    have : s = 0 ∨ s = 1 ∨ s = 2 ∨ s = 3 := by omega
    unfold farV
    rcases this with rfl | rfl | rfl | rfl <;> simp [overI, stR, stC] at e1 e2 <;> split <;> split <;> omega
theorem mem_besV {h w : Nat} {p q : Nat × Nat} : q ∈ besV h w p ↔ adjP p q = true ∧ q.1 < h ∧ q.2 < w := by
  rw [over_far]
  unfold besV
  rw [List.mem_map]
  constructor
  · rintro ⟨s, hs, rfl⟩
    obtain ⟨h1, h2⟩ := List.mem_filter.mp hs
    have h1 := List.mem_range.mp h1
    unfold inR at h2
    have h2 := of_decide_eq_true h2
    refine ⟨⟨s, h1, ?_, ?_⟩, ?_, ?_⟩ <;> unfold overN <;> omega
  · rintro ⟨⟨s, h1, h2, h3⟩, h4, h5⟩
    refine ⟨s, List.mem_filter.mpr ⟨List.mem_range.mpr h1, ?_⟩, ?_⟩
    · unfold inR
      refine decide_eq_true ?_
      omega
    · unfold overN
      obtain ⟨q1, q2⟩ := q
      simp only [Prod.mk.injEq]
      omega
theorem bes_len {h w : Nat} {p : Nat × Nat} : (besV h w p).length ≤ 4 := by
  unfold besV
  rw [List.length_map]
  exact Nat.le_trans (List.length_filter_le _ _) (by simp)
theorem bes_rim {h w : Nat} {p : Nat × Nat} (h1 : p.1 < h) (h2 : p.2 < w) : (besV h w p).length < 4 ↔ p.1 = 0 ∨ p.1 + 1 = h ∨ p.2 = 0 ∨ p.2 + 1 = w := by
  unfold besV
  rw [List.length_map, show List.range 4 = [0, 1, 2, 3] from rfl]
  have i0 : inR h w (overI p 0) = decide (p.1 ≠ 0) := by
    unfold inR overI stR stC; refine decide_eq_decide.mpr ?_; simp; omega
  have i1 : inR h w (overI p 1) = decide (p.2 + 1 ≠ w) := by
    unfold inR overI stR stC; refine decide_eq_decide.mpr ?_; simp; omega
  have i2 : inR h w (overI p 2) = decide (p.1 + 1 ≠ h) := by
    unfold inR overI stR stC; refine decide_eq_decide.mpr ?_; simp; omega
  have i3 : inR h w (overI p 3) = decide (p.2 ≠ 0) := by
    unfold inR overI stR stC; refine decide_eq_decide.mpr ?_; simp; omega
  simp only [List.filter_cons, List.filter_nil, i0, i1, i2, i3]
  generalize e0 : decide (p.1 ≠ 0) = b0
  generalize e1 : decide (p.2 + 1 ≠ w) = b1
  generalize e2 : decide (p.1 + 1 ≠ h) = b2
  generalize e3 : decide (p.2 ≠ 0) = b3
  cases b0 <;> cases b1 <;> cases b2 <;> cases b3 <;> simp at e0 e1 e2 e3 ⊢ <;> omega
/-! hedges -/
def h3D (x : Nat × Nat × Nat) : D := .tup [.int (x.1 : Nat), .int (x.2.1 : Nat), .int (x.2.2 : Nat)]
def hgV (p q : Nat × Nat) : Nat × Nat × Nat := let low := if ltP q p then q else p; (low.1, low.2, if p.1 = q.1 then 1 else 2)
theorem ltP_asymm {p q : Nat × Nat} (h : ltP p q = true) : ltP q p = false := by
  cases hc : ltP q p with
  | false => rfl
  | true => have := ltP_trans h hc; rw [ltP_irrefl] at this; cases this
theorem hgV_symm {p q : Nat × Nat} : hgV p q = hgV q p := by
  unfold hgV
  rcases ltP_tri p q with h | h | h
  · simp only [h, ltP_asymm h, if_true]
    simp only [Bool.false_eq_true, if_false, eq_comm]
  · subst h; rfl
  · simp only [h, ltP_asymm h, if_true]
    simp only [Bool.false_eq_true, if_false, eq_comm]
def adjH (hs : List (Nat × Nat × Nat)) (p q : Nat × Nat) : Bool := adjP p q && !decide (hgV p q ∈ hs)
theorem adjH_symm {hs : List (Nat × Nat × Nat)} : ∀ p q, adjH hs p q = true → adjH hs q p = true := fun p q h => by
  unfold adjH at h ⊢
  rw [adjP_symm, hgV_symm]; exact h
theorem adjH_nil {p q : Nat × Nat} : adjH [] p q = adjP p q := by simp [adjH]
theorem eqv_h3 {a b : Nat × Nat × Nat} : eqv (h3D a) (h3D b) = decide (a = b) := by
  have h1 := eqv_int (i := (a.1 : Int)) (j := (b.1 : Int))
  have h2 := eqv_int (i := (a.2.1 : Int)) (j := (b.2.1 : Int))
  have h3 := eqv_int (i := (a.2.2 : Int)) (j := (b.2.2 : Int))
  simp only [eqv, D.py] at h1 h2 h3
  have e : eqv (h3D a) (h3D b) = (decide ((a.1 : Int) = b.1) && (decide ((a.2.1 : Int) = b.2.1) && (decide ((a.2.2 : Int) = b.2.2) && true))) := by
    simp only [eqv, h3D, D.py, pys, PyData.eqv, PyData.eqvAll, h1, h2, h3]
    rfl
  rw [e]
  obtain ⟨a1, a2, a3⟩ := a
  obtain ⟨b1, b2, b3⟩ := b
  simp only [Prod.mk.injEq]
  by_cases h : a1 = b1 <;> by_cases h' : a2 = b2 <;> by_cases h'' : a3 = b3 <;> simp [h, h', h''] <;> omega
theorem h3s_fine (hs : List (Nat × Nat × Nat)) : plains (hs.map h3D) = true ∧ deps (hs.map h3D) ≤ 1 := by
  induction hs with
  | nil => exact ⟨rfl, by decide⟩
  | cons x r ih =>
    obtain ⟨a, b⟩ := ih
    rw [List.map_cons]
    have h1 : (h3D x).plain = true := rfl
    have h2 : (h3D x).dep = 1 := rfl
    exact ⟨by simp [plains, a, h1], by simp [deps, h2]; omega⟩
theorem hasD_h3 (p : Nat × Nat × Nat) : ∀ ps : List (Nat × Nat × Nat), hasD (h3D p) (ps.map h3D) = decide (p ∈ ps)
  | [] => by simp [hasD]
  | q :: r => by
    have ih := hasD_h3 p r
    unfold hasD at ih ⊢
    rw [List.map_cons, List.any_cons, ih, eqv_h3]
    by_cases h : p = q
    · subst h; simp
    · have h' : ¬ q = p := fun e => h e.symm
      simp [h, h']
@[simp] theorem dNotIn_h3T {p : Nat × Nat × Nat} {ps : List (Nat × Nat × Nat)} : dNotIn (h3D p) (.tup (ps.map h3D)) = some (.bl (!decide (p ∈ ps))) := by
  obtain ⟨a, b⟩ := h3s_fine ps
  simp [dNotIn, dInB, show (h3D p).fine = true from rfl, fine_tup a (by omega), hasD_h3]
theorem minL_pl {p q : Nat × Nat} : dMinL [plD p, plD q] = some (plD (if ltP q p then q else p)) := by
  have ho : okM [plD p, plD q] = true := rfl
  simp only [dMinL, if_pos ho, foldMin, List.foldl_cons, List.foldl_nil, lt_pl]
  split <;> rfl
theorem maxL_pl {p q : Nat × Nat} : dMaxL [plD p, plD q] = some (plD (if ltP p q then q else p)) := by
  have ho : okM [plD p, plD q] = true := rfl
  simp only [dMaxL, if_pos ho, foldMax, List.foldl_cons, List.foldl_nil, lt_pl]
  split <;> rfl
/-! rims -/
def cntV (ps : List (Nat × Nat)) (p : Nat × Nat) : Nat := ((List.range 4).filter fun s => !inI (overI p s) ps).length
def rimV (ps : List (Nat × Nat)) : Nat := (ps.map (cntV ps)).sum
theorem cnt_le {ps : List (Nat × Nat)} {p : Nat × Nat} : cntV ps p ≤ 4 := Nat.le_trans (List.length_filter_le _ _) (by simp)
theorem rim_le {ps : List (Nat × Nat)} : rimV ps ≤ 4 * ps.length := by
  have : ∀ xs : List (Nat × Nat), (xs.map (cntV ps)).sum ≤ 4 * xs.length := fun xs => by
    induction xs with
    | nil => simp
    | cons x r ih => rw [List.map_cons, List.sum_cons, List.length_cons]; have := cnt_le (ps := ps) (p := x); omega
  exact this ps
theorem inI_over {ps : List (Nat × Nat)} {p : Nat × Nat} {s : Nat} (hs : s < 4) : inI (overI p s) ps = true ↔ ∃ q ∈ ps, adjP p q = true ∧ (q.1 : Int) = (overI p s).1 ∧ (q.2 : Int) = (overI p s).2 := by
  rw [inI_iff]
  constructor
  · rintro ⟨q, hq, e1, e2⟩; exact ⟨q, hq, over_far.mpr ⟨s, hs, e1, e2⟩, e1, e2⟩
  · rintro ⟨q, hq, _, e1, e2⟩; exact ⟨q, hq, e1, e2⟩
theorem cnt_congr {ps qs : List (Nat × Nat)} {p : Nat × Nat} (h : ∀ q, adjP p q = true → (q ∈ ps ↔ q ∈ qs)) : cntV ps p = cntV qs p := by
  unfold cntV
  congr 1
  refine List.filter_congr fun s hs => ?_
  have hs := List.mem_range.mp hs
  have : inI (overI p s) ps = inI (overI p s) qs := by
    rw [Bool.eq_iff_iff, inI_over hs, inI_over hs]
    exact ⟨fun ⟨q, a, b, c⟩ => ⟨q, (h q b).mp a, b, c⟩, fun ⟨q, a, b, c⟩ => ⟨q, (h q b).mpr a, b, c⟩⟩
  rw [this]
theorem cnt_mono {ps qs : List (Nat × Nat)} {p : Nat × Nat} (h : ∀ q ∈ ps, q ∈ qs) : cntV qs p ≤ cntV ps p := by
  unfold cntV
  rw [← List.countP_eq_length_filter, ← List.countP_eq_length_filter]
  refine List.countP_mono_left fun s hs hq => ?_
  cases hc : inI (overI p s) ps with
  | false => rfl
  | true =>
    obtain ⟨q, a, b⟩ := inI_iff.mp hc
    rw [inI_iff.mpr ⟨q, h q a, b⟩] at hq
    cases hq
theorem cnt_zero {h w : Nat} {ps : List (Nat × Nat)} {p : Nat × Nat} (hb : ¬ (besV h w p).length < 4) (ha : ∀ q, adjP p q = true → q.1 < h → q.2 < w → q ∈ ps) : cntV ps p = 0 := by
  have hf : ((List.range 4).filter fun s => inR h w (overI p s)) = List.range 4 := by
    refine List.filter_eq_self.mpr ?_
    have h1 : ((List.range 4).filter fun s => inR h w (overI p s)).length = (List.range 4).length := by
      unfold besV at hb
      rw [List.length_map] at hb
      have := List.length_filter_le (fun s => inR h w (overI p s)) (List.range 4)
      have e : (List.range 4).length = 4 := rfl
      omega
    exact List.length_filter_eq_length_iff.mp h1
  unfold cntV
  rw [List.length_eq_zero_iff, List.filter_eq_nil_iff]
  intro s hs
  have hr := (List.filter_eq_self.mp hf) s hs
  have hs := List.mem_range.mp hs
  have hr := of_decide_eq_true hr
  have e1 : (((overN p s).1 : Nat) : Int) = (overI p s).1 := by unfold overN; omega
  have e2 : (((overN p s).2 : Nat) : Int) = (overI p s).2 := by unfold overN; omega
  have := ha (overN p s) (over_far.mpr ⟨s, hs, e1, e2⟩) (by omega) (by omega)
  rw [inI_iff.mpr ⟨_, this, e1, e2⟩]
  simp
theorem sum_flat {α : Type} (f : List α → α → Nat) (g : α → Nat) : ∀ (L : List (List α)), (∀ l ∈ L, ∀ x ∈ l, f l x = g x) → (L.map fun l => (l.map (f l)).sum).sum = (L.flatten.map g).sum
  | [], _ => rfl
  | l :: L, h => by
    rw [List.map_cons, List.sum_cons, List.flatten_cons, List.map_append, List.sum_append, sum_flat f g L fun k hk => h k (List.mem_cons_of_mem _ hk)]
    congr 2
    exact List.map_congr_left fun x hx => h l (List.mem_cons_self ..) x hx
/-- the rim is the rims of the parts -/
theorem rim_parts {ps : List (Nat × Nat)} (hr : ps.Pairwise fun a b => ltP a b = true) : ((partsC ordP ps adjP).map rimV).sum = rimV ps := by
  have hs : ∀ a b, adjP a b = true → adjP b a = true := fun a b h => by rw [adjP_symm]; exact h
  have p := parts_flat (o := ordP) hs hr (fun x hx => least_ex (o := ordP) hr hx)
  have e : ((partsC ordP ps adjP).map rimV).sum = ((partsC ordP ps adjP).flatten.map (cntV ps)).sum := by
    refine sum_flat cntV (cntV ps) _ fun l hl x hx => cnt_congr fun q hq => ?_
    obtain ⟨y, hy, rfl⟩ := List.mem_map.mp hl
    have rx := mem_partOf.mp hx
    exact ⟨fun h => (mem_partOf.mp h).mem, fun h => mem_partOf.mpr (rx.step h hq)⟩
  rw [e]
  exact List.Perm.sum_nat (p.map (cntV ps))
end Mi

set_option Elab.async false
set_option linter.all false
set_option maxRecDepth 100000
set_option maxHeartbeats 1000000
namespace Mi
open PySem L2
/-! ### some of a list, drawn -/
theorem fzSub {α : Type} (xs : List α) (c : α → D) {vs : List Nat} {src : Iv} {t : D → En → Option En} {tst : Bv} {elt : Ev} {env : En} {mh : Mh} {P : D → Mh → Prop}
    (h1 : (src env mh).S fun ds m1 => ds = xs.map c ∧ Cup m1) (h3 : xs.length ≤ 1000000)
    (h4 : ∀ x ∈ xs, ∀ m, Cup m → ∃ env1, t (c x) (wipeE env vs) = some env1 ∧ (tst env1 m).S fun b m1 => Cup m1 ∧ (b = true → (elt env1 m1).S fun y m2 => y = c x ∧ Cup m2))
    (hP : ∀ (qs : List α) m, Cup m → qs.Sublist xs → P (.lst (qs.map c)) m) (h2 : noOwn env vs = true := by rfl) : (mFz (mCompC vs src t tst elt) env mh).S P := by
  refine S_fzComp (h1.mono fun ds m1 ⟨e1, e2⟩ => ⟨h2, by rw [e1, List.length_map]; exact h3, ?_⟩)
  subst e1
  refine S_compGo (fun i acc m => Cup m ∧ ∃ qs : List α, acc = qs.map c ∧ qs.Sublist (xs.take i)) _ 0 [] m1 ⟨e2, [], rfl, List.nil_sublist _⟩ (fun i d acc m hd hI => ?_) (fun ys m hI => ?_)
  · obtain ⟨hm, qs, rfl, hs⟩ := hI
    rw [Nat.zero_add] at hs ⊢
    rw [List.getElem?_map] at hd
    cases hx : xs[i]? with
    | none => rw [hx] at hd; cases hd
    | some x =>
    rw [hx] at hd
    cases hd
    have htk : xs.take (i + 1) = xs.take i ++ [x] := by rw [List.take_add_one, hx]; rfl
    obtain ⟨env1, a1, a2⟩ := h4 x (List.mem_of_getElem? hx) m hm
    refine ⟨env1, a1, a2.mono fun b m1 ⟨b1, b2⟩ => ?_⟩
    cases b with
    | false =>
      rw [if_neg (by simp)]
      exact ⟨b1, qs, rfl, by rw [htk]; exact hs.trans (List.sublist_append_left _ _)⟩
    | true =>
      rw [if_pos rfl]
      refine (b2 rfl).mono fun y m2 ⟨c1, c2⟩ => ?_
      subst c1
      exact ⟨c2, qs ++ [x], by simp, by rw [htk]; exact hs.append (List.Sublist.refl _)⟩
  · obtain ⟨hm, qs, e, hs⟩ := hI
    rw [List.nil_append] at e
    subst e
    exact hP qs m hm (by simpa using hs)
theorem Ord.rise {α : Type} (o : Ord α) {xs : List α} (h : xs.Nodup) : (xs.mergeSort o.le).Pairwise fun a b => o.ltb a b = true := by
  have hn : (xs.mergeSort o.le).Nodup := (List.mergeSort_perm xs o.le).symm.nodup h
  refine List.Pairwise.imp (fun {a b} hab => ?_) (List.Pairwise.and hn (o.pw xs))
  obtain ⟨h1, h2⟩ := hab
  rcases o.le_iff.mp h2 with h2 | h2
  · exact h2
  · exact absurd h2 h1
/-! ### holes -/
def othersV (h w : Nat) (ps : List (Nat × Nat)) : List (Nat × Nat) := (places h w).filter fun p => !decide (p ∈ ps)
def onRim (h w : Nat) (p : Nat × Nat) : Bool := decide (p.1 = 0 ∨ p.1 + 1 = h ∨ p.2 = 0 ∨ p.2 + 1 = w)
noncomputable def holesV (h w : Nat) (ps : List (Nat × Nat)) : List (List (Nat × Nat)) := (partsC ordP (othersV h w ps) (adjH [])).filter fun part => decide (part.filter (onRim h w) = [])
noncomputable def wholeV (h w : Nat) (ps : List (Nat × Nat)) : List (Nat × Nat) := (ps ++ (holesV h w ps).flatten).mergeSort ordP.le
theorem adjH_nilF : adjH [] = adjP := by funext p q; exact adjH_nil
theorem mem_othersV {h w : Nat} {ps : List (Nat × Nat)} {p : Nat × Nat} : p ∈ othersV h w ps ↔ (p.1 < h ∧ p.2 < w) ∧ p ∉ ps := by
  unfold othersV
  rw [List.mem_filter, mem_places]
  simp
theorem others_rise {h w : Nat} {ps : List (Nat × Nat)} : (othersV h w ps).Pairwise fun a b => ltP a b = true := filter_rise _ _ _
theorem others_len {h w : Nat} {ps : List (Nat × Nat)} : (othersV h w ps).length ≤ h * w := by
  rw [← len_places]; exact List.length_filter_le _ _
theorem pls_len {h w : Nat} {ps : List (Nat × Nat)} (hp : ∀ p ∈ ps, p.1 < h ∧ p.2 < w) (hr : ps.Pairwise fun a b => ltP a b = true) : ps.length ≤ h * w := by
  rw [← len_places]
  exact List.Nodup.length_le_of_subset (rise_nodup hr) fun p hq => mem_places.mpr (hp p hq)
theorem mem_parts {ps : List (Nat × Nat)} {adj : Nat × Nat → Nat × Nat → Bool} {l : List (Nat × Nat)} (h : l ∈ partsC ordP ps adj) : ∃ y ∈ ps, leastB ordP ps adj y = true ∧ l = partOf ps adj y := by
  obtain ⟨y, hy, rfl⟩ := List.mem_map.mp h
  exact ⟨y, (List.mem_filter.mp hy).1, (List.mem_filter.mp hy).2, rfl⟩
theorem part_in {ps : List (Nat × Nat)} {adj : Nat × Nat → Nat × Nat → Bool} {l : List (Nat × Nat)} (h : l ∈ partsC ordP ps adj) {p : Nat × Nat} (hp : p ∈ l) : p ∈ ps := by
  obtain ⟨y, _, _, rfl⟩ := mem_parts h
  exact (mem_partOf.mp hp).mem
theorem part_rise {ps : List (Nat × Nat)} (hr : ps.Pairwise fun a b => ltP a b = true) {adj : Nat × Nat → Nat × Nat → Bool} {l : List (Nat × Nat)} (h : l ∈ partsC ordP ps adj) : l.Pairwise fun a b => ltP a b = true := by
  obtain ⟨y, _, _, rfl⟩ := mem_parts h
  exact hr.filter _
theorem hole_in {h w : Nat} {ps : List (Nat × Nat)} {p : Nat × Nat} (hp : p ∈ (holesV h w ps).flatten) : p ∈ othersV h w ps := by
  obtain ⟨l, hl, hp⟩ := List.mem_flatten.mp hp
  exact part_in (List.mem_filter.mp hl).1 hp
theorem sub_flat {α : Type} {L M : List (List α)} (h : L.Sublist M) : L.flatten.Sublist M.flatten := by
  induction h with
  | slnil => exact List.Sublist.refl _
  | cons a _ ih => rw [List.flatten_cons]; exact ih.trans (List.sublist_append_right _ _)
  | cons_cons a _ ih => rw [List.flatten_cons, List.flatten_cons]; exact (List.Sublist.refl _).append ih
theorem flat_nodup {h w : Nat} {ps : List (Nat × Nat)} : ((holesV h w ps).flatten).Nodup := by
  have p := parts_flat (o := ordP) (adj := adjH []) adjH_symm (others_rise (h := h) (w := w) (ps := ps)) (fun x hx => least_ex (o := ordP) others_rise hx)
  have hn : ((partsC ordP (othersV h w ps) (adjH [])).flatten).Nodup := p.symm.nodup (rise_nodup others_rise)
  exact hn.sublist (sub_flat List.filter_sublist)
theorem whole_pre {h w : Nat} {ps : List (Nat × Nat)} (hr : ps.Pairwise fun a b => ltP a b = true) : (ps ++ (holesV h w ps).flatten).Nodup := by
  rw [List.nodup_append]
  refine ⟨rise_nodup hr, flat_nodup, fun a ha b hb e => ?_⟩
  subst e
  exact (mem_othersV.mp (hole_in hb)).2 ha
theorem whole_rise {h w : Nat} {ps : List (Nat × Nat)} (hr : ps.Pairwise fun a b => ltP a b = true) : (wholeV h w ps).Pairwise fun a b => ltP a b = true := ordP.rise (whole_pre hr)
theorem mem_whole {h w : Nat} {ps : List (Nat × Nat)} {p : Nat × Nat} : p ∈ wholeV h w ps ↔ p ∈ ps ∨ p ∈ (holesV h w ps).flatten := by
  unfold wholeV
  rw [(List.mergeSort_perm _ ordP.le).mem_iff, List.mem_append]
theorem whole_in {h w : Nat} {ps : List (Nat × Nat)} (hp : ∀ p ∈ ps, p.1 < h ∧ p.2 < w) : ∀ p ∈ wholeV h w ps, p.1 < h ∧ p.2 < w := fun p hq => by
  rcases mem_whole.mp hq with h1 | h1
  · exact hp p h1
  · exact (mem_othersV.mp (hole_in h1)).1
/-- what fills the holes has no greater rim -/
theorem rim_whole {h w : Nat} {ps : List (Nat × Nat)} : rimV (wholeV h w ps) ≤ rimV ps := by
  have e : rimV (wholeV h w ps) = (ps.map (cntV (wholeV h w ps))).sum + ((holesV h w ps).flatten.map (cntV (wholeV h w ps))).sum := by
    unfold rimV
    rw [← List.sum_append, ← List.map_append]
    exact List.Perm.sum_nat ((List.mergeSort_perm _ ordP.le).map _)
  have z : ((holesV h w ps).flatten.map (cntV (wholeV h w ps))).sum = 0 := by
    rw [List.sum_eq_zero_iff_forall_eq_nat]
    intro x hx
    obtain ⟨p, hp, rfl⟩ := List.mem_map.mp hx
    obtain ⟨l, hl, hpl⟩ := List.mem_flatten.mp hp
    obtain ⟨hl1, hl2⟩ := List.mem_filter.mp hl
    have hpo := part_in hl1 hpl
    obtain ⟨⟨p1, p2⟩, p3⟩ := mem_othersV.mp hpo
    refine cnt_zero (h := h) (w := w) ?_ fun q ha q1 q2 => ?_
    · intro hlt
      have hr : onRim h w p = true := decide_eq_true ((bes_rim p1 p2).mp hlt)
      have : p ∈ l.filter (onRim h w) := List.mem_filter.mpr ⟨hpl, hr⟩
      rw [of_decide_eq_true hl2] at this
      cases this
    · rw [mem_whole]
      by_cases hq : q ∈ ps
      · exact .inl hq
      · obtain ⟨y, hy1, hy2, rfl⟩ := mem_parts hl1
        exact .inr (List.mem_flatten.mpr ⟨_, hl, mem_partOf.mpr ((mem_partOf.mp hpl).step (mem_othersV.mpr ⟨⟨q1, q2⟩, hq⟩) (by rw [adjH_nil]; exact ha))⟩)
  rw [e, z, Nat.add_zero]
  unfold rimV
  have : ∀ xs : List (Nat × Nat), (xs.map (cntV (wholeV h w ps))).sum ≤ (xs.map (cntV ps)).sum := fun xs => by
    induction xs with
    | nil => exact Nat.le_refl _
    | cons x r ih =>
      rw [List.map_cons, List.map_cons, List.sum_cons, List.sum_cons]
      have := cnt_mono (ps := ps) (qs := wholeV h w ps) (p := x) fun q hq => mem_whole.mpr (.inl hq)
      omega
  exact this ps
theorem rim_partsH {ps : List (Nat × Nat)} (hr : ps.Pairwise fun a b => ltP a b = true) : ((partsC ordP ps (adjH [])).map rimV).sum = rimV ps := by rw [adjH_nilF]; exact rim_parts hr
theorem sublist_rise {ps qs : List (Nat × Nat)} (hr : ps.Pairwise fun a b => ltP a b = true) (h : qs.Sublist ps) : qs.Pairwise fun a b => ltP a b = true := hr.sublist h
theorem dSum_nat {α : Type} (f : α → Nat) (xs : List α) : dSum (.lst (xs.map fun x => .int (f x : Nat))) = some (.int ((xs.map f).sum : Nat)) := by
  have e : intsOf (xs.map fun x => .int (f x : Nat)) = some (xs.map fun x => (f x : Int)) := intsOf_map (fun x : α => (f x : Int)) xs
  simp only [dSum, e, Option.map_some]
  congr 2
  induction xs with
  | nil => rfl
  | cons x r ih => rw [List.map_cons, List.map_cons, List.sum_cons, List.sum_cons, ih (intsOf_map (fun x : α => (f x : Int)) r)]; simp
theorem sm_parts {L : List (List (Nat × Nat))} (h1 : L.length ≤ LIM) (h2 : ∀ l ∈ L, l.length ≤ LIM) {k : Nat} : sm (k + 4) (.tup (L.map ptD)) = true := by
  refine sm_tup (by rw [List.length_map]; exact h1) fun d hd => ?_
  obtain ⟨l, hl, rfl⟩ := List.mem_map.mp hd
  exact sm_pl (h2 l hl)
end Mi

set_option Elab.async false
set_option linter.all false
set_option maxRecDepth 100000
set_option maxHeartbeats 4000000
namespace Mi
open PySem PySem.Spec PyProof.Rows PyProof.V L2
/-! ### set(t), t a tuple of tuples of ints -/
def zSet (w : World) : Obj := { cls := .type "set", dict := none, data := .set #[] 0 (.fresh 0 0 (!w.params.followText "set-order")) }
section
variable {P : Program} {w : World} {A : Around} {E : Value → Shared → Prop} {s : Shared}
theorem set_of_tup {l : Addr} {its : Array Value} (ks : List (Addr × List Int)) {Q : Value → Shared → Prop} (noEx : A.handled = none) (tl : s.heap.IsTuple l its) (ei : its.toList = ks.map fun p => Value.ref p.1) (ik : ∀ p ∈ ks, IsT P w s.heap p.2 p.1) (few : ks.length < 64) (room : A.units + 3 < cLine)
    (out : ∀ (g : Heap) (tk : Nat) L es ep t, SetTR P w g s.heap.objs.size L es ep t → Got ks ks.length L → (∀ b o, s.heap.get? b = some o → g.get? b = some o) → Q (.ref s.heap.objs.size) { s with heap := g, toks := tk }) : wpAny (model P w) A (call (.type "set") [.ref l]) Q E s := by
  have esz : its.size = ks.length := by
    have q := congrArg List.length ei
    simpa using q
  have hG : (s.heap.push (zSet w)).get? s.heap.objs.size = some (zSet w) := Heap.get?_push_size _ rfl
  obtain ⟨cM, tM, mro⟩ := F.called_set.mro
  have m1 := F.called_set.made
  have m2 := F.called_set.sub
  have m3 := F.called_set.notType
  have m4 := F.called_set.canCreate
  have m5 := F.typeCall_set_1 (.ref l)
  refine wpAny_call (codeAny_of_tree ?_)
  show wpAny _ _ (callAny (.type "set") ⟨[.ref l], []⟩) _ _ s
  refine wpAny_pure ⟨Code.quiet_builtin _ (by decide +kernel), codeAny_builtin F.entry_type_call ?_⟩
  rw [Around.under_plain (weight_type_call_type "set" [.ref l] []) rfl]
  repeat (any_goals (first | assumption | wp_step))
  refine codeAny_mono (code_set_led1 (.ref l) (E := E) (Q₁ := fun z u => z = .ref s.heap.objs.size ∧ u = { s with heap := s.heap.push (zSet w) }) ⟨rfl, rfl⟩) fun r s1 hr => ?_
  cases r with
  | error e => exact hr
  | ok fl =>
  cases fl with
  | ret z =>
    obtain ⟨rfl, rfl⟩ := hr
    have ty : Shared.TypeIs { s with heap := s.heap.push (zSet w) } (.ref s.heap.objs.size) "set" := ⟨_, hG, rfl⟩
    have i1 := F.called_set.init.lookup
    have i2 := F.called_set.init.bind (.ref s.heap.objs.size)
    repeat (any_goals (first | assumption | wp_step))
    refine codeAny_mono (codeAny_call_builtin (R := wants (fun r u => r = .none ∧ ∃ g tk L es ep t, u = { s with heap := g, toks := tk } ∧ SetTR P w g s.heap.objs.size L es ep t ∧ Got ks ks.length L ∧ (∀ b o, s.heap.get? b = some o → g.get? b = some o)) E) F.called_set.init.plain F.entry_set_init (check_set_init_1 ty ?_)) fun r2 s2 hr2 => ?_
    · obtain ⟨ob, hob, hcl, nt, hdt⟩ := tl
      obtain ⟨oc, od, odt, osl⟩ := ob
      simp only at hcl hdt
      subst hcl; subst hdt
      have hob' : (s.heap.push (zSet w)).get? l = some { cls := .type "tuple", dict := od, data := .seq its nt, slots := osl } := Heap.get?_push_of_some _ hob
      have n1 := F.sub_tuple_set
      have n2 := F.sub_tuple_frozenset
      have n3 : (Value.type "tuple" == Value.type "dict") = false := by decide
      have tl1 : (s.heap.push (zSet w)).IsTuple l its := ⟨_, hob', rfl, nt, rfl⟩
      unfold Builtin.«set.__init__» noKeywords Builtin.Frozenset.updateFrom
      generalize hp : pyIter = pI
      wp_walk
      subst hp
      refine wpAny_pyIter_tuple tl1 ?_
      refine wpAny_bind (wpAny_runValue ?_)
      have lt1 : l < s.heap.objs.size := Heap.lt_size hob
      have sz1 : (s.heap.push (zSet w)).objs.size = s.heap.objs.size + 1 := Heap.size_push ..
      have none_at : ∀ b, s.heap.objs.size ≤ b → s.heap.get? b = none := fun b hb => by
        cases q : s.heap.get? b with
        | none => rfl
        | some o => exact absurd (Heap.lt_size q) (Nat.not_lt.mpr hb)
      have vals : ∀ (i : Nat) (v : Value), its[i]? = some v → ∃ p, ks[i]? = some p ∧ v = .ref p.1 := fun i v hv => by
        have q : its.toList[i]? = some v := by rw [Array.getElem?_toList]; exact hv
        rw [ei, List.getElem?_map] at q
        obtain ⟨p, hp1, hp2⟩ := Option.map_eq_some_iff.mp q
        exact ⟨p, hp1, hp2.symm⟩
      have W0 := (Walks.tuple (prog := P) (w := w) (A := A.in1.in1.in1) (by simp [noEx]) (s.heap.push (zSet w)).objs.size l (by rw [sz1]; exact Nat.ne_of_lt (Nat.lt_succ_of_lt lt1)) its).toS
      refine set_update_tups W0 s.heap.objs.size (fun z => by
        rw [sz1] at z
        rcases List.mem_cons.mp z with z | z
        · exact absurd z (Nat.ne_of_lt (Nat.lt_succ_self _))
        · exact absurd (List.mem_singleton.mp z) (Nat.ne_of_gt lt1)) ks esz few vals s.heap ik (none_at _ (Nat.le_refl _)) (fun b hb => none_at b (by rw [List.mem_singleton.mp hb, sz1]; exact Nat.le_succ _)) room (its.size - 0) 0 _ (by omega) (Nat.zero_le _)
        ⟨⟨_, Heap.get?_push_size _ rfl, rfl, rfl⟩, (tl1.push _)⟩ (fun b o e => Heap.get?_push_of_some _ (Heap.get?_push_of_some _ e)) ⟨[], #[], 0, _, setTR_fresh (Heap.get?_push_of_some _ hG), Got.zero ks⟩ ?_
      intro u L es ep t mv sr got kp
      obtain ⟨g, g2, d2, tk, os2⟩ := u
      have e1 : g2 = s.gens := mv.gens
      have e2 : d2 = s.drawn := mv.drawn
      have e3 : os2 = s.os := mv.os
      subst e1; subst e2; subst e3
      show wpAny _ _ _ _ _ _
      refine wpAny_pure ?_
      show wpAny _ _ (ret Value.none) _ _ _
      rw [esz] at got
      exact wpAny_pure ⟨rfl, g, tk, L, es, ep, t, rfl, sr, got, kp⟩
    · cases r2 with
      | error e => exact hr2
      | ok fl2 =>
      cases fl2 with
      | ret r =>
        obtain ⟨rfl, g, tk, L, es, ep, t, rfl, sr, got, kp⟩ := hr2
        repeat (any_goals (first | assumption | wp_step))
        exact out _ _ _ _ _ _ sr got kp
      | _ => exact hr2.elim
  | _ => exact hr.elim
end
end Mi

set_option Elab.async false
set_option linter.all false
set_option maxRecDepth 100000
set_option maxHeartbeats 1000000
namespace Mi
open PySem PySem.Spec PyProof.Rows PyProof.V L2
/-! ### sorted(set(xs)): xs a list or a tuple of tuples of so many small numbers -/
structure SetE (β : Type) where
  enc : β → D
  ks : β → List Int
  dec : D → Option β
  o : Ord β
  d : Nat
  d1 : 1 ≤ d
  ok : β → Prop
  len : ∀ b, (ks b).length = d
  encE : ∀ b, enc b = .tup ((ks b).map .int)
  decE : ∀ x b, dec x = some b → x = enc b ∧ ok b
  decO : ∀ b, ok b → dec (enc b) = some b
  bd : ∀ b, ok b → TS.Bd 64 (ks b)
  lt : ∀ a b, ok a → ok b → ks a ≠ ks b → TS.code 64 (ks a) ≤ TS.code 64 (ks b) → o.ltb a b = true
  inj : ∀ a b, ks a = ks b → a = b
section
variable {β : Type} [DecidableEq β] (S : SetE β)
def SetE.decs (S : SetE β) : List D → Option (List β)
  | [] => some []
  | x :: r => (S.dec x).bind fun b => (SetE.decs S r).map (b :: ·)
theorem SetE.decs_some : ∀ {ds : List D} {bs : List β}, S.decs ds = some bs → ds = bs.map S.enc ∧ ∀ b ∈ bs, S.ok b
  | [], bs, h => by cases h; exact ⟨rfl, fun _ h => nomatch h⟩
  | x :: r, bs, h => by
    unfold SetE.decs at h
    obtain ⟨b, hb, h⟩ := Option.bind_eq_some_iff.mp h
    obtain ⟨cs, hc, h⟩ := Option.map_eq_some_iff.mp h
    subst h
    obtain ⟨e1, e2⟩ := S.decE _ _ hb
    obtain ⟨e3, e4⟩ := SetE.decs_some hc
    refine ⟨by rw [e1, e3]; rfl, fun z hz => ?_⟩
    rcases List.mem_cons.mp hz with rfl | hz
    · exact e2
    · exact e4 z hz
theorem SetE.decs_map : ∀ {bs : List β}, (∀ b ∈ bs, S.ok b) → S.decs (bs.map S.enc) = some bs
  | [], _ => rfl
  | b :: r, h => by
    rw [List.map_cons]
    unfold SetE.decs
    rw [S.decO b (h b List.mem_cons_self), SetE.decs_map fun z hz => h z (List.mem_cons_of_mem _ hz)]
    rfl
def dd : List β → List β
  | [] => []
  | x :: r => if x ∈ r then dd r else x :: dd r
theorem mem_dd {p : β} : ∀ {xs : List β}, p ∈ dd xs ↔ p ∈ xs
  | [] => Iff.rfl
  | x :: r => by
    have ih := mem_dd (p := p) (xs := r)
    unfold dd
    split
    · rename_i h
      rw [ih, List.mem_cons]
      exact ⟨.inr, fun q => q.elim (fun e => e ▸ h) id⟩
    · rw [List.mem_cons, List.mem_cons, ih]
theorem nodup_dd : ∀ (xs : List β), (dd xs).Nodup
  | [] => List.nodup_nil
  | x :: r => by
    unfold dd
    split
    · exact nodup_dd r
    · rename_i h
      exact List.nodup_cons.mpr ⟨fun q => h (mem_dd.mp q), nodup_dd r⟩
def SetE.uniq (xs : List β) : List β := (dd xs).mergeSort S.o.le
theorem SetE.uniq_of {xs L : List β} (hs : L.Pairwise fun a b => S.o.ltb a b = true) (hm : ∀ p, p ∈ L ↔ p ∈ xs) : S.uniq xs = L := by
  unfold SetE.uniq
  refine S.o.sorted_of (nodup_dd _) hs fun a => ?_
  rw [mem_dd, hm]
def SetE.src : D → Option (List D)
  | .lst ds => some ds
  | .tup ds => some ds
  | _ => none
def mSortSetX (m : Ev) : Ev := fun env mh => (m env mh).bind fun d mh1 => match SetE.src d with
  | some ds => match S.decs ds with
    | some bs => if bs.length < 64 then .ok (.lst ((S.uniq bs).map S.enc)) mh1 else .no
    | none => .no
  | none => .no
end
def rSetTup (K : PySem.W.Frag) (P : Program) (w : World) : List V → Hp → VK → Prop := fun xs H Q => ∃ (l : Addr) (ks : List (Addr × List Int)), xs = [V.ref l] ∧ SqT K H l (ks.map fun p => V.ref p.1) ∧ (∀ p ∈ ks, SqT K H p.1 (p.2.map V.int)) ∧ ks.length < 64 ∧
  ∀ b L, H b = none → (∀ p ∈ L, p ∈ ks) → (∀ p ∈ ks, p.2 ∈ L.map (·.2)) → Q (.ref b) (upd H b (SetTO P w b L))
theorem cr_setTup {X : Cx} (calm : X.calm = true) (room : X.A.units + 64 < cLine) : CallR X (.type "set") (rSetTup X.K X.prog X.w) := by
  intro pins s σ H xs us Q I rv h
  obtain ⟨l, ks, rfl, ht, hk, few, q⟩ := h
  rw [Vals.ref1 rv]
  obtain ⟨its, rr, ⟨o, ho, hc, n, hd⟩, _⟩ := I.tuple ht
  refine set_of_tup (P := X.prog) (w := X.w) (its := its.toArray) ks (I.ok.hd calm) ⟨o, ho, hc, n, hd⟩ (by simpa using refs_of_vals rr) (fun p hp => I.isT (hk p hp)) few (by omega) fun g tk L es ep t R got keep => ?_
  exact ⟨.ref s.heap.objs.size, upd H s.heap.objs.size (SetTO X.prog X.w s.heap.objs.size L), I.laid (t' := tk) keep (Nat.le_refl _) (setTO_new R.t0), rfl, q _ L (I.hok.fresh (Nat.le_refl _)) (fun p hp => List.mem_of_mem_take (got.sub p hp)) fun p hp => got.all p (by rw [List.take_length]; exact hp)⟩
section
variable {c : Cn} {X : Cx} {W : WX} {β : Type} [DecidableEq β] {S : SetE β}
theorem ints_dq {am : List Addr} {Hk : Hp} : ∀ {ns : List Int} {vs : List V}, DqAll c am Hk vs (ns.map .int) → vs = ns.map V.int
  | [], _, .nil => rfl
  | n :: ns, _, .cons (.int _) r => by rw [ints_dq r]; rfl
theorem dq_ints {am : List Addr} {Hk : Hp} : ∀ (ns : List Int), DqAll c am Hk (ns.map V.int) (ns.map .int)
  | [] => .nil
  | n :: ns => .cons (.int n) (dq_ints ns)
theorem refs_dq {am : List Addr} {Hk H : Hp} (le : Le Hk H) : ∀ {bs : List β} {vs : List V}, DqAll c am Hk vs (bs.map S.enc) → ∃ ks : List (Addr × List Int), vs = ks.map (fun p => V.ref p.1) ∧ ks.map (·.2) = bs.map S.ks ∧ ∀ k ∈ ks, H k.1 = some (.tup (k.2.map V.int)) ∧ Hk k.1 = some (.tup (k.2.map V.int))
  | [], vs, q => by cases q; exact ⟨[], rfl, rfl, fun _ h => nomatch h⟩
  | b :: bs, vs, q => by
    rw [List.map_cons] at q
    cases q with | cons q1 qs =>
    obtain ⟨ks, e1, e2, e3⟩ := refs_dq le qs
    rw [S.encE] at q1
    cases q1 with | tup s1 q2 =>
    rename_i a ws
    have ew := ints_dq q2
    subst ew
    refine ⟨(a, S.ks b) :: ks, by rw [e1]; rfl, by rw [List.map_cons, List.map_cons, e2], fun k hk => ?_⟩
    rcases List.mem_cons.mp hk with rfl | hk
    · exact ⟨le _ _ s1, s1⟩
    · exact e3 k hk
theorem se_sortSetX {e : Expr} {m : Ev} {p p2 pos pos2 : Pos} (hK : X.K = c.K) (hcalm : X.calm = true) (hu : X.A.units + 64 < cLine) (hms : X.mg "sorted" = none) (hmt : X.mg "set" = none) (he : SE c W X e m)
    (hgs : Gl X "sorted" := by rfl) (hgt : Gl X "set" := by rfl)
    (hst : starEach [e] X.env = (false, eval e X.env) :: starEach [] X.env := by rfl) (hpl : (backTo pos2 (starEach [] X.env)).any (·.1) = false := by rfl)
    (hst2 : starEach [.Call (.Name "set" p2) [e] [] pos2] X.env = (false, eval (.Call (.Name "set" p2) [e] [] pos2) X.env) :: starEach [] X.env := by rfl) (hpl2 : (backTo pos (starEach [] X.env)).any (·.1) = false := by rfl) :
    SE c W X (.Call (.Name "sorted" p) [.Call (.Name "set" p2) [e] [] pos2] [] pos) (mSortSetX S m) := by
  obtain ⟨t, pe, k⟩ := he
  refine ⟨_, pe_callB (cr_sortedT hcalm) hgs hms PyProof.Rows.boot_sorted (pa_cons (pe_callTy ((cr_setOfT hcalm hu).or (cr_setTup hcalm hu)) hgt hmt (by decide +kernel) (pa_cons pe pa_nil hst) (by decide) (by decide) hst hpl) pa_nil hst2) (by decide) (by decide) hst2 hpl2, fun F am Hk H σ env mh Q R h => ?_⟩
  refine k F am Hk H σ env mh _ R (GP.step h fun d mh1 er v am1 Hk1 H1 g1 e1 R1 q1 h1 => ?_)
  cases hsr : SetE.src d with
  | none => rw [hsr] at h1; exact h1.elim
  | some ds =>
  rw [hsr] at h1
  simp only at h1
  cases hp : S.decs ds with
  | none => rw [hp] at h1; exact h1.elim
  | some bs =>
  rw [hp] at h1
  simp only at h1
  by_cases hl : bs.length < 64
  case neg => rw [if_neg hl] at h1; exact h1.elim
  rw [if_pos hl] at h1
  obtain ⟨eds, hb⟩ := S.decs_some hp
  subst eds
  have fin : ∀ (ks : List (Addr × List Int)), ks.map (·.2) = bs.map S.ks → (∀ k ∈ ks, H1 k.1 = some (.tup (k.2.map V.int)) ∧ Hk1 k.1 = some (.tup (k.2.map V.int))) →
      ∀ b L, H1 b = none → (∀ p ∈ L, p ∈ ks) → (∀ p ∈ ks, p.2 ∈ L.map (·.2)) → rSortedT X.K X.prog X.w [.ref b] (upd H1 b (SetTO X.prog X.w b L)) Q := fun ks e2 f3 b L hb1 hL1 hL2 => by
    have R2 := R1.alloc (o := SetTO X.prog X.w b L) hb1
    have hbk := R1.hk_none hb1
    have of2 : ∀ k ∈ ks, ∃ z ∈ bs, S.ks z = k.2 := fun k hk => by
      have : k.2 ∈ ks.map (·.2) := List.mem_map_of_mem hk
      rw [e2] at this
      exact List.mem_map.mp this
    refine ⟨b, L, S.d, 64, rfl, upd_same, fun k hk => ?_, S.d1, fun k hk => ?_, fun L' p hperm hnd hlen hpw hp1 => ?_⟩
    · rw [hK]
      refine .of ?_
      rw [upd_ne (ne_of_none (f3 k (hL1 k hk)).1 hb1)]
      exact (f3 k (hL1 k hk)).1
    · obtain ⟨z, hz, e⟩ := of2 k (hL1 k hk)
      rw [← e]
      exact ⟨S.len z, S.bd z (hb z hz)⟩
    · have sub' : ∀ k ∈ L', k ∈ ks := fun k hk => hL1 k (hperm.mem_iff.mp hk)
      obtain ⟨Bs, g1', g2'⟩ : ∃ Bs : List β, Bs.map S.ks = L'.map (·.2) ∧ ∀ z ∈ Bs, z ∈ bs := by
        have : ∀ M : List (Addr × List Int), (∀ k ∈ M, k ∈ ks) → ∃ Bs : List β, Bs.map S.ks = M.map (·.2) ∧ ∀ z ∈ Bs, z ∈ bs := fun M => by
          induction M with
          | nil => intro _; exact ⟨[], rfl, fun _ h => nomatch h⟩
          | cons k M ih =>
            intro hM
            obtain ⟨Bs, i1, i2⟩ := ih fun x hx => hM x (List.mem_cons_of_mem _ hx)
            obtain ⟨z, hz, e⟩ := of2 k (hM k List.mem_cons_self)
            refine ⟨z :: Bs, by rw [List.map_cons, List.map_cons, i1, e], fun y hy => ?_⟩
            rcases List.mem_cons.mp hy with rfl | hy
            · exact hz
            · exact i2 y hy
        exact this L' sub'
      have hU : S.uniq bs = Bs := by
        refine S.uniq_of ?_ fun z => ⟨g2' z, fun hz => ?_⟩
        · have p1 : (L'.map (·.2)).Pairwise fun x y => TS.code 64 x ≤ TS.code 64 y := List.pairwise_map.mpr hpw
          have p2 : (L'.map (·.2)).Pairwise fun x y => x ≠ y := hnd
          rw [← g1', List.pairwise_map] at p1 p2
          exact (p1.and p2).imp_of_mem fun {x y} hx hy hxy => S.lt x y (hb x (g2' x hx)) (hb y (g2' y hy)) hxy.2 hxy.1
        · have h5 : S.ks z ∈ ks.map (·.2) := by rw [e2]; exact List.mem_map_of_mem hz
          obtain ⟨k, hk, e⟩ := List.mem_map.mp h5
          have h6 := (hperm.map (·.2)).mem_iff.mpr (hL2 k hk)
          rw [← g1', e] at h6
          obtain ⟨y, hy, e'⟩ := List.mem_map.mp h6
          rw [← S.inj _ _ e']
          exact hy
      rw [hU] at h1
      have qL : DqAll c am1 (upd Hk1 b (SetTO X.prog X.w b L)) (L'.map fun q => V.ref q.1) (Bs.map S.enc) := by
        have le2 : Le Hk1 (upd Hk1 b (SetTO X.prog X.w b L)) := Le.new hbk
        have : ∀ (M : List (Addr × List Int)) (Cs : List β), Cs.map S.ks = M.map (·.2) → (∀ k ∈ M, k ∈ ks) → DqAll c am1 (upd Hk1 b (SetTO X.prog X.w b L)) (M.map fun q => V.ref q.1) (Cs.map S.enc) := fun M => by
          induction M with
          | nil =>
            intro Cs e _
            have : Cs = [] := List.map_eq_nil_iff.mp e
            subst this
            exact .nil
          | cons k M ih =>
            intro Cs e hM
            cases Cs with
            | nil => cases e
            | cons z Cs =>
              rw [List.map_cons, List.map_cons] at e
              injection e with ea eb
              refine .cons ?_ (ih Cs eb fun x hx => hM x (List.mem_cons_of_mem _ hx))
              rw [S.encE, ea]
              exact .tup (le2 _ _ (f3 k (hM k List.mem_cons_self)).2) (dq_ints _)
        exact this L' Bs g1' sub'
      refine h1 (.ref p) am1 _ _ (Go.refl _) ?_ (R2.alloc hp1) (dq_lst (R2.hk_none hp1) qL)
      exact (Le.new hbk).trans (Le.new (R2.hk_none hp1))
  cases d <;> first | (cases hsr; done) | skip
  · cases hsr
    cases q1 with | tup s1 qs =>
    rename_i a vs
    obtain ⟨ks, f1, e2, f3⟩ := refs_dq (S := S) R1.known qs
    subst f1
    have el : ks.length = bs.length := by simpa using congrArg List.length e2
    exact .inr ⟨a, ks, rfl, by rw [hK]; exact .of (R1.known _ _ s1), fun k hk => by rw [hK]; exact .of (f3 k hk).1, by omega, fin ks e2 f3⟩
  · cases hsr
    cases q1 with | lst s1 qs =>
    rename_i a vs
    obtain ⟨ks, f1, e2, f3⟩ := refs_dq (S := S) R1.known qs
    subst f1
    have el : ks.length = bs.length := by simpa using congrArg List.length e2
    exact .inl ⟨a, ks, rfl, by rw [hK]; exact .of (R1.known _ _ s1), fun k hk => by rw [hK]; exact .of (f3 k hk).1, by omega, fin ks e2 f3⟩
end
end Mi

set_option Elab.async false
set_option linter.all false
set_option maxRecDepth 100000
set_option maxHeartbeats 1000000
namespace Mi
open PySem PySem.Spec PyProof.Rows PyProof.V L2
@[simp] theorem S_sortSetX {β : Type} [DecidableEq β] {S : SetE β} {env : En} {mh : Mh} {P : D → Mh → Prop} {a : Ev} : (mSortSetX S a env mh).S P = (a env mh).S fun d m1 => match SetE.src d with | some ds => (match S.decs ds with | some bs => (if bs.length < 64 then P (.lst ((S.uniq bs).map S.enc)) m1 else False) | none => False) | none => False := by
  unfold mSortSetX
  rw [S_bind]
  congr 1
  funext d m1
  cases SetE.src d with
  | none => rfl
  | some ds =>
    simp only
    cases S.decs ds with
    | none => rfl
    | some ps =>
      simp only
      split <;> rfl
def seP : SetE (Nat × Nat) where
  enc := plD
  ks p := [(p.1 : Int), (p.2 : Int)]
  dec := natP
  o := ordP
  d := 2
  d1 := by decide
  ok p := p.1 < 64 ∧ p.2 < 64
  len _ := rfl
  encE _ := rfl
  decE _ _ h := natP_some h
  decO b h := by
    show (if b.1 < 64 ∧ b.2 < 64 then some (b.1, b.2) else none) = some b
    rw [if_pos h]
  bd b h := fun m hm => by
    simp at hm
    rcases hm with rfl | rfl <;> omega
  lt a b ha hb ne h := by
    rw [code_pair, code_pair] at h
    show ltP a b = true
    unfold ltP
    refine decide_eq_true ?_
    by_cases e1 : a.1 = b.1
    · right
      refine ⟨e1, ?_⟩
      have : a.2 ≠ b.2 := fun e2 => ne (by rw [e1, e2])
      omega
    · omega
  inj a b h := by
    simp at h
    exact Prod.ext (by omega) (by omega)
def ord3 : Ord (Nat × Nat × Nat) := ordN.pair (ordN.pair ordN)
def nat3 : D → Option (Nat × Nat × Nat)
  | .tup [.int (.ofNat a), .int (.ofNat b), .int (.ofNat e)] => if a < 64 ∧ b < 64 ∧ e < 64 then some (a, b, e) else none
  | _ => none
theorem code_tri (x y z : Int) : TS.code 64 [x, y, z] = x * 4096 + y * 64 + z := by
  have e2 : (64 : Int) ^ 2 = 4096 := by decide
  have e1 : (64 : Int) ^ 1 = 64 := by decide
  have e0 : (64 : Int) ^ 0 = 1 := by decide
  show x * 64 ^ 2 + (y * 64 ^ 1 + (z * 64 ^ 0 + 0)) = _
  rw [e2, e1, e0]
  omega
def se3 : SetE (Nat × Nat × Nat) where
  enc := h3D
  ks p := [(p.1 : Int), (p.2.1 : Int), (p.2.2 : Int)]
  dec := nat3
  o := ord3
  d := 3
  d1 := by decide
  ok p := p.1 < 64 ∧ p.2.1 < 64 ∧ p.2.2 < 64
  len _ := rfl
  encE _ := rfl
  decE x b h := by
    unfold nat3 at h
    split at h
    · split at h
      · cases h
        rename_i hh
        exact ⟨rfl, hh⟩
      · cases h
    · cases h
  decO b h := by
    show (if b.1 < 64 ∧ b.2.1 < 64 ∧ b.2.2 < 64 then some (b.1, b.2.1, b.2.2) else none) = some b
    rw [if_pos h]
  bd b h := fun m hm => by
    simp at hm
    rcases hm with rfl | rfl | rfl <;> omega
  lt a b ha hb ne h := by
    rw [code_tri, code_tri] at h
    obtain ⟨a1, a2, a3⟩ := a
    obtain ⟨b1, b2, b3⟩ := b
    simp only at ha hb h ne
    show (decide (a1 < b1) || (decide (a1 = b1) && (decide (a2 < b2) || (decide (a2 = b2) && decide (a3 < b3))))) = true
    have ne' : ¬ (a1 = b1 ∧ a2 = b2 ∧ a3 = b3) := fun ⟨e1, e2, e3⟩ => ne (by rw [e1, e2, e3])
    simp only [Bool.or_eq_true, Bool.and_eq_true, decide_eq_true_eq]
    omega
  inj a b h := by
    simp at h
    obtain ⟨a1, a2, a3⟩ := a
    obtain ⟨b1, b2, b3⟩ := b
    simp only at h
    simp only [Prod.mk.injEq]
    omega
end Mi

set_option Elab.async false
set_option linter.all false
set_option maxRecDepth 100000
set_option maxHeartbeats 1000000
namespace Mi
open PySem PySem.Spec PyProof.Rows PyProof.V L2
/-! ### t[::-1], t a tuple -/
theorem adjust_rev (n : Nat) : Builtin.Slice.sliceAdjust none none (-1) (n : Int) = ((n : Int) - 1, -1) := rfl
theorem places_rev (n : Nat) : Builtin.Slice.slicePlaces ((n : Int) - 1) (-1) (-1) = n := by
  unfold Builtin.Slice.slicePlaces
  rw [if_neg (by decide)]
  by_cases h : (n : Int) - 1 > -1
  · rw [if_pos h]
    have e : (-(-1 : Int)) = 1 := by decide
    rw [e, Int.ediv_one]
    omega
  · rw [if_neg h]
    omega
theorem fm_congr {α β : Type} {f g : α → Option β} : ∀ {l : List α}, (∀ x ∈ l, f x = g x) → l.filterMap f = l.filterMap g
  | [], _ => rfl
  | x :: r, h => by
    rw [List.filterMap_cons, List.filterMap_cons, h x List.mem_cons_self, fm_congr fun y hy => h y (List.mem_cons_of_mem _ hy)]
theorem pick_rev (xs : Array Value) : ((List.range xs.size).filterMap fun (k : Nat) => xs[(((xs.size : Int) - 1) + (k : Int) * (-1)).toNat]?).toArray = xs.toList.reverse.toArray := by
  congr 1
  have e1 : (List.range xs.size).filterMap (fun (k : Nat) => xs[(((xs.size : Int) - 1) + (k : Int) * (-1)).toNat]?) = (List.range xs.size).filterMap (fun k => xs.toList.reverse[k]?) := by
    refine fm_congr fun k hk => ?_
    have hk := List.mem_range.mp hk
    have hl : k < xs.toList.length := by rw [Array.length_toList]; exact hk
    rw [List.getElem?_reverse hl, Array.getElem?_toList]
    congr 1
    rw [Array.length_toList]
    omega
  rw [e1]
  have e2 : xs.size = xs.toList.reverse.length := by simp
  rw [e2]
  generalize xs.toList.reverse = l
  induction l with
  | nil => rfl
  | cons x r ih =>
    rw [List.length_cons, List.range_succ_eq_map, List.filterMap_cons, List.filterMap_map]
    show x :: List.filterMap (fun k => r[k]?) (List.range r.length) = x :: r
    rw [ih]
section
variable {prog : Program} {w : World} {A : Around} {E : Value → Shared → Prop} {s : Shared}
theorem getItem_tuple_rev {t sl : Addr} {items : Array Value} {vs : Value} {Q : Value → Shared → Prop} (ht : PyProof.Rows.IsTup s.heap t items) (hs : s.heap.IsSliceOf sl .none .none vs) (ps : IsPart vs (some (-1))) (hsz : items.size ≤ sizeLine)
    (h : Q (.ref s.heap.objs.size) { s with heap := s.heap.push { cls := .type "tuple", data := .seq items.toList.reverse.toArray } }) : wpAny (model prog w) A (getItem (.ref t) (.ref sl)) Q E s := by
  obtain ⟨os, hos, hcs, hds⟩ := id hs
  have ty : s.TypeIs (.ref sl) "slice" := ⟨os, hos, hcs⟩
  have fits : sizeOk (.seq items.toList.reverse.toArray) := by
    show items.toList.reverse.toArray.size ≤ sizeLine
    rw [List.size_toArray, List.length_reverse, Array.length_toList]
    exact hsz
  unfold getItem
  try with_reducible refine wpAny_holding ?_
  first | refine wpAny_bind (wpAny_pure ?_) | skip
  refine wpAny_bind (wpAny_sequenceKey ht.typeIs (by decide) (wpAny_bind (wpAny_callSpecial?_slot (name := Str.ofString "__getitem__") ht.typeIs PyProof.Rows.slot_tuple_getitem
    (wpAny_call_entry PyProof.Rows.slot_tuple_getitem ht.typeIs entry_tuple_getitem ?_ (args_tuple_getitem _ _)))))
  show wpAny _ _ (Builtin.Tuple.tupleItemsOf (.ref t) >>= _) _ _ s
  refine wpAny_bind (tupleItemsOf_ ht (wpAny_bind (wpAny_typeOf ty ?_)))
  rw [if_pos (by decide)]
  have ap : ∀ {R : Int × Int × Nat → Shared → Prop}, R ((items.size : Int) - 1, -1, items.size) s → wpAny (model prog w) A.in1 (Builtin.Slice.sliceApplied (.ref sl) (pure (items.size : Int))) R E s := by
    intro R hR
    unfold Builtin.Slice.sliceApplied Builtin.Slice.sliceFields
    refine wpAny_bind (wpAny_bind (wpAny_field hos hds (x := .none) rfl (wpAny_bind (wpAny_field hos hds (x := .none) rfl (wpAny_bind (wpAny_field hos hds (x := vs) rfl (wpAny_pure ?_)))))))
    refine wpAny_bind (HT.slicePart_ ps ?_)
    show wpAny _ _ (if ((-1 : Int) == 0) = true then _ else _) _ _ s
    rw [if_neg (by decide)]
    refine wpAny_bind (slicePart_none (wpAny_bind (slicePart_none (wpAny_bind (wpAny_pure ?_)))))
    show wpAny _ _ (match Builtin.Slice.sliceAdjust none none (-1) (items.size : Int) with | (lo, hi) => pure (lo, (-1 : Int), Builtin.Slice.slicePlaces lo hi (-1))) _ _ s
    rw [adjust_rev]
    show wpAny _ _ (pure (((items.size : Int) - 1), (-1 : Int), Builtin.Slice.slicePlaces ((items.size : Int) - 1) (-1) (-1))) _ _ s
    rw [places_rev]
    exact wpAny_pure hR
  refine wpAny_bind (ap ?_)
  have hno : ¬ ((((items.size : Int) - 1) == 0 && (-1 : Int) == 1 && items.size == items.size) = true) := by
    rw [show ((-1 : Int) == 1) = false from rfl]
    simp
  show wpAny _ _ (if (((items.size : Int) - 1) == 0 && (-1 : Int) == 1 && items.size == items.size) = true then _ else _) _ _ s
  rw [if_neg hno, pick_rev items]
  first
    | exact wpAny_bind (m := Builtin.Tuple.tupleExact _) (wpAny_newObj_type (wpAny_pure ⟨_, rfl, wpAny_pure h⟩) fits)
    | exact wpAny_bind (m := Builtin.Tuple.tupleExact _) (wpAny_newObj_type (wpAny_bind (wpAny_pure (wpAny_pure ⟨_, rfl, wpAny_pure h⟩))) fits)
    | exact wpAny_bind (wpAny_bind (m := Builtin.Tuple.tupleExact _) (wpAny_newObj_type (wpAny_pure (wpAny_pure ⟨_, rfl, wpAny_pure h⟩)) fits))
    | exact wpAny_bind (wpAny_bind (m := Builtin.Tuple.tupleExact _) (wpAny_newObj_type (wpAny_pure ⟨_, rfl, wpAny_pure h⟩) fits))
end
def tRevT (K : PySem.W.Frag) (te : TE) : TE := fun σ H Q => te σ H fun x H1 => ∃ a xs, x = .ref a ∧ SqT K H1 a xs ∧ ∀ p, H1 p = none → Q (.ref p) (upd H1 p (.tup xs.reverse))
section
variable {X : Cx}
theorem pe_revT {e : Expr} {te : TE} {k : Nat} {p1 p2 p3 pos : Pos} (he : PE X e te) : PE X (.Subscript e (.Slice none none (some (.UnaryOp .USub (.Constant (.int 1) k p1) p2)) p3) pos) (tRevT X.K te) := by
  have step : PO X (some (.UnaryOp .USub (.Constant (.int 1) k p1) p2)) (tPart (tUn (rU fun i => .int (-i)) (tC (.int 1)))) := po_some (pe_un un_neg pe_int)
  refine ⟨fun pins s σ H Q I h => Subscript_ (thn (he.run pins s σ H _ I h) fun v s1 ⟨x, H1, I1, r1, a, xs, ex, hx, q⟩ => ?_)⟩
  subst ex
  cases r1
  refine wpAny_Slice (thn (po_none.run pins s1 σ H1 (fun o G => o = none ∧ G = H1) I1 ⟨rfl, rfl⟩) fun vl s2 ⟨l, H2, I2, pl, el, e2⟩ => ?_)
  subst el e2
  refine thn (po_none.run pins s2 σ H2 (fun o G => o = none ∧ G = H2) I2 ⟨rfl, rfl⟩) fun vu s3 ⟨u, H3, I3, pu, eu, e3⟩ => ?_
  subst eu e3
  refine thn (step.run pins s3 σ H3 (fun o G => o = some (-1) ∧ G = H3) I3 ⟨1, rfl, -1, rfl, rfl, rfl⟩) fun vs s4 ⟨o, H4, I4, ps, eo, e4⟩ => ?_
  subst eo e4
  cases pl
  cases pu
  have I5 : Inv X pins σ H4 { s4 with heap := s4.heap.push { cls := .type "slice", data := .fields #[.none, .none, vs] } } := I4.kept (t' := s4.toks) fun b ob q => Heap.get?_push_of_some _ q
  obtain ⟨its, r, ht, hz⟩ := I5.tuple hx
  have hlen := r.length
  refine tail_any (ops := [.ref a, .ref s4.heap.objs.size]) (s := { s4 with heap := s4.heap.push { cls := .type "slice", data := .fields #[.none, .none, vs] } }) ht.typeIs PyProof.Rows.slot_tuple_getitem.lookup ?_ (by with_unfolding_all rfl)
  refine getItem_tuple_rev ht (Heap.IsSliceOf.new _ .none .none vs) ps (by rw [List.size_toArray]; omega) ?_
  refine ⟨.ref _, _, I5.laid (t' := s4.toks) (o := .tup xs.reverse) (fun b ob q => Heap.get?_push_of_some _ q) (Nat.le_refl _) ?_, rfl, q _ (I5.hok.fresh (Nat.le_refl _))⟩
  exact ⟨by rw [List.length_reverse]; exact hz, its.reverse, r.reverse, _, Heap.get?_push_size _ rfl, rfl, _, rfl⟩
end
section
variable {c : Cn} {X : Cx} {W : WX}
def mRevT (m : Ev) : Ev := fun env mh => (m env mh).bind fun d mh1 => match d with
  | .tup ds => .ok (.tup ds.reverse) mh1
  | _ => .no
theorem dqs_rev {am : List Addr} {H : Hp} : ∀ {vs : List V} {ds : List D}, DqAll c am H vs ds → DqAll c am H vs.reverse ds.reverse := fun {vs ds} q => by
  have app : ∀ {a b : List V} {x y : List D}, DqAll c am H a x → DqAll c am H b y → DqAll c am H (a ++ b) (x ++ y) := fun {a b x y} qa qb => by
    induction a generalizing x with
    | nil => cases qa; exact qb
    | cons v r ih => cases qa with | cons q1 qs => exact .cons q1 (ih qs)
  induction vs generalizing ds with
  | nil => cases q; exact .nil
  | cons v r ih =>
    cases q with | cons q1 qs =>
    rw [List.reverse_cons, List.reverse_cons]
    exact app (ih qs) (.cons q1 .nil)
theorem se_revT {e : Expr} {m : Ev} {k : Nat} {p1 p2 p3 pos : Pos} (hK : X.K = c.K) (he : SE c W X e m) : SE c W X (.Subscript e (.Slice none none (some (.UnaryOp .USub (.Constant (.int 1) k p1) p2)) p3) pos) (mRevT m) := by
  obtain ⟨t, pt, kk⟩ := he
  refine ⟨_, pe_revT pt, fun F am Hk H σ env mh Q R h => ?_⟩
  refine kk F am Hk H σ env mh _ R (GP.step h fun d mh1 er v am1 Hk1 H1 g1 e1 R1 q1 h1 => ?_)
  cases d <;> first | exact h1.elim | skip
  rename_i ds
  cases q1 with | tup s1 qs =>
  rename_i a xs
  rw [hK]
  exact ⟨a, xs, rfl, .of (R1.known _ _ s1), new_ok R1 (fun p hp => dq_tup (R1.hk_none hp) (dqs_rev qs)) fun v Hk' H' le R' q' => h1 v am1 Hk' H' (Go.refl _) le R' q'⟩
@[simp] theorem S_revT {env : En} {mh : Mh} {P : D → Mh → Prop} {a : Ev} : (mRevT a env mh).S P = (a env mh).S fun d m1 => match d with | .tup ds => P (.tup ds.reverse) m1 | _ => False := by
  unfold mRevT
  rw [S_bind]
  congr 1
  funext d m1
  cases d <;> rfl
end
end Mi

set_option Elab.async false
set_option linter.all false
set_option maxRecDepth 100000
set_option maxHeartbeats 1000000
namespace Mi
open PySem L2
/-! ### boxes -/
def boxB (r0 r1 c0 c1 : Nat) (p : Nat × Nat) : Bool := decide ((r0 ≤ p.1 ∧ p.1 ≤ r1) ∧ c0 ≤ p.2 ∧ p.2 ≤ c1)
def boxP (h w r0 r1 c0 c1 : Nat) : List (Nat × Nat) := (places h w).filter (boxB r0 r1 c0 c1)
section
variable {h w r0 r1 c0 c1 : Nat}
theorem mem_boxP {p : Nat × Nat} : p ∈ boxP h w r0 r1 c0 c1 ↔ (p.1 < h ∧ p.2 < w) ∧ (r0 ≤ p.1 ∧ p.1 ≤ r1) ∧ c0 ≤ p.2 ∧ p.2 ≤ c1 := by
  unfold boxP boxB
  rw [List.mem_filter, mem_places, decide_eq_true_iff]
theorem inI_box (hr : r1 < h) (hc : c1 < w) {x : Int × Int} : inI x (boxP h w r0 r1 c0 c1) = decide (((r0 : Int) ≤ x.1 ∧ x.1 ≤ r1) ∧ (c0 : Int) ≤ x.2 ∧ x.2 ≤ c1) := by
  rw [Bool.eq_iff_iff, inI_iff, decide_eq_true_iff]
  constructor
  · rintro ⟨p, hp, e1, e2⟩
    have := (mem_boxP.mp hp).2
    omega
  · intro hx
    exact ⟨(x.1.toNat, x.2.toNat), mem_boxP.mpr (by simp only; omega), by simp only; omega, by simp only; omega⟩
def oneIf (b : Bool) : Nat := if b then 1 else 0
theorem cnt_box (hr : r1 < h) (hc : c1 < w) {p : Nat × Nat} (hp : p ∈ boxP h w r0 r1 c0 c1) : cntV (boxP h w r0 r1 c0 c1) p = oneIf (decide (p.1 = r0)) + oneIf (decide (p.2 = c1)) + oneIf (decide (p.1 = r1)) + oneIf (decide (p.2 = c0)) := by
  have hb := (mem_boxP.mp hp).2
  unfold cntV
  rw [show List.range 4 = [0, 1, 2, 3] from rfl]
  have i0 : (!inI (overI p 0) (boxP h w r0 r1 c0 c1)) = decide (p.1 = r0) := by
    rw [inI_box hr hc, ← decide_not]; unfold overI stR stC; refine decide_eq_decide.mpr ?_; simp; omega
  have i1 : (!inI (overI p 1) (boxP h w r0 r1 c0 c1)) = decide (p.2 = c1) := by
    rw [inI_box hr hc, ← decide_not]; unfold overI stR stC; refine decide_eq_decide.mpr ?_; simp; omega
  have i2 : (!inI (overI p 2) (boxP h w r0 r1 c0 c1)) = decide (p.1 = r1) := by
    rw [inI_box hr hc, ← decide_not]; unfold overI stR stC; refine decide_eq_decide.mpr ?_; simp; omega
  have i3 : (!inI (overI p 3) (boxP h w r0 r1 c0 c1)) = decide (p.2 = c0) := by
    rw [inI_box hr hc, ← decide_not]; unfold overI stR stC; refine decide_eq_decide.mpr ?_; simp; omega
  simp only [List.filter_cons, List.filter_nil, i0, i1, i2, i3, oneIf]
  generalize decide (p.1 = r0) = b0
  generalize decide (p.2 = c1) = b1
  generalize decide (p.1 = r1) = b2
  generalize decide (p.2 = c0) = b3
  cases b0 <;> cases b1 <;> cases b2 <;> cases b3 <;> rfl
theorem sum_oneIf {α : Type} (q : α → Bool) : ∀ xs : List α, (xs.map fun x => oneIf (q x)).sum = (xs.filter q).length
  | [] => rfl
  | x :: r => by
    rw [List.map_cons, List.sum_cons, sum_oneIf q r, List.filter_cons]
    cases q x <;> simp [oneIf]; omega
theorem len_same {α : Type} [DecidableEq α] {xs ys : List α} (hx : xs.Nodup) (hy : ys.Nodup) (h : ∀ a, a ∈ xs ↔ a ∈ ys) : xs.length = ys.length := ((List.perm_ext_iff_of_nodup hx hy).mpr h).length_eq
theorem box_nodup : (boxP h w r0 r1 c0 c1).Nodup := rise_nodup (filter_rise _ _ _)
theorem nodup_line {n a : Nat} {f : Nat → Nat × Nat} (hf : ∀ i j, f i = f j → i = j) : ((List.range n).map f).Nodup := by
  unfold List.Nodup
  rw [List.pairwise_map]
  exact List.Pairwise.imp (fun {x y} (hxy : x < y) e => by have := hf _ _ e; omega) List.pairwise_lt_range
theorem row_box {r : Nat} (hr : r1 < h) (hc : c1 < w) (h0 : r0 ≤ r) (h1 : r ≤ r1) (hcc : c0 ≤ c1) : ((boxP h w r0 r1 c0 c1).filter fun p => decide (p.1 = r)).length = c1 - c0 + 1 := by
  have e := len_same (xs := (boxP h w r0 r1 c0 c1).filter fun p => decide (p.1 = r)) (ys := (List.range (c1 - c0 + 1)).map fun i => (r, c0 + i)) (box_nodup.filter _) (nodup_line (a := 0) fun i j e => by injection e with e1 e2; omega) fun a => by
    rw [List.mem_filter, mem_boxP, decide_eq_true_iff, List.mem_map]
    constructor
    · rintro ⟨⟨_, _, hh⟩, rfl⟩
      exact ⟨a.2 - c0, List.mem_range.mpr (by omega), Prod.ext rfl (by simp only; omega)⟩
    · rintro ⟨i, hi, rfl⟩
      have := List.mem_range.mp hi
      refine ⟨⟨⟨?_, ?_⟩, ⟨?_, ?_⟩, ?_, ?_⟩, rfl⟩ <;> simp only <;> omega
  rw [e, List.length_map, List.length_range]
theorem col_box {c : Nat} (hr : r1 < h) (hc : c1 < w) (h0 : c0 ≤ c) (h1 : c ≤ c1) (hrr : r0 ≤ r1) : ((boxP h w r0 r1 c0 c1).filter fun p => decide (p.2 = c)).length = r1 - r0 + 1 := by
  have e := len_same (xs := (boxP h w r0 r1 c0 c1).filter fun p => decide (p.2 = c)) (ys := (List.range (r1 - r0 + 1)).map fun i => (r0 + i, c)) (box_nodup.filter _) (nodup_line (a := 0) fun i j e => by injection e with e1 e2; omega) fun a => by
    rw [List.mem_filter, mem_boxP, decide_eq_true_iff, List.mem_map]
    constructor
    · rintro ⟨⟨_, hh, _⟩, rfl⟩
      exact ⟨a.1 - r0, List.mem_range.mpr (by omega), Prod.ext (by simp only; omega) rfl⟩
    · rintro ⟨i, hi, rfl⟩
      have := List.mem_range.mp hi
      refine ⟨⟨⟨?_, ?_⟩, ⟨?_, ?_⟩, ?_, ?_⟩, rfl⟩ <;> simp only <;> omega
  rw [e, List.length_map, List.length_range]
theorem sum_add4 {α : Type} (a b c d : α → Nat) : ∀ xs : List α, (xs.map fun x => a x + b x + c x + d x).sum = (xs.map a).sum + (xs.map b).sum + (xs.map c).sum + (xs.map d).sum
  | [] => rfl
  | x :: r => by simp only [List.map_cons, List.sum_cons, sum_add4 a b c d r]; omega
theorem rim_box (hr : r1 < h) (hc : c1 < w) (hrr : r0 ≤ r1) (hcc : c0 ≤ c1) : rimV (boxP h w r0 r1 c0 c1) = 2 * (r1 - r0 + 1 + (c1 - c0 + 1)) := by
  unfold rimV
  rw [List.map_congr_left fun p hp => cnt_box hr hc hp, sum_add4, sum_oneIf, sum_oneIf, sum_oneIf, sum_oneIf, row_box hr hc (Nat.le_refl _) hrr hcc, row_box hr hc hrr (Nat.le_refl _) hcc, col_box hr hc (Nat.le_refl _) hcc hrr, col_box hr hc hcc (Nat.le_refl _) hrr]
  omega
theorem box_all : boxP h w 0 (h - 1) 0 (w - 1) = places h w := by
  unfold boxP
  refine List.filter_eq_self.mpr fun p hp => ?_
  have := mem_places.mp hp
  unfold boxB
  exact decide_eq_true (by omega)
theorem rim_all (hh : 1 ≤ h) (hw : 1 ≤ w) : rimV (places h w) = 2 * (h + w) := by
  rw [← box_all, rim_box (by omega) (by omega) (Nat.zero_le _) (Nat.zero_le _)]
  omega
end
/-! least and greatest of a sorted list -/
theorem sort_ends {xs : List Nat} (h : xs ≠ []) : ∃ lo hi t u, xs.mergeSort ordN.le = lo :: t ∧ xs.mergeSort ordN.le = u ++ [hi] ∧ lo ∈ xs ∧ hi ∈ xs ∧ ∀ x ∈ xs, lo ≤ x ∧ x ≤ hi := by
  have hp := List.mergeSort_perm xs ordN.le
  have pw := ordN.pw xs
  have le' : ∀ a b, ordN.le a b = true → a ≤ b := fun a b h => by
    rcases ordN.le_iff.mp h with h | h
    · exact Nat.le_of_lt (of_decide_eq_true h)
    · exact Nat.le_of_eq h
  generalize hs : xs.mergeSort ordN.le = S at hp pw
  have hne : S ≠ [] := fun e => by rw [e] at hp; exact h (List.Perm.nil_eq hp).symm
  obtain ⟨lo, t, e1⟩ := List.exists_cons_of_ne_nil hne
  obtain ⟨u, hi, e2⟩ : ∃ u hi, S = u ++ [hi] := ⟨S.dropLast, S.getLast hne, (List.dropLast_concat_getLast hne).symm⟩
  refine ⟨lo, hi, t, u, e1, e2, hp.mem_iff.mp (by rw [e1]; simp), hp.mem_iff.mp (by rw [e2]; simp), fun x hx => ?_⟩
  have hx := hp.mem_iff.mpr hx
  constructor
  · rw [e1] at pw hx
    rcases List.mem_cons.mp hx with rfl | hx
    · exact Nat.le_refl _
    · exact le' _ _ ((List.pairwise_cons.mp pw).1 x hx)
  · rw [e2] at pw hx
    rcases List.mem_append.mp hx with hx | hx
    · exact le' _ _ ((List.pairwise_append.mp pw).2.2 x hx hi (by simp))
    · rw [List.mem_singleton.mp hx]; exact Nat.le_refl _
end Mi

set_option Elab.async false
set_option linter.all false
set_option maxRecDepth 100000
set_option maxHeartbeats 2000000
namespace K77
open PySem PySem.Spec PyProof.Rows L2 Mi
def topS (i : Nat) : Stmt := PySem.Challenge.pw_orchardrows_k77_whole_rims_round_places.main.body.getD i (.Pass ⟨0, 0, 0, 0⟩)
def g_BARE : D := (.str ".")
def g_KINDS : D := (.str "abcdefgh")
def g_SIDE : D := (.int 12)
def g_STEPS : D := (.ktup [(.ktup [(.int (-1)), (.int 0)]), (.ktup [(.int 0), (.int 1)]), (.ktup [(.int 1), (.int 0)]), (.ktup [(.int 0), (.int (-1))])])
abbrev s0 : Stmt := topS 9
abbrev N0 : List Str := ["value"]
abbrev P0 : List Str := ["value"]
theorem sc0 : FnScope N0 P0 (defScope s0) := ⟨rfl, rfl, rfl, by decide +kernel, rfl, by decide +kernel, by decide +kernel⟩
abbrev s1 : Stmt := topS 10
abbrev N1 : List Str := ["value", "low", "high"]
abbrev P1 : List Str := ["value", "low", "high"]
theorem sc1 : FnScope N1 P1 (defScope s1) := ⟨rfl, rfl, rfl, by decide +kernel, rfl, by decide +kernel, by decide +kernel⟩
abbrev s2 : Stmt := topS 11
abbrev N2 : List Str := ["value", "least", "most"]
abbrev P2 : List Str := ["value", "least", "most"]
theorem sc2 : FnScope N2 P2 (defScope s2) := ⟨rfl, rfl, rfl, by decide +kernel, rfl, by decide +kernel, by decide +kernel⟩
abbrev s3 : Stmt := topS 12
abbrev N3 : List Str := ["values", "one", "other"]
abbrev P3 : List Str := ["values"]
theorem sc3 : FnScope N3 P3 (defScope s3) := ⟨rfl, rfl, rfl, by decide +kernel, rfl, by decide +kernel, by decide +kernel⟩
abbrev s4 : Stmt := topS 13
abbrev N4 : List Str := ["value", "sign"]
abbrev P4 : List Str := ["value"]
theorem sc4 : FnScope N4 P4 (defScope s4) := ⟨rfl, rfl, rfl, by decide +kernel, rfl, by decide +kernel, by decide +kernel⟩
abbrev s5 : Stmt := topS 14
abbrev N5 : List Str := ["value", "one"]
abbrev P5 : List Str := ["value"]
theorem sc5 : FnScope N5 P5 (defScope s5) := ⟨rfl, rfl, rfl, by decide +kernel, rfl, by decide +kernel, by decide +kernel⟩
abbrev s6 : Stmt := topS 15
abbrev N6 : List Str := ["value"]
abbrev P6 : List Str := ["value"]
theorem sc6 : FnScope N6 P6 (defScope s6) := ⟨rfl, rfl, rfl, by decide +kernel, rfl, by decide +kernel, by decide +kernel⟩
abbrev s7 : Stmt := topS 16
abbrev N7 : List Str := ["plot", "value"]
abbrev P7 : List Str := ["plot", "value"]
theorem sc7 : FnScope N7 P7 (defScope s7) := ⟨rfl, rfl, rfl, by decide +kernel, rfl, by decide +kernel, by decide +kernel⟩
abbrev s8 : Stmt := topS 17
abbrev N8 : List Str := ["plot", "row", "column"]
abbrev P8 : List Str := ["plot"]
theorem sc8 : FnScope N8 P8 (defScope s8) := ⟨rfl, rfl, rfl, by decide +kernel, rfl, by decide +kernel, by decide +kernel⟩
abbrev s9 : Stmt := topS 18
abbrev N9 : List Str := ["plot", "row", "column"]
abbrev P9 : List Str := ["plot"]
theorem sc9 : FnScope N9 P9 (defScope s9) := ⟨rfl, rfl, rfl, by decide +kernel, rfl, by decide +kernel, by decide +kernel⟩
abbrev s10 : Stmt := topS 20
abbrev N10 : List Str := ["plot", "value", "one"]
abbrev P10 : List Str := ["plot", "value"]
theorem sc10 : FnScope N10 P10 (defScope s10) := ⟨rfl, rfl, rfl, by decide +kernel, rfl, by decide +kernel, by decide +kernel⟩
abbrev s11 : Stmt := topS 21
abbrev N11 : List Str := ["plot", "value"]
abbrev P11 : List Str := ["plot", "value"]
theorem sc11 : FnScope N11 P11 (defScope s11) := ⟨rfl, rfl, rfl, by decide +kernel, rfl, by decide +kernel, by decide +kernel⟩
abbrev s12 : Stmt := topS 22
abbrev N12 : List Str := ["place", "side"]
abbrev P12 : List Str := ["place", "side"]
theorem sc12 : FnScope N12 P12 (defScope s12) := ⟨rfl, rfl, rfl, by decide +kernel, rfl, by decide +kernel, by decide +kernel⟩
abbrev s13 : Stmt := topS 23
abbrev N13 : List Str := ["one", "other", "low", "high"]
abbrev P13 : List Str := ["one", "other"]
theorem sc13 : FnScope N13 P13 (defScope s13) := ⟨rfl, rfl, rfl, by decide +kernel, rfl, by decide +kernel, by decide +kernel⟩
abbrev s14 : Stmt := topS 24
abbrev N14 : List Str := ["places", "place", "side"]
abbrev P14 : List Str := ["places"]
theorem sc14 : FnScope N14 P14 (defScope s14) := ⟨rfl, rfl, rfl, by decide +kernel, rfl, by decide +kernel, by decide +kernel⟩
abbrev s15 : Stmt := topS 25
abbrev N15 : List Str := ["places", "rows", "columns", "own"]
abbrev P15 : List Str := ["places"]
theorem sc15 : FnScope N15 P15 (defScope s15) := ⟨rfl, rfl, rfl, by decide +kernel, rfl, by decide +kernel, by decide +kernel⟩
abbrev s16 : Stmt := topS 26
abbrev N16 : List Str := ["plot", "value"]
abbrev P16 : List Str := ["plot", "value"]
theorem sc16 : FnScope N16 P16 (defScope s16) := ⟨rfl, rfl, rfl, by decide +kernel, rfl, by decide +kernel, by decide +kernel⟩
abbrev s17 : Stmt := topS 27
abbrev N17 : List Str := ["plot", "places"]
abbrev P17 : List Str := ["plot", "places"]
theorem sc17 : FnScope N17 P17 (defScope s17) := ⟨rfl, rfl, rfl, by decide +kernel, rfl, by decide +kernel, by decide +kernel⟩
abbrev s18 : Stmt := topS 28
abbrev N18 : List Str := ["plot", "places"]
abbrev P18 : List Str := ["plot", "places"]
theorem sc18 : FnScope N18 P18 (defScope s18) := ⟨rfl, rfl, rfl, by decide +kernel, rfl, by decide +kernel, by decide +kernel⟩
abbrev s19 : Stmt := topS 29
abbrev N19 : List Str := ["plot", "places", "some", "own", "one", "other"]
abbrev P19 : List Str := ["plot", "places"]
theorem sc19 : FnScope N19 P19 (defScope s19) := ⟨rfl, rfl, rfl, by decide +kernel, rfl, by decide +kernel, by decide +kernel⟩
abbrev s20 : Stmt := topS 30
abbrev N20 : List Str := ["plot", "places"]
abbrev P20 : List Str := ["plot", "places"]
theorem sc20 : FnScope N20 P20 (defScope s20) := ⟨rfl, rfl, rfl, by decide +kernel, rfl, by decide +kernel, by decide +kernel⟩
abbrev s21 : Stmt := topS 31
abbrev N21 : List Str := ["plot", "places", "up", "left", "down", "right"]
abbrev P21 : List Str := ["plot", "places"]
theorem sc21 : FnScope N21 P21 (defScope s21) := ⟨rfl, rfl, rfl, by decide +kernel, rfl, by decide +kernel, by decide +kernel⟩
abbrev s22 : Stmt := topS 32
abbrev N22 : List Str := ["plot", "lots", "row", "column", "kind"]
abbrev P22 : List Str := ["plot"]
theorem sc22 : FnScope N22 P22 (defScope s22) := ⟨rfl, rfl, rfl, by decide +kernel, rfl, by decide +kernel, by decide +kernel⟩
abbrev s23 : Stmt := topS 34
abbrev N23 : List Str := ["script", "cell"]
abbrev P23 : List Str := ["script"]
theorem sc23 : FnScope N23 P23 (defScope s23) := ⟨rfl, rfl, rfl, by decide +kernel, rfl, by decide +kernel, by decide +kernel⟩
abbrev s24 : Stmt := topS 35
abbrev N24 : List Str := ["cup", "many", "deep", "found"]
abbrev P24 : List Str := ["cup", "many"]
theorem sc24 : FnScope N24 P24 (defScope s24) := ⟨rfl, rfl, rfl, by decide +kernel, rfl, by decide +kernel, by decide +kernel⟩
abbrev s25 : Stmt := topS 36
abbrev N25 : List Str := ["cup", "things"]
abbrev P25 : List Str := ["cup", "things"]
theorem sc25 : FnScope N25 P25 (defScope s25) := ⟨rfl, rfl, rfl, by decide +kernel, rfl, by decide +kernel, by decide +kernel⟩
abbrev s26 : Stmt := topS 37
abbrev N26 : List Str := ["told", "due", "at"]
abbrev P26 : List Str := ["told", "due"]
theorem sc26 : FnScope N26 P26 (defScope s26) := ⟨rfl, rfl, rfl, by decide +kernel, rfl, by decide +kernel, by decide +kernel⟩
abbrev s27 : Stmt := topS 38
abbrev N27 : List Str := ["cup", "most", "kinds", "signs", "high", "wide", "row", "column"]
abbrev P27 : List Str := ["cup", "most", "kinds"]
theorem sc27 : FnScope N27 P27 (defScope s27) := ⟨rfl, rfl, rfl, by decide +kernel, rfl, by decide +kernel, by decide +kernel⟩
abbrev s28 : Stmt := topS 39
abbrev N28 : List Str := ["plot", "found", "row", "column"]
abbrev P28 : List Str := ["plot"]
theorem sc28 : FnScope N28 P28 (defScope s28) := ⟨rfl, rfl, rfl, by decide +kernel, rfl, by decide +kernel, by decide +kernel⟩
abbrev s29 : Stmt := topS 40
abbrev N29 : List Str := ["cup", "rows", "often", "own"]
abbrev P29 : List Str := ["cup", "rows", "often"]
theorem sc29 : FnScope N29 P29 (defScope s29) := ⟨rfl, rfl, rfl, by decide +kernel, rfl, by decide +kernel, by decide +kernel⟩
abbrev s30 : Stmt := topS 41
abbrev N30 : List Str := ["places", "found", "row", "column", "over", "side"]
abbrev P30 : List Str := ["places"]
theorem sc30 : FnScope N30 P30 (defScope s30) := ⟨rfl, rfl, rfl, by decide +kernel, rfl, by decide +kernel, by decide +kernel⟩
abbrev s31 : Stmt := topS 42
abbrev N31 : List Str := ["cup", "plot", "every", "places", "sides", "hedges", "rims", "kind", "near", "value", "row", "column", "side", "over", "box", "rim", "whole", "own", "good", "first", "rows", "columns"]
abbrev P31 : List Str := ["cup"]
theorem sc31 : FnScope N31 P31 (defScope s31) := ⟨rfl, rfl, rfl, by decide +kernel, rfl, by decide +kernel, by decide +kernel⟩
abbrev s32 : Stmt := topS 43
abbrev N32 : List Str := ["script", "cup", "turn", "plot", "every", "told", "high", "wide"]
abbrev P32 : List Str := ["script"]
theorem sc32 : FnScope N32 P32 (defScope s32) := ⟨rfl, rfl, rfl, by decide +kernel, rfl, by decide +kernel, by decide +kernel⟩
/-- is_whole -/
def b0 (call : CallT) : Sv :=
  (mRet (mAndV (mIsi "int" (mVar 0)) (mNotV (mIsi "bool" (mVar 0)))))
/-- fits_whole -/
def b1 (call : CallT) : Sv :=
  (mRet (mAndV (mCall 1 (call 0) (mCons (mVar 0) mNil)) (mChain dLe dLe (mVar 1) (mVar 0) (mVar 2))))
/-- is_tuple_of -/
def b2 (call : CallT) : Sv :=
  (mRet (mAndV (mIsi "tuple" (mVar 0)) (mChain dLe dLe (mVar 1) (mB (fOne dLen) (mCons (mVar 0) mNil)) (mVar 2))))
/-- is_rising -/
def b3 (call : CallT) : Sv :=
  (mRet (mB (fOne dAll) (mCons (mFz (mCompC [1, 2] (mRng dZip (mCons (mVar 0) (mCons (mSl (mVar 0) (mSo (mC (.int 1))) mNo) mNil))) (gTupD 2 (gsCons (gSet 1) (gsCons (gSet 2) gsNil))) tt (m2 dLt (mVar 1) (mVar 2)))) mNil)))
/-- fits_row -/
def b4 (call : CallT) : Sv :=
  (mRet (mAndV (mIsi "str" (mVar 0)) (mAndV (mChain dLe dLe (mC (.int 1)) (mB (fOne dLen) (mCons (mVar 0) mNil)) (mC g_SIDE)) (mB (fOne dAll) (mCons (mFz (mCompC [1] (mIter (mVar 0)) (gSet 1) tt (mOrV (m2 dEq (mVar 1) (mC g_BARE)) (m2 dIn (mVar 1) (mC g_KINDS))))) mNil)))))
/-- fits_plot -/
def b5 (call : CallT) : Sv :=
  (mSeq (mIfS (mOr (mNot (mT (mCall 3 (call 2) (mCons (mVar 0) (mCons (mC (.int 1)) (mCons (mC g_SIDE) mNil)))))) (mNot (mT (mB (fOne dAll) (mCons (mFz (mCompC [1] (mIter (mVar 0)) (gSet 1) tt (mCall 1 (call 4) (mCons (mVar 1) mNil)))) mNil))))) (mRet (mC (.bl false))) mSkip)
    (mRet (mB (fOne dAll) (mCons (mFz (mCompC [1] (mIter (mVar 0)) (gSet 1) tt (m2 dEq (mB (fOne dLen) (mCons (mVar 1) mNil)) (mB (fOne dLen) (mCons (mIx (mVar 0) (mC (.int 0))) mNil))))) mNil))))
/-- need_plot -/
def b6 (call : CallT) : Sv :=
  (mIfS (mNot (mT (mCall 1 (call 5) (mCons (mVar 0) mNil)))) mNever mSkip)
/-- fits_place -/
def b7 (call : CallT) : Sv :=
  (mSeq (mIfS (mNot (mT (mCall 3 (call 2) (mCons (mVar 1) (mCons (mC (.int 2)) (mCons (mC (.int 2)) mNil)))))) (mRet (mC (.bl false))) mSkip)
    (mRet (mAndV (mCall 3 (call 1) (mCons (mIx (mVar 1) (mC (.int 0))) (mCons (mC (.int 0)) (mCons (m2 dSub (mB (fOne dLen) (mCons (mVar 0) mNil)) (mC (.int 1))) mNil)))) (mCall 3 (call 1) (mCons (mIx (mVar 1) (mC (.int 1))) (mCons (mC (.int 0)) (mCons (m2 dSub (mB (fOne dLen) (mCons (mIx (mVar 0) (mC (.int 0))) mNil)) (mC (.int 1))) mNil)))))))
/-- places_in -/
def b8 (call : CallT) : Sv :=
  (mRet (mFz (mCompC2 [1, 2] [2] (mRng dRng1 (mCons (mB (fOne dLen) (mCons (mVar 0) mNil)) mNil)) (gSet 1) tt (mRng dRng1 (mCons (mB (fOne dLen) (mCons (mIx (mVar 0) (mC (.int 0))) mNil)) mNil)) (gSet 2) tt (mTup (mCons (mVar 1) (mCons (mVar 2) mNil))))))
/-- trees_in -/
def b9 (call : CallT) : Sv :=
  (mRet (mFz (mCompC [1, 2] (mIter (mCall 1 (call 8) (mCons (mVar 0) mNil))) (gTupD 2 (gsCons (gSet 1) (gsCons (gSet 2) gsNil))) (mT (m2 dNe (mIx (mIx (mVar 0) (mVar 1)) (mVar 2)) (mC g_BARE))) (mTup (mCons (mVar 1) (mCons (mVar 2) mNil))))))
/-- fits_places -/
def b10 (call : CallT) : Sv :=
  (mRet (mAndV (mIsi "tuple" (mVar 1)) (mAndV (mB (fOne dAll) (mCons (mFz (mCompC [2] (mIter (mVar 1)) (gSet 2) tt (mCall 2 (call 7) (mCons (mVar 0) (mCons (mVar 2) mNil))))) mNil)) (mCall 1 (call 3) (mCons (mVar 1) mNil)))))
/-- need_places -/
def b11 (call : CallT) : Sv :=
  (mSeq (mDrop (mCall 1 (call 6) (mCons (mVar 0) mNil)))
    (mIfS (mNot (mT (mCall 2 (call 10) (mCons (mVar 0) (mCons (mVar 1) mNil))))) mNever mSkip))
/-- over_in -/
def b12 (call : CallT) : Sv :=
  (mRet (mTup (mCons (m2 dAdd (mIx (mVar 0) (mC (.int 0))) (mIx (mIx (mC g_STEPS) (mVar 1)) (mC (.int 0)))) (mCons (m2 dAdd (mIx (mVar 0) (mC (.int 1))) (mIx (mIx (mC g_STEPS) (mVar 1)) (mC (.int 1)))) mNil))))
/-- hedge_in -/
def b13 (call : CallT) : Sv :=
  (mSeq (mPar' 2 3 (mSh (mB dMinL (mCons (mVar 0) (mCons (mVar 1) mNil)))) (mSh (mB dMaxL (mCons (mVar 0) (mCons (mVar 1) mNil)))))
    (mRet (m2 dAdd (mVar 2) (mTup (mCons (mIf (mT (m2 dEq (mIx (mVar 2) (mC (.int 0))) (mIx (mVar 3) (mC (.int 0))))) (mC (.int 1)) (mC (.int 2))) mNil)))))
/-- sides_in -/
def b14 (call : CallT) : Sv :=
  (mRet (mFz (mCompC2 [1, 2] [2] (mIter (mVar 0)) (gSet 1) tt (mRng dRng1 (mCons (mC (.int 4)) mNil)) (gSet 2) (mT (m2 dNotIn (mCall 2 (call 12) (mCons (mVar 1) (mCons (mVar 2) mNil))) (mVar 0))) (m2 dAdd (mVar 1) (mTup (mCons (mVar 2) mNil))))))
/-- box_in -/
def b15 (call : CallT) : Sv :=
  (mSeq (mPar' 1 2 (mSh (mFz (mCompC [3] (mIter (mVar 0)) (gSet 3) tt (mIx (mVar 3) (mC (.int 0)))))) (mSh (mFz (mCompC [3] (mIter (mVar 0)) (gSet 3) tt (mIx (mVar 3) (mC (.int 1)))))))
    (mRet (mTup (mCons (mTup (mCons (mB (dMinA) (mCons (mVar 1) mNil)) (mCons (mB (dMinA) (mCons (mVar 2) mNil)) mNil))) (mCons (mTup (mCons (mB (dMaxA) (mCons (mVar 1) mNil)) (mCons (mB (dMaxA) (mCons (mVar 2) mNil)) mNil))) mNil)))))
/-- is_places -/
def b16 (call : CallT) : Sv :=
  (mSeq (mDrop (mCall 1 (call 6) (mCons (mVar 0) mNil)))
    (mRet (mCall 2 (call 10) (mCons (mVar 0) (mCons (mVar 1) mNil)))))
/-- rim_of -/
def b17 (call : CallT) : Sv :=
  (mSeq (mDrop (mCall 2 (call 11) (mCons (mVar 0) (mCons (mVar 1) mNil))))
    (mRet (mB (fOne dLen) (mCons (mCall 1 (call 14) (mCons (mVar 1) mNil)) mNil))))
/-- rim_sides -/
def b18 (call : CallT) : Sv :=
  (mSeq (mDrop (mCall 2 (call 11) (mCons (mVar 0) (mCons (mVar 1) mNil))))
    (mRet (mB (fOne dTuple) (mCons (mCall 1 (call 14) (mCons (mVar 1) mNil)) mNil))))
/-- hedges_round -/
def b19 (call : CallT) : Sv :=
  (mSeq (mDrop (mCall 2 (call 11) (mCons (mVar 0) (mCons (mVar 1) mNil))))
    (mSeq (mFzA 2 (mSet 2 (mCompC [3] (mIter (mCall 1 (call 14) (mCons (mVar 1) mNil))) (gSet 3) tt (mTup (mCons (mSl (mVar 3) mNo (mSo (mC (.int 2)))) (mCons (mCall 2 (call 12) (mCons (mSl (mVar 3) mNo (mSo (mC (.int 2)))) (mCons (mIx (mVar 3) (mC (.int 2))) mNil))) mNil))))))
    (mRet (mB (fOne dTuple) (mCons (mB (fOne dSorted) (mCons (mFz (mCompC [4, 5] (mIter (mVar 2)) (gTupD 2 (gsCons (gSet 4) (gsCons (gSet 5) gsNil))) (mT (mCall 2 (call 7) (mCons (mVar 0) (mCons (mVar 5) mNil)))) (mCall 2 (call 13) (mCons (mVar 4) (mCons (mVar 5) mNil))))) mNil)) mNil)))))
/-- box_round -/
def b20 (call : CallT) : Sv :=
  (mSeq (mDrop (mCall 2 (call 11) (mCons (mVar 0) (mCons (mVar 1) mNil))))
    (mRet (mIf (mT (m2 dNe (mVar 1) (mTup mNil))) (mCall 1 (call 15) (mCons (mVar 1) mNil)) (mC .non))))
/-- box_rim -/
def b21 (call : CallT) : Sv :=
  (mSeq (mDrop (mCall 2 (call 11) (mCons (mVar 0) (mCons (mVar 1) mNil))))
    (mSeq (mIfS (mT (m2 dEq (mVar 1) (mTup mNil))) (mRet (mC (.int 0))) mSkip)
    (mSeq (mAsg (gTupD 2 (gsCons (gTupD 2 (gsCons (gSet 2) (gsCons (gSet 3) gsNil))) (gsCons (gTupD 2 (gsCons (gSet 4) (gsCons (gSet 5) gsNil))) gsNil))) (mCall 1 (call 15) (mCons (mVar 1) mNil)))
    (mRet (m2 dMul (mC (.int 2)) (m2 dAdd (m2 dSub (m2 dAdd (m2 dAdd (m2 dSub (mVar 4) (mVar 2)) (mC (.int 1))) (mVar 5)) (mVar 3)) (mC (.int 1))))))))
/-- kind_rims -/
def b22 (call : CallT) : Sv :=
  (mSeq (mDrop (mCall 1 (call 6) (mCons (mVar 0) mNil)))
    (mSeq (mSet 1 (mNewD false))
    (mSeq (mFor (mIter (mCall 1 (call 9) (mCons (mVar 0) mNil))) (gTupD 2 (gsCons (gSet 2) (gsCons (gSet 3) gsNil))) (mPutV 1 (mIx (mIx (mVar 0) (mVar 2)) (mVar 3)) (m2 dAdd (mGetV 1 (mIx (mIx (mVar 0) (mVar 2)) (mVar 3)) (mTup mNil)) (mTup (mCons (mTup (mCons (mVar 2) (mCons (mVar 3) mNil))) mNil)))))
    (mFrz 1 (mRet (mB (fOne dTuple) (mCons (mFz (mCompC [4] (mIter (mB (fOne dSorted) (mCons (mVar 1) mNil))) (gSet 4) tt (mTup (mCons (mVar 4) (mCons (mB (fOne dLen) (mCons (mCall 1 (call 14) (mCons (mIxV 1 (mVar 4)) mNil)) mNil)) mNil))))) mNil)))))))
/-- _law_cup -/
def b23 (call : CallT) : Sv :=
  (mSeq (mSet 1 (mSh (mB (fOne dAbs) (mCons (mIx (m2 dAdd (mB (fOne dList) (mCons (mVar 0) mNil)) (mLst (mCons (mC (.int 0)) mNil))) (mC (.int 0))) mNil))))
    (mRetLoc (mCons (mIf (mT (m2 dGe (mVar 1) (m2 dPow (mC (.int 10)) (mC (.int 18))))) (m2 dFdiv (mVar 1) (mC (.int 61))) (mC (.int 0))) (mCons (m2 dAdd (m2 dMod (mB (fOne dInt) (mCons (m2 dAdd (m2 dMul (mVar 1) (mC (.int 293))) (mC (.int 4091))) mNil)) (mC (.int 2077502969))) (mC (.int 199))) mNil))))
/-- _law_roll -/
def b24 (call : CallT) : Sv :=
  (mSeq (mIfS (mT (m2 dGt (mIx (mVar 0) (mC (.int 0))) (mC (.int 0)))) (mSeq (mSet 3 (mSh (m2 dMod (mB (fOne dInt) (mCons (mIx (mVar 0) (mC (.int 0))) mNil)) (mVar 1))))
    (mSeq (mSetIx 0 (mC (.int 0)) (m2 dFdiv (mIx (mVar 0) (mC (.int 0))) (mVar 1)))
    (mRet (mVar 3)))) mSkip)
    (mSeq (mSetIx 0 (mC (.int 1)) (m2 dMod (mB (fOne dInt) (mCons (m2 dAdd (m2 dMul (mIx (mVar 0) (mC (.int 1))) (mC (.int 30911))) (mC (.int 7927))) mNil)) (mC (.int 2147483069))))
    (mSeq (mSet 2 (mSh (m2 dMod (mB (fOne dInt) (mCons (m2 dMul (mIx (mVar 0) (mC (.int 1))) (m2 dAdd (mIx (mVar 0) (mC (.int 1))) (mC (.int 229)))) mNil)) (mC (.int 2147483077)))))
    (mRet (m2 dMod (mB (fOne dInt) (mCons (m2 dFdiv (mVar 2) (mC (.int 809))) mNil)) (mVar 1))))))
/-- _law_some -/
def b25 (call : CallT) : Sv :=
  (mRet (mIx (mVar 1) (mCall 2 (call 24) (mCons (mVar 0) (mCons (mB (fOne dLen) (mCons (mVar 1) mNil)) mNil)))))
/-- _law_same -/
def b26 (call : CallT) : Sv :=
  (mSeq (mIfS (mT (mIsi "tuple" (mVar 1))) (mSeq (mIfS (mOr (mNot (mT (mIsi "tuple" (mVar 0)))) (mT (m2 dNe (mB (fOne dLen) (mCons (mVar 0) mNil)) (mB (fOne dLen) (mCons (mVar 1) mNil))))) (mRet (mC (.bl false))) mSkip)
    (mRet (mB (fOne dAll) (mCons (mFz (mCompC [2] (mRng dRng1 (mCons (mB (fOne dLen) (mCons (mVar 1) mNil)) mNil)) (gSet 2) tt (mCall 2 (call 26) (mCons (mIx (mVar 0) (mVar 2)) (mCons (mIx (mVar 1) (mVar 2)) mNil))))) mNil)))) mSkip)
    (mSeq (mIfS (mT (m2 dIsN (mVar 1) (mC .non))) (mRet (m2 dIsN (mVar 0) (mC .non))) mSkip)
    (mSeq (mIfS (mT (mIsi "bool" (mVar 1))) (mRet (mIf (mT (mVar 1)) (m2 dIsN (mVar 0) (mC (.bl true))) (m2 dIsN (mVar 0) (mC (.bl false))))) mSkip)
    (mSeq (mIfS (mT (mIsi "int" (mVar 1))) (mRet (mAndV (mIsi "int" (mVar 0)) (mAndV (mNotV (mIsi "bool" (mVar 0))) (m2 dEq (mB (fOne dInt) (mCons (mVar 0) mNil)) (mVar 1))))) mSkip)
    (mRet (mAndV (mIsi "str" (mVar 0)) (m2 dEq (mB (fOne dStr) (mCons (mVar 0) mNil)) (mVar 1))))))))
/-- _law_plot -/
def b27 (call : CallT) : Sv :=
  (mSeq (mAsg (gTupD 2 (gsCons (gSet 4) (gsCons (gSet 5) gsNil))) (mTup (mCons (m2 dAdd (mC (.int 1)) (mCall 2 (call 24) (mCons (mVar 0) (mCons (mVar 1) mNil)))) (mCons (m2 dAdd (mC (.int 1)) (mCall 2 (call 24) (mCons (mVar 0) (mCons (mVar 1) mNil)))) mNil))))
    (mSeq (mSet 3 (mSh (mCall 2 (call 25) (mCons (mVar 0) (mCons (mLst (mCons (mVar 2) (mCons (m2 dAdd (mVar 2) (mC (.str "."))) (mCons (m2 dAdd (mVar 2) (mC (.str ".."))) (mCons (m2 dAdd (m2 dMul (mC (.str ".")) (mB (fOne dLen) (mCons (mVar 2) mNil))) (mVar 2)) mNil))))) mNil)))))
    (mRet (mB (fOne dTuple) (mCons (mFz (mCompC [6] (mRng dRng1 (mCons (mVar 4) mNil)) (gSet 6) tt (mMeth D.isStr (fun o ds => match ds with | [d] => dJoin o d | _ => none) (mC (.str "")) (mCons (mFz (mCompC [7] (mRng dRng1 (mCons (mVar 5) mNil)) (gSet 7) tt (mCall 2 (call 25) (mCons (mVar 0) (mCons (mVar 3) mNil))))) mNil)))) mNil)))))
/-- _law_places -/
def b28 (call : CallT) : Sv :=
  (mSeq (mSet 1 (mSh (mLst mNil)))
    (mSeq (mFor (mRng dRng1 (mCons (mB (fOne dLen) (mCons (mVar 0) mNil)) mNil)) (gSet 2) (mSet 1 (mSh (m2 dAdd (mVar 1) (mFz (mCompC [3] (mRng dRng1 (mCons (mB (fOne dLen) (mCons (mIx (mVar 0) (mC (.int 0))) mNil)) mNil)) (gSet 3) tt (mTup (mCons (mVar 2) (mCons (mVar 3) mNil)))))))))
    (mRet (mVar 1))))
/-- _law_few -/
def b29 (call : CallT) : Sv :=
  (mRet (mB (fOne dTuple) (mCons (mFz (mCompC [3] (mIter (mVar 1)) (gSet 3) (mT (m2 dEq (mCall 2 (call 24) (mCons (mVar 0) (mCons (mVar 2) mNil))) (mC (.int 0)))) (mVar 3))) mNil)))
/-- _law_sides -/
def b30 (call : CallT) : Sv :=
  (mSeq (mSet 1 (mSh (mLst mNil)))
    (mSeq (mFor (mIter (mVar 0)) (gTupD 2 (gsCons (gSet 2) (gsCons (gSet 3) gsNil))) (mSeq (mSet 4 (mSh (mLst (mCons (mTup (mCons (m2 dSub (mVar 2) (mC (.int 1))) (mCons (mVar 3) mNil))) (mCons (mTup (mCons (mVar 2) (mCons (m2 dAdd (mVar 3) (mC (.int 1))) mNil))) (mCons (mTup (mCons (m2 dAdd (mVar 2) (mC (.int 1))) (mCons (mVar 3) mNil))) (mCons (mTup (mCons (mVar 2) (mCons (m2 dSub (mVar 3) (mC (.int 1))) mNil))) mNil)))))))
    (mSet 1 (mSh (m2 dAdd (mVar 1) (mFz (mCompC [5] (mRng dRng1 (mCons (mC (.int 4)) mNil)) (gSet 5) (mT (m2 dNotIn (mIx (mVar 4) (mVar 5)) (mVar 0))) (mTup (mCons (mVar 2) (mCons (mVar 3) (mCons (mVar 5) mNil)))))))))))
    (mRet (mVar 1))))
/-- _law_right -/
def b31 (call : CallT) : Sv :=
  (mSeq (mSet 1 (mSh (mCall 3 (call 27) (mCons (mVar 0) (mCons (mC (.int 6)) (mCons (mC (.str "abc")) mNil))))))
    (mSeq (mSet 2 (mSh (mCall 1 (call 28) (mCons (mVar 1) mNil))))
    (mSeq (mSet 3 (mSh (mCall 3 (call 29) (mCons (mVar 0) (mCons (mVar 2) (mCons (mCall 2 (call 25) (mCons (mVar 0) (mCons (mLst (mCons (mC (.int 1)) (mCons (mC (.int 2)) (mCons (mC (.int 4)) mNil)))) mNil))) mNil))))))
    (mSeq (mSet 4 (mSh (mCall 1 (call 30) (mCons (mVar 3) mNil))))
    (mSeq (mIfS (mNot (mT (mCall 2 (call 26) (mCons (mTup (mCons (mCall 2 (call 17) (mCons (mVar 1) (mCons (mVar 3) mNil))) (mCons (mCall 2 (call 18) (mCons (mVar 1) (mCons (mVar 3) mNil))) mNil))) (mCons (mTup (mCons (mB (fOne dLen) (mCons (mVar 4) mNil)) (mCons (mB (fOne dTuple) (mCons (mVar 4) mNil)) mNil))) mNil))))) (mRet (mC (.bl false))) mSkip)
    (mSeq (mSet 5 (mLstC mNil))
    (mSeq (mFor (mIter (mVar 4)) (gTupD 3 (gsCons (gSet 10) (gsCons (gSet 11) (gsCons (gSet 12) gsNil)))) (mSeq (mSet 13 (mSh (mIx (mLst (mCons (mTup (mCons (m2 dSub (mVar 10) (mC (.int 1))) (mCons (mVar 11) mNil))) (mCons (mTup (mCons (mVar 10) (mCons (m2 dAdd (mVar 11) (mC (.int 1))) mNil))) (mCons (mTup (mCons (m2 dAdd (mVar 10) (mC (.int 1))) (mCons (mVar 11) mNil))) (mCons (mTup (mCons (mVar 10) (mCons (m2 dSub (mVar 11) (mC (.int 1))) mNil))) mNil))))) (mVar 12))))
    (mIfS (mT (m2 dIn (mVar 13) (mVar 2))) (mSeq (mSet 19 (mSh (mB dMinL (mCons (mTup (mCons (mVar 10) (mCons (mVar 11) mNil))) (mCons (mVar 13) mNil)))))
    (mApp 5 (mTup (mCons (mIx (mVar 19) (mC (.int 0))) (mCons (mIx (mVar 19) (mC (.int 1))) (mCons (mIf (mT (m2 dEq (mIx (mVar 13) (mC (.int 0))) (mVar 10))) (mC (.int 1)) (mC (.int 2))) mNil)))))) mSkip)))
    (mSeq (mFrz 5 (mIfS (mNot (mT (mCall 2 (call 26) (mCons (mCall 2 (call 19) (mCons (mVar 1) (mCons (mVar 3) mNil))) (mCons (mB (fOne dTuple) (mCons (mB (fOne dSorted) (mCons (mVar 5) mNil)) mNil)) mNil))))) (mRet (mC (.bl false))) mSkip))
    (mSeq (mAsg (gTupD 2 (gsCons (gSet 14) (gsCons (gSet 15) gsNil))) (mTup (mCons (mC .non) (mCons (mC (.int 0)) mNil))))
    (mSeq (mIfS (mT (m2 dNe (mVar 3) (mTup mNil))) (mSeq (mAsg (gTupD 2 (gsCons (gSet 20) (gsCons (gSet 21) gsNil))) (mTup (mCons (mB (fOne dSorted) (mCons (mFz (mCompC [17] (mIter (mVar 3)) (gSet 17) tt (mIx (mVar 17) (mC (.int 0))))) mNil)) (mCons (mB (fOne dSorted) (mCons (mFz (mCompC [17] (mIter (mVar 3)) (gSet 17) tt (mIx (mVar 17) (mC (.int 1))))) mNil)) mNil))))
    (mSeq (mSet 14 (mSh (mTup (mCons (mTup (mCons (mIx (mVar 20) (mC (.int 0))) (mCons (mIx (mVar 21) (mC (.int 0))) mNil))) (mCons (mTup (mCons (mIx (mVar 20) (m1 dNeg (mC (.int 1)))) (mCons (mIx (mVar 21) (m1 dNeg (mC (.int 1)))) mNil))) mNil)))))
    (mSeq (mFzA 16 (mSet 16 (mCompC [17] (mIter (mVar 2)) (gSet 17) (mAnd (mT (mChain dLe dLe (mIx (mVar 20) (mC (.int 0))) (mIx (mVar 17) (mC (.int 0))) (mIx (mVar 20) (m1 dNeg (mC (.int 1)))))) (mT (mChain dLe dLe (mIx (mVar 21) (mC (.int 0))) (mIx (mVar 17) (mC (.int 1))) (mIx (mVar 21) (m1 dNeg (mC (.int 1))))))) (mVar 17))))
    (mSet 15 (mSh (mB (fOne dLen) (mCons (mCall 1 (call 30) (mCons (mVar 16) mNil)) mNil))))))) mSkip)
    (mSeq (mIfS (mNot (mT (mCall 2 (call 26) (mCons (mTup (mCons (mCall 2 (call 20) (mCons (mVar 1) (mCons (mVar 3) mNil))) (mCons (mCall 2 (call 21) (mCons (mVar 1) (mCons (mVar 3) mNil))) mNil))) (mCons (mTup (mCons (mVar 14) (mCons (mVar 15) mNil))) mNil))))) (mRet (mC (.bl false))) mSkip)
    (mSeq (mSet 6 (mSh (mLst mNil)))
    (mSeq (mFor (mIter (mC (.str "abc"))) (gSet 7) (mSeq (mFzA 17 (mSet 17 (mCompC [10, 11] (mIter (mVar 2)) (gTupD 2 (gsCons (gSet 10) (gsCons (gSet 11) gsNil))) (mT (m2 dEq (mIx (mIx (mVar 1) (mVar 10)) (mVar 11)) (mVar 7))) (mTup (mCons (mVar 10) (mCons (mVar 11) mNil))))))
    (mSet 6 (mSh (m2 dAdd (mVar 6) (mIf (mT (m2 dNe (mVar 17) (mLst mNil))) (mLst (mCons (mTup (mCons (mVar 7) (mCons (mB (fOne dLen) (mCons (mCall 1 (call 30) (mCons (mVar 17) mNil)) mNil)) mNil))) mNil)) (mLst mNil)))))))
    (mSeq (mIfS (mNot (mT (mCall 2 (call 26) (mCons (mCall 1 (call 22) (mCons (mVar 1) mNil)) (mCons (mB (fOne dTuple) (mCons (mVar 6) mNil)) mNil))))) (mRet (mC (.bl false))) mSkip)
    (mSeq (mSet 8 (mSh (mLst (mCons (mVar 3) (mCons (mRevT (mVar 3)) (mCons (mB (fOne dList) (mCons (mVar 3) mNil)) (mCons (m2 dAdd (mVar 3) (mSl (mVar 3) (mSo (m1 dNeg (mC (.int 1)))) mNo)) (mCons (mC .non) (mCons (mTup mNil) (mCons (mC (.str "places")) (mCons (mC (.int 5)) (mCons (mTup (mCons (mC (.int 0)) (mCons (mC (.int 0)) mNil))) (mCons (mTup (mCons (mTup (mCons (mC (.int 0)) mNil)) mNil)) (mCons (mTup (mCons (mTup (mCons (mB (fOne dLen) (mCons (mVar 1) mNil)) (mCons (mC (.int 0)) mNil))) mNil)) (mCons (mTup (mCons (mTup (mCons (mC (.int 0)) (mCons (m1 dNeg (mC (.int 1))) mNil))) mNil)) mNil)))))))))))))))
    (mSeq (mFor (mIter (m2 dAdd (mVar 8) (mLst (mCons (mB (fOne dTuple) (mCons (mVar 2) mNil)) (mCons (mTup (mCons (mTup (mCons (mC (.int 0)) (mCons (mC (.int 0)) (mCons (mC (.int 0)) mNil)))) mNil)) (mCons (mTup (mCons (mLst (mCons (mC (.int 0)) (mCons (mC (.int 0)) mNil))) mNil)) (mCons (mTup (mCons (mTup (mCons (mC (.bl false)) (mCons (mC (.int 0)) mNil))) mNil)) (mCons (mTup (mCons (mC .non) mNil)) mNil)))))))) (gSet 9) (mSeq (mSet 18 (mSh (mAndV (mIsi "tuple" (mVar 9)) (m2 dEq (mFz (mCompC [17] (mIter (mVar 9)) (gSet 17) (mOr (mT (m2 dNotIn (mVar 17) (mVar 2))) (mT (mIsi "bool" (mIx (mVar 17) (mC (.int 0)))))) (mVar 17))) (mLst mNil)))))
    (mIfS (mNot (mT (mCall 2 (call 26) (mCons (mCall 2 (call 16) (mCons (mVar 1) (mCons (mVar 9) mNil))) (mCons (mAndV (mVar 18) (m2 dEq (mB (fOne dList) (mCons (mVar 9) mNil)) (mSortSetX seP (mVar 9)))) mNil))))) (mRet (mC (.bl false))) mSkip)))
    (mRet (mC (.bl true)))))))))))))))))))
/-- law -/
def b32 (call : CallT) : Sv :=
  (mSeq (mSet 1 (mSh (mCall 1 (call 23) (mCons (mVar 0) mNil))))
    (mSeq (mFor (mRng dRng1 (mCons (mC (.int 4)) mNil)) (gSet 2) (mIfS (mNot (mT (mCall 1 (call 31) (mCons (mVar 1) mNil)))) (mRet (mC (.bl false))) mSkip))
    (mSeq (mPar' 6 7 (mSh (m2 dAdd (mC (.int 1)) (mCall 2 (call 24) (mCons (mVar 1) (mCons (mC (.int 12)) mNil))))) (mSh (m2 dAdd (mC (.int 1)) (mCall 2 (call 24) (mCons (mVar 1) (mCons (mC (.int 12)) mNil))))))
    (mSeq (mSet 3 (mSh (m2 dMul (mTup (mCons (m2 dMul (mC (.str "h")) (mVar 7)) mNil)) (mVar 6))))
    (mSeq (mSet 4 (mSh (mB (fOne dTuple) (mCons (mCall 1 (call 28) (mCons (mVar 3) mNil)) mNil))))
    (mSeq (mSet 5 (mSh (mTup (mCons (mCall 2 (call 17) (mCons (mVar 3) (mCons (mVar 4) mNil))) (mCons (mCall 2 (call 19) (mCons (mVar 3) (mCons (mVar 4) mNil))) (mCons (mCall 2 (call 21) (mCons (mVar 3) (mCons (mVar 4) mNil))) (mCons (mCall 1 (call 22) (mCons (mVar 3) mNil)) mNil)))))))
    (mRet (mCall 2 (call 26) (mCons (mVar 5) (mCons (mTup (mCons (m2 dMul (mC (.int 2)) (m2 dAdd (mVar 6) (mVar 7))) (mCons (mTup mNil) (mCons (m2 dMul (mC (.int 2)) (m2 dAdd (mVar 6) (mVar 7))) (mCons (mTup (mCons (mTup (mCons (mC (.str "h")) (mCons (m2 dMul (mC (.int 2)) (m2 dAdd (mVar 6) (mVar 7))) mNil))) mNil)) mNil))))) mNil))))))))))
def prog (call : CallT) : Nat → List D → Mh → Rs D
  | 0 => runF 1 (b0 call)
  | 1 => runF 3 (b1 call)
  | 2 => runF 3 (b2 call)
  | 3 => runF 3 (b3 call)
  | 4 => runF 2 (b4 call)
  | 5 => runF 2 (b5 call)
  | 6 => runF 1 (b6 call)
  | 7 => runF 2 (b7 call)
  | 8 => runF 3 (b8 call)
  | 9 => runF 3 (b9 call)
  | 10 => runF 3 (b10 call)
  | 11 => runF 2 (b11 call)
  | 12 => runF 2 (b12 call)
  | 13 => runF 4 (b13 call)
  | 14 => runF 3 (b14 call)
  | 15 => runF 4 (b15 call)
  | 16 => runF 2 (b16 call)
  | 17 => runF 2 (b17 call)
  | 18 => runF 2 (b18 call)
  | 19 => runF 6 (b19 call)
  | 20 => runF 2 (b20 call)
  | 21 => runF 6 (b21 call)
  | 22 => runF 5 (b22 call)
  | 23 => runF 2 (b23 call)
  | 24 => runF 4 (b24 call)
  | 25 => runF 2 (b25 call)
  | 26 => runF 3 (b26 call)
  | 27 => runF 8 (b27 call)
  | 28 => runF 4 (b28 call)
  | 29 => runF 4 (b29 call)
  | 30 => runF 6 (b30 call)
  | 31 => runF 22 (b31 call)
  | 32 => runF 8 (b32 call)
  | _ => fun _ _ => .no
def callF : Nat → CallT
  | 0 => fun _ _ _ => .no
  | n + 1 => prog (callF n)
structure Tx (K : PySem.W.Frag) (w : World) (mg : Str → Option Value) (fa : Nat → Addr) (fd : Nat → FuncData) : Prop where
  d0 : DefOk K mg "is_whole" s0 P0 (fa 0) (fd 0)
  d1 : DefOk K mg "fits_whole" s1 P1 (fa 1) (fd 1)
  d2 : DefOk K mg "is_tuple_of" s2 P2 (fa 2) (fd 2)
  d3 : DefOk K mg "is_rising" s3 P3 (fa 3) (fd 3)
  d4 : DefOk K mg "fits_row" s4 P4 (fa 4) (fd 4)
  d5 : DefOk K mg "fits_plot" s5 P5 (fa 5) (fd 5)
  d6 : DefOk K mg "need_plot" s6 P6 (fa 6) (fd 6)
  d7 : DefOk K mg "fits_place" s7 P7 (fa 7) (fd 7)
  d8 : DefOk K mg "places_in" s8 P8 (fa 8) (fd 8)
  d9 : DefOk K mg "trees_in" s9 P9 (fa 9) (fd 9)
  d10 : DefOk K mg "fits_places" s10 P10 (fa 10) (fd 10)
  d11 : DefOk K mg "need_places" s11 P11 (fa 11) (fd 11)
  d12 : DefOk K mg "over_in" s12 P12 (fa 12) (fd 12)
  d13 : DefOk K mg "hedge_in" s13 P13 (fa 13) (fd 13)
  d14 : DefOk K mg "sides_in" s14 P14 (fa 14) (fd 14)
  d15 : DefOk K mg "box_in" s15 P15 (fa 15) (fd 15)
  d16 : DefOk K mg "is_places" s16 P16 (fa 16) (fd 16)
  d17 : DefOk K mg "rim_of" s17 P17 (fa 17) (fd 17)
  d18 : DefOk K mg "rim_sides" s18 P18 (fa 18) (fd 18)
  d19 : DefOk K mg "hedges_round" s19 P19 (fa 19) (fd 19)
  d20 : DefOk K mg "box_round" s20 P20 (fa 20) (fd 20)
  d21 : DefOk K mg "box_rim" s21 P21 (fa 21) (fd 21)
  d22 : DefOk K mg "kind_rims" s22 P22 (fa 22) (fd 22)
  d23 : DefOk K mg "_law_cup" s23 P23 (fa 23) (fd 23)
  d24 : DefOk K mg "_law_roll" s24 P24 (fa 24) (fd 24)
  d25 : DefOk K mg "_law_some" s25 P25 (fa 25) (fd 25)
  d26 : DefOk K mg "_law_same" s26 P26 (fa 26) (fd 26)
  d27 : DefOk K mg "_law_plot" s27 P27 (fa 27) (fd 27)
  d28 : DefOk K mg "_law_places" s28 P28 (fa 28) (fd 28)
  d29 : DefOk K mg "_law_few" s29 P29 (fa 29) (fd 29)
  d30 : DefOk K mg "_law_sides" s30 P30 (fa 30) (fd 30)
  d31 : DefOk K mg "_law_right" s31 P31 (fa 31) (fd 31)
  d32 : DefOk K mg "law" s32 P32 (fa 32) (fd 32)
  z_abs : mg "abs" = none
  z_all : mg "all" = none
  z_bool : mg "bool" = none
  z_int : mg "int" = none
  z_isinstance : mg "isinstance" = none
  z_len : mg "len" = none
  z_list : mg "list" = none
  z_max : mg "max" = none
  z_min : mg "min" = none
  z_range : mg "range" = none
  z_set : mg "set" = none
  z_sorted : mg "sorted" = none
  z_str : mg "str" = none
  z_tuple : mg "tuple" = none
  z_zip : mg "zip" = none
  g_BARE : GOk K mg "BARE" g_BARE
  g_KINDS : GOk K mg "KINDS" g_KINDS
  g_SIDE : GOk K mg "SIDE" g_SIDE
  g_STEPS : GOk K mg "STEPS" g_STEPS
section
variable {P : Program} {w : World} {K : PySem.W.Frag} {mg : Str → Option Value} {base : Heap} {fa : Nat → Addr} {fd : Nat → FuncData}
abbrev cn (K : PySem.W.Frag) (fa : Nat → Addr) : Cn := ⟨K, fun i => some (fa i), fun _ => none⟩
structure Gx (P : Program) (w : World) (K : PySem.W.Frag) (mg : Str → Option Value) (base : Heap) (fa : Nat → Addr) (fd : Nat → FuncData) (n : Nat) : Prop where
  g0 : FnOk P w K mg base (L2.CX P w) n (fa 0) (fd 0) P0 (spD (cn K fa) P0.length (callF n 0))
  g1 : FnOk P w K mg base (L2.CX P w) n (fa 1) (fd 1) P1 (spD (cn K fa) P1.length (callF n 1))
  g2 : FnOk P w K mg base (L2.CX P w) n (fa 2) (fd 2) P2 (spD (cn K fa) P2.length (callF n 2))
  g3 : FnOk P w K mg base (L2.CX P w) n (fa 3) (fd 3) P3 (spD (cn K fa) P3.length (callF n 3))
  g4 : FnOk P w K mg base (L2.CX P w) n (fa 4) (fd 4) P4 (spD (cn K fa) P4.length (callF n 4))
  g5 : FnOk P w K mg base (L2.CX P w) n (fa 5) (fd 5) P5 (spD (cn K fa) P5.length (callF n 5))
  g6 : FnOk P w K mg base (L2.CX P w) n (fa 6) (fd 6) P6 (spD (cn K fa) P6.length (callF n 6))
  g7 : FnOk P w K mg base (L2.CX P w) n (fa 7) (fd 7) P7 (spD (cn K fa) P7.length (callF n 7))
  g8 : FnOk P w K mg base (L2.CX P w) n (fa 8) (fd 8) P8 (spD (cn K fa) P8.length (callF n 8))
  g9 : FnOk P w K mg base (L2.CX P w) n (fa 9) (fd 9) P9 (spD (cn K fa) P9.length (callF n 9))
  g10 : FnOk P w K mg base (L2.CX P w) n (fa 10) (fd 10) P10 (spD (cn K fa) P10.length (callF n 10))
  g11 : FnOk P w K mg base (L2.CX P w) n (fa 11) (fd 11) P11 (spD (cn K fa) P11.length (callF n 11))
  g12 : FnOk P w K mg base (L2.CX P w) n (fa 12) (fd 12) P12 (spD (cn K fa) P12.length (callF n 12))
  g13 : FnOk P w K mg base (L2.CX P w) n (fa 13) (fd 13) P13 (spD (cn K fa) P13.length (callF n 13))
  g14 : FnOk P w K mg base (L2.CX P w) n (fa 14) (fd 14) P14 (spD (cn K fa) P14.length (callF n 14))
  g15 : FnOk P w K mg base (L2.CX P w) n (fa 15) (fd 15) P15 (spD (cn K fa) P15.length (callF n 15))
  g16 : FnOk P w K mg base (L2.CX P w) n (fa 16) (fd 16) P16 (spD (cn K fa) P16.length (callF n 16))
  g17 : FnOk P w K mg base (L2.CX P w) n (fa 17) (fd 17) P17 (spD (cn K fa) P17.length (callF n 17))
  g18 : FnOk P w K mg base (L2.CX P w) n (fa 18) (fd 18) P18 (spD (cn K fa) P18.length (callF n 18))
  g19 : FnOk P w K mg base (L2.CX P w) n (fa 19) (fd 19) P19 (spD (cn K fa) P19.length (callF n 19))
  g20 : FnOk P w K mg base (L2.CX P w) n (fa 20) (fd 20) P20 (spD (cn K fa) P20.length (callF n 20))
  g21 : FnOk P w K mg base (L2.CX P w) n (fa 21) (fd 21) P21 (spD (cn K fa) P21.length (callF n 21))
  g22 : FnOk P w K mg base (L2.CX P w) n (fa 22) (fd 22) P22 (spD (cn K fa) P22.length (callF n 22))
  g23 : FnOk P w K mg base (L2.CX P w) n (fa 23) (fd 23) P23 (spD (cn K fa) P23.length (callF n 23))
  g24 : FnOk P w K mg base (L2.CX P w) n (fa 24) (fd 24) P24 (spD (cn K fa) P24.length (callF n 24))
  g25 : FnOk P w K mg base (L2.CX P w) n (fa 25) (fd 25) P25 (spD (cn K fa) P25.length (callF n 25))
  g26 : FnOk P w K mg base (L2.CX P w) n (fa 26) (fd 26) P26 (spD (cn K fa) P26.length (callF n 26))
  g27 : FnOk P w K mg base (L2.CX P w) n (fa 27) (fd 27) P27 (spD (cn K fa) P27.length (callF n 27))
  g28 : FnOk P w K mg base (L2.CX P w) n (fa 28) (fd 28) P28 (spD (cn K fa) P28.length (callF n 28))
  g29 : FnOk P w K mg base (L2.CX P w) n (fa 29) (fd 29) P29 (spD (cn K fa) P29.length (callF n 29))
  g30 : FnOk P w K mg base (L2.CX P w) n (fa 30) (fd 30) P30 (spD (cn K fa) P30.length (callF n 30))
  g31 : FnOk P w K mg base (L2.CX P w) n (fa 31) (fd 31) P31 (spD (cn K fa) P31.length (callF n 31))
  g32 : FnOk P w K mg base (L2.CX P w) n (fa 32) (fd 32) P32 (spD (cn K fa) P32.length (callF n 32))
theorem ok0 (T : Tx K w mg fa fd) {n : Nat} (G : Gx P w K mg base fa fd n) : FnOk P w K mg base (L2.CX P w) (n + 1) (fa 0) (fd 0) P0 (spD (cn K fa) P0.length (runF N0.length (b0 (callF n)))) := by
  refine fn_ok T.d0.fn sc0 (fun cdv A outer s H E hr => ?_)
  have tk : Takes (bodyX P w K mg base N0 "is_whole" s0 (fa 0) cdv A outer s H E) (WofE E) := takes_of rfl rfl rfl rfl
  have hp : PassesOwn (model P w) (bodyX P w K mg base N0 "is_whole" s0 (fa 0) cdv A outer s H E).A (bodyX P w K mg base N0 "is_whole" s0 (fa 0) cdv A outer s H E).env (bodyX P w K mg base N0 "is_whole" s0 (fa 0) cdv A outer s H E).xe := passes_of rfl
  exact (sss_one (ss_ret (se_and (se_isi (T := "int") rfl T.z_isinstance T.z_int boot_int (se_var 0)) (se_one (se_not (se_isi (T := "bool") rfl T.z_isinstance T.z_bool boot_bool (se_var 0)))))))
theorem ok1 (T : Tx K w mg fa fd) {n : Nat} (G : Gx P w K mg base fa fd n) : FnOk P w K mg base (L2.CX P w) (n + 1) (fa 1) (fd 1) P1 (spD (cn K fa) P1.length (runF N1.length (b1 (callF n)))) := by
  refine fn_ok T.d1.fn sc1 (fun cdv A outer s H E hr => ?_)
  have tk : Takes (bodyX P w K mg base N1 "fits_whole" s1 (fa 1) cdv A outer s H E) (WofE E) := takes_of rfl rfl rfl rfl
  have hp : PassesOwn (model P w) (bodyX P w K mg base N1 "fits_whole" s1 (fa 1) cdv A outer s H E).A (bodyX P w K mg base N1 "fits_whole" s1 (fa 1) cdv A outer s H E).env (bodyX P w K mg base N1 "fits_whole" s1 (fa 1) cdv A outer s H E).xe := passes_of rfl
  exact (sss_one (ss_ret (se_and (se_callD T.d0 G.g0 hr tk (sa_cons (se_var 0) sa_nil)) (se_one (se_chain (op_leA (hu65 hr)) r_le (op_leA (hu65 hr)) r_le (se_var 1) (se_var 0) (se_var 2))))))
theorem ok2 (T : Tx K w mg fa fd) {n : Nat} (G : Gx P w K mg base fa fd n) : FnOk P w K mg base (L2.CX P w) (n + 1) (fa 2) (fd 2) P2 (spD (cn K fa) P2.length (runF N2.length (b2 (callF n)))) := by
  refine fn_ok T.d2.fn sc2 (fun cdv A outer s H E hr => ?_)
  have tk : Takes (bodyX P w K mg base N2 "is_tuple_of" s2 (fa 2) cdv A outer s H E) (WofE E) := takes_of rfl rfl rfl rfl
  have hp : PassesOwn (model P w) (bodyX P w K mg base N2 "is_tuple_of" s2 (fa 2) cdv A outer s H E).A (bodyX P w K mg base N2 "is_tuple_of" s2 (fa 2) cdv A outer s H E).env (bodyX P w K mg base N2 "is_tuple_of" s2 (fa 2) cdv A outer s H E).xe := passes_of rfl
  exact (sss_one (ss_ret (se_and (se_isi (T := "tuple") rfl T.z_isinstance T.z_tuple boot_tuple (se_var 0)) (se_one (se_chain (op_leA (hu65 hr)) r_le (op_leA (hu65 hr)) r_le (se_var 1) (se_callB call_len r_len T.z_len boot_len (sa_cons (se_var 0) sa_nil)) (se_var 2))))))
theorem ok3 (T : Tx K w mg fa fd) {n : Nat} (G : Gx P w K mg base fa fd n) : FnOk P w K mg base (L2.CX P w) (n + 1) (fa 3) (fd 3) P3 (spD (cn K fa) P3.length (runF N3.length (b3 (callF n)))) := by
  refine fn_ok T.d3.fn sc3 (fun cdv A outer s H E hr => ?_)
  have tk : Takes (bodyX P w K mg base N3 "is_rising" s3 (fa 3) cdv A outer s H E) (WofE E) := takes_of rfl rfl rfl rfl
  have hp : PassesOwn (model P w) (bodyX P w K mg base N3 "is_rising" s3 (fa 3) cdv A outer s H E).A (bodyX P w K mg base N3 "is_rising" s3 (fa 3) cdv A outer s H E).env (bodyX P w K mg base N3 "is_rising" s3 (fa 3) cdv A outer s H E).xe := passes_of rfl
  exact (sss_one (ss_ret (se_callB (cr_all rfl) r_all T.z_all boot_all (sa_cons (SC.se (sc_lc rfl sc3.nd (si_zip rfl T.z_zip (sa_cons (se_var 0) (sa_cons (se_slice rfl (se_var 0) (so_some se_int) so_none) sa_nil))) (own := [("one", 1), ("other", 2)]) (blkOk_by (N := N3) (sc := defScope s3) (by decide +kernel)) (fun _ _ _ _ _ => (sg_tup rfl rfl (sgs_cons (sg_name sc3.nd (i := 1)) (sgs_cons (sg_name sc3.nd (i := 2)) sgs_nil)))) (fun _ _ _ _ _ => sif_nil) (fun _ _ _ _ _ => (se_cmp (op_ltA (hu65 hr)) r_lt (se_var 1) (se_var 2))) (by decide))) sa_nil))))
theorem ok4 (T : Tx K w mg fa fd) {n : Nat} (G : Gx P w K mg base fa fd n) : FnOk P w K mg base (L2.CX P w) (n + 1) (fa 4) (fd 4) P4 (spD (cn K fa) P4.length (runF N4.length (b4 (callF n)))) := by
  refine fn_ok T.d4.fn sc4 (fun cdv A outer s H E hr => ?_)
  have tk : Takes (bodyX P w K mg base N4 "fits_row" s4 (fa 4) cdv A outer s H E) (WofE E) := takes_of rfl rfl rfl rfl
  have hp : PassesOwn (model P w) (bodyX P w K mg base N4 "fits_row" s4 (fa 4) cdv A outer s H E).A (bodyX P w K mg base N4 "fits_row" s4 (fa 4) cdv A outer s H E).env (bodyX P w K mg base N4 "fits_row" s4 (fa 4) cdv A outer s H E).xe := passes_of rfl
  exact (sss_one (ss_ret (se_and (se_isi (T := "str") rfl T.z_isinstance T.z_str boot_str (se_var 0)) (se_and (se_chain (op_leA (hu65 hr)) r_le (op_leA (hu65 hr)) r_le se_int (se_callB call_len r_len T.z_len boot_len (sa_cons (se_var 0) sa_nil)) (se_globE T.g_SIDE)) (se_one (se_callB (cr_all rfl) r_all T.z_all boot_all (sa_cons (SC.se (sc_lc rfl sc4.nd (si_val rfl (se_var 0)) (own := [("sign", 1)]) (blkOk_by (N := N4) (sc := defScope s4) (by decide +kernel)) (fun _ _ _ _ _ => (sg_name sc4.nd (i := 1))) (fun _ _ _ _ _ => sif_nil) (fun _ _ _ _ _ => (se_or (se_cmp (op_eqD (hu64 hr)) r_eq (se_var 1) (se_globE T.g_BARE)) (se_one (se_cmp (op_inA (hu65 hr)) r_in (se_var 1) (se_globE T.g_KINDS))))) (by decide))) sa_nil)))))))
theorem ok5 (T : Tx K w mg fa fd) {n : Nat} (G : Gx P w K mg base fa fd n) : FnOk P w K mg base (L2.CX P w) (n + 1) (fa 5) (fd 5) P5 (spD (cn K fa) P5.length (runF N5.length (b5 (callF n)))) := by
  refine fn_ok T.d5.fn sc5 (fun cdv A outer s H E hr => ?_)
  have tk : Takes (bodyX P w K mg base N5 "fits_plot" s5 (fa 5) cdv A outer s H E) (WofE E) := takes_of rfl rfl rfl rfl
  have hp : PassesOwn (model P w) (bodyX P w K mg base N5 "fits_plot" s5 (fa 5) cdv A outer s H E).A (bodyX P w K mg base N5 "fits_plot" s5 (fa 5) cdv A outer s H E).env (bodyX P w K mg base N5 "fits_plot" s5 (fa 5) cdv A outer s H E).xe := passes_of rfl
  exact (sss_cons (ss_if (SW.st (sw_or (st_not (st_val (se_callD T.d2 G.g2 hr tk (sa_cons (se_var 0) (sa_cons se_int (sa_cons (se_globE T.g_SIDE) sa_nil)))))) (sw_or1 (st_not (st_val (se_callB (cr_all rfl) r_all T.z_all boot_all (sa_cons (SC.se (sc_lc rfl sc5.nd (si_val rfl (se_var 0)) (own := [("one", 1)]) (blkOk_by (N := N5) (sc := defScope s5) (by decide +kernel)) (fun _ _ _ _ _ => (sg_name sc5.nd (i := 1))) (fun _ _ _ _ _ => sif_nil) (fun _ _ _ _ _ => (se_callD T.d4 G.g4 hr takes0W (sa_cons (se_var 1) sa_nil))) (by decide))) sa_nil))))))) (sss_one (ss_ret se_bl)) sss_nil)
    (sss_one (ss_ret (se_callB (cr_all rfl) r_all T.z_all boot_all (sa_cons (SC.se (sc_lc rfl sc5.nd (si_val rfl (se_var 0)) (own := [("one", 1)]) (blkOk_by (N := N5) (sc := defScope s5) (by decide +kernel)) (fun _ _ _ _ _ => (sg_name sc5.nd (i := 1))) (fun _ _ _ _ _ => sif_nil) (fun _ _ _ _ _ => (se_cmp (op_eqD (hu64 hr)) r_eq (se_callB call_len r_len T.z_len boot_len (sa_cons (se_var 1) sa_nil)) (se_callB call_len r_len T.z_len boot_len (sa_cons (se_ix rfl (se_var 0) se_int) sa_nil)))) (by decide))) sa_nil)))))
theorem ok6 (T : Tx K w mg fa fd) {n : Nat} (G : Gx P w K mg base fa fd n) : FnOk P w K mg base (L2.CX P w) (n + 1) (fa 6) (fd 6) P6 (spD (cn K fa) P6.length (runF N6.length (b6 (callF n)))) := by
  refine fn_ok T.d6.fn sc6 (fun cdv A outer s H E hr => ?_)
  have tk : Takes (bodyX P w K mg base N6 "need_plot" s6 (fa 6) cdv A outer s H E) (WofE E) := takes_of rfl rfl rfl rfl
  have hp : PassesOwn (model P w) (bodyX P w K mg base N6 "need_plot" s6 (fa 6) cdv A outer s H E).A (bodyX P w K mg base N6 "need_plot" s6 (fa 6) cdv A outer s H E).env (bodyX P w K mg base N6 "need_plot" s6 (fa 6) cdv A outer s H E).xe := passes_of rfl
  exact (sss_one (ss_if (st_not (st_val (se_callD T.d5 G.g5 hr tk (sa_cons (se_var 0) sa_nil)))) (sss_one ss_never) sss_nil))
theorem ok7 (T : Tx K w mg fa fd) {n : Nat} (G : Gx P w K mg base fa fd n) : FnOk P w K mg base (L2.CX P w) (n + 1) (fa 7) (fd 7) P7 (spD (cn K fa) P7.length (runF N7.length (b7 (callF n)))) := by
  refine fn_ok T.d7.fn sc7 (fun cdv A outer s H E hr => ?_)
  have tk : Takes (bodyX P w K mg base N7 "fits_place" s7 (fa 7) cdv A outer s H E) (WofE E) := takes_of rfl rfl rfl rfl
  have hp : PassesOwn (model P w) (bodyX P w K mg base N7 "fits_place" s7 (fa 7) cdv A outer s H E).A (bodyX P w K mg base N7 "fits_place" s7 (fa 7) cdv A outer s H E).env (bodyX P w K mg base N7 "fits_place" s7 (fa 7) cdv A outer s H E).xe := passes_of rfl
  exact (sss_cons (ss_if (st_not (st_val (se_callD T.d2 G.g2 hr tk (sa_cons (se_var 1) (sa_cons se_int (sa_cons se_int sa_nil)))))) (sss_one (ss_ret se_bl)) sss_nil)
    (sss_one (ss_ret (se_and (se_callD T.d1 G.g1 hr tk (sa_cons (se_ix rfl (se_var 1) se_int) (sa_cons se_int (sa_cons (se_op op_sub r_sub (se_callB call_len r_len T.z_len boot_len (sa_cons (se_var 0) sa_nil)) se_int) sa_nil)))) (se_one (se_callD T.d1 G.g1 hr tk (sa_cons (se_ix rfl (se_var 1) se_int) (sa_cons se_int (sa_cons (se_op op_sub r_sub (se_callB call_len r_len T.z_len boot_len (sa_cons (se_ix rfl (se_var 0) se_int) sa_nil)) se_int) sa_nil)))))))))
theorem ok8 (T : Tx K w mg fa fd) {n : Nat} (G : Gx P w K mg base fa fd n) : FnOk P w K mg base (L2.CX P w) (n + 1) (fa 8) (fd 8) P8 (spD (cn K fa) P8.length (runF N8.length (b8 (callF n)))) := by
  refine fn_ok T.d8.fn sc8 (fun cdv A outer s H E hr => ?_)
  have tk : Takes (bodyX P w K mg base N8 "places_in" s8 (fa 8) cdv A outer s H E) (WofE E) := takes_of rfl rfl rfl rfl
  have hp : PassesOwn (model P w) (bodyX P w K mg base N8 "places_in" s8 (fa 8) cdv A outer s H E).A (bodyX P w K mg base N8 "places_in" s8 (fa 8) cdv A outer s H E).env (bodyX P w K mg base N8 "places_in" s8 (fa 8) cdv A outer s H E).xe := passes_of rfl
  exact (sss_one (ss_ret (SC.se (sc_lc2 rfl sc8.nd (si_range1 T.z_range (sa_cons (se_callB call_len r_len T.z_len boot_len (sa_cons (se_var 0) sa_nil)) sa_nil)) (own := [("row", 1), ("column", 2)]) (vs1 := [2]) (blkOk_by (N := N8) (sc := defScope s8) (by decide +kernel)) (fun _ _ _ _ _ => (sg_name sc8.nd (i := 1))) (fun _ _ _ _ _ => sif_nil) (fun _ _ _ _ _ => (si_range1 T.z_range (sa_cons (se_callB call_len r_len T.z_len boot_len (sa_cons (se_ix rfl (se_var 0) se_int) sa_nil)) sa_nil))) (fun _ _ _ _ _ => (sg_name sc8.nd (i := 2))) (fun _ _ _ _ _ => sif_nil) (fun _ _ _ _ _ => (se_tup (sa_cons (se_var 1) (sa_cons (se_var 2) sa_nil)))) (by decide) (by decide) (by decide)))))
theorem ok9 (T : Tx K w mg fa fd) {n : Nat} (G : Gx P w K mg base fa fd n) : FnOk P w K mg base (L2.CX P w) (n + 1) (fa 9) (fd 9) P9 (spD (cn K fa) P9.length (runF N9.length (b9 (callF n)))) := by
  refine fn_ok T.d9.fn sc9 (fun cdv A outer s H E hr => ?_)
  have tk : Takes (bodyX P w K mg base N9 "trees_in" s9 (fa 9) cdv A outer s H E) (WofE E) := takes_of rfl rfl rfl rfl
  have hp : PassesOwn (model P w) (bodyX P w K mg base N9 "trees_in" s9 (fa 9) cdv A outer s H E).A (bodyX P w K mg base N9 "trees_in" s9 (fa 9) cdv A outer s H E).env (bodyX P w K mg base N9 "trees_in" s9 (fa 9) cdv A outer s H E).xe := passes_of rfl
  exact (sss_one (ss_ret (SC.se (sc_lc rfl sc9.nd (si_val rfl (se_callD T.d8 G.g8 hr tk (sa_cons (se_var 0) sa_nil))) (own := [("row", 1), ("column", 2)]) (blkOk_by (N := N9) (sc := defScope s9) (by decide +kernel)) (fun _ _ _ _ _ => (sg_tup rfl rfl (sgs_cons (sg_name sc9.nd (i := 1)) (sgs_cons (sg_name sc9.nd (i := 2)) sgs_nil)))) (fun _ _ _ _ _ => (sif_one (st_cmp (op_neD (hu64 hr)) r_ne (se_ix rfl (se_ix rfl (se_var 0) (se_var 1)) (se_var 2)) (se_globE T.g_BARE)))) (fun _ _ _ _ _ => (se_tup (sa_cons (se_var 1) (sa_cons (se_var 2) sa_nil)))) (by decide)))))
theorem ok10 (T : Tx K w mg fa fd) {n : Nat} (G : Gx P w K mg base fa fd n) : FnOk P w K mg base (L2.CX P w) (n + 1) (fa 10) (fd 10) P10 (spD (cn K fa) P10.length (runF N10.length (b10 (callF n)))) := by
  refine fn_ok T.d10.fn sc10 (fun cdv A outer s H E hr => ?_)
  have tk : Takes (bodyX P w K mg base N10 "fits_places" s10 (fa 10) cdv A outer s H E) (WofE E) := takes_of rfl rfl rfl rfl
  have hp : PassesOwn (model P w) (bodyX P w K mg base N10 "fits_places" s10 (fa 10) cdv A outer s H E).A (bodyX P w K mg base N10 "fits_places" s10 (fa 10) cdv A outer s H E).env (bodyX P w K mg base N10 "fits_places" s10 (fa 10) cdv A outer s H E).xe := passes_of rfl
  exact (sss_one (ss_ret (se_and (se_isi (T := "tuple") rfl T.z_isinstance T.z_tuple boot_tuple (se_var 1)) (se_and (se_callB (cr_all rfl) r_all T.z_all boot_all (sa_cons (SC.se (sc_lc rfl sc10.nd (si_val rfl (se_var 1)) (own := [("one", 2)]) (blkOk_by (N := N10) (sc := defScope s10) (by decide +kernel)) (fun _ _ _ _ _ => (sg_name sc10.nd (i := 2))) (fun _ _ _ _ _ => sif_nil) (fun _ _ _ _ _ => (se_callD T.d7 G.g7 hr takes0W (sa_cons (se_var 0) (sa_cons (se_var 2) sa_nil)))) (by decide))) sa_nil)) (se_one (se_callD T.d3 G.g3 hr tk (sa_cons (se_var 1) sa_nil)))))))
theorem ok11 (T : Tx K w mg fa fd) {n : Nat} (G : Gx P w K mg base fa fd n) : FnOk P w K mg base (L2.CX P w) (n + 1) (fa 11) (fd 11) P11 (spD (cn K fa) P11.length (runF N11.length (b11 (callF n)))) := by
  refine fn_ok T.d11.fn sc11 (fun cdv A outer s H E hr => ?_)
  have tk : Takes (bodyX P w K mg base N11 "need_places" s11 (fa 11) cdv A outer s H E) (WofE E) := takes_of rfl rfl rfl rfl
  have hp : PassesOwn (model P w) (bodyX P w K mg base N11 "need_places" s11 (fa 11) cdv A outer s H E).A (bodyX P w K mg base N11 "need_places" s11 (fa 11) cdv A outer s H E).env (bodyX P w K mg base N11 "need_places" s11 (fa 11) cdv A outer s H E).xe := passes_of rfl
  exact (sss_cons (ss_expr (se_callD T.d6 G.g6 hr tk (sa_cons (se_var 0) sa_nil)))
    (sss_one (ss_if (st_not (st_val (se_callD T.d10 G.g10 hr tk (sa_cons (se_var 0) (sa_cons (se_var 1) sa_nil))))) (sss_one ss_never) sss_nil)))
theorem ok12 (T : Tx K w mg fa fd) {n : Nat} (G : Gx P w K mg base fa fd n) : FnOk P w K mg base (L2.CX P w) (n + 1) (fa 12) (fd 12) P12 (spD (cn K fa) P12.length (runF N12.length (b12 (callF n)))) := by
  refine fn_ok T.d12.fn sc12 (fun cdv A outer s H E hr => ?_)
  have tk : Takes (bodyX P w K mg base N12 "over_in" s12 (fa 12) cdv A outer s H E) (WofE E) := takes_of rfl rfl rfl rfl
  have hp : PassesOwn (model P w) (bodyX P w K mg base N12 "over_in" s12 (fa 12) cdv A outer s H E).A (bodyX P w K mg base N12 "over_in" s12 (fa 12) cdv A outer s H E).env (bodyX P w K mg base N12 "over_in" s12 (fa 12) cdv A outer s H E).xe := passes_of rfl
  exact (sss_one (ss_ret (se_tup (sa_cons (se_op op_addA r_add (se_ix rfl (se_var 0) se_int) (se_ix rfl (se_ix rfl (se_globE T.g_STEPS) (se_var 1)) se_int)) (sa_cons (se_op op_addA r_add (se_ix rfl (se_var 0) se_int) (se_ix rfl (se_ix rfl (se_globE T.g_STEPS) (se_var 1)) se_int)) sa_nil)))))
theorem ok13 (T : Tx K w mg fa fd) {n : Nat} (G : Gx P w K mg base fa fd n) : FnOk P w K mg base (L2.CX P w) (n + 1) (fa 13) (fd 13) P13 (spD (cn K fa) P13.length (runF N13.length (b13 (callF n)))) := by
  refine fn_ok T.d13.fn sc13 (fun cdv A outer s H E hr => ?_)
  have tk : Takes (bodyX P w K mg base N13 "hedge_in" s13 (fa 13) cdv A outer s H E) (WofE E) := takes_of rfl rfl rfl rfl
  have hp : PassesOwn (model P w) (bodyX P w K mg base N13 "hedge_in" s13 (fa 13) cdv A outer s H E).A (bodyX P w K mg base N13 "hedge_in" s13 (fa 13) cdv A outer s H E).env (bodyX P w K mg base N13 "hedge_in" s13 (fa 13) cdv A outer s H E).xe := passes_of rfl
  exact (sss_cons (ss_par (i := 2) (j := 3) rfl sc13.nd (SE.sc (se_callB (call_minL rfl (hu64 hr)) (r_MinL rfl) T.z_min boot_min (sa_cons (se_var 0) (sa_cons (se_var 1) sa_nil)))) (SE.sc (se_callB (call_maxL rfl (hu64 hr)) (r_MaxL rfl) T.z_max boot_max (sa_cons (se_var 0) (sa_cons (se_var 1) sa_nil)))))
    (sss_one (ss_ret (se_op op_addA r_add (se_var 2) (se_tup (sa_cons (se_if (st_cmp (op_eqD (hu64 hr)) r_eq (se_ix rfl (se_var 2) se_int) (se_ix rfl (se_var 3) se_int)) se_int se_int) sa_nil))))))
theorem ok14 (T : Tx K w mg fa fd) {n : Nat} (G : Gx P w K mg base fa fd n) : FnOk P w K mg base (L2.CX P w) (n + 1) (fa 14) (fd 14) P14 (spD (cn K fa) P14.length (runF N14.length (b14 (callF n)))) := by
  refine fn_ok T.d14.fn sc14 (fun cdv A outer s H E hr => ?_)
  have tk : Takes (bodyX P w K mg base N14 "sides_in" s14 (fa 14) cdv A outer s H E) (WofE E) := takes_of rfl rfl rfl rfl
  have hp : PassesOwn (model P w) (bodyX P w K mg base N14 "sides_in" s14 (fa 14) cdv A outer s H E).A (bodyX P w K mg base N14 "sides_in" s14 (fa 14) cdv A outer s H E).env (bodyX P w K mg base N14 "sides_in" s14 (fa 14) cdv A outer s H E).xe := passes_of rfl
  exact (sss_one (ss_ret (SC.se (sc_lc2 rfl sc14.nd (si_val rfl (se_var 0)) (own := [("place", 1), ("side", 2)]) (vs1 := [2]) (blkOk_by (N := N14) (sc := defScope s14) (by decide +kernel)) (fun _ _ _ _ _ => (sg_name sc14.nd (i := 1))) (fun _ _ _ _ _ => sif_nil) (fun _ _ _ _ _ => (si_range1 T.z_range (sa_cons se_int sa_nil))) (fun _ _ _ _ _ => (sg_name sc14.nd (i := 2))) (fun _ _ _ _ _ => (sif_one (st_cmp (op_notInA (hu65 hr)) r_notIn (se_callD T.d12 G.g12 hr takes0W (sa_cons (se_var 1) (sa_cons (se_var 2) sa_nil))) (se_var 0)))) (fun _ _ _ _ _ => (se_op op_addA r_add (se_var 1) (se_tup (sa_cons (se_var 2) sa_nil)))) (by decide) (by decide) (by decide)))))
theorem ok15 (T : Tx K w mg fa fd) {n : Nat} (G : Gx P w K mg base fa fd n) : FnOk P w K mg base (L2.CX P w) (n + 1) (fa 15) (fd 15) P15 (spD (cn K fa) P15.length (runF N15.length (b15 (callF n)))) := by
  refine fn_ok T.d15.fn sc15 (fun cdv A outer s H E hr => ?_)
  have tk : Takes (bodyX P w K mg base N15 "box_in" s15 (fa 15) cdv A outer s H E) (WofE E) := takes_of rfl rfl rfl rfl
  have hp : PassesOwn (model P w) (bodyX P w K mg base N15 "box_in" s15 (fa 15) cdv A outer s H E).A (bodyX P w K mg base N15 "box_in" s15 (fa 15) cdv A outer s H E).env (bodyX P w K mg base N15 "box_in" s15 (fa 15) cdv A outer s H E).xe := passes_of rfl
  exact (sss_cons (ss_par (i := 1) (j := 2) rfl sc15.nd (SE.sc (SC.se (sc_lc rfl sc15.nd (si_val rfl (se_var 0)) (own := [("own", 3)]) (blkOk_by (N := N15) (sc := defScope s15) (by decide +kernel)) (fun _ _ _ _ _ => (sg_name sc15.nd (i := 3))) (fun _ _ _ _ _ => sif_nil) (fun _ _ _ _ _ => (se_ix rfl (se_var 3) se_int)) (by decide)))) (SE.sc (SC.se (sc_lc rfl sc15.nd (si_val rfl (se_var 0)) (own := [("own", 3)]) (blkOk_by (N := N15) (sc := defScope s15) (by decide +kernel)) (fun _ _ _ _ _ => (sg_name sc15.nd (i := 3))) (fun _ _ _ _ _ => sif_nil) (fun _ _ _ _ _ => (se_ix rfl (se_var 3) se_int)) (by decide)))))
    (sss_one (ss_ret (se_tup (sa_cons (se_tup (sa_cons (se_callB (call_minB rfl (hu64 hr)) r_minB T.z_min boot_min (sa_cons (se_var 1) sa_nil)) (sa_cons (se_callB (call_minB rfl (hu64 hr)) r_minB T.z_min boot_min (sa_cons (se_var 2) sa_nil)) sa_nil))) (sa_cons (se_tup (sa_cons (se_callB (call_maxB rfl (hu64 hr)) r_maxB T.z_max boot_max (sa_cons (se_var 1) sa_nil)) (sa_cons (se_callB (call_maxB rfl (hu64 hr)) r_maxB T.z_max boot_max (sa_cons (se_var 2) sa_nil)) sa_nil))) sa_nil))))))
theorem ok16 (T : Tx K w mg fa fd) {n : Nat} (G : Gx P w K mg base fa fd n) : FnOk P w K mg base (L2.CX P w) (n + 1) (fa 16) (fd 16) P16 (spD (cn K fa) P16.length (runF N16.length (b16 (callF n)))) := by
  refine fn_ok T.d16.fn sc16 (fun cdv A outer s H E hr => ?_)
  have tk : Takes (bodyX P w K mg base N16 "is_places" s16 (fa 16) cdv A outer s H E) (WofE E) := takes_of rfl rfl rfl rfl
  have hp : PassesOwn (model P w) (bodyX P w K mg base N16 "is_places" s16 (fa 16) cdv A outer s H E).A (bodyX P w K mg base N16 "is_places" s16 (fa 16) cdv A outer s H E).env (bodyX P w K mg base N16 "is_places" s16 (fa 16) cdv A outer s H E).xe := passes_of rfl
  exact (sss_cons (ss_expr (se_callD T.d6 G.g6 hr tk (sa_cons (se_var 0) sa_nil)))
    (sss_one (ss_ret (se_callD T.d10 G.g10 hr tk (sa_cons (se_var 0) (sa_cons (se_var 1) sa_nil))))))
theorem ok17 (T : Tx K w mg fa fd) {n : Nat} (G : Gx P w K mg base fa fd n) : FnOk P w K mg base (L2.CX P w) (n + 1) (fa 17) (fd 17) P17 (spD (cn K fa) P17.length (runF N17.length (b17 (callF n)))) := by
  refine fn_ok T.d17.fn sc17 (fun cdv A outer s H E hr => ?_)
  have tk : Takes (bodyX P w K mg base N17 "rim_of" s17 (fa 17) cdv A outer s H E) (WofE E) := takes_of rfl rfl rfl rfl
  have hp : PassesOwn (model P w) (bodyX P w K mg base N17 "rim_of" s17 (fa 17) cdv A outer s H E).A (bodyX P w K mg base N17 "rim_of" s17 (fa 17) cdv A outer s H E).env (bodyX P w K mg base N17 "rim_of" s17 (fa 17) cdv A outer s H E).xe := passes_of rfl
  exact (sss_cons (ss_expr (se_callD T.d11 G.g11 hr tk (sa_cons (se_var 0) (sa_cons (se_var 1) sa_nil))))
    (sss_one (ss_ret (se_callB call_len r_len T.z_len boot_len (sa_cons (se_callD T.d14 G.g14 hr tk (sa_cons (se_var 1) sa_nil)) sa_nil)))))
theorem ok18 (T : Tx K w mg fa fd) {n : Nat} (G : Gx P w K mg base fa fd n) : FnOk P w K mg base (L2.CX P w) (n + 1) (fa 18) (fd 18) P18 (spD (cn K fa) P18.length (runF N18.length (b18 (callF n)))) := by
  refine fn_ok T.d18.fn sc18 (fun cdv A outer s H E hr => ?_)
  have tk : Takes (bodyX P w K mg base N18 "rim_sides" s18 (fa 18) cdv A outer s H E) (WofE E) := takes_of rfl rfl rfl rfl
  have hp : PassesOwn (model P w) (bodyX P w K mg base N18 "rim_sides" s18 (fa 18) cdv A outer s H E).A (bodyX P w K mg base N18 "rim_sides" s18 (fa 18) cdv A outer s H E).env (bodyX P w K mg base N18 "rim_sides" s18 (fa 18) cdv A outer s H E).xe := passes_of rfl
  exact (sss_cons (ss_expr (se_callD T.d11 G.g11 hr tk (sa_cons (se_var 0) (sa_cons (se_var 1) sa_nil))))
    (sss_one (ss_ret (se_callTy call_tuple_of r_tuple T.z_tuple boot_tuple (sa_cons (se_callD T.d14 G.g14 hr tk (sa_cons (se_var 1) sa_nil)) sa_nil)))))
theorem ok19 (T : Tx K w mg fa fd) {n : Nat} (G : Gx P w K mg base fa fd n) : FnOk P w K mg base (L2.CX P w) (n + 1) (fa 19) (fd 19) P19 (spD (cn K fa) P19.length (runF N19.length (b19 (callF n)))) := by
  refine fn_ok T.d19.fn sc19 (fun cdv A outer s H E hr => ?_)
  have tk : Takes (bodyX P w K mg base N19 "hedges_round" s19 (fa 19) cdv A outer s H E) (WofE E) := takes_of rfl rfl rfl rfl
  have hp : PassesOwn (model P w) (bodyX P w K mg base N19 "hedges_round" s19 (fa 19) cdv A outer s H E).A (bodyX P w K mg base N19 "hedges_round" s19 (fa 19) cdv A outer s H E).env (bodyX P w K mg base N19 "hedges_round" s19 (fa 19) cdv A outer s H E).xe := passes_of rfl
  exact (sss_cons (ss_expr (se_callD T.d11 G.g11 hr tk (sa_cons (se_var 0) (sa_cons (se_var 1) sa_nil))))
    (sss_cons (ss_fzA (i := 2) (ss_setLc (i := 2) rfl sc19.nd (si_val rfl (se_callD T.d14 G.g14 hr tk (sa_cons (se_var 1) sa_nil))) (own := [("own", 3)]) (blkOk_by (N := N19) (sc := defScope s19) (by decide +kernel)) (fun _ _ _ _ _ => (sg_name sc19.nd (i := 3))) (fun _ _ _ _ _ => sif_nil) (fun _ _ _ _ _ => (se_tup (sa_cons (se_slice rfl (se_var 3) so_none (so_some se_int)) (sa_cons (se_callD T.d12 G.g12 hr takes0W (sa_cons (se_slice rfl (se_var 3) so_none (so_some se_int)) (sa_cons (se_ix rfl (se_var 3) se_int) sa_nil))) sa_nil)))) (by decide)))
    (sss_one (ss_ret (se_callTy call_tuple_of r_tuple T.z_tuple boot_tuple (sa_cons (se_callB (cr_sortedD rfl (hu64 hr)) (r_sorted rfl) T.z_sorted PyProof.Rows.boot_sorted (sa_cons (SC.se (sc_lc rfl sc19.nd (si_val rfl (se_var 2)) (own := [("one", 4), ("other", 5)]) (blkOk_by (N := N19) (sc := defScope s19) (by decide +kernel)) (fun _ _ _ _ _ => (sg_tup rfl rfl (sgs_cons (sg_name sc19.nd (i := 4)) (sgs_cons (sg_name sc19.nd (i := 5)) sgs_nil)))) (fun _ _ _ _ _ => (sif_one (st_val (se_callD T.d7 G.g7 hr takes0W (sa_cons (se_var 0) (sa_cons (se_var 5) sa_nil)))))) (fun _ _ _ _ _ => (se_callD T.d13 G.g13 hr takes0W (sa_cons (se_var 4) (sa_cons (se_var 5) sa_nil)))) (by decide))) sa_nil)) sa_nil))))))
theorem ok20 (T : Tx K w mg fa fd) {n : Nat} (G : Gx P w K mg base fa fd n) : FnOk P w K mg base (L2.CX P w) (n + 1) (fa 20) (fd 20) P20 (spD (cn K fa) P20.length (runF N20.length (b20 (callF n)))) := by
  refine fn_ok T.d20.fn sc20 (fun cdv A outer s H E hr => ?_)
  have tk : Takes (bodyX P w K mg base N20 "box_round" s20 (fa 20) cdv A outer s H E) (WofE E) := takes_of rfl rfl rfl rfl
  have hp : PassesOwn (model P w) (bodyX P w K mg base N20 "box_round" s20 (fa 20) cdv A outer s H E).A (bodyX P w K mg base N20 "box_round" s20 (fa 20) cdv A outer s H E).env (bodyX P w K mg base N20 "box_round" s20 (fa 20) cdv A outer s H E).xe := passes_of rfl
  exact (sss_cons (ss_expr (se_callD T.d11 G.g11 hr tk (sa_cons (se_var 0) (sa_cons (se_var 1) sa_nil))))
    (sss_one (ss_ret (se_if (st_cmp (op_neD (hu64 hr)) r_ne (se_var 1) (se_tup sa_nil)) (se_callD T.d15 G.g15 hr tk (sa_cons (se_var 1) sa_nil)) se_non))))
theorem ok21 (T : Tx K w mg fa fd) {n : Nat} (G : Gx P w K mg base fa fd n) : FnOk P w K mg base (L2.CX P w) (n + 1) (fa 21) (fd 21) P21 (spD (cn K fa) P21.length (runF N21.length (b21 (callF n)))) := by
  refine fn_ok T.d21.fn sc21 (fun cdv A outer s H E hr => ?_)
  have tk : Takes (bodyX P w K mg base N21 "box_rim" s21 (fa 21) cdv A outer s H E) (WofE E) := takes_of rfl rfl rfl rfl
  have hp : PassesOwn (model P w) (bodyX P w K mg base N21 "box_rim" s21 (fa 21) cdv A outer s H E).A (bodyX P w K mg base N21 "box_rim" s21 (fa 21) cdv A outer s H E).env (bodyX P w K mg base N21 "box_rim" s21 (fa 21) cdv A outer s H E).xe := passes_of rfl
  exact (sss_cons (ss_expr (se_callD T.d11 G.g11 hr tk (sa_cons (se_var 0) (sa_cons (se_var 1) sa_nil))))
    (sss_cons (ss_if (st_cmp (op_eqD (hu64 hr)) r_eq (se_var 1) (se_tup sa_nil)) (sss_one (ss_ret se_int)) sss_nil)
    (sss_cons (ss_asg (sg_tup rfl rfl (sgs_cons (sg_tup rfl rfl (sgs_cons (sg_name sc21.nd (i := 2)) (sgs_cons (sg_name sc21.nd (i := 3)) sgs_nil))) (sgs_cons (sg_tup rfl rfl (sgs_cons (sg_name sc21.nd (i := 4)) (sgs_cons (sg_name sc21.nd (i := 5)) sgs_nil))) sgs_nil))) (se_callD T.d15 G.g15 hr tk (sa_cons (se_var 1) sa_nil)))
    (sss_one (ss_ret (se_op op_mulA r_mul se_int (se_op op_addA r_add (se_op op_sub r_sub (se_op op_addA r_add (se_op op_addA r_add (se_op op_sub r_sub (se_var 4) (se_var 2)) se_int) (se_var 5)) (se_var 3)) se_int)))))))
theorem ok22 (T : Tx K w mg fa fd) {n : Nat} (G : Gx P w K mg base fa fd n) : FnOk P w K mg base (L2.CX P w) (n + 1) (fa 22) (fd 22) P22 (spD (cn K fa) P22.length (runF N22.length (b22 (callF n)))) := by
  refine fn_ok T.d22.fn sc22 (fun cdv A outer s H E hr => ?_)
  have tk : Takes (bodyX P w K mg base N22 "kind_rims" s22 (fa 22) cdv A outer s H E) (WofE E) := takes_of rfl rfl rfl rfl
  have hp : PassesOwn (model P w) (bodyX P w K mg base N22 "kind_rims" s22 (fa 22) cdv A outer s H E).A (bodyX P w K mg base N22 "kind_rims" s22 (fa 22) cdv A outer s H E).env (bodyX P w K mg base N22 "kind_rims" s22 (fa 22) cdv A outer s H E).xe := passes_of rfl
  exact (sss_cons (ss_expr (se_callD T.d6 G.g6 hr tk (sa_cons (se_var 0) sa_nil)))
    (sss_cons (ss_set (i := 1) sc22.nd sc_newK)
    (sss_cons (ss_for hp rfl (si_val rfl (se_callD T.d9 G.g9 hr tk (sa_cons (se_var 0) sa_nil))) (sg_tup rfl rfl (sgs_cons (sg_name sc22.nd (i := 2)) (sgs_cons (sg_name sc22.nd (i := 3)) sgs_nil))) (sss_one (ss_putV (i := 1) (hu64 hr) (se_ix rfl (se_ix rfl (se_var 0) (se_var 2)) (se_var 3)) (se_op op_addA r_add (se_getV (i := 1) (hu64 hr) (se_ix rfl (se_ix rfl (se_var 0) (se_var 2)) (se_var 3)) (se_tup sa_nil)) (se_tup (sa_cons (se_tup (sa_cons (se_var 2) (sa_cons (se_var 3) sa_nil))) sa_nil))))))
    (sss_one (ss_frz (i := 1) (ss_ret (se_callTy call_tuple_of r_tuple T.z_tuple boot_tuple (sa_cons (SC.se (sc_lc rfl sc22.nd (si_val rfl (se_callB (cr_sortedD rfl (hu64 hr)) (r_sorted rfl) T.z_sorted PyProof.Rows.boot_sorted (sa_cons (se_var 1) sa_nil))) (own := [("kind", 4)]) (blkOk_by (N := N22) (sc := defScope s22) (by decide +kernel)) (fun _ _ _ _ _ => (sg_name sc22.nd (i := 4))) (fun _ _ _ _ _ => sif_nil) (fun _ _ _ _ _ => (se_tup (sa_cons (se_var 4) (sa_cons (se_callB call_len r_len T.z_len boot_len (sa_cons (se_callD T.d14 G.g14 hr takes0W (sa_cons (se_ixV (i := 1) (hu64 hr) (se_var 4)) sa_nil)) sa_nil)) sa_nil)))) (by decide))) sa_nil))))))))
theorem ok23 (T : Tx K w mg fa fd) {n : Nat} (G : Gx P w K mg base fa fd n) : FnOk P w K mg base (L2.CX P w) (n + 1) (fa 23) (fd 23) P23 (spD (cn K fa) P23.length (runF N23.length (b23 (callF n)))) := by
  refine fn_ok T.d23.fn sc23 (fun cdv A outer s H E hr => ?_)
  have tk : Takes (bodyX P w K mg base N23 "_law_cup" s23 (fa 23) cdv A outer s H E) (WofE E) := takes_of rfl rfl rfl rfl
  have hp : PassesOwn (model P w) (bodyX P w K mg base N23 "_law_cup" s23 (fa 23) cdv A outer s H E).A (bodyX P w K mg base N23 "_law_cup" s23 (fa 23) cdv A outer s H E).env (bodyX P w K mg base N23 "_law_cup" s23 (fa 23) cdv A outer s H E).xe := passes_of rfl
  exact (sss_cons (ss_set (i := 1) sc23.nd (SE.sc (se_callB call_abs r_abs T.z_abs boot_abs (sa_cons (se_ix rfl (se_op op_addA r_add (se_callTy call_list_of r_list T.z_list boot_list (sa_cons (se_var 0) sa_nil)) (se_lst (sa_cons se_int sa_nil))) se_int) sa_nil))))
    (sss_one (ss_retLoc (sa_cons (se_if (st_cmp (op_geA (hu65 hr)) r_ge (se_var 1) (se_op op_pow r_pow se_int se_int)) (se_op op_fdiv r_fdiv (se_var 1) se_int) se_int) (sa_cons (se_op op_addA r_add (se_op op_mod r_mod (se_callTy call_int1 r_int T.z_int boot_int (sa_cons (se_op op_addA r_add (se_op op_mulA r_mul (se_var 1) se_int) se_int) sa_nil)) se_int) se_int) sa_nil)))))
theorem ok24 (T : Tx K w mg fa fd) {n : Nat} (G : Gx P w K mg base fa fd n) : FnOk P w K mg base (L2.CX P w) (n + 1) (fa 24) (fd 24) P24 (spD (cn K fa) P24.length (runF N24.length (b24 (callF n)))) := by
  refine fn_ok T.d24.fn sc24 (fun cdv A outer s H E hr => ?_)
  have tk : Takes (bodyX P w K mg base N24 "_law_roll" s24 (fa 24) cdv A outer s H E) (WofE E) := takes_of rfl rfl rfl rfl
  have hp : PassesOwn (model P w) (bodyX P w K mg base N24 "_law_roll" s24 (fa 24) cdv A outer s H E).A (bodyX P w K mg base N24 "_law_roll" s24 (fa 24) cdv A outer s H E).env (bodyX P w K mg base N24 "_law_roll" s24 (fa 24) cdv A outer s H E).xe := passes_of rfl
  exact (sss_cons (ss_if (st_cmp (op_gtA (hu65 hr)) r_gt (se_ix rfl (se_var 0) se_int) se_int) (sss_cons (ss_set (i := 3) sc24.nd (SE.sc (se_op op_mod r_mod (se_callTy call_int1 r_int T.z_int boot_int (sa_cons (se_ix rfl (se_var 0) se_int) sa_nil)) (se_var 1))))
    (sss_cons (ss_setIx (i := 0) se_int (se_op op_fdiv r_fdiv (se_ix rfl (se_var 0) se_int) (se_var 1)))
    (sss_one (ss_ret (se_var 3))))) sss_nil)
    (sss_cons (ss_setIx (i := 0) se_int (se_op op_mod r_mod (se_callTy call_int1 r_int T.z_int boot_int (sa_cons (se_op op_addA r_add (se_op op_mulA r_mul (se_ix rfl (se_var 0) se_int) se_int) se_int) sa_nil)) se_int))
    (sss_cons (ss_set (i := 2) sc24.nd (SE.sc (se_op op_mod r_mod (se_callTy call_int1 r_int T.z_int boot_int (sa_cons (se_op op_mulA r_mul (se_ix rfl (se_var 0) se_int) (se_op op_addA r_add (se_ix rfl (se_var 0) se_int) se_int)) sa_nil)) se_int)))
    (sss_one (ss_ret (se_op op_mod r_mod (se_callTy call_int1 r_int T.z_int boot_int (sa_cons (se_op op_fdiv r_fdiv (se_var 2) se_int) sa_nil)) (se_var 1)))))))
theorem ok25 (T : Tx K w mg fa fd) {n : Nat} (G : Gx P w K mg base fa fd n) : FnOk P w K mg base (L2.CX P w) (n + 1) (fa 25) (fd 25) P25 (spD (cn K fa) P25.length (runF N25.length (b25 (callF n)))) := by
  refine fn_ok T.d25.fn sc25 (fun cdv A outer s H E hr => ?_)
  have tk : Takes (bodyX P w K mg base N25 "_law_some" s25 (fa 25) cdv A outer s H E) (WofE E) := takes_of rfl rfl rfl rfl
  have hp : PassesOwn (model P w) (bodyX P w K mg base N25 "_law_some" s25 (fa 25) cdv A outer s H E).A (bodyX P w K mg base N25 "_law_some" s25 (fa 25) cdv A outer s H E).env (bodyX P w K mg base N25 "_law_some" s25 (fa 25) cdv A outer s H E).xe := passes_of rfl
  exact (sss_one (ss_ret (se_ix rfl (se_var 1) (se_callD T.d24 G.g24 hr tk (sa_cons (se_var 0) (sa_cons (se_callB call_len r_len T.z_len boot_len (sa_cons (se_var 1) sa_nil)) sa_nil))))))
theorem ok26 (T : Tx K w mg fa fd) {n : Nat} (G : Gx P w K mg base fa fd n) : FnOk P w K mg base (L2.CX P w) (n + 1) (fa 26) (fd 26) P26 (spD (cn K fa) P26.length (runF N26.length (b26 (callF n)))) := by
  refine fn_ok T.d26.fn sc26 (fun cdv A outer s H E hr => ?_)
  have tk : Takes (bodyX P w K mg base N26 "_law_same" s26 (fa 26) cdv A outer s H E) (WofE E) := takes_of rfl rfl rfl rfl
  have hp : PassesOwn (model P w) (bodyX P w K mg base N26 "_law_same" s26 (fa 26) cdv A outer s H E).A (bodyX P w K mg base N26 "_law_same" s26 (fa 26) cdv A outer s H E).env (bodyX P w K mg base N26 "_law_same" s26 (fa 26) cdv A outer s H E).xe := passes_of rfl
  exact (sss_cons (ss_if (st_val (se_isi (T := "tuple") rfl T.z_isinstance T.z_tuple boot_tuple (se_var 1))) (sss_cons (ss_if (SW.st (sw_or (st_not (st_val (se_isi (T := "tuple") rfl T.z_isinstance T.z_tuple boot_tuple (se_var 0)))) (sw_or1 (st_cmp (op_neD (hu64 hr)) r_ne (se_callB call_len r_len T.z_len boot_len (sa_cons (se_var 0) sa_nil)) (se_callB call_len r_len T.z_len boot_len (sa_cons (se_var 1) sa_nil)))))) (sss_one (ss_ret se_bl)) sss_nil)
    (sss_one (ss_ret (se_callB (cr_all rfl) r_all T.z_all boot_all (sa_cons (SC.se (sc_lc rfl sc26.nd (si_range1 T.z_range (sa_cons (se_callB call_len r_len T.z_len boot_len (sa_cons (se_var 1) sa_nil)) sa_nil)) (own := [("at", 2)]) (blkOk_by (N := N26) (sc := defScope s26) (by decide +kernel)) (fun _ _ _ _ _ => (sg_name sc26.nd (i := 2))) (fun _ _ _ _ _ => sif_nil) (fun _ _ _ _ _ => (se_callD T.d26 G.g26 hr takes0W (sa_cons (se_ix rfl (se_var 0) (se_var 2)) (sa_cons (se_ix rfl (se_var 1) (se_var 2)) sa_nil)))) (by decide))) sa_nil))))) sss_nil)
    (sss_cons (ss_if (st_cmp op_isA r_is (se_var 1) se_non) (sss_one (ss_ret (se_cmp op_isA r_is (se_var 0) se_non))) sss_nil)
    (sss_cons (ss_if (st_val (se_isi (T := "bool") rfl T.z_isinstance T.z_bool boot_bool (se_var 1))) (sss_one (ss_ret (se_if (st_val (se_var 1)) (se_cmp op_isA r_is (se_var 0) se_bl) (se_cmp op_isA r_is (se_var 0) se_bl)))) sss_nil)
    (sss_cons (ss_if (st_val (se_isi (T := "int") rfl T.z_isinstance T.z_int boot_int (se_var 1))) (sss_one (ss_ret (se_and (se_isi (T := "int") rfl T.z_isinstance T.z_int boot_int (se_var 0)) (se_and (se_not (se_isi (T := "bool") rfl T.z_isinstance T.z_bool boot_bool (se_var 0))) (se_one (se_cmp (op_eqD (hu64 hr)) r_eq (se_callTy call_int1 r_int T.z_int boot_int (sa_cons (se_var 0) sa_nil)) (se_var 1))))))) sss_nil)
    (sss_one (ss_ret (se_and (se_isi (T := "str") rfl T.z_isinstance T.z_str boot_str (se_var 0)) (se_one (se_cmp (op_eqD (hu64 hr)) r_eq (se_callTy SkE.call_str_str r_str T.z_str boot_str (sa_cons (se_var 0) sa_nil)) (se_var 1))))))))))
theorem ok27 (T : Tx K w mg fa fd) {n : Nat} (G : Gx P w K mg base fa fd n) : FnOk P w K mg base (L2.CX P w) (n + 1) (fa 27) (fd 27) P27 (spD (cn K fa) P27.length (runF N27.length (b27 (callF n)))) := by
  refine fn_ok T.d27.fn sc27 (fun cdv A outer s H E hr => ?_)
  have tk : Takes (bodyX P w K mg base N27 "_law_plot" s27 (fa 27) cdv A outer s H E) (WofE E) := takes_of rfl rfl rfl rfl
  have hp : PassesOwn (model P w) (bodyX P w K mg base N27 "_law_plot" s27 (fa 27) cdv A outer s H E).A (bodyX P w K mg base N27 "_law_plot" s27 (fa 27) cdv A outer s H E).env (bodyX P w K mg base N27 "_law_plot" s27 (fa 27) cdv A outer s H E).xe := passes_of rfl
  exact (sss_cons (ss_asg (sg_tup rfl rfl (sgs_cons (sg_name sc27.nd (i := 4)) (sgs_cons (sg_name sc27.nd (i := 5)) sgs_nil))) (se_tup (sa_cons (se_op op_addA r_add se_int (se_callD T.d24 G.g24 hr tk (sa_cons (se_var 0) (sa_cons (se_var 1) sa_nil)))) (sa_cons (se_op op_addA r_add se_int (se_callD T.d24 G.g24 hr tk (sa_cons (se_var 0) (sa_cons (se_var 1) sa_nil)))) sa_nil))))
    (sss_cons (ss_set (i := 3) sc27.nd (SE.sc (se_callD T.d25 G.g25 hr tk (sa_cons (se_var 0) (sa_cons (se_lst (sa_cons (se_var 2) (sa_cons (se_op op_addA r_add (se_var 2) se_str) (sa_cons (se_op op_addA r_add (se_var 2) se_str) (sa_cons (se_op op_addA r_add (se_op op_mulA r_mul se_str (se_callB call_len r_len T.z_len boot_len (sa_cons (se_var 2) sa_nil))) (se_var 2)) sa_nil))))) sa_nil)))))
    (sss_one (ss_ret (se_callTy call_tuple_of r_tuple T.z_tuple boot_tuple (sa_cons (SC.se (sc_lc rfl sc27.nd (si_range1 T.z_range (sa_cons (se_var 4) sa_nil)) (own := [("row", 6)]) (blkOk_by (N := N27) (sc := defScope s27) (by decide +kernel)) (fun _ _ _ _ _ => (sg_name sc27.nd (i := 6))) (fun _ _ _ _ _ => sif_nil) (fun _ _ _ _ _ => (se_join rfl se_str (sa_cons (SC.se (sc_lc rfl sc27.nd (si_range1 T.z_range (sa_cons (se_var 5) sa_nil)) (own := [("column", 7)]) (blkOk_nest (N := N27) (sc0 := defScope s27) rfl (by decide +kernel)) (fun _ _ _ _ _ => (sg_name sc27.nd (i := 7))) (fun _ _ _ _ _ => sif_nil) (fun _ _ _ _ _ => (se_callD T.d25 G.g25 hr takes0W (sa_cons (se_var 0) (sa_cons (se_var 3) sa_nil)))) (by decide))) sa_nil))) (by decide))) sa_nil))))))
theorem ok28 (T : Tx K w mg fa fd) {n : Nat} (G : Gx P w K mg base fa fd n) : FnOk P w K mg base (L2.CX P w) (n + 1) (fa 28) (fd 28) P28 (spD (cn K fa) P28.length (runF N28.length (b28 (callF n)))) := by
  refine fn_ok T.d28.fn sc28 (fun cdv A outer s H E hr => ?_)
  have tk : Takes (bodyX P w K mg base N28 "_law_places" s28 (fa 28) cdv A outer s H E) (WofE E) := takes_of rfl rfl rfl rfl
  have hp : PassesOwn (model P w) (bodyX P w K mg base N28 "_law_places" s28 (fa 28) cdv A outer s H E).A (bodyX P w K mg base N28 "_law_places" s28 (fa 28) cdv A outer s H E).env (bodyX P w K mg base N28 "_law_places" s28 (fa 28) cdv A outer s H E).xe := passes_of rfl
  exact (sss_cons (ss_set (i := 1) sc28.nd (SE.sc (se_lst sa_nil)))
    (sss_cons (ss_for hp rfl (si_range1 T.z_range (sa_cons (se_callB call_len r_len T.z_len boot_len (sa_cons (se_var 0) sa_nil)) sa_nil)) (sg_name sc28.nd (i := 2)) (sss_one (ss_set (i := 1) sc28.nd (SE.sc (se_op op_addA r_add (se_var 1) (SC.se (sc_lc rfl sc28.nd (si_range1 T.z_range (sa_cons (se_callB call_len r_len T.z_len boot_len (sa_cons (se_ix rfl (se_var 0) se_int) sa_nil)) sa_nil)) (own := [("column", 3)]) (blkOk_by (N := N28) (sc := defScope s28) (by decide +kernel)) (fun _ _ _ _ _ => (sg_name sc28.nd (i := 3))) (fun _ _ _ _ _ => sif_nil) (fun _ _ _ _ _ => (se_tup (sa_cons (se_var 2) (sa_cons (se_var 3) sa_nil)))) (by decide))))))))
    (sss_one (ss_ret (se_var 1)))))
theorem ok29 (T : Tx K w mg fa fd) {n : Nat} (G : Gx P w K mg base fa fd n) : FnOk P w K mg base (L2.CX P w) (n + 1) (fa 29) (fd 29) P29 (spD (cn K fa) P29.length (runF N29.length (b29 (callF n)))) := by
  refine fn_ok T.d29.fn sc29 (fun cdv A outer s H E hr => ?_)
  have tk : Takes (bodyX P w K mg base N29 "_law_few" s29 (fa 29) cdv A outer s H E) (WofE E) := takes_of rfl rfl rfl rfl
  have hp : PassesOwn (model P w) (bodyX P w K mg base N29 "_law_few" s29 (fa 29) cdv A outer s H E).A (bodyX P w K mg base N29 "_law_few" s29 (fa 29) cdv A outer s H E).env (bodyX P w K mg base N29 "_law_few" s29 (fa 29) cdv A outer s H E).xe := passes_of rfl
  exact (sss_one (ss_ret (se_callTy call_tuple_of r_tuple T.z_tuple boot_tuple (sa_cons (SC.se (sc_lc rfl sc29.nd (si_val rfl (se_var 1)) (own := [("own", 3)]) (blkOk_by (N := N29) (sc := defScope s29) (by decide +kernel)) (fun _ _ _ _ _ => (sg_name sc29.nd (i := 3))) (fun _ _ _ _ _ => (sif_one (st_cmp (op_eqD (hu64 hr)) r_eq (se_callD T.d24 G.g24 hr takes0W (sa_cons (se_var 0) (sa_cons (se_var 2) sa_nil))) se_int))) (fun _ _ _ _ _ => (se_var 3)) (by decide))) sa_nil))))
theorem ok30 (T : Tx K w mg fa fd) {n : Nat} (G : Gx P w K mg base fa fd n) : FnOk P w K mg base (L2.CX P w) (n + 1) (fa 30) (fd 30) P30 (spD (cn K fa) P30.length (runF N30.length (b30 (callF n)))) := by
  refine fn_ok T.d30.fn sc30 (fun cdv A outer s H E hr => ?_)
  have tk : Takes (bodyX P w K mg base N30 "_law_sides" s30 (fa 30) cdv A outer s H E) (WofE E) := takes_of rfl rfl rfl rfl
  have hp : PassesOwn (model P w) (bodyX P w K mg base N30 "_law_sides" s30 (fa 30) cdv A outer s H E).A (bodyX P w K mg base N30 "_law_sides" s30 (fa 30) cdv A outer s H E).env (bodyX P w K mg base N30 "_law_sides" s30 (fa 30) cdv A outer s H E).xe := passes_of rfl
  exact (sss_cons (ss_set (i := 1) sc30.nd (SE.sc (se_lst sa_nil)))
    (sss_cons (ss_for hp rfl (si_val rfl (se_var 0)) (sg_tup rfl rfl (sgs_cons (sg_name sc30.nd (i := 2)) (sgs_cons (sg_name sc30.nd (i := 3)) sgs_nil))) (sss_cons (ss_set (i := 4) sc30.nd (SE.sc (se_lst (sa_cons (se_tup (sa_cons (se_op op_sub r_sub (se_var 2) se_int) (sa_cons (se_var 3) sa_nil))) (sa_cons (se_tup (sa_cons (se_var 2) (sa_cons (se_op op_addA r_add (se_var 3) se_int) sa_nil))) (sa_cons (se_tup (sa_cons (se_op op_addA r_add (se_var 2) se_int) (sa_cons (se_var 3) sa_nil))) (sa_cons (se_tup (sa_cons (se_var 2) (sa_cons (se_op op_sub r_sub (se_var 3) se_int) sa_nil))) sa_nil)))))))
    (sss_one (ss_set (i := 1) sc30.nd (SE.sc (se_op op_addA r_add (se_var 1) (SC.se (sc_lc rfl sc30.nd (si_range1 T.z_range (sa_cons se_int sa_nil)) (own := [("side", 5)]) (blkOk_by (N := N30) (sc := defScope s30) (by decide +kernel)) (fun _ _ _ _ _ => (sg_name sc30.nd (i := 5))) (fun _ _ _ _ _ => (sif_one (st_cmp (op_notInA (hu65 hr)) r_notIn (se_ix rfl (se_var 4) (se_var 5)) (se_var 0)))) (fun _ _ _ _ _ => (se_tup (sa_cons (se_var 2) (sa_cons (se_var 3) (sa_cons (se_var 5) sa_nil))))) (by decide)))))))))
    (sss_one (ss_ret (se_var 1)))))
theorem ok31 (T : Tx K w mg fa fd) {n : Nat} (G : Gx P w K mg base fa fd n) : FnOk P w K mg base (L2.CX P w) (n + 1) (fa 31) (fd 31) P31 (spD (cn K fa) P31.length (runF N31.length (b31 (callF n)))) := by
  refine fn_ok T.d31.fn sc31 (fun cdv A outer s H E hr => ?_)
  have tk : Takes (bodyX P w K mg base N31 "_law_right" s31 (fa 31) cdv A outer s H E) (WofE E) := takes_of rfl rfl rfl rfl
  have hp : PassesOwn (model P w) (bodyX P w K mg base N31 "_law_right" s31 (fa 31) cdv A outer s H E).A (bodyX P w K mg base N31 "_law_right" s31 (fa 31) cdv A outer s H E).env (bodyX P w K mg base N31 "_law_right" s31 (fa 31) cdv A outer s H E).xe := passes_of rfl
  exact (sss_cons (ss_set (i := 1) sc31.nd (SE.sc (se_callD T.d27 G.g27 hr tk (sa_cons (se_var 0) (sa_cons se_int (sa_cons se_str sa_nil))))))
    (sss_cons (ss_set (i := 2) sc31.nd (SE.sc (se_callD T.d28 G.g28 hr tk (sa_cons (se_var 1) sa_nil))))
    (sss_cons (ss_set (i := 3) sc31.nd (SE.sc (se_callD T.d29 G.g29 hr tk (sa_cons (se_var 0) (sa_cons (se_var 2) (sa_cons (se_callD T.d25 G.g25 hr tk (sa_cons (se_var 0) (sa_cons (se_lst (sa_cons se_int (sa_cons se_int (sa_cons se_int sa_nil)))) sa_nil))) sa_nil))))))
    (sss_cons (ss_set (i := 4) sc31.nd (SE.sc (se_callD T.d30 G.g30 hr tk (sa_cons (se_var 3) sa_nil))))
    (sss_cons (ss_if (st_not (st_val (se_callD T.d26 G.g26 hr tk (sa_cons (se_tup (sa_cons (se_callD T.d17 G.g17 hr tk (sa_cons (se_var 1) (sa_cons (se_var 3) sa_nil))) (sa_cons (se_callD T.d18 G.g18 hr tk (sa_cons (se_var 1) (sa_cons (se_var 3) sa_nil))) sa_nil))) (sa_cons (se_tup (sa_cons (se_callB call_len r_len T.z_len boot_len (sa_cons (se_var 4) sa_nil)) (sa_cons (se_callTy call_tuple_of r_tuple T.z_tuple boot_tuple (sa_cons (se_var 4) sa_nil)) sa_nil))) sa_nil))))) (sss_one (ss_ret se_bl)) sss_nil)
    (sss_cons (ss_set (i := 5) sc31.nd (sc_lst sa_nil))
    (sss_cons (ss_for hp rfl (si_val rfl (se_var 4)) (sg_tup rfl rfl (sgs_cons (sg_name sc31.nd (i := 10)) (sgs_cons (sg_name sc31.nd (i := 11)) (sgs_cons (sg_name sc31.nd (i := 12)) sgs_nil)))) (sss_cons (ss_set (i := 13) sc31.nd (SE.sc (se_ix rfl (se_lst (sa_cons (se_tup (sa_cons (se_op op_sub r_sub (se_var 10) se_int) (sa_cons (se_var 11) sa_nil))) (sa_cons (se_tup (sa_cons (se_var 10) (sa_cons (se_op op_addA r_add (se_var 11) se_int) sa_nil))) (sa_cons (se_tup (sa_cons (se_op op_addA r_add (se_var 10) se_int) (sa_cons (se_var 11) sa_nil))) (sa_cons (se_tup (sa_cons (se_var 10) (sa_cons (se_op op_sub r_sub (se_var 11) se_int) sa_nil))) sa_nil))))) (se_var 12))))
    (sss_one (ss_if (st_cmp (op_inA (hu65 hr)) r_in (se_var 13) (se_var 2)) (sss_cons (ss_set (i := 19) sc31.nd (SE.sc (se_callB (call_minL rfl (hu64 hr)) (r_MinL rfl) T.z_min boot_min (sa_cons (se_tup (sa_cons (se_var 10) (sa_cons (se_var 11) sa_nil))) (sa_cons (se_var 13) sa_nil)))))
    (sss_one (ss_app (i := 5) rfl (se_tup (sa_cons (se_ix rfl (se_var 19) se_int) (sa_cons (se_ix rfl (se_var 19) se_int) (sa_cons (se_if (st_cmp (op_eqD (hu64 hr)) r_eq (se_ix rfl (se_var 13) se_int) (se_var 10)) se_int se_int) sa_nil))))))) sss_nil))))
    (sss_cons (ss_frz (i := 5) (ss_if (st_not (st_val (se_callD T.d26 G.g26 hr tk (sa_cons (se_callD T.d19 G.g19 hr tk (sa_cons (se_var 1) (sa_cons (se_var 3) sa_nil))) (sa_cons (se_callTy call_tuple_of r_tuple T.z_tuple boot_tuple (sa_cons (se_callB (cr_sortedD rfl (hu64 hr)) (r_sorted rfl) T.z_sorted PyProof.Rows.boot_sorted (sa_cons (se_var 5) sa_nil)) sa_nil)) sa_nil))))) (sss_one (ss_ret se_bl)) sss_nil))
    (sss_cons (ss_asg (sg_tup rfl rfl (sgs_cons (sg_name sc31.nd (i := 14)) (sgs_cons (sg_name sc31.nd (i := 15)) sgs_nil))) (se_tup (sa_cons se_non (sa_cons se_int sa_nil))))
    (sss_cons (ss_if (st_cmp (op_neD (hu64 hr)) r_ne (se_var 3) (se_tup sa_nil)) (sss_cons (ss_asg (sg_tup rfl rfl (sgs_cons (sg_name sc31.nd (i := 20)) (sgs_cons (sg_name sc31.nd (i := 21)) sgs_nil))) (se_tup (sa_cons (se_callB (cr_sortedD rfl (hu64 hr)) (r_sorted rfl) T.z_sorted PyProof.Rows.boot_sorted (sa_cons (SC.se (sc_lc rfl sc31.nd (si_val rfl (se_var 3)) (own := [("own", 17)]) (blkOk_by (N := N31) (sc := defScope s31) (by decide +kernel)) (fun _ _ _ _ _ => (sg_name sc31.nd (i := 17))) (fun _ _ _ _ _ => sif_nil) (fun _ _ _ _ _ => (se_ix rfl (se_var 17) se_int)) (by decide))) sa_nil)) (sa_cons (se_callB (cr_sortedD rfl (hu64 hr)) (r_sorted rfl) T.z_sorted PyProof.Rows.boot_sorted (sa_cons (SC.se (sc_lc rfl sc31.nd (si_val rfl (se_var 3)) (own := [("own", 17)]) (blkOk_by (N := N31) (sc := defScope s31) (by decide +kernel)) (fun _ _ _ _ _ => (sg_name sc31.nd (i := 17))) (fun _ _ _ _ _ => sif_nil) (fun _ _ _ _ _ => (se_ix rfl (se_var 17) se_int)) (by decide))) sa_nil)) sa_nil))))
    (sss_cons (ss_set (i := 14) sc31.nd (SE.sc (se_tup (sa_cons (se_tup (sa_cons (se_ix rfl (se_var 20) se_int) (sa_cons (se_ix rfl (se_var 21) se_int) sa_nil))) (sa_cons (se_tup (sa_cons (se_ix rfl (se_var 20) (se_neg se_int)) (sa_cons (se_ix rfl (se_var 21) (se_neg se_int)) sa_nil))) sa_nil)))))
    (sss_cons (ss_fzA (i := 16) (ss_setLc (i := 16) rfl sc31.nd (si_val rfl (se_var 2)) (own := [("own", 17)]) (blkOk_by (N := N31) (sc := defScope s31) (by decide +kernel)) (fun _ _ _ _ _ => (sg_name sc31.nd (i := 17))) (fun _ _ _ _ _ => (sif_one (SW.st (sw_and (st_chain (op_leA (hu65 hr)) r_le (op_leA (hu65 hr)) r_le (se_ix rfl (se_var 20) se_int) (se_ix rfl (se_var 17) se_int) (se_ix rfl (se_var 20) (se_neg se_int))) (sw_and1 (st_chain (op_leA (hu65 hr)) r_le (op_leA (hu65 hr)) r_le (se_ix rfl (se_var 21) se_int) (se_ix rfl (se_var 17) se_int) (se_ix rfl (se_var 21) (se_neg se_int)))))))) (fun _ _ _ _ _ => (se_var 17)) (by decide)))
    (sss_one (ss_set (i := 15) sc31.nd (SE.sc (se_callB call_len r_len T.z_len boot_len (sa_cons (se_callD T.d30 G.g30 hr tk (sa_cons (se_var 16) sa_nil)) sa_nil)))))))) sss_nil)
    (sss_cons (ss_if (st_not (st_val (se_callD T.d26 G.g26 hr tk (sa_cons (se_tup (sa_cons (se_callD T.d20 G.g20 hr tk (sa_cons (se_var 1) (sa_cons (se_var 3) sa_nil))) (sa_cons (se_callD T.d21 G.g21 hr tk (sa_cons (se_var 1) (sa_cons (se_var 3) sa_nil))) sa_nil))) (sa_cons (se_tup (sa_cons (se_var 14) (sa_cons (se_var 15) sa_nil))) sa_nil))))) (sss_one (ss_ret se_bl)) sss_nil)
    (sss_cons (ss_set (i := 6) sc31.nd (SE.sc (se_lst sa_nil)))
    (sss_cons (ss_for hp rfl (si_val rfl se_str) (sg_name sc31.nd (i := 7)) (sss_cons (ss_fzA (i := 17) (ss_setLc (i := 17) rfl sc31.nd (si_val rfl (se_var 2)) (own := [("row", 10), ("column", 11)]) (blkOk_by (N := N31) (sc := defScope s31) (by decide +kernel)) (fun _ _ _ _ _ => (sg_tup rfl rfl (sgs_cons (sg_name sc31.nd (i := 10)) (sgs_cons (sg_name sc31.nd (i := 11)) sgs_nil)))) (fun _ _ _ _ _ => (sif_one (st_cmp (op_eqD (hu64 hr)) r_eq (se_ix rfl (se_ix rfl (se_var 1) (se_var 10)) (se_var 11)) (se_var 7)))) (fun _ _ _ _ _ => (se_tup (sa_cons (se_var 10) (sa_cons (se_var 11) sa_nil)))) (by decide)))
    (sss_one (ss_set (i := 6) sc31.nd (SE.sc (se_op op_addA r_add (se_var 6) (se_if (st_cmp (op_neD (hu64 hr)) r_ne (se_var 17) (se_lst sa_nil)) (se_lst (sa_cons (se_tup (sa_cons (se_var 7) (sa_cons (se_callB call_len r_len T.z_len boot_len (sa_cons (se_callD T.d30 G.g30 hr tk (sa_cons (se_var 17) sa_nil)) sa_nil)) sa_nil))) sa_nil)) (se_lst sa_nil))))))))
    (sss_cons (ss_if (st_not (st_val (se_callD T.d26 G.g26 hr tk (sa_cons (se_callD T.d22 G.g22 hr tk (sa_cons (se_var 1) sa_nil)) (sa_cons (se_callTy call_tuple_of r_tuple T.z_tuple boot_tuple (sa_cons (se_var 6) sa_nil)) sa_nil))))) (sss_one (ss_ret se_bl)) sss_nil)
    (sss_cons (ss_set (i := 8) sc31.nd (SE.sc (se_lst (sa_cons (se_var 3) (sa_cons (se_revT rfl (se_var 3)) (sa_cons (se_callTy call_list_of r_list T.z_list boot_list (sa_cons (se_var 3) sa_nil)) (sa_cons (se_op op_addA r_add (se_var 3) (se_slice rfl (se_var 3) (so_some (se_neg se_int)) so_none)) (sa_cons se_non (sa_cons (se_tup sa_nil) (sa_cons se_str (sa_cons se_int (sa_cons (se_tup (sa_cons se_int (sa_cons se_int sa_nil))) (sa_cons (se_tup (sa_cons (se_tup (sa_cons se_int sa_nil)) sa_nil)) (sa_cons (se_tup (sa_cons (se_tup (sa_cons (se_callB call_len r_len T.z_len boot_len (sa_cons (se_var 1) sa_nil)) (sa_cons se_int sa_nil))) sa_nil)) (sa_cons (se_tup (sa_cons (se_tup (sa_cons se_int (sa_cons (se_neg se_int) sa_nil))) sa_nil)) sa_nil)))))))))))))))
    (sss_cons (ss_for hp rfl (si_val rfl (se_op op_addA r_add (se_var 8) (se_lst (sa_cons (se_callTy call_tuple_of r_tuple T.z_tuple boot_tuple (sa_cons (se_var 2) sa_nil)) (sa_cons (se_tup (sa_cons (se_tup (sa_cons se_int (sa_cons se_int (sa_cons se_int sa_nil)))) sa_nil)) (sa_cons (se_tup (sa_cons (se_lst (sa_cons se_int (sa_cons se_int sa_nil))) sa_nil)) (sa_cons (se_tup (sa_cons (se_tup (sa_cons se_bl (sa_cons se_int sa_nil))) sa_nil)) (sa_cons (se_tup (sa_cons se_non sa_nil)) sa_nil)))))))) (sg_name sc31.nd (i := 9)) (sss_cons (ss_set (i := 18) sc31.nd (SE.sc (se_and (se_isi (T := "tuple") rfl T.z_isinstance T.z_tuple boot_tuple (se_var 9)) (se_one (se_cmp (op_eqD (hu64 hr)) r_eq (SC.se (sc_lc rfl sc31.nd (si_val rfl (se_var 9)) (own := [("own", 17)]) (blkOk_by (N := N31) (sc := defScope s31) (by decide +kernel)) (fun _ _ _ _ _ => (sg_name sc31.nd (i := 17))) (fun _ _ _ _ _ => (sif_one (SW.st (sw_or (st_cmp (op_notInA (hu65 hr)) r_notIn (se_var 17) (se_var 2)) (sw_or1 (st_val (se_isi (T := "bool") rfl T.z_isinstance T.z_bool boot_bool (se_ix rfl (se_var 17) se_int)))))))) (fun _ _ _ _ _ => (se_var 17)) (by decide))) (se_lst sa_nil))))))
    (sss_one (ss_if (st_not (st_val (se_callD T.d26 G.g26 hr tk (sa_cons (se_callD T.d16 G.g16 hr tk (sa_cons (se_var 1) (sa_cons (se_var 9) sa_nil))) (sa_cons (se_and (se_var 18) (se_one (se_cmp (op_eqD (hu64 hr)) r_eq (se_callTy call_list_of r_list T.z_list boot_list (sa_cons (se_var 9) sa_nil)) (se_sortSetX (S := seP) rfl rfl (hu64 hr) T.z_sorted T.z_set (se_var 9))))) sa_nil))))) (sss_one (ss_ret se_bl)) sss_nil))))
    (sss_one (ss_ret se_bl))))))))))))))))))
theorem ok32 (T : Tx K w mg fa fd) {n : Nat} (G : Gx P w K mg base fa fd n) : FnOk P w K mg base (L2.CX P w) (n + 1) (fa 32) (fd 32) P32 (spD (cn K fa) P32.length (runF N32.length (b32 (callF n)))) := by
  refine fn_ok T.d32.fn sc32 (fun cdv A outer s H E hr => ?_)
  have tk : Takes (bodyX P w K mg base N32 "law" s32 (fa 32) cdv A outer s H E) (WofE E) := takes_of rfl rfl rfl rfl
  have hp : PassesOwn (model P w) (bodyX P w K mg base N32 "law" s32 (fa 32) cdv A outer s H E).A (bodyX P w K mg base N32 "law" s32 (fa 32) cdv A outer s H E).env (bodyX P w K mg base N32 "law" s32 (fa 32) cdv A outer s H E).xe := passes_of rfl
  exact (sss_cons (ss_set (i := 1) sc32.nd (SE.sc (se_callD T.d23 G.g23 hr tk (sa_cons (se_var 0) sa_nil))))
    (sss_cons (ss_for hp rfl (si_range1 T.z_range (sa_cons se_int sa_nil)) (sg_name sc32.nd (i := 2)) (sss_one (ss_if (st_not (st_val (se_callD T.d31 G.g31 hr tk (sa_cons (se_var 1) sa_nil)))) (sss_one (ss_ret se_bl)) sss_nil)))
    (sss_cons (ss_par (i := 6) (j := 7) rfl sc32.nd (SE.sc (se_op op_addA r_add se_int (se_callD T.d24 G.g24 hr tk (sa_cons (se_var 1) (sa_cons se_int sa_nil))))) (SE.sc (se_op op_addA r_add se_int (se_callD T.d24 G.g24 hr tk (sa_cons (se_var 1) (sa_cons se_int sa_nil))))))
    (sss_cons (ss_set (i := 3) sc32.nd (SE.sc (se_op op_mulA r_mul (se_tup (sa_cons (se_op op_mulA r_mul se_str (se_var 7)) sa_nil)) (se_var 6))))
    (sss_cons (ss_set (i := 4) sc32.nd (SE.sc (se_callTy call_tuple_of r_tuple T.z_tuple boot_tuple (sa_cons (se_callD T.d28 G.g28 hr tk (sa_cons (se_var 3) sa_nil)) sa_nil))))
    (sss_cons (ss_set (i := 5) sc32.nd (SE.sc (se_tup (sa_cons (se_callD T.d17 G.g17 hr tk (sa_cons (se_var 3) (sa_cons (se_var 4) sa_nil))) (sa_cons (se_callD T.d19 G.g19 hr tk (sa_cons (se_var 3) (sa_cons (se_var 4) sa_nil))) (sa_cons (se_callD T.d21 G.g21 hr tk (sa_cons (se_var 3) (sa_cons (se_var 4) sa_nil))) (sa_cons (se_callD T.d22 G.g22 hr tk (sa_cons (se_var 3) sa_nil)) sa_nil)))))))
    (sss_one (ss_ret (se_callD T.d26 G.g26 hr tk (sa_cons (se_var 5) (sa_cons (se_tup (sa_cons (se_op op_mulA r_mul se_int (se_op op_addA r_add (se_var 6) (se_var 7))) (sa_cons (se_tup sa_nil) (sa_cons (se_op op_mulA r_mul se_int (se_op op_addA r_add (se_var 6) (se_var 7))) (sa_cons (se_tup (sa_cons (se_tup (sa_cons se_str (sa_cons (se_op op_mulA r_mul se_int (se_op op_addA r_add (se_var 6) (se_var 7))) sa_nil))) sa_nil)) sa_nil))))) sa_nil)))))))))))
theorem cf0 (n : Nat) : callF (n + 1) 0 = runF N0.length (b0 (callF n)) := rfl
theorem cf1 (n : Nat) : callF (n + 1) 1 = runF N1.length (b1 (callF n)) := rfl
theorem cf2 (n : Nat) : callF (n + 1) 2 = runF N2.length (b2 (callF n)) := rfl
theorem cf3 (n : Nat) : callF (n + 1) 3 = runF N3.length (b3 (callF n)) := rfl
theorem cf4 (n : Nat) : callF (n + 1) 4 = runF N4.length (b4 (callF n)) := rfl
theorem cf5 (n : Nat) : callF (n + 1) 5 = runF N5.length (b5 (callF n)) := rfl
theorem cf6 (n : Nat) : callF (n + 1) 6 = runF N6.length (b6 (callF n)) := rfl
theorem cf7 (n : Nat) : callF (n + 1) 7 = runF N7.length (b7 (callF n)) := rfl
theorem cf8 (n : Nat) : callF (n + 1) 8 = runF N8.length (b8 (callF n)) := rfl
theorem cf9 (n : Nat) : callF (n + 1) 9 = runF N9.length (b9 (callF n)) := rfl
theorem cf10 (n : Nat) : callF (n + 1) 10 = runF N10.length (b10 (callF n)) := rfl
theorem cf11 (n : Nat) : callF (n + 1) 11 = runF N11.length (b11 (callF n)) := rfl
theorem cf12 (n : Nat) : callF (n + 1) 12 = runF N12.length (b12 (callF n)) := rfl
theorem cf13 (n : Nat) : callF (n + 1) 13 = runF N13.length (b13 (callF n)) := rfl
theorem cf14 (n : Nat) : callF (n + 1) 14 = runF N14.length (b14 (callF n)) := rfl
theorem cf15 (n : Nat) : callF (n + 1) 15 = runF N15.length (b15 (callF n)) := rfl
theorem cf16 (n : Nat) : callF (n + 1) 16 = runF N16.length (b16 (callF n)) := rfl
theorem cf17 (n : Nat) : callF (n + 1) 17 = runF N17.length (b17 (callF n)) := rfl
theorem cf18 (n : Nat) : callF (n + 1) 18 = runF N18.length (b18 (callF n)) := rfl
theorem cf19 (n : Nat) : callF (n + 1) 19 = runF N19.length (b19 (callF n)) := rfl
theorem cf20 (n : Nat) : callF (n + 1) 20 = runF N20.length (b20 (callF n)) := rfl
theorem cf21 (n : Nat) : callF (n + 1) 21 = runF N21.length (b21 (callF n)) := rfl
theorem cf22 (n : Nat) : callF (n + 1) 22 = runF N22.length (b22 (callF n)) := rfl
theorem cf23 (n : Nat) : callF (n + 1) 23 = runF N23.length (b23 (callF n)) := rfl
theorem cf24 (n : Nat) : callF (n + 1) 24 = runF N24.length (b24 (callF n)) := rfl
theorem cf25 (n : Nat) : callF (n + 1) 25 = runF N25.length (b25 (callF n)) := rfl
theorem cf26 (n : Nat) : callF (n + 1) 26 = runF N26.length (b26 (callF n)) := rfl
theorem cf27 (n : Nat) : callF (n + 1) 27 = runF N27.length (b27 (callF n)) := rfl
theorem cf28 (n : Nat) : callF (n + 1) 28 = runF N28.length (b28 (callF n)) := rfl
theorem cf29 (n : Nat) : callF (n + 1) 29 = runF N29.length (b29 (callF n)) := rfl
theorem cf30 (n : Nat) : callF (n + 1) 30 = runF N30.length (b30 (callF n)) := rfl
theorem cf31 (n : Nat) : callF (n + 1) 31 = runF N31.length (b31 (callF n)) := rfl
theorem cf32 (n : Nat) : callF (n + 1) 32 = runF N32.length (b32 (callF n)) := rfl
theorem all_ok (T : Tx K w mg fa fd) : ∀ n : Nat, Gx P w K mg base fa fd n
  | 0 => ⟨fn_none (fun _ _ => rfl) rfl, fn_none (fun _ _ => rfl) rfl, fn_none (fun _ _ => rfl) rfl, fn_none (fun _ _ => rfl) rfl, fn_none (fun _ _ => rfl) rfl, fn_none (fun _ _ => rfl) rfl, fn_none (fun _ _ => rfl) rfl, fn_none (fun _ _ => rfl) rfl, fn_none (fun _ _ => rfl) rfl, fn_none (fun _ _ => rfl) rfl, fn_none (fun _ _ => rfl) rfl, fn_none (fun _ _ => rfl) rfl, fn_none (fun _ _ => rfl) rfl, fn_none (fun _ _ => rfl) rfl, fn_none (fun _ _ => rfl) rfl, fn_none (fun _ _ => rfl) rfl, fn_none (fun _ _ => rfl) rfl, fn_none (fun _ _ => rfl) rfl, fn_none (fun _ _ => rfl) rfl, fn_none (fun _ _ => rfl) rfl, fn_none (fun _ _ => rfl) rfl, fn_none (fun _ _ => rfl) rfl, fn_none (fun _ _ => rfl) rfl, fn_none (fun _ _ => rfl) rfl, fn_none (fun _ _ => rfl) rfl, fn_none (fun _ _ => rfl) rfl, fn_none (fun _ _ => rfl) rfl, fn_none (fun _ _ => rfl) rfl, fn_none (fun _ _ => rfl) rfl, fn_none (fun _ _ => rfl) rfl, fn_none (fun _ _ => rfl) rfl, fn_none (fun _ _ => rfl) rfl, fn_none (fun _ _ => rfl) rfl⟩
  | n + 1 => have G := all_ok T n; ⟨(cf0 n).symm ▸ ok0 T G, (cf1 n).symm ▸ ok1 T G, (cf2 n).symm ▸ ok2 T G, (cf3 n).symm ▸ ok3 T G, (cf4 n).symm ▸ ok4 T G, (cf5 n).symm ▸ ok5 T G, (cf6 n).symm ▸ ok6 T G, (cf7 n).symm ▸ ok7 T G, (cf8 n).symm ▸ ok8 T G, (cf9 n).symm ▸ ok9 T G, (cf10 n).symm ▸ ok10 T G, (cf11 n).symm ▸ ok11 T G, (cf12 n).symm ▸ ok12 T G, (cf13 n).symm ▸ ok13 T G, (cf14 n).symm ▸ ok14 T G, (cf15 n).symm ▸ ok15 T G, (cf16 n).symm ▸ ok16 T G, (cf17 n).symm ▸ ok17 T G, (cf18 n).symm ▸ ok18 T G, (cf19 n).symm ▸ ok19 T G, (cf20 n).symm ▸ ok20 T G, (cf21 n).symm ▸ ok21 T G, (cf22 n).symm ▸ ok22 T G, (cf23 n).symm ▸ ok23 T G, (cf24 n).symm ▸ ok24 T G, (cf25 n).symm ▸ ok25 T G, (cf26 n).symm ▸ ok26 T G, (cf27 n).symm ▸ ok27 T G, (cf28 n).symm ▸ ok28 T G, (cf29 n).symm ▸ ok29 T G, (cf30 n).symm ▸ ok30 T G, (cf31 n).symm ▸ ok31 T G, (cf32 n).symm ▸ ok32 T G⟩
end
end K77

set_option Elab.async false
set_option linter.all false
set_option maxRecDepth 100000
set_option maxHeartbeats 1000000
namespace K77
open PySem L2 Mi
theorem c_is_whole {n : Nat} {v : D} {mh : Mh} (h : leaf v = true) : callF (n + 1) 0 [v] mh = .ok (.bl (whole v)) mh := by
  refine eq_of_S (S_runF ?_)
  cases v <;> first | (cases h; done) | simp [b0, env0, whole]
theorem c_fits_whole {n : Nat} {v : D} {lo hi : Int} {mh : Mh} (h : leaf v = true) : callF (n + 2) 1 [v, .int lo, .int hi] mh = .ok (.bl (wholeIn lo hi v)) mh := by
  refine eq_of_S (S_runF ?_)
  have := @c_is_whole n v mh h
  simp [b1, env0, this]
  cases v <;> first | (cases h; done) | simp [whole, wholeIn]
  split <;> intros <;> omega
theorem c_is_tuple_of {n : Nat} {v : D} {lo hi : Int} {mh : Mh} (h : leaf v = true) : callF (n + 1) 2 [v, .int lo, .int hi] mh = .ok (.bl (tupOf lo hi v)) mh := by
  refine eq_of_S (S_runF ?_)
  cases v <;> first | (cases h; done) | simp [b2, env0, dLen, tupOf]
  all_goals (split <;> simp_all <;> intros <;> omega)
theorem c_fits_row {n : Nat} {rows : List Str} {w : Nat} (O : PlotOk rows w) {r : Str} (hr : r ∈ rows) {mh : Mh} : callF (n + 1) 4 [.str r] mh = .ok (.bl true) mh := by
  refine eq_of_S (S_runF ?_)
  have hl : r.length = w := O.row r hr
  have w1 := O.w1
  have w2 := O.w2
  have wL : w ≤ 1000000 := by omega
  simp [b4, env0, dLen, hl, LIM_eq, g_SIDE, wL]
  refine ⟨by omega, by omega, ?_⟩
  refine S_fzAll r.cps.toList (fun ch => .str (chr1 ch)) (fun ch => .bl true) ?_ (by simp [noOwn, Cel.isOwn, Cel.own]) ?_ (fun ch hc => ?_) ?_
  · simp [itemsD, signsD]
  · rw [LIM_eq]; simp; have := O.row r hr; omega
  · refine ⟨_, rfl, ?_⟩
    have hk := O.ch r hr ch hc
    simp [wipeE, g_BARE, g_KINDS, chr_bare]
    by_cases h46 : ch = 46
    · simp [h46]
    · obtain ⟨k1, k2⟩ := hk.resolve_left h46
      simp [h46, dIn, dInB, in_kinds k1 k2]
  · simp [dAll, blsOf_map (fun _ => true)]
theorem c_fits_plot {n : Nat} {rows : List Str} {w : Nat} (O : PlotOk rows w) {mh : Mh} : callF (n + 2) 5 [plotD rows] mh = .ok (.bl true) mh := by
  refine eq_of_S (S_runF ?_)
  have := O.h1
  have := O.h2
  have hw := O.w2
  simp [b5, env0, g_SIDE, c_is_tuple_of (v := plotD rows) rfl, tupOf]
  refine ⟨by omega, ?_⟩
  refine S_fzAll rows .str (fun ch => .bl true) ?_ (by simp [noOwn, Cel.isOwn, Cel.own]) (by rw [LIM_eq]; omega) (fun r hr => ?_) ?_
  · simp [itemsD]
  · refine ⟨_, rfl, ?_⟩
    simp [wipeE, c_fits_row O hr]
  simp [dAll, blsOf_map (fun _ => true)]
  obtain ⟨r0, hr0⟩ : ∃ r0, rows[0]? = some r0 := ⟨_, List.getElem?_eq_getElem (by omega)⟩
  have l0 : r0.length = w := O.row r0 (List.mem_of_getElem? hr0)
  refine S_fzAll rows .str (fun ch => .bl true) ?_ (by simp [noOwn, Cel.isOwn, Cel.own]) (by rw [LIM_eq]; omega) (fun r hr => ?_) ?_
  · simp [itemsD]
  · refine ⟨_, rfl, ?_⟩
    have l1 : r.length = w := O.row r hr
    have ha : atI (rows.map D.str) 0 = some (.str r0) := atI_nat' (i := 0) (by rw [List.getElem?_map, hr0]; rfl)
    have wL : w ≤ 1000000 := by omega
    simp [wipeE, dIx, dLen, ha, l0, l1, LIM_eq, wL]
  · simp [dAll, blsOf_map (fun _ => true)]
theorem c_need_plot {n : Nat} {rows : List Str} {w : Nat} (O : PlotOk rows w) {mh : Mh} : callF (n + 3) 6 [plotD rows] mh = .ok .non mh := by
  refine eq_of_S (S_runF ?_)
  simp [b6, env0, c_fits_plot O]
theorem c_places_in {n : Nat} {rows : List Str} {w : Nat} (O : PlotOk rows w) {mh : Mh} : callF (n + 1) 8 [plotD rows] mh = .ok (.lst ((places rows.length w).map plD)) mh := by
  refine eq_of_S (S_runF ?_)
  have h1 := O.h1
  have h2 := O.h2
  have hw := O.w2
  obtain ⟨r0, hr0⟩ : ∃ r0, rows[0]? = some r0 := ⟨_, List.getElem?_eq_getElem (by omega)⟩
  have l0 : r0.length = w := O.row r0 (List.mem_of_getElem? hr0)
  have ha : atI (rows.map D.str) 0 = some (.str r0) := atI_nat' (i := 0) (by rw [List.getElem?_map, hr0]; rfl)
  have hlen : (places rows.length w).length ≤ 144 := by rw [len_places]; exact Nat.mul_le_mul h2 hw
  simp only [b8, env0, S_ret]
  have e : ((List.range rows.length).flatMap fun r => (List.range w).map fun c => plD (r, c)) = (places rows.length w).map plD := by
    unfold places; rw [List.map_flatMap]; simp [Function.comp_def]
  refine S_fz2Map (List.range rows.length) (fun (k : Nat) => D.int (k : Nat)) (fun _ => List.range w) (fun _ (k : Nat) => D.int (k : Nat)) (fun r c => plD (r, c)) ?_ (by simp [noOwn, Cel.isOwn, Cel.own]) (fun r hr => ⟨_, rfl, ?_, fun c hc => ⟨_, rfl, ?_⟩⟩) ?_ ?_
  · have wI : (rows.length : Int) ≤ 1000000 ∧ -4611686018427387904 ≤ (rows.length : Int) := by omega
    simp [dLen, dRng1, LIM_eq, rng_map, wI]
  · have wL : w ≤ 1000000 := by omega
    have wI : (w : Int) ≤ 1000000 ∧ -4611686018427387904 ≤ (w : Int) := by omega
    simp [wipeE, dIx, ha, dLen, l0, LIM_eq, dRng1, rng_map, wL, wI]
  · simp [wipeE, LIM_eq, plD]
  · rw [e, List.length_map, LIM_eq]; omega
  · rw [e]; exact ⟨rfl, rfl⟩
theorem c_trees_in {n : Nat} {rows : List Str} {w : Nat} (O : PlotOk rows w) {mh : Mh} : callF (n + 2) 9 [plotD rows] mh = .ok (.lst ((treesOf rows w).map plD)) mh := by
  refine eq_of_S (S_runF ?_)
  simp only [b9, env0, S_ret]
  have hlen : (places rows.length w).length ≤ 144 := by rw [len_places]; exact Nat.mul_le_mul O.h2 O.w2
  refine S_fzMap (places rows.length w) plD (fun p => !bare rows p) plD ?_ (by simp [noOwn, Cel.isOwn, Cel.own]) (by rw [LIM_eq]; omega) (fun p hp => ⟨_, rfl, ?_, fun _ => ?_⟩) ⟨rfl, rfl⟩
  · simp [c_places_in O, itemsD]
  · obtain ⟨h1, h2⟩ := mem_places.mp hp
    simp [wipeE, plD, ixPlot h1, ixRow O h1 h2, g_BARE, chr_bare, bare]
  · simp [wipeE, plD, LIM_eq]
theorem c_same : ∀ (k n : Nat) (d : D) (mh : Mh), sm k d = true → callF (n + k) 26 [d, d] mh = .ok (.bl true) mh
  | 0, n, d, mh, h => by cases h
  | k + 1, n, d, mh, h => by
    refine eq_of_S ?_
    rw [show callF (n + (k + 1)) 26 = runF N26.length (b26 (callF (n + k))) from rfl]
    refine S_runF ?_
    cases d with
    | non => simp [b26, env0, dIsN, D.isNon]
    | bl b => cases b <;> simp [b26, env0, dIsN, D.isNon]
    | int i => simp [b26, env0, dIsN, D.isNon, dInt]
    | str i => simp [b26, env0, dIsN, D.isNon, dStr]
    | tup ds =>
      simp only [sm, Bool.and_eq_true, decide_eq_true_eq] at h
      obtain ⟨hl, ha⟩ := h
      have hI : (ds.length : Int) ≤ 1000000 ∧ -4611686018427387904 ≤ (ds.length : Int) := by rw [LIM_eq] at hl; omega
      simp [b26, env0, dLen]
      refine S_fzAll (List.range ds.length) (fun (k : Nat) => D.int (k : Nat)) (fun _ => .bl true) ?_ (by simp [noOwn, Cel.isOwn, Cel.own]) (by rw [List.length_range]; exact hl) (fun i hi => ⟨_, rfl, ?_⟩) ?_
      · simp [dLen, dRng1, rng_map, LIM_eq, hI]
      · have hi' : i < ds.length := List.mem_range.mp hi
        have ix : ∀ m, dIx m (.tup ds) (.int (i : Nat)) = some ds[i] := fun m => atI_nat' (List.getElem?_eq_getElem hi')
        simp [wipeE, ix, c_same k n _ mh (List.all_eq_true.mp ha _ (List.getElem_mem hi'))]
      · simp [dAll, blsOf_map (fun _ => true)]
    | _ => cases h
theorem c_law_places {n : Nat} {rows : List Str} {w : Nat} (O : PlotOk rows w) {mh : Mh} : callF (n + 1) 28 [plotD rows] mh = .ok (.lst ((places rows.length w).map plD)) mh := by
  refine eq_of_S (S_runF ?_)
  have h1 := O.h1
  have h2 := O.h2
  have hw := O.w2
  obtain ⟨r0, hr0⟩ : ∃ r0, rows[0]? = some r0 := ⟨_, List.getElem?_eq_getElem (by omega)⟩
  have l0 : r0.length = w := O.row r0 (List.mem_of_getElem? hr0)
  have ha : ∀ m, dIx m (plotD rows) (.int 0) = some (.str r0) := fun m => atI_nat' (i := 0) (by rw [List.getElem?_map, hr0]; rfl)
  have wI : (rows.length : Int) ≤ 1000000 ∧ -4611686018427387904 ≤ (rows.length : Int) := by omega
  have wI2 : (w : Int) ≤ 1000000 ∧ -4611686018427387904 ≤ (w : Int) := by omega
  have wL : w ≤ 1000000 := by omega
  simp only [b28, env0, S_seqS, S_set]
  simp
  refine S_for ?_
  simp [dLen, dRng1, LIM_eq, wI, rng_map]
  refine S_forGo (fun i env m => m = mh ∧ ∃ c2 c3, env = [.sh (plotD rows), .sh (.lst ((places i w).map plD)), c2, .no] ∧ c3 = (0 : Nat)) _ 0 _ _ ?_ (fun i d e m hd hI => ?_) (fun e m hI => ?_)
  · exact ⟨rfl, .no, 0, by simp [places], rfl⟩
  · obtain ⟨rfl, c2, c3, rfl, _⟩ := hI
    have hd' : i < rows.length ∧ d = .int (i : Nat) := by
      rw [List.getElem?_map] at hd
      by_cases hi : i < rows.length
      · rw [List.getElem?_range hi] at hd
        cases hd
        exact ⟨hi, rfl⟩
      · rw [List.getElem?_eq_none (by simpa using hi)] at hd
        cases hd
    obtain ⟨hi, rfl⟩ := hd'
    refine ⟨_, rfl, ?_⟩
    simp
    refine S_fzAll (List.range w) (fun (k : Nat) => D.int (k : Nat)) (fun c => plD (i, c)) ?_ (by simp [noOwn, Cel.isOwn, Cel.own]) (by rw [List.length_range, LIM_eq]; omega) (fun c hc => ⟨_, rfl, ?_⟩) ?_
    · simp [ha, dLen, l0, dRng1, LIM_eq, wI2, wL, rng_map]
    · simp [wipeE, LIM_eq, plD]
    · have hlen : (places i w).length ≤ 144 := by rw [len_places]; exact Nat.mul_le_mul (show i ≤ 12 by omega) hw
      have hs : ((places i w).map plD).length + ((List.range w).map fun c => plD (i, c)).length ≤ LIM := by simp [LIM_eq]; omega
      simp only [dAdd, if_pos hs]
      simp [places, List.range_succ]
  · obtain ⟨rfl, c2, c3, rfl, _⟩ := hI
    simp
theorem roll_S {n : Nat} {k : Int} (k0 : 0 < k) (kl : k < 1073741824) {mh : Mh} (hc : Cup mh) {P : D → Mh → Prop} (h : ∀ (r : Int) m, Cup m → 0 ≤ r → r < k → P (.int r) m) : (callF (n + 1) 24 [.loc 0, .int k] mh).S P := by
  obtain ⟨a, b, rest, rfl⟩ := hc
  refine S_runF ?_
  have i0 : ∀ x y : Int, dIx (.lst [.int x, .int y] :: rest) (.loc 0) (.int 0) = some (.int x) := fun _ _ => rfl
  have i1 : ∀ x y : Int, dIx (.lst [.int x, .int y] :: rest) (.loc 0) (.int 1) = some (.int y) := fun _ _ => rfl
  simp only [b24, env0, S_seqS, S_ifS]
  by_cases ha : 0 < a
  · simp [i0, ha, dInt, dMod, k0]
    refine setLoc rfl ?_
    simp [i0, dFdiv, k0, kl]
    exact ⟨0, by decide, h _ _ ⟨a / k, b, rest, rfl⟩ (Int.emod_nonneg _ (by omega)) (Int.emod_lt_of_pos _ k0)⟩
  · simp [i0, ha]
    refine setLoc rfl ?_
    have sm1 : small64i 30911 = true := by decide
    simp [i1, dMul, sm1, dInt, dMod]
    refine ⟨1, by decide, ?_⟩
    have hb := Int.emod_nonneg (b * 30911 + 7927) (show (2147483069 : Int) ≠ 0 by decide)
    have hb2 := Int.emod_lt_of_pos (b * 30911 + 7927) (show (0 : Int) < 2147483069 by decide)
    generalize (b * 30911 + 7927) % 2147483069 = z at hb hb2
    have sm2 : small64i z = true := by simp [small64i]; omega
    simp [i1, dMul, sm2, dInt, dMod, dFdiv, k0]
    exact h _ _ ⟨a, z, rest, rfl⟩ (Int.emod_nonneg _ (by omega)) (Int.emod_lt_of_pos _ k0)
theorem some_S {n : Nat} {ds : List D} (h0 : ds ≠ []) (hl : ds.length ≤ 1000) {mh : Mh} (hc : Cup mh) {P : D → Mh → Prop} (h : ∀ d m, Cup m → d ∈ ds → P d m) : (callF (n + 2) 25 [.loc 0, .lst ds] mh).S P := by
  refine S_runF ?_
  have h1 : 0 < ds.length := by cases ds with | nil => exact absurd rfl h0 | cons _ _ => simp
  simp [b25, env0, dLen]
  refine roll_S (by omega) (by omega) hc fun r m hm r0 r1 => ?_
  obtain ⟨j, rfl⟩ := Int.eq_ofNat_of_zero_le r0
  have hj : j < ds.length := by omega
  have ix : ∀ m, dIx m (.lst ds) (.int (j : Nat)) = some ds[j] := fun m => atI_nat' (List.getElem?_eq_getElem hj)
  simp [ix]
  exact h _ _ hm (List.getElem_mem hj)
theorem someStr_S {n : Nat} {z : Str} (h0 : 0 < z.cps.size) (hl : z.cps.size ≤ 1000) {mh : Mh} (hc : Cup mh) {P : D → Mh → Prop} (h : ∀ c m, Cup m → c ∈ z.cps.toList → P (.str (chr1 c)) m) : (callF (n + 2) 25 [.loc 0, .str z] mh).S P := by
  refine S_runF ?_
  have hL : z.length ≤ LIM := by show z.cps.size ≤ LIM; rw [LIM_eq]; omega
  have hz : z.length = z.cps.size := rfl
  simp [b25, env0, dLen, hL]
  refine roll_S (by omega) (by omega) hc fun r m hm r0 r1 => ?_
  obtain ⟨j, rfl⟩ := Int.eq_ofNat_of_zero_le r0
  have hj : j < z.cps.toList.length := by rw [Array.length_toList]; omega
  have ix : ∀ m, dIx m (.str z) (.int (j : Nat)) = some (.str (chr1 z.cps.toList[j])) := fun m => by
    simp only [dIx, if_pos hL, atI_nat' (List.getElem?_eq_getElem hj)]
    rfl
  simp only [Int.ofNat_eq_natCast, S_lift, ix]
  exact h _ _ hm (List.getElem_mem hj)
theorem str_app (a b : Str) : (a ++ b).cps.toList = a.cps.toList ++ b.cps.toList := by
  have e : (a ++ b).cps = a.cps ++ b.cps := rfl
  rw [e, Array.toList_append]
theorem rep_dots : ∀ n : Nat, ∀ c ∈ (repStr "." n).cps.toList, c = 46 := by
  intro n
  have gen : ∀ (n : Nat) (acc : Array Nat), (∀ c ∈ acc.toList, c = 46) → ∀ c ∈ ((List.replicate n (".":Str).cps).foldl (· ++ ·) acc).toList, c = 46 := by
    intro n
    induction n with
    | zero => intro acc h; exact h
    | succ n ih =>
      intro acc h
      rw [List.replicate_succ, List.foldl_cons]
      refine ih _ fun c hc => ?_
      rw [Array.toList_append] at hc
      rcases List.mem_append.mp hc with hc | hc
      · exact h c hc
      · have e : (".":Str).cps.toList = [46] := by rfl
        rw [e] at hc
        simpa using hc
  exact gen n #[] (by simp)
theorem plot_S {n : Nat} {most : Int} {kinds : Str} (m1 : 1 ≤ most) (m12 : most ≤ 12) (k0 : 0 < kinds.cps.size) (k1 : kinds.cps.size ≤ 100) (kc : ∀ c ∈ kinds.cps.toList, 97 ≤ c ∧ c ≤ 104) {mh : Mh} (hc : Cup mh) {P : D → Mh → Prop}
    (h : ∀ (rows : List Str) (w : Nat) m, Cup m → PlotOk rows w → (rows.length : Int) ≤ most → (w : Int) ≤ most → (∀ r ∈ rows, RowK w kinds r) → P (plotD rows) m) : (callF (n + 3) 27 [.loc 0, .int most, .str kinds] mh).S P := by
  refine S_runF ?_
  simp only [b27, env0, S_seqS, S_asg]
  simp
  refine roll_S (by omega) (by omega) hc fun r1 m1 hm1 a0 a1 => ?_
  simp
  refine roll_S (by omega) (by omega) hm1 fun r2 m2 hm2 b0 b1 => ?_
  obtain ⟨hh, eh⟩ := Int.eq_ofNat_of_zero_le (show 0 ≤ 1 + r1 by omega)
  obtain ⟨w, ew⟩ := Int.eq_ofNat_of_zero_le (show 0 ≤ 1 + r2 by omega)
  simp [LIM_eq, eh, ew]
  have kL : kinds.length = kinds.cps.size := rfl
  have l1 : (".":Str).length = 1 := rfl
  have l2 : ("..":Str).length = 2 := rfl
  have l3 : (repStr "." kinds.cps.size).length = kinds.cps.size := by rw [repStr_length, l1, Nat.mul_one]
  have s1 : dAdd (.str kinds) (.str ".") = some (.str (kinds ++ ".")) := by simp only [dAdd, kL, l1, LIM_eq]; rw [if_pos (by omega)]
  have s2 : dAdd (.str kinds) (.str "..") = some (.str (kinds ++ "..")) := by simp only [dAdd, kL, l2, LIM_eq]; rw [if_pos (by omega)]
  have s3 : dLen (.str kinds) = some (.int kinds.cps.size) := by simp only [dLen, kL, LIM_eq]; rw [if_pos (by omega)]
  have s4 : dMul (.str ".") (.int (kinds.cps.size : Nat)) = some (.str (repStr "." kinds.cps.size)) := by
    simp only [dMul, l1, LIM_eq]
    rw [if_pos (by simp; omega)]
    rfl
  have s5 : dAdd (.str (repStr "." kinds.cps.size)) (.str kinds) = some (.str (repStr "." kinds.cps.size ++ kinds)) := by simp only [dAdd, kL, l3, LIM_eq]; rw [if_pos (by omega)]
  simp [s1, s2, s3, s4, s5]
  refine some_S (by simp) (by simp) hm2 fun sg m3 hm3 hsg => ?_
  have key : ∃ z : Str, sg = .str z ∧ 0 < z.cps.size ∧ z.cps.size ≤ 1000 ∧ ∀ c ∈ z.cps.toList, inK kinds c := by
    have e1 : (".":Str).cps.toList = [46] := by rfl
    have e2 : ("..":Str).cps.toList = [46, 46] := by rfl
    have app : ∀ a b : Str, (a ++ b).cps.size = a.cps.size + b.cps.size := fun a b => by rw [← Array.length_toList, str_app, List.length_append, Array.length_toList, Array.length_toList]
    have q1 : (".":Str).cps.size = 1 := rfl
    have q2 : ("..":Str).cps.size = 2 := rfl
    have q3 : (repStr "." kinds.cps.size).cps.size = kinds.cps.size := l3
    simp at hsg
    rcases hsg with rfl | rfl | rfl | rfl
    · exact ⟨_, rfl, k0, by omega, fun c hc => .inr hc⟩
    · refine ⟨_, rfl, by rw [app]; omega, by rw [app]; omega, fun c hc => ?_⟩
      rw [str_app, e1] at hc
      rcases List.mem_append.mp hc with hc | hc
      · exact .inr hc
      · exact .inl (by simpa using hc)
    · refine ⟨_, rfl, by rw [app]; omega, by rw [app]; omega, fun c hc => ?_⟩
      rw [str_app, e2] at hc
      rcases List.mem_append.mp hc with hc | hc
      · exact .inr hc
      · exact .inl (by simpa using hc)
    · refine ⟨_, rfl, by rw [app]; omega, by rw [app]; omega, fun c hc => ?_⟩
      rw [str_app] at hc
      rcases List.mem_append.mp hc with hc | hc
      · exact .inl (rep_dots _ c hc)
      · exact .inr hc
  obtain ⟨z, rfl, z0, z1, zc⟩ := key
  try simp
  have hI : (hh : Int) ≤ 1000000 ∧ -4611686018427387904 ≤ (hh : Int) := by omega
  have wI : (w : Int) ≤ 1000000 ∧ -4611686018427387904 ≤ (w : Int) := by omega
  refine S_fzComp ?_
  simp [dRng1, LIM_eq, hI, rng_map, noOwn, Cel.isOwn, Cel.own]
  refine ⟨by omega, S_compGo (fun i acc m => Cup m ∧ ∃ rows : List Str, acc = rows.map .str ∧ rows.length = i ∧ ∀ r ∈ rows, RowK w kinds r) _ 0 [] m3 ⟨hm3, [], rfl, rfl, by simp⟩ (fun i d acc m hd hI => ?_) (fun xs m hI => ?_)⟩
  · obtain ⟨hm, rows, rfl, hl, hs⟩ := hI
    obtain ⟨_, rfl⟩ := range_get hd
    refine ⟨_, rfl, ?_⟩
    simp [D.isStr]
    refine S_fzComp ?_
    simp [wipeE, dRng1, LIM_eq, wI, rng_map, noOwn, Cel.isOwn, Cel.own]
    refine ⟨by omega, S_compGo (fun j acc m => Cup m ∧ ∃ cs : List Nat, acc = cs.map (fun c => .str (chr1 c)) ∧ cs.length = j ∧ ∀ c ∈ cs, inK kinds c) _ 0 [] m ⟨hm, [], rfl, rfl, by simp⟩ (fun j d acc m hd hI => ?_) (fun xs m hI => ?_)⟩
    · obtain ⟨hm, cs, rfl, hl, hs⟩ := hI
      obtain ⟨_, rfl⟩ := range_get hd
      refine ⟨_, rfl, ?_⟩
      simp [wipeE]
      refine someStr_S z0 z1 hm fun c m hm hcz => ?_
      exact ⟨hm, cs ++ [c], by simp, by simp; omega, fun c' hc' => by
        rcases List.mem_append.mp hc' with hc' | hc'
        · exact hs c' hc'
        · rw [List.mem_singleton.mp hc']; exact zc c hcz⟩
    · obtain ⟨hm, cs, e, hl, hs'⟩ := hI
      simp at e hl
      subst e
      have hj : dJoin (.str "") (.lst (cs.map fun c => .str (chr1 c))) = some (.str (Txt.join "" (cs.map chr1))) := by
        have e0 : ((cs.map chr1).map (·.length)).sum = cs.length := by
          have : ∀ l : List Nat, ((l.map chr1).map (·.length)).sum = l.length := fun l => by
            induction l with
            | nil => rfl
            | cons c r ih => rw [List.map_cons, List.map_cons, List.sum_cons, ih]; simp [chr1, Str.length]; omega
          exact this cs
        have e1 : ("" : Str).length = 0 := rfl
        simp only [dJoin, strsOf_map chr1, Option.bind_some, e0, e1, Nat.mul_zero, Nat.add_zero]
        rw [if_pos (by rw [LIM_eq]; omega)]
      have hjl := join_chars cs
      simp [hj]
      refine ⟨hm, rows ++ [Txt.join "" (cs.map chr1)], by simp, by simp; omega, fun r hr => ?_⟩
      rcases List.mem_append.mp hr with hr | hr
      · exact hs r hr
      · rw [List.mem_singleton.mp hr]
        exact ⟨by rw [← Array.length_toList, hjl]; exact hl, by rw [hjl]; exact hs'⟩
  · obtain ⟨hm, rows, e, hl, hs⟩ := hI
    simp at e hl
    subst e
    simp [dTuple]
    exact h rows w m hm ⟨by omega, by omega, by omega, by omega, fun r hr => (hs r hr).1, fun r hr c hc => ((hs r hr).2 c hc).imp id fun hk => kc c hk⟩ (by omega) (by omega) hs
theorem cup_S {n : Nat} {ns : List Int} (hl : ns.length ≤ 63) {P : D → Mh → Prop} (h : ∀ m, Cup m → P (.loc 0) m) : (callF (n + 1) 23 [.rol (ns.map .int)] []).S P := by
  refine S_runF ?_
  simp only [b23, env0, S_seqS, S_set]
  obtain ⟨c, hc⟩ : ∃ c : Int, ∀ m, dIx m (.lst (ns.map .int ++ [.int 0])) (.int 0) = some (.int c) := by
    cases ns with
    | nil => exact ⟨0, fun _ => rfl⟩
    | cons x r => exact ⟨x, fun _ => atI_nat' (i := 0) rfl⟩
  have e1 : dList (.rol (ns.map .int)) = some (.lst (ns.map .int)) := rfl
  have e2 : dAdd (.lst (ns.map .int)) (.lst [.int 0]) = some (.lst (ns.map .int ++ [.int 0])) := by
    simp only [dAdd]
    rw [if_pos (by rw [LIM_eq]; simp; omega)]
  have e3 : dPow (.int 10) (.int 18) = some (.int (10 ^ 18)) := by rfl
  have s1 : small64i 293 = true := by decide
  simp [e1, e2, hc, dAbs, LIM_eq, e3, dMul, s1, dInt, dMod, dFdiv]
  generalize (if c < 0 then -c else c) = z
  split <;> exact h _ ⟨_, _, [], rfl⟩
end K77

set_option Elab.async false
set_option linter.all false
set_option maxRecDepth 100000
set_option maxHeartbeats 1000000
namespace K77
open PySem L2 Mi
theorem tupOf_pl {p : Nat × Nat} : tupOf 2 2 (plD p) = true := rfl
theorem c_fits_place {n : Nat} {rows : List Str} {w : Nat} (O : PlotOk rows w) {p : Nat × Nat} (h1 : p.1 < rows.length) (h2 : p.2 < w) {mh : Mh} : callF (n + 3) 7 [plotD rows, plD p] mh = .ok (.bl true) mh := by
  refine eq_of_S (S_runF ?_)
  obtain ⟨r0, ha, l0⟩ := row0 O
  have hw := O.w2
  have hh := O.h1
  have hw1 := O.w1
  simp [b7, env0, c_is_tuple_of (v := plD p) rfl, tupOf_pl, len_plot O, ha, len_row l0 hw, c_fits_whole (v := .int (p.1 : Nat)) rfl, c_fits_whole (v := .int (p.2 : Nat)) rfl, wholeIn]
  omega
theorem c_rising {n : Nat} {ps : List (Nat × Nat)} (hr : ps.Pairwise fun a b => ltP a b = true) (hl : ps.length ≤ 1000000) {mh : Mh} : callF (n + 1) 3 [.tup (ps.map plD)] mh = .ok (.bl true) mh := by
  refine eq_of_S (S_runF ?_)
  simp only [b3, env0, S_ret]
  simp
  have hs : dSl (.tup (ps.map plD)) (some 1) none = some (.tup (ps.map plD).tail) := by
    rw [← List.drop_one]; exact slT_from (k := 1)
  have hz : dZip [.tup (ps.map plD), .tup (ps.map plD).tail] = some ((ps.zip ps.tail).map fun x => .tup [plD x.1, plD x.2]) := by
    rw [show (ps.map plD).tail = ps.tail.map plD from by cases ps <;> rfl]
    simp only [dZip, itemsD, Option.bind_some, Option.map_some, zipD_map]
  refine fzAll (ps.zip ps.tail) (fun x => .tup [plD x.1, plD x.2]) (fun _ => .bl true) ?_ (by simp; omega) (fun x hx => ⟨_, rfl, ?_⟩) ?_
  · simp [hs, hz]
  · simp [wipeE, zip_next hr x (by rw [List.drop_one]; exact hx)]
  · simp [dAll, blsOf_map (fun _ => true)]
theorem c_over_in {n : Nat} {p : Nat × Nat} {s : Nat} (hs : s < 4) {mh : Mh} : callF (n + 1) 12 [plD p, .int (s : Nat)] mh = .ok (piD (overI p s)) mh := by
  refine eq_of_S (S_runF ?_)
  have ix : ∀ m, dIx m g_STEPS (.int (s : Nat)) = some (.ktup [.int (stR s), .int (stC s)]) := by
    intro m
    have : s = 0 ∨ s = 1 ∨ s = 2 ∨ s = 3 := by omega
    rcases this with rfl | rfl | rfl | rfl <;> rfl
  have k0 : ∀ m (a b : D), dIx m (.ktup [a, b]) (.int 0) = some a := fun _ _ _ => rfl
  have k1 : ∀ m (a b : D), dIx m (.ktup [a, b]) (.int 1) = some b := fun _ _ _ => rfl
  simp [b12, env0, ix, k0, k1, piD, overI, LIM_eq]
theorem c_fits_places {n : Nat} {rows : List Str} {w : Nat} (O : PlotOk rows w) {ps : List (Nat × Nat)} (hp : ∀ p ∈ ps, p.1 < rows.length ∧ p.2 < w) (hr : ps.Pairwise fun a b => ltP a b = true) (hl : ps.length ≤ 1000000) {mh : Mh} : callF (n + 4) 10 [plotD rows, .tup (ps.map plD)] mh = .ok (.bl true) mh := by
  refine eq_of_S (S_runF ?_)
  simp only [b10, env0, S_ret]
  simp
  refine fzAll ps plD (fun _ => .bl true) ?_ hl (fun p hq => ⟨_, rfl, ?_⟩) ?_
  · simp [itemsD]
  · simp [wipeE, c_fits_place O (hp p hq).1 (hp p hq).2]
  · simp [dAll, blsOf_map (fun _ => true), c_rising hr hl]
theorem c_need_places {n : Nat} {rows : List Str} {w : Nat} (O : PlotOk rows w) {ps : List (Nat × Nat)} (hp : ∀ p ∈ ps, p.1 < rows.length ∧ p.2 < w) (hr : ps.Pairwise fun a b => ltP a b = true) (hl : ps.length ≤ 1000000) {mh : Mh} : callF (n + 5) 11 [plotD rows, .tup (ps.map plD)] mh = .ok .non mh := by
  refine eq_of_S (S_runF ?_)
  simp [b11, env0, c_need_plot O, c_fits_places O hp hr hl]
theorem c_hedge_in {n : Nat} {p q : Nat × Nat} {mh : Mh} : callF (n + 1) 13 [plD p, plD q] mh = .ok (h3D (hgV p q)) mh := by
  refine eq_of_S (S_runF ?_)
  simp only [b13, env0, S_seqS]
  have ad : ∀ (x : Nat × Nat) (t : Int), dAdd (plD x) (.tup [.int t]) = some (.tup [.int (x.1 : Nat), .int (x.2 : Nat), .int t]) := fun _ _ => rfl
  simp [minL_pl, maxL_pl, ad, hgV, h3D]
  rcases ltP_tri p q with h | h | h
  · by_cases hq : p.1 = q.1 <;> simp [h, ltP_asymm h, hq, LIM_eq]
    omega
  · subst h
    simp [ltP_irrefl, LIM_eq]
  · by_cases hq : p.1 = q.1
    · simp [h, ltP_asymm h, hq, LIM_eq]
    · have hq' : ¬ (q.1 : Int) = p.1 := by omega
      simp [h, ltP_asymm h, hq, hq', LIM_eq]
theorem c_sides_in {n : Nat} {ps : List (Nat × Nat)} (hl : ps.length ≤ 1000) {v : D} (hv : v = .tup (ps.map plD)) {mh : Mh} : callF (n + 2) 14 [v] mh = .ok (.lst (ps.flatMap fun p => ((List.range 4).filter fun s => !inI (overI p s) ps).map fun s => h3D (p.1, p.2, s))) mh := by
  subst hv
  refine eq_of_S (S_runF ?_)
  simp only [b14, env0, S_ret]
  refine fz2MapF ps plD (fun _ => List.range 4) (fun _ (s : Nat) => .int (s : Nat)) (fun p s => !inI (overI p s) ps) (fun p s => h3D (p.1, p.2, s)) ?_ (fun p hp => ⟨_, rfl, ?_, fun s hs => ⟨_, rfl, ?_, fun _ => ?_⟩⟩) ?_ ⟨rfl, rfl⟩
  · simp [itemsD]
  · have st : dRng1 [.int 4] = some ((List.range 4).map fun (s : Nat) => D.int (s : Nat)) := dRng1_n (n := 4) (by omega)
    simp [wipeE, st]
  · have hs := List.mem_range.mp hs
    simp [wipeE, c_over_in hs]
  · have ad : ∀ (x : Nat × Nat) (t : Int), dAdd (plD x) (.tup [.int t]) = some (.tup [.int (x.1 : Nat), .int (x.2 : Nat), .int t]) := fun _ _ => rfl
    simp [wipeE, ad, h3D, LIM_eq]
  · have e : (ps.flatMap fun p => ((List.range 4).filter fun s => !inI (overI p s) ps).map fun s => h3D (p.1, p.2, s)).length = rimV ps := by
      rw [List.length_flatMap]
      simp only [List.length_map]
      rfl
    rw [e, LIM_eq]
    have := rim_le (ps := ps)
    omega
theorem c_rim_of {n : Nat} {rows : List Str} {w : Nat} (O : PlotOk rows w) {ps : List (Nat × Nat)} (hp : ∀ p ∈ ps, p.1 < rows.length ∧ p.2 < w) (hr : ps.Pairwise fun a b => ltP a b = true) (hl : ps.length ≤ 1000) {mh : Mh} : callF (n + 6) 17 [plotD rows, .tup (ps.map plD)] mh = .ok (.int (rimV ps : Nat)) mh := by
  refine eq_of_S (S_runF ?_)
  have e : (ps.flatMap fun p => ((List.range 4).filter fun s => !inI (overI p s) ps).map fun s => h3D (p.1, p.2, s)).length = rimV ps := by
    rw [List.length_flatMap]
    simp only [List.length_map]
    rfl
  have hle := rim_le (ps := ps)
  have dl : dLen (.lst (ps.flatMap fun p => ((List.range 4).filter fun s => !inI (overI p s) ps).map fun s => h3D (p.1, p.2, s))) = some (.int (rimV ps : Nat)) := by
    have h2 : rimV ps ≤ LIM := by rw [LIM_eq]; omega
    simp only [dLen, e, if_pos h2]
  simp [b17, env0, c_need_places O hp hr (by omega), c_sides_in hl rfl, dl]
end K77

set_option Elab.async false
set_option linter.all false
set_option maxRecDepth 100000
set_option maxHeartbeats 1000000
namespace K77
open PySem L2 Mi
theorem c_fits_pi {n : Nat} {rows : List Str} {w : Nat} (O : PlotOk rows w) {x : Int × Int} {mh : Mh} : callF (n + 3) 7 [plotD rows, piD x] mh = .ok (.bl (inR rows.length w x)) mh := by
  refine eq_of_S (S_runF ?_)
  obtain ⟨r0, ha, l0⟩ := row0 O
  have hw := O.w2
  have hh := O.h1
  have hw1 := O.w1
  have tp : tupOf 2 2 (piD x) = true := rfl
  have j0 : ∀ m, dIx m (piD x) (.int 0) = some (.int x.1) := fun _ => rfl
  have j1 : ∀ m, dIx m (piD x) (.int 1) = some (.int x.2) := fun _ => rfl
  have e1 : decide ((0 ≤ x.1 ∧ x.1 ≤ (rows.length : Int) - 1)) = decide (0 ≤ x.1 ∧ x.1 < rows.length) := decide_eq_decide.mpr (by omega)
  have e2 : decide ((0 ≤ x.2 ∧ x.2 ≤ (w : Int) - 1)) = decide (0 ≤ x.2 ∧ x.2 < w) := decide_eq_decide.mpr (by omega)
  have e3 : inR rows.length w x = (decide (0 ≤ x.1 ∧ x.1 ≤ (rows.length : Int) - 1) && decide (0 ≤ x.2 ∧ x.2 ≤ (w : Int) - 1)) := by
    rw [e1, e2]
    unfold inR
    rw [← Bool.decide_and]
  simp only [b7, env0, S_seqS]
  simp [c_is_tuple_of (v := piD x) rfl, tp, len_plot O, ha, len_row l0 hw, j0, j1, c_fits_whole (v := .int x.1) rfl, c_fits_whole (v := .int x.2) rfl]
  rw [e3]
  unfold wholeIn
  by_cases h1 : 0 ≤ x.1 ∧ x.1 ≤ (rows.length : Int) - 1 <;> by_cases h2 : 0 ≤ x.2 ∧ x.2 ≤ (w : Int) - 1 <;> simp [h1, h2] <;> omega
def sidesN (ps : List (Nat × Nat)) : List (Nat × Nat × Nat) := ps.flatMap fun p => ((List.range 4).filter fun s => !inI (overI p s) ps).map fun s => (p.1, p.2, s)
theorem sidesD_eq (ps : List (Nat × Nat)) : (ps.flatMap fun p => ((List.range 4).filter fun s => !inI (overI p s) ps).map fun s => h3D (p.1, p.2, s)) = (sidesN ps).map h3D := by
  unfold sidesN
  rw [List.map_flatMap]
  congr 1
  funext p
  rw [List.map_map]
  rfl
theorem sidesN_len (ps : List (Nat × Nat)) : (sidesN ps).length = rimV ps := by
  unfold sidesN
  rw [List.length_flatMap]
  simp only [List.length_map]
  rfl
theorem mem_sidesN {ps : List (Nat × Nat)} {x : Nat × Nat × Nat} (h : x ∈ sidesN ps) : x.2.2 < 4 ∧ (x.1, x.2.1) ∈ ps := by
  unfold sidesN at h
  obtain ⟨p, hp, h⟩ := List.mem_flatMap.mp h
  obtain ⟨s, hs, rfl⟩ := List.mem_map.mp h
  exact ⟨List.mem_range.mp (List.mem_filter.mp hs).1, hp⟩
theorem c_rim_sides {n : Nat} {rows : List Str} {w : Nat} (O : PlotOk rows w) {ps : List (Nat × Nat)} (hp : ∀ p ∈ ps, p.1 < rows.length ∧ p.2 < w) (hr : ps.Pairwise fun a b => ltP a b = true) (hl : ps.length ≤ 1000) {mh : Mh} : callF (n + 6) 18 [plotD rows, .tup (ps.map plD)] mh = .ok (.tup ((sidesN ps).map h3D)) mh := by
  refine eq_of_S (S_runF ?_)
  have q := c_sides_in (n := n + 3) hl (v := .tup (ps.map plD)) rfl (mh := mh)
  rw [sidesD_eq] at q
  simp [b18, env0, c_need_places O hp hr (by omega), q, dTuple]
def hrV (h w : Nat) (ps : List (Nat × Nat)) : List (Nat × Nat × Nat) := ((sidesN ps).filter fun x => inR h w (overI (x.1, x.2.1) x.2.2)).map fun x => hgV (x.1, x.2.1) (overN (x.1, x.2.1) x.2.2)
theorem alike_h3 (a b : Nat × Nat × Nat) : PySem.W.alike (h3D a).py (h3D b).py = true := rfl
theorem sortable_h3 {xs : List (Nat × Nat × Nat)} (h : xs.length ≤ 1000000) : sortable (xs.map h3D) = true := by
  unfold sortable
  have h1 : decide ((xs.map h3D).length ≤ LIM) = true := decide_eq_true (by rw [List.length_map]; exact h)
  have h2 : ((xs.map h3D).all fun d => d.plain && decide (d.dep ≤ 8)) = true := by
    rw [List.all_map]; exact List.all_eq_true.mpr fun p _ => rfl
  have h3 : ((xs.map h3D).all fun a => (xs.map h3D).all fun b => PySem.W.alike a.py b.py) = true := by
    rw [List.all_map]
    refine List.all_eq_true.mpr fun p _ => ?_
    simp only [Function.comp_apply, List.all_map]
    exact List.all_eq_true.mpr fun q _ => alike_h3 p q
  have h4 : ((xs.map h3D).all isTupI) = true := by
    rw [List.all_map]; exact List.all_eq_true.mpr fun p _ => rfl
  rw [h1, h2, h3, h4]
  rfl
def srt3 (xs : List (Nat × Nat × Nat)) : List D := (xs.map h3D).mergeSort leD
theorem dSorted_h3 {xs : List (Nat × Nat × Nat)} (h : xs.length ≤ 1000000) : dSorted (.lst (xs.map h3D)) = some (.lst (srt3 xs)) := by
  unfold dSorted
  rw [show itemsA (.lst (xs.map h3D)) = some (xs.map h3D) from rfl]
  simp only [Option.bind_some, if_pos (sortable_h3 h)]
  rfl
theorem sm_srt3 {xs : List (Nat × Nat × Nat)} (h : xs.length ≤ 1000000) {k : Nat} : sm (k + 3) (.tup (srt3 xs)) = true := by
  have hp : (srt3 xs).Perm (xs.map h3D) := List.mergeSort_perm _ _
  refine sm_tup (by rw [hp.length_eq, List.length_map]; exact h) fun d hd => ?_
  obtain ⟨x, _, rfl⟩ := List.mem_map.mp (hp.mem_iff.mp hd)
  rfl
theorem c_hedges_round {n : Nat} {rows : List Str} {w : Nat} (O : PlotOk rows w) {ps : List (Nat × Nat)} (hp : ∀ p ∈ ps, p.1 < rows.length ∧ p.2 < w) (hr : ps.Pairwise fun a b => ltP a b = true) (hl : ps.length ≤ 1000) {mh : Mh} : callF (n + 6) 19 [plotD rows, .tup (ps.map plD)] mh = .ok (.tup (srt3 (hrV rows.length w ps))) mh := by
  refine eq_of_S (S_runF ?_)
  have q := c_sides_in (n := n + 3) hl (v := .tup (ps.map plD)) rfl (mh := mh)
  rw [sidesD_eq] at q
  have hle := rim_le (ps := ps)
  have hsl := sidesN_len ps
  have hhl : (hrV rows.length w ps).length ≤ 1000000 := by
    unfold hrV
    rw [List.length_map]
    have := List.length_filter_le (fun x : Nat × Nat × Nat => inR rows.length w (overI (x.1, x.2.1) x.2.2)) (sidesN ps)
    omega
  simp only [b19, env0, S_seqS]
  simp [c_need_places O hp hr (show ps.length ≤ 1000000 by omega)]
  refine S_fzA ?_
  simp
  refine olAll (sidesN ps) h3D (fun x => .tup [plD (x.1, x.2.1), piD (overI (x.1, x.2.1) x.2.2)]) ?_ (by omega) (fun x hx => ⟨_, rfl, ?_⟩) ?_
  · simp [q, itemsD]
  · have s2 : dSl (h3D x) none (some 2) = some (plD (x.1, x.2.1)) := slT_to (k := 2)
    have i2 : ∀ m, dIx m (h3D x) (.int 2) = some (.int (x.2.2 : Nat)) := fun _ => rfl
    simp [wipeE, s2, i2, c_over_in (n := n + 4) (mem_sidesN hx).1, LIM_eq]
  simp [frzE]
  refine fzMap (sidesN ps) (fun x => .tup [plD (x.1, x.2.1), piD (overI (x.1, x.2.1) x.2.2)]) (fun x => inR rows.length w (overI (x.1, x.2.1) x.2.2)) (fun x => h3D (hgV (x.1, x.2.1) (overN (x.1, x.2.1) x.2.2))) ?_ (by omega) (fun x hx => ⟨_, rfl, ?_, fun hq => ?_⟩) ?_
  · simp [itemsD]
  · simp [wipeE, c_fits_pi (n := n + 2) O]
  · have eo := over_pl hq
    simp [wipeE]
    rw [eo, c_hedge_in (n := n + 4)]
    simp
  · have he : (List.map (fun x => h3D (hgV (x.1, x.2.1) (overN (x.1, x.2.1) x.2.2))) (List.filter (fun x => inR rows.length w (overI (x.1, x.2.1) x.2.2)) (sidesN ps))) = (hrV rows.length w ps).map h3D := by
      unfold hrV
      rw [List.map_map]
      rfl
    rw [he]
    simp [dSorted_h3 hhl, dTuple]
structure Ends (ps : List (Nat × Nat)) (r0 r1 c0 c1 : Nat) : Prop where
  rs : ∃ t u, (ps.map (·.1)).mergeSort ordN.le = r0 :: t ∧ (ps.map (·.1)).mergeSort ordN.le = u ++ [r1]
  cs : ∃ t u, (ps.map (·.2)).mergeSort ordN.le = c0 :: t ∧ (ps.map (·.2)).mergeSort ordN.le = u ++ [c1]
  rm : r0 ∈ ps.map (·.1) ∧ r1 ∈ ps.map (·.1)
  cm : c0 ∈ ps.map (·.2) ∧ c1 ∈ ps.map (·.2)
  all : ∀ p ∈ ps, (r0 ≤ p.1 ∧ p.1 ≤ r1) ∧ c0 ≤ p.2 ∧ p.2 ≤ c1
theorem ends_ex {ps : List (Nat × Nat)} (h : ps ≠ []) : ∃ r0 r1 c0 c1, Ends ps r0 r1 c0 c1 := by
  obtain ⟨r0, r1, t, u, a1, a2, a3, a4, a5⟩ := sort_ends (xs := ps.map (·.1)) (by simpa using h)
  obtain ⟨c0, c1, t', u', b1, b2, b3, b4, b5⟩ := sort_ends (xs := ps.map (·.2)) (by simpa using h)
  exact ⟨r0, r1, c0, c1, ⟨t, u, a1, a2⟩, ⟨t', u', b1, b2⟩, ⟨a3, a4⟩, ⟨b3, b4⟩, fun p hp => ⟨a5 _ (List.mem_map_of_mem hp), b5 _ (List.mem_map_of_mem hp)⟩⟩
theorem minA_n {xs : List Nat} {m : Nat} (hm : m ∈ xs) (h : ∀ x ∈ xs, m ≤ x) : dMinA [.lst (xs.map fun (n : Nat) => .int (n : Nat))] = some (.int (m : Nat)) := by
  have e : (xs.map fun (n : Nat) => D.int (n : Nat)) = (xs.map fun (n : Nat) => ((n : Nat) : Int)).map .int := by rw [List.map_map]; rfl
  rw [e, minA_lst (by intro e; rw [List.map_eq_nil_iff] at e; rw [e] at hm; cases hm)]
  obtain ⟨y, r, e2⟩ := List.exists_cons_of_ne_nil (show (xs.map fun (n : Nat) => ((n : Nat) : Int)) ≠ [] by intro e; rw [List.map_eq_nil_iff] at e; rw [e] at hm; cases hm)
  rw [e2]
  have hu := minI_uniq (x := y) (r := r) (m := (m : Int)) (by rw [← e2]; exact List.mem_map.mpr ⟨m, hm, rfl⟩) fun z hz => by
    rw [← e2] at hz
    obtain ⟨k, hk, rfl⟩ := List.mem_map.mp hz
    have := h k hk
    omega
  rw [← hu]
theorem maxA_n' {xs : List Nat} {m : Nat} (hm : m ∈ xs) (h : ∀ x ∈ xs, x ≤ m) : dMaxA [.lst (xs.map fun (n : Nat) => .int (n : Nat))] = some (.int (m : Nat)) := by
  have e : (xs.map fun (n : Nat) => D.int (n : Nat)) = (xs.map fun (n : Nat) => ((n : Nat) : Int)).map .int := by rw [List.map_map]; rfl
  rw [e, maxA_lst (by intro e; rw [List.map_eq_nil_iff] at e; rw [e] at hm; cases hm)]
  obtain ⟨y, r, e2⟩ := List.exists_cons_of_ne_nil (show (xs.map fun (n : Nat) => ((n : Nat) : Int)) ≠ [] by intro e; rw [List.map_eq_nil_iff] at e; rw [e] at hm; cases hm)
  rw [e2]
  have hu := maxI_uniq (x := y) (r := r) (m := (m : Int)) (by rw [← e2]; exact List.mem_map.mpr ⟨m, hm, rfl⟩) fun z hz => by
    rw [← e2] at hz
    obtain ⟨k, hk, rfl⟩ := List.mem_map.mp hz
    have := h k hk
    omega
  rw [← hu]
theorem c_box_in {n : Nat} {ps : List (Nat × Nat)} {r0 r1 c0 c1 : Nat} (E : Ends ps r0 r1 c0 c1) (hl : ps.length ≤ 1000) {mh : Mh} : callF (n + 1) 15 [.tup (ps.map plD)] mh = .ok (.tup [plD (r0, c0), plD (r1, c1)]) mh := by
  refine eq_of_S (S_runF ?_)
  simp only [b15, env0, S_seqS]
  simp
  refine fzAll ps plD (fun p => .int (p.1 : Nat)) ?_ (by omega) (fun p hp => ⟨_, rfl, ?_⟩) ?_
  · simp [itemsD]
  · simp [wipeE]
  refine fzAll ps plD (fun p => .int (p.2 : Nat)) ?_ (by omega) (fun p hp => ⟨_, rfl, ?_⟩) ?_
  · simp [itemsD]
  · simp [wipeE]
  have e1 : (ps.map fun p => D.int (p.1 : Nat)) = (ps.map (·.1)).map fun (n : Nat) => D.int (n : Nat) := by rw [List.map_map]; rfl
  have e2 : (ps.map fun p => D.int (p.2 : Nat)) = (ps.map (·.2)).map fun (n : Nat) => D.int (n : Nat) := by rw [List.map_map]; rfl
  have m1 := minA_n E.rm.1 fun x hx => by obtain ⟨p, hp, rfl⟩ := List.mem_map.mp hx; exact (E.all p hp).1.1
  have m2 := minA_n E.cm.1 fun x hx => by obtain ⟨p, hp, rfl⟩ := List.mem_map.mp hx; exact (E.all p hp).2.1
  have m3 := maxA_n' E.rm.2 fun x hx => by obtain ⟨p, hp, rfl⟩ := List.mem_map.mp hx; exact (E.all p hp).1.2
  have m4 := maxA_n' E.cm.2 fun x hx => by obtain ⟨p, hp, rfl⟩ := List.mem_map.mp hx; exact (E.all p hp).2.2
  rw [e1, e2]
  generalize (ps.map (·.1)).map (fun (n : Nat) => D.int (n : Nat)) = A at m1 m3 ⊢
  generalize (ps.map (·.2)).map (fun (n : Nat) => D.int (n : Nat)) = B at m2 m4 ⊢
  simp [m1, m2, m3, m4, LIM_eq, plD]
theorem dNe_nilT {ps : List (Nat × Nat)} : dNe (.tup (ps.map plD)) (.tup []) = some (.bl (!decide (ps = []))) := by
  obtain ⟨a, b⟩ := pls_fine2 ps
  have f2 : (D.tup []).fine = true := by simp [D.fine, D.plain, D.dep, plains, deps]
  simp only [dNe, b, f2, Bool.and_self, if_true]
  cases ps with
  | nil => simp [eqv, D.py, pys, PyData.eqv, PyData.eqvAll]
  | cons x r => simp [eqv, D.py, pys, PyData.eqv, PyData.eqvAll]
theorem dEq_nilT {ps : List (Nat × Nat)} : dEq (.tup (ps.map plD)) (.tup []) = some (.bl (decide (ps = []))) := by
  obtain ⟨a, b⟩ := pls_fine2 ps
  have f2 : (D.tup []).fine = true := by simp [D.fine, D.plain, D.dep, plains, deps]
  simp only [dEq, b, f2, Bool.and_self, if_true]
  cases ps with
  | nil => simp [eqv, D.py, pys, PyData.eqv, PyData.eqvAll]
  | cons x r => simp [eqv, D.py, pys, PyData.eqv, PyData.eqvAll]
theorem c_box_round0 {n : Nat} {rows : List Str} {w : Nat} (O : PlotOk rows w) {mh : Mh} : callF (n + 6) 20 [plotD rows, .tup []] mh = .ok .non mh := by
  refine eq_of_S (S_runF ?_)
  have q := c_need_places (n := n) O (ps := []) (fun p h => nomatch h) List.Pairwise.nil (by simp) (mh := mh)
  have d := dNe_nilT (ps := [])
  simp only [List.map_nil] at q d
  simp [b20, env0, q, d, LIM_eq]
theorem c_box_rim0 {n : Nat} {rows : List Str} {w : Nat} (O : PlotOk rows w) {mh : Mh} : callF (n + 6) 21 [plotD rows, .tup []] mh = .ok (.int 0) mh := by
  refine eq_of_S (S_runF ?_)
  have q := c_need_places (n := n) O (ps := []) (fun p h => nomatch h) List.Pairwise.nil (by simp) (mh := mh)
  have d := dEq_nilT (ps := [])
  simp only [List.map_nil] at q d
  simp [b21, env0, q, d, LIM_eq]
theorem c_box_round {n : Nat} {rows : List Str} {w : Nat} (O : PlotOk rows w) {ps : List (Nat × Nat)} (hp : ∀ p ∈ ps, p.1 < rows.length ∧ p.2 < w) (hr : ps.Pairwise fun a b => ltP a b = true) (hl : ps.length ≤ 1000) (hne : ps ≠ []) {r0 r1 c0 c1 : Nat} (E : Ends ps r0 r1 c0 c1) {mh : Mh} :
    callF (n + 6) 20 [plotD rows, .tup (ps.map plD)] mh = .ok (.tup [plD (r0, c0), plD (r1, c1)]) mh := by
  refine eq_of_S (S_runF ?_)
  simp [b20, env0, c_need_places O hp hr (show ps.length ≤ 1000000 by omega), dNe_nilT, hne, LIM_eq, c_box_in (n := n + 4) E hl]
theorem c_box_rim {n : Nat} {rows : List Str} {w : Nat} (O : PlotOk rows w) {ps : List (Nat × Nat)} (hp : ∀ p ∈ ps, p.1 < rows.length ∧ p.2 < w) (hr : ps.Pairwise fun a b => ltP a b = true) (hl : ps.length ≤ 1000) (hne : ps ≠ []) {r0 r1 c0 c1 : Nat} (E : Ends ps r0 r1 c0 c1) {mh : Mh} :
    callF (n + 6) 21 [plotD rows, .tup (ps.map plD)] mh = .ok (.int (2 * (r1 - r0 + 1 + (c1 - c0 + 1)) : Nat)) mh := by
  refine eq_of_S (S_runF ?_)
  have hR : r0 ≤ r1 ∧ c0 ≤ c1 := by
    obtain ⟨p, hq⟩ := List.exists_mem_of_ne_nil ps hne
    have := E.all p hq
    omega
  have h12 : r1 < 12 ∧ c1 < 12 := by
    have h2 := O.h2
    have h3 := O.w2
    obtain ⟨p, hq, e⟩ := List.mem_map.mp E.rm.2
    obtain ⟨p', hq', e'⟩ := List.mem_map.mp E.cm.2
    have := hp p hq
    have := hp p' hq'
    omega
  simp only [b21, env0, S_seqS]
  simp [c_need_places O hp hr (show ps.length ≤ 1000000 by omega), dEq_nilT, hne, LIM_eq, c_box_in (n := n + 4) E hl, plD]
  have sm2 : small64i 2 = true := by decide
  simp [dMul, sm2]
  omega
end K77

set_option Elab.async false
set_option linter.all false
set_option maxRecDepth 100000
set_option maxHeartbeats 1000000
namespace K77
open PySem L2 Mi
def LsI (v : D) (ps : List (Nat × Nat)) (mh : Mh) (i : Nat) (e : En) (m : Mh) : Prop :=
  m = mh ∧ ∃ c2 c3 c4, e = [.sh v, .sh (.lst ((((ps.take i).flatMap fun p => ((List.range 4).filter fun s => !inI (overI p s) ps).map fun s => (p.1, p.2, s))).map h3D)), c2, c3, c4, .no]
theorem take_succ_of' {α : Type} {xs : List α} {i : Nat} {x : α} (h : xs[i]? = some x) : xs.take (i + 1) = xs.take i ++ [x] := by
  rw [List.take_add_one, h]; rfl
theorem c_law_sides {n : Nat} {ps : List (Nat × Nat)} (hl : ps.length ≤ 1000) {v : D} (hi : itemsD v = some (ps.map plD)) (hv : ∀ x, dNotIn (piD x) v = some (.bl (!inI x ps))) {mh : Mh} : callF (n + 1) 30 [v] mh = .ok (.lst ((sidesN ps).map h3D)) mh := by
  refine eq_of_S (S_runF ?_)
  simp only [b30, env0, S_seqS]
  simp [LIM_eq]
  refine S_for ?_
  simp [hi]
  refine S_forGo (LsI v ps mh) _ 0 _ _ ?_ (fun i d e m hd hI => ?_) (fun e m hI => ?_)
  · exact ⟨rfl, .no, .no, .no, rfl⟩
  · obtain ⟨rfl, c2, c3, c4, rfl⟩ := hI
    rw [Nat.zero_add]
    rw [List.getElem?_map] at hd
    cases hp : ps[i]? with
    | none => rw [hp] at hd; cases hd
    | some p =>
    rw [hp] at hd
    cases hd
    refine ⟨_, rfl, ?_⟩
    have hA : ((ps.take (i + 1)).flatMap fun p => ((List.range 4).filter fun s => !inI (overI p s) ps).map fun s => (p.1, p.2, s)) = ((ps.take i).flatMap fun p => ((List.range 4).filter fun s => !inI (overI p s) ps).map fun s => (p.1, p.2, s)) ++ ((List.range 4).filter fun s => !inI (overI p s) ps).map fun s => (p.1, p.2, s) := by
      rw [take_succ_of' hp, List.flatMap_append, List.flatMap_singleton]
    have hlen : ((ps.take i).flatMap fun p => ((List.range 4).filter fun s => !inI (overI p s) ps).map fun s => (p.1, p.2, s)).length ≤ 4000 := by
      have key : ∀ qs : List (Nat × Nat), (qs.flatMap fun p => ((List.range 4).filter fun s => !inI (overI p s) ps).map fun s => (p.1, p.2, s)).length ≤ 4 * qs.length := fun qs => by
        induction qs with
        | nil => simp
        | cons q r ih =>
          rw [List.flatMap_cons, List.length_append, List.length_map, List.length_cons]
          have := List.length_filter_le (fun s => !inI (overI q s) ps) (List.range 4)
          simp only [List.length_range] at this
          omega
      have := key (ps.take i)
      rw [List.length_take] at this
      omega
    have hfin : LsI v ps m (i + 1) [.sh v, .sh (.lst ((((ps.take i).flatMap fun p => ((List.range 4).filter fun s => !inI (overI p s) ps).map fun s => (p.1, p.2, s)) ++ ((List.range 4).filter fun s => !inI (overI p s) ps).map fun s => (p.1, p.2, s)).map h3D)), .sh (.int (p.1 : Nat)), .sh (.int (p.2 : Nat)), .sh (.lst [piD (overI p 0), piD (overI p 1), piD (overI p 2), piD (overI p 3)]), .no] m := ⟨rfl, _, _, _, by rw [hA]⟩
    generalize ((ps.take i).flatMap fun p => ((List.range 4).filter fun s => !inI (overI p s) ps).map fun s => (p.1, p.2, s)) = A at hfin hlen ⊢
    have o0 : (D.tup [.int ((p.1 : Nat) - 1), .int (p.2 : Nat)]) = piD (overI p 0) := by simp [piD, overI, stR, stC]; omega
    have o1 : (D.tup [.int (p.1 : Nat), .int ((p.2 : Nat) + 1)]) = piD (overI p 1) := by simp [piD, overI, stR, stC]
    have o2 : (D.tup [.int ((p.1 : Nat) + 1), .int (p.2 : Nat)]) = piD (overI p 2) := by simp [piD, overI, stR, stC]
    have o3 : (D.tup [.int (p.1 : Nat), .int ((p.2 : Nat) - 1)]) = piD (overI p 3) := by simp [piD, overI, stR, stC]; omega
    simp [plD, LIM_eq, o0, o1, o2, o3]
    have st : dRng1 [.int 4] = some ((List.range 4).map fun (s : Nat) => D.int (s : Nat)) := dRng1_n (n := 4) (by omega)
    refine fzMap (List.range 4) (fun (s : Nat) => .int (s : Nat)) (fun s => !inI (overI p s) ps) (fun s => h3D (p.1, p.2, s)) ?_ (by simp) (fun s hs => ⟨_, rfl, ?_, fun _ => ?_⟩) ?_
    · simp [st]
    · have hs := List.mem_range.mp hs
      have ix : ∀ m, dIx m (.lst [piD (overI p 0), piD (overI p 1), piD (overI p 2), piD (overI p 3)]) (.int (s : Nat)) = some (piD (overI p s)) := fun m => by
        have : s = 0 ∨ s = 1 ∨ s = 2 ∨ s = 3 := by omega
        rcases this with rfl | rfl | rfl | rfl <;> rfl
      simp [wipeE, ix, hv]
    · simp [wipeE, LIM_eq, h3D]
    · have hB : (List.map (fun s => h3D (p.1, p.2, s)) (List.filter (fun s => !inI (overI p s) ps) (List.range 4))) = (((List.range 4).filter fun s => !inI (overI p s) ps).map fun s => (p.1, p.2, s)).map h3D := by
        rw [List.map_map]; rfl
      have hBl : (((List.range 4).filter fun s => !inI (overI p s) ps).map fun s => (p.1, p.2, s)).length ≤ 4 := by
        rw [List.length_map]
        exact Nat.le_trans (List.length_filter_le _ _) (by simp)
      rw [hB]
      generalize (((List.range 4).filter fun s => !inI (overI p s) ps).map fun s => (p.1, p.2, s)) = B at hfin hBl ⊢
      have ad : dAdd (.lst (A.map h3D)) (.lst (B.map h3D)) = some (.lst ((A ++ B).map h3D)) := by
        have h2 : (A.map h3D).length + (B.map h3D).length ≤ LIM := by rw [List.length_map, List.length_map, LIM_eq]; omega
        simp only [dAdd, if_pos h2, List.map_append]
      simp only [ad]
      generalize (A ++ B).map h3D = F at hfin ⊢
      simpa using hfin
  · obtain ⟨rfl, c2, c3, c4, rfl⟩ := hI
    rw [Nat.zero_add, List.length_map, List.take_length]
    simp
    rfl
end K77

set_option Elab.async false
set_option linter.all false
set_option maxRecDepth 100000
set_option maxHeartbeats 1000000
namespace K77
open PySem L2 Mi
def kS (rows : List Str) (p : Nat × Nat) : Str := chr1 (sgn rows p)
def ofK (rows : List Str) (T : List (Nat × Nat)) (k : Str) : List (Nat × Nat) := T.filter fun p => decide (kS rows p = k)
theorem ofK_add {rows : List Str} {T : List (Nat × Nat)} {p : Nat × Nat} {k : Str} : ofK rows (T ++ [p]) k = if kS rows p = k then ofK rows T k ++ [p] else ofK rows T k := by
  unfold ofK
  rw [List.filter_append]
  by_cases h : kS rows p = k <;> simp [h]
theorem ofK_len {rows : List Str} {T : List (Nat × Nat)} {k : Str} : (ofK rows T k).length ≤ T.length := List.length_filter_le _ _
def lotD (rows : List Str) (T : List (Nat × Nat)) (k : Str) : D := .tup ((ofK rows T k).map plD)
def KrI (rows : List Str) (T : List (Nat × Nat)) (mh : Mh) (i : Nat) (e : En) (m : Mh) : Prop :=
  m = mh ∧ ∃ (ks : List Str) (c2 c3 : Cel), e = [.sh (plotD rows), .od false (ks.map .str) (ks.map (lotD rows (T.take i))), c2, c3, .no] ∧ ks.Nodup ∧ (∀ k, k ∈ ks ↔ ∃ p ∈ T.take i, kS rows p = k) ∧ ks.length ≤ i
theorem c_kind_rims {n : Nat} {rows : List Str} {w : Nat} (O : PlotOk rows w) {mh : Mh} : ∃ S : List Str, S.Pairwise (fun a b => ordS.ltb a b = true) ∧ (∀ k, k ∈ S ↔ ∃ p ∈ treesOf rows w, kS rows p = k) ∧ S.length ≤ 144 ∧
    callF (n + 4) 22 [plotD rows] mh = .ok (.tup (S.map fun k => .tup [.str k, .int (rimV (ofK rows (treesOf rows w) k) : Nat)])) mh := by
  have hb : rows.length * w ≤ 144 := Nat.mul_le_mul O.h2 O.w2
  have hT : (treesOf rows w).length ≤ 144 := by
    have := List.length_filter_le (fun p => !bare rows p) (places rows.length w)
    rw [len_places] at this
    unfold treesOf
    omega
  suffices h : (callF (n + 4) 22 [plotD rows] mh).S fun d m => m = mh ∧ ∃ S : List Str, S.Pairwise (fun a b => ordS.ltb a b = true) ∧ (∀ k, k ∈ S ↔ ∃ p ∈ treesOf rows w, kS rows p = k) ∧ S.length ≤ 144 ∧ d = .tup (S.map fun k => .tup [.str k, .int (rimV (ofK rows (treesOf rows w) k) : Nat)]) by
    cases hq : callF (n + 4) 22 [plotD rows] mh with
    | ok d m =>
      rw [hq] at h
      obtain ⟨rfl, S, h1, h2, h3, rfl⟩ := h
      exact ⟨S, h1, h2, h3, rfl⟩
    | _ => rw [hq] at h; exact h.elim
  refine S_runF ?_
  simp only [b22, env0, S_seqS]
  simp [c_need_plot O]
  refine S_for ?_
  simp [c_trees_in (n := n + 1) O, itemsD]
  refine S_forGo (KrI rows (treesOf rows w) mh) _ 0 _ _ ?_ (fun i d e m hd hI => ?_) (fun e m hI => ?_)
  · exact ⟨rfl, [], .no, .no, rfl, List.nodup_nil, fun k => by simp, Nat.le_refl _⟩
  · obtain ⟨rfl, ks, c2, c3, rfl, hn, hk, hkl⟩ := hI
    rw [Nat.zero_add] at hk hkl ⊢
    rw [List.getElem?_map] at hd
    cases hp : (treesOf rows w)[i]? with
    | none => rw [hp] at hd; cases hd
    | some p =>
    rw [hp] at hd
    cases hd
    have hil := (List.getElem?_eq_some_iff.mp hp).1
    obtain ⟨p1, p2⟩ := mem_trees (List.mem_of_getElem? hp)
    have htk := take_succ_of' hp
    have hfin : ∀ ks' : List Str, ks'.Nodup → (∀ k, k ∈ ks' ↔ ∃ q ∈ (treesOf rows w).take i ++ [p], kS rows q = k) → ks'.length ≤ i + 1 → KrI rows (treesOf rows w) m (i + 1) [.sh (plotD rows), .od false (ks'.map .str) (ks'.map (lotD rows ((treesOf rows w).take i ++ [p]))), .sh (.int (p.1 : Nat)), .sh (.int (p.2 : Nat)), .no] m := fun ks' a1 a2 a3 => ⟨rfl, ks', _, _, by rw [htk], a1, by rw [htk]; exact a2, a3⟩
    have hTl : ((treesOf rows w).take i).length ≤ 144 := by rw [List.length_take]; omega
    generalize (treesOf rows w).take i = T at hfin hk hTl ⊢
    refine ⟨_, rfl, ?_⟩
    have hKey : chr1 (sgn rows (p.1, p.2)) = kS rows p := rfl
    simp [plD, dctV, ixPlot p1, ixRow O p1 p2, dFind_map keyEnc_str, hKey, LIM_eq]
    have hol := ofK_len (rows := rows) (T := T) (k := kS rows p)
    by_cases hin : kS rows p ∈ ks
    · have ad : dAdd (lotD rows T (kS rows p)) (.tup [.tup [.int (p.1 : Nat), .int (p.2 : Nat)]]) = some (lotD rows (T ++ [p]) (kS rows p)) := by
        unfold lotD
        have h2 : ((ofK rows T (kS rows p)).map plD).length + [D.tup [.int (p.1 : Nat), .int (p.2 : Nat)]].length ≤ LIM := by rw [List.length_map, LIM_eq]; simp; omega
        simp only [dAdd, if_pos h2]
        rw [ofK_add, if_pos rfl, List.map_append]
        rfl
      have hput := dPut_map keyEnc_str ks (lotD rows T) (kS rows p) (lotD rows (T ++ [p]) (kS rows p))
      rw [if_pos hin] at hput
      have hmap : (ks.map fun x => if x = kS rows p then lotD rows (T ++ [p]) (kS rows p) else lotD rows T x) = ks.map (lotD rows (T ++ [p])) := by
        refine List.map_congr_left fun x hx => ?_
        by_cases hx2 : x = kS rows p
        · rw [if_pos hx2, hx2]
        · rw [if_neg hx2]
          unfold lotD
          rw [ofK_add, if_neg fun e => hx2 e.symm]
      rw [hmap] at hput
      simp [hin, ad, hput]
      refine ⟨by omega, hfin ks hn (fun k => ?_) (by omega)⟩
      rw [hk]
      constructor
      · rintro ⟨q, hq, e⟩; exact ⟨q, List.mem_append_left _ hq, e⟩
      · rintro ⟨q, hq, e⟩
        rcases List.mem_append.mp hq with hq | hq
        · exact ⟨q, hq, e⟩
        · rw [List.mem_singleton.mp hq] at e
          obtain ⟨z, hz, e2⟩ := (hk (kS rows p)).mp hin
          exact ⟨z, hz, e2.trans e⟩
    · have hno : ofK rows T (kS rows p) = [] := by
        unfold ofK
        rw [List.filter_eq_nil_iff]
        intro q hq e
        exact hin ((hk _).mpr ⟨q, hq, of_decide_eq_true e⟩)
      have ad : dAdd (.tup []) (.tup [.tup [.int (p.1 : Nat), .int (p.2 : Nat)]]) = some (lotD rows (T ++ [p]) (kS rows p)) := by
        unfold lotD
        rw [ofK_add, if_pos rfl, hno]
        have h2 : ([] : List D).length + [D.tup [.int (p.1 : Nat), .int (p.2 : Nat)]].length ≤ LIM := by rw [LIM_eq]; simp
        simp only [dAdd, if_pos h2]
        rfl
      have hmap : ks.map (lotD rows T) = ks.map (lotD rows (T ++ [p])) := by
        refine List.map_congr_left fun x hx => ?_
        unfold lotD
        rw [ofK_add, if_neg (show ¬ kS rows p = x from fun e => hin (e ▸ hx))]
      have hput := dPut_new keyEnc_str (v := lotD rows (T ++ [p])) hin
      rw [← hmap] at hput
      have hfin2 := hfin (ks ++ [kS rows p]) (by
        rw [List.nodup_append]
        refine ⟨hn, by simp, fun a ha b hb e => ?_⟩
        rw [List.mem_singleton.mp hb] at e
        exact hin (e ▸ ha)) (fun k => by
        rw [List.mem_append, List.mem_singleton, hk]
        constructor
        · rintro (⟨q, hq, e⟩ | e)
          · exact ⟨q, List.mem_append_left _ hq, e⟩
          · exact ⟨p, by simp, e.symm⟩
        · rintro ⟨q, hq, e⟩
          rcases List.mem_append.mp hq with hq | hq
          · exact .inl ⟨q, hq, e⟩
          · rw [List.mem_singleton.mp hq] at e
            exact .inr e.symm) (by rw [List.length_append]; simp; omega)
      simp [hin, ad, hput]
      refine ⟨by omega, by simpa using hfin2⟩
  · obtain ⟨rfl, ks, c2, c3, rfl, hn, hk, hkl⟩ := hI
    simp at hk hkl
    simp
    have hks : ks.length ≤ 144 := by omega
    have hds : dSorted (.dct false (ks.map .str) (ks.map (lotD rows (treesOf rows w)))) = some (.lst ((ks.mergeSort ordS.le).map .str)) := by
      have := dSorted_str (xs := ks) (by omega)
      exact this
    have hpm := List.mergeSort_perm ks ordS.le
    refine fzAll (ks.mergeSort ordS.le) .str (fun k => .tup [.str k, .int (rimV (ofK rows (treesOf rows w) k) : Nat)]) ?_ (by rw [hpm.length_eq]; omega) (fun k hkk => ⟨_, rfl, ?_⟩) ?_
    · simp [hds, itemsD]
    · have hkm := hpm.mem_iff.mp hkk
      have hol := ofK_len (rows := rows) (T := treesOf rows w) (k := k)
      have q := c_sides_in (n := n + 1) (ps := ofK rows (treesOf rows w) k) (by omega) (v := lotD rows (treesOf rows w) k) rfl (mh := m)
      rw [sidesD_eq] at q
      have hle := rim_le (ps := ofK rows (treesOf rows w) k)
      have hsl := sidesN_len (ofK rows (treesOf rows w) k)
      have dl : dLen (.lst ((sidesN (ofK rows (treesOf rows w) k)).map h3D)) = some (.int (rimV (ofK rows (treesOf rows w) k) : Nat)) := by
        have h2 : rimV (ofK rows (treesOf rows w) k) ≤ LIM := by rw [LIM_eq]; omega
        simp only [dLen, List.length_map, hsl, if_pos h2]
      simp [wipeE, dctV, dFind_map keyEnc_str, hkm, q, dl, LIM_eq]
    · simp [dTuple]
      exact ⟨ks.mergeSort ordS.le, ordS.rise hn, fun k => by rw [hpm.mem_iff, hk], by rw [hpm.length_eq]; exact hks, rfl⟩
end K77

set_option Elab.async false
set_option linter.all false
set_option maxRecDepth 100000
set_option maxHeartbeats 1000000
namespace K77
open PySem L2 Mi
def risB (qs : List (Nat × Nat)) : Bool := (qs.zip qs.tail).all fun x => ltP x.1 x.2
theorem c_risingB {n : Nat} {ps : List (Nat × Nat)} (hl : ps.length ≤ 1000000) {mh : Mh} : callF (n + 1) 3 [.tup (ps.map plD)] mh = .ok (.bl (risB ps)) mh := by
  refine eq_of_S (S_runF ?_)
  simp only [b3, env0, S_ret]
  simp
  have hs : dSl (.tup (ps.map plD)) (some 1) none = some (.tup (ps.map plD).tail) := by
    rw [← List.drop_one]; exact slT_from (k := 1)
  have hz : dZip [.tup (ps.map plD), .tup (ps.map plD).tail] = some ((ps.zip ps.tail).map fun x => .tup [plD x.1, plD x.2]) := by
    rw [show (ps.map plD).tail = ps.tail.map plD from by cases ps <;> rfl]
    simp only [dZip, itemsD, Option.bind_some, Option.map_some, zipD_map]
  refine fzAll (ps.zip ps.tail) (fun x => .tup [plD x.1, plD x.2]) (fun x => .bl (ltP x.1 x.2)) ?_ (by simp; omega) (fun x hx => ⟨_, rfl, ?_⟩) ?_
  · simp [hs, hz]
  · simp [wipeE]
  · simp only [fOne, dAll_map]
    simp [risB]
theorem risB_iff : ∀ {qs : List (Nat × Nat)}, risB qs = true ↔ qs.Pairwise fun a b => ltP a b = true
  | [] => by simp [risB]
  | [a] => by simp [risB]
  | a :: b :: r => by
    have ih := @risB_iff (b :: r)
    have e : risB (a :: b :: r) = (ltP a b && risB (b :: r)) := by simp [risB]
    rw [e, Bool.and_eq_true, ih]
    constructor
    · rintro ⟨h1, h2⟩
      refine List.pairwise_cons.mpr ⟨fun c hc => ?_, h2⟩
      rcases List.mem_cons.mp hc with rfl | hc
      · exact h1
      · exact ltP_trans h1 ((List.pairwise_cons.mp h2).1 c hc)
    · intro h
      exact ⟨(List.pairwise_cons.mp h).1 b List.mem_cons_self, (List.pairwise_cons.mp h).2⟩
theorem uniq_iff {qs : List (Nat × Nat)} : risB qs = decide (qs = seP.uniq qs) := by
  rw [Bool.eq_iff_iff, risB_iff, decide_eq_true_iff]
  constructor
  · intro h
    exact (seP.uniq_of h fun _ => Iff.rfl).symm
  · intro h
    rw [h]
    exact ordP.rise (nodup_dd qs)
theorem c_fits_placesB {n : Nat} {rows : List Str} {w : Nat} (O : PlotOk rows w) {ps : List (Nat × Nat)} (hp : ∀ p ∈ ps, p.1 < rows.length ∧ p.2 < w) (hl : ps.length ≤ 1000000) {mh : Mh} : callF (n + 4) 10 [plotD rows, .tup (ps.map plD)] mh = .ok (.bl (risB ps)) mh := by
  refine eq_of_S (S_runF ?_)
  simp only [b10, env0, S_ret]
  simp
  refine fzAll ps plD (fun _ => .bl true) ?_ hl (fun p hq => ⟨_, rfl, ?_⟩) ?_
  · simp [itemsD]
  · simp [wipeE, c_fits_place O (hp p hq).1 (hp p hq).2]
  · simp [dAll, blsOf_map (fun _ => true), c_risingB hl]
structure BadOk (rows : List Str) (w : Nat) (d : D) : Prop where
  fit : ∀ n mh, callF (n + 3) 7 [plotD rows, d] mh = .ok (.bl false) mh
  out : dNotIn d (.lst ((places rows.length w).map plD)) = some (.bl true) ∨ (dNotIn d (.lst ((places rows.length w).map plD)) = some (.bl false) ∧ ∀ m, ∃ b, dIx m d (.int 0) = some (.bl b))
  pl : d.plain = true ∧ d.dep ≤ 5
theorem out_of {d : D} {h w : Nat} (hf : d.fine = true) (he : ∀ p : Nat × Nat, eqv (plD p) d = false) : dNotIn d (.lst ((places h w).map plD)) = some (.bl true) := by
  have e : hasD d ((places h w).map plD) = false := by
    unfold hasD
    rw [List.any_map, List.any_eq_false]
    intro p _
    show ¬ eqv (plD p) d = true
    rw [he p]
    simp
  simp [dNotIn, dInB, hf, (pls_fine2 (places h w)).1, e]
theorem bad_int {rows : List Str} {w : Nat} : BadOk rows w (.int 0) where
  fit n mh := by
    refine eq_of_S ?_
    rw [show callF (n + 3) 7 = runF N7.length (b7 (callF (n + 2))) from rfl]
    refine S_runF ?_
    simp [b7, env0, c_is_tuple_of (v := .int 0) rfl, tupOf]
  out := .inl (out_of rfl fun p => rfl)
  pl := ⟨rfl, by decide⟩
theorem bad_non {rows : List Str} {w : Nat} : BadOk rows w .non where
  fit n mh := by
    refine eq_of_S ?_
    rw [show callF (n + 3) 7 = runF N7.length (b7 (callF (n + 2))) from rfl]
    refine S_runF ?_
    simp [b7, env0, c_is_tuple_of (v := .non) rfl, tupOf]
  out := .inl (out_of rfl fun p => rfl)
  pl := ⟨rfl, by decide⟩
theorem bad_one {rows : List Str} {w : Nat} : BadOk rows w (.tup [.int 0]) where
  fit n mh := by
    refine eq_of_S ?_
    rw [show callF (n + 3) 7 = runF N7.length (b7 (callF (n + 2))) from rfl]
    refine S_runF ?_
    simp [b7, env0, c_is_tuple_of (v := .tup [.int 0]) rfl, tupOf]
  out := .inl (out_of rfl fun p => by
    show (PyData.eqv (.int (p.1 : Nat)) (.int 0) && false) = false
    exact Bool.and_false _)
  pl := ⟨rfl, by decide⟩
theorem bad_three {rows : List Str} {w : Nat} : BadOk rows w (.tup [.int 0, .int 0, .int 0]) where
  fit n mh := by
    refine eq_of_S ?_
    rw [show callF (n + 3) 7 = runF N7.length (b7 (callF (n + 2))) from rfl]
    refine S_runF ?_
    simp [b7, env0, c_is_tuple_of (v := .tup [.int 0, .int 0, .int 0]) rfl, tupOf]
  out := .inl (out_of rfl fun p => by
    show (PyData.eqv (.int (p.1 : Nat)) (.int 0) && (PyData.eqv (.int (p.2 : Nat)) (.int 0) && false)) = false
    rw [Bool.and_false, Bool.and_false])
  pl := ⟨rfl, by decide⟩
theorem bad_lst {rows : List Str} {w : Nat} : BadOk rows w (.lst [.int 0, .int 0]) where
  fit n mh := by
    refine eq_of_S ?_
    rw [show callF (n + 3) 7 = runF N7.length (b7 (callF (n + 2))) from rfl]
    refine S_runF ?_
    simp [b7, env0, c_is_tuple_of (v := .lst [.int 0, .int 0]) rfl, tupOf]
  out := .inl (out_of rfl fun p => rfl)
  pl := ⟨rfl, by decide⟩
theorem bad_pi {rows : List Str} {w : Nat} (O : PlotOk rows w) {x : Int × Int} (hx : inR rows.length w x = false) : BadOk rows w (piD x) where
  fit n mh := by rw [c_fits_pi O, hx]
  out := .inl (by
    rw [dNotIn_pi]
    have : inI x (places rows.length w) = false := by
      cases hc : inI x (places rows.length w) with
      | false => rfl
      | true =>
        obtain ⟨p, hp, e1, e2⟩ := inI_iff.mp hc
        have := mem_places.mp hp
        unfold inR at hx
        have hx := of_decide_eq_false hx
        omega
    rw [this]
    rfl)
  pl := ⟨rfl, by show 1 ≤ 5; decide⟩
theorem bad_bool {rows : List Str} {w : Nat} (O : PlotOk rows w) : BadOk rows w (.tup [.bl false, .int 0]) where
  fit n mh := by
    refine eq_of_S ?_
    rw [show callF (n + 3) 7 = runF N7.length (b7 (callF (n + 2))) from rfl]
    refine S_runF ?_
    simp [b7, env0, c_is_tuple_of (v := .tup [.bl false, .int 0]) rfl, tupOf, LIM_eq, len_plot O, c_fits_whole (v := .bl false) rfl, wholeIn]
  out := .inr (by
    refine ⟨?_, fun m => ⟨false, rfl⟩⟩
    have hp : (0, 0) ∈ places rows.length w := mem_places.mpr ⟨O.h1, O.w1⟩
    have e : hasD (.tup [.bl false, .int 0]) ((places rows.length w).map plD) = true := by
      unfold hasD
      rw [List.any_map, List.any_eq_true]
      exact ⟨(0, 0), hp, rfl⟩
    simp [dNotIn, dInB, show (D.tup [.bl false, .int 0]).fine = true from rfl, (pls_fine2 (places rows.length w)).1, e])
  pl := ⟨rfl, by decide⟩
inductive NearV (rows : List Str) (w : Nat) : D → Prop
  | tup (qs : List (Nat × Nat)) : (∀ q ∈ qs, q.1 < rows.length ∧ q.2 < w) → qs.length < 64 → NearV rows w (.tup (qs.map plD))
  | no (v : D) : leaf v = true → dIsi "tuple" v = some (.bl false) → v.isDct = false → NearV rows w v
  | bad (ds : List D) : ds ≠ [] → ds.length ≤ 2 → (∀ d ∈ ds, BadOk rows w d) → NearV rows w (.tup ds)
theorem bad_places {n : Nat} {rows : List Str} {w : Nat} {ds : List D} (h0 : ds ≠ []) (hl : ds.length ≤ 2) (hb : ∀ d ∈ ds, BadOk rows w d) {mh : Mh} : callF (n + 4) 10 [plotD rows, .tup ds] mh = .ok (.bl false) mh := by
  refine eq_of_S (S_runF ?_)
  simp only [b10, env0, S_ret]
  simp
  refine fzAll ds id (fun _ => .bl false) ?_ (by omega) (fun d hd => ⟨_, rfl, ?_⟩) ?_
  · simp [itemsD]
  · simp [wipeE, (hb d hd).fit]
  · simp only [fOne, dAll_map]
    have : (ds.all fun _ => false) = false := by
      cases ds with
      | nil => exact absurd rfl h0
      | cons _ _ => rfl
    simp [this]
theorem dEq_pls {a b : List (Nat × Nat)} : dEq (.lst (a.map plD)) (.lst (b.map plD)) = some (.bl (decide (a = b))) := by
  have f1 := (pls_fine2 a).1
  have f2 := (pls_fine2 b).1
  have key : ∀ a b : List (Nat × Nat), PyData.eqvAll (pys (a.map plD)) (pys (b.map plD)) = decide (a = b) := fun a => by
    induction a with
    | nil => intro b; cases b <;> simp [pys, PyData.eqvAll]
    | cons x r ih =>
      intro b
      cases b with
      | nil => simp [pys, PyData.eqvAll]
      | cons y s =>
        have e1 : PyData.eqv (plD x).py (plD y).py = decide (x = y) := eqv_pl
        simp only [List.map_cons, pys, PyData.eqvAll, e1, ih s]
        rw [Bool.eq_iff_iff]
        simp
  have e : eqv (.lst (a.map plD)) (.lst (b.map plD)) = decide (a = b) := by
    show PyData.eqv (D.lst (a.map plD)).py (D.lst (b.map plD)).py = _
    simp only [D.py, PyData.eqv]
    exact key a b
  simp [dEq, f1, f2, e]
theorem c_is_places_of {n : Nat} {rows : List Str} {w : Nat} (O : PlotOk rows w) {v : D} {b : Bool} {mh : Mh} (h : callF (n + 4) 10 [plotD rows, v] mh = .ok (.bl b) mh) : callF (n + 5) 16 [plotD rows, v] mh = .ok (.bl b) mh := by
  refine eq_of_S (S_runF ?_)
  simp [b16, env0, c_need_plot O, h]
theorem c_fits_no {n : Nat} {rows : List Str} {v : D} (h2 : dIsi "tuple" v = some (.bl false)) (h3 : v.isDct = false) {mh : Mh} : callF (n + 4) 10 [plotD rows, v] mh = .ok (.bl false) mh := by
  refine eq_of_S (S_runF ?_)
  simp [b10, env0, h2, h3]
theorem bad_fine {ds : List D} (h : ∀ d ∈ ds, d.plain = true ∧ d.dep ≤ 5) : plains ds = true ∧ deps ds ≤ 63 := by
  induction ds with
  | nil => exact ⟨rfl, by decide⟩
  | cons d r ih =>
    obtain ⟨a, b⟩ := ih fun x hx => h x (List.mem_cons_of_mem _ hx)
    obtain ⟨a1, b1⟩ := h d List.mem_cons_self
    exact ⟨by simp [plains, a, a1], by simp [deps]; omega⟩
end K77

set_option Elab.async false
set_option linter.all false
set_option maxRecDepth 100000
set_option maxHeartbeats 1000000
namespace K77
open PySem L2 Mi
theorem few_S {n : Nat} {xs : List (Nat × Nat)} (hl : xs.length ≤ 1000000) {k : Int} (k0 : 0 < k) (kl : k < 1073741824) {v : D} (hv : itemsD v = some (xs.map plD)) {mh : Mh} (hc : Cup mh) {P : D → Mh → Prop} (h : ∀ (qs : List (Nat × Nat)) m, Cup m → qs.Sublist xs → P (.tup (qs.map plD)) m) : (callF (n + 2) 29 [.loc 0, v, .int k] mh).S P := by
  refine S_runF ?_
  simp only [b29, env0, S_ret]
  simp
  refine fzSub xs plD ?_ hl (fun x hx m hm => ⟨_, rfl, ?_⟩) (fun qs m hm hs => ?_)
  · simp [hv]
    exact hc
  · simp [wipeE]
    refine roll_S k0 kl hm fun r m1 hm1 r0 r1 => ?_
    simp
    exact ⟨hm1, fun _ => hm1⟩
  · simp [dTuple]
    exact h qs m hm hs
theorem inI_places {h w : Nat} {x : Int × Int} : inI x (places h w) = inR h w x := by
  rw [Bool.eq_iff_iff, inI_iff]
  unfold inR
  rw [decide_eq_true_iff]
  constructor
  · rintro ⟨p, hp, e1, e2⟩
    have := mem_places.mp hp
    omega
  · intro hx
    exact ⟨(x.1.toNat, x.2.toNat), mem_places.mpr (by simp only; omega), by simp only; omega, by simp only; omega⟩
theorem dIn_piL {x : Int × Int} {h w : Nat} : dIn (piD x) (.lst ((places h w).map plD)) = some (.bl (inR h w x)) := by
  rw [← inI_places]
  simp [dIn, dInB, fine_pi, (pls_fine2 (places h w)).1, hasD_pi]
def hrT (h w : Nat) (xs : List (Nat × Nat × Nat)) : List (Nat × Nat × Nat) := (xs.filter fun x => inR h w (overI (x.1, x.2.1) x.2.2)).map fun x => hgV (x.1, x.2.1) (overN (x.1, x.2.1) x.2.2)
theorem hrT_add {h w : Nat} {xs : List (Nat × Nat × Nat)} {x : Nat × Nat × Nat} : hrT h w (xs ++ [x]) = if inR h w (overI (x.1, x.2.1) x.2.2) = true then hrT h w xs ++ [hgV (x.1, x.2.1) (overN (x.1, x.2.1) x.2.2)] else hrT h w xs := by
  unfold hrT
  rw [List.filter_append]
  by_cases hq : inR h w (overI (x.1, x.2.1) x.2.2) = true <;> simp [hq]
theorem hrT_len {h w : Nat} {xs : List (Nat × Nat × Nat)} : (hrT h w xs).length ≤ xs.length := by
  unfold hrT
  rw [List.length_map]
  exact List.length_filter_le _ _
def HgE (rows : List Str) (w : Nat) (ps : List (Nat × Nat)) (hs : List (Nat × Nat × Nat)) (c10 c11 c12 c13 c19 : Cel) : En := [.sh (.loc 0), .sh (plotD rows), .sh (.lst ((places rows.length w).map plD)), .sh (.tup (ps.map plD)), .sh (.lst ((sidesN ps).map h3D)), .ol (hs.map h3D), .no, .no, .no, .no, c10, c11, c12, c13, .no, .no, .no, .no, .no, c19, .no, .no]
def HgI (rows : List Str) (w : Nat) (ps : List (Nat × Nat)) (mh : Mh) (i : Nat) (e : En) (m : Mh) : Prop :=
  m = mh ∧ ∃ c10 c11 c12 c13 c19, e = HgE rows w ps (hrT rows.length w ((sidesN ps).take i)) c10 c11 c12 c13 c19 ∧ Cel.own c10 = false ∧ Cel.own c11 = false
theorem atI_last1 {α : Type} (xs : List α) (v : α) : atI (xs ++ [v]) (-1) = some v := by
  have : ixN (xs ++ [v]).length (-1) = some xs.length := by
    unfold ixN
    simp
    omega
  unfold atI
  rw [this]
  simp
def BxE (rows : List Str) (w : Nat) (ps : List (Nat × Nat)) (c5 c10 c11 c12 c13 bx rm c16 c19 c20 c21 : Cel) : En := [.sh (.loc 0), .sh (plotD rows), .sh (.lst ((places rows.length w).map plD)), .sh (.tup (ps.map plD)), .sh (.lst ((sidesN ps).map h3D)), c5, .no, .no, .no, .no, c10, c11, c12, c13, bx, rm, c16, .no, .no, c19, c20, c21]
def BxI (N : Nat) (rows : List Str) (w : Nat) (ps : List (Nat × Nat)) (mh : Mh) (c5 c10 c11 c12 c13 c19 : Cel) (e : En) (m : Mh) : Prop :=
  m = mh ∧ ∃ bx rm c16 c20 c21, e = BxE rows w ps c5 c10 c11 c12 c13 (.sh bx) (.sh rm) c16 c19 c20 c21 ∧ callF N 20 [plotD rows, .tup (ps.map plD)] mh = .ok bx mh ∧ callF N 21 [plotD rows, .tup (ps.map plD)] mh = .ok rm mh ∧ sm 4 (.tup [bx, rm]) = true
def rmD (rows : List Str) (w : Nat) (k : Str) : D := .tup [.str k, .int (rimV (ofK rows (places rows.length w) k) : Nat)]
def rmT (rows : List Str) (w : Nat) (cs : List Nat) : List Str := (cs.filter fun c => !decide (ofK rows (places rows.length w) (chr1 c) = [])).map chr1
theorem rmT_add {rows : List Str} {w : Nat} {cs : List Nat} {c : Nat} : rmT rows w (cs ++ [c]) = if ofK rows (places rows.length w) (chr1 c) = [] then rmT rows w cs else rmT rows w cs ++ [chr1 c] := by
  unfold rmT
  rw [List.filter_append]
  by_cases hq : ofK rows (places rows.length w) (chr1 c) = [] <;> simp [hq]
def RmE (rows : List Str) (w : Nat) (ps : List (Nat × Nat)) (v5 : D) (ks : List Str) (c7 c10 c11 c12 c13 : Cel) (bx rm : D) (c16 c17 c19 c20 c21 : Cel) : En := [.sh (.loc 0), .sh (plotD rows), .sh (.lst ((places rows.length w).map plD)), .sh (.tup (ps.map plD)), .sh (.lst ((sidesN ps).map h3D)), .sh v5, .sh (.lst (ks.map (rmD rows w))), c7, .no, .no, c10, c11, c12, c13, .sh bx, .sh rm, c16, c17, .no, c19, c20, c21]
def RmI (rows : List Str) (w : Nat) (ps : List (Nat × Nat)) (mh : Mh) (v5 : D) (c10 c11 c12 c13 : Cel) (bx rm : D) (c16 c19 c20 c21 : Cel) (i : Nat) (e : En) (m : Mh) : Prop :=
  m = mh ∧ ∃ c7 c17, e = RmE rows w ps v5 (rmT rows w ([97, 98, 99].take i)) c7 c10 c11 c12 c13 bx rm c16 c17 c19 c20 c21 ∧ Cel.own c17 = false
theorem chr1_inj {a b : Nat} (h : chr1 a = chr1 b) : a = b := by
  unfold chr1 at h
  injection h with h
  have := congrArg Array.toList h
  simpa using this
theorem sgn_abc {rows : List Str} {w : Nat} {ks : Str} (hRK : ∀ r ∈ rows, RowK w ks r) {p : Nat × Nat} (h1 : p.1 < rows.length) (h2 : p.2 < w) : inK ks (sgn rows p) := by
  have hr := hRK _ (List.getElem_mem h1)
  have hl : p.2 < (rows[p.1]).cps.toList.length := by rw [Array.length_toList, hr.1]; exact h2
  rw [sgn_of (List.getElem?_eq_getElem h1) (List.getElem?_eq_getElem hl)]
  exact hr.2 _ (List.getElem_mem hl)
theorem kinds_eq {rows : List Str} {w : Nat} (hRK : ∀ r ∈ rows, RowK w "abc" r) {S : List Str} (s1 : S.Pairwise fun a b => ordS.ltb a b = true) (s2 : ∀ k, k ∈ S ↔ ∃ p ∈ treesOf rows w, kS rows p = k) :
    (S.map fun k => D.tup [.str k, .int (rimV (ofK rows (treesOf rows w) k) : Nat)]) = (rmT rows w [97, 98, 99]).map (rmD rows w) := by
  have habc : ∀ c, c ∈ ("abc" : Str).cps.toList ↔ c ∈ [97, 98, 99] := fun c => by rw [show ("abc" : Str).cps.toList = [97, 98, 99] from rfl]
  have bare_iff : ∀ p ∈ places rows.length w, ((!bare rows p) = true ↔ sgn rows p ∈ [97, 98, 99]) := fun p hp => by
    obtain ⟨p1, p2⟩ := mem_places.mp hp
    have := sgn_abc hRK p1 p2
    unfold bare
    simp only [Bool.not_eq_true', decide_eq_false_iff_not]
    rcases this with h | h
    · rw [h]; simp
    · have := (habc _).mp h
      constructor
      · intro _; exact this
      · intro h2 e; rw [e] at h2; simp at h2
  have hcut : ∀ c ∈ [97, 98, 99], ofK rows (treesOf rows w) (chr1 c) = ofK rows (places rows.length w) (chr1 c) := fun c hc => by
    unfold ofK treesOf
    rw [List.filter_filter]
    refine List.filter_congr fun p hp => ?_
    by_cases e : kS rows p = chr1 c
    · have es : sgn rows p = c := chr1_inj e
      rw [(bare_iff p hp).mpr (by rw [es]; exact hc)]
      simp [e]
    · simp [e]
  have hL : (rmT rows w [97, 98, 99]).Pairwise fun a b => ordS.ltb a b = true := by
    unfold rmT
    rw [List.pairwise_map]
    refine List.Pairwise.filter _ ?_
    decide +kernel
  have hm : ∀ k, k ∈ S ↔ k ∈ rmT rows w [97, 98, 99] := fun k => by
    rw [s2]
    unfold rmT
    rw [List.mem_map]
    constructor
    · rintro ⟨p, hp, rfl⟩
      have hq := List.mem_filter.mp hp
      refine ⟨sgn rows p, List.mem_filter.mpr ⟨(bare_iff p hq.1).mp hq.2, ?_⟩, rfl⟩
      have : p ∈ ofK rows (places rows.length w) (chr1 (sgn rows p)) := List.mem_filter.mpr ⟨hq.1, decide_eq_true rfl⟩
      simp only [Bool.not_eq_true', decide_eq_false_iff_not]
      intro e
      rw [e] at this
      cases this
    · rintro ⟨c, hc, rfl⟩
      obtain ⟨hc1, hc2⟩ := List.mem_filter.mp hc
      simp only [Bool.not_eq_true', decide_eq_false_iff_not] at hc2
      obtain ⟨p, hp⟩ := List.exists_mem_of_ne_nil _ hc2
      obtain ⟨hp1, hp2⟩ := List.mem_filter.mp hp
      have e := of_decide_eq_true hp2
      exact ⟨p, List.mem_filter.mpr ⟨hp1, (bare_iff p hp1).mpr (by rw [chr1_inj e]; exact hc1)⟩, e⟩
  have nd : S.Nodup := s1.imp fun {a b} hab e => by subst e; rw [ordS.irrefl] at hab; cases hab
  have hSL : S = rmT rows w [97, 98, 99] := (ordS.sorted_of nd s1 fun _ => Iff.rfl).symm.trans (ordS.sorted_of nd hL hm)
  rw [hSL]
  refine List.map_congr_left fun k hk => ?_
  obtain ⟨c, hc, rfl⟩ := List.mem_map.mp hk
  rw [hcut c (List.mem_filter.mp hc).1]
  rfl
theorem sl_last {ps : List (Nat × Nat)} : dSl (.tup (ps.map plD)) (some (-1)) none = some (.tup ((ps.drop (ps.length - 1)).map plD)) := by
  show some (D.tup (cutD (ps.map plD) (some (-1)) none)) = _
  have e : HT.sIx (ps.map plD).length 0 (some (-1)) = ps.length - 1 := by
    show (if (-1 : Int) < 0 then ((-1 : Int) + ((ps.map plD).length : Int)).toNat else min (-1 : Int).toNat (ps.map plD).length) = _
    rw [if_pos (by decide), List.length_map]
    omega
  unfold cutD
  rw [e, HT.sIx_none, List.take_of_length_le (by rw [List.length_drop]; omega), List.map_drop]
def VlE (rows : List Str) (w : Nat) (ps : List (Nat × Nat)) (v5 v6 : D) (c7 : Cel) (v8 : D) (c9 c10 c11 c12 c13 : Cel) (bx rm : D) (c16 c17 c18 c19 c20 c21 : Cel) : En := [.sh (.loc 0), .sh (plotD rows), .sh (.lst ((places rows.length w).map plD)), .sh (.tup (ps.map plD)), .sh (.lst ((sidesN ps).map h3D)), .sh v5, .sh v6, c7, .sh v8, c9, c10, c11, c12, c13, .sh bx, .sh rm, c16, c17, c18, c19, c20, c21]
def VlI (rows : List Str) (w : Nat) (ps : List (Nat × Nat)) (mh : Mh) (v5 v6 : D) (c7 : Cel) (v8 : D) (c10 c11 c12 c13 : Cel) (bx rm : D) (c16 c19 c20 c21 : Cel) (i : Nat) (e : En) (m : Mh) : Prop :=
  m = mh ∧ ∃ c9 c17 c18, e = VlE rows w ps v5 v6 c7 v8 c9 c10 c11 c12 c13 bx rm c16 c17 c18 c19 c20 c21 ∧ Cel.own c17 = false
theorem right_S {n : Nat} {mh : Mh} (hc : Cup mh) : (callF (n + 8) 31 [.loc 0] mh).S fun d m => Cup m ∧ d = .bl true := by
  refine S_runF ?_
  simp only [b31, env0]
  refine seqK fun K hK => ?_
  simp
  refine plot_S (by decide) (by decide) (by decide +kernel) (by decide +kernel) (by decide +kernel) hc fun rows w m1 hm1 O r6 w6 hRK => ?_
  refine hK _ _ ?_
  clear hK K
  have r6 : rows.length ≤ 6 := by omega
  have w6 : w ≤ 6 := by omega
  have hb : rows.length * w ≤ 36 := Nat.mul_le_mul r6 w6
  have lp := len_places rows.length w
  refine seqK fun K hK => ?_
  simp [c_law_places O]
  refine hK _ _ ?_
  clear hK K
  refine seqK fun K hK => ?_
  simp [LIM_eq]
  refine some_S (by simp) (by simp) hm1 fun d m2 hm2 hd => ?_
  obtain ⟨k, rfl, k0, k4⟩ : ∃ k : Int, d = .int k ∧ 0 < k ∧ k ≤ 4 := by
    simp at hd
    rcases hd with rfl | rfl | rfl
    · exact ⟨1, rfl, by decide, by decide⟩
    · exact ⟨2, rfl, by decide, by decide⟩
    · exact ⟨4, rfl, by decide, by decide⟩
  clear hd
  refine few_S (n := n + 5) (xs := places rows.length w) (by omega) k0 (by omega) rfl hm2 fun ps m4 hm4 hps => ?_
  refine hK _ _ ?_
  clear hK K k0 k4
  clear k
  have hr : ps.Pairwise fun a b => ltP a b = true := sublist_rise (places_rise _ _) hps
  have hp : ∀ p ∈ ps, p.1 < rows.length ∧ p.2 < w := fun p hq => mem_places.mp (hps.subset hq)
  have hpl := pls_len hp hr
  have hrl := rim_le (ps := ps)
  have hsl := sidesN_len ps
  refine seqK fun K hK => ?_
  have qS := c_law_sides (n := n + 6) (ps := ps) (by omega) (v := .tup (ps.map plD)) rfl (fun x => dNotIn_piT) (mh := m4)
  simp [qS]
  refine hK _ _ ?_
  clear hK K
  refine seqK fun K hK => ?_
  have q1 := c_rim_of (n := n + 1) O hp hr (by omega) (mh := m4)
  have q2 := c_rim_sides (n := n + 1) O hp hr (by omega) (mh := m4)
  have dl : dLen (.lst ((sidesN ps).map h3D)) = some (.int (rimV ps : Nat)) := by
    have h2 : rimV ps ≤ LIM := by rw [LIM_eq]; omega
    simp only [dLen, List.length_map, hsl, if_pos h2]
  have hsm : sm 4 (.tup [.int (rimV ps : Nat), .tup ((sidesN ps).map h3D)]) = true := by
    refine sm_tup (by rw [LIM_eq]; simp) fun d hd => ?_
    simp only [List.mem_cons, List.not_mem_nil, or_false] at hd
    rcases hd with rfl | rfl
    · rfl
    · refine sm_tup (by rw [LIM_eq, List.length_map]; omega) fun d hd => ?_
      obtain ⟨x, _, rfl⟩ := List.mem_map.mp hd
      rfl
  have qs := c_same 4 (n + 3) _ m4 hsm
  clear hsm
  generalize hT : D.tup [.int (rimV ps : Nat), .tup ((sidesN ps).map h3D)] = T at qs
  simp [q1, q2, dl, dTuple, LIM_eq]
  rw [hT]
  simp [qs]
  refine hK _ _ ?_
  clear hK K hT qs T
  refine seqK fun K hK => ?_
  simp [LIM_eq]
  refine hK _ _ ?_
  clear hK K
  refine seqK fun K hK => ?_
  refine S_for ?_
  simp [itemsD]
  refine S_forGo (HgI rows w ps m4) _ 0 _ _ ?_ (fun i d e m hd hI => ?_) (fun e m hI => ?_)
  · exact ⟨rfl, .no, .no, .no, .no, .no, rfl, rfl, rfl⟩
  · obtain ⟨rfl, c10, c11, c12, c13, c19, rfl, o10, o11⟩ := hI
    rw [Nat.zero_add]
    rw [List.getElem?_map] at hd
    cases hx : (sidesN ps)[i]? with
    | none => rw [hx] at hd; cases hd
    | some x =>
    rw [hx] at hd
    cases hd
    obtain ⟨x4, xp⟩ := mem_sidesN (List.mem_of_getElem? hx)
    have htk := take_succ_of' hx
    have hln := hrT_len (h := rows.length) (w := w) (xs := (sidesN ps).take i)
    rw [List.length_take] at hln
    have hadd := hrT_add (h := rows.length) (w := w) (xs := (sidesN ps).take i) (x := x)
    rw [← htk] at hadd
    have hfin : ∀ c12 c13 c19, HgI rows w ps m (i + 1) (HgE rows w ps (if inR rows.length w (overI (x.1, x.2.1) x.2.2) = true then hrT rows.length w ((sidesN ps).take i) ++ [hgV (x.1, x.2.1) (overN (x.1, x.2.1) x.2.2)] else hrT rows.length w ((sidesN ps).take i)) (.sh (.int (x.1 : Nat))) (.sh (.int (x.2.1 : Nat))) c12 c13 c19) m := fun c12 c13 c19 => ⟨rfl, _, _, c12, c13, c19, by rw [hadd], rfl, rfl⟩
    generalize hrT rows.length w ((sidesN ps).take i) = A at hfin hln ⊢
    clear hadd
    obtain ⟨a, b, s⟩ := x
    simp only at hfin x4 xp
    refine ⟨_, rfl, ?_⟩
    have o0 : (D.tup [.int ((a : Nat) - 1), .int (b : Nat)]) = piD (overI (a, b) 0) := by simp [piD, overI, stR, stC]; omega
    have o1 : (D.tup [.int (a : Nat), .int ((b : Nat) + 1)]) = piD (overI (a, b) 1) := by simp [piD, overI, stR, stC]
    have o2 : (D.tup [.int ((a : Nat) + 1), .int (b : Nat)]) = piD (overI (a, b) 2) := by simp [piD, overI, stR, stC]
    have o3 : (D.tup [.int (a : Nat), .int ((b : Nat) - 1)]) = piD (overI (a, b) 3) := by simp [piD, overI, stR, stC]; omega
    have ix : ∀ m, dIx m (.lst [piD (overI (a, b) 0), piD (overI (a, b) 1), piD (overI (a, b) 2), piD (overI (a, b) 3)]) (.int (s : Nat)) = some (piD (overI (a, b) s)) := fun m => by
      have : s = 0 ∨ s = 1 ∨ s = 2 ∨ s = 3 := by omega
      rcases this with rfl | rfl | rfl | rfl <;> rfl
    simp only [HgE, h3D] at hfin ⊢
    simp [LIM_eq, o0, o1, o2, o3, ix, dIn_piL]
    by_cases hin : inR rows.length w (overI (a, b) s) = true
    · have eo := over_pl hin
      simp [hin, eo, plD_eq, minL_pl]
      simp only [hin, if_true] at hfin
      have hfin := hfin (.sh (.int (s : Nat))) (.sh (plD (overN (a, b) s))) (.sh (plD (if ltP (overN (a, b) s) (a, b) = true then overN (a, b) s else (a, b))))
      rw [List.map_append, List.map_singleton] at hfin
      by_cases e1 : (overN (a, b) s).1 = a
      · have hh : h3D (hgV (a, b) (overN (a, b) s)) = .tup [.int ((if ltP (overN (a, b) s) (a, b) = true then overN (a, b) s else (a, b)).1 : Nat), .int ((if ltP (overN (a, b) s) (a, b) = true then overN (a, b) s else (a, b)).2 : Nat), .int 1] := by
          simp [hgV, h3D, e1]
        rw [if_pos (by omega)]
        rw [hh] at hfin
        exact ⟨by omega, hfin⟩
      · have hh : h3D (hgV (a, b) (overN (a, b) s)) = .tup [.int ((if ltP (overN (a, b) s) (a, b) = true then overN (a, b) s else (a, b)).1 : Nat), .int ((if ltP (overN (a, b) s) (a, b) = true then overN (a, b) s else (a, b)).2 : Nat), .int 2] := by
          simp [hgV, h3D, Ne.symm e1]
        rw [if_neg (by omega)]
        rw [hh] at hfin
        exact ⟨by omega, hfin⟩
    · simp [hin]
      simp [hin] at hfin
      exact hfin _ _ _
  obtain ⟨rfl, c10, c11, c12, c13, c19, rfl, o10, o11⟩ := hI
  rw [Nat.zero_add, List.length_map, List.take_length]
  simp only [HgE]
  refine hK _ _ ?_
  clear hK K
  have hrv : hrT rows.length w (sidesN ps) = hrV rows.length w ps := rfl
  rw [hrv]
  clear hrv
  have hrvl : (hrV rows.length w ps).length ≤ 144 := by
    have := hrT_len (h := rows.length) (w := w) (xs := sidesN ps)
    have e : (hrT rows.length w (sidesN ps)).length = (hrV rows.length w ps).length := rfl
    omega
  refine seqK fun K hK => ?_
  have q3 := c_hedges_round (n := n + 1) O hp hr (by omega) (mh := m)
  have ds := dSorted_h3 (xs := hrV rows.length w ps) (by omega)
  have hsm : sm 4 (.tup (srt3 (hrV rows.length w ps))) = true := sm_srt3 (by omega)
  have qs := c_same 4 (n + 3) _ m hsm
  clear hsm
  generalize hT : D.tup (srt3 (hrV rows.length w ps)) = T at qs
  simp [q3, ds, dTuple]
  rw [hT]
  simp [qs]
  refine hK _ _ ?_
  clear hK K hT qs T ds q3
  refine seqK fun K hK => ?_
  simp [LIM_eq]
  refine hK _ _ ?_
  clear hK K
  refine seqK fun K hK => ?_
  have toK : ∀ e m', BxI (n + 7) rows w ps m (.sh (.lst ((hrV rows.length w ps).map h3D))) c10 c11 c12 c13 c19 e m' → K e m' := fun e m' hB => by
    refine hK e m' ?_
    clear hK K
    obtain ⟨rfl, bx, rm, c16, c20, c21, rfl, b1, b2, bsm⟩ := hB
    generalize D.lst ((hrV rows.length w ps).map h3D) = v5
    clear hrvl
    simp only [BxE]
    refine seqK fun K hK => ?_
    have qs := c_same 4 (n + 3) _ m' bsm
    clear bsm
    generalize hT : D.tup [bx, rm] = T at qs
    simp [b1, b2, LIM_eq]
    rw [hT]
    simp [qs]
    refine hK _ _ ?_
    clear hK K hT qs T b1 b2
    refine seqK fun K hK => ?_
    simp [LIM_eq]
    refine hK _ _ ?_
    clear hK K
    refine seqK fun K hK => ?_
    refine S_for ?_
    have hab : signsD "abc" = [97, 98, 99].map fun (c : Nat) => D.str (chr1 c) := by rfl
    simp only [S_iter, S_C, itemsD, hab, S_lift]
    refine forMap [97, 98, 99] (fun (c : Nat) => D.str (chr1 c)) (RmI rows w ps m' v5 c10 c11 c12 c13 bx rm c16 c19 c20 c21) ?_ (fun i ch e m hx hI => ?_) (fun e m hI => ?_)
    · exact ⟨rfl, .no, .no, rfl, rfl⟩
    · obtain ⟨rfl, c7, c17, rfl, o17⟩ := hI
      refine ⟨_, rfl, ?_⟩
      have htk := take_succ_of' hx
      have hi3 : i < 3 := (List.getElem?_eq_some_iff.mp hx).1
      have hfin : ∀ c7 c17, Cel.own c17 = false → RmI rows w ps m v5 c10 c11 c12 c13 bx rm c16 c19 c20 c21 (i + 1) (RmE rows w ps v5 (rmT rows w ([97, 98, 99].take i ++ [ch])) c7 c10 c11 c12 c13 bx rm c16 c17 c19 c20 c21) m := fun c7 c17 o => ⟨rfl, c7, c17, by rw [htk], o⟩
      have hTl : (rmT rows w ([97, 98, 99].take i)).length ≤ 3 := by
        unfold rmT
        rw [List.length_map]
        refine Nat.le_trans (List.length_filter_le _ _) ?_
        rw [List.length_take]
        simp
        omega
      have hadd := rmT_add (rows := rows) (w := w) (cs := [97, 98, 99].take i) (c := ch)
      rw [hadd] at hfin
      generalize rmT rows w ([97, 98, 99].take i) = A at hfin hTl ⊢
      simp only [RmE] at hfin ⊢
      simp
      refine S_fzA ?_
      simp
      refine olMap (places rows.length w) plD (fun p => decide (kS rows p = chr1 ch)) plD ?_ (by omega) (fun p hq => ⟨_, rfl, ?_, fun _ => ?_⟩) ?_ (by simp [noOwn, Cel.isOwn, o10, o11])
      · simp [itemsD]
      · obtain ⟨p1, p2⟩ := mem_places.mp hq
        have hKey : chr1 (sgn rows (p.1, p.2)) = kS rows p := rfl
        simp [wipeE, plD, ixPlot p1, ixRow O p1 p2, hKey]
      · simp [wipeE, LIM_eq]
        rfl
      simp [frzE]
      have hof : List.filter (fun p => decide (kS rows p = chr1 ch)) (places rows.length w) = ofK rows (places rows.length w) (chr1 ch) := rfl
      rw [hof]
      have hol := ofK_len (rows := rows) (T := places rows.length w) (k := chr1 ch)
      have qk := c_law_sides (n := n + 6) (ps := ofK rows (places rows.length w) (chr1 ch)) (by omega) (v := .lst ((ofK rows (places rows.length w) (chr1 ch)).map plD)) rfl (fun x => dNotIn_pi) (mh := m)
      have lk := sidesN_len (ofK rows (places rows.length w) (chr1 ch))
      have rk := rim_le (ps := ofK rows (places rows.length w) (chr1 ch))
      have dlk : dLen (.lst ((sidesN (ofK rows (places rows.length w) (chr1 ch))).map h3D)) = some (.int (rimV (ofK rows (places rows.length w) (chr1 ch)) : Nat)) := by
        have h2 : rimV (ofK rows (places rows.length w) (chr1 ch)) ≤ LIM := by rw [LIM_eq]; omega
        simp only [dLen, List.length_map, lk, if_pos h2]
      by_cases hempty : ofK rows (places rows.length w) (chr1 ch) = []
      · have ad : dAdd (.lst (A.map (rmD rows w))) (.lst []) = some (.lst (A.map (rmD rows w))) := by
          have h2 : (A.map (rmD rows w)).length + ([] : List D).length ≤ LIM := by rw [List.length_map, LIM_eq]; simp; omega
          simp only [dAdd, if_pos h2, List.append_nil]
        rw [if_pos hempty] at hfin
        simp only [dNe_nil_pl, decide_eq_true hempty]
        simp [ad]
        exact hfin _ _ rfl
      · have ad : dAdd (.lst (A.map (rmD rows w))) (.lst [rmD rows w (chr1 ch)]) = some (.lst ((A ++ [chr1 ch]).map (rmD rows w))) := by
          have h2 : (A.map (rmD rows w)).length + [rmD rows w (chr1 ch)].length ≤ LIM := by rw [List.length_map, LIM_eq]; simp; omega
          simp only [dAdd, if_pos h2, List.map_append, List.map_singleton]
        rw [if_neg hempty] at hfin
        have hrm : rmD rows w (chr1 ch) = .tup [.str (chr1 ch), .int (rimV (ofK rows (places rows.length w) (chr1 ch)) : Nat)] := rfl
        rw [hrm] at ad
        simp only [dNe_nil_pl, decide_eq_false hempty]
        simp [qk, dlk, LIM_eq]
        simp only [ad]
        exact hfin _ _ rfl
    obtain ⟨rfl, c7, c17, rfl, o17⟩ := hI
    rw [show [97, 98, 99].take [97, 98, 99].length = [97, 98, 99] from rfl]
    simp only [RmE]
    refine hK _ _ ?_
    clear hK K
    obtain ⟨S, s1, s2, s3, qk⟩ := c_kind_rims (n := n + 3) O (mh := m)
    rw [kinds_eq hRK s1 s2] at qk
    have hrl3 : (rmT rows w [97, 98, 99]).length ≤ 3 := by
      unfold rmT
      rw [List.length_map]
      exact Nat.le_trans (List.length_filter_le _ _) (by simp)
    clear s1 s2 s3
    clear S
    refine seqK fun K hK => ?_
    have hsm : sm 4 (.tup ((rmT rows w [97, 98, 99]).map (rmD rows w))) = true := by
      refine sm_tup (by rw [List.length_map, LIM_eq]; omega) fun d hd => ?_
      obtain ⟨k, _, rfl⟩ := List.mem_map.mp hd
      rfl
    have qs := c_same 4 (n + 3) _ m hsm
    clear hsm
    generalize hT : D.tup ((rmT rows w [97, 98, 99]).map (rmD rows w)) = T at qs qk
    simp [qk, dTuple, LIM_eq]
    rw [hT]
    simp [qs]
    refine hK _ _ ?_
    clear hK K hT qs T qk
    generalize D.lst ((rmT rows w [97, 98, 99]).map (rmD rows w)) = v6
    refine seqK fun K hK => ?_
    have ng : dNeg (.int 1) = some (.int (-1)) := rfl
    have dlp : dLen (plotD rows) = some (.int (rows.length : Nat)) := len_plot O
    simp [ng, dlp, LIM_eq]
    have ad1 : dAdd (.tup (ps.map plD)) (.tup ((ps.drop (ps.length - 1)).map plD)) = some (.tup ((ps ++ ps.drop (ps.length - 1)).map plD)) := by
      have h2 : (ps.map plD).length + ((ps.drop (ps.length - 1)).map plD).length ≤ LIM := by rw [List.length_map, List.length_map, List.length_drop, LIM_eq]; omega
      simp only [dAdd, if_pos h2, List.map_append]
    have lst1 : fOne dList [D.tup (ps.map plD)] = some (.lst (ps.map plD)) := rfl
    simp only [lst1, sl_last]
    simp only [ad1]
    refine hK _ _ ?_
    clear hK K
    have hn1 : NearV rows w (.tup (ps.map plD)) := .tup ps hp (by omega)
    have hn2 : NearV rows w (.tup (ps.map plD).reverse) := by
      rw [← List.map_reverse]
      exact .tup ps.reverse (fun q hq => hp q (List.mem_reverse.mp hq)) (by rw [List.length_reverse]; omega)
    have hn3 : NearV rows w (.lst (ps.map plD)) := .no _ rfl rfl rfl
    have hn4 : NearV rows w (.tup ((ps ++ ps.drop (ps.length - 1)).map plD)) := .tup _ (fun q hq => by
      rcases List.mem_append.mp hq with h | h
      · exact hp q h
      · exact hp q (List.mem_of_mem_drop h)) (by rw [List.length_append, List.length_drop]; omega)
    have hn13 : NearV rows w (.tup ((places rows.length w).map plD)) := .tup _ (fun q hq => mem_places.mp hq) (by omega)
    have hn11 : NearV rows w (.tup [.tup [.int (rows.length : Nat), .int 0]]) := .bad _ (by simp) (by simp) fun d hd => by
      rw [List.mem_singleton.mp hd]
      exact bad_pi O (x := ((rows.length : Nat), 0)) (by unfold inR; exact decide_eq_false (by simp only; omega))
    have hn12 : NearV rows w (.tup [.tup [.int 0, .int (-1)]]) := .bad _ (by simp) (by simp) fun d hd => by
      rw [List.mem_singleton.mp hd]
      exact bad_pi O (x := (0, -1)) (by unfold inR; exact decide_eq_false (by simp only; omega))
    have hn6 : NearV rows w (.tup []) := .tup [] (fun q h => nomatch h) (by simp)
    generalize D.tup (ps.map plD).reverse = z2 at hn2 ⊢
    generalize D.tup ((ps ++ ps.drop (ps.length - 1)).map plD) = z4 at hn4 ⊢
    generalize D.lst (ps.map plD) = z3 at hn3 ⊢
    refine seqK fun K hK => ?_
    refine S_for ?_
    have dte : fOne dTuple [D.lst ((places rows.length w).map plD)] = some (.tup ((places rows.length w).map plD)) := rfl
    simp [LIM_eq]
    simp only [dte]
    simp [dAdd, LIM_eq, itemsD]
    have hNear : ∀ d ∈ [D.tup (ps.map plD), z2, z3, z4, D.non, D.tup [], D.str "places", D.int 5, D.tup [D.int 0, D.int 0], D.tup [D.tup [D.int 0]], D.tup [D.tup [D.int (rows.length : Nat), D.int 0]], D.tup [D.tup [D.int 0, D.int (-1)]], D.tup ((places rows.length w).map plD), D.tup [D.tup [D.int 0, D.int 0, D.int 0]], D.tup [D.lst [D.int 0, D.int 0]], D.tup [D.tup [D.bl false, D.int 0]], D.tup [D.non]], NearV rows w d := by
      intro d hd
      simp only [List.mem_cons, List.not_mem_nil, or_false] at hd
      rcases hd with rfl | rfl | rfl | rfl | rfl | rfl | rfl | rfl | rfl | rfl | rfl | rfl | rfl | rfl | rfl | rfl | rfl
      · exact hn1
      · exact hn2
      · exact hn3
      · exact hn4
      · exact .no _ rfl rfl rfl
      · exact hn6
      · exact .no _ rfl rfl rfl
      · exact .no _ rfl rfl rfl
      · exact .bad _ (by simp) (by simp) fun d hd => by
          simp only [List.mem_cons, List.not_mem_nil, or_false] at hd
          rcases hd with rfl | rfl <;> exact bad_int
      · exact .bad _ (by simp) (by simp) fun d hd => by rw [List.mem_singleton.mp hd]; exact bad_one
      · exact hn11
      · exact hn12
      · exact hn13
      · exact .bad _ (by simp) (by simp) fun d hd => by rw [List.mem_singleton.mp hd]; exact bad_three
      · exact .bad _ (by simp) (by simp) fun d hd => by rw [List.mem_singleton.mp hd]; exact bad_lst
      · exact .bad _ (by simp) (by simp) fun d hd => by rw [List.mem_singleton.mp hd]; exact bad_bool O
      · exact .bad _ (by simp) (by simp) fun d hd => by rw [List.mem_singleton.mp hd]; exact bad_non
    generalize D.lst [D.tup (ps.map plD), z2, z3, z4, D.non, D.tup [], D.str "places", D.int 5, D.tup [D.int 0, D.int 0], D.tup [D.tup [D.int 0]], D.tup [D.tup [D.int (rows.length : Nat), D.int 0]], D.tup [D.tup [D.int 0, D.int (-1)]]] = v8
    generalize [D.tup (ps.map plD), z2, z3, z4, D.non, D.tup [], D.str "places", D.int 5, D.tup [D.int 0, D.int 0], D.tup [D.tup [D.int 0]], D.tup [D.tup [D.int (rows.length : Nat), D.int 0]], D.tup [D.tup [D.int 0, D.int (-1)]], D.tup ((places rows.length w).map plD), D.tup [D.tup [D.int 0, D.int 0, D.int 0]], D.tup [D.lst [D.int 0, D.int 0]], D.tup [D.tup [D.bl false, D.int 0]], D.tup [D.non]] = L at hNear ⊢
    clear hn1 hn2 hn3 hn4 hn6 hn11 hn12 hn13 lst1 ad1 dte
    clear z2 z3 z4
    have cs : ∀ b : Bool, callF (n + 7) 26 [.bl b, .bl b] m = .ok (.bl true) m := fun b => c_same 4 (n + 3) _ m rfl
    refine S_forGo (VlI rows w ps m v5 v6 c7 v8 c10 c11 c12 c13 bx rm c16 c19 c20 c21) _ 0 _ _ ⟨rfl, .no, c17, .no, rfl, o17⟩ (fun i d e m' hd hI => ?_) (fun e m' hI => ?_)
    · obtain ⟨rfl, c9, c17', c18, rfl, o17'⟩ := hI
      have hN := hNear d (List.mem_of_getElem? hd)
      have fin : ∀ c18, VlI rows w ps m' v5 v6 c7 v8 c10 c11 c12 c13 bx rm c16 c19 c20 c21 (0 + i + 1) (VlE rows w ps v5 v6 c7 v8 (.sh d) c10 c11 c12 c13 bx rm c16 c17' c18 c19 c20 c21) m' := fun c18 => ⟨rfl, .sh d, c17', c18, rfl, o17'⟩
      refine ⟨_, rfl, ?_⟩
      simp only [VlE] at fin ⊢
      cases hN with
      | no _ h1 h2 h3 =>
        have q := c_is_places_of (n := n + 2) O (c_fits_no (n := n + 2) (rows := rows) h2 h3 (mh := m'))
        refine seqK fun K hK => ?_
        simp [h2, h3]
        refine hK _ _ ?_
        clear hK K
        simp [q, cs]
        exact fin _
      | tup qs h1 h2 =>
        have t1 : dIsi "tuple" (.tup (qs.map plD)) = some (.bl true) := rfl
        have t2 : (D.tup (qs.map plD)).isDct = false := rfl
        have q := c_is_places_of (n := n + 2) O (c_fits_placesB (n := n + 2) O h1 (by omega) (mh := m'))
        refine seqK fun K hK => ?_
        simp [t1, t2]
        refine fzMap qs plD (fun _ => false) plD ?_ (by omega) (fun p hq => ⟨_, rfl, ?_, fun h => (nomatch h)⟩) ?_ (by simp [noOwn, Cel.isOwn, o17'])
        · simp [itemsD]
        · have hin : p ∈ places rows.length w := mem_places.mpr (h1 p hq)
          have t3 : dIsi "bool" (.int (p.1 : Nat)) = some (.bl false) := rfl
          simp [wipeE, hin, t3, D.isDct]
        · have e0 := dEq_nil_pl []
          simp only [List.map_nil] at e0
          have ef : qs.filter (fun _ => false) = [] := List.filter_eq_nil_iff.mpr fun _ _ h => (nomatch h)
          rw [ef]
          simp only [List.map_nil, e0]
          try simp
          refine hK _ _ ?_
          clear hK K
          have dl : fOne dList [D.tup (qs.map plD)] = some (.lst (qs.map plD)) := rfl
          have sd : seP.decs (qs.map plD) = some qs := seP.decs_map fun p hq => by
            have a1 := h1 p hq
            have a2 := O.h2
            have a3 := O.w2
            show p.1 < 64 ∧ p.2 < 64
            omega
          have sr : SetE.src (D.tup (qs.map plD)) = some (qs.map plD) := rfl
          have de := dEq_pls (a := qs) (b := seP.uniq qs)
          rw [← uniq_iff] at de
          have he : seP.enc = plD := rfl
          simp [q, dl, sr, sd, h2]
          simp only [he, de]
          simp [cs]
          exact fin _
      | bad ds h1 h2 h3 =>
        have t1 : dIsi "tuple" (.tup ds) = some (.bl true) := rfl
        have t2 : (D.tup ds).isDct = false := rfl
        have q := c_is_places_of (n := n + 2) O (bad_places (n := n + 2) (mh := m') h1 h2 h3)
        obtain ⟨bf1, bf2⟩ := bad_fine fun d hd => (h3 d hd).pl
        refine seqK fun K hK => ?_
        simp [t1, t2]
        refine fzMap ds id (fun _ => true) id ?_ (by omega) (fun d hd => ⟨_, rfl, ?_, fun _ => ?_⟩) ?_ (by simp [noOwn, Cel.isOwn, o17'])
        · simp [itemsD]
        · rcases (h3 d hd).out with h | ⟨h, h5⟩
          · simp [wipeE, h]
          · obtain ⟨b, hb⟩ := h5 m'
            have t3 : dIsi "bool" (.bl b) = some (.bl true) := rfl
            simp [wipeE, h, hb, t3, D.isDct]
        · simp [wipeE]
        · have e0 := dEq_nilP bf1 bf2
          have ef : (ds.filter fun _ => true).map id = ds := by rw [List.filter_eq_self.mpr fun _ _ => rfl, List.map_id]
          rw [ef]
          simp only [e0, decide_eq_false h1]
          try simp
          refine hK _ _ ?_
          clear hK K
          simp [q, cs]
          exact fin _
    · obtain ⟨rfl, c9, c17', c18, rfl, o17'⟩ := hI
      simp only [VlE]
      refine hK _ _ ?_
      clear hK K
      simp
      exact hm4
  clear hK
  by_cases hne : ps = []
  · subst hne
    have dn := dNe_nilT (ps := [])
    simp only [List.map_nil] at dn ⊢
    simp [dn, LIM_eq]
    refine toK _ _ ⟨rfl, .non, .int 0, .no, .no, .no, ?_, ?_, ?_, rfl⟩
    · simp [BxE]
    · exact c_box_round0 (n := n + 1) O
    · exact c_box_rim0 (n := n + 1) O
  · obtain ⟨r0, r1, c0, c1, E⟩ := ends_ex hne
    have b1 := c_box_round (n := n + 1) O hp hr (by omega) hne E (mh := m)
    have b2 := c_box_rim (n := n + 1) O hp hr (by omega) hne E (mh := m)
    obtain ⟨tr, ur, er1, er2⟩ := E.rs
    obtain ⟨tc, uc, ec1, ec2⟩ := E.cs
    have hbox : r0 ≤ r1 ∧ c0 ≤ c1 ∧ r1 < rows.length ∧ c1 < w := by
      obtain ⟨p, hq⟩ := List.exists_mem_of_ne_nil ps hne
      have a1 := E.all p hq
      obtain ⟨p2, hq2, e2⟩ := List.mem_map.mp E.rm.2
      obtain ⟨p3, hq3, e3⟩ := List.mem_map.mp E.cm.2
      have a2 := hp p2 hq2
      have a3 := hp p3 hq3
      omega
    simp [dNe_nilT, hne, LIM_eq]
    refine fzAll ps plD (fun p => .int (p.1 : Nat)) ?_ (by omega) (fun p hp => ⟨_, rfl, ?_⟩) ?_
    · simp [itemsD]
    · simp [wipeE]
    have e1 : (ps.map fun p => D.int (p.1 : Nat)) = (ps.map (·.1)).map fun (n : Nat) => D.int (n : Nat) := by rw [List.map_map]; rfl
    have e2 : (ps.map fun p => D.int (p.2 : Nat)) = (ps.map (·.2)).map fun (n : Nat) => D.int (n : Nat) := by rw [List.map_map]; rfl
    have d1 : dSorted (.lst (ps.map fun p => D.int (p.1 : Nat))) = some (nD ((ps.map (·.1)).mergeSort ordN.le)) := dSorted_natA (by rw [e1]; rfl) (by rw [List.length_map]; omega)
    have d2 : dSorted (.lst (ps.map fun p => D.int (p.2 : Nat))) = some (nD ((ps.map (·.2)).mergeSort ordN.le)) := dSorted_natA (by rw [e2]; rfl) (by rw [List.length_map]; omega)
    simp only [d1]
    try simp
    refine fzAll ps plD (fun p => .int (p.2 : Nat)) ?_ (by omega) (fun p hp => ⟨_, rfl, ?_⟩) ?_
    · simp [itemsD]
    · simp [wipeE]
    simp only [d2]
    have i1 : ∀ m, dIx m (nD ((ps.map (·.1)).mergeSort ordN.le)) (.int 0) = some (.int (r0 : Nat)) := fun m => by rw [er1]; unfold nD; exact atI_nat' (i := 0) rfl
    have i2 : ∀ m, dIx m (nD ((ps.map (·.1)).mergeSort ordN.le)) (.int (-1)) = some (.int (r1 : Nat)) := fun m => by
      rw [er2]; unfold nD; rw [List.map_append]; exact atI_last1 _ _
    have i3 : ∀ m, dIx m (nD ((ps.map (·.2)).mergeSort ordN.le)) (.int 0) = some (.int (c0 : Nat)) := fun m => by rw [ec1]; unfold nD; exact atI_nat' (i := 0) rfl
    have i4 : ∀ m, dIx m (nD ((ps.map (·.2)).mergeSort ordN.le)) (.int (-1)) = some (.int (c1 : Nat)) := fun m => by
      rw [ec2]; unfold nD; rw [List.map_append]; exact atI_last1 _ _
    generalize nD ((ps.map (·.1)).mergeSort ordN.le) = R at i1 i2
    generalize nD ((ps.map (·.2)).mergeSort ordN.le) = C at i3 i4
    clear d1 d2 e1 e2 er1 er2 ec1 ec2
    have ng : dNeg (.int 1) = some (.int (-1)) := rfl
    simp [i1, i2, i3, i4, ng, LIM_eq]
    refine S_fzA ?_
    simp
    refine olMap (places rows.length w) plD (boxB r0 r1 c0 c1) plD ?_ (by omega) (fun p hp => ⟨_, rfl, ?_, fun _ => ?_⟩) ?_
    · simp [itemsD]
    · simp [wipeE, i1, i2, i3, i4, ng]
      by_cases a1 : r0 ≤ p.1 <;> by_cases a2 : p.1 ≤ r1 <;> by_cases a3 : c0 ≤ p.2 <;> by_cases a4 : p.2 ≤ c1 <;> simp [boxB, a1, a2, a3, a4]
    · simp [wipeE]
    simp [frzE]
    have hbx : List.filter (boxB r0 r1 c0 c1) (places rows.length w) = boxP rows.length w r0 r1 c0 c1 := rfl
    rw [hbx]
    have hbl : (boxP rows.length w r0 r1 c0 c1).length ≤ 36 := by
      have := List.length_filter_le (boxB r0 r1 c0 c1) (places rows.length w)
      rw [hbx] at this
      omega
    have qb := c_law_sides (n := n + 6) (ps := boxP rows.length w r0 r1 c0 c1) (by omega) (v := .lst ((boxP rows.length w r0 r1 c0 c1).map plD)) rfl (fun x => dNotIn_pi) (mh := m)
    have lb := sidesN_len (boxP rows.length w r0 r1 c0 c1)
    rw [rim_box hbox.2.2.1 hbox.2.2.2 hbox.1 hbox.2.1] at lb
    have dlb : dLen (.lst ((sidesN (boxP rows.length w r0 r1 c0 c1)).map h3D)) = some (.int (2 * (r1 - r0 + 1 + (c1 - c0 + 1)) : Nat)) := by
      have h2 : 2 * (r1 - r0 + 1 + (c1 - c0 + 1)) ≤ LIM := by rw [LIM_eq]; omega
      simp only [dLen, List.length_map, lb, if_pos h2]
    simp only [qb, S_ok, dlb]
    simp [qb, dlb]
    refine toK _ _ ⟨rfl, .tup [plD (r0, c0), plD (r1, c1)], .int (2 * (r1 - r0 + 1 + (c1 - c0 + 1)) : Nat), .sh (.lst ((boxP rows.length w r0 r1 c0 c1).map plD)), .sh R, .sh C, ?_, b1, b2, rfl⟩
    simp [BxE, plD]
end K77

set_option Elab.async false
set_option linter.all false
set_option maxRecDepth 100000
set_option maxHeartbeats 1000000
namespace K77
open PySem L2 Mi
theorem rep_h : ∀ n : Nat, ∀ c ∈ (repStr "h" n).cps.toList, c = 104 := by
  intro n
  have gen : ∀ (n : Nat) (acc : Array Nat), (∀ c ∈ acc.toList, c = 104) → ∀ c ∈ ((List.replicate n ("h":Str).cps).foldl (· ++ ·) acc).toList, c = 104 := by
    intro n
    induction n with
    | zero => intro acc h; exact h
    | succ n ih =>
      intro acc h
      rw [List.replicate_succ, List.foldl_cons]
      refine ih _ fun c hc => ?_
      rw [Array.toList_append] at hc
      rcases List.mem_append.mp hc with hc | hc
      · exact h c hc
      · have e : ("h":Str).cps.toList = [104] := by rfl
        rw [e] at hc
        simpa using hc
  exact gen n #[] (by simp)
def hRows (h w : Nat) : List Str := List.replicate h (repStr "h" w)
theorem h_size (w : Nat) : (repStr "h" w).cps.size = w := by
  have h := repStr_length "h" w
  have l : ("h":Str).length = 1 := rfl
  rw [l, Nat.mul_one] at h
  exact h
theorem hRows_len (h w : Nat) : (hRows h w).length = h := by simp [hRows]
theorem hRows_ok {h w : Nat} (h1 : 1 ≤ h) (h2 : h ≤ 12) (w1 : 1 ≤ w) (w2 : w ≤ 12) : PlotOk (hRows h w) w := by
  refine ⟨by rw [hRows_len]; exact h1, by rw [hRows_len]; exact h2, w1, w2, fun r hr => ?_, fun r hr c hc => ?_⟩
  · rw [List.eq_of_mem_replicate hr, h_size]
  · rw [List.eq_of_mem_replicate hr] at hc
    rw [rep_h w c hc]
    exact .inr ⟨by omega, by omega⟩
theorem h_sgn {h w : Nat} {p : Nat × Nat} (h1 : p.1 < h) (h2 : p.2 < w) : sgn (hRows h w) p = 104 := by
  have hl : p.1 < (hRows h w).length := by rw [hRows_len]; exact h1
  have er : (hRows h w)[p.1] = repStr "h" w := by simp [hRows]
  have hc : p.2 < (repStr "h" w).cps.toList.length := by rw [Array.length_toList, h_size]; exact h2
  rw [sgn_of (r := repStr "h" w) (ch := (repStr "h" w).cps.toList[p.2]) (by rw [List.getElem?_eq_getElem hl, er]) (List.getElem?_eq_getElem hc)]
  exact rep_h w _ (List.getElem_mem hc)
theorem hrV_all {h w : Nat} : hrV h w (places h w) = [] := by
  unfold hrV
  rw [List.map_eq_nil_iff, List.filter_eq_nil_iff]
  intro x hx
  unfold sidesN at hx
  obtain ⟨p, hp, hx⟩ := List.mem_flatMap.mp hx
  obtain ⟨s, hs, rfl⟩ := List.mem_map.mp hx
  have := (List.mem_filter.mp hs).2
  rw [inI_places] at this
  simpa using this
theorem h_trees {h w : Nat} : treesOf (hRows h w) w = places h w := by
  unfold treesOf
  rw [hRows_len]
  refine List.filter_eq_self.mpr fun p hp => ?_
  obtain ⟨p1, p2⟩ := mem_places.mp hp
  unfold bare
  rw [h_sgn p1 p2]
  rfl
theorem h_ofK {h w : Nat} : ofK (hRows h w) (places h w) (chr1 104) = places h w := by
  unfold ofK kS
  refine List.filter_eq_self.mpr fun p hp => ?_
  obtain ⟨p1, p2⟩ := mem_places.mp hp
  rw [h_sgn p1 p2]
  exact decide_eq_true rfl
theorem rep_flat (z : Str) : ∀ h : Nat, (List.replicate h [D.str z]).flatten = (List.replicate h z).map .str
  | 0 => rfl
  | k + 1 => by rw [List.replicate_succ, List.flatten_cons, rep_flat z k, List.replicate_succ, List.map_cons]; rfl
theorem law_S {ns : List Int} (hl : ns.length ≤ 63) : (callF 12 32 [.rol (ns.map .int)] []).S fun d _ => d = .bl true := by
  rw [show callF 12 32 = runF N32.length (b32 (callF 11)) from rfl]
  refine S_runF ?_
  unfold b32
  refine seqK fun K hK => ?_
  simp [env0]
  refine cup_S (n := 10) hl fun m hm => ?_
  try simp
  refine hK _ _ ?_
  clear hK K
  refine seqK fun K hK => ?_
  refine S_for ?_
  simp [dRng1, LIM_eq, rng_map]
  refine forRange 4 (fun i e m => Cup m ∧ ∃ c2, e = [.sh (.rol (ns.map .int)), .sh (.loc 0), c2, .no, .no, .no, .no, .no]) ⟨hm, .no, rfl⟩ (fun i e m hi hI => ?_) (fun e m hI => ?_)
  · obtain ⟨hm, c2, rfl⟩ := hI
    refine ⟨_, rfl, ?_⟩
    simp
    refine (right_S (n := 3) hm).mono fun d m ⟨hm, e⟩ => ?_
    rw [e]
    simp
    exact hm
  obtain ⟨hm, c2, rfl⟩ := hI
  refine hK _ _ ?_
  clear hK K
  refine seqK fun K hK => ?_
  simp
  refine roll_S (n := 10) (by decide) (by decide) hm fun v m hm v0 v1 => ?_
  try simp
  refine roll_S (n := 10) (by decide) (by decide) hm fun u m hm u0 u1 => ?_
  simp [LIM_eq]
  refine hK _ _ ?_
  clear hK K
  obtain ⟨h, eh, h1, h2⟩ : ∃ h : Nat, 1 + v = (h : Int) ∧ 1 ≤ h ∧ h ≤ 12 := ⟨(1 + v).toNat, by omega, by omega, by omega⟩
  obtain ⟨w, ew, w1, w2⟩ : ∃ w : Nat, 1 + u = (w : Int) ∧ 1 ≤ w ∧ w ≤ 12 := ⟨(1 + u).toNat, by omega, by omega, by omega⟩
  rw [eh, ew]
  clear eh ew v0 v1 u0 u1
  clear v u
  have O := hRows_ok h1 h2 w1 w2
  have hb : h * w ≤ 144 := Nat.mul_le_mul h2 w2
  have l1 : ("h":Str).length = 1 := rfl
  have m1 : dMul (.str "h") (.int (w : Nat)) = some (.str (repStr "h" w)) := by
    simp only [dMul, l1, LIM_eq]
    rw [if_pos (by simp; omega)]
    try rfl
  have m2 : dMul (.tup [.str (repStr "h" w)]) (.int (h : Nat)) = some (plotD (hRows h w)) := by
    simp only [dMul, Int.toNat_natCast, rep_flat]
    rw [if_pos (by simp; omega)]
    rfl
  refine seqK fun K hK => ?_
  simp [m1, LIM_eq]
  simp only [m2]
  try simp
  refine hK _ _ ?_
  clear hK K m1 m2
  have lp := len_places h w
  have hp : ∀ p ∈ places h w, p.1 < (hRows h w).length ∧ p.2 < w := fun p hq => by rw [hRows_len]; exact mem_places.mp hq
  have hr := places_rise h w
  have hne : places h w ≠ [] := fun e => by
    rw [e, List.length_nil] at lp
    have := Nat.mul_le_mul h1 w1
    omega
  have q6 := c_law_places (n := 10) O (mh := m)
  rw [hRows_len] at q6
  have q1 := c_rim_of (n := 5) O hp hr (by omega) (mh := m)
  rw [rim_all h1 w1] at q1
  have q2 := c_hedges_round (n := 5) O hp hr (by omega) (mh := m)
  rw [hRows_len, hrV_all, show srt3 [] = [] from by unfold srt3; simp] at q2
  obtain ⟨r0, r1, c0, c1, E⟩ := ends_ex hne
  have hE : r0 = 0 ∧ r1 + 1 = h ∧ c0 = 0 ∧ c1 + 1 = w := by
    have a1 := E.all (0, 0) (mem_places.mpr ⟨by simp only; omega, by simp only; omega⟩)
    have a2 := E.all (h - 1, w - 1) (mem_places.mpr ⟨by simp only; omega, by simp only; omega⟩)
    obtain ⟨p2, hq2, e2⟩ := List.mem_map.mp E.rm.2
    obtain ⟨p3, hq3, e3⟩ := List.mem_map.mp E.cm.2
    have a3 := mem_places.mp hq2
    have a4 := mem_places.mp hq3
    simp only at a1 a2
    omega
  have q3 := c_box_rim (n := 5) O hp hr (by omega) hne E (mh := m)
  rw [show 2 * (r1 - r0 + 1 + (c1 - c0 + 1)) = 2 * (h + w) by omega] at q3
  obtain ⟨S, s1, s2, s3, q4⟩ := c_kind_rims (n := 7) O (mh := m)
  rw [h_trees] at s2 q4
  have hS : S = [chr1 104] := by
    have nd : S.Nodup := s1.imp fun {a b} hab e => by subst e; rw [ordS.irrefl] at hab; cases hab
    refine (ordS.sorted_of nd s1 fun _ => Iff.rfl).symm.trans (ordS.sorted_of nd (List.pairwise_singleton _ _) fun k => ?_)
    rw [s2, List.mem_singleton]
    constructor
    · rintro ⟨p, hq, e⟩
      obtain ⟨p1, p2⟩ := mem_places.mp hq
      rw [← e]
      unfold kS
      rw [h_sgn p1 p2]
    · rintro rfl
      refine ⟨(0, 0), mem_places.mpr ⟨by simp only; omega, by simp only; omega⟩, ?_⟩
      unfold kS
      rw [h_sgn (by simp only; omega) (by simp only; omega)]
  rw [hS, List.map_singleton, h_ofK, rim_all h1 w1] at q4
  have eR : ((2 * (h + w) : Nat) : Int) = 2 * ((h : Int) + w) := by omega
  rw [eR] at q1 q3 q4
  have hsm : sm 4 (.tup [.int (2 * ((h : Int) + w)), .tup [], .int (2 * ((h : Int) + w)), .tup [.tup [.str (chr1 104), .int (2 * ((h : Int) + w))]]]) = true := rfl
  have qs := c_same 4 7 _ m hsm
  clear hsm hS s1 s2 s3 E hE eR
  have sml : small64i 2 = true := by decide
  have mm : dMul (.int 2) (.int ((h : Int) + w)) = some (.int (2 * ((h : Int) + w))) := by simp [dMul, sml]
  have hh : D.str "h" = D.str (chr1 104) := rfl
  generalize (places h w).map plD = A at q1 q2 q3 q6
  refine seqK fun K hK => ?_
  simp [q6, dTuple]
  refine hK _ _ ?_
  clear hK K
  refine seqK fun K hK => ?_
  simp [q1, q2, q3, q4, LIM_eq]
  generalize hT : D.tup [.int (2 * ((h : Int) + w)), .tup [], .int (2 * ((h : Int) + w)), .tup [.tup [.str (chr1 104), .int (2 * ((h : Int) + w))]]] = T at qs ⊢
  refine hK _ _ ?_
  clear hK K
  simp [mm, LIM_eq, hh]
  rw [hT, qs]
  rfl
theorem hlaw (ns : List Int) (hl : ns.length ≤ 63) : ∃ mh, callF 12 32 [.rol (ns.map .int)] [] = .ok (.bl true) mh := by
  have h := law_S hl
  cases hq : callF 12 32 [.rol (ns.map .int)] [] with
  | ok d m => rw [hq] at h; exact ⟨m, by rw [show d = .bl true from h]⟩
  | _ => rw [hq] at h; exact h.elim
end K77

set_option Elab.async false
set_option linter.all false
set_option maxRecDepth 100000
set_option maxHeartbeats 0
namespace K77
open PySem PySem.Spec PyProof.Rows L2 Mi
def nm : Nat → Str
  | 0 => "is_whole"
  | 1 => "fits_whole"
  | 2 => "is_tuple_of"
  | 3 => "is_rising"
  | 4 => "fits_row"
  | 5 => "fits_plot"
  | 6 => "need_plot"
  | 7 => "fits_place"
  | 8 => "places_in"
  | 9 => "trees_in"
  | 10 => "fits_places"
  | 11 => "need_places"
  | 12 => "over_in"
  | 13 => "hedge_in"
  | 14 => "sides_in"
  | 15 => "box_in"
  | 16 => "is_places"
  | 17 => "rim_of"
  | 18 => "rim_sides"
  | 19 => "hedges_round"
  | 20 => "box_round"
  | 21 => "box_rim"
  | 22 => "kind_rims"
  | 23 => "_law_cup"
  | 24 => "_law_roll"
  | 25 => "_law_some"
  | 26 => "_law_same"
  | 27 => "_law_plot"
  | 28 => "_law_places"
  | 29 => "_law_few"
  | 30 => "_law_sides"
  | 31 => "_law_right"
  | 32 => "law"
  | _ => "law"
def dD (x : Str) (st : Stmt) : He.DefD := ⟨(x, none), x, x, defArgs st, defBody st, defScope st, [], []⟩
def fnL : List He.DefD := [dD "is_whole" s0, dD "fits_whole" s1, dD "is_tuple_of" s2, dD "is_rising" s3, dD "fits_row" s4, dD "fits_plot" s5, dD "need_plot" s6, dD "fits_place" s7, dD "places_in" s8, dD "trees_in" s9, dD "fits_places" s10, dD "need_places" s11, dD "over_in" s12, dD "hedge_in" s13, dD "sides_in" s14, dD "box_in" s15, dD "is_places" s16, dD "rim_of" s17, dD "rim_sides" s18, dD "hedges_round" s19, dD "box_round" s20, dD "box_rim" s21, dD "kind_rims" s22, dD "_law_cup" s23, dD "_law_roll" s24, dD "_law_some" s25, dD "_law_same" s26, dD "_law_plot" s27, dD "_law_places" s28, dD "_law_few" s29] ++ [dD "_law_sides" s30, dD "_law_right" s31, dD "law" s32]
def faL : List He.Fa := [.glo "is_whole", .glo "fits_whole", .glo "is_tuple_of", .glo "is_rising", .glo "fits_row", .glo "fits_plot", .glo "need_plot", .glo "fits_place", .glo "places_in", .glo "trees_in", .glo "fits_places", .glo "need_places", .glo "over_in", .glo "hedge_in", .glo "sides_in", .glo "box_in", .glo "is_places", .glo "rim_of", .glo "rim_sides", .glo "hedges_round", .glo "box_round", .glo "box_rim", .glo "kind_rims", .glo "_law_cup", .glo "_law_roll", .glo "_law_some", .glo "_law_same", .glo "_law_plot", .glo "_law_places", .glo "_law_few"] ++ [.glo "_law_sides", .glo "_law_right", .glo "law", .free "abs", .free "all", .free "bool", .free "int", .free "isinstance", .free "len", .free "list", .free "max", .free "min", .free "range", .free "set", .free "sorted", .free "str", .free "tuple", .free "zip"]
def tsL : List He.Tab := []
def exL (K : PySem.W.Frag) : Bool := [conB "BARE" g_BARE K, conB "KINDS" g_KINDS K, conB "SIDE" g_SIDE K, conB "STEPS" g_STEPS K].all id
abbrev R : PySem.W.OpenRow := PySem.W.OpenLaw.row PySem.Challenge.rw_orchardrows_k77_whole_rims_round_places
abbrev hk : PySem.W.Hook := He.hookX 5 faL fnL tsL [] exL
def ob (s : PySem.W.SharedT) : He.AlX := He.obsX 5 faL fnL tsL [] exL (HandSHeadRun.getT s)
theorem ob_eq (s : PySem.W.SharedT) : ob s = hk.obs s.abs := He.obsX_eq (HandSHeadRun.getT_eq s)
def loose : List Str := (["OrchardError", "InvalidPlot", "InvalidPlace", "BARE", "KINDS", "SIDE", "STEPS", "is_whole", "fits_whole", "is_tuple_of", "is_rising", "fits_row", "fits_plot", "need_plot", "fits_place", "places_in", "trees_in", "fits_places", "need_places", "over_in", "hedge_in", "sides_in", "box_in", "is_places", "rim_of", "rim_sides", "hedges_round", "box_round", "box_rim", "kind_rims"] : List Str) ++ (["_law_cup", "_law_roll", "_law_some", "_law_same", "_law_plot", "_law_places", "_law_few", "_law_sides", "_law_right"] : List Str)
theorem run (w : World) : HandSHeadRun.RunEq R (PySem.W.view R.prog [43]) hk ob 6000 loose w := by
  intro os
  kernel_rfl
theorem tx_of {w : World} {K : PySem.W.Frag} {h : Heap} {mg : Str → Option Value} (X : K.In h) (G : h.Ns mainGlobals mg) (c : He.SaysX faL fnL tsL [] exL w h K) : ∃ fd : Nat → FuncData, Tx K w mg (fun i => He.ga K (nm i)) fd ∧ ∀ (s : Shared) (v : Value), BindsTo s (fd 32) ⟨[v], []⟩ [("script", v)] := by
  have cd := c.t.d
  obtain ⟨fd0, F0⟩ := cd.def_ 0 (d := dD "is_whole" s0) rfl
  obtain ⟨fd1, F1⟩ := cd.def_ 1 (d := dD "fits_whole" s1) rfl
  obtain ⟨fd2, F2⟩ := cd.def_ 2 (d := dD "is_tuple_of" s2) rfl
  obtain ⟨fd3, F3⟩ := cd.def_ 3 (d := dD "is_rising" s3) rfl
  obtain ⟨fd4, F4⟩ := cd.def_ 4 (d := dD "fits_row" s4) rfl
  obtain ⟨fd5, F5⟩ := cd.def_ 5 (d := dD "fits_plot" s5) rfl
  obtain ⟨fd6, F6⟩ := cd.def_ 6 (d := dD "need_plot" s6) rfl
  obtain ⟨fd7, F7⟩ := cd.def_ 7 (d := dD "fits_place" s7) rfl
  obtain ⟨fd8, F8⟩ := cd.def_ 8 (d := dD "places_in" s8) rfl
  obtain ⟨fd9, F9⟩ := cd.def_ 9 (d := dD "trees_in" s9) rfl
  obtain ⟨fd10, F10⟩ := cd.def_ 10 (d := dD "fits_places" s10) rfl
  obtain ⟨fd11, F11⟩ := cd.def_ 11 (d := dD "need_places" s11) rfl
  obtain ⟨fd12, F12⟩ := cd.def_ 12 (d := dD "over_in" s12) rfl
  obtain ⟨fd13, F13⟩ := cd.def_ 13 (d := dD "hedge_in" s13) rfl
  obtain ⟨fd14, F14⟩ := cd.def_ 14 (d := dD "sides_in" s14) rfl
  obtain ⟨fd15, F15⟩ := cd.def_ 15 (d := dD "box_in" s15) rfl
  obtain ⟨fd16, F16⟩ := cd.def_ 16 (d := dD "is_places" s16) rfl
  obtain ⟨fd17, F17⟩ := cd.def_ 17 (d := dD "rim_of" s17) rfl
  obtain ⟨fd18, F18⟩ := cd.def_ 18 (d := dD "rim_sides" s18) rfl
  obtain ⟨fd19, F19⟩ := cd.def_ 19 (d := dD "hedges_round" s19) rfl
  obtain ⟨fd20, F20⟩ := cd.def_ 20 (d := dD "box_round" s20) rfl
  obtain ⟨fd21, F21⟩ := cd.def_ 21 (d := dD "box_rim" s21) rfl
  obtain ⟨fd22, F22⟩ := cd.def_ 22 (d := dD "kind_rims" s22) rfl
  obtain ⟨fd23, F23⟩ := cd.def_ 23 (d := dD "_law_cup" s23) rfl
  obtain ⟨fd24, F24⟩ := cd.def_ 24 (d := dD "_law_roll" s24) rfl
  obtain ⟨fd25, F25⟩ := cd.def_ 25 (d := dD "_law_some" s25) rfl
  obtain ⟨fd26, F26⟩ := cd.def_ 26 (d := dD "_law_same" s26) rfl
  obtain ⟨fd27, F27⟩ := cd.def_ 27 (d := dD "_law_plot" s27) rfl
  obtain ⟨fd28, F28⟩ := cd.def_ 28 (d := dD "_law_places" s28) rfl
  obtain ⟨fd29, F29⟩ := cd.def_ 29 (d := dD "_law_few" s29) rfl
  obtain ⟨fd30, F30⟩ := cd.def_ 30 (d := dD "_law_sides" s30) rfl
  obtain ⟨fd31, F31⟩ := cd.def_ 31 (d := dD "_law_right" s31) rfl
  obtain ⟨fd32, F32⟩ := cd.def_ 32 (d := dD "law" s32) rfl
  have D0 : DefOk K mg "is_whole" s0 P0 (He.ga K "is_whole") fd0 := defOk_of X G (cd.fact 0 (f := .glo "is_whole") rfl) F0 (fun _ _ _ _ _ _ us hl => match us, hl with | [_], _ => rfl)
  have D1 : DefOk K mg "fits_whole" s1 P1 (He.ga K "fits_whole") fd1 := defOk_of X G (cd.fact 1 (f := .glo "fits_whole") rfl) F1 (fun _ _ _ _ _ _ us hl => match us, hl with | [_, _, _], _ => rfl)
  have D2 : DefOk K mg "is_tuple_of" s2 P2 (He.ga K "is_tuple_of") fd2 := defOk_of X G (cd.fact 2 (f := .glo "is_tuple_of") rfl) F2 (fun _ _ _ _ _ _ us hl => match us, hl with | [_, _, _], _ => rfl)
  have D3 : DefOk K mg "is_rising" s3 P3 (He.ga K "is_rising") fd3 := defOk_of X G (cd.fact 3 (f := .glo "is_rising") rfl) F3 (fun _ _ _ _ _ _ us hl => match us, hl with | [_], _ => rfl)
  have D4 : DefOk K mg "fits_row" s4 P4 (He.ga K "fits_row") fd4 := defOk_of X G (cd.fact 4 (f := .glo "fits_row") rfl) F4 (fun _ _ _ _ _ _ us hl => match us, hl with | [_], _ => rfl)
  have D5 : DefOk K mg "fits_plot" s5 P5 (He.ga K "fits_plot") fd5 := defOk_of X G (cd.fact 5 (f := .glo "fits_plot") rfl) F5 (fun _ _ _ _ _ _ us hl => match us, hl with | [_], _ => rfl)
  have D6 : DefOk K mg "need_plot" s6 P6 (He.ga K "need_plot") fd6 := defOk_of X G (cd.fact 6 (f := .glo "need_plot") rfl) F6 (fun _ _ _ _ _ _ us hl => match us, hl with | [_], _ => rfl)
  have D7 : DefOk K mg "fits_place" s7 P7 (He.ga K "fits_place") fd7 := defOk_of X G (cd.fact 7 (f := .glo "fits_place") rfl) F7 (fun _ _ _ _ _ _ us hl => match us, hl with | [_, _], _ => rfl)
  have D8 : DefOk K mg "places_in" s8 P8 (He.ga K "places_in") fd8 := defOk_of X G (cd.fact 8 (f := .glo "places_in") rfl) F8 (fun _ _ _ _ _ _ us hl => match us, hl with | [_], _ => rfl)
  have D9 : DefOk K mg "trees_in" s9 P9 (He.ga K "trees_in") fd9 := defOk_of X G (cd.fact 9 (f := .glo "trees_in") rfl) F9 (fun _ _ _ _ _ _ us hl => match us, hl with | [_], _ => rfl)
  have D10 : DefOk K mg "fits_places" s10 P10 (He.ga K "fits_places") fd10 := defOk_of X G (cd.fact 10 (f := .glo "fits_places") rfl) F10 (fun _ _ _ _ _ _ us hl => match us, hl with | [_, _], _ => rfl)
  have D11 : DefOk K mg "need_places" s11 P11 (He.ga K "need_places") fd11 := defOk_of X G (cd.fact 11 (f := .glo "need_places") rfl) F11 (fun _ _ _ _ _ _ us hl => match us, hl with | [_, _], _ => rfl)
  have D12 : DefOk K mg "over_in" s12 P12 (He.ga K "over_in") fd12 := defOk_of X G (cd.fact 12 (f := .glo "over_in") rfl) F12 (fun _ _ _ _ _ _ us hl => match us, hl with | [_, _], _ => rfl)
  have D13 : DefOk K mg "hedge_in" s13 P13 (He.ga K "hedge_in") fd13 := defOk_of X G (cd.fact 13 (f := .glo "hedge_in") rfl) F13 (fun _ _ _ _ _ _ us hl => match us, hl with | [_, _], _ => rfl)
  have D14 : DefOk K mg "sides_in" s14 P14 (He.ga K "sides_in") fd14 := defOk_of X G (cd.fact 14 (f := .glo "sides_in") rfl) F14 (fun _ _ _ _ _ _ us hl => match us, hl with | [_], _ => rfl)
  have D15 : DefOk K mg "box_in" s15 P15 (He.ga K "box_in") fd15 := defOk_of X G (cd.fact 15 (f := .glo "box_in") rfl) F15 (fun _ _ _ _ _ _ us hl => match us, hl with | [_], _ => rfl)
  have D16 : DefOk K mg "is_places" s16 P16 (He.ga K "is_places") fd16 := defOk_of X G (cd.fact 16 (f := .glo "is_places") rfl) F16 (fun _ _ _ _ _ _ us hl => match us, hl with | [_, _], _ => rfl)
  have D17 : DefOk K mg "rim_of" s17 P17 (He.ga K "rim_of") fd17 := defOk_of X G (cd.fact 17 (f := .glo "rim_of") rfl) F17 (fun _ _ _ _ _ _ us hl => match us, hl with | [_, _], _ => rfl)
  have D18 : DefOk K mg "rim_sides" s18 P18 (He.ga K "rim_sides") fd18 := defOk_of X G (cd.fact 18 (f := .glo "rim_sides") rfl) F18 (fun _ _ _ _ _ _ us hl => match us, hl with | [_, _], _ => rfl)
  have D19 : DefOk K mg "hedges_round" s19 P19 (He.ga K "hedges_round") fd19 := defOk_of X G (cd.fact 19 (f := .glo "hedges_round") rfl) F19 (fun _ _ _ _ _ _ us hl => match us, hl with | [_, _], _ => rfl)
  have D20 : DefOk K mg "box_round" s20 P20 (He.ga K "box_round") fd20 := defOk_of X G (cd.fact 20 (f := .glo "box_round") rfl) F20 (fun _ _ _ _ _ _ us hl => match us, hl with | [_, _], _ => rfl)
  have D21 : DefOk K mg "box_rim" s21 P21 (He.ga K "box_rim") fd21 := defOk_of X G (cd.fact 21 (f := .glo "box_rim") rfl) F21 (fun _ _ _ _ _ _ us hl => match us, hl with | [_, _], _ => rfl)
  have D22 : DefOk K mg "kind_rims" s22 P22 (He.ga K "kind_rims") fd22 := defOk_of X G (cd.fact 22 (f := .glo "kind_rims") rfl) F22 (fun _ _ _ _ _ _ us hl => match us, hl with | [_], _ => rfl)
  have D23 : DefOk K mg "_law_cup" s23 P23 (He.ga K "_law_cup") fd23 := defOk_of X G (cd.fact 23 (f := .glo "_law_cup") rfl) F23 (fun _ _ _ _ _ _ us hl => match us, hl with | [_], _ => rfl)
  have D24 : DefOk K mg "_law_roll" s24 P24 (He.ga K "_law_roll") fd24 := defOk_of X G (cd.fact 24 (f := .glo "_law_roll") rfl) F24 (fun _ _ _ _ _ _ us hl => match us, hl with | [_, _], _ => rfl)
  have D25 : DefOk K mg "_law_some" s25 P25 (He.ga K "_law_some") fd25 := defOk_of X G (cd.fact 25 (f := .glo "_law_some") rfl) F25 (fun _ _ _ _ _ _ us hl => match us, hl with | [_, _], _ => rfl)
  have D26 : DefOk K mg "_law_same" s26 P26 (He.ga K "_law_same") fd26 := defOk_of X G (cd.fact 26 (f := .glo "_law_same") rfl) F26 (fun _ _ _ _ _ _ us hl => match us, hl with | [_, _], _ => rfl)
  have D27 : DefOk K mg "_law_plot" s27 P27 (He.ga K "_law_plot") fd27 := defOk_of X G (cd.fact 27 (f := .glo "_law_plot") rfl) F27 (fun _ _ _ _ _ _ us hl => match us, hl with | [_, _, _], _ => rfl)
  have D28 : DefOk K mg "_law_places" s28 P28 (He.ga K "_law_places") fd28 := defOk_of X G (cd.fact 28 (f := .glo "_law_places") rfl) F28 (fun _ _ _ _ _ _ us hl => match us, hl with | [_], _ => rfl)
  have D29 : DefOk K mg "_law_few" s29 P29 (He.ga K "_law_few") fd29 := defOk_of X G (cd.fact 29 (f := .glo "_law_few") rfl) F29 (fun _ _ _ _ _ _ us hl => match us, hl with | [_, _, _], _ => rfl)
  have D30 : DefOk K mg "_law_sides" s30 P30 (He.ga K "_law_sides") fd30 := defOk_of X G (cd.fact 30 (f := .glo "_law_sides") rfl) F30 (fun _ _ _ _ _ _ us hl => match us, hl with | [_], _ => rfl)
  have D31 : DefOk K mg "_law_right" s31 P31 (He.ga K "_law_right") fd31 := defOk_of X G (cd.fact 31 (f := .glo "_law_right") rfl) F31 (fun _ _ _ _ _ _ us hl => match us, hl with | [_], _ => rfl)
  have D32 : DefOk K mg "law" s32 P32 (He.ga K "law") fd32 := defOk_of X G (cd.fact 32 (f := .glo "law") rfl) F32 (fun _ _ _ _ _ _ us hl => match us, hl with | [_], _ => rfl)
  have cx := List.all_eq_true.mp c.more
  refine ⟨fun i => match i with | 0 => fd0 | 1 => fd1 | 2 => fd2 | 3 => fd3 | 4 => fd4 | 5 => fd5 | 6 => fd6 | 7 => fd7 | 8 => fd8 | 9 => fd9 | 10 => fd10 | 11 => fd11 | 12 => fd12 | 13 => fd13 | 14 => fd14 | 15 => fd15 | 16 => fd16 | 17 => fd17 | 18 => fd18 | 19 => fd19 | 20 => fd20 | 21 => fd21 | 22 => fd22 | 23 => fd23 | 24 => fd24 | 25 => fd25 | 26 => fd26 | 27 => fd27 | 28 => fd28 | 29 => fd29 | 30 => fd30 | 31 => fd31 | 32 => fd32 | _ => fd0, ⟨D0, D1, D2, D3, D4, D5, D6, D7, D8, D9, D10, D11, D12, D13, D14, D15, D16, D17, D18, D19, D20, D21, D22, D23, D24, D25, D26, D27, D28, D29, D30, D31, D32, He.free_ok X G (cd.fact 33 (f := .free "abs") rfl), He.free_ok X G (cd.fact 34 (f := .free "all") rfl), He.free_ok X G (cd.fact 35 (f := .free "bool") rfl), He.free_ok X G (cd.fact 36 (f := .free "int") rfl), He.free_ok X G (cd.fact 37 (f := .free "isinstance") rfl), He.free_ok X G (cd.fact 38 (f := .free "len") rfl), He.free_ok X G (cd.fact 39 (f := .free "list") rfl), He.free_ok X G (cd.fact 40 (f := .free "max") rfl), He.free_ok X G (cd.fact 41 (f := .free "min") rfl), He.free_ok X G (cd.fact 42 (f := .free "range") rfl), He.free_ok X G (cd.fact 43 (f := .free "set") rfl), He.free_ok X G (cd.fact 44 (f := .free "sorted") rfl), He.free_ok X G (cd.fact 45 (f := .free "str") rfl), He.free_ok X G (cd.fact 46 (f := .free "tuple") rfl), He.free_ok X G (cd.fact 47 (f := .free "zip") rfl), gok_of X G (cx _ (List.mem_of_getElem? (i := 0) rfl)), gok_of X G (cx _ (List.mem_of_getElem? (i := 1) rfl)), gok_of X G (cx _ (List.mem_of_getElem? (i := 2) rfl)), gok_of X G (cx _ (List.mem_of_getElem? (i := 3) rfl))⟩, ?_⟩
  intro s v
  have b := FunD.bindsA (ps := ["script"]) F32 (fun _ _ _ _ _ _ us hl => match us, hl with | [_], _ => rfl)
  exact b s [v] rfl
end K77
open PySem PySem.W PySem.Calls PyProof.Rows Mi in
theorem K77.holds_of (hlaw : ∀ ns : List Int, ns.length ≤ 63 → ∃ mh, K77.callF 12 32 [.rol (ns.map D.int)] [] = .ok (.bl true) mh) : PySem.Challenge.rw_orchardrows_k77_whole_rims_round_places.Holds := by
  w_on; o_law
  refine HandSHeadRun.head_any (r := OpenLaw.row PySem.Challenge.rw_orchardrows_k77_whole_rims_round_places) (q := view (OpenLaw.row PySem.Challenge.rw_orchardrows_k77_whole_rims_round_places).prog [43]) (H := K77.hk) (ob := K77.ob) (M := 6000) (loose := K77.loose) (d := HandSHeadRun.topDef (OpenLaw.row PySem.Challenge.rw_orchardrows_k77_whole_rims_round_places).prog 43) (kwd := []) K77.ob_eq
    (by kernel_rfl) (fun s => by kernel_rfl) K77.run (by kernel_rfl) (by kernel_rfl) (by kernel_rfl) (by rfl) (by first | assumption | decide +kernel) (by decide +kernel) ⟨rfl, rfl, rfl, rfl, rfl, by decide +kernel⟩ ?hw ?hc
  case hw => w_witness2
  case hc =>
    refine Mi.walk_ofW (l := PySem.Challenge.rw_orchardrows_k77_whole_rims_round_places) (n := 63) (k := 12) (x := "script") (CX := fun w => L2.CX (PySem.Challenge.rw_orchardrows_k77_whole_rims_round_places).prog w) rfl (by decide) (by kernel_rfl) ⟨rfl, by decide, by decide⟩ ?F ?G
    case F =>
      intro w mg fa h Y G hmg0
      obtain ⟨K, KX, c⟩ := Y
      have hmg : mg ("law" : PySem.Str) = some (.ref fa) := by
        have e : (HandSHeadRun.topDef (OpenLaw.row PySem.Challenge.rw_orchardrows_k77_whole_rims_round_places).prog 43).name = ("law" : PySem.Str) := by kernel_rfl
        rw [← e]
        exact hmg0
      obtain ⟨fd, T, hb⟩ := K77.tx_of KX G c
      have e := hmg.symm.trans T.d32.gl
      cases e
      refine ⟨K, fd 32, spD (K77.cn K (fun i => He.ga K (K77.nm i))) 1 (K77.callF 12 32), KX, hb, fun H a ns hl _ hS => ?_, fun base _ _ => (K77.all_ok T 12).g32⟩
      obtain ⟨mh, hm⟩ := hlaw ns hl
      exact sp_start hS hm
    case G => exact fun w H s e s' h => by obtain ⟨_, _, _, _, _, _, _, _, _, _, _, _, h⟩ := h; exact h

set_option maxHeartbeats 0 in
theorem PySem.Challenge.cw_orchardrows_k77_whole_rims_round_places_holds : PySem.Challenge.rw_orchardrows_k77_whole_rims_round_places.Holds := by
  exact K77.holds_of K77.hlaw
